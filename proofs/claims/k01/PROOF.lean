import PyProof.Rows.All
import Wide.All
import OpenK.AllK
import Wide.FinOn
import HandS.ForMost
import HandS.Star
import HandS.Walk
import KE.GoesMore
import KE.KUnpack
import HandS.More
import HandS.Property
import HandS.ClsMeth
import PyProof.FString2
import HandS.FStr
import HandS.Exc
import HandS.ExcOwn
import HandS.ExcInit
import HandS.ExcIs
import HandS.ExcField
import HandS.Small
import HandS.Lambda
import HandS.EndTab
import KE.KDflt
import HandS.IsInst
import HandS.Wide
import HandS.TupAny
import HandS.Codes
import HandS.SetFor
import PyProof.SeqRoads2
import PyProof.Rows.CountFlat
import HandS.Deep
import KE.KExcInit
import HandS.SlotsOwn
import HandS.Spec
import HandS.DictComp
import KE.KEqDict
import PySem.Challenge.RW_mailforwards_k01_books
import HandS.Set
import HandS.SetBool
import HandS.Strs
import HandS.Zip
import PyProof.ListNew
import PyProof.Rows.SetFrom
import PyProof.Rows.SortStr
import PyProof.Rows.StrMeet
import KE.KEqSeq
import HandS.Comp
import HandS.Style
import HandS.Conv
import HandS.ListItems
import KE.KNestM
import KE.KLam
set_option Elab.async false
set_option linter.all false
set_option maxRecDepth 100000
set_option maxHeartbeats 1000000
namespace MF
open PySem PySem.Spec PyProof.Rows L2

def gFld (K : PySem.W.Frag) (to : TE) (f : Str) : TG := fun v σ H Q => to σ H fun x H1 => ∃ a C dx fs, x = .ref a ∧ H1 a = some (.ins C dx fs) ∧ Cls K C ∧ NoAttr K C f ∧ fs.length < 1000 ∧ Q σ (upd H1 a (.ins C dx (putF f v fs)))
theorem pg_fld {X : Cx} {o : Expr} {f : Str} {pos : Pos} {to : TE} (ho : PE X o to) : PG X (.Attribute o f pos) (gFld X.K to f) := by
  refine ⟨fun pins s σ H v u Q I r h => ?_⟩
  show wpAny _ _ (do
    let ov ← holding [u] (eval o X.env)
    standAt pos.atName
    holding [u, ov] (setAttr ov f u)
    release [u, ov] []) _ _ _
  refine wpAny_bind (wpAny_holding (thn (ho.run pins s σ H _ I h) fun ov s1 ⟨x, H1, I1, r1, a, C, dx, fs, ex, ea, c, n, l, q⟩ => ?_))
  subst ex
  obtain rfl : ov = Value.ref a := r1
  refine wpAny_bind (wpAny_standAt (wpAny_bind (wpAny_holding (setattr_ok I1 ea c n l r fun s2 I2 => ?_))))
  exact wpAny_release ⟨σ, _, I2, q⟩

theorem notNI {Q : Value → Shared → Prop} {v : V} {u : Value} {s' : Shared} (r : RelV v u) (h : Q u s') : PySem.W.CmpBack Q u s' := by
  cases v with
  | non => cases (show u = Value.none from r); exact h
  | bl b => cases (show u = Value.bool b from r); exact h
  | int i => obtain ⟨t, rfl⟩ := (show ∃ t, u = Value.int i t from r); exact h
  | str x => obtain ⟨t, rfl⟩ := (show ∃ t, u = Value.str x t from r); exact h
  | byt b => obtain ⟨t, rfl⟩ := (show ∃ t, u = Value.bytes b t from r); exact h
  | flt b => obtain ⟨t, rfl⟩ := (show ∃ t, u = Value.float b t from r); exact h
  | ref a => cases (show u = Value.ref a from r); exact h
  | ty n => cases (show u = Value.type n from r); exact h
theorem op_own {X : Cx} {op : Operator} {C f : Addr} {fd : FuncData} {ps : List Str} {CX : CXT} {k : Nat} {sp : Sp} {E : XK} (hc : PySem.W.selfFirst X.K C = true) (hs : PySem.W.findIn X.K (.ref C) (PySem.dunder op.info.2) = some (some (.ref f))) (hf : PySem.W.isFn X.K (.ref f) = true)
    (F : FnOk X.prog X.w X.K X.mg X.base CX k f fd ps sp) (hr : Room k X.A) (hb : Binds X.K fd ps []) (hx : Passes CX X E) :
    OpR X (binaryOp op) (fun x y H Q => ∃ a b dx dy fs gs, x = .ref a ∧ y = .ref b ∧ H a = some (.ins C dx fs) ∧ H b = some (.ins C dy gs) ∧ sp [.ref a, .ref b] H Q E) := by
  rintro pins s σ H x y u v Q I rx ry ⟨a, b, dx, dy, fs, gs, rfl, rfl, ea, eb, h⟩
  obtain rfl : u = Value.ref a := rx
  obtain rfl : v = Value.ref b := ry
  obtain ⟨mA, O, _⟩ := ins_get I.hok ea
  obtain ⟨mB, O', _⟩ := ins_get I.hok eb
  obtain ⟨od, ia, _⟩ := O.look
  obtain ⟨od', ib, _⟩ := O'.look
  obtain ⟨m, fr⟩ := I.fr
  refine PySem.W.binop_K fr I.mod.kin ia ib.type hc hs hf ?_
  refine thn (run_fn (us := [.ref a, .ref b]) (vs := [.ref a, .ref b]) F hr hb (dvs := []) .nil hx I (.cons rfl (.cons rfl .nil)) (by simpa using h)) fun r s' hq => ?_
  obtain ⟨z, H', I', rz, q⟩ := hq
  exact notNI rz ⟨z, H', I', rz, q⟩

theorem meets_enum_newT (t : Addr) (items : Array Value) :
    Meets (Builtin.«enumerate.__new__» ⟨[.type "enumerate", .ref t], []⟩) (fun _ R s => s.heap.IsTuple t items ∧
      R (.ok (.ret (.ref (s.heap.push { cls := .type "tuple_iterator", data := .fields #[.ref t, .int 0 0] }).objs.size))) { s with heap := (s.heap.push { cls := .type "tuple_iterator", data := .fields #[.ref t, .int 0 0] }).push { cls := .type "enumerate", data := .fields #[.none, .bool false, .ref s.heap.objs.size, rawInt 0, .none, .none] } }) :=
  .of_wp fun prog w A R s h => by
    obtain ⟨hp, g, d, tk, os⟩ := s; obtain ⟨h1, h⟩ := h
    have hsub := sub_enumerate
    have q1 : ∀ {A' : Around} {E : Value → Shared → Prop} {Q : Value → Shared → Prop}, Q (.ref hp.objs.size) ⟨hp.push { cls := .type "tuple_iterator", data := .fields #[.ref t, .int 0 0] }, g, d, tk, os⟩ → wpAny (model prog w) A' (pyIter (.ref t)) Q E ⟨hp, g, d, tk, os⟩ :=
      fun q => (begins_tuple t items).iter prog w _ _ ⟨hp, g, d, tk, os⟩ _ h1 q
    wp_walk using q1
    refine wpAny_stack_any fun st => wpAny_pure ?_
    split
    · rename_i c _ _ _ _ _
      cases (c == Value.type "enumerate")
      · wp_walk using q1
        exact ⟨_, rfl, h⟩
      · wp_walk using q1
        exact ⟨_, rfl, h⟩
    · wp_walk using q1
      exact ⟨_, rfl, h⟩
theorem call_enum_tuple {prog : Program} {w : World} {A : Around} {E : Value → Shared → Prop} {s : Shared} {t : Addr} {items : Array Value} {Q : Value → Shared → Prop} (ht : s.heap.IsTuple t items)
    (h : ∀ h', IsEnum h' (s.heap.objs.size + 1) s.heap.objs.size 0 .none → h'.IsTupleIter s.heap.objs.size t 0 → h'.objs.size = s.heap.objs.size + 2 →
      (∀ b o, s.heap.get? b = some o → h'.get? b = some o) → Q (.ref (s.heap.objs.size + 1)) { s with heap := h' }) :
    wpAny (model prog w) A (call (.type "enumerate") [.ref t]) Q E s := by
  refine callType_new F.called_enumerate (by decide) (F.typeCall_enumerate_1 _) (F.newCall_enumerate_1 _) (fun obj => F.args_object_init_2 obj _) F.entry_enumerate_new
    (meets_enum_newT t items) ⟨ht, ?_⟩
  have hz : (s.heap.push { cls := .type "tuple_iterator", data := .fields #[.ref t, .int 0 0] }).objs.size = s.heap.objs.size + 1 := Heap.size_push ..
  show _ ∧ _
  rw [hz]
  have he : IsEnum ((s.heap.push { cls := .type "tuple_iterator", data := .fields #[.ref t, .int 0 0] }).push
      { cls := .type "enumerate", data := .fields #[.none, .bool false, .ref s.heap.objs.size, rawInt 0, .none, .none] }) (s.heap.objs.size + 1) s.heap.objs.size 0 .none := by
    have := Heap.get?_push_size (s.heap.push { cls := .type "tuple_iterator", data := .fields #[.ref t, .int 0 0] })
      (o := { cls := .type "enumerate", data := .fields #[.none, .bool false, .ref s.heap.objs.size, rawInt 0, .none, .none] }) rfl
    rw [hz] at this; exact this
  exact ⟨⟨_, he, rfl⟩, h _ he ⟨_, Heap.get?_push_of_some _ (Heap.get?_push_size _ rfl), rfl, rfl⟩ (by rw [Heap.size_push, hz]) fun b o x => Heap.get?_push_of_some _ (Heap.get?_push_of_some _ x)⟩

def ItE (K : PySem.W.Frag) (a : Addr) : It :=
  ⟨fun i H => ∃ (xs : List V) (x : V), SqT K H a xs ∧ xs[i]? = some x, fun i H v H' => ∃ T x, v = .ref T ∧ H T = none ∧ H' = upd H T (.tup [.int (i : Nat), x]) ∧ ∀ xs, SqT K H a xs → xs[i]? = some x, fun i H => ∃ xs : List V, SqT K H a xs ∧ xs.length = i⟩
theorem turn_enumT {P : Program} {w : World} {K : PySem.W.Frag} {elts : List Expr} {kk : Nat} {tpos : Pos} (a e it : Addr) :
    Turn P w K (.Tuple elts kk tpos) (ItE K a) [e, it] e (fun i h => (∃ old, IsEnum h e it ((i : Nat) : Int) old) ∧ h.IsTupleIter it a i ∧ e ≠ it) where
  mem := by simp
  obj := fun i h st b hb => by
    obtain ⟨⟨old, he⟩, ⟨o, ho, hc, hd⟩, _⟩ := st
    have e' : b = e ∨ b = it := by simpa using hb
    rcases e' with z | z
    · rw [z]; exact ⟨_, he, fun v q => nomatch q⟩
    · rw [z]; exact ⟨o, ho, fun v q => by rw [hd] at q; cases q⟩
  keep := fun i h h' st k => let ⟨⟨old, he⟩, hi, hne⟩ := st; ⟨⟨old, k e (by simp) _ he⟩, hi.at fun o q => k it (by simp) o q, hne⟩
  item := by
    intro X hP hw hK hc i pins s σ H E I hf st hg
    subst hP hw hK
    obtain ⟨⟨old, he⟩, hit, hne⟩ := st
    obtain ⟨xs, x, hq, hx⟩ := hg
    obtain ⟨its, rv, p, hz⟩ := I.tuple hq
    obtain ⟨u, hu, ru⟩ := rv.get hx
    have hel : e < s.heap.objs.size := Heap.lt_size he
    have hil : it < s.heap.objs.size := by obtain ⟨_, q, _⟩ := hit; exact Heap.lt_size q
    have pt : s.heap.IsTuple a its.toArray := p
    have hai : a ≠ it := fun z => by
      subst z
      obtain ⟨o1, e1, c1, _⟩ := pt
      obtain ⟨o2, e2, c2, _⟩ := hit
      rw [e1] at e2; cases e2
      rw [c1] at c2
      exact absurd (Value.type.inj c2) (by decide)
    have hae : a ≠ e := fun z => by
      subst z
      obtain ⟨o1, e1, c1, _⟩ := pt
      rw [he] at e1; cases e1
      exact absurd (Value.type.inj c1) (by decide)
    have hlt : i < its.toArray.size := by
      have := (List.getElem?_eq_some_iff.mp hu).1
      simpa using this
    refine wpAny_pyNext_enum_itemD (Draws.tuple (A := X.A.in1) (by simpa using I.ok.hd hc) it a hai its.toArray) he ⟨hit, pt⟩ hlt hne (by simp [hne, Ne.symm hae]) fun x' h' tk hx' ho st' hT hsz hk => ?_
    have eu : x' = u := by
      have q : its.toArray[i]? = some u := by simpa using hu
      rw [q] at hx'; cases hx'; rfl
    subst eu
    refine ⟨_, rfl, wpAny_letOwnedTupleGo_enum (s := { s with heap := h', toks := tk + 1 }) ho fun h'' he' sb => ?_⟩
    have hT2 : h''.get? s.heap.objs.size = some { cls := .type "tuple", data := .seq #[.int i tk, x'] } := (sb.2 _ (Nat.ne_of_gt hel)).trans hT
    have new : ObjOk X.prog X.w (upd H s.heap.objs.size (.tup [.int (i : Nat), x])) h'' s.heap.objs.size (.tup [.int (i : Nat), x]) :=
      ⟨by show 2 ≤ sizeLine; decide, [.int i tk, x'], .cons ⟨_, rfl⟩ (.cons ru .nil), ⟨_, hT2, rfl, _, rfl⟩⟩
    have I1 : Inv X pins σ (upd H s.heap.objs.size (.tup [.int (i : Nat), x])) { s with heap := h'', toks := tk + 1 } :=
      I.turnedNew (ch := [e, it]) (fun b ob hb q => (sb.2 b (fun z => hb (by simp [z]))).trans (hk b ob (fun z => hb (by simp [z])) (fun z => hb (by simp [z])) q)) hf (Nat.le_refl _) new
    refine ⟨.ref s.heap.objs.size, _, I1, rfl, ⟨_, x, rfl, I.hok.fresh (Nat.le_refl _), rfl, fun ys hy => by rw [I.tuple_inj hy hq]; exact hx⟩, ⟨⟨x', ?_⟩, st'.1.at fun o q => (sb.2 it (Ne.symm hne)).trans q, hne⟩, fun b hb => ?_⟩
    · have e1 : ((i + 1 : Nat) : Int) = (i : Int) + 1 := by omega
      rw [e1]; exact he'
    · have hb' : b < s.heap.objs.size := by
        have e' : b = e ∨ b = it := by simpa using hb
        rcases e' with z | z
        · rw [z]; exact hel
        · rw [z]; exact hil
      rw [upd_ne (Nat.ne_of_lt hb')]
      exact (hf b hb).1
  done := by
    intro X hP hw hK hc i pins s σ H E I hf st hg
    subst hP hw hK
    obtain ⟨⟨old, he⟩, hit, hne⟩ := st
    obtain ⟨xs, hq, hx⟩ := hg
    obtain ⟨its, rv, p, hz⟩ := I.tuple hq
    obtain ⟨f0, f1, f2, f3, f4, f5⟩ := hf it (by simp)
    have pt : s.heap.IsTuple a its.toArray := p
    have hai : a ≠ it := fun z => by
      subst z
      obtain ⟨o1, e1, c1, _⟩ := pt
      obtain ⟨o2, e2, c2, _⟩ := hit
      rw [e1] at e2; cases e2
      rw [c1] at c2
      exact absurd (Value.type.inj c2) (by decide)
    have hl := rv.length
    have en : its.toArray.size = i := by simp; omega
    exact wpAny_pyNext_enum_endD (Draws.tuple (A := X.A.in1) (by simpa using I.ok.hd hc) it a hai its.toArray) he (by rw [en]; exact ⟨hit, pt⟩) fun h' eb => ⟨rfl, I.turned (t' := s.toks) (fun b o hb q => eb b o hb q) f0 f1 f3 f4 f5⟩
  self := fun A i s Q E st h => let ⟨⟨_, he⟩, _⟩ := st; wpAny_pyIter_enum he h
def iEnumT (K : PySem.W.Frag) (ta : TA) : TI := fun σ H R => ta σ H fun vs H1 => ∃ a xs, vs = [.ref a] ∧ SqT K H1 a xs ∧ R (ItE K a) H1
theorem pi_enumT {X : Cx} {e : Expr} {ta : TA} {p pos tpos : Pos} {elts : List Expr} {kk : Nat} (hg : Gl X "enumerate") (hm : X.mg "enumerate" = none) (ha : PA X [e] ta) (hs : starEach [e] X.env = [(false, eval e X.env)] := by rfl) :
    PI X (.Tuple elts kk tpos) (.Call (.Name "enumerate" p) [e] [] pos) (iEnumT X.K ta) := by
  refine ⟨fun pins s σ H R I h => ?_⟩
  refine Call_ (ld_blt I hg hm boot_enumerate (PyProof.Rows.callWith_type1 (thn (ha.run pos pins s σ H _ I h) fun us s1 ⟨vs, H1, I1, r1, q1⟩ => ?_) hs rfl))
  obtain ⟨a, xs, ex, hq, q⟩ := q1
  subst ex
  cases r1 with
  | cons r rr =>
    cases rr
    cases r
    obtain ⟨its, rv, p', hz⟩ := I1.tuple hq
    refine call_enum_tuple (show s1.heap.IsTuple a its.toArray from p') fun h' he hit hsz hk => wpAny_pyIter_enum he ?_
    have I2 : Inv X pins σ H1 { s1 with heap := h' } := I1.kept (t' := s1.toks) hk
    refine ⟨s1.heap.objs.size + 1, [s1.heap.objs.size + 1, s1.heap.objs.size], _, _, H1, rfl, I2, turn_enumT a (s1.heap.objs.size + 1) s1.heap.objs.size, ⟨⟨.none, he⟩, hit, Nat.succ_ne_self _⟩, fun b hb => ?_, q⟩
    have e' : b = s1.heap.objs.size + 1 ∨ b = s1.heap.objs.size := by simpa using hb
    have hle : s1.heap.objs.size ≤ b := by
      rcases e' with z | z
      · rw [z]; exact Nat.le_add_right _ _
      · rw [z]; exact Nat.le_refl _
    exact I1.fpOk hle (I1.hok.fresh hle)
theorem walk_enumT {K : PySem.W.Frag} {a : Addr} {xs : List V} : Walk (ItE K a) xs.length (fun H => SqT K H a xs) (YPair (fun i => some (.int (i : Nat))) (fun i => xs[i]?)) :=
  ⟨fun i H hi hg => ⟨xs, xs[i], hg, by simp [hi]⟩, fun H hg => ⟨xs, hg, rfl⟩, fun i H v H' hi hg ⟨T, x, e1, e2, e3, e4⟩ => ⟨T, _, x, e1, e2, e3, rfl, e4 xs hg⟩⟩


def setAll : List Nat → List V → L2.St → L2.St
  | i :: is, v :: vs, σ => setAll is vs (σ.set i (some v))
  | _, _, σ => σ
inductive Caps (X : Cx) : List Pattern → List Nat → Prop
  | nil : Caps X [] []
  | cons {x : Str} {p : Pos} {ps : List Pattern} {i : Nat} {is : List Nat} (hi : X.N[i]? = some x) (hx : Loc X.env.scope x) (hf : X.fn x = true ∨ X.env.scope.names.lookup x = some .local) (r : Caps X ps is) : Caps X (.MatchAs none (some x) p :: ps) (i :: is)
def capNames : List Pattern → List Str
  | .MatchAs none (some x) _ :: ps => x :: capNames ps
  | _ => []
theorem Caps.len {X : Cx} : ∀ {ps : List Pattern} {is : List Nat}, Caps X ps is → ps.length = is.length
  | _, _, .nil => rfl
  | _, _, .cons _ _ _ r => by simp [r.len]
theorem Caps.each {X : Cx} {A : Around} {E : Value → Shared → Prop} {s : Shared} : ∀ {ps : List Pattern} {is : List Nat} {us : List Value} {Q : Option (List (Str × Value)) → Shared → Prop}, Caps X ps is → us.length = ps.length →
    Q (some ((capNames ps).zip us)) s → wpAny (model X.prog X.w) A (matchEach ps X.env us) Q E s
  | _, _, [], Q, .nil, _, h => wpAny_matchEach_nil h
  | _, _, u :: us, Q, .cons hi hx hf r, hl, h => by
    refine wpAny_matchEach_cons (wpAny_matchPattern_Capture ?_)
    show wpAny _ _ (matchEach _ X.env us) _ _ _
    exact Caps.each r (by simpa using hl) h
theorem Caps.store {X : Cx} {pins : List (Addr × Obj)} {H : Hp} (hN : X.N.Nodup) : ∀ {ps : List Pattern} {is : List Nat} {us : List Value} {vs : List V} {σ : L2.St} {s : Shared} {Q : Unit → Shared → Prop}, Caps X ps is → Vals vs us → us.length = ps.length → Inv X pins σ H s →
    (∀ s', Inv X pins (setAll is vs σ) H s' → Q () s') → wpAny (model X.prog X.w) X.A (assignInOrder (((capNames ps).zip us).map fun (n, _) => bindName X.env n) (((capNames ps).zip us).map (·.2))) Q X.xe s
  | _, _, _, _, σ, s, Q, .nil, .nil, _, I, h => assignInOrder_nil (h s I)
  | _, _, _, _, σ, s, Q, .cons hi hx hf r, .cons rv rr, hl, I, h => by
    refine assignInOrder_cons (wpAny_bindName (store_ok I hN hi hx rv (fun s' I' => ?_) hf))
    exact Caps.store hN r rr (by simpa using hl) I' h
theorem fitL {n : Nat} (h : n ≤ sizeLine) : (n : Int) < 2 ^ 63 := by
  have h2 : n < 2 ^ 63 := Nat.lt_of_le_of_lt h line63
  exact Int.ofNat_lt.mpr h2
def notSeq : V → Bool
  | .non => true
  | .bl _ => true
  | .int _ => true
  | .str _ => true
  | _ => false
def tMatch (K : PySem.W.Frag) (is : List Nat) (te : TE) (tg : TT) (tb tc : TS) : TS := fun D σ H => te σ H fun x H1 =>
  (∃ a vs, x = .ref a ∧ (SqT K H1 a vs ∨ SqL K H1 a vs) ∧ ((vs.length = is.length ∧ tg (setAll is vs σ) H1 fun b H2 => if b = true then tb D (setAll is vs σ) H2 else tc D (setAll is vs σ) H2) ∨ (vs.length ≠ is.length ∧ tc D σ H1))) ∨
  (notSeq x = true ∧ tc D σ H1)
theorem ps_match {X : Cx} {subject g : Expr} {ps : List Pattern} {is : List Nat} {body other : List Stmt} {p1 p2 pos : Pos} {te : TE} {tg : TT} {tb tc : TS} (hc : X.calm = true) (hN : X.N.Nodup) (he : PE X subject te) (hp : Caps X ps is) (hg : PT X g tg) (hb : PSs X body tb) (ho : PSs X other tc)
    (hstar : ps.findIdx? (·.isStar) = none := by rfl) (hwild : (ps.all fun p => p.isWildcard || (p.isStar && p.names.isEmpty)) = false := by rfl) :
    PS X (.Match subject [⟨.MatchSequence ps p1, some g, body⟩, ⟨.MatchAs none none p2, none, other⟩] pos) (tMatch X.K is te tg tb tc) := by
  refine ⟨fun pins s σ H D I h => ?_⟩
  refine wpAny_Match (thn (he.run pins s σ H _ I h) fun u s1 ⟨x, H1, I1, r1, q1⟩ => ?_)
  have last : ∀ {s2 : Shared} {σ2 : L2.St} {H2 : Hp}, Inv X pins σ2 H2 s2 → tc D σ2 H2 → wpAny (model X.prog X.w) X.A (matchCases [⟨.MatchAs none none p2, none, other⟩] X.env u false) (SP X pins D) X.xe s2 := fun {s2 σ2 H2} I2 q2 => by
    refine wpAny_matchCases_cons (wpAny_matchPattern_Capture ?_)
    show wpAny _ _ (assignInOrder [] []) _ _ _
    exact assignInOrder_nil (ho.run pins s2 σ2 H2 D I2 q2)
  refine wpAny_matchCases_cons ?_
  rcases q1 with ⟨a, vs, rfl, hq, q⟩ | ⟨hn, q⟩
  · obtain rfl : u = Value.ref a := r1
    rcases hq with hq | hq
    · obtain ⟨its, rv, p, hz⟩ := I1.tuple hq
      have hl := rv.length
      have fit : (its.toArray.size : Int) < 2 ^ 63 := fitL (by rw [List.size_toArray, ← hl]; exact hz)
      have en : its.toArray.size = vs.length := by rw [List.size_toArray, hl]
      rcases q with ⟨el, q⟩ | ⟨el, q⟩
      · have e0 : ps.length = its.toArray.size := by rw [en, el, hp.len]
        refine matchSeq_tuple_hit p fit e0.symm ?_ hstar hwild
        rw [e0]
        refine unpackItems_tuple (s := { s1 with toks := s1.toks + 1 + 1 }) (I.ok.hd hc) p fun h' hx' => ?_
        have I2 := (I1.tok (s1.toks + 1 + 1)).kept (h' := h') (t' := s1.toks + 1 + 1) fun b o e => hx' b o (Nat.ne_of_lt (Heap.lt_size e)) e
        refine Caps.each hp (by rw [Array.length_toList, e0]) ?_
        refine Caps.store (us := its.toArray.toList) (vs := vs) hN hp (by simpa using rv) (by rw [Array.length_toList, e0]) I2 fun s3 I3 => ?_
        refine thn (hg.run pins s3 _ H1 _ I3 q) fun b s4 ⟨H2, I4, q4⟩ => ?_
        cases b with
        | true => exact hb.run pins s4 _ H2 D I4 (by simpa using q4)
        | false => exact last I4 (by simpa using q4)
      · refine matchSeq_tuple_miss p fit (by rw [en, hp.len]; exact el) ?_ hstar hwild
        exact last (I1.tok _) q
    · obtain ⟨its, rv, p, hz⟩ := I1.list hq
      have hl := rv.length
      have fit : (its.toArray.size : Int) < 2 ^ 63 := fitL (by rw [List.size_toArray, ← hl]; exact hz)
      have en : its.toArray.size = vs.length := by rw [List.size_toArray, hl]
      rcases q with ⟨el, q⟩ | ⟨el, q⟩
      · have e0 : ps.length = its.toArray.size := by rw [en, el, hp.len]
        refine matchSeq_list_hit p.isList fit e0.symm ?_ hstar hwild
        rw [e0]
        refine PySem.W.kun_itemsOf (s := { s1 with toks := s1.toks + 1 + 1 }) (I.ok.hd hc) p.isList fun h' hx' => ?_
        have I2 := (I1.tok (s1.toks + 1 + 1)).kept (h' := h') (t' := s1.toks + 1 + 1) fun b o e => hx' b o (Nat.ne_of_lt (Heap.lt_size e)) e
        refine Caps.each hp (by rw [Array.length_toList, e0]) ?_
        refine Caps.store (us := its.toArray.toList) (vs := vs) hN hp (by simpa using rv) (by rw [Array.length_toList, e0]) I2 fun s3 I3 => ?_
        refine thn (hg.run pins s3 _ H1 _ I3 q) fun b s4 ⟨H2, I4, q4⟩ => ?_
        cases b with
        | true => exact hb.run pins s4 _ H2 D I4 (by simpa using q4)
        | false => exact last I4 (by simpa using q4)
      · refine matchSeq_list_miss p.isList fit (by rw [en, hp.len]; exact el) ?_ hstar hwild
        exact last (I1.tok _) q
  · have miss : ∀ {T : String}, s1.TypeIs u T → flagOfType true (.type T) = pure false → wpAny (model X.prog X.w) X.A (matchPattern (.MatchSequence ps p1) X.env u) (fun r s₁ => match r with
          | none => wpAny (model X.prog X.w) X.A (matchCases [⟨.MatchAs none none p2, none, other⟩] X.env u false) (SP X pins D) X.xe s₁
          | some bs => wpAny (model X.prog X.w) X.A (assignInOrder (bs.map fun (n, _) => bindName X.env n) (bs.map (·.2))) (fun _ s₂ => wpAny (model X.prog X.w) X.A (isTrue g X.env (eval g X.env))
                  (fun ok s₃ => if ok then wpAny (model X.prog X.w) X.A (execs body X.env) (SP X pins D) X.xe s₃ else wpAny (model X.prog X.w) X.A (matchCases [⟨.MatchAs none none p2, none, other⟩] X.env u false) (SP X pins D) X.xe s₃) X.xe s₂) X.xe s₁) X.xe s1 := fun {T} hT hfl => by
      refine wpAny_matchPattern_Sequence (wpAny_collectionFlag hT hfl ?_) hstar hwild
      rw [if_neg (by decide)]
      exact last I1 q
    cases x with
    | non => cases (show u = Value.none from r1); exact miss (T := "NoneType") (by trivial) flag_seq_None
    | bl b => cases (show u = Value.bool b from r1); exact miss (T := "bool") (by trivial) flag_seq_bool
    | int i => obtain ⟨t, rfl⟩ := (show ∃ t, u = Value.int i t from r1); exact miss (T := "int") (by trivial) flag_seq_int
    | str z => obtain ⟨t, rfl⟩ := (show ∃ t, u = Value.str z t from r1); exact miss (T := "str") (by trivial) flag_seq_str
    | byt b => cases hn
    | flt b => cases hn
    | ref a => cases hn
    | ty n => cases hn

end MF
set_option Elab.async false
set_option linter.all false
set_option maxRecDepth 100000
set_option maxHeartbeats 1000000
namespace MF
open PySem PySem.Spec PyProof.Rows L2 StX

structure GFn (P : Program) (w : World) (K : PySem.W.Frag) (mg : Str → Option Value) (base : Heap) (CX : CXT) (k : Nat) (x : Str) (sp : Sp) : Prop where
  ex : ∃ f, FnR P w K mg base CX k f sp ∧ mg x = some (.ref f) ∧ PySem.W.keepIn K (.ref f) = true
structure MFn (P : Program) (w : World) (K : PySem.W.Frag) (mg : Str → Option Value) (base : Heap) (CX : CXT) (k : Nat) (C : Addr) (m : Str) (sp : Sp) : Prop where
  ex : ∃ f, FnR P w K mg base CX k f sp ∧ Meth K C m f
structure IFn (P : Program) (w : World) (K : PySem.W.Frag) (mg : Str → Option Value) (base : Heap) (CX : CXT) (k : Nat) (C : Addr) (x : Str) (sp : Sp) : Prop where
  ex : ∃ f, FnR P w K mg base CX k f sp ∧ Mk K C f ∧ mg x = some (.ref C)
section
variable {P : Program} {w : World} {K : PySem.W.Frag} {mg : Str → Option Value} {base : Heap} {CX : CXT} {j k : Nat} {C : Addr} {x m : Str} {sp sp' : Sp}
theorem GFn.mono (G : GFn P w K mg base CX j x sp) (h : j ≤ k) : GFn P w K mg base CX k x sp := let ⟨f, a, b⟩ := G.ex; ⟨f, a.mono h, b⟩
theorem GFn.imp (G : GFn P w K mg base CX k x sp) (h : ∀ vs H Q E, sp' vs H Q E → sp vs H Q E) : GFn P w K mg base CX k x sp' := let ⟨f, a, b⟩ := G.ex; ⟨f, a.imp h, b⟩
theorem MFn.mono (G : MFn P w K mg base CX j C m sp) (h : j ≤ k) : MFn P w K mg base CX k C m sp := let ⟨f, a, b⟩ := G.ex; ⟨f, a.mono h, b⟩
theorem MFn.imp (G : MFn P w K mg base CX k C m sp) (h : ∀ vs H Q E, sp' vs H Q E → sp vs H Q E) : MFn P w K mg base CX k C m sp' := let ⟨f, a, b⟩ := G.ex; ⟨f, a.imp h, b⟩
end
structure GDef (K : PySem.W.Frag) (mg : Str → Option Value) (x : Str) (st : Stmt) (ps : List Str) : Prop where
  ex : ∃ f fd, Fun K x x st f fd ∧ mg x = some (.ref f) ∧ Binds K fd ps []
structure MDef (K : PySem.W.Frag) (C : Addr) (m qual : Str) (st : Stmt) (ps : List Str) : Prop where
  ex : ∃ f fd, Fun K m qual st f fd ∧ Meth K C m f ∧ Binds K fd ps []
structure IDef (K : PySem.W.Frag) (mg : Str → Option Value) (C : Addr) (x qual : Str) (st : Stmt) (ps : List Str) : Prop where
  ex : ∃ f fd, Fun K "__init__" qual st f fd ∧ Mk K C f ∧ mg x = some (.ref C) ∧ Binds K fd ps []
section
variable {P : Program} {w : World} {K : PySem.W.Frag} {mg : Str → Option Value} {base : Heap} {CX : CXT} {k : Nat} {C : Addr} {x m qual : Str} {st : Stmt} {ps : List Str} {sp : Sp}
theorem raw0 {f : Addr} {fd : FuncData} (F : FnOk P w K mg base CX k f fd ps sp) (hb : Binds K fd ps []) : FnR P w K mg base CX k f sp :=
  (F.raw hb (dvs := []) .nil).imp fun vs H Q E h => by rw [List.append_nil]; exact h
theorem GDef.fn (D : GDef K mg x st ps) (h : ∀ f fd, Fun K x x st f fd → FnOk P w K mg base CX k f fd ps sp) : GFn P w K mg base CX k x sp :=
  let ⟨f, fd, a, b, c⟩ := D.ex
  ⟨f, raw0 (h f fd a) c, b, a.kp⟩
theorem MDef.fn (D : MDef K C m qual st ps) (h : ∀ f fd, Fun K m qual st f fd → FnOk P w K mg base CX k f fd ps sp) : MFn P w K mg base CX k C m sp :=
  let ⟨f, fd, a, b, c⟩ := D.ex
  ⟨f, raw0 (h f fd a) c, b⟩
theorem IDef.fn (D : IDef K mg C x qual st ps) (h : ∀ f fd, Fun K "__init__" qual st f fd → FnOk P w K mg base CX k f fd ps sp) : IFn P w K mg base CX k C x sp :=
  let ⟨f, fd, a, b, c, d⟩ := D.ex
  ⟨f, raw0 (h f fd a) d, b, c⟩
end
section
variable {X : Cx} {CX : CXT} {k : Nat} {C : Addr} {x m : Str} {sp : Sp} {E : XK} {e o : Expr} {es : List Expr} {ta te : TE} {t : TA} {p pos apos sp_ : Pos}
def tG (sp : Sp) (E : XK) (t : TA) : TE := fun σ H Q => t σ H fun vs H1 => sp vs H1 Q E
theorem pe_gX (G : GFn X.prog X.w X.K X.mg X.base CX k x sp) (hr : Room k X.A) (hx : Passes CX X E) (ha : PA X (e :: es) t) (hg : Gl X x := by rfl) (hdb : (x == ("__debug__" : Str)) = false := by decide)
    (he : starEach (e :: es) X.env = (false, eval e X.env) :: starEach es X.env := by rfl) (hpl : (backTo pos (starEach es X.env)).any (·.1) = false := by rfl) :
    PE X (.Call (.Name x p) (e :: es) [] pos) (tG sp E t) := by
  obtain ⟨f, F, hm, hk⟩ := G.ex
  refine ⟨fun pins s σ H Q I h => ?_⟩
  refine wpAny_Call_Name_kw (ld_glob I hg hm ?_ hdb)
  refine PySem.W.callWith_K (h₀ := X.base) I.ok.mod.kin hk (thn (ha.run pos pins s σ H _ I h) fun us s1 ⟨vs, H1, I1, r, q⟩ => ⟨I1.kIn, ?_⟩) he hpl
  exact wpAny_call (run_fnR F hr hx I1 r q)
theorem pe_g (G : GFn X.prog X.w X.K X.mg X.base CX0 k x sp) (hr : Room k X.A) (ha : PA X (e :: es) t) (hg : Gl X x := by rfl) (hdb : (x == ("__debug__" : Str)) = false := by decide)
    (he : starEach (e :: es) X.env = (false, eval e X.env) :: starEach es X.env := by rfl) (hpl : (backTo pos (starEach es X.env)).any (·.1) = false := by rfl) :
    PE X (.Call (.Name x p) (e :: es) [] pos) (tG sp E0 t) := pe_gX G hr pass0 ha hg hdb he hpl
theorem pe_g0X (G : GFn X.prog X.w X.K X.mg X.base CX k x sp) (hr : Room k X.A) (hx : Passes CX X E) (hg : Gl X x := by rfl) (hdb : (x == ("__debug__" : Str)) = false := by decide) :
    PE X (.Call (.Name x p) [] [] pos) (tG sp E tNil) := by
  obtain ⟨f, F, hm, hk⟩ := G.ex
  refine ⟨fun pins s σ H Q I h => ?_⟩
  refine wpAny_Call_Name_kw (ld_glob I hg hm ?_ hdb)
  exact PySem.W.callWith_K0 I.kIn hk (wpAny_call (run_fnR (us := []) F hr hx I .nil h))
theorem pe_gS (G : GFn X.prog X.w X.K X.mg X.base CX k x sp) (hr : Room k X.A) (hx : Passes CX X E) (he : PE X e te) (hg : Gl X x := by rfl) (hdb : (x == ("__debug__" : Str)) = false := by decide)
    (hst : starEach [.Starred e sp_] X.env = [(true, eval e X.env)] := by rfl) :
    PE X (.Call (.Name x p) [.Starred e sp_] [] pos) (tG sp E (tStar X.K te tNil)) := by
  obtain ⟨f, F, hm, hk⟩ := G.ex
  refine ⟨fun pins s σ H Q I h => ?_⟩
  refine wpAny_Call_Name_kw (ld_glob I hg hm ?_ hdb)
  refine PySem.W.callWith_S (h₀ := X.base) I.ok.mod.kin hk (thn (he.run pins s σ H _ I h) fun v s1 ⟨y, H1, I1, ry, a, xs, ey, hxs, q⟩ => ?_) hst
  subst ey
  obtain rfl : v = Value.ref a := ry
  refine star_any I1 hxs fun us s2 I2 rv => ⟨I2.kIn, wpAny_call (run_fnR F hr hx I2 rv ?_)⟩
  have q' : sp (xs ++ []) H1 Q E := q
  rw [List.append_nil] at q'
  exact q'
theorem pe_mkX (G : IFn X.prog X.w X.K X.mg X.base CX k C x sp) (hr : Room (k + 1) X.A) (hx : Passes CX X E) (ha : PA X (e :: es) t) (hg : Gl X x := by rfl) (hdb : (x == ("__debug__" : Str)) = false := by decide)
    (he : starEach (e :: es) X.env = (false, eval e X.env) :: starEach es X.env := by rfl) (hpl : (backTo pos (starEach es X.env)).any (·.1) = false := by rfl) : PE X (.Call (.Name x p) (e :: es) [] pos) (tMakeR C sp E t) := by
  obtain ⟨f, F, M, hm⟩ := G.ex
  exact pe_makeR M F hr hg hm hx ha hdb he hpl
theorem pe_mk0X (G : IFn X.prog X.w X.K X.mg X.base CX k C x sp) (hr : Room (k + 1) X.A) (hx : Passes CX X E) (hg : Gl X x := by rfl) (hdb : (x == ("__debug__" : Str)) = false := by decide) : PE X (.Call (.Name x p) [] [] pos) (tMakeR C sp E tNil) := by
  obtain ⟨f, F, M, hm⟩ := G.ex
  refine ⟨fun pins s σ H Q I h => ?_⟩
  refine wpAny_Call_Name_kw (ld_glob I hg hm ?_ hdb)
  exact PySem.W.callWith_K0 I.kIn M.kp (run_makeR (us := []) M F hr hx I .nil h)
theorem pe_mkS (G : IFn X.prog X.w X.K X.mg X.base CX k C x sp) (hr : Room (k + 1) X.A) (hx : Passes CX X E) (he : PE X e te) (hg : Gl X x := by rfl) (hdb : (x == ("__debug__" : Str)) = false := by decide)
    (hst : starEach [.Starred e sp_] X.env = [(true, eval e X.env)] := by rfl) : PE X (.Call (.Name x p) [.Starred e sp_] [] pos) (tMakeR C sp E (tStar X.K te tNil)) := by
  obtain ⟨f, F, M, hm⟩ := G.ex
  refine ⟨fun pins s σ H Q I h => ?_⟩
  refine wpAny_Call_Name_kw (ld_glob I hg hm ?_ hdb)
  refine PySem.W.callWith_S (h₀ := X.base) I.ok.mod.kin M.kp (thn (he.run pins s σ H _ I h) fun v s1 ⟨y, H1, I1, ry, a, xs, ey, hxs, q⟩ => ?_) hst
  subst ey
  obtain rfl : v = Value.ref a := ry
  refine star_any I1 hxs fun us s2 I2 rv => ⟨I2.kIn, run_makeR M F hr hx I2 rv ?_⟩
  have q' : ∀ x dx, H1 x = none → H1 dx = none → dx ≠ x → sp (V.ref x :: (xs ++ [])) (upd (upd H1 dx (.own x)) x (.ins C dx [])) (fun v H2 => v = .non ∧ Q (.ref x) H2) E := q
  rw [List.append_nil] at q'
  exact q'
theorem pe_mkS2 (G : IFn X.prog X.w X.K X.mg X.base CX k C x sp) (hr : Room (k + 1) X.A) (hx : Passes CX X E) (ha : PA X (e :: es) t) (hg : Gl X x := by rfl) (hdb : (x == ("__debug__" : Str)) = false := by decide)
    (he : starEach (e :: es) X.env = (false, eval e X.env) :: starEach es X.env := by rfl) (hst : (backTo pos (starEach es X.env)).any (·.1) = true := by rfl) : PE X (.Call (.Name x p) (e :: es) [] pos) (tMakeR C sp E t) := by
  obtain ⟨f, F, M, hm⟩ := G.ex
  refine ⟨fun pins s σ H Q I h => ?_⟩
  refine wpAny_Call_Name_kw (ld_glob I hg hm ?_ hdb)
  refine PySem.W.callWith_S2 (h₀ := X.base) I.ok.mod.kin M.kp (thn (ha.run pos pins s σ H _ I h) fun us s1 ⟨vs, H1, I1, r, q⟩ => ⟨I1.kIn, ?_⟩) he hst
  exact run_makeR M F hr hx I1 r q
def tM (C : Addr) (m : Str) (sp : Sp) (E : XK) (ta : TE) (t : TA) : TE := fun σ H Q => ta σ H fun x H1 => ∃ a dx fs, x = .ref a ∧ H1 a = some (.ins C dx fs) ∧ fs.lookup m = none ∧ t σ H1 fun vs H2 => sp (x :: vs) H2 Q E
theorem pe_mX {pl : Sem Bool} (G : MFn X.prog X.w X.K X.mg X.base CX k C m sp) (c : Cls X.K C) (hr : Room k X.A) (hx : Passes CX X E) (he : PE X o ta) (ha : PA X (e :: es) t)
    (hst : starEach (e :: es) X.env = (false, eval e X.env) :: starEach es X.env := by rfl) (hpl : (backTo pos (starEach es X.env)).any (·.1) = false := by rfl)
    (ht : eval (.Call (.Attribute o m apos) (e :: es) [] pos) X.env = (do
      let ov ← eval o X.env
      standAt apos.atName
      let (f, first) ← holding [ov] (getMethod ov m pl)
      callWith pos f first (backTo pos (starEach (e :: es) X.env)) (backToKw pos (keywordEach [] X.env))) := by rfl) :
    PE X (.Call (.Attribute o m apos) (e :: es) [] pos) (tM C m sp E ta t) := by
  obtain ⟨f, F, hm⟩ := G.ex
  refine ⟨fun pins s σ H Q I h => ?_⟩
  refine PySem.W.methodCall_KW (pl := pl) (thn (he.run pins s σ H _ I h) fun u s1 ⟨x, H1, I1, rx, a, dx, fs, ex, ea, l, q⟩ => ?_) ht
  subst ex
  obtain rfl : u = Value.ref a := rx
  refine getmeth_ok I1 ea c hm l ?_
  refine PySem.W.callWith_K (first := [.ref a]) (h₀ := X.base) I.ok.mod.kin hm.kp (thn (ha.run pos pins s1 σ H1 _ I1 q) fun us s2 ⟨vs, H2, I2, r, q2⟩ => ⟨I2.kIn, ?_⟩) hst hpl
  exact wpAny_call (run_fnR (us := .ref a :: us) (vs := .ref a :: vs) F hr hx I2 (.cons rfl r) q2)
theorem pe_m {pl : Sem Bool} (G : MFn X.prog X.w X.K X.mg X.base CX0 k C m sp) (c : Cls X.K C) (hr : Room k X.A) (he : PE X o ta) (ha : PA X (e :: es) t)
    (hst : starEach (e :: es) X.env = (false, eval e X.env) :: starEach es X.env := by rfl) (hpl : (backTo pos (starEach es X.env)).any (·.1) = false := by rfl)
    (ht : eval (.Call (.Attribute o m apos) (e :: es) [] pos) X.env = (do
      let ov ← eval o X.env
      standAt apos.atName
      let (f, first) ← holding [ov] (getMethod ov m pl)
      callWith pos f first (backTo pos (starEach (e :: es) X.env)) (backToKw pos (keywordEach [] X.env))) := by rfl) :
    PE X (.Call (.Attribute o m apos) (e :: es) [] pos) (tM C m sp E0 ta t) := pe_mX G c hr pass0 he ha hst hpl ht
theorem pe_mX0 {pl : Sem Bool} (G : MFn X.prog X.w X.K X.mg X.base CX k C m sp) (c : Cls X.K C) (hr : Room k X.A) (hx : Passes CX X E) (he : PE X o ta)
    (ht : eval (.Call (.Attribute o m apos) [] [] pos) X.env = (do
      let ov ← eval o X.env
      standAt apos.atName
      let (f, first) ← holding [ov] (getMethod ov m pl)
      callWith pos f first (backTo pos (starEach [] X.env)) (backToKw pos (keywordEach [] X.env))) := by rfl) :
    PE X (.Call (.Attribute o m apos) [] [] pos) (tM C m sp E ta tNil) := by
  obtain ⟨f, F, hm⟩ := G.ex
  refine ⟨fun pins s σ H Q I h => ?_⟩
  refine PySem.W.methodCall_KW (pl := pl) (thn (he.run pins s σ H _ I h) fun u s1 ⟨x, H1, I1, rx, a, dx, fs, ex, ea, l, q⟩ => ?_) ht
  subst ex
  obtain rfl : u = Value.ref a := rx
  refine getmeth_ok I1 ea c hm l ?_
  exact PySem.W.callWith_K0 (first := [.ref a]) I1.kIn hm.kp (wpAny_call (run_fnR (us := [.ref a]) (vs := [.ref a]) F hr hx I1 (.cons rfl .nil) q))
theorem pe_m0 {pl : Sem Bool} (G : MFn X.prog X.w X.K X.mg X.base CX0 k C m sp) (c : Cls X.K C) (hr : Room k X.A) (he : PE X o ta)
    (ht : eval (.Call (.Attribute o m apos) [] [] pos) X.env = (do
      let ov ← eval o X.env
      standAt apos.atName
      let (f, first) ← holding [ov] (getMethod ov m pl)
      callWith pos f first (backTo pos (starEach [] X.env)) (backToKw pos (keywordEach [] X.env))) := by rfl) :
    PE X (.Call (.Attribute o m apos) [] [] pos) (tM C m sp E0 ta tNil) := pe_mX0 G c hr pass0 he ht
theorem pe_gint {n : Int} (h : ∃ t, X.mg x = some (.int n t)) (hg : Gl X x := by rfl) (hd : (x == ("__debug__" : Str)) = false := by decide) : PE X (.Name x pos) (tC (.int n)) := by
  obtain ⟨t, h⟩ := h
  exact pe_glob hg h ⟨_, rfl⟩ hd
theorem pe_gstr {z : Str} (h : ∃ t, X.mg x = some (.str z t)) (hg : Gl X x := by rfl) (hd : (x == ("__debug__" : Str)) = false := by decide) : PE X (.Name x pos) (tC (.str z)) := by
  obtain ⟨t, h⟩ := h
  exact pe_glob hg h ⟨_, rfl⟩ hd
end
theorem op_ownR {X : Cx} {op : Operator} {C f : Addr} {m : Str} {CX : CXT} {k : Nat} {sp : Sp} {E : XK} (hc : PySem.W.selfFirst X.K C = true) (M : Meth X.K C m f) (F : FnR X.prog X.w X.K X.mg X.base CX k f sp) (hr : Room k X.A) (hx : Passes CX X E) (hm : PySem.dunder op.info.2 = m := by rfl) :
    OpR X (binaryOp op) (fun x y H Q => ∃ a b dx dy fs gs, x = .ref a ∧ y = .ref b ∧ H a = some (.ins C dx fs) ∧ H b = some (.ins C dy gs) ∧ sp [.ref a, .ref b] H Q E) := by
  subst hm
  rintro pins s σ H x y u v Q I rx ry ⟨a, b, dx, dy, fs, gs, rfl, rfl, ea, eb, h⟩
  obtain rfl : u = Value.ref a := rx
  obtain rfl : v = Value.ref b := ry
  obtain ⟨mA, O, _⟩ := ins_get I.hok ea
  obtain ⟨mB, O', _⟩ := ins_get I.hok eb
  obtain ⟨od, ia, _⟩ := O.look
  obtain ⟨od', ib, _⟩ := O'.look
  obtain ⟨mm, fr⟩ := I.fr
  refine PySem.W.binop_K fr I.mod.kin ia ib.type hc M.at_ M.fn ?_
  refine thn (wpAny_call (run_fnR (us := [.ref a, .ref b]) (vs := [.ref a, .ref b]) F hr hx I (.cons rfl (.cons rfl .nil)) h)) fun r s' hq => ?_
  obtain ⟨z, H', I', rz, q⟩ := hq
  exact notNI rz ⟨z, H', I', rz, q⟩
structure SDef (K : PySem.W.Frag) (mg : Str → Option Value) (C : Addr) (x qual : Str) (st : Stmt) (p1 pv : Str) : Prop where
  ex : ∃ f fd, Fun K "__init__" qual st f fd ∧ Mk K C f ∧ mg x = some (.ref C) ∧ ∀ us rest : List Value, us.length = [p1].length → bindArgs fd ⟨us ++ rest, []⟩ = (newTuple rest >>= fun t => pure ([p1].zip us ++ [(pv, t)]))
theorem SDef.fn0 {P : Program} {w : World} {K : PySem.W.Frag} {mg : Str → Option Value} {base : Heap} {k : Nat} {C : Addr} {x qual p1 pv : Str} {st : Stmt} {N : List Str} {sp : Sp} (D : SDef K mg C x qual st p1 pv) (S : FnScope N [p1, pv] (defScope st))
    (hbody : ∀ (f : Addr) (cdv : Value) (A : Around) (outer : List Env) (s : Shared) (H : Hp) (vs : List V) (Q : VK) (E : XK), Room k (A.deeper (envOfC qual (defScope st) s.heap.objs.size f cdv)) → sp vs H Q E →
      ∃ t, PSs (cxOf CX0 P w K mg base N qual (defScope st) f cdv A outer s H E).nox (defBody st) t ∧ t { nx := fun _ H' => Q .non H', rt := Q } (start N vs) H) :
    IFn P w K mg base CX0 (k + 1) C x (fun vs H Q E => ∃ v rest, vs = v :: rest ∧ rest.length ≤ sizeLine ∧ ∀ p, H p = Option.none → sp [v, V.ref p] (upd H p (.tup rest)) Q E) := by
  obtain ⟨f, fd, F, M, hm, hb⟩ := D.ex
  obtain ⟨oc, od, kV, doc, pm, an, cdv, ct, osl, rfl, lk, hcd⟩ := F.ex
  refine ⟨f, (fn_star (ps := [p1]) (pv := pv) (sp := sp) lk hcd S cxUp_none hb fun A outer s H vs Q E hr hsp => ?_).imp fun vs H Q E h => ?_, M, hm⟩
  · obtain ⟨t, h, q⟩ := hbody f cdv A outer s H vs Q E hr hsp
    exact ⟨t, h.nox, q⟩
  · obtain ⟨v, rest, rfl, hl, q⟩ := h
    exact ⟨[v], rest, rfl, rfl, hl, q⟩
end MF
set_option Elab.async false
set_option linter.all false
set_option maxRecDepth 100000
set_option maxHeartbeats 1000000
namespace MF
open PySem PySem.Spec PyProof.Rows L2 StX
section
variable {X : Cx} {pins : List (Addr × Obj)} {σ : L2.St} {H : Hp} {s : Shared} {CX : CXT} {k : Nat} {C f : Addr} {sp : Sp} {E : XK}
theorem run_in1 {us : List Value} {vs : List V} {Q : VK} (F : FnR X.prog X.w X.K X.mg X.base CX k f sp) (hr : Room (k + 1) X.A) (hx : Passes CX X E) (I : Inv X pins σ H s) (r : Vals vs us) (h : sp vs H Q E) : wpAny (model X.prog X.w) X.A.in1 (call (.ref f) us) (EP X pins σ Q) X.xe s := by
  have e0 := I.env0
  refine wpAny_call (codeAny_mono (F X.A.in1 X.stack s H us vs Q E hr.in1 ⟨e0.frames, e0.mod, e0.bs, e0.bsz, e0.funs, e0.frf, e0.hok, e0.bare⟩ r h) fun r s' hq => ?_)
  cases r with
  | error e => exact hx pins σ H s e s' I hq
  | ok fl =>
    cases fl with
    | ret u => exact I.after hq
    | next => exact False.elim hq
    | brk => exact False.elim hq
    | cont => exact False.elim hq
def rLenO (C : Addr) (sp : Sp) (E : XK) : List V → Hp → VK → Prop := fun xs H Q => ∃ a dx fs, xs = [.ref a] ∧ H a = some (.ins C dx fs) ∧ sp [.ref a] H (fun v H' => ∃ n : Nat, v = .int (n : Int) ∧ (n : Int) < 2 ^ 63 ∧ Q (.int (n : Int)) H') E
theorem cr_lenO (M : Meth X.K C "__len__" f) (F : FnR X.prog X.w X.K X.mg X.base CX k f sp) (hr : Room (k + 1) X.A) (hx : Passes CX X E) : CallR X (.builtin "len") (rLenO C sp E) := by
  rintro pins s σ H xs us Q I r ⟨a, dx, fs, rfl, ea, h⟩
  rw [Vals.ref1 r]
  obtain ⟨mA, O, _⟩ := ins_get I.hok ea
  obtain ⟨od, ia, _⟩ := O.look
  obtain ⟨mm, fr⟩ := I.fr
  refine PySem.W.len_K fr I.mod.kin ia M.at_ M.fn ?_
  refine thn (run_in1 (us := [.ref a]) (vs := [.ref a]) F hr hx I (.cons rfl .nil) h) fun r s' hq => ?_
  obtain ⟨z, H', I', rz, n, rfl, hn, q⟩ := hq
  obtain ⟨t, rfl⟩ := rz
  exact ⟨⟨by omega, hn⟩, .int n, H', I'.tok _, ⟨_, rfl⟩, q⟩
def rIxO (C : Addr) (sp : Sp) (E : XK) : R2 := fun x y H Q => ∃ a dx fs, x = .ref a ∧ H a = some (.ins C dx fs) ∧ sp [.ref a, y] H Q E
theorem pe_ixO {a b : Expr} {ta tb : TE} {pos : Pos} (M : Meth X.K C "__getitem__" f) (F : FnR X.prog X.w X.K X.mg X.base CX k f sp) (hr : Room (k + 1) X.A) (hx : Passes CX X E) (hfi : PySem.W.fnIn X.K f = true) (ha : PE X a ta) (hb : PE X b tb)
    (hsl : ∀ o i, subscripted b true o i = runValue (.builtin "lifetime.subscript" ⟨[o, i], []⟩)) : PE X (.Subscript a b pos) (tOp (rIxO C sp E) ta tb) := by
  refine ⟨fun pins s σ H Q I h => ?_⟩
  refine Subscript_ (binT ha hb I h fun v u s2 x y H2 I2 rx ry q => ?_)
  obtain ⟨c, dx, fs, rfl, ec, q⟩ := q
  obtain rfl : v = Value.ref c := rx
  obtain ⟨mA, O, _⟩ := ins_get I2.hok ec
  obtain ⟨od, ia, _⟩ := O.look
  obtain ⟨mm, fr⟩ := I2.fr
  refine PySem.W.sub_K fr I2.mod.kin ia M.at_ hfi M.fn ?_ (hsl _ _)
  exact run_in1 (us := [.ref c, u]) (vs := [.ref c, y]) F hr hx I2 (.cons rfl (.cons ry .nil)) q
end
end MF
set_option Elab.async false
set_option linter.all false
set_option maxRecDepth 100000
set_option maxHeartbeats 1000000
namespace MF
open PySem PySem.Spec PyProof.Rows L2 StX ClX
structure PDef (K : PySem.W.Frag) (C : Addr) (m qual : Str) (st : Stmt) (ps : List Str) : Prop where
  ex : ∃ p f fd, Fun K m qual st f fd ∧ PropOf K C m p f ∧ Binds K fd ps []
structure PFn (P : Program) (w : World) (K : PySem.W.Frag) (mg : Str → Option Value) (base : Heap) (CX : CXT) (k : Nat) (C : Addr) (m : Str) (sp : Sp) : Prop where
  ex : ∃ p f fd ps, FnOk P w K mg base CX k f fd ps sp ∧ PropOf K C m p f ∧ Binds K fd ps []
theorem PDef.fn {P : Program} {w : World} {K : PySem.W.Frag} {mg : Str → Option Value} {base : Heap} {CX : CXT} {k : Nat} {C : Addr} {m qual : Str} {st : Stmt} {ps : List Str} {sp : Sp} (D : PDef K C m qual st ps) (h : ∀ f fd, Fun K m qual st f fd → FnOk P w K mg base CX k f fd ps sp) : PFn P w K mg base CX k C m sp :=
  let ⟨p, f, fd, a, b, c⟩ := D.ex
  ⟨p, f, fd, ps, h f fd a, b, c⟩
theorem pe_pr {X : Cx} {k : Nat} {C : Addr} {m : Str} {sp : Sp} {e : Expr} {ta : TE} {pos : Pos} (G : PFn X.prog X.w X.K X.mg X.base CX0 k C m sp) (c : Cls X.K C) (hr : Room (k + 1) X.A) (he : PE X e ta) (hab : attributeBase e m X.env (eval e X.env) = eval e X.env := by rfl) : PE X (.Attribute e m pos) (tProp C sp [] E0 ta) := by
  obtain ⟨p, f, fd, ps, F, hp, hb⟩ := G.ex
  exact pe_prop he c hp F hr hb .nil pass0 hab
structure CDef (K : PySem.W.Frag) (C : Addr) (m qual : Str) (st : Stmt) (ps : List Str) (pv : Str) : Prop where
  ex : ∃ mc p f fd, Fun K m qual st f fd ∧ CRead K C mc ∧ CMet K C mc m p f ∧ ∀ us rest : List Value, us.length = ps.length → bindArgs fd ⟨us ++ rest, []⟩ = (newTuple rest >>= fun t => pure (ps.zip us ++ [(pv, t)]))
structure CFn (P : Program) (w : World) (K : PySem.W.Frag) (mg : Str → Option Value) (base : Heap) (CX : CXT) (k : Nat) (C : Addr) (m : Str) (sp : Sp) : Prop where
  ex : ∃ mc p f, FnR P w K mg base CX k f sp ∧ CRead K C mc ∧ CMet K C mc m p f
theorem CDef.fn0 {P : Program} {w : World} {K : PySem.W.Frag} {mg : Str → Option Value} {base : Heap} {k : Nat} {C : Addr} {m qual pv : Str} {ps : List Str} {st : Stmt} {N : List Str} {sp : Sp} (D : CDef K C m qual st ps pv) (S : FnScope N (ps ++ [pv]) (defScope st))
    (hbody : ∀ (f : Addr) (cdv : Value) (A : Around) (outer : List Env) (s : Shared) (H : Hp) (vs : List V) (Q : VK) (E : XK), Room k (A.deeper (envOfC qual (defScope st) s.heap.objs.size f cdv)) → sp vs H Q E →
      ∃ t, PSs (cxOf CX0 P w K mg base N qual (defScope st) f cdv A outer s H E).nox (defBody st) t ∧ t { nx := fun _ H' => Q .non H', rt := Q } (start N vs) H) :
    CFn P w K mg base CX0 (k + 1) C m (fun vs H Q E => ∃ ws rest, vs = ws ++ rest ∧ ws.length = ps.length ∧ rest.length ≤ sizeLine ∧ ∀ p, H p = Option.none → sp (ws ++ [V.ref p]) (upd H p (.tup rest)) Q E) := by
  obtain ⟨mc, p, f, fd, F, R, M, hb⟩ := D.ex
  obtain ⟨oc, od, kV, doc, pm, an, cdv, ct, osl, rfl, lk, hcd⟩ := F.ex
  refine ⟨mc, p, f, fn_star (ps := ps) (pv := pv) (sp := sp) lk hcd S cxUp_none hb fun A outer s H vs Q E hr hsp => ?_, R, M⟩
  obtain ⟨t, h, q⟩ := hbody f cdv A outer s H vs Q E hr hsp
  exact ⟨t, h.nox, q⟩
theorem bind_star4 {B : List Value → Sem (List (Str × Value))} {p1 p2 p3 p4 pv : Str} (h0 : ∀ a b c d, B [a, b, c, d] = (newTuple [] >>= fun t => pure [(p1, a), (p2, b), (p3, c), (p4, d), (pv, t)])) (h1 : ∀ a b c d r rs, B (a :: b :: c :: d :: r :: rs) = (newTuple (r :: rs) >>= fun t => pure [(p1, a), (p2, b), (p3, c), (p4, d), (pv, t)])) :
    ∀ us rest : List Value, us.length = [p1, p2, p3, p4].length → B (us ++ rest) = (newTuple rest >>= fun t => pure ([p1, p2, p3, p4].zip us ++ [(pv, t)])) := by
  intro us rest hl
  match us, hl with
  | [a, b, c, d], _ =>
    cases rest with
    | nil => exact h0 a b c d
    | cons r rs => exact h1 a b c d r rs
theorem pe_cm {X : Cx} {k : Nat} {C : Addr} {m : Str} {sp : Sp} {o e : Expr} {es : List Expr} {ta : TE} {t : TA} {pos apos : Pos} {pl : Sem Bool} (G : CFn X.prog X.w X.K X.mg X.base CX0 k C m sp) (hr : Room k X.A) (he : PE X o ta) (ha : PA X (e :: es) t)
    (hst : starEach (e :: es) X.env = (false, eval e X.env) :: starEach es X.env := by rfl) (hpl : (backTo pos (starEach es X.env)).any (·.1) = false := by rfl)
    (ht : eval (.Call (.Attribute o m apos) (e :: es) [] pos) X.env = (do
      let ov ← eval o X.env
      standAt apos.atName
      let (f, first) ← holding [ov] (getMethod ov m pl)
      callWith pos f first (backTo pos (starEach (e :: es) X.env)) (backToKw pos (keywordEach [] X.env))) := by rfl) :
    PE X (.Call (.Attribute o m apos) (e :: es) [] pos) (tCMeth C sp E0 ta t) := by
  obtain ⟨mc, p, f, F, R, M⟩ := G.ex
  exact pe_cmeth he R M F hr pass0 ha hst hpl ht
def tMkL (i : Nat) (C : Addr) (sp : Sp) (E : XK) (t : TA) : TE := fun σ H Q => σ[i]? = some (some (.ref C)) ∧ tMakeR C sp E t σ H Q
theorem pe_mkSL {X : Cx} {CX : CXT} {k i : Nat} {C : Addr} {x y : Str} {sp : Sp} {E : XK} {e : Expr} {te : TE} {p pos sp_ : Pos} (G : IFn X.prog X.w X.K X.mg X.base CX k C y sp) (hr : Room (k + 1) X.A) (hx : Passes CX X E) (hN : X.N[i]? = some x) (hv : Vis X.env.scope x) (he : PE X e te)
    (hdb : (x == ("__debug__" : Str)) = false := by decide) (hcd : (x == ("__classdict__" : Str)) = false := by decide)
    (hst : starEach [.Starred e sp_] X.env = [(true, eval e X.env)] := by rfl) : PE X (.Call (.Name x p) [.Starred e sp_] [] pos) (tMkL i C sp E (tStar X.K te tNil)) := by
  obtain ⟨f, F, M, hm⟩ := G.ex
  refine ⟨fun pins s σ H Q I h => ?_⟩
  obtain ⟨hs, ht⟩ := h
  refine wpAny_Call_Name_kw (thn ((pe_var (pos := p) hN hv hdb hcd).run pins s σ H (fun v H1 => v = .ref C ∧ H1 = H) I ⟨.ref C, hs, rfl, rfl⟩) fun u s1 ⟨v, H1, I1, r1, q1⟩ => ?_)
  obtain ⟨rfl, rfl⟩ := q1
  cases r1
  refine PySem.W.callWith_S (h₀ := X.base) I.ok.mod.kin M.kp (thn (he.run pins s1 σ _ _ I1 ht) fun v s1 ⟨y, H1, I1, ry, a, xs, ey, hxs, q⟩ => ?_) hst
  subst ey
  obtain rfl : v = Value.ref a := ry
  refine star_any I1 hxs fun us s2 I2 rv => ⟨I2.kIn, run_makeR M F hr hx I2 rv ?_⟩
  have q' : ∀ x dx, H1 x = none → H1 dx = none → dx ≠ x → sp (V.ref x :: (xs ++ [])) (upd (upd H1 dx (.own x)) x (.ins C dx [])) (fun v H2 => v = .non ∧ Q (.ref x) H2) E := q
  rw [List.append_nil] at q'
  exact q'
end MF
set_option Elab.async false
set_option linter.all false
set_option maxRecDepth 100000
set_option maxHeartbeats 1000000
namespace MF
open PySem PySem.Spec PyProof.Rows L2 StX
structure SMDef (K : PySem.W.Frag) (C : Addr) (m qual : Str) (st : Stmt) (p1 pv : Str) : Prop where
  ex : ∃ f fd, Fun K m qual st f fd ∧ Meth K C m f ∧ ∀ us rest : List Value, us.length = [p1].length → bindArgs fd ⟨us ++ rest, []⟩ = (newTuple rest >>= fun t => pure ([p1].zip us ++ [(pv, t)]))
theorem SMDef.fn0 {P : Program} {w : World} {K : PySem.W.Frag} {mg : Str → Option Value} {base : Heap} {k : Nat} {C : Addr} {m qual p1 pv : Str} {st : Stmt} {N : List Str} {sp : Sp} (D : SMDef K C m qual st p1 pv) (S : FnScope N [p1, pv] (defScope st))
    (hbody : ∀ (f : Addr) (cdv : Value) (A : Around) (outer : List Env) (s : Shared) (H : Hp) (vs : List V) (Q : VK) (E : XK), Room k (A.deeper (envOfC qual (defScope st) s.heap.objs.size f cdv)) → sp vs H Q E →
      ∃ t, PSs (cxOf CX0 P w K mg base N qual (defScope st) f cdv A outer s H E).nox (defBody st) t ∧ t { nx := fun _ H' => Q .non H', rt := Q } (start N vs) H) :
    MFn P w K mg base CX0 (k + 1) C m (fun vs H Q E => ∃ v rest, vs = v :: rest ∧ rest.length ≤ sizeLine ∧ ∀ p, H p = Option.none → sp [v, V.ref p] (upd H p (.tup rest)) Q E) := by
  obtain ⟨f, fd, F, M, hb⟩ := D.ex
  obtain ⟨oc, od, kV, doc, pm, an, cdv, ct, osl, rfl, lk, hcd⟩ := F.ex
  refine ⟨f, (fn_star (ps := [p1]) (pv := pv) (sp := sp) lk hcd S cxUp_none hb fun A outer s H vs Q E hr hsp => ?_).imp fun vs H Q E h => ?_, M⟩
  · obtain ⟨t, h, q⟩ := hbody f cdv A outer s H vs Q E hr hsp
    exact ⟨t, h.nox, q⟩
  · obtain ⟨v, rest, rfl, hl, q⟩ := h
    exact ⟨[v], rest, rfl, rfl, hl, q⟩
theorem op_notIn_seqK {X : Cx} {K : PySem.W.Frag} (h : X.K = K := by rfl) : OpR X (compareOp .NotIn) (rIn K true) := h ▸ op_notIn_seq
theorem op_in_seqK {X : Cx} {K : PySem.W.Frag} (h : X.K = K := by rfl) : OpR X (compareOp .In) (rIn K false) := h ▸ op_in_seq
end MF
set_option Elab.async false
set_option linter.all false
set_option maxRecDepth 100000
set_option maxHeartbeats 2000000
namespace MF
open PySem PySem.Spec PyProof.Rows L2 StX ClX
theorem passE {P : Program} {w : World} {K : PySem.W.Frag} {mg : Str → Option Value} {base : Heap} {N : List Str} {q : Str} {sc : Scope} {f : Addr} {cdv : Value} {A : Around} {outer : List Env} {s : Shared} {H : Hp} {E : XK} :
    Passes (L2.CX P w) (cxOf (L2.CX P w) P w K mg base N q sc f cdv A outer s H E) E := passes_call (W := fun cls d _ H => E cls d H) (takes_of rfl rfl rfl rfl) fun _ _ _ _ h => h
theorem takeE {P : Program} {w : World} {K : PySem.W.Frag} {mg : Str → Option Value} {base : Heap} {N : List Str} {q : Str} {sc : Scope} {f : Addr} {cdv : Value} {A : Around} {outer : List Env} {s : Shared} {H : Hp} {E : XK} :
    Takes (cxOf (L2.CX P w) P w K mg base N q sc f cdv A outer s H E) (fun cls d _ H => E cls d H) := takes_of rfl rfl rfl rfl
def txtOf : V → Str
  | .str y => y
  | .int i => toString i
  | .bl b => if b then "True" else "False"
  | _ => "None"
def FmtOk : V → Prop
  | .str y => y.length ≤ 1000
  | .int i => i.natAbs.log2 < 1920
  | .bl _ => True
  | .non => True
  | _ => False
def tFmtV (te : TE) : TE := fun σ H Q => te σ H fun x H1 => FmtOk x ∧ ∀ y : Str, y.length ≤ 100000 → Q (.str y) H1
theorem int_len (i : Int) (h : i.natAbs.log2 < 1920) : (Str.ofString (toString i)).length ≤ 100000 := by
  have e := int_text_length_le (k := 1920) (by decide) h
  rw [PySem.ofString_length]
  omega
section
variable {X : Cx}
theorem pe_fmtV {e : Expr} {te : TE} {pos : Pos} (he : PE X e te) : PE X (.FormattedValue e (-1) none pos) (tFmtV te) := by
  refine ⟨fun pins s σ H Q I h => ?_⟩
  refine wpAny_FormattedValue_plain (thn (he.run pins s σ H _ I h) fun v s1 hv => ?_)
  obtain ⟨x, H1, I1, r1, hx, q⟩ := hv
  cases x with
  | str y =>
    obtain ⟨t, rfl⟩ := r1
    have hz : y.length ≤ 1000 := hx
    have hz2 : y.length ≤ sizeLine := Nat.le_trans hz (by rw [sizeLine_eq]; omega)
    exact wpAny_formatField_str ⟨.str y, H1, I1, ⟨t, rfl⟩, q y (by omega)⟩ ⟨.str y, H1, I1.tok _, ⟨_, rfl⟩, q y (by omega)⟩ hz2
  | int i =>
    obtain ⟨t, rfl⟩ := r1
    exact wpAny_formatField_int hx ⟨.str (toString i), H1, I1.tok _, ⟨_, rfl⟩, q _ (int_len i hx)⟩
  | bl b =>
    obtain rfl : v = Value.bool b := r1
    refine wpAny_formatField_bool ⟨.str (if b then "True" else "False"), H1, I1.tok _, ⟨_, rfl⟩, q _ ?_⟩
    cases b <;> decide +kernel
  | non =>
    obtain rfl : v = Value.none := r1
    exact wpAny_formatField_none ⟨.str "None", H1, I1.tok _, ⟨_, rfl⟩, q _ (by decide +kernel)⟩
  | _ => exact hx.elim
structure BaseC (K : PySem.W.Frag) (B : Addr) : Prop where
  ex : ∃ mc, CRead K B mc ∧ PySem.W.findCls K (.ref B) mc "__init__" = some (.val (.builtin "ValueError.__init__"))
theorem pe_binit {pl : Sem Bool} {B : Addr} {x : Str} {e : Expr} {es : List Expr} {ta : TA} {p1 p2 pos : Pos} (hg : Gl X x) (hm : X.mg x = some (.ref B)) (b : BaseC X.K B) (ha : PA X (e :: es) ta) (hdb : (x == ("__debug__" : Str)) = false := by decide)
    (hc : eval (.Call (.Attribute (.Name x p1) "__init__" p2) (e :: es) [] pos) X.env = (do
      let ov ← eval (.Name x p1) X.env
      standAt p2.atName
      let (f, first) ← holding [ov] (getMethod ov "__init__" pl)
      callWith pos f first (backTo pos (starEach (e :: es) X.env)) (backToKw pos (keywordEach [] X.env))) := by rfl)
    (he : starEach (e :: es) X.env = (false, eval e X.env) :: starEach es X.env := by rfl) (hpl : (backTo pos (starEach es X.env)).any (·.1) = false := by rfl) :
    PE X (.Call (.Attribute (.Name x p1) "__init__" p2) (e :: es) [] pos) (tVeI X.K ta) := by
  refine ⟨fun pins s σ H Q I h => ?_⟩
  obtain ⟨mc, r, f0⟩ := b.ex
  refine PySem.W.methodCall_KW (ld_glob I hg hm ?_ hdb) hc
  refine PySem.W.method_cls I.kIn r.ga (PySem.W.cls_value I.kIn r.rd f0 rfl ?_)
  show wpAny _ _ (callWith pos (Value.builtin "ValueError.__init__") [] (backTo pos (starEach (e :: es) X.env)) []) _ _ _
  refine PyProof.Rows.callWith_method1 (thn (ha.run pos pins _ σ H _ (I.tok _) h) fun us s1 ⟨vs, H1, I1, r1, a, C, ws, ev, hl, T, ea, q⟩ => ?_) he hpl
  subst ev
  cases r1 with
  | @cons _ u0 _ ur ra rw' =>
    obtain rfl : u0 = Value.ref a := ra
    have hlen : ur.length ≤ sizeLine := by
      rw [← Paired.length rw', sizeLine_eq]
      omega
    exact oinit_ok T I1 ea hlen fun s' J => ⟨.non, H1, J, rfl, q⟩
end
structure EDef0 (K : PySem.W.Frag) (mg : Str → Option Value) (C : Addr) (x : Str) : Prop where
  bm : PySem.W.excIn K C [.type "ValueError", .type "Exception", .type "BaseException", .type "object"] "ValueError.__new__" = true
  gC : mg x = some (.ref C)
  kC : PySem.W.keepIn K (.ref C) = true
  exC : PySem.W.subIn K (.ref C) (.type "BaseException") = some true
  tyC : PySem.W.typeIn K (.ref C) = some (.type "type")
theorem pmk_0 {X : Cx} {C : Addr} {x : Str} {e : Expr} {es : List Expr} {t : TA} {p pos : Pos} (D : EDef0 X.K X.mg C x) (ha : PA X (e :: es) t) (hg : Gl X x := by rfl) (hdb : (x == ("__debug__" : Str)) = false := by decide)
    (he : starEach (e :: es) X.env = (false, eval e X.env) :: starEach es X.env := by rfl) (hpl : (backTo pos (starEach es X.env)).any (·.1) = false := by rfl) :
    PMk X (.Call (.Name x p) (e :: es) [] pos) (fun σ H Q => t σ H fun vs H1 => vs.length ≤ sizeLine ∧ Q (.ref C) none H1) :=
  pmk_ownA F.excBase_ValueError D.bm D.gC D.kC (raises_own D.exC D.tyC) hg ha hdb he hpl
structure EDef (K : PySem.W.Frag) (mg : Str → Option Value) (C : Addr) (x qual : Str) (st : Stmt) (ps : List Str) : Prop where
  ex : ∃ f fd, Fun K "__init__" qual st f fd ∧ PySem.W.findIn K (.ref C) "__init__" = some (some (.ref f)) ∧ PySem.W.typeIn K (.ref f) = some (.type "function") ∧ Binds K fd ps []
  ox : OexC K C
  gC : mg x = some (.ref C)
structure EFn (P : Program) (w : World) (K : PySem.W.Frag) (mg : Str → Option Value) (base : Heap) (CX : CXT) (k : Nat) (C : Addr) (x : Str) (ps : List Str) (sp : Sp) : Prop where
  ex : ∃ f fd, FnOk P w K mg base CX k f fd ps sp ∧ PySem.W.findIn K (.ref C) "__init__" = some (some (.ref f)) ∧ PySem.W.typeIn K (.ref f) = some (.type "function") ∧ Binds K fd ps []
  ox : OexC K C
  gC : mg x = some (.ref C)
theorem EDef.fn {P : Program} {w : World} {K : PySem.W.Frag} {mg : Str → Option Value} {base : Heap} {CX : CXT} {k : Nat} {C : Addr} {x qual : Str} {st : Stmt} {ps : List Str} {sp : Sp} (D : EDef K mg C x qual st ps) (h : ∀ f fd, Fun K "__init__" qual st f fd → FnOk P w K mg base CX k f fd ps sp) : EFn P w K mg base CX k C x ps sp :=
  let ⟨f, fd, a, b, c, d⟩ := D.ex
  ⟨⟨f, fd, h f fd a, b, c, d⟩, D.ox, D.gC⟩
def spE1 (K : PySem.W.Frag) (C : Addr) (n : Str) : Sp := fun vs H Q _ => ∃ a v, vs = [.ref a, v] ∧ FmtOk v ∧ H a = some (exo a C none) ∧ ∀ dx, H dx = none → dx ≠ a → Q .non (upd (upd H dx (exd dx [(n, v)])) a (exo a C (some dx)))
theorem pmk_1 {X : Cx} {k : Nat} {C : Addr} {x : Str} {ps : List Str} {sp : Sp} {e : Expr} {es : List Expr} {t : TA} {p pos : Pos} (D : EFn X.prog X.w X.K X.mg X.base CX0 k C x ps sp) (hr : Room (k + 1) X.A) (ha : PA X (e :: es) t) (hg : Gl X x := by rfl) (hdb : (x == ("__debug__" : Str)) = false := by decide)
    (he : starEach (e :: es) X.env = (false, eval e X.env) :: starEach es X.env := by rfl) (hpl : (backTo pos (starEach es X.env)).any (·.1) = false := by rfl) :
    PMk X (.Call (.Name x p) (e :: es) [] pos) (tMkO C sp [] t) := by
  obtain ⟨f, fd, F1, b, c, d⟩ := D.ex
  exact pmk_oex (p := p) (pos := pos) (dvs := []) (ds := []) D.ox b c F1 hr d .nil pass0 hg D.gC ha hdb he hpl
theorem e1_fin {K : PySem.W.Frag} {C : Addr} {n : Str} {v : V} {H1 : Hp} {Q : XK} (hf : FmtOk v) (h : ∀ d H3, Same H1 H3 → H1 d = none → H3 d = some (.xd [(n, v)]) → Q (.ref C) (some d) H3) :
    [v].length ≤ 1000 ∧ ∀ a, H1 a = none → spE1 K C n (.ref a :: ([v] ++ [])) (upd H1 a (exo a C none))
      (fun v H2 => v = .non ∧ ∃ (d : Addr) (fs : List (Str × V)), H2 a = some (exo a C (some d)) ∧ H2 d = some (exd d fs) ∧ H1 d = none ∧ Q (.ref C) (some d) (upd (del H2 a) d (.xd fs))) (fun _ _ _ => False) := by
  refine ⟨by simp, fun a ha => ⟨a, v, rfl, hf, upd_same, fun dx hd ne => ⟨rfl, dx, [(n, v)], upd_same, ?_, ?_, ?_⟩⟩⟩
  · rw [upd_ne ne, upd_same]
  · rw [upd_ne ne] at hd
    exact hd
  · have hd1 : H1 dx = none := by
      rw [upd_ne ne] at hd
      exact hd
    refine h dx _ (fun b u e => ?_) hd1 upd_same
    rw [upd_ne (ne_of_none e hd1), del_ne (ne_of_none e ha), upd_ne (ne_of_none e ha), upd_ne (ne_of_none e hd1), upd_ne (ne_of_none e ha)]
    exact e
end MF
namespace PySem.W
open PySem PySem.Spec PySem.Calls PyProof.Rows
section
variable {prog : Program} {w : World} {A : Around} {E : Value → Shared → Prop} {s : Shared} {K : Frag} {x D : Addr} {ox : Obj} {od : Option Obj}
theorem mf_findObj {C : Addr} {name : Str} {a g : Value} (hc : (clsIn K C).isSome = true) (ha : findIn K (.ref C) name = some (some a)) (hg : specialIn K a "__get__" = some (some g)) (ht : takesIn K a = some true) : findObj K C od name = some (.bind g a) := by
  cases od with
  | none => exact findObj_dataN hc ha hg ht
  | some od => exact findObj_data hc ha hg ht
theorem mf_classE {Q : Option Value → Shared → Prop} (hga : findIn K (.ref D) "__getattribute__" = some (some (.builtin "BaseException.__getattribute__"))) (hgt : findIn K (.ref D) "__getattr__" = some none) (hsub : subIn K (.ref D) (.type "BaseException") = some true)
    (hdct : hasDictIn K D = true) (ha : findIn K (.ref D) "__class__" = some (some (.builtin "object.__class__")))
    (hn : specialIn K (.builtin "object.__class__") "__get__" = some (some (.builtin "getset_descriptor.__get__"))) (htk : takesIn K (.builtin "object.__class__") = some true) (hm : mroIn K D (.type "object") = some true)
    (X : K.In s.heap) (I : InstAt s.heap x ox D od) (h : Q (some (.ref D)) { s with toks := s.toks + 1 }) : wpAny (model prog w) A (getAttr? (.ref x) "__class__") Q E s := by
  have hf : findObj K D od "__class__" = some (.bind (.builtin "getset_descriptor.__get__") (.builtin "object.__class__")) := mf_findObj (by obtain ⟨cd, hc, _⟩ := any_some hdct; rw [hc]; rfl) ha hn htk
  obtain ⟨hp, g, d, t, os⟩ := s
  have L0 := I.type (M := model prog w)
  have L1 := looks_findIn (M := model prog w) X hga
  have L2 := looks_findIn (M := model prog w) X hgt
  have L3 := looks_find (M := model prog w) X I hf
  have sub : Looks (model prog w) hp (isInstance (.ref x) (.type "BaseException")) true := L0.andThen (looks_subIn X hsub)
  have hx0 : (false && onTheHeap (Value.builtin "BaseException.__getattribute__")) = false := rfl
  have hx2 : (Value.builtin "BaseException.__getattribute__" == Value.builtin "object.__getattribute__") = false := by decide +kernel
  have hx1 : (onTheHeap (Value.ref D) && Value.builtin "BaseException.__getattribute__" == Value.builtin "object.__getattribute__") = false := by rw [hx2]; rfl
  unfold getAttr? getAttrBy? getAttrBy
  refine wpAny_bind (wpAny_mkText (wpAny_bind (wpAny_attempt (wpAny_holding (wpAny_bind (L0.at (wpAny_bind (L1.at ?_))))))))
  show wpAny _ _ (if (onTheHeap (Value.ref D) && Value.builtin "BaseException.__getattribute__" == Value.builtin "object.__getattribute__") = true then _ else _) _ _ _
  rw [hx1, if_neg Bool.false_ne_true]
  unfold getAttrByItsOwn hookBefore
  refine wpAny_bind ?_
  rw [if_pos (show onTheHeap (Value.ref D) = true from rfl)]
  refine L2.at ?_
  refine wpAny_bind (wpAny_attempt (wpAny_holding ?_))
  unfold callGetattribute
  rw [hx0, if_neg Bool.false_ne_true]
  unfold boundAndCalled
  rw [PySem.F.excAttr_ValueError.ga.bind (.ref x)]
  refine wpAny_bind (wpAny_pure ?_)
  show wpAny _ _ (call (.builtin "BaseException.__getattribute__") [.ref x, .str "__class__" t]) _ _ _
  refine wpAny_call (codeAny_call_builtin PySem.F.excAttr_ValueError.ga.plain PySem.F.entry_bexc_ga ?_)
  refine @check_slot (model prog w) _ _ ⟨hp, g, d, t + 1, os⟩ "BaseException.__getattribute__" "BaseException" "__getattribute__" (.ref x) [.str "__class__" t] [] _ (by decide +kernel) (by decide +kernel) sub (PySem.F.args_bexc_ga (.ref x) (.str "__class__" t)) ?_
  unfold Builtin.«object.__getattribute__»
  refine wpAny_bind (wpAny_of_eq (a := ((Value.ref x : Value), [Value.str "__class__" t])) (by first | rfl | (simp only [slotArgs]; rfl)) ?_)
  refine wpAny_bind (wpAny_pure (wpAny_bind (L0.at (wpAny_bind (L3.at ?_)))))
  show wpAny _ _ (holding [Value.builtin "object.__class__"] (call (.builtin "getset_descriptor.__get__") [.builtin "object.__class__", .ref x, .ref D]) >>= ret) _ _ _
  refine wpAny_bind (wpAny_holding (wpAny_call (class_get (s := ⟨hp, g, d, t + 1, os⟩) (ox := ox) (od := od) X I hm ?_)))
  refine wpAny_pure ?_
  show wpAny _ _ (handedOut (.ref D)) _ _ _
  rw [handedOut_of (v := .ref D) rfl]
  first
    | exact wpAny_pure (wpAny_pure h)
    | exact wpAny_pure h
    | exact wpAny_pure (wpAny_bind (wpAny_pure (wpAny_pure h)))
theorem mf_kitx (hga : findIn K (.ref D) "__getattribute__" = some (some (.builtin "BaseException.__getattribute__"))) (hgt : findIn K (.ref D) "__getattr__" = some none) (hsub : subIn K (.ref D) (.type "BaseException") = some true) (hdct : hasDictIn K D = true) (ha : findIn K (.ref D) "__class__" = some (some (.builtin "object.__class__")))
    (hn : specialIn K (.builtin "object.__class__") "__get__" = some (some (.builtin "getset_descriptor.__get__"))) (htk : takesIn K (.builtin "object.__class__") = some true) (hm : mroIn K D (.type "object") = some true) :
    KitX K (.ref x) (.ref D) (fun h => InstAt h x ox D od) where
  ty := fun _ _ _ I => I.type
  it := fun _ _ X _ => by
    obtain ⟨cdD, hcD, _⟩ := any_some hdct
    unfold clsIn at hcD
    split at hcD
    · rename_i c' d' cd' sl' ho
      intro A' Q' E' s' k q
      unfold isType loadHead
      exact wpAny_bind (wpAny_loadPart (k _ _ (X _ _ ho)) (wpAny_pure q))
    · cases hcD
  ne := fun h tp dd its n sl X htp => by
    obtain ⟨cdD, hcD, _⟩ := any_some hdct
    refine Bool.eq_false_iff.mpr fun q => ?_
    have e : D = tp := Value.ref.inj (beq_iff_eq.mp q)
    subst e
    unfold clsIn at hcD
    split at hcD
    · rename_i c' d' cd' sl' ho
      have z := (X _ _ ho).symm.trans htp
      cases z
    · cases hcD
  ca := fun X I k => mf_classE hga hgt hsub hdct ha hn htk hm X I k
end
end PySem.W
namespace MF
open PySem PySem.Spec PyProof.Rows L2 StX ClX
def DictSt (H : Hp) (d : Option Addr) : Prop := ∀ dd, d = some dd → ∃ fs : List (Str × V), H dd = some (.xd fs)
def rIsX (K : PySem.W.Frag) (D a : Addr) (d : Option Addr) : List V → Hp → VK → Prop := fun xs H Q => ∃ (c : V) (cv : Value) (b : Bool), xs = [.ref a, c] ∧ (∀ u, RelV c u → u = cv) ∧ PySem.W.kitOne K (.ref D) cv = some b ∧ DictSt H d ∧ Q (.bl b) H
theorem call_isX {X : Cx} {a D : Addr} {d : Option Addr} {oe : Obj} {pn : List (Addr × Obj)} (C : ExcC X.K D) (hz : Zc (.ref D) d oe) (hf : ∃ vs, oe.data = .fields vs) : CallR (X.suite a ((a, oe) :: pn)) (.builtin "isinstance") (rIsX X.K D a d) := by
  intro pins s σ H xs us Q I r h
  obtain ⟨c, cv, b, rfl, hcv, e, hd, q⟩ := h
  cases r with
  | cons rx rr =>
    cases rr with
    | cons rt rr =>
      cases rr
      cases rx
      have ec := hcv _ rt
      subst ec
      obtain ⟨hget, _⟩ := I.pin (a, oe) (List.mem_append.mpr (.inl List.mem_cons_self))
      obtain ⟨vs, hv⟩ := hf
      have J : ∃ od, PySem.W.InstAt s.heap a oe D od := by
        cases d with
        | none =>
          obtain ⟨oc, odd, oda, osl⟩ := oe
          obtain ⟨h1, h2⟩ := hz
          dsimp only at h1 h2 hv
          subst h1 h2 hv
          exact ⟨none, hget, rfl, rfl, trivial⟩
        | some dd =>
          obtain ⟨fs, hx⟩ := hd dd rfl
          have hx' : ObjOk X.prog X.w H s.heap dd (.xd fs) := I.hok dd _ hx
          obtain ⟨mA, hns, hr⟩ := hx'
          obtain ⟨od, ho, hl⟩ := lookIn_ns hns
          exact ⟨some od, hget, hz.1, by unfold PySem.W.notCls; rw [hv] <;> rfl, by rw [hz.2]; exact ho⟩
      obtain ⟨od, J⟩ := J
      exact PySem.W.kia_one (PySem.W.mf_kitx C.hg C.hk C.hs C.hd C.ha C.hn C.ht C.hm) I.kIn J e (fun z => nomatch z) fun tk => ⟨.bl b, H, I.kept (t' := tk) fun _ _ z => z, rfl, q⟩
end MF
set_option Elab.async false
set_option linter.all false
set_option maxRecDepth 100000
set_option maxHeartbeats 2000000
namespace MF
open PySem PySem.Spec PyProof.Rows L2 StX LamX
abbrev lamFd (q : Str) (params : Arguments) (body : Expr) (scope : Scope) (cl : List (Str × Addr)) (dV doc pm cv ctv : Value) : FuncData := PySem.W.kdv_fn "<lambda>" q params (.expr body) scope cl dV doc pm cv ctv
def LamO (f : Addr) (q : Str) (params : Arguments) (body : Expr) (scope : Scope) (cl : List (Str × Addr)) (dV : Value) (c' : Addr) : HO :=
  .ext fun h => ∃ doc pm ctv : Value, h.get? f = some { cls := .type "function", data := .func (lamFd q params body scope cl dV doc pm (.ref c') ctv) }
def DfO (T : Addr) : HO := .ext fun h => ∃ u : Value, h.get? T = some (PySem.W.kdv_tup [u])
section
variable {P : Program} {w : World} {H : Hp} {h : Heap} {f c' T : Addr} {q : Str} {params : Arguments} {body : Expr} {scope : Scope} {cl : List (Str × Addr)} {dV doc pm ctv u : Value}
theorem lamO_ok (e : h.get? f = some { cls := .type "function", data := .func (lamFd q params body scope cl dV doc pm (.ref c') ctv) }) : ObjOk P w H h f (LamO f q params body scope cl dV c') :=
  ⟨⟨doc, pm, ctv, e⟩, ⟨_, e⟩, fun h1 h2 z k => by
    obtain ⟨d, p, t, a⟩ := z
    exact ⟨d, p, t, k _ a⟩⟩
theorem lamO_ne (ps : Array Value) : LamO f q params body scope cl dV c' ≠ .tbl ps := fun z => by
  unfold LamO at z
  cases z
theorem lamO_at (hok : HOk P w H h) (e : H f = some (LamO f q params body scope cl dV c')) : ∃ doc pm ctv : Value, h.get? f = some { cls := .type "function", data := .func (lamFd q params body scope cl dV doc pm (.ref c') ctv) } := by
  have x : ObjOk P w H h f (LamO f q params body scope cl dV c') := hok f _ e
  exact x.1
theorem dfO_ok (e : h.get? T = some (PySem.W.kdv_tup [u])) : ObjOk P w H h T (DfO T) :=
  ⟨⟨u, e⟩, ⟨_, e⟩, fun h1 h2 z k => by
    obtain ⟨v, a⟩ := z
    exact ⟨v, k _ a⟩⟩
theorem dfO_at (hok : HOk P w H h) (e : H T = some (DfO T)) : ∃ u : Value, h.get? T = some (PySem.W.kdv_tup [u]) := by
  have x : ObjOk P w H h T (DfO T) := hok T _ e
  exact x.1
end
def DflAt (dx : Option Str) (dV : Value) (H : Hp) : Prop := match dx with
  | none => dV = .none
  | some _ => ∃ T, dV = .ref T ∧ H T = some (DfO T)
theorem DflAt.keep {dx : Option Str} {dV : Value} {H H' : Hp} (h : DflAt dx dV H) (e : ∀ b φ, H b = some (.ext φ) → H' b = some (.ext φ)) : DflAt dx dV H' := by
  cases dx with
  | none => exact h
  | some x =>
    obtain ⟨T, e1, e2⟩ := h
    exact ⟨T, e1, e _ _ e2⟩
theorem DflAt.extN {dx : Option Str} {dV : Value} {H H' : Hp} (h : DflAt dx dV H) (e : ExtN H H') : DflAt dx dV H' := h.keep fun b φ z => e _ _ z fun ps y => by cases y
section
variable {X : Cx} {pins : List (Addr × Obj)} {σ : L2.St} {H : Hp} {s : Shared}
theorem lam_tailO {dx : Option Str} {dV : Value} {T : List (Addr × Str)} {c P : Addr} {params : Arguments} {body : Expr} {scope : Scope} {pos : Pos} {E : Value → Shared → Prop} {Q : Value → Shared → Prop} (I : Inv X pins σ H s) (TB : TabB X.base X.mg c P) (hcode : X.env.code = .ref c)
    (hm : (P, X.env.qual ++ "<lambda>") ∈ T) (hu : ∀ p ∈ T, p.1 = P → p.2 = X.env.qual ++ "<lambda>") (hT : Tabs T H) (hfree : ∀ y ∈ scope.names, y.2 = .free → ∃ c, X.env.cells.lookup y.1 = some c) (hD : DflAt dx dV H)
    (h : ∀ (f c' : Addr) (H1 : Hp) (s' : Shared), Inv X pins σ H1 s' → ExtN H H1 → Tabs T H1 → H f = none → H1 f = some (LamO f (X.env.qual ++ "<lambda>") params body scope (cloFrom X.env.cells scope.names []) dV c') → DflAt dx dV H1 → H1 c' = some (CodeO c' (X.env.qual ++ "<lambda>")) → Q (.ref f) s') :
    wpAny (model X.prog X.w) X.A (makeTail "<lambda>" (X.env.qual ++ "<lambda>") params (.expr body) scope X.env dV .none none pos pos.line) Q E s := by
  obtain ⟨ps, hP, ht, ha⟩ := hT _ hm
  have bP : s.heap.BuiltinsAt X.mg P := TB.bm.keeps I.bk
  have hP' : s.heap.get? P = some { cls := .none, data := .fields ps } := I.hok P _ hP
  have step : ∀ (h' : Heap) (tk : Nat) (H1 : Hp) (c' : Addr) (doc ctv : Value), Inv X pins σ H1 { s with heap := h', toks := tk } → s.heap.objs.size ≤ h'.objs.size → ExtN H H1 → Tabs T H1 → H1 c' = some (CodeO c' (X.env.qual ++ "<lambda>")) →
      Q (.ref h'.objs.size) { s with heap := h'.push (PySem.W.kdv_obj "<lambda>" (X.env.qual ++ "<lambda>") params (.expr body) scope (cloFrom X.env.cells scope.names []) dV doc ((X.mg "__name__").getD .none) c' ctv), toks := tk } := by
    intro h' tk H1 c' doc ctv I1 hsz eN T1 hc
    have n1 : H1 h'.objs.size = none := I1.hok.fresh (Nat.le_refl _)
    have J := I1.laid (t' := tk) (a := h'.objs.size) (h' := h'.push (PySem.W.kdv_obj "<lambda>" (X.env.qual ++ "<lambda>") params (.expr body) scope (cloFrom X.env.cells scope.names []) dV doc ((X.mg "__name__").getD .none) c' ctv)) (o := LamO h'.objs.size (X.env.qual ++ "<lambda>") params body scope (cloFrom X.env.cells scope.names []) dV c')
      (fun b o e => Heap.get?_push_of_some _ e) (Nat.le_refl _) (lamO_ok (Heap.get?_push_size _ rfl))
    have e2 : ExtN H1 (upd H1 h'.objs.size (LamO h'.objs.size (X.env.qual ++ "<lambda>") params body scope (cloFrom X.env.cells scope.names []) dV c')) := ExtN.of fun b o e => by rw [upd_ne (ne_of_none e n1)]; exact e
    refine h h'.objs.size c' _ _ J (eN.trans e2) (T1.ext fun b o e => by rw [upd_ne (ne_of_none e n1)]; exact e) (I.hok.fresh hsz) upd_same ((hD.extN eN).extN e2) (by rw [upd_ne (ne_of_none hc n1)]; exact hc)
  cases hc : codeAmong pos ps.toList with
  | none =>
    refine PySem.W.kdv_makeTail (mg := X.mg) (c := c) (P := P) (ps := ps) (closure_ok hfree) I.ok.glob (I.mod.glob.keeps I.bk) hcode (TB.code.keeps I.bk) hP' ht hc TB.gP bP fun c' ctv doc h' tk hx hge hlt hrec htb => ?_
    obtain ⟨c2, oc, vs, t, e2, hoc, hd, hv⟩ := hrec
    cases e2
    have nC : H c' = none := I.hok.fresh hge
    have I1 := inv_table (t' := tk) (q := X.env.qual ++ "<lambda>") (more := #[rawInt pos.line, rawInt pos.col, .ref c']) (h' := h') I hP (fun b o hb e => hx b o hb e) htb hge ⟨oc, vs, t, hoc, hd, hv⟩
    have hE : ExtN H (upd (upd H P (.tbl (ps ++ #[rawInt pos.line, rawInt pos.col, .ref c']))) c' (CodeO c' (X.env.qual ++ "<lambda>"))) := fun b o e n => by
      rw [upd_ne (ne_of_none e nC), upd_ne (fun z => n ps (Option.some.inj (e.symm.trans (by rw [z]; exact hP))))]
      exact e
    have eL : (ps ++ #[rawInt pos.line, rawInt pos.col, .ref c']).toList = ps.toList ++ [rawInt pos.line, rawInt pos.col, .ref c'] := by simp
    refine step h' tk _ c' doc ctv I1 (Nat.le_trans hge (Nat.le_of_lt hlt)) hE (fun p hp => ?_) upd_same
    by_cases hb : p.1 = P
    · rw [hu p hp hb, hb]
      refine ⟨_, by rw [upd_ne (ne_of_none hP nC), upd_same], by rw [eL]; exact PySem.TriplesOk_snoc _ _ _ _ ht, fun p' cv hcv => ?_⟩
      rw [eL] at hcv
      rcases among_app _ ht hcv with z | z
      · obtain ⟨c0, e1, e2⟩ := ha p' cv z
        exact ⟨c0, e1, hE _ _ e2 codeO_ne⟩
      · exact ⟨c', z, upd_same⟩
    · obtain ⟨ps', a1, a2, a3⟩ := hT p hp
      refine ⟨ps', by rw [upd_ne (ne_of_none a1 nC), upd_ne hb]; exact a1, a2, fun p' cv hcv => ?_⟩
      obtain ⟨c0, e1, e2⟩ := a3 p' cv hcv
      exact ⟨c0, e1, hE _ _ e2 codeO_ne⟩
  | some cv =>
    obtain ⟨c', e, hco⟩ := ha pos cv hc
    subst e
    refine PySem.W.kdv_makeTailHit (mg := X.mg) (c := c) (P := P) (ps := ps) (closure_ok hfree) I.ok.glob (I.mod.glob.keeps I.bk) hcode (TB.code.keeps I.bk) hP' ht hc bP fun ctv doc h' tk hx hsz => ?_
    exact step h' tk H c' doc ctv (I.kept (t' := tk) hx) hsz (ExtN.refl H) hT hco
theorem lam_makeO {T : List (Addr × Str)} {c P : Addr} {params : Arguments} {body : Expr} {scope : Scope} {pos : Pos} {E : Value → Shared → Prop} {Q : Value → Shared → Prop} (I : Inv X pins σ H s) (TB : TabB X.base X.mg c P) (hcode : X.env.code = .ref c)
    (hm : (P, X.env.qual ++ "<lambda>") ∈ T) (hu : ∀ p ∈ T, p.1 = P → p.2 = X.env.qual ++ "<lambda>") (hT : Tabs T H) (hdef : defaultsOf params X.env = ([], [])) (hfree : ∀ y ∈ scope.names, y.2 = .free → ∃ c, X.env.cells.lookup y.1 = some c)
    (h : ∀ (f c' : Addr) (H1 : Hp) (s' : Shared), Inv X pins σ H1 s' → ExtN H H1 → Tabs T H1 → H f = none → H1 f = some (LamO f (X.env.qual ++ "<lambda>") params body scope (cloFrom X.env.cells scope.names []) .none c') → H1 c' = some (CodeO c' (X.env.qual ++ "<lambda>")) → Q (.ref f) s') :
    wpAny (model X.prog X.w) X.A (eval (.Lambda params body scope pos) X.env) Q E s := by
  refine PySem.W.kla_eval hdef ?_
  rw [makeFunction_eq]
  simp only [List.zip_nil_right, List.filterMap_nil, List.isEmpty_nil, if_true, pure_bind]
  exact lam_tailO (dx := none) I TB hcode hm hu hT hfree rfl fun f c' H1 s' I1 eN T1 fn hf _ hc => h f c' H1 s' I1 eN T1 fn hf hc
theorem lam_makeD {x : Str} {T : List (Addr × Str)} {c P : Addr} {params : Arguments} {body : Expr} {scope : Scope} {pos p0 : Pos} {i0 : Int} {j0 : Nat} {E : Value → Shared → Prop} {Q : Value → Shared → Prop} (I : Inv X pins σ H s) (TB : TabB X.base X.mg c P) (hcode : X.env.code = .ref c)
    (hm : (P, X.env.qual ++ "<lambda>") ∈ T) (hu : ∀ p ∈ T, p.1 = P → p.2 = X.env.qual ++ "<lambda>") (hT : Tabs T H) (hdef : params.defaults = [.Constant (.int i0) j0 p0]) (hkw : params.kw_defaults = []) (hfree : ∀ y ∈ scope.names, y.2 = .free → ∃ c, X.env.cells.lookup y.1 = some c)
    (h : ∀ (f c' : Addr) (dV : Value) (H1 : Hp) (s' : Shared), Inv X pins σ H1 s' → ExtN H H1 → Tabs T H1 → H f = none → H1 f = some (LamO f (X.env.qual ++ "<lambda>") params body scope (cloFrom X.env.cells scope.names []) dV c') → DflAt (some x) dV H1 → H1 c' = some (CodeO c' (X.env.qual ++ "<lambda>")) → Q (.ref f) s') :
    wpAny (model X.prog X.w) X.A (eval (.Lambda params body scope pos) X.env) Q E s := by
  refine PySem.W.kdv_lam (by rw [hdef]; rfl) hkw ?_
  rw [hdef]
  refine PySem.W.kdv_all1 (wpAny_Constant_int (PySem.W.kdv_all0 ?_))
  rw [makeFunction_eq]
  simp only [List.zip_nil_right, List.filterMap_nil, List.isEmpty_nil, if_true, pure_bind, List.isEmpty_cons, Bool.false_eq_true, if_false]
  refine wpAny_bind (wpAny_newTextTuple ?_)
  have I0 := I.tok (s.toks + 1)
  have n1 : H s.heap.objs.size = none := I.hok.fresh (Nat.le_refl _)
  have sm : ∀ b o, H b = some o → upd H s.heap.objs.size (DfO s.heap.objs.size) b = some o := fun b o e => by rw [upd_ne (ne_of_none e n1)]; exact e
  refine lam_tailO (dx := some x) (H := upd H s.heap.objs.size (DfO s.heap.objs.size)) (I.laid (fun b o e => Heap.get?_push_of_some _ e) (Nat.le_refl _) (dfO_ok (Heap.get?_push_size _ rfl))) TB hcode hm hu (hT.ext sm) hfree ⟨_, rfl, upd_same⟩ fun f c' H1 s' I1 eN T1 fn hf hd hc => ?_
  refine h f c' _ H1 s' I1 ((ExtN.of sm).trans eN) T1 ?_ hf hd hc
  cases z : H f with
  | none => rfl
  | some o => rw [sm _ _ z] at fn; cases fn
end
structure LamSN (N : List Str) (sc scope : Scope) : Prop where
  kind : scope.kind = .function
  co : scope.isCoroutine = false
  gen : scope.isGenerator = false
  cell : ∀ y ∈ scope.names, y.2 ≠ .cell
  loc : ∀ y ∈ scope.names, y.2 = .local → y.1 ∉ N
  free : ∀ y ∈ scope.names, y.2 = .free → sc.names.lookup y.1 = some .cell ∨ sc.names.lookup y.1 = some .free
theorem lamSN_of {N : List Str} {sc scope : Scope} (L : LamS sc scope) : LamSN N sc scope := ⟨L.kind, L.co, L.gen, fun y hy => (L.own y hy).2, fun y hy e => absurd e (L.own y hy).1, L.free⟩
def lamSNB (N : List Str) (sc scope : Scope) : Bool :=
  decide (scope.kind = .function) && (!scope.isCoroutine && (!scope.isGenerator && scope.names.all fun y => match y.2 with
    | .cell => false
    | .local => !N.contains y.1
    | .free => decide (sc.names.lookup y.1 = some .cell) || decide (sc.names.lookup y.1 = some .free)
    | _ => true))
theorem lamSN_by {N : List Str} {sc scope : Scope} (h : lamSNB N sc scope = true) : LamSN N sc scope := by
  unfold lamSNB at h
  simp only [Bool.and_eq_true, Bool.not_eq_true', decide_eq_true_eq, List.all_eq_true] at h
  obtain ⟨h1, h2, h3, h4⟩ := h
  refine ⟨h1, h2, h3, fun y hy e => ?_, fun y hy e z => ?_, fun y hy e => ?_⟩ <;> have := h4 y hy <;> rw [e] at this
  · cases this
  · simp [z] at this
  · simpa using this
theorem LamSN.has {X : Cx} {N : List Str} {scope : Scope} (L : LamSN N X.env.scope scope) (ok : X.Ok) : ∀ y ∈ scope.names, y.2 = .free → ∃ c, X.env.cells.lookup y.1 = some c := fun y hy e => ok.has _ (L.free y hy e)
section
variable {X : Cx} {pins : List (Addr × Obj)} {σ : L2.St} {H HZ : Hp} {s s1 : Shared}
theorem lam_startN {A : Around} {outer : List Env} {E : XK} {scope : Scope} {f c' : Addr} {h₁ : Heap} {tk : Nat} {m : Str → Option Value} (I : Inv X pins σ H s) (L : LamSN X.N X.env.scope scope) (e0 : Env0 X.prog X.w X.K X.mg X.base A outer s1 HZ) (hd : A.handled = none)
    (un : Un (frs X.stack) [] H HZ s.heap s1.heap) (hns : h₁.Ns s1.heap.objs.size m) (kp : ∀ b o, s1.heap.get? b = some o → h₁.get? b = some o) :
    Inv (lamCx X A outer s1 HZ E scope f c') [] σ HZ { s1 with heap := h₁, toks := tk } := by
  have toMaker : ∀ {y c}, (cloFrom X.env.cells scope.names []).lookup y = some c → X.env.cells.lookup y = some c := fun {y c} e => by
    rcases cloFrom_mem (PySem.mem_of_lookup e) with z | ⟨h1, h2⟩
    · cases z
    · obtain ⟨c1, hc⟩ := L.has I.ok _ h1 rfl
      have hc : X.env.cells.lookup y = some c1 := hc
      have e2 : c = c1 := by
        rw [h2, hc] <;> rfl
      exact e2 ▸ hc
  have ofFree : ∀ {y}, scope.names.lookup y = some .free → ∃ c, (cloFrom X.env.cells scope.names []).lookup y = some c := fun {y} hl => mem_lookup (cloFrom_has (cells := X.env.cells) (acc := []) (PySem.mem_of_lookup hl))
  have notCell : ∀ {y : Str}, scope.names.lookup y ≠ some .cell := fun {y} z => L.cell _ (PySem.mem_of_lookup z) rfl
  have cellK : ∀ {c : Addr} {v : Option Value}, H c = none → s.heap.IsCell c v → h₁.IsCell c v := fun {c v} n ⟨o, ho, z⟩ => by
    obtain ⟨sl, q⟩ := un.any ho n (by simp)
    exact ⟨_, kp _ _ q, z⟩
  have noX : ∀ b : Addr, b ∉ (lamCx X A outer s1 HZ E scope f c').ex := fun b z => by
    have z : b ∈ ([] : List Addr) := z
    cases z
  have hasC : ∀ y, scope.names.lookup y = some .cell ∨ scope.names.lookup y = some .free → ∃ c, (cloFrom X.env.cells scope.names []).lookup y = some c := fun y hy => hy.elim (fun z => absurd z notCell) ofFree
  have okL : (lamCx X A outer s1 HZ E scope f c').Ok := ⟨e0.mod, L.kind, rfl, rfl, Nat.le_refl _, fun y z c e1 e2 => I.ok.inj y z c (toMaker e1) (toMaker e2), hasC, fun y c z _ => (by
      have z : false = true := z
      cases z), fun _ => hd, Around.frames_deeper e0.frames, .inr ⟨rfl, rfl⟩, fun b z => absurd z (noX b), e0.bs, e0.bsz, fun b _ _ => noX b, fun b z => absurd z (noX b), e0.funs, e0.frf⟩
  have seen : ∀ (i : Nat) (y : Str) (v : V), X.N[i]? = some y → σ[i]? = some (some v) → Vis scope y → ∃ u, RelV v u ∧ Look (lamEnv X scope s1.heap.objs.size f c') h₁ m y u := fun i y v e1 e2 e3 => by
    rcases e3 with k | k | k
    · exact absurd (List.mem_of_getElem? e1) (L.loc _ (PySem.mem_of_lookup k) rfl)
    · exact absurd k notCell
    · obtain ⟨m', _, hl⟩ := I.loc
      have fr := L.free _ (PySem.mem_of_lookup k) rfl
      obtain ⟨u, r, q⟩ := hl i y v e1 e2 (fr.elim (fun z => .inr (.inl z)) fun z => .inr (.inr z))
      obtain ⟨c2, h2⟩ := ofFree k
      refine ⟨u, r, .inr ⟨.inr k, c2, h2, ?_⟩⟩
      rcases q with ⟨k', _⟩ | ⟨_, c3, e', z⟩
      · have k' : X.env.scope.names.lookup y = some .local := k'
        have fr : X.env.scope.names.lookup y = some .cell ∨ X.env.scope.names.lookup y = some .free := fr
        rw [k'] at fr
        rcases fr with z | z <;> cases z
      · have c1 := toMaker h2
        rw [c1] at e'
        cases e'
        exact cellK (I.freeC y _ c1) z
  refine ⟨okL, rfl, e0.bare, Un.kept kp, ⟨m, hns, seen⟩, fun y c e => ?_, e0.hok.fresh (Nat.le_refl _), fun y c e => ?_, fun q hq => ?_, e0.hok.kept kp, I.len⟩
  · obtain ⟨u, z⟩ := I.cell y c (toMaker e)
    exact ⟨u, cellK (I.freeC y c (toMaker e)) z⟩
  · obtain ⟨v, o, ho, _⟩ := I.cell y c (toMaker e)
    exact un.free c o ho (I.freeC y c (toMaker e)) (by simp)
  · have hq : q ∈ ([] : List (Addr × Obj)) ++ [] := hq
    cases hq
end
def BindL (dx : Option Str) (params : Arguments) (body : Expr) (scope : Scope) : Prop := match dx with
  | none => ∀ (q : Str) (cl : List (Str × Addr)) (doc pm cv ctv : Value), bindArgs (lamFd q params body scope cl .none doc pm cv ctv) ⟨[], []⟩ = pure []
  | some x => scope.names.lookup x = some .local ∧ ∀ (q : Str) (cl : List (Str × Addr)) (T : Addr) (doc pm cv ctv : Value), ∃ k, bindArgs (lamFd q params body scope cl (.ref T) doc pm cv ctv) ⟨[], []⟩ = seqItems? (.ref T) >>= k ∧ ∀ u, k (some #[u]) = pure [(x, u)]
structure LamT (X : Cx) (k : Nat) where
  dx : Option Str
  params : Arguments
  body : Expr
  scope : Scope
  t : XK → TE
  L : LamSN X.N X.env.scope scope
  bind : BindL dx params body scope
  run : ∀ (A : Around) (outer : List Env) (s : Shared) (H : Hp) (E : XK) (f c' : Addr), Room k (A.deeper (lamEnv X scope s.heap.objs.size f c')) → PE (lamCx X A outer s H E scope f c') body (t E)
def LamAt (X : Cx) {k : Nat} (l : LamT X k) (H : Hp) (f : Addr) : Prop := ∃ (c' : Addr) (dV : Value), H f = some (LamO f (X.env.qual ++ "<lambda>") l.params l.body l.scope (cloFrom X.env.cells l.scope.names []) dV c') ∧ DflAt l.dx dV H ∧ H c' = some (CodeO c' (X.env.qual ++ "<lambda>"))
theorem LamAt.keep {X : Cx} {k : Nat} {l : LamT X k} {H H' : Hp} {f : Addr} (h : LamAt X l H f) (e : ∀ b φ, H b = some (.ext φ) → H' b = some (.ext φ)) : LamAt X l H' f := by
  obtain ⟨c', dV, h1, h2, h3⟩ := h
  exact ⟨c', dV, e _ _ h1, h2.keep e, e _ _ h3⟩
def tLamE (T : List (Addr × Str)) (X : Cx) {k : Nat} (l : LamT X k) : TE := fun σ H Q => Tabs T H ∧ ∀ f H1, ExtN H H1 → Tabs T H1 → H f = none → LamAt X l H1 f → Q (.ref f) H1
theorem pe_lamE {X : Cx} {k : Nat} (l : LamT X k) (hx : l.dx = none) {T : List (Addr × Str)} {c P : Addr} {lpos : Pos} (TB : TabB X.base X.mg c P) (hcode : X.env.code = .ref c) (hmT : (P, X.env.qual ++ "<lambda>") ∈ T) (hu : ∀ p ∈ T, p.1 = P → p.2 = X.env.qual ++ "<lambda>")
    (hdef : defaultsOf l.params X.env = ([], [])) : PE X (.Lambda l.params l.body l.scope lpos) (tLamE T X l) := by
  refine ⟨fun pins s σ H Q I h => ?_⟩
  obtain ⟨hT, h⟩ := h
  exact lam_makeO I TB hcode hmT hu hT hdef (l.L.has I.ok) fun f c' H1 s' I1 eN T1 fn hf hc => ⟨.ref f, H1, I1, rfl, h f H1 eN T1 fn ⟨c', _, hf, by rw [hx]; rfl, hc⟩⟩
theorem pe_lamD {X : Cx} {k : Nat} (l : LamT X k) {x : Str} (hx : l.dx = some x) {T : List (Addr × Str)} {c P : Addr} {lpos p0 : Pos} {i0 : Int} {j0 : Nat} (TB : TabB X.base X.mg c P) (hcode : X.env.code = .ref c) (hmT : (P, X.env.qual ++ "<lambda>") ∈ T) (hu : ∀ p ∈ T, p.1 = P → p.2 = X.env.qual ++ "<lambda>")
    (hdef : l.params.defaults = [.Constant (.int i0) j0 p0]) (hkw : l.params.kw_defaults = []) : PE X (.Lambda l.params l.body l.scope lpos) (tLamE T X l) := by
  refine ⟨fun pins s σ H Q I h => ?_⟩
  obtain ⟨hT, h⟩ := h
  exact lam_makeD (x := x) I TB hcode hmT hu hT hdef hkw (l.L.has I.ok) fun f c' dV H1 s' I1 eN T1 fn hf hd hc => ⟨.ref f, H1, I1, rfl, h f H1 eN T1 fn ⟨c', dV, hf, by rw [hx]; exact hd, hc⟩⟩
theorem LamT.binds {X : Cx} {k : Nat} (l : LamT X k) {P : Program} {w : World} {H : Hp} {s : Shared} {q : Str} {cl : List (Str × Addr)} {dV doc pm cv ctv : Value} (hok : HOk P w H s.heap) (hD : DflAt l.dx dV H) :
    ∃ bs : List (Str × Value), (∀ y ∈ bs, l.scope.names.lookup y.1 = some .local) ∧ BindsTo s (lamFd q l.params l.body l.scope cl dV doc pm cv ctv) ⟨[], []⟩ bs := by
  have hb := l.bind
  unfold BindL at hb
  cases hx : l.dx with
  | none =>
    rw [hx] at hb hD
    have hD : dV = .none := hD
    refine ⟨[], fun y hy => (by cases hy), ?_⟩
    subst hD
    exact BindsTo.of_eq (hb q cl doc pm cv ctv)
  | some x =>
    rw [hx] at hb hD
    obtain ⟨T, e1, e2⟩ := hD
    obtain ⟨u, hu⟩ := dfO_at hok e2
    subst e1
    obtain ⟨k, b1, b2⟩ := hb.2 q cl T doc pm cv ctv
    refine ⟨[(x, u)], fun y hy => ?_, BindsTo.of_defaults rfl hu rfl b1 (b2 u)⟩
    rw [List.mem_singleton.mp hy]
    exact hb.1
section
variable {X : Cx} {pins : List (Addr × Obj)} {σ : L2.St} {H : Hp} {s : Shared}
theorem pe_actO {CXg : CXT} {Eg : XK} {Ng : List Str} {qg : Str} {sg : Scope} {g f : Addr} {cdg : Value} {k i : Nat} {a : Str} {pn : List (Addr × Obj)} {xe : Value → Shared → Prop} {W : WX} {p1 p2 : Pos} {l : LamT X k}
    (I : Inv X pins σ H s) (tk : Takes ((cxOf CXg X.prog X.w X.K X.mg X.base Ng qg sg g cdg X.A X.stack s H Eg).tr pn xe) W) (hr : Room (k + 1) (X.A.deeper (envOfC qg sg s.heap.objs.size g cdg)))
    (hN : Ng[i]? = some a) (hv : Vis sg a) (hd : (a == ("__debug__" : Str)) = false := by decide) (hcd : (a == ("__classdict__" : Str)) = false := by decide) :
    PE ((cxOf CXg X.prog X.w X.K X.mg X.base Ng qg sg g cdg X.A X.stack s H Eg).tr pn xe) (.Call (.Name a p1) [] [] p2) (fun σZ HZ Q => σZ[i]? = some (some (.ref f)) ∧ LamAt X l HZ f ∧ ∃ E : XK, (∀ cls d H', E cls d H' → W cls d σZ H') ∧ l.t E σ HZ Q) := by
  refine ⟨fun pinsZ sZ σZ HZ Q IZ h => ?_⟩
  obtain ⟨hs, ⟨c', dV, hfO, hDf, hcO⟩, E, hW, ht⟩ := h
  refine wpAny_Call_Name_kw (thn ((pe_var (pos := p1) (i := i) hN hv hd hcd).run pinsZ sZ σZ HZ (fun v H1 => v = .ref f ∧ H1 = HZ) IZ ⟨.ref f, hs, rfl, rfl⟩) fun u s1 ⟨v, H1, I1, r1, q1⟩ => ?_)
  obtain ⟨ev, eH⟩ := q1
  subst ev
  rw [eH] at I1
  obtain rfl : u = Value.ref f := r1
  obtain ⟨doc, pm, ctv, of1⟩ := lamO_at I1.hok hfO
  refine PySem.W.callWith_F0 ⟨_, _, _, _, of1⟩ ?_
  have un : Un (frs X.stack) [] H HZ s.heap s1.heap := I1.base
  obtain ⟨⟨oc, vs, t, hoc, hdc, hvc⟩, _, _⟩ := I1.hok c' _ hcO
  obtain ⟨bs, hloc, hbs⟩ := l.binds (s := s1) (q := X.env.qual ++ "<lambda>") (cl := cloFrom X.env.cells l.scope.names []) (doc := doc) (pm := pm) (cv := .ref c') (ctv := ctv) I1.hok hDf
  have rc : codeAny (model X.prog X.w) (X.A.deeper (envOfC qg sg s.heap.objs.size g cdg)) (.call (.ref f) ⟨[], []⟩) (CR (L2.CX X.prog X.w) (envOfC qg sg s.heap.objs.size g cdg :: X.stack) X.prog X.w HZ s1 Q E) s1 := by
    refine PySem.W.kla_callFunE hr.depth of1 rfl l.L.co l.L.gen rfl ⟨c', oc, vs, t, rfl, hoc, hdc, hvc⟩ (hbs _ _ _ _ ?_)
    refine wpAny_newFunctionEnv l.L.cell hloc (fun h₁ hns hsb => ⟨I1.nolimit.fresh _ hsb, ?_⟩) l.L.kind
    show codeAny _ _ (.expr l.body (lamEnv X l.scope s1.heap.objs.size f c')) _ _
    have kp : ∀ b o, s1.heap.get? b = some o → h₁.get? b = some o := fun b o e => hsb.extBut b o (Nat.ne_of_lt (Heap.lt_size e)) (Heap.get?_push_of_some _ e)
    have J : Inv (lamCx X (X.A.deeper (envOfC qg sg s.heap.objs.size g cdg)) (envOfC qg sg s.heap.objs.size g cdg :: X.stack) s1 HZ E l.scope f c') [] σ HZ { s1 with heap := h₁, toks := s1.toks + bs.length } :=
      lam_startN I l.L I1.env0 hr.hd un hns kp
    refine PySem.W.kla_codeExpr (wpAny_mono ((l.run _ _ s1 HZ E f c' (hr.deeper _)).run [] _ _ HZ Q J ht) (fun v s' hq => ?_) fun e s' hq => hq)
    obtain ⟨w', H', J', rv, q⟩ := hq
    exact ⟨w', H', J'.os, J'.bare, J'.base, J'.hok, rv, q⟩
  refine wpAny_call (codeAny_mono rc fun r s' hq => ?_)
  cases r with
  | error e => exact tk e s' (XE.of_call I1 (fun cls d H' h => hW cls d H' h) hq)
  | ok fl =>
    cases fl with
    | ret u => exact I1.after hq
    | next => exact False.elim hq
    | brk => exact False.elim hq
    | cont => exact False.elim hq
end
def GivesL (X : Cx) (Ng : List Str) (x : Str) (sg : Scope) (g : Addr) (cdg : Value) (bg : List Stmt) (a : Str) (TT : (XK → Hp → VK → Prop) → Hp → VK → Prop) : Prop :=
  ∀ (f : Addr) (s : Shared) (H : Hp) (Q : VK) (ok : Hp → Prop) (tl : XK → Hp → VK → Prop), (∀ (H H' : Hp), (∀ b φ, H b = some (.ext φ) → H' b = some (.ext φ)) → ok H → ok H') →
    (∀ (W : WX) (pn : List (Addr × Obj)) (xe : Value → Shared → Prop) (p1 p2 : Pos), Takes ((cxOf C8.CX0 X.prog X.w X.K X.mg X.base Ng x sg g cdg X.A X.stack s H C8.E0).tr pn xe) W →
      PE ((cxOf C8.CX0 X.prog X.w X.K X.mg X.base Ng x sg g cdg X.A X.stack s H C8.E0).tr pn xe) (.Call (.Name a p1) [] [] p2) (fun σZ HZ Q => σZ[0]? = some (some (.ref f)) ∧ ok HZ ∧ ∃ E : XK, (∀ cls d H', E cls d H' → W cls d σZ H') ∧ tl E HZ Q)) →
    ok H → TT tl H Q → (X.A.deeper (envOfC x sg s.heap.objs.size g cdg)).units + 65 < cLine →
    ∃ t, PSs (cxOf C8.CX0 X.prog X.w X.K X.mg X.base Ng x sg g cdg X.A X.stack s H C8.E0).nox bg t ∧ t { nx := fun _ H' => Q .non H', rt := Q } (L2.start Ng [.ref f]) H
structure LFn (X : Cx) (x a : Str) (TT : (XK → Hp → VK → Prop) → Hp → VK → Prop) : Prop where
  ex : ∃ (g : Addr) (oc : Value) (od : Option Addr) (pg : Arguments) (bg : List Stmt) (sg : Scope) (dV kV doc pm cdv ct : Value) (an : Option Addr) (osl : Array (Option Value)) (Ng : List Str),
    X.mg x = some (.ref g) ∧ PySem.W.keepIn X.K (.ref g) = true ∧ X.K.lookup g = some ⟨oc, od, .func (PySem.W.fnOf x x pg bg sg dV kV doc pm an cdv ct), osl⟩ ∧ PySem.W.codeIn X.K cdv x = true ∧ L2.Binds X.K (PySem.W.fnOf x x pg bg sg dV kV doc pm an cdv ct) [a] [] ∧ FnScope Ng [a] sg ∧ Ng[0]? = some a ∧ Vis sg a ∧
    GivesL X Ng x sg g cdv bg a TT
section
variable {X : Cx} {pins : List (Addr × Obj)} {σ : L2.St} {H : Hp} {s : Shared}
theorem lam_run {k : Nat} {x a : Str} {TT : (XK → Hp → VK → Prop) → Hp → VK → Prop} {l : LamT X k} {f : Addr} {Q : VK} (D : LFn X x a TT) (hr : Room (k + 2) X.A) (I : Inv X pins σ H s) (hl : LamAt X l H f) (h : TT (fun E H' Q' => l.t E σ H' Q') H Q)
    (hd : (a == ("__debug__" : Str)) = false := by decide) (hcd : (a == ("__classdict__" : Str)) = false := by decide) :
    ∃ g : Addr, X.mg x = some (.ref g) ∧ PySem.W.keepIn X.K (.ref g) = true ∧ codeAny (model X.prog X.w) X.A (.call (.ref g) ⟨[.ref f], []⟩) (CR C8.CX0 X.stack X.prog X.w H s Q C8.E0) s := by
  obtain ⟨g, oc, od, pg, bg, sg, dV, kV, doc, pm, cdv, ct, an, osl, Ng, hm, hk, lk, hcg, hb, Sg, hNg, hva, hG⟩ := D.ex
  refine ⟨g, hm, hk, ?_⟩
  refine run_ofS (N := Ng) (ps := [a]) (us := [.ref f]) (vs := [.ref f]) lk hcg Sg hr I.env0 (hb s [.ref f] I.kIn rfl) (.cons rfl .nil) rfl fun hr' => ?_
  obtain ⟨t', ht', hq'⟩ := hG f s H Q (fun H => LamAt X l H f) (fun E H' Q' => l.t E σ H' Q') (fun H H' e z => z.keep e) (fun W pn xe p1 p2 tk => pe_actO (i := 0) (l := l) I tk hr' hNg hva hd hcd) hl h (by have := hr'.un; omega)
  exact ⟨t', ht'.nox, hq'⟩
def tLamC (X : Cx) (k : Nat) (TT : (XK → Hp → VK → Prop) → Hp → VK → Prop) (te : TE) : TE := fun σ H Q => te σ H fun v H1 => ∃ (l : LamT X k) (f : Addr), v = .ref f ∧ LamAt X l H1 f ∧ TT (fun E H' Q' => l.t E σ H' Q') H1 Q
theorem pe_lamC {k : Nat} {x a : Str} {TT : (XK → Hp → VK → Prop) → Hp → VK → Prop} {e : Expr} {te : TE} {p pos : Pos} (D : LFn X x a TT) (hr : Room (k + 2) X.A) (ha : PA X [e] (tCons te tNil)) (hg : Gl X x := by rfl) (hdb : (x == ("__debug__" : Str)) = false := by decide)
    (hst : starEach (e :: []) X.env = (false, eval e X.env) :: starEach [] X.env := by rfl) (hpl : (backTo pos (starEach [] X.env)).any (·.1) = false := by rfl) (hd : (a == ("__debug__" : Str)) = false := by decide) (hcd : (a == ("__classdict__" : Str)) = false := by decide) :
    PE X (.Call (.Name x p) [e] [] pos) (tLamC X k TT te) := by
  obtain ⟨g0, _, _, _, _, _, _, _, _, _, _, _, _, _, _, hm0, hk0, _⟩ := D.ex
  refine ⟨fun pins s σ H Q I h => ?_⟩
  refine wpAny_Call_Name_kw (ld_glob I hg hm0 ?_ hdb)
  let R : V → Hp → Prop := fun v H1 => ∃ (l : LamT X k) (f : Addr), v = .ref f ∧ LamAt X l H1 f ∧ TT (fun E H' Q' => l.t E σ H' Q') H1 Q
  refine PySem.W.callWith_K (h₀ := X.base) I.ok.mod.kin hk0 (thn (ha.run pos pins s σ H (fun vs H1 => match vs with | [v] => R v H1 | _ => False) I h) fun us s1 hh => ?_) hst hpl
  obtain ⟨vs, H1, I1, r1, hR⟩ := hh
  match vs, r1, hR with
  | [v], r1, hR =>
  obtain ⟨l, f, ef, hl, q⟩ := hR
  subst ef
  refine ⟨I1.kIn, ?_⟩
  cases r1 with
  | cons ru rn =>
    cases rn
    cases ru
    obtain ⟨g, hm, hk, rc⟩ := lam_run D hr I1 hl q hd hcd
    rw [hm0] at hm
    cases hm
    refine wpAny_call (codeAny_mono rc fun r s2 hq => ?_)
    cases r with
    | error e => exact (show False from hq).elim
    | ok fl =>
      cases fl with
      | ret u => exact I1.after hq
      | next => exact False.elim hq
      | brk => exact False.elim hq
      | cont => exact False.elim hq
end
end MF
set_option Elab.async false
set_option linter.all false
set_option maxRecDepth 100000
set_option maxHeartbeats 2000000
namespace MF
open PySem PySem.Spec PyProof.Rows L2 StX LamX
structure BI (X : Cx) (pins : List (Addr × Obj)) (σ : L2.St) (H : Hp) (s : Shared) (fp : List Addr) : Prop where
  inv : Inv X pins σ H s
  fp : ∀ b ∈ fp, FpOk X pins H b ∧ b < s.heap.objs.size
theorem BI.now {X : Cx} {pins pins' : List (Addr × Obj)} {σ σ' : L2.St} {H H' : Hp} {s s' : Shared} {fp : List Addr} {scope : Scope} {cenv : Env} (B : BI X pins σ H s fp) (I : Inv (X.blk s H scope cenv fp) pins' σ' H' s') : Inv X pins σ H' s' :=
  B.inv.call' (ch := fp) I.os I.base I.hok I.bare fun b hb => ⟨(B.fp b hb).1.2.2.2.1, (B.fp b hb).1.2.1, (B.fp b hb).1.2.2.2.2.1, (B.fp b hb).1.2.2.2.2.2⟩
section
variable {X : Cx}
theorem lcI_core {pins : List (Addr × Obj)} {s : Shared} {σ : L2.St} {H : Hp} {Q : VK} {elt tg iter : Expr} {ifs : List Expr} {scope : Scope} {own : List (Str × Nat)} {pos pos' : Pos} {wi : TI} {g : TG} {tt : TT} {te : TE} {use : Option (Value → Sem Unit)} {Qf : Value → Shared → Prop}
    (hc : X.calm = true) (hN : X.N.Nodup) (I : Inv X pins σ H s) (hi : PI X tg iter wi) (ok : BlkOk X.N X.env.scope scope own)
    (hg : ∀ (s : Shared) (H : Hp) (C : Addr) (cl : List (Str × Addr)) (fp : List Addr), PG (X.blk s H scope (compEnvC scope cl C X.env) fp) tg g)
    (ht : ∀ (s : Shared) (H : Hp) (C : Addr) (cl : List (Str × Addr)) (fp : List Addr), BI X pins σ H s fp → PTs (X.blk s H scope (compEnvC scope cl C X.env) fp) ifs tt)
    (he : ∀ (s : Shared) (H : Hp) (C : Addr) (cl : List (Str × Addr)) (fp : List Addr), BI X pins σ H s fp → PE (X.blk s H scope (compEnvC scope cl C X.env) fp) elt te) (hs : ∀ x, foldedSetIterable iter X.env x = pure x)
    (h : tLc wi g tt te (own.map (·.2)) σ H Q)
    (hRR : ∀ D C s' m H', Inv X pins σ H' s' → Q (.ref D) H' → s'.heap.Ns C m → FpOk X pins H' C → compPost (model X.prog X.w) X.A X.xe use Qf (.ref D) C (.ok .next) s') :
    wpAny (model X.prog X.w) X.A (comprehension (.ListComp elt [⟨tg, iter, ifs, 0⟩] scope pos) scope X.env pos' (newList []) false (eval iter X.env) use) Qf X.xe s := by
  have hfree : ∀ y ∈ scope.names, y.2 = .free → ∃ c, X.env.cells.lookup y.1 = some c := fun y hy e => by
    rcases ok.free y hy e with k | k
    · exact I.ok.has _ (.inl k)
    · exact I.ok.has _ (.inr k)
  refine wpAny_comprehension_free (use := use) rfl hs (closure_ok hfree) ok.kind (fun y hy e => by rw [ok.uniq y hy, e])
    (thn (hi.run pins s σ H _ I h) fun xv s1 hx => thn hx fun itv s2 h2 => ?_)
  obtain ⟨it, fp, tn, J, H2, e, I2, T, st2, f2, q⟩ := h2
  subst e
  refine wpAny_newObj_type (newEnv_comp ?_) (by show 0 ≤ sizeLine; decide)
  generalize hD : s2.heap.objs.size = D
  have hDn : H2 D = none := I2.hok.fresh (Nat.le_of_eq hD)
  obtain ⟨W, ⟨m0, w0⟩, turn⟩ := q D hDn
  generalize hs3 : ({ s2 with heap := s2.heap.push { cls := .type "list", data := .seq ([] : List Value).toArray } } : Shared) = s3
  have I3 : Inv X pins σ (upd H2 D (.lst [])) s3 := by
    rw [← hs3]
    refine I2.laid (t' := s2.toks) (fun b o e => Heap.get?_push_of_some _ e) (Nat.le_of_eq hD) ⟨Nat.zero_le _, [], 0, .nil, ?_⟩
    rw [← hD]
    exact Heap.get?_push_size _ rfl
  have h3 : s3.heap = s2.heap.push { cls := .type "list", data := .seq ([] : List Value).toArray } := by rw [← hs3]
  have f3 : ∀ b ∈ fp, FpOk X pins (upd H2 D (.lst [])) b ∧ b < s3.heap.objs.size := fun b hb => by
    obtain ⟨o, e, _⟩ := T.obj _ _ st2 b hb
    have hlt := Heap.lt_size e
    refine ⟨⟨?_, (f2 b hb).2⟩, by rw [h3, Heap.size_push]; exact Nat.lt_succ_of_lt hlt⟩
    rw [upd_ne (by rw [← hD]; exact Nat.ne_of_lt hlt)]
    exact (f2 b hb).1
  have BB : BI X pins σ (upd H2 D (.lst [])) s3 fp := ⟨I3, f3⟩
  have st3 : tn 0 s3.heap := T.keep _ _ _ st2 fun b _ o e => by rw [h3]; exact Heap.get?_push_of_some _ e
  have I4 := block_start I3 ok hN f3
  have pg := hg s3 (upd H2 D (.lst [])) s3.heap.objs.size (cellsFrom (s3.heap.objs.size + 1) scope.names (cloFrom X.env.cells scope.names [])) fp
  have pt := ht s3 (upd H2 D (.lst [])) s3.heap.objs.size (cellsFrom (s3.heap.objs.size + 1) scope.names (cloFrom X.env.cells scope.names [])) fp BB
  have pe := he s3 (upd H2 D (.lst [])) s3.heap.objs.size (cellsFrom (s3.heap.objs.size + 1) scope.names (cloFrom X.env.cells scope.names [])) fp BB
  show codeAny _ _ (.compStart (.ListComp elt [⟨tg, iter, ifs, 0⟩] scope pos) 0 (.ref it) (.ref D) (compEnvC scope (cellsFrom (s3.heap.objs.size + 1) scope.names (cloFrom X.env.cells scope.names [])) s3.heap.objs.size X.env)) (compPost (model X.prog X.w) X.A X.xe use Qf (.ref D) s3.heap.objs.size) { s3 with heap := pushCells (s3.heap.push { cls := .type "dict", data := .dict #[] }) scope.names }
  have nfp : ∀ b ∈ fp, (upd H2 D (.lst [])) b = none := fun b hb => (f3 b hb).1.1
  generalize hce : compEnvC scope (cellsFrom (s3.heap.objs.size + 1) scope.names (cloFrom X.env.cells scope.names [])) s3.heap.objs.size X.env = ce at I4 pg pt pe ⊢
  have cL : ce.locals = s3.heap.objs.size := by subst hce; rfl
  generalize hH3 : upd H2 D (.lst []) = H3 at I3 I4 pg pt pe w0 nfp f3 BB
  generalize hs4 : ({ s3 with heap := pushCells (s3.heap.push { cls := .type "dict", data := .dict #[] }) scope.names } : Shared) = s4 at I4 ⊢
  have st4 : tn 0 s4.heap := T.keep _ _ _ st3 fun b _ o e => by rw [← hs4]; exact pushCells_keeps _ _ _ _ (Heap.get?_push_of_some _ e)
  have stat : ∀ {σ' : L2.St} {H' : Hp} {s' : Shared}, Inv (X.blk s3 H3 scope ce fp) [] σ' H' s' → (∀ b ∈ fp, H' b = none) → ∀ b ∈ fp, FpOk (X.blk s3 H3 scope ce fp) [] H' b := fun {σ' H' s'} I' hn b hb =>
    ⟨hn b hb, (I'.ok.exf b hb).1, I'.ok.exfs b hb, .inl hb, fun x c e => (I'.ok.exf b hb).2 x c e, fun p hp => absurd (show p ∈ ([] : List (Addr × Obj)) ++ [] from hp) (by simp)⟩
  have loop : codeAny (model X.prog X.w) X.A (.compLoop (.ListComp elt [⟨tg, iter, ifs, 0⟩] scope pos) 0 (.ref it) (.ref D) ce) (compPost (model X.prog X.w) X.A X.xe use Qf (.ref D) s3.heap.objs.size) s4 := by
    refine compLoop_any (fun n s' => ∃ i H', Inv (X.blk s3 H3 scope ce fp) [] (wipe σ (own.map (·.2))) H' s' ∧ tn i s'.heap ∧ (∀ b ∈ fp, H' b = none) ∧ W i n H') ?_ m0 ⟨0, H3, I4, st4, nfp, w0⟩
    rintro n s5 ⟨i, H5, I5, st5, n5, w5⟩
    rcases turn i n H5 w5 with ⟨stop, qq⟩ | ⟨go, Nx, hNx, step⟩
    · have td := T.done (X.blk s3 H3 scope ce fp) rfl rfl rfl hc i [] s5 _ H5 (fun _ _ => False) I5 (stat I5 n5) st5 stop
      refine thnF td fun r s6 ⟨hr, I6⟩ => ?_
      subst hr
      have I7 : Inv X pins σ H5 s6 := BB.now I6
      have nC : H5 s3.heap.objs.size = none := by
        have z : H5 ce.locals = none := I6.free
        rw [cL] at z
        exact z
      obtain ⟨m, hn, _⟩ := I6.loc
      have hn : s6.heap.Ns ce.locals m := hn
      rw [cL] at hn
      exact hRR D s3.heap.objs.size s6 m H5 I7 qq hn (I3.fpOk (Nat.le_refl _) nC)
    · have ti := T.item (X.blk s3 H3 scope ce fp) rfl rfl rfl hc i [] s5 _ H5 (fun _ _ => False) I5 (stat I5 n5) st5 go
      refine thnF ti fun r s6 ⟨u, hr, h6⟩ => ?_
      subst hr
      refine thnF h6 fun _ s7 ⟨x, H7, I7, r7, y7, st7, n7⟩ => ?_
      have I7' := I7.pinned (stat I7 n7) (T.obj _ _ st7)
      refine thnF (pg.run _ s7 _ H7 x u _ I7' r7 (step x H7 y7)) fun _ s8 ⟨σ8, H8, I8, hw8, q8⟩ => ?_
      refine thnF (pt.run _ s8 σ8 H8 _ I8 q8) fun b s9 ⟨H9, I9, q9⟩ => ?_
      have fin : ∀ {s' : Shared} {H' : Hp}, Inv (X.blk s3 H3 scope ce fp) ([] ++ pinsAt fp s7.heap) σ8 H' s' → Nx H' → ∃ m, m < n ∧ ∃ i H', Inv (X.blk s3 H3 scope ce fp) [] (wipe σ (own.map (·.2))) H' s' ∧ tn i s'.heap ∧ (∀ b ∈ fp, H' b = none) ∧ W i m H' := fun {s' H'} I' nx => by
        obtain ⟨m', hm, w'⟩ := hNx H' nx
        have pin' : ∀ b ∈ fp, ∀ o, s7.heap.get? b = some o → s'.heap.get? b = some o ∧ H' b = none := fun b hb o e =>
          let z := I'.pin (b, o) (List.mem_append_right _ (List.mem_append_right _ (mem_pinsAt hb e)))
          ⟨z.1, z.2.1⟩
        have hl : (wipe σ (own.map (·.2))).length = σ8.length := by rw [← hw8, wipe_length]
        refine ⟨m', hm, i + 1, H', (I'.unpinned (pins := [])).weak hl (fun j v e => ?_), T.keep _ _ _ st7 fun b hb o e => (pin' b hb o e).1, fun b hb => ?_, w'⟩
        · rw [← hw8] at e
          exact (wipe_some e).1
        · obtain ⟨o, e, _⟩ := T.obj _ _ st7 b hb
          exact (pin' b hb o e).2
      cases b with
      | false =>
        simp only [Bool.false_eq_true, if_false] at q9 ⊢
        exact fin I9 q9
      | true =>
        simp only [if_true] at q9 ⊢
        refine thnF (pe.run _ s9 σ8 H9 _ I9 q9) fun z s10 ⟨yv, H10, I10, r10, acc, hD10, hz10, nx⟩ => ?_
        exact app_ok (X := X.blk s3 H3 scope ce fp) I10 hD10 hz10 r10 fun s11 I11 => fin I11 nx
  exact codeAny_compStart_list loop (T.self X.A 0 _ _ _ st4 loop)
def tLcI (wi : TI) (g : TG) (tt : L2.St → TT) (te : L2.St → TE) (vs : List Nat) : TE := fun σ H Q => tLc wi g (tt σ) (te σ) vs σ H Q
theorem pe_lcI {elt tg iter : Expr} {ifs : List Expr} {scope : Scope} {own : List (Str × Nat)} {pos : Pos} {wi : TI} {g : TG} {tt : L2.St → TT} {te : L2.St → TE} (hc : X.calm = true) (hN : X.N.Nodup) (hi : PI X tg iter wi) (ok : BlkOk X.N X.env.scope scope own)
    (hg : ∀ (s : Shared) (H : Hp) (C : Addr) (cl : List (Str × Addr)) (fp : List Addr), PG (X.blk s H scope (compEnvC scope cl C X.env) fp) tg g)
    (ht : ∀ (pins : List (Addr × Obj)) (σ : L2.St) (s : Shared) (H : Hp) (C : Addr) (cl : List (Str × Addr)) (fp : List Addr), BI X pins σ H s fp → PTs (X.blk s H scope (compEnvC scope cl C X.env) fp) ifs (tt σ))
    (he : ∀ (pins : List (Addr × Obj)) (σ : L2.St) (s : Shared) (H : Hp) (C : Addr) (cl : List (Str × Addr)) (fp : List Addr), BI X pins σ H s fp → PE (X.blk s H scope (compEnvC scope cl C X.env) fp) elt (te σ)) (hs : ∀ x, foldedSetIterable iter X.env x = pure x := by intro _; rfl) :
    PE X (.ListComp elt [⟨tg, iter, ifs, 0⟩] scope pos) (tLcI wi g tt te (own.map (·.2))) := by
  refine ⟨fun pins s σ H Q I h => ?_⟩
  rw [eval_ListComp]
  refine lcI_core hc hN I hi ok hg (ht pins σ) (he pins σ) hs h fun D C s' m H' I' q hn f => ⟨m, hn, fun h'' sb => ?_⟩
  obtain ⟨f0, f1, f2, f3, f4, f5⟩ := f
  exact ⟨.ref D, H', I'.turned (t' := s'.toks) (fun b o hb e => (sb.2 b hb).trans e) f0 f1 f3 f4 f5, rfl, q⟩
def tLamB (X : Cx) (k : Nat) (TT : (XK → Hp → VK → Prop) → Hp → VK → Prop) (te : TE) (σ : L2.St) : TE := fun σ' H Q => te σ' H fun v H1 => ∃ (l : LamT X k) (f : Addr), v = .ref f ∧ LamAt X l H1 f ∧ TT (fun E H' Q' => l.t E σ H' Q') H1 Q
theorem pe_lamB {pins : List (Addr × Obj)} {σ : L2.St} {H0 : Hp} {s0 : Shared} {fp : List Addr} {scope : Scope} {cenv : Env} {k : Nat} {x a : Str} {TT : (XK → Hp → VK → Prop) → Hp → VK → Prop} {e : Expr} {te : TE} {p pos : Pos} (B : BI X pins σ H0 s0 fp) (D : LFn X x a TT) (hr : Room (k + 2) X.A)
    (ha : PA (X.blk s0 H0 scope cenv fp) [e] (tCons te tNil)) (hg : Gl (X.blk s0 H0 scope cenv fp) x := by rfl) (hdb : (x == ("__debug__" : Str)) = false := by decide)
    (hst : starEach (e :: []) cenv = (false, eval e cenv) :: starEach [] cenv := by rfl) (hpl : (backTo pos (starEach [] cenv)).any (·.1) = false := by rfl) (hd : (a == ("__debug__" : Str)) = false := by decide) (hcd : (a == ("__classdict__" : Str)) = false := by decide) :
    PE (X.blk s0 H0 scope cenv fp) (.Call (.Name x p) [e] [] pos) (tLamB X k TT te σ) := by
  obtain ⟨g0, _, _, _, _, _, _, _, _, _, _, _, _, _, _, hm0, hk0, _⟩ := D.ex
  refine ⟨fun pins' s σ' H Q I h => ?_⟩
  refine wpAny_Call_Name_kw (ld_glob I hg hm0 ?_ hdb)
  let R : V → Hp → Prop := fun v H1 => ∃ (l : LamT X k) (f : Addr), v = .ref f ∧ LamAt X l H1 f ∧ TT (fun E H' Q' => l.t E σ H' Q') H1 Q
  refine PySem.W.callWith_K (h₀ := X.base) I.ok.mod.kin hk0 (thn (ha.run pos pins' s σ' H (fun vs H1 => match vs with | [v] => R v H1 | _ => False) I h) fun us s1 hh => ?_) hst hpl
  obtain ⟨vs, H1, I1, r1, hR⟩ := hh
  match vs, r1, hR with
  | [v], r1, hR =>
  obtain ⟨l, f, ef, hl, q⟩ := hR
  subst ef
  refine ⟨I1.kIn, ?_⟩
  cases r1 with
  | cons ru rn =>
    cases rn
    cases ru
    obtain ⟨g, hm, hk, rc⟩ := lam_run D hr (B.now I1) hl q hd hcd
    rw [hm0] at hm
    cases hm
    refine wpAny_call (codeAny_mono rc fun r s2 hq => ?_)
    cases r with
    | error e => exact (show False from hq).elim
    | ok fl =>
      cases fl with
      | ret u => exact I1.after hq
      | next => exact False.elim hq
      | brk => exact False.elim hq
      | cont => exact False.elim hq
end
end MF
set_option Elab.async false
set_option linter.all false
set_option maxRecDepth 100000
set_option maxHeartbeats 1000000
namespace MF
open PySem PySem.Spec PyProof.Rows L2 StX

theorem Same.tup {K : PySem.W.Frag} {H H' : Hp} {a : Addr} {xs : List V} (e : Same H H') (h : SqT K H a xs) : SqT K H' a xs := by
  rcases h with (h | ⟨o, h⟩) | h
  · exact .inl (.inl (e _ _ h))
  · exact .inl (.inr ⟨o, e _ _ h⟩)
  · exact .inr h
theorem Same.upd {H H' : Hp} {p : Addr} {o : HO} (e : Same H H') (h : H' p = none) : Same H (L2.upd H' p o) := fun b u q => by
  rw [upd_ne (ne_of_none (e b u q) h)]
  exact e b u q
theorem Same.new {H : Hp} {p : Addr} {o : HO} (h : H p = none) : Same H (L2.upd H p o) := Same.upd (Same.refl H) h
theorem tyT {K : PySem.W.Frag} {H : Hp} {a : Addr} {xs : List V} (h : SqT K H a xs) : TyX K H (.ref a) (.type "tuple") := by
  rcases h with (h | ⟨o, h⟩) | ⟨o, its, n, e, c, _⟩
  · exact .base (.tup h)
  · exact .fTuple h
  · exact .kTuple e c
theorem tyL {K : PySem.W.Frag} {H : Hp} {a : Addr} {xs : List V} (h : SqL K H a xs) : TyX K H (.ref a) (.type "list") := by
  rcases h with (h | ⟨o, h⟩) | ⟨o, its, n, e, c, _⟩
  · exact .base (.lst h)
  · exact .base (.frz h)
  · exact .kList e c
def tyN : V → String
  | .non => "NoneType"
  | .bl _ => "bool"
  | .int _ => "int"
  | .str _ => "str"
  | _ => ""
theorem ty_flat {K : PySem.W.Frag} {H : Hp} : ∀ {v : V}, notSeq v = true → TyX K H v (.type (tyN v))
  | .non, _ => .base .non
  | .bl b, _ => .base (.bl b)
  | .int i, _ => .base (.int i)
  | .str x, _ => .base (.str x)
theorem isi_flat {K : PySem.W.Frag} {v : V} {T : String} (h : notSeq v = true) (b : Bool) (hb : ∀ w, notSeq w = true → tyN w = tyN v → kitB (tyN w) T = some b) : PySem.W.kitOne K (.type (tyN v)) (.type T) = some b := kit_ty (hb v h rfl)

theorem kt_int_int {K : PySem.W.Frag} : PySem.W.kitOne K (.type "int") (.type "int") = some true := kit_ty (by decide +kernel)
theorem kt_int_bool {K : PySem.W.Frag} : PySem.W.kitOne K (.type "int") (.type "bool") = some false := kit_ty (by decide +kernel)
theorem kt_int_str {K : PySem.W.Frag} : PySem.W.kitOne K (.type "int") (.type "str") = some false := kit_ty (by decide +kernel)
theorem kt_int_tuple {K : PySem.W.Frag} : PySem.W.kitOne K (.type "int") (.type "tuple") = some false := kit_ty (by decide +kernel)
theorem kt_int_list {K : PySem.W.Frag} : PySem.W.kitOne K (.type "int") (.type "list") = some false := kit_ty (by decide +kernel)
theorem kt_bool_int {K : PySem.W.Frag} : PySem.W.kitOne K (.type "bool") (.type "int") = some true := kit_ty (by decide +kernel)
theorem kt_bool_bool {K : PySem.W.Frag} : PySem.W.kitOne K (.type "bool") (.type "bool") = some true := kit_ty (by decide +kernel)
theorem kt_bool_str {K : PySem.W.Frag} : PySem.W.kitOne K (.type "bool") (.type "str") = some false := kit_ty (by decide +kernel)
theorem kt_bool_tuple {K : PySem.W.Frag} : PySem.W.kitOne K (.type "bool") (.type "tuple") = some false := kit_ty (by decide +kernel)
theorem kt_bool_list {K : PySem.W.Frag} : PySem.W.kitOne K (.type "bool") (.type "list") = some false := kit_ty (by decide +kernel)
theorem kt_NoneType_int {K : PySem.W.Frag} : PySem.W.kitOne K (.type "NoneType") (.type "int") = some false := kit_ty (by decide +kernel)
theorem kt_NoneType_bool {K : PySem.W.Frag} : PySem.W.kitOne K (.type "NoneType") (.type "bool") = some false := kit_ty (by decide +kernel)
theorem kt_NoneType_str {K : PySem.W.Frag} : PySem.W.kitOne K (.type "NoneType") (.type "str") = some false := kit_ty (by decide +kernel)
theorem kt_NoneType_tuple {K : PySem.W.Frag} : PySem.W.kitOne K (.type "NoneType") (.type "tuple") = some false := kit_ty (by decide +kernel)
theorem kt_NoneType_list {K : PySem.W.Frag} : PySem.W.kitOne K (.type "NoneType") (.type "list") = some false := kit_ty (by decide +kernel)
theorem kt_str_int {K : PySem.W.Frag} : PySem.W.kitOne K (.type "str") (.type "int") = some false := kit_ty (by decide +kernel)
theorem kt_str_bool {K : PySem.W.Frag} : PySem.W.kitOne K (.type "str") (.type "bool") = some false := kit_ty (by decide +kernel)
theorem kt_str_str {K : PySem.W.Frag} : PySem.W.kitOne K (.type "str") (.type "str") = some true := kit_ty (by decide +kernel)
theorem kt_str_tuple {K : PySem.W.Frag} : PySem.W.kitOne K (.type "str") (.type "tuple") = some false := kit_ty (by decide +kernel)
theorem kt_str_list {K : PySem.W.Frag} : PySem.W.kitOne K (.type "str") (.type "list") = some false := kit_ty (by decide +kernel)
theorem kt_tuple_int {K : PySem.W.Frag} : PySem.W.kitOne K (.type "tuple") (.type "int") = some false := kit_ty (by decide +kernel)
theorem kt_tuple_bool {K : PySem.W.Frag} : PySem.W.kitOne K (.type "tuple") (.type "bool") = some false := kit_ty (by decide +kernel)
theorem kt_tuple_str {K : PySem.W.Frag} : PySem.W.kitOne K (.type "tuple") (.type "str") = some false := kit_ty (by decide +kernel)
theorem kt_tuple_tuple {K : PySem.W.Frag} : PySem.W.kitOne K (.type "tuple") (.type "tuple") = some true := kit_ty (by decide +kernel)
theorem kt_tuple_list {K : PySem.W.Frag} : PySem.W.kitOne K (.type "tuple") (.type "list") = some false := kit_ty (by decide +kernel)
theorem kt_list_int {K : PySem.W.Frag} : PySem.W.kitOne K (.type "list") (.type "int") = some false := kit_ty (by decide +kernel)
theorem kt_list_bool {K : PySem.W.Frag} : PySem.W.kitOne K (.type "list") (.type "bool") = some false := kit_ty (by decide +kernel)
theorem kt_list_str {K : PySem.W.Frag} : PySem.W.kitOne K (.type "list") (.type "str") = some false := kit_ty (by decide +kernel)
theorem kt_list_tuple {K : PySem.W.Frag} : PySem.W.kitOne K (.type "list") (.type "tuple") = some false := kit_ty (by decide +kernel)
theorem kt_list_list {K : PySem.W.Frag} : PySem.W.kitOne K (.type "list") (.type "list") = some true := kit_ty (by decide +kernel)
def isIntB : V → Int → Int → Bool
  | .int i, lo, hi => decide (lo ≤ i) && decide (i ≤ hi)
  | _, _, _ => false
def letters : Str := "abcdefghijklmnopqrstuvwxyz"
def isAddrB : V → Bool
  | .str z => decide (1 ≤ z.length) && decide (z.length ≤ 8) && z.cps.toList.all fun c => decide (c ∈ letters.cps.toList)
  | _ => false
structure Ordr where
  src : Str
  tgt : Str
  first : Int
  last : Int
  way : Int
  deriving DecidableEq
def Ordr.vals (o : Ordr) : List V := [.str o.src, .str o.tgt, .int o.first, .int o.last, .int o.way]
def OrdAt (K : PySem.W.Frag) (H : Hp) (a : Addr) (o : Ordr) : Prop := SqT K H a o.vals
theorem OrdAt.mono {K : PySem.W.Frag} {H H' : Hp} {a : Addr} {o : Ordr} (h : OrdAt K H a o) (e : Same H H') : OrdAt K H' a o := MF.Same.tup e h
def overB (o p : Ordr) : Bool := decide (o.src = p.src) && (decide (o.first ≤ p.last) && decide (p.first ≤ o.last))
def isOrdB : List V → Bool
  | [s, t, f, l, w] => (isAddrB s && isAddrB t && !decide (s = t)) && ((isIntB l 0 1000000000000000000 && (match l with | .int i => isIntB f 0 i | _ => false)) && isIntB w 1 30)
  | _ => false
structure Ordr.Ok (o : Ordr) : Prop where
  as : isAddrB (.str o.src) = true
  at_ : isAddrB (.str o.tgt) = true
  ne : o.src ≠ o.tgt
  f0 : 0 ≤ o.first
  fl : o.first ≤ o.last
  lm : o.last ≤ 1000000000000000000
  w1 : 1 ≤ o.way
  w30 : o.way ≤ 30
theorem Ordr.Ok.b {o : Ordr} (h : o.Ok) : isOrdB o.vals = true := by
  obtain ⟨a, b, c, d, e, f, g, k⟩ := h
  have c' : decide (V.str o.src = V.str o.tgt) = false := decide_eq_false fun q => c (V.str.inj q)
  unfold isOrdB Ordr.vals
  simp only [a, b, c', isIntB, Bool.and_true, Bool.true_and, Bool.not_false]
  simp [d, e, f, g, k]
  omega

theorem iteD {c A B : Prop} [Decidable c] (hc : c) (h : A) : if decide c = true then A else B := by
  rw [if_pos (decide_eq_true hc)]
  exact h
theorem iteDN {c A B : Prop} [Decidable c] (hc : ¬ c) (h : B) : if decide c = true then A else B := by
  rw [if_neg (by rw [decide_eq_false hc]; exact Bool.false_ne_true)]
  exact h
theorem iteND {c A B : Prop} [Decidable c] (hc : c) (h : B) : if (!decide c) = true then A else B := by
  rw [decide_eq_true hc]
  exact iteF h
theorem iteNDN {c A B : Prop} [Decidable c] (hc : ¬ c) (h : A) : if (!decide c) = true then A else B := by
  rw [decide_eq_false hc]
  exact iteT h
theorem yesT {σ : L2.St} {H : Hp} {Q : Bool → Hp → Prop} (h : Q true H) : tYes σ H Q := h
theorem Paired.get {α β : Type} {R : α → β → Prop} : ∀ {l : List α} {r : List β} {i : Nat} {a : α}, Paired R l r → l[i]? = some a → ∃ b, r[i]? = some b ∧ R a b
  | _, _, _, _, .nil, e => by simp at e
  | _, _, 0, _, .cons h _, e => by simp at e; subst e; exact ⟨_, rfl, h⟩
  | _, _, i + 1, _, .cons _ t, e => by
    obtain ⟨b, h1, h2⟩ := Paired.get (i := i) t (by simpa using e)
    exact ⟨b, by simpa using h1, h2⟩
theorem Paired.append {α β : Type} {R : α → β → Prop} : ∀ {l l' : List α} {r r' : List β}, Paired R l r → Paired R l' r' → Paired R (l ++ l') (r ++ r')
  | _, _, _, _, .nil, h => h
  | _, _, _, _, .cons a t, h => .cons a (Paired.append t h)
def OrdsAt (K : PySem.W.Frag) (H : Hp) (as : List Addr) (os : List Ordr) : Prop := Paired (OrdAt K H) as os
theorem OrdsAt.mono {K : PySem.W.Frag} {H H' : Hp} {as : List Addr} {os : List Ordr} (h : OrdsAt K H as os) (e : Same H H') : OrdsAt K H' as os := PySem.Paired.mono (fun _ _ q => OrdAt.mono q e) h
structure Good (os : List Ordr) : Prop where
  len : os.length ≤ 30
  ok : ∀ o ∈ os, o.Ok
  apart : os.Pairwise fun o p => overB o p = false
def BookAt (K : PySem.W.Frag) (C : Addr) (H : Hp) (p : Addr) (os : List Ordr) : Prop :=
  ∃ dx t as, H p = some (.ins C dx [("listed", .ref t)]) ∧ SqT K H t (as.map V.ref) ∧ OrdsAt K H as os
theorem BookAt.mono {K : PySem.W.Frag} {C : Addr} {H H' : Hp} {p : Addr} {os : List Ordr} (h : BookAt K C H p os) (e : Same H H') : BookAt K C H' p os := by
  obtain ⟨dx, t, as, h1, h2, h3⟩ := h
  exact ⟨dx, t, as, e _ _ h1, MF.Same.tup e h2, h3.mono e⟩
theorem cut_take (xs : List V) (i : Nat) (h : i ≤ xs.length) : cutV xs none (some (i : Int)) = xs.take i := by
  unfold cutV
  rw [HT.sIx_none, HT.sIx_nat, Nat.min_eq_left h]
  simp
theorem ix_listK {X : Cx} {K : PySem.W.Frag} (h : X.K = K := by rfl) : IxR X (rIxL K) := h ▸ ix_list
theorem ix_seqK {X : Cx} {K : PySem.W.Frag} (h : X.K = K := by rfl) : IxR X (rIx K) := h ▸ ix_seq
theorem ix_tupK {X : Cx} {K : PySem.W.Frag} (h : X.K = K := by rfl) : IxR X (rIxT K) := h ▸ ix_tup
theorem pe_fldK {X : Cx} {K : PySem.W.Frag} {e : Expr} {ta : TE} {f : Str} {pos : Pos} (he : PE X e ta) (hb : attributeBase e f X.env (eval e X.env) = eval e X.env) (h : X.K = K := by rfl) : PE X (.Attribute e f pos) (tFld K ta f) := h ▸ pe_fld he hb
def spIsInteger : Sp := fun vs H Q _ => ∃ v lo hi, vs = [v, .int lo, .int hi] ∧ notSeq v = true ∧ Q (.bl (isIntB v lo hi)) H
def shortV : V → Prop
  | .str z => z.length ≤ sizeLine
  | _ => True
def spIsAddress : Sp := fun vs H Q _ => ∃ v, vs = [v] ∧ notSeq v = true ∧ shortV v ∧ ∀ H', Same H H' → Q (.bl (isAddrB v)) H'
def spOverlap (K : PySem.W.Frag) : Sp := fun vs H Q _ => ∃ a b o p, vs = [.ref a, .ref b] ∧ OrdAt K H a o ∧ OrdAt K H b p ∧ Q (.bl (overB o p)) H
def spIsOrder (K : PySem.W.Frag) : Sp := fun vs H Q _ => ∃ v b, vs = [v] ∧ ((∃ a xs, v = .ref a ∧ SqT K H a xs ∧ (∀ x ∈ xs, notSeq x = true ∧ shortV x) ∧ b = isOrdB xs) ∨ (∃ a xs, v = .ref a ∧ SqL K H a xs ∧ b = false) ∨ (notSeq v = true ∧ b = false)) ∧ ∀ H', Same H H' → Q (.bl b) H'
end MF
set_option Elab.async false
set_option linter.all false
set_option maxRecDepth 100000
set_option maxHeartbeats 1000000
namespace MF
open PySem PySem.Spec PyProof.Rows L2
def eqs (z : Str) (v : Value) : Bool := match v with
  | .str n _ => n.cps.toList == z.cps.toList
  | _ => false
theorem strEq (a b : Str) : (a.cps.toList == b.cps.toList) = (a == b) := by
  rw [Bool.eq_iff_iff, beq_iff_eq, beq_iff_eq]
  constructor
  · intro h
    obtain ⟨x⟩ := a
    obtain ⟨y⟩ := b
    have : x = y := Array.toList_inj.mp h
    rw [this]
  · intro h; rw [h]
theorem eqs_gives {z : Str} {t : Tok} : ∀ {ys : List Str} {us : List Value}, Vals (ys.map V.str) us → ∀ y ∈ us, MeetsSeq.EqGives y (.str z t) (eqs z y)
  | [], _, .nil => fun y hy => by cases hy
  | n :: ys, _, .cons r h => fun y hy => by
    obtain ⟨t', rfl⟩ := r
    rcases List.mem_cons.mp hy with e | e
    · rw [e]
      exact PySem.SeqRoads2.EqGives.str n z t' t
    · exact eqs_gives h y e
theorem eqs_count {z : Str} : ∀ {ys : List Str} {us : List Value}, Vals (ys.map V.str) us → us.countP (eqs z) = ys.count z
  | [], _, .nil => rfl
  | n :: ys, _, .cons r h => by
    obtain ⟨t', rfl⟩ := r
    have ih := eqs_count (z := z) h
    rw [List.countP_cons, List.count_cons, ih, show eqs z (.str n t') = (n == z) from strEq n z]
def rCntS (K : PySem.W.Frag) : V → List V → Hp → VK → Prop := fun x xs H Q => ∃ (p : Addr) (ys : List Str) (z : Str), x = .ref p ∧ xs = [.str z] ∧ SqL K H p (ys.map V.str) ∧ Q (.int (ys.count z : Nat)) H
theorem mt_lcountS {X : Cx} {K : PySem.W.Frag} (hK : X.K = K := by rfl) : MtR X "list.count" (rCntS K) := by
  subst hK
  intro pins s σ H x xs v us Q I rx rxs h
  obtain ⟨p, ns, k, rfl, rfl, hs, q⟩ := h
  cases rx
  obtain ⟨u, rfl, ru⟩ := rxs.one
  obtain ⟨t, rfl⟩ := ru
  obtain ⟨its, rv, ⟨⟨cls, dd, data, sl⟩, n, ho, hc, hdn, hd⟩, hlen⟩ := I.list hs
  simp only at hc hd
  subst hc hd
  refine call_meets PySem.F.slot_list_count ⟨_, ho, rfl⟩ PySem.F.entry_list_count (PySem.F.args_list_count_2 _ _)
    (SeqAt.list_countAt p its.toArray n dd sl (.str k t) (eqs k)) ⟨ho, fun y hy => (eqs_gives rv y (by simpa using hy)).at _ _, ?_⟩
  have ec : its.toArray.toList.countP (eqs k) = ns.count k := eqs_count rv
  refine ⟨.int (ns.count k : Nat), H, I.tok _, ⟨s.toks, ?_⟩, q⟩
  show Value.int ((its.toArray.toList.countP (eqs k) : Nat) : Int) s.toks = Value.int ((ns.count k : Nat) : Int) s.toks
  rw [ec]
theorem pe_bmK {X : Cx} {K : PySem.W.Frag} {o e : Expr} {es : List Expr} {to : TE} {t : TA} {name : Str} {apos cpos : Pos} {T id : String} {r : V → List V → Hp → VK → Prop} (pa : PlainAttrs T) (slot : Slot T name id) (hty : typeOf (.builtin id) = pure (.type "method_descriptor")) (hm : MtR X id r) (ho : PE X o to) (ha : PA X (e :: es) t)
    (hK : X.K = K := by rfl) (hbase : attributeBase o name X.env (eval o X.env) = eval o X.env := by rfl)
    (hfew : ((backTo cpos (starEach (e :: es) X.env)).all (fun x => !x.1) && (backToKw cpos (keywordEach [] X.env)).all (fun x => x.1.isSome)
      && decide ((e :: es).length + ([] : List Keyword).length + (if ([] : List Keyword).isEmpty then 0 else 1) < 30)) = true := by rfl)
    (hline : (apos.endLine == cpos.line) = true := by rfl) (hs : starEach (e :: es) X.env = (false, eval e X.env) :: starEach es X.env := by rfl) (hplain : (backTo cpos (starEach es X.env)).any (·.1) = false := by rfl) :
    PE X (.Call (.Attribute o name apos) (e :: es) [] cpos) (tBM K T r to t) := hK ▸ pe_bm pa slot hty hm ho ha hbase hfew hline hs hplain
end MF
set_option Elab.async false
set_option linter.all false
set_option maxRecDepth 100000
set_option maxHeartbeats 2000000
namespace MF
open PySem PySem.Spec PyProof.Rows L2 StX
theorem eqb_at {k : Bool} : ∀ {ys : List Bool} {us : List Value}, Vals (ys.map V.bl) us → ∀ y ∈ us, ∀ (A : Around) (s : Shared), SeqAt.EqAt A s y (.bool k) (isBoolOf k y)
  | [], _, .nil => fun y hy => by cases hy
  | b :: ys, _, .cons r h => fun y hy A s => by
    cases r
    rcases List.mem_cons.mp hy with e | e
    · rw [e]
      exact SeqAt.EqAt.bool_bool b k
    · exact eqb_at h y e A s
theorem eqb_count {k : Bool} : ∀ {ys : List Bool} {us : List Value}, Vals (ys.map V.bl) us → us.countP (isBoolOf k) = ys.count k
  | [], _, .nil => rfl
  | b :: ys, _, .cons r h => by
    cases r
    have ih := eqb_count (k := k) h
    rw [List.countP_cons, List.count_cons, ih]
    rfl
def rCntB (K : PySem.W.Frag) : V → List V → Hp → VK → Prop := fun x xs H Q => ∃ (p : Addr) (ys : List Bool) (k : Bool), x = .ref p ∧ xs = [.bl k] ∧ SqL K H p (ys.map V.bl) ∧ Q (.int (ys.count k : Nat)) H
theorem mt_lcountB {X : Cx} : MtR X "list.count" (rCntB X.K) := by
  intro pins s σ H x xs v us Q I rx rxs h
  obtain ⟨p, ys, k, rfl, rfl, hs, q⟩ := h
  cases rx
  obtain ⟨u, rfl, ru⟩ := rxs.one
  obtain rfl : u = Value.bool k := ru
  obtain ⟨its, rv, ⟨⟨cls, dd, data, sl⟩, n, ho, hc, hdn, hd⟩, hlen⟩ := I.list hs
  simp only at hc hd
  subst hc hd
  refine call_meets PySem.F.slot_list_count ⟨_, ho, rfl⟩ PySem.F.entry_list_count (PySem.F.args_list_count_2 _ _)
    (SeqAt.list_countAt p its.toArray n dd sl (.bool k) (isBoolOf k)) ⟨ho, fun y hy => eqb_at rv y (by simpa using hy) _ _, ?_⟩
  have ec : its.toArray.toList.countP (isBoolOf k) = ys.count k := eqb_count rv
  refine ⟨.int (ys.count k : Nat), H, I.tok _, ⟨s.toks, ?_⟩, q⟩
  show Value.int ((its.toArray.toList.countP (isBoolOf k) : Nat) : Int) s.toks = Value.int ((ys.count k : Nat) : Int) s.toks
  rw [ec]
theorem mt_lcountBK {X : Cx} {K : PySem.W.Frag} (h : X.K = K := by rfl) : MtR X "list.count" (rCntB K) := h ▸ mt_lcountB
theorem mt_indexDK {X : Cx} {K : PySem.W.Frag} (hu : X.A.units + 65 < cLine) (h : X.K = K := by rfl) : MtR X "list.index" (rIndexD K) := h ▸ mt_indexD hu
def rIsY (K : PySem.W.Frag) (cls : Value) (a : Addr) (d : Option Addr) : List V → Hp → VK → Prop := fun xs H Q => ∃ (D : Addr) (c : V) (cv : Value) (b : Bool), xs = [.ref a, c] ∧ cls = .ref D ∧ ExcC K D ∧ (∀ u, RelV c u → u = cv) ∧ PySem.W.kitOne K (.ref D) cv = some b ∧ DictSt H d ∧ Q (.bl b) H
theorem call_isY {X : Cx} {a : Addr} {cls : Value} {d : Option Addr} {oe : Obj} {pn : List (Addr × Obj)} (hz : Zc cls d oe) (hf : ∃ vs, oe.data = .fields vs) : CallR (X.suite a ((a, oe) :: pn)) (.builtin "isinstance") (rIsY X.K cls a d) := by
  intro pins s σ H xs us Q I r h
  obtain ⟨D, c, cv, b, e1, rfl, hC, hcv, e, hd, q⟩ := h
  exact call_isX hC hz hf pins s σ H xs us Q I r ⟨c, cv, b, e1, hcv, e, hd, q⟩
def tXfY (K : PySem.W.Frag) (a : Addr) (cls : Value) (d : Option Addr) (f : Str) (te : TE) : TE := fun σ H Q => te σ H fun x H1 => x = .ref a ∧ ∃ (C dd : Addr) (fs : List (Str × V)) (v : V), cls = .ref C ∧ XfC K C ∧ PySem.W.findIn K (.ref C) f = some none ∧ d = some dd ∧ H1 dd = some (.xd fs) ∧ fs.lookup f = some v ∧ Q v H1
theorem pe_xfY {X : Cx} {a : Addr} {oe : Obj} {cls : Value} {d : Option Addr} {pn : List (Addr × Obj)} {e : Expr} {te : TE} {pos : Pos} {n : Str}
    (hz : Zc cls d oe) (hf : ∃ vs, oe.data = .fields vs) (he : PE (X.suite a ((a, oe) :: pn)) e te) (hb : attributeBase e n X.env (eval e X.env) = eval e X.env := by rfl) :
    PE (X.suite a ((a, oe) :: pn)) (.Attribute e n pos) (tXfY X.K a cls d n te) := by
  refine ⟨fun pins s σ H Q I h => ?_⟩
  refine attr_of hb (thn (he.run pins s σ H _ I h) fun u s1 hh => ?_)
  obtain ⟨x, H1, I1, rx, ex, C, dd, fs, v, ec, T, hno, ed, ea, l, q⟩ := hh
  subst ex
  obtain rfl : u = Value.ref a := rx
  subst ec
  subst ed
  obtain ⟨ha, _⟩ := I1.pin (a, oe) (List.mem_append_left _ List.mem_cons_self)
  obtain ⟨vs, hd⟩ := hf
  have hx : ObjOk X.prog X.w H1 s1.heap dd (.xd fs) := I1.hok dd _ ea
  obtain ⟨mA, hns, hr⟩ := hx
  obtain ⟨od, ho, hl⟩ := lookIn_ns hns
  obtain ⟨u, hu, ru⟩ := RelO.some_of (v := v) (o := mA n) (by rw [← l]; exact hr n)
  have J : PySem.W.InstAt s1.heap a oe C (some od) := ⟨ha, hz.1, by unfold PySem.W.notCls; rw [hd] <;> rfl, by rw [hz.2]; exact ho⟩
  exact HandSPX.exc_get I1.kIn J T.ga T.gg T.exC (PySem.W.findObj_own T.hdC hno rfl (by rw [hl, hu])) (handed_of ru) ⟨v, H1, I1.tok _, ru, q⟩
structure ErrC (K : PySem.W.Frag) (C M : Addr) : Prop where
  exc : ExcC K C
  exm : PySem.W.exmOne K (.ref C) (.ref M) = some true
  ve : PySem.W.kitOne K (.ref C) (.type "ValueError") = some true
theorem ErrC.xf {K : PySem.W.Frag} {C M : Addr} (h : ErrC K C M) : XfC K C := ⟨h.exc.hg, h.exc.hk, h.exc.hs, h.exc.hd⟩
inductive Err where
  | order (i : V)
  | unknown (i : V)
  | address
  | day
  | number
  | letter (i : V)
  | holding (i : V)
  | operation (i : V)
  | contra
  | count
  | decode (i : V)
  | note (r w : V)
structure Cls5 where
  order : Addr
  unknown : Addr
  address : Addr
  day : Addr
  number : Addr
def ErrAt (c : Cls5) (cls : Value) (d : Option Addr) (H : Hp) : Err → Prop
  | .order v => cls = .ref c.order ∧ ∃ dd, d = some dd ∧ H dd = some (.xd [("index", v)])
  | .unknown v => cls = .ref c.unknown ∧ ∃ dd, d = some dd ∧ H dd = some (.xd [("index", v)])
  | .address => cls = .ref c.address ∧ d = none
  | .day => cls = .ref c.day ∧ d = none
  | .number => cls = .ref c.number ∧ d = none
  | _ => False
def errV : Err → List V
  | .order v => [.str "order", v]
  | .unknown v => [.str "unknown", v]
  | .address => [.str "address"]
  | .day => [.str "day"]
  | .number => [.str "number"]
  | _ => []
def TRaised (rk : Err → Prop) (c : Cls5) : (XK → Hp → VK → Prop) → Hp → VK → Prop := fun tl H Q =>
  tl (fun cls d H' => ∃ r, rk r ∧ ErrAt c cls d H' r ∧ ∀ p H2, Same H' H2 → H' p = none → H2 p = some (.tup (errV r)) → Q (.ref p) H2) H (fun _ H' => Q .non H')
def wordAt : Nat → Str
  | 0 => "order"
  | 1 => "unknown"
  | 2 => "address"
  | 3 => "day"
  | _ => "number"
end MF
set_option Elab.async false
set_option linter.all false
set_option maxRecDepth 100000
set_option maxHeartbeats 2000000
namespace MF
open PySem PySem.Spec PyProof.Rows L2 StX LamX
theorem pss_no {X : Cx} {ss : List Stmt} : PSs X ss (fun _ _ _ => False) := ⟨fun _ _ _ _ _ _ h => h.elim⟩
theorem ps_no {X : Cx} {st : Stmt} : PS X st (fun _ _ _ => False) := ⟨fun _ _ _ _ _ _ h => h.elim⟩
theorem pe_no {X : Cx} {e : Expr} : PE X e (fun _ _ _ => False) := ⟨fun _ _ _ _ _ _ h => h.elim⟩
theorem passM {X : Cx} {A : Around} {outer : List Env} {s : Shared} {H : Hp} {E : XK} {scope : Scope} {f c' : Addr} : Passes (L2.CX X.prog X.w) (lamCx X A outer s H E scope f c') E := passes_call (W := fun cls d _ H => E cls d H) (takes_of rfl rfl rfl rfl) fun _ _ _ _ h => h
theorem passN {X : Cx} : Passes (L2.CX X.prog X.w) X E0 := fun _ _ _ _ _ _ _ h => by
  obtain ⟨_, _, _, _, _, _, _, _, _, _, _, _, z⟩ := h
  exact z.elim
theorem pe_lamX {X : Cx} {k : Nat} {params : Arguments} {body : Expr} {scope : Scope} {t : XK → TE} {T : List (Addr × Str)} {q : Str} {c P : Addr} {lpos : Pos} (TB : TabB X.base X.mg c P) (hmT : (P, q) ∈ T) (hu : ∀ p ∈ T, p.1 = P → p.2 = q) (hq : X.env.qual ++ "<lambda>" = q) (hcode : X.env.code = .ref c)
    (hdef : defaultsOf params X.env = ([], [])) (L : LamS X.env.scope scope) (bind : ∀ (q : Str) (cl : List (Str × Addr)) (doc pm cv ctv : Value), bindArgs (lamFd q params body scope cl .none doc pm cv ctv) ⟨[], []⟩ = pure [])
    (run : ∀ (A : Around) (outer : List Env) (s : Shared) (H : Hp) (E : XK) (f c' : Addr), Room k (A.deeper (lamEnv X scope s.heap.objs.size f c')) → PE (lamCx X A outer s H E scope f c') body (t E)) :
    PE X (.Lambda params body scope lpos) (tLamE T X (k := k) ⟨none, params, body, scope, t, lamSN_of L, bind, run⟩) := by
  subst hq
  exact pe_lamE (k := k) ⟨none, params, body, scope, t, lamSN_of L, bind, run⟩ rfl TB hcode hmT hu hdef
theorem pe_lamXD {X : Cx} {k : Nat} {x : Str} {params : Arguments} {body : Expr} {scope : Scope} {t : XK → TE} {T : List (Addr × Str)} {q : Str} {c P : Addr} {lpos p0 : Pos} {i0 : Int} {j0 : Nat} (TB : TabB X.base X.mg c P) (hmT : (P, q) ∈ T) (hu : ∀ p ∈ T, p.1 = P → p.2 = q) (hq : X.env.qual ++ "<lambda>" = q) (hcode : X.env.code = .ref c)
    (hdef : params.defaults = [.Constant (.int i0) j0 p0]) (hkw : params.kw_defaults = []) (L : LamSN X.N X.env.scope scope) (hl : scope.names.lookup x = some .local) (bind : ∀ (q : Str) (cl : List (Str × Addr)) (T : Addr) (doc pm cv ctv : Value), ∃ k, bindArgs (lamFd q params body scope cl (.ref T) doc pm cv ctv) ⟨[], []⟩ = seqItems? (.ref T) >>= k ∧ ∀ u, k (some #[u]) = pure [(x, u)])
    (run : ∀ (A : Around) (outer : List Env) (s : Shared) (H : Hp) (E : XK) (f c' : Addr), Room k (A.deeper (lamEnv X scope s.heap.objs.size f c')) → PE (lamCx X A outer s H E scope f c') body (t E)) :
    PE X (.Lambda params body scope lpos) (tLamE T X (k := k) ⟨some x, params, body, scope, t, L, ⟨hl, bind⟩, run⟩) := by
  subst hq
  exact pe_lamD (k := k) ⟨some x, params, body, scope, t, L, ⟨hl, bind⟩, run⟩ rfl TB hcode hmT hu hdef hkw
structure FunC (K : PySem.W.Frag) (x qual : Str) (st : Stmt) (f : Addr) (fd : FuncData) (c : Addr) : Prop where
  ex : ∃ (oc : Value) (od : Option Addr) (kV doc pm : Value) (an : Option Addr) (ct : Value) (osl : Array (Option Value)), fd = PySem.W.fnOf x qual (defArgs st) (defBody st) (defScope st) .none kV doc pm an (.ref c) ct ∧ K.lookup f = some ⟨oc, od, .func fd, osl⟩ ∧ PySem.W.codeIn K (.ref c) qual = true
theorem FunC.ok {P : Program} {w : World} {K : PySem.W.Frag} {mg : Str → Option Value} {base : Heap} {x qual : Str} {st : Stmt} {f c : Addr} {fd : FuncData} {N ps : List Str} {k : Nat} {sp : Sp} (F : FunC K x qual st f fd c) (S : FnScope N ps (defScope st)) (len : ∀ vs H Q E, sp vs H Q E → vs.length = ps.length)
    (hbody : ∀ (A : Around) (outer : List Env) (s : Shared) (H : Hp) (vs : List V) (Q : VK) (E : XK), Room k (A.deeper (envOfC qual (defScope st) s.heap.objs.size f (.ref c))) → sp vs H Q E →
      ∃ t, PSs (cxOf CX0 P w K mg base N qual (defScope st) f (.ref c) A outer s H E).nox (defBody st) t ∧ t { nx := fun _ H' => Q .non H', rt := Q } (start N vs) H) : FnOk P w K mg base CX0 (k + 1) f fd ps sp := by
  obtain ⟨oc, od, kV, doc, pm, an, ct, osl, rfl, lk, hcd⟩ := F.ex
  refine fn_of lk hcd S len fun A outer s H vs Q E hr hsp => ?_
  obtain ⟨t, h, q⟩ := hbody A outer s H vs Q E hr hsp
  exact ⟨t, h.nox, q⟩
theorem GDef.fnX {P : Program} {w : World} {K : PySem.W.Frag} {mg : Str → Option Value} {base : Heap} {k : Nat} {x : Str} {st : Stmt} {ps N : List Str} {sp : Sp} (D : GDef K mg x st ps) (S : FnScope N ps (defScope st)) (len : ∀ vs H Q E, sp vs H Q E → vs.length = ps.length)
    (hbody : ∀ (f : Addr) (cdv : Value) (A : Around) (outer : List Env) (s : Shared) (H : Hp) (vs : List V) (Q : VK) (E : XK), Room k (A.deeper (envOfC x (defScope st) s.heap.objs.size f cdv)) → sp vs H Q E →
      ∃ t, PSs (cxOf (L2.CX P w) P w K mg base N x (defScope st) f cdv A outer s H E) (defBody st) t ∧ t { nx := fun _ H' => Q .non H', rt := Q } (start N vs) H) : GFn P w K mg base (L2.CX P w) (k + 1) x sp :=
  D.fn fun f fd F => by
    obtain ⟨oc, od, kV, doc, pm, an, cdv, ct, osl, rfl, lk, hcd⟩ := F.ex
    exact fn_of lk hcd S len fun A outer s H vs Q E hr hsp => hbody f cdv A outer s H vs Q E hr hsp
theorem MDef.fnX {P : Program} {w : World} {K : PySem.W.Frag} {mg : Str → Option Value} {base : Heap} {k : Nat} {C : Addr} {m qual : Str} {st : Stmt} {ps N : List Str} {sp : Sp} (D : MDef K C m qual st ps) (S : FnScope N ps (defScope st)) (len : ∀ vs H Q E, sp vs H Q E → vs.length = ps.length)
    (hbody : ∀ (f : Addr) (cdv : Value) (A : Around) (outer : List Env) (s : Shared) (H : Hp) (vs : List V) (Q : VK) (E : XK), Room k (A.deeper (envOfC qual (defScope st) s.heap.objs.size f cdv)) → sp vs H Q E →
      ∃ t, PSs (cxOf (L2.CX P w) P w K mg base N qual (defScope st) f cdv A outer s H E) (defBody st) t ∧ t { nx := fun _ H' => Q .non H', rt := Q } (start N vs) H) : MFn P w K mg base (L2.CX P w) (k + 1) C m sp :=
  D.fn fun f fd F => by
    obtain ⟨oc, od, kV, doc, pm, an, cdv, ct, osl, rfl, lk, hcd⟩ := F.ex
    exact fn_of lk hcd S len fun A outer s H vs Q E hr hsp => hbody f cdv A outer s H vs Q E hr hsp
def spLawT (K : PySem.W.Frag) (Ps : List Addr) : Sp := fun vs H Q _ => ∃ (a : Addr) (ns : List Int), vs = [.ref a] ∧ SqL K H a (ns.map V.int) ∧ ns.length ≤ 63 ∧ (∀ P ∈ Ps, H P = some (.tbl #[])) ∧ ∀ H', Q (.bl true) H'
theorem op_neDK {X : Cx} {K : PySem.W.Frag} (hu : X.A.units + 64 < cLine) (h : X.K = K := by rfl) : OpR X (compareOp .NotEq) (rNeD K) := h ▸ op_neD hu
theorem op_eqDK {X : Cx} {K : PySem.W.Frag} (hu : X.A.units + 64 < cLine) (h : X.K = K := by rfl) : OpR X (compareOp .Eq) (rEqD K) := h ▸ op_eqD hu
theorem ExtN.ext {H H' : Hp} (e : ExtN H H') : ∀ b φ, H b = some (.ext φ) → H' b = some (.ext φ) := fun b φ h => e _ _ h fun ps z => by cases z
end MF
set_option Elab.async false
set_option linter.all false
set_option maxRecDepth 100000
set_option maxHeartbeats 2000000
namespace MF
open PySem PySem.Spec PyProof.Rows L2 StX LamX
structure GDefC (K : PySem.W.Frag) (mg : Str → Option Value) (x : Str) (st : Stmt) (ps : List Str) (c : Addr) : Prop where
  ex : ∃ f fd, FunC K x x st f fd c ∧ mg x = some (.ref f) ∧ Binds K fd ps [] ∧ PySem.W.keepIn K (.ref f) = true
theorem GDefC.fn {P : Program} {w : World} {K : PySem.W.Frag} {mg : Str → Option Value} {base : Heap} {CX : CXT} {k : Nat} {x : Str} {st : Stmt} {ps : List Str} {sp : Sp} {c : Addr} (D : GDefC K mg x st ps c) (h : ∀ f fd, FunC K x x st f fd c → FnOk P w K mg base CX k f fd ps sp) : GFn P w K mg base CX k x sp :=
  let ⟨f, fd, a, b, d, e⟩ := D.ex
  ⟨f, raw0 (h f fd a) d, b, e⟩
end MF
set_option Elab.async false
set_option linter.all false
set_option maxRecDepth 100000
set_option maxHeartbeats 2000000
namespace MF
open PySem PySem.Spec PyProof.Rows L2 StX
def oexB (K : PySem.W.Frag) (C : Addr) : Bool := match K.lookup C with
  | some ⟨.type "type", _, .cls cd, sl⟩ => (match cd.mro, sl.toList with
    | .ref C' :: bm, [_, _, _, _, some (.builtin n), _] => C' == C && n == "ValueError.__new__" && cd.hasDict && !cd.hasDel && PySem.HandSPX.refsVE bm
    | _, _ => false)
  | _ => false
theorem oex_cls {K : PySem.W.Frag} {C : Addr} (q : oexB K C = true) : ∃ nm q N bs bm sn sub ab col dd k0 k1 k2 k3 k5, K.lookup C = some (excClassObj nm q C N bs bm true sn sub ab col dd k0 k1 k2 k3 k5 "ValueError.__new__") ∧ PySem.HandSPX.refsVE bm = true := by
  unfold oexB at q
  split at q
  · rename_i dd cd sl hk
    split at q
    · rename_i C' bm k0 k1 k2 k3 n k5 hm hs
      simp only [Bool.and_eq_true, Bool.not_eq_true'] at q
      obtain ⟨⟨⟨⟨e1, e2⟩, e3⟩, e4⟩, e5⟩ := q
      obtain rfl : C' = C := beq_iff_eq.mp e1
      obtain rfl : n = "ValueError.__new__" := beq_iff_eq.mp e2
      obtain ⟨nm, bs, mro, N, qn, hdct, sn, sub, ab, col, del⟩ := cd
      simp only at hm e3 e4
      subst hm e3 e4
      have : sl = #[k0, k1, k2, k3, some (.builtin "ValueError.__new__"), k5] := Array.ext' hs
      subst this
      exact ⟨nm, qn, N, bs, bm, sn, sub, ab, col, dd, k0, k1, k2, k3, k5, hk, e5⟩
    · cases q
  · cases q
theorem oex_of {K : PySem.W.Frag} {C : Addr} (q : oexB K C = true) (sa : PySem.W.findIn K (.ref C) "__setattr__" = some (some (.builtin "object.__setattr__"))) (exC : PySem.W.subIn K (.ref C) (.type "BaseException") = some true) (tyC : PySem.W.typeIn K (.ref C) = some (.type "type")) (kC : PySem.W.keepIn K (.ref C) = true) : OexC K C := ⟨oex_cls q, sa, exC, tyC, kC⟩
end MF
set_option Elab.async false
set_option linter.all false
set_option maxRecDepth 100000
set_option maxHeartbeats 2000000
namespace MF
open PySem PySem.Spec PyProof.Rows L2 StX
theorem SDef.fnX {P : Program} {w : World} {K : PySem.W.Frag} {mg : Str → Option Value} {base : Heap} {k : Nat} {C : Addr} {x qual p1 pv : Str} {st : Stmt} {N : List Str} {sp : Sp} (D : SDef K mg C x qual st p1 pv) (S : FnScope N [p1, pv] (defScope st))
    (hbody : ∀ (f : Addr) (cdv : Value) (A : Around) (outer : List Env) (s : Shared) (H : Hp) (vs : List V) (Q : VK) (E : XK), Room k (A.deeper (envOfC qual (defScope st) s.heap.objs.size f cdv)) → sp vs H Q E →
      ∃ t, PSs (cxOf (L2.CX P w) P w K mg base N qual (defScope st) f cdv A outer s H E) (defBody st) t ∧ t { nx := fun _ H' => Q .non H', rt := Q } (start N vs) H) :
    IFn P w K mg base (L2.CX P w) (k + 1) C x (fun vs H Q E => ∃ v rest, vs = v :: rest ∧ rest.length ≤ sizeLine ∧ ∀ p, H p = Option.none → sp [v, V.ref p] (upd H p (.tup rest)) Q E) := by
  obtain ⟨f, fd, F, M, hm, hb⟩ := D.ex
  obtain ⟨oc, od, kV, doc, pm, an, cdv, ct, osl, rfl, lk, hcd⟩ := F.ex
  refine ⟨f, (fn_star (ps := [p1]) (pv := pv) (sp := sp) lk hcd S cxUp hb fun A outer s H vs Q E hr hsp => hbody f cdv A outer s H vs Q E hr hsp).imp fun vs H Q E h => ?_, M, hm⟩
  obtain ⟨v, rest, rfl, hl, q⟩ := h
  exact ⟨[v], rest, rfl, rfl, hl, q⟩
theorem owns_cx {P : Program} {w : World} {K : PySem.W.Frag} {mg : Str → Option Value} {base : Heap} {N : List Str} {qual : Str} {scope : Scope} {f : Addr} {cd : Value} {A : Around} {outer : List Env} {s : Shared} {H : Hp} {E : XK} :
    PassesOwn (model P w) (cxOf (L2.CX P w) P w K mg base N qual scope f cd A outer s H E).A (cxOf (L2.CX P w) P w K mg base N qual scope f cd A outer s H E).env (cxOf (L2.CX P w) P w K mg base N qual scope f cd A outer s H E).xe :=
  passes_of (X := cxOf (L2.CX P w) P w K mg base N qual scope f cd A outer s H E) rfl
end MF
set_option Elab.async false
set_option linter.all false
namespace MF
open PySem PySem.Spec PyProof.Rows L2 StX
theorem newS {H H2 : Hp} {q : Addr} {o : HO} (h : H q = none) (e : L2.upd H q o = H2) : Same H H2 ∧ H2 q = some o := by
  subst e
  exact ⟨Same.new h, upd_same⟩
end MF
set_option Elab.async false
set_option linter.all false
set_option maxRecDepth 100000
set_option maxHeartbeats 1000000
namespace MF
open PySem PySem.Spec PyProof.Rows L2 StX
section
variable {prog : Program} {w : World} {A : Around} {E : Value → Shared → Prop} {s : Shared} {K : PySem.W.Frag} {x C f : Addr} {b tb : Value} {ox : Obj} {od : Option Obj}
theorem bound_objNe {M : Model} {args : List Value} {Q : Option Value → Shared → Prop} (X : K.In s.heap) (I : PySem.W.InstAt s.heap x ox C od) (hs : PySem.W.findIn K (.ref C) "__ne__" = some (some (.builtin "object.__ne__")))
    (h : wpAny M A (call (.builtin "object.__ne__") (.ref x :: args)) (fun v s' => Q (some v) s') E s) : wpAny M A (callSpecialIfBound? (.ref x) "__ne__" args) Q E s := by
  unfold callSpecialIfBound? bindSpecialIfBound?
  have last : wpAny M A (call (.builtin "object.__ne__") ([.ref x] ++ args) >>= fun v => pure (some v)) Q E s := wpAny_bind (wpAny_mono h (fun v s' z => wpAny_pure z) fun _ _ z => z)
  refine wpAny_holding (wpAny_bind ?_)
  refine wpAny_bind (wpAny_bind (I.type.here ?_))
  refine (PySem.W.looks_findIn X hs).here (wpAny_bind ?_)
  refine wpAny_askSetting (wpAny_ite ?_)
  split
  · exact wpAny_bind (wpAny_of_eq (F.cmp_object.ne.bind _) (wpAny_pure (by exact last)))
  · exact wpAny_tryCatch (wpAny_bind (wpAny_of_eq (F.cmp_object.ne.bind _) (wpAny_pure (by exact last))))
theorem entry_objNe {Q : Fin → Shared → Prop} (hu : A.units < cLine) (X : K.In s.heap) (I : PySem.W.InstAt s.heap x ox C od) (hs : PySem.W.findIn K (.ref C) "__eq__" = some (some (.ref f))) (hf : PySem.W.isFn K (.ref f) = true)
    (h : wpAny (model prog w) A (call (.ref f) [.ref x, b]) (fun v s' => ∃ c, v = .bool c ∧ Q (.done (.ret (.bool (!c)))) s') E s) : wpAny (model prog w) A (Builtin.«object.__ne__» ⟨[.ref x, b], []⟩) Q E s := by
  unfold Builtin.«object.__ne__»
  repeat (first
    | with_reducible refine wpAny_cRoomFor hu ?_
    | (refine wpAny_bind (m := callSpecialIfBound? (.ref x) (Str.ofString "__eq__") [b]) (PySem.W.ifBound_K X I hs hf (wpAny_mono h (fun v s' z => ?_) fun _ _ z => z)))
    | wp_step)
  obtain ⟨c, rfl, hq⟩ := z
  repeat (first
    | exact hq
    | exact wpAny_pure hq
    | exact wpAny_truthy_bool hq
    | (refine wpAny_bind (m := truthy (.bool _)) (wpAny_truthy_bool ?_))
    | wp_step)
theorem rc_by {op : CmpOp} {Q : Value → Shared → Prop} (hu : A.units < cLine) (X : K.In s.heap) (I : PySem.W.InstAt s.heap x ox C od) (hb : PySem.W.Looks (model prog w) s.heap (typeOf b) tb) (hn : PySem.W.notFirst K C tb = true)
    (one : wpAny (model prog w) A (tryCompare (.ref x) (cmpInfo op).2.1 b) (fun r s' => ∃ v, r = some v ∧ Q v s') E s) : wpAny (model prog w) A (richCompare op (.ref x) b) Q E s := by
  unfold richCompare
  simp only [oneThing_ref]
  refine wpAny_holding (wpAny_bind ?_)
  refine wpAny_cRoomFor hu (wpAny_bind ?_)
  refine I.type.here (wpAny_bind (hb.here ?_))
  split
  · rename_i q
    have e : PySem.W.subIn K tb (.ref C) = some false := (Bool.or_eq_true_iff.mp hn).elim (fun e => by rw [beq_iff_eq.mp e] at q; simp at q) beq_iff_eq.mp
    refine wpAny_bind ((PySem.W.looks_subIn X e).here ?_)
    simp only [Bool.false_eq_true, if_false]
    exact wpAny_bind (wpAny_mono one (fun r s' z => (by obtain ⟨v, rfl, hq⟩ := z; exact wpAny_pure hq)) fun _ _ z => z)
  · refine wpAny_bind (wpAny_pure ?_)
    simp only [Bool.false_eq_true, if_false]
    exact wpAny_bind (wpAny_mono one (fun r s' z => (by obtain ⟨v, rfl, hq⟩ := z; exact wpAny_pure hq)) fun _ _ z => z)
theorem rc_eqO {Q : Bool → Shared → Prop} (hu : A.units < cLine) (X : K.In s.heap) (I : PySem.W.InstAt s.heap x ox C od) (hb : PySem.W.Looks (model prog w) s.heap (typeOf b) tb) (hn : PySem.W.notFirst K C tb = true)
    (hs : PySem.W.findIn K (.ref C) "__eq__" = some (some (.ref f))) (hf : PySem.W.isFn K (.ref f) = true) (h : wpAny (model prog w) A (call (.ref f) [.ref x, b]) (fun v s' => ∃ c, v = .bool c ∧ Q c s') E s) :
    wpAny (model prog w) A (compareOp .Eq (.ref x) b) (fun v s' => ∃ c, v = .bool c ∧ Q c s') E s := by
  show wpAny (model prog w) A (richCompare .Eq (.ref x) b) _ E s
  refine rc_by hu X I hb hn ?_
  unfold tryCompare
  refine wpAny_bind (PySem.W.ifBound_K X I hs hf (wpAny_mono h (fun v s' z => ?_) fun _ _ e => e))
  obtain ⟨c, rfl, q⟩ := z
  exact wpAny_pure ⟨_, rfl, c, rfl, q⟩
theorem rc_neO {Q : Bool → Shared → Prop} (hu : A.in1.units < cLine) (hu0 : A.units < cLine) (X : K.In s.heap) (I : PySem.W.InstAt s.heap x ox C od) (hb : PySem.W.Looks (model prog w) s.heap (typeOf b) tb) (hn : PySem.W.notFirst K C tb = true)
    (hm : PySem.W.mroIn K C (.type "object") = some true) (hne : PySem.W.findIn K (.ref C) "__ne__" = some (some (.builtin "object.__ne__"))) (hs : PySem.W.findIn K (.ref C) "__eq__" = some (some (.ref f))) (hf : PySem.W.isFn K (.ref f) = true)
    (h : wpAny (model prog w) A.in1 (call (.ref f) [.ref x, b]) (fun v s' => ∃ c, v = .bool c ∧ Q (!c) s') E s) :
    wpAny (model prog w) A (compareOp .NotEq (.ref x) b) (fun v s' => ∃ c, v = .bool c ∧ Q c s') E s := by
  show wpAny (model prog w) A (richCompare .NotEq (.ref x) b) _ E s
  refine rc_by hu0 X I hb hn ?_
  unfold tryCompare
  refine wpAny_bind (bound_objNe X I hne (wpAny_call (codeAny_call_builtin F.cmp_object.ne.plain F.cmpEntry_ne (PySem.W.check_slot F.cmpKind_ne F.cmpSplit_ne (I.type.andThen (PySem.W.looks_mroIn X hm)) (F.cmpArgs_ne _ _) (entry_objNe hu X I hs hf (wpAny_mono h (fun v s' z => ?_) fun _ _ e => e))))))
  obtain ⟨c, rfl, q⟩ := z
  refine ⟨c, rfl, ?_⟩
  first
    | exact wpAny_pure ⟨_, rfl, _, rfl, q⟩
    | exact wpAny_pure (wpAny_pure ⟨_, rfl, _, rfl, q⟩)
end
structure OwnC (K : PySem.W.Frag) (C : Addr) : Prop where
  ca : PySem.W.findIn K (.ref C) "__class__" = some (some (.builtin "object.__class__"))
  cn : PySem.W.specialIn K (.builtin "object.__class__") "__get__" = some (some (.builtin "getset_descriptor.__get__"))
  ct : PySem.W.takesIn K (.builtin "object.__class__") = some true
  mo : PySem.W.mroIn K C (.type "object") = some true
  ne : PySem.W.findIn K (.ref C) "__ne__" = some (some (.builtin "object.__ne__"))
  is : PySem.W.kitOne K (.ref C) (.ref C) = some true
  no : PySem.W.kitOne K (.type "tuple") (.ref C) = some false
theorem sub_tup {K : PySem.W.Frag} {C : Addr} : PySem.W.subIn K (.type "tuple") (.ref C) = some false := by
  have e : fastBuiltinMro "tuple" = some [.type "tuple", .type "object"] := by decide +kernel
  show (fastBuiltinMro "tuple").map (·.contains (.ref C)) = some false
  rw [e]
  first
    | rfl
    | simp
section
variable {X : Cx} {CX : CXT} {k : Nat} {C f : Addr} {sp : Sp} {E : XK}
def rEqO (K : PySem.W.Frag) (C : Addr) (sp : Sp) (E : XK) (neg : Bool) : R2 := fun x y H Q => ∃ a dx fs, x = .ref a ∧ H a = some (.ins C dx fs) ∧ ((∃ b dy gs, y = .ref b ∧ H b = some (.ins C dy gs)) ∨ ∃ b xs, y = .ref b ∧ SqT K H b xs) ∧
  sp [x, y] H (fun v H' => ∃ b : Bool, v = .bl b ∧ Q (.bl (if neg = true then !b else b)) H') E
theorem eqO_side {pins : List (Addr × Obj)} {σ : L2.St} {H : Hp} {s : Shared} {y : V} {u : Value} (I : Inv X pins σ H s) (ry : RelV y u) (h : (∃ b dy gs, y = .ref b ∧ H b = some (.ins C dy gs)) ∨ ∃ b xs, y = .ref b ∧ SqT X.K H b xs) :
    ∃ tb, PySem.W.Looks (model X.prog X.w) s.heap (typeOf u) tb ∧ PySem.W.notFirst X.K C tb = true := by
  rcases h with ⟨b, dy, gs, rfl, eb⟩ | ⟨b, xs, rfl, hb⟩
  · obtain rfl : u = Value.ref b := ry
    obtain ⟨mA, O, _⟩ := ins_get I.hok eb
    obtain ⟨od, ia, _⟩ := O.look
    exact ⟨_, ia.type, by unfold PySem.W.notFirst; simp⟩
  · obtain rfl : u = Value.ref b := ry
    refine ⟨.type "tuple", ?_, by unfold PySem.W.notFirst; rw [sub_tup]; simp⟩
    obtain ⟨its, o, n, _, ho, hc, _⟩ := sqT_at I.hok I.kIn hb
    intro A Q E s k q
    refine wpAny_typeOf_ref (k _ _ ho) ?_
    rw [hc]
    exact q
theorem op_eqO (M : Meth X.K C "__eq__" f) (F : FnR X.prog X.w X.K X.mg X.base CX k f sp) (hr : Room k X.A) (hx : Passes CX X E) : OpR X (compareOp .Eq) (rEqO X.K C sp E false) := by
  rintro pins s σ H x y u v Q I rx ry ⟨a, dx, fs, rfl, ea, hy, h⟩
  obtain ⟨tb, hb, hn⟩ := eqO_side I ry hy
  obtain rfl : u = Value.ref a := rx
  obtain ⟨mA, O, _⟩ := ins_get I.hok ea
  obtain ⟨od, ia, _⟩ := O.look
  refine thn (rc_eqO (Q := fun c s' => ∃ H', Inv X pins σ H' s' ∧ Q (.bl c) H') hr.units0 I.kIn ia hb hn M.at_ M.fn (thn (wpAny_call (run_fnR (us := [.ref a, v]) (vs := [.ref a, y]) F hr hx I (.cons rfl (.cons ry .nil)) h)) fun r s' hq => ?_)) fun r s' hq => ?_
  · obtain ⟨z, H', I', rz, b, rfl, q⟩ := hq
    exact ⟨b, rz, H', I', q⟩
  · obtain ⟨c, rfl, H', I', q⟩ := hq
    exact ⟨.bl c, H', I', rfl, q⟩
theorem op_neO (N : OwnC X.K C) (M : Meth X.K C "__eq__" f) (F : FnR X.prog X.w X.K X.mg X.base CX k f sp) (hr : Room (k + 1) X.A) (hx : Passes CX X E) : OpR X (compareOp .NotEq) (rEqO X.K C sp E true) := by
  rintro pins s σ H x y u v Q I rx ry ⟨a, dx, fs, rfl, ea, hy, h⟩
  obtain ⟨tb, hb, hn⟩ := eqO_side I ry hy
  obtain rfl : u = Value.ref a := rx
  obtain ⟨mA, O, _⟩ := ins_get I.hok ea
  obtain ⟨od, ia, _⟩ := O.look
  refine thn (rc_neO (Q := fun c s' => ∃ H', Inv X pins σ H' s' ∧ Q (.bl c) H') hr.in1.units0 hr.units0 I.kIn ia hb hn N.mo N.ne M.at_ M.fn (thn (run_in1 (us := [.ref a, v]) (vs := [.ref a, y]) F hr hx I (.cons rfl (.cons ry .nil)) h) fun r s' hq => ?_)) fun r s' hq => ?_
  · obtain ⟨z, H', I', rz, b, rfl, q⟩ := hq
    exact ⟨b, rz, H', I', q⟩
  · obtain ⟨c, rfl, H', I', q⟩ := hq
    exact ⟨.bl c, H', I', rfl, q⟩
end
end MF
set_option Elab.async false
set_option linter.all false
set_option maxRecDepth 100000
set_option maxHeartbeats 1000000
namespace MF
open PySem PySem.Spec PyProof.Rows L2 StX
section
variable {X : Cx} {CX : CXT} {k : Nat} {C f : Addr} {sp : Sp} {E : XK}
def rInO (C : Addr) (sp : Sp) (E : XK) (neg : Bool) : R2 := fun x y H Q => ∃ a dx fs, y = .ref a ∧ H a = some (.ins C dx fs) ∧ sp [.ref a, x] H (fun v H' => ∃ b : Bool, v = .bl b ∧ Q (.bl (if neg = true then !b else b)) H') E
theorem truthy_bl {M : Model} {A : Around} {E : Value → Shared → Prop} {s : Shared} {b : Bool} {Q : Bool → Shared → Prop} (h : Q b s) : wpAny M A (truthy (.bool b)) Q E s := by
  first
    | exact wpAny_pure h
    | (unfold truthy; exact wpAny_pure h)
theorem op_inO (M : Meth X.K C "__contains__" f) (F : FnR X.prog X.w X.K X.mg X.base CX k f sp) (hr : Room k X.A) (hx : Passes CX X E) : OpR X (compareOp .In) (rInO C sp E false) := by
  rintro pins s σ H x y u v Q I rx ry ⟨a, dx, fs, rfl, ea, h⟩
  obtain rfl : v = Value.ref a := ry
  obtain ⟨mA, O, _⟩ := ins_get I.hok ea
  obtain ⟨od, ia, _⟩ := O.look
  obtain ⟨mm, fr⟩ := I.fr
  refine PySem.W.in_K fr I.mod.kin ia M.at_ M.fn ?_
  refine thn (wpAny_call (run_fnR (us := [.ref a, u]) (vs := [.ref a, x]) F hr hx I (.cons rfl (.cons rx .nil)) h)) fun r s' hq => ?_
  obtain ⟨z, H', I', rz, b, rfl, q⟩ := hq
  cases (show r = Value.bool b from rz)
  exact truthy_bl ⟨.bl b, H', I', rfl, q⟩
theorem op_notInO (M : Meth X.K C "__contains__" f) (F : FnR X.prog X.w X.K X.mg X.base CX k f sp) (hr : Room k X.A) (hx : Passes CX X E) : OpR X (compareOp .NotIn) (rInO C sp E true) := by
  rintro pins s σ H x y u v Q I rx ry ⟨a, dx, fs, rfl, ea, h⟩
  obtain rfl : v = Value.ref a := ry
  obtain ⟨mA, O, _⟩ := ins_get I.hok ea
  obtain ⟨od, ia, _⟩ := O.look
  obtain ⟨mm, fr⟩ := I.fr
  refine PySem.W.notIn_K fr I.mod.kin ia M.at_ M.fn ?_
  refine thn (wpAny_call (run_fnR (us := [.ref a, u]) (vs := [.ref a, x]) F hr hx I (.cons rfl (.cons rx .nil)) h)) fun r s' hq => ?_
  obtain ⟨z, H', I', rz, b, rfl, q⟩ := hq
  cases (show r = Value.bool b from rz)
  exact truthy_bl ⟨.bl (!b), H', I', rfl, q⟩
def rEqD0 : R2 := fun x y H Q => ∃ a b ks, x = .ref a ∧ y = .ref b ∧ H a = some (.dK ks) ∧ H b = some (.dK []) ∧ Q (.bl (decide (ks = []))) H
theorem op_eq_dict0 (hu : X.A.units < cLine) : OpR X (compareOp .Eq) rEqD0 := by
  intro pins s σ H x y v u Q I rx ry h
  obtain ⟨a, b, ks, rfl, rfl, ea, eb, q⟩ := h
  obtain rfl : v = Value.ref a := rx
  obtain rfl : u = Value.ref b := ry
  obtain ⟨_, ya, va, ra, da⟩ := (show ObjOk X.prog X.w H s.heap a (.dK ks) from I.hok a _ ea)
  obtain ⟨_, yb, vb, rb, db⟩ := (show ObjOk X.prog X.w H s.heap b (.dK []) from I.hok b _ eb)
  have l1 := ra.length
  have l2 := rb.length
  cases ks with
  | nil =>
    cases ra
    cases rb
    refine PySem.W.keq_eq (knd := mixKind X.prog X.w) (r := true) ya yb da db hu (fun _ => ?_) (fin_bl I q (by simp))
    exact hits_all .nil .nil (fun p hp => by cases hp)
  | cons c cs =>
    refine PySem.W.keq_eq (knd := mixKind X.prog X.w) (r := true) ya yb da db hu (fun e => ?_) (fin_bl I q ?_)
    · rw [← l1, ← l2] at e
      simp at e
    · have : (va.length == vb.length) = false := by rw [← l1, ← l2]; simp
      rw [this]
      simp
end
theorem dc_itW {J : It} {n : Nat} {Gd : Hp → Prop} {Y : Nat → Hp → V → Hp → Prop} {g : TG} {tt : TT} {tk tv : TE} {vs : List Nat} {σ : L2.St} {H1 : Hp} {D : Addr} {Qd : Hp → Prop} (k : Walk J n Gd Y) (Pv : Nat → Hp → Prop) (h0 : Pv 0 (upd H1 D (.dK []))) (hl : ∀ i H, i ≤ n → Pv i H → Gd H)
    (hs : ∀ i x H H', i < n → Pv i H → Y i H x H' → g x (wipe σ vs) H' fun σ2 H2 => wipe σ2 vs = wipe σ vs ∧ tt σ2 H2 fun b H3 =>
      if b = true then tk σ2 H3 fun y H4 => tv σ2 H4 fun z H5 => ∃ kvs k, y = kV k ∧ H5 D = some (.dK kvs) ∧ kvs.length < sizeLine ∧ Pv (i + 1) (upd H5 D (.dK (putK kvs k z))) else Pv (i + 1) H3) (hd : ∀ H, Pv n H → Qd H) :
    ∃ W : Nat → Nat → Hp → Prop, (∃ m, W 0 m (upd H1 D (.dK []))) ∧ ∀ i m H, W i m H →
      (J.stop i H ∧ Qd H) ∨ (J.go i H ∧ ∃ Nx : Hp → Prop, (∀ H', Nx H' → ∃ m', m' < m ∧ W (i + 1) m' H') ∧ ∀ x H', J.yld i H x H' → g x (wipe σ vs) H' fun σ2 H2 => wipe σ2 vs = wipe σ vs ∧ tt σ2 H2 fun b H3 =>
        if b = true then tk σ2 H3 fun y H4 => tv σ2 H4 fun z H5 => ∃ kvs k, y = kV k ∧ H5 D = some (.dK kvs) ∧ kvs.length < sizeLine ∧ Nx (upd H5 D (.dK (putK kvs k z))) else Nx H3) := by
  refine ⟨fun i m H => m = n - i ∧ i ≤ n ∧ Pv i H, ⟨n, by simp, Nat.zero_le _, h0⟩, ?_⟩
  rintro i m H ⟨rfl, hi, p⟩
  have q := hl i H hi p
  by_cases hlt : i < n
  · exact .inr ⟨k.goes i H hlt q, Pv (i + 1), fun H' p' => ⟨n - (i + 1), by omega, rfl, hlt, p'⟩, fun x H' y => hs i x H H' hlt p (k.yields i H x H' hlt q y)⟩
  · have e : i = n := by omega
    subst e
    exact .inl ⟨k.stops H q, hd H p⟩
theorem ps_setDc {X : Cx} {i : Nat} {y : Str} {py : Pos} {kx vx tg iter : Expr} {ifs : List Expr} {scope : Scope} {own : List (Str × Nat)} {pos spos : Pos} {wi : TI} {g : TG} {tt : TT} {tk tv : TE} (hc : X.calm = true) (hN : X.N.Nodup) (hy : X.N[i]? = some y) (hyl : X.env.scope.names.lookup y = some .local)
    (hsw : swapsWith (.DictComp kx vx [⟨tg, iter, ifs, 0⟩] scope pos) (some (.Name y py)) spos.line X.env = pure true) (hi : PI X tg iter wi) (ok : BlkOk X.N X.env.scope scope own)
    (hg : ∀ (s : Shared) (H : Hp) (C : Addr) (cl : List (Str × Addr)) (fp : List Addr), PG (X.blk s H scope (compEnvC scope cl C X.env) fp) tg g) (ht : ∀ (s : Shared) (H : Hp) (C : Addr) (cl : List (Str × Addr)) (fp : List Addr), PTs (X.blk s H scope (compEnvC scope cl C X.env) fp) ifs tt)
    (hk : ∀ (s : Shared) (H : Hp) (C : Addr) (cl : List (Str × Addr)) (fp : List Addr), PE (X.blk s H scope (compEnvC scope cl C X.env) fp) kx tk)
    (he : ∀ (s : Shared) (H : Hp) (C : Addr) (cl : List (Str × Addr)) (fp : List Addr), PE (X.blk s H scope (compEnvC scope cl C X.env) fp) vx tv) (hs : ∀ x, foldedSetIterable iter X.env x = pure x := by intro _; rfl) :
    PS X (.Assign [.Name y py] (.DictComp kx vx [⟨tg, iter, ifs, 0⟩] scope pos) spos) (tAsg (tDc wi g tt tk tv (own.map (·.2))) (gName i)) := by
  refine ⟨fun pins s σ H D I h => ?_⟩
  rw [exec_Assign_Name_used _ _ _ _ hsw]
  refine wpAny_bind (wpAny_standAt (wpAny_bind ?_))
  show wpAny _ X.A (do let _ ← comprehension (.DictComp kx vx [⟨tg, iter, ifs, 0⟩] scope pos) scope X.env (firstIterPos [⟨tg, iter, ifs, 0⟩] pos) newDict false (eval iter X.env) (some (assign (.Name y py) X.env))) _ _ s
  have h : tDc wi g tt tk tv (own.map (·.2)) σ H (fun x H1 => gName i x σ H1 D.nx) := h
  refine wpAny_bind (thn (dc_core (Qf := fun _ s' => SP X pins D .next s') hc hN I hi ok hg ht hk he hs h fun L C s' m H' I' q hn f => ?_) fun _ s' hq => wpAny_pure (wpAny_pure hq))
  show wpAny _ _ (assign (.Name y py) X.env (.ref L)) _ _ _
  refine wpAny_assign_Name (store_ok2 (v := V.ref L) I' hN hy (.inl hyl) rfl (fun s2 I2 ⟨a, sb, ha⟩ => ?_) (.inr hyl))
  obtain ⟨f0, f1, f2, f3, f4, f5⟩ := f
  have haC : C ≠ a := by
    rcases ha with z | z
    · rw [z]; exact f1
    · exact fun e => f4 y a z e.symm
  refine ⟨m, hn.sameBut sb haC, fun h3 sb3 => ?_⟩
  exact ⟨_, H', I2.turned (t' := s2.toks) (fun b o hb e => (sb3.2 b hb).trans e) f0 f1 f3 f4 f5, q⟩
theorem sw_trueD {kx vx : Expr} {gs : List Comprehension} {scope : Scope} {pos py : Pos} {y : Str} {l : Nat} {env : Env} (hk : env.scope.kind = .function) (hy : env.scope.names.lookup y = some .local) (hl : (py.line == pos.line) = true)
    (ha : (scope.names.any fun (n, k) => n == y && (k == .local || k == .cell)) = false) : swapsWith (.DictComp kx vx gs scope pos) (some (.Name y py)) l env = pure true := by
  have ky : env.kindOf y = some .local := hy
  have hb : env.blockKind = .function := by unfold Env.blockKind; rw [hk]; rfl
  unfold swapsWith
  simp only [hb, ky, ha, Expr.pos, hl]
  rfl
end MF
set_option Elab.async false
set_option linter.all false
set_option maxRecDepth 100000
set_option maxHeartbeats 2000000
set_option pp.maxSteps 600
namespace MF
open PySem PySem.Spec PyProof.Rows L2 StX
def top (i : Nat) : Stmt := PySem.Challenge.pw_mailforwards_k01_books.main.body.getD i (.Pass ⟨0, 0, 0, 0⟩)
abbrev s_is_integer : Stmt := top 14
abbrev s_is_address : Stmt := top 15
abbrev s_is_order : Stmt := top 16
abbrev s_do_overlap : Stmt := top 17
abbrev s_BookX_initX : Stmt := inClass (top 18) 1
abbrev s_Book_chain : Stmt := inClass (top 18) 2
abbrev s_Book_orders : Stmt := inClass (top 18) 3
abbrev s_Book_addresses : Stmt := inClass (top 18) 4
abbrev s_BookX_lenX : Stmt := inClass (top 18) 5
abbrev s_BookX_getitemX : Stmt := inClass (top 18) 7
abbrev s_BookX_containsX : Stmt := inClass (top 18) 8
abbrev s_BookX_eqX : Stmt := inClass (top 18) 9
abbrev s_BookX_addX : Stmt := inClass (top 18) 10
abbrev s_BookX_rshiftX : Stmt := inClass (top 18) 11
abbrev s_Book_check_order : Stmt := inClass (top 18) 12
abbrev s_Book_without : Stmt := inClass (top 18) 13
abbrev s_book_of : Stmt := top 19
abbrev s_moved : Stmt := top 20
abbrev s_InvalidOrderX_initX : Stmt := inClass (top 3) 0
abbrev s_UnknownOrderX_initX : Stmt := inClass (top 7) 0
abbrev s__law_taken : Stmt := top 22
abbrev s__law_alike : Stmt := top 23
abbrev s__law_raised : Stmt := top 24
abbrev s__law_orders : Stmt := top 25
abbrev s__law_book : Stmt := top 26
abbrev s__law_is_book : Stmt := top 27
abbrev s__law_are_rejected : Stmt := top 28
abbrev s__law_are_chains : Stmt := top 29
abbrev s_law : Stmt := top 30
theorem sc_is_integer : FnScope ["value", "low", "high"] ["value", "low", "high"] (defScope s_is_integer) := ⟨rfl, rfl, rfl, by decide +kernel, rfl, by decide +kernel, by decide +kernel⟩
theorem sc_is_address : FnScope ["value", "letter"] ["value"] (defScope s_is_address) := ⟨rfl, rfl, rfl, by decide +kernel, rfl, by decide +kernel, by decide +kernel⟩
theorem sc_is_order : FnScope ["value", "source", "target", "first", "last", "way"] ["value"] (defScope s_is_order) := ⟨rfl, rfl, rfl, by decide +kernel, rfl, by decide +kernel, by decide +kernel⟩
theorem sc_do_overlap : FnScope ["one", "other"] ["one", "other"] (defScope s_do_overlap) := ⟨rfl, rfl, rfl, by decide +kernel, rfl, by decide +kernel, by decide +kernel⟩
theorem sc_BookX_initX : FnScope ["self", "orders", "index", "order", "earlier"] ["self", "orders"] (defScope s_BookX_initX) := ⟨rfl, rfl, rfl, by decide +kernel, rfl, by decide +kernel, by decide +kernel⟩
theorem sc_Book_chain : FnScope ["cls", "first", "last", "way", "addresses", "found", "source", "target"] ["cls", "first", "last", "way", "addresses"] (defScope s_Book_chain) := ⟨rfl, rfl, rfl, by decide +kernel, rfl, by decide +kernel, by decide +kernel⟩
theorem sc_Book_orders : FnScope ["self"] ["self"] (defScope s_Book_orders) := ⟨rfl, rfl, rfl, by decide +kernel, rfl, by decide +kernel, by decide +kernel⟩
theorem sc_Book_addresses : FnScope ["self", "order", "name"] ["self"] (defScope s_Book_addresses) := ⟨rfl, rfl, rfl, by decide +kernel, rfl, by decide +kernel, by decide +kernel⟩
theorem sc_BookX_lenX : FnScope ["self"] ["self"] (defScope s_BookX_lenX) := ⟨rfl, rfl, rfl, by decide +kernel, rfl, by decide +kernel, by decide +kernel⟩
theorem sc_BookX_getitemX : FnScope ["self", "index"] ["self", "index"] (defScope s_BookX_getitemX) := ⟨rfl, rfl, rfl, by decide +kernel, rfl, by decide +kernel, by decide +kernel⟩
theorem sc_BookX_containsX : FnScope ["self", "address", "order", "name"] ["self", "address"] (defScope s_BookX_containsX) := ⟨rfl, rfl, rfl, by decide +kernel, rfl, by decide +kernel, by decide +kernel⟩
theorem sc_BookX_eqX : FnScope ["self", "other"] ["self", "other"] (defScope s_BookX_eqX) := ⟨rfl, rfl, rfl, by decide +kernel, rfl, by decide +kernel, by decide +kernel⟩
theorem sc_BookX_addX : FnScope ["self", "other"] ["self", "other"] (defScope s_BookX_addX) := ⟨rfl, rfl, rfl, by decide +kernel, rfl, by decide +kernel, by decide +kernel⟩
theorem sc_BookX_rshiftX : FnScope ["self", "days"] ["self", "days"] (defScope s_BookX_rshiftX) := ⟨rfl, rfl, rfl, by decide +kernel, rfl, by decide +kernel, by decide +kernel⟩
theorem sc_Book_check_order : FnScope ["self", "index"] ["self", "index"] (defScope s_Book_check_order) := ⟨rfl, rfl, rfl, by decide +kernel, rfl, by decide +kernel, by decide +kernel⟩
theorem sc_Book_without : FnScope ["self", "indexes", "index", "order"] ["self", "indexes"] (defScope s_Book_without) := ⟨rfl, rfl, rfl, by decide +kernel, rfl, by decide +kernel, by decide +kernel⟩
theorem sc_book_of : FnScope ["orders"] ["orders"] (defScope s_book_of) := ⟨rfl, rfl, rfl, by decide +kernel, rfl, by decide +kernel, by decide +kernel⟩
theorem sc_moved : FnScope ["orders", "days", "source", "target", "first", "last", "way"] ["orders", "days"] (defScope s_moved) := ⟨rfl, rfl, rfl, by decide +kernel, rfl, by decide +kernel, by decide +kernel⟩
theorem sc_InvalidOrderX_initX : FnScope ["self", "index"] ["self", "index"] (defScope s_InvalidOrderX_initX) := ⟨rfl, rfl, rfl, by decide +kernel, rfl, by decide +kernel, by decide +kernel⟩
theorem sc_UnknownOrderX_initX : FnScope ["self", "index"] ["self", "index"] (defScope s_UnknownOrderX_initX) := ⟨rfl, rfl, rfl, by decide +kernel, rfl, by decide +kernel, by decide +kernel⟩
theorem sc__law_taken : FnScope ["_law_row", "_law_many", "_law_found", "_law_cell"] ["_law_row", "_law_many"] (defScope s__law_taken) := ⟨rfl, rfl, rfl, by decide +kernel, rfl, by decide +kernel, by decide +kernel⟩
theorem sc__law_alike : FnScope ["_law_one", "_law_due", "_law_k"] ["_law_one", "_law_due"] (defScope s__law_alike) := ⟨rfl, rfl, rfl, by decide +kernel, rfl, by decide +kernel, by decide +kernel⟩
theorem sc__law_raised : FnScope ["_law_work", "e", "_law_kinds", "_law_at", "_law_word"] ["_law_work"] (defScope s__law_raised) := ⟨rfl, rfl, rfl, by decide +kernel, rfl, by decide +kernel, by decide +kernel⟩
theorem sc__law_orders : FnScope ["_law_row", "_law_most", "_law_long", "_law_found", "_law_free", "_law_names", "_law_k", "_law_source", "_law_target", "_law_first", "_law_last", "_law_turn"] ["_law_row", "_law_most", "_law_long"] (defScope s__law_orders) := ⟨rfl, rfl, rfl, by decide +kernel, rfl, by decide +kernel, by decide +kernel⟩
theorem sc__law_book : FnScope ["_law_orders_here", "_law_book_here", "_law_order"] ["_law_orders_here"] (defScope s__law_book) := ⟨rfl, rfl, rfl, by decide +kernel, rfl, by decide +kernel, by decide +kernel⟩
theorem sc__law_is_book : FnScope ["_law_book_here", "_law_orders_here", "_law_names", "_law_works", "_law_name", "_law_bad", "_law_order", "_law_k", "_law_work"] ["_law_book_here", "_law_orders_here"] (defScope s__law_is_book) := ⟨rfl, rfl, rfl, by decide +kernel, rfl, by decide +kernel, by decide +kernel⟩
theorem sc__law_are_rejected : FnScope ["_law_orders_here", "_law_order", "_law_last", "_law_bads", "_law_bad", "_law_book_here", "_law_days"] ["_law_orders_here"] (defScope s__law_are_rejected) := ⟨rfl, rfl, rfl, by decide +kernel, rfl, by decide +kernel, by decide +kernel⟩
theorem sc__law_are_chains : FnScope ["_law_names", "_law_chain", "_law_many", "_law_j"] [] (defScope s__law_are_chains) := ⟨rfl, rfl, rfl, by decide +kernel, rfl, by decide +kernel, by decide +kernel⟩
theorem sc_law : FnScope ["_law_script", "_law_row", "_law_orders_here", "_law_others", "_law_other", "_law_days", "_law_later", "_law_high", "_law_behind", "_law_early", "_law_k", "_law_less", "_law_back", "_law_bad", "_law_one", "_law_a", "_law_b", "_law_first", "_law_last", "_law_way", "_law_order", "_law_j"] ["_law_script"] (defScope s_law) := ⟨rfl, rfl, rfl, by decide +kernel, rfl, by decide +kernel, by decide +kernel⟩
structure Top (K : PySem.W.Frag) (mg : Str → Option Value) (C_Book : Addr) (C_MailError : Addr) (C_InvalidOrder : Addr) (C_UnknownOrder : Addr) (C_InvalidAddress : Addr) (C_InvalidDay : Addr) (C_InvalidNumber : Addr) : Prop where
  d_is_integer : GDef K mg "is_integer" s_is_integer ["value", "low", "high"]
  d_is_address : GDef K mg "is_address" s_is_address ["value"]
  d_is_order : GDef K mg "is_order" s_is_order ["value"]
  d_do_overlap : GDef K mg "do_overlap" s_do_overlap ["one", "other"]
  d_BookX_initX : SDef K mg C_Book "Book" "Book.__init__" s_BookX_initX "self" "orders"
  d_Book_chain : CDef K C_Book "chain" "Book.chain" s_Book_chain ["cls", "first", "last", "way"] "addresses"
  d_Book_orders : PDef K C_Book "orders" "Book.orders" s_Book_orders ["self"]
  d_Book_addresses : PDef K C_Book "addresses" "Book.addresses" s_Book_addresses ["self"]
  d_BookX_lenX : MDef K C_Book "__len__" "Book.__len__" s_BookX_lenX ["self"]
  d_BookX_getitemX : MDef K C_Book "__getitem__" "Book.__getitem__" s_BookX_getitemX ["self", "index"]
  d_BookX_containsX : MDef K C_Book "__contains__" "Book.__contains__" s_BookX_containsX ["self", "address"]
  d_BookX_eqX : MDef K C_Book "__eq__" "Book.__eq__" s_BookX_eqX ["self", "other"]
  d_BookX_addX : MDef K C_Book "__add__" "Book.__add__" s_BookX_addX ["self", "other"]
  d_BookX_rshiftX : MDef K C_Book "__rshift__" "Book.__rshift__" s_BookX_rshiftX ["self", "days"]
  d_Book_check_order : MDef K C_Book "check_order" "Book.check_order" s_Book_check_order ["self", "index"]
  d_Book_without : SMDef K C_Book "without" "Book.without" s_Book_without "self" "indexes"
  d_book_of : GDef K mg "book_of" s_book_of ["orders"]
  d_moved : GDef K mg "moved" s_moved ["orders", "days"]
  d_InvalidOrderX_initX : EDef K mg C_InvalidOrder "InvalidOrder" "InvalidOrder.__init__" s_InvalidOrderX_initX ["self", "index"]
  d_UnknownOrderX_initX : EDef K mg C_UnknownOrder "UnknownOrder" "UnknownOrder.__init__" s_UnknownOrderX_initX ["self", "index"]
  d__law_taken : GDef K mg "_law_taken" s__law_taken ["_law_row", "_law_many"]
  d__law_alike : GDef K mg "_law_alike" s__law_alike ["_law_one", "_law_due"]
  d__law_raised : GDef K mg "_law_raised" s__law_raised ["_law_work"]
  d__law_orders : GDef K mg "_law_orders" s__law_orders ["_law_row", "_law_most", "_law_long"]
  d__law_book : GDef K mg "_law_book" s__law_book ["_law_orders_here"]
  d__law_is_book : GDef K mg "_law_is_book" s__law_is_book ["_law_book_here", "_law_orders_here"]
  d__law_are_rejected : GDef K mg "_law_are_rejected" s__law_are_rejected ["_law_orders_here"]
  d__law_are_chains : GDef K mg "_law_are_chains" s__law_are_chains []
  d_law : GDef K mg "law" s_law ["_law_script"]
  cl_Book : Cls K C_Book
  fi_Book_XgetitemX : ∀ f, PySem.W.findIn K (.ref C_Book) "__getitem__" = some (some (.ref f)) → PySem.W.fnIn K f = true
  n_Book_listed : NoAttr K C_Book "listed"
  n_Book___rrshift__ : NoAttr K C_Book "__rrshift__"
  c_LETTERS : ∃ t, mg "LETTERS" = some (.str "abcdefghijklmnopqrstuvwxyz" t)
  c_MAX_LETTERS : ∃ t, mg "MAX_LETTERS" = some (.int 8 t)
  c_MAX_ORDERS_books : ∃ t, mg "MAX_ORDERS_books" = some (.int 30 t)
  c_MAX_DAY : ∃ t, mg "MAX_DAY" = some (.int 1000000000000000000 t)
  c_MAX_WAY : ∃ t, mg "MAX_WAY" = some (.int 30 t)
  g_MailError : mg "MailError" = some (.ref C_MailError)
  g_InvalidOrder : mg "InvalidOrder" = some (.ref C_InvalidOrder)
  g_UnknownOrder : mg "UnknownOrder" = some (.ref C_UnknownOrder)
  g_InvalidAddress : mg "InvalidAddress" = some (.ref C_InvalidAddress)
  g_InvalidDay : mg "InvalidDay" = some (.ref C_InvalidDay)
  g_InvalidNumber : mg "InvalidNumber" = some (.ref C_InvalidNumber)
  base_MailError : BaseC K C_MailError
  x_InvalidNumber : EDef0 K mg C_InvalidNumber "InvalidNumber"
  e_InvalidNumber : ErrC K C_InvalidNumber C_MailError
  k_InvalidNumber_InvalidOrder : PySem.W.kitOne K (.ref C_InvalidNumber) (.ref C_InvalidOrder) = some false
  k_InvalidNumber_UnknownOrder : PySem.W.kitOne K (.ref C_InvalidNumber) (.ref C_UnknownOrder) = some false
  k_InvalidNumber_InvalidAddress : PySem.W.kitOne K (.ref C_InvalidNumber) (.ref C_InvalidAddress) = some false
  k_InvalidNumber_InvalidDay : PySem.W.kitOne K (.ref C_InvalidNumber) (.ref C_InvalidDay) = some false
  k_InvalidNumber_InvalidNumber : PySem.W.kitOne K (.ref C_InvalidNumber) (.ref C_InvalidNumber) = some true
  e_InvalidOrder : ErrC K C_InvalidOrder C_MailError
  k_InvalidOrder_InvalidOrder : PySem.W.kitOne K (.ref C_InvalidOrder) (.ref C_InvalidOrder) = some true
  k_InvalidOrder_UnknownOrder : PySem.W.kitOne K (.ref C_InvalidOrder) (.ref C_UnknownOrder) = some false
  k_InvalidOrder_InvalidAddress : PySem.W.kitOne K (.ref C_InvalidOrder) (.ref C_InvalidAddress) = some false
  k_InvalidOrder_InvalidDay : PySem.W.kitOne K (.ref C_InvalidOrder) (.ref C_InvalidDay) = some false
  k_InvalidOrder_InvalidNumber : PySem.W.kitOne K (.ref C_InvalidOrder) (.ref C_InvalidNumber) = some false
  e_UnknownOrder : ErrC K C_UnknownOrder C_MailError
  k_UnknownOrder_InvalidOrder : PySem.W.kitOne K (.ref C_UnknownOrder) (.ref C_InvalidOrder) = some false
  k_UnknownOrder_UnknownOrder : PySem.W.kitOne K (.ref C_UnknownOrder) (.ref C_UnknownOrder) = some true
  k_UnknownOrder_InvalidAddress : PySem.W.kitOne K (.ref C_UnknownOrder) (.ref C_InvalidAddress) = some false
  k_UnknownOrder_InvalidDay : PySem.W.kitOne K (.ref C_UnknownOrder) (.ref C_InvalidDay) = some false
  k_UnknownOrder_InvalidNumber : PySem.W.kitOne K (.ref C_UnknownOrder) (.ref C_InvalidNumber) = some false
  na_InvalidOrder : PySem.W.findIn K (.ref C_InvalidOrder) "index" = some none
  na_UnknownOrder : PySem.W.findIn K (.ref C_UnknownOrder) "index" = some none
  ow_Book : OwnC K C_Book
  g_Book : mg "Book" = some (.ref C_Book)
  v_Book_MAX_ORDERS : ∃ mc u, ClX.CRead K C_Book mc ∧ ClX.CVal K C_Book mc "MAX_ORDERS" (.int 30) u
  b_isinstance : mg "isinstance" = none
  b_int : mg "int" = none
  b_bool : mg "bool" = none
  b_str : mg "str" = none
  b_tuple : mg "tuple" = none
  b_list : mg "list" = none
  b_len : mg "len" = none
  b_all : mg "all" = none
  b_enumerate : mg "enumerate" = none
  b_range : mg "range" = none
  b_max : mg "max" = none
  b_sorted : mg "sorted" = none
  b_set : mg "set" = none
  b_zip : mg "zip" = none
  b_ValueError : mg "ValueError" = none

end MF
set_option Elab.async false
set_option linter.all false
set_option maxRecDepth 100000
set_option maxHeartbeats 1000000
namespace MF
open PySem PySem.Spec PyProof.Rows L2 StX PySem.W
theorem fills_int_rshift : fillsNumberSlot (.type "int") "rshift" = pure true := by
  unfold fillsNumberSlot
  simp only
  rw [typeLookup_type, typeLookup_type, builtinLookup_eq_fast]
  kernel_rfl
theorem look_int_rrshift : ∃ u, typeLookup (.type "int") (dunderR "rshift") = pure u := by
  rw [typeLookup_type, builtinLookup_eq_fast]
  cases e : fastLookup "int" (dunderR "rshift") with
  | some r => exact ⟨r, rfl⟩
  | none =>
    have : (fastLookup "int" (dunderR "rshift")).isSome = true := by kernel_rfl
    rw [e] at this
    cases this
theorem sub_int_ref (C : Addr) : isSubtype (.type "int") (.ref C) = pure false := by
  rw [isSubtype_type]
  have : fastBuiltinMro "int" = some [.type "int", .type "object"] := by kernel_rfl
  rw [this]
  rfl
theorem binop_KI {prog : Program} {w : World} {A : Around} {E : Value → Shared → Prop} {s : Shared} {K : Frag} {x C L f : Addr} {h₀ : Heap} {m : Str → Option Value} {ox : Obj} {od : Option Obj} {n : Int} {t : Tok} {Q : Value → Shared → Prop} (F : Fr h₀ L s.heap m) (X₀ : K.In h₀) (I : InstAt s.heap x ox C od) (hc : selfFirst K C = true)
    (hs : findIn K (.ref C) (PySem.dunder "rshift") = some (some (.ref f))) (hr : findIn K (.ref C) (PySem.dunderR "rshift") = some none) (hf : isFn K (.ref f) = true)
    (h : wpAny (model prog w) A (call (.ref f) [.ref x, .int n t]) (PySem.W.CmpBack Q) E s) : wpAny (model prog w) A (binaryOp .RShift (.ref x) (.int n t)) Q E s := by
  have X := X₀.keeps F.keep
  obtain ⟨cd, hcd, hm⟩ := any_some hc
  obtain ⟨rest, hm⟩ : ∃ rest, cd.mro = .ref C :: rest := by
    cases q : cd.mro with
    | nil => rw [q] at hm; cases hm
    | cons a r => rw [q] at hm; exact ⟨r, by rw [List.head?_cons] at hm; cases (beq_iff_eq.mp hm); rfl⟩
  obtain ⟨u, hu⟩ := look_int_rrshift
  unfold binaryOp
  refine wpAny_holding (wpAny_bind ?_)
  show wpAny (model prog w) A (binaryOp1 "rshift" (.ref x) (.int n t)) _ _ s
  unfold binaryOp1
  refine wpAny_bind (I.type.here (wpAny_bind (wpAny_of_eq (show typeOf (.int n t) = pure (.type "int") from rfl) (wpAny_bind ((fills_K X hcd hm hs).here ?_)))))
  have ne : ((Value.ref C) == (Value.type "int")) = false := rfl
  simp only [ne, Bool.false_eq_true, if_false]
  refine wpAny_bind (wpAny_of_eq fills_int_rshift ?_)
  simp only [Bool.and_self, if_true]
  refine wpAny_bind (m := isSubtype (.type "int") (.ref C)) (wpAny_of_eq (sub_int_ref C) ?_)
  simp only [Bool.false_eq_true, if_false, Bool.not_false, Bool.and_true, if_true]
  refine wpAny_bind (m := numberSlotInPython (.ref C) "rshift") ?_
  unfold numberSlotInPython
  simp only
  refine wpAny_bind (looks_findIn X hs A _ E s (fun _ _ e => e) ?_)
  refine wpAny_bind (wpAny_of_eq (show calledByName (.ref C) (dunder "rshift") (some (.ref f)) = pure true from rfl) ?_)
  refine wpAny_bind (looks_findIn X hr A _ E s (fun _ _ e => e) ?_)
  refine wpAny_bind (wpAny_of_eq (show calledByName (.ref C) (dunderR "rshift") none = pure false from rfl) ?_)
  simp only [Bool.true_or, if_true]
  refine wpAny_pure ?_
  simp only [if_true]
  refine wpAny_bind (m := pure false) (wpAny_pure ?_)
  simp only [if_true, Bool.not_false]
  refine wpAny_bind (m := typeLookup (.type "int") (dunderR "rshift")) (wpAny_of_eq hu ?_)
  refine wpAny_bind (m := tryMethod (.ref x) _ (.int n t)) ?_
  unfold tryMethod
  refine wpAny_bind (special_fn X I hs (beq_iff_eq.mp hf) (wpAny_mono h (fun v s' hv => ?_) fun _ _ e => e))
  cases v <;> first | exact hv.elim | exact wpAny_pure (wpAny_pure (wpAny_pure hv))
theorem op_ownI {X : Cx} {C f : Addr} {CX : CXT} {k : Nat} {sp : Sp} {E : XK} (hc : PySem.W.selfFirst X.K C = true) (M : Meth X.K C "__rshift__" f) (hn : PySem.W.findIn X.K (.ref C) "__rrshift__" = some none) (F : FnR X.prog X.w X.K X.mg X.base CX k f sp) (hr : Room k X.A) (hx : Passes CX X E) :
    OpR X (binaryOp .RShift) (fun x y H Q => ∃ a n dx fs, x = .ref a ∧ y = .int n ∧ H a = some (.ins C dx fs) ∧ sp [.ref a, .int n] H Q E) := by
  rintro pins s σ H x y u v Q I rx ry ⟨a, n, dx, fs, rfl, rfl, ea, h⟩
  obtain rfl : u = Value.ref a := rx
  obtain ⟨t, rfl⟩ := ry
  obtain ⟨mA, O, _⟩ := ins_get I.hok ea
  obtain ⟨od, ia, _⟩ := O.look
  obtain ⟨mm, fr⟩ := I.fr
  refine binop_KI fr I.mod.kin ia hc M.at_ hn M.fn ?_
  refine thn (wpAny_call (run_fnR (us := [.ref a, .int n t]) (vs := [.ref a, .int n]) F hr hx I (.cons rfl (.cons ⟨t, rfl⟩ .nil)) h)) fun r s' hq => ?_
  obtain ⟨z, H', I', rz, q⟩ := hq
  exact notNI rz ⟨z, H', I', rz, q⟩
end MF
set_option Elab.async false
set_option linter.all false
set_option maxRecDepth 100000
set_option maxHeartbeats 1000000
namespace MF
open PySem PySem.Spec PyProof.Rows L2 StX PySem.W
structure RightT (tn : String) (fl : Bool) : Prop where
  fills : fillsNumberSlot (.type tn) "rshift" = pure fl
  look : ∃ u, typeLookup (.type tn) (dunderR "rshift") = pure u
  sub : ∀ C : Addr, isSubtype (.type tn) (.ref C) = pure false
theorem look_of (tn : String) (h : (fastLookup tn (dunderR "rshift")).isSome = true) : ∃ u, typeLookup (.type tn) (dunderR "rshift") = pure u := by
  rw [typeLookup_type, builtinLookup_eq_fast]
  cases e : fastLookup tn (dunderR "rshift") with
  | some r => exact ⟨r, rfl⟩
  | none => rw [e] at h; cases h
theorem right_bool : RightT "bool" true := by
  refine ⟨?_, look_of "bool" (by kernel_rfl), fun C => ?_⟩
  · unfold fillsNumberSlot
    simp only
    rw [typeLookup_type, typeLookup_type, builtinLookup_eq_fast]
    kernel_rfl
  · rw [isSubtype_type]
    have : fastBuiltinMro "bool" = some [.type "bool", .type "int", .type "object"] := by kernel_rfl
    rw [this]
    rfl
theorem right_none : RightT "NoneType" false := by
  refine ⟨?_, look_of "NoneType" (by kernel_rfl), fun C => ?_⟩
  · unfold fillsNumberSlot
    simp only
    rw [typeLookup_type, typeLookup_type, builtinLookup_eq_fast]
    kernel_rfl
  · rw [isSubtype_type]
    have : fastBuiltinMro "NoneType" = some [.type "NoneType", .type "object"] := by kernel_rfl
    rw [this]
    rfl
theorem right_int : RightT "int" true := ⟨fills_int_rshift, look_int_rrshift, sub_int_ref⟩
section
variable {prog : Program} {w : World} {A : Around} {E : Value → Shared → Prop} {s : Shared} {K : Frag} {x C L f : Addr} {h₀ : Heap} {m : Str → Option Value} {ox : Obj} {od : Option Obj} {b : Value} {tn : String} {Q : Value → Shared → Prop}
theorem binop_KV {fl : Bool} (F : Fr h₀ L s.heap m) (X₀ : K.In h₀) (I : InstAt s.heap x ox C od) (hc : selfFirst K C = true) (hb : typeOf b = pure (.type tn)) (R : RightT tn fl)
    (hs : findIn K (.ref C) (PySem.dunder "rshift") = some (some (.ref f))) (hr : findIn K (.ref C) (PySem.dunderR "rshift") = some none) (hf : isFn K (.ref f) = true)
    (h : wpAny (model prog w) A (call (.ref f) [.ref x, b]) (PySem.W.CmpBack Q) E s) : wpAny (model prog w) A (binaryOp .RShift (.ref x) b) Q E s := by
  have X := X₀.keeps F.keep
  obtain ⟨cd, hcd, hm⟩ := any_some hc
  obtain ⟨rest, hm⟩ : ∃ rest, cd.mro = .ref C :: rest := by
    cases q : cd.mro with
    | nil => rw [q] at hm; cases hm
    | cons a r => rw [q] at hm; exact ⟨r, by rw [List.head?_cons] at hm; cases (beq_iff_eq.mp hm); rfl⟩
  obtain ⟨u, hu⟩ := R.look
  unfold binaryOp
  refine wpAny_holding (wpAny_bind ?_)
  show wpAny (model prog w) A (binaryOp1 "rshift" (.ref x) b) _ _ s
  unfold binaryOp1
  refine wpAny_bind (I.type.here (wpAny_bind (wpAny_of_eq hb (wpAny_bind ((fills_K X hcd hm hs).here ?_)))))
  have ne : ((Value.ref C) == (Value.type tn)) = false := rfl
  simp only [ne, Bool.false_eq_true, if_false]
  refine wpAny_bind (wpAny_of_eq R.fills ?_)
  have own : wpAny (model prog w) A (tryMethod (.ref x) (dunder "rshift") b) (fun r s' => ∃ v, r = some v ∧ Q v s') E s := by
    unfold tryMethod
    refine wpAny_bind (special_fn X I hs (beq_iff_eq.mp hf) (wpAny_mono h (fun v s' hv => ?_) fun _ _ e => e))
    cases v <;> first | exact hv.elim | exact wpAny_pure ⟨_, rfl, hv⟩
  cases fl with
  | false =>
    simp only [Bool.and_false, Bool.false_eq_true, if_false, Bool.false_and]
    refine wpAny_bind (m := pure false) (wpAny_pure ?_)
    simp only [Bool.false_eq_true, if_false, if_true]
    refine wpAny_bind (m := tryMethod (.ref x) _ b) (wpAny_mono own (fun r s' hv => ?_) fun _ _ e => e)
    obtain ⟨v, rfl, q⟩ := hv
    exact wpAny_pure (wpAny_pure q)
  | true =>
    simp only [Bool.and_self, if_true]
    refine wpAny_bind (m := isSubtype (.type tn) (.ref C)) (wpAny_of_eq (R.sub C) ?_)
    simp only [Bool.false_eq_true, if_false, Bool.not_false, Bool.and_true, if_true]
    refine wpAny_bind (m := numberSlotInPython (.ref C) "rshift") ?_
    unfold numberSlotInPython
    simp only
    refine wpAny_bind (looks_findIn X hs A _ E s (fun _ _ e => e) ?_)
    refine wpAny_bind (wpAny_of_eq (show calledByName (.ref C) (dunder "rshift") (some (.ref f)) = pure true from rfl) ?_)
    refine wpAny_bind (looks_findIn X hr A _ E s (fun _ _ e => e) ?_)
    refine wpAny_bind (wpAny_of_eq (show calledByName (.ref C) (dunderR "rshift") none = pure false from rfl) ?_)
    simp only [Bool.true_or, if_true]
    refine wpAny_pure ?_
    simp only [if_true]
    refine wpAny_bind (m := pure false) (wpAny_pure ?_)
    simp only [if_true, Bool.not_false]
    refine wpAny_bind (m := typeLookup (.type tn) (dunderR "rshift")) (wpAny_of_eq hu ?_)
    refine wpAny_bind (m := tryMethod (.ref x) _ b) (wpAny_mono own (fun r s' hv => ?_) fun _ _ e => e)
    obtain ⟨v, rfl, q⟩ := hv
    exact wpAny_pure (wpAny_pure q)
end
theorem op_ownV {X : Cx} {C f : Addr} {CX : CXT} {k : Nat} {sp : Sp} {E : XK} (hc : PySem.W.selfFirst X.K C = true) (M : Meth X.K C "__rshift__" f) (hn : PySem.W.findIn X.K (.ref C) "__rrshift__" = some none) (F : FnR X.prog X.w X.K X.mg X.base CX k f sp) (hr : Room k X.A) (hx : Passes CX X E) :
    OpR X (binaryOp .RShift) (fun x y H Q => ∃ a dx fs, x = .ref a ∧ ((∃ n, y = .int n) ∨ (∃ b, y = .bl b) ∨ y = .non) ∧ H a = some (.ins C dx fs) ∧ sp [.ref a, y] H Q E) := by
  rintro pins s σ H x y u v Q I rx ry ⟨a, dx, fs, rfl, hy, ea, h⟩
  obtain rfl : u = Value.ref a := rx
  obtain ⟨mA, O, _⟩ := ins_get I.hok ea
  obtain ⟨od, ia, _⟩ := O.look
  obtain ⟨mm, fr⟩ := I.fr
  have step : wpAny (model X.prog X.w) X.A (call (.ref f) [.ref a, v]) (PySem.W.CmpBack (EP X pins σ Q)) X.xe s := by
    refine thn (wpAny_call (run_fnR (us := [.ref a, v]) (vs := [.ref a, y]) F hr hx I (.cons rfl (.cons ry .nil)) h)) fun r s' hq => ?_
    obtain ⟨z, H', I', rz, q⟩ := hq
    exact notNI rz ⟨z, H', I', rz, q⟩
  rcases hy with ⟨n, rfl⟩ | ⟨b, rfl⟩ | rfl
  · obtain ⟨t, rfl⟩ := ry
    exact binop_KV fr I.mod.kin ia hc rfl right_int M.at_ hn M.fn step
  · cases (show v = Value.bool b from ry)
    exact binop_KV fr I.mod.kin ia hc rfl right_bool M.at_ hn M.fn step
  · cases (show v = Value.none from ry)
    exact binop_KV fr I.mod.kin ia hc rfl right_none M.at_ hn M.fn step
end MF
set_option Elab.async false
set_option linter.all false
set_option maxRecDepth 100000
set_option maxHeartbeats 1000000
namespace MF
open PySem PySem.Spec PyProof.Rows L2
abbrev tk (P : Program) (w : World) : PySem.KeyKind P w Str := PySem.strKind P w
def txtOfE (e : Int × Value) : Str := match e.2 with
  | .str x _ => x
  | _ => Str.empty
def IsTxt (P : Program) (w : World) (e : Int × Value) : Prop := ∃ x u, e.2 = Value.str x u ∧ e.1 = (tk P w).hash x
def TxtSet (P : Program) (w : World) (h : Heap) (a : Addr) (l : List Str) : Prop :=
  ∃ o es ep t, h.get? a = some o ∧ o.ExactSet ∧ o.data = .set es ep t ∧ (∀ e ∈ es.toList, IsTxt P w e) ∧ (es.toList.map txtOfE).Perm l ∧ l.Nodup ∧
    es.size < scanBound ∧ t.fits es.size = true ∧ Ris t.place.toList ∧ (w.params.followText "set-order" = true ∨ t.led = true)
section
variable {P : Program} {w : World} {A : Around} {E : Value → Shared → Prop} {s : Shared} {a : Addr} {l : List Str}
theorem TxtSet.at {h h' : Heap} (R : TxtSet P w h a l) (k : ∀ o, h.get? a = some o → h'.get? a = some o) : TxtSet P w h' a l := by
  obtain ⟨o, es, ep, t, ho, r⟩ := R
  exact ⟨o, es, ep, t, k o ho, r⟩
theorem txt_elems {m : List (Int × Value)} (g : ∀ e ∈ m, IsTxt P w e) : ElemsOf (tk P w) m := fun e he => by
  obtain ⟨x, u, h1, h2⟩ := g e he
  refine ⟨⟨x, ?_, h2⟩, ?_⟩
  · rw [h1]; exact strKind_is P w x u
  · rw [h1]; rfl
theorem txt_is {e : Int × Value} (g : IsTxt P w e) (k : Str) : (tk P w).is k e.2 = true ↔ txtOfE e = k := by
  obtain ⟨x, u, h1, _⟩ := g
  unfold txtOfE
  rw [h1]
  simp [tk, PySem.strKind, Value.isStrOf]
theorem txt_mem {m : List (Int × Value)} (g : ∀ e ∈ m, IsTxt P w e) (k : Str) : k ∈ m.map txtOfE ↔ ∃ e ∈ m, (tk P w).is k e.2 = true := by
  rw [List.mem_map]
  exact ⟨fun ⟨e, he, q⟩ => ⟨e, he, (txt_is (g e he) k).mpr q⟩, fun ⟨e, he, q⟩ => ⟨e, he, (txt_is (g e he) k).mp q⟩⟩
theorem txt_lay {gv : Bool → Sem Unit} (hg : ∀ (b : Bool) (s₁ : Shared) (Q' : Unit → Shared → Prop), Q' () s₁ → wpAny (model P w) A (gv b) Q' E s₁)
    {o : Obj} {es : Array (Int × Value)} {ep : Nat} {t : SetTable} (ho : s.heap.get? a = some o) (hx : o.ExactSet) (hd : o.data = .set es ep t)
    {es1 : Array (Int × Value)} {t2 : SetTable} (g1 : ∀ e ∈ es1.toList, IsTxt P w e) (pm1 : (es1.toList.map txtOfE).Perm l) (nd : l.Nodup)
    (hb : es1.size < scanBound) (hf : t2.fits es1.size = true) (hr : Ris t2.place.toList) (hl : w.params.followText "set-order" = true ∨ t2.led = true) {wd : Bool} {R : Option Bool → Shared → Prop}
    (hR : ∀ h', Heap.SameBut a s.heap h' → TxtSet P w h' a l → R (some true) { s with heap := h' }) :
    wpAny (model P w) A (do
        storeSet a es1 t2
        if (!wd && t2.tooFull) = true then do
            gv (relayAll t2 es1 (SetTable.grown es1.size)).2.2
            storeSet a (relayAll t2 es1 (SetTable.grown es1.size)).1 (relayAll t2 es1 (SetTable.grown es1.size)).2.1
            pure (some true)
          else pure (some true)) R E s := by
  refine wpAny_bind (wpAny_storeSet_of ho hd ?_ (fits_of_scanBound hb))
  have q1 := store_at (es' := es1) (t' := t2) ho hd
  have b1 := Heap.SameBut.update s.heap a (Obj.putSet es1 t2)
  split
  · have pm := relayAll_perm t2 es1 (SetTable.grown es1.size)
    have f3 := relayAll_fits t2 es1 (SetTable.grown es1.size)
    have r3 := relayAll_ris t2 es1 (SetTable.grown es1.size)
    have l3 := relayAll_led t2 es1 (SetTable.grown es1.size)
    generalize relayAll t2 es1 (SetTable.grown es1.size) = Z at pm f3 r3 l3 ⊢
    obtain ⟨es2, t3, gave⟩ := Z
    dsimp only at pm f3 r3 l3 ⊢
    have z2 : es2.size = es1.size := by rw [← Array.length_toList, pm.length_eq, Array.length_toList]
    have hb2 : es2.size < scanBound := z2 ▸ hb
    refine wpAny_bind (hg _ _ _ (wpAny_bind (wpAny_storeSet_of q1 rfl ?_ (fits_of_scanBound hb2))))
    have q2 := store_at (es' := es2) (t' := t3) q1 rfl
    refine wpAny_pure (hR _ (b1.trans (Heap.SameBut.update _ a _)) ⟨_, es2, _, t3, q2, hx, rfl, fun e he => g1 e (pm.mem_iff.mp he), (pm.map txtOfE).trans pm1, nd, hb2, f3, r3, ?_⟩)
    exact hl.imp id fun z => l3.trans z
  · exact wpAny_pure (hR _ b1 ⟨_, es1, _, t2, q1, hx, rfl, g1, pm1, nd, hb, hf, hr, hl⟩)
theorem txt_add_hashed {k : Str} {u : Tok} {Q : Bool → Shared → Prop} (R : TxtSet P w s.heap a l) (room : l.length + 1 < scanBound)
    (hQ : ∀ h' b, Heap.SameBut a s.heap h' → TxtSet P w h' a (if k ∈ l then l else k :: l) → Q b { s with heap := h' }) :
    wpAny (model P w) A (setAddHashed a (.str k u) ((tk P w).hash k)) Q E s := by
  obtain ⟨o, es, ep, t, ho, hx, hd, g, pl, nd, hb, hf, hr, hl⟩ := R
  have hkey : (tk P w).is k (.str k u) = true := strKind_is P w k u
  have hsc : (Value.str k u).scannable = true := rfl
  have hel : ElemsOf (tk P w) es.toList := txt_elems g
  unfold setAddHashed setAddHashedIn
  refine wpAny_holding (wpAny_bind (wpAny_setState_of ho hd hf ?_))
  dsimp only
  rw [byScan_of hsc hb hel]
  simp only [↓reduceIte]
  unfold setAddByScan
  refine wpAny_bind (wpAny_bind (wpAny_rule (wpAny_bind (wpAny_setScan_of hkey ho hd hf hel ?_))))
  cases hfi : List.findIdx? (fun e => (tk P w).is k e.2) es.toList with
  | some j =>
    dsimp only
    obtain ⟨hj, pj, _⟩ := List.findIdx?_eq_some_iff_getElem.mp hfi
    have kl : k ∈ l := pl.mem_iff.mp ((txt_mem (P := P) (w := w) g k).2 ⟨es.toList[j], List.getElem_mem hj, pj⟩)
    refine wpAny_pure (wpAny_pure (hQ s.heap _ (Heap.SameBut.refl a s.heap) ?_))
    rw [if_pos kl]
    exact ⟨o, es, ep, t, ho, hx, hd, g, pl, nd, hb, hf, hr, hl⟩
  | none =>
    dsimp only
    have kl : k ∉ l := fun z => by
      obtain ⟨e, he, q⟩ := (txt_mem (P := P) (w := w) g k).1 (pl.mem_iff.mpr z)
      have c := List.findIdx?_eq_none_iff.mp hfi e he
      rw [q] at c
      cases c
    have gw : ∀ (b : Bool) {s₁ : Shared} {Q' : Unit → Shared → Prop}, Q' () s₁ → wpAny (model P w) A (match b with | true => rule "set.scan.the-table-gave-way" | false => pure ()) Q' E s₁ :=
      fun b s₁ Q' q => by cases b <;> first | exact wpAny_pure q | exact wpAny_rule q
    have pm := layNew_perm t es ((tk P w).hash k) (.str k u)
    have f1 := layNew_fits t es ((tk P w).hash k) (.str k u)
    have r1 := layNew_ris t es ((tk P w).hash k) (.str k u) hr
    have l1 := layNew_led t es ((tk P w).hash k) (.str k u)
    generalize layNew t es ((tk P w).hash k) (.str k u) = Z at pm f1 r1 l1 ⊢
    obtain ⟨es1, t1, wd, gave⟩ := Z
    dsimp only at pm f1 r1 l1 ⊢
    rw [Array.toList_push] at pm
    have pc : es1.toList.Perm (((tk P w).hash k, Value.str k u) :: es.toList) := pm.trans (List.perm_append_singleton _ _)
    have pk : (es1.toList.map txtOfE).Perm (k :: l) := (pc.map txtOfE).trans (List.Perm.cons k pl)
    have g1 : ∀ e ∈ es1.toList, IsTxt P w e := fun e he => by
      rcases List.mem_cons.mp (pc.mem_iff.mp he) with z | z
      · rw [z]; exact ⟨k, u, rfl, rfl⟩
      · exact g e z
    have nd1 : (k :: l).Nodup := List.nodup_cons.mpr ⟨kl, nd⟩
    have zl : es.size = l.length := by rw [← Array.length_toList, ← pl.length_eq, List.length_map]
    have z1 : es1.size = l.length + 1 := by rw [← Array.length_toList, pc.length_eq, List.length_cons, Array.length_toList, zl]
    have hb1 : es1.size < scanBound := z1 ▸ room
    have hled : w.params.followText "set-order" = true ∨ t1.led = true := hl.imp id fun z => l1.trans z
    have fin : ∀ h', Heap.SameBut a s.heap h' → TxtSet P w h' a (k :: l) → Q true { s with heap := h' } := fun h' sb r => hQ h' true sb (by rw [if_neg kl]; exact r)
    refine wpAny_bind (gw _ ?_)
    split
    · refine wpAny_bind ?_
      rw [hashByValue_scannable 8 hsc]
      refine wpAny_pure (txt_lay ?_ ho hx hd g1 pk nd1 hb1 ?_ ?_ ?_ ?_)
      · intro b s₁ Q' q; cases b <;> first | exact wpAny_pure q | exact wpAny_rule q
      · first | (split <;> first | exact f1 | exact SetTable.fits_plain_off f1) | exact f1
      · first | (split <;> exact r1) | exact r1
      · first | (split <;> exact hled) | exact hled
      · intro h' sb r; dsimp only; exact wpAny_pure (fin h' sb r)
    · refine wpAny_bind (wpAny_pure ?_)
      simp only [↓reduceIte]
      refine txt_lay ?_ ho hx hd g1 pk nd1 hb1 f1 r1 hled ?_
      · intro b s₁ Q' q; cases b <;> first | exact wpAny_pure q | exact wpAny_rule q
      · intro h' sb r; dsimp only; exact wpAny_pure (fin h' sb r)
theorem txt_add {k : Str} {u : Tok} {Q : Value → Shared → Prop} (R : TxtSet P w s.heap a l) (room : l.length + 1 < scanBound)
    (hQ : ∀ h', Heap.SameBut a s.heap h' → TxtSet P w h' a (if k ∈ l then l else k :: l) → Q .none { s with heap := h', toks := s.toks + 1 }) :
    wpAny (model P w) A (call (.builtin "set.add") [.ref a, .str k u]) Q E s := by
  obtain ⟨o, es, ep, t, ho, hx, r0⟩ := id R
  refine wpAny_call_entry F.slot_set_add ⟨o, ho, hx.1⟩ F.entry_set_add ?_ (F.args_set_add_2 _ _)
  unfold Builtin.«set.add» Builtin.Frozenset.oneOther
  simp only [List.isEmpty_nil, bind_assoc]
  unfold Builtin.Frozenset.addrOf setAdd
  refine wpAny_bind (wpAny_pure ?_)
  try dsimp only
  refine wpAny_bind (wpAny_pure ?_)
  try dsimp only
  refine wpAny_bind (wpAny_holding (wpAny_bind ((tk P w).pyHash (strKind_is P w k u) ?_)))
  refine txt_add_hashed (s := { s with toks := s.toks + 1 }) R room fun h' b sb r => ?_
  show wpAny _ _ (ret Value.none) _ _ _
  exact wpAny_pure ⟨_, rfl, hQ h' sb r⟩
theorem txt_fresh {h : Heap} (P : Program) (w : World) : TxtSet P w (h.push { cls := .type "set", dict := none, data := .set #[] 0 (.fresh 0 0 (!w.params.followText "set-order")) }) h.objs.size [] :=
  ⟨_, #[], 0, _, Heap.get?_push_size _ rfl, ⟨rfl, rfl, rfl⟩, rfl, (fun e he => by simp at he), .nil, List.nodup_nil, (by decide), (by rfl), List.Pairwise.nil, by
    show _ ∨ (!w.params.followText "set-order") = true
    cases w.params.followText "set-order"
    · exact .inr rfl
    · exact .inl rfl⟩
end
def TxtO (P : Program) (w : World) (a : Addr) (l : List Str) : HO := .ext fun h => TxtSet P w h a l
theorem txtO_new {P : Program} {w : World} {H : Hp} {h : Heap} {a : Addr} {l : List Str} (R : TxtSet P w h a l) : ObjOk P w H h a (TxtO P w a l) := by
  have ⟨o, _, _, _, ho, _⟩ := R
  exact ⟨R, ⟨o, ho⟩, fun h1 h2 p k => TxtSet.at p k⟩
section
variable {X : Cx}
theorem txtO_get {pins : List (Addr × Obj)} {σ : L2.St} {H : Hp} {s : Shared} {a : Addr} {l : List Str} (I : Inv X pins σ H s) (ha : H a = some (TxtO X.prog X.w a l)) : TxtSet X.prog X.w s.heap a l := (I.hok a _ ha).1
theorem txtO_add {pins : List (Addr × Obj)} {σ : L2.St} {H : Hp} {s : Shared} {E : Value → Shared → Prop} {D : Addr} {l : List Str} {k : Str} {u : Tok} {Q : Value → Shared → Prop} (I : Inv X pins σ H s) (hD : H D = some (TxtO X.prog X.w D l)) (room : l.length + 1 < scanBound)
    (h : ∀ s', Inv X pins σ (upd H D (TxtO X.prog X.w D (if k ∈ l then l else k :: l))) s' → Q .none s') : wpAny (model X.prog X.w) X.A (call (.builtin "set.add") [.ref D, .str k u]) Q E s := by
  refine txt_add (txtO_get I hD) room fun h' sb new => ?_
  have he : ∃ v, h'.get? D = some v := by
    have ⟨o, _, _, _, ho, _⟩ := new
    exact ⟨o, ho⟩
  exact h _ (I.write (e := D) (t' := s.toks + 1) (by rw [hD]; trivial) (.inl rfl) (fun b v hb hv => (sb.2 b hb).trans hv) he (txtO_new new))
def rSortedTxt (P : Program) (w : World) : List V → Hp → VK → Prop := fun vs H Q => ∃ (a : Addr) (l : List Str), vs = [V.ref a] ∧ H a = some (TxtO P w a l) ∧ l.length < 64 ∧
  ∀ ys p, ys.Perm l → sortedS ys = true → H p = none → Q (.ref p) (upd H p (.lst (ys.map V.str)))
theorem cr_sortedTxt (hc : X.calm = true) : CallR X (.builtin "sorted") (rSortedTxt X.prog X.w) := by
  intro pins s σ H vs us Q I r h
  obtain ⟨a, l, rfl, ha, h64, q⟩ := h
  obtain ⟨o, es, ep, t, ho, hx, hd, g, pl, nd, hb, hf, hr, hl⟩ := txtO_get I ha
  rw [Vals.ref1 r]
  refine Calls.call_function_entry PyProof.Rows.kind_sorted PyProof.Rows.plain_sorted PyProof.Rows.entry_sorted (PyProof.Rows.args_sorted1 _) ?_
  unfold Builtin.«sorted»
  refine wpAny_bind (m := checkCount "sorted" 1 1 _) (wpAny_pure ?_)
  refine wpAny_bind (collect_set (A := X.A.in1) (I.ok.hd hc) ⟨o, ho, hx.1, hd⟩ hf hb hr hl fun s1 out k1 hz g1 o1 pm => ?_)
  have I1 : Inv X pins σ H s1 := I.call' (ch := []) o1 (Un.kept k1) (I.hok.kept k1) (by rw [g1]; exact I.bare) (fun _ z => nomatch z)
  have all : ∀ v ∈ out, ∃ x u, v = Value.str x u := fun v hv => by
    obtain ⟨e, he, rfl⟩ := List.mem_map.mp (pm.mem_iff.mp hv)
    obtain ⟨x, u, h1, _⟩ := g e he
    exact ⟨x, u, h1⟩
  let tv (v : Value) : Str := match v with
    | .str x _ => x
    | _ => Str.empty
  have pks : (out.map tv).Perm l := by
    have h1 := pm.map tv
    rw [List.map_map] at h1
    exact h1.trans pl
  have hkl : (out.map tv).length = l.length := pks.length_eq
  have hol : out.length = l.length := by rw [← hkl, List.length_map]
  have hS : StrsAre out (out.map tv) := L2.strs_at (by rw [List.length_map]) fun j v e => by
    obtain ⟨x, u, rfl⟩ := all v (List.mem_of_getElem? e)
    exact ⟨x, u, by rw [List.getElem?_map, e]; rfl, rfl⟩
  refine wpAny_bind (wpAny_newList ?_ (by rw [hol, sizeLine_eq]; omega))
  have hoL : (s1.heap.push (seqObj "list" out.toArray 0)).get? s1.heap.objs.size = some (seqObj "list" out.toArray 0) := Heap.get?_push_size _ rfl
  show wpAny _ _ _ _ _ { s1 with heap := s1.heap.push (seqObj "list" out.toArray 0) }
  refine wpAny_bind (wpAny_holding (wpAny_call_entry PyProof.Rows.slot_list_sort ⟨_, hoL, rfl⟩ PyProof.Rows.entry_list_sort
    (list_sort_treeK strKind_oneLt (s := { s1 with heap := s1.heap.push (seqObj "list" out.toArray 0) }) hoL hS.keysOf (fun v₁ v₂ rest e => keyKind_strs (by rw [← e]; exact hS)) (by rw [hol]; exact h64) fun st' hp hs => ⟨_, rfl, ?_⟩)
    (PyProof.Rows.args_list_sort _)))
  obtain ⟨ys, y1, y2, y3⟩ := sorted_out_str hS hp hs
  obtain ⟨e', he'⟩ := PyProof.Rows.sortedHeap_at (vs := out) (out := (arrOf st').map (·.2)) hoL
  have hly : (ys.map V.str).length ≤ sizeLine := by
    rw [List.length_map, y2.length_eq, hkl, sizeLine_eq]
    omega
  refine wpAny_pure ⟨_, rfl, .ref s1.heap.objs.size, upd H s1.heap.objs.size (.lst (ys.map V.str)), I1.laid (t' := s1.toks) (fun b v e => ?_) (Nat.le_refl _)
    (show ObjOk X.prog X.w _ _ _ (.lst (ys.map V.str)) from ⟨hly, ((arrOf st').map (·.2)).toList, e', vals_of_strs y1, by rw [Array.toArray_toList]; exact he'⟩), rfl, q ys _ (y2.trans pks) y3 (I1.hok.fresh (Nat.le_refl _))⟩
  have hlt : b < s1.heap.objs.size := Heap.lt_size e
  rw [PyProof.Rows.sortedHeap_old (Nat.ne_of_lt hlt) (by rw [size_push']; exact Nat.lt_succ_of_lt hlt)]
  exact Heap.get?_push_of_some _ e
end
end MF
set_option Elab.async false
set_option linter.all false
set_option maxRecDepth 100000
set_option maxHeartbeats 3200000
namespace MF
open PySem PySem.Spec PyProof.Rows L2
section
variable {P : Program} {w : World} {A : Around} {E : Value → Shared → Prop} {s : Shared}
abbrev set0 (w : World) : Obj := { cls := .type "set", dict := none, data := .set #[] 0 (.fresh 0 0 (!w.params.followText "set-order")) }
theorem init_set_lst {A₂ : Around} {S l : Addr} {items : Array Value} (ns : List Int) {R : Result → Shared → Prop} (hh : A.handled = none) (hS : s.heap.get? S = some (set0 w)) (hne : l ≠ S) (hl : s.heap.IsList l items) (hit : IntsAre items.toList ns) (hb : ns.length + 1 < scanBound)
    (h : ∀ (h' : Heap) (tk c : Nat), SetR w h' S (fun j => decide (j ∈ ns)) c → c ≤ ns.length → (∀ b o, b ≠ S → s.heap.get? b = some o → h'.get? b = some o) → R (.ok (.ret .none)) { s with heap := h', toks := tk }) :
    wpAny (model P w) A (Builtin.«set.__init__» ⟨[.ref S, .ref l], []⟩) (fun fin s' => match fin with | .done f => R (.ok f) s' | .again c' => c'.quiet = true ∧ codeAny (model P w) A₂ c' R s') (fun e s' => R (.error e) s') s := by
  have n1 : items.size = ns.length := by
    have q := IntsAre.length hit
    rw [Array.length_toList] at q
    exact q
  obtain ⟨ol, o1, o2, nl, o3⟩ := id hl
  have tS : s.TypeIs (.ref S) "set" := ⟨_, hS, rfl⟩
  have tl : s.TypeIs (.ref l) "list" := ⟨ol, o1, o2⟩
  have e1 := F.sub_list_set
  have e2 := F.sub_list_frozenset
  have e3 : (Value.type "list" == Value.type "dict") = false := by decide
  have ltl : l < s.heap.objs.size := Heap.lt_size o1
  have ltS : S < s.heap.objs.size := Heap.lt_size hS
  unfold Builtin.«set.__init__» noKeywords Builtin.Frozenset.updateFrom
  generalize hq : pyIter = PI
  wp_walk
  subst hq
  refine wpAny_pyIter_list hl (wpAny_bind (wpAny_runValue ?_))
  have k0 : ∀ b o, s.heap.get? b = some o → (s.heap.push { cls := .type "list_iterator", data := .fields #[.ref l, .int 0 0] }).get? b = some o := fun b o e => Heap.get?_push_of_some _ e
  have out : S ∉ [s.heap.objs.size, l] := fun z => by
    rcases List.mem_cons.mp z with z | z
    · exact Nat.ne_of_lt ltS z
    · exact hne (List.mem_singleton.mp z).symm
  refine set_update_ints ((Walks.list (by simp [hh]) s.heap.objs.size l (Nat.ne_of_lt ltl) items).toS) S out ns n1 hb (fun i v hv => ?_) items.size 0 _ (by omega) (Nat.zero_le _) ⟨⟨_, Heap.get?_push_size _ rfl, rfl, rfl⟩, hl.push _⟩ ⟨0, Nat.le_refl 0, setR_new_at (k0 S _ hS)⟩ fun s' c hm hc hR => ?_
  · have hi : i < ns.length := by rw [← n1]; exact (Array.getElem?_eq_some_iff.mp hv).1
    obtain ⟨t, e⟩ := IntsAre.int_at hit i v (by rw [Array.getElem?_toList]; exact hv)
    refine ⟨ns[i], t, List.getElem?_eq_getElem hi, ?_⟩
    rw [e, List.getD_eq_getElem?_getD, List.getElem?_eq_getElem hi] <;> rfl
  · obtain ⟨h', g', d', tk', os'⟩ := s'
    have eg : g' = s.gens := hm.gens
    have ed : d' = s.drawn := hm.drawn
    have eo : os' = s.os := hm.os
    subst eg ed eo
    refine wpAny_pure (wpAny_pure (h h' tk' c hR (by rw [← n1]; exact hc) fun b o nb e => hm.heap b o ?_ (k0 b o e)))
    simp only [List.mem_cons, List.not_mem_nil, or_false, not_or]
    exact ⟨nb, Nat.ne_of_lt (Heap.lt_size e)⟩
theorem call_set_lst {l : Addr} {items : Array Value} (ns : List Int) {Q : Value → Shared → Prop} (hh : A.handled = none) (hl : s.heap.IsList l items) (hit : IntsAre items.toList ns) (hb : ns.length + 1 < scanBound)
    (h : ∀ (h' : Heap) (tk c : Nat), SetR w h' s.heap.objs.size (fun j => decide (j ∈ ns)) c → c ≤ ns.length → (∀ b o, s.heap.get? b = some o → h'.get? b = some o) → Q (.ref s.heap.objs.size) { s with heap := h', toks := tk }) :
    wpAny (model P w) A (call (.type "set") [.ref l]) Q E s := by
  have ltl : l < s.heap.objs.size := by obtain ⟨ol, o1, _⟩ := hl; exact Heap.lt_size o1
  have hS : (s.heap.push (set0 w)).get? s.heap.objs.size = some (set0 w) := Heap.get?_push_size _ rfl
  obtain ⟨cm, tlm, a1⟩ := F.called_set.mro
  have a2 := F.called_set.made
  have a3 := F.called_set.sub
  have a4 := F.called_set.notType
  have a5 := F.called_set.canCreate
  have a6 := F.typeCall_set_1 (.ref l)
  refine wpAny_call (codeAny_of_tree (show wpAny _ _ (callAny (.type "set") _) _ _ _ from wpAny_pure ⟨Code.quiet_builtin _ (by decide +kernel), codeAny_builtin F.entry_type_call ?_⟩))
  rw [Around.under_plain (weight_type_call_type "set" [.ref l] []) rfl]
  repeat (any_goals (first | assumption | wp_step))
  refine codeAny_mono (code_set_led1 (.ref l) (E := E) (Q₁ := fun q z => q = .ref s.heap.objs.size ∧ z = { s with heap := s.heap.push (set0 w) }) ⟨rfl, rfl⟩) fun r z hr => ?_
  rcases r with e | fl
  · exact hr
  cases fl with
  | ret q =>
    obtain ⟨rfl, rfl⟩ := hr
    have tS : Shared.TypeIs { s with heap := s.heap.push (set0 w) } (.ref s.heap.objs.size) "set" := ⟨_, hS, rfl⟩
    have b1 := F.called_set.init.lookup
    have b2 := F.called_set.init.bind (.ref s.heap.objs.size)
    repeat (any_goals (first | assumption | wp_step))
    refine codeAny_mono (codeAny_call_builtin (R := wants (fun r y => r = .none ∧ Q (.ref s.heap.objs.size) y) E) F.called_set.init.plain F.entry_set_init (check_set_init_1 tS ?_)) fun r y hy => ?_
    · refine init_set_lst (s := { s with heap := s.heap.push (set0 w) }) ns (by simp [hh]) hS (Nat.ne_of_lt ltl) (hl.push _) hit hb fun h' tk c hR hc k => ?_
      exact ⟨rfl, h h' tk c hR hc fun b o e => k b o (Nat.ne_of_lt (Heap.lt_size e)) (Heap.get?_push_of_some _ e)⟩
    · rcases r with e | fl
      · exact hy
      cases fl with
      | ret v =>
        obtain ⟨rfl, hq⟩ := hy
        repeat (any_goals (first | assumption | wp_step))
      | _ => exact hy.elim
  | _ => exact hr.elim
end
def rSetL (K : PySem.W.Frag) (w : World) : List V → Hp → VK → Prop := fun xs H Q => ∃ (l : Addr) (ns : List Int), xs = [.ref l] ∧ SqL K H l (ns.map V.int) ∧ ns.length ≤ 2000 ∧
  ∀ p c, H p = none → (∀ ms : List Int, (∀ k ∈ ns, k ∈ ms) → c ≤ ms.length) → Q (.ref p) (upd H p (SetO w p (fun j => decide (j ∈ ns)) c))
theorem nodup_le {α : Type} [DecidableEq α] : ∀ {l m : List α}, l.Nodup → (∀ a ∈ l, a ∈ m) → l.length ≤ m.length
  | [], _, _, _ => Nat.zero_le _
  | x :: l, m, h, s => by
    obtain ⟨h1, h2⟩ := List.nodup_cons.mp h
    have := nodup_le (m := m.erase x) h2 fun a ha => (List.mem_erase_of_ne (fun e : a = x => h1 (e ▸ ha))).mpr (s a (List.mem_cons_of_mem _ ha))
    have hm := List.length_erase_of_mem (s x List.mem_cons_self)
    have hp : 0 < m.length := List.length_pos_of_mem (s x List.mem_cons_self)
    rw [List.length_cons]
    omega
theorem setR_few {w : World} {h : Heap} {a : Addr} {ns : List Int} {c : Nat} (R : SetR w h a (fun j => decide (j ∈ ns)) c) (ms : List Int) (hm : ∀ k ∈ ns, k ∈ ms) : c ≤ ms.length := by
  obtain ⟨o, es, ep, t, _, _, _, _, nd, mem, _, _, sz, _⟩ := R
  have := nodup_le nd fun k hk => hm k (of_decide_eq_true ((mem k).mpr hk))
  rw [List.length_map] at this
  have e : es.toList.length = es.size := by simp
  omega
theorem cr_setL {X : Cx} (hc : X.calm = true) : CallR X (.type "set") (rSetL X.K X.w) := by
  intro pins s σ H xs us Q I r h
  obtain ⟨l, ns, rfl, hq, hl, q⟩ := h
  obtain ⟨u, rfl, rx⟩ := vals1 r
  obtain rfl : u = Value.ref l := rx
  obtain ⟨its, rv, pl, hz⟩ := I.list hq
  refine call_set_lst ns (I.ok.hd hc) pl.isList (by simpa using RZ.intsAre_vals rv) (by unfold scanBound; omega) fun h' tk c hR hc' k => ?_
  have hn : H s.heap.objs.size = none := I.hok.fresh (Nat.le_refl _)
  exact ⟨.ref s.heap.objs.size, _, I.laid (t' := tk) k (Nat.le_refl _) (setO_new hR), rfl, q _ c hn (setR_few hR)⟩
end MF
set_option Elab.async false
set_option linter.all false
set_option maxRecDepth 100000
set_option maxHeartbeats 3200000
namespace MF
open PySem PySem.Spec PyProof.Rows L2
def addT (l : List Str) (k : Str) : List Str := if k ∈ l then l else k :: l
def setT (ns : List Str) : List Str := ns.foldl addT []
theorem addT_mem {l : List Str} {k z : Str} : z ∈ addT l k ↔ z ∈ l ∨ z = k := by
  unfold addT
  by_cases c : k ∈ l
  · rw [if_pos c]
    exact ⟨.inl, fun h => h.elim id fun e => e ▸ c⟩
  · rw [if_neg c, List.mem_cons]
    exact Or.comm
theorem addT_nodup {l : List Str} {k : Str} (h : l.Nodup) : (addT l k).Nodup := by
  unfold addT
  by_cases c : k ∈ l
  · rw [if_pos c]; exact h
  · rw [if_neg c]; exact List.nodup_cons.mpr ⟨c, h⟩
theorem addT_len {l : List Str} {k : Str} : (addT l k).length ≤ l.length + 1 := by
  unfold addT
  split
  · omega
  · exact Nat.le_refl _
theorem foldT : ∀ (ns l : List Str), (∀ z, z ∈ ns.foldl addT l ↔ z ∈ l ∨ z ∈ ns) ∧ (l.Nodup → (ns.foldl addT l).Nodup) ∧ (ns.foldl addT l).length ≤ l.length + ns.length
  | [], l => ⟨fun z => by simp, id, Nat.le_refl _⟩
  | k :: ns, l => by
    obtain ⟨h1, h2, h3⟩ := foldT ns (addT l k)
    refine ⟨fun z => ?_, fun h => h2 (addT_nodup h), ?_⟩
    · show z ∈ ns.foldl addT (addT l k) ↔ _
      rw [h1, addT_mem, List.mem_cons, or_assoc]
    · have := addT_len (l := l) (k := k)
      show (ns.foldl addT (addT l k)).length ≤ l.length + (ns.length + 1)
      omega
theorem setT_mem {ns : List Str} {z : Str} : z ∈ setT ns ↔ z ∈ ns := by rw [show setT ns = ns.foldl addT [] from rfl, (foldT ns []).1]; simp
theorem setT_nodup (ns : List Str) : (setT ns).Nodup := (foldT ns []).2.1 List.nodup_nil
theorem setT_len (ns : List Str) : (setT ns).length ≤ ns.length := by have := (foldT ns []).2.2; simp only [List.length_nil, Nat.zero_add] at this; exact this
section
variable {P : Program} {w : World} {A : Around} {E : Value → Shared → Prop} {s : Shared}
theorem txt_new_at {h : Heap} {S : Addr} (e : h.get? S = some (set0 w)) : TxtSet P w h S [] :=
  ⟨_, #[], 0, _, e, ⟨rfl, rfl, rfl⟩, rfl, (fun e he => by simp at he), (by simp), List.nodup_nil, (by decide), (by rfl), List.Pairwise.nil, by
    show _ ∨ (!w.params.followText "set-order") = true
    cases w.params.followText "set-order"
    · exact .inr rfl
    · exact .inl rfl⟩
theorem set_update_txts {I : Addr} {fp wr : List Addr} {G : Array GenState → Array GenState → Prop} {n : Nat} {Pv : Nat → Value → Prop} {St : Nat → Shared → Prop} {R : Result → Shared → Prop}
    (W : WalksS P w A.in1 I fp wr G n Pv St) (S : Addr) (hSf : S ∉ fp) (ns : List Str) (hn : n = ns.length) (hb : ns.length + 1 < scanBound) (hval : ∀ i v, Pv i v → ∃ k t, ns[i]? = some k ∧ v = .str k t) :
    ∀ (k i : Nat) (s : Shared), n - i = k → i ≤ n → St i s → TxtSet P w s.heap S (setT (ns.take i)) →
      (∀ s', Moved (S :: wr) G s s' → TxtSet P w s'.heap S (setT ns) → R (.ok (.ret .none)) s') →
      codeAny (model P w) A (.builtin "set.update.loop" ⟨[.ref S, .ref I], []⟩) R s := by
  have hSw : S ∉ wr := fun h => hSf (W.sub _ h)
  have hsub : ∀ b ∈ wr, b ∈ S :: wr := fun b hb => List.mem_cons_of_mem _ hb
  intro k
  induction k with
  | zero =>
    intro i s hk' hi hst hS hR
    have hin : i = n := by omega
    subst hin
    refine codeAny_builtin F.entry_set_update_loop ?_
    rw [Around.under_plainId F.plain_set_update_loop _]
    show wpAny _ A.in1 (pyNext (.ref I) >>= _) _ _ s
    refine wpAny_bind (W.done s _ _ hst fun s' hm => ?_)
    show wpAny _ A.in1 (ret Value.none) _ _ s'
    have e : ns.take i = ns := List.take_of_length_le (by omega)
    rw [e] at hS
    exact wpAny_pure (hR s' (hm.mono hsub) (hS.at fun o e => hm.heap S o hSw e))
  | succ k ih =>
    intro i s hk' hi hst hS hR
    have hlt : i < n := by omega
    refine codeAny_builtin F.entry_set_update_loop ?_
    rw [Around.under_plainId F.plain_set_update_loop _]
    show wpAny _ A.in1 (pyNext (.ref I) >>= _) _ _ s
    refine wpAny_bind (W.item i s _ _ hlt hst fun v s' hP hst' hm => ?_)
    obtain ⟨z, t, hz, rfl⟩ := hval i v hP
    have hS' : TxtSet P w s'.heap S (setT (ns.take i)) := hS.at fun o e => hm.heap S o hSw e
    have hl := setT_len (ns.take i)
    rw [List.length_take] at hl
    show wpAny _ A.in1 (holding [Value.str z t] (setAdd S (.str z t)) >>= _) _ _ s'
    refine wpAny_bind (wpAny_holding ?_)
    unfold setAdd
    refine wpAny_holding ?_
    refine wpAny_bind ((tk P w).pyHash (k := z) (strKind_is P w z t) ?_)
    refine txt_add_hashed (s := { s' with toks := s'.toks + 1 }) hS' (by omega) fun h' bb hsb hS2 => ?_
    have hS3 : TxtSet P w h' S (setT (ns.take (i + 1))) := by
      have : setT (ns.take (i + 1)) = addT (setT (ns.take i)) z := by
        unfold setT
        rw [List.take_add_one, hz, List.foldl_append]
        rfl
      rw [this]
      exact hS2
    refine wpAny_pure ⟨plainId_quiet F.plain_set_update_loop _, ih (i + 1) _ (by omega) hlt (W.frame _ s' _ _ hst' (Nat.le_succ _) fun b hb o e => ?_) hS3 fun s'' hm'' hS'' => ?_⟩
    · rw [hsb.2 b (fun h : b = S => hSf (by rw [← h]; exact hb))]; exact e
    · refine hR s'' (Moved.trans W.gtrans ((hm.mono hsub).then_heap (Nat.le_succ _) fun b o hb e => ?_) hm'') hS''
      rw [hsb.2 b (fun h : b = S => hb (by rw [h]; exact List.mem_cons_self))]; exact e
theorem init_set_txt {A₂ : Around} {S l : Addr} {items : Array Value} (ns : List Str) {R : Result → Shared → Prop} (hh : A.handled = none) (hS : s.heap.get? S = some (set0 w)) (hne : l ≠ S) (hl : s.heap.IsList l items) (hit : Vals (ns.map V.str) items.toList) (hb : ns.length + 1 < scanBound)
    (h : ∀ (h' : Heap) (tk : Nat), TxtSet P w h' S (setT ns) → (∀ b o, b ≠ S → s.heap.get? b = some o → h'.get? b = some o) → R (.ok (.ret .none)) { s with heap := h', toks := tk }) :
    wpAny (model P w) A (Builtin.«set.__init__» ⟨[.ref S, .ref l], []⟩) (fun fin s' => match fin with | .done f => R (.ok f) s' | .again c' => c'.quiet = true ∧ codeAny (model P w) A₂ c' R s') (fun e s' => R (.error e) s') s := by
  have n1 : items.size = ns.length := by
    have q := hit.length
    rw [List.length_map, Array.length_toList] at q
    exact q.symm
  obtain ⟨ol, o1, o2, nl, o3⟩ := id hl
  have tS : s.TypeIs (.ref S) "set" := ⟨_, hS, rfl⟩
  have tl : s.TypeIs (.ref l) "list" := ⟨ol, o1, o2⟩
  have e1 := F.sub_list_set
  have e2 := F.sub_list_frozenset
  have e3 : (Value.type "list" == Value.type "dict") = false := by decide
  have ltl : l < s.heap.objs.size := Heap.lt_size o1
  have ltS : S < s.heap.objs.size := Heap.lt_size hS
  unfold Builtin.«set.__init__» noKeywords Builtin.Frozenset.updateFrom
  generalize hq : pyIter = PI
  wp_walk
  subst hq
  refine wpAny_pyIter_list hl (wpAny_bind (wpAny_runValue ?_))
  have k0 : ∀ b o, s.heap.get? b = some o → (s.heap.push { cls := .type "list_iterator", data := .fields #[.ref l, .int 0 0] }).get? b = some o := fun b o e => Heap.get?_push_of_some _ e
  have out : S ∉ [s.heap.objs.size, l] := fun z => by
    rcases List.mem_cons.mp z with z | z
    · exact Nat.ne_of_lt ltS z
    · exact hne (List.mem_singleton.mp z).symm
  refine set_update_txts ((Walks.list (by simp [hh]) s.heap.objs.size l (Nat.ne_of_lt ltl) items).toS) S out ns n1 hb (fun i v hv => ?_) items.size 0 _ (by omega) (Nat.zero_le _) ⟨⟨_, Heap.get?_push_size _ rfl, rfl, rfl⟩, hl.push _⟩ (txt_new_at (k0 S _ hS)) fun s' hm hR => ?_
  · have hi : i < ns.length := by rw [← n1]; exact (Array.getElem?_eq_some_iff.mp hv).1
    obtain ⟨u, hu, t, ru⟩ := hit.get (i := i) (x := .str ns[i]) (by simp [hi])
    rw [Array.getElem?_toList] at hu
    rw [hu] at hv
    cases hv
    exact ⟨ns[i], t, List.getElem?_eq_getElem hi, ru⟩
  · obtain ⟨h', g', d', tk', os'⟩ := s'
    have eg : g' = s.gens := hm.gens
    have ed : d' = s.drawn := hm.drawn
    have eo : os' = s.os := hm.os
    subst eg ed eo
    refine wpAny_pure (wpAny_pure (h h' tk' hR fun b o nb e => hm.heap b o ?_ (k0 b o e)))
    simp only [List.mem_cons, List.not_mem_nil, or_false, not_or]
    exact ⟨nb, Nat.ne_of_lt (Heap.lt_size e)⟩
theorem call_set_txt {l : Addr} {items : Array Value} (ns : List Str) {Q : Value → Shared → Prop} (hh : A.handled = none) (hl : s.heap.IsList l items) (hit : Vals (ns.map V.str) items.toList) (hb : ns.length + 1 < scanBound)
    (h : ∀ (h' : Heap) (tk : Nat), TxtSet P w h' s.heap.objs.size (setT ns) → (∀ b o, s.heap.get? b = some o → h'.get? b = some o) → Q (.ref s.heap.objs.size) { s with heap := h', toks := tk }) :
    wpAny (model P w) A (call (.type "set") [.ref l]) Q E s := by
  have ltl : l < s.heap.objs.size := by obtain ⟨ol, o1, _⟩ := hl; exact Heap.lt_size o1
  have hS : (s.heap.push (set0 w)).get? s.heap.objs.size = some (set0 w) := Heap.get?_push_size _ rfl
  obtain ⟨cm, tlm, a1⟩ := F.called_set.mro
  have a2 := F.called_set.made
  have a3 := F.called_set.sub
  have a4 := F.called_set.notType
  have a5 := F.called_set.canCreate
  have a6 := F.typeCall_set_1 (.ref l)
  refine wpAny_call (codeAny_of_tree (show wpAny _ _ (callAny (.type "set") _) _ _ _ from wpAny_pure ⟨Code.quiet_builtin _ (by decide +kernel), codeAny_builtin F.entry_type_call ?_⟩))
  rw [Around.under_plain (weight_type_call_type "set" [.ref l] []) rfl]
  repeat (any_goals (first | assumption | wp_step))
  refine codeAny_mono (code_set_led1 (.ref l) (E := E) (Q₁ := fun q z => q = .ref s.heap.objs.size ∧ z = { s with heap := s.heap.push (set0 w) }) ⟨rfl, rfl⟩) fun r z hr => ?_
  rcases r with e | fl
  · exact hr
  cases fl with
  | ret q =>
    obtain ⟨rfl, rfl⟩ := hr
    have tS : Shared.TypeIs { s with heap := s.heap.push (set0 w) } (.ref s.heap.objs.size) "set" := ⟨_, hS, rfl⟩
    have b1 := F.called_set.init.lookup
    have b2 := F.called_set.init.bind (.ref s.heap.objs.size)
    repeat (any_goals (first | assumption | wp_step))
    refine codeAny_mono (codeAny_call_builtin (R := wants (fun r y => r = .none ∧ Q (.ref s.heap.objs.size) y) E) F.called_set.init.plain F.entry_set_init (check_set_init_1 tS ?_)) fun r y hy => ?_
    · refine init_set_txt (s := { s with heap := s.heap.push (set0 w) }) ns (by simp [hh]) hS (Nat.ne_of_lt ltl) (hl.push _) hit hb fun h' tk hR k => ?_
      exact ⟨rfl, h h' tk hR fun b o e => k b o (Nat.ne_of_lt (Heap.lt_size e)) (Heap.get?_push_of_some _ e)⟩
    · rcases r with e | fl
      · exact hy
      cases fl with
      | ret v =>
        obtain ⟨rfl, hq⟩ := hy
        repeat (any_goals (first | assumption | wp_step))
      | _ => exact hy.elim
  | _ => exact hr.elim
end
def rSetTx (K : PySem.W.Frag) (P : Program) (w : World) : List V → Hp → VK → Prop := fun xs H Q => ∃ (l : Addr) (ns : List Str), xs = [.ref l] ∧ SqL K H l (ns.map V.str) ∧ ns.length ≤ 2000 ∧ ∀ p, H p = none → Q (.ref p) (upd H p (TxtO P w p (setT ns)))
theorem cr_setTx {X : Cx} (hc : X.calm = true) : CallR X (.type "set") (rSetTx X.K X.prog X.w) := by
  intro pins s σ H xs us Q I r h
  obtain ⟨l, ns, rfl, hq, hl, q⟩ := h
  obtain ⟨u, rfl, rx⟩ := vals1 r
  obtain rfl : u = Value.ref l := rx
  obtain ⟨its, rv, pl, hz⟩ := I.list hq
  refine call_set_txt ns (I.ok.hd hc) pl.isList (by simpa using rv) (by unfold scanBound; omega) fun h' tk hR k => ?_
  have hn : H s.heap.objs.size = none := I.hok.fresh (Nat.le_refl _)
  exact ⟨.ref s.heap.objs.size, _, I.laid (t' := tk) k (Nat.le_refl _) (txtO_new hR), rfl, q _ hn⟩
def rLenTx (P : Program) (w : World) : List V → Hp → VK → Prop := fun xs H Q => ∃ (a : Addr) (l : List Str), xs = [.ref a] ∧ H a = some (TxtO P w a l) ∧ Q (.int (l.length : Nat)) H
theorem cr_lenTx {X : Cx} : CallR X (.builtin "len") (rLenTx X.prog X.w) := by
  intro pins s σ H xs us Q I r h
  obtain ⟨a, l, rfl, ea, q⟩ := h
  obtain ⟨u, rfl, rx⟩ := vals1 r
  obtain rfl : u = Value.ref a := rx
  obtain ⟨o, es, ep, t, ho, hx, hd, g, pl, nd, hb, hf, hr, hl⟩ := txtO_get I ea
  have zl : es.size = l.length := by rw [← Array.length_toList, ← pl.length_eq, List.length_map]
  refine call_len_set ho hx hd hf (by unfold scanBound at hb; omega) ⟨.int (l.length : Nat), H, I.tok _, ⟨_, by rw [zl]⟩, q⟩
theorem cr_setTxK {X : Cx} {K : PySem.W.Frag} {P : Program} {w : World} (hc : X.calm = true) (h1 : X.K = K := by rfl) (h2 : X.prog = P := by rfl) (h3 : X.w = w := by rfl) : CallR X (.type "set") (rSetTx K P w) := by subst h1 h2 h3; exact cr_setTx hc
theorem cr_lenTxK {X : Cx} {P : Program} {w : World} (h2 : X.prog = P := by rfl) (h3 : X.w = w := by rfl) : CallR X (.builtin "len") (rLenTx P w) := by subst h2 h3; exact cr_lenTx
end MF
set_option Elab.async false
set_option linter.all false
set_option maxHeartbeats 1000000
namespace MF
open PySem PySem.Spec PyProof.Rows L2
def leS (a b : Str) : Prop := ¬ b.cps.toList < a.cps.toList
theorem rising_pw : ∀ (p : Str) (l : List Str), risingS p l = true → (p :: l).Pairwise leS
  | p, [], _ => by simp
  | p, x :: r, h => by
    unfold risingS at h
    rw [Bool.and_eq_true] at h
    obtain ⟨h1, h2⟩ := h
    have ih := rising_pw x r h2
    rw [ltCps_eq] at h1
    have h1' : leS p x := by
      unfold leS
      simpa using h1
    refine List.pairwise_cons.mpr ⟨fun b hb => ?_, ih⟩
    rcases List.mem_cons.mp hb with rfl | hb
    · exact h1'
    · have h3 : leS x b := (List.pairwise_cons.mp ih).1 b hb
      unfold leS at *
      exact List.not_lt.mpr (List.le_trans (List.not_lt.mp h1') (List.not_lt.mp h3))
theorem sorted_pw {l : List Str} (h : sortedS l = true) : l.Pairwise leS := by
  cases l with
  | nil => exact .nil
  | cons x r => exact rising_pw x r h
theorem leS_anti {a b : Str} (h1 : leS a b) (h2 : leS b a) : a = b := by
  unfold leS at *
  have := List.le_antisymm (List.not_lt.mp h1) (List.not_lt.mp h2)
  obtain ⟨x⟩ := a
  obtain ⟨y⟩ := b
  have : x = y := Array.toList_inj.mp this
  rw [this]
theorem perm_sorted_eq : ∀ {a b : List Str}, a.Perm b → a.Pairwise leS → b.Pairwise leS → a = b
  | [], b, h, _, _ => (List.nil_perm.mp h).symm
  | x :: a, [], h, _, _ => by have := h.length_eq; simp at this
  | x :: a, y :: b, h, ha, hb => by
    obtain ⟨h1, h2⟩ := List.pairwise_cons.mp ha
    obtain ⟨h3, h4⟩ := List.pairwise_cons.mp hb
    have e : x = y := by
      rcases List.mem_cons.mp (h.mem_iff.mp (List.mem_cons_self (a := x) (l := a))) with z | z
      · exact z
      · rcases List.mem_cons.mp (h.mem_iff.mpr (List.mem_cons_self (a := y) (l := b))) with w | w
        · exact w.symm
        · exact leS_anti (h1 y w) (h3 x z)
    subst e
    rw [perm_sorted_eq (List.Perm.cons_inv h) h2 h4]
theorem sortedS_uniq {a b : List Str} (h : a.Perm b) (ha : sortedS a = true) (hb : sortedS b = true) : a = b := perm_sorted_eq h (sorted_pw ha) (sorted_pw hb)
theorem sorted_eq : ∀ {a b : List Int}, a.Pairwise (· < ·) → b.Pairwise (· < ·) → (∀ z, z ∈ a ↔ z ∈ b) → a = b
  | [], [], _, _, _ => rfl
  | [], y :: b, _, _, h => by have := (h y).mpr (by simp); cases this
  | x :: a, [], _, _, h => by have := (h x).mp (by simp); cases this
  | x :: a, y :: b, ha, hb, h => by
    obtain ⟨h1, h2⟩ := List.pairwise_cons.mp ha
    obtain ⟨h3, h4⟩ := List.pairwise_cons.mp hb
    have e : x = y := by
      have m1 := (h x).mp (by simp)
      have m2 := (h y).mpr (by simp)
      rcases List.mem_cons.mp m1 with z | z
      · exact z
      · rcases List.mem_cons.mp m2 with w | w
        · exact w.symm
        · have := h3 x z
          have := h1 y w
          omega
    subst e
    rw [sorted_eq h2 h4 fun z => ?_]
    have := h z
    rw [List.mem_cons, List.mem_cons] at this
    constructor
    · intro hz
      rcases this.mp (.inr hz) with w | w
      · have := h1 z hz; omega
      · exact w
    · intro hz
      rcases this.mpr (.inr hz) with w | w
      · have := h3 z hz; omega
      · exact w
end MF
set_option Elab.async false
set_option linter.all false
set_option maxRecDepth 100000
set_option maxHeartbeats 1000000
namespace MF
open PySem PySem.Spec PyProof.Rows L2 StX ClX
section
variable {P : Program} {w : World} {K : PySem.W.Frag} {mg : Str → Option Value} {base : Heap} {k : Nat} {C : Addr} {m qual p1 pv : Str} {ps : List Str} {st : Stmt} {N : List Str} {sp : Sp}
theorem SMDef.fnX (D : SMDef K C m qual st p1 pv) (S : FnScope N [p1, pv] (defScope st))
    (hbody : ∀ (f : Addr) (cdv : Value) (A : Around) (outer : List Env) (s : Shared) (H : Hp) (vs : List V) (Q : VK) (E : XK), Room k (A.deeper (envOfC qual (defScope st) s.heap.objs.size f cdv)) → sp vs H Q E →
      ∃ t, PSs (cxOf (L2.CX P w) P w K mg base N qual (defScope st) f cdv A outer s H E) (defBody st) t ∧ t { nx := fun _ H' => Q .non H', rt := Q } (start N vs) H) :
    MFn P w K mg base (L2.CX P w) (k + 1) C m (fun vs H Q E => ∃ v rest, vs = v :: rest ∧ rest.length ≤ sizeLine ∧ ∀ p, H p = Option.none → sp [v, V.ref p] (upd H p (.tup rest)) Q E) := by
  obtain ⟨f, fd, F, M, hb⟩ := D.ex
  obtain ⟨oc, od, kV, doc, pm, an, cdv, ct, osl, rfl, lk, hcd⟩ := F.ex
  refine ⟨f, (fn_star (ps := [p1]) (pv := pv) (sp := sp) lk hcd S cxUp hb fun A outer s H vs Q E hr hsp => hbody f cdv A outer s H vs Q E hr hsp).imp fun vs H Q E h => ?_, M⟩
  obtain ⟨v, rest, rfl, hl, q⟩ := h
  exact ⟨[v], rest, rfl, rfl, hl, q⟩
theorem CDef.fnX (D : CDef K C m qual st ps pv) (S : FnScope N (ps ++ [pv]) (defScope st))
    (hbody : ∀ (f : Addr) (cdv : Value) (A : Around) (outer : List Env) (s : Shared) (H : Hp) (vs : List V) (Q : VK) (E : XK), Room k (A.deeper (envOfC qual (defScope st) s.heap.objs.size f cdv)) → sp vs H Q E →
      ∃ t, PSs (cxOf (L2.CX P w) P w K mg base N qual (defScope st) f cdv A outer s H E) (defBody st) t ∧ t { nx := fun _ H' => Q .non H', rt := Q } (start N vs) H) :
    CFn P w K mg base (L2.CX P w) (k + 1) C m (fun vs H Q E => ∃ ws rest, vs = ws ++ rest ∧ ws.length = ps.length ∧ rest.length ≤ sizeLine ∧ ∀ p, H p = Option.none → sp (ws ++ [V.ref p]) (upd H p (.tup rest)) Q E) := by
  obtain ⟨mc, p, f, fd, F, R, M, hb⟩ := D.ex
  obtain ⟨oc, od, kV, doc, pm, an, cdv, ct, osl, rfl, lk, hcd⟩ := F.ex
  exact ⟨mc, p, f, fn_star (ps := ps) (pv := pv) (sp := sp) lk hcd S cxUp hb fun A outer s H vs Q E hr hsp => hbody f cdv A outer s H vs Q E hr hsp, R, M⟩
end
theorem pe_cmX {X : Cx} {CX : CXT} {k : Nat} {C : Addr} {m : Str} {sp : Sp} {E : XK} {o e : Expr} {es : List Expr} {ta : TE} {t : TA} {pos apos : Pos} {pl : Sem Bool} (G : CFn X.prog X.w X.K X.mg X.base CX k C m sp) (hr : Room k X.A) (hx : Passes CX X E) (he : PE X o ta) (ha : PA X (e :: es) t)
    (hst : starEach (e :: es) X.env = (false, eval e X.env) :: starEach es X.env := by rfl) (hpl : (backTo pos (starEach es X.env)).any (·.1) = false := by rfl)
    (ht : eval (.Call (.Attribute o m apos) (e :: es) [] pos) X.env = (do
      let ov ← eval o X.env
      standAt apos.atName
      let (f, first) ← holding [ov] (getMethod ov m pl)
      callWith pos f first (backTo pos (starEach (e :: es) X.env)) (backToKw pos (keywordEach [] X.env))) := by rfl) :
    PE X (.Call (.Attribute o m apos) (e :: es) [] pos) (tCMeth C sp E ta t) := by
  obtain ⟨mc, p, f, F, R, M⟩ := G.ex
  exact pe_cmeth he R M F hr hx ha hst hpl ht
end MF
set_option Elab.async false
set_option linter.all false
set_option maxHeartbeats 1000000
namespace MF
open PySem

def holds (o : Ordr) (x : Str) (d : Int) : Bool := decide (o.src = x) && (decide (o.first ≤ d) && decide (d ≤ o.last))
def ordFor : List Ordr → Str → Int → Option Nat
  | [], _, _ => none
  | o :: os, x, d => if holds o x d = true then some 0 else (ordFor os x d).map (· + 1)
theorem ordFor_some {x : Str} {d : Int} : ∀ {os : List Ordr} {i : Nat}, ordFor os x d = some i → ∃ o, os[i]? = some o ∧ holds o x d = true
  | [], i, h => by cases h
  | o :: os, i, h => by
    unfold ordFor at h
    by_cases q : holds o x d = true
    · rw [if_pos q] at h
      cases h
      exact ⟨o, rfl, q⟩
    · rw [if_neg q] at h
      cases e : ordFor os x d with
      | none => rw [e] at h; cases h
      | some j =>
        rw [e] at h
        cases h
        obtain ⟨p, h1, h2⟩ := ordFor_some e
        exact ⟨p, by simpa using h1, h2⟩
theorem ordFor_is {x : Str} {d : Int} {o : Ordr} : ∀ {os : List Ordr} {i : Nat}, (∀ (j : Nat) p, j < i → os[j]? = some p → holds p x d = false) → os[i]? = some o → holds o x d = true → ordFor os x d = some i
  | [], i, _, h, _ => by simp at h
  | p :: os, 0, _, h, q => by
    simp at h
    subst h
    unfold ordFor
    rw [if_pos q]
  | p :: os, i + 1, hn, h, q => by
    have h0 : holds p x d = false := hn 0 p (Nat.succ_pos _) rfl
    unfold ordFor
    rw [h0, if_neg Bool.false_ne_true, ordFor_is (i := i) (fun j r hj e => hn (j + 1) r (Nat.succ_lt_succ hj) (by simpa using e)) (by simpa using h) q]
    rfl
theorem ordFor_none {x : Str} {d : Int} : ∀ {os : List Ordr}, (∀ p ∈ os, holds p x d = false) → ordFor os x d = none
  | [], _ => rfl
  | p :: os, h => by
    unfold ordFor
    rw [h p (by simp), if_neg Bool.false_ne_true, ordFor_none fun q hq => h q (by simp [hq])]
    rfl
theorem ordFor_none_iff {x : Str} {d : Int} {os : List Ordr} : ordFor os x d = none ↔ ∀ p ∈ os, holds p x d = false := by
  refine ⟨fun h => ?_, ordFor_none⟩
  induction os with
  | nil => intro p hp; cases hp
  | cons o os ih =>
    unfold ordFor at h
    by_cases q : holds o x d = true
    · rw [if_pos q] at h; cases h
    · rw [if_neg q] at h
      have h' : ordFor os x d = none := by
        cases e : ordFor os x d with
        | none => rfl
        | some j => rw [e] at h; cases h
      intro p hp
      rcases List.mem_cons.mp hp with rfl | hp
      · simpa using q
      · exact ih h' p hp
theorem ordFor_congr {x : Str} {d e : Int} : ∀ {os : List Ordr}, (∀ p ∈ os, holds p x d = holds p x e) → ordFor os x d = ordFor os x e
  | [], _ => rfl
  | p :: os, h => by
    unfold ordFor
    rw [h p (by simp), ordFor_congr fun q hq => h q (by simp [hq])]
def changes : List Ordr → Int → List Int
  | [], _ => []
  | o :: os, d => ([o.first, o.last + 1].filter fun c => decide (d < c)) ++ changes os d
theorem mem_changes {d c : Int} : ∀ {os : List Ordr}, c ∈ changes os d ↔ d < c ∧ ∃ o ∈ os, c = o.first ∨ c = o.last + 1
  | [] => by simp [changes]
  | o :: os => by
    unfold changes
    rw [List.mem_append, mem_changes (os := os), List.mem_filter]
    simp only [List.mem_cons, List.not_mem_nil, or_false, decide_eq_true_eq, exists_eq_or_imp]
    constructor
    · rintro (⟨h1, h2⟩ | ⟨h1, o', h2, h3⟩)
      · exact ⟨h2, .inl h1⟩
      · exact ⟨h1, .inr ⟨o', h2, h3⟩⟩
    · rintro ⟨h1, h2 | ⟨o', h2, h3⟩⟩
      · exact .inl ⟨h2, h1⟩
      · exact .inr ⟨h1, o', h2, h3⟩
def leastOf : List Int → Option Int
  | [] => none
  | a :: as => match leastOf as with
    | none => some a
    | some b => some (if a ≤ b then a else b)
theorem leastOf_none {l : List Int} : leastOf l = none ↔ l = [] := by
  cases l with
  | nil => simp [leastOf]
  | cons a as =>
    unfold leastOf
    cases leastOf as <;> simp
theorem leastOf_some : ∀ {l : List Int} {m : Int}, leastOf l = some m ↔ m ∈ l ∧ ∀ c ∈ l, m ≤ c
  | [], m => by simp [leastOf]
  | a :: as, m => by
    unfold leastOf
    cases e : leastOf as with
    | none =>
      have := leastOf_none.mp e
      subst this
      simp only [Option.some.injEq, List.mem_singleton]
      constructor
      · rintro rfl; exact ⟨rfl, fun c hc => by rw [hc]; exact Int.le_refl _⟩
      · rintro ⟨h, _⟩; exact h.symm
    | some b =>
      obtain ⟨hb, hm⟩ := (leastOf_some (l := as) (m := b)).mp e
      simp only [Option.some.injEq, List.mem_cons]
      constructor
      · intro h
        by_cases q : a ≤ b
        · rw [if_pos q] at h
          subst h
          exact ⟨.inl rfl, fun c hc => by
            rcases hc with rfl | hc
            · exact Int.le_refl _
            · have := hm c hc; omega⟩
        · rw [if_neg q] at h
          subst h
          exact ⟨.inr hb, fun c hc => by
            rcases hc with rfl | hc
            · omega
            · exact hm c hc⟩
      · rintro ⟨h1, h2⟩
        have ha := h2 a (.inl rfl)
        have hb' := h2 b (.inr hb)
        rcases h1 with rfl | h1
        · rw [if_pos hb']
        · have := hm m h1
          by_cases q : a ≤ b
          · rw [if_pos q]; omega
          · rw [if_neg q]; omega
def nextCh (os : List Ordr) (d : Int) : Option Int := leastOf (changes os d)
theorem nextCh_gt {os : List Ordr} {d c : Int} (h : nextCh os d = some c) : d < c := (mem_changes.mp (leastOf_some.mp h).1).1
theorem nextCh_const {os : List Ordr} {d e : Int} (hd : d ≤ e) (hc : ∀ c, nextCh os d = some c → e < c) : nextCh os e = nextCh os d := by
  have sub : ∀ c, c ∈ changes os e ↔ c ∈ changes os d := fun c => by
    rw [mem_changes, mem_changes]
    constructor
    · rintro ⟨h1, h2⟩; exact ⟨by omega, h2⟩
    · rintro ⟨h1, h2⟩
      refine ⟨?_, h2⟩
      cases q : nextCh os d with
      | none =>
        have := leastOf_none.mp q
        have hm : c ∈ changes os d := mem_changes.mpr ⟨h1, h2⟩
        rw [this] at hm; cases hm
      | some m =>
        have := (leastOf_some.mp q).2 c (mem_changes.mpr ⟨h1, h2⟩)
        have := hc m q
        omega
  unfold nextCh
  cases q : leastOf (changes os d) with
  | none =>
    have h0 := leastOf_none.mp q
    refine leastOf_none.mpr ?_
    cases r : changes os e with
    | nil => rfl
    | cons a as =>
      have : a ∈ changes os d := (sub a).mp (by rw [r]; simp)
      rw [h0] at this; cases this
  | some m =>
    obtain ⟨h1, h2⟩ := leastOf_some.mp q
    exact leastOf_some.mpr ⟨(sub m).mpr h1, fun c hc' => h2 c ((sub c).mp hc')⟩
theorem ordFor_const {os : List Ordr} {x : Str} {d e : Int} (hd : d ≤ e) (hc : ∀ c ∈ changes os d, e < c) : ordFor os x e = ordFor os x d := by
  refine ordFor_congr fun o ho => ?_
  have h1 : d < o.first → e < o.first := fun h => hc _ (mem_changes.mpr ⟨h, o, ho, .inl rfl⟩)
  have h2 : d < o.last + 1 → e < o.last + 1 := fun h => hc _ (mem_changes.mpr ⟨h, o, ho, .inr rfl⟩)
  have e1 : decide (o.first ≤ e) = decide (o.first ≤ d) := by
    by_cases q : o.first ≤ d
    · rw [decide_eq_true q, decide_eq_true (by omega)]
    · rw [decide_eq_false q, decide_eq_false (by omega)]
  have e2 : decide (e ≤ o.last) = decide (d ≤ o.last) := by
    by_cases q : d ≤ o.last
    · rw [decide_eq_true q, decide_eq_true (by omega)]
    · rw [decide_eq_false q, decide_eq_false (by omega)]
  unfold holds
  rw [e1, e2]

abbrev Pt := Str × Int
def nxt (os : List Ordr) (s : Pt) : Option Pt := (ordFor os s.1 s.2).bind fun i => os[i]?.map fun o => (o.tgt, s.2 + o.way)
inductive Go (os : List Ordr) : Pt → Nat → Pt → Prop
  | refl (s : Pt) : Go os s 0 s
  | step {s s' t : Pt} {n : Nat} (h : nxt os s = some s') (r : Go os s' n t) : Go os s (n + 1) t
def Ends (os : List Ordr) (s : Pt) (n : Nat) (t : Pt) : Prop := Go os s n t ∧ nxt os t = none
theorem nxt_of {os : List Ordr} {x : Str} {d : Int} {i : Nat} {o : Ordr} (h : ordFor os x d = some i) (e : os[i]? = some o) : nxt os (x, d) = some (o.tgt, d + o.way) := by
  unfold nxt
  simp only [h, Option.bind_some, e, Option.map_some]
theorem nxt_none {os : List Ordr} {x : Str} {d : Int} : nxt os (x, d) = none ↔ ordFor os x d = none := by
  unfold nxt
  cases h : ordFor os x d with
  | none => simp
  | some i =>
    obtain ⟨o, e, _⟩ := ordFor_some h
    simp [e]
theorem nxt_some {os : List Ordr} {s s' : Pt} (h : nxt os s = some s') : ∃ i o, ordFor os s.1 s.2 = some i ∧ os[i]? = some o ∧ holds o s.1 s.2 = true ∧ s' = (o.tgt, s.2 + o.way) := by
  obtain ⟨x, d⟩ := s
  unfold nxt at h
  cases q : ordFor os x d with
  | none => simp [q] at h
  | some i =>
    obtain ⟨o, e, ho⟩ := ordFor_some q
    simp [q, e] at h
    exact ⟨i, o, rfl, e, ho, h.symm⟩
theorem Go.trans {os : List Ordr} {s t u : Pt} {n m : Nat} (a : Go os s n t) (b : Go os t m u) : Go os s (n + m) u := by
  induction a with
  | refl s => rw [Nat.zero_add]; exact b
  | step h r ih => rw [Nat.succ_add]; exact .step h (ih b)
theorem Go.one {os : List Ordr} {s t : Pt} (h : nxt os s = some t) : Go os s 1 t := .step h (.refl t)
theorem Go.det {os : List Ordr} {s t u : Pt} {n : Nat} (a : Go os s n t) (b : Go os s n u) : t = u := by
  induction a with
  | refl s => cases b; rfl
  | step h r ih =>
    cases b with
    | step h' r' => rw [h] at h'; cases h'; exact ih r'
theorem Ends.after {os : List Ordr} {s t u : Pt} {n m : Nat} (e : Ends os s n t) (g : Go os s m u) : m ≤ n ∧ Ends os u (n - m) t := by
  induction g generalizing n with
  | refl s => exact ⟨Nat.zero_le _, e⟩
  | step h r ih =>
    obtain ⟨a, b⟩ := e
    cases a with
    | refl => rw [b] at h; cases h
    | step h' r' =>
      rw [h] at h'
      cases h'
      obtain ⟨h1, h2⟩ := ih ⟨r', b⟩
      exact ⟨Nat.succ_le_succ h1, by rw [Nat.succ_sub_succ]; exact h2⟩
theorem Ends.before {os : List Ordr} {s t u : Pt} {n m : Nat} (g : Go os s m u) (e : Ends os u n t) : Ends os s (m + n) t := ⟨g.trans e.1, e.2⟩
theorem Ends.uniq {os : List Ordr} {s t u : Pt} {n m : Nat} (a : Ends os s n t) (b : Ends os s m u) : n = m ∧ t = u := by
  obtain ⟨h1, h2⟩ := a.after b.1
  obtain ⟨h3, h4⟩ := b.after a.1
  have e : n = m := Nat.le_antisymm h3 h1
  subst e
  exact ⟨rfl, a.1.det b.1⟩
structure Fine (os : List Ordr) (M : Int) : Prop where
  way : ∀ o ∈ os, 1 ≤ o.way
  last : ∀ o ∈ os, o.last ≤ M
theorem Good.fine {os : List Ordr} (g : Good os) : Fine os 1000000000000000000 := ⟨fun o h => (g.ok o h).w1, fun o h => (g.ok o h).lm⟩
theorem nxt_day {os : List Ordr} {M : Int} (f : Fine os M) {s s' : Pt} (h : nxt os s = some s') : s.2 < s'.2 ∧ s.2 ≤ M := by
  obtain ⟨i, o, h1, h2, h3, rfl⟩ := nxt_some h
  have ho : o ∈ os := List.mem_of_getElem? h2
  have := f.way o ho
  have := f.last o ho
  simp only [holds, Bool.and_eq_true, decide_eq_true_eq] at h3
  refine ⟨?_, by omega⟩
  show s.2 < s.2 + o.way
  omega
theorem Go.day {os : List Ordr} {M : Int} (f : Fine os M) {s t : Pt} {n : Nat} (g : Go os s n t) : s.2 + (n : Int) ≤ t.2 := by
  induction g with
  | refl s => simp
  | step h r ih =>
    have := (nxt_day f h).1
    push_cast
    omega
theorem ends_ex {os : List Ordr} {M : Int} (f : Fine os M) : ∀ s : Pt, ∃ n t, Ends os s n t := by
  have all : ∀ (k : Nat) (s : Pt), (M + 1 - s.2).toNat ≤ k → ∃ n t, Ends os s n t := by
    intro k
    induction k with
    | zero =>
      intro s hs
      refine ⟨0, s, .refl s, ?_⟩
      cases q : nxt os s with
      | none => rfl
      | some s' => have := nxt_day f q; omega
    | succ k ih =>
      intro s hs
      cases q : nxt os s with
      | none => exact ⟨0, s, .refl s, q⟩
      | some s' =>
        have := nxt_day f q
        obtain ⟨n, t, h1, h2⟩ := ih s' (by omega)
        exact ⟨n + 1, t, .step q h1, h2⟩
  exact fun s => all _ s (Nat.le_refl _)
theorem Go.shift {os : List Ordr} {M : Int} (f : Fine os M) {hi δ : Int} (h0 : 0 ≤ δ) {s t : Pt} {n : Nat} (g : Go os s n t) (hc : ∀ c ∈ changes os s.2, hi < c) (ht : t.2 + δ ≤ hi) : Go os (s.1, s.2 + δ) n (t.1, t.2 + δ) := by
  induction g with
  | refl s => exact .refl _
  | @step s s' t n h r ih =>
    have hd := (nxt_day f h).1
    have hl := r.day f
    have hle : s.2 + δ ≤ hi := by omega
    obtain ⟨i, o, h1, h2, h3, e⟩ := nxt_some h
    have e1 : ordFor os s.1 (s.2 + δ) = some i := by
      rw [← h1]
      exact ordFor_const (by omega) fun c hc' => by have := hc c hc'; omega
    have e2 : nxt os (s.1, s.2 + δ) = some (s'.1, s'.2 + δ) := by
      rw [nxt_of e1 h2, e]
      simp only [Option.some.injEq, Prod.mk.injEq, true_and]
      omega
    refine .step e2 (ih (fun c hc' => hc c ?_) ht)
    obtain ⟨q1, q2⟩ := mem_changes.mp hc'
    exact mem_changes.mpr ⟨by omega, q2⟩
theorem Go.rounds {os : List Ordr} {M : Int} (f : Fine os M) {x : Str} {d d1 hi : Int} {k : Nat} (g : Go os (x, d1) k (x, d)) (hd : d1 ≤ d) (hc : ∀ c ∈ changes os d1, hi < c) : ∀ j : Nat, d + (j : Int) * (d - d1) ≤ hi → Go os (x, d) (j * k) (x, d + (j : Int) * (d - d1))
  | 0, _ => by simp; exact .refl _
  | j + 1, h => by
    have hp : 0 ≤ (j : Int) * (d - d1) := Int.mul_nonneg (Int.natCast_nonneg _) (by omega)
    have e : ((j + 1 : Nat) : Int) * (d - d1) = (j : Int) * (d - d1) + (d - d1) := by
      push_cast
      rw [Int.add_mul, Int.one_mul]
    rw [e] at h ⊢
    have a := Go.rounds f g hd hc j (by omega)
    have b := Go.shift f (δ := (j : Int) * (d - d1) + (d - d1)) (by omega) g hc (by show d + _ ≤ hi; omega)
    have e3 : (x, d1 + ((j : Int) * (d - d1) + (d - d1))) = (x, d + (j : Int) * (d - d1)) := by
      congr 1
      omega
    have b' : Go os (x, d + (j : Int) * (d - d1)) k (x, d + ((j : Int) * (d - d1) + (d - d1))) := by
      rw [← e3]
      exact b
    rw [Nat.succ_mul]
    exact a.trans b'
end MF
set_option Elab.async false
set_option linter.all false
set_option maxRecDepth 100000
set_option maxHeartbeats 2000000
set_option pp.maxSteps 600
namespace MF
open PySem PySem.Spec PyProof.Rows L2 StX
section
variable {P : Program} {w : World} {K : PySem.W.Frag} {mg : Str → Option Value} {base : Heap} {C_Book C_MailError C_InvalidOrder C_UnknownOrder C_InvalidAddress C_InvalidDay C_InvalidNumber : Addr}
theorem ok_is_integer (T : Top K mg C_Book C_MailError C_InvalidOrder C_UnknownOrder C_InvalidAddress C_InvalidDay C_InvalidNumber) : GFn P w K mg base CX0 1 "is_integer" spIsInteger := by
  refine T.d_is_integer.fn fun f fd F => F.ok sc_is_integer (fun vs H Q E h => ?_) (fun cdv A outer s H vs Q E hr h => ?_)
  · obtain ⟨v, lo, hi, rfl, _⟩ := h
    rfl
  · obtain ⟨v, lo, hi, rfl, hn, k⟩ := h
    refine ⟨_, (pss_one (ps_ret (pe_and (pe_callB call_isi (by rfl) T.b_isinstance (by decide +kernel) (pa_cons (pv 0) (pa_cons (pe_bltn (v := .ty "int") (by rfl) T.b_int (by decide +kernel) rfl) pa_nil))) (pe_and (pe_not (pe_callB call_isi (by rfl) T.b_isinstance (by decide +kernel) (pa_cons (pv 0) (pa_cons (pe_bltn (v := .ty "bool") (by rfl) T.b_bool (by decide +kernel) rfl) pa_nil)))) (pe_one (pe_chain op_le op_le (pv 1) (pv 0) (pv 2))))))), ?_⟩
    cases v with
    | int i =>
      refine ⟨_, rfl, _, _, _, _, true, rfl, .ty "int", ty_flat hn, kt_int_int, true, rfl, iteT ?_⟩
      refine ⟨_, rfl, _, _, _, _, false, rfl, .ty "bool", ty_flat hn, kt_int_bool, false, rfl, true, rfl, iteT ?_⟩
      refine ⟨_, rfl, _, rfl, _, _, rfl, rfl, _, rfl, ?_⟩
      refine ite2 (fun h1 => ?_) (fun h1 => ?_)
      · have h1' : lo ≤ i := of_decide_eq_true h1
        refine ⟨_, rfl, _, _, rfl, rfl, ?_⟩
        simpa [isIntB, h1'] using k
      · have h1' : decide (lo ≤ i) = false := by simpa using h1
        simpa [isIntB, h1'] using k
    | bl b =>
      refine ⟨_, rfl, _, _, _, _, true, rfl, .ty "int", ty_flat hn, kt_bool_int, true, rfl, iteT ?_⟩
      refine ⟨_, rfl, _, _, _, _, true, rfl, .ty "bool", ty_flat hn, kt_bool_bool, true, rfl, false, rfl, iteF ?_⟩
      exact k
    | non =>
      refine ⟨_, rfl, _, _, _, _, false, rfl, .ty "int", ty_flat hn, kt_NoneType_int, false, rfl, iteF ?_⟩
      exact k
    | str x =>
      refine ⟨_, rfl, _, _, _, _, false, rfl, .ty "int", ty_flat hn, kt_str_int, false, rfl, iteF ?_⟩
      exact k
    | byt b => cases hn
    | flt b => cases hn
    | ref a => cases hn
    | ty n => cases hn
theorem ok_do_overlap (T : Top K mg C_Book C_MailError C_InvalidOrder C_UnknownOrder C_InvalidAddress C_InvalidDay C_InvalidNumber) : GFn P w K mg base CX0 1 "do_overlap" (spOverlap K) := by
  refine T.d_do_overlap.fn fun f fd F => F.ok sc_do_overlap (fun vs H Q E h => ?_) (fun cdv A outer s H vs Q E hr h => ?_)
  · obtain ⟨a, b, o, p, rfl, _⟩ := h
    rfl
  · obtain ⟨a, b, o, p, rfl, ha, hb, k⟩ := h
    refine ⟨_, (pss_one (ps_ret (pe_and (pe_cmpR op_eq (pe_ix ix_tup (pv 0) pe_int (fun _ _ => rfl)) (pe_ix ix_tup (pv 1) pe_int (fun _ _ => rfl)) (nomark _)) (pe_and (pe_cmpR op_le (pe_ix ix_tup (pv 0) pe_int (fun _ _ => rfl)) (pe_ix ix_tup (pv 1) pe_int (fun _ _ => rfl)) (nomark _)) (pe_one (pe_cmpR op_le (pe_ix ix_tup (pv 1) pe_int (fun _ _ => rfl)) (pe_ix ix_tup (pv 0) pe_int (fun _ _ => rfl)) (nomark _))))))), ?_⟩
    refine ⟨_, rfl, a, _, _, _, rfl, rfl, ha, rfl, _, rfl, b, _, _, _, rfl, rfl, hb, rfl, rfl, _, rfl, ?_⟩
    refine ite2 (fun h1 => ?_) (fun h1 => ?_)
    · have h1' : o.src = p.src := V.str.inj (of_decide_eq_true h1)
      refine ⟨_, rfl, a, _, _, _, rfl, rfl, ha, rfl, _, rfl, b, _, _, _, rfl, rfl, hb, rfl, _, _, rfl, rfl, _, rfl, ?_⟩
      refine ite2 (fun h2 => ?_) (fun h2 => ?_)
      · have h2' : o.first ≤ p.last := of_decide_eq_true h2
        refine ⟨_, rfl, b, _, _, _, rfl, rfl, hb, rfl, _, rfl, a, _, _, _, rfl, rfl, ha, rfl, _, _, rfl, rfl, ?_⟩
        simpa [overB, h1', h2'] using k
      · have h2' : ¬ o.first ≤ p.last := by simpa using h2
        simpa [overB, h1', h2'] using k
    · have h1' : ¬ o.src = p.src := fun q => h1 (decide_eq_true (congrArg V.str q))
      simpa [overB, h1'] using k
end

end MF
set_option Elab.async false
set_option linter.all false
set_option maxRecDepth 100000
set_option maxHeartbeats 2000000
set_option pp.maxSteps 600
namespace MF
open PySem PySem.Spec PyProof.Rows L2 StX
section
variable {P : Program} {w : World} {K : PySem.W.Frag} {mg : Str → Option Value} {base : Heap} {C_Book C_MailError C_InvalidOrder C_UnknownOrder C_InvalidAddress C_InvalidDay C_InvalidNumber : Addr}
theorem ok_is_address (T : Top K mg C_Book C_MailError C_InvalidOrder C_UnknownOrder C_InvalidAddress C_InvalidDay C_InvalidNumber) : GFn P w K mg base CX0 1 "is_address" spIsAddress := by
  refine T.d_is_address.fn fun f fd F => F.ok sc_is_address (fun vs H Q E h => ?_) (fun cdv A outer s H vs Q E hr h => ?_)
  · obtain ⟨v, rfl, _⟩ := h
    rfl
  · obtain ⟨v, rfl, hn, hs, k⟩ := h
    refine ⟨_, (pss_cons (ps_if (PW.pt (pw_or (pt_not (pt_val (pe_callB call_isi (by rfl) T.b_isinstance (by decide +kernel) (pa_cons (pv 0) (pa_cons (pe_bltn (v := .ty "str") (by rfl) T.b_str (by decide +kernel) rfl) pa_nil))))) (pw_or1 (pt_not (pt_chain op_le op_le pe_int (pe_callB call_len_str (by rfl) T.b_len (by decide +kernel) (pa_cons (pv 0) pa_nil)) (pe_gint T.c_MAX_LETTERS))))))
  (pss_one (ps_ret pe_bl))
  pss_nil)
  (pss_one (ps_ret (pe_callB (cr_all rfl) (by rfl) T.b_all (by decide +kernel) (pa_cons (pe_lc (own := [("letter", 1)]) (g := (gName 1)) (by rfl) sc_is_address.nd (pi_str (pv 0)) (blkOk_by (own := [("letter", 1)]) (N := ["value", "letter"]) (sc := defScope s_is_address) (by decide +kernel)) (fun _ _ _ _ _ => (pg_name (i := 1) sc_is_address.nd rfl (Or.inl rfl))) (fun _ _ _ _ _ => pts_nil) (fun _ _ _ _ _ => (pe_cmpR op_in_sign (pv 1) (pe_gstr T.c_LETTERS) rfl))) pa_nil))))), ?_⟩
    cases v with
    | str z =>
      refine ⟨_, rfl, _, _, _, _, true, rfl, .ty "str", ty_flat hn, kt_str_str, true, rfl, iteF ?_⟩
      refine ⟨_, rfl, z, rfl, hs, _, _, rfl, rfl, _, rfl, ?_⟩
      have h8 : ∀ b, isAddrB (.str z) = b → Q (.bl b) H := fun b e => by rw [← e]; exact k H (Same.refl H)
      refine ite2 (fun h1 => ?_) (fun h1 => ?_)
      · have h1' : 1 ≤ z.length := by have := of_decide_eq_true h1; omega
        refine ⟨_, _, rfl, rfl, _, rfl, ?_⟩
        by_cases h2 : z.length ≤ 8
        · have h2' : decide (((z.length : Nat) : Int) ≤ 8) = true := decide_eq_true (by omega)
          rw [h2']
          refine iteF ?_
          refine ⟨_, rfl, z, rfl, fun D hD => lc_it walk_str (fun i H' => Same H H' ∧ H' D = some (.lst ((z.cps.toList.take i).map fun c => V.bl (decide (c ∈ letters.cps.toList))))) ⟨Same.new hD, upd_same⟩ (fun _ _ _ _ => trivial) ?_ ?_⟩
          · rintro i x H1 H2 hi ⟨s1, l1⟩ ⟨rfl, c, hc, rfl⟩
            have hlt : i < z.cps.size := hi
            have hlen : z.cps.size = z.length := rfl
            refine ⟨rfl, yesT ?_⟩
            refine iteT ?_
            refine ⟨_, rfl, c, _, rfl, rfl, _, l1, ?_, ?_, ?_⟩
            · rw [List.length_map]
              exact Nat.lt_of_le_of_lt (List.length_take_le _ _) (Nat.lt_of_lt_of_le (Nat.lt_of_lt_of_le hlt (hlen ▸ h2)) (by decide))
            · intro b o e
              have nb : b ≠ D := ne_of_none e hD
              rw [upd_ne nb]
              exact s1 b o e
            · rw [upd_same]
              have e1 : z.cps.toList[i]? = some c := by simpa using hc
              rw [List.take_add_one, e1]
              simp [letters]
          · rintro H1 ⟨s1, l1⟩
            have e1 : z.cps.toList.take z.cps.size = z.cps.toList := List.take_of_length_le (by simp)
            rw [e1] at l1
            have e2 : (z.cps.toList.map fun c => V.bl (decide (c ∈ letters.cps.toList))) = (z.cps.toList.map fun c => decide (c ∈ letters.cps.toList)).map V.bl := by rw [List.map_map]; rfl
            rw [e2] at l1
            refine ⟨D, _, rfl, SqL.of l1, ?_⟩
            have e3 : ((z.cps.toList.map fun c => decide (c ∈ letters.cps.toList)).all id) = isAddrB (.str z) := by
              show _ = (decide (1 ≤ z.length) && decide (z.length ≤ 8) && z.cps.toList.all fun c => decide (c ∈ letters.cps.toList))
              rw [decide_eq_true h1', decide_eq_true h2, List.all_map]
              rfl
            rw [e3]
            exact k H1 s1
        · have h2' : decide (((z.length : Nat) : Int) ≤ 8) = false := decide_eq_false (by omega)
          rw [h2']
          exact iteT (h8 _ (by simp [isAddrB, h2]))
      · have h1' : ¬ 1 ≤ z.length := fun q => h1 (decide_eq_true (by omega))
        exact ⟨false, rfl, iteT (h8 _ (by simp [isAddrB, h1']))⟩
    | int i =>
      refine ⟨_, rfl, _, _, _, _, false, rfl, .ty "str", ty_flat hn, kt_int_str, false, rfl, iteT ?_⟩
      exact iteT (k H (Same.refl H))
    | bl b =>
      refine ⟨_, rfl, _, _, _, _, false, rfl, .ty "str", ty_flat hn, kt_bool_str, false, rfl, iteT ?_⟩
      exact iteT (k H (Same.refl H))
    | non =>
      refine ⟨_, rfl, _, _, _, _, false, rfl, .ty "str", ty_flat hn, kt_NoneType_str, false, rfl, iteT ?_⟩
      exact iteT (k H (Same.refl H))
    | byt b => cases hn
    | flt b => cases hn
    | ref a => cases hn
    | ty n => cases hn
end

end MF
set_option Elab.async false
set_option linter.all false
set_option maxRecDepth 100000
set_option maxHeartbeats 2000000
set_option pp.maxSteps 600
namespace MF
open PySem PySem.Spec PyProof.Rows L2 StX
section
variable {P : Program} {w : World} {K : PySem.W.Frag} {mg : Str → Option Value} {base : Heap} {C_Book C_MailError C_InvalidOrder C_UnknownOrder C_InvalidAddress C_InvalidDay C_InvalidNumber : Addr}
theorem ok_is_order (T : Top K mg C_Book C_MailError C_InvalidOrder C_UnknownOrder C_InvalidAddress C_InvalidDay C_InvalidNumber) : GFn P w K mg base CX0 2 "is_order" (spIsOrder K) := by
  have G_is_address : GFn P w K mg base CX0 1 "is_address" spIsAddress := ok_is_address T
  have G_is_integer : GFn P w K mg base CX0 1 "is_integer" spIsInteger := ok_is_integer T
  refine T.d_is_order.fn fun f fd F => F.ok sc_is_order (fun vs H Q E h => ?_) (fun cdv A outer s H vs Q E hr h => ?_)
  · obtain ⟨v, b, rfl, _⟩ := h
    rfl
  · obtain ⟨v, b, rfl, hv, k⟩ := h
    refine ⟨_, (pss_one (ps_match rfl sc_is_order.nd (pv 0) (Caps.cons (i := 1) rfl (Or.inl rfl) (Or.inl rfl) (Caps.cons (i := 2) rfl (Or.inl rfl) (Or.inl rfl) (Caps.cons (i := 3) rfl (Or.inl rfl) (Or.inl rfl) (Caps.cons (i := 4) rfl (Or.inl rfl) (Or.inl rfl) (Caps.cons (i := 5) rfl (Or.inl rfl) (Or.inl rfl) Caps.nil))))) (pt_val (pe_callB call_isi (by rfl) T.b_isinstance (by decide +kernel) (pa_cons (pv 0) (pa_cons (pe_bltn (v := .ty "tuple") (by rfl) T.b_tuple (by decide +kernel) rfl) pa_nil))))
  (pss_cons (ps_if (PW.pt (pw_or (pt_not (pt_val (pe_g G_is_address (hr.mono (by decide)) (pa_cons (pv 1) pa_nil)))) (pw_or (pt_not (pt_val (pe_g G_is_address (hr.mono (by decide)) (pa_cons (pv 2) pa_nil)))) (pw_or1 (pt_cmpR op_eq (pv 1) (pv 2) (nomark _))))))
  (pss_one (ps_ret pe_bl))
  pss_nil)
  (pss_cons (ps_if (PW.pt (pw_or (pt_not (pt_val (pe_g G_is_integer (hr.mono (by decide)) (pa_cons (pv 4) (pa_cons pe_int (pa_cons (pe_gint T.c_MAX_DAY) pa_nil)))))) (pw_or1 (pt_not (pt_val (pe_g G_is_integer (hr.mono (by decide)) (pa_cons (pv 3) (pa_cons pe_int (pa_cons (pv 4) pa_nil)))))))))
  (pss_one (ps_ret pe_bl))
  pss_nil)
  (pss_one (ps_ret (pe_g G_is_integer (hr.mono (by decide)) (pa_cons (pv 5) (pa_cons pe_int (pa_cons (pe_gint T.c_MAX_WAY) pa_nil))))))))
  (pss_one (ps_ret pe_bl)))), ?_⟩
    rcases hv with ⟨a, xs, rfl, hq, hf, rfl⟩ | ⟨a, xs, rfl, hq, rfl⟩ | ⟨hn, rfl⟩
    · by_cases hl : xs.length = 5
      · obtain ⟨s, t, f, l, y, rfl⟩ : ∃ s t f l y, xs = [s, t, f, l, y] := by
          match xs, hl with
          | [s, t, f, l, y], _ => exact ⟨s, t, f, l, y, rfl⟩
        refine ⟨_, rfl, .inl ⟨a, _, rfl, .inl hq, .inl ⟨rfl, ?_⟩⟩⟩
        refine ⟨_, rfl, _, _, _, _, true, rfl, .ty "tuple", tyT hq, kt_tuple_tuple, true, rfl, iteT ?_⟩
        have hs := hf s (by simp)
        have ht := hf t (by simp)
        have hf1 := hf f (by simp)
        have hl1 := hf l (by simp)
        have hy := hf y (by simp)
        have no : isOrdB [s, t, f, l, y] = false → ∀ H', Same H H' → Q (.bl false) H' := fun e H' q => by
          have := k H' q
          rw [e] at this
          exact this
        have yes : isOrdB [s, t, f, l, y] = true → ∀ H', Same H H' → Q (.bl true) H' := fun e H' q => by
          have := k H' q
          rw [e] at this
          exact this
        refine ⟨_, rfl, s, rfl, hs.1, hs.2, fun H1 e1 => ⟨_, rfl, ?_⟩⟩
        cases h1 : isAddrB s with
        | false => exact iteT (iteT (no (by simp [isOrdB, h1]) H1 e1))
        | true =>
          refine iteF ?_
          refine ⟨_, rfl, t, rfl, ht.1, ht.2, fun H2 e2 => ⟨_, rfl, ?_⟩⟩
          have e12 := e1.trans e2
          cases h2 : isAddrB t with
          | false => exact iteT (iteT (no (by simp [isOrdB, h1, h2]) H2 e12))
          | true =>
            refine iteF ?_
            obtain ⟨zs, rfl⟩ : ∃ z, s = V.str z := by
              cases s with
              | str z => exact ⟨z, rfl⟩
              | _ => cases h1
            obtain ⟨zt, rfl⟩ : ∃ z, t = V.str z := by
              cases t with
              | str z => exact ⟨z, rfl⟩
              | _ => cases h2
            refine ⟨_, rfl, _, rfl, rfl, _, rfl, ?_⟩
            refine ite2 (fun h3 => no ?_ H2 e12) (fun h3 => ?_)
            · simp [isOrdB, of_decide_eq_true h3]
            have h3' : decide (V.str zs = V.str zt) = false := by simpa using h3
            refine ⟨_, rfl, l, _, _, rfl, hl1.1, _, rfl, ?_⟩
            cases h4 : isIntB l 0 1000000000000000000 with
            | false => exact iteT (iteT (no (by simp [isOrdB, h4]) H2 e12))
            | true =>
              refine iteF ?_
              obtain ⟨il, rfl⟩ : ∃ i, l = V.int i := by
                cases l with
                | int i => exact ⟨i, rfl⟩
                | _ => cases h4
              refine ⟨_, rfl, _, rfl, f, _, _, rfl, hf1.1, _, rfl, ?_⟩
              cases h5 : isIntB f 0 il with
              | false => exact iteT (no (by simp [isOrdB, h5]) H2 e12)
              | true =>
                refine iteF ?_
                refine ⟨_, rfl, y, _, _, rfl, hy.1, ?_⟩
                have e6 : isOrdB [V.str zs, V.str zt, f, V.int il, y] = isIntB y 1 30 := by
                  simp only [isOrdB, h1, h2, h3', h4, h5, Bool.not_false, Bool.true_and]
                rw [← e6]
                exact k H2 e12
      · have e : isOrdB xs = false := by
          unfold isOrdB
          split
          · exact absurd rfl hl
          · rfl
        refine ⟨_, rfl, .inl ⟨a, _, rfl, .inl hq, .inr ⟨hl, ?_⟩⟩⟩
        have := k H (Same.refl H)
        rw [e] at this
        exact this
    · by_cases hl : xs.length = 5
      · refine ⟨_, rfl, .inl ⟨a, _, rfl, .inr hq, .inl ⟨hl, ?_⟩⟩⟩
        match xs, hl with
        | [s, t, f, l, y], _ =>
          exact ⟨_, rfl, _, _, _, _, false, rfl, .ty "tuple", tyL hq, kt_list_tuple, false, rfl, iteF (k H (Same.refl H))⟩
      · exact ⟨_, rfl, .inl ⟨a, _, rfl, .inr hq, .inr ⟨hl, k H (Same.refl H)⟩⟩⟩
    · exact ⟨_, rfl, .inr ⟨hn, k H (Same.refl H)⟩⟩
def spCheckOk : Sp := fun vs H Q _ => ∃ z d, vs = [.str z, .int d] ∧ isAddrB (.str z) = true ∧ 0 ≤ d ∧ d ≤ 1000000000000000000 ∧ ∀ H', Same H H' → Q .non H'
theorem isAddr_short {z : Str} (h : isAddrB (.str z) = true) : z.length ≤ 8 := by
  simp only [isAddrB, Bool.and_eq_true, decide_eq_true_eq] at h
  exact h.1.2
end

end MF
set_option Elab.async false
set_option linter.all false
set_option maxRecDepth 100000
set_option maxHeartbeats 2000000
set_option pp.maxSteps 600
namespace MF
open PySem PySem.Spec PyProof.Rows L2 StX
section
variable {P : Program} {w : World} {K : PySem.W.Frag} {mg : Str → Option Value} {base : Heap} {C_Book C_MailError C_InvalidOrder C_UnknownOrder C_InvalidAddress C_InvalidDay C_InvalidNumber : Addr}
def spInitIn (K : PySem.W.Frag) (C : Addr) : Sp := fun vs H Q _ => ∃ x dx t as os, vs = [.ref x, .ref t] ∧ H x = some (.ins C dx []) ∧ SqT K H t (as.map V.ref) ∧ OrdsAt K H as os ∧ Good os ∧
  ∀ H', H' x = some (.ins C dx [("listed", .ref t)]) → (∀ b o, H b = some o → b ≠ x → H' b = some o) → Q .non H'
def spBookInit (K : PySem.W.Frag) (C : Addr) : Sp := fun vs H Q E => ∃ v rest, vs = v :: rest ∧ rest.length ≤ sizeLine ∧ ∀ p, H p = Option.none → spInitIn K C [v, V.ref p] (upd H p (.tup rest)) Q E
theorem isOrd_flat {o : Ordr} (h : o.Ok) : ∀ x ∈ o.vals, notSeq x = true ∧ shortV x := by
  intro x hx
  have ls : o.src.length ≤ sizeLine := Nat.le_trans (by have := h.as; simp only [isAddrB, Bool.and_eq_true, decide_eq_true_eq] at this; exact this.1.2) (by decide)
  have lt : o.tgt.length ≤ sizeLine := Nat.le_trans (by have := h.at_; simp only [isAddrB, Bool.and_eq_true, decide_eq_true_eq] at this; exact this.1.2) (by decide)
  simp only [Ordr.vals, List.mem_cons, List.not_mem_nil, or_false] at hx
  rcases hx with rfl | rfl | rfl | rfl | rfl
  · exact ⟨rfl, ls⟩
  · exact ⟨rfl, lt⟩
  · exact ⟨rfl, trivial⟩
  · exact ⟨rfl, trivial⟩
  · exact ⟨rfl, trivial⟩
theorem ok_Book (T : Top K mg C_Book C_MailError C_InvalidOrder C_UnknownOrder C_InvalidAddress C_InvalidDay C_InvalidNumber) : IFn P w K mg base CX0 3 C_Book "Book" (spBookInit K C_Book) := by
  have G_is_order : GFn P w K mg base CX0 2 "is_order" (spIsOrder K) := ok_is_order T
  have G_do_overlap : GFn P w K mg base CX0 1 "do_overlap" (spOverlap K) := ok_do_overlap T
  refine T.d_BookX_initX.fn0 (sp := spInitIn K C_Book) sc_BookX_initX fun f cdv A outer s H vs Q E hr h => ?_
  obtain ⟨x, dx, t, as, os, rfl, hx, ht, ho, g, k⟩ := h
  refine ⟨_, (pss_cons (ps_for PassesOwn.never rfl (pi_enumT (by rfl) T.b_enumerate (pa_cons (pv 1) pa_nil)) (pg_tup rfl (pgs_cons (pg_name (i := 2) sc_BookX_initX.nd rfl (Or.inl rfl)) (pgs_cons (pg_name (i := 3) sc_BookX_initX.nd rfl (Or.inl rfl)) pgs_nil)))
  (pss_cons (ps_if (PW.pt (pw_or (pt_cmpR op_eq (pv 2) (pe_gint T.c_MAX_ORDERS_books) (nomark _)) (pw_or1 (pt_not (pt_val (pe_g G_is_order (hr.mono (by decide)) (pa_cons (pv 3) pa_nil)))))))
  (pss_one ps_never)
  pss_nil)
  (pss_one (ps_for PassesOwn.never rfl (pi_tup (pe_slice sl_tup (pv 1) po_none (po_some (pv 2)))) (pg_name (i := 4) sc_BookX_initX.nd rfl (Or.inl rfl))
  (pss_one (ps_if (pt_val (pe_g G_do_overlap (hr.mono (by decide)) (pa_cons (pv 4) (pa_cons (pv 3) pa_nil))))
  (pss_one ps_never)
  pss_nil))))))
  (pss_one (ps_fld (pv 0) (pv 1) rfl))), ?_⟩
  have hl : as.length = os.length := PySem.Paired.length ho
  refine ⟨_, rfl, t, _, rfl, ht, for_it walk_enumT (fun i σ H' => Same H H' ∧ ∃ v2 v3 v4, σ = [some (.ref x), some (.ref t), v2, v3, v4]) ⟨Same.refl H, _, _, _, rfl⟩ (fun i σ H' _ ⟨s1, _⟩ => MF.Same.tup s1 ht) ?_ ?_⟩
  · rintro i y σ H1 H2 hi ⟨s1, v2, v3, v4, rfl⟩ ⟨p, z1, z2, rfl, hp, rfl, e1, e2⟩
    cases e1
    rw [List.length_map] at hi
    obtain ⟨a, ea⟩ : ∃ a, as[i]? = some a := ⟨as[i], by simp [hi]⟩
    replace e2 : (as.map V.ref)[i]? = some z2 := e2
    rw [List.getElem?_map, ea] at e2
    cases e2
    obtain ⟨o, eo, oa⟩ := Paired.get ho ea
    have s2 : Same H (upd H1 p (.tup [.int (i : Nat), .ref a])) := MF.Same.upd s1 hp
    have om : o ∈ os := List.mem_of_getElem? eo
    refine ⟨p, _, rfl, .inl (.inl upd_same), rfl, _, _, rfl, _, _, rfl, rfl, ?_⟩
    refine ⟨_, rfl, rfl, _, rfl, ?_⟩
    have hi30 : i < 30 := Nat.lt_of_lt_of_le (hl ▸ hi) g.len
    have ne30 : decide (V.int ((i : Nat) : Int) = V.int 30) = false := decide_eq_false fun q => by
      have := V.int.inj q
      omega
    rw [ne30]
    refine iteF ?_
    refine ⟨_, rfl, _, true, rfl, .inl ⟨a, _, rfl, oa.mono s2, isOrd_flat (g.ok o om), (g.ok o om).b.symm⟩, fun H3 s3 => ⟨_, rfl, iteF ?_⟩⟩
    have s13 := s2.trans s3
    have tt : SqT K H3 t (as.map V.ref) := MF.Same.tup s13 ht
    refine ⟨_, rfl, _, rfl, _, rfl, t, _, rfl, tt, ?_, fun p2 hp2 => ?_⟩
    · rw [HT.sIx_nat, List.length_map]
      omega
    rw [cut_take _ _ (by rw [List.length_map]; omega)]
    refine ⟨p2, rfl, ⟨_, .inl (.inl upd_same)⟩, for_it (walk_tup (xs := (as.map V.ref).take i)) (fun j σ H' => Same H H' ∧ SqT K H' p2 ((as.map V.ref).take i) ∧ ∃ v4, σ = [some (.ref x), some (.ref t), some (.int (i : Nat)), some (.ref a), v4]) ⟨MF.Same.upd s13 hp2, .inl (.inl upd_same), _, rfl⟩ (fun j σ H' _ ⟨_, q, _⟩ => q) ?_ ?_⟩
    · rintro j y σ H4 H5 hj ⟨s4, q4, v4', rfl⟩ ⟨rfl, ey⟩
      rw [List.length_take, List.length_map] at hj
      have hji : j < i := by omega
      obtain ⟨b, eb⟩ : ∃ b, as[j]? = some b := ⟨as[j]'(by omega), by simp [show j < as.length by omega]⟩
      rw [List.getElem?_take, if_pos hji, List.getElem?_map, eb] at ey
      cases ey
      obtain ⟨o', eo', ob⟩ := Paired.get ho eb
      refine ⟨_, rfl, _, rfl, b, a, o', o, rfl, ob.mono s4, oa.mono s4, ⟨_, rfl, ?_⟩⟩
      have hov : overB o' o = false := by
        have hj' : j < os.length := by omega
        have hi' : i < os.length := by omega
        have := List.pairwise_iff_getElem.mp g.apart j i hj' hi' hji
        rw [List.getElem?_eq_getElem hj'] at eo'
        rw [List.getElem?_eq_getElem hi'] at eo
        cases eo'
        cases eo
        exact this
      rw [hov]
      exact iteF ⟨s4, q4, _, rfl⟩
    · rintro σ H4 ⟨s4, _, v4', rfl⟩
      exact ⟨s4, _, _, _, rfl⟩
  · rintro σ H1 ⟨s1, v2, v3, v4, rfl⟩
    refine ⟨_, rfl, _, rfl, x, C_Book, dx, [], rfl, s1 _ _ hx, T.cl_Book, T.n_Book_listed, (by show 0 < 1000; decide), ?_⟩
    refine k _ upd_same fun b o e hb => ?_
    rw [upd_ne hb]
    exact s1 b o e
theorem book_made' {C : Addr} {H : Hp} {as : List Addr} {os : List Ordr} {R : VK} {E : XK} (h : OrdsAt K H as os) (g : Good os) {x dx : Addr} (hx : H x = none) (hdx : H dx = none) (ne : dx ≠ x) (k : ∀ H', Same H H' → BookAt K C H' x os → R .non H') :
    spBookInit K C (.ref x :: as.map V.ref) (upd (upd H dx (.own x)) x (.ins C dx [])) R E := by
  have hl : as.length = os.length := PySem.Paired.length h
  have s0 : Same H (upd (upd H dx (.own x)) x (.ins C dx [])) := fun b o e => by
    rw [upd_ne (ne_of_none e hx), upd_ne (ne_of_none e hdx)]
    exact e
  refine ⟨_, _, rfl, ?_, fun p hp => ?_⟩
  · rw [List.length_map, hl]
    exact Nat.le_trans g.len (by decide)
  have s1 := s0.trans (Same.new (o := .tup (as.map V.ref)) hp)
  have nxp : x ≠ p := fun q => by
    subst q
    rw [upd_same] at hp
    cases hp
  refine ⟨x, dx, p, as, os, rfl, by rw [upd_ne nxp, upd_same], .inl (.inl upd_same), h.mono s1, g, fun H' hx' kp => ?_⟩
  have s2 : Same H H' := fun b o e => kp b o (s1 b o e) (ne_of_none e hx)
  refine k H' s2 ⟨dx, p, as, hx', .inl (.inl (kp p _ upd_same nxp.symm)), h.mono s2⟩
theorem book_made {C : Addr} {H : Hp} {as : List Addr} {os : List Ordr} {Q : VK} {E : XK} (h : OrdsAt K H as os) (g : Good os) (k : ∀ H' p, Same H H' → H p = none → BookAt K C H' p os → Q (.ref p) H') :
    ∀ x dx, H x = none → H dx = none → dx ≠ x → spBookInit K C (.ref x :: as.map V.ref) (upd (upd H dx (.own x)) x (.ins C dx [])) (fun v H2 => v = .non ∧ Q (.ref x) H2) E := by
  intro x dx hx hdx ne
  exact book_made' h g hx hdx ne fun H' s b => ⟨rfl, k H' x s hx b⟩
def spBookOf (K : PySem.W.Frag) (C : Addr) : Sp := fun vs H Q _ => ∃ t as os, vs = [.ref t] ∧ (SqT K H t (as.map V.ref) ∨ SqL K H t (as.map V.ref)) ∧ OrdsAt K H as os ∧ Good os ∧ ∀ H' p, Same H H' → H p = none → BookAt K C H' p os → Q (.ref p) H'
theorem ok_book_of (T : Top K mg C_Book C_MailError C_InvalidOrder C_UnknownOrder C_InvalidAddress C_InvalidDay C_InvalidNumber) : GFn P w K mg base CX0 5 "book_of" (spBookOf K C_Book) := by
  have G_Book : IFn P w K mg base CX0 3 C_Book "Book" (spBookInit K C_Book) := ok_Book T
  refine T.d_book_of.fn fun f fd F => F.ok sc_book_of (fun vs H Q E h => ?_) (fun cdv A outer s H vs Q E hr h => ?_)
  · obtain ⟨t, as, os, rfl, _⟩ := h
    rfl
  · obtain ⟨t, as, os, rfl, ht, ho, g, k⟩ := h
    refine ⟨_, (pss_one (ps_ret (pe_mkS G_Book (hr.mono (by decide)) pass0 (pv 0)))), ?_⟩
    refine ⟨_, rfl, t, _, rfl, ht, ?_⟩
    show ∀ x dx, H x = none → H dx = none → dx ≠ x → spBookInit K C_Book (.ref x :: (as.map V.ref ++ [])) _ _ _
    rw [List.append_nil]
    exact book_made ho g k
def spBookAdd (K : PySem.W.Frag) (C : Addr) : Sp := fun vs H Q _ => ∃ a b os ps, vs = [.ref a, .ref b] ∧ BookAt K C H a os ∧ BookAt K C H b ps ∧ Good (os ++ ps) ∧ ∀ H' p, Same H H' → H p = none → BookAt K C H' p (os ++ ps) → Q (.ref p) H'
theorem ok_Book_add (T : Top K mg C_Book C_MailError C_InvalidOrder C_UnknownOrder C_InvalidAddress C_InvalidDay C_InvalidNumber) : MFn P w K mg base CX0 6 C_Book "__add__" (spBookAdd K C_Book) := by
  have G_book_of : GFn P w K mg base CX0 5 "book_of" (spBookOf K C_Book) := ok_book_of T
  refine T.d_BookX_addX.fn fun f fd F => F.ok sc_BookX_addX (fun vs H Q E h => ?_) (fun cdv A outer s H vs Q E hr h => ?_)
  · obtain ⟨a, b, os, ps, rfl, _⟩ := h
    rfl
  · obtain ⟨a, b, os, ps, rfl, ⟨dx, t, as, h1, h2, h3⟩, ⟨dy, u, bs, h4, h5, h6⟩, g, k⟩ := h
    refine ⟨_, (pss_one (ps_ret (pe_g G_book_of (hr.mono (by decide)) (pa_cons (pe_op op_catA (pe_fld (pv 0) rfl) (pe_fld (pv 1) rfl)) pa_nil)))), ?_⟩
    have la : as.length = os.length := PySem.Paired.length h3
    have lb : bs.length = ps.length := PySem.Paired.length h6
    refine ⟨_, rfl, a, C_Book, dx, _, _, rfl, h1, T.cl_Book, T.n_Book_listed, rfl, _, rfl, b, C_Book, dy, _, _, rfl, h4, T.cl_Book, T.n_Book_listed, rfl, t, u, _, _, rfl, rfl, h2, h5, ?_, fun e => ?_, fun _ e => ?_, fun _ _ p hp => ?_⟩
    · rw [List.length_map, List.length_map, la, lb, ← List.length_append]
      exact Nat.le_trans g.len (by decide)
    · have : os = [] := List.eq_nil_of_length_eq_zero (by rw [← la]; simpa using e)
      subst this
      exact ⟨u, bs, ps, rfl, .inl h5, h6, g, k⟩
    · have : ps = [] := List.eq_nil_of_length_eq_zero (by rw [← lb]; simpa using e)
      subst this
      rw [List.append_nil] at g k
      exact ⟨t, as, os, rfl, .inl h2, h3, g, k⟩
    · have s1 := Same.new (o := .tup (as.map V.ref ++ bs.map V.ref)) hp
      refine ⟨p, as ++ bs, os ++ ps, rfl, .inl ?_, Paired.append (OrdsAt.mono h3 s1) (OrdsAt.mono h6 s1), g, fun H' q e1 e2 e3 => k H' q (s1.trans e1) (s1.free e2) e3⟩
      rw [List.map_append]
      exact .inl (.inl upd_same)
end

end MF
set_option Elab.async false
set_option linter.all false
set_option maxRecDepth 100000
set_option maxHeartbeats 2000000
set_option pp.maxSteps 600
namespace MF
open PySem PySem.Spec PyProof.Rows L2 StX
section
variable {P : Program} {w : World} {K : PySem.W.Frag} {mg : Str → Option Value} {base : Heap} {C_Book C_MailError C_InvalidOrder C_UnknownOrder C_InvalidAddress C_InvalidDay C_InvalidNumber : Addr}
def optI : Option Nat → V
  | none => .non
  | some i => .int (i : Nat)
def optZ : Option Int → V
  | none => .non
  | some i => .int i
def spOrderFor (K : PySem.W.Frag) (C : Addr) : Sp := fun vs H Q _ => ∃ p os z d, vs = [.ref p, .str z, .int d] ∧ BookAt K C H p os ∧ ∀ H', Same H H' → Q (optI (ordFor os z d)) H'
end

end MF
set_option Elab.async false
set_option linter.all false
set_option maxRecDepth 100000
set_option maxHeartbeats 2000000
set_option pp.maxSteps 600
namespace MF
open PySem PySem.Spec PyProof.Rows L2 StX
section
variable {P : Program} {w : World} {K : PySem.W.Frag} {mg : Str → Option Value} {base : Heap} {C_Book C_MailError C_InvalidOrder C_UnknownOrder C_InvalidAddress C_InvalidDay C_InvalidNumber : Addr}
theorem changes_append (d : Int) : ∀ a b : List Ordr, changes (a ++ b) d = changes a d ++ changes b d
  | [], b => rfl
  | o :: a, b => by
    show ([o.first, o.last + 1].filter fun c => decide (d < c)) ++ changes (a ++ b) d = (([o.first, o.last + 1].filter fun c => decide (d < c)) ++ changes a d) ++ changes b d
    rw [changes_append d a b, List.append_assoc]
theorem changes_len (d : Int) : ∀ a : List Ordr, (changes a d).length ≤ 2 * a.length
  | [] => Nat.zero_le _
  | o :: a => by
    unfold changes
    have h1 := List.length_filter_le (fun c => decide (d < c)) [o.first, o.last + 1]
    have h2 := changes_len d a
    rw [List.length_append, List.length_cons]
    simp only [List.length_cons, List.length_nil] at h1
    omega
theorem DpAll.ints {H : Hp} : ∀ ns : List Int, DpAll K H (ns.map V.int) (ns.map PyData.int)
  | [] => .nil
  | n :: ns => .cons (.int n) (DpAll.ints ns)
def spNextChange (K : PySem.W.Frag) (C : Addr) : Sp := fun vs H Q _ => ∃ p os d, vs = [.ref p, .int d] ∧ BookAt K C H p os ∧ os.length ≤ 30 ∧ ∀ H', Same H H' → Q (optZ (nextCh os d)) H'
def tupl : HO → Bool
  | .tup _ => true
  | .frz _ (.tup _) => true
  | _ => false
theorem BookAt.kept {C : Addr} {H H' : Hp} {p : Addr} {os : List Ordr} (h : BookAt K C H p os) (hp : ∀ u, H p = some u → H' p = some u) (ht : ∀ b u, H b = some u → tupl u = true → H' b = some u) : BookAt K C H' p os := by
  obtain ⟨dx, t, as, h1, h2, h3⟩ := h
  have tp : ∀ a xs, SqT K H a xs → SqT K H' a xs := fun a xs z => by
    rcases z with (z | ⟨u, z⟩) | z
    · exact .inl (.inl (ht _ _ z rfl))
    · exact .inl (.inr ⟨u, ht _ _ z rfl⟩)
    · exact .inr z
  exact ⟨dx, t, as, hp _ h1, tp _ _ h2, PySem.Paired.mono (fun a o z => tp a _ z) h3⟩
end

end MF
set_option Elab.async false
set_option linter.all false
set_option maxRecDepth 100000
set_option maxHeartbeats 2000000
set_option pp.maxSteps 600
namespace MF
open PySem PySem.Spec PyProof.Rows L2 StX
section
variable {P : Program} {w : World} {K : PySem.W.Frag} {mg : Str → Option Value} {base : Heap} {C_Book C_MailError C_InvalidOrder C_UnknownOrder C_InvalidAddress C_InvalidDay C_InvalidNumber : Addr}
def ScAt (K : PySem.W.Frag) (H : Hp) (rw sc : Addr) (xs : List V) : Prop := (Rd H sc (.lst xs) ∧ sc ≠ rw) ∨
    ∃ (o : Obj) (its : Array Value) (n : Nat), K.lookup sc = some o ∧ o.cls = .type "list" ∧ o.dict = none ∧ o.data = .seq its n ∧ its.size ≤ sizeLine ∧ Vals xs its.toList
theorem ScAt.sq {H : Hp} {rw sc : Addr} {xs : List V} (h : ScAt K H rw sc xs) : SqL K H sc xs := by
  rcases h with ⟨h, _⟩ | h
  · exact .inl h
  · exact .inr h
theorem ScAt.keep {H H' : Hp} {rw sc : Addr} {xs : List V} (h : ScAt K H rw sc xs) (k : ∀ b u, H b = some u → b ≠ rw → H' b = some u) : ScAt K H' rw sc xs := by
  rcases h with ⟨h | ⟨o, h⟩, n⟩ | h
  · exact .inl ⟨.inl (k _ _ h n), n⟩
  · exact .inl ⟨.inr ⟨o, k _ _ h n⟩, n⟩
  · exact .inr h
def RowAt (K : PySem.W.Frag) (H : Hp) (rw sc : Addr) (ns : List Int) : Prop := ∃ j : Nat, ∃ m r, H rw = some (.lst [.ref sc, .int (j : Nat), .int m, .int r]) ∧ ScAt K H rw sc (ns.map V.int) ∧ 0 ≤ m ∧ m < 2147483647
theorem RowAt.keep {H H' : Hp} {rw sc : Addr} {ns : List Int} (h : RowAt K H rw sc ns) (s : Same H H') : RowAt K H' rw sc ns := by
  obtain ⟨j, m, r, h1, h2, h3⟩ := h
  exact ⟨j, m, r, s _ _ h1, h2.keep fun b u e _ => s _ _ e, h3⟩
theorem ScAt.of0 {H H' : Hp} {rw sc : Addr} {xs : List V} (h : SqL K H sc xs) (s : Same H H') (n : H rw = none) : ScAt K H' rw sc xs := by
  rcases h with (z | ⟨o, z⟩) | z
  · exact .inl ⟨.inl (s _ _ z), ne_of_none z n⟩
  · exact .inl ⟨.inr ⟨o, s _ _ z⟩, ne_of_none z n⟩
  · exact .inr z
theorem RowAt.other {H0 H H' : Hp} {rw sc : Addr} {ns : List Int} (h : RowAt K H rw sc ns) (h0 : SqL K H0 sc (ns.map V.int)) (n : H0 rw = none) (s : Same H0 H') (e : ∀ u, H rw = some u → H' rw = some u) : RowAt K H' rw sc ns := by
  obtain ⟨j, m, r, h1, h2, h3⟩ := h
  exact ⟨j, m, r, e _ h1, .of0 h0 s n, h3⟩
def spTaken (K : PySem.W.Frag) : Sp := fun vs H Q _ => ∃ rw sc ns many, vs = [.ref rw, .int many] ∧ RowAt K H rw sc ns ∧ 0 < many ∧ many < 1000000000000000000 ∧
  ∀ v H', 0 ≤ v → v < many → RowAt K H' rw sc ns → (∀ b u, H b = some u → b ≠ rw → H' b = some u) → Q (.int v) H'
theorem pow18 : (10 : Int) ^ (18 : Int).toNat = 1000000000000000000 := by decide
theorem ok_taken (T : Top K mg C_Book C_MailError C_InvalidOrder C_UnknownOrder C_InvalidAddress C_InvalidDay C_InvalidNumber) : GFn P w K mg base CX0 1 "_law_taken" (spTaken K) := by
  refine T.d__law_taken.fn fun f fd F => F.ok sc__law_taken (fun vs H Q E h => ?_) (fun cdv A outer s H vs Q E hr h => ?_)
  · obtain ⟨rw, sc, ns, many, rfl, _⟩ := h
    rfl
  · obtain ⟨rw', sc, ns, many, rfl, ⟨j, m, r, h1, h2, m0, m1⟩, p0, p1, k⟩ := h
    refine ⟨_, (pss_cons (ps_if (pt_cmpR op_gt (pe_ix ix_list (pv 0) pe_int (fun _ _ => rfl)) pe_int (nomark _))
  (pss_cons (ps_set (i := 2) sc__law_taken.nd rfl (Or.inl rfl) (pe_op op_mod (pe_callTy call_int1 (by rfl) T.b_int (by decide +kernel) (pa_cons (pe_ix ix_list (pv 0) pe_int (fun _ _ => rfl)) pa_nil)) (pv 1)))
  (pss_cons (ps_asg (pe_op op_fdivW (pe_ix ix_list (pv 0) pe_int (fun _ _ => rfl)) (pv 1)) (pg_sub (pv 0) pe_int set_list))
  (pss_one (ps_ret (pv 2)))))
  pss_nil)
  (pss_cons (ps_asg (pe_op op_add (pe_ix ix_list (pv 0) pe_int (fun _ _ => rfl)) pe_int) (pg_sub (pv 0) pe_int set_list))
  (pss_cons (ps_if (pt_cmpR op_gt (pe_ix ix_list (pv 0) pe_int (fun _ _ => rfl)) (pe_callB call_len_seq (by rfl) T.b_len (by decide +kernel) (pa_cons (pe_ix ix_list (pv 0) pe_int (fun _ _ => rfl)) pa_nil)) (nomark _))
  (pss_cons (ps_asg (pe_op op_mod (pe_callTy call_int1 (by rfl) T.b_int (by decide +kernel) (pa_cons (pe_op op_add (pe_op op_mul (pe_ix ix_list (pv 0) pe_int (fun _ _ => rfl)) pe_int) pe_int) pa_nil)) pe_int) (pg_sub (pv 0) pe_int set_list))
  (pss_one (ps_ret (pe_op op_mod (pe_callTy call_int1 (by rfl) T.b_int (by decide +kernel) (pa_cons (pe_op op_fdivW (pe_ix ix_list (pv 0) pe_int (fun _ _ => rfl)) pe_int) pa_nil)) (pv 1)))))
  pss_nil)
  (pss_cons (ps_set (i := 3) sc__law_taken.nd rfl (Or.inl rfl) (pe_ix ix_list (pe_ix ix_list (pv 0) pe_int (fun _ _ => rfl)) (pe_op op_sub (pe_ix ix_list (pv 0) pe_int (fun _ _ => rfl)) pe_int) (fun _ _ => rfl)))
  (pss_cons (ps_asg (pe_op op_mod (pe_callTy call_int1 (by rfl) T.b_int (by decide +kernel) (pa_cons (pe_op op_add (pe_op op_add (pe_op op_mul (pe_ix ix_list (pv 0) pe_int (fun _ _ => rfl)) pe_int) (pv 3)) pe_int) pa_nil)) pe_int) (pg_sub (pv 0) pe_int set_list))
  (pss_cons (ps_if (pt_cmpR op_ge (pv 3) (pe_op op_pow pe_int pe_int) (nomark _))
  (pss_one (ps_asg (pe_op op_fdivW (pv 3) (pv 1)) (pg_sub (pv 0) pe_int set_list)))
  pss_nil)
  (pss_one (ps_ret (pe_op op_mod (pe_callTy call_int1 (by rfl) T.b_int (by decide +kernel) (pa_cons (pv 3) pa_nil)) (pv 1)))))))))), ?_⟩
    have S1 := SqL.of (K := K) h1
    have dv : CDivW 0 many := ⟨p0, by
      have : many.natAbs < 2 ^ 60 := by omega
      have := (Nat.log2_lt (n := many.natAbs) (k := 60) (by omega)).mpr this
      omega⟩
    have mod0 : ∀ x : Int, 0 ≤ x % many ∧ x % many < many := fun x => ⟨Int.emod_nonneg _ (by omega), Int.emod_lt_of_pos _ p0⟩
    have fr : ∀ (o : HO) b u, H b = some u → b ≠ rw' → upd H rw' o b = some u := fun o b u e nb => by rw [upd_ne nb]; exact e
    refine ⟨_, rfl, rw', _, _, _, rfl, rfl, S1, rfl, _, _, rfl, rfl, _, rfl, ?_⟩
    refine ite2 (fun c1 => ?_) (fun c1 => ?_)
    · refine ⟨_, rfl, rw', _, _, _, rfl, rfl, S1, rfl, .inl ⟨_, rfl, _, rfl, _, _, rfl, rfl, p0, ?_⟩⟩
      refine ⟨_, rfl, rw', _, _, _, rfl, rfl, S1, rfl, _, rfl, _, _, rfl, rfl, dv, _, rfl, rw', _, _, 3, rfl, rfl, h1, rfl, ?_⟩
      refine ⟨_, rfl, k _ _ (mod0 r).1 (mod0 r).2 ?_ (fr _)⟩
      exact ⟨j, m, r / many, upd_same, h2.keep (fr _), m0, m1⟩
    · -- _law_row[1] = _law_row[1] + 1
      refine ⟨_, rfl, rw', _, _, _, rfl, rfl, S1, rfl, _, _, rfl, rfl, _, rfl, rw', _, _, 1, rfl, rfl, h1, rfl, ?_⟩
      have h1' : upd H rw' (.lst ([.ref sc, .int (j : Nat), .int m, .int r].set 1 (.int ((j : Nat) + 1)))) rw' = some (.lst [.ref sc, .int ((j : Nat) + 1), .int m, .int r]) := upd_same
      have h2' := h2.keep (H' := upd H rw' (.lst ([.ref sc, .int (j : Nat), .int m, .int r].set 1 (.int ((j : Nat) + 1))))) (fr _)
      have fr1 := fr (.lst ([.ref sc, .int (j : Nat), .int m, .int r].set 1 (.int ((j : Nat) + 1))))
      generalize upd H rw' _ = H1 at h1' h2' fr1
      have S2 := SqL.of (K := K) h1'
      have fr2 : ∀ (o : HO) b u, H b = some u → b ≠ rw' → upd H1 rw' o b = some u := fun o b u e nb => by rw [upd_ne nb]; exact fr1 b u e nb
      have fr3 : ∀ (o : HO) b u, H1 b = some u → b ≠ rw' → upd H1 rw' o b = some u := fun o b u e nb => by rw [upd_ne nb]; exact e
      have modm : ∀ x : Int, 0 ≤ x % 2147483647 ∧ x % 2147483647 < 2147483647 := fun x => ⟨Int.emod_nonneg _ (by omega), Int.emod_lt_of_pos _ (by omega)⟩
      refine ⟨_, rfl, rw', _, _, _, rfl, rfl, S2, rfl, _, rfl, rw', _, _, _, rfl, rfl, S2, rfl, sc, _, rfl, .inl h2'.sq, _, _, rfl, rfl, _, rfl, ?_⟩
      refine ite2 (fun c2 => ?_) (fun c2 => ?_)
      · -- behind the script's end
        refine ⟨_, rfl, rw', _, _, _, rfl, rfl, S2, rfl, _, _, rfl, rfl, .inl ⟨by omega, by omega⟩, _, _, rfl, rfl, .inl ⟨_, rfl, _, _, rfl, rfl, (by show (0 : Int) < 2147483647; decide), _, rfl, rw', _, _, 2, rfl, rfl, h1', rfl, ?_⟩⟩
        refine ⟨_, rfl, rw', _, _, _, rfl, rfl, SqL.of upd_same, rfl, _, _, rfl, rfl, ⟨by decide, by decide⟩, .inl ⟨_, rfl, _, rfl, _, _, rfl, rfl, p0, ?_⟩⟩
        exact k _ _ (mod0 _).1 (mod0 _).2 ⟨j + 1, _, r, upd_same, h2'.keep (fr3 _), (modm _).1, (modm _).2⟩ (fr2 _)
      · have c2' : ¬ ((ns.map V.int).length : Int) < (j : Int) + 1 := fun z => c2 (decide_eq_true z)
        rw [List.length_map] at c2'
        have hj : j < ns.length := by omega
        have at1 : atI (ns.map V.int) ((j : Int) + 1 - 1) = some (V.int ns[j]) := by
          have : (j : Int) + 1 - 1 = (j : Int) := by omega
          rw [this]
          exact atI_nat (by simp [hj])
        refine ⟨_, rfl, rw', _, _, _, rfl, rfl, S2, rfl, _, rfl, rw', _, _, _, rfl, rfl, S2, rfl, _, _, rfl, rfl, sc, _, _, _, rfl, rfl, h2'.sq, at1, ?_⟩
        generalize ns[j] = cell
        refine ⟨_, rfl, rw', _, _, _, rfl, rfl, S2, rfl, _, _, rfl, rfl, .inl ⟨by omega, by omega⟩, _, rfl, _, _, rfl, rfl, _, _, rfl, rfl, .inl ⟨_, rfl, _, _, rfl, rfl, (by show (0 : Int) < 2147483647; decide), _, rfl, rw', _, _, 2, rfl, rfl, h1', rfl, ?_⟩⟩
        refine ⟨_, rfl, _, _, rfl, rfl, ⟨by decide, by decide, by decide⟩, _, _, rfl, rfl, _, rfl, ?_⟩
        refine ite2 (fun c3 => ?_) (fun c3 => ?_)
        · refine ⟨_, rfl, _, rfl, _, _, rfl, rfl, dv, _, rfl, rw', _, _, 3, rfl, rfl, upd_same, rfl, ?_⟩
          rw [upd_upd]
          refine ⟨_, rfl, .inl ⟨_, rfl, _, rfl, _, _, rfl, rfl, p0, ?_⟩⟩
          exact k _ _ (mod0 _).1 (mod0 _).2 ⟨j + 1, _, _, upd_same, h2'.keep (fr3 _), (modm _).1, (modm _).2⟩ (fr2 _)
        · refine ⟨_, rfl, .inl ⟨_, rfl, _, rfl, _, _, rfl, rfl, p0, ?_⟩⟩
          exact k _ _ (mod0 _).1 (mod0 _).2 ⟨j + 1, _, r, upd_same, h2'.keep (fr3 _), (modm _).1, (modm _).2⟩ (fr2 _)
end

end MF
set_option Elab.async false
set_option linter.all false
set_option maxRecDepth 100000
set_option maxHeartbeats 2000000
set_option pp.maxSteps 600
namespace MF
open PySem PySem.Spec PyProof.Rows L2 StX
section
variable {P : Program} {w : World} {K : PySem.W.Frag} {mg : Str → Option Value} {base : Heap} {C_Book C_MailError C_InvalidOrder C_UnknownOrder C_InvalidAddress C_InvalidDay C_InvalidNumber : Addr}
theorem Good.take {os : List Ordr} (g : Good os) (i : Nat) : Good (os.take i) :=
  ⟨by have := g.len; rw [List.length_take]; omega, fun o ho => g.ok o (List.mem_of_mem_take ho), g.apart.sublist (List.take_sublist _ _)⟩
theorem Good.one {o : Ordr} (h : o.Ok) : Good [o] := ⟨by show 1 ≤ 30; decide, fun p hp => by rw [List.mem_singleton.mp hp]; exact h, by simp⟩
theorem Good.nil : Good [] := ⟨Nat.zero_le _, (fun p hp => by cases hp), List.Pairwise.nil⟩
def spLawBook (K : PySem.W.Frag) (C : Addr) : Sp := fun vs H Q _ => ∃ l as os, vs = [.ref l] ∧ SqL K H l (as.map V.ref) ∧ OrdsAt K H as os ∧ Good os ∧ ∀ H' p, Same H H' → H p = none → BookAt K C H' p os → Q (.ref p) H'
theorem ok_law_book (T : Top K mg C_Book C_MailError C_InvalidOrder C_UnknownOrder C_InvalidAddress C_InvalidDay C_InvalidNumber) (sf : PySem.W.selfFirst K C_Book = true) : GFn P w K mg base CX0 7 "_law_book" (spLawBook K C_Book) := by
  have G_Book : IFn P w K mg base CX0 3 C_Book "Book" (spBookInit K C_Book) := ok_Book T
  obtain ⟨fa, Fa, Ma⟩ := (ok_Book_add (P := P) (w := w) (base := base) T).ex
  refine T.d__law_book.fn fun f fd F => F.ok sc__law_book (fun vs H Q E h => ?_) (fun cdv A outer s H vs Q E hr h => ?_)
  · obtain ⟨l, as, os, rfl, _⟩ := h
    rfl
  · obtain ⟨l, as, os, rfl, hl, ho, g, k⟩ := h
    refine ⟨_, (pss_cons (ps_set (i := 1) sc__law_book.nd rfl (Or.inl rfl) (pe_mk0X G_Book (hr.mono (by decide)) pass0))
  (pss_cons (ps_for PassesOwn.never rfl (pi_list (pv 0)) (pg_name (i := 2) sc__law_book.nd rfl (Or.inl rfl))
  (pss_one (ps_set (i := 1) sc__law_book.nd rfl (Or.inl rfl) (pe_op (op_ownR sf Ma Fa (hr.mono (by decide)) pass0) (pv 1) (pe_mkX G_Book (hr.mono (by decide)) pass0 (pa_cons (pv 2) pa_nil))))))
  (pss_one (ps_ret (pv 1))))), ?_⟩
    have la : as.length = os.length := PySem.Paired.length ho
    intro x0 dx0 hx0 hdx0 ne0
    refine book_made' (as := []) (os := []) .nil Good.nil hx0 hdx0 ne0 (fun H1 s1 B1 => ⟨rfl, ?_⟩)
    refine ⟨_, rfl, l, rfl, ⟨_, s1.seq hl⟩, for_it (walk_list (xs := as.map V.ref)) (fun i σ H' => Same H H' ∧ ∃ p v2, σ = [some (.ref l), some (.ref p), v2] ∧ H p = none ∧ BookAt K C_Book H' p (os.take i)) ⟨s1, x0, _, rfl, hx0, B1⟩ (fun i σ H' _ ⟨s2, _⟩ => s2.seq hl) ?_ ?_⟩
    · rintro i y σ H2 H3 hi ⟨s2, p, v2, rfl, fp, B2⟩ ⟨rfl, ey⟩
      rw [List.length_map] at hi
      obtain ⟨a, ea⟩ : ∃ a, as[i]? = some a := ⟨as[i], by simp [hi]⟩
      rw [List.getElem?_map, ea] at ey
      cases ey
      obtain ⟨o, eo, oa⟩ := Paired.get ho ea
      have om : o ∈ os := List.mem_of_getElem? eo
      have et : os.take (i + 1) = os.take i ++ [o] := by rw [List.take_add_one, eo]; rfl
      refine ⟨_, rfl, _, rfl, ?_⟩
      have oa3 : OrdsAt K H3 [a] [o] := .cons (oa.mono s2) .nil
      intro p4 dx4 hp4 hdx4 ne4
      refine book_made' (as := [a]) (os := [o]) oa3 (Good.one (g.ok o om)) hp4 hdx4 ne4 (fun H4 s4 B4 => ⟨rfl, ?_⟩)
      obtain ⟨dx, t, bs, b1, b2, b3⟩ := id (B2.mono s4)
      obtain ⟨dy, u, cs, c1, c2, c3⟩ := id B4
      refine ⟨p, p4, dx, dy, _, _, rfl, rfl, b1, c1, p, p4, os.take i, [o], rfl, B2.mono s4, B4, by rw [← et]; exact g.take _, fun H5 p5 s5 f5 B5 => ?_⟩
      have s25 := (s2.trans s4).trans s5
      exact ⟨s25, p5, _, rfl, (s2.trans s4).free f5, by rw [et]; exact B5⟩
    · rintro σ H2 ⟨s2, p, v2, rfl, fp, B2⟩
      rw [List.length_map, la, List.take_length] at B2
      exact ⟨_, rfl, k H2 p s2 fp B2⟩
end

end MF
set_option Elab.async false
set_option linter.all false
set_option maxRecDepth 100000
set_option maxHeartbeats 2000000
set_option pp.maxSteps 600
namespace MF
open PySem PySem.Spec PyProof.Rows L2 StX
section
variable {P : Program} {w : World} {K : PySem.W.Frag} {mg : Str → Option Value} {base : Heap} {C_Book C_MailError C_InvalidOrder C_UnknownOrder C_InvalidAddress C_InvalidDay C_InvalidNumber : Addr}
theorem kA_tuple : PySem.W.kitAny K (.type "tuple") [.type "tuple", .type "list"] = some true := kitAny_cons kt_tuple_tuple (fun z => by cases z) (fun _ => rfl)
theorem kA_list : PySem.W.kitAny K (.type "list") [.type "tuple", .type "list"] = some true := kitAny_cons kt_list_tuple (fun _ => kitAny_cons kt_list_list (fun z => by cases z) (fun _ => rfl)) (fun z => by cases z)
theorem kA_int : PySem.W.kitAny K (.type "int") [.type "tuple", .type "list"] = some false := kitAny_cons kt_int_tuple (fun _ => kitAny_cons kt_int_list (fun _ => kitAny_nil) (fun z => by cases z)) (fun z => by cases z)
theorem kA_bool : PySem.W.kitAny K (.type "bool") [.type "tuple", .type "list"] = some false := kitAny_cons kt_bool_tuple (fun _ => kitAny_cons kt_bool_list (fun _ => kitAny_nil) (fun z => by cases z)) (fun z => by cases z)
theorem kA_str : PySem.W.kitAny K (.type "str") [.type "tuple", .type "list"] = some false := kitAny_cons kt_str_tuple (fun _ => kitAny_cons kt_str_list (fun _ => kitAny_nil) (fun z => by cases z)) (fun z => by cases z)
theorem kA_none : PySem.W.kitAny K (.type "NoneType") [.type "tuple", .type "list"] = some false := kitAny_cons kt_NoneType_tuple (fun _ => kitAny_cons kt_NoneType_list (fun _ => kitAny_nil) (fun z => by cases z)) (fun z => by cases z)
theorem canLay_mem {d : PyData} : ∀ {ds : List PyData}, PyData.canLayAll0 ds = true → d ∈ ds → d.canLay0 = true
  | [], _, h => by cases h
  | e :: ds, c, h => by
    simp only [PyData.canLayAll0, Bool.and_eq_true] at c
    rcases List.mem_cons.mp h with rfl | h
    · exact c.1
    · exact canLay_mem c.2 h
theorem depth_mem {d : PyData} : ∀ {ds : List PyData}, d ∈ ds → d.depth ≤ PyData.depthAll ds
  | [], h => by cases h
  | e :: ds, h => by
    rw [PyData.depthAll]
    rcases List.mem_cons.mp h with rfl | h
    · exact Nat.le_max_left _ _
    · exact Nat.le_trans (depth_mem h) (Nat.le_max_right _ _)
theorem DpAll.get {H : Hp} : ∀ {xs : List V} {ds : List PyData} {i : Nat} {x : V}, DpAll K H xs ds → xs[i]? = some x → ∃ d, ds[i]? = some d ∧ Dp K H x d
  | _, _, _, _, .nil, e => by simp at e
  | _, _, 0, _, .cons h _, e => by simp at e; subst e; exact ⟨_, rfl, h⟩
  | _, _, i + 1, _, .cons _ t, e => by
    obtain ⟨d, h1, h2⟩ := DpAll.get (i := i) t (by simpa using e)
    exact ⟨d, by simpa using h1, h2⟩
theorem DpAll.len {H : Hp} : ∀ {xs : List V} {ds : List PyData}, DpAll K H xs ds → xs.length = ds.length
  | _, _, .nil => rfl
  | _, _, .cons _ t => by simp [DpAll.len t]
mutual
theorem Dp.mono {H H' : Hp} (s : Same H H') : ∀ {x : V} {d : PyData}, Dp K H x d → Dp K H' x d
  | _, _, .non => .non
  | _, _, .bl b => .bl b
  | _, _, .int i => .int i
  | _, _, .str x => .str x
  | _, _, .lst h a => .lst (s.seq h) (DpAll.mono s a)
  | _, _, .tup h a => .tup (MF.Same.tup s h) (DpAll.mono s a)
theorem DpAll.mono {H H' : Hp} (s : Same H H') : ∀ {xs : List V} {ds : List PyData}, DpAll K H xs ds → DpAll K H' xs ds
  | _, _, .nil => .nil
  | _, _, .cons h t => .cons (Dp.mono s h) (DpAll.mono s t)
end
mutual
def smallD : PyData → Bool
  | .list ds | .tuple ds => decide (ds.length ≤ 1000000) && smallAll ds
  | .none | .bool _ | .int _ | .str _ => true
  | .dict _ => false
def smallAll : List PyData → Bool
  | [] => true
  | d :: ds => smallD d && smallAll ds
end
theorem small_mem {d : PyData} : ∀ {ds : List PyData}, smallAll ds = true → d ∈ ds → smallD d = true
  | [], _, h => by cases h
  | e :: ds, c, h => by
    simp only [smallAll, Bool.and_eq_true] at c
    rcases List.mem_cons.mp h with rfl | h
    · exact c.1
    · exact small_mem c.2 h
def spAlike (K : PySem.W.Frag) (n : Nat) : Sp := fun vs H Q _ => ∃ x y d, vs = [x, y] ∧ Dp K H x d ∧ Dp K H y d ∧ d.canLay0 = true ∧ d.depth ≤ n ∧ smallD d = true ∧ ∀ H', Same H H' → Q (.bl true) H'
def SeqAt' (K : PySem.W.Frag) (H : Hp) (a : Addr) (tp : Bool) (xs : List V) : Prop := if tp = true then SqT K H a xs else SqL K H a xs
theorem SeqAt'.mono {H H' : Hp} {a : Addr} {tp : Bool} {xs : List V} (s : Same H H') (h : SeqAt' K H a tp xs) : SeqAt' K H' a tp xs := by
  cases tp
  · exact s.seq h
  · exact MF.Same.tup s h
theorem SeqAt'.ty {H : Hp} {a : Addr} {tp : Bool} {xs : List V} (h : SeqAt' K H a tp xs) : TyX K H (.ref a) (.type (if tp = true then "tuple" else "list")) := by
  cases tp
  · exact tyL h
  · exact tyT h
theorem SeqAt'.ix {H : Hp} {a : Addr} {tp : Bool} {xs : List V} {i : Nat} {v : V} {Q : VK} (h : SeqAt' K H a tp xs) (e : xs[i]? = some v) (q : Q v H) : rIx K (.ref a) (.int (0 + (i : Int))) H Q := by
  rw [Int.zero_add]
  cases tp
  · exact .inl ⟨a, xs, _, v, rfl, rfl, h, atI_nat e, q⟩
  · exact .inr (.inl ⟨a, xs, _, v, rfl, rfl, h, atI_nat e, q⟩)
theorem SeqAt'.len {H : Hp} {a : Addr} {tp : Bool} {xs : List V} (h : SeqAt' K H a tp xs) : SqL K H a xs ∨ SqT K H a xs := by
  cases tp
  · exact .inl h
  · exact .inr h
theorem kA_seq (tp : Bool) : PySem.W.kitAny K (.type (if tp = true then "tuple" else "list")) [.type "tuple", .type "list"] = some true := by
  cases tp
  · exact kA_list
  · exact kA_tuple
theorem kt_seq (tp : Bool) : PySem.W.kitOne K (.type (if tp = true then "tuple" else "list")) (.type "tuple") = some tp := by
  cases tp
  · exact kt_list_tuple
  · exact kt_tuple_tuple
def spAl (K : PySem.W.Frag) : Nat → Sp
  | 0 => fun _ _ _ _ => False
  | m + 1 => spAlike K m
theorem alike_cases {H : Hp} {x y : V} {d : PyData} {n : Nat} (hx : Dp K H x d) (hy : Dp K H y d) (cl : d.canLay0 = true) (dp : d.depth ≤ n) (sm : smallD d = true) :
    (∃ T1 b, y = x ∧ (∀ H', TyX K H' x (.type T1)) ∧ PySem.W.kitAny K (.type T1) [.type "tuple", .type "list"] = some false ∧ scal x x = true ∧ PySem.W.kitOne K (.type T1) (.type "bool") = some b) ∨
    (∃ a a' tp xs ys ds, x = .ref a ∧ y = .ref a' ∧ SeqAt' K H a tp xs ∧ SeqAt' K H a' tp ys ∧ DpAll K H xs ds ∧ DpAll K H ys ds ∧ PyData.canLayAll0 ds = true ∧ PyData.depthAll ds + 1 ≤ n ∧ ds.length ≤ 1000000 ∧ smallAll ds = true) := by
  cases hx with
  | non => cases hy; exact .inl ⟨"NoneType", _, rfl, fun _ => .base .non, kA_none, rfl, kt_NoneType_bool⟩
  | bl b => cases hy; exact .inl ⟨"bool", _, rfl, fun _ => .base (.bl b), kA_bool, rfl, kt_bool_bool⟩
  | int i => cases hy; exact .inl ⟨"int", _, rfl, fun _ => .base (.int i), kA_int, rfl, kt_int_bool⟩
  | str z => cases hy; exact .inl ⟨"str", _, rfl, fun _ => .base (.str z), kA_str, rfl, kt_str_bool⟩
  | lst h1 a1 =>
    cases hy with
    | lst h2 a2 =>
      simp only [smallD, Bool.and_eq_true, decide_eq_true_eq] at sm
      exact .inr ⟨_, _, false, _, _, _, rfl, rfl, h1, h2, a1, a2, cl, dp, sm.1, sm.2⟩
  | tup h1 a1 =>
    cases hy with
    | tup h2 a2 =>
      simp only [smallD, Bool.and_eq_true, decide_eq_true_eq] at sm
      exact .inr ⟨_, _, true, _, _, _, rfl, rfl, h1, h2, a1, a2, cl, dp, sm.1, sm.2⟩
theorem alike_step (T : Top K mg C_Book C_MailError C_InvalidOrder C_UnknownOrder C_InvalidAddress C_InvalidDay C_InvalidNumber) (n : Nat) (G__law_alike : GFn P w K mg base CX0 n "_law_alike" (spAl K n)) : GFn P w K mg base CX0 (n + 1) "_law_alike" (spAlike K n) := by
  refine T.d__law_alike.fn fun f fd F => F.ok sc__law_alike (fun vs H Q E h => ?_) (fun cdv A outer s H vs Q E hr h => ?_)
  · obtain ⟨x, y, d, rfl, _⟩ := h
    rfl
  · obtain ⟨x, y, d, rfl, hx, hy, cl, dp, sm, k⟩ := h
    refine ⟨_, (pss_cons (ps_if (PW.pt (pw_and (pt_val (pe_callB call_isiT (by rfl) T.b_isinstance (by decide +kernel) (pa_cons (pv 0) (pa_cons (pe_tup (pa_cons (pe_bltn (v := .ty "tuple") (by rfl) T.b_tuple (by decide +kernel) rfl) (pa_cons (pe_bltn (v := .ty "list") (by rfl) T.b_list (by decide +kernel) rfl) pa_nil))) pa_nil)))) (pw_and1 (pt_val (pe_callB call_isiT (by rfl) T.b_isinstance (by decide +kernel) (pa_cons (pv 1) (pa_cons (pe_tup (pa_cons (pe_bltn (v := .ty "tuple") (by rfl) T.b_tuple (by decide +kernel) rfl) (pa_cons (pe_bltn (v := .ty "list") (by rfl) T.b_list (by decide +kernel) rfl) pa_nil))) pa_nil)))))))
  (pss_cons (ps_if (PW.pt (pw_or (pt_cmpR op_ne (pe_callB call_isi (by rfl) T.b_isinstance (by decide +kernel) (pa_cons (pv 0) (pa_cons (pe_bltn (v := .ty "tuple") (by rfl) T.b_tuple (by decide +kernel) rfl) pa_nil))) (pe_callB call_isi (by rfl) T.b_isinstance (by decide +kernel) (pa_cons (pv 1) (pa_cons (pe_bltn (v := .ty "tuple") (by rfl) T.b_tuple (by decide +kernel) rfl) pa_nil))) (nomark _)) (pw_or1 (pt_cmpR op_ne (pe_callB call_len_seq (by rfl) T.b_len (by decide +kernel) (pa_cons (pv 0) pa_nil)) (pe_callB call_len_seq (by rfl) T.b_len (by decide +kernel) (pa_cons (pv 1) pa_nil)) (nomark _)))))
  (pss_one (ps_ret pe_bl))
  pss_nil)
  (pss_one (ps_ret (pe_cmpR (op_eqD hr.units) (pe_lc (own := [("_law_k", 2)]) (g := (gName 2)) (by rfl) sc__law_alike.nd (pi_range1 (by rfl) T.b_range (pa_cons (pe_callB call_len_seq (by rfl) T.b_len (by decide +kernel) (pa_cons (pv 0) pa_nil)) pa_nil)) (blkOk_by (own := [("_law_k", 2)]) (N := ["_law_one", "_law_due", "_law_k"]) (sc := defScope s__law_alike) (by decide +kernel)) (fun _ _ _ _ _ => (pg_name (i := 2) sc__law_alike.nd rfl (Or.inl rfl))) (fun _ _ _ _ _ => (pts_one (pt_not (pt_val (pe_g G__law_alike hr (pa_cons (pe_ix (ix_seqK (K := K)) (pv 0) (pv 2) (fun _ _ => rfl)) (pa_cons (pe_ix (ix_seqK (K := K)) (pv 1) (pv 2) (fun _ _ => rfl)) pa_nil))))))) (fun _ _ _ _ _ => (pv 2))) (pe_lst pa_nil) (nomark _)))))
  pss_nil)
  (pss_one (ps_ret (pe_and (pe_cmpR op_eq (pv 0) (pv 1) (nomark _)) (pe_one (pe_cmpR op_eq (pe_callB call_isi (by rfl) T.b_isinstance (by decide +kernel) (pa_cons (pv 0) (pa_cons (pe_bltn (v := .ty "bool") (by rfl) T.b_bool (by decide +kernel) rfl) pa_nil))) (pe_callB call_isi (by rfl) T.b_isinstance (by decide +kernel) (pa_cons (pv 1) (pa_cons (pe_bltn (v := .ty "bool") (by rfl) T.b_bool (by decide +kernel) rfl) pa_nil))) (nomark _))))))), ?_⟩
    rcases alike_cases hx hy cl dp sm with ⟨T1, b, rfl, ty, ka, sc, kb⟩ | ⟨a, a', tp, xs, ys, ds, rfl, rfl, q1, q2, p1, p2, cl2, dp2, sm2, sm3⟩
    · refine ⟨_, rfl, (by show 2 ≤ sizeLine; decide), fun tp htp => ?_⟩
      refine ⟨_, tp, _, _, _, false, rfl, upd_same, .cons (.ty "tuple") (.cons (.ty "list") .nil), ty _, ka, false, rfl, iteF (iteF ?_)⟩
      refine ⟨_, rfl, _, rfl, sc, _, rfl, iteD rfl ?_⟩
      refine ⟨_, rfl, _, _, _, _, b, rfl, .ty "bool", ty _, kb, _, rfl, _, _, _, _, b, rfl, .ty "bool", ty _, kb, rfl, ?_⟩
      rw [decide_eq_true rfl]
      exact k _ (Same.new htp)
    · refine ⟨_, rfl, (by show 2 ≤ sizeLine; decide), fun t1 ht1 => ?_⟩
      have s1 : Same H (upd H t1 (.tup [.ty "tuple", .ty "list"])) := Same.new ht1
      refine ⟨_, t1, _, _, _, true, rfl, upd_same, .cons (.ty "tuple") (.cons (.ty "list") .nil), (q1.mono s1).ty, kA_seq tp, true, rfl, iteT ?_⟩
      refine ⟨_, rfl, (by show 2 ≤ sizeLine; decide), fun t2 ht2 => ?_⟩
      have s2 : Same H (upd (upd H t1 (.tup [.ty "tuple", .ty "list"])) t2 (.tup [.ty "tuple", .ty "list"])) := MF.Same.upd s1 ht2
      refine ⟨_, t2, _, _, _, true, rfl, upd_same, .cons (.ty "tuple") (.cons (.ty "list") .nil), (q2.mono s2).ty, kA_seq tp, true, rfl, iteT ?_⟩
      generalize upd (upd H t1 _) t2 _ = H2 at s2
      refine ⟨_, rfl, _, _, _, _, tp, rfl, .ty "tuple", (q1.mono s2).ty, kt_seq tp, _, rfl, _, _, _, _, tp, rfl, .ty "tuple", (q2.mono s2).ty, kt_seq tp, rfl, _, rfl, iteND rfl ?_⟩
      have l1 := MF.DpAll.len p1
      have l2 := MF.DpAll.len p2
      refine ⟨_, rfl, a, xs, rfl, (q1.mono s2).len, _, rfl, a', ys, rfl, (q2.mono s2).len, rfl, _, rfl, iteND (by rw [l1, l2]) ?_⟩
      refine ⟨_, rfl, a, xs, rfl, (q1.mono s2).len, _, rfl, (by omega), (by omega), fun D hD => ?_⟩
      have sD := MF.Same.upd (o := .lst []) s2 hD
      refine lc_it walk_range (fun i H' => Same H H' ∧ H' D = some (.lst [])) ⟨sD, upd_same⟩ (fun _ _ _ _ => trivial) ?_ ?_
      · rintro i z H3 H4 hi ⟨s3, d3⟩ ⟨rfl, rfl⟩
        have hi' : i < xs.length := by simpa using hi
        obtain ⟨v, ev⟩ : ∃ v, xs[i]? = some v := ⟨xs[i], by simp [hi']⟩
        obtain ⟨u, eu⟩ : ∃ u, ys[i]? = some u := ⟨ys[i]'(by omega), by simp [show i < ys.length by omega]⟩
        obtain ⟨dv, edv, pv'⟩ := MF.DpAll.get p1 ev
        obtain ⟨du, edu, pu'⟩ := MF.DpAll.get p2 eu
        rw [edv] at edu
        cases edu
        have md : dv ∈ ds := List.mem_of_getElem? edv
        refine ⟨rfl, ?_⟩
        refine ⟨_, rfl, _, rfl, (q1.mono s3).ix ev ?_⟩
        refine ⟨_, rfl, _, rfl, (q2.mono s3).ix eu ?_⟩
        have dm := depth_mem md
        cases n with
        | zero => omega
        | succ m =>
          refine ⟨v, u, dv, rfl, Dp.mono s3 pv', Dp.mono s3 pu', canLay_mem cl2 md, by omega, small_mem sm3 md, fun H5 s5 => ⟨_, rfl, iteF ?_⟩⟩
          exact ⟨s3.trans s5, s5 _ _ d3⟩
      · rintro H3 ⟨s3, d3⟩
        refine ⟨Nat.zero_le _, fun r hr0 => ?_⟩
        have s4 := MF.Same.upd (o := .lst []) s3 hr0
        have nDr : D ≠ r := ne_of_none d3 hr0
        refine ⟨.list [], .list [], .lst (SqL.of (by rw [upd_ne nDr]; exact d3)) .nil, .lst (SqL.of upd_same) .nil, rfl, rfl, ?_⟩
        exact k _ s4
theorem ok_alike (T : Top K mg C_Book C_MailError C_InvalidOrder C_UnknownOrder C_InvalidAddress C_InvalidDay C_InvalidNumber) : ∀ n, GFn P w K mg base CX0 (n + 1) "_law_alike" (spAlike K n)
  | 0 => alike_step T 0 (by
      obtain ⟨f, fd, F, hm, hb⟩ := T.d__law_alike.ex
      exact ⟨f, (fun _ _ _ _ _ _ _ _ _ _ _ z => z.elim), hm, F.kp⟩)
  | n + 1 => alike_step T (n + 1) (ok_alike T n)
end

end MF
set_option Elab.async false
set_option linter.all false
set_option maxRecDepth 100000
set_option maxHeartbeats 2000000
set_option pp.maxSteps 600
namespace MF
open PySem PySem.Spec PyProof.Rows L2 StX
section
variable {P : Program} {w : World} {K : PySem.W.Frag} {mg : Str → Option Value} {base : Heap} {C_Book C_MailError C_InvalidOrder C_UnknownOrder C_InvalidAddress C_InvalidDay C_InvalidNumber : Addr}
def RK : Err → Prop
  | .number => True
  | .order _ => True
  | .unknown _ => True
  | _ => False
theorem ok_raised {X : Cx} (hK : X.K = K) (hm : X.mg = mg) (T : Top K mg C_Book C_MailError C_InvalidOrder C_UnknownOrder C_InvalidAddress C_InvalidDay C_InvalidNumber) : LFn X "_law_raised" "_law_work" (TRaised RK ⟨C_InvalidOrder, C_UnknownOrder, C_InvalidAddress, C_InvalidDay, C_InvalidNumber⟩) := by
  subst hK
  subst hm
  obtain ⟨g, fd, F, hm, hb⟩ := T.d__law_raised.ex
  obtain ⟨oc, od, kV, doc, pm, an, cdv, ct, osl, rfl, lk, hcd⟩ := F.ex
  refine ⟨⟨g, oc, od, defArgs s__law_raised, defBody s__law_raised, defScope s__law_raised, .none, kV, doc, pm, cdv, ct, an, osl, ["_law_work", "e", "_law_kinds", "_law_at", "_law_word"], hm, F.kp, lk, hcd, hb, sc__law_raised, rfl, by first | exact .inl rfl | exact .inr (.inl rfl), ?_⟩⟩
  intro f s H Q ok tl hkeep act hok h hE65
  refine ⟨_, pss_cons (ps_try_as (i := 1) (c := .ref C_MailError) (Wout := fun _ _ _ _ => False) rfl rfl sc__law_raised.nd rfl rfl ⟨rfl, by decide, .inl T.g_MailError⟩ LamX.takes0 (fun W pn xe tk _ => pss_one (ps_expr (act W pn xe _ _ tk))) (fun a oe cls d pn hz hf =>
    (pss_cons (ps_set (i := 2) sc__law_raised.nd rfl (Or.inl rfl) (pe_lst (pa_cons (pe_callB (call_isY hz hf) (by rfl) T.b_isinstance (by decide +kernel) (pa_cons (pv 1) (pa_cons (pe_glob (v := V.ref C_InvalidOrder) rfl T.g_InvalidOrder rfl) pa_nil))) (pa_cons (pe_callB (call_isY hz hf) (by rfl) T.b_isinstance (by decide +kernel) (pa_cons (pv 1) (pa_cons (pe_glob (v := V.ref C_UnknownOrder) rfl T.g_UnknownOrder rfl) pa_nil))) (pa_cons (pe_callB (call_isY hz hf) (by rfl) T.b_isinstance (by decide +kernel) (pa_cons (pv 1) (pa_cons (pe_glob (v := V.ref C_InvalidAddress) rfl T.g_InvalidAddress rfl) pa_nil))) pa_nil)))))
  (pss_cons (ps_set (i := 2) sc__law_raised.nd rfl (Or.inl rfl) (pe_op op_cat (pv 2) (pe_lst (pa_cons (pe_callB (call_isY hz hf) (by rfl) T.b_isinstance (by decide +kernel) (pa_cons (pv 1) (pa_cons (pe_glob (v := V.ref C_InvalidDay) rfl T.g_InvalidDay rfl) pa_nil))) (pa_cons (pe_callB (call_isY hz hf) (by rfl) T.b_isinstance (by decide +kernel) (pa_cons (pv 1) (pa_cons (pe_glob (v := V.ref C_InvalidNumber) rfl T.g_InvalidNumber rfl) pa_nil))) pa_nil)))))
  (pss_cons (ps_if (PW.pt (pw_or (pt_cmpR op_ne (pe_bmK (K := X.K) PySem.F.plainAttrs_list PySem.F.slot_list_count PySem.F.type_list_count (mt_lcountBK (K := X.K)) (pv 2) (pa_cons pe_bl pa_nil)) pe_int (nomark _)) (pw_or1 (pt_not (pt_val (pe_callB (call_isY hz hf) (by rfl) T.b_isinstance (by decide +kernel) (pa_cons (pv 1) (pa_cons (pe_bltn (v := .ty "ValueError") (by rfl) T.b_ValueError (by decide +kernel) rfl) pa_nil))))))))
  (pss_one (ps_ret (pe_tup (pa_cons pe_str pa_nil))))
  pss_nil)
  (pss_cons (ps_set (i := 3) sc__law_raised.nd rfl (Or.inl rfl) (pe_bmK (K := X.K) PySem.F.plainAttrs_list PySem.F.slot_list_index PySem.F.type_list_index (mt_indexDK (K := X.K) hE65) (pv 2) (pa_cons pe_bl pa_nil)))
  (pss_cons (ps_set (i := 4) sc__law_raised.nd rfl (Or.inl rfl) (pe_ix (ix_listK (K := X.K)) (pe_lst (pa_cons pe_str (pa_cons pe_str (pa_cons pe_str (pa_cons pe_str (pa_cons pe_str pa_nil)))))) (pv 3) (fun _ _ => rfl)))
  (pss_one (ps_ret (pe_ifExp (pt_cmpR op_lt (pv 3) pe_int (nomark _)) (pe_tup (pa_cons (pv 4) (pa_cons (pe_xfY hz hf (pv 1)) pa_nil))) (pe_tup (pa_cons (pv 4) pa_nil)))))))))))) (pss_one (ps_ret pe_non)), ?_⟩
  refine ⟨rfl, hok, _, fun cls d H' ⟨r, hrk, hr, hk⟩ => ?_, h⟩
  have fin : ∃ (D : Addr) (b1 b2 b3 b4 b5 : Bool) (j : Nat) (res : List V), cls = .ref D ∧ ErrC X.K D C_MailError ∧ PySem.W.kitOne X.K (.ref D) (.ref C_InvalidOrder) = some b1 ∧ PySem.W.kitOne X.K (.ref D) (.ref C_UnknownOrder) = some b2 ∧ PySem.W.kitOne X.K (.ref D) (.ref C_InvalidAddress) = some b3 ∧
      PySem.W.kitOne X.K (.ref D) (.ref C_InvalidDay) = some b4 ∧ PySem.W.kitOne X.K (.ref D) (.ref C_InvalidNumber) = some b5 ∧ [b1, b2, b3, b4, b5].count true = 1 ∧ j < 5 ∧ [b1, b2, b3, b4, b5][j]? = some true ∧ (∀ m, m < j → [b1, b2, b3, b4, b5][m]? = some false) ∧ DictSt H' d ∧
      (j < 2 → ∃ v dd, d = some dd ∧ H' dd = some (.xd [("index", v)]) ∧ PySem.W.findIn X.K (.ref D) "index" = some none ∧ res = [.str (wordAt j), v]) ∧ (¬ j < 2 → res = [.str (wordAt j)]) ∧ (∀ p H2, Same H' H2 → H' p = none → H2 p = some (.tup res) → Q (.ref p) H2) := by
    cases r with
    | order i =>
      obtain ⟨h1, dd, h2, h3⟩ := hr
      exact ⟨C_InvalidOrder, true, false, false, false, false, 0, _,  h1, T.e_InvalidOrder, T.k_InvalidOrder_InvalidOrder, T.k_InvalidOrder_UnknownOrder, T.k_InvalidOrder_InvalidAddress, T.k_InvalidOrder_InvalidDay, T.k_InvalidOrder_InvalidNumber, rfl, by decide, rfl, (fun m hm => by rcases m with _ | _ | _ | _ | m <;> first | rfl | omega), (fun d2 e => by rw [h2] at e; cases e; exact ⟨_, h3⟩), (fun _ => ⟨i, dd, h2, h3, T.na_InvalidOrder, rfl⟩), (fun z => absurd (by decide) z), hk⟩
    | unknown i =>
      obtain ⟨h1, dd, h2, h3⟩ := hr
      exact ⟨C_UnknownOrder, false, true, false, false, false, 1, _,  h1, T.e_UnknownOrder, T.k_UnknownOrder_InvalidOrder, T.k_UnknownOrder_UnknownOrder, T.k_UnknownOrder_InvalidAddress, T.k_UnknownOrder_InvalidDay, T.k_UnknownOrder_InvalidNumber, rfl, by decide, rfl, (fun m hm => by rcases m with _ | _ | _ | _ | m <;> first | rfl | omega), (fun d2 e => by rw [h2] at e; cases e; exact ⟨_, h3⟩), (fun _ => ⟨i, dd, h2, h3, T.na_UnknownOrder, rfl⟩), (fun z => absurd (by decide) z), hk⟩
    | address =>
      exact (show False from hrk).elim
    | day =>
      exact (show False from hrk).elim
    | number =>
      exact ⟨C_InvalidNumber, false, false, false, false, true, 4, _,  hr.1, T.e_InvalidNumber, T.k_InvalidNumber_InvalidOrder, T.k_InvalidNumber_UnknownOrder, T.k_InvalidNumber_InvalidAddress, T.k_InvalidNumber_InvalidDay, T.k_InvalidNumber_InvalidNumber, rfl, by decide, rfl, (fun m hm => by rcases m with _ | _ | _ | _ | m <;> first | rfl | omega), (fun dd e => by rw [hr.2] at e; cases e), (fun z => absurd z (by decide)), (fun _ => rfl), hk⟩
    | letter i =>
      exact (show False from hrk).elim
    | holding i =>
      exact (show False from hrk).elim
    | operation i =>
      exact (show False from hrk).elim
    | contra =>
      exact (show False from hrk).elim
    | count =>
      exact (show False from hrk).elim
    | decode i =>
      exact (show False from hrk).elim
    | note r w =>
      exact (show False from hrk).elim
  obtain ⟨D, b1, b2, b3, b4, b5, j, res, hcls, EC, k1, k2, k3, k4, k5, hcnt, hj5, hj, hb, hd, r1, r2, kk⟩ := fin
  refine ⟨true, by rw [hcls]; exact EC.exm, fun _ a ha => ?_, fun z => by cases z⟩
  have ask : ∀ {H1 : Hp}, Same H' H1 → DictSt H1 d := fun s dd e => by
    obtain ⟨fs, z⟩ := hd dd e
    exact ⟨fs, s _ _ z⟩
  refine ⟨_, rfl, D, _, _, b1, rfl, hcls, EC.exc, (fun u z => z), k1, ask (Same.refl _), _, rfl, D, _, _, b2, rfl, hcls, EC.exc, (fun u z => z), k2, ask (Same.refl _), _, rfl, D, _, _, b3, rfl, hcls, EC.exc, (fun u z => z), k3, ask (Same.refl _), (by show 3 ≤ sizeLine; decide), fun p1 h1 => ?_⟩
  have s1 : Same H' (upd H' p1 (.lst [.bl b1, .bl b2, .bl b3])) := Same.new h1
  have e1 : (upd H' p1 (.lst [.bl b1, .bl b2, .bl b3])) p1 = some (.lst [.bl b1, .bl b2, .bl b3]) := upd_same
  generalize upd H' p1 (.lst [.bl b1, .bl b2, .bl b3]) = H1 at s1 e1
  refine ⟨_, rfl, _, rfl, D, _, _, b4, rfl, hcls, EC.exc, (fun u z => z), k4, ask s1, _, rfl, D, _, _, b5, rfl, hcls, EC.exc, (fun u z => z), k5, ask s1, (by show 2 ≤ sizeLine; decide), fun p2 h2 => ?_⟩
  have s2 := Same.new (o := .lst [.bl b4, .bl b5]) h2
  have e2 : (upd H1 p2 (.lst [.bl b4, .bl b5])) p2 = some (.lst [.bl b4, .bl b5]) := upd_same
  generalize upd H1 p2 (.lst [.bl b4, .bl b5]) = H2 at s2 e2
  refine ⟨p1, p2, _, _, rfl, rfl, s2 _ _ e1, e2, (by show 5 ≤ sizeLine; decide), fun p3 h3 => ?_⟩
  have s3 := Same.new (o := .lst ([b1, b2, b3, b4, b5].map V.bl)) h3
  have e3 : (upd H2 p3 (.lst ([b1, b2, b3, b4, b5].map V.bl))) p3 = some (.lst ([b1, b2, b3, b4, b5].map V.bl)) := upd_same
  have s03 := (s1.trans s2).trans s3
  change Same H' (upd H2 p3 (.lst ([.bl b1, .bl b2, .bl b3] ++ [.bl b4, .bl b5]))) at s03
  change (upd H2 p3 (.lst ([.bl b1, .bl b2, .bl b3] ++ [.bl b4, .bl b5]))) p3 = _ at e3
  generalize upd H2 p3 (.lst ([.bl b1, .bl b2, .bl b3] ++ [.bl b4, .bl b5])) = H3 at s03 e3
  refine ⟨_, rfl, .inl ⟨rfl, _, SqL.of e3⟩, p3, [b1, b2, b3, b4, b5], true, rfl, rfl, SqL.of e3, ?_⟩
  rw [hcnt]
  refine ⟨rfl, _, rfl, iteND rfl ?_⟩
  refine ⟨_, rfl, D, _, _, true, rfl, hcls, EC.exc, (fun u z => z), EC.ve, ask s03, _, rfl, ?_⟩
  refine iteF ?_
  have hz : ([b1, b2, b3, b4, b5].map PyData.bool)[j]? = some (.bool true) := by rw [List.getElem?_map, hj]; rfl
  have sh : ∀ c1 c2 c3 c4 c5 : Bool, SeqAt.shaped (.list ([c1, c2, c3, c4, c5].map PyData.bool)) = true := by decide +kernel
  have dpb : ∀ l : List Bool, DpAll X.K H3 (l.map V.bl) (l.map PyData.bool) := fun l => by
    induction l with
    | nil => exact .nil
    | cons b l ih => exact .cons (.bl b) ih
  refine ⟨_, rfl, .inl ⟨rfl, _, SqL.of e3⟩, p3, _, .bool true, [b1, b2, b3, b4, b5].map PyData.bool, j, .bool true, rfl, rfl, .lst (SqL.of e3) (dpb _), .bl true, sh _ _ _ _ _, by decide +kernel, hz, by decide +kernel, fun m z' hm ez => ?_, ?_⟩
  · rw [List.getElem?_map, hb m hm] at ez
    cases ez
    decide +kernel
  refine ⟨(by show 5 ≤ sizeLine; decide), fun p4 h4 => ?_⟩
  have s4 := Same.new (o := .lst [.str "order", .str "unknown", .str "address", .str "day", .str "number"]) h4
  have e4 : (upd H3 p4 (.lst [.str "order", .str "unknown", .str "address", .str "day", .str "number"])) p4 = some (.lst [.str "order", .str "unknown", .str "address", .str "day", .str "number"]) := upd_same
  generalize upd H3 p4 (.lst [.str "order", .str "unknown", .str "address", .str "day", .str "number"]) = H4 at s4 e4
  have s04 := s03.trans s4
  have wj : atI [V.str "order", .str "unknown", .str "address", .str "day", .str "number"] (j : Int) = some (.str (wordAt j)) := by
    have : j = 0 ∨ j = 1 ∨ j = 2 ∨ j = 3 ∨ j = 4 := by omega
    rcases this with rfl | rfl | rfl | rfl | rfl <;> rfl
  refine ⟨_, rfl, p4, _, _, _, rfl, rfl, SqL.of e4, wj, ?_⟩
  refine ⟨_, rfl, _, _, rfl, rfl, _, rfl, ite2 (fun c => ?_) (fun c => ?_)⟩
  · have c' : j < 2 := by
      have : ((j : Nat) : Int) < 2 := of_decide_eq_true c
      omega
    obtain ⟨v, dd, ed, hx, hno, rfl⟩ := r1 c'
    refine ⟨_, rfl, _, rfl, rfl, D, dd, _, v, hcls, EC.xf, hno, ed, s04 _ _ hx, (by simp [List.lookup]), (by show 2 ≤ sizeLine; decide), fun p5 h5 => ?_⟩
    exact kk p5 _ (s04.trans (Same.new h5)) (s04.free h5) upd_same
  · have c' : ¬ j < 2 := fun z => c (decide_eq_true (by show ((j : Nat) : Int) < 2; omega))
    obtain rfl := r2 c'
    refine ⟨_, rfl, (by show 1 ≤ sizeLine; decide), fun p5 h5 => ?_⟩
    exact kk p5 _ (s04.trans (Same.new h5)) (s04.free h5) upd_same
end

end MF
set_option Elab.async false
set_option linter.all false
set_option maxRecDepth 100000
set_option maxHeartbeats 2000000
set_option pp.maxSteps 600
namespace MF
open PySem PySem.Spec PyProof.Rows L2 StX
section
variable {P : Program} {w : World} {K : PySem.W.Frag} {mg : Str → Option Value} {base : Heap} {C_Book C_MailError C_InvalidOrder C_UnknownOrder C_InvalidAddress C_InvalidDay C_InvalidNumber : Addr}
def letErr (x d : V) : Option Err := if isAddrB x = true then (if isIntB d 0 1000000000000000000 = true then none else some .day) else some .address
end

end MF
set_option Elab.async false
set_option linter.all false
set_option maxRecDepth 100000
set_option maxHeartbeats 2000000
set_option pp.maxSteps 600
namespace MF
open PySem PySem.Spec PyProof.Rows L2 StX
section
variable {P : Program} {w : World} {K : PySem.W.Frag} {mg : Str → Option Value} {base : Heap} {C_Book C_MailError C_InvalidOrder C_UnknownOrder C_InvalidAddress C_InvalidDay C_InvalidNumber : Addr}
theorem ok_InvalidOrder (T : Top K mg C_Book C_MailError C_InvalidOrder C_UnknownOrder C_InvalidAddress C_InvalidDay C_InvalidNumber) : EFn P w K mg base CX0 1 C_InvalidOrder "InvalidOrder" ["self", "index"] (spE1 K C_InvalidOrder "index") := by
  refine T.d_InvalidOrderX_initX.fn fun f fd F => F.ok sc_InvalidOrderX_initX (fun vs H Q E h => ?_) (fun cdv A outer s H vs Q E hr h => ?_)
  · obtain ⟨a, v, rfl, _⟩ := h
    rfl
  · obtain ⟨a, v, rfl, hf, ha, k⟩ := h
    refine ⟨_, (pss_cons (ps_expr (pe_binit rfl T.g_MailError T.base_MailError (pa_cons (pv 0) (pa_cons (pe_joined (PJ.cons pe_str (PJ.cons (pe_fmtV (pv 1)) PJ.nil))) pa_nil))))
  (pss_one (ps_ost (pv 0) (pv 1)))), ?_⟩
    have ox := T.d_InvalidOrderX_initX.ox
    refine ⟨_, rfl, _, rfl, ?_, _, rfl, hf, fun y hy => ⟨_, rfl, ?_, ?_⟩⟩
    · decide +kernel
    · rw [Str.length_append]
      have : (Str.empty ++ ("invalid order at index " : Str)).length = 23 := by decide +kernel
      rw [this, sizeLine_eq]
      omega
    refine ⟨a, C_InvalidOrder, [.str _], rfl, by simp, ox, ha, ?_⟩
    exact ⟨_, rfl, _, rfl, a, C_InvalidOrder, rfl, ox, T.na_InvalidOrder, .inl ⟨ha, fun dx hd ne => k dx hd ne⟩⟩
def BadV (K : PySem.W.Frag) (H : Hp) (v : V) : Prop := (∃ a xs, v = .ref a ∧ SqT K H a xs ∧ (∀ x ∈ xs, notSeq x = true ∧ shortV x) ∧ isOrdB xs = false) ∨ (∃ a xs, v = .ref a ∧ SqL K H a xs) ∨ notSeq v = true
theorem BadV.mono {H H' : Hp} {v : V} (h : BadV K H v) (s : Same H H') : BadV K H' v := by
  rcases h with ⟨a, xs, h1, h2, h3⟩ | ⟨a, xs, h1, h2⟩ | h
  · exact .inl ⟨a, xs, h1, MF.Same.tup s h2, h3⟩
  · exact .inr (.inl ⟨a, xs, h1, s.seq h2⟩)
  · exact .inr (.inr h)
structure FirstBad (K : PySem.W.Frag) (H : Hp) (xs : List V) (n : Nat) : Prop where
  ex : ∃ as os v rest, xs = as.map V.ref ++ v :: rest ∧ OrdsAt K H as os ∧ (∀ o ∈ os, o.Ok) ∧ (os.Pairwise fun o p => overB o p = false) ∧ as.length = n ∧ n ≤ 30 ∧ (n = 30 ∨ BadV K H v ∨ ∃ a o p, v = .ref a ∧ OrdAt K H a o ∧ o.Ok ∧ p ∈ os ∧ overB p o = true)
theorem FirstBad.mono {H H' : Hp} {xs : List V} {n : Nat} (h : FirstBad K H xs n) (s : Same H H') : FirstBad K H' xs n := by
  obtain ⟨as, os, v, rest, h1, h2, h3, h4, h5, h6, h7⟩ := h.ex
  refine ⟨as, os, v, rest, h1, h2.mono s, h3, h4, h5, h6, ?_⟩
  rcases h7 with h | h | ⟨a, o, p, a1, a2, a3⟩
  · exact .inl h
  · exact .inr (.inl (h.mono s))
  · exact .inr (.inr ⟨a, o, p, a1, a2.mono s, a3⟩)
def spInitX (K : PySem.W.Frag) (c : Cls5) : Sp := fun vs H _ E => ∃ x t xs, ∃ n : Nat, vs = [.ref x, .ref t] ∧ SqT K H t xs ∧ FirstBad K H xs n ∧ ∀ H' cls d, Same H H' → ErrAt c cls d H' (.order (.int (n : Nat))) → E cls d H'
theorem okX_Book (T : Top K mg C_Book C_MailError C_InvalidOrder C_UnknownOrder C_InvalidAddress C_InvalidDay C_InvalidNumber) : IFn P w K mg base (L2.CX P w) 3 C_Book "Book" (fun vs H Q E => ∃ v rest, vs = v :: rest ∧ rest.length ≤ sizeLine ∧ ∀ p, H p = Option.none → spInitX K ⟨C_InvalidOrder, C_UnknownOrder, C_InvalidAddress, C_InvalidDay, C_InvalidNumber⟩ [v, V.ref p] (upd H p (.tup rest)) Q E) := by
  have G_is_order : GFn P w K mg base CX0 2 "is_order" (spIsOrder K) := ok_is_order T
  have G_do_overlap : GFn P w K mg base CX0 1 "do_overlap" (spOverlap K) := ok_do_overlap T
  have E_InvalidOrder : EFn P w K mg base CX0 1 C_InvalidOrder "InvalidOrder" ["self", "index"] (spE1 K C_InvalidOrder "index") := ok_InvalidOrder T
  refine T.d_BookX_initX.fnX (sp := spInitX K ⟨C_InvalidOrder, C_UnknownOrder, C_InvalidAddress, C_InvalidDay, C_InvalidNumber⟩) sc_BookX_initX fun f cdv A outer s H vs Q E hr h => ?_
  obtain ⟨x, t, xs, n, rfl, ht, fb, kk⟩ := h
  obtain ⟨as, os, v, rest, rfl, ho, ok, apart, hn, h30, hbad⟩ := fb.ex
  have fmtn : ∀ i : Nat, i ≤ 30 → FmtOk (.int (i : Nat)) := fun i hi => by
    show (i : Int).natAbs.log2 < 1920
    rw [Int.natAbs_natCast]
    have : i.log2 ≤ i := Nat.log2_le_self i
    omega
  refine ⟨_, (pss_cons (ps_for owns_cx rfl (pi_enumT (by rfl) T.b_enumerate (pa_cons (pv 1) pa_nil)) (pg_tup rfl (pgs_cons (pg_name (i := 2) sc_BookX_initX.nd rfl (Or.inl rfl)) (pgs_cons (pg_name (i := 3) sc_BookX_initX.nd rfl (Or.inl rfl)) pgs_nil)))
  (pss_cons (ps_if (PW.pt (pw_or (pt_cmpR op_eq (pv 2) (pe_gint T.c_MAX_ORDERS_books) (nomark _)) (pw_or1 (pt_not (pt_val (pe_g G_is_order (hr.mono (by decide)) (pa_cons (pv 3) pa_nil)))))))
  (pss_one (ps_raise rfl takeE (pmk_1 E_InvalidOrder (hr.mono (by decide)) (pa_cons (pv 2) pa_nil))))
  pss_nil)
  (pss_one (ps_for owns_cx rfl (pi_tup (pe_slice sl_tup (pv 1) po_none (po_some (pv 2)))) (pg_name (i := 4) sc_BookX_initX.nd rfl (Or.inl rfl))
  (pss_one (ps_if (pt_val (pe_g G_do_overlap (hr.mono (by decide)) (pa_cons (pv 4) (pa_cons (pv 3) pa_nil))))
  (pss_one (ps_raise rfl takeE (pmk_1 E_InvalidOrder (hr.mono (by decide)) (pa_cons (pv 2) pa_nil))))
  pss_nil))))))
  (pss_one (ps_fld (pv 0) (pv 1) rfl))), ?_⟩
  have hl : as.length = os.length := PySem.Paired.length ho
  have lx : (as.map V.ref ++ v :: rest).length = n + 1 + rest.length := by rw [List.length_append, List.length_map, hn, List.length_cons]; omega
  refine ⟨_, rfl, t, _, rfl, ht, for_it walk_enumT (fun i σ H' => i ≤ n ∧ Same H H' ∧ ∃ v2 v3 v4, σ = [some (.ref x), some (.ref t), v2, v3, v4]) ⟨Nat.zero_le _, Same.refl H, _, _, _, rfl⟩ (fun i σ H' _ ⟨_, s1, _⟩ => MF.Same.tup s1 ht) ?_ ?_⟩
  · rintro i y σ H1 H2 hi ⟨hin, s1, v2, v3, v4, rfl⟩ ⟨p, z1, z2, rfl, hp, rfl, e1, e2⟩
    cases e1
    replace e2 : (as.map V.ref ++ v :: rest)[i]? = some z2 := e2
    have s2 : Same H (upd H1 p (.tup [.int (i : Nat), z2])) := MF.Same.upd s1 hp
    refine ⟨p, _, rfl, .inl (.inl upd_same), rfl, _, _, rfl, _, _, rfl, rfl, ?_⟩
    generalize upd H1 p (.tup [.int (i : Nat), z2]) = H3 at s2
    refine ⟨_, rfl, rfl, _, rfl, ?_⟩
    by_cases c : i < n
    · have ne30 : decide (V.int ((i : Nat) : Int) = V.int 30) = false := decide_eq_false fun q => by
        have := V.int.inj q
        omega
      rw [ne30]
      refine iteF ?_
      obtain ⟨a, ea⟩ : ∃ a, as[i]? = some a := ⟨as[i], by simp [hn, c]⟩
      rw [List.getElem?_append_left (by rw [List.length_map, hn]; exact c), List.getElem?_map, ea] at e2
      cases e2
      obtain ⟨o, eo, oa⟩ := Paired.get ho ea
      have om : o ∈ os := List.mem_of_getElem? eo
      refine ⟨_, rfl, _, true, rfl, .inl ⟨a, _, rfl, oa.mono s2, isOrd_flat (ok o om), (ok o om).b.symm⟩, fun H4 s4 => ⟨_, rfl, iteF ?_⟩⟩
      have s14 := s2.trans s4
      have tt := MF.Same.tup s14 ht
      refine ⟨_, rfl, _, rfl, _, rfl, t, _, rfl, tt, ?_, fun p2 hp2 => ?_⟩
      · rw [HT.sIx_nat, lx]
        omega
      rw [cut_take _ _ (by rw [lx]; omega), List.take_append_of_le_length (by rw [List.length_map, hn]; omega)]
      refine ⟨p2, rfl, ⟨_, .inl (.inl upd_same)⟩, for_it (walk_tup (xs := (as.map V.ref).take i)) (fun j σ H' => Same H H' ∧ SqT K H' p2 ((as.map V.ref).take i) ∧ ∃ v4, σ = [some (.ref x), some (.ref t), some (.int (i : Nat)), some (.ref a), v4]) ⟨MF.Same.upd s14 hp2, .inl (.inl upd_same), _, rfl⟩ (fun j σ H' _ ⟨_, q, _⟩ => q) ?_ ?_⟩
      · rintro j y σ H4 H5 hj ⟨s4, q4, v4', rfl⟩ ⟨rfl, ey⟩
        rw [List.length_take, List.length_map] at hj
        have hji : j < i := by omega
        obtain ⟨b, eb⟩ : ∃ b, as[j]? = some b := ⟨as[j]'(by omega), by simp [show j < as.length by omega]⟩
        rw [List.getElem?_take, if_pos hji, List.getElem?_map, eb] at ey
        cases ey
        obtain ⟨o', eo', ob⟩ := Paired.get ho eb
        refine ⟨_, rfl, _, rfl, b, a, o', o, rfl, ob.mono s4, oa.mono s4, ⟨_, rfl, ?_⟩⟩
        have hov : overB o' o = false := by
          have hj' : j < os.length := by omega
          have hi' : i < os.length := by omega
          have := List.pairwise_iff_getElem.mp apart j i hj' hi' hji
          rw [List.getElem?_eq_getElem hj'] at eo'
          rw [List.getElem?_eq_getElem hi'] at eo
          cases eo'
          cases eo
          exact this
        rw [hov]
        exact iteF ⟨s4, q4, _, rfl⟩
      · rintro σ H4 ⟨s4, _, v4', rfl⟩
        exact ⟨c, s4, _, _, _, rfl⟩
    · have ein : i = n := by omega
      subst ein
      rw [List.getElem?_append_right (by rw [List.length_map, hn]; exact Nat.le_refl _), List.length_map, hn, Nat.sub_self] at e2
      cases e2
      by_cases c30 : i = 30
      · rw [show decide (V.int ((i : Nat) : Int) = V.int 30) = true from decide_eq_true (by rw [c30]; rfl)]
        refine iteT ?_
        exact ⟨_, rfl, e1_fin (fmtn i h30) fun d H5 s5 fd ed => kk _ _ _ (s2.trans s5) ⟨rfl, d, rfl, ed⟩⟩
      · have ne30 : decide (V.int ((i : Nat) : Int) = V.int 30) = false := decide_eq_false fun q => by
          have := V.int.inj q
          omega
        rw [ne30]
        refine iteF ?_
        rcases hbad with hb | hb | ⟨a, o, q, rfl, oa, oo, qm, qo⟩
        · exact absurd hb c30
        · have hb3 := hb.mono s2
          refine ⟨_, rfl, _, false, rfl, ?_, fun H4 s4 => ⟨_, rfl, iteT ⟨_, rfl, e1_fin (fmtn i h30) fun d H5 s5 fd ed => kk _ _ _ ((s2.trans s4).trans s5) ⟨rfl, d, rfl, ed⟩⟩⟩⟩
          rcases hb3 with ⟨a, xs, h1, h2, h3, h4⟩ | ⟨a, xs, h1, h2⟩ | h
          · exact .inl ⟨a, xs, h1, h2, h3, h4.symm⟩
          · exact .inr (.inl ⟨a, xs, h1, h2, rfl⟩)
          · exact .inr (.inr ⟨h, rfl⟩)
        · refine ⟨_, rfl, _, true, rfl, .inl ⟨a, _, rfl, oa.mono s2, isOrd_flat oo, oo.b.symm⟩, fun H4 s4 => ⟨_, rfl, iteF ?_⟩⟩
          have s14 := s2.trans s4
          have tt := MF.Same.tup s14 ht
          refine ⟨_, rfl, _, rfl, _, rfl, t, _, rfl, tt, ?_, fun p2 hp2 => ?_⟩
          · rw [HT.sIx_nat, lx]
            omega
          rw [cut_take _ _ (by rw [lx]; omega), List.take_append_of_le_length (by rw [List.length_map, hn]; omega)]
          refine ⟨p2, rfl, ⟨_, .inl (.inl upd_same)⟩, for_it (walk_tup (xs := (as.map V.ref).take i)) (fun j σ H' => Same H H' ∧ SqT K H' p2 ((as.map V.ref).take i) ∧ (∀ (m : Nat) q, m < j → os[m]? = some q → overB q o = false) ∧ ∃ v4, σ = [some (.ref x), some (.ref t), some (.int (i : Nat)), some (.ref a), v4]) ⟨MF.Same.upd s14 hp2, .inl (.inl upd_same), (fun m q hm => absurd hm (Nat.not_lt_zero _)), _, rfl⟩ (fun j σ H' _ ⟨_, q, _⟩ => q) ?_ ?_⟩
          · rintro j y σ H4 H5 hj ⟨s4, q4, nov, v4', rfl⟩ ⟨rfl, ey⟩
            rw [List.length_take, List.length_map] at hj
            have hji : j < i := by omega
            obtain ⟨b, eb⟩ : ∃ b, as[j]? = some b := ⟨as[j]'(by omega), by simp [show j < as.length by omega]⟩
            rw [List.getElem?_take, if_pos hji, List.getElem?_map, eb] at ey
            cases ey
            obtain ⟨o', eo', ob⟩ := Paired.get ho eb
            refine ⟨_, rfl, _, rfl, b, a, o', o, rfl, ob.mono s4, oa.mono s4, ⟨_, rfl, ?_⟩⟩
            cases hov : overB o' o with
            | true => exact iteT ⟨_, rfl, e1_fin (fmtn i h30) fun d H5 s5 fd ed => kk _ _ _ (s4.trans s5) ⟨rfl, d, rfl, ed⟩⟩
            | false =>
              refine iteF ⟨s4, q4, fun m q hm em => ?_, _, rfl⟩
              by_cases e : m = j
              · subst e
                rw [eo'] at em
                cases em
                exact hov
              · exact nov m q (by omega) em
          · rintro σ H4 ⟨s4, _, nov, v4', rfl⟩
            exfalso
            obtain ⟨m, hm, em⟩ := List.mem_iff_getElem.mp qm
            have := nov m q (by rw [List.length_take, List.length_map, hn]; omega) (by rw [← em]; simp [hm])
            rw [qo] at this
            cases this
  · rintro σ H1 ⟨hin, s1, v2, v3, v4, rfl⟩
    rw [lx] at hin
    omega
end

end MF
set_option Elab.async false
set_option linter.all false
namespace MF
open PySem L2
theorem wipe_get {σ : L2.St} {j : Nat} : ∀ {vs : List Nat}, (wipe σ vs)[j]? = if j ∈ vs then (if j < σ.length then some none else none) else σ[j]?
  | [] => by simp [wipe]
  | v :: vs => by
    show ((wipe σ vs).set v none)[j]? = _
    rw [List.getElem?_set, wipe_length, wipe_get (vs := vs)]
    by_cases c : v = j
    · subst c
      simp
    · rw [if_neg c]
      have : j ∈ v :: vs ↔ j ∈ vs := by
        rw [List.mem_cons]
        exact ⟨fun h => h.resolve_left fun z => c z.symm, .inr⟩
      simp only [this]
theorem wipe_set {σ : L2.St} {i : Nat} {x : Option V} {vs : List Nat} (h : i ∈ vs) : wipe (σ.set i x) vs = wipe σ vs := by
  refine List.ext_getElem? fun j => ?_
  rw [wipe_get, wipe_get, List.length_set, List.getElem?_set]
  by_cases c : j ∈ vs
  · rw [if_pos c, if_pos c]
  · rw [if_neg c, if_neg c, if_neg (show ¬ i = j from fun z => c (z ▸ h))]
theorem wipe_wipe {σ : L2.St} {vs : List Nat} : wipe (wipe σ vs) vs = wipe σ vs := by
  refine List.ext_getElem? fun j => ?_
  rw [wipe_get, wipe_get, wipe_length]
  by_cases c : j ∈ vs
  · rw [if_pos c, if_pos c]
  · rw [if_neg c, if_neg c]
theorem wipe5 {σ : L2.St} {a b c d e : Nat} {v1 v2 v3 v4 v5 : Option V} : wipe ((((((wipe σ [a, b, c, d, e]).set a v1).set b v2).set c v3).set d v4).set e v5) [a, b, c, d, e] = wipe σ [a, b, c, d, e] := by
  rw [wipe_set (by simp), wipe_set (by simp), wipe_set (by simp), wipe_set (by simp), wipe_set (by simp), wipe_wipe]
end MF
set_option Elab.async false
set_option linter.all false
set_option maxRecDepth 100000
set_option maxHeartbeats 2000000
set_option pp.maxSteps 600
namespace MF
open PySem PySem.Spec PyProof.Rows L2 StX
section
variable {P : Program} {w : World} {K : PySem.W.Frag} {mg : Str → Option Value} {base : Heap} {C_Book C_MailError C_InvalidOrder C_UnknownOrder C_InvalidAddress C_InvalidDay C_InvalidNumber : Addr}
def nmS (k : Nat) : Str := ⟨#[97 + k]⟩
theorem nmS_inj {i j : Nat} (h : nmS i = nmS j) : i = j := by
  have h1 : (#[97 + i] : Array Nat) = #[97 + j] := congrArg Str.cps h
  have h2 : 97 + i = 97 + j := by simpa using h1
  omega
theorem nmS_addr {k : Nat} (h : k < 6) : isAddrB (.str (nmS k)) = true := by
  have : k = 0 ∨ k = 1 ∨ k = 2 ∨ k = 3 ∨ k = 4 ∨ k = 5 := by omega
  rcases this with rfl | rfl | rfl | rfl | rfl | rfl <;> decide +kernel
def nameT (n : Nat) : Str := cutS "abcdef" none (some ((n : Nat) : Int))
theorem names_at {n : Nat} (h2 : 2 ≤ n) (h6 : n ≤ 6) : (nameT n).length ≤ sizeLine ∧ ∀ k : Nat, k < n → (nameT n).cps.toList[k]? = some (97 + k) := by
  have : n = 2 ∨ n = 3 ∨ n = 4 ∨ n = 5 ∨ n = 6 := by omega
  rcases this with rfl | rfl | rfl | rfl | rfl <;> (refine ⟨by decide +kernel, ?_⟩; decide +kernel)
theorem names_ix {n : Nat} (h2 : 2 ≤ n) (h6 : n ≤ 6) {i : Int} (h0 : 0 ≤ i) (h1 : i < n) : atI (nameT n).cps.toList i = some (97 + i.toNat) := by
  have e : i = ((i.toNat : Nat) : Int) := by omega
  rw [e]
  exact atI_nat ((names_at h2 h6).2 _ (by omega))
theorem ints_ix {l : List Int} {i : Nat} (h : i < l.length) : atI (l.map V.int) (0 + (i : Int)) = some (V.int (l.getD i 0)) := by
  rw [Int.zero_add]
  refine atI_nat ?_
  rw [List.getElem?_map, List.getElem?_eq_getElem h, List.getD_eq_getElem?_getD, List.getElem?_eq_getElem h]
  rfl
def KeepR (rw : Addr) (H H' : Hp) : Prop := ∀ b u, H b = some u → b ≠ rw → H' b = some u
theorem KeepR.trans {rw : Addr} {H H1 H2 : Hp} (a : KeepR rw H H1) (b : KeepR rw H1 H2) : KeepR rw H H2 := fun c u e n => b c u (a c u e n) n
theorem KeepR.of {rw : Addr} {H H' : Hp} (s : Same H H') : KeepR rw H H' := fun b u e _ => s b u e
theorem RowAt.ex {H : Hp} {rw sc : Addr} {ns : List Int} (h : RowAt K H rw sc ns) : ∃ xs, H rw = some (.lst xs) := by
  obtain ⟨j, m, r, h1, _⟩ := h
  exact ⟨_, h1⟩
theorem KeepR.tup {rw sc : Addr} {ns : List Int} {H H' : Hp} (k : KeepR rw H H') (r : RowAt K H rw sc ns) : ∀ b u, H b = some u → tupl u = true → H' b = some u := fun b u e y => k b u e fun z => by
  obtain ⟨xs, h⟩ := r.ex
  rw [z, h] at e
  cases e
  cases y
theorem OrdsAt.keepR {H H' : Hp} {as : List Addr} {os : List Ordr} (h : OrdsAt K H as os) (k : ∀ b u, H b = some u → tupl u = true → H' b = some u) : OrdsAt K H' as os := PySem.Paired.mono (fun a o z => by
    rcases z with (z | ⟨u, z⟩) | z
    · exact .inl (.inl (k _ _ z rfl))
    · exact .inl (.inr ⟨u, k _ _ z rfl⟩)
    · exact .inr z) h
def spLaw (K : PySem.W.Frag) : Sp := fun vs H Q _ => ∃ (a : Addr) (ns : List Int), vs = [.ref a] ∧ SqL K H a (ns.map V.int) ∧ ns.length ≤ 63 ∧ ∀ H', Q (.bl true) H'
theorem row_new {H : Hp} {a rw : Addr} {ns : List Int} (hS : SqL K H a (ns.map V.int)) (h : H rw = none) : RowAt K (upd H rw (.lst [.ref a, .int 0, .int 0, .int 0])) rw a ns :=
  ⟨0, 0, 0, upd_same, .of0 hS (Same.new h) h, by decide, by decide⟩
theorem RowAt.via {H H1 H2 : Hp} {rw sc : Addr} {ns : List Int} (h : RowAt K H rw sc ns) (k : KeepR rw H H2) (h1 : RowAt K H1 rw sc ns) (e : ∀ u, H1 rw = some u → H2 rw = some u) : RowAt K H2 rw sc ns := by
  obtain ⟨j, m, r, a1, a2, a3⟩ := h1
  obtain ⟨j', m', r', b1, b2, b3⟩ := h
  exact ⟨j, m, r, e _ a1, b2.keep k, a3⟩
end

end MF
set_option Elab.async false
set_option linter.all false
set_option maxRecDepth 100000
set_option maxHeartbeats 2000000
set_option pp.maxSteps 600
namespace MF
open PySem PySem.Spec PyProof.Rows L2 StX
section
variable {P : Program} {w : World} {K : PySem.W.Frag} {mg : Str → Option Value} {base : Heap} {C_Book C_MailError C_InvalidOrder C_UnknownOrder C_InvalidAddress C_InvalidDay C_InvalidNumber : Addr}
structure DrawnOs (most long : Nat) (os : List Ordr) : Prop where
  good : Good os
  len : os.length ≤ most
  names : ∀ o ∈ os, ∃ i j, i < 6 ∧ j < 6 ∧ o.src = nmS i ∧ o.tgt = nmS j
  tight : ∀ o ∈ os, o.last < (most : Int) * (14 + max 12 (long : Int))
  lasts : ∀ o ∈ os, o.last < (most : Int) * (27 + long)
  ways : ∀ o ∈ os, o.way ≤ 14
  spans : ∀ o ∈ os, o.last - o.first < max 12 (long : Int)
structure DrawnSo (B : Int) (i : Nat) (os : List Ordr) (kvs : List (Key × V)) : Prop where
  len : os.length ≤ i
  klen : kvs.length ≤ i
  ok : ∀ o ∈ os, o.Ok
  apart : os.Pairwise fun o p => overB o p = false
  names : ∀ o ∈ os, ∃ i j, i < 6 ∧ j < 6 ∧ o.src = nmS i ∧ o.tgt = nmS j
  ways : ∀ o ∈ os, o.way ≤ 14
  vals : ∀ s v, valV kvs (.inr s : Key) = some v → ∃ z : Int, v = .int z ∧ 0 ≤ z ∧ z ≤ i * B
  free : ∀ o ∈ os, ∃ z : Int, valV kvs (.inr o.src : Key) = some (.int z) ∧ o.last < z
  spans : ∀ o ∈ os, o.last - o.first < B - 14
theorem DrawnSo.nil (B : Int) : DrawnSo B 0 [] [] := ⟨Nat.le_refl _, Nat.le_refl _, (fun _ z => by cases z), .nil, (fun _ z => by cases z), (fun _ z => by cases z), (fun _ _ z => by cases z), (fun _ z => by cases z), (fun _ z => by cases z)⟩
theorem DrawnSo.skip {B : Int} {i : Nat} {os : List Ordr} {kvs : List (Key × V)} (b0 : 0 ≤ B) (D : DrawnSo B i os kvs) : DrawnSo B (i + 1) os kvs :=
  ⟨by have := D.len; omega, by have := D.klen; omega, D.ok, D.apart, D.names, D.ways, fun s v h => by
    obtain ⟨z, a, b, c⟩ := D.vals s v h
    refine ⟨z, a, b, ?_⟩
    push_cast
    rw [Int.add_mul, Int.one_mul]
    omega, D.free, D.spans⟩
theorem DrawnSo.snoc {B : Int} {i : Nat} {os : List Ordr} {kvs : List (Key × V)} (b0 : 0 ≤ B) (hB : (i : Int) * B ≤ 1000000) (hb : B ≤ 1000000) (D : DrawnSo B i os kvs) {a b : Nat} (ha : a < 6) (hb' : b < 6) (hne : nmS a ≠ nmS b) {f l w z : Int} (hz : (valV kvs (.inr (nmS a) : Key)).getD (.int 0) = .int z)
    (f0 : z ≤ f) (fl : f ≤ l) (lB : l + 1 ≤ z + B) (lf : l - f < B - 14) (w1 : 1 ≤ w) (w14 : w ≤ 14) : DrawnSo B (i + 1) (os ++ [⟨nmS a, nmS b, f, l, w⟩]) (putK kvs (.inr (nmS a)) (.int (l + 1))) := by
  have z0 : 0 ≤ z ∧ z ≤ i * B := by
    cases q : valV kvs (.inr (nmS a) : Key) with
    | none =>
      rw [q] at hz
      cases hz
      exact ⟨Int.le_refl _, Int.mul_nonneg (Int.natCast_nonneg _) b0⟩
    | some v =>
      obtain ⟨z', e1, e2, e3⟩ := D.vals _ _ q
      rw [q, e1] at hz
      cases hz
      exact ⟨e2, e3⟩
  have mem : ∀ {o}, o ∈ os ++ [(⟨nmS a, nmS b, f, l, w⟩ : Ordr)] → o ∈ os ∨ o = ⟨nmS a, nmS b, f, l, w⟩ := fun {o} h => by
    rcases List.mem_append.mp h with h | h
    · exact .inl h
    · exact .inr (List.mem_singleton.mp h)
  have eB : ((i + 1 : Nat) : Int) * B = i * B + B := by
    push_cast
    rw [Int.add_mul, Int.one_mul]
  refine ⟨?_, ?_, ?_, ?_, ?_, ?_, ?_, ?_, ?_⟩
  · rw [List.length_append]
    have := D.len
    show os.length + 1 ≤ i + 1
    omega
  · have := length_putK kvs (.inr (nmS a)) (.int (l + 1))
    have := D.klen
    omega
  · intro o h
    rcases mem h with h | rfl
    · exact D.ok o h
    · exact ⟨nmS_addr ha, nmS_addr hb', hne, by show 0 ≤ f; omega, fl, by show l ≤ _; omega, w1, by show w ≤ 30; omega⟩
  · refine List.pairwise_append.mpr ⟨D.apart, by simp, fun o ho p hp => ?_⟩
    rw [List.mem_singleton.mp hp]
    by_cases q : o.src = nmS a
    · obtain ⟨z', e1, e2⟩ := D.free o ho
      rw [q] at e1
      rw [e1] at hz
      cases hz
      have : ¬ f ≤ o.last := by omega
      show (_ && (_ && decide (f ≤ o.last))) = false
      rw [decide_eq_false this, Bool.and_false, Bool.and_false]
    · show (decide (o.src = nmS a) && _) = false
      rw [decide_eq_false q, Bool.false_and]
  · intro o h
    rcases mem h with h | rfl
    · exact D.names o h
    · exact ⟨a, b, ha, hb', rfl, rfl⟩
  · intro o h
    rcases mem h with h | rfl
    · exact D.ways o h
    · exact w14
  · intro s v h
    rw [valV_put] at h
    rw [eB]
    by_cases ea : (Sum.inr s : Key) = Sum.inr (nmS a)
    · rw [if_pos ea] at h
      cases h
      exact ⟨l + 1, rfl, by omega, by omega⟩
    · rw [if_neg ea] at h
      obtain ⟨z', e1, e2, e3⟩ := D.vals s v h
      exact ⟨z', e1, e2, by omega⟩
  · intro o h
    rw [valV_put]
    rcases mem h with h | rfl
    · by_cases ea : (Sum.inr o.src : Key) = Sum.inr (nmS a)
      · rw [if_pos ea]
        refine ⟨l + 1, rfl, ?_⟩
        obtain ⟨z', e1, e2⟩ := D.free o h
        rw [ea] at e1
        rw [e1] at hz
        cases hz
        omega
      · rw [if_neg ea]
        exact D.free o h
    · rw [if_pos rfl]
      exact ⟨l + 1, rfl, by show l < l + 1; omega⟩
  · intro o h
    rcases mem h with h | rfl
    · exact D.spans o h
    · exact lf
theorem overB_comm (o p : Ordr) : overB o p = overB p o := by
  unfold overB
  by_cases e : o.src = p.src
  · rw [decide_eq_true e, decide_eq_true e.symm, Bool.true_and, Bool.true_and, Bool.and_comm]
  · rw [decide_eq_false e, decide_eq_false (show ¬ p.src = o.src from fun z => e z.symm), Bool.false_and, Bool.false_and]
theorem DrawnSo.done {most long i t : Nat} {os : List Ordr} {kvs : List (Key × V)} (D : DrawnSo (14 + max 12 (long : Int)) i os kvs) (hi : i ≤ most) (hm : most ≤ 30) : DrawnOs most long (os.drop t ++ os.take t) := by
  have mem : ∀ {o}, o ∈ os.drop t ++ os.take t → o ∈ os := fun {o} h => by
    rcases List.mem_append.mp h with h | h
    · exact List.mem_of_mem_drop h
    · exact List.mem_of_mem_take h
  have el : (os.drop t ++ os.take t).length = os.length := by
    rw [List.length_append, List.length_drop, List.length_take]
    omega
  have hl := D.len
  have ap : (os.take t ++ os.drop t).Pairwise fun o p => overB o p = false := by
    rw [List.take_append_drop]
    exact D.apart
  obtain ⟨a1, a2, a3⟩ := List.pairwise_append.mp ap
  have tg : ∀ o ∈ os.drop t ++ os.take t, o.last < (most : Int) * (14 + max 12 (long : Int)) := fun o h => by
    obtain ⟨z, e1, e2⟩ := D.free o (mem h)
    obtain ⟨z', e3, e4, e5⟩ := D.vals _ _ e1
    cases e3
    have : (i : Int) * (14 + max 12 (long : Int)) ≤ (most : Int) * (14 + max 12 (long : Int)) := Int.mul_le_mul_of_nonneg_right (by omega) (by omega)
    omega
  refine ⟨⟨by omega, fun o h => D.ok o (mem h), ?_⟩, by omega, fun o h => D.names o (mem h), tg, fun o h => ?_, fun o h => D.ways o (mem h), fun o h => by have := D.spans o (mem h); omega⟩
  · exact List.pairwise_append.mpr ⟨a2, a1, fun o ho p hp => by rw [overB_comm]; exact a3 p hp o ho⟩
  · have h1 := tg o h
    have h2 : (most : Int) * (14 + max 12 (long : Int)) ≤ (most : Int) * (27 + long) := Int.mul_le_mul_of_nonneg_left (by omega) (by omega)
    omega
theorem cut_drop (xs : List V) (i : Nat) (h : i ≤ xs.length) : cutV xs (some (i : Int)) none = xs.drop i := by
  unfold cutV
  rw [HT.sIx_none, HT.sIx_nat, Nat.min_eq_left h, List.take_of_length_le (by rw [List.length_drop]; omega)]
theorem pairedDrop {α β : Type} {r : α → β → Prop} : ∀ {as : List α} {bs : List β} (n : Nat), PySem.Paired r as bs → PySem.Paired r (as.drop n) (bs.drop n)
  | _, _, 0, h => h
  | _, _, n + 1, .nil => .nil
  | _, _, n + 1, .cons _ h => pairedDrop n h
theorem pairedTake {α β : Type} {r : α → β → Prop} : ∀ {as : List α} {bs : List β} (n : Nat), PySem.Paired r as bs → PySem.Paired r (as.take n) (bs.take n)
  | _, _, 0, h => .nil
  | _, _, n + 1, .nil => .nil
  | _, _, n + 1, .cons h1 h => .cons h1 (pairedTake n h)
structure OSt (K : PySem.W.Frag) (H0 H : Hp) (rw sc : Addr) (ns : List Int) (lf df : Addr) (as : List Addr) (os : List Ordr) (kvs : List (Key × V)) (B : Int) (i : Nat) : Prop where
  kr : KeepR rw H0 H
  row : RowAt K H rw sc ns
  hl : H lf = some (.lst (as.map V.ref))
  hd : H df = some (.dK kvs)
  ords : OrdsAt K H as os
  D : DrawnSo B i os kvs
  nl : H0 lf = none
  nd : H0 df = none
  lr : lf ≠ rw
  dr : df ≠ rw
section
variable {H0 H H' : Hp} {rw sc lf df : Addr} {ns : List Int} {as : List Addr} {os : List Ordr} {kvs : List (Key × V)} {B : Int} {i : Nat}
theorem OSt.taken (S : OSt K H0 H rw sc ns lf df as os kvs B i) (R : RowAt K H' rw sc ns) (k : KeepR rw H H') : OSt K H0 H' rw sc ns lf df as os kvs B i :=
  ⟨S.kr.trans k, R, k _ _ S.hl S.lr, k _ _ S.hd S.dr, S.ords.keepR (k.tup S.row), S.D, S.nl, S.nd, S.lr, S.dr⟩
theorem OSt.same (S : OSt K H0 H rw sc ns lf df as os kvs B i) (s : Same H H') : OSt K H0 H' rw sc ns lf df as os kvs B i := S.taken (S.row.keep s) (KeepR.of s)
end
theorem pick3 {a b c v : Int} (h0 : 0 ≤ v) (h3 : v < 3) : ∃ z, atI [V.int a, .int b, .int c] v = some (.int z) ∧ (z = a ∨ z = b ∨ z = c) := by
  have : v = 0 ∨ v = 1 ∨ v = 2 := by omega
  rcases this with rfl | rfl | rfl
  · exact ⟨a, rfl, .inl rfl⟩
  · exact ⟨b, rfl, .inr (.inl rfl)⟩
  · exact ⟨c, rfl, .inr (.inr rfl)⟩
def spOrders (K : PySem.W.Frag) : Sp := fun vs H Q _ => ∃ rw sc ns, ∃ most long : Nat, vs = [.ref rw, .int (most : Nat), .int (long : Nat)] ∧ RowAt K H rw sc ns ∧ most ≤ 20 ∧ 1 ≤ long ∧ long ≤ 200 ∧
  ∀ H' l as os, KeepR rw H H' → H l = none → RowAt K H' rw sc ns → H' l = some (.lst (as.map V.ref)) → OrdsAt K H' as os → DrawnOs most long os → Q (.ref l) H'
theorem ok_orders (T : Top K mg C_Book C_MailError C_InvalidOrder C_UnknownOrder C_InvalidAddress C_InvalidDay C_InvalidNumber) : GFn P w K mg base CX0 2 "_law_orders" (spOrders K) := by
  have G__law_taken : GFn P w K mg base CX0 1 "_law_taken" (spTaken K) := ok_taken T
  refine T.d__law_orders.fn fun f fd F => F.ok sc__law_orders (fun vs H Q E h => ?_) (fun cdv A outer s H vs Q E hr h => ?_)
  · obtain ⟨rw, sc, ns, most, long, rfl, _⟩ := h
    rfl
  · obtain ⟨rw', sc, ns, most, long, rfl, R, hm, l1, l2, k⟩ := h
    have hu := hu_of hr
    refine ⟨_, (C8.pss_cut (ps_par3 (i := 3) (j := 4) (l := 5) (by rfl) sc__law_orders.nd rfl rfl rfl (by decide) (by decide) (by decide) rfl rfl rfl (pa_cons (pe_lst pa_nil) (pa_cons pe_dnewK (pa_cons (pe_slice sl_str pe_str po_none (po_some (pe_op op_add pe_int (pe_g G__law_taken (hr.mono (by decide)) (pa_cons (pv 0) (pa_cons pe_int pa_nil)))))) pa_nil))) (by rfl))
  (C8.pss_cut (ps_for PassesOwn.never rfl (pi_range1 (by rfl) T.b_range (pa_cons (pe_g G__law_taken (hr.mono (by decide)) (pa_cons (pv 0) (pa_cons (pe_op op_add (pv 1) pe_int) pa_nil))) pa_nil)) (pg_name (i := 6) sc__law_orders.nd rfl (Or.inl rfl))
  (C8.pss_cut (ps_par (i := 7) (j := 8) (by rfl) sc__law_orders.nd rfl rfl (by decide) rfl rfl (pa_cons (pe_ix ix_str (pv 5) (pe_g G__law_taken (hr.mono (by decide)) (pa_cons (pv 0) (pa_cons (pe_callB call_len_str (by rfl) T.b_len (by decide +kernel) (pa_cons (pv 5) pa_nil)) pa_nil))) (fun _ _ => rfl)) (pa_cons (pe_ix ix_str (pv 5) (pe_g G__law_taken (hr.mono (by decide)) (pa_cons (pv 0) (pa_cons (pe_callB call_len_str (by rfl) T.b_len (by decide +kernel) (pa_cons (pv 5) pa_nil)) pa_nil))) (fun _ _ => rfl)) pa_nil)) (by rfl))
  (pss_one (ps_if (pt_cmpR op_ne (pv 7) (pv 8) (nomark _))
  (C8.pss_cut (ps_set (i := 9) sc__law_orders.nd rfl (Or.inl rfl) (pe_op op_add (pe_dget2 hu (pv 4) (pv 7) pe_int ⟨rfl, rfl, rfl, rfl⟩) (pe_g G__law_taken (hr.mono (by decide)) (pa_cons (pv 0) (pa_cons (pe_ix ix_list (pe_lst (pa_cons pe_int (pa_cons pe_int (pa_cons pe_int pa_nil)))) (pe_g G__law_taken (hr.mono (by decide)) (pa_cons (pv 0) (pa_cons pe_int pa_nil))) (fun _ _ => rfl)) pa_nil)))))
  (C8.pss_cut (ps_set (i := 10) sc__law_orders.nd rfl (Or.inl rfl) (pe_op op_add (pv 9) (pe_g G__law_taken (hr.mono (by decide)) (pa_cons (pv 0) (pa_cons (pe_ix ix_list (pe_lst (pa_cons pe_int (pa_cons pe_int (pa_cons (pv 2) pa_nil)))) (pe_g G__law_taken (hr.mono (by decide)) (pa_cons (pv 0) (pa_cons pe_int pa_nil))) (fun _ _ => rfl)) pa_nil)))))
  (pss_cons (ps_expr (pe_bm PySem.F.plainAttrs_list PySem.F.slot_list_append PySem.F.type_list_append mt_append (pv 3) (pa_cons (pe_tup (pa_cons (pv 7) (pa_cons (pv 8) (pa_cons (pv 9) (pa_cons (pv 10) (pa_cons (pe_op op_add pe_int (pe_g G__law_taken (hr.mono (by decide)) (pa_cons (pv 0) (pa_cons (pe_ix ix_list (pe_lst (pa_cons pe_int (pa_cons pe_int (pa_cons pe_int pa_nil)))) (pe_g G__law_taken (hr.mono (by decide)) (pa_cons (pv 0) (pa_cons pe_int pa_nil))) (fun _ _ => rfl)) pa_nil)))) pa_nil)))))) pa_nil)))
  (pss_one (ps_dput hu (pv 4) (pv 7) (pe_op op_add (pv 10) pe_int) rfl)))))
  pss_nil))))
  (pss_cons (ps_set (i := 11) sc__law_orders.nd rfl (Or.inl rfl) (pe_g G__law_taken (hr.mono (by decide)) (pa_cons (pv 0) (pa_cons (pe_op op_add (pe_callB call_len_seq (by rfl) T.b_len (by decide +kernel) (pa_cons (pv 3) pa_nil)) pe_int) pa_nil))))
  (pss_one (ps_ret (pe_op op_cat (pe_slice sl_list (pv 3) (po_some (pv 11)) po_none) (pe_slice sl_list (pv 3) po_none (po_some (pv 11))))))))), ?_⟩
    refine ⟨fun σ' H' => ∃ n lf df, ∃ v6 v7 v8 v9 v10 v11, 2 ≤ n ∧ n ≤ 6 ∧ σ' = [some (.ref rw'), some (.int (most : Nat)), some (.int (long : Nat)), some (.ref lf), some (.ref df), some (.str (nameT n)), v6, v7, v8, v9, v10, v11] ∧ OSt K H H' rw' sc ns lf df [] [] [] (14 + max 12 (long : Int)) 0, ?_, ?_⟩
    · refine ⟨(by show 0 ≤ sizeLine; decide), fun lf hlf => ?_⟩
      intro df hdf
      have hdf0 : H df = none := (Same.new hlf).free hdf
      have ne : lf ≠ df := ne_of_none (o := .lst []) upd_same hdf
      obtain ⟨xs, hrw⟩ := R.ex
      have lr : lf ≠ rw' := (ne_of_none hrw hlf).symm
      have dr : df ≠ rw' := (ne_of_none hrw hdf0).symm
      have s2 : Same H (upd (upd H lf (.lst [])) df (.dK [])) := MF.Same.upd (Same.new hlf) hdf
      have S0 : OSt K H (upd (upd H lf (.lst [])) df (.dK [])) rw' sc ns lf df [] [] [] (14 + max 12 (long : Int)) 0 := ⟨KeepR.of s2, R.keep s2, by rw [upd_ne ne, upd_same]; rfl, upd_same, .nil, .nil _, hlf, hdf0, lr, dr⟩
      refine ⟨_, rfl, rw', sc, ns, 5, rfl, S0.row, (by decide), (by decide), fun v H1 v0 v1 R1 k1 => ?_⟩
      have S1 := S0.taken R1 k1
      refine ⟨_, _, rfl, rfl, _, rfl, _, rfl, (by decide +kernel), _, _, _, rfl, ?_⟩
      have e : (((2 + v).toNat : Nat) : Int) = 2 + v := by omega
      refine ⟨(2 + v).toNat, lf, df, none, none, none, none, none, none, by omega, by omega, ?_, S1⟩
      unfold nameT
      rw [e]
      rfl
    rintro σ H1 ⟨n, lf, df, v6, v7, v8, v9, v10, v11, n2, n6, rfl, S1⟩
    have nz := (names_at n2 n6).1
    have nl : (nameT n).length = n := by
      have : n = 2 ∨ n = 3 ∨ n = 4 ∨ n = 5 ∨ n = 6 := by omega
      rcases this with rfl | rfl | rfl | rfl | rfl <;> decide +kernel
    refine ⟨fun σ' H' => ∃ as os kvs, ∃ i : Nat, ∃ v6 v7 v8 v9 v10 v11, i ≤ most ∧ σ' = [some (.ref rw'), some (.int (most : Nat)), some (.int (long : Nat)), some (.ref lf), some (.ref df), some (.str (nameT n)), v6, v7, v8, v9, v10, v11] ∧ OSt K H H' rw' sc ns lf df as os kvs (14 + max 12 (long : Int)) i, ?_, ?_⟩
    · refine ⟨_, rfl, _, rfl, _, _, rfl, rfl, rw', sc, ns, _, rfl, S1.row, (by omega), (by omega), fun r H2 r0 r1 R2 k2 => ⟨r, rfl, (by omega), (by omega), for_it walk_range (fun i σ' H' => ∃ as os kvs, ∃ v6 v7 v8 v9 v10 v11, σ' = [some (.ref rw'), some (.int (most : Nat)), some (.int (long : Nat)), some (.ref lf), some (.ref df), some (.str (nameT n)), v6, v7, v8, v9, v10, v11] ∧ OSt K H H' rw' sc ns lf df as os kvs (14 + max 12 (long : Int)) i) ⟨[], [], [], v6, v7, v8, v9, v10, v11, rfl, S1.taken R2 k2⟩ (fun _ _ _ _ _ => trivial) ?_ ?_⟩⟩
      · rintro i y σ' H3 H4 hi ⟨as, os, kvs, w6, w7, w8, w9, w10, w11, rfl, S3⟩ ⟨rfl, rfl⟩
        refine ⟨fun σ' H' => ∃ a b, a < 6 ∧ b < 6 ∧ σ' = [some (.ref rw'), some (.int (most : Nat)), some (.int (long : Nat)), some (.ref lf), some (.ref df), some (.str (nameT n)), some (.int (0 + (i : Int))), some (.str (nmS a)), some (.str (nmS b)), w9, w10, w11] ∧ OSt K H H' rw' sc ns lf df as os kvs (14 + max 12 (long : Int)) i, ?_, ?_⟩
        · refine ⟨_, rfl, _, rfl, _, rfl, _, rfl, nz, rw', sc, ns, _, rfl, S3.row, (by omega), (by omega), fun a H5 a0 a1 R5 k5 => ?_⟩
          rw [nl] at a1
          have S5 := S3.taken R5 k5
          refine ⟨_, _, _, rfl, rfl, nz, names_ix n2 n6 a0 (by omega), ?_⟩
          refine ⟨_, rfl, _, rfl, _, rfl, _, rfl, nz, rw', sc, ns, _, rfl, S5.row, (by omega), (by omega), fun b H6 b0 b1 R6 k6 => ?_⟩
          rw [nl] at b1
          refine ⟨_, _, _, rfl, rfl, nz, names_ix n2 n6 b0 (by omega), _, _, rfl, ?_⟩
          exact ⟨a.toNat, b.toNat, by omega, by omega, rfl, S5.taken R6 k6⟩
        rintro σ' H5 ⟨a, b, ha, hb, rfl, S5⟩
        refine ⟨_, rfl, _, rfl, rfl, _, rfl, ?_⟩
        by_cases hne : V.str (nmS a) = V.str (nmS b)
        · refine iteND hne ?_
          exact ⟨as, os, kvs, _, _, _, _, _, _, rfl, { S5 with D := S5.D.skip (by omega) }⟩
        refine iteNDN hne ?_
        have hiB : (i : Int) * (14 + max 12 (long : Int)) ≤ 20 * (14 + max 12 (long : Int)) := Int.mul_le_mul_of_nonneg_right (by omega) (by omega)
        obtain ⟨z, hz, z0⟩ : ∃ z : Int, (valV kvs (.inr (nmS a) : Key)).getD (.int 0) = .int z ∧ 0 ≤ z := by
          cases q : valV kvs (.inr (nmS a) : Key) with
          | none => exact ⟨0, rfl, Int.le_refl _⟩
          | some v =>
            obtain ⟨z', e1, e2, e3⟩ := S5.D.vals _ _ q
            exact ⟨z', by rw [e1]; rfl, e2⟩
        refine ⟨fun σ' H' => ∃ f, z ≤ f ∧ f ≤ z + 14 ∧ σ' = [some (.ref rw'), some (.int (most : Nat)), some (.int (long : Nat)), some (.ref lf), some (.ref df), some (.str (nameT n)), some (.int (0 + (i : Int))), some (.str (nmS a)), some (.str (nmS b)), some (.int f), w10, w11] ∧ OSt K H H' rw' sc ns lf df as os kvs (14 + max 12 (long : Int)) i, ?_, ?_⟩
        · refine ⟨_, rfl, df, rfl, .inl ⟨kvs, .inl S5.hd⟩, _, rfl, _, DGet.k (k := Sum.inr (nmS a)) S5.hd, _, rfl, (by show 3 ≤ sizeLine; decide), fun p hp => ?_⟩
          have S6 := S5.same (Same.new (o := .lst [.int 1, .int 4, .int 15]) hp)
          have pr : p ≠ rw' := by
            obtain ⟨xs, q⟩ := S5.row.ex
            exact (ne_of_none q hp).symm
          refine ⟨_, rfl, rw', sc, ns, 3, rfl, S6.row, (by decide), (by decide), fun c H7 c0 c1 R7 k7 => ?_⟩
          have S7 := S6.taken R7 k7
          obtain ⟨y, ey, hy⟩ := pick3 (a := 1) (b := 4) (c := 15) c0 c1
          refine ⟨p, _, _, _, rfl, rfl, SqL.of (k7 _ _ upd_same pr), ey, rw', sc, ns, y, rfl, S7.row, (by omega), (by omega), fun d H8 d0 d1 R8 k8 => ⟨z, d, hz, rfl, ?_⟩⟩
          exact ⟨z + d, by omega, by omega, rfl, S7.taken R8 k8⟩
        clear S5
        rintro σ' H5 ⟨f, f0, f1, rfl, S5⟩
        refine ⟨fun σ' H' => ∃ l, f ≤ l ∧ l + 1 ≤ f + max 12 (long : Int) ∧ σ' = [some (.ref rw'), some (.int (most : Nat)), some (.int (long : Nat)), some (.ref lf), some (.ref df), some (.str (nameT n)), some (.int (0 + (i : Int))), some (.str (nmS a)), some (.str (nmS b)), some (.int f), some (.int l), w11] ∧ OSt K H H' rw' sc ns lf df as os kvs (14 + max 12 (long : Int)) i, ?_, ?_⟩
        · refine ⟨_, rfl, _, rfl, _, rfl, (by show 3 ≤ sizeLine; decide), fun p hp => ?_⟩
          have S6 := S5.same (Same.new (o := .lst [.int 3, .int 12, .int (long : Nat)]) hp)
          have pr : p ≠ rw' := by
            obtain ⟨xs, q⟩ := S5.row.ex
            exact (ne_of_none q hp).symm
          refine ⟨_, rfl, rw', sc, ns, 3, rfl, S6.row, (by decide), (by decide), fun c H7 c0 c1 R7 k7 => ?_⟩
          have S7 := S6.taken R7 k7
          obtain ⟨y, ey, hy⟩ := pick3 (a := 3) (b := 12) (c := (long : Nat)) c0 c1
          refine ⟨p, _, _, _, rfl, rfl, SqL.of (k7 _ _ upd_same pr), ey, rw', sc, ns, y, rfl, S7.row, (by omega), (by omega), fun d H8 d0 d1 R8 k8 => ⟨_, _, rfl, rfl, ?_⟩⟩
          exact ⟨f + d, by omega, by omega, rfl, S7.taken R8 k8⟩
        clear S5
        rintro σ' H5 ⟨l, g0, g1, rfl, S5⟩
        refine ⟨_, rfl, .inl ⟨rfl, _, SqL.of S5.hl⟩, _, rfl, _, rfl, _, rfl, _, rfl, _, rfl, (by show 3 ≤ sizeLine; decide), fun p hp => ?_⟩
        have S6 := S5.same (Same.new (o := .lst [.int 1, .int 3, .int 14]) hp)
        have pr : p ≠ rw' := by
          obtain ⟨xs, q⟩ := S5.row.ex
          exact (ne_of_none q hp).symm
        refine ⟨_, rfl, rw', sc, ns, 3, rfl, S6.row, (by decide), (by decide), fun c H7 c0 c1 R7 k7 => ?_⟩
        have S7 := S6.taken R7 k7
        obtain ⟨y, ey, hy⟩ := pick3 (a := 1) (b := 3) (c := 14) c0 c1
        refine ⟨p, _, _, _, rfl, rfl, SqL.of (k7 _ _ upd_same pr), ey, rw', sc, ns, y, rfl, S7.row, (by omega), (by omega), fun d H8 d0 d1 R8 k8 => ⟨_, _, rfl, rfl, (by show 5 ≤ sizeLine; decide), fun q hq => ?_⟩⟩
        have S8 := S7.taken R8 k8
        have nlq : lf ≠ q := ne_of_none S8.hl hq
        have ndq : df ≠ q := ne_of_none S8.hd hq
        have nld : lf ≠ df := ne_of S8.hl S8.hd (by intro z; cases z)
        have hal : as.length ≤ 20 := by
          have := PySem.Paired.length S8.ords
          have := S8.D.len
          omega
        refine ⟨lf, _, _, rfl, rfl, (by rw [upd_ne nlq]; exact S8.hl), (by rw [List.length_map, sizeLine_eq]; omega), ?_⟩
        refine ⟨_, rfl, _, _, rfl, rfl, _, rfl, _, rfl, df, _, rfl, DPut.k (k := Sum.inr (nmS a)) (by rw [upd_ne nld.symm, upd_ne ndq]; exact S8.hd) (small1000 (by have := S8.D.klen; omega)), ?_⟩
        have hqr : rw' ≠ q := by
          obtain ⟨xs, z⟩ := S8.row.ex
          exact ne_of_none z hq
        have kr9 : KeepR rw' H (upd (upd (upd H8 q (.tup [.str (nmS a), .str (nmS b), .int f, .int l, .int (1 + d)])) lf (.lst (as.map V.ref ++ [.ref q]))) df (.dK (putK kvs (.inr (nmS a)) (.int (l + 1))))) := fun c u e nc => by
          rw [upd_ne (ne_of_none e S8.nd), upd_ne (ne_of_none e S8.nl), upd_ne (ne_of_none (S8.kr c u e nc) hq)]
          exact S8.kr c u e nc
        refine ⟨as ++ [q], os ++ [⟨nmS a, nmS b, f, l, 1 + d⟩], putK kvs (.inr (nmS a)) (.int (l + 1)), _, _, _, _, _, _, rfl, kr9, ?_, ?_, upd_same, ?_, ?_, S8.nl, S8.nd, S8.lr, S8.dr⟩
        · exact R.via kr9 S8.row fun u e => by
            rw [upd_ne S8.dr.symm, upd_ne S8.lr.symm, upd_ne hqr]
            exact e
        · rw [upd_ne nld, upd_same, List.map_append]
          rfl
        · refine Paired.append (S8.ords.keepR fun c u e z => ?_) (.cons (.inl (.inl ?_)) .nil)
          · rw [upd_ne (fun x => by rw [x, S8.hd] at e; cases e; cases z), upd_ne (fun x => by rw [x, S8.hl] at e; cases e; cases z), upd_ne (ne_of_none e hq)]
            exact e
          · rw [upd_ne ndq.symm, upd_ne nlq.symm, upd_same]
            rfl
        · exact S8.D.snoc (by omega) (by omega) (by omega) ha hb (fun z => hne (by rw [z])) hz f0 g0 (by omega) (by omega) (by omega) (by omega)
      · rintro σ' H3 ⟨as, os, kvs, w6, w7, w8, w9, w10, w11, rfl, S3⟩
        exact ⟨as, os, kvs, r.toNat, w6, w7, w8, w9, w10, w11, by omega, rfl, S3⟩
    rintro σ H2 ⟨as, os, kvs, i, v6, v7, v8, v9, v10, v11, hi, rfl, S2⟩
    have hal := PySem.Paired.length S2.ords
    have hol := S2.D.len
    refine ⟨_, rfl, _, rfl, lf, _, rfl, .inl (SqL.of S2.hl), _, _, rfl, rfl, rw', sc, ns, _, rfl, S2.row, (by omega), (by rw [List.length_map]; omega), fun t H3 t0 t1 R3 k3 => ?_⟩
    rw [List.length_map] at t1
    obtain ⟨tn, rfl⟩ : ∃ tn : Nat, t = (tn : Int) := ⟨t.toNat, by omega⟩
    have S3 := S2.taken R3 k3
    refine ⟨_, rfl, _, rfl, _, rfl, lf, _, rfl, SqL.of S3.hl, fun p1 hp1 => ?_⟩
    have n1 : lf ≠ p1 := ne_of_none S3.hl hp1
    refine ⟨_, rfl, _, rfl, _, rfl, lf, _, rfl, SqL.of (by rw [upd_ne n1]; exact S3.hl), fun p2 hp2 => ?_⟩
    have n12 : p1 ≠ p2 := ne_of_none (o := _) upd_same hp2
    refine ⟨p1, p2, _, _, rfl, rfl, (by rw [upd_ne n12]; exact upd_same), upd_same, ?_, fun p3 hp3 => ?_⟩
    · have a1 := cutV_length (as.map V.ref) (some (tn : Int)) none
      have a2 := cutV_length (as.map V.ref) none (some (tn : Int))
      rw [List.length_map] at a1 a2
      rw [sizeLine_eq]
      omega
    have s1 : Same H3 (upd H3 p1 (.lst (cutV (as.map V.ref) (some (tn : Int)) none))) := Same.new hp1
    have s2 := MF.Same.upd (o := .lst (cutV (as.map V.ref) none (some (tn : Int)))) s1 hp2
    have s3 := MF.Same.upd (o := .lst (cutV (as.map V.ref) (some (tn : Int)) none ++ cutV (as.map V.ref) none (some (tn : Int)))) s2 hp3
    have hp30 : H3 p3 = none := s2.free hp3
    have hp00 : H p3 = none := by
      cases q : H p3 with
      | none => rfl
      | some u =>
        by_cases z : p3 = rw'
        · obtain ⟨xs, e⟩ := S3.row.ex
          rw [z, e] at hp30
          cases hp30
        · rw [S3.kr _ _ q z] at hp30
          cases hp30
    refine k _ p3 (as.drop tn ++ as.take tn) (os.drop tn ++ os.take tn) (S3.kr.trans (KeepR.of s3)) hp00 (S3.row.keep s3) ?_ ?_ (S3.D.done hi (by omega))
    · rw [upd_same, cut_drop _ _ (by rw [List.length_map]; omega), cut_take _ _ (by rw [List.length_map]; omega), List.map_append, List.map_drop, List.map_take]
    · exact OrdsAt.mono (Paired.append (pairedDrop tn S3.ords) (pairedTake tn S3.ords)) s3
end

end MF
set_option Elab.async false
set_option linter.all false
set_option maxRecDepth 100000
set_option maxHeartbeats 2000000
set_option pp.maxSteps 600
namespace MF
open PySem PySem.Spec PyProof.Rows L2 StX
section
variable {P : Program} {w : World} {K : PySem.W.Frag} {mg : Str → Option Value} {base : Heap} {C_Book C_MailError C_InvalidOrder C_UnknownOrder C_InvalidAddress C_InvalidDay C_InvalidNumber : Addr}
def mvO (n : Int) (o : Ordr) : Ordr := ⟨o.src, o.tgt, o.first + n, o.last + n, o.way⟩
theorem mv_good {os : List Ordr} {n : Int} (g : Good os) (h0 : ∀ o ∈ os, 0 ≤ o.first + n) (h1 : ∀ o ∈ os, o.last + n ≤ 1000000000000000000) : Good (os.map (mvO n)) := by
  refine ⟨by rw [List.length_map]; exact g.len, fun o ho => ?_, ?_⟩
  · obtain ⟨p, hp, rfl⟩ := List.mem_map.mp ho
    have ok := g.ok p hp
    exact ⟨ok.as, ok.at_, ok.ne, h0 p hp, by show p.first + n ≤ p.last + n; have := ok.fl; omega, h1 p hp, ok.w1, ok.w30⟩
  · refine List.pairwise_map.mpr (g.apart.imp fun {o p} h => ?_)
    rw [← h]
    unfold overB mvO
    simp only
    congr 1
    congr 1
    · rw [Bool.eq_iff_iff, decide_eq_true_eq, decide_eq_true_eq]; omega
    · rw [Bool.eq_iff_iff, decide_eq_true_eq, decide_eq_true_eq]; omega
theorem mv_holds (n : Int) (o : Ordr) (x : Str) (d : Int) : holds (mvO n o) x (d + n) = holds o x d := by
  unfold holds mvO
  simp only
  congr 1
  congr 1
  · rw [Bool.eq_iff_iff, decide_eq_true_eq, decide_eq_true_eq]; omega
  · rw [Bool.eq_iff_iff, decide_eq_true_eq, decide_eq_true_eq]; omega
theorem mv_ordFor (n : Int) (x : Str) (d : Int) : ∀ os : List Ordr, ordFor (os.map (mvO n)) x (d + n) = ordFor os x d
  | [] => rfl
  | o :: os => by
    show (if holds (mvO n o) x (d + n) = true then some 0 else (ordFor (os.map (mvO n)) x (d + n)).map (· + 1)) = (if holds o x d = true then some 0 else (ordFor os x d).map (· + 1))
    rw [mv_holds, mv_ordFor n x d os]
theorem mv_nxt (n : Int) (os : List Ordr) (s : Pt) : nxt (os.map (mvO n)) (s.1, s.2 + n) = (nxt os s).map fun t => (t.1, t.2 + n) := by
  unfold nxt
  simp only
  rw [mv_ordFor]
  cases ordFor os s.1 s.2 with
  | none => rfl
  | some i =>
    show ((os.map (mvO n))[i]?.map fun o => (o.tgt, s.2 + n + o.way)) = (os[i]?.map fun o => (o.tgt, s.2 + o.way)).map fun t => (t.1, t.2 + n)
    rw [List.getElem?_map]
    generalize os[i]? = q
    cases q with
    | none => rfl
    | some o =>
      show some (o.tgt, s.2 + n + o.way) = some (o.tgt, s.2 + o.way + n)
      congr 2
      omega
theorem mv_go {n : Int} {os : List Ordr} {s t : Pt} {k : Nat} (g : Go os s k t) : Go (os.map (mvO n)) (s.1, s.2 + n) k (t.1, t.2 + n) := by
  induction g with
  | refl => exact .refl _
  | step e _ ih => exact .step (by rw [mv_nxt, e]; rfl) ih
theorem mv_ends {n : Int} {os : List Ordr} {s t : Pt} {k : Nat} (e : Ends os s k t) : Ends (os.map (mvO n)) (s.1, s.2 + n) k (t.1, t.2 + n) := ⟨mv_go e.1, by rw [mv_nxt, e.2]; rfl⟩
def spMoved (K : PySem.W.Frag) : Sp := fun vs H Q _ => ∃ t as os n, vs = [.ref t, .int n] ∧ SqT K H t (as.map V.ref) ∧ OrdsAt K H as os ∧ os.length ≤ 30 ∧ 0 - 1000000000000000000 ≤ n ∧ n ≤ 1000000000000000000 ∧
  ∀ H' l bs, Same H H' → H' l = some (.lst (bs.map V.ref)) → OrdsAt K H' bs (os.map (mvO n)) → Q (.ref l) H'
theorem ok_moved (T : Top K mg C_Book C_MailError C_InvalidOrder C_UnknownOrder C_InvalidAddress C_InvalidDay C_InvalidNumber) : GFn P w K mg base CX0 2 "moved" (spMoved K) := by
  have G_is_integer : GFn P w K mg base CX0 1 "is_integer" spIsInteger := ok_is_integer T
  refine T.d_moved.fn fun f fd F => F.ok sc_moved (fun vs H Q E h => ?_) (fun cdv A outer s H vs Q E hr h => ?_)
  · obtain ⟨t, as, os, n, rfl, _⟩ := h
    rfl
  · obtain ⟨t, as, os, n, rfl, ht, O, l30, n0, n1, k⟩ := h
    refine ⟨_, (pss_cons (ps_if (pt_not (pt_val (pe_g G_is_integer (hr.mono (by decide)) (pa_cons (pv 1) (pa_cons (pe_op op_sub pe_int (pe_gint T.c_MAX_DAY)) (pa_cons (pe_gint T.c_MAX_DAY) pa_nil))))))
  (pss_one ps_never)
  pss_nil)
  (pss_one (ps_ret (pe_lc (own := [("source", 2), ("target", 3), ("first", 4), ("last", 5), ("way", 6)]) (g := (gTup K 5 (gCons (gName 2) (gCons (gName 3) (gCons (gName 4) (gCons (gName 5) (gCons (gName 6) gNil))))))) (by rfl) sc_moved.nd (pi_tup (pv 0)) (blkOk_by (own := [("source", 2), ("target", 3), ("first", 4), ("last", 5), ("way", 6)]) (N := ["orders", "days", "source", "target", "first", "last", "way"]) (sc := defScope s_moved) (by decide +kernel)) (fun _ _ _ _ _ => (pg_tup rfl (pgs_cons (pg_name (i := 2) sc_moved.nd rfl (Or.inl rfl)) (pgs_cons (pg_name (i := 3) sc_moved.nd rfl (Or.inl rfl)) (pgs_cons (pg_name (i := 4) sc_moved.nd rfl (Or.inl rfl)) (pgs_cons (pg_name (i := 5) sc_moved.nd rfl (Or.inl rfl)) (pgs_cons (pg_name (i := 6) sc_moved.nd rfl (Or.inl rfl)) pgs_nil))))))) (fun _ _ _ _ _ => pts_nil) (fun _ _ _ _ _ => (pe_tup (pa_cons (pv 2) (pa_cons (pv 3) (pa_cons (pe_op op_add (pv 4) (pv 1)) (pa_cons (pe_op op_add (pv 5) (pv 1)) (pa_cons (pv 6) pa_nil))))))))))), ?_⟩
    have hin : isIntB (.int n) (0 - 1000000000000000000) 1000000000000000000 = true := by
      show (decide (0 - 1000000000000000000 ≤ n) && decide (n ≤ 1000000000000000000)) = true
      rw [decide_eq_true n0, decide_eq_true n1]
      rfl
    refine ⟨_, rfl, _, _, rfl, rfl, ?_⟩
    refine ⟨.int n, 0 - 1000000000000000000, 1000000000000000000, rfl, rfl, ?_⟩
    refine ⟨_, rfl, ?_⟩
    rw [hin]
    refine iteF ?_
    have la := PySem.Paired.length O
    refine ⟨_, rfl, t, rfl, ⟨_, ht⟩, fun D hD => ?_⟩
    refine lc_it (walk_tup (xs := as.map V.ref)) (fun i H' => Same H H' ∧ ∃ bs, H' D = some (.lst (bs.map V.ref)) ∧ OrdsAt K H' bs ((os.take i).map (mvO n))) ⟨Same.new hD, [], upd_same, .nil⟩ (fun i H' _ ⟨s1, _⟩ => MF.Same.tup s1 ht) ?_ ?_
    · rintro i y H2 H3 hi ⟨s2, bs, e2, O2⟩ ⟨rfl, ey⟩
      rw [List.length_map] at hi
      obtain ⟨a, ea⟩ : ∃ a, as[i]? = some a := ⟨as[i], by simp [hi]⟩
      rw [List.getElem?_map, ea] at ey
      cases ey
      obtain ⟨o, eo, oa⟩ := Paired.get O ea
      refine ⟨a, o.vals, rfl, oa.mono s2, rfl, _, _, rfl, _, _, rfl, _, _, rfl, _, _, rfl, _, _, rfl, rfl, wipe5, ?_⟩
      refine ⟨_, rfl, _, rfl, _, rfl, _, rfl, _, _, rfl, rfl, _, rfl, _, rfl, _, _, rfl, rfl, _, rfl, (by show 5 ≤ sizeLine; decide), fun q hq => ?_⟩
      have nDq : D ≠ q := ne_of_none e2 hq
      have lb := PySem.Paired.length O2
      have hup : ∀ b' u, H3 b' = some u → b' ≠ D → (upd (upd H3 q (.tup [.str o.src, .str o.tgt, .int (o.first + n), .int (o.last + n), .int o.way])) D (.lst (bs.map V.ref ++ [.ref q]))) b' = some u := fun b' u e nb => by
        rw [upd_ne nb, upd_ne (ne_of_none e hq)]
        exact e
      refine ⟨_, by rw [upd_ne nDq]; exact e2, ?_, fun b' u e => hup b' u (s2 b' u e) (ne_of_none e hD), bs ++ [q], by rw [upd_same, List.map_append]; rfl, ?_⟩
      · rw [List.length_map, lb, List.length_map, List.length_take, sizeLine_eq]
        omega
      · rw [List.take_add_one, eo, List.map_append]
        refine Paired.append (OrdsAt.keepR O2 fun b' u e z => hup b' u e fun w => ?_) (.cons (.inl (.inl ?_)) .nil)
        · rw [w, e2] at e
          cases e
          cases z
        · rw [upd_ne nDq.symm, upd_same]
          rfl
    · rintro H2 ⟨s2, bs, e2, O2⟩
      rw [List.length_map, la, List.take_length] at O2
      exact k _ D bs s2 e2 O2
def spShift (K : PySem.W.Frag) (C : Addr) : Sp := fun vs H Q _ => ∃ p os n, vs = [.ref p, .int n] ∧ BookAt K C H p os ∧ os.length ≤ 30 ∧ 0 - 1000000000000000000 ≤ n ∧ n ≤ 1000000000000000000 ∧ Good (os.map (mvO n)) ∧
  ∀ H' q, Same H H' → H q = none → BookAt K C H' q (os.map (mvO n)) → Q (.ref q) H'
theorem ok_shift (T : Top K mg C_Book C_MailError C_InvalidOrder C_UnknownOrder C_InvalidAddress C_InvalidDay C_InvalidNumber) : MFn P w K mg base CX0 6 C_Book "__rshift__" (spShift K C_Book) := by
  have G_moved : GFn P w K mg base CX0 2 "moved" (spMoved K) := ok_moved T
  have G_book_of : GFn P w K mg base CX0 5 "book_of" (spBookOf K C_Book) := ok_book_of T
  refine T.d_BookX_rshiftX.fn fun f fd F => F.ok sc_BookX_rshiftX (fun vs H Q E h => ?_) (fun cdv A outer s H vs Q E hr h => ?_)
  · obtain ⟨p, os, n, rfl, _⟩ := h
    rfl
  · obtain ⟨p, os, n, rfl, B, g, n0, n1, hm, k⟩ := h
    refine ⟨_, (pss_one (ps_ret (pe_g G_book_of (hr.mono (by decide)) (pa_cons (pe_g G_moved (hr.mono (by decide)) (pa_cons (pe_fld (pv 0) rfl) (pa_cons (pv 1) pa_nil))) pa_nil)))), ?_⟩
    obtain ⟨dx, tl, as, b1, b2, b3⟩ := id B
    refine ⟨_, rfl, p, C_Book, dx, _, _, rfl, b1, T.cl_Book, T.n_Book_listed, rfl, _, rfl, tl, as, os, n, rfl, b2, b3, g, n0, n1, fun H1 l bs s1 e1 O1 => ?_⟩
    exact ⟨l, bs, os.map (mvO n), rfl, .inr (SqL.of e1), O1, hm, fun H2 q s2 f2 B2 => k _ q (s1.trans s2) (s1.free f2) B2⟩
end

end MF
set_option Elab.async false
set_option linter.all false
set_option maxRecDepth 100000
set_option maxHeartbeats 2000000
set_option pp.maxSteps 600
namespace MF
open PySem PySem.Spec PyProof.Rows L2 StX
section
variable {P : Program} {w : World} {K : PySem.W.Frag} {mg : Str → Option Value} {base : Heap} {C_Book C_MailError C_InvalidOrder C_UnknownOrder C_InvalidAddress C_InvalidDay C_InvalidNumber : Addr}
def spBookLen (K : PySem.W.Frag) (C : Addr) : Sp := fun vs H Q _ => ∃ p os, vs = [.ref p] ∧ BookAt K C H p os ∧ Q (.int (os.length : Nat)) H
theorem ok_book_len (T : Top K mg C_Book C_MailError C_InvalidOrder C_UnknownOrder C_InvalidAddress C_InvalidDay C_InvalidNumber) : MFn P w K mg base CX0 1 C_Book "__len__" (spBookLen K C_Book) := by
  refine T.d_BookX_lenX.fn fun f fd F => F.ok sc_BookX_lenX (fun vs H Q E h => ?_) (fun cdv A outer s H vs Q E hr h => ?_)
  · obtain ⟨p, os, rfl, _⟩ := h
    rfl
  · obtain ⟨p, os, rfl, ⟨dx, t, as, h1, h2, h3⟩, k⟩ := h
    refine ⟨_, (pss_one (ps_ret (pe_callB call_len_seq (by rfl) T.b_len (by decide +kernel) (pa_cons (pe_fld (pv 0) rfl) pa_nil)))), ?_⟩
    have hl : as.length = os.length := PySem.Paired.length h3
    refine ⟨_, rfl, p, C_Book, dx, _, _, rfl, h1, T.cl_Book, T.n_Book_listed, rfl, t, _, rfl, .inr h2, ?_⟩
    rw [List.length_map, hl]
    exact k
def spBookAt (K : PySem.W.Frag) (C : Addr) : Sp := fun vs H Q _ => ∃ p os o, ∃ i : Nat, vs = [.ref p, .int (i : Nat)] ∧ BookAt K C H p os ∧ os[i]? = some o ∧ ∀ a, OrdAt K H a o → Q (.ref a) H
def spCheckOrd (K : PySem.W.Frag) (C : Addr) : Sp := fun vs H Q _ => ∃ p os, ∃ i : Nat, vs = [.ref p, .int (i : Nat)] ∧ BookAt K C H p os ∧ i < os.length ∧ Q .non H
theorem ok_book_item (T : Top K mg C_Book C_MailError C_InvalidOrder C_UnknownOrder C_InvalidAddress C_InvalidDay C_InvalidNumber) : MFn P w K mg base CX0 2 C_Book "__getitem__" (spBookAt K C_Book) := by
  have G_is_integer : GFn P w K mg base CX0 1 "is_integer" spIsInteger := ok_is_integer T
  refine T.d_BookX_getitemX.fn fun f fd F => F.ok sc_BookX_getitemX (fun vs H Q E h => ?_) (fun cdv A outer s H vs Q E hr h => ?_)
  · obtain ⟨p, os, o, i, rfl, _⟩ := h
    rfl
  · obtain ⟨p, os, o, i, rfl, ⟨dx, t, as, h1, h2, h3⟩, eo, k⟩ := h
    refine ⟨_, (pss_cons (ps_if (pt_not (pt_val (pe_g G_is_integer (hr.mono (by decide)) (pa_cons (pv 1) (pa_cons pe_int (pa_cons (pe_op op_sub (pe_callB call_len_seq (by rfl) T.b_len (by decide +kernel) (pa_cons (pe_fld (pv 0) rfl) pa_nil)) pe_int) pa_nil))))))
  (pss_one ps_never)
  pss_nil)
  (pss_one (ps_ret (pe_ix ix_tup (pe_fld (pv 0) rfl) (pv 1) (fun _ _ => rfl))))), ?_⟩
    have hl : as.length = os.length := PySem.Paired.length h3
    have hi : i < os.length := (List.getElem?_eq_some_iff.mp eo).1
    obtain ⟨a, ea⟩ : ∃ a, as[i]? = some a := ⟨as[i], by simp [hl, hi]⟩
    obtain ⟨o', eo', oa⟩ := Paired.get h3 ea
    rw [eo] at eo'
    cases eo'
    refine ⟨_, rfl, _, rfl, p, C_Book, dx, _, _, rfl, h1, T.cl_Book, T.n_Book_listed, rfl, t, _, rfl, .inr h2, _, _, rfl, rfl, _, _, _, rfl, rfl, _, rfl, ?_⟩
    have e : isIntB (.int (i : Nat)) 0 (((as.map V.ref).length : Nat) - 1) = true := by
      rw [List.length_map, hl]
      have h1 : (0 : Int) ≤ (i : Nat) := by omega
      have h2 : ((i : Nat) : Int) ≤ (os.length : Nat) - 1 := by omega
      simp [isIntB, h1, h2]
    rw [e]
    refine iteF ?_
    exact ⟨_, rfl, p, C_Book, dx, _, _, rfl, h1, T.cl_Book, T.n_Book_listed, rfl, _, rfl, t, _, _, _, rfl, rfl, h2, atI_nat (by rw [List.getElem?_map, ea]; rfl), k a oa⟩
theorem ok_check_order (T : Top K mg C_Book C_MailError C_InvalidOrder C_UnknownOrder C_InvalidAddress C_InvalidDay C_InvalidNumber) : MFn P w K mg base CX0 2 C_Book "check_order" (spCheckOrd K C_Book) := by
  have G_is_integer : GFn P w K mg base CX0 1 "is_integer" spIsInteger := ok_is_integer T
  refine T.d_Book_check_order.fn fun f fd F => F.ok sc_Book_check_order (fun vs H Q E h => ?_) (fun cdv A outer s H vs Q E hr h => ?_)
  · obtain ⟨p, os, i, rfl, _⟩ := h
    rfl
  · obtain ⟨p, os, i, rfl, ⟨dx, t, as, h1, h2, h3⟩, hi, k⟩ := h
    refine ⟨_, (pss_one (ps_if (pt_not (pt_val (pe_g G_is_integer (hr.mono (by decide)) (pa_cons (pv 1) (pa_cons pe_int (pa_cons (pe_op op_sub (pe_callB call_len_seq (by rfl) T.b_len (by decide +kernel) (pa_cons (pe_fld (pv 0) rfl) pa_nil)) pe_int) pa_nil))))))
  (pss_one ps_never)
  pss_nil)), ?_⟩
    have hl : as.length = os.length := PySem.Paired.length h3
    refine ⟨_, rfl, _, rfl, p, C_Book, dx, _, _, rfl, h1, T.cl_Book, T.n_Book_listed, rfl, t, _, rfl, .inr h2, _, _, rfl, rfl, _, _, _, rfl, rfl, _, rfl, ?_⟩
    have e : isIntB (.int (i : Nat)) 0 (((as.map V.ref).length : Nat) - 1) = true := by
      rw [List.length_map, hl]
      have h1 : (0 : Int) ≤ (i : Nat) := by omega
      have h2 : ((i : Nat) : Int) ≤ (os.length : Nat) - 1 := by omega
      simp [isIntB, h1, h2]
    rw [e]
    exact iteF k
end

end MF
set_option Elab.async false
set_option linter.all false
set_option maxRecDepth 100000
set_option maxHeartbeats 2000000
set_option pp.maxSteps 600
namespace MF
open PySem PySem.Spec PyProof.Rows L2 StX
section
variable {P : Program} {w : World} {K : PySem.W.Frag} {mg : Str → Option Value} {base : Heap} {C_Book C_MailError C_InvalidOrder C_UnknownOrder C_InvalidAddress C_InvalidDay C_InvalidNumber : Addr}
theorem ok_UnknownOrder (T : Top K mg C_Book C_MailError C_InvalidOrder C_UnknownOrder C_InvalidAddress C_InvalidDay C_InvalidNumber) : EFn P w K mg base CX0 1 C_UnknownOrder "UnknownOrder" ["self", "index"] (spE1 K C_UnknownOrder "index") := by
  refine T.d_UnknownOrderX_initX.fn fun f fd F => F.ok sc_UnknownOrderX_initX (fun vs H Q E h => ?_) (fun cdv A outer s H vs Q E hr h => ?_)
  · obtain ⟨a, v, rfl, _⟩ := h
    rfl
  · obtain ⟨a, v, rfl, hf, ha, k⟩ := h
    refine ⟨_, (pss_cons (ps_expr (pe_binit rfl T.g_MailError T.base_MailError (pa_cons (pv 0) (pa_cons (pe_joined (PJ.cons pe_str (PJ.cons (pe_fmtV (pv 1)) PJ.nil))) pa_nil))))
  (pss_one (ps_ost (pv 0) (pv 1)))), ?_⟩
    have ox := T.d_UnknownOrderX_initX.ox
    refine ⟨_, rfl, _, rfl, ?_, _, rfl, hf, fun y hy => ⟨_, rfl, ?_, ?_⟩⟩
    · decide +kernel
    · rw [Str.length_append]
      have : (Str.empty ++ ("there is no order " : Str)).length = 18 := by decide +kernel
      rw [this, sizeLine_eq]
      omega
    refine ⟨a, C_UnknownOrder, [.str _], rfl, by simp, ox, ha, ?_⟩
    exact ⟨_, rfl, _, rfl, a, C_UnknownOrder, rfl, ox, T.na_UnknownOrder, .inl ⟨ha, fun dx hd ne => k dx hd ne⟩⟩
def spCheckOrdX (K : PySem.W.Frag) (CB : Addr) (c : Cls5) : Sp := fun vs H Q E => ∃ bk os v, vs = [.ref bk, v] ∧ BookAt K CB H bk os ∧ os.length ≤ 30 ∧ notSeq v = true ∧ FmtOk v ∧ isIntB v 0 ((os.length : Int) - 1) = false ∧ ∀ H' cls d, Same H H' → ErrAt c cls d H' (.unknown v) → E cls d H'
theorem okX_check_order (T : Top K mg C_Book C_MailError C_InvalidOrder C_UnknownOrder C_InvalidAddress C_InvalidDay C_InvalidNumber) : MFn P w K mg base (L2.CX P w) 3 C_Book "check_order" (spCheckOrdX K C_Book ⟨C_InvalidOrder, C_UnknownOrder, C_InvalidAddress, C_InvalidDay, C_InvalidNumber⟩) := by
  have G_is_integer : GFn P w K mg base CX0 1 "is_integer" spIsInteger := ok_is_integer T
  have E_UnknownOrder : EFn P w K mg base CX0 1 C_UnknownOrder "UnknownOrder" ["self", "index"] (spE1 K C_UnknownOrder "index") := ok_UnknownOrder T
  refine T.d_Book_check_order.fnX sc_Book_check_order (fun vs H Q E h => ?_) (fun f cdv A outer s H vs Q E hr h => ?_)
  · obtain ⟨bk, os, v, rfl, _⟩ := h
    rfl
  · obtain ⟨bk, os, v, rfl, hB, h30, nv, fv, hi, kk⟩ := h
    refine ⟨_, (pss_one (ps_if (pt_not (pt_val (pe_g G_is_integer (hr.mono (by decide)) (pa_cons (pv 1) (pa_cons pe_int (pa_cons (pe_op op_sub (pe_callB call_len_seq (by rfl) T.b_len (by decide +kernel) (pa_cons (pe_fld (pv 0) rfl) pa_nil)) pe_int) pa_nil))))))
  (pss_one (ps_raise rfl takeE (pmk_1 E_UnknownOrder (hr.mono (by decide)) (pa_cons (pv 1) pa_nil))))
  pss_nil)), ?_⟩
    obtain ⟨dx, t, as, h1, h2, h3⟩ := hB
    have hl : as.length = os.length := PySem.Paired.length h3
    refine ⟨_, rfl, _, rfl, bk, C_Book, dx, _, _, rfl, h1, T.cl_Book, T.n_Book_listed, rfl, t, _, rfl, .inr h2, _, _, rfl, rfl, _, _, _, rfl, nv, _, rfl, ?_⟩
    have e : isIntB v 0 (((as.map V.ref).length : Nat) - 1) = false := by
      rw [List.length_map, hl]
      exact hi
    rw [e]
    refine iteT ?_
    exact ⟨_, rfl, e1_fin fv fun d H3 s3 fd ed => kk _ _ _ s3 ⟨rfl, d, rfl, ed⟩⟩
end

end MF
set_option Elab.async false
set_option linter.all false
set_option maxRecDepth 100000
set_option maxHeartbeats 2000000
set_option pp.maxSteps 600
namespace MF
open PySem PySem.Spec PyProof.Rows L2 StX
section
theorem strOk_addr {z : Str} (h : isAddrB (.str z) = true) : PyData.strOk z = true := by
  simp only [isAddrB, Bool.and_eq_true, decide_eq_true_eq, List.all_eq_true] at h
  unfold PyData.strOk
  rw [← Array.all_toList, List.all_eq_true]
  intro c hc
  have hl : ∀ c ∈ letters.cps.toList, c < 1114112 := by decide
  exact decide_eq_true (hl c (by have := h.2 c hc; simpa using this))
theorem shaped_pt {z : Str} {d : Int} (h : isAddrB (.str z) = true) : SeqAt.shaped (.tuple [.str z, .int d]) = true := by
  have : (PyData.tuple [.str z, .int d]).canLay0 = true := by
    simp only [PyData.canLay0, PyData.canLayAll0, strOk_addr h, Bool.and_true]
  unfold SeqAt.shaped
  rw [this]
  rfl
theorem eqv_pt (A B : Pt) : PyData.eqv (.tuple [.str A.1, .int A.2]) (.tuple [.str B.1, .int B.2]) = decide (A = B) := by
  obtain ⟨a, b⟩ := A
  obtain ⟨c, d⟩ := B
  simp only [PyData.eqv, PyData.eqvAll, Bool.and_true]
  rw [Bool.eq_iff_iff]
  simp
end

end MF
set_option Elab.async false
set_option linter.all false
set_option maxRecDepth 100000
set_option maxHeartbeats 2000000
set_option pp.maxSteps 600
namespace MF
open PySem PySem.Spec PyProof.Rows L2 StX
section
variable {P : Program} {w : World} {K : PySem.W.Frag} {mg : Str → Option Value} {base : Heap} {C_Book C_MailError C_InvalidOrder C_UnknownOrder C_InvalidAddress C_InvalidDay C_InvalidNumber : Addr}
theorem dp_strs {H : Hp} : ∀ ys : List Str, DpAll K H (ys.map V.str) (ys.map PyData.str)
  | [] => .nil
  | y :: ys => .cons (.str y) (dp_strs ys)
theorem eqv_strs : ∀ a b : List Str, PyData.eqvAll (a.map PyData.str) (b.map PyData.str) = decide (a = b)
  | [], [] => by simp [PyData.eqvAll]
  | [], b :: bs => by simp [PyData.eqvAll]
  | a :: as, [] => by simp [PyData.eqvAll]
  | a :: as, b :: bs => by
    rw [List.map_cons, List.map_cons, PyData.eqvAll, eqv_strs as bs]
    by_cases c : a = b
    · subst c
      simp [PyData.eqv]
    · simp [PyData.eqv, c]
theorem lay_strs {ys : List Str} (h : ∀ y ∈ ys, isAddrB (.str y) = true) : PyData.canLayAll0 (ys.map PyData.str) = true := by
  induction ys with
  | nil => simp [PyData.canLayAll0]
  | cons y ys ih =>
    rw [List.map_cons]
    simp only [PyData.canLayAll0, PyData.canLay0, ih fun z hz => h z (by simp [hz]), strOk_addr (h y (by simp)), Bool.and_self]
theorem depth_strs : ∀ ys : List Str, PyData.depthAll (ys.map PyData.str) ≤ 1
  | [] => by simp [PyData.depthAll]
  | y :: ys => by
    have := depth_strs ys
    rw [List.map_cons]
    simp only [PyData.depthAll, PyData.depth]
    omega
theorem shaped_strs {ys : List Str} (h : ∀ y ∈ ys, isAddrB (.str y) = true) : SeqAt.shaped (.list (ys.map PyData.str)) = true := by
  show ((PyData.list (ys.map PyData.str)).canLay0 && decide ((PyData.list (ys.map PyData.str)).depth ≤ 64)) = true
  rw [Bool.and_eq_true]
  refine ⟨?_, decide_eq_true ?_⟩
  · simp only [PyData.canLay0]
    exact lay_strs h
  · have := depth_strs ys
    simp only [PyData.depth]
    omega
end

end MF
set_option Elab.async false
set_option linter.all false
set_option maxRecDepth 100000
set_option maxHeartbeats 2000000
set_option pp.maxSteps 600
namespace MF
open PySem PySem.Spec PyProof.Rows L2 StX
section
variable {P : Program} {w : World} {K : PySem.W.Frag} {mg : Str → Option Value} {base : Heap} {C_Book C_MailError C_InvalidOrder C_UnknownOrder C_InvalidAddress C_InvalidDay C_InvalidNumber : Addr}
theorem sl_listK {X : Cx} {K : PySem.W.Frag} (h : X.K = K := by rfl) : SlR X (rSlL K) := h ▸ sl_list
structure DK (n : Nat) (d : PyData) : Prop where
  lay : d.canLay0 = true
  dep : d.depth ≤ n
  sm : smallD d = true
theorem dk_lay : ∀ {ds : List PyData}, (∀ d ∈ ds, d.canLay0 = true) → PyData.canLayAll0 ds = true
  | [], _ => by simp [PyData.canLayAll0]
  | d :: ds, h => by simp only [PyData.canLayAll0, h d List.mem_cons_self, dk_lay fun e he => h e (List.mem_cons_of_mem _ he), Bool.and_self]
theorem dk_dep {n : Nat} : ∀ {ds : List PyData}, (∀ d ∈ ds, d.depth ≤ n) → PyData.depthAll ds ≤ n
  | [], _ => by simp [PyData.depthAll]
  | d :: ds, h => by
    rw [PyData.depthAll]
    exact Nat.max_le.mpr ⟨h d List.mem_cons_self, dk_dep fun e he => h e (List.mem_cons_of_mem _ he)⟩
theorem dk_small : ∀ {ds : List PyData}, (∀ d ∈ ds, smallD d = true) → smallAll ds = true
  | [], _ => rfl
  | d :: ds, h => by simp only [smallAll, h d List.mem_cons_self, dk_small fun e he => h e (List.mem_cons_of_mem _ he), Bool.and_self]
theorem DK.list {n : Nat} {ds : List PyData} (h : ∀ d ∈ ds, DK n d) (hl : ds.length ≤ 1000000) : DK (n + 1) (.list ds) :=
  ⟨by simp only [PyData.canLay0]; exact dk_lay fun d hd => (h d hd).lay, by simp only [PyData.depth]; have := dk_dep fun d hd => (h d hd).dep; omega, by simp only [smallD, Bool.and_eq_true]; exact ⟨decide_eq_true hl, dk_small fun d hd => (h d hd).sm⟩⟩
theorem DK.tuple {n : Nat} {ds : List PyData} (h : ∀ d ∈ ds, DK n d) (hl : ds.length ≤ 1000000) : DK (n + 1) (.tuple ds) :=
  ⟨by simp only [PyData.canLay0]; exact dk_lay fun d hd => (h d hd).lay, by simp only [PyData.depth]; have := dk_dep fun d hd => (h d hd).dep; omega, by simp only [smallD, Bool.and_eq_true]; exact ⟨decide_eq_true hl, dk_small fun d hd => (h d hd).sm⟩⟩
theorem DK.int (n : Nat) (i : Int) : DK n (.int i) := ⟨by simp only [PyData.canLay0], by simp only [PyData.depth]; omega, rfl⟩
theorem DK.bl (n : Nat) (b : Bool) : DK n (.bool b) := ⟨by simp only [PyData.canLay0], by simp only [PyData.depth]; omega, rfl⟩
theorem DK.non (n : Nat) : DK n .none := ⟨by simp only [PyData.canLay0], by simp only [PyData.depth]; omega, rfl⟩
theorem DK.strk (n : Nat) {z : Str} (h : PyData.strOk z = true) : DK n (.str z) := ⟨by simp only [PyData.canLay0, h], by simp only [PyData.depth]; omega, rfl⟩
theorem DK.str (n : Nat) {z : Str} (h : isAddrB (.str z) = true) : DK n (.str z) := DK.strk n (strOk_addr h)
theorem DK.le {n m : Nat} {d : PyData} (h : DK n d) (hm : n ≤ m) : DK m d := ⟨h.lay, Nat.le_trans h.dep hm, h.sm⟩
theorem DK.cons {n : Nat} {d : PyData} {ds : List PyData} (h : DK n d) (t : ∀ e ∈ ds, DK n e) : ∀ e ∈ d :: ds, DK n e := fun e he => by
  rcases List.mem_cons.mp he with rfl | he
  · exact h
  · exact t e he
theorem DK.nil {n : Nat} : ∀ e ∈ ([] : List PyData), DK n e := fun e he => by cases he
theorem DK.map {α : Type} {n : Nat} {f : α → PyData} {l : List α} (h : ∀ x ∈ l, DK n (f x)) : ∀ d ∈ l.map f, DK n d := fun d hd => by
  obtain ⟨x, hx, rfl⟩ := List.mem_map.mp hd
  exact h x hx
theorem DK.rep {n k : Nat} {d : PyData} (h : DK n d) : ∀ e ∈ List.replicate k d, DK n e := fun e he => by
  rw [(List.mem_replicate.mp he).2]
  exact h
theorem DK.shaped {n : Nat} {d : PyData} (h : DK n d) (hn : n ≤ 64) : SeqAt.shaped d = true := by
  unfold SeqAt.shaped
  rw [h.lay, Bool.true_and]
  exact decide_eq_true (Nat.le_trans h.dep hn)
theorem dkMap {H : Hp} {α : Type} {f : α → V} {g : α → PyData} (h : ∀ x, Dp K H (f x) (g x)) : ∀ l : List α, DpAll K H (l.map f) (l.map g)
  | [] => .nil
  | x :: l => .cons (h x) (dkMap h l)
theorem dkMem {H : Hp} {f : V → PyData} : ∀ l : List V, (∀ x ∈ l, Dp K H x (f x)) → DpAll K H l (l.map f)
  | [], _ => .nil
  | x :: l, h => .cons (h x List.mem_cons_self) (dkMem l fun y hy => h y (List.mem_cons_of_mem _ hy))
theorem dkPair {H : Hp} {α β : Type} {R : α → β → Prop} {f : α → V} {g : β → PyData} (h : ∀ a b, R a b → Dp K H (f a) (g b)) : ∀ {as : List α} {bs : List β}, Paired R as bs → DpAll K H (as.map f) (bs.map g)
  | _, _, .nil => .nil
  | _, _, .cons a t => .cons (h _ _ a) (dkPair h t)
theorem dkRep {H : Hp} {v : V} {d : PyData} (h : Dp K H v d) : ∀ n, DpAll K H (List.replicate n v) (List.replicate n d)
  | 0 => .nil
  | n + 1 => .cons h (dkRep h n)
theorem eqvMap {α : Type} [DecidableEq α] {f : α → PyData} (h : ∀ a b, PyData.eqv (f a) (f b) = decide (a = b)) : ∀ l l' : List α, PyData.eqvAll (l.map f) (l'.map f) = decide (l = l')
  | [], [] => by simp [PyData.eqvAll]
  | [], b :: bs => by simp [PyData.eqvAll]
  | a :: as, [] => by simp [PyData.eqvAll]
  | a :: as, b :: bs => by
    rw [List.map_cons, List.map_cons, PyData.eqvAll, eqvMap h as bs, h]
    by_cases c : a = b
    · subst c
      simp
    · simp [c]
def ordDK (o : Ordr) : PyData := .tuple [.str o.src, .str o.tgt, .int o.first, .int o.last, .int o.way]
theorem DK.ord {o : Ordr} (h : o.Ok) : DK 1 (ordDK o) := .tuple (.cons (.str 0 h.as) (.cons (.str 0 h.at_) (.cons (.int 0 _) (.cons (.int 0 _) (.cons (.int 0 _) .nil))))) (by show 5 ≤ _; decide)
theorem dkOrds {H : Hp} {as : List Addr} {os : List Ordr} (h : OrdsAt K H as os) : DpAll K H (as.map V.ref) (os.map ordDK) :=
  dkPair (R := OrdAt K H) (fun a o oa => .tup oa (.cons (.str _) (.cons (.str _) (.cons (.int _) (.cons (.int _) (.cons (.int _) .nil)))))) h
theorem eqvOrd (o p : Ordr) : PyData.eqv (ordDK o) (ordDK p) = decide (o = p) := by
  obtain ⟨a, b, c, d, e⟩ := o
  obtain ⟨a', b', c', d', e'⟩ := p
  unfold ordDK
  simp only [PyData.eqv, PyData.eqvAll, Bool.and_true]
  rw [Bool.eq_iff_iff]
  simp
theorem eqvOrds (l l' : List Ordr) : PyData.eqvAll (l.map ordDK) (l'.map ordDK) = decide (l = l') := eqvMap eqvOrd l l'
theorem eqvInt (i j : Int) : PyData.eqv (.int i) (.int j) = decide (i = j) := rfl
end

end MF
set_option Elab.async false
set_option linter.all false
set_option maxRecDepth 100000
set_option maxHeartbeats 1000000
namespace MF
open PySem PySem.Spec PyProof.Rows L2
abbrev sc2 (elt t0 i0 t1 i1 : Expr) (fs0 fs1 : List Expr) (scope : Scope) (pos : Pos) : Expr := .SetComp elt [⟨t0, i0, fs0, 0⟩, ⟨t1, i1, fs1, 0⟩] scope pos
theorem sc2_turn0 (elt t0 i0 t1 i1 : Expr) (fs0 fs1 : List Expr) (scope : Scope) (pos : Pos) (it acc : Value) (env : Env) :
    compTurn (sc2 elt t0 i0 t1 i1 fs0 fs1 scope pos) 0 it acc env = (do
      standAt i0.pos
      match ← pyNext it with
      | none => pure (.done .next)
      | some v =>
        letOwnedTupleGo t0 it v
        assign t0 env v
        let mut good := true
        for c in fs0 do
          if good then good ← isTrue c env (eval c env)
        if good then
          let y ← eval i1 env
          standAt i1.pos
          let y ← foldedSetIterable i1 env y
          let _ ← runOwn (.compStart (sc2 elt t0 i0 t1 i1 fs0 fs1 scope pos) 1 (← holding [y] (pyIter y)) acc env) env
        again (.compLoop (sc2 elt t0 i0 t1 i1 fs0 fs1 scope pos) 0 it acc env)) := by rfl
theorem sc2_turn1 (elt t0 i0 t1 i1 : Expr) (fs0 fs1 : List Expr) (scope : Scope) (pos : Pos) (it acc : Value) (env : Env) :
    compTurn (sc2 elt t0 i0 t1 i1 fs0 fs1 scope pos) 1 it acc env = (do
      standAt i1.pos
      match ← pyNext it with
      | none => pure (.done .next)
      | some v =>
        letOwnedTupleGo t1 it v
        assign t1 env v
        let mut good := true
        for c in fs1 do
          if good then good ← isTrue c env (eval c env)
        if good then
          (do let y ← eval elt env; standAt elt.pos; let _ ← call (.builtin "set.add") [acc, y])
        again (.compLoop (sc2 elt t0 i0 t1 i1 fs0 fs1 scope pos) 1 it acc env)) := by rfl
section
variable {prog : Program} {w : World} {A : Around} {R : Result → Shared → Prop} {s : Shared} {elt t0 i0 t1 i1 : Expr} {fs0 fs1 : List Expr} {scope : Scope} {pos : Pos} {it acc : Value} {env : Env}
abbrev Rz (prog : Program) (w : World) (A : Around) (env : Env) (R : Result → Shared → Prop) : Value → Shared → Prop := notedBy (model prog w) A env fun e s' => R (.error e) s'
theorem sc2_loop0 (hs : ∀ x, foldedSetIterable i1 env x = pure x) (I : Nat → Shared → Prop)
    (turn : ∀ n s, I n s → wpAny (model prog w) A (pyNext it) (fun r s₁ => match r with
      | none => R (.ok .next) s₁
      | some v => wpAny (model prog w) A (letOwnedTupleGo t0 it v) (fun _ s₁' => wpAny (model prog w) A (assign t0 env v) (fun _ s₂ =>
          wpAny (model prog w) A (forIn fs0 true fun c r => if r = true then do let ok ← isTrue c env (eval c env); pure (ForInStep.yield ok) else pure (ForInStep.yield r)) (fun ok s₃ =>
            if ok = true then wpAny (model prog w) A (eval i1 env) (fun x s₄ => wpAny (model prog w) A (pyIter x) (fun it1 s₅ =>
              codeAny (model prog w) A (.compStart (sc2 elt t0 i0 t1 i1 fs0 fs1 scope pos) 1 it1 acc env) (fun r s' => match r with
                | .ok _ => ∃ m, m < n ∧ I m s'
                | .error _ => False) s₅) (Rz prog w A env R) s₄) (Rz prog w A env R) s₃
            else ∃ m, m < n ∧ I m s₃) (Rz prog w A env R) s₂) (Rz prog w A env R) s₁') (Rz prog w A env R) s₁) (Rz prog w A env R) s)
    (n : Nat) (h : I n s) : codeAny (model prog w) A (.compLoop (sc2 elt t0 i0 t1 i1 fs0 fs1 scope pos) 0 it acc env) R s := by
  refine codeAny_loop rfl I (fun n s hI => ?_) n h
  show wpAny _ A ((compTurn (sc2 elt t0 i0 t1 i1 fs0 fs1 scope pos) 0 it acc env).onRaise (fun x => do noteFrame x env; theTreesLotGoes x)) _ _ s
  refine wpAny_noted ?_
  rw [sc2_turn0]
  refine wpAny_bind (wpAny_standAt (wpAny_bind (wpAny_mono (turn n s hI) (fun r s1 h1 => ?_) fun _ _ z => z)))
  cases r with
  | none => exact wpAny_pure h1
  | some v =>
    refine wpAny_bind (wpAny_mono h1 (fun _ s2 h2 => wpAny_bind (wpAny_mono h2 (fun _ s3 h3 => wpAny_bind (wpAny_mono h3 (fun ok s4 h4 => ?_) fun _ _ z => z)) fun _ _ z => z)) fun _ _ z => z)
    cases ok with
    | false => exact wpAny_pure ⟨rfl, h4⟩
    | true =>
      refine wpAny_bind (wpAny_mono h4 (fun x s5 h5 => wpAny_bind (wpAny_standAt (wpAny_bind (wpAny_of_eq (hs x) (wpAny_bind (wpAny_holding (wpAny_mono h5 (fun it1 s6 h6 => ?_) fun _ _ z => z))))))) fun _ _ z => z)
      refine wpAny_bind (wpAny_runOwn ?_)
      rw [Around.mark_none]
      refine codeAny_mono h6 fun r s' hr => ?_
      cases r with
      | ok f => first | exact wpAny_pure ⟨rfl, hr⟩ | exact wpAny_bind (wpAny_pure (wpAny_pure ⟨rfl, hr⟩))
      | error e => exact hr.elim
theorem sc2_loop1 (I : Nat → Shared → Prop)
    (turn : ∀ n s, I n s → wpAny (model prog w) A (pyNext it) (fun r s₁ => match r with
      | none => R (.ok .next) s₁
      | some v => wpAny (model prog w) A (letOwnedTupleGo t1 it v) (fun _ s₁' => wpAny (model prog w) A (assign t1 env v) (fun _ s₂ =>
          wpAny (model prog w) A (forIn fs1 true fun c r => if r = true then do let ok ← isTrue c env (eval c env); pure (ForInStep.yield ok) else pure (ForInStep.yield r)) (fun ok s₃ =>
            if ok = true then wpAny (model prog w) A (eval elt env) (fun x s₄ =>
              wpAny (model prog w) A (call (.builtin "set.add") [acc, x]) (fun _ s₅ => ∃ m, m < n ∧ I m s₅) (Rz prog w A env R) s₄) (Rz prog w A env R) s₃
            else ∃ m, m < n ∧ I m s₃) (Rz prog w A env R) s₂) (Rz prog w A env R) s₁') (Rz prog w A env R) s₁) (Rz prog w A env R) s)
    (n : Nat) (h : I n s) : codeAny (model prog w) A (.compLoop (sc2 elt t0 i0 t1 i1 fs0 fs1 scope pos) 1 it acc env) R s := by
  refine codeAny_loop rfl I (fun n s hI => ?_) n h
  show wpAny _ A ((compTurn (sc2 elt t0 i0 t1 i1 fs0 fs1 scope pos) 1 it acc env).onRaise (fun x => do noteFrame x env; theTreesLotGoes x)) _ _ s
  refine wpAny_noted ?_
  rw [sc2_turn1]
  refine wpAny_bind (wpAny_standAt (wpAny_bind (wpAny_mono (turn n s hI) (fun r s1 h1 => ?_) fun _ _ z => z)))
  cases r with
  | none => exact wpAny_pure h1
  | some v =>
    refine wpAny_bind (wpAny_mono h1 (fun _ s2 h2 => wpAny_bind (wpAny_mono h2 (fun _ s3 h3 => wpAny_bind (wpAny_mono h3 (fun ok s4 h4 => ?_) fun _ _ z => z)) fun _ _ z => z)) fun _ _ z => z)
    cases ok with
    | false => exact wpAny_pure ⟨rfl, h4⟩
    | true => exact wpAny_bind (wpAny_bind (wpAny_mono h4 (fun x s5 h5 => wpAny_bind (wpAny_standAt (wpAny_bind (wpAny_mono h5 (fun _ s6 h6 => wpAny_pure (wpAny_pure ⟨rfl, h6⟩)) fun _ _ z => z)))) fun _ _ z => z))
theorem sc2_start {k : Nat} {ik : Expr} (hk : (k = 0 ∧ ik = i0) ∨ (k = 1 ∧ ik = i1)) (h0 : codeAny (model prog w) A (.compLoop (sc2 elt t0 i0 t1 i1 fs0 fs1 scope pos) k it acc env) R s)
    (h : wpAny (model prog w) A (pyIter it) (fun it' s' => codeAny (model prog w) A (.compLoop (sc2 elt t0 i0 t1 i1 fs0 fs1 scope pos) k it' acc env) R s') (Rz prog w A env R) s) :
    codeAny (model prog w) A (.compStart (sc2 elt t0 i0 t1 i1 fs0 fs1 scope pos) k it acc env) R s := by
  rcases hk with ⟨rfl, rfl⟩ | ⟨rfl, rfl⟩
  · refine codeAny_of_tree ?_
    show wpAny _ _ ((compStart (sc2 elt t0 ik t1 i1 fs0 fs1 scope pos) 0 it acc env).onRaise (fun x => do noteFrame x env; standAt theWindowsPlace)) _ _ s
    refine wpAny_notedAt ?_
    unfold compStart
    show wpAny _ _ (ask >>= _) _ _ s
    refine wpAny_bind (wpAny_askSetting (wpAny_ite ?_))
    split
    · first
        | exact wpAny_bind (wpAny_pure (wpAny_pure (And.intro rfl h0)))
        | exact wpAny_pure (And.intro rfl h0)
    · refine wpAny_bind (wpAny_rule ?_)
      show wpAny _ _ (standAt ik.pos >>= _) _ _ s
      exact wpAny_bind (wpAny_standAt (wpAny_bind (wpAny_mono h (fun it' s' h' => wpAny_pure (And.intro rfl h')) fun _ _ x => x)))
  · refine codeAny_of_tree ?_
    show wpAny _ _ ((compStart (sc2 elt t0 i0 t1 ik fs0 fs1 scope pos) 1 it acc env).onRaise (fun x => do noteFrame x env; standAt theWindowsPlace)) _ _ s
    refine wpAny_notedAt ?_
    unfold compStart
    show wpAny _ _ (ask >>= _) _ _ s
    refine wpAny_bind (wpAny_askSetting (wpAny_ite ?_))
    split
    · first
        | exact wpAny_bind (wpAny_pure (wpAny_pure (And.intro rfl h0)))
        | exact wpAny_pure (And.intro rfl h0)
    · refine wpAny_bind (wpAny_rule ?_)
      show wpAny _ _ (standAt ik.pos >>= _) _ _ s
      exact wpAny_bind (wpAny_standAt (wpAny_bind (wpAny_mono h (fun it' s' h' => wpAny_pure (And.intro rfl h')) fun _ _ x => x)))
end
section
variable {X : Cx}
def tSc2 (P : Program) (w : World) (wi : TI) (g : TG) (wi1 : TI) (g1 : TG) (te : TE) (vs vs1 : List Nat) : TE := fun σ H Q => wi σ H fun J H1 => ∀ D, H1 D = none → ∃ W : Nat → Nat → Hp → Prop, (∃ m, W 0 m (upd H1 D (TxtO P w D []))) ∧ ∀ i m H, W i m H →
  (J.stop i H ∧ Q (.ref D) H) ∨ (J.go i H ∧ ∃ Nx : Hp → Prop, (∀ H', Nx H' → ∃ m', m' < m ∧ W (i + 1) m' H') ∧ ∀ x H', J.yld i H x H' → g x (wipe σ vs) H' fun σ2 H2 => wipe σ2 vs = wipe σ vs ∧
    wi1 σ2 H2 fun J1 H4 => ∃ W1 : Nat → Nat → Hp → Prop, (∃ m, W1 0 m H4) ∧ ∀ j k H, W1 j k H →
      (J1.stop j H ∧ Nx H) ∨ (J1.go j H ∧ ∃ Nx1 : Hp → Prop, (∀ H', Nx1 H' → ∃ k', k' < k ∧ W1 (j + 1) k' H') ∧ ∀ x H', J1.yld j H x H' → g1 x (wipe σ2 vs1) H' fun σ3 H5 => wipe σ3 vs1 = wipe σ2 vs1 ∧
        te σ3 H5 fun y H7 => ∃ z l, y = .str z ∧ H7 D = some (TxtO P w D l) ∧ l.length + 1 < scanBound ∧ Nx1 (upd H7 D (TxtO P w D (if z ∈ l then l else z :: l)))))
abbrev BX (X : Cx) (s : Shared) (H : Hp) (scope : Scope) (C : Addr) (cl : List (PySem.Str × Addr)) (fp : List Addr) : Cx := X.blk s H scope (compEnvC scope cl C X.env) fp
theorem pe_sc2 {elt tg iter tg1 iter1 : Expr} {scope : Scope} {own : List (PySem.Str × Nat)} {vs1 : List Nat} {pos : Pos} {wi wi1 : TI} {g g1 : TG} {te : TE} (hc : X.calm = true) (hN : X.N.Nodup) (hi : PI X tg iter wi) (ok : BlkOk X.N X.env.scope scope own) (hv : ∀ i ∈ vs1, i ∈ own.map (·.2))
    (hg : ∀ s H C cl fp, PG (BX X s H scope C cl fp) tg g) (hi1 : ∀ s H C cl fp, PI (BX X s H scope C cl fp) tg1 iter1 wi1) (hg1 : ∀ s H C cl fp, PG (BX X s H scope C cl fp) tg1 g1) (he : ∀ s H C cl fp, PE (BX X s H scope C cl fp) elt te)
    (hs : ∀ x, foldedSetIterable iter X.env x = pure x := by intro _; rfl) (hs1 : ∀ env x, foldedSetIterable iter1 env x = pure x := by intro _ _; rfl) :
    PE X (sc2 elt tg iter tg1 iter1 [] [] scope pos) (tSc2 X.prog X.w wi g wi1 g1 te (own.map (·.2)) vs1) := by
  refine ⟨fun pins s σ H Q I h => ?_⟩
  rw [PpSet.eval_SetComp]
  have hfree : ∀ y ∈ scope.names, y.2 = .free → ∃ c, X.env.cells.lookup y.1 = some c := fun y hy e => by
    rcases ok.free y hy e with k | k
    · exact I.ok.has _ (.inl k)
    · exact I.ok.has _ (.inr k)
  refine wpAny_comprehension_free (use := none) rfl hs (closure_ok hfree) ok.kind (fun y hy e => by rw [ok.uniq y hy, e])
    (thn (hi.run pins s σ H _ I h) fun xv s1 hx => thn hx fun itv s2 h2 => ?_)
  obtain ⟨it, fp, tn, J, H2, e, I2, T, st2, f2, q⟩ := h2
  subst e
  refine PpSet.newSet_ok (newEnv_comp ?_)
  generalize hD : s2.heap.objs.size = D
  have hDn : H2 D = none := I2.hok.fresh (Nat.le_of_eq hD)
  obtain ⟨W, ⟨m0, w0⟩, turn⟩ := q D hDn
  generalize hs3 : ({ s2 with heap := s2.heap.push { cls := .type "set", dict := none, data := .set #[] 0 (.fresh 0 0 (!X.w.params.followText "set-order")) } } : Shared) = s3
  have h3 : s3.heap = s2.heap.push { cls := .type "set", dict := none, data := .set #[] 0 (.fresh 0 0 (!X.w.params.followText "set-order")) } := by rw [← hs3]
  have up : ∀ b o, s2.heap.get? b = some o → s3.heap.get? b = some o := fun b o z => by rw [h3]; exact Heap.get?_push_of_some _ z
  have I3 : Inv X pins σ (upd H2 D (TxtO X.prog X.w D [])) s3 := by
    rw [← hs3]
    refine I2.laid (t' := s2.toks) (fun b o z => Heap.get?_push_of_some _ z) (Nat.le_of_eq hD) ?_
    rw [← hD]
    exact txtO_new (txt_fresh X.prog X.w)
  have f3 : ∀ b ∈ fp, FpOk X pins (upd H2 D (TxtO X.prog X.w D [])) b ∧ b < s3.heap.objs.size := fun b hb => by
    obtain ⟨o, z, _⟩ := T.obj _ _ st2 b hb
    have hlt := Heap.lt_size z
    refine ⟨⟨?_, (f2 b hb).2⟩, by rw [h3, Heap.size_push]; exact Nat.lt_succ_of_lt hlt⟩
    rw [upd_ne (by rw [← hD]; exact Nat.ne_of_lt hlt)]
    exact (f2 b hb).1
  have st3 : tn 0 s3.heap := T.keep _ _ _ st2 fun b _ o z => up b o z
  have I4 := block_start I3 ok hN f3
  generalize hH3 : upd H2 D (TxtO X.prog X.w D []) = H3 at I3 I4 w0 f3
  generalize hce : compEnvC scope (cellsFrom (s3.heap.objs.size + 1) scope.names (cloFrom X.env.cells scope.names [])) s3.heap.objs.size X.env = ce at I4
  have pg : PG (X.blk s3 H3 scope ce fp) tg g := hce ▸ hg s3 H3 s3.heap.objs.size _ fp
  have pe : PE (X.blk s3 H3 scope ce fp) elt te := hce ▸ he s3 H3 s3.heap.objs.size _ fp
  have pi1 : PI (X.blk s3 H3 scope ce fp) tg1 iter1 wi1 := hce ▸ hi1 s3 H3 s3.heap.objs.size _ fp
  have pg1 : PG (X.blk s3 H3 scope ce fp) tg1 g1 := hce ▸ hg1 s3 H3 s3.heap.objs.size _ fp
  have pt : PTs (X.blk s3 H3 scope ce fp) [] tYes := pts_nil
  have cL : ce.locals = s3.heap.objs.size := by subst hce; rfl
  show codeAny _ _ (.compStart (sc2 elt tg iter tg1 iter1 [] [] scope pos) 0 (.ref it) (.ref D) (compEnvC scope (cellsFrom (s3.heap.objs.size + 1) scope.names (cloFrom X.env.cells scope.names [])) s3.heap.objs.size X.env)) (compPost (model X.prog X.w) X.A X.xe none _ (.ref D) s3.heap.objs.size) { s3 with heap := pushCells (s3.heap.push { cls := .type "dict", data := .dict #[] }) scope.names }
  rw [hce]
  generalize hs4 : ({ s3 with heap := pushCells (s3.heap.push { cls := .type "dict", data := .dict #[] }) scope.names } : Shared) = s4 at I4 ⊢
  have st4 : tn 0 s4.heap := T.keep _ _ _ st3 fun b _ o z => by rw [← hs4]; exact pushCells_keeps _ _ _ _ (Heap.get?_push_of_some _ z)
  have nfp : ∀ b ∈ fp, H3 b = none := fun b hb => (f3 b hb).1.1
  have stat : ∀ {σ' : L2.St} {H' : Hp} {s' : Shared}, Inv (X.blk s3 H3 scope ce fp) [] σ' H' s' → (∀ b ∈ fp, H' b = none) → ∀ b ∈ fp, FpOk (X.blk s3 H3 scope ce fp) [] H' b := fun {σ' H' s'} I' hn b hb =>
    ⟨hn b hb, (I'.ok.exf b hb).1, I'.ok.exfs b hb, .inl hb, fun x c z => (I'.ok.exf b hb).2 x c z, fun p hp => absurd (show p ∈ ([] : List (Addr × Obj)) ++ [] from hp) (by simp)⟩
  let Ix (n : Nat) (s' : Shared) : Prop := ∃ i H', Inv (X.blk s3 H3 scope ce fp) [] (wipe σ (own.map (·.2))) H' s' ∧ tn i s'.heap ∧ (∀ b ∈ fp, H' b = none) ∧ W i n H'
  have loop : codeAny (model X.prog X.w) X.A (.compLoop (sc2 elt tg iter tg1 iter1 [] [] scope pos) 0 (.ref it) (.ref D) ce) (compPost (model X.prog X.w) X.A X.xe none (fun u s' => EP X pins σ Q u s') (.ref D) s3.heap.objs.size) s4 := by
    refine sc2_loop0 (hs1 ce) Ix ?_ m0 ⟨0, H3, I4, st4, nfp, w0⟩
    rintro n s5 ⟨i, H5, I5, st5, n5, w5⟩
    rcases turn i n H5 w5 with ⟨stop, qq⟩ | ⟨go, Nx, hNx, step⟩
    · refine thnF (T.done (X.blk s3 H3 scope ce fp) rfl rfl rfl hc i [] s5 _ H5 (fun _ _ => False) I5 (stat I5 n5) st5 stop) fun r s6 ⟨hr, I6⟩ => ?_
      subst hr
      have I7 : Inv X pins σ H5 s6 := I3.call' (ch := fp) I6.os I6.base I6.hok I6.bare fun b hb => ⟨(f3 b hb).1.2.2.2.1, (f3 b hb).1.2.1, (f3 b hb).1.2.2.2.2.1, (f3 b hb).1.2.2.2.2.2⟩
      have nC : H5 s3.heap.objs.size = none := cL ▸ (show H5 ce.locals = none from I6.free)
      obtain ⟨m, hn, _⟩ := I6.loc
      have hn' : s6.heap.Ns s3.heap.objs.size m := cL ▸ (show s6.heap.Ns ce.locals m from hn)
      obtain ⟨k0, k1, k2, k3, k4, k5⟩ := I3.fpOk (Nat.le_refl _) nC
      exact ⟨m, hn', fun h'' sb => ⟨.ref D, H5, I7.turned (t' := s6.toks) (fun b o hb z => (sb.2 b hb).trans z) k0 k1 k3 k4 k5, rfl, qq⟩⟩
    · refine thnF (T.item (X.blk s3 H3 scope ce fp) rfl rfl rfl hc i [] s5 _ H5 (fun _ _ => False) I5 (stat I5 n5) st5 go) fun r s6 ⟨u, hr, h6⟩ => ?_
      subst hr
      refine thnF h6 fun _ s7 ⟨x, H7, I7, r7, y7, st7, n7⟩ => ?_
      have I7' := I7.pinned (stat I7 n7) (T.obj _ _ st7)
      refine thnF (pg.run _ s7 _ H7 x u _ I7' r7 (step x H7 y7)) fun _ s8 ⟨σ8, H8, I8, hw8, q8⟩ => ?_
      refine thnF (pt.run _ s8 σ8 H8 (fun b H' => b = true ∧ H' = H8) I8 ⟨rfl, rfl⟩) fun b s9 ⟨H9, I9, eb, eH⟩ => ?_
      subst eb eH
      simp only [if_true]
      have fin : ∀ {σ9 : L2.St} {s' : Shared} {H' : Hp}, Inv (X.blk s3 H3 scope ce fp) ([] ++ pinsAt fp s7.heap) σ9 H' s' → (wipe σ (own.map (·.2))).length = σ9.length → (∀ (j : Nat) v, (wipe σ (own.map (·.2)))[j]? = some (some v) → σ9[j]? = some (some v)) → Nx H' → ∃ m, m < n ∧ Ix m s' := fun {σ9 s' H'} I' hl hk nx => by
        obtain ⟨m', hm, w'⟩ := hNx H' nx
        have pin' : ∀ b ∈ fp, ∀ o, s7.heap.get? b = some o → s'.heap.get? b = some o ∧ H' b = none := fun b hb o z =>
          let y := I'.pin (b, o) (List.mem_append_right _ (List.mem_append_right _ (mem_pinsAt hb z)))
          ⟨y.1, y.2.1⟩
        refine ⟨m', hm, i + 1, H', (I'.unpinned (pins := [])).weak hl hk, T.keep _ _ _ st7 fun b hb o z => (pin' b hb o z).1, fun b hb => ?_, w'⟩
        obtain ⟨o, z, _⟩ := T.obj _ _ st7 b hb
        exact (pin' b hb o z).2
      have hl8 : (wipe σ (own.map (·.2))).length = σ8.length := by rw [← hw8, wipe_length]
      have hk9 : ∀ (j : Nat) v, (wipe σ (own.map (·.2)))[j]? = some (some v) → (wipe σ8 vs1)[j]? = some (some v) := fun j v z => by
        rw [← hw8] at z
        obtain ⟨z1, z2⟩ := wipe_some z
        rw [wipe_out fun y => z2 (hv j y)]
        exact z1
      refine thnF (pi1.run _ s9 σ8 H9 _ I9 q8) fun xv s10 hx => thnF hx fun itv s11 h11 => ?_
      obtain ⟨it1, fp1, tn1, J1, H11, e1, I11, T1, st11, f11, W1, ⟨m1, w1⟩, turn1⟩ := h11
      subst e1
      have stat1 : ∀ {H' : Hp}, (∀ b ∈ fp1, H' b = none) → ∀ b ∈ fp1, FpOk (X.blk s3 H3 scope ce fp) ([] ++ pinsAt fp s7.heap) H' b := fun hn b hb => ⟨hn b hb, (f11 b hb).2⟩
      let Iy (k : Nat) (s' : Shared) : Prop := ∃ j H', Inv (X.blk s3 H3 scope ce fp) ([] ++ pinsAt fp s7.heap) (wipe σ8 vs1) H' s' ∧ tn1 j s'.heap ∧ (∀ b ∈ fp1, H' b = none) ∧ W1 j k H'
      have loop1 : codeAny (model X.prog X.w) X.A (.compLoop (sc2 elt tg iter tg1 iter1 [] [] scope pos) 1 (.ref it1) (.ref D) ce)
          (fun r s' => match r with
            | .ok _ => ∃ m, m < n ∧ Ix m s'
            | .error _ => False) s11 := by
        refine sc2_loop1 Iy ?_ m1 ⟨0, H11, I11.weak (wipe_length _ _) (fun j v z => (wipe_some z).1), st11, fun b hb => (f11 b hb).1, w1⟩
        rintro k s12 ⟨j, H12, I12, st12, n12, w12⟩
        rcases turn1 j k H12 w12 with ⟨stop1, nx1⟩ | ⟨go1, Nx1, hNx1, step1⟩
        · refine thnF (T1.done (X.blk s3 H3 scope ce fp) rfl rfl rfl hc j _ s12 (wipe σ8 vs1) H12 (fun _ _ => False) I12 (stat1 n12) st12 stop1) fun r s13 ⟨hr, I13⟩ => ?_
          subst hr
          exact fin I13 (hl8.trans (wipe_length σ8 vs1).symm) hk9 nx1
        · refine thnF (T1.item (X.blk s3 H3 scope ce fp) rfl rfl rfl hc j _ s12 (wipe σ8 vs1) H12 (fun _ _ => False) I12 (stat1 n12) st12 go1) fun r s13 ⟨u1, hr, h13⟩ => ?_
          subst hr
          refine thnF h13 fun _ s14 ⟨x1, H14, I14, r14, y14, st14, n14⟩ => ?_
          have I14' := I14.pinned (stat1 n14) (T1.obj _ _ st14)
          refine thnF (pg1.run _ s14 (wipe σ8 vs1) H14 x1 u1 _ I14' r14 (step1 x1 H14 y14)) fun _ s15 ⟨σ15, H15, I15, hw15, q15⟩ => ?_
          refine thnF (pt.run _ s15 σ15 H15 (fun b H' => b = true ∧ H' = H15) I15 ⟨rfl, rfl⟩) fun b1 s16 ⟨H16, I16, eb, eH⟩ => ?_
          subst eb eH
          simp only [if_true]
          have fin1 : ∀ {s' : Shared} {H' : Hp}, Inv (X.blk s3 H3 scope ce fp) (([] ++ pinsAt fp s7.heap) ++ pinsAt fp1 s14.heap) σ15 H' s' → Nx1 H' → ∃ m, m < k ∧ Iy m s' := fun {s' H'} I' nx => by
            obtain ⟨m', hm, w'⟩ := hNx1 H' nx
            have pin' : ∀ b ∈ fp1, ∀ o, s14.heap.get? b = some o → s'.heap.get? b = some o ∧ H' b = none := fun b hb o z =>
              let y := I'.pin (b, o) (List.mem_append_right _ (List.mem_append_right _ (mem_pinsAt hb z)))
              ⟨y.1, y.2.1⟩
            refine ⟨m', hm, j + 1, H', I'.unpinned.weak (by rw [← hw15, wipe_length]) (fun j v z => by rw [← hw15] at z; exact (wipe_some z).1), T1.keep _ _ _ st14 fun b hb o z => (pin' b hb o z).1, fun b hb => ?_, w'⟩
            obtain ⟨o, z, _⟩ := T1.obj _ _ st14 b hb
            exact (pin' b hb o z).2
          refine thnF (pe.run _ s16 σ15 H16 _ I16 q15) fun v s17 ⟨yv, H17, I17, r17, z, l, ey, hD17, hz17, nx⟩ => ?_
          subst ey
          obtain ⟨u17, rfl⟩ := r17
          exact txtO_add (X := X.blk s3 H3 scope ce fp) I17 hD17 hz17 fun s18 I18 => fin1 I18 nx
      exact sc2_start (.inr ⟨rfl, rfl⟩) loop1 (T1.self X.A 0 _ _ _ st11 loop1)
  exact sc2_start (.inl ⟨rfl, rfl⟩) loop (T.self X.A 0 _ _ _ st4 loop)
end
theorem any_it {J : It} {n : Nat} {G : Hp → Prop} {Y : Nat → Hp → V → Hp → Prop} (wk : Walk J n G Y) {S : V → Hp → (Hp → Prop) → Prop} {Qd : Hp → Prop} {H0 : Hp} (Pv : Nat → Hp → Prop) (h0 : Pv 0 H0) (hG : ∀ i H, i ≤ n → Pv i H → G H)
    (hs : ∀ i x H H', i < n → Pv i H → Y i H x H' → S x H' (Pv (i + 1))) (hd : ∀ H, Pv n H → Qd H) :
    ∃ W : Nat → Nat → Hp → Prop, (∃ m, W 0 m H0) ∧ ∀ i m H, W i m H → (J.stop i H ∧ Qd H) ∨ (J.go i H ∧ ∃ Nx : Hp → Prop, (∀ H', Nx H' → ∃ m', m' < m ∧ W (i + 1) m' H') ∧ ∀ x H', J.yld i H x H' → S x H' Nx) := by
  refine ⟨fun i m H => n = m + i ∧ Pv i H, ⟨n, rfl, h0⟩, fun i m H ⟨e, p⟩ => ?_⟩
  have q := hG i H (by omega) p
  cases m with
  | zero =>
    have e' : n = i := by omega
    subst e'
    exact .inl ⟨wk.stops H q, hd H p⟩
  | succ m => exact .inr ⟨wk.goes i H (by omega) q, Pv (i + 1), fun H' p' => ⟨m, Nat.lt_succ_self m, by omega, p'⟩, fun x H' y => hs i x H H' (by omega) p (wk.yields i H x H' (by omega) q y)⟩
end MF
set_option Elab.async false
set_option linter.all false
set_option maxRecDepth 100000
set_option maxHeartbeats 2000000
set_option pp.maxSteps 600
namespace MF
open PySem PySem.Spec PyProof.Rows L2 StX
section
variable {P : Program} {w : World} {K : PySem.W.Frag} {mg : Str → Option Value} {base : Heap} {C_Book C_MailError C_InvalidOrder C_UnknownOrder C_InvalidAddress C_InvalidDay C_InvalidNumber : Addr}
theorem pi_tupK {X : Cx} {K : PySem.W.Frag} {tg e : Expr} {te : TE} (he : PE X e te) (h : X.K = K := by rfl) : PI X tg e (iTup K te) := h ▸ pi_tup he
theorem sl_tupK {X : Cx} {K : PySem.W.Frag} (h : X.K = K := by rfl) : SlR X (rSlT K) := h ▸ sl_tup
structure AddrsOf (os : List Ordr) (ys : List Str) : Prop where
  nd : ys.Nodup
  so : sortedS ys = true
  mem : ∀ z, z ∈ ys ↔ ∃ o ∈ os, z = o.src ∨ z = o.tgt
  len : ys.length ≤ 60
def spAddresses (K : PySem.W.Frag) (C : Addr) : Sp := fun vs H Q _ => ∃ p os, vs = [.ref p] ∧ BookAt K C H p os ∧ os.length ≤ 30 ∧
  ∀ H' t ys, Same H H' → H t = none → H' t = some (.tup (ys.map V.str)) → AddrsOf os ys → Q (.ref t) H'
def metL : List Str → List Str → List Str
  | [], l => l
  | z :: zs, l => metL zs (if z ∈ l then l else z :: l)
theorem met_snoc (z : Str) : ∀ (zs l : List Str), metL (zs ++ [z]) l = (if z ∈ metL zs l then metL zs l else z :: metL zs l)
  | [], l => rfl
  | y :: zs, l => met_snoc z zs _
theorem met_facts : ∀ (zs l : List Str), l.Nodup → (metL zs l).Nodup ∧ (∀ z, z ∈ metL zs l ↔ z ∈ zs ∨ z ∈ l) ∧ (metL zs l).length ≤ zs.length + l.length
  | [], l, h => ⟨h, fun z => by simp [metL], by simp [metL]⟩
  | y :: zs, l, h => by
    by_cases c : y ∈ l
    · obtain ⟨h1, h2, h3⟩ := met_facts zs l h
      refine ⟨by simpa [metL, c] using h1, fun z => ?_, ?_⟩
      · show z ∈ metL zs (if y ∈ l then l else y :: l) ↔ _
        rw [if_pos c, h2, List.mem_cons]
        exact ⟨fun q => q.elim (fun q => .inl (.inr q)) .inr, fun q => q.elim (fun q => q.elim (fun q => .inr (q ▸ c)) .inl) .inr⟩
      · show (metL zs (if y ∈ l then l else y :: l)).length ≤ _
        rw [if_pos c, List.length_cons]
        omega
    · obtain ⟨h1, h2, h3⟩ := met_facts zs (y :: l) (List.nodup_cons.mpr ⟨c, h⟩)
      refine ⟨by simpa [metL, c] using h1, fun z => ?_, ?_⟩
      · show z ∈ metL zs (if y ∈ l then l else y :: l) ↔ _
        rw [if_neg c, h2, List.mem_cons, List.mem_cons]
        exact ⟨fun q => q.elim (fun q => .inl (.inr q)) (fun q => q.elim (fun q => .inl (.inl q)) .inr), fun q => q.elim (fun q => q.elim (fun q => .inr (.inl q)) .inl) (fun q => .inr (.inr q))⟩
      · show (metL zs (if y ∈ l then l else y :: l)).length ≤ _
        rw [if_neg c, List.length_cons]
        rw [List.length_cons] at h3
        omega
def namesL (os : List Ordr) : List Str := os.flatMap fun o => [o.src, o.tgt]
theorem names_len : ∀ os : List Ordr, (namesL os).length = 2 * os.length
  | [] => rfl
  | o :: os => by
    have := names_len os
    unfold namesL at this ⊢
    simp only [List.flatMap_cons, List.length_append, List.length_cons, List.length_nil, this]
    omega
theorem ok_addresses (T : Top K mg C_Book C_MailError C_InvalidOrder C_UnknownOrder C_InvalidAddress C_InvalidDay C_InvalidNumber) : PFn P w K mg base CX0 1 C_Book "addresses" (spAddresses K C_Book) := by
  refine T.d_Book_addresses.fn fun f fd F => F.ok sc_Book_addresses (fun vs H Q E h => ?_) (fun cdv A outer s H vs Q E hr h => ?_)
  · obtain ⟨p, os, rfl, _⟩ := h
    rfl
  · obtain ⟨p, os, rfl, B, l30, k⟩ := h
    refine ⟨_, (pss_one (ps_ret (pe_callTy call_tuple_of (by rfl) T.b_tuple (by decide +kernel) (pa_cons (pe_callB (cr_sortedTxt rfl) (by rfl) T.b_sorted (by decide +kernel) (pa_cons (pe_sc2 (own := [("order", 1), ("name", 2)]) (vs1 := [2]) (g := (gName 1)) (g1 := (gName 2)) (by rfl) sc_Book_addresses.nd (pi_tup (pe_fld (pv 0) rfl)) (blkOk_by (own := [("order", 1), ("name", 2)]) (N := ["self", "order", "name"]) (sc := defScope s_Book_addresses) (by decide +kernel)) (by decide) (fun _ _ _ _ _ => (pg_name (i := 1) sc_Book_addresses.nd rfl (Or.inl rfl))) (fun _ _ _ _ _ => (pi_tupK (K := K) (pe_slice (sl_tupK (K := K)) (pv 1) po_none (po_some pe_int)))) (fun _ _ _ _ _ => (pg_name (i := 2) sc_Book_addresses.nd rfl (Or.inl rfl))) (fun _ _ _ _ _ => (pv 2))) pa_nil)) pa_nil)))), ?_⟩
    obtain ⟨dx, tl, as, b1, b2, b3⟩ := id B
    have la := PySem.Paired.length b3
    refine ⟨_, rfl, p, C_Book, dx, _, _, rfl, b1, T.cl_Book, T.n_Book_listed, rfl, tl, rfl, ⟨_, b2⟩, fun D hD => ?_⟩
    have small : ∀ zs : List Str, zs.length ≤ 60 → (metL zs []).length ≤ 60 := fun zs hz => by
      have := (met_facts zs [] List.nodup_nil).2.2
      rw [List.length_nil] at this
      omega
    have nl : ∀ i, (namesL (os.take i)).length ≤ 60 := fun i => by
      rw [names_len, List.length_take]
      omega
    refine any_it (walk_tup (xs := as.map V.ref)) (fun i H' => Same H H' ∧ H' D = some (TxtO P w D (metL (namesL (os.take i)) []))) ⟨Same.new hD, upd_same⟩ (fun i H' _ ⟨s1, _⟩ => MF.Same.tup s1 b2) ?_ ?_
    · rintro i y H1 H2 hi ⟨s1, e1⟩ ⟨rfl, ey⟩
      rw [List.length_map] at hi
      obtain ⟨a, ea⟩ : ∃ a, as[i]? = some a := ⟨as[i], by simp [hi]⟩
      rw [List.getElem?_map, ea] at ey
      cases ey
      obtain ⟨o, eo, oa⟩ := Paired.get b3 ea
      have nn : namesL (os.take (i + 1)) = namesL (os.take i) ++ [o.src, o.tgt] := by
        rw [List.take_add_one, eo]
        unfold namesL
        rw [List.flatMap_append]
        rfl
      refine ⟨rfl, _, rfl, _, rfl, a, o.vals, rfl, oa.mono s1, (fun z => absurd (show (2 : Nat) = 5 from z.2) (by decide)), fun t2 ht2 => ?_⟩
      have s2 := MF.Same.upd (o := .tup [V.str o.src, V.str o.tgt]) s1 ht2
      have nD : D ≠ t2 := ne_of_none e1 ht2
      refine ⟨t2, rfl, ⟨_, .inl (.inl upd_same)⟩, ?_⟩
      refine any_it (walk_tup (xs := [V.str o.src, V.str o.tgt])) (fun j H' => Same H H' ∧ H' t2 = some (.tup [V.str o.src, V.str o.tgt]) ∧ H' D = some (TxtO P w D (metL (namesL (os.take i) ++ [o.src, o.tgt].take j) []))) ⟨s2, upd_same, by rw [upd_ne nD, List.take_zero, List.append_nil]; exact e1⟩ (fun j H' _ ⟨_, q, _⟩ => .inl (.inl q)) ?_ ?_
      · rintro j y H3 H4 hj ⟨s3, e3, d3⟩ ⟨rfl, ey⟩
        have hj2 : j = 0 ∨ j = 1 := by
          have : j < 2 := hj
          omega
        obtain ⟨z, ez, tz⟩ : ∃ z, y = V.str z ∧ [o.src, o.tgt].take (j + 1) = [o.src, o.tgt].take j ++ [z] := by
          rcases hj2 with rfl | rfl
          · exact ⟨o.src, (Option.some.inj ey).symm, rfl⟩
          · exact ⟨o.tgt, (Option.some.inj ey).symm, rfl⟩
        subst ez
        refine ⟨rfl, _, rfl, z, _, rfl, d3, ?_, fun b u e => ?_, ?_, ?_⟩
        · have : (metL (namesL (os.take i) ++ [o.src, o.tgt].take j) []).length ≤ 62 := by
            have h1 := (met_facts (namesL (os.take i) ++ [o.src, o.tgt].take j) [] List.nodup_nil).2.2
            have h2 := nl i
            rw [List.length_append, List.length_nil] at h1
            have h4 : ([o.src, o.tgt].take j).length ≤ 2 := by rcases hj2 with rfl | rfl <;> simp
            omega
          exact Nat.lt_of_le_of_lt (Nat.succ_le_succ this) (by decide)
        · rw [upd_ne (ne_of_none e hD)]
          exact s3 b u e
        · rw [upd_ne nD.symm]
          exact e3
        · rw [upd_same, tz, ← List.append_assoc, met_snoc]
          rfl
      · rintro H3 ⟨s3, e3, d3⟩
        refine ⟨s3, ?_⟩
        rw [nn]
        exact d3
    · rintro H1 ⟨s1, e1⟩
      rw [List.length_map, la, List.take_length] at e1
      obtain ⟨f1, f2, f3⟩ := met_facts (namesL os) [] List.nodup_nil
      have n60 := nl os.length
      rw [List.take_length] at n60
      have m60 := small _ n60
      refine ⟨D, _, rfl, e1, by omega, fun ys p' perm so hp => ?_⟩
      have s2 := MF.Same.upd (o := .lst (ys.map V.str)) s1 hp
      refine ⟨p', _, rfl, .inl ⟨SqL.of upd_same, fun t ht => ?_⟩⟩
      refine k _ t ys (MF.Same.upd s2 ht) (s2.free ht) upd_same ⟨perm.nodup_iff.mpr f1, so, fun z => ?_, by rw [perm.length_eq]; exact m60⟩
      rw [perm.mem_iff, f2]
      unfold namesL
      simp only [List.mem_flatMap, List.mem_cons, List.not_mem_nil, or_false]
end

end MF
set_option Elab.async false
set_option linter.all false
set_option maxRecDepth 100000
set_option maxHeartbeats 2000000
set_option pp.maxSteps 600
namespace MF
open PySem PySem.Spec PyProof.Rows L2 StX
section
variable {P : Program} {w : World} {K : PySem.W.Frag} {mg : Str → Option Value} {base : Heap} {C_Book C_MailError C_InvalidOrder C_UnknownOrder C_InvalidAddress C_InvalidDay C_InvalidNumber : Addr}
theorem tyBook {C : Addr} (c : Cls K C) (o : OwnC K C) {H : Hp} {a : Addr} {os : List Ordr} (B : BookAt K C H a os) : TyX K H (.ref a) (.ref C) := by
  obtain ⟨dx, t, as, h1, _, _⟩ := B
  exact .base (.ins h1 c o.ca o.cn o.ct o.mo)
theorem tyTup {H : Hp} {a : Addr} {xs : List V} (h : SqT K H a xs) : ∃ t, TyX K H (.ref a) t ∧ t = .type "tuple" := by
  rcases h with (z | ⟨u, z⟩) | z
  · exact ⟨_, .base (.tup z), rfl⟩
  · exact ⟨_, .fTuple z, rfl⟩
  · obtain ⟨o, its, n, e, c, _⟩ := z
    exact ⟨_, .kTuple e c, rfl⟩
def spBookEq (K : PySem.W.Frag) (C : Addr) : Sp := fun vs H Q _ => ∃ a os y, vs = [.ref a, y] ∧ BookAt K C H a os ∧ Good os ∧
  ((∃ b ps, y = .ref b ∧ BookAt K C H b ps ∧ Good ps ∧ Q (.bl (decide (os = ps))) H) ∨ (∃ t xs, y = .ref t ∧ SqT K H t xs ∧ Q (.bl false) H))
theorem ok_book_eq (T : Top K mg C_Book C_MailError C_InvalidOrder C_UnknownOrder C_InvalidAddress C_InvalidDay C_InvalidNumber) : MFn P w K mg base CX0 1 C_Book "__eq__" (spBookEq K C_Book) := by
  refine T.d_BookX_eqX.fn fun f fd F => F.ok sc_BookX_eqX (fun vs H Q E h => ?_) (fun cdv A outer s H vs Q E hr h => ?_)
  · obtain ⟨a, os, y, rfl, _⟩ := h
    rfl
  · obtain ⟨a, os, y, rfl, B, g, h⟩ := h
    refine ⟨_, (pss_one (ps_ret (pe_and (pe_callB call_isi (by rfl) T.b_isinstance (by decide +kernel) (pa_cons (pv 1) (pa_cons (pe_glob (v := V.ref C_Book) rfl T.g_Book rfl) pa_nil))) (pe_one (pe_cmpR (op_eqD hr.units) (pe_fld (pv 0) rfl) (pe_fld (pv 1) rfl) (nomark _)))))), ?_⟩
    obtain ⟨dx, t, as, h1, h2, h3⟩ := id B
    rcases h with ⟨b, ps, rfl, B2, g2, k⟩ | ⟨u, xs, rfl, hu, k⟩
    · obtain ⟨dy, t2, bs, c1, c2, c3⟩ := id B2
      refine ⟨_, rfl, _, _, _, _, _, rfl, .own C_Book, tyBook T.cl_Book T.ow_Book B2, T.ow_Book.is, true, rfl, ?_⟩
      refine iteT ⟨_, rfl, a, C_Book, dx, _, _, rfl, h1, T.cl_Book, T.n_Book_listed, rfl, _, rfl, b, C_Book, dy, _, _, rfl, c1, T.cl_Book, T.n_Book_listed, rfl, ?_⟩
      have d1 : DK 2 (.tuple (os.map ordDK)) := .tuple (DK.map fun o ho => .ord (g.ok o ho)) (by rw [List.length_map]; have := g.len; omega)
      have d2 : DK 2 (.tuple (ps.map ordDK)) := .tuple (DK.map fun o ho => .ord (g2.ok o ho)) (by rw [List.length_map]; have := g2.len; omega)
      refine ⟨.tuple (os.map ordDK), .tuple (ps.map ordDK), .tup h2 (dkOrds h3), .tup c2 (dkOrds c3), d1.shaped (by decide), d2.shaped (by decide), ?_⟩
      rw [show PyData.eqv (.tuple (os.map ordDK)) (.tuple (ps.map ordDK)) = decide (os = ps) from eqvOrds os ps]
      exact k
    · obtain ⟨ty, hty, rfl⟩ := tyTup hu
      exact ⟨_, rfl, _, _, _, _, _, rfl, .own C_Book, hty, T.ow_Book.no, false, rfl, iteF k⟩
theorem strsV_inB (ys : List Str) (z : Str) : inV (.str z) (ys.map V.str) = decide (z ∈ ys) := by
  unfold inV
  rw [List.any_map, Bool.eq_iff_iff, List.any_eq_true, decide_eq_true_eq]
  exact ⟨fun ⟨y, hy, e⟩ => by
    have : y = z := by simpa [eqV] using e
    exact this ▸ hy, fun h => ⟨z, h, by simp [eqV]⟩⟩
theorem names_mem (os : List Ordr) (z : Str) : z ∈ namesL os ↔ ∃ o ∈ os, z = o.src ∨ z = o.tgt := by
  unfold namesL
  simp only [List.mem_flatMap, List.mem_cons, List.not_mem_nil, or_false]
def spBookIn (K : PySem.W.Frag) (C : Addr) : Sp := fun vs H Q _ => ∃ a os v, vs = [.ref a, v] ∧ BookAt K C H a os ∧ Good os ∧
  ((∃ z, v = .str z ∧ ∀ H', Same H H' → Q (.bl (decide (∃ o ∈ os, z = o.src ∨ z = o.tgt))) H') ∨ ((v = .non ∨ ∃ i, v = .int i) ∧ Q (.bl false) H))
theorem ok_book_in (T : Top K mg C_Book C_MailError C_InvalidOrder C_UnknownOrder C_InvalidAddress C_InvalidDay C_InvalidNumber) : MFn P w K mg base CX0 1 C_Book "__contains__" (spBookIn K C_Book) := by
  refine T.d_BookX_containsX.fn fun f fd F => F.ok sc_BookX_containsX (fun vs H Q E h => ?_) (fun cdv A outer s H vs Q E hr h => ?_)
  · obtain ⟨a, os, v, rfl, _⟩ := h
    rfl
  · obtain ⟨a, os, v, rfl, B, g, h⟩ := h
    refine ⟨_, (pss_one (ps_ret (pe_and (pe_callB call_isi (by rfl) T.b_isinstance (by decide +kernel) (pa_cons (pv 1) (pa_cons (pe_bltn (v := .ty "str") (by rfl) T.b_str (by decide +kernel) rfl) pa_nil))) (pe_one (pe_cmpR op_in_seq (pv 1) (pe_lc2 (own := [("order", 2), ("name", 3)]) (vs1 := [3]) (g := (gName 2)) (g1 := (gName 3)) (by rfl) sc_BookX_containsX.nd (pi_tup (pe_fld (pv 0) rfl)) (blkOk_by (own := [("order", 2), ("name", 3)]) (N := ["self", "address", "order", "name"]) (sc := defScope s_BookX_containsX) (by decide +kernel)) (by decide) (fun _ _ _ _ _ => (pg_name (i := 2) sc_BookX_containsX.nd rfl (Or.inl rfl))) (fun _ _ _ _ _ => pts_nil) (fun _ _ _ _ _ => (pi_tupK (K := K) (pe_slice (sl_tupK (K := K)) (pv 2) po_none (po_some pe_int)))) (fun _ _ _ _ _ => (pg_name (i := 3) sc_BookX_containsX.nd rfl (Or.inl rfl))) (fun _ _ _ _ _ => pts_nil) (fun _ _ _ _ _ => (pv 3))) rfl))))), ?_⟩
    obtain ⟨dx, t, as, h1, h2, h3⟩ := id B
    have la := PySem.Paired.length h3
    rcases h with ⟨z, rfl, k⟩ | ⟨hv, k⟩
    · refine ⟨_, rfl, _, _, _, _, _, rfl, .ty "str", .base (.str z), rfl, true, rfl, ?_⟩
      refine iteT ⟨_, rfl, _, rfl, a, C_Book, dx, _, _, rfl, h1, T.cl_Book, T.n_Book_listed, rfl, t, rfl, ⟨_, h2⟩, fun D hD => ?_⟩
      refine any_it (walk_tup (xs := as.map V.ref)) (fun i H' => Same H H' ∧ H' D = some (.lst ((namesL (os.take i)).map V.str))) ⟨Same.new hD, upd_same⟩ (fun i H' _ ⟨s1, _⟩ => MF.Same.tup s1 h2) ?_ ?_
      · rintro i y H1 H2 hi ⟨s1, e1⟩ ⟨rfl, ey⟩
        rw [List.length_map] at hi
        obtain ⟨a', ea⟩ : ∃ a', as[i]? = some a' := ⟨as[i], by simp [hi]⟩
        rw [List.getElem?_map, ea] at ey
        cases ey
        obtain ⟨o, eo, oa⟩ := Paired.get h3 ea
        have nn : namesL (os.take (i + 1)) = namesL (os.take i) ++ [o.src, o.tgt] := by
          rw [List.take_add_one, eo]
          unfold namesL
          rw [List.flatMap_append]
          rfl
        refine ⟨rfl, yesT ?_⟩
        refine iteT ⟨_, rfl, _, rfl, a', o.vals, rfl, oa.mono s1, (fun z => absurd (show (2 : Nat) = 5 from z.2) (by decide)), fun t2 ht2 => ?_⟩
        have s2 := MF.Same.upd (o := .tup [V.str o.src, V.str o.tgt]) s1 ht2
        have nD : D ≠ t2 := ne_of_none e1 ht2
        refine ⟨t2, rfl, ⟨_, .inl (.inl upd_same)⟩, ?_⟩
        refine any_it (walk_tup (xs := [V.str o.src, V.str o.tgt])) (fun j H' => Same H H' ∧ H' t2 = some (.tup [V.str o.src, V.str o.tgt]) ∧ H' D = some (.lst ((namesL (os.take i) ++ [o.src, o.tgt].take j).map V.str))) ⟨s2, upd_same, by rw [upd_ne nD, List.take_zero, List.append_nil]; exact e1⟩ (fun j H' _ ⟨_, q, _⟩ => .inl (.inl q)) ?_ ?_
        · rintro j y H3 H4 hj ⟨s3, e3, d3⟩ ⟨rfl, ey⟩
          have hj2 : j = 0 ∨ j = 1 := by
            have : j < 2 := hj
            omega
          obtain ⟨z', ez, tz⟩ : ∃ z', y = V.str z' ∧ [o.src, o.tgt].take (j + 1) = [o.src, o.tgt].take j ++ [z'] := by
            rcases hj2 with rfl | rfl
            · exact ⟨o.src, (Option.some.inj ey).symm, rfl⟩
            · exact ⟨o.tgt, (Option.some.inj ey).symm, rfl⟩
          subst ez
          refine ⟨rfl, yesT (iteT ⟨_, rfl, _, d3, ?_, fun b u e => ?_, ?_, ?_⟩)⟩
          · have hn := names_len (os.take i)
            have l30 := g.len
            rw [List.length_map, List.length_append, hn, List.length_take, sizeLine_eq]
            have h4 : ([o.src, o.tgt].take j).length ≤ 2 := by rcases hj2 with rfl | rfl <;> simp
            omega
          · rw [upd_ne (ne_of_none e hD)]
            exact s3 b u e
          · rw [upd_ne nD.symm]
            exact e3
          · rw [upd_same, tz, ← List.append_assoc, List.map_append (l₂ := [z'])]
            rfl
        · rintro H3 ⟨s3, e3, d3⟩
          refine ⟨s3, ?_⟩
          rw [nn]
          exact d3
      · rintro H1 ⟨s1, e1⟩
        rw [List.length_map, la, List.take_length] at e1
        refine ⟨D, _, rfl, .inl (SqL.of e1), rfl, by rw [List.all_map]; exact List.all_eq_true.mpr fun _ _ => rfl, ?_⟩
        rw [show (if false = true then !inV (.str z) ((namesL os).map V.str) else inV (.str z) ((namesL os).map V.str)) = decide (∃ o ∈ os, z = o.src ∨ z = o.tgt) from by rw [if_neg (by decide), strsV_inB, Bool.eq_iff_iff, decide_eq_true_eq, decide_eq_true_eq]; exact names_mem os z]
        exact k _ s1
    · rcases hv with rfl | ⟨i, rfl⟩
      · exact ⟨_, rfl, _, _, _, _, _, rfl, .ty "str", .base .non, rfl, false, rfl, iteF k⟩
      · exact ⟨_, rfl, _, _, _, _, _, rfl, .ty "str", .base (.int i), rfl, false, rfl, iteF k⟩
theorem okX_book_item (T : Top K mg C_Book C_MailError C_InvalidOrder C_UnknownOrder C_InvalidAddress C_InvalidDay C_InvalidNumber) : MFn P w K mg base (L2.CX P w) 3 C_Book "__getitem__" (spCheckOrdX K C_Book ⟨C_InvalidOrder, C_UnknownOrder, C_InvalidAddress, C_InvalidDay, C_InvalidNumber⟩) := by
  have G_is_integer : GFn P w K mg base CX0 1 "is_integer" spIsInteger := ok_is_integer T
  have E_UnknownOrder : EFn P w K mg base CX0 1 C_UnknownOrder "UnknownOrder" ["self", "index"] (spE1 K C_UnknownOrder "index") := ok_UnknownOrder T
  refine T.d_BookX_getitemX.fnX sc_BookX_getitemX (fun vs H Q E h => ?_) (fun f cdv A outer s H vs Q E hr h => ?_)
  · obtain ⟨bk, os, v, rfl, _⟩ := h
    rfl
  · obtain ⟨bk, os, v, rfl, hB, h30, nv, fv, hi, kk⟩ := h
    refine ⟨_, (pss_cons (ps_if (pt_not (pt_val (pe_g G_is_integer (hr.mono (by decide)) (pa_cons (pv 1) (pa_cons pe_int (pa_cons (pe_op op_sub (pe_callB call_len_seq (by rfl) T.b_len (by decide +kernel) (pa_cons (pe_fld (pv 0) rfl) pa_nil)) pe_int) pa_nil))))))
  (pss_one (ps_raise rfl takeE (pmk_1 E_UnknownOrder (hr.mono (by decide)) (pa_cons (pv 1) pa_nil))))
  pss_nil)
  (pss_one (ps_ret (pe_ix ix_tup (pe_fld (pv 0) rfl) (pv 1) (fun _ _ => rfl))))), ?_⟩
    obtain ⟨dx, t, as, h1, h2, h3⟩ := hB
    have hl : as.length = os.length := PySem.Paired.length h3
    refine ⟨_, rfl, _, rfl, bk, C_Book, dx, _, _, rfl, h1, T.cl_Book, T.n_Book_listed, rfl, t, _, rfl, .inr h2, _, _, rfl, rfl, _, _, _, rfl, nv, _, rfl, ?_⟩
    have e : isIntB v 0 (((as.map V.ref).length : Nat) - 1) = false := by
      rw [List.length_map, hl]
      exact hi
    rw [e]
    refine iteT ?_
    exact ⟨_, rfl, e1_fin fv fun d H3 s3 fd ed => kk _ _ _ s3 ⟨rfl, d, rfl, ed⟩⟩
end

end MF
set_option Elab.async false
set_option linter.all false
set_option maxRecDepth 100000
set_option maxHeartbeats 2000000
set_option pp.maxSteps 600
namespace MF
open PySem PySem.Spec PyProof.Rows L2 StX
section
variable {P : Program} {w : World} {K : PySem.W.Frag} {mg : Str → Option Value} {base : Heap} {C_Book C_MailError C_InvalidOrder C_UnknownOrder C_InvalidAddress C_InvalidDay C_InvalidNumber : Addr}
def lessF {α : Type} (is : List Nat) : Nat → List α → List α
  | _, [] => []
  | n, a :: l => if n ∈ is then lessF is (n + 1) l else a :: lessF is (n + 1) l
theorem lessF_snoc {α : Type} (is : List Nat) (a : α) : ∀ (l : List α) (n : Nat), lessF is n (l ++ [a]) = lessF is n l ++ (if n + l.length ∈ is then [] else [a])
  | [], n => by simp only [List.nil_append, lessF, List.length_nil, Nat.add_zero]
  | b :: l, n => by
    have e : n + 1 + l.length = n + (b :: l).length := by rw [List.length_cons]; omega
    simp only [List.cons_append, lessF]
    rw [lessF_snoc is a l (n + 1), e]
    split <;> rfl
theorem lessF_sub {α : Type} (is : List Nat) : ∀ (l : List α) (n : Nat), (lessF is n l).Sublist l
  | [], n => .slnil
  | b :: l, n => by
    simp only [lessF]
    split
    · exact (lessF_sub is l (n + 1)).cons _
    · exact (lessF_sub is l (n + 1)).cons₂ _
theorem lessF_pair {α β : Type} {r : α → β → Prop} (is : List Nat) : ∀ {as : List α} {bs : List β} (n : Nat), PySem.Paired r as bs → PySem.Paired r (lessF is n as) (lessF is n bs)
  | _, _, _, .nil => .nil
  | _, _, n, .cons h t => by
    simp only [lessF]
    split
    · exact lessF_pair is (n + 1) t
    · exact .cons h (lessF_pair is (n + 1) t)
theorem lessF_step {α : Type} (is : List Nat) (l : List α) (j : Nat) (a : α) (h : l[j]? = some a) : lessF is 0 (l.take (j + 1)) = lessF is 0 (l.take j) ++ (if j ∈ is then [] else [a]) := by
  have hl : j < l.length := (List.getElem?_eq_some_iff.mp h).1
  rw [List.take_add_one, h]
  show lessF is 0 (l.take j ++ [a]) = _
  rw [lessF_snoc, List.length_take, Nat.min_eq_left (Nat.le_of_lt hl), Nat.zero_add]
theorem Good.sub {os ps : List Ordr} (g : Good os) (h : ps.Sublist os) : Good ps := ⟨Nat.le_trans h.length_le g.len, fun o ho => g.ok o (h.subset ho), g.apart.sublist h⟩
def ixV (is : List Nat) : List V := is.map fun i => V.int (i : Nat)
theorem ixV_in (is : List Nat) (i : Nat) : inV (.int (i : Nat)) (ixV is) = decide (i ∈ is) := by
  unfold inV ixV
  rw [List.any_map, Bool.eq_iff_iff, List.any_eq_true, decide_eq_true_eq]
  exact ⟨fun ⟨y, hy, e⟩ => by
    have : y = i := by
      have : ((y : Int) == (i : Int)) = true := e
      rw [beq_iff_eq] at this
      omega
    exact this ▸ hy, fun h => ⟨i, h, by simp [eqV]⟩⟩
def spWithoutN0 (K : PySem.W.Frag) (CB : Addr) : Sp := fun vs H Q _ => ∃ bk os t, ∃ is : List Nat, vs = [.ref bk, .ref t] ∧ BookAt K CB H bk os ∧ Good os ∧ (∀ i ∈ is, i < os.length) ∧ is.length ≤ 100 ∧ H t = some (.tup (ixV is)) ∧
  ∀ H' p, Same H H' → H p = none → BookAt K CB H' p (lessF is 0 os) → Q (.ref p) H'
theorem ok_withoutN0 (T : Top K mg C_Book C_MailError C_InvalidOrder C_UnknownOrder C_InvalidAddress C_InvalidDay C_InvalidNumber) : MFn P w K mg base CX0 6 C_Book "without" (fun vs H Q E => ∃ v rest, vs = v :: rest ∧ rest.length ≤ sizeLine ∧ ∀ p, H p = Option.none → spWithoutN0 K C_Book [v, V.ref p] (upd H p (.tup rest)) Q E) := by
  have M_Book_check_order : MFn P w K mg base CX0 2 C_Book "check_order" (spCheckOrd K C_Book) := ok_check_order T
  have G_book_of : GFn P w K mg base CX0 5 "book_of" (spBookOf K C_Book) := ok_book_of T
  refine T.d_Book_without.fn0 sc_Book_without fun f cdv A outer s H vs Q E hr h => ?_
  obtain ⟨bk, os, t, is, rfl, hb, g, hi, hl100, et, k⟩ := h
  refine ⟨_, (pss_cons (ps_for PassesOwn.never rfl (pi_tup (pv 1)) (pg_name (i := 2) sc_Book_without.nd rfl (Or.inl rfl))
  (pss_one (ps_expr (pe_m M_Book_check_order T.cl_Book (hr.mono (by decide)) (pv 0) (pa_cons (pv 2) pa_nil)))))
  (pss_one (ps_ret (pe_g G_book_of (hr.mono (by decide)) (pa_cons (pe_lc (own := [("index", 2), ("order", 3)]) (g := (gTup K 2 (gCons (gName 2) (gCons (gName 3) gNil)))) (by rfl) sc_Book_without.nd (pi_enumT (by rfl) T.b_enumerate (pa_cons (pe_fld (pv 0) rfl) pa_nil)) (blkOk_by (own := [("index", 2), ("order", 3)]) (N := ["self", "indexes", "index", "order"]) (sc := defScope s_Book_without) (by decide +kernel)) (fun _ _ _ _ _ => (pg_tup rfl (pgs_cons (pg_name (i := 2) sc_Book_without.nd rfl (Or.inl rfl)) (pgs_cons (pg_name (i := 3) sc_Book_without.nd rfl (Or.inl rfl)) pgs_nil)))) (fun _ _ _ _ _ => (pts_one (pt_cmpR (op_notIn_seqK (K := K)) (pv 2) (pv 1) rfl))) (fun _ _ _ _ _ => (pv 3))) pa_nil))))), ?_⟩
  obtain ⟨dx, tl, as, b1, b2, b3⟩ := id hb
  have hl : as.length = os.length := PySem.Paired.length b3
  refine ⟨_, rfl, t, rfl, ⟨_, .inl (.inl et)⟩, for_it (walk_tup (xs := ixV is)) (fun j σ H' => H' = H ∧ ∃ v2 v3, σ = [some (.ref bk), some (.ref t), v2, v3]) ⟨rfl, _, _, rfl⟩ (fun j σ H' _ ⟨e, _⟩ => by rw [e]; exact .inl (.inl et)) ?_ ?_⟩
  · rintro j y σ H1 H2 hj ⟨rfl, v2, v3, rfl⟩ ⟨rfl, ey⟩
    replace hj : j < (ixV is).length := hj
    unfold ixV at hj ey
    rw [List.length_map] at hj
    rw [List.getElem?_map, List.getElem?_eq_getElem hj] at ey
    cases ey
    refine ⟨_, rfl, bk, dx, _, rfl, b1, rfl, _, rfl, bk, os, is[j], rfl, hb, hi _ (List.getElem_mem hj), ?_⟩
    exact ⟨rfl, _, _, rfl⟩
  · rintro σ H1 ⟨rfl, v2, v3, rfl⟩
    refine ⟨_, rfl, bk, C_Book, dx, _, _, rfl, b1, T.cl_Book, T.n_Book_listed, rfl, tl, _, rfl, b2, fun D hD => ?_⟩
    refine lc_it walk_enumT (fun j H' => Same H1 H' ∧ H' D = some (.lst ((lessF is 0 (as.take j)).map V.ref))) ⟨Same.new hD, upd_same⟩ (fun j H' _ ⟨s1, _⟩ => MF.Same.tup s1 b2) ?_ ?_
    · rintro j y H2 H3 hj ⟨s2, e2⟩ ⟨p, z1, z2, rfl, hp, rfl, ez1, ez2⟩
      cases ez1
      rw [List.length_map] at hj
      obtain ⟨a, ea⟩ : ∃ a, as[j]? = some a := ⟨as[j], by simp [hj]⟩
      replace ez2 : (as.map V.ref)[j]? = some z2 := ez2
      rw [List.getElem?_map, ea] at ez2
      cases ez2
      have s3 := Same.new (o := .tup [.int (j : Nat), .ref a]) hp
      have s13 := s2.trans s3
      have e3 := s3 _ _ e2
      refine ⟨p, _, rfl, .inl (.inl upd_same), rfl, _, _, rfl, _, _, rfl, rfl, rfl, ?_⟩
      refine ⟨_, rfl, _, rfl, t, _, rfl, .inr (.inl (.inl (s13 _ _ et))), rfl, by unfold ixV; rw [List.all_map]; exact List.all_eq_true.mpr fun _ _ => rfl, _, rfl, ?_⟩
      show if (!inV (V.int (j : Nat)) (ixV is)) = true then _ else _
      rw [ixV_in]
      by_cases c : j ∈ is
      · refine iteND c ⟨s13, ?_⟩
        rw [e3, lessF_step is as j a ea, if_pos c, List.append_nil]
      · refine iteNDN c ⟨_, rfl, _, e3, ?_, fun b u e => ?_, ?_⟩
        · rw [List.length_map]
          have := (lessF_sub is (as.take j) 0).length_le
          have l2 := List.length_take_le j as
          have := g.len
          rw [sizeLine_eq]
          omega
        · rw [upd_ne (ne_of_none e hD)]
          exact s13 b u e
        · rw [upd_same, lessF_step is as j a ea, if_neg c, List.map_append]
          rfl
    · rintro H2 ⟨s2, e2⟩
      rw [List.length_map, List.take_length] at e2
      refine ⟨D, lessF is 0 as, lessF is 0 os, rfl, .inr (SqL.of e2), lessF_pair is 0 (b3.mono s2), g.sub (lessF_sub is os 0), fun H3 p s3 f3 B3 => ?_⟩
      exact k _ p (s2.trans s3) (s2.free f3) B3
def spWithoutN (K : PySem.W.Frag) (CB : Addr) : Sp := fun vs H Q _ => ∃ bk os, ∃ is : List Nat, vs = .ref bk :: ixV is ∧ BookAt K CB H bk os ∧ Good os ∧ (∀ i ∈ is, i < os.length) ∧ is.length ≤ 100 ∧
  ∀ H' p, Same H H' → H p = none → BookAt K CB H' p (lessF is 0 os) → Q (.ref p) H'
theorem ok_withoutN (T : Top K mg C_Book C_MailError C_InvalidOrder C_UnknownOrder C_InvalidAddress C_InvalidDay C_InvalidNumber) : MFn P w K mg base CX0 6 C_Book "without" (spWithoutN K C_Book) :=
  (ok_withoutN0 T).imp fun vs H Q E h => by
    obtain ⟨bk, os, is, rfl, hb, g, hi, hl, k⟩ := h
    refine ⟨_, _, rfl, by unfold ixV; rw [List.length_map, sizeLine_eq]; omega, fun p hp => ?_⟩
    have s1 := Same.new (o := .tup (ixV is)) hp
    exact ⟨bk, os, p, is, rfl, hb.mono s1, g, hi, hl, upd_same, fun H' q s' f' B => k _ q (s1.trans s') (s1.free f') B⟩
end

end MF
set_option Elab.async false
set_option linter.all false
set_option maxRecDepth 100000
set_option maxHeartbeats 2000000
set_option pp.maxSteps 600
namespace MF
open PySem PySem.Spec PyProof.Rows L2 StX
section
variable {P : Program} {w : World} {K : PySem.W.Frag} {mg : Str → Option Value} {base : Heap} {C_Book C_MailError C_InvalidOrder C_UnknownOrder C_InvalidAddress C_InvalidDay C_InvalidNumber : Addr}
def spBookOrders (C : Addr) : Sp := fun vs H Q _ => ∃ p dx t, vs = [.ref p] ∧ H p = some (.ins C dx [("listed", .ref t)]) ∧ Q (.ref t) H
theorem ok_book_orders (T : Top K mg C_Book C_MailError C_InvalidOrder C_UnknownOrder C_InvalidAddress C_InvalidDay C_InvalidNumber) : PFn P w K mg base CX0 1 C_Book "orders" (spBookOrders C_Book) := by
  refine T.d_Book_orders.fn fun f fd F => F.ok sc_Book_orders (fun vs H Q E h => ?_) (fun cdv A outer s H vs Q E hr h => ?_)
  · obtain ⟨p, dx, t, rfl, _⟩ := h
    rfl
  · obtain ⟨p, dx, t, rfl, e, k⟩ := h
    refine ⟨_, (pss_one (ps_ret (pe_fld (pv 0) rfl))), ?_⟩
    exact ⟨_, rfl, p, C_Book, dx, _, _, rfl, e, T.cl_Book, T.n_Book_listed, rfl, k⟩
end

end MF
set_option Elab.async false
set_option linter.all false
set_option maxRecDepth 100000
set_option maxHeartbeats 2000000
set_option pp.maxSteps 600
namespace MF
open PySem PySem.Spec PyProof.Rows L2 StX
section
variable {P : Program} {w : World} {K : PySem.W.Frag} {mg : Str → Option Value} {base : Heap} {C_Book C_MailError C_InvalidOrder C_UnknownOrder C_InvalidAddress C_InvalidDay C_InvalidNumber : Addr}
theorem walk_zipT {a b : Addr} {xs ys : List V} {n : Nat} (hn : n = min xs.length ys.length) : Walk (RZ.ItzT K a b) n (fun H => SqT K H a xs ∧ SqT K H b ys) (YPair (fun i => xs[i]?) (fun i => ys[i]?)) := by
  subst hn
  refine ⟨fun i _ hi q => ?_, fun _ q => ⟨xs, ys, q.1, q.2, by omega⟩, fun i H v H' _ q y => ?_⟩
  · have h1 : i < xs.length := by omega
    have h2 : i < ys.length := by omega
    exact ⟨xs, ys, xs[i], ys[i], q.1, q.2, by simp [h1], by simp [h2]⟩
  · obtain ⟨T, x, z, h1, h2, h3, h4, h5⟩ := y
    exact ⟨T, x, z, h1, h2, h3, h4 xs q.1, h5 ys q.2⟩
def chainL (f l w : Int) (ns : List Str) : List Ordr := (ns.zip (ns.drop 1)).map fun p => ⟨p.1, p.2, f, l, w⟩
def spChain0 (K : PySem.W.Frag) (C : Addr) : Sp := fun vs H Q _ => ∃ f l w t ns, vs = [.ref C, .int f, .int l, .int w, .ref t] ∧ H t = some (.tup ((ns : List Str).map V.str)) ∧ 1 ≤ ns.length ∧ ns.length ≤ 30 ∧ Good (chainL f l w ns) ∧
  ∀ H' p, Same H H' → H p = none → BookAt K C H' p (chainL f l w ns) → Q (.ref p) H'
theorem ok_chain0 (T : Top K mg C_Book C_MailError C_InvalidOrder C_UnknownOrder C_InvalidAddress C_InvalidDay C_InvalidNumber) : CFn P w K mg base CX0 5 C_Book "chain" (fun vs H Q E => ∃ ws rest, vs = ws ++ rest ∧ ws.length = ["cls", "first", "last", "way"].length ∧ rest.length ≤ sizeLine ∧ ∀ p, H p = Option.none → spChain0 K C_Book (ws ++ [V.ref p]) (upd H p (.tup rest)) Q E) := by
  have G_Book : IFn P w K mg base CX0 3 C_Book "Book" (spBookInit K C_Book) := ok_Book T
  refine T.d_Book_chain.fn0 sc_Book_chain fun f cdv A outer s H vs Q E hr h => ?_
  obtain ⟨fi, la, wa, t, ns, rfl, ht, n1, n30, g, k⟩ := h
  refine ⟨_, (pss_cons (ps_setLc (i := 5) (own := [("source", 6), ("target", 7)]) (g := (gTup K 2 (gCons (gName 6) (gCons (gName 7) gNil)))) (by rfl) sc_Book_chain.nd rfl rfl (sw_true rfl rfl rfl (by decide +kernel)) (RZ.pi_zipA (by rfl) T.b_zip (pa_cons (pv 4) (pa_cons (pe_slice sl_tup (pv 4) (po_some pe_int) po_none) pa_nil))) (blkOk_by (own := [("source", 6), ("target", 7)]) (N := ["cls", "first", "last", "way", "addresses", "found", "source", "target"]) (sc := defScope s_Book_chain) (by decide +kernel)) (fun _ _ _ _ _ => (pg_tup rfl (pgs_cons (pg_name (i := 6) sc_Book_chain.nd rfl (Or.inl rfl)) (pgs_cons (pg_name (i := 7) sc_Book_chain.nd rfl (Or.inl rfl)) pgs_nil)))) (fun _ _ _ _ _ => pts_nil) (fun _ _ _ _ _ => (pe_tup (pa_cons (pv 6) (pa_cons (pv 7) (pa_cons (pv 1) (pa_cons (pv 2) (pa_cons (pv 3) pa_nil))))))))
  (pss_one (ps_ret (pe_mkSL (i := 0) G_Book (hr.mono (by decide)) pass0 rfl (Or.inl rfl) (pv 5))))), ?_⟩
  refine ⟨_, rfl, _, rfl, _, rfl, t, _, rfl, .inl (.inl ht), ?_, fun t2 ht2 => ?_⟩
  · rintro ⟨z, _⟩
    have z' : HT.sIx (ns.map V.str).length 0 (some ((1 : Nat) : Int)) = 0 := z
    rw [HT.sIx_nat, List.length_map] at z'
    omega
  have c1 : cutV (ns.map V.str) (some 1) none = (ns.drop 1).map V.str := by
    have := cut_drop (ns.map V.str) 1 (by rw [List.length_map]; exact n1)
    rw [List.map_drop]
    exact this
  rw [c1]
  have s2 : Same H (upd H t2 (.tup ((ns.drop 1).map V.str))) := Same.new ht2
  have q2 : (upd H t2 (.tup ((ns.drop 1).map V.str))) t2 = some (.tup ((ns.drop 1).map V.str)) := upd_same
  generalize upd H t2 (.tup ((ns.drop 1).map V.str)) = H2 at s2 q2
  refine ⟨t, t2, _, _, rfl, .inr ⟨.inl (.inl (s2 _ _ ht)), .inl (.inl q2), fun D hD => ?_⟩⟩
  have lc : (chainL fi la wa ns).length = ns.length - 1 := by
    unfold chainL
    rw [List.length_map, List.length_zip, List.length_drop]
    omega
  refine lc_it (walk_zipT (xs := ns.map V.str) (ys := (ns.drop 1).map V.str) (n := ns.length - 1) (by rw [List.length_map, List.length_map, List.length_drop]; omega)) (fun i H' => Same H2 H' ∧ ∃ as, H' D = some (.lst (as.map V.ref)) ∧ OrdsAt K H' as ((chainL fi la wa ns).take i)) ⟨Same.new hD, [], upd_same, .nil⟩ (fun i H' _ ⟨s3, _⟩ => ⟨.inl (.inl (s3 _ _ (s2 _ _ ht))), .inl (.inl (s3 _ _ q2))⟩) ?_ ?_
  · rintro i y H3 H4 hi ⟨s3, as, e3, O3⟩ ⟨T4, x, z, rfl, hT, rfl, ex, ez⟩
    replace ex : (ns.map V.str)[i]? = some x := ex
    replace ez : ((ns.drop 1).map V.str)[i]? = some z := ez
    have h1 : i < ns.length := by omega
    have h2 : i < (ns.drop 1).length := by rw [List.length_drop]; omega
    rw [List.getElem?_map, List.getElem?_eq_getElem h1] at ex
    rw [List.getElem?_map, List.getElem?_eq_getElem h2] at ez
    cases ex
    cases ez
    generalize ea : ns[i] = a
    generalize eb : (ns.drop 1)[i] = b
    have eo : (chainL fi la wa ns)[i]? = some ⟨a, b, fi, la, wa⟩ := by
      unfold chainL
      rw [List.getElem?_map, (List.getElem?_zip_eq_some (z := (a, b))).mpr ⟨by rw [List.getElem?_eq_getElem h1, ea], by rw [List.getElem?_eq_getElem h2, eb]⟩]
      rfl
    have s4 := Same.new (o := .tup [V.str a, V.str b]) hT
    have e4 := s4 _ _ e3
    refine ⟨T4, _, rfl, .inl (.inl upd_same), rfl, _, _, rfl, _, _, rfl, rfl, rfl, ?_⟩
    refine ⟨_, rfl, _, rfl, _, rfl, _, rfl, _, rfl, (by show 5 ≤ sizeLine; decide), fun q hq => ?_⟩
    have nDq : D ≠ q := ne_of_none e4 hq
    have la' : as.length = i := by
      have := PySem.Paired.length O3
      rw [List.length_take, lc] at this
      omega
    have hup : ∀ b' u, H3 b' = some u → b' ≠ D → (upd (upd (upd H3 T4 (.tup [V.str a, V.str b])) q (.tup [.str a, .str b, .int fi, .int la, .int wa])) D (.lst (as.map V.ref ++ [.ref q]))) b' = some u := fun b' u e nb => by
      rw [upd_ne nb, upd_ne (ne_of_none (s4 _ _ e) hq)]
      exact s4 _ _ e
    refine ⟨_, by rw [upd_ne nDq]; exact e4, ?_, fun b' u e => hup b' u (s3 b' u e) (ne_of_none e hD), as ++ [q], by rw [upd_same, List.map_append]; rfl, ?_⟩
    · rw [List.length_map, sizeLine_eq]
      omega
    · rw [List.take_add_one, eo]
      refine Paired.append (OrdsAt.keepR O3 fun b' u e z => hup b' u e fun w => ?_) (.cons (.inl (.inl ?_)) .nil)
      · rw [w, e3] at e
        cases e
        cases z
      · rw [upd_ne nDq.symm, upd_same]
        rfl
  · rintro H3 ⟨s3, as, e3, O3⟩
    rw [show (chainL fi la wa ns).take (ns.length - 1) = chainL fi la wa ns by rw [← lc, List.take_length]] at O3
    have s03 := s2.trans s3
    refine ⟨rfl, _, rfl, D, _, rfl, .inr (SqL.of e3), ?_⟩
    intro x dx hx hdx ne
    show spBookInit K C_Book (.ref x :: (as.map V.ref ++ [])) _ _ _
    rw [List.append_nil]
    exact book_made' O3 g hx hdx ne fun H4 s4 B4 => ⟨rfl, k _ x (s03.trans s4) (s03.free hx) B4⟩
def spChain (K : PySem.W.Frag) (C : Addr) : Sp := fun vs H Q _ => ∃ f l w ns, vs = .ref C :: .int f :: .int l :: .int w :: (ns : List Str).map V.str ∧ 1 ≤ ns.length ∧ ns.length ≤ 30 ∧ Good (chainL f l w ns) ∧
  ∀ H' p, Same H H' → H p = none → BookAt K C H' p (chainL f l w ns) → Q (.ref p) H'
theorem CFn.imp {CX : CXT} {k : Nat} {C : Addr} {m : Str} {sp sp' : Sp} (G : CFn P w K mg base CX k C m sp) (h : ∀ vs H Q E, sp' vs H Q E → sp vs H Q E) : CFn P w K mg base CX k C m sp' := let ⟨a, b, f, F, r⟩ := G.ex; ⟨a, b, f, F.imp h, r⟩
theorem ok_chain (T : Top K mg C_Book C_MailError C_InvalidOrder C_UnknownOrder C_InvalidAddress C_InvalidDay C_InvalidNumber) : CFn P w K mg base CX0 5 C_Book "chain" (spChain K C_Book) :=
  (ok_chain0 T).imp fun vs H Q E h => by
    obtain ⟨fi, la, wa, ns, rfl, n1, n30, g, k⟩ := h
    refine ⟨[.ref C_Book, .int fi, .int la, .int wa], ns.map V.str, rfl, rfl, by rw [List.length_map, sizeLine_eq]; omega, fun p hp => ?_⟩
    have s1 := Same.new (o := .tup (ns.map V.str)) hp
    exact ⟨fi, la, wa, p, ns, rfl, upd_same, n1, n30, g, fun H' q s' f' B => k _ q (s1.trans s') (s1.free f') B⟩
end

end MF
set_option Elab.async false
set_option linter.all false
set_option maxRecDepth 100000
set_option maxHeartbeats 2000000
set_option pp.maxSteps 600
namespace MF
open PySem PySem.Spec PyProof.Rows L2 StX
section
variable {P : Program} {w : World} {K : PySem.W.Frag} {mg : Str → Option Value} {base : Heap} {C_Book C_MailError C_InvalidOrder C_UnknownOrder C_InvalidAddress C_InvalidDay C_InvalidNumber : Addr}
def spWithoutX0 (K : PySem.W.Frag) (CB : Addr) (c : Cls5) : Sp := fun vs H Q E => ∃ bk os t v, vs = [.ref bk, .ref t] ∧ BookAt K CB H bk os ∧ os.length ≤ 30 ∧ notSeq v = true ∧ FmtOk v ∧ isIntB v 0 ((os.length : Int) - 1) = false ∧ H t = some (.tup [v]) ∧
  ∀ H' cls d, Same H H' → ErrAt c cls d H' (.unknown v) → E cls d H'
theorem okX_without0 (T : Top K mg C_Book C_MailError C_InvalidOrder C_UnknownOrder C_InvalidAddress C_InvalidDay C_InvalidNumber) : MFn P w K mg base (L2.CX P w) 6 C_Book "without" (fun vs H Q E => ∃ v rest, vs = v :: rest ∧ rest.length ≤ sizeLine ∧ ∀ p, H p = Option.none → spWithoutX0 K C_Book ⟨C_InvalidOrder, C_UnknownOrder, C_InvalidAddress, C_InvalidDay, C_InvalidNumber⟩ [v, V.ref p] (upd H p (.tup rest)) Q E) := by
  have X_Book_check_order : MFn P w K mg base (L2.CX P w) 3 C_Book "check_order" (spCheckOrdX K C_Book ⟨C_InvalidOrder, C_UnknownOrder, C_InvalidAddress, C_InvalidDay, C_InvalidNumber⟩) := okX_check_order T
  have G_book_of : GFn P w K mg base CX0 5 "book_of" (spBookOf K C_Book) := ok_book_of T
  refine T.d_Book_without.fnX sc_Book_without fun f cdv A outer s H vs Q E hr h => ?_
  obtain ⟨bk, os, t, v, rfl, hb, h30, n1, n2, n3, et, k⟩ := h
  refine ⟨_, (pss_cons (ps_for owns_cx rfl (pi_tup (pv 1)) (pg_name (i := 2) sc_Book_without.nd rfl (Or.inl rfl))
  (pss_one (ps_expr (pe_mX X_Book_check_order T.cl_Book (hr.mono (by decide)) passE (pv 0) (pa_cons (pv 2) pa_nil)))))
  (pss_one (ps_ret (pe_g G_book_of (hr.mono (by decide)) (pa_cons (pe_lc (own := [("index", 2), ("order", 3)]) (g := (gTup K 2 (gCons (gName 2) (gCons (gName 3) gNil)))) (by rfl) sc_Book_without.nd (pi_enumT (by rfl) T.b_enumerate (pa_cons (pe_fld (pv 0) rfl) pa_nil)) (blkOk_by (own := [("index", 2), ("order", 3)]) (N := ["self", "indexes", "index", "order"]) (sc := defScope s_Book_without) (by decide +kernel)) (fun _ _ _ _ _ => (pg_tup rfl (pgs_cons (pg_name (i := 2) sc_Book_without.nd rfl (Or.inl rfl)) (pgs_cons (pg_name (i := 3) sc_Book_without.nd rfl (Or.inl rfl)) pgs_nil)))) (fun _ _ _ _ _ => (pts_one (pt_cmpR (op_notIn_seqK (K := K)) (pv 2) (pv 1) rfl))) (fun _ _ _ _ _ => (pv 3))) pa_nil))))), ?_⟩
  obtain ⟨dx, tl, as, b1, b2, b3⟩ := id hb
  refine ⟨_, rfl, t, rfl, ⟨_, .inl (.inl et)⟩, for_it (walk_tup (xs := [v])) (fun j σ H' => j = 0 ∧ H' = H ∧ ∃ v2 v3, σ = [some (.ref bk), some (.ref t), v2, v3]) ⟨rfl, rfl, _, _, rfl⟩ (fun j σ H' _ ⟨_, e, _⟩ => by rw [e]; exact .inl (.inl et)) ?_ ?_⟩
  · rintro j y σ H1 H2 hj ⟨rfl, rfl, v2, v3, rfl⟩ ⟨rfl, ey⟩
    cases ey
    exact ⟨_, rfl, bk, dx, _, rfl, b1, rfl, _, rfl, bk, os, v, rfl, hb, h30, n1, n2, n3, k⟩
  · rintro σ H1 ⟨z, _⟩
    cases z
def spWithoutX (K : PySem.W.Frag) (CB : Addr) (c : Cls5) : Sp := fun vs H Q E => ∃ bk os v, vs = [.ref bk, v] ∧ BookAt K CB H bk os ∧ os.length ≤ 30 ∧ notSeq v = true ∧ FmtOk v ∧ isIntB v 0 ((os.length : Int) - 1) = false ∧
  ∀ H' cls d, Same H H' → ErrAt c cls d H' (.unknown v) → E cls d H'
theorem okX_without (T : Top K mg C_Book C_MailError C_InvalidOrder C_UnknownOrder C_InvalidAddress C_InvalidDay C_InvalidNumber) : MFn P w K mg base (L2.CX P w) 6 C_Book "without" (spWithoutX K C_Book ⟨C_InvalidOrder, C_UnknownOrder, C_InvalidAddress, C_InvalidDay, C_InvalidNumber⟩) :=
  (okX_without0 T).imp fun vs H Q E h => by
    obtain ⟨bk, os, v, rfl, hb, h30, n1, n2, n3, k⟩ := h
    refine ⟨_, _, rfl, (by show 1 ≤ sizeLine; decide), fun p hp => ?_⟩
    have s1 := Same.new (o := .tup [v]) hp
    exact ⟨bk, os, p, v, rfl, hb.mono s1, h30, n1, n2, n3, upd_same, fun H' cls d s e => k _ _ _ (s1.trans s) e⟩
def spBookOfX (K : PySem.W.Frag) (c : Cls5) : Sp := fun vs H _ E => ∃ t xs, ∃ n : Nat, vs = [.ref t] ∧ (SqT K H t xs ∨ SqL K H t xs) ∧ xs.length ≤ sizeLine ∧ FirstBad K H xs n ∧ ∀ H' cls d, Same H H' → ErrAt c cls d H' (.order (.int (n : Nat))) → E cls d H'
theorem okX_book_of (T : Top K mg C_Book C_MailError C_InvalidOrder C_UnknownOrder C_InvalidAddress C_InvalidDay C_InvalidNumber) : GFn P w K mg base (L2.CX P w) 5 "book_of" (spBookOfX K ⟨C_InvalidOrder, C_UnknownOrder, C_InvalidAddress, C_InvalidDay, C_InvalidNumber⟩) := by
  have X_Book := okX_Book (P := P) (w := w) (base := base) T
  refine T.d_book_of.fnX sc_book_of (fun vs H Q E h => ?_) (fun f cdv A outer s H vs Q E hr h => ?_)
  · obtain ⟨t, xs, n, rfl, _⟩ := h
    rfl
  · obtain ⟨t, xs, n, rfl, ht, hl, fb, k⟩ := h
    refine ⟨_, pss_one (ps_ret (pe_mkS X_Book (hr.mono (by decide)) passE (pv 0))), ?_⟩
    refine ⟨_, rfl, t, _, rfl, ht, ?_⟩
    intro x dx hx hdx ne
    have fb' : FirstBad K H (xs ++ []) n := by rw [List.append_nil]; exact fb
    refine ⟨_, _, rfl, by rw [List.append_nil]; exact hl, fun p hp => ?_⟩
    have s0 : Same H (upd (upd H dx (.own x)) x (.ins C_Book dx [])) := fun b o e => by
      rw [upd_ne (ne_of_none e hx), upd_ne (ne_of_none e hdx)]
      exact e
    have s1 := s0.trans (Same.new (o := .tup (xs ++ [])) hp)
    exact ⟨x, p, xs ++ [], n, rfl, .inl (.inl upd_same), fb'.mono s1, fun H' cls d s h => k _ _ _ (s1.trans s) h⟩
def spMovedX (c : Cls5) : Sp := fun vs H _ E => ∃ x v, vs = [x, v] ∧ notSeq v = true ∧ isIntB v (0 - 1000000000000000000) 1000000000000000000 = false ∧ ∀ H' cls, Same H H' → ErrAt c cls none H' .number → E cls none H'
theorem okX_moved (T : Top K mg C_Book C_MailError C_InvalidOrder C_UnknownOrder C_InvalidAddress C_InvalidDay C_InvalidNumber) : GFn P w K mg base (L2.CX P w) 2 "moved" (spMovedX ⟨C_InvalidOrder, C_UnknownOrder, C_InvalidAddress, C_InvalidDay, C_InvalidNumber⟩) := by
  have G_is_integer : GFn P w K mg base CX0 1 "is_integer" spIsInteger := ok_is_integer T
  refine T.d_moved.fnX sc_moved (fun vs H Q E h => ?_) (fun f cdv A outer s H vs Q E hr h => ?_)
  · obtain ⟨x, v, rfl, _⟩ := h
    rfl
  · obtain ⟨x, v, rfl, nv, hi, k⟩ := h
    refine ⟨_, (pss_cons (ps_if (pt_not (pt_val (pe_g G_is_integer (hr.mono (by decide)) (pa_cons (pv 1) (pa_cons (pe_op op_sub pe_int (pe_gint T.c_MAX_DAY)) (pa_cons (pe_gint T.c_MAX_DAY) pa_nil))))))
  (pss_one (ps_raise rfl takeE (pmk_0 T.x_InvalidNumber (pa_cons pe_str pa_nil))))
  pss_nil)
  (pss_one (ps_ret (pe_lc (own := [("source", 2), ("target", 3), ("first", 4), ("last", 5), ("way", 6)]) (g := (gTup K 5 (gCons (gName 2) (gCons (gName 3) (gCons (gName 4) (gCons (gName 5) (gCons (gName 6) gNil))))))) (by rfl) sc_moved.nd (pi_tup (pv 0)) (blkOk_by (own := [("source", 2), ("target", 3), ("first", 4), ("last", 5), ("way", 6)]) (N := ["orders", "days", "source", "target", "first", "last", "way"]) (sc := defScope s_moved) (by decide +kernel)) (fun _ _ _ _ _ => (pg_tup rfl (pgs_cons (pg_name (i := 2) sc_moved.nd rfl (Or.inl rfl)) (pgs_cons (pg_name (i := 3) sc_moved.nd rfl (Or.inl rfl)) (pgs_cons (pg_name (i := 4) sc_moved.nd rfl (Or.inl rfl)) (pgs_cons (pg_name (i := 5) sc_moved.nd rfl (Or.inl rfl)) (pgs_cons (pg_name (i := 6) sc_moved.nd rfl (Or.inl rfl)) pgs_nil))))))) (fun _ _ _ _ _ => pts_nil) (fun _ _ _ _ _ => (pe_tup (pa_cons (pv 2) (pa_cons (pv 3) (pa_cons (pe_op op_add (pv 4) (pv 1)) (pa_cons (pe_op op_add (pv 5) (pv 1)) (pa_cons (pv 6) pa_nil))))))))))), ?_⟩
    refine ⟨_, rfl, _, _, rfl, rfl, ?_⟩
    refine ⟨v, 0 - 1000000000000000000, 1000000000000000000, rfl, nv, ?_⟩
    refine ⟨_, rfl, ?_⟩
    rw [hi]
    exact iteT ⟨by decide, k _ _ (Same.refl H) ⟨rfl, rfl⟩⟩
structure Early (os : List Ordr) (n : Int) (j : Nat) : Prop where
  at_ : ∃ o, os[j]? = some o ∧ o.first + n < 0
  first : ∀ (i : Nat) q, i < j → os[i]? = some q → 0 ≤ q.first + n
theorem Early.bad {os : List Ordr} {n : Int} {j : Nat} (e : Early os n j) (g : Good os) (n0 : n ≤ 0) {H : Hp} {bs : List Addr} (h : OrdsAt K H bs (os.map (mvO n))) : FirstBad K H (bs.map V.ref) j := by
  obtain ⟨o, eo, lo⟩ := e.at_
  have la := PySem.Paired.length h
  rw [List.length_map] at la
  have hj : j < os.length := (List.getElem?_eq_some_iff.mp eo).1
  have l30 := g.len
  obtain ⟨o', eo', oa⟩ := Paired.get h (show bs[j]? = some bs[j] by simp [la, hj])
  rw [List.getElem?_map, eo] at eo'
  cases eo'
  have gt : Good ((os.take j).map (mvO n)) := mv_good (g.take j) (fun p hp => by
    obtain ⟨i, hi, ei⟩ := List.getElem_of_mem hp
    rw [List.length_take] at hi
    have : os[i]? = some p := by
      rw [← ei, List.getElem_take]
      exact List.getElem?_eq_getElem _
    exact e.first i p (by omega) this) fun p hp => by
      have := (g.ok p (List.mem_of_mem_take hp)).lm
      omega
  have ok := g.ok o (List.mem_of_getElem? eo)
  refine ⟨bs.take j, (os.take j).map (mvO n), V.ref bs[j], (bs.drop (j + 1)).map V.ref, ?_, ?_, gt.ok, gt.apart, by rw [List.length_take]; omega, by omega, .inr (.inl (.inl ⟨bs[j], _, rfl, oa, ?_, ?_⟩))⟩
  · rw [← List.map_cons, ← List.map_append]
    congr 1
    rw [List.getElem_cons_drop, List.take_append_drop]
  · have := pairedTake j h
    rw [← List.map_take] at this
    exact this
  · intro x hx
    have := isOrd_flat ok
    simp only [Ordr.vals, mvO, List.mem_cons, List.not_mem_nil, or_false] at hx this
    rcases hx with rfl | rfl | rfl | rfl | rfl
    · exact this _ (.inl rfl)
    · exact this _ (.inr (.inl rfl))
    · exact ⟨rfl, True.intro⟩
    · exact ⟨rfl, True.intro⟩
    · exact ⟨rfl, True.intro⟩
  · show ((_ && _ && _) && ((_ && (decide (0 ≤ o.first + n) && _)) && _)) = false
    rw [decide_eq_false (show ¬ 0 ≤ o.first + n by omega)]
    simp
def spShiftX (K : PySem.W.Frag) (C : Addr) (c : Cls5) : Sp := fun vs H _ E => ∃ p os v, vs = [.ref p, v] ∧ BookAt K C H p os ∧ Good os ∧ notSeq v = true ∧
  ((isIntB v (0 - 1000000000000000000) 1000000000000000000 = false ∧ ∀ H' cls, Same H H' → ErrAt c cls none H' .number → E cls none H') ∨
   (∃ n j, v = .int n ∧ 0 - 1000000000000000000 ≤ n ∧ n ≤ 0 ∧ Early os n j ∧ ∀ H' cls d, Same H H' → ErrAt c cls d H' (.order (.int (j : Nat))) → E cls d H'))
theorem okX_shift (T : Top K mg C_Book C_MailError C_InvalidOrder C_UnknownOrder C_InvalidAddress C_InvalidDay C_InvalidNumber) : MFn P w K mg base (L2.CX P w) 6 C_Book "__rshift__" (spShiftX K C_Book ⟨C_InvalidOrder, C_UnknownOrder, C_InvalidAddress, C_InvalidDay, C_InvalidNumber⟩) := by
  have G_moved : GFn P w K mg base CX0 2 "moved" (spMoved K) := ok_moved T
  have X_moved : GFn P w K mg base (L2.CX P w) 2 "moved" (spMovedX ⟨C_InvalidOrder, C_UnknownOrder, C_InvalidAddress, C_InvalidDay, C_InvalidNumber⟩) := okX_moved T
  have G_book_of : GFn P w K mg base CX0 5 "book_of" (spBookOf K C_Book) := ok_book_of T
  have X_book_of : GFn P w K mg base (L2.CX P w) 5 "book_of" (spBookOfX K ⟨C_InvalidOrder, C_UnknownOrder, C_InvalidAddress, C_InvalidDay, C_InvalidNumber⟩) := okX_book_of T
  refine T.d_BookX_rshiftX.fnX sc_BookX_rshiftX (fun vs H Q E h => ?_) (fun f cdv A outer s H vs Q E hr h => ?_)
  · obtain ⟨p, os, v, rfl, _⟩ := h
    rfl
  · obtain ⟨p, os, v, rfl, B, g, nv, h⟩ := h
    obtain ⟨dx, tl, as, b1, b2, b3⟩ := id B
    rcases h with ⟨hi, k⟩ | ⟨n, j, rfl, n0, n1, ev, k⟩
    · refine ⟨_, (pss_one (ps_ret (pe_g G_book_of (hr.mono (by decide)) (pa_cons (pe_gX X_moved (hr.mono (by decide)) passE (pa_cons (pe_fld (pv 0) rfl) (pa_cons (pv 1) pa_nil))) pa_nil)))), ?_⟩
      exact ⟨_, rfl, p, C_Book, dx, _, _, rfl, b1, T.cl_Book, T.n_Book_listed, rfl, _, rfl, _, v, rfl, nv, hi, k⟩
    · refine ⟨_, (pss_one (ps_ret (pe_gX X_book_of (hr.mono (by decide)) passE (pa_cons (pe_g G_moved (hr.mono (by decide)) (pa_cons (pe_fld (pv 0) rfl) (pa_cons (pv 1) pa_nil))) pa_nil)))), ?_⟩
      refine ⟨_, rfl, p, C_Book, dx, _, _, rfl, b1, T.cl_Book, T.n_Book_listed, rfl, _, rfl, tl, as, os, n, rfl, b2, b3, g.len, n0, by omega, fun H1 l bs s1 e1 O1 => ?_⟩
      have lb := PySem.Paired.length O1
      rw [List.length_map] at lb
      have l30 := g.len
      exact ⟨l, bs.map V.ref, j, rfl, .inr (SqL.of e1), by rw [List.length_map, lb, sizeLine_eq]; omega, ev.bad g n1 O1, fun H2 cls d s2 e2 => k _ _ _ (s1.trans s2) e2⟩
def spAddX (K : PySem.W.Frag) (C : Addr) (c : Cls5) : Sp := fun vs H _ E => ∃ a b os o, vs = [.ref a, .ref b] ∧ BookAt K C H a os ∧ BookAt K C H b [o] ∧ Good os ∧ o.Ok ∧ (os.length = 30 ∨ ∃ q ∈ os, overB q o = true) ∧ ∀ H' cls d, Same H H' → ErrAt c cls d H' (.order (.int (os.length : Nat))) → E cls d H'
theorem okX_Book_add (T : Top K mg C_Book C_MailError C_InvalidOrder C_UnknownOrder C_InvalidAddress C_InvalidDay C_InvalidNumber) : MFn P w K mg base (L2.CX P w) 6 C_Book "__add__" (spAddX K C_Book ⟨C_InvalidOrder, C_UnknownOrder, C_InvalidAddress, C_InvalidDay, C_InvalidNumber⟩) := by
  have X_book_of : GFn P w K mg base (L2.CX P w) 5 "book_of" (spBookOfX K ⟨C_InvalidOrder, C_UnknownOrder, C_InvalidAddress, C_InvalidDay, C_InvalidNumber⟩) := okX_book_of T
  refine T.d_BookX_addX.fnX sc_BookX_addX (fun vs H Q E h => ?_) (fun f cdv A outer s H vs Q E hr h => ?_)
  · obtain ⟨a, b, os, o, rfl, _⟩ := h
    rfl
  · obtain ⟨a, b, os, o, rfl, ⟨dx, t, as, h1, h2, h3⟩, ⟨dy, u, bs, h4, h5, h6⟩, g, ok, hbad, k⟩ := h
    refine ⟨_, (pss_one (ps_ret (pe_gX X_book_of (hr.mono (by decide)) passE (pa_cons (pe_op op_catA (pe_fld (pv 0) rfl) (pe_fld (pv 1) rfl)) pa_nil)))), ?_⟩
    have la : as.length = os.length := PySem.Paired.length h3
    have l30 := g.len
    obtain ⟨q, rfl, oq⟩ : ∃ q, bs = [q] ∧ OrdAt K H q o := by
      cases h6 with
      | cons h t =>
        cases t
        exact ⟨_, rfl, h⟩
    have ne : os ≠ [] := by
      rintro rfl
      rcases hbad with z | ⟨_, z, _⟩
      · cases z
      · cases z
    have fb : ∀ {H' : Hp}, Same H H' → FirstBad K H' (as.map V.ref ++ [V.ref q]) os.length := fun {H'} s => ⟨as, os, V.ref q, [], rfl, h3.mono s, g.ok, g.apart, la, l30, by
      rcases hbad with z | ⟨r, hr1, hr2⟩
      · exact .inl z
      · exact .inr (.inr ⟨q, o, r, rfl, oq.mono s, ok, hr1, hr2⟩)⟩
    refine ⟨_, rfl, a, C_Book, dx, _, _, rfl, h1, T.cl_Book, T.n_Book_listed, rfl, _, rfl, b, C_Book, dy, _, _, rfl, h4, T.cl_Book, T.n_Book_listed, rfl, t, u, _, _, rfl, rfl, h2, h5, ?_, fun e => ?_, fun _ e => ?_, fun _ _ p hp => ?_⟩
    · rw [List.length_map, la, sizeLine_eq]
      show os.length + 1 ≤ _
      omega
    · exact absurd (List.eq_nil_of_length_eq_zero (by rw [← la]; simpa using e)) ne
    · cases e
    · have s1 := Same.new (o := .tup (as.map V.ref ++ [q].map V.ref)) hp
      refine ⟨p, as.map V.ref ++ [q].map V.ref, os.length, rfl, .inl (.inl (.inl upd_same)), ?_, fb s1, fun H' cls d s e => k _ _ _ (s1.trans s) e⟩
      rw [List.length_append, List.length_map, la, sizeLine_eq]
      show os.length + 1 ≤ _
      omega
end

end MF
set_option Elab.async false
set_option linter.all false
set_option maxRecDepth 100000
set_option maxHeartbeats 2000000
set_option pp.maxSteps 600
namespace MF
open PySem PySem.Spec PyProof.Rows L2 StX
section
variable {P : Program} {w : World} {K : PySem.W.Frag} {mg : Str → Option Value} {base : Heap} {C_Book C_MailError C_InvalidOrder C_UnknownOrder C_InvalidAddress C_InvalidDay C_InvalidNumber : Addr}
def spChainX0 (K : PySem.W.Frag) (C : Addr) (c : Cls5) : Sp := fun vs H _ E => ∃ f l w t ns, ∃ n : Nat, vs = [.ref C, .int f, .int l, .int w, .ref t] ∧ H t = some (.tup ((ns : List Str).map V.str)) ∧ 1 ≤ ns.length ∧ ns.length ≤ 30 ∧ (∀ H' as, OrdsAt K H' as (chainL f l w ns) → FirstBad K H' (as.map V.ref) n) ∧
  ∀ H' cls d, Same H H' → ErrAt c cls d H' (.order (.int (n : Nat))) → E cls d H'
theorem okX_chain0 (T : Top K mg C_Book C_MailError C_InvalidOrder C_UnknownOrder C_InvalidAddress C_InvalidDay C_InvalidNumber) : CFn P w K mg base (L2.CX P w) 5 C_Book "chain" (fun vs H Q E => ∃ ws rest, vs = ws ++ rest ∧ ws.length = ["cls", "first", "last", "way"].length ∧ rest.length ≤ sizeLine ∧ ∀ p, H p = Option.none → spChainX0 K C_Book ⟨C_InvalidOrder, C_UnknownOrder, C_InvalidAddress, C_InvalidDay, C_InvalidNumber⟩ (ws ++ [V.ref p]) (upd H p (.tup rest)) Q E) := by
  have X_Book := okX_Book (P := P) (w := w) (base := base) T
  refine T.d_Book_chain.fnX sc_Book_chain fun f cdv A outer s H vs Q E hr h => ?_
  obtain ⟨fi, la, wa, t, ns, n, rfl, ht, n1, n30, g, k⟩ := h
  refine ⟨_, (pss_cons (ps_setLc (i := 5) (own := [("source", 6), ("target", 7)]) (g := (gTup K 2 (gCons (gName 6) (gCons (gName 7) gNil)))) (by rfl) sc_Book_chain.nd rfl rfl (sw_true rfl rfl rfl (by decide +kernel)) (RZ.pi_zipA (by rfl) T.b_zip (pa_cons (pv 4) (pa_cons (pe_slice sl_tup (pv 4) (po_some pe_int) po_none) pa_nil))) (blkOk_by (own := [("source", 6), ("target", 7)]) (N := ["cls", "first", "last", "way", "addresses", "found", "source", "target"]) (sc := defScope s_Book_chain) (by decide +kernel)) (fun _ _ _ _ _ => (pg_tup rfl (pgs_cons (pg_name (i := 6) sc_Book_chain.nd rfl (Or.inl rfl)) (pgs_cons (pg_name (i := 7) sc_Book_chain.nd rfl (Or.inl rfl)) pgs_nil)))) (fun _ _ _ _ _ => pts_nil) (fun _ _ _ _ _ => (pe_tup (pa_cons (pv 6) (pa_cons (pv 7) (pa_cons (pv 1) (pa_cons (pv 2) (pa_cons (pv 3) pa_nil))))))))
  (pss_one (ps_ret (pe_mkSL (i := 0) X_Book (hr.mono (by decide)) passE rfl (Or.inl rfl) (pv 5))))), ?_⟩
  refine ⟨_, rfl, _, rfl, _, rfl, t, _, rfl, .inl (.inl ht), ?_, fun t2 ht2 => ?_⟩
  · rintro ⟨z, _⟩
    have z' : HT.sIx (ns.map V.str).length 0 (some ((1 : Nat) : Int)) = 0 := z
    rw [HT.sIx_nat, List.length_map] at z'
    omega
  have c1 : cutV (ns.map V.str) (some 1) none = (ns.drop 1).map V.str := by
    have := cut_drop (ns.map V.str) 1 (by rw [List.length_map]; exact n1)
    rw [List.map_drop]
    exact this
  rw [c1]
  have s2 : Same H (upd H t2 (.tup ((ns.drop 1).map V.str))) := Same.new ht2
  have q2 : (upd H t2 (.tup ((ns.drop 1).map V.str))) t2 = some (.tup ((ns.drop 1).map V.str)) := upd_same
  generalize upd H t2 (.tup ((ns.drop 1).map V.str)) = H2 at s2 q2
  refine ⟨t, t2, _, _, rfl, .inr ⟨.inl (.inl (s2 _ _ ht)), .inl (.inl q2), fun D hD => ?_⟩⟩
  have lc : (chainL fi la wa ns).length = ns.length - 1 := by
    unfold chainL
    rw [List.length_map, List.length_zip, List.length_drop]
    omega
  refine lc_it (walk_zipT (xs := ns.map V.str) (ys := (ns.drop 1).map V.str) (n := ns.length - 1) (by rw [List.length_map, List.length_map, List.length_drop]; omega)) (fun i H' => Same H2 H' ∧ ∃ as, H' D = some (.lst (as.map V.ref)) ∧ OrdsAt K H' as ((chainL fi la wa ns).take i)) ⟨Same.new hD, [], upd_same, .nil⟩ (fun i H' _ ⟨s3, _⟩ => ⟨.inl (.inl (s3 _ _ (s2 _ _ ht))), .inl (.inl (s3 _ _ q2))⟩) ?_ ?_
  · rintro i y H3 H4 hi ⟨s3, as, e3, O3⟩ ⟨T4, x, z, rfl, hT, rfl, ex, ez⟩
    replace ex : (ns.map V.str)[i]? = some x := ex
    replace ez : ((ns.drop 1).map V.str)[i]? = some z := ez
    have h1 : i < ns.length := by omega
    have h2 : i < (ns.drop 1).length := by rw [List.length_drop]; omega
    rw [List.getElem?_map, List.getElem?_eq_getElem h1] at ex
    rw [List.getElem?_map, List.getElem?_eq_getElem h2] at ez
    cases ex
    cases ez
    generalize ea : ns[i] = a
    generalize eb : (ns.drop 1)[i] = b
    have eo : (chainL fi la wa ns)[i]? = some ⟨a, b, fi, la, wa⟩ := by
      unfold chainL
      rw [List.getElem?_map, (List.getElem?_zip_eq_some (z := (a, b))).mpr ⟨by rw [List.getElem?_eq_getElem h1, ea], by rw [List.getElem?_eq_getElem h2, eb]⟩]
      rfl
    have s4 := Same.new (o := .tup [V.str a, V.str b]) hT
    have e4 := s4 _ _ e3
    refine ⟨T4, _, rfl, .inl (.inl upd_same), rfl, _, _, rfl, _, _, rfl, rfl, rfl, ?_⟩
    refine ⟨_, rfl, _, rfl, _, rfl, _, rfl, _, rfl, (by show 5 ≤ sizeLine; decide), fun q hq => ?_⟩
    have nDq : D ≠ q := ne_of_none e4 hq
    have la' : as.length = i := by
      have := PySem.Paired.length O3
      rw [List.length_take, lc] at this
      omega
    have hup : ∀ b' u, H3 b' = some u → b' ≠ D → (upd (upd (upd H3 T4 (.tup [V.str a, V.str b])) q (.tup [.str a, .str b, .int fi, .int la, .int wa])) D (.lst (as.map V.ref ++ [.ref q]))) b' = some u := fun b' u e nb => by
      rw [upd_ne nb, upd_ne (ne_of_none (s4 _ _ e) hq)]
      exact s4 _ _ e
    refine ⟨_, by rw [upd_ne nDq]; exact e4, ?_, fun b' u e => hup b' u (s3 b' u e) (ne_of_none e hD), as ++ [q], by rw [upd_same, List.map_append]; rfl, ?_⟩
    · rw [List.length_map, sizeLine_eq]
      omega
    · rw [List.take_add_one, eo]
      refine Paired.append (OrdsAt.keepR O3 fun b' u e z => hup b' u e fun w => ?_) (.cons (.inl (.inl ?_)) .nil)
      · rw [w, e3] at e
        cases e
        cases z
      · rw [upd_ne nDq.symm, upd_same]
        rfl
  · rintro H3 ⟨s3, as, e3, O3⟩
    rw [show (chainL fi la wa ns).take (ns.length - 1) = chainL fi la wa ns by rw [← lc, List.take_length]] at O3
    have s03 := s2.trans s3
    refine ⟨rfl, _, rfl, D, _, rfl, .inr (SqL.of e3), ?_⟩
    intro x dx hx hdx ne
    have fb : FirstBad K H3 (as.map V.ref ++ []) n := by rw [List.append_nil]; exact g H3 as O3
    have l2 := PySem.Paired.length O3
    refine ⟨_, _, rfl, by rw [List.append_nil, List.length_map, l2, lc, sizeLine_eq]; omega, fun p hp => ?_⟩
    have s0 : Same H3 (upd (upd H3 dx (.own x)) x (.ins C_Book dx [])) := fun b o e => by
      rw [upd_ne (ne_of_none e hx), upd_ne (ne_of_none e hdx)]
      exact e
    have s1 := s0.trans (Same.new (o := .tup (as.map V.ref ++ [])) hp)
    exact ⟨x, p, as.map V.ref ++ [], n, rfl, .inl (.inl upd_same), fb.mono s1, fun H' cls d s h => k _ _ _ ((s03.trans s1).trans s) h⟩
def spChainX (K : PySem.W.Frag) (C : Addr) (c : Cls5) : Sp := fun vs H _ E => ∃ f l w ns, ∃ n : Nat, vs = [.ref C, .int f, .int l, .int w] ++ (ns : List Str).map V.str ∧ 1 ≤ ns.length ∧ ns.length ≤ 30 ∧ (∀ H' as, OrdsAt K H' as (chainL f l w ns) → FirstBad K H' (as.map V.ref) n) ∧
  ∀ H' cls d, Same H H' → ErrAt c cls d H' (.order (.int (n : Nat))) → E cls d H'
theorem okX_chain (T : Top K mg C_Book C_MailError C_InvalidOrder C_UnknownOrder C_InvalidAddress C_InvalidDay C_InvalidNumber) : CFn P w K mg base (L2.CX P w) 5 C_Book "chain" (spChainX K C_Book ⟨C_InvalidOrder, C_UnknownOrder, C_InvalidAddress, C_InvalidDay, C_InvalidNumber⟩) :=
  (okX_chain0 T).imp fun vs H Q E h => by
    obtain ⟨fi, la, wa, ns, n, rfl, n1, n30, g, k⟩ := h
    refine ⟨[.ref C_Book, .int fi, .int la, .int wa], ns.map V.str, rfl, rfl, by rw [List.length_map, sizeLine_eq]; omega, fun p hp => ?_⟩
    have s1 := Same.new (o := .tup (ns.map V.str)) hp
    exact ⟨fi, la, wa, p, ns, n, rfl, upd_same, n1, n30, g, fun H' cls d s e => k _ _ _ (s1.trans s) e⟩
end

end MF
set_option Elab.async false
set_option linter.all false
set_option maxRecDepth 100000
set_option maxHeartbeats 2000000
set_option pp.maxSteps 600
namespace MF
open PySem PySem.Spec PyProof.Rows L2 StX
section
variable {P : Program} {w : World} {K : PySem.W.Frag} {mg : Str → Option Value} {base : Heap} {C_Book C_MailError C_InvalidOrder C_UnknownOrder C_InvalidAddress C_InvalidDay C_InvalidNumber : Addr}
theorem abc_len : Str.length "abcdef" ≤ sizeLine := by decide +kernel
theorem abc_ix {i : Int} (h0 : 0 ≤ i) (h1 : i < 6) : atI (Str.cps "abcdef").toList i = some (97 + i.toNat) := by
  have : i = 0 ∨ i = 1 ∨ i = 2 ∨ i = 3 ∨ i = 4 ∨ i = 5 := by omega
  rcases this with rfl | rfl | rfl | rfl | rfl | rfl <;> decide +kernel
theorem KeepR.free {rw sc t : Addr} {ns : List Int} {H H' : Hp} (k : KeepR rw H H') (r : RowAt K H' rw sc ns) (h : H' t = none) : H t = none := by
  cases q : H t with
  | none => rfl
  | some u =>
    by_cases z : t = rw
    · obtain ⟨xs, e⟩ := r.ex
      rw [z, e] at h
      cases h
    · rw [k t u q z] at h
      cases h
end

end MF
set_option Elab.async false
set_option linter.all false
set_option maxRecDepth 100000
set_option maxHeartbeats 2000000
set_option pp.maxSteps 600
namespace MF
open PySem PySem.Spec PyProof.Rows L2 StX
section
variable {P : Program} {w : World} {K : PySem.W.Frag} {mg : Str → Option Value} {base : Heap} {C_Book C_MailError C_InvalidOrder C_UnknownOrder C_InvalidAddress C_InvalidDay C_InvalidNumber : Addr}
structure PS (K : PySem.W.Frag) (H0 H : Hp) (rw sc : Addr) (ns : List Int) (l : Addr) (as : List Addr) (os : List Ordr) : Prop where
  s0 : Same H0 H
  row : RowAt K H rw sc ns
  el : H l = some (.lst (as.map V.ref))
  ords : OrdsAt K H as os
  nl : l ≠ rw
theorem PS.same {H0 H H' : Hp} {rw sc : Addr} {ns : List Int} {l : Addr} {as : List Addr} {os : List Ordr} (S : PS K H0 H rw sc ns l as os) (s : Same H H') : PS K H0 H' rw sc ns l as os := ⟨S.s0.trans s, S.row.keep s, s _ _ S.el, S.ords.mono s, S.nl⟩
theorem PS.keepR {H0 H H' : Hp} {rw sc : Addr} {ns : List Int} {l : Addr} {as : List Addr} {os : List Ordr} (S : PS K H0 H rw sc ns l as os) (h0 : H0 rw = none) (r : RowAt K H' rw sc ns) (k : KeepR rw H H') : PS K H0 H' rw sc ns l as os :=
  ⟨fun b u e => k b u (S.s0 b u e) (ne_of_none e h0), r, k _ _ S.el S.nl, S.ords.keepR (k.tup S.row), S.nl⟩
theorem BookAt.keepR {C rw sc : Addr} {ns : List Int} {H H' : Hp} {bk : Addr} {os : List Ordr} (B : BookAt K C H bk os) (nb : bk ≠ rw) (R : RowAt K H rw sc ns) (k : KeepR rw H H') : BookAt K C H' bk os := B.kept (fun u e => k _ _ e nb) (k.tup R)
theorem RowAt.fresh {H : Hp} {rw sc p : Addr} {ns : List Int} (R : RowAt K H rw sc ns) (h : H p = none) : p ≠ rw := by
  obtain ⟨xs, q⟩ := R.ex
  exact (ne_of_none q h).symm
def farO (f l w : Int) : Ordr := ⟨"a", "g", f, l, w⟩
theorem far_good {most long : Nat} {os : List Ordr} {f l w : Int} (D : DrawnOs most long os) (hm : most ≤ 29) (hf : (most : Int) * (14 + max 12 (long : Int)) ≤ f) (h0 : 0 ≤ f) (hl : f ≤ l) (hl' : l ≤ 1000000000000000000) (hw : 1 ≤ w) (hw' : w ≤ 30) : Good (os ++ [farO f l w]) := by
  refine ⟨?_, fun o ho => ?_, ?_⟩
  · have := D.len
    rw [List.length_append]
    simp only [List.length_cons, List.length_nil]
    omega
  · rcases List.mem_append.mp ho with z | z
    · exact D.good.ok o z
    · rw [List.mem_singleton.mp z]
      exact ⟨by show isAddrB (.str "a") = true; decide, by show isAddrB (.str "g") = true; decide, by show ("a" : Str) ≠ "g"; decide, h0, hl, hl', hw, hw'⟩
  · refine List.pairwise_append.mpr ⟨D.good.apart, by simp, fun o ho p hp => ?_⟩
    rw [List.mem_singleton.mp hp]
    unfold overB
    have := D.tight o ho
    have : ¬ (farO f l w).first ≤ o.last := by
      show ¬ f ≤ o.last
      omega
    rw [decide_eq_false this, Bool.and_false, Bool.and_false]
end

end MF
set_option Elab.async false
set_option linter.all false
set_option maxRecDepth 100000
set_option maxHeartbeats 2000000
set_option pp.maxSteps 600
namespace MF
open PySem PySem.Spec PyProof.Rows L2 StX
section
variable {P : Program} {w : World} {K : PySem.W.Frag} {mg : Str → Option Value} {base : Heap} {C_Book C_MailError C_InvalidOrder C_UnknownOrder C_InvalidAddress C_InvalidDay C_InvalidNumber : Addr}
theorem tabs_keepR {T : List (Addr × Str)} {H H' : Hp} {rw sc : Addr} {ns : List Int} (R : RowAt K H rw sc ns) (t : LamX.Tabs T H) (k : KeepR rw H H') : LamX.Tabs T H' := fun p hp => by
  obtain ⟨xs, hr⟩ := R.ex
  obtain ⟨ps, h1, h2, h3⟩ := t p hp
  have ne : ∀ {b : Addr} {o : HO}, H b = some o → (∀ l, o ≠ .lst l) → H' b = some o := fun {b o} e n => k _ _ e fun z => by
    rw [z, hr] at e
    cases e
    exact n _ rfl
  refine ⟨ps, ne h1 (fun l z => by cases z), h2, fun pos cv hc => ?_⟩
  obtain ⟨c, e1, e2⟩ := h3 pos cv hc
  exact ⟨c, e1, ne e2 (fun l z => by cases z)⟩
theorem row_nil {H : Hp} {rw sc r : Addr} {ns : List Int} (R : RowAt K H rw sc ns) (z : H r = none) : r ≠ rw := fun e => by
  obtain ⟨xs, q⟩ := R.ex
  rw [← e, z] at q
  cases q
theorem row_extN {H H' : Hp} {rw sc : Addr} {ns : List Int} (R : RowAt K H rw sc ns) (e : LamX.ExtN H H') : RowAt K H' rw sc ns := by
  obtain ⟨j, m, r, h1, h2, h3⟩ := R
  refine ⟨j, m, r, e _ _ h1 (fun ps z => by cases z), ?_, h3⟩
  rcases h2 with ⟨h | ⟨o, h⟩, n⟩ | h
  · exact .inl ⟨.inl (e _ _ h (fun ps z => by cases z)), n⟩
  · exact .inl ⟨.inr ⟨o, e _ _ h (fun ps z => by cases z)⟩, n⟩
  · exact .inr h
theorem book_extN {C : Addr} {H H' : Hp} {p : Addr} {os : List Ordr} (h : BookAt K C H p os) (e : LamX.ExtN H H') : BookAt K C H' p os := by
  have h0 := h
  obtain ⟨dx, t, as, h1, _, _⟩ := h0
  refine h.kept (fun u hu => e _ _ hu (fun ps z => ?_)) (fun b u hu y => e _ _ hu (fun ps z => by rw [z] at y; cases y))
  rw [h1, Option.some.injEq] at hu
  rw [← hu] at z
  cases z
theorem tabs_but {T : List (Addr × Str)} {H H' : Hp} {lw : Addr} {xs : List V} (hr : H lw = some (.lst xs)) (t : LamX.Tabs T H) (k : ∀ b u, H b = some u → b ≠ lw → H' b = some u) : LamX.Tabs T H' := fun p hp => by
  obtain ⟨ps, h1, h2, h3⟩ := t p hp
  have ne : ∀ {b : Addr} {o : HO}, H b = some o → (∀ l, o ≠ .lst l) → H' b = some o := fun {b o} e n => k _ _ e fun z => by
    rw [z, hr] at e
    cases e
    exact n _ rfl
  refine ⟨ps, ne h1 (fun l z => by cases z), h2, fun pos cv hc => ?_⟩
  obtain ⟨c, e1, e2⟩ := h3 pos cv hc
  exact ⟨c, e1, ne e2 (fun l z => by cases z)⟩
theorem updS {H H2 : Hp} {q : Addr} {o : HO} (e : L2.upd H q o = H2) : (∀ b u, H b = some u → b ≠ q → H2 b = some u) ∧ H2 q = some o := by
  subst e
  exact ⟨fun b u h n => by rw [upd_ne n]; exact h, upd_same⟩
theorem upT {H H2 : Hp} {q : Addr} {xs : List V} (hq : H q = some (.lst xs)) (up : ∀ b u, H b = some u → b ≠ q → H2 b = some u) : ∀ b u, H b = some u → tupl u = true → H2 b = some u := fun b u e y => up _ _ e fun z => by
  rw [z, hq] at e
  cases e
  cases y
theorem keepR_ord {H H' : Hp} {rw sc : Addr} {ns : List Int} (R : RowAt K H rw sc ns) (k : ∀ b u, H b = some u → b ≠ rw → H' b = some u) {q : Addr} {o : Ordr} (h : OrdAt K H q o) : OrdAt K H' q o := by
  have : OrdsAt K H [q] [o] := .cons h .nil
  cases this.keepR (KeepR.tup k R) with
  | cons a _ => exact a
theorem ord_but {H H' : Hp} {q : Addr} {o : Ordr} (h : OrdAt K H q o) (k : ∀ b u, H b = some u → tupl u = true → H' b = some u) : OrdAt K H' q o := by
  have : OrdsAt K H [q] [o] := .cons h .nil
  cases this.keepR k with
  | cons a _ => exact a
theorem sq_extN {H H' : Hp} {l : Addr} {xs : List V} (h : SqL K H l xs) (e : LamX.ExtN H H') : SqL K H' l xs := by
  rcases h with (h | ⟨o, h⟩) | h
  · exact .inl (.inl (e _ _ h fun ps z => by cases z))
  · exact .inl (.inr ⟨o, e _ _ h fun ps z => by cases z⟩)
  · exact .inr h
theorem ords_extN {H H' : Hp} {as : List Addr} {os : List Ordr} (h : OrdsAt K H as os) (e : LamX.ExtN H H') : OrdsAt K H' as os := h.keepR fun b u hu y => e _ _ hu fun ps z => by rw [z] at y; cases y
def lawQ : Str := "law.<locals>.<lambda>"
end

end MF
set_option Elab.async false
set_option linter.all false
set_option maxRecDepth 100000
set_option maxHeartbeats 2000000
set_option pp.maxSteps 600
namespace MF
open PySem PySem.Spec PyProof.Rows L2 StX
section
variable {P : Program} {w : World} {K : PySem.W.Frag} {mg : Str → Option Value} {base : Heap} {C_Book C_MailError C_InvalidOrder C_UnknownOrder C_InvalidAddress C_InvalidDay C_InvalidNumber : Addr}
def isQ : Str := "_law_is_book.<locals>.<lambda>"
theorem fmtI {i : Int} (h : i.natAbs < 1000000000000000000000) : FmtOk (.int i) := by
  show i.natAbs.log2 < 1920
  by_cases c : i.natAbs = 0
  · rw [c]; decide
  · rw [Nat.log2_lt c]
    exact Nat.lt_trans h (by decide +kernel)
theorem perm_of {ys zs : List Str} (hy : ys.Nodup) (hz : zs.Nodup) (h : ∀ z, z ∈ ys ↔ z ∈ zs) : ys.Perm zs := (List.perm_ext_iff_of_nodup hy hz).mpr h
def spIsBook (K : PySem.W.Frag) (CB : Addr) (TT : List (Addr × Str)) : Sp := fun vs H Q _ => ∃ bk l as os, vs = [.ref bk, .ref l] ∧ LamX.Tabs TT H ∧ BookAt K CB H bk os ∧ Good os ∧ SqL K H l (as.map V.ref) ∧ OrdsAt K H as os ∧ ∀ H', LamX.ExtN H H' → LamX.Tabs TT H' → Q (.bl true) H'
theorem ok_is_book (T : Top K mg C_Book C_MailError C_InvalidOrder C_UnknownOrder C_InvalidAddress C_InvalidDay C_InvalidNumber) {c2 P2 : Addr} {TT : List (Addr × Str)} (HTM : (P2, isQ) ∈ TT) (HTU : ∀ p ∈ TT, p.1 = P2 → p.2 = isQ) (D : GDefC K mg "_law_is_book" s__law_is_book ["_law_book_here", "_law_orders_here"] c2) (TBL : LamX.TabB base mg c2 P2) : GFn P w K mg base CX0 9 "_law_is_book" (spIsBook K C_Book TT) := by
  have G__law_alike : GFn P w K mg base CX0 4 "_law_alike" (spAlike K 3) := ok_alike T 3
  have PR_Book_addresses : PFn P w K mg base CX0 1 C_Book "addresses" (spAddresses K C_Book) := ok_addresses T
  have PR_Book_orders : PFn P w K mg base CX0 1 C_Book "orders" (spBookOrders C_Book) := ok_book_orders T
  obtain ⟨fl, LF_Book, LM_Book⟩ := (ok_book_len (P := P) (w := w) (base := base) T).ex
  obtain ⟨fg, IF_Book, IM_Book⟩ := (ok_book_item (P := P) (w := w) (base := base) T).ex
  have II_Book := T.fi_Book_XgetitemX fg IM_Book.at_
  obtain ⟨fn, NF, NM⟩ := (ok_book_in (P := P) (w := w) (base := base) T).ex
  obtain ⟨fx, XF_Book, XM_Book⟩ := (okX_book_item (P := P) (w := w) (base := base) T).ex
  have XI_Book := T.fi_Book_XgetitemX fx XM_Book.at_
  have X_Book_without := okX_without (P := P) (w := w) (base := base) T
  refine D.fn fun f fd F => F.ok sc__law_is_book (fun vs H Q E h => ?_) (fun A outer s H vs Q E hr h => ?_)
  · obtain ⟨bk, l, as, os, rfl, _⟩ := h
    rfl
  · obtain ⟨bk, l, as, os, rfl, T0, B0, g, hl0, ol0, k⟩ := h
    refine ⟨_, (C8.pss_cut (ps_set (i := 2) sc__law_is_book.nd rfl (Or.inl rfl) (pe_callB (cr_sortedTxt rfl) (by rfl) T.b_sorted (by decide +kernel) (pa_cons (pe_callTy (cr_setTx rfl) (by rfl) T.b_set (by decide +kernel) (pa_cons (pe_op op_cat (pe_lc (own := [("_law_order", 6)]) (g := (gName 6)) (by rfl) sc__law_is_book.nd (pi_list (pv 1)) (blkOk_by (own := [("_law_order", 6)]) (N := ["_law_book_here", "_law_orders_here", "_law_names", "_law_works", "_law_name", "_law_bad", "_law_order", "_law_k", "_law_work"]) (sc := defScope s__law_is_book) (by decide +kernel)) (fun _ _ _ _ _ => (pg_name (i := 6) sc__law_is_book.nd rfl (Or.inl rfl))) (fun _ _ _ _ _ => pts_nil) (fun _ _ _ _ _ => (pe_ix (ix_tupK (K := K)) (pv 6) pe_int (fun _ _ => rfl)))) (pe_lc (own := [("_law_order", 6)]) (g := (gName 6)) (by rfl) sc__law_is_book.nd (pi_list (pv 1)) (blkOk_by (own := [("_law_order", 6)]) (N := ["_law_book_here", "_law_orders_here", "_law_names", "_law_works", "_law_name", "_law_bad", "_law_order", "_law_k", "_law_work"]) (sc := defScope s__law_is_book) (by decide +kernel)) (fun _ _ _ _ _ => (pg_name (i := 6) sc__law_is_book.nd rfl (Or.inl rfl))) (fun _ _ _ _ _ => pts_nil) (fun _ _ _ _ _ => (pe_ix (ix_tupK (K := K)) (pv 6) pe_int (fun _ _ => rfl))))) pa_nil)) pa_nil)))
  (C8.pss_cut (ps_if (pt_not (pt_val (pe_g G__law_alike (hr.mono (by decide)) (pa_cons (pe_lst (pa_cons (pe_pr PR_Book_orders T.cl_Book (hr.mono (by decide)) (pv 0)) (pa_cons (pe_pr PR_Book_addresses T.cl_Book (hr.mono (by decide)) (pv 0)) (pa_cons (pe_callB (cr_lenO LM_Book LF_Book (hr.mono (by decide)) pass0) (by rfl) T.b_len (by decide +kernel) (pa_cons (pv 0) pa_nil)) pa_nil)))) (pa_cons (pe_lst (pa_cons (pe_callTy call_tuple_of (by rfl) T.b_tuple (by decide +kernel) (pa_cons (pv 1) pa_nil)) (pa_cons (pe_callTy call_tuple_of (by rfl) T.b_tuple (by decide +kernel) (pa_cons (pv 2) pa_nil)) (pa_cons (pe_callB call_len_seq (by rfl) T.b_len (by decide +kernel) (pa_cons (pv 1) pa_nil)) pa_nil)))) pa_nil)))))
  (pss_one (ps_ret pe_bl))
  pss_nil)
  (C8.pss_cut (ps_if (pt_cmpR (op_neD hr.units) (pe_lc (own := [("_law_k", 7)]) (g := (gName 7)) (by rfl) sc__law_is_book.nd (pi_range1 (by rfl) T.b_range (pa_cons (pe_callB call_len_seq (by rfl) T.b_len (by decide +kernel) (pa_cons (pv 1) pa_nil)) pa_nil)) (blkOk_by (own := [("_law_k", 7)]) (N := ["_law_book_here", "_law_orders_here", "_law_names", "_law_works", "_law_name", "_law_bad", "_law_order", "_law_k", "_law_work"]) (sc := defScope s__law_is_book) (by decide +kernel)) (fun _ _ _ _ _ => (pg_name (i := 7) sc__law_is_book.nd rfl (Or.inl rfl))) (fun _ _ _ _ _ => pts_nil) (fun _ _ _ _ _ => (pe_ixO IM_Book IF_Book (hr.mono (by decide)) pass0 II_Book (pv 0) (pv 7) (fun _ _ => rfl)))) (pv 1) (nomark _))
  (pss_one (ps_ret pe_bl))
  pss_nil)
  (C8.pss_cut (ps_for PassesOwn.never rfl (pi_tup (pe_tup (pa_cons (pe_callB call_len_seq (by rfl) T.b_len (by decide +kernel) (pa_cons (pv 1) pa_nil)) (pa_cons (pe_op op_sub pe_int pe_int) (pa_cons pe_non (pa_cons pe_bl (pa_cons pe_str pa_nil))))))) (pg_name (i := 5) sc__law_is_book.nd rfl (Or.inr rfl))
  (pss_cons (ps_set (i := 3) sc__law_is_book.nd rfl (Or.inl rfl) (pe_lst (pa_cons (pe_lamX (X := (cxOf CX0 P w K mg base ["_law_book_here", "_law_orders_here", "_law_names", "_law_works", "_law_name", "_law_bad", "_law_order", "_law_k", "_law_work"] "_law_is_book" (defScope s__law_is_book) f (.ref c2) A outer s H E).nox) (k := 6) TBL HTM HTU (by kernel_rfl) rfl rfl (LamX.lamS_by (sc := defScope s__law_is_book) (by decide +kernel)) (fun _ _ _ _ _ _ => rfl) (fun A outer s H E f c' hrL => (pe_ixO XM_Book XF_Book (hrL.mono (by decide)) passM XI_Book (pv 0) (pv 5) (fun _ _ => rfl)))) (pa_cons (pe_lamXD (X := (cxOf CX0 P w K mg base ["_law_book_here", "_law_orders_here", "_law_names", "_law_works", "_law_name", "_law_bad", "_law_order", "_law_k", "_law_work"] "_law_is_book" (defScope s__law_is_book) f (.ref c2) A outer s H E).nox) (k := 6) (x := "_law_a") TBL HTM HTU (by kernel_rfl) rfl rfl rfl (lamSN_by (N := ["_law_book_here", "_law_orders_here", "_law_names", "_law_works", "_law_name", "_law_bad", "_law_order", "_law_k", "_law_work"]) (sc := defScope s__law_is_book) (by decide +kernel)) rfl (fun _ _ _ _ _ _ _ => ⟨_, rfl, fun _ => rfl⟩) (fun A outer s H E f c' hrL => (pe_mX X_Book_without T.cl_Book (hrL.mono (by decide)) passM (pv 0) (pa_cons (pv 5) pa_nil)))) pa_nil))))
  (pss_one (ps_if (pt_cmpR (op_neD hr.units) (pe_lcI (own := [("_law_work", 8)]) (g := (gName 8)) (by rfl) sc__law_is_book.nd (pi_list (pv 3)) (blkOk_by (own := [("_law_work", 8)]) (N := ["_law_book_here", "_law_orders_here", "_law_names", "_law_works", "_law_name", "_law_bad", "_law_order", "_law_k", "_law_work"]) (sc := defScope s__law_is_book) (by decide +kernel)) (fun _ _ _ _ _ => (pg_name (i := 8) sc__law_is_book.nd rfl (Or.inl rfl))) (fun pins σ s H C cl fp BB => (pts_one (pt_cmpR (op_neDK (K := K) hr.units) (pe_lamB (k := 6) BB (ok_raised rfl rfl T) (hr.mono (by decide)) (pa_cons (pv 8) pa_nil)) (pe_tup (pa_cons pe_str (pa_cons (pv 5) pa_nil))) (nomark _)))) (fun pins σ s H C cl fp BB => (pv 8))) (pe_lst pa_nil) (nomark _))
  (pss_one (ps_ret pe_bl))
  pss_nil))))
  (C8.pss_cut (ps_for PassesOwn.never rfl (pi_tup (pe_tup (pa_cons pe_str (pa_cons pe_str (pa_cons pe_str (pa_cons pe_str (pa_cons pe_str (pa_cons pe_non (pa_cons pe_int pa_nil))))))))) (pg_name (i := 4) sc__law_is_book.nd rfl (Or.inl rfl))
  (pss_one (ps_if (pt_cmpR op_ne (pe_cmpR (op_inO NM NF (hr.mono (by decide)) pass0) (pv 4) (pv 0) rfl) (pe_cmpR op_in_seq (pv 4) (pv 2) rfl) (nomark _))
  (pss_one (ps_ret pe_bl))
  pss_nil)))
  (pss_one (ps_ret pe_bl))))))), ?_⟩
    let tl (v2 v3 v4 v5 v6 v7 v8 : Option V) : L2.St := [some (.ref bk), some (.ref l), v2, v3, v4, v5, v6, v7, v8]
    have lo : as.length = os.length := PySem.Paired.length ol0
    have g30 := g.len
    refine ⟨fun σ' H' => Same H H' ∧ ∃ ln ys, H' ln = some (.lst (ys.map V.str)) ∧ AddrsOf os ys ∧ ∃ v3 v4 v5 v6 v7 v8, σ' = tl (some (.ref ln)) v3 v4 v5 v6 v7 v8, ?_, ?_⟩
    · refine ⟨_, rfl, l, rfl, ⟨_, hl0⟩, fun D1 hD1 => ?_⟩
      refine lc_it (walk_list (xs := as.map V.ref)) (fun i H' => Same H H' ∧ H' D1 = some (.lst (((os.take i).map (·.src)).map V.str))) ⟨Same.new hD1, upd_same⟩ (fun i H' _ p => p.1.seq hl0) ?_ ?_
      · rintro i y Hx H3 hi ⟨s3, e3⟩ ⟨rfl, ey⟩
        rw [List.length_map] at hi
        obtain ⟨a, ea⟩ : ∃ a, as[i]? = some a := ⟨as[i], by simp [hi]⟩
        rw [List.getElem?_map, ea] at ey
        cases ey
        obtain ⟨o, eo, oa⟩ := Paired.get ol0 ea
        have ek : os.take (i + 1) = os.take i ++ [o] := by rw [List.take_add_one, eo]; rfl
        refine ⟨rfl, yesT (iteT ⟨_, rfl, a, _, _, _, rfl, rfl, oa.mono (s3), rfl, ?_⟩)⟩
        refine ⟨_, e3, by rw [List.length_map, List.length_map, List.length_take, sizeLine_eq]; omega, fun b u e => ?_, ?_⟩
        · rw [upd_ne (ne_of_none e hD1)]
          exact s3 _ _ e
        · rw [upd_same, ek, List.map_append, List.map_append]
          rfl
      rintro H4 ⟨s4, e4⟩
      have et : os.take (as.map V.ref).length = os := by rw [List.length_map, lo, List.take_length]
      rw [et] at e4
      refine ⟨_, rfl, l, rfl, ⟨_, s4.seq hl0⟩, fun D2 hD2 => ?_⟩
      refine lc_it (walk_list (xs := as.map V.ref)) (fun i H' => Same H4 H' ∧ H' D2 = some (.lst (((os.take i).map (·.tgt)).map V.str))) ⟨Same.new hD2, upd_same⟩ (fun i H' _ p => p.1.seq (s4.seq hl0)) ?_ ?_
      · rintro i y Hx H3 hi ⟨s3, e3⟩ ⟨rfl, ey⟩
        rw [List.length_map] at hi
        obtain ⟨a, ea⟩ : ∃ a, as[i]? = some a := ⟨as[i], by simp [hi]⟩
        rw [List.getElem?_map, ea] at ey
        cases ey
        obtain ⟨o, eo, oa⟩ := Paired.get ol0 ea
        have ek : os.take (i + 1) = os.take i ++ [o] := by rw [List.take_add_one, eo]; rfl
        refine ⟨rfl, yesT (iteT ⟨_, rfl, a, _, _, _, rfl, rfl, oa.mono (s4.trans s3), rfl, ?_⟩)⟩
        refine ⟨_, e3, by rw [List.length_map, List.length_map, List.length_take, sizeLine_eq]; omega, fun b u e => ?_, ?_⟩
        · rw [upd_ne (ne_of_none e hD2)]
          exact s3 _ _ e
        · rw [upd_same, ek, List.map_append, List.map_append]
          rfl
      rintro H5 ⟨s5, e5⟩
      have et : os.take (as.map V.ref).length = os := by rw [List.length_map, lo, List.take_length]
      rw [et] at e5
      refine ⟨D1, D2, _, _, rfl, rfl, s5 _ _ e4, e5, by rw [List.length_map, List.length_map, List.length_map, List.length_map, sizeLine_eq]; omega, ?_⟩
      intro q hq
      generalize gH6 : L2.upd _ q _ = H6
      obtain ⟨s6, e6⟩ := newS hq gH6
      clear gH6
      have e6' : H6 q = some (.lst ((os.map (·.src) ++ os.map (·.tgt)).map V.str)) := by rw [e6, List.map_append]
      have mem : ∀ z, z ∈ setT (os.map (·.src) ++ os.map (·.tgt)) ↔ ∃ o ∈ os, z = o.src ∨ z = o.tgt := fun z => by
        rw [setT_mem, List.mem_append, List.mem_map, List.mem_map]
        constructor
        · rintro (⟨o, ho, rfl⟩ | ⟨o, ho, rfl⟩)
          · exact ⟨o, ho, .inl rfl⟩
          · exact ⟨o, ho, .inr rfl⟩
        · rintro ⟨o, ho, rfl | rfl⟩
          · exact .inl ⟨o, ho, rfl⟩
          · exact .inr ⟨o, ho, rfl⟩
      have l60 := setT_len (os.map (·.src) ++ os.map (·.tgt))
      rw [List.length_append, List.length_map, List.length_map] at l60
      refine ⟨q, _, rfl, SqL.of e6', by rw [List.length_append, List.length_map, List.length_map]; omega, ?_⟩
      intro p hp
      generalize gH7 : L2.upd _ p _ = H7
      obtain ⟨s7, e7⟩ := newS hp gH7
      clear gH7
      refine ⟨p, _, rfl, e7, by omega, ?_⟩
      intro ys r perm so hr
      generalize gH8 : L2.upd _ r _ = H8
      obtain ⟨s8, e8⟩ := newS hr gH8
      exact ⟨(((s4.trans s5).trans s6).trans s7).trans s8, _, ys, e8, ⟨perm.nodup_iff.mpr (setT_nodup _), so, fun z => by rw [perm.mem_iff]; exact mem z, by rw [perm.length_eq]; omega⟩, _, _, _, _, _, _, rfl⟩
    rintro σ H1 ⟨s1, ln, ys, eln, AY, w3, w4, w5, w6, w7, w8, rfl⟩
    have T1 := LamX.Tabs.ext T0 s1
    have B1 := B0.mono s1
    have hl1 := s1.seq hl0
    have ol1 := ol0.mono s1
    have x1 : LamX.ExtN H H1 := LamX.ExtN.of s1
    refine ⟨fun σ' H' => Same H H' ∧ H' ln = some (.lst (ys.map V.str)) ∧ ∃ v3 v4 v5 v6 v7 v8, σ' = tl (some (.ref ln)) v3 v4 v5 v6 v7 v8, ?_, ?_⟩
    · obtain ⟨dx, t, as2, b1, b2, b3⟩ := id B1
      have la2 := PySem.Paired.length b3
      refine ⟨_, rfl, bk, dx, _, rfl, b1, bk, dx, t, rfl, b1, ?_⟩
      refine ⟨_, rfl, bk, dx, _, rfl, b1, bk, os, rfl, B1, g30, fun H2 ta ys2 s2 fta eta A2 => ?_⟩
      have ey : ys2 = ys := sortedS_uniq (perm_of A2.nd AY.nd fun z => by rw [A2.mem, AY.mem]) A2.so AY.so
      subst ey
      refine ⟨_, rfl, bk, dx, _, rfl, s2 _ _ b1, bk, os, rfl, B1.mono s2, os.length, rfl, by omega, ?_⟩
      refine ⟨(by show 3 ≤ sizeLine; decide), ?_⟩
      intro q1 hq1
      generalize gH3 : L2.upd _ q1 _ = H3
      obtain ⟨s3, e3⟩ := newS hq1 gH3
      clear gH3
      refine ⟨_, rfl, l, _, rfl, .inl ⟨s3.seq (s2.seq hl1), ?_⟩⟩
      intro q2 hq2
      generalize gH4 : L2.upd _ q2 _ = H4
      obtain ⟨s4, e4⟩ := newS hq2 gH4
      clear gH4
      refine ⟨_, rfl, ln, _, rfl, .inl ⟨SqL.of (s4 _ _ (s3 _ _ (s2 _ _ eln))), ?_⟩⟩
      intro q3 hq3
      generalize gH5 : L2.upd _ q3 _ = H5
      obtain ⟨s5, e5⟩ := newS hq3 gH5
      clear gH5
      have s25 := (s3.trans s4).trans s5
      refine ⟨_, rfl, l, _, rfl, .inl ((s2.trans s25).seq hl1), ?_⟩
      refine ⟨(by show 3 ≤ sizeLine; decide), ?_⟩
      intro q4 hq4
      generalize gH6 : L2.upd _ q4 _ = H6
      obtain ⟨s6, e6⟩ := newS hq4 gH6
      clear gH6
      have s46 := s5.trans s6
      have s36 := s4.trans s46
      have s26 := s3.trans s36
      have addr : ∀ y ∈ ys2, isAddrB (.str y) = true := fun y hy => by
        obtain ⟨o, ho, rfl | rfl⟩ := (AY.mem y).mp hy
        · exact (g.ok o ho).as
        · exact (g.ok o ho).at_
      have dk : DK 3 (.list [.tuple (os.map ordDK), .tuple (ys2.map PyData.str), .int (os.length : Nat)]) := .list (.cons (.tuple (DK.map fun o ho => .ord (g.ok o ho)) (by rw [List.length_map]; omega)) (.cons (DK.le (m := 2) (.tuple (DK.map fun y hy => .str 0 (addr y hy)) (by rw [List.length_map]; have := AY.len; omega) : DK 1 _) (by decide)) (.cons (.int 2 _) .nil))) (by show 3 ≤ _; decide)
      refine ⟨.ref q1, .ref q4, .list [.tuple (os.map ordDK), .tuple (ys2.map PyData.str), .int (os.length : Nat)], rfl, .lst (SqL.of (s36 _ _ e3)) ?_, .lst (SqL.of e6) ?_, dk.lay, dk.dep, dk.sm, fun H7 s7 => ⟨_, rfl, iteF ?_⟩⟩
      · exact .cons (.tup (MF.Same.tup (s2.trans s26) b2) (dkOrds (b3.mono (s2.trans s26)))) (.cons (.tup (.inl (.inl (s26 _ _ eta))) (dkMap (fun _ => .str _) _)) (.cons (.int _) .nil))
      · rw [show (as.map V.ref).length = os.length by rw [List.length_map, lo]]
        exact .cons (.tup (.inl (.inl (s46 _ _ e4))) (dkOrds (ol1.mono (s2.trans s26)))) (.cons (.tup (.inl (.inl (s6 _ _ e5))) (dkMap (fun _ => .str _) _)) (.cons (.int _) .nil))
      · exact ⟨((s1.trans s2).trans s26).trans s7, s7 _ _ (s26 _ _ (s2 _ _ eln)), _, _, _, _, _, _, rfl⟩
    rintro σ H2 ⟨s2, eln2, w3, w4, w5, w6, w7, w8, rfl⟩
    let S (H' : Hp) : Prop := LamX.Tabs TT H' ∧ BookAt K C_Book H' bk os ∧ SqL K H' l (as.map V.ref) ∧ OrdsAt K H' as os ∧ SqL K H' ln (ys.map V.str) ∧ LamX.ExtN H H'
    have SS : ∀ {H' H'' : Hp}, S H' → Same H' H'' → S H'' := fun z s => ⟨LamX.Tabs.ext z.1 s, z.2.1.mono s, s.seq z.2.2.1, z.2.2.2.1.mono s, s.seq z.2.2.2.2.1, z.2.2.2.2.2.trans (LamX.ExtN.of s)⟩
    have SN : ∀ {H' H'' : Hp}, S H' → LamX.ExtN H' H'' → LamX.Tabs TT H'' → S H'' := fun z e t => ⟨t, book_extN z.2.1 e, sq_extN z.2.2.1 e, ords_extN z.2.2.2.1 e, sq_extN z.2.2.2.2.1 e, z.2.2.2.2.2.trans e⟩
    have S2 : S H2 := ⟨LamX.Tabs.ext T0 s2, B0.mono s2, s2.seq hl0, ol0.mono s2, SqL.of eln2, LamX.ExtN.of s2⟩
    clear s2 eln2 s1 eln T1 B1 hl1 ol1 x1 T0 B0 hl0
    refine ⟨fun σ' H' => S H' ∧ ∃ v3 v4 v5 v6 v7 v8, σ' = tl (some (.ref ln)) v3 v4 v5 v6 v7 v8, ?_, ?_⟩
    · refine ⟨_, rfl, l, _, rfl, .inl S2.2.2.1, _, rfl, by rw [List.length_map]; omega, by rw [List.length_map]; omega, fun D hD => ?_⟩
      refine lc_it walk_range (fun i H' => Same H2 H' ∧ ∃ bs, H' D = some (.lst (bs.map V.ref)) ∧ OrdsAt K H' bs (os.take i)) ⟨Same.new hD, [], upd_same, .nil⟩ (fun _ _ _ _ => trivial) ?_ ?_
      · rintro i y Hx H3 hi ⟨s3, bs, e3, O3⟩ ⟨rfl, rfl⟩
        replace hi : i < ((as.map V.ref).length : Int).toNat := hi
        rw [List.length_map, lo] at hi
        have hi' : i < os.length := by omega
        obtain ⟨o, eo⟩ : ∃ o, os[i]? = some o := ⟨os[i], by simp [hi']⟩
        obtain ⟨dx, t, as2, b1, b2, b3⟩ := id (S2.2.1.mono s3)
        have lb := PySem.Paired.length O3
        rw [List.length_take] at lb
        have iz : (0 : Int) + (i : Int) = (i : Nat) := by omega
        refine ⟨rfl, yesT (iteT ⟨_, rfl, _, rfl, bk, dx, _, rfl, b1, bk, os, o, i, (by show [V.ref bk, V.int ((0 : Int) + (i : Int))] = _; rw [iz]), S2.2.1.mono s3, eo, fun a oa => ?_⟩)⟩
        refine ⟨_, e3, by rw [List.length_map, lb, sizeLine_eq]; omega, fun b u e => ?_, bs ++ [a], by rw [upd_same, List.map_append]; rfl, ?_⟩
        · rw [upd_ne (ne_of_none e hD)]
          exact s3 _ _ e
        · rw [List.take_add_one, eo]
          have kk : ∀ b u, H3 b = some u → tupl u = true → upd H3 D (.lst (bs.map V.ref ++ [V.ref a])) b = some u := fun b u e z => by
            rw [upd_ne]
            · exact e
            · intro w
              rw [w, e3] at e
              cases e
              cases z
          exact Paired.append (OrdsAt.keepR O3 kk) (OrdsAt.keepR (as := [a]) (os := [o]) (.cons oa .nil) kk)
      · rintro H3 ⟨s3, bs, e3, O3⟩
        have et : os.take ((as.map V.ref).length : Int).toNat = os := by rw [List.length_map, lo, Int.toNat_natCast, List.take_length]
        rw [et] at O3
        have dk : DK 2 (.list (os.map ordDK)) := .list (DK.map fun o ho => .ord (g.ok o ho)) (by rw [List.length_map]; omega)
        refine ⟨_, rfl, .list (os.map ordDK), .list (os.map ordDK), .lst (SqL.of e3) (dkOrds O3), .lst (s3.seq S2.2.2.1) (dkOrds (S2.2.2.2.1.mono s3)), dk.shaped (by decide), dk.shaped (by decide), ?_⟩
        rw [show PyData.eqv (.list (os.map ordDK)) (.list (os.map ordDK)) = true from (eqvOrds os os).trans (decide_eq_true rfl)]
        exact ⟨_, rfl, iteF ⟨SS S2 s3, _, _, _, _, _, _, rfl⟩⟩
    clear S2
    rintro σ H2 ⟨S2, w3, w4, w5, w6, w7, w8, rfl⟩
    refine ⟨fun σ' H' => S H' ∧ ∃ v3 v4 v5 v6 v7 v8, σ' = tl (some (.ref ln)) v3 v4 v5 v6 v7 v8, ?_, ?_⟩
    · refine ⟨_, rfl, l, _, rfl, .inl S2.2.2.1, _, _, rfl, rfl, (by show 5 ≤ sizeLine; decide), ?_⟩
      rw [List.length_map, lo]
      intro q4 hq4
      generalize gH9 : L2.upd _ q4 _ = H9
      obtain ⟨s9, e9⟩ := newS hq4 gH9
      clear gH9
      have S9 := SS S2 s9
      refine ⟨q4, rfl, ⟨_, .inl (.inl e9)⟩, for_it (walk_tup (xs := [V.int (os.length : Nat), V.int (0 - 1), V.non, V.bl true, V.str "a"])) (fun i σ H' => S H' ∧ (∀ b xs, H9 b = some (.tup xs) → H' b = some (.tup xs)) ∧ ∃ v3 v4 v5 v6 v7 v8, σ = tl (some (.ref ln)) v3 v4 v5 v6 v7 v8) ⟨S9, fun _ _ z => z, _, _, _, _, _, _, rfl⟩ (fun i σ H' _ z => .inl (.inl (z.2.1 _ _ e9))) ?_ ?_⟩
      · rintro i y σ Hx H10 hi10 ⟨S10, k10, w3, w4, w5, w6, w7, w8, rfl⟩ ⟨rfl, ey⟩
        obtain ⟨n1, n2, n3, n4⟩ : notSeq y = true ∧ FmtOk y ∧ isIntB y 0 ((os.length : Int) - 1) = false ∧ ∃ dy, (∀ H', Dp K H' y dy) ∧ DK 0 dy ∧ PyData.eqv dy dy = true := by
          have : i = 0 ∨ i = 1 ∨ i = 2 ∨ i = 3 ∨ i = 4 := by
            have : i < 5 := hi10
            omega
          rcases this with rfl | rfl | rfl | rfl | rfl <;> cases ey
          · exact ⟨rfl, fmtI (by omega), by simp [isIntB]; omega, _, (fun _ => .int _), .int 0 _, by simp [PyData.eqv]⟩
          · exact ⟨rfl, fmtI (by decide), by simp [isIntB], _, (fun _ => .int _), .int 0 _, by simp [PyData.eqv]⟩
          · exact ⟨rfl, True.intro, rfl, _, (fun _ => .non), .non 0, rfl⟩
          · exact ⟨rfl, True.intro, rfl, _, (fun _ => .bl true), .bl 0 true, rfl⟩
          · exact ⟨rfl, (by show Str.length _ ≤ 1000; decide +kernel), rfl, _, (fun _ => .str _), .strk 0 (by decide +kernel), by simp [PyData.eqv]⟩
        obtain ⟨dy, hdy, kdy, qdy⟩ := n4
        refine ⟨S10.1, fun f1 H11 x11 T11 fn1 L11 => ⟨T11, fun f2 H12 x12 T12 fn2 L12 => ?_⟩⟩
        refine ⟨(by show 2 ≤ sizeLine; decide), ?_⟩
        intro lw hlw
        generalize gH13 : L2.upd _ lw _ = H13
        obtain ⟨s13, e13⟩ := newS hlw gH13
        clear gH13
        replace L11 := (L11.keep fun b φ z => x12 _ _ z (fun ps w => by cases w)).keep fun b φ z => s13 _ _ z
        replace L12 := L12.keep fun b φ z => s13 _ _ z
        have S13 := SS (SN (SN S10 x11 T11) x12 T12) s13
        have x13 : LamX.ExtN H10 H13 := (x11.trans x12).trans (LamX.ExtN.of s13)
        refine ⟨_, rfl, lw, rfl, ⟨_, SqL.of e13⟩, fun D hD => ?_⟩
        refine lc_it (walk_list (xs := [V.ref f1, V.ref f2])) (fun i H' => Same H13 H' ∧ H' D = some (.lst [])) ⟨Same.new hD, upd_same⟩ (fun i H' _ p => SqL.of (p.1 _ _ e13)) ?_ ?_
        · rintro iF yF Hy H14 hiF ⟨s14, e14⟩ ⟨rfl, eyF⟩
          have i0n : iF = 0 ∨ iF = 1 := by have : iF < 2 := hiF; omega
          have S14 := SS S13 s14
          rcases i0n with rfl | rfl
          · cases eyF
            refine ⟨rfl, ?_⟩
            refine ⟨_, rfl, _, f1, rfl, L11.keep (fun b φ z => s14 _ _ z), ?_⟩
            obtain ⟨dx, t, as2, b1, b2, b3⟩ := id S14.2.1
            refine ⟨_, rfl, _, rfl, bk, dx, _, rfl, b1, bk, os, y, rfl, S14.2.1, g30, n1, n2, n3, fun H15 cls dd s15 e15 => ⟨.unknown y, True.intro, e15, fun p H16 s16 fp ep => ?_⟩⟩
            refine ⟨_, rfl, (by show 2 ≤ sizeLine; decide), ?_⟩
            intro z hz
            generalize gH17 : L2.upd _ z _ = H17
            obtain ⟨s17, e17⟩ := newS hz gH17
            clear gH17
            have kd : DK 1 (.tuple [.str "unknown", dy]) := .tuple (.cons (.strk 0 (by decide +kernel)) (.cons kdy .nil)) (by show 2 ≤ _; decide)
            refine ⟨.tuple [.str "unknown", dy], .tuple [.str "unknown", dy], .tup (.inl (.inl (s17 _ _ ep))) (.cons (.str _) (.cons (hdy _) .nil)), .tup (.inl (.inl e17)) (.cons (.str _) (.cons (hdy _) .nil)), kd.shaped (by decide), kd.shaped (by decide), ?_⟩
            have sT := (s15.trans s16).trans s17
            rw [show PyData.eqv (.tuple [.str "unknown", dy]) (.tuple [.str "unknown", dy]) = true from by simp [PyData.eqv, PyData.eqvAll, qdy]]
            exact ⟨_, rfl, iteF ⟨s14.trans sT, sT _ _ e14⟩⟩
          · cases eyF
            refine ⟨rfl, ?_⟩
            refine ⟨_, rfl, _, f2, rfl, L12.keep (fun b φ z => s14 _ _ z), ?_⟩
            obtain ⟨dx, t, as2, b1, b2, b3⟩ := id S14.2.1
            refine ⟨_, rfl, bk, dx, _, rfl, b1, rfl, _, rfl, bk, os, y, rfl, S14.2.1, g30, n1, n2, n3, fun H15 cls dd s15 e15 => ⟨.unknown y, True.intro, e15, fun p H16 s16 fp ep => ?_⟩⟩
            refine ⟨_, rfl, (by show 2 ≤ sizeLine; decide), ?_⟩
            intro z hz
            generalize gH17 : L2.upd _ z _ = H17
            obtain ⟨s17, e17⟩ := newS hz gH17
            clear gH17
            have kd : DK 1 (.tuple [.str "unknown", dy]) := .tuple (.cons (.strk 0 (by decide +kernel)) (.cons kdy .nil)) (by show 2 ≤ _; decide)
            refine ⟨.tuple [.str "unknown", dy], .tuple [.str "unknown", dy], .tup (.inl (.inl (s17 _ _ ep))) (.cons (.str _) (.cons (hdy _) .nil)), .tup (.inl (.inl e17)) (.cons (.str _) (.cons (hdy _) .nil)), kd.shaped (by decide), kd.shaped (by decide), ?_⟩
            have sT := (s15.trans s16).trans s17
            rw [show PyData.eqv (.tuple [.str "unknown", dy]) (.tuple [.str "unknown", dy]) = true from by simp [PyData.eqv, PyData.eqvAll, qdy]]
            exact ⟨_, rfl, iteF ⟨s14.trans sT, sT _ _ e14⟩⟩
        · rintro H14 ⟨s14, e14⟩
          refine ⟨Nat.zero_le _, ?_⟩
          intro z hz
          generalize gH15 : L2.upd _ z _ = H15
          obtain ⟨s15, e15⟩ := newS hz gH15
          clear gH15
          refine ⟨.list [], .list [], .lst (SqL.of (s15 _ _ e14)) .nil, .lst (SqL.of e15) .nil, by decide +kernel, by decide +kernel, ?_⟩
          refine ⟨_, rfl, iteF ?_⟩
          have sT := s14.trans s15
          exact ⟨SS S13 sT, fun b xs e => sT _ _ (x13 _ _ (k10 _ _ e) (fun ps z => by cases z)), _, _, _, _, _, _, rfl⟩
      · rintro σ' H' ⟨S6, _, z⟩
        exact ⟨S6, z⟩
    clear S2
    rintro σ H2 ⟨S2, w3, w4, w5, w6, w7, w8, rfl⟩
    refine ⟨fun σ' H' => S H', ?_, fun σ H3 S3 => k _ S3.2.2.2.2.2 S3.1⟩
    refine ⟨(by show 7 ≤ sizeLine; decide), ?_⟩
    intro q5 hq5
    generalize gH9 : L2.upd _ q5 _ = H9
    obtain ⟨s9, e9⟩ := newS hq5 gH9
    clear gH9
    refine ⟨q5, rfl, ⟨_, .inl (.inl e9)⟩, for_it (walk_tup (xs := [V.str "a", V.str "b", V.str "f", V.str "", V.str "ab", V.non, V.int 5])) (fun i σ H' => Same H9 H' ∧ ∃ v3 v4 v5 v6 v7 v8, σ = tl (some (.ref ln)) v3 v4 v5 v6 v7 v8) ⟨Same.refl _, _, _, _, _, _, _, rfl⟩ (fun i σ H' _ z => .inl (.inl (z.1 _ _ e9))) ?_ ?_⟩
    · rintro i y σ Hx H10 hi10 ⟨s10, w3, w4, w5, w6, w7, w8, rfl⟩ ⟨rfl, ey⟩
      have S10 := SS S2 (s9.trans s10)
      obtain ⟨dx, t, as2, b1, b2, b3⟩ := id S10.2.1
      have allf : (ys.map V.str).all flatV = true := by rw [List.all_map]; exact List.all_eq_true.mpr fun _ _ => rfl
      have hy : (∃ z, y = .str z) ∨ y = .non ∨ ∃ i, y = .int i := by
        have : i = 0 ∨ i = 1 ∨ i = 2 ∨ i = 3 ∨ i = 4 ∨ i = 5 ∨ i = 6 := by
          have : i < 7 := hi10
          omega
        rcases this with rfl | rfl | rfl | rfl | rfl | rfl | rfl <;> cases ey
        · exact .inl ⟨_, rfl⟩
        · exact .inl ⟨_, rfl⟩
        · exact .inl ⟨_, rfl⟩
        · exact .inl ⟨_, rfl⟩
        · exact .inl ⟨_, rfl⟩
        · exact .inr (.inl rfl)
        · exact .inr (.inr ⟨_, rfl⟩)
      rcases hy with ⟨z, rfl⟩ | hy
      · refine ⟨_, rfl, _, rfl, bk, dx, _, rfl, b1, bk, os, .str z, rfl, S10.2.1, g, .inl ⟨z, rfl, fun H11 s11 => ⟨_, rfl, ?_⟩⟩⟩
        refine ⟨_, rfl, _, rfl, ln, _, rfl, .inl (s11.seq S10.2.2.2.2.1), rfl, allf, rfl, _, rfl, ?_⟩
        have e : (if false = true then !inV (.str z) (ys.map V.str) else inV (.str z) (ys.map V.str)) = decide (∃ o ∈ os, z = o.src ∨ z = o.tgt) := by
          rw [if_neg (by decide), strsV_inB, Bool.eq_iff_iff, decide_eq_true_eq, decide_eq_true_eq]
          exact AY.mem z
        rw [e]
        refine iteND rfl ?_
        exact ⟨s10.trans s11, _, _, _, _, _, _, rfl⟩
      · have f1 : inV y (ys.map V.str) = false := by
          unfold inV
          rw [List.any_map, List.any_eq_false]
          intro z _
          rcases hy with rfl | ⟨i, rfl⟩ <;> simp [eqV]
        refine ⟨_, rfl, _, rfl, bk, dx, _, rfl, b1, bk, os, y, rfl, S10.2.1, g, .inr ⟨hy, _, rfl, ?_⟩⟩
        refine ⟨_, rfl, _, rfl, ln, _, rfl, .inl S10.2.2.2.2.1, (by rcases hy with rfl | ⟨i, rfl⟩ <;> rfl), allf, rfl, _, rfl, ?_⟩
        have e : (if false = true then !inV y (ys.map V.str) else inV y (ys.map V.str)) = false := by rw [if_neg (by decide), f1]
        rw [e]
        refine iteND rfl ?_
        exact ⟨s10, _, _, _, _, _, _, rfl⟩
    · rintro σ' H' ⟨S6, _⟩
      exact SS S2 (s9.trans S6)
end

end MF
set_option Elab.async false
set_option linter.all false
set_option maxRecDepth 100000
set_option maxHeartbeats 2000000
set_option pp.maxSteps 600
namespace MF
open PySem PySem.Spec PyProof.Rows L2 StX
section
variable {P : Program} {w : World} {K : PySem.W.Frag} {mg : Str → Option Value} {base : Heap} {C_Book C_MailError C_InvalidOrder C_UnknownOrder C_InvalidAddress C_InvalidDay C_InvalidNumber : Addr}
def rejQ : Str := "_law_are_rejected.<locals>.<lambda>"
def okV : V → Bool
  | .str z => decide (z.length ≤ 1000)
  | .int _ => true
  | .bl _ => true
  | .non => true
  | _ => false
theorem okV_all {xs : List V} (h : xs.all okV = true) : ∀ x ∈ xs, notSeq x = true ∧ shortV x := fun x hx => by
  have := List.all_eq_true.mp h x hx
  cases x <;> first | exact ⟨rfl, True.intro⟩ | cases this | skip
  rename_i z
  exact ⟨rfl, Nat.le_trans (of_decide_eq_true this) (by decide)⟩
def TupB (K : PySem.W.Frag) (H : Hp) (v : V) : Prop := ∃ a xs, v = .ref a ∧ SqT K H a xs ∧ xs.all okV = true ∧ isOrdB xs = false
theorem TupB.keep {H H' : Hp} {v : V} (h : TupB K H v) (k : ∀ b u, H b = some u → tupl u = true → H' b = some u) : TupB K H' v := by
  obtain ⟨a, xs, h1, h2, h3⟩ := h
  refine ⟨a, xs, h1, ?_, h3⟩
  rcases h2 with (z | ⟨u, z⟩) | z
  · exact .inl (.inl (k _ _ z rfl))
  · exact .inl (.inr ⟨u, k _ _ z rfl⟩)
  · exact .inr z
theorem TupB.bad {H : Hp} {v : V} (h : TupB K H v) : BadV K H v := by
  obtain ⟨a, xs, h1, h2, h3, h4⟩ := h
  exact .inl ⟨a, xs, h1, h2, okV_all h3, h4⟩
theorem BadV.extN {H H' : Hp} {v : V} (h : BadV K H v) (e : LamX.ExtN H H') : BadV K H' v := by
  rcases h with ⟨a, xs, h1, h2, h3⟩ | ⟨a, xs, h1, h2⟩ | h
  · refine .inl ⟨a, xs, h1, ?_, h3⟩
    rcases h2 with (z | ⟨u, z⟩) | z
    · exact .inl (.inl (e _ _ z fun ps w => by cases w))
    · exact .inl (.inr ⟨u, e _ _ z fun ps w => by cases w⟩)
    · exact .inr z
  · exact .inr (.inl ⟨a, xs, h1, sq_extN h2 e⟩)
  · exact .inr (.inr h)
def spRejected (K : PySem.W.Frag) (TT : List (Addr × Str)) : Sp := fun vs H Q _ => ∃ l as os, vs = [.ref l] ∧ LamX.Tabs TT H ∧ Good os ∧ (∀ o ∈ os, o.last ≤ 1000000) ∧ SqL K H l (as.map V.ref) ∧ OrdsAt K H as os ∧ ∀ H', Q (.bl true) H'
theorem ok_rejected (T : Top K mg C_Book C_MailError C_InvalidOrder C_UnknownOrder C_InvalidAddress C_InvalidDay C_InvalidNumber) (sf : PySem.W.selfFirst K C_Book = true) {c2 P2 : Addr} {TT : List (Addr × Str)} (HTM : (P2, rejQ) ∈ TT) (HTU : ∀ p ∈ TT, p.1 = P2 → p.2 = rejQ) (D : GDefC K mg "_law_are_rejected" s__law_are_rejected ["_law_orders_here"] c2) (TBL : LamX.TabB base mg c2 P2) : GFn P w K mg base CX0 9 "_law_are_rejected" (spRejected K TT) := by
  have G__law_book : GFn P w K mg base CX0 7 "_law_book" (spLawBook K C_Book) := ok_law_book T sf
  have G_Book : IFn P w K mg base CX0 3 C_Book "Book" (spBookInit K C_Book) := ok_Book T
  have X_Book := okX_Book (P := P) (w := w) (base := base) T
  obtain ⟨fx, FX, MX⟩ := (okX_Book_add (P := P) (w := w) (base := base) T).ex
  refine D.fn fun f fd F => F.ok sc__law_are_rejected (fun vs H Q E h => ?_) (fun A outer s H vs Q E hr h => ?_)
  · obtain ⟨l, as, os, rfl, _⟩ := h
    rfl
  · obtain ⟨l, as, os, rfl, T0, g, lm, hl0, ol0, k⟩ := h
    refine ⟨_, (C8.pss_cut (ps_asg (pe_tup (pa_cons (pe_g G__law_book (hr.mono (by decide)) (pa_cons (pv 0) pa_nil)) (pa_cons (pe_lc (own := [("_law_order", 1)]) (g := (gName 1)) (by rfl) sc__law_are_rejected.nd (pi_list (pv 0)) (blkOk_by (own := [("_law_order", 1)]) (N := ["_law_orders_here", "_law_order", "_law_last", "_law_bads", "_law_bad", "_law_book_here", "_law_days"]) (sc := defScope s__law_are_rejected) (by decide +kernel)) (fun _ _ _ _ _ => (pg_name (i := 1) sc__law_are_rejected.nd rfl (Or.inl rfl))) (fun _ _ _ _ _ => (pts_one (pt_cmpR op_eq (pe_ix (ix_tupK (K := K)) (pv 1) pe_int (fun _ _ => rfl)) pe_str (nomark _)))) (fun _ _ _ _ _ => (pv 1))) pa_nil))) (pg_tup rfl (pgs_cons (pg_name (i := 5) sc__law_are_rejected.nd rfl (Or.inr rfl)) (pgs_cons (pg_name (i := 2) sc__law_are_rejected.nd rfl (Or.inl rfl)) pgs_nil))))
  (C8.pss_cut (ps_set (i := 3) sc__law_are_rejected.nd rfl (Or.inl rfl) (pe_lst (pa_cons (pe_tup (pa_cons pe_str (pa_cons pe_str (pa_cons pe_int (pa_cons pe_int (pa_cons pe_int pa_nil)))))) (pa_cons (pe_tup (pa_cons pe_str (pa_cons pe_str (pa_cons pe_int (pa_cons pe_int (pa_cons pe_int pa_nil)))))) (pa_cons (pe_tup (pa_cons pe_str (pa_cons pe_str (pa_cons pe_int (pa_cons pe_int (pa_cons pe_int pa_nil)))))) (pa_cons (pe_tup (pa_cons pe_str (pa_cons pe_str (pa_cons pe_int (pa_cons pe_int (pa_cons pe_int pa_nil)))))) pa_nil))))))
  (C8.pss_cut (ps_expr (pe_bm PySem.F.plainAttrs_list PySem.F.slot_list_append PySem.F.type_list_append mt_append (pv 3) (pa_cons (pe_tup (pa_cons pe_str (pa_cons pe_str (pa_cons pe_int (pa_cons pe_int (pa_cons pe_int pa_nil)))))) pa_nil)))
  (C8.pss_cut (ps_set (i := 3) sc__law_are_rejected.nd rfl (Or.inl rfl) (pe_op op_cat (pv 3) (pe_lst (pa_cons (pe_tup (pa_cons pe_str (pa_cons pe_str (pa_cons (pe_op op_sub pe_int pe_int) (pa_cons pe_int (pa_cons pe_int pa_nil)))))) (pa_cons (pe_tup (pa_cons pe_str (pa_cons pe_str (pa_cons pe_int (pa_cons (pe_op op_add (pe_op op_pow pe_int pe_int) pe_int) (pa_cons pe_int pa_nil)))))) (pa_cons (pe_tup (pa_cons pe_str (pa_cons pe_str (pa_cons pe_int (pa_cons pe_int (pa_cons pe_int pa_nil)))))) (pa_cons (pe_tup (pa_cons pe_str (pa_cons pe_str (pa_cons pe_int (pa_cons pe_int (pa_cons pe_int pa_nil)))))) pa_nil)))))))
  (C8.pss_cut (ps_set (i := 3) sc__law_are_rejected.nd rfl (Or.inl rfl) (pe_op op_cat (pv 3) (pe_lst (pa_cons (pe_tup (pa_cons pe_str (pa_cons pe_str (pa_cons pe_int (pa_cons pe_int pa_nil))))) (pa_cons (pe_lst (pa_cons pe_str (pa_cons pe_str (pa_cons pe_int (pa_cons pe_int (pa_cons pe_int pa_nil)))))) (pa_cons pe_non (pa_cons pe_int (pa_cons (pe_tup (pa_cons pe_str (pa_cons pe_int (pa_cons pe_int (pa_cons pe_int (pa_cons pe_int pa_nil)))))) (pa_cons (pe_tup (pa_cons pe_str (pa_cons pe_str (pa_cons pe_bl (pa_cons pe_int (pa_cons pe_int pa_nil)))))) (pa_cons (pe_tup pa_nil) pa_nil))))))))))
  (C8.pss_cut (ps_for PassesOwn.never rfl (pi_list (pv 3)) (pg_name (i := 4) sc__law_are_rejected.nd rfl (Or.inr rfl))
  (pss_one (ps_if (pt_cmpR (op_neD hr.units) (pe_lamC (k := 6) (ok_raised rfl rfl T) (hr.mono (by decide)) (by exact (pa_cons (pe_lamX (X := (cxOf CX0 P w K mg base ["_law_orders_here", "_law_order", "_law_last", "_law_bads", "_law_bad", "_law_book_here", "_law_days"] "_law_are_rejected" (defScope s__law_are_rejected) f (.ref c2) A outer s H E).nox) (k := 6) TBL HTM HTU (by kernel_rfl) rfl rfl (LamX.lamS_by (sc := defScope s__law_are_rejected) (by decide +kernel)) (fun _ _ _ _ _ _ => rfl) (fun A outer s H E f c' hrL => (pe_mkX X_Book (hrL.mono (by decide)) passM (pa_cons (pe_tup (pa_cons pe_str (pa_cons pe_str (pa_cons pe_int (pa_cons pe_int (pa_cons pe_int pa_nil)))))) (pa_cons (pv 4) pa_nil))))) pa_nil))) (pe_tup (pa_cons pe_str (pa_cons pe_int pa_nil))) (nomark _))
  (pss_one (ps_ret pe_bl))
  pss_nil)))
  (C8.pss_cut (ps_for PassesOwn.never rfl (pi_list (pe_slice (sl_listK (K := K)) (pv 2) po_none (po_some pe_int))) (pg_name (i := 1) sc__law_are_rejected.nd rfl (Or.inl rfl))
  (pss_one (ps_for PassesOwn.never rfl (pi_tup (pe_tup (pa_cons (pe_tup (pa_cons (pe_ix ix_tup (pv 1) pe_int (fun _ _ => rfl)) (pa_cons (pe_ix ix_tup (pv 1) pe_int (fun _ _ => rfl)) pa_nil))) (pa_cons (pe_tup (pa_cons (pe_ix ix_tup (pv 1) pe_int (fun _ _ => rfl)) (pa_cons (pe_op op_add (pe_ix ix_tup (pv 1) pe_int (fun _ _ => rfl)) pe_int) pa_nil))) (pa_cons (pe_tup (pa_cons pe_int (pa_cons (pe_ix ix_tup (pv 1) pe_int (fun _ _ => rfl)) pa_nil))) (pa_cons (pe_tup (pa_cons pe_int (pa_cons (pe_op op_pow pe_int pe_int) pa_nil))) pa_nil)))))) (pg_name (i := 6) sc__law_are_rejected.nd rfl (Or.inr rfl))
  (pss_one (ps_if (pt_cmpR (op_neD hr.units) (pe_lamC (k := 6) (ok_raised rfl rfl T) (hr.mono (by decide)) (by exact (pa_cons (pe_lamX (X := (cxOf CX0 P w K mg base ["_law_orders_here", "_law_order", "_law_last", "_law_bads", "_law_bad", "_law_book_here", "_law_days"] "_law_are_rejected" (defScope s__law_are_rejected) f (.ref c2) A outer s H E).nox) (k := 6) TBL HTM HTU (by kernel_rfl) rfl rfl (LamX.lamS_by (sc := defScope s__law_are_rejected) (by decide +kernel)) (fun _ _ _ _ _ _ => rfl) (fun A outer s H E f c' hrL => (pe_op (op_ownR sf MX FX (hrL.mono (by decide)) passM) (pv 5) (pe_mkX G_Book (hrL.mono (by decide)) pass0 (pa_cons (pe_tup (pa_cons pe_str (pa_cons pe_str (pa_cons (pe_ix (ix_tupK (K := K)) (pv 6) pe_int (fun _ _ => rfl)) (pa_cons (pe_ix (ix_tupK (K := K)) (pv 6) pe_int (fun _ _ => rfl)) (pa_cons pe_int pa_nil)))))) pa_nil))))) pa_nil))) (pe_tup (pa_cons pe_str (pa_cons (pe_callB call_len_seq (by rfl) T.b_len (by decide +kernel) (pa_cons (pv 0) pa_nil)) pa_nil))) (nomark _))
  (pss_one (ps_ret pe_bl))
  pss_nil)))))
  (pss_one (ps_ret pe_bl))))))))), ?_⟩
    let tl (v1 v2 v3 v4 v5 v6 : Option V) : L2.St := [some (.ref l), v1, v2, v3, v4, v5, v6]
    have lo : as.length = os.length := PySem.Paired.length ol0
    have g30 := g.len
    refine ⟨fun σ' H' => Same H H' ∧ ∃ bk ll aa la, BookAt K C_Book H' bk os ∧ H' ll = some (.lst (aa.map V.ref)) ∧ OrdsAt K H' aa la ∧ (∀ o ∈ la, o ∈ os ∧ o.src = "a") ∧ aa.length ≤ 30 ∧ ∃ v1 v3 v4 v6, σ' = tl v1 (some (.ref ll)) v3 v4 (some (.ref bk)) v6, ?_, ?_⟩
    · refine ⟨_, rfl, l, as, os, rfl, hl0, ol0, g, fun H1 bk s1 f1 B1 => ?_⟩
      refine ⟨_, rfl, l, rfl, ⟨_, s1.seq hl0⟩, fun D1 hD1 => ?_⟩
      refine lc_it (walk_list (xs := as.map V.ref)) (fun i H' => Same H1 H' ∧ ∃ aa la, H' D1 = some (.lst (aa.map V.ref)) ∧ OrdsAt K H' aa la ∧ (∀ o ∈ la, o ∈ os ∧ o.src = "a") ∧ aa.length ≤ i) ⟨Same.new hD1, [], [], upd_same, .nil, (fun o ho => by cases ho), Nat.le_refl _⟩ (fun i H' _ p => p.1.seq (s1.seq hl0)) ?_ ?_
      · rintro i y Hx H3 hi ⟨s3, aa, la, e3, O3, M3, L3⟩ ⟨rfl, ey⟩
        rw [List.length_map] at hi
        obtain ⟨a, ea⟩ : ∃ a, as[i]? = some a := ⟨as[i], by simp [hi]⟩
        rw [List.getElem?_map, ea] at ey
        cases ey
        obtain ⟨o, eo, oa⟩ := Paired.get ol0 ea
        refine ⟨rfl, _, rfl, a, _, _, _, rfl, rfl, oa.mono (s1.trans s3), rfl, rfl, _, rfl, ?_⟩
        by_cases c : o.src = "a"
        · refine iteD (show V.str o.src = V.str "a" by rw [c]) ⟨_, rfl, _, e3, by rw [List.length_map, sizeLine_eq]; omega, fun b u e => ?_, aa ++ [a], la ++ [o], by rw [upd_same, List.map_append]; rfl, ?_, fun q hq => ?_, by rw [List.length_append]; show aa.length + 1 ≤ _; omega⟩
          · rw [upd_ne (ne_of_none e hD1)]
            exact s3 _ _ e
          · have kk : ∀ b u, H3 b = some u → tupl u = true → upd H3 D1 (.lst (aa.map V.ref ++ [V.ref a])) b = some u := fun b u e z => by
              rw [upd_ne]
              · exact e
              · intro w
                rw [w, e3] at e
                cases e
                cases z
            exact Paired.append (OrdsAt.keepR O3 kk) (OrdsAt.keepR (as := [a]) (os := [o]) (.cons (oa.mono (s1.trans s3)) .nil) kk)
          · rcases List.mem_append.mp hq with z | z
            · exact M3 q z
            · rw [List.mem_singleton.mp z]
              exact ⟨List.mem_of_getElem? eo, c⟩
        · refine iteDN (fun z => c (V.str.inj z)) ⟨s3, aa, la, e3, O3, M3, by omega⟩
      · rintro H3 ⟨s3, aa, la, e3, O3, M3, L3⟩
        refine ⟨(by show 2 ≤ sizeLine; decide), ?_⟩
        intro t ht
        generalize gH6 : L2.upd _ t _ = H6
        obtain ⟨s6, e6⟩ := newS ht gH6
        clear gH6
        have s36 := s3.trans s6
        refine ⟨t, _, rfl, .inl (.inl e6), rfl, _, _, rfl, _, _, rfl, rfl, ?_⟩
        exact ⟨s1.trans s36, bk, D1, aa, la, B1.mono s36, s6 _ _ e3, O3.mono s6, M3, by rw [List.length_map] at L3; omega, _, _, _, _, rfl⟩
    rintro σ H1 ⟨s1, bk, ll, aa, la, B1, ell, O1, M1, L1, w1, w3, w4, w6, rfl⟩
    have T1 := LamX.Tabs.ext T0 s1
    have hl1 := s1.seq hl0
    clear T0 hl0 ol0
    refine ⟨fun σ' H' => Same H1 H' ∧ ∃ lb bads, H1 lb = none ∧ H' lb = some (.lst bads) ∧ bads.length = 4 ∧ (∀ v ∈ bads, TupB K H' v) ∧ ∃ v1 v4 v6, σ' = tl v1 (some (.ref ll)) (some (.ref lb)) v4 (some (.ref bk)) v6, ?_, ?_⟩
    · refine ⟨(by show 5 ≤ sizeLine; decide), ?_⟩
      intro q1 hq1
      generalize gK1 : L2.upd _ q1 _ = K1
      obtain ⟨t1, e1⟩ := newS hq1 gK1
      clear gK1
      refine ⟨(by show 5 ≤ sizeLine; decide), ?_⟩
      intro q2 hq2
      generalize gK2 : L2.upd _ q2 _ = K2
      obtain ⟨t2, e2⟩ := newS hq2 gK2
      clear gK2
      refine ⟨(by show 5 ≤ sizeLine; decide), ?_⟩
      intro q3 hq3
      generalize gK3 : L2.upd _ q3 _ = K3
      obtain ⟨t3, e3⟩ := newS hq3 gK3
      clear gK3
      refine ⟨(by show 5 ≤ sizeLine; decide), ?_⟩
      intro q4 hq4
      generalize gK4 : L2.upd _ q4 _ = K4
      obtain ⟨t4, e4⟩ := newS hq4 gK4
      clear gK4
      refine ⟨(by show 4 ≤ sizeLine; decide), ?_⟩
      intro lb hlb
      generalize gK5 : L2.upd _ lb _ = K5
      obtain ⟨t5, e5⟩ := newS hlb gK5
      clear gK5
      have t45 := t4.trans t5
      have t35 := t3.trans t45
      have t25 := t2.trans t35
      refine ⟨t1.trans t25, lb, _, (t1.trans (t2.trans (t3.trans t4))).free hlb, e5, rfl, fun v hv => ?_, _, _, _, rfl⟩
      simp only [List.mem_cons, List.not_mem_nil, or_false] at hv
      rcases hv with rfl | rfl | rfl | rfl
      · exact ⟨_, _, rfl, .inl (.inl (t25 _ _ e1)), by decide +kernel, by decide +kernel⟩
      · exact ⟨_, _, rfl, .inl (.inl (t35 _ _ e2)), by decide +kernel, by decide +kernel⟩
      · exact ⟨_, _, rfl, .inl (.inl (t45 _ _ e3)), by decide +kernel, by decide +kernel⟩
      · exact ⟨_, _, rfl, .inl (.inl (t5 _ _ e4)), by decide +kernel, by decide +kernel⟩
    rintro σ H2 ⟨s2, lb, bads, flb, elb, n4, TB2, w1, w4, w6, rfl⟩
    refine ⟨fun σ' H' => Same H1 H' ∧ ∃ bads, H' lb = some (.lst bads) ∧ bads.length = 5 ∧ (∀ v ∈ bads, TupB K H' v) ∧ ∃ v1 v4 v6, σ' = tl v1 (some (.ref ll)) (some (.ref lb)) v4 (some (.ref bk)) v6, ?_, ?_⟩
    · refine ⟨_, rfl, .inl ⟨rfl, _, SqL.of elb⟩, ?_⟩
      refine ⟨(by show 5 ≤ sizeLine; decide), ?_⟩
      intro q1 hq1
      generalize gK1 : L2.upd _ q1 _ = K1
      obtain ⟨t1, e1⟩ := newS hq1 gK1
      clear gK1
      refine ⟨lb, _, _, rfl, rfl, t1 _ _ elb, by rw [n4]; decide, ?_⟩
      generalize gK2 : L2.upd _ lb _ = K2
      obtain ⟨up, e2⟩ := updS gK2
      clear gK2
      have kk : ∀ b u, K1 b = some u → tupl u = true → K2 b = some u := upT (t1 _ _ elb) up
      refine ⟨fun b u e => up _ _ (t1 _ _ (s2 _ _ e)) (ne_of_none e flb), _, e2, by rw [List.length_append, n4]; rfl, fun v hv => ?_, _, _, _, rfl⟩
      rcases List.mem_append.mp hv with z | z
      · exact (TB2 v z).keep fun b u e zz => kk _ _ (t1 _ _ e) zz
      · rw [List.mem_singleton.mp z]
        exact ⟨_, _, rfl, .inl (.inl (kk _ _ e1 rfl)), by decide +kernel, by decide +kernel⟩
    clear elb n4 TB2 s2 bads
    rintro σ H2 ⟨s2, bads, elb, n4, TB2, w1, w4, w6, rfl⟩
    refine ⟨fun σ' H' => Same H1 H' ∧ ∃ lc bads, H' lc = some (.lst bads) ∧ bads.length = 9 ∧ (∀ v ∈ bads, TupB K H' v) ∧ ∃ v1 v4 v6, σ' = tl v1 (some (.ref ll)) (some (.ref lc)) v4 (some (.ref bk)) v6, ?_, ?_⟩
    · refine ⟨_, rfl, _, _, rfl, rfl, (by show 5 ≤ sizeLine; decide), ?_⟩
      intro q1 hq1
      generalize gK1 : L2.upd _ q1 _ = K1
      obtain ⟨t1, e1⟩ := newS hq1 gK1
      clear gK1
      refine ⟨_, _, rfl, rfl, ⟨by decide, by decide, by decide⟩, _, _, rfl, rfl, (by show 5 ≤ sizeLine; decide), ?_⟩
      intro q2 hq2
      generalize gK2 : L2.upd _ q2 _ = K2
      obtain ⟨t2, e2⟩ := newS hq2 gK2
      clear gK2
      refine ⟨(by show 5 ≤ sizeLine; decide), ?_⟩
      intro q3 hq3
      generalize gK3 : L2.upd _ q3 _ = K3
      obtain ⟨t3, e3⟩ := newS hq3 gK3
      clear gK3
      refine ⟨(by show 5 ≤ sizeLine; decide), ?_⟩
      intro q4 hq4
      generalize gK4 : L2.upd _ q4 _ = K4
      obtain ⟨t4, e4⟩ := newS hq4 gK4
      clear gK4
      refine ⟨(by show 4 ≤ sizeLine; decide), ?_⟩
      intro lx hlx
      generalize gK5 : L2.upd _ lx _ = K5
      obtain ⟨t5, e5⟩ := newS hlx gK5
      clear gK5
      have t45 := t4.trans t5
      have t35 := t3.trans t45
      have t25 := t2.trans t35
      have t15 := t1.trans t25
      refine ⟨lb, lx, _, _, rfl, rfl, t15 _ _ elb, e5, by rw [n4]; show 5 + 4 ≤ sizeLine; decide, ?_⟩
      intro lc hlc
      generalize gK6 : L2.upd _ lc _ = K6
      obtain ⟨t6, e6⟩ := newS hlc gK6
      clear gK6
      have tk : ∀ {H' : Hp} {v : V}, TupB K H' v → Same H' K6 → TupB K K6 v := fun z s => z.keep fun b u e _ => s _ _ e
      refine ⟨s2.trans (t15.trans t6), lc, _, e6, by rw [List.length_append, n4]; rfl, fun v hv => ?_, _, _, _, rfl⟩
      rcases List.mem_append.mp hv with z | hv
      · exact tk (TB2 v z) (t15.trans t6)
      simp only [List.mem_cons, List.not_mem_nil, or_false] at hv
      rcases hv with rfl | rfl | rfl | rfl
      · exact tk ⟨_, _, rfl, .inl (.inl e1), by decide +kernel, by decide +kernel⟩ (t25.trans t6)
      · exact tk ⟨_, _, rfl, .inl (.inl e2), by decide +kernel, by decide +kernel⟩ (t35.trans t6)
      · exact tk ⟨_, _, rfl, .inl (.inl e3), by decide +kernel, by decide +kernel⟩ (t45.trans t6)
      · exact tk ⟨_, _, rfl, .inl (.inl e4), by decide +kernel, by decide +kernel⟩ (t5.trans t6)
    clear elb n4 TB2 s2 bads flb
    rintro σ H2 ⟨s2, lb, bads, elb, n4, TB2, w1, w4, w6, rfl⟩
    refine ⟨fun σ' H' => Same H1 H' ∧ ∃ lc bads, H' lc = some (.lst bads) ∧ (∀ v ∈ bads, BadV K H' v) ∧ ∃ v1 v4 v6, σ' = tl v1 (some (.ref ll)) (some (.ref lc)) v4 (some (.ref bk)) v6, ?_, ?_⟩
    · refine ⟨_, rfl, (by show 4 ≤ sizeLine; decide), ?_⟩
      intro q1 hq1
      generalize gK1 : L2.upd _ q1 _ = K1
      obtain ⟨t1, e1⟩ := newS hq1 gK1
      clear gK1
      refine ⟨(by show 5 ≤ sizeLine; decide), ?_⟩
      intro q2 hq2
      generalize gK2 : L2.upd _ q2 _ = K2
      obtain ⟨t2, e2⟩ := newS hq2 gK2
      clear gK2
      refine ⟨(by show 5 ≤ sizeLine; decide), ?_⟩
      intro q3 hq3
      generalize gK3 : L2.upd _ q3 _ = K3
      obtain ⟨t3, e3⟩ := newS hq3 gK3
      clear gK3
      refine ⟨(by show 5 ≤ sizeLine; decide), ?_⟩
      intro q4 hq4
      generalize gK4 : L2.upd _ q4 _ = K4
      obtain ⟨t4, e4⟩ := newS hq4 gK4
      clear gK4
      refine ⟨(by show 0 ≤ sizeLine; decide), ?_⟩
      intro q5 hq5
      generalize gK5 : L2.upd _ q5 _ = K5
      obtain ⟨t5, e5⟩ := newS hq5 gK5
      clear gK5
      refine ⟨(by show 7 ≤ sizeLine; decide), ?_⟩
      intro lx hlx
      generalize gK6 : L2.upd _ lx _ = K6
      obtain ⟨t6, e6⟩ := newS hlx gK6
      clear gK6
      have t56 := t5.trans t6
      have t46 := t4.trans t56
      have t36 := t3.trans t46
      have t26 := t2.trans t36
      have t16 := t1.trans t26
      refine ⟨lb, lx, _, _, rfl, rfl, t16 _ _ elb, e6, by rw [n4]; show 9 + 7 ≤ sizeLine; decide, ?_⟩
      intro lc hlc
      generalize gK7 : L2.upd _ lc _ = K7
      obtain ⟨t7, e7⟩ := newS hlc gK7
      clear gK7
      have tk : ∀ {H' : Hp} {v : V}, TupB K H' v → Same H' K7 → BadV K K7 v := fun z s => (z.bad).mono s
      refine ⟨s2.trans (t16.trans t7), lc, _, e7, fun v hv => ?_, _, _, _, rfl⟩
      rcases List.mem_append.mp hv with z | hv
      · exact tk (TB2 v z) (t16.trans t7)
      simp only [List.mem_cons, List.not_mem_nil, or_false] at hv
      rcases hv with rfl | rfl | rfl | rfl | rfl | rfl | rfl
      · exact tk ⟨_, _, rfl, .inl (.inl e1), by decide +kernel, by decide +kernel⟩ (t26.trans t7)
      · exact .inr (.inl ⟨_, _, rfl, SqL.of (t7 _ _ (t36 _ _ e2))⟩)
      · exact .inr (.inr rfl)
      · exact .inr (.inr rfl)
      · exact tk ⟨_, _, rfl, .inl (.inl e3), by decide +kernel, by decide +kernel⟩ (t46.trans t7)
      · exact tk ⟨_, _, rfl, .inl (.inl e4), by decide +kernel, by decide +kernel⟩ (t56.trans t7)
      · exact tk ⟨_, _, rfl, .inl (.inl e5), by decide +kernel, by decide +kernel⟩ (t6.trans t7)
    clear elb n4 TB2 
    rintro σ H3 ⟨s3, lc, bads2, elc, BV, w1, w4, w6, rfl⟩
    let S (H' : Hp) : Prop := LamX.Tabs TT H' ∧ BookAt K C_Book H' bk os ∧ SqL K H' l (as.map V.ref) ∧ SqL K H' ll (aa.map V.ref) ∧ OrdsAt K H' aa la
    have SS : ∀ {H' H'' : Hp}, S H' → Same H' H'' → S H'' := fun z s => ⟨LamX.Tabs.ext z.1 s, z.2.1.mono s, s.seq z.2.2.1, s.seq z.2.2.2.1, z.2.2.2.2.mono s⟩
    have SN : ∀ {H' H'' : Hp}, S H' → LamX.ExtN H' H'' → LamX.Tabs TT H'' → S H'' := fun z e t => ⟨t, book_extN z.2.1 e, sq_extN z.2.2.1 e, sq_extN z.2.2.2.1 e, ords_extN z.2.2.2.2 e⟩
    have S3 : S H3 := ⟨T1.ext s3, B1.mono s3, s3.seq hl1, SqL.of (s3 _ _ ell), O1.mono s3⟩
    refine ⟨fun σ' H' => S H' ∧ ∃ v1 v3 v4 v6, σ' = tl v1 (some (.ref ll)) v3 v4 (some (.ref bk)) v6, ?_, ?_⟩
    · refine ⟨_, rfl, lc, rfl, ⟨_, SqL.of elc⟩, for_it (walk_list (xs := bads2)) (fun i σ H' => S H' ∧ LamX.ExtN H3 H' ∧ ∃ v1 v3 v4 v6, σ = tl v1 (some (.ref ll)) v3 v4 (some (.ref bk)) v6) ⟨S3, LamX.ExtN.refl _, _, _, _, _, rfl⟩ (fun i σ H' _ z => sq_extN (SqL.of elc) z.2.1) ?_ ?_⟩
      · rintro i y σ Hx H10 hi10 ⟨S10, x10, w1, w3, w4, w6, rfl⟩ ⟨rfl, ey⟩
        have yb := (BV y (List.mem_of_getElem? ey)).extN x10
        refine ⟨S10.1, fun f1 H11 x11 T11 fn1 L11 => ?_⟩
        have S11 := SN S10 x11 T11
        have yb1 := yb.extN x11
        refine ⟨_, f1, rfl, L11, ?_⟩
        refine ⟨(by show 5 ≤ sizeLine; decide), ?_⟩
        intro z1 hz1
        generalize gH12 : L2.upd _ z1 _ = H12
        obtain ⟨s12, e12⟩ := newS hz1 gH12
        clear gH12
        refine ⟨_, rfl, ?_⟩
        intro x dx hx hdx ne
        refine ⟨_, _, rfl, (by show 2 ≤ sizeLine; decide), fun p hp => ?_⟩
        have s0 : Same H12 (upd (upd H12 dx (.own x)) x (.ins C_Book dx [])) := fun b o e => by
          rw [upd_ne (ne_of_none e hx), upd_ne (ne_of_none e hdx)]
          exact e
        have s13 := s0.trans (Same.new (o := .tup [V.ref z1, y]) hp)
        have ozy : Ordr.Ok ⟨"z", "y", 0, 1, 1⟩ := ⟨by decide +kernel, by decide +kernel, (by show ("z" : Str) ≠ "y"; decide), (by show (0 : Int) ≤ 0; decide), (by show (0 : Int) ≤ 1; decide), (by show (1 : Int) ≤ _; decide), (by show (1 : Int) ≤ 1; decide), (by show (1 : Int) ≤ 30; decide)⟩
        have oz : OrdAt K H12 z1 ⟨"z", "y", 0, 1, 1⟩ := .inl (.inl e12)
        refine ⟨x, p, [V.ref z1, y], 1, rfl, .inl (.inl upd_same), ⟨[z1], [⟨"z", "y", 0, 1, 1⟩], y, [], rfl, .cons (oz.mono s13) .nil, (fun o ho => by rw [List.mem_singleton.mp ho]; exact ozy), List.pairwise_singleton _ _, rfl, by decide, .inr (.inl ((yb1.mono s12).mono s13))⟩, fun H15 cls d s15 e15 => ⟨.order (.int ((1 : Nat) : Int)), True.intro, e15, fun p H16 s16 fp ep => ?_⟩⟩
        refine ⟨(by show 2 ≤ sizeLine; decide), ?_⟩
        intro z hz
        generalize gH17 : L2.upd _ z _ = H17
        obtain ⟨s17, e17⟩ := newS hz gH17
        clear gH17
        have kd : DK 1 (.tuple [.str "order", .int 1]) := .tuple (.cons (.strk 0 (by decide +kernel)) (.cons (.int 0 _) .nil)) (by show 2 ≤ _; decide)
        refine ⟨.tuple [.str "order", .int 1], .tuple [.str "order", .int 1], .tup (.inl (.inl (s17 _ _ ep))) (.cons (.str _) (.cons (.int _) .nil)), .tup (.inl (.inl e17)) (.cons (.str _) (.cons (.int _) .nil)), kd.shaped (by decide), kd.shaped (by decide), ?_⟩
        have sT := (((s12.trans s13).trans s15).trans s16).trans s17
        refine ⟨_, rfl, iteF ?_⟩
        exact ⟨SS S11 sT, (x10.trans x11).trans (LamX.ExtN.of sT), _, _, _, _, rfl⟩
      · rintro σ' H' ⟨S6, _, z⟩
        exact ⟨S6, z⟩
    clear S3
    rintro σ H4 ⟨S4, w1, w3, w4, w6, rfl⟩
    refine ⟨fun σ' H' => True, ?_, fun σ H _ => k _⟩
    refine ⟨_, rfl, _, rfl, ll, _, rfl, S4.2.2.2.1, ?_⟩
    intro ls hls
    generalize gH5 : L2.upd _ ls _ = H5
    obtain ⟨s5, e5⟩ := newS hls gH5
    clear gH5
    have ec : cutV (aa.map V.ref) none (some 2) = (aa.take 2).map V.ref := by
      match aa with
      | [] => rfl
      | [a] => rfl
      | a :: b :: r => exact (cut_take _ 2 (by simp)).trans (by rw [List.map_take])
    have e5 : H5 ls = some (.lst ((aa.take 2).map V.ref)) := by rw [← ec]; exact e5
    have S5 := SS S4 s5
    refine ⟨ls, rfl, ⟨_, SqL.of e5⟩, for_it (walk_list (xs := (aa.take 2).map V.ref)) (fun i σ H' => S H' ∧ LamX.ExtN H5 H' ∧ ∃ v1 v3 v4 v6, σ = tl v1 (some (.ref ll)) v3 v4 (some (.ref bk)) v6) ⟨S5, LamX.ExtN.refl _, _, _, _, _, rfl⟩ (fun i σ H' _ z => sq_extN (SqL.of e5) z.2.1) ?_ (fun _ _ _ => True.intro)⟩
    rintro i y σ Hx H6 hi6 ⟨S6, x6, w1, w3, w4, w6, rfl⟩ ⟨rfl, ey⟩
    obtain ⟨a, o, rfl, oa, ho⟩ : ∃ a o, y = V.ref a ∧ OrdAt K H6 a o ∧ o ∈ la := by
      rw [List.length_map] at hi6
      rw [List.getElem?_map] at ey
      cases q : (aa.take 2)[i]? with
      | none => rw [q] at ey; cases ey
      | some a =>
        rw [q] at ey
        cases ey
        have q2 : aa[i]? = some a := by
          rw [List.getElem?_take] at q
          split at q
          · exact q
          · cases q
        obtain ⟨o, eo, oa⟩ := Paired.get S6.2.2.2.2 q2
        exact ⟨a, o, rfl, oa, List.mem_of_getElem? eo⟩
    obtain ⟨hos, hsrc⟩ := M1 o ho
    have ok := g.ok o hos
    have olm := lm o hos
    have of0 := ok.f0
    have ofl := ok.fl
    refine ⟨_, rfl, a, _, _, _, rfl, rfl, oa, rfl, _, rfl, a, _, _, _, rfl, rfl, oa, rfl, (by show 2 ≤ sizeLine; decide), ?_⟩
    intro d1 hd1
    generalize gK1 : L2.upd _ d1 _ = K1
    obtain ⟨t1, e1⟩ := newS hd1 gK1
    clear gK1
    refine ⟨_, rfl, a, _, _, _, rfl, rfl, oa.mono t1, rfl, _, rfl, a, _, _, _, rfl, rfl, oa.mono t1, rfl, _, _, rfl, rfl, (by show 2 ≤ sizeLine; decide), ?_⟩
    intro d2 hd2
    generalize gK2 : L2.upd _ d2 _ = K2
    obtain ⟨t2, e2⟩ := newS hd2 gK2
    clear gK2
    refine ⟨_, rfl, a, _, _, _, rfl, rfl, oa.mono (t1.trans t2), rfl, (by show 2 ≤ sizeLine; decide), ?_⟩
    intro d3 hd3
    generalize gK3 : L2.upd _ d3 _ = K3
    obtain ⟨t3, e3⟩ := newS hd3 gK3
    clear gK3
    refine ⟨_, _, rfl, rfl, ⟨by decide, by decide, by decide⟩, (by show 2 ≤ sizeLine; decide), ?_⟩
    intro d4 hd4
    generalize gK4 : L2.upd _ d4 _ = K4
    obtain ⟨t4, e4⟩ := newS hd4 gK4
    clear gK4
    refine ⟨(by show 4 ≤ sizeLine; decide), ?_⟩
    intro dt hdt
    generalize gK5 : L2.upd _ dt _ = K5
    obtain ⟨t5, e5'⟩ := newS hdt gK5
    clear gK5
    have t45 := t4.trans t5
    have t35 := t3.trans t45
    have t25 := t2.trans t35
    have t15 := t1.trans t25
    have S7 := SS S6 t15
    have pw : (10 : Int) ^ (18 : Int).toNat = 1000000000000000000 := by decide +kernel
    refine ⟨dt, rfl, ⟨_, .inl (.inl e5')⟩, for_it (walk_tup (xs := [V.ref d1, V.ref d2, V.ref d3, V.ref d4])) (fun i σ H' => S H' ∧ LamX.ExtN K5 H' ∧ ∃ v1 v3 v4 v6, σ = tl v1 (some (.ref ll)) v3 v4 (some (.ref bk)) v6) ⟨S7, LamX.ExtN.refl _, _, _, _, _, rfl⟩ (fun i σ H' _ z => .inl (.inl (z.2.1 _ _ e5' fun ps w => by cases w))) ?_ ?_⟩
    · rintro j y σ Hx H8 hj8 ⟨S8, x8, w1, w3, w4, w6, rfl⟩ ⟨rfl, ey⟩
      have tup8 : ∀ {b : Addr} {xs : List V}, K5 b = some (.tup xs) → SqT K H8 b xs := fun e => .inl (.inl (x8 _ _ e fun ps w => by cases w))
      obtain ⟨q, x0, x1, rfl, hq, h0, h1, h2, h3, h4⟩ : ∃ q x0 x1, y = V.ref q ∧ SqT K H8 q [.int x0, .int x1] ∧ 0 ≤ x0 ∧ x0 ≤ x1 ∧ x1 ≤ 1000000000000000000 ∧ o.first ≤ x1 ∧ x0 ≤ o.last := by
        have : j = 0 ∨ j = 1 ∨ j = 2 ∨ j = 3 := by
          have : j < 4 := hj8
          omega
        rcases this with rfl | rfl | rfl | rfl <;> cases ey
        · exact ⟨d1, _, _, rfl, tup8 (t25 _ _ e1), by omega, by omega, by omega, by omega, by omega⟩
        · exact ⟨d2, _, _, rfl, tup8 (t35 _ _ e2), by omega, by omega, by omega, by omega, by omega⟩
        · exact ⟨d3, _, _, rfl, tup8 (t45 _ _ e3), by omega, by omega, by omega, by omega, by omega⟩
        · exact ⟨d4, _, _, rfl, tup8 (t5 _ _ e4), by omega, by rw [pw]; omega, by rw [pw]; omega, by rw [pw]; omega, by omega⟩
      have ok2 : Ordr.Ok ⟨"a", "zz", x0, x1, 1⟩ := ⟨(by show isAddrB (.str "a") = true; decide +kernel), (by show isAddrB (.str "zz") = true; decide +kernel), (by show ("a" : Str) ≠ "zz"; decide), h0, h1, h2, (by show (1 : Int) ≤ 1; decide), (by show (1 : Int) ≤ 30; decide)⟩
      have ov : overB o ⟨"a", "zz", x0, x1, 1⟩ = true := by
        unfold overB
        rw [decide_eq_true hsrc, decide_eq_true h3, decide_eq_true h4]
        rfl
      refine ⟨S8.1, fun f1 H11 x11 T11 fn1 L11 => ?_⟩
      have S11 := SN S8 x11 T11
      have hq11 : SqT K H11 q [.int x0, .int x1] := by
        rcases hq with (z | ⟨u, z⟩) | z
        · exact .inl (.inl (x11 _ _ z fun ps w => by cases w))
        · exact .inl (.inr ⟨u, x11 _ _ z fun ps w => by cases w⟩)
        · exact .inr z
      refine ⟨_, f1, rfl, L11, ?_⟩
      refine ⟨_, rfl, _, rfl, q, _, _, _, rfl, rfl, hq11, rfl, _, rfl, q, _, _, _, rfl, rfl, hq11, rfl, (by show 5 ≤ sizeLine; decide), ?_⟩
      intro z1 hz1
      generalize gH12 : L2.upd _ z1 _ = H12
      obtain ⟨s12, e12⟩ := newS hz1 gH12
      clear gH12
      intro p4 dx4 hp4 hdx4 ne4
      have oz : OrdsAt K H12 [z1] [⟨"a", "zz", x0, x1, 1⟩] := .cons (.inl (.inl e12)) .nil
      refine book_made' (as := [z1]) (os := [⟨"a", "zz", x0, x1, 1⟩]) oz (Good.one ok2) hp4 hdx4 ne4 (fun H13 s13 B13 => ⟨rfl, ?_⟩)
      have S13 := SS S11 (s12.trans s13)
      obtain ⟨dx, t, bs, b1, b2, b3⟩ := id S13.2.1
      obtain ⟨dy, u, cs, c1, c2, c3⟩ := id B13
      refine ⟨bk, p4, dx, dy, _, _, rfl, rfl, b1, c1, bk, p4, os, _, rfl, S13.2.1, B13, g, ok2, .inr ⟨o, hos, ov⟩, fun H15 cls d s15 e15 => ⟨.order (.int (os.length : Nat)), True.intro, e15, fun p H16 s16 fp ep => ?_⟩⟩
      have S16 := SS (SS S13 s15) s16
      refine ⟨_, rfl, l, _, rfl, .inl S16.2.2.1, (by show 2 ≤ sizeLine; decide), ?_⟩
      rw [List.length_map, lo]
      intro z hz
      generalize gH17 : L2.upd _ z _ = H17
      obtain ⟨s17, e17⟩ := newS hz gH17
      clear gH17
      have kd : DK 1 (.tuple [.str "order", .int (os.length : Nat)]) := .tuple (.cons (.strk 0 (by decide +kernel)) (.cons (.int 0 _) .nil)) (by show 2 ≤ _; decide)
      refine ⟨.tuple [.str "order", .int (os.length : Nat)], .tuple [.str "order", .int (os.length : Nat)], .tup (.inl (.inl (s17 _ _ ep))) (.cons (.str _) (.cons (.int _) .nil)), .tup (.inl (.inl e17)) (.cons (.str _) (.cons (.int _) .nil)), kd.shaped (by decide), kd.shaped (by decide), ?_⟩
      rw [show PyData.eqv (.tuple [.str "order", .int (os.length : Nat)]) (.tuple [.str "order", .int (os.length : Nat)]) = true from by simp [PyData.eqv, PyData.eqvAll]]
      refine ⟨_, rfl, iteF ?_⟩
      exact ⟨SS S16 s17, (x8.trans x11).trans (LamX.ExtN.of ((((s12.trans s13).trans s15).trans s16).trans s17)), _, _, _, _, rfl⟩
    · rintro σ' H' ⟨S9, x9, z⟩
      exact ⟨S9, (x6.trans (LamX.ExtN.of t15)).trans x9, z⟩
end

end MF
set_option Elab.async false
set_option linter.all false
set_option maxRecDepth 100000
set_option maxHeartbeats 2000000
set_option pp.maxSteps 600
namespace MF
open PySem PySem.Spec PyProof.Rows L2 StX
section
variable {P : Program} {w : World} {K : PySem.W.Frag} {mg : Str → Option Value} {base : Heap} {C_Book C_MailError C_InvalidOrder C_UnknownOrder C_InvalidAddress C_InvalidDay C_InvalidNumber : Addr}
def chnQ : Str := "_law_are_chains.<locals>.<lambda>"
theorem chn_good : Good (chainL 3 9 2 ["a", "b", "c", "d"]) := by
  have e : chainL 3 9 2 ["a", "b", "c", "d"] = [⟨"a", "b", 3, 9, 2⟩, ⟨"b", "c", 3, 9, 2⟩, ⟨"c", "d", 3, 9, 2⟩] := by decide +kernel
  rw [e]
  have ad : isAddrB (.str "a") = true ∧ isAddrB (.str "b") = true ∧ isAddrB (.str "c") = true ∧ isAddrB (.str "d") = true := by decide +kernel
  obtain ⟨xa, xb, xc, xd⟩ := ad
  refine ⟨by show 3 ≤ 30; decide, fun o ho => ?_, by decide +kernel⟩
  simp only [List.mem_cons, List.not_mem_nil, or_false] at ho
  rcases ho with rfl | rfl | rfl
  · exact ⟨xa, xb, (by show ("a" : Str) ≠ "b"; decide), (by show (0 : Int) ≤ 3; decide), (by show (3 : Int) ≤ 9; decide), (by show (9 : Int) ≤ _; decide), (by show (1 : Int) ≤ 2; decide), (by show (2 : Int) ≤ 30; decide)⟩
  · exact ⟨xb, xc, (by show ("b" : Str) ≠ "c"; decide), (by show (0 : Int) ≤ 3; decide), (by show (3 : Int) ≤ 9; decide), (by show (9 : Int) ≤ _; decide), (by show (1 : Int) ≤ 2; decide), (by show (2 : Int) ≤ 30; decide)⟩
  · exact ⟨xc, xd, (by show ("c" : Str) ≠ "d"; decide), (by show (0 : Int) ≤ 3; decide), (by show (3 : Int) ≤ 9; decide), (by show (9 : Int) ≤ _; decide), (by show (1 : Int) ≤ 2; decide), (by show (2 : Int) ≤ 30; decide)⟩
theorem chn_bad {H : Hp} {as : List Addr} (h : OrdsAt K H as (chainL 3 9 2 ["a", "b", "a", "c"])) : FirstBad K H (as.map V.ref) 2 := by
  have e : chainL 3 9 2 ["a", "b", "a", "c"] = [⟨"a", "b", 3, 9, 2⟩, ⟨"b", "a", 3, 9, 2⟩, ⟨"a", "c", 3, 9, 2⟩] := by decide +kernel
  rw [e] at h
  have ad : isAddrB (.str "a") = true ∧ isAddrB (.str "b") = true ∧ isAddrB (.str "c") = true := by decide +kernel
  obtain ⟨xa, xb, xc⟩ := ad
  have o1 : Ordr.Ok ⟨"a", "b", 3, 9, 2⟩ := ⟨xa, xb, (by show ("a" : Str) ≠ "b"; decide), (by show (0 : Int) ≤ 3; decide), (by show (3 : Int) ≤ 9; decide), (by show (9 : Int) ≤ _; decide), (by show (1 : Int) ≤ 2; decide), (by show (2 : Int) ≤ 30; decide)⟩
  have o2 : Ordr.Ok ⟨"b", "a", 3, 9, 2⟩ := ⟨xb, xa, (by show ("b" : Str) ≠ "a"; decide), (by show (0 : Int) ≤ 3; decide), (by show (3 : Int) ≤ 9; decide), (by show (9 : Int) ≤ _; decide), (by show (1 : Int) ≤ 2; decide), (by show (2 : Int) ≤ 30; decide)⟩
  have o3 : Ordr.Ok ⟨"a", "c", 3, 9, 2⟩ := ⟨xa, xc, (by show ("a" : Str) ≠ "c"; decide), (by show (0 : Int) ≤ 3; decide), (by show (3 : Int) ≤ 9; decide), (by show (9 : Int) ≤ _; decide), (by show (1 : Int) ≤ 2; decide), (by show (2 : Int) ≤ 30; decide)⟩
  cases h with
  | cons h1 h =>
    cases h with
    | cons h2 h =>
      cases h with
      | cons h3 h =>
        cases h
        rename_i a1 a2 a3
        refine ⟨[a1, a2], [⟨"a", "b", 3, 9, 2⟩, ⟨"b", "a", 3, 9, 2⟩], V.ref a3, [], rfl, .cons h1 (.cons h2 .nil), fun o ho => ?_, by decide +kernel, rfl, by decide, .inr (.inr ⟨a3, _, ⟨"a", "b", 3, 9, 2⟩, rfl, h3, o3, by simp, by decide +kernel⟩)⟩
        simp only [List.mem_cons, List.not_mem_nil, or_false] at ho
        rcases ho with rfl | rfl
        · exact o1
        · exact o2
def mnyO (j : Nat) : Ordr := ⟨("a" : Str) ++ ⟨#[97 + j % 10]⟩ ++ ⟨#[97 + j / 10]⟩, "z", 0, 1, 1⟩
def mnyL : List Ordr := (List.range 30).map mnyO
theorem mny_src : ∀ j, j < 30 → isAddrB (.str (mnyO j).src) = true ∧ (mnyO j).src ≠ "z" ∧ atI ("abcdefghij" : Str).cps.toList ((j : Int) % 10) = some (97 + j % 10) ∧ atI ("abcd" : Str).cps.toList ((j : Int) / 10) = some (97 + j / 10) ∧ ("a" : Str).length + Str.length ⟨#[97 + j % 10]⟩ ≤ sizeLine ∧ Str.length (("a" : Str) ++ ⟨#[97 + j % 10]⟩) + Str.length ⟨#[97 + j / 10]⟩ ≤ sizeLine := by decide +kernel
theorem mny_good : Good mnyL := by
  refine ⟨by decide, fun o ho => ?_, by decide +kernel⟩
  obtain ⟨j, hj, rfl⟩ := List.mem_map.mp ho
  obtain ⟨h1, h2, _⟩ := mny_src j (List.mem_range.mp hj)
  exact ⟨h1, (by show isAddrB (.str "z") = true; decide +kernel), h2, (by show (0 : Int) ≤ 0; decide), (by show (0 : Int) ≤ 1; decide), (by show (1 : Int) ≤ _; decide), (by show (1 : Int) ≤ 1; decide), (by show (1 : Int) ≤ 30; decide)⟩
def spChains (TT : List (Addr × Str)) : Sp := fun vs H Q _ => vs = [] ∧ LamX.Tabs TT H ∧ ∀ H', LamX.ExtN H H' → LamX.Tabs TT H' → Q (.bl true) H'
theorem ok_chains (T : Top K mg C_Book C_MailError C_InvalidOrder C_UnknownOrder C_InvalidAddress C_InvalidDay C_InvalidNumber) (sf : PySem.W.selfFirst K C_Book = true) {c2 P2 : Addr} {TT : List (Addr × Str)} (HTM : (P2, chnQ) ∈ TT) (HTU : ∀ p ∈ TT, p.1 = P2 → p.2 = chnQ) (D : GDefC K mg "_law_are_chains" s__law_are_chains [] c2) (TBL : LamX.TabB base mg c2 P2) : GFn P w K mg base CX0 10 "_law_are_chains" (spChains TT) := by
  have G__law_book : GFn P w K mg base CX0 7 "_law_book" (spLawBook K C_Book) := ok_law_book T sf
  have G_Book : IFn P w K mg base CX0 3 C_Book "Book" (spBookInit K C_Book) := ok_Book T
  have PR_Book_orders : PFn P w K mg base CX0 1 C_Book "orders" (spBookOrders C_Book) := ok_book_orders T
  obtain ⟨fl, LF_Book, LM_Book⟩ := (ok_book_len (P := P) (w := w) (base := base) T).ex
  have mg_Book := T.g_Book
  have CM_Book_chain := ok_chain (P := P) (w := w) (base := base) T
  have XC_Book_chain := okX_chain (P := P) (w := w) (base := base) T
  obtain ⟨fx, FX, MX⟩ := (okX_Book_add (P := P) (w := w) (base := base) T).ex
  refine D.fn fun f fd F => F.ok sc__law_are_chains (fun vs H Q E h => ?_) (fun A outer s H vs Q E hr h => ?_)
  · obtain ⟨rfl, _⟩ := h
    rfl
  · obtain ⟨rfl, T0, k⟩ := h
    refine ⟨_, (C8.pss_cut (ps_set (i := 0) sc__law_are_chains.nd rfl (Or.inr rfl) (pe_lst (pa_cons pe_str (pa_cons pe_str (pa_cons pe_str (pa_cons pe_str pa_nil))))))
  (C8.pss_cut (ps_set (i := 1) sc__law_are_chains.nd rfl (Or.inl rfl) (pe_cm CM_Book_chain (hr.mono (by decide)) (pe_glob (v := V.ref C_Book) rfl mg_Book rfl) (pa_cons pe_int (pa_cons pe_int (pa_cons pe_int (pa_cons (pe_ix ix_list (pv 0) pe_int (fun _ _ => rfl)) (pa_cons (pe_ix ix_list (pv 0) pe_int (fun _ _ => rfl)) (pa_cons (pe_ix ix_list (pv 0) pe_int (fun _ _ => rfl)) (pa_cons (pe_ix ix_list (pv 0) pe_int (fun _ _ => rfl)) pa_nil)))))))))
  (C8.pss_cut (ps_if (PW.pt (pw_or (pt_cmpR (op_neD hr.units) (pe_pr PR_Book_orders T.cl_Book (hr.mono (by decide)) (pv 1)) (pe_callTy call_tuple_of (by rfl) T.b_tuple (by decide +kernel) (pa_cons (pe_lc (own := [("_law_j", 3)]) (g := (gName 3)) (by rfl) sc__law_are_chains.nd (pi_range1 (by rfl) T.b_range (pa_cons pe_int pa_nil)) (blkOk_by (own := [("_law_j", 3)]) (N := ["_law_names", "_law_chain", "_law_many", "_law_j"]) (sc := defScope s__law_are_chains) (by decide +kernel)) (fun _ _ _ _ _ => (pg_name (i := 3) sc__law_are_chains.nd rfl (Or.inl rfl))) (fun _ _ _ _ _ => pts_nil) (fun _ _ _ _ _ => (pe_tup (pa_cons (pe_ix (ix_listK (K := K)) (pv 0) (pv 3) (fun _ _ => rfl)) (pa_cons (pe_ix (ix_listK (K := K)) (pv 0) (pe_op op_add (pv 3) pe_int) (fun _ _ => rfl)) (pa_cons pe_int (pa_cons pe_int (pa_cons pe_int pa_nil)))))))) pa_nil)) (nomark _)) (pw_or1 (pt_cmpR op_ne (ClX.pe_cval (pe_glob (v := V.ref C_Book) rfl T.g_Book rfl)) pe_int (nomark _)))))
  (pss_one (ps_ret pe_bl))
  pss_nil)
  (C8.pss_cut (ps_if (pt_cmpR (op_neD hr.units) (pe_lamC (k := 7) (ok_raised rfl rfl T) (hr.mono (by decide)) (by exact (pa_cons (pe_lamX (X := (cxOf CX0 P w K mg base ["_law_names", "_law_chain", "_law_many", "_law_j"] "_law_are_chains" (defScope s__law_are_chains) f (.ref c2) A outer s H E).nox) (k := 7) TBL HTM HTU (by kernel_rfl) rfl rfl (LamX.lamS_by (sc := defScope s__law_are_chains) (by decide +kernel)) (fun _ _ _ _ _ _ => rfl) (fun A outer s H E f c' hrL => (pe_cmX XC_Book_chain (hrL.mono (by decide)) passM (pe_glob (v := V.ref C_Book) (by rfl) mg_Book (by rfl)) (pa_cons pe_int (pa_cons pe_int (pa_cons pe_int (pa_cons pe_str (pa_cons pe_str (pa_cons pe_str (pa_cons pe_str pa_nil)))))))))) pa_nil))) (pe_tup (pa_cons pe_str (pa_cons pe_int pa_nil))) (nomark _))
  (pss_one (ps_ret pe_bl))
  pss_nil)
  (C8.pss_cut (ps_if (pt_cmpR op_ne (pe_callB (cr_lenO LM_Book LF_Book (hr.mono (by decide)) pass0) (by rfl) T.b_len (by decide +kernel) (pa_cons (pe_cm CM_Book_chain (hr.mono (by decide)) (pe_glob (v := V.ref C_Book) rfl mg_Book rfl) (pa_cons pe_int (pa_cons pe_int (pa_cons pe_int (pa_cons pe_str pa_nil))))) pa_nil)) pe_int (nomark _))
  (pss_one (ps_ret pe_bl))
  pss_nil)
  (C8.pss_cut (ps_set (i := 2) sc__law_are_chains.nd rfl (Or.inr rfl) (pe_lc (own := [("_law_j", 3)]) (g := (gName 3)) (by rfl) sc__law_are_chains.nd (pi_range1 (by rfl) T.b_range (pa_cons pe_int pa_nil)) (blkOk_by (own := [("_law_j", 3)]) (N := ["_law_names", "_law_chain", "_law_many", "_law_j"]) (sc := defScope s__law_are_chains) (by decide +kernel)) (fun _ _ _ _ _ => (pg_name (i := 3) sc__law_are_chains.nd rfl (Or.inl rfl))) (fun _ _ _ _ _ => pts_nil) (fun _ _ _ _ _ => (pe_tup (pa_cons (pe_op op_add_str (pe_op op_add_str pe_str (pe_ix ix_str pe_str (pe_op op_mod (pe_callTy call_int1 (by rfl) T.b_int (by decide +kernel) (pa_cons (pv 3) pa_nil)) pe_int) (fun _ _ => rfl))) (pe_ix ix_str pe_str (pe_op op_fdiv (pv 3) pe_int) (fun _ _ => rfl))) (pa_cons pe_str (pa_cons pe_int (pa_cons pe_int (pa_cons pe_int pa_nil)))))))))
  (C8.pss_cut (ps_if (pt_cmpR (op_neD hr.units) (pe_lamC (k := 7) (ok_raised rfl rfl T) (hr.mono (by decide)) (by exact (pa_cons (pe_lamX (X := (cxOf CX0 P w K mg base ["_law_names", "_law_chain", "_law_many", "_law_j"] "_law_are_chains" (defScope s__law_are_chains) f (.ref c2) A outer s H E).nox) (k := 7) TBL HTM HTU (by kernel_rfl) rfl rfl (LamX.lamS_by (sc := defScope s__law_are_chains) (by decide +kernel)) (fun _ _ _ _ _ _ => rfl) (fun A outer s H E f c' hrL => (pe_op (op_ownR sf MX FX (hrL.mono (by decide)) passM) (pe_g G__law_book (hrL.mono (by decide)) (pa_cons (pv 2) pa_nil)) (pe_mkX G_Book (hrL.mono (by decide)) pass0 (pa_cons (pe_tup (pa_cons pe_str (pa_cons pe_str (pa_cons pe_int (pa_cons pe_int (pa_cons pe_int pa_nil)))))) pa_nil))))) pa_nil))) (pe_tup (pa_cons pe_str (pa_cons pe_int pa_nil))) (nomark _))
  (pss_one (ps_ret pe_bl))
  pss_nil)
  (pss_one (ps_ret pe_bl))))))))), ?_⟩
    let tl (v0 v1 v2 v3 : Option V) : L2.St := [v0, v1, v2, v3]
    refine ⟨fun σ' H' => Same H H' ∧ ∃ ln, H' ln = some (.lst [.str "a", .str "b", .str "c", .str "d"]) ∧ ∃ v1 v2 v3, σ' = tl (some (.ref ln)) v1 v2 v3, ?_, ?_⟩
    · refine ⟨(by show 4 ≤ sizeLine; decide), ?_⟩
      intro ln hln
      generalize gH1 : L2.upd _ ln _ = H1
      obtain ⟨s1, e1⟩ := newS hln gH1
      clear gH1
      exact ⟨s1, ln, e1, _, _, _, rfl⟩
    rintro σ H1 ⟨s1, ln, eln, w1, w2, w3, rfl⟩
    have T1 := LamX.Tabs.ext T0 s1
    refine ⟨fun σ' H' => Same H1 H' ∧ ∃ ck, BookAt K C_Book H' ck (chainL 3 9 2 ["a", "b", "c", "d"]) ∧ ∃ v2 v3, σ' = tl (some (.ref ln)) (some (.ref ck)) v2 v3, ?_, ?_⟩
    · have LX : ∀ {H' : Hp}, Same H1 H' → SqL K H' ln [V.str "a", V.str "b", V.str "c", V.str "d"] := fun s => SqL.of (s _ _ eln)
      refine ⟨rfl, _, rfl, ln, _, _, V.str "a", rfl, rfl, SqL.of eln, atI_nat (j := 0) rfl, _, rfl, ln, _, _, V.str "b", rfl, rfl, SqL.of eln, atI_nat (j := 1) rfl, _, rfl, ln, _, _, V.str "c", rfl, rfl, SqL.of eln, atI_nat (j := 2) rfl, _, rfl, ln, _, _, V.str "d", rfl, rfl, SqL.of eln, atI_nat (j := 3) rfl, ?_⟩
      refine ⟨3, 9, 2, ["a", "b", "c", "d"], rfl, by decide, by decide, chn_good, fun H2 ck s2 f2 B2 => ?_⟩
      exact ⟨s2, ck, B2, _, _, rfl⟩
    rintro σ H2 ⟨s2, ck, CB, w2, w3, rfl⟩
    have ec : chainL 3 9 2 ["a", "b", "c", "d"] = [⟨"a", "b", 3, 9, 2⟩, ⟨"b", "c", 3, 9, 2⟩, ⟨"c", "d", 3, 9, 2⟩] := by decide +kernel
    have s02 := s1.trans s2
    have LX : ∀ {H' : Hp}, Same H2 H' → SqL K H' ln [V.str "a", V.str "b", V.str "c", V.str "d"] := fun s => SqL.of (s _ _ (s2 _ _ eln))
    refine ⟨fun σ' H' => Same H H' ∧ ∃ v1 v2 v3, σ' = tl (some (.ref ln)) v1 v2 v3, ?_, ?_⟩
    · obtain ⟨dx, t, as, b1, b2, b3⟩ := id CB
      refine ⟨_, rfl, ck, dx, _, rfl, b1, ck, dx, t, rfl, b1, ?_⟩
      refine ⟨_, rfl, by decide, by decide, fun D hD => ?_⟩
      refine lc_it walk_range (fun i H' => Same H2 H' ∧ ∃ bs, H' D = some (.lst (bs.map V.ref)) ∧ OrdsAt K H' bs ((chainL 3 9 2 ["a", "b", "c", "d"]).take i)) ⟨Same.new hD, [], upd_same, .nil⟩ (fun _ _ _ _ => trivial) ?_ ?_
      · rintro i y Hx H4 hi ⟨s4, bs, e4, O4⟩ ⟨rfl, rfl⟩
        have hi3 : i = 0 ∨ i = 1 ∨ i = 2 := by
          have : i < 3 := hi
          omega
        have fin : ∀ (x z : Str), (chainL 3 9 2 ["a", "b", "c", "d"])[i]? = some ⟨x, z, 3, 9, 2⟩ → ∀ q, H4 q = none → ∃ acc, (upd H4 q (.tup [.str x, .str z, .int 3, .int 9, .int 2])) D = some (.lst acc) ∧ acc.length < sizeLine ∧ Same H2 (upd (upd H4 q (.tup [.str x, .str z, .int 3, .int 9, .int 2])) D (.lst (acc ++ [V.ref q]))) ∧ ∃ bs, (upd (upd H4 q (.tup [.str x, .str z, .int 3, .int 9, .int 2])) D (.lst (acc ++ [V.ref q]))) D = some (.lst (bs.map V.ref)) ∧ OrdsAt K (upd (upd H4 q (.tup [.str x, .str z, .int 3, .int 9, .int 2])) D (.lst (acc ++ [V.ref q]))) bs ((chainL 3 9 2 ["a", "b", "c", "d"]).take (i + 1)) := by
          intro x z eo q hq
          have lb := PySem.Paired.length O4
          rw [List.length_take, ec] at lb
          have nDq : D ≠ q := ne_of_none e4 hq
          have kk : ∀ b u, H4 b = some u → b ≠ D → (upd (upd H4 q (.tup [.str x, .str z, .int 3, .int 9, .int 2])) D (.lst (bs.map V.ref ++ [V.ref q]))) b = some u := fun b u e nb => by
            rw [upd_ne nb, upd_ne (ne_of_none e hq)]
            exact e
          refine ⟨_, by rw [upd_ne nDq]; exact e4, ?_, fun b u e => kk _ _ (s4 _ _ e) (ne_of_none e hD), bs ++ [q], by rw [upd_same, List.map_append]; rfl, ?_⟩
          · rw [List.length_map, lb, sizeLine_eq]
            omega
          · rw [List.take_add_one, eo]
            refine Paired.append (OrdsAt.keepR O4 fun b u e zz => kk b u e fun w => ?_) (.cons (.inl (.inl ?_)) .nil)
            · rw [w, e4] at e
              cases e
              cases zz
            · rw [upd_ne nDq.symm, upd_same]
              rfl
        rcases hi3 with rfl | rfl | rfl
        · refine ⟨rfl, yesT (iteT ⟨_, rfl, _, rfl, ln, _, _, V.str "a", rfl, rfl, LX s4, atI_nat (j := 0) rfl, _, rfl, _, rfl, _, _, rfl, rfl, ln, _, _, V.str "b", rfl, rfl, LX s4, atI_nat (j := 1) rfl, (by show 5 ≤ sizeLine; decide), ?_⟩)⟩
          exact fin _ _ rfl
        · refine ⟨rfl, yesT (iteT ⟨_, rfl, _, rfl, ln, _, _, V.str "b", rfl, rfl, LX s4, atI_nat (j := 1) rfl, _, rfl, _, rfl, _, _, rfl, rfl, ln, _, _, V.str "c", rfl, rfl, LX s4, atI_nat (j := 2) rfl, (by show 5 ≤ sizeLine; decide), ?_⟩)⟩
          exact fin _ _ rfl
        · refine ⟨rfl, yesT (iteT ⟨_, rfl, _, rfl, ln, _, _, V.str "c", rfl, rfl, LX s4, atI_nat (j := 2) rfl, _, rfl, _, rfl, _, _, rfl, rfl, ln, _, _, V.str "d", rfl, rfl, LX s4, atI_nat (j := 3) rfl, (by show 5 ≤ sizeLine; decide), ?_⟩)⟩
          exact fin _ _ rfl
      · rintro H3 ⟨s3, bs, e3, O3⟩
        refine ⟨D, _, rfl, .inl ⟨SqL.of e3, ?_⟩⟩
        intro q hq
        generalize gH4 : L2.upd _ q _ = H4
        obtain ⟨s4, e4⟩ := newS hq gH4
        clear gH4
        have O4 : OrdsAt K H4 bs (chainL 3 9 2 ["a", "b", "c", "d"]) := O3.mono s4
        have s34 := s3.trans s4
        have g3 := chn_good
        have dk : DK 2 (.tuple ((chainL 3 9 2 ["a", "b", "c", "d"]).map ordDK)) := .tuple (DK.map fun o ho => .ord (g3.ok o ho)) (by rw [List.length_map]; have := g3.len; omega)
        refine ⟨.tuple ((chainL 3 9 2 ["a", "b", "c", "d"]).map ordDK), .tuple ((chainL 3 9 2 ["a", "b", "c", "d"]).map ordDK), .tup (MF.Same.tup s34 b2) (dkOrds (b3.mono s34)), .tup (.inl (.inl e4)) (dkOrds O4), dk.shaped (by decide), dk.shaped (by decide), ?_⟩
        rw [show PyData.eqv (.tuple ((chainL 3 9 2 ["a", "b", "c", "d"]).map ordDK)) (.tuple ((chainL 3 9 2 ["a", "b", "c", "d"]).map ordDK)) = true from (eqvOrds _ _).trans (decide_eq_true rfl)]
        refine ⟨_, rfl, iteF ?_⟩
        obtain ⟨mc, u, r1, r2⟩ := T.v_Book_MAX_ORDERS
        refine ⟨C_Book, mc, _, u, rfl, r1, r2, rfl, _, rfl, ?_⟩
        exact iteND rfl ⟨s02.trans s34, _, _, _, rfl⟩
    clear s1 s2 T1 LX s02
    rintro σ H3 ⟨s3, w1, w2, w3, rfl⟩
    let S (H' : Hp) : Prop := LamX.Tabs TT H' ∧ LamX.ExtN H H'
    have SS : ∀ {H' H'' : Hp}, S H' → Same H' H'' → S H'' := fun z s => ⟨LamX.Tabs.ext z.1 s, z.2.trans (LamX.ExtN.of s)⟩
    have SN : ∀ {H' H'' : Hp}, S H' → LamX.ExtN H' H'' → LamX.Tabs TT H'' → S H'' := fun z e t => ⟨t, z.2.trans e⟩
    have S3 : S H3 := ⟨LamX.Tabs.ext T0 s3, LamX.ExtN.of s3⟩
    refine ⟨fun σ' H' => S H' ∧ ∃ v0 v1 v2 v3, σ' = tl v0 v1 v2 v3, ?_, ?_⟩
    · refine ⟨S3.1, fun f1 H11 x11 T11 fn1 L11 => ?_⟩
      have S11 := SN S3 x11 T11
      refine ⟨_, f1, rfl, L11, ?_⟩
      refine ⟨rfl, 3, 9, 2, ["a", "b", "a", "c"], 2, rfl, by decide, by decide, fun H' as O => chn_bad O, fun H15 cls d s15 e15 => ⟨.order (.int ((2 : Nat) : Int)), True.intro, e15, fun p H16 s16 fp ep => ?_⟩⟩
      refine ⟨(by show 2 ≤ sizeLine; decide), ?_⟩
      intro z hz
      generalize gH17 : L2.upd _ z _ = H17
      obtain ⟨s17, e17⟩ := newS hz gH17
      clear gH17
      have kd : DK 1 (.tuple [.str "order", .int 2]) := .tuple (.cons (.strk 0 (by decide +kernel)) (.cons (.int 0 _) .nil)) (by show 2 ≤ _; decide)
      refine ⟨.tuple [.str "order", .int 2], .tuple [.str "order", .int 2], .tup (.inl (.inl (s17 _ _ ep))) (.cons (.str _) (.cons (.int _) .nil)), .tup (.inl (.inl e17)) (.cons (.str _) (.cons (.int _) .nil)), kd.shaped (by decide), kd.shaped (by decide), ?_⟩
      refine ⟨_, rfl, iteF ?_⟩
      exact ⟨SS S11 ((s15.trans s16).trans s17), _, _, _, _, rfl⟩
    clear S3
    rintro σ H4 ⟨S4, w0, w1, w2, w3, rfl⟩
    refine ⟨fun σ' H' => S H' ∧ ∃ v0 v1 v2 v3, σ' = tl v0 v1 v2 v3, ?_, ?_⟩
    · refine ⟨rfl, 3, 9, 2, ["a"], rfl, by decide, by decide, (by rw [show chainL 3 9 2 ["a"] = [] from rfl]; exact ⟨by decide, (fun o ho => by cases ho), .nil⟩), fun H2 ck s2 f2 B2 => ?_⟩
      obtain ⟨dx, _, as, b1, b2, b3⟩ := id B2
      refine ⟨ck, dx, _, rfl, b1, ck, _, rfl, B2, _, rfl, by decide, ?_⟩
      exact ⟨rfl, _, rfl, iteND rfl ⟨SS S4 s2, _, _, _, _, rfl⟩⟩
    clear S4
    rintro σ H5 ⟨S5, w0, w1, w2, w3, rfl⟩
    refine ⟨fun σ' H' => S H' ∧ ∃ lm bs, SqL K H' lm (bs.map V.ref) ∧ OrdsAt K H' bs mnyL ∧ ∃ v0 v1 v3, σ' = tl v0 v1 (some (.ref lm)) v3, ?_, ?_⟩
    · refine ⟨_, rfl, by decide, by decide, fun D hD => ?_⟩
      refine lc_it walk_range (fun i H' => Same H5 H' ∧ ∃ bs, H' D = some (.lst (bs.map V.ref)) ∧ OrdsAt K H' bs (mnyL.take i)) ⟨Same.new hD, [], upd_same, .nil⟩ (fun _ _ _ _ => trivial) ?_ ?_
      · rintro i y Hx H6 hi ⟨s6, bs, e6, O6⟩ ⟨rfl, rfl⟩
        have hi3 : i < 30 := hi
        obtain ⟨m1, m2, m3, m4, m5, m6⟩ := mny_src i hi3
        rw [← Int.zero_add (i : Int)] at m3 m4
        have eo : mnyL[i]? = some (mnyO i) := by
          unfold mnyL
          rw [List.getElem?_map, List.getElem?_range hi3]
          rfl
        have lb := PySem.Paired.length O6
        rw [List.length_take] at lb
        refine ⟨rfl, yesT (iteT ⟨_, rfl, .inl ⟨_, rfl, _, _, rfl, rfl, (by show (0 : Int) < 10; decide), _, _, _, rfl, rfl, (by decide), m3, _, _, rfl, rfl, m5, ?_⟩⟩)⟩
        refine ⟨_, rfl, _, _, rfl, rfl, ⟨by decide, by decide⟩, _, _, _, rfl, rfl, (by decide), m4, _, _, rfl, rfl, m6, (by show 5 ≤ sizeLine; decide), ?_⟩
        intro q hq
        have nDq : D ≠ q := ne_of_none e6 hq
        have lb30 : bs.length ≤ 30 := by
          rw [lb]
          exact Nat.le_trans (Nat.min_le_left _ _) (by omega)
        have kk : ∀ b u, H6 b = some u → b ≠ D → (upd (upd H6 q (.tup (mnyO i).vals)) D (.lst (bs.map V.ref ++ [V.ref q]))) b = some u := fun b u e nb => by
          rw [upd_ne nb, upd_ne (ne_of_none e hq)]
          exact e
        refine ⟨_, by rw [upd_ne nDq]; exact e6, by rw [List.length_map, sizeLine_eq]; omega, fun b u e => kk _ _ (s6 _ _ e) (ne_of_none e hD), bs ++ [q], by rw [upd_same, List.map_append]; rfl, ?_⟩
        rw [List.take_add_one, eo]
        refine Paired.append (OrdsAt.keepR O6 fun b u e zz => kk b u e fun w => ?_) (.cons (.inl (.inl ?_)) .nil)
        · rw [w, e6] at e
          cases e
          cases zz
        · exact (upd_ne nDq.symm).trans upd_same
      · rintro H6 ⟨s6, bs, e6, O6⟩
        rw [show mnyL.take (Int.toNat 30) = mnyL from List.take_of_length_le (by decide)] at O6
        exact ⟨SS S5 s6, D, bs, SqL.of e6, O6, _, _, _, rfl⟩
    clear S5
    rintro σ H5 ⟨S5, lm, bs, elm, olm, w0, w1, w3, rfl⟩
    have ko : Ordr.Ok ⟨"b", "z", 0, 1, 1⟩ := ⟨(by show isAddrB (.str "b") = true; decide +kernel), (by show isAddrB (.str "z") = true; decide +kernel), (by show ("b" : Str) ≠ "z"; decide), (by show (0 : Int) ≤ 0; decide), (by show (0 : Int) ≤ 1; decide), (by show (1 : Int) ≤ _; decide), (by show (1 : Int) ≤ 1; decide), (by show (1 : Int) ≤ 30; decide)⟩
    refine ⟨fun σ' H' => S H' ∧ ∃ v0 v1 v2 v3, σ' = tl v0 v1 v2 v3, ?_, fun σ H6 z => k _ z.1.2 z.1.1⟩
    refine ⟨S5.1, fun f1 H11 x11 T11 fn1 L11 => ?_⟩
    have S11 := SN S5 x11 T11
    refine ⟨_, f1, rfl, L11, ?_⟩
    refine ⟨_, rfl, lm, bs, mnyL, rfl, sq_extN elm x11, ords_extN olm x11, mny_good, fun H12 b1 s12 fb1 B12 => ?_⟩
    refine ⟨(by show 5 ≤ sizeLine; decide), ?_⟩
    intro z1 hz1
    generalize gH13 : L2.upd _ z1 _ = H13
    obtain ⟨s13, e13⟩ := newS hz1 gH13
    clear gH13
    intro p4 dx4 hp4 hdx4 ne4
    have oz : OrdsAt K H13 [z1] [⟨"b", "z", 0, 1, 1⟩] := .cons (.inl (.inl e13)) .nil
    refine book_made' (as := [z1]) (os := [⟨"b", "z", 0, 1, 1⟩]) oz (Good.one ko) hp4 hdx4 ne4 (fun H14 s14 B14 => ⟨rfl, ?_⟩)
    have B12' := (B12.mono s13).mono s14
    obtain ⟨dx, t, cs, b1', b2, b3⟩ := id B12'
    obtain ⟨dy, u, ds, c1, c2, c3⟩ := id B14
    have l30 : mnyL.length = 30 := by decide
    refine ⟨b1, p4, dx, dy, _, _, rfl, rfl, b1', c1, b1, p4, mnyL, _, rfl, B12', B14, mny_good, ko, .inl l30, fun H15 cls d s15 e15 => ⟨.order (.int (mnyL.length : Nat)), True.intro, e15, fun p H16 s16 fp ep => ?_⟩⟩
    have S16 := SS (SS (SS (SS (SS S11 s12) s13) s14) s15) s16
    refine ⟨(by show 2 ≤ sizeLine; decide), ?_⟩
    intro z hz
    generalize gH17 : L2.upd _ z _ = H17
    obtain ⟨s17, e17⟩ := newS hz gH17
    clear gH17
    rw [l30] at ep
    have kd : DK 1 (.tuple [.str "order", .int 30]) := .tuple (.cons (.strk 0 (by decide +kernel)) (.cons (.int 0 _) .nil)) (by show 2 ≤ _; decide)
    refine ⟨.tuple [.str "order", .int 30], .tuple [.str "order", .int 30], .tup (.inl (.inl (s17 _ _ ep))) (.cons (.str _) (.cons (.int _) .nil)), .tup (.inl (.inl e17)) (.cons (.str _) (.cons (.int _) .nil)), kd.shaped (by decide), kd.shaped (by decide), ?_⟩
    refine ⟨_, rfl, iteF ?_⟩
    exact ⟨SS S16 s17, _, _, _, _, rfl⟩
end

end MF
set_option Elab.async false
set_option linter.all false
set_option maxRecDepth 100000
set_option maxHeartbeats 2000000
set_option pp.maxSteps 600
namespace MF
open PySem PySem.Spec PyProof.Rows L2 StX
section
variable {P : Program} {w : World} {K : PySem.W.Frag} {mg : Str → Option Value} {base : Heap} {C_Book C_MailError C_InvalidOrder C_UnknownOrder C_InvalidAddress C_InvalidDay C_InvalidNumber : Addr}
theorem mv_back {n : Int} {os : List Ordr} : (os.map (mvO n)).map (mvO (0 - n)) = os := by
  rw [List.map_map]
  refine (List.map_congr_left fun o _ => ?_).trans (List.map_id os)
  show (⟨o.src, o.tgt, o.first + n + (0 - n), o.last + n + (0 - n), o.way⟩ : Ordr) = o
  rw [show o.first + n + (0 - n) = o.first by omega, show o.last + n + (0 - n) = o.last by omega]
theorem lessF_len {α : Type} (is : List Nat) : ∀ (n : Nat) (l : List α), (lessF is n l).length ≤ l.length
  | _, [] => Nat.le_refl _
  | n, a :: l => by
    have := lessF_len is (n + 1) l
    unfold lessF
    split
    · rw [List.length_cons]; omega
    · rw [List.length_cons, List.length_cons]; omega
theorem lessF_mem {α : Type} {is : List Nat} {o : α} : ∀ {n : Nat} {l : List α}, o ∈ lessF is n l → o ∈ l
  | _, [], h => h
  | n, a :: l, h => by
    unfold lessF at h
    split at h
    · exact List.mem_cons_of_mem _ (lessF_mem h)
    · rcases List.mem_cons.mp h with z | z
      · rw [z]; exact List.mem_cons_self
      · exact List.mem_cons_of_mem _ (lessF_mem z)
def earL (os : List Ordr) (b : Int) (n : Nat) : List Nat := (List.range n).filter fun j => decide (((os[j]?).map (·.first)).getD b < b)
theorem earL_succ {os : List Ordr} {b : Int} {n : Nat} {o : Ordr} (e : os[n]? = some o) : earL os b (n + 1) = earL os b n ++ if o.first < b then [n] else [] := by
  unfold earL
  rw [List.range_succ, List.filter_append]
  congr 1
  by_cases c : o.first < b
  · rw [if_pos c]; simp [e, c]
  · rw [if_neg c]; simp [e, c]
theorem earL_len (os : List Ordr) (b : Int) (n : Nat) : (earL os b n).length ≤ n := by
  unfold earL
  refine Nat.le_trans (List.length_filter_le _ _) ?_
  simp
theorem earL_early {os : List Ordr} {b : Int} {j : Nat} {rest : List Nat} (e : earL os b os.length = j :: rest) : Early os (0 - b) j := by
  have mem : ∀ i, i ∈ earL os b os.length ↔ ∃ o, os[i]? = some o ∧ o.first < b := fun i => by
    unfold earL
    rw [List.mem_filter, List.mem_range]
    constructor
    · rintro ⟨h1, h2⟩
      refine ⟨os[i], by simp [h1], ?_⟩
      simpa [h1] using h2
    · rintro ⟨o, h1, h2⟩
      exact ⟨(List.getElem?_eq_some_iff.mp h1).1, by simp [h1, h2]⟩
  have pw : (earL os b os.length).Pairwise (· < ·) := List.Pairwise.filter _ List.pairwise_lt_range
  rw [e] at pw mem
  obtain ⟨o, eo, lo⟩ := (mem j).mp List.mem_cons_self
  refine ⟨⟨o, eo, by omega⟩, fun i q hi ei => ?_⟩
  by_cases c : q.first < b
  · have := (mem i).mpr ⟨q, ei, c⟩
    rcases List.mem_cons.mp this with z | z
    · omega
    · have := (List.pairwise_cons.mp pw).1 i z
      omega
  · omega
theorem ok_law (T : Top K mg C_Book C_MailError C_InvalidOrder C_UnknownOrder C_InvalidAddress C_InvalidDay C_InvalidNumber) (sf : PySem.W.selfFirst K C_Book = true) {f : Addr} {fd : FuncData} {cL PL : Addr} (F : FunC K "law" "law" s_law f fd cL) (TBL : LamX.TabB base mg cL PL)
    {c1 P1 : Addr} (D1 : GDefC K mg "_law_is_book" s__law_is_book ["_law_book_here", "_law_orders_here"] c1) (TBL1 : LamX.TabB base mg c1 P1)
    {c2 P2 : Addr} (D2 : GDefC K mg "_law_are_rejected" s__law_are_rejected ["_law_orders_here"] c2) (TBL2 : LamX.TabB base mg c2 P2)
    {c3 P3 : Addr} (D3 : GDefC K mg "_law_are_chains" s__law_are_chains [] c3) (TBL3 : LamX.TabB base mg c3 P3)
    (h12 : P1 ≠ P2) (h13 : P1 ≠ P3) (h1L : P1 ≠ PL) (h23 : P2 ≠ P3) (h2L : P2 ≠ PL) (h3L : P3 ≠ PL) : FnOk P w K mg base CX0 11 f fd ["_law_script"] (spLawT K [P1, P2, P3, PL]) := by
  let TT : List (Addr × Str) := [(P1, isQ), (P2, rejQ), (P3, chnQ), (PL, lawQ)]
  have mem4 : ∀ {p : Addr × Str}, p ∈ TT → p = (P1, isQ) ∨ p = (P2, rejQ) ∨ p = (P3, chnQ) ∨ p = (PL, lawQ) := fun {p} hp => by
    simpa [TT] using hp
  have HTM1 : (P1, isQ) ∈ TT := by simp [TT]
  have HTM2 : (P2, rejQ) ∈ TT := by simp [TT]
  have HTM3 : (P3, chnQ) ∈ TT := by simp [TT]
  have HTM : (PL, lawQ) ∈ TT := by simp [TT]
  have HTU1 : ∀ p ∈ TT, p.1 = P1 → p.2 = isQ := fun p hp h => by
    rcases mem4 hp with rfl | rfl | rfl | rfl
    · rfl
    · exact absurd h.symm h12
    · exact absurd h.symm h13
    · exact absurd h.symm h1L
  have HTU2 : ∀ p ∈ TT, p.1 = P2 → p.2 = rejQ := fun p hp h => by
    rcases mem4 hp with rfl | rfl | rfl | rfl
    · exact absurd h h12
    · rfl
    · exact absurd h.symm h23
    · exact absurd h.symm h2L
  have HTU3 : ∀ p ∈ TT, p.1 = P3 → p.2 = chnQ := fun p hp h => by
    rcases mem4 hp with rfl | rfl | rfl | rfl
    · exact absurd h h13
    · exact absurd h h23
    · rfl
    · exact absurd h.symm h3L
  have HTU : ∀ p ∈ TT, p.1 = PL → p.2 = lawQ := fun p hp h => by
    rcases mem4 hp with rfl | rfl | rfl | rfl
    · exact absurd h h1L
    · exact absurd h h2L
    · exact absurd h h3L
    · rfl
  have G__law_taken : GFn P w K mg base CX0 1 "_law_taken" (spTaken K) := ok_taken T
  have G__law_book : GFn P w K mg base CX0 7 "_law_book" (spLawBook K C_Book) := ok_law_book T sf
  have G__law_orders : GFn P w K mg base CX0 2 "_law_orders" (spOrders K) := ok_orders T
  have G__law_is_book := ok_is_book (P := P) (w := w) T HTM1 HTU1 D1 TBL1
  have G__law_are_rejected := ok_rejected (P := P) (w := w) T sf HTM2 HTU2 D2 TBL2
  have G__law_are_chains := ok_chains (P := P) (w := w) T sf HTM3 HTU3 D3 TBL3
  have PR_Book_orders : PFn P w K mg base CX0 1 C_Book "orders" (spBookOrders C_Book) := ok_book_orders T
  have M_Book_without : MFn P w K mg base CX0 6 C_Book "without" (spWithoutN K C_Book) := ok_withoutN T
  obtain ⟨fs_, Fs, Ms⟩ := (ok_shift (P := P) (w := w) (base := base) T).ex
  obtain ⟨fx_, Fx, Mx⟩ := (okX_shift (P := P) (w := w) (base := base) T).ex
  obtain ⟨fa, Fa, Ma⟩ := (ok_Book_add (P := P) (w := w) (base := base) T).ex
  obtain ⟨fe, Fe, Me⟩ := (ok_book_eq (P := P) (w := w) (base := base) T).ex
  refine F.ok sc_law (fun vs H Q E h => ?_) (fun A outer s H vs Q E hr h => ?_)
  · obtain ⟨a, ns, rfl, _⟩ := h
    rfl
  · obtain ⟨a, ns, rfl, hS, hlen, hP, k⟩ := h
    refine ⟨_, (pss_cons (ps_set (i := 1) sc_law.nd rfl (Or.inl rfl) (pe_lst (pa_cons (pv 0) (pa_cons pe_int (pa_cons pe_int (pa_cons pe_int pa_nil))))))
  (C8.pss_cut (ps_asg (pe_tup (pa_cons (pe_g G__law_orders (hr.mono (by decide)) (pa_cons (pv 1) (pa_cons pe_int (pa_cons pe_int pa_nil)))) (pa_cons (pe_g G__law_orders (hr.mono (by decide)) (pa_cons (pv 1) (pa_cons pe_int (pa_cons pe_int pa_nil)))) pa_nil))) (pg_tup rfl (pgs_cons (pg_name (i := 2) sc_law.nd rfl (Or.inr rfl)) (pgs_cons (pg_name (i := 3) sc_law.nd rfl (Or.inl rfl)) pgs_nil))))
  (C8.pss_cut (ps_asg (pe_tup (pa_cons (pe_g G__law_book (hr.mono (by decide)) (pa_cons (pv 2) pa_nil)) (pa_cons (pe_g G__law_book (hr.mono (by decide)) (pa_cons (pv 3) pa_nil)) (pa_cons (pe_g G__law_taken (hr.mono (by decide)) (pa_cons (pv 1) (pa_cons pe_int pa_nil))) pa_nil)))) (pg_tup rfl (pgs_cons (pg_name (i := 14) sc_law.nd rfl (Or.inr rfl)) (pgs_cons (pg_name (i := 4) sc_law.nd rfl (Or.inl rfl)) (pgs_cons (pg_name (i := 5) sc_law.nd rfl (Or.inr rfl)) pgs_nil)))))
  (C8.pss_cut (ps_setLc (i := 6) (own := [("_law_a", 15), ("_law_b", 16), ("_law_first", 17), ("_law_last", 18), ("_law_way", 19)]) (g := (gTup K 5 (gCons (gName 15) (gCons (gName 16) (gCons (gName 17) (gCons (gName 18) (gCons (gName 19) gNil))))))) (by rfl) sc_law.nd rfl rfl (sw_true rfl rfl rfl (by decide +kernel)) (pi_list (pv 2)) (blkOk_by (own := [("_law_a", 15), ("_law_b", 16), ("_law_first", 17), ("_law_last", 18), ("_law_way", 19)]) (N := ["_law_script", "_law_row", "_law_orders_here", "_law_others", "_law_other", "_law_days", "_law_later", "_law_high", "_law_behind", "_law_early", "_law_k", "_law_less", "_law_back", "_law_bad", "_law_one", "_law_a", "_law_b", "_law_first", "_law_last", "_law_way", "_law_order", "_law_j"]) (sc := defScope s_law) (by decide +kernel)) (fun _ _ _ _ _ => (pg_tup rfl (pgs_cons (pg_name (i := 15) sc_law.nd rfl (Or.inl rfl)) (pgs_cons (pg_name (i := 16) sc_law.nd rfl (Or.inl rfl)) (pgs_cons (pg_name (i := 17) sc_law.nd rfl (Or.inl rfl)) (pgs_cons (pg_name (i := 18) sc_law.nd rfl (Or.inl rfl)) (pgs_cons (pg_name (i := 19) sc_law.nd rfl (Or.inl rfl)) pgs_nil))))))) (fun _ _ _ _ _ => pts_nil) (fun _ _ _ _ _ => (pe_tup (pa_cons (pv 15) (pa_cons (pv 16) (pa_cons (pe_op op_add (pv 17) (pv 5)) (pa_cons (pe_op op_add (pv 18) (pv 5)) (pa_cons (pv 19) pa_nil))))))))
  (C8.pss_cut (ps_if (PW.pt (pw_or (pt_not (pt_val (pe_g G__law_is_book (hr.mono (by decide)) (pa_cons (pv 14) (pa_cons (pv 2) pa_nil))))) (pw_or (pt_not (pt_val (pe_g G__law_is_book (hr.mono (by decide)) (pa_cons (pe_op (op_ownI sf Ms T.n_Book___rrshift__ Fs (hr.mono (by decide)) pass0) (pv 14) (pv 5)) (pa_cons (pv 6) pa_nil))))) (pw_or1 (pt_cmpR (op_neO T.ow_Book Me Fe (hr.mono (by decide)) pass0) (pe_op (op_ownI sf Ms T.n_Book___rrshift__ Fs (hr.mono (by decide)) pass0) (pe_op (op_ownI sf Ms T.n_Book___rrshift__ Fs (hr.mono (by decide)) pass0) (pv 14) (pv 5)) (pe_op op_sub pe_int (pv 5))) (pv 14) (nomark _))))))
  (pss_one (ps_ret pe_bl))
  pss_nil)
  (C8.pss_cut (ps_set (i := 7) sc_law.nd rfl (Or.inr rfl) (pe_op op_add (pe_callB (cr_max rfl) (by rfl) T.b_max (by decide +kernel) (pa_cons (pe_op op_cat (pe_lc (own := [("_law_order", 20)]) (g := (gName 20)) (by rfl) sc_law.nd (pi_list (pv 2)) (blkOk_by (own := [("_law_order", 20)]) (N := ["_law_script", "_law_row", "_law_orders_here", "_law_others", "_law_other", "_law_days", "_law_later", "_law_high", "_law_behind", "_law_early", "_law_k", "_law_less", "_law_back", "_law_bad", "_law_one", "_law_a", "_law_b", "_law_first", "_law_last", "_law_way", "_law_order", "_law_j"]) (sc := defScope s_law) (by decide +kernel)) (fun _ _ _ _ _ => (pg_name (i := 20) sc_law.nd rfl (Or.inl rfl))) (fun _ _ _ _ _ => pts_nil) (fun _ _ _ _ _ => (pe_ix (ix_tupK (K := K)) (pv 20) pe_int (fun _ _ => rfl)))) (pe_lst (pa_cons pe_int pa_nil))) pa_nil)) pe_int))
  (C8.pss_cut (ps_setLc (i := 8) (own := [("_law_a", 15), ("_law_b", 16), ("_law_first", 17), ("_law_last", 18), ("_law_way", 19)]) (g := (gTup K 5 (gCons (gName 15) (gCons (gName 16) (gCons (gName 17) (gCons (gName 18) (gCons (gName 19) gNil))))))) (by rfl) sc_law.nd rfl rfl (sw_true rfl rfl rfl (by decide +kernel)) (pi_list (pv 3)) (blkOk_by (own := [("_law_a", 15), ("_law_b", 16), ("_law_first", 17), ("_law_last", 18), ("_law_way", 19)]) (N := ["_law_script", "_law_row", "_law_orders_here", "_law_others", "_law_other", "_law_days", "_law_later", "_law_high", "_law_behind", "_law_early", "_law_k", "_law_less", "_law_back", "_law_bad", "_law_one", "_law_a", "_law_b", "_law_first", "_law_last", "_law_way", "_law_order", "_law_j"]) (sc := defScope s_law) (by decide +kernel)) (fun _ _ _ _ _ => (pg_tup rfl (pgs_cons (pg_name (i := 15) sc_law.nd rfl (Or.inl rfl)) (pgs_cons (pg_name (i := 16) sc_law.nd rfl (Or.inl rfl)) (pgs_cons (pg_name (i := 17) sc_law.nd rfl (Or.inl rfl)) (pgs_cons (pg_name (i := 18) sc_law.nd rfl (Or.inl rfl)) (pgs_cons (pg_name (i := 19) sc_law.nd rfl (Or.inl rfl)) pgs_nil))))))) (fun _ _ _ _ _ => pts_nil) (fun _ _ _ _ _ => (pe_tup (pa_cons (pv 15) (pa_cons (pv 16) (pa_cons (pe_op op_add (pv 17) (pv 7)) (pa_cons (pe_op op_add (pv 18) (pv 7)) (pa_cons (pv 19) pa_nil))))))))
  (C8.pss_cut (ps_if (pt_not (pt_val (pe_g G__law_is_book (hr.mono (by decide)) (pa_cons (pe_op (op_ownR sf Ma Fa (hr.mono (by decide)) pass0) (pv 14) (pe_op (op_ownI sf Ms T.n_Book___rrshift__ Fs (hr.mono (by decide)) pass0) (pv 4) (pv 7))) (pa_cons (pe_op op_cat (pv 2) (pv 8)) pa_nil)))))
  (pss_one (ps_ret pe_bl))
  pss_nil)
  (C8.pss_cut (ps_if (PW.pt (pw_or (pt_cmpR op_ne (pe_cmpR (op_eqO Me Fe (hr.mono (by decide)) pass0) (pv 14) (pv 4) (nomark _)) (pe_cmpR (op_eqD hr.units) (pv 2) (pv 3) (nomark _)) (nomark _)) (pw_or (pt_cmpR (op_eqO Me Fe (hr.mono (by decide)) pass0) (pv 14) (pe_callTy call_tuple_of (by rfl) T.b_tuple (by decide +kernel) (pa_cons (pv 2) pa_nil)) (nomark _)) (pw_or1 (pt_cmpR (op_neO T.ow_Book Me Fe (hr.mono (by decide)) pass0) (pv 14) (pe_g G__law_book (hr.mono (by decide)) (pa_cons (pv 2) pa_nil)) (nomark _))))))
  (pss_one (ps_ret pe_bl))
  pss_nil)
  (C8.pss_cut (ps_set (i := 12) sc_law.nd rfl (Or.inr rfl) (pe_op op_add pe_int (pe_g G__law_taken (hr.mono (by decide)) (pa_cons (pv 1) (pa_cons pe_int pa_nil)))))
  (C8.pss_cut (ps_setLc (i := 9) (own := [("_law_j", 21)]) (g := (gName 21)) (by rfl) sc_law.nd rfl rfl (sw_true rfl rfl rfl (by decide +kernel)) (pi_range1 (by rfl) T.b_range (pa_cons (pe_callB call_len_seq (by rfl) T.b_len (by decide +kernel) (pa_cons (pv 2) pa_nil)) pa_nil)) (blkOk_by (own := [("_law_j", 21)]) (N := ["_law_script", "_law_row", "_law_orders_here", "_law_others", "_law_other", "_law_days", "_law_later", "_law_high", "_law_behind", "_law_early", "_law_k", "_law_less", "_law_back", "_law_bad", "_law_one", "_law_a", "_law_b", "_law_first", "_law_last", "_law_way", "_law_order", "_law_j"]) (sc := defScope s_law) (by decide +kernel)) (fun _ _ _ _ _ => (pg_name (i := 21) sc_law.nd rfl (Or.inl rfl))) (fun _ _ _ _ _ => (pts_one (pt_cmpR op_lt (pe_ix (ix_tupK (K := K)) (pe_ix (ix_listK (K := K)) (pv 2) (pv 21) (fun _ _ => rfl)) pe_int (fun _ _ => rfl)) (pv 12) (nomark _)))) (fun _ _ _ _ _ => (pv 21)))
  (C8.pss_cut (ps_if (PW.pt (pw_and (pt_cmpR (op_neD hr.units) (pv 9) (pe_lst pa_nil) (nomark _)) (pw_and1 (pt_cmpR (op_neD hr.units) (pe_lamC (k := 7) (ok_raised rfl rfl T) (hr.mono (by decide)) (by exact (pa_cons (pe_lamX (X := (cxOf CX0 P w K mg base ["_law_script", "_law_row", "_law_orders_here", "_law_others", "_law_other", "_law_days", "_law_later", "_law_high", "_law_behind", "_law_early", "_law_k", "_law_less", "_law_back", "_law_bad", "_law_one", "_law_a", "_law_b", "_law_first", "_law_last", "_law_way", "_law_order", "_law_j"] "law" (defScope s_law) f (.ref cL) A outer s H E).nox) (k := 7) TBL HTM HTU (by kernel_rfl) rfl rfl (LamX.lamS_by (sc := defScope s_law) (by decide +kernel)) (fun _ _ _ _ _ _ => rfl) (fun A outer s H E f c' hrL => (pe_op (op_ownV sf Mx T.n_Book___rrshift__ Fx (hrL.mono (by decide)) passM) (pv 14) (pe_op op_sub pe_int (pv 12))))) pa_nil))) (pe_tup (pa_cons pe_str (pa_cons (pe_ix ix_list (pv 9) pe_int (fun _ _ => rfl)) pa_nil))) (nomark _)))))
  (pss_one (ps_ret pe_bl))
  pss_nil)
  (C8.pss_cut (ps_for PassesOwn.never rfl (pi_tup (pe_tup (pa_cons (pe_op op_add (pe_op op_pow pe_int pe_int) pe_int) (pa_cons (pe_op op_sub (pe_op op_sub pe_int (pe_op op_pow pe_int pe_int)) pe_int) (pa_cons pe_non (pa_cons pe_bl pa_nil)))))) (pg_name (i := 13) sc_law.nd rfl (Or.inr rfl))
  (pss_one (ps_if (pt_cmpR (op_neD hr.units) (pe_lamC (k := 7) (ok_raised rfl rfl T) (hr.mono (by decide)) (by exact (pa_cons (pe_lamX (X := (cxOf CX0 P w K mg base ["_law_script", "_law_row", "_law_orders_here", "_law_others", "_law_other", "_law_days", "_law_later", "_law_high", "_law_behind", "_law_early", "_law_k", "_law_less", "_law_back", "_law_bad", "_law_one", "_law_a", "_law_b", "_law_first", "_law_last", "_law_way", "_law_order", "_law_j"] "law" (defScope s_law) f (.ref cL) A outer s H E).nox) (k := 7) TBL HTM HTU (by kernel_rfl) rfl rfl (LamX.lamS_by (sc := defScope s_law) (by decide +kernel)) (fun _ _ _ _ _ _ => rfl) (fun A outer s H E f c' hrL => (pe_op (op_ownV sf Mx T.n_Book___rrshift__ Fx (hrL.mono (by decide)) passM) (pv 14) (pv 13)))) pa_nil))) (pe_tup (pa_cons pe_str pa_nil)) (nomark _))
  (pss_one (ps_ret pe_bl))
  pss_nil)))
  (C8.pss_cut (ps_set (i := 10) sc_law.nd rfl (Or.inr rfl) (pe_g G__law_taken (hr.mono (by decide)) (pa_cons (pv 1) (pa_cons (pe_op op_add (pe_callB call_len_seq (by rfl) T.b_len (by decide +kernel) (pa_cons (pv 2) pa_nil)) pe_int) pa_nil))))
  (C8.pss_cut (ps_setLc (i := 11) (own := [("_law_j", 21)]) (g := (gName 21)) (by rfl) sc_law.nd rfl rfl (sw_true rfl rfl rfl (by decide +kernel)) (pi_range1 (by rfl) T.b_range (pa_cons (pe_callB call_len_seq (by rfl) T.b_len (by decide +kernel) (pa_cons (pv 2) pa_nil)) pa_nil)) (blkOk_by (own := [("_law_j", 21)]) (N := ["_law_script", "_law_row", "_law_orders_here", "_law_others", "_law_other", "_law_days", "_law_later", "_law_high", "_law_behind", "_law_early", "_law_k", "_law_less", "_law_back", "_law_bad", "_law_one", "_law_a", "_law_b", "_law_first", "_law_last", "_law_way", "_law_order", "_law_j"]) (sc := defScope s_law) (by decide +kernel)) (fun _ _ _ _ _ => (pg_name (i := 21) sc_law.nd rfl (Or.inl rfl))) (fun _ _ _ _ _ => (pts_one (pt_cmpR (op_notIn_seqK (K := K)) (pv 21) (pe_tup (pa_cons (pv 10) (pa_cons pe_int pa_nil))) rfl))) (fun _ _ _ _ _ => (pe_ix (ix_listK (K := K)) (pv 2) (pv 21) (fun _ _ => rfl))))
  (C8.pss_cut (ps_if (PW.pt (pw_and (pt_cmpR (op_neD hr.units) (pv 2) (pe_lst pa_nil) (nomark _)) (pw_and (pt_cmpR op_lt (pv 10) (pe_callB call_len_seq (by rfl) T.b_len (by decide +kernel) (pa_cons (pv 2) pa_nil)) (nomark _)) (pw_and1 (pt_cmpR (op_neD hr.units) (pe_pr PR_Book_orders T.cl_Book (hr.mono (by decide)) (pe_m M_Book_without T.cl_Book (hr.mono (by decide)) (pv 14) (pa_cons (pv 10) (pa_cons pe_int pa_nil)))) (pe_callTy call_tuple_of (by rfl) T.b_tuple (by decide +kernel) (pa_cons (pv 11) pa_nil)) (nomark _))))))
  (pss_one (ps_ret pe_bl))
  pss_nil)
  (pss_one (ps_ret (pe_and (pe_g0X G__law_are_chains (hr.mono (by decide)) pass0) (pe_one (pe_g G__law_are_rejected (hr.mono (by decide)) (pa_cons (pv 2) pa_nil)))))))))))))))))))))), ?_⟩
    refine ⟨_, rfl, (by show 4 ≤ sizeLine; decide), fun rw hrw => ?_⟩
    have R0 := row_new hS hrw
    have s0 : Same H (upd H rw (.lst [.ref a, .int 0, .int 0, .int 0])) := Same.new hrw
    have T0 : LamX.Tabs TT (upd H rw (.lst [.ref a, .int 0, .int 0, .int 0])) := fun p hp => by
      rcases mem4 hp with rfl | rfl | rfl | rfl
      · exact LamX.TabS.nil (s0 _ _ (hP P1 (by simp)))
      · exact LamX.TabS.nil (s0 _ _ (hP P2 (by simp)))
      · exact LamX.TabS.nil (s0 _ _ (hP P3 (by simp)))
      · exact LamX.TabS.nil (s0 _ _ (hP PL (by simp)))
    generalize upd H rw _ = H1 at R0 s0 T0
    let tl (v2 v3 v4 v5 v6 v7 v8 v9 v10 v11 v12 v13 v14 v15 v16 v17 v18 v19 v20 v21 : Option V) : L2.St := [some (.ref a), some (.ref rw), v2, v3, v4, v5, v6, v7, v8, v9, v10, v11, v12, v13, v14, v15, v16, v17, v18, v19, v20, v21]
    clear hP
    refine ⟨fun σ' H' => RowAt K H' rw a ns ∧ LamX.Tabs TT H' ∧ ∃ l as os l' as' os', H' l = some (.lst (as.map V.ref)) ∧ OrdsAt K H' as os ∧ DrawnOs 8 30 os ∧ l ≠ rw ∧ H' l' = some (.lst (as'.map V.ref)) ∧ OrdsAt K H' as' os' ∧ DrawnOs 8 30 os' ∧ l' ≠ rw ∧ ∃ v4 v5 v6 v7 v8 v9 v10 v11 v12 v13 v14 v15 v16 v17 v18 v19 v20 v21, σ' = tl (some (.ref l)) (some (.ref l')) v4 v5 v6 v7 v8 v9 v10 v11 v12 v13 v14 v15 v16 v17 v18 v19 v20 v21, ?_, ?_⟩
    · refine ⟨_, rfl, rw, a, ns, 8, 30, rfl, R0, by decide, by decide, by decide, fun H2 l1 as1 os1 k2 f1 R2 e1 o1 D1 => ?_⟩
      have T2 := tabs_keepR R0 T0 k2
      have n1 := row_nil R0 f1
      refine ⟨_, rfl, rw, a, ns, 8, 30, rfl, R2, by decide, by decide, by decide, fun H3 l2 as2 os2 k3 f2 R3 e2 o2 D2 => ?_⟩
      have T3 := tabs_keepR R2 T2 k3
      have n2 := row_nil R2 f2
      have e1' := k3 _ _ e1 n1
      have o1' := o1.keepR (k3.tup R2)
      refine ⟨(by show 2 ≤ sizeLine; decide), ?_⟩
      intro t ht
      generalize gH4 : L2.upd _ t _ = H4
      obtain ⟨s4, e4⟩ := newS ht gH4
      clear gH4
      refine ⟨t, _, rfl, .inl (.inl e4), rfl, _, _, rfl, _, _, rfl, rfl, ?_⟩
      exact ⟨R3.keep s4, T3.ext s4, l1, as1, os1, l2, as2, os2, s4 _ _ e1', o1'.mono s4, D1, n1, s4 _ _ e2, o2.mono s4, D2, n2, _, _, _, _, _, _, _, _, _, _, _, _, _, _, _, _, _, _, rfl⟩
    clear R0 T0
    rintro σ H1 ⟨R1, T1, l, as, os, l', as', os', hl, ol, D, nl, hl', ol', D', nl', w4, w5, w6, w7, w8, w9, w10, w11, w12, w13, w14, w15, w16, w17, w18, w19, w20, w21, rfl⟩
    have g := D.good
    have g' := D'.good
    have lo := PySem.Paired.length ol
    have lo' := PySem.Paired.length ol'
    have d8 := D.len
    have d8' := D'.len
    have ln : (as.map V.ref).length = os.length := by rw [List.length_map, lo]
    let S (H' : Hp) (bk bk' : Addr) : Prop := RowAt K H' rw a ns ∧ LamX.Tabs TT H' ∧ BookAt K C_Book H' bk os ∧ bk ≠ rw ∧ H' l = some (.lst (as.map V.ref)) ∧ OrdsAt K H' as os ∧ BookAt K C_Book H' bk' os' ∧ bk' ≠ rw ∧ H' l' = some (.lst (as'.map V.ref)) ∧ OrdsAt K H' as' os'
    have SS : ∀ {bk bk' : Addr} {H' H'' : Hp}, S H' bk bk' → Same H' H'' → S H'' bk bk' := fun ⟨z1, z2, z3, z4, z5, z6, z7, z8, z9, z10⟩ s => ⟨z1.keep s, z2.ext s, z3.mono s, z4, s _ _ z5, z6.mono s, z7.mono s, z8, s _ _ z9, z10.mono s⟩
    have SR : ∀ {bk bk' : Addr} {H' H'' : Hp}, S H' bk bk' → RowAt K H'' rw a ns → KeepR rw H' H'' → S H'' bk bk' := fun ⟨z1, z2, z3, z4, z5, z6, z7, z8, z9, z10⟩ r k => ⟨r, tabs_keepR z1 z2 k, z3.keepR z4 z1 k, z4, k _ _ z5 nl, z6.keepR (KeepR.tup k z1), z7.keepR z8 z1 k, z8, k _ _ z9 nl', z10.keepR (KeepR.tup k z1)⟩
    have SN : ∀ {bk bk' : Addr} {H' H'' : Hp}, S H' bk bk' → LamX.ExtN H' H'' → LamX.Tabs TT H'' → S H'' bk bk' := fun ⟨z1, z2, z3, z4, z5, z6, z7, z8, z9, z10⟩ e t => ⟨row_extN z1 e, t, book_extN z3 e, z4, e _ _ z5 (fun ps z => by cases z), ords_extN z6 e, book_extN z7 e, z8, e _ _ z9 (fun ps z => by cases z), ords_extN z10 e⟩
    refine ⟨fun σ' H' => ∃ bk bk', ∃ n : Int, S H' bk bk' ∧ 0 ≤ n ∧ n < 100 ∧ ∃ v6 v7 v8 v9 v10 v11 v12 v13 v15 v16 v17 v18 v19 v20 v21, σ' = tl (some (.ref l)) (some (.ref l')) (some (.ref bk')) (some (.int n)) v6 v7 v8 v9 v10 v11 v12 v13 (some (.ref bk)) v15 v16 v17 v18 v19 v20 v21, ?_, ?_⟩
    · refine ⟨_, rfl, l, as, os, rfl, SqL.of hl, ol, g, fun H2 bk s2 f2 B2 => ?_⟩
      refine ⟨_, rfl, l', as', os', rfl, SqL.of (s2 _ _ hl'), ol'.mono s2, g', fun H3 bk' s3 f3 B3 => ?_⟩
      have s23 := s2.trans s3
      have n2 := row_nil R1 f2
      have n3 := row_nil (R1.keep s2) f3
      have R3 := R1.keep s23
      have S3 : S H3 bk bk' := ⟨R3, T1.ext s23, B2.mono s3, n2, s23 _ _ hl, ol.mono s23, B3, n3, s23 _ _ hl', ol'.mono s23⟩
      refine ⟨_, rfl, rw, a, ns, 100, rfl, R3, by decide, by decide, fun n H4 n0 n1 R4 k4 => ?_⟩
      have S4 := SR S3 R4 k4
      refine ⟨(by show 3 ≤ sizeLine; decide), ?_⟩
      intro t ht
      generalize gH5 : L2.upd _ t _ = H5
      obtain ⟨s5, e5⟩ := newS ht gH5
      clear gH5
      refine ⟨t, _, rfl, .inl (.inl e5), rfl, _, _, rfl, _, _, rfl, _, _, rfl, rfl, ?_⟩
      exact ⟨bk, bk', n, SS S4 s5, n0, n1, _, _, _, _, _, _, _, _, _, _, _, _, _, _, _, rfl⟩
    clear R1 T1 hl ol hl' ol'
    rintro σ H1 ⟨bk, bk', n, S1, n0, n1, w6, w7, w8, w9, w10, w11, w12, w13, w15, w16, w17, w18, w19, w20, w21, rfl⟩
    refine ⟨fun σ' H' => S H' bk bk' ∧ ∃ lt bs, H' lt = some (.lst (bs.map V.ref)) ∧ OrdsAt K H' bs (os.map (mvO n)) ∧ lt ≠ rw ∧ ∃ v7 v8 v9 v10 v11 v12 v13 v15 v16 v17 v18 v19 v20 v21, σ' = tl (some (.ref l)) (some (.ref l')) (some (.ref bk')) (some (.int n)) (some (.ref lt)) v7 v8 v9 v10 v11 v12 v13 (some (.ref bk)) v15 v16 v17 v18 v19 v20 v21, ?_, ?_⟩
    · refine ⟨_, rfl, l, rfl, ⟨_, SqL.of S1.2.2.2.2.1⟩, fun D hD => ?_⟩
      refine lc_it (walk_list (xs := as.map V.ref)) (fun i H' => Same H1 H' ∧ ∃ bs, H' D = some (.lst (bs.map V.ref)) ∧ OrdsAt K H' bs ((os.take i).map (mvO n))) ⟨Same.new hD, [], upd_same, .nil⟩ (fun i H' _ p => SqL.of (p.1 _ _ S1.2.2.2.2.1)) ?_ ?_
      · rintro i y H2 H3 hi ⟨s2, bs, e2, O2⟩ ⟨rfl, ey⟩
        rw [List.length_map] at hi
        obtain ⟨a, ea⟩ : ∃ a, as[i]? = some a := ⟨as[i], by simp [hi]⟩
        rw [List.getElem?_map, ea] at ey
        cases ey
        obtain ⟨o, eo, oa⟩ := Paired.get S1.2.2.2.2.2.1 ea
        refine ⟨a, o.vals, rfl, oa.mono s2, rfl, _, _, rfl, _, _, rfl, _, _, rfl, _, _, rfl, _, _, rfl, rfl, wipe5, yesT (iteT ?_)⟩
        refine ⟨_, rfl, _, rfl, _, rfl, _, rfl, _, _, rfl, rfl, _, rfl, _, rfl, _, _, rfl, rfl, _, rfl, (by show 5 ≤ sizeLine; decide), fun q hq => ?_⟩
        have nDq : D ≠ q := ne_of_none e2 hq
        have lb := PySem.Paired.length O2
        have hup : ∀ b' u, H3 b' = some u → b' ≠ D → (upd (upd H3 q (.tup [.str o.src, .str o.tgt, .int (o.first + n), .int (o.last + n), .int o.way])) D (.lst (bs.map V.ref ++ [.ref q]))) b' = some u := fun b' u e nb => by
          rw [upd_ne nb, upd_ne (ne_of_none e hq)]
          exact e
        refine ⟨_, by rw [upd_ne nDq]; exact e2, ?_, fun b' u e => hup b' u (s2 b' u e) (ne_of_none e hD), bs ++ [q], by rw [upd_same, List.map_append]; rfl, ?_⟩
        · rw [List.length_map, lb, List.length_map, List.length_take, sizeLine_eq]
          omega
        · rw [List.take_add_one, eo, List.map_append]
          refine Paired.append (OrdsAt.keepR O2 fun b' u e z => hup b' u e fun w => ?_) (.cons (.inl (.inl ?_)) .nil)
          · rw [w, e2] at e
            cases e
            cases z
          · rw [upd_ne nDq.symm, upd_same]
            rfl
      · rintro H2 ⟨s2, bs, e2, O2⟩
        rw [List.length_map, lo, List.take_length] at O2
        exact ⟨SS S1 s2, D, bs, e2, O2, row_nil S1.1 hD, _, _, _, _, _, _, _, _, _, _, _, _, _, _, rfl⟩
    rintro σ H2 ⟨S2, lt, bs, elt, olt, nlt, w7, w8, w9, w10, w11, w12, w13, w15, w16, w17, w18, w19, w20, w21, rfl⟩
    have gn : Good (os.map (mvO n)) := mv_good g (fun o ho => by have := (g.ok o ho).f0; omega) (fun o ho => by have := D.lasts o ho; omega)
    clear S1
    refine ⟨fun σ' H' => S H' bk bk' ∧ ∃ v6 v7 v8 v9 v10 v11 v12 v13 v15 v16 v17 v18 v19 v20 v21, σ' = tl (some (.ref l)) (some (.ref l')) (some (.ref bk')) (some (.int n)) v6 v7 v8 v9 v10 v11 v12 v13 (some (.ref bk)) v15 v16 v17 v18 v19 v20 v21, ?_, ?_⟩
    · refine ⟨_, rfl, _, rfl, bk, l, as, os, rfl, S2.2.1, S2.2.2.1, g, SqL.of S2.2.2.2.2.1, S2.2.2.2.2.2.1, fun H3 x3 T3 => ?_⟩
      have S3 := SN S2 x3 T3
      have elt3 := x3 _ _ elt (fun ps z => by cases z)
      have olt3 := ords_extN olt x3
      refine ⟨_, rfl, ?_⟩
      obtain ⟨dx, tb, ab, b1, b2, b3⟩ := id S3.2.2.1
      refine ⟨_, rfl, _, rfl, bk, n, dx, _, rfl, rfl, b1, bk, os, n, rfl, S3.2.2.1, g.len, by omega, by omega, gn, fun H4 q s4 f4 B4 => ?_⟩
      refine ⟨_, rfl, q, lt, bs, _, rfl, S3.2.1.ext s4, B4, gn, SqL.of (s4 _ _ elt3), olt3.mono s4, fun H5 x5 T5 => ?_⟩
      have S5 := SN (SS S3 s4) x5 T5
      refine ⟨_, rfl, ?_⟩
      obtain ⟨dx5, tb5, ab5, b5, _⟩ := id S5.2.2.1
      have l30m : (os.map (mvO n)).length ≤ 30 := by rw [List.length_map]; exact g.len
      refine ⟨_, rfl, _, rfl, bk, n, dx5, _, rfl, rfl, b5, bk, os, n, rfl, S5.2.2.1, g.len, by omega, by omega, gn, fun H6 q2 s6 f6 B6 => ?_⟩
      obtain ⟨dy, ty, ay, c1, _⟩ := id B6
      have eb : (os.map (mvO n)).map (mvO (0 - n)) = os := mv_back
      refine ⟨_, rfl, _, _, rfl, rfl, q2, 0 - n, dy, _, rfl, rfl, c1, q2, os.map (mvO n), 0 - n, rfl, B6, l30m, by omega, by omega, by rw [eb]; exact g, fun H7 q3 s7 f7 B7 => ?_⟩
      rw [eb] at B7
      have S7 := SS (SS S5 s6) s7
      obtain ⟨dz, tz, az, z1, _⟩ := id B7
      obtain ⟨dx7, tb7, ab7, b7, _⟩ := id S7.2.2.1
      refine ⟨_, rfl, q3, dz, _, rfl, z1, .inl ⟨bk, dx7, _, rfl, b7⟩, q3, os, .ref bk, rfl, B7, g, .inl ⟨bk, os, rfl, S7.2.2.1, g, ?_⟩⟩
      rw [decide_eq_true (rfl : os = os)]
      refine ⟨true, rfl, _, rfl, ?_⟩
      exact ⟨S7, _, _, _, _, _, _, _, _, _, _, _, _, _, _, _, rfl⟩
    clear S2 elt olt nlt
    rintro σ H1 ⟨S1, w6, w7, w8, w9, w10, w11, w12, w13, w15, w16, w17, w18, w19, w20, w21, rfl⟩
    refine ⟨fun σ' H' => S H' bk bk' ∧ ∃ hi : Int, (∀ o ∈ os, o.last < hi) ∧ 1 ≤ hi ∧ hi ≤ 1000 ∧ ∃ v5 v6 v8 v9 v10 v11 v12 v13 v15 v16 v17 v18 v19 v20 v21, σ' = tl (some (.ref l)) (some (.ref l')) (some (.ref bk')) v5 v6 (some (.int hi)) v8 v9 v10 v11 v12 v13 (some (.ref bk)) v15 v16 v17 v18 v19 v20 v21, ?_, ?_⟩
    · refine ⟨_, rfl, l, rfl, ⟨_, SqL.of S1.2.2.2.2.1⟩, fun D' hD => ?_⟩
      refine lc_it (walk_list (xs := as.map V.ref)) (fun i H' => Same H1 H' ∧ H' D' = some (.lst (((os.take i).map (·.last)).map V.int))) ⟨Same.new hD, upd_same⟩ (fun i H' _ p => SqL.of (p.1 _ _ S1.2.2.2.2.1)) ?_ ?_
      · rintro i y Hx H3 hi ⟨s3, e3⟩ ⟨rfl, ey⟩
        rw [List.length_map] at hi
        obtain ⟨q, eq⟩ : ∃ q, as[i]? = some q := ⟨as[i], by simp [hi]⟩
        rw [List.getElem?_map, eq] at ey
        cases ey
        obtain ⟨o, eo, ho⟩ := Paired.get (S1.2.2.2.2.2.1.mono s3) eq
        refine ⟨rfl, yesT (iteT ?_)⟩
        refine ⟨_, rfl, q, _, _, _, rfl, rfl, ho, rfl, ?_⟩
        have ek : os.take (i + 1) = os.take i ++ [o] := by rw [List.take_add_one, eo]; rfl
        refine ⟨_, e3, by rw [List.length_map, List.length_map, List.length_take, sizeLine_eq]; omega, fun b u e => ?_, ?_⟩
        · rw [upd_ne (ne_of_none e hD)]
          exact s3 _ _ e
        · rw [upd_same, ek, List.map_append, List.map_append]
          rfl
      · rintro H3 ⟨s3, e3⟩
        have et : os.take (as.map V.ref).length = os := by rw [List.length_map, lo, List.take_length]
        rw [et] at e3
        refine ⟨(by show 1 ≤ sizeLine; decide), ?_⟩
        intro z hz
        generalize gH4 : L2.upd _ z _ = H4
        obtain ⟨s4, e4⟩ := newS hz gH4
        clear gH4
        refine ⟨D', z, _, _, rfl, rfl, s4 _ _ e3, e4, by rw [List.length_map, List.length_map, sizeLine_eq]; simp only [List.length_cons, List.length_nil]; omega, ?_⟩
        intro z2 hz2
        generalize gH5 : L2.upd _ z2 _ = H5
        obtain ⟨s5, e5⟩ := newS hz2 gH5
        clear gH5
        refine ⟨z2, os.map (·.last) ++ [0], rfl, SqL.of (by rw [e5, List.map_append]; rfl), by simp, fun m hm hall => ?_⟩
        have s35 := (s3.trans s4).trans s5
        have m0 : 0 ≤ m := hall 0 (by simp)
        have m1 : m ≤ 900 := by
          rcases List.mem_append.mp hm with z | z
          · obtain ⟨o, ho, rfl⟩ := List.mem_map.mp z
            have := D.lasts o ho
            omega
          · rw [List.mem_singleton.mp z]
            decide
        exact ⟨_, _, rfl, rfl, SS S1 s35, m + 1, fun o ho => by have := hall o.last (List.mem_append_left _ (List.mem_map.mpr ⟨o, ho, rfl⟩)); omega, by omega, by omega, _, _, _, _, _, _, _, _, _, _, _, _, _, _, _, rfl⟩
    clear S1
    rintro σ H1 ⟨S1, hi, hh, h1, h2, w5, w6, w8, w9, w10, w11, w12, w13, w15, w16, w17, w18, w19, w20, w21, rfl⟩
    refine ⟨fun σ' H' => S H' bk bk' ∧ ∃ lt bs, H' lt = some (.lst (bs.map V.ref)) ∧ OrdsAt K H' bs (os'.map (mvO hi)) ∧ lt ≠ rw ∧ ∃ v5 v6 v9 v10 v11 v12 v13 v15 v16 v17 v18 v19 v20 v21, σ' = tl (some (.ref l)) (some (.ref l')) (some (.ref bk')) v5 v6 (some (.int hi)) (some (.ref lt)) v9 v10 v11 v12 v13 (some (.ref bk)) v15 v16 v17 v18 v19 v20 v21, ?_, ?_⟩
    · refine ⟨_, rfl, l', rfl, ⟨_, SqL.of S1.2.2.2.2.2.2.2.2.1⟩, fun D hD => ?_⟩
      refine lc_it (walk_list (xs := as'.map V.ref)) (fun i H' => Same H1 H' ∧ ∃ bs, H' D = some (.lst (bs.map V.ref)) ∧ OrdsAt K H' bs ((os'.take i).map (mvO hi))) ⟨Same.new hD, [], upd_same, .nil⟩ (fun i H' _ p => SqL.of (p.1 _ _ S1.2.2.2.2.2.2.2.2.1)) ?_ ?_
      · rintro i y H2 H3 hj ⟨s2, bs, e2, O2⟩ ⟨rfl, ey⟩
        rw [List.length_map] at hj
        obtain ⟨a, ea⟩ : ∃ a, as'[i]? = some a := ⟨as'[i], by simp [hj]⟩
        rw [List.getElem?_map, ea] at ey
        cases ey
        obtain ⟨o, eo, oa⟩ := Paired.get S1.2.2.2.2.2.2.2.2.2 ea
        refine ⟨a, o.vals, rfl, oa.mono s2, rfl, _, _, rfl, _, _, rfl, _, _, rfl, _, _, rfl, _, _, rfl, rfl, wipe5, yesT (iteT ?_)⟩
        refine ⟨_, rfl, _, rfl, _, rfl, _, rfl, _, _, rfl, rfl, _, rfl, _, rfl, _, _, rfl, rfl, _, rfl, (by show 5 ≤ sizeLine; decide), fun q hq => ?_⟩
        have nDq : D ≠ q := ne_of_none e2 hq
        have lb := PySem.Paired.length O2
        have hup : ∀ b' u, H3 b' = some u → b' ≠ D → (upd (upd H3 q (.tup [.str o.src, .str o.tgt, .int (o.first + hi), .int (o.last + hi), .int o.way])) D (.lst (bs.map V.ref ++ [.ref q]))) b' = some u := fun b' u e nb => by
          rw [upd_ne nb, upd_ne (ne_of_none e hq)]
          exact e
        refine ⟨_, by rw [upd_ne nDq]; exact e2, ?_, fun b' u e => hup b' u (s2 b' u e) (ne_of_none e hD), bs ++ [q], by rw [upd_same, List.map_append]; rfl, ?_⟩
        · rw [List.length_map, lb, List.length_map, List.length_take, sizeLine_eq]
          omega
        · rw [List.take_add_one, eo, List.map_append]
          refine Paired.append (OrdsAt.keepR O2 fun b' u e z => hup b' u e fun w => ?_) (.cons (.inl (.inl ?_)) .nil)
          · rw [w, e2] at e
            cases e
            cases z
          · rw [upd_ne nDq.symm, upd_same]
            rfl
      · rintro H2 ⟨s2, bs, e2, O2⟩
        rw [List.length_map, lo', List.take_length] at O2
        exact ⟨SS S1 s2, D, bs, e2, O2, row_nil S1.1 hD, _, _, _, _, _, _, _, _, _, _, _, _, _, _, rfl⟩
    clear S1
    rintro σ H2 ⟨S2, lt, bs, elt, olt, nlt, w5, w6, w9, w10, w11, w12, w13, w15, w16, w17, w18, w19, w20, w21, rfl⟩
    have gm : Good (os'.map (mvO hi)) := mv_good g' (fun o ho => by have := (g'.ok o ho).f0; omega) (fun o ho => by have := D'.lasts o ho; omega)
    have gs : Good (os ++ os'.map (mvO hi)) := by
      refine ⟨by rw [List.length_append, List.length_map]; omega, fun o ho => ?_, List.pairwise_append.mpr ⟨g.apart, gm.apart, fun o ho p hp => ?_⟩⟩
      · rcases List.mem_append.mp ho with z | z
        · exact g.ok o z
        · exact gm.ok o z
      · obtain ⟨p', hp', rfl⟩ := List.mem_map.mp hp
        have h0 := (g'.ok p' hp').f0
        have hl := hh o ho
        unfold overB
        have : ¬ (mvO hi p').first ≤ o.last := by
          show ¬ p'.first + hi ≤ o.last
          omega
        rw [decide_eq_false this, Bool.and_false, Bool.and_false]
    refine ⟨fun σ' H' => S H' bk bk' ∧ ∃ v5 v6 v7 v8 v9 v10 v11 v12 v13 v15 v16 v17 v18 v19 v20 v21, σ' = tl (some (.ref l)) (some (.ref l')) (some (.ref bk')) v5 v6 v7 v8 v9 v10 v11 v12 v13 (some (.ref bk)) v15 v16 v17 v18 v19 v20 v21, ?_, ?_⟩
    · obtain ⟨dx, tb, ab, b1, _⟩ := id S2.2.2.2.2.2.2.1
      refine ⟨_, rfl, _, rfl, _, rfl, bk', hi, dx, _, rfl, rfl, b1, bk', os', hi, rfl, S2.2.2.2.2.2.2.1, g'.len, by omega, by omega, gm, fun H3 q s3 f3 B3 => ?_⟩
      have S3 := SS S2 s3
      obtain ⟨dx3, tb3, ab3, b3, _⟩ := id S3.2.2.1
      obtain ⟨dy, ty, ay, c1, _⟩ := id B3
      refine ⟨bk, q, dx3, dy, _, _, rfl, rfl, b3, c1, bk, q, os, _, rfl, S3.2.2.1, B3, gs, fun H4 q4 s4 f4 B4 => ?_⟩
      have S4 := SS S3 s4
      have s34 := s3.trans s4
      have lb := PySem.Paired.length olt
      rw [List.length_map] at lb
      refine ⟨_, rfl, _, rfl, l, lt, _, _, rfl, rfl, S4.2.2.2.2.1, s34 _ _ elt, by rw [List.length_map, List.length_map, sizeLine_eq]; omega, ?_⟩
      intro l5 hl5
      generalize gH5 : L2.upd _ l5 _ = H5
      obtain ⟨s5, e5⟩ := newS hl5 gH5
      clear gH5
      have S5 := SS S4 s5
      rw [← List.map_append] at e5
      refine ⟨q4, l5, as ++ bs, _, rfl, S5.2.1, B4.mono s5, gs, SqL.of e5, Paired.append S5.2.2.2.2.2.1 (olt.mono (s34.trans s5)), fun H6 x6 T6 => ?_⟩
      exact ⟨_, rfl, SN S5 x6 T6, _, _, _, _, _, _, _, _, _, _, _, _, _, _, _, _, rfl⟩
    clear S2 elt olt nlt
    rintro σ H2 ⟨S2, w5, w6, w7, w8, w9, w10, w11, w12, w13, w15, w16, w17, w18, w19, w20, w21, rfl⟩
    refine ⟨fun σ' H' => S H' bk bk' ∧ ∃ v3 v4 v5 v6 v7 v8 v9 v10 v11 v12 v13 v15 v16 v17 v18 v19 v20 v21, σ' = tl (some (.ref l)) v3 v4 v5 v6 v7 v8 v9 v10 v11 v12 v13 (some (.ref bk)) v15 v16 v17 v18 v19 v20 v21, ?_, ?_⟩
    · obtain ⟨dx, tb, ab, b1, _⟩ := id S2.2.2.1
      obtain ⟨dy, ty, ay, c1, _⟩ := id S2.2.2.2.2.2.2.1
      refine ⟨_, rfl, _, rfl, bk, dx, _, rfl, b1, .inl ⟨bk', dy, _, rfl, c1⟩, bk, os, .ref bk', rfl, S2.2.2.1, g, .inl ⟨bk', os', rfl, S2.2.2.2.2.2.2.1, g', ?_⟩⟩
      have dk1 : DK 2 (.list (os.map ordDK)) := .list (DK.map fun o ho => .ord (g.ok o ho)) (by rw [List.length_map]; omega)
      have dk2 : DK 2 (.list (os'.map ordDK)) := .list (DK.map fun o ho => .ord (g'.ok o ho)) (by rw [List.length_map]; omega)
      refine ⟨_, rfl, _, rfl, _, rfl, .list (os.map ordDK), .list (os'.map ordDK), .lst (SqL.of S2.2.2.2.2.1) (dkOrds S2.2.2.2.2.2.1), .lst (SqL.of S2.2.2.2.2.2.2.2.2.1) (dkOrds S2.2.2.2.2.2.2.2.2.2), dk1.shaped (by decide), dk2.shaped (by decide), ?_⟩
      rw [show PyData.eqv (.list (os.map ordDK)) (.list (os'.map ordDK)) = decide (os = os') from eqvOrds _ _]
      refine ⟨rfl, _, rfl, iteND rfl ?_⟩
      refine ⟨_, rfl, _, rfl, l, _, rfl, .inl ⟨SqL.of S2.2.2.2.2.1, ?_⟩⟩
      intro t ht
      generalize gH3 : L2.upd _ t _ = H3
      obtain ⟨s3, e3⟩ := newS ht gH3
      clear gH3
      have S3 := SS S2 s3
      obtain ⟨dx3, tb3, ab3, b3, _⟩ := id S3.2.2.1
      refine ⟨bk, dx3, _, rfl, b3, .inr ⟨t, _, rfl, .inl (.inl e3)⟩, bk, os, .ref t, rfl, S3.2.2.1, g, .inr ⟨t, _, rfl, .inl (.inl e3), false, rfl, _, rfl, ?_⟩⟩
      refine ⟨_, rfl, _, rfl, l, as, os, rfl, SqL.of S3.2.2.2.2.1, S3.2.2.2.2.2.1, g, fun H4 q s4 f4 B4 => ?_⟩
      have S4 := SS S3 s4
      obtain ⟨dx4, tb4, ab4, b4, _⟩ := id S4.2.2.1
      obtain ⟨dz, tz, az, z1, _⟩ := id B4
      refine ⟨bk, dx4, _, rfl, b4, .inl ⟨q, dz, _, rfl, z1⟩, bk, os, .ref q, rfl, S4.2.2.1, g, .inl ⟨q, os, rfl, B4, g, ?_⟩⟩
      rw [decide_eq_true (rfl : os = os)]
      refine ⟨true, rfl, _, rfl, ?_⟩
      exact ⟨S4, _, _, _, _, _, _, _, _, _, _, _, _, _, _, _, _, _, _, rfl⟩
    clear S2
    rintro σ H2 ⟨S2, w3, w4, w5, w6, w7, w8, w9, w10, w11, w12, w13, w15, w16, w17, w18, w19, w20, w21, rfl⟩
    refine ⟨fun σ' H' => S H' bk bk' ∧ ∃ bc : Int, 1 ≤ bc ∧ bc ≤ 40 ∧ ∃ v3 v4 v5 v6 v7 v8 v9 v10 v11 v13 v15 v16 v17 v18 v19 v20 v21, σ' = tl (some (.ref l)) v3 v4 v5 v6 v7 v8 v9 v10 v11 (some (.int bc)) v13 (some (.ref bk)) v15 v16 v17 v18 v19 v20 v21, ?_, ?_⟩
    · refine ⟨_, rfl, rw, a, ns, 40, rfl, S2.1, by decide, by decide, fun v H3 v0 v1 R3 k3 => ?_⟩
      exact ⟨_, _, rfl, rfl, SR S2 R3 k3, 1 + v, by omega, by omega, _, _, _, _, _, _, _, _, _, _, _, _, _, _, _, _, _, rfl⟩
    clear S2
    rintro σ H2 ⟨S2, bc, bc1, bc40, w3, w4, w5, w6, w7, w8, w9, w10, w11, w13, w15, w16, w17, w18, w19, w20, w21, rfl⟩
    refine ⟨fun σ' H' => S H' bk bk' ∧ ∃ le, H' le = some (.lst (ixV (earL os bc os.length))) ∧ ∃ v3 v4 v5 v6 v7 v8 v10 v11 v13 v15 v16 v17 v18 v19 v20 v21, σ' = tl (some (.ref l)) v3 v4 v5 v6 v7 v8 (some (.ref le)) v10 v11 (some (.int bc)) v13 (some (.ref bk)) v15 v16 v17 v18 v19 v20 v21, ?_, ?_⟩
    · refine ⟨_, rfl, l, _, rfl, .inl (SqL.of S2.2.2.2.2.1), _, rfl, by rw [ln]; omega, by rw [ln]; omega, fun D hD => ?_⟩
      refine lc_it walk_range (fun i H' => Same H2 H' ∧ H' D = some (.lst (ixV (earL os bc i)))) ⟨Same.new hD, upd_same⟩ (fun _ _ _ _ => trivial) ?_ ?_
      · rintro i y Hx H3 hi ⟨s3, e3⟩ ⟨rfl, rfl⟩
        replace hi : i < ((as.map V.ref).length : Int).toNat := hi
        rw [ln] at hi
        have hi' : i < os.length := by omega
        obtain ⟨q, eq⟩ : ∃ q, as[i]? = some q := ⟨as[i]'(by omega), by simp [lo, hi']⟩
        have S3 := SS S2 s3
        obtain ⟨o, eo, ho⟩ := Paired.get S3.2.2.2.2.2.1 eq
        have iz : (0 : Int) + (i : Int) = (i : Nat) := by omega
        have at_ : atI (as.map V.ref) ((0 : Int) + (i : Int)) = some (V.ref q) := by
          rw [iz]
          exact atI_nat (by rw [List.getElem?_map, eq]; rfl)
        refine ⟨rfl, _, rfl, _, rfl, l, _, _, V.ref q, rfl, rfl, SqL.of S3.2.2.2.2.1, at_, q, _, _, _, rfl, rfl, ho, rfl, _, rfl, _, _, rfl, rfl, _, rfl, ?_⟩
        rw [earL_succ eo]
        by_cases c : o.first < bc
        · refine iteD c ?_
          rw [if_pos c]
          refine ⟨_, rfl, _, e3, by rw [ixV, List.length_map, sizeLine_eq]; have := earL_len os bc i; omega, fun b u e => ?_, ?_⟩
          · rw [upd_ne (ne_of_none e hD)]
            exact s3 _ _ e
          · rw [upd_same]
            show some (HO.lst (ixV (earL os bc i) ++ [V.int ((0 : Int) + (i : Int))])) = _
            rw [iz]
            unfold ixV
            rw [List.map_append]
            rfl
        · refine iteDN c ?_
          rw [if_neg c, List.append_nil]
          exact ⟨s3, e3⟩
      · rintro H3 ⟨s3, e3⟩
        rw [ln, Int.toNat_natCast] at e3
        exact ⟨SS S2 s3, D, e3, _, _, _, _, _, _, _, _, _, _, _, _, _, _, _, _, rfl⟩
    clear S2
    rintro σ H2 ⟨S2, le, ele, w3, w4, w5, w6, w7, w8, w10, w11, w13, w15, w16, w17, w18, w19, w20, w21, rfl⟩
    refine ⟨fun σ' H' => S H' bk bk' ∧ ∃ v3 v4 v5 v6 v7 v8 v9 v10 v11 v12 v13 v15 v16 v17 v18 v19 v20 v21, σ' = tl (some (.ref l)) v3 v4 v5 v6 v7 v8 v9 v10 v11 v12 v13 (some (.ref bk)) v15 v16 v17 v18 v19 v20 v21, ?_, ?_⟩
    · refine ⟨_, rfl, Nat.zero_le _, ?_⟩
      intro x1 hx1
      generalize gH3 : L2.upd _ x1 _ = H3
      obtain ⟨s3, e3⟩ := newS hx1 gH3
      clear gH3
      have dk : DK 2 (.list ((earL os bc os.length).map fun (n : Nat) => PyData.int (n : Int))) := .list (DK.map fun n _ => .int 1 _) (by rw [List.length_map]; have := earL_len os bc os.length; omega)
      refine ⟨.list ((earL os bc os.length).map fun (n : Nat) => PyData.int (n : Int)), .list [], .lst (SqL.of (s3 _ _ ele)) (dkMap (fun n => .int _) _), .lst (SqL.of e3) .nil, dk.shaped (by decide), by decide +kernel, ?_⟩
      have S3 := SS S2 s3
      replace ele := s3 _ _ ele
      clear dk
      cases ez : earL os bc os.length with
      | nil =>
        rw [show PyData.eqv (.list (([] : List Nat).map fun (n : Nat) => PyData.int (n : Int))) (.list []) = true from by simp [PyData.eqv, PyData.eqvAll]]
        refine ⟨_, rfl, ?_⟩
        exact ⟨S3, _, _, _, _, _, _, _, _, _, _, _, _, _, _, _, _, _, _, rfl⟩
      | cons j rest =>
        rw [show PyData.eqv (.list ((j :: rest).map fun (n : Nat) => PyData.int (n : Int))) (.list []) = false from by simp [PyData.eqv, PyData.eqvAll]]
        refine ⟨_, rfl, ?_⟩
        have ear : Early os (0 - bc) j := earL_early ez
        rw [ez] at ele
        refine ⟨S3.2.1, fun f1 H11 x11 T11 fn1 L11 => ?_⟩
        have S11 := SN S3 x11 T11
        have ele11 := x11 _ _ ele (fun ps z => by cases z)
        refine ⟨_, f1, rfl, L11, ?_⟩
        obtain ⟨dx, tb, ab, b1, _⟩ := id S11.2.2.1
        refine ⟨_, rfl, _, rfl, _, _, rfl, rfl, bk, dx, _, rfl, .inl ⟨_, rfl⟩, b1, bk, os, .int (0 - bc), rfl, S11.2.2.1, g, rfl, .inr ⟨0 - bc, j, rfl, by omega, by omega, ear, fun H15 cls d s15 e15 => ⟨.order (.int (j : Nat)), True.intro, e15, fun p H16 s16 fp ep => ?_⟩⟩⟩
        have S16 := SS (SS S11 s15) s16
        refine ⟨_, rfl, le, _, _, V.int (j : Nat), rfl, rfl, SqL.of (s16 _ _ (s15 _ _ ele11)), atI_nat (j := 0) rfl, (by show 2 ≤ sizeLine; decide), ?_⟩
        intro z hz
        generalize gH17 : L2.upd _ z _ = H17
        obtain ⟨s17, e17⟩ := newS hz gH17
        clear gH17
        have kd : DK 1 (.tuple [.str "order", .int (j : Nat)]) := .tuple (.cons (.strk 0 (by decide +kernel)) (.cons (.int 0 _) .nil)) (by show 2 ≤ _; decide)
        refine ⟨.tuple [.str "order", .int (j : Nat)], .tuple [.str "order", .int (j : Nat)], .tup (.inl (.inl (s17 _ _ ep))) (.cons (.str _) (.cons (.int _) .nil)), .tup (.inl (.inl e17)) (.cons (.str _) (.cons (.int _) .nil)), kd.shaped (by decide), kd.shaped (by decide), ?_⟩
        rw [show PyData.eqv (.tuple [.str "order", .int (j : Nat)]) (.tuple [.str "order", .int (j : Nat)]) = true from by simp [PyData.eqv, PyData.eqvAll]]
        exact ⟨_, rfl, SS S16 s17, _, _, _, _, _, _, _, _, _, _, _, _, _, _, _, _, _, _, rfl⟩
    clear S2 ele
    rintro σ H2 ⟨S2, w3, w4, w5, w6, w7, w8, w9, w10, w11, w12, w13, w15, w16, w17, w18, w19, w20, w21, rfl⟩
    refine ⟨fun σ' H' => S H' bk bk' ∧ ∃ v3 v4 v5 v6 v7 v8 v9 v10 v11 v12 v13 v15 v16 v17 v18 v19 v20 v21, σ' = tl (some (.ref l)) v3 v4 v5 v6 v7 v8 v9 v10 v11 v12 v13 (some (.ref bk)) v15 v16 v17 v18 v19 v20 v21, ?_, ?_⟩
    · refine ⟨_, _, rfl, rfl, ⟨by decide, by decide, by decide⟩, _, _, rfl, rfl, _, _, rfl, rfl, ⟨by decide, by decide, by decide⟩, _, _, rfl, rfl, _, _, rfl, rfl, (by show 4 ≤ sizeLine; decide), ?_⟩
      intro dt hdt
      generalize gH3 : L2.upd _ dt _ = H3
      obtain ⟨s3, e3⟩ := newS hdt gH3
      clear gH3
      have S3 := SS S2 s3
      refine ⟨dt, rfl, ⟨_, .inl (.inl e3)⟩, for_it (walk_tup (xs := [V.int ((10 : Int) ^ (18 : Int).toNat + 1), V.int (0 - (10 : Int) ^ (18 : Int).toNat - 1), V.non, V.bl true])) (fun i σ H' => S H' bk bk' ∧ LamX.ExtN H3 H' ∧ ∃ v3 v4 v5 v6 v7 v8 v9 v10 v11 v12 v13 v15 v16 v17 v18 v19 v20 v21, σ = tl (some (.ref l)) v3 v4 v5 v6 v7 v8 v9 v10 v11 v12 v13 (some (.ref bk)) v15 v16 v17 v18 v19 v20 v21) ⟨S3, LamX.ExtN.refl _, _, _, _, _, _, _, _, _, _, _, _, _, _, _, _, _, _, _, rfl⟩ (fun i σ H' _ z => .inl (.inl (z.2.1 _ _ e3 fun ps w => by cases w))) ?_ ?_⟩
      · rintro j y σ Hx H8 hj8 ⟨S8, x8, w3, w4, w5, w6, w7, w8, w9, w10, w11, w12, w13, w15, w16, w17, w18, w19, w20, w21, rfl⟩ ⟨rfl, ey⟩
        obtain ⟨n1, n2, n3⟩ : notSeq y = true ∧ ((∃ n, y = .int n) ∨ (∃ b, y = .bl b) ∨ y = .non) ∧ isIntB y (0 - 1000000000000000000) 1000000000000000000 = false := by
          have : j = 0 ∨ j = 1 ∨ j = 2 ∨ j = 3 := by
            have : j < 4 := hj8
            omega
          rcases this with rfl | rfl | rfl | rfl <;> cases ey
          · exact ⟨rfl, .inl ⟨_, rfl⟩, by decide +kernel⟩
          · exact ⟨rfl, .inl ⟨_, rfl⟩, by decide +kernel⟩
          · exact ⟨rfl, .inr (.inr rfl), rfl⟩
          · exact ⟨rfl, .inr (.inl ⟨_, rfl⟩), rfl⟩
        refine ⟨S8.2.1, fun f1 H11 x11 T11 fn1 L11 => ?_⟩
        have S11 := SN S8 x11 T11
        refine ⟨_, f1, rfl, L11, ?_⟩
        obtain ⟨dx, tb, ab, b1, _⟩ := id S11.2.2.1
        refine ⟨_, rfl, _, rfl, bk, dx, _, rfl, n2, b1, bk, os, y, rfl, S11.2.2.1, g, n1, .inl ⟨n3, fun H15 cls s15 e15 => ⟨.number, True.intro, e15, fun p H16 s16 fp ep => ?_⟩⟩⟩
        refine ⟨(by show 1 ≤ sizeLine; decide), ?_⟩
        intro z hz
        generalize gH17 : L2.upd _ z _ = H17
        obtain ⟨s17, e17⟩ := newS hz gH17
        clear gH17
        have kd : DK 1 (.tuple [.str "number"]) := .tuple (.cons (.strk 0 (by decide +kernel)) .nil) (by show 1 ≤ _; decide)
        refine ⟨.tuple [.str "number"], .tuple [.str "number"], .tup (.inl (.inl (s17 _ _ ep))) (.cons (.str _) .nil), .tup (.inl (.inl e17)) (.cons (.str _) .nil), kd.shaped (by decide), kd.shaped (by decide), ?_⟩
        have s57 := (s15.trans s16).trans s17
        exact ⟨_, rfl, iteF ⟨SS S11 s57, (x8.trans x11).trans (LamX.ExtN.of s57), _, _, _, _, _, _, _, _, _, _, _, _, _, _, _, _, _, _, rfl⟩⟩
      · rintro σ' H' ⟨S9, _, z⟩
        exact ⟨S9, z⟩
    clear S2
    rintro σ H2 ⟨S2, w3, w4, w5, w6, w7, w8, w9, w10, w11, w12, w13, w15, w16, w17, w18, w19, w20, w21, rfl⟩
    refine ⟨fun σ' H' => S H' bk bk' ∧ ∃ kk : Nat, kk ≤ os.length ∧ ∃ v3 v4 v5 v6 v7 v8 v9 v11 v12 v13 v15 v16 v17 v18 v19 v20 v21, σ' = tl (some (.ref l)) v3 v4 v5 v6 v7 v8 v9 (some (.int (kk : Nat))) v11 v12 v13 (some (.ref bk)) v15 v16 v17 v18 v19 v20 v21, ?_, ?_⟩
    · refine ⟨_, rfl, _, rfl, l, _, rfl, .inl (SqL.of S2.2.2.2.2.1), _, _, rfl, rfl, rw, a, ns, _, rfl, S2.1, by rw [ln]; omega, by rw [ln]; omega, fun v H3 v0 v1 R3 k3 => ?_⟩
      rw [ln] at v1
      obtain ⟨kk, rfl⟩ := Int.eq_ofNat_of_zero_le v0
      exact ⟨SR S2 R3 k3, kk, by omega, _, _, _, _, _, _, _, _, _, _, _, _, _, _, _, _, _, rfl⟩
    clear S2
    rintro σ H2 ⟨S2, kk, hkk, w3, w4, w5, w6, w7, w8, w9, w11, w12, w13, w15, w16, w17, w18, w19, w20, w21, rfl⟩
    refine ⟨fun σ' H' => S H' bk bk' ∧ ∃ ll bs, H' ll = some (.lst (bs.map V.ref)) ∧ OrdsAt K H' bs (lessF [kk, 0] 0 os) ∧ ∃ v3 v4 v5 v6 v7 v8 v9 v12 v13 v15 v16 v17 v18 v19 v20 v21, σ' = tl (some (.ref l)) v3 v4 v5 v6 v7 v8 v9 (some (.int (kk : Nat))) (some (.ref ll)) v12 v13 (some (.ref bk)) v15 v16 v17 v18 v19 v20 v21, ?_, ?_⟩
    · refine ⟨_, rfl, l, _, rfl, .inl (SqL.of S2.2.2.2.2.1), _, rfl, by rw [ln]; omega, by rw [ln]; omega, fun D hD => ?_⟩
      refine lc_it walk_range (fun i H' => Same H2 H' ∧ ∃ bs, H' D = some (.lst (bs.map V.ref)) ∧ OrdsAt K H' bs (lessF [kk, 0] 0 (os.take i))) ⟨Same.new hD, [], upd_same, .nil⟩ (fun _ _ _ _ => trivial) ?_ ?_
      · rintro i y Hx H3 hi ⟨s3, bs, e3, O3⟩ ⟨rfl, rfl⟩
        replace hi : i < ((as.map V.ref).length : Int).toNat := hi
        rw [ln] at hi
        have hi' : i < os.length := by omega
        obtain ⟨q, eq⟩ : ∃ q, as[i]? = some q := ⟨as[i]'(by omega), by simp [lo, hi']⟩
        have S3 := SS S2 s3
        obtain ⟨o, eo, ho⟩ := Paired.get S3.2.2.2.2.2.1 eq
        have iz : (0 : Int) + (i : Int) = (i : Nat) := by omega
        have at_ : atI (as.map V.ref) ((0 : Int) + (i : Int)) = some (V.ref q) := by
          rw [iz]
          exact atI_nat (by rw [List.getElem?_map, eq]; rfl)
        refine ⟨rfl, _, rfl, _, rfl, (by show 2 ≤ sizeLine; decide), ?_⟩
        intro tt htt
        generalize gH4 : L2.upd _ tt _ = H4
        obtain ⟨s4, e4⟩ := newS htt gH4
        clear gH4
        have S4 := SS S3 s4
        refine ⟨tt, _, rfl, .inr (.inl (.inl e4)), rfl, rfl, _, rfl, ?_⟩
        have nDt : D ≠ tt := ne_of_none e3 htt
        replace e3 := s4 _ _ e3
        replace O3 := O3.mono s4
        have c' : (if true = true then !inV (V.int ((0 : Int) + (i : Int))) [V.int (kk : Nat), V.int 0] else inV (V.int ((0 : Int) + (i : Int))) [V.int (kk : Nat), V.int 0]) = decide (¬ i ∈ [kk, 0]) := by
          rw [if_pos rfl, iz, Bool.eq_iff_iff]
          simp [inV, eqV]
          omega
        rw [c']
        rw [List.take_add_one, eo, show (some o).toList = [o] from rfl, lessF_snoc]
        have lt' : 0 + (os.take i).length = i := by rw [List.length_take]; omega
        rw [lt']
        by_cases c : i ∈ [kk, 0]
        · refine iteDN (fun z => z c) ?_
          rw [if_pos c, List.append_nil]
          exact ⟨s3.trans s4, bs, e3, O3⟩
        · refine iteD c ?_
          rw [if_neg c]
          refine ⟨_, rfl, _, rfl, l, _, _, V.ref q, rfl, rfl, SqL.of S4.2.2.2.2.1, at_, ?_⟩
          have lb := PySem.Paired.length O3
          have ll := lessF_len [kk, 0] 0 (os.take i)
          rw [List.length_take] at ll
          have hup : ∀ b' u, H4 b' = some u → b' ≠ D → (upd H4 D (.lst (bs.map V.ref ++ [.ref q]))) b' = some u := fun b' u e nb => by
            rw [upd_ne nb]
            exact e
          refine ⟨_, e3, by rw [List.length_map, sizeLine_eq]; omega, fun b' u e => hup b' u (s4 _ _ (s3 b' u e)) (ne_of_none e hD), bs ++ [q], by rw [upd_same, List.map_append]; rfl, ?_⟩
          have kk2 : ∀ b u, H4 b = some u → tupl u = true → (upd H4 D (.lst (bs.map V.ref ++ [.ref q]))) b = some u := fun b u e z => hup b u e fun w => by
            rw [w, e3] at e
            cases e
            cases z
          exact Paired.append (OrdsAt.keepR O3 kk2) (OrdsAt.keepR (as := [q]) (os := [o]) (.cons (ho.mono s4) .nil) kk2)
      · rintro H3 ⟨s3, bs, e3, O3⟩
        rw [ln, Int.toNat_natCast, List.take_length] at O3
        exact ⟨SS S2 s3, D, bs, e3, O3, _, _, _, _, _, _, _, _, _, _, _, _, _, _, _, _, rfl⟩
    clear S2
    rintro σ H2 ⟨S2, ll, bs, ell, oll, w3, w4, w5, w6, w7, w8, w9, w12, w13, w15, w16, w17, w18, w19, w20, w21, rfl⟩
    refine ⟨fun σ' H' => S H' bk bk' ∧ ∃ v3 v4 v5 v6 v7 v8 v9 v10 v11 v12 v13 v15 v16 v17 v18 v19 v20 v21, σ' = tl (some (.ref l)) v3 v4 v5 v6 v7 v8 v9 v10 v11 v12 v13 (some (.ref bk)) v15 v16 v17 v18 v19 v20 v21, ?_, ?_⟩
    · refine ⟨_, rfl, Nat.zero_le _, ?_⟩
      intro x1 hx1
      generalize gH3 : L2.upd _ x1 _ = H3
      obtain ⟨s3, e3⟩ := newS hx1 gH3
      clear gH3
      have dk : DK 2 (.list (os.map ordDK)) := .list (DK.map fun o ho => .ord (g.ok o ho)) (by rw [List.length_map]; omega)
      refine ⟨.list (os.map ordDK), .list [], .lst (SqL.of (s3 _ _ S2.2.2.2.2.1)) (dkOrds (S2.2.2.2.2.2.1.mono s3)), .lst (SqL.of e3) .nil, dk.shaped (by decide), by decide +kernel, ?_⟩
      have S3 := SS S2 s3
      rw [show PyData.eqv (.list (os.map ordDK)) (.list []) = decide (os = []) from eqvOrds os []]
      refine ⟨_, rfl, ?_⟩
      by_cases c0 : os = []
      · rw [decide_eq_true c0]
        exact ⟨S3, _, _, _, _, _, _, _, _, _, _, _, _, _, _, _, _, _, _, rfl⟩
      rw [decide_eq_false c0]
      refine ⟨_, rfl, _, rfl, l, _, rfl, .inl (SqL.of S3.2.2.2.2.1), _, _, rfl, rfl, _, rfl, ?_⟩
      rw [ln]
      by_cases c1 : (kk : Int) < (os.length : Nat)
      · refine iteD c1 ?_
        obtain ⟨dx, tb, ab, b1, _⟩ := id S3.2.2.1
        have os1 : 1 ≤ os.length := List.length_pos_iff.mpr c0
        refine ⟨_, rfl, bk, dx, _, rfl, b1, rfl, _, rfl, bk, os, [kk, 0], rfl, S3.2.2.1, g, fun i hi => ?_, (by show 2 ≤ 100; decide), fun H4 q s4 f4 B4 => ?_⟩
        · simp only [List.mem_cons, List.not_mem_nil, or_false] at hi
          rcases hi with rfl | rfl <;> omega
        obtain ⟨dy, ty, ay, y1, y2, y3⟩ := id B4
        refine ⟨q, dy, _, rfl, y1, q, dy, ty, rfl, y1, ?_⟩
        have s34 := s3.trans s4
        refine ⟨_, rfl, ll, _, rfl, .inl ⟨SqL.of (s34 _ _ ell), ?_⟩⟩
        intro q5 hq5
        generalize gH5 : L2.upd _ q5 _ = H5
        obtain ⟨s5, e5⟩ := newS hq5 gH5
        clear gH5
        have gl : ∀ o ∈ lessF [kk, 0] 0 os, o.Ok := fun o ho => g.ok o (lessF_mem ho)
        have lle := lessF_len [kk, 0] 0 os
        have dk : DK 2 (.tuple ((lessF [kk, 0] 0 os).map ordDK)) := .tuple (DK.map fun o ho => .ord (gl o ho)) (by rw [List.length_map]; omega)
        refine ⟨.tuple ((lessF [kk, 0] 0 os).map ordDK), .tuple ((lessF [kk, 0] 0 os).map ordDK), .tup (MF.Same.tup s5 y2) (dkOrds (y3.mono s5)), .tup (.inl (.inl e5)) (dkOrds (oll.mono (s34.trans s5))), dk.shaped (by decide), dk.shaped (by decide), ?_⟩
        rw [show PyData.eqv (.tuple ((lessF [kk, 0] 0 os).map ordDK)) (.tuple ((lessF [kk, 0] 0 os).map ordDK)) = true from (eqvOrds _ _).trans (decide_eq_true rfl)]
        exact ⟨_, rfl, iteF ⟨SS S2 (s34.trans s5), _, _, _, _, _, _, _, _, _, _, _, _, _, _, _, _, _, _, rfl⟩⟩
      · refine iteDN c1 ?_
        exact ⟨S3, _, _, _, _, _, _, _, _, _, _, _, _, _, _, _, _, _, _, rfl⟩
    clear S2 ell oll
    rintro σ H2 ⟨S2, w3, w4, w5, w6, w7, w8, w9, w10, w11, w12, w13, w15, w16, w17, w18, w19, w20, w21, rfl⟩
    refine ⟨rfl, S2.2.1, fun H3 x3 T3 => ?_⟩
    have S3 := SN S2 x3 T3
    refine ⟨_, rfl, ?_⟩
    exact ⟨_, rfl, l, as, os, rfl, T3, g, fun o ho => by have := D.lasts o ho; omega, SqL.of S3.2.2.2.2.1, S3.2.2.2.2.2.1, fun H' => k _⟩
end

end MF
set_option Elab.async false
set_option linter.all false
set_option maxRecDepth 100000
set_option maxHeartbeats 2000000
set_option pp.maxSteps 600
namespace MF
open PySem PySem.Spec PyProof.Rows L2 StX
theorem all_mk {l : PySem.W.OpenLaw} {w : World} {K : PySem.W.Frag} {h : Heap} {mg : Str → Option Value} {fa C_Book C_MailError C_InvalidOrder C_UnknownOrder C_InvalidAddress C_InvalidDay C_InvalidNumber cL_q25 PL_q25 cL_q26 PL_q26 cL_q27 PL_q27 cL_q28 PL_q28 f_q0 f_q1 f_q2 f_q3 f_q4 f_q5 p_q5 f_q6 p_q6 f_q7 p_q7 f_q8 f_q9 f_q10 f_q11 f_q12 f_q13 f_q14 f_q15 f_q16 f_q17 f_q18 f_q19 f_q20 f_q21 f_q22 f_q23 f_q24 f_q25 f_q26 f_q27 f_q28 : Addr} (X : K.In h) (G : h.Ns mainGlobals mg) (hfa : mg "law" = some (.ref fa))
    {odq0 anq0 odq1 anq1 odq2 anq2 odq3 anq3 odq4 anq4 odq5 anq5 odq6 anq6 odq7 anq7 odq8 anq8 odq9 anq9 odq10 anq10 odq11 anq11 odq12 anq12 odq13 anq13 odq14 anq14 odq15 anq15 odq16 anq16 odq17 anq17 odq18 anq18 odq19 anq19 odq20 anq20 odq21 anq21 odq22 anq22 odq23 anq23 odq24 anq24 odq25 anq25 odq26 anq26 odq27 anq27 odq28 anq28 : Option Addr} {slq0 slq1 slq2 slq3 slq4 slq5 slq6 slq7 slq8 slq9 slq10 slq11 slq12 slq13 slq14 slq15 slq16 slq17 slq18 slq19 slq20 slq21 slq22 slq23 slq24 slq25 slq26 slq27 slq28 : Array (Option Value)} {ocq0 kVq0 dcq0 pmq0 cdq0 ctq0 ocq1 kVq1 dcq1 pmq1 cdq1 ctq1 ocq2 kVq2 dcq2 pmq2 cdq2 ctq2 ocq3 kVq3 dcq3 pmq3 cdq3 ctq3 ocq4 kVq4 dcq4 pmq4 cdq4 ctq4 ocq5 kVq5 dcq5 pmq5 cdq5 ctq5 mc_q5 ocq6 kVq6 dcq6 pmq6 cdq6 ctq6 ocq7 kVq7 dcq7 pmq7 cdq7 ctq7 ocq8 kVq8 dcq8 pmq8 cdq8 ctq8 ocq9 kVq9 dcq9 pmq9 cdq9 ctq9 ocq10 kVq10 dcq10 pmq10 cdq10 ctq10 ocq11 kVq11 dcq11 pmq11 cdq11 ctq11 ocq12 kVq12 dcq12 pmq12 cdq12 ctq12 ocq13 kVq13 dcq13 pmq13 cdq13 ctq13 ocq14 kVq14 dcq14 pmq14 cdq14 ctq14 ocq15 kVq15 dcq15 pmq15 cdq15 ctq15 ocq16 kVq16 dcq16 pmq16 cdq16 ctq16 ocq17 kVq17 dcq17 pmq17 cdq17 ctq17 ocq18 kVq18 dcq18 pmq18 cdq18 ctq18 ocq19 kVq19 dcq19 pmq19 cdq19 ctq19 ocq20 kVq20 dcq20 pmq20 cdq20 ctq20 ocq21 kVq21 dcq21 pmq21 cdq21 ctq21 ocq22 kVq22 dcq22 pmq22 cdq22 ctq22 ocq23 kVq23 dcq23 pmq23 cdq23 ctq23 ocq24 kVq24 dcq24 pmq24 cdq24 ctq24 ocq25 kVq25 dcq25 pmq25 ctq25 ocq26 kVq26 dcq26 pmq26 ctq26 ocq27 kVq27 dcq27 pmq27 ctq27 ocq28 kVq28 dcq28 pmq28 ctq28 mcB mcv_MAX_ORDERS : Value} {tg_0 tg_1 tg_2 tg_3 tg_4 tkv_MAX_ORDERS : Tok} {rs_q5 rs_q6 rs_q7 : List Value}
    (aC_Book : PySem.W.nsIn K mainGlobals "Book" = some (some (.ref C_Book)))
    (ge_MailError : PySem.W.nsIn K mainGlobals "MailError" = some (some (.ref C_MailError)))
    (ge_InvalidOrder : PySem.W.nsIn K mainGlobals "InvalidOrder" = some (some (.ref C_InvalidOrder)))
    (ge_UnknownOrder : PySem.W.nsIn K mainGlobals "UnknownOrder" = some (some (.ref C_UnknownOrder)))
    (ge_InvalidAddress : PySem.W.nsIn K mainGlobals "InvalidAddress" = some (some (.ref C_InvalidAddress)))
    (ge_InvalidDay : PySem.W.nsIn K mainGlobals "InvalidDay" = some (some (.ref C_InvalidDay)))
    (ge_InvalidNumber : PySem.W.nsIn K mainGlobals "InvalidNumber" = some (some (.ref C_InvalidNumber)))
    (ob_InvalidOrder : oexB K C_InvalidOrder = true)
    (sa_InvalidOrder : PySem.W.findIn K (.ref C_InvalidOrder) "__setattr__" = some (some (.builtin "object.__setattr__")))
    (xs_InvalidOrder : PySem.W.subIn K (.ref C_InvalidOrder) (.type "BaseException") = some true)
    (xt_InvalidOrder : PySem.W.typeIn K (.ref C_InvalidOrder) = some (.type "type"))
    (xk_InvalidOrder : PySem.W.keepIn K (.ref C_InvalidOrder) = true)
    (ob_UnknownOrder : oexB K C_UnknownOrder = true)
    (sa_UnknownOrder : PySem.W.findIn K (.ref C_UnknownOrder) "__setattr__" = some (some (.builtin "object.__setattr__")))
    (xs_UnknownOrder : PySem.W.subIn K (.ref C_UnknownOrder) (.type "BaseException") = some true)
    (xt_UnknownOrder : PySem.W.typeIn K (.ref C_UnknownOrder) = some (.type "type"))
    (xk_UnknownOrder : PySem.W.keepIn K (.ref C_UnknownOrder) = true)
    (aq0 : PySem.W.nsIn K mainGlobals "is_integer" = some (some (.ref f_q0)))
    (lq0 : K.lookup f_q0 = some ⟨ocq0, odq0, .func (PySem.W.fnOf "is_integer" "is_integer" (defArgs s_is_integer) (defBody s_is_integer) (defScope s_is_integer) .none kVq0 dcq0 pmq0 anq0 cdq0 ctq0), slq0⟩)
    (cq0 : PySem.W.codeIn K cdq0 "is_integer" = true)
    (kq0 : PySem.W.keepIn K (.ref f_q0) = true)
    (aq1 : PySem.W.nsIn K mainGlobals "is_address" = some (some (.ref f_q1)))
    (lq1 : K.lookup f_q1 = some ⟨ocq1, odq1, .func (PySem.W.fnOf "is_address" "is_address" (defArgs s_is_address) (defBody s_is_address) (defScope s_is_address) .none kVq1 dcq1 pmq1 anq1 cdq1 ctq1), slq1⟩)
    (cq1 : PySem.W.codeIn K cdq1 "is_address" = true)
    (kq1 : PySem.W.keepIn K (.ref f_q1) = true)
    (aq2 : PySem.W.nsIn K mainGlobals "is_order" = some (some (.ref f_q2)))
    (lq2 : K.lookup f_q2 = some ⟨ocq2, odq2, .func (PySem.W.fnOf "is_order" "is_order" (defArgs s_is_order) (defBody s_is_order) (defScope s_is_order) .none kVq2 dcq2 pmq2 anq2 cdq2 ctq2), slq2⟩)
    (cq2 : PySem.W.codeIn K cdq2 "is_order" = true)
    (kq2 : PySem.W.keepIn K (.ref f_q2) = true)
    (aq3 : PySem.W.nsIn K mainGlobals "do_overlap" = some (some (.ref f_q3)))
    (lq3 : K.lookup f_q3 = some ⟨ocq3, odq3, .func (PySem.W.fnOf "do_overlap" "do_overlap" (defArgs s_do_overlap) (defBody s_do_overlap) (defScope s_do_overlap) .none kVq3 dcq3 pmq3 anq3 cdq3 ctq3), slq3⟩)
    (cq3 : PySem.W.codeIn K cdq3 "do_overlap" = true)
    (kq3 : PySem.W.keepIn K (.ref f_q3) = true)
    (aq4 : PySem.W.findIn K (.ref C_Book) "__init__" = some (some (.ref f_q4)))
    (iq4 : PySem.W.isFn K (.ref f_q4) = true)
    (lq4 : K.lookup f_q4 = some ⟨ocq4, odq4, .func (PySem.W.fnOf "__init__" "Book.__init__" (defArgs s_BookX_initX) (defBody s_BookX_initX) (defScope s_BookX_initX) .none kVq4 dcq4 pmq4 anq4 cdq4 ctq4), slq4⟩)
    (cq4 : PySem.W.codeIn K cdq4 "Book.__init__" = true)
    (kq4 : PySem.W.keepIn K (.ref f_q4) = true)
    (taq5 : PySem.W.typeIn K (.ref C_Book) = some mc_q5)
    (raq5 : PySem.W.readsIn K C_Book mc_q5 = true)
    (rbq5 : PySem.W.specialIn K (.ref C_Book) "__getattribute__" = some (some (.builtin "type.__getattribute__")))
    (aq5 : PySem.W.findCls K (.ref C_Book) mc_q5 "chain" = some (.get (.builtin "classmethod.__get__") (.ref p_q5) .none (.ref C_Book)))
    (prq5 : PySem.W.recIn K p_q5 "classmethod" = some (.ref f_q5 :: rs_q5))
    (fiq5 : PySem.W.fnIn K f_q5 = true)
    (lq5 : K.lookup f_q5 = some ⟨ocq5, odq5, .func (PySem.W.fnOf "chain" "Book.chain" (defArgs s_Book_chain) (defBody s_Book_chain) (defScope s_Book_chain) .none kVq5 dcq5 pmq5 anq5 cdq5 ctq5), slq5⟩)
    (cq5 : PySem.W.codeIn K cdq5 "Book.chain" = true)
    (kq5 : PySem.W.keepIn K (.ref f_q5) = true)
    (aq6 : PySem.W.findIn K (.ref C_Book) "orders" = some (some (.ref p_q6)))
    (pgq6 : PySem.W.specialIn K (.ref p_q6) "__get__" = some (some (.builtin "property.__get__")))
    (ptq6 : PySem.W.takesIn K (.ref p_q6) = some true)
    (prq6 : PySem.W.recIn K p_q6 "property" = some (.ref f_q6 :: rs_q6))
    (lq6 : K.lookup f_q6 = some ⟨ocq6, odq6, .func (PySem.W.fnOf "orders" "Book.orders" (defArgs s_Book_orders) (defBody s_Book_orders) (defScope s_Book_orders) .none kVq6 dcq6 pmq6 anq6 cdq6 ctq6), slq6⟩)
    (cq6 : PySem.W.codeIn K cdq6 "Book.orders" = true)
    (kq6 : PySem.W.keepIn K (.ref f_q6) = true)
    (aq7 : PySem.W.findIn K (.ref C_Book) "addresses" = some (some (.ref p_q7)))
    (pgq7 : PySem.W.specialIn K (.ref p_q7) "__get__" = some (some (.builtin "property.__get__")))
    (ptq7 : PySem.W.takesIn K (.ref p_q7) = some true)
    (prq7 : PySem.W.recIn K p_q7 "property" = some (.ref f_q7 :: rs_q7))
    (lq7 : K.lookup f_q7 = some ⟨ocq7, odq7, .func (PySem.W.fnOf "addresses" "Book.addresses" (defArgs s_Book_addresses) (defBody s_Book_addresses) (defScope s_Book_addresses) .none kVq7 dcq7 pmq7 anq7 cdq7 ctq7), slq7⟩)
    (cq7 : PySem.W.codeIn K cdq7 "Book.addresses" = true)
    (kq7 : PySem.W.keepIn K (.ref f_q7) = true)
    (aq8 : PySem.W.findIn K (.ref C_Book) "__len__" = some (some (.ref f_q8)))
    (iq8 : PySem.W.isFn K (.ref f_q8) = true)
    (lq8 : K.lookup f_q8 = some ⟨ocq8, odq8, .func (PySem.W.fnOf "__len__" "Book.__len__" (defArgs s_BookX_lenX) (defBody s_BookX_lenX) (defScope s_BookX_lenX) .none kVq8 dcq8 pmq8 anq8 cdq8 ctq8), slq8⟩)
    (cq8 : PySem.W.codeIn K cdq8 "Book.__len__" = true)
    (kq8 : PySem.W.keepIn K (.ref f_q8) = true)
    (aq9 : PySem.W.findIn K (.ref C_Book) "__getitem__" = some (some (.ref f_q9)))
    (iq9 : PySem.W.isFn K (.ref f_q9) = true)
    (lq9 : K.lookup f_q9 = some ⟨ocq9, odq9, .func (PySem.W.fnOf "__getitem__" "Book.__getitem__" (defArgs s_BookX_getitemX) (defBody s_BookX_getitemX) (defScope s_BookX_getitemX) .none kVq9 dcq9 pmq9 anq9 cdq9 ctq9), slq9⟩)
    (cq9 : PySem.W.codeIn K cdq9 "Book.__getitem__" = true)
    (kq9 : PySem.W.keepIn K (.ref f_q9) = true)
    (aq10 : PySem.W.findIn K (.ref C_Book) "__contains__" = some (some (.ref f_q10)))
    (iq10 : PySem.W.isFn K (.ref f_q10) = true)
    (lq10 : K.lookup f_q10 = some ⟨ocq10, odq10, .func (PySem.W.fnOf "__contains__" "Book.__contains__" (defArgs s_BookX_containsX) (defBody s_BookX_containsX) (defScope s_BookX_containsX) .none kVq10 dcq10 pmq10 anq10 cdq10 ctq10), slq10⟩)
    (cq10 : PySem.W.codeIn K cdq10 "Book.__contains__" = true)
    (kq10 : PySem.W.keepIn K (.ref f_q10) = true)
    (aq11 : PySem.W.findIn K (.ref C_Book) "__eq__" = some (some (.ref f_q11)))
    (iq11 : PySem.W.isFn K (.ref f_q11) = true)
    (lq11 : K.lookup f_q11 = some ⟨ocq11, odq11, .func (PySem.W.fnOf "__eq__" "Book.__eq__" (defArgs s_BookX_eqX) (defBody s_BookX_eqX) (defScope s_BookX_eqX) .none kVq11 dcq11 pmq11 anq11 cdq11 ctq11), slq11⟩)
    (cq11 : PySem.W.codeIn K cdq11 "Book.__eq__" = true)
    (kq11 : PySem.W.keepIn K (.ref f_q11) = true)
    (aq12 : PySem.W.findIn K (.ref C_Book) "__add__" = some (some (.ref f_q12)))
    (iq12 : PySem.W.isFn K (.ref f_q12) = true)
    (lq12 : K.lookup f_q12 = some ⟨ocq12, odq12, .func (PySem.W.fnOf "__add__" "Book.__add__" (defArgs s_BookX_addX) (defBody s_BookX_addX) (defScope s_BookX_addX) .none kVq12 dcq12 pmq12 anq12 cdq12 ctq12), slq12⟩)
    (cq12 : PySem.W.codeIn K cdq12 "Book.__add__" = true)
    (kq12 : PySem.W.keepIn K (.ref f_q12) = true)
    (aq13 : PySem.W.findIn K (.ref C_Book) "__rshift__" = some (some (.ref f_q13)))
    (iq13 : PySem.W.isFn K (.ref f_q13) = true)
    (lq13 : K.lookup f_q13 = some ⟨ocq13, odq13, .func (PySem.W.fnOf "__rshift__" "Book.__rshift__" (defArgs s_BookX_rshiftX) (defBody s_BookX_rshiftX) (defScope s_BookX_rshiftX) .none kVq13 dcq13 pmq13 anq13 cdq13 ctq13), slq13⟩)
    (cq13 : PySem.W.codeIn K cdq13 "Book.__rshift__" = true)
    (kq13 : PySem.W.keepIn K (.ref f_q13) = true)
    (aq14 : PySem.W.findIn K (.ref C_Book) "check_order" = some (some (.ref f_q14)))
    (iq14 : PySem.W.isFn K (.ref f_q14) = true)
    (lq14 : K.lookup f_q14 = some ⟨ocq14, odq14, .func (PySem.W.fnOf "check_order" "Book.check_order" (defArgs s_Book_check_order) (defBody s_Book_check_order) (defScope s_Book_check_order) .none kVq14 dcq14 pmq14 anq14 cdq14 ctq14), slq14⟩)
    (cq14 : PySem.W.codeIn K cdq14 "Book.check_order" = true)
    (kq14 : PySem.W.keepIn K (.ref f_q14) = true)
    (aq15 : PySem.W.findIn K (.ref C_Book) "without" = some (some (.ref f_q15)))
    (iq15 : PySem.W.isFn K (.ref f_q15) = true)
    (lq15 : K.lookup f_q15 = some ⟨ocq15, odq15, .func (PySem.W.fnOf "without" "Book.without" (defArgs s_Book_without) (defBody s_Book_without) (defScope s_Book_without) .none kVq15 dcq15 pmq15 anq15 cdq15 ctq15), slq15⟩)
    (cq15 : PySem.W.codeIn K cdq15 "Book.without" = true)
    (kq15 : PySem.W.keepIn K (.ref f_q15) = true)
    (aq16 : PySem.W.nsIn K mainGlobals "book_of" = some (some (.ref f_q16)))
    (lq16 : K.lookup f_q16 = some ⟨ocq16, odq16, .func (PySem.W.fnOf "book_of" "book_of" (defArgs s_book_of) (defBody s_book_of) (defScope s_book_of) .none kVq16 dcq16 pmq16 anq16 cdq16 ctq16), slq16⟩)
    (cq16 : PySem.W.codeIn K cdq16 "book_of" = true)
    (kq16 : PySem.W.keepIn K (.ref f_q16) = true)
    (aq17 : PySem.W.nsIn K mainGlobals "moved" = some (some (.ref f_q17)))
    (lq17 : K.lookup f_q17 = some ⟨ocq17, odq17, .func (PySem.W.fnOf "moved" "moved" (defArgs s_moved) (defBody s_moved) (defScope s_moved) .none kVq17 dcq17 pmq17 anq17 cdq17 ctq17), slq17⟩)
    (cq17 : PySem.W.codeIn K cdq17 "moved" = true)
    (kq17 : PySem.W.keepIn K (.ref f_q17) = true)
    (aq18 : PySem.W.findIn K (.ref C_InvalidOrder) "__init__" = some (some (.ref f_q18)))
    (iq18 : PySem.W.typeIn K (.ref f_q18) = some (.type "function"))
    (lq18 : K.lookup f_q18 = some ⟨ocq18, odq18, .func (PySem.W.fnOf "__init__" "InvalidOrder.__init__" (defArgs s_InvalidOrderX_initX) (defBody s_InvalidOrderX_initX) (defScope s_InvalidOrderX_initX) .none kVq18 dcq18 pmq18 anq18 cdq18 ctq18), slq18⟩)
    (cq18 : PySem.W.codeIn K cdq18 "InvalidOrder.__init__" = true)
    (kq18 : PySem.W.keepIn K (.ref f_q18) = true)
    (aq19 : PySem.W.findIn K (.ref C_UnknownOrder) "__init__" = some (some (.ref f_q19)))
    (iq19 : PySem.W.typeIn K (.ref f_q19) = some (.type "function"))
    (lq19 : K.lookup f_q19 = some ⟨ocq19, odq19, .func (PySem.W.fnOf "__init__" "UnknownOrder.__init__" (defArgs s_UnknownOrderX_initX) (defBody s_UnknownOrderX_initX) (defScope s_UnknownOrderX_initX) .none kVq19 dcq19 pmq19 anq19 cdq19 ctq19), slq19⟩)
    (cq19 : PySem.W.codeIn K cdq19 "UnknownOrder.__init__" = true)
    (kq19 : PySem.W.keepIn K (.ref f_q19) = true)
    (aq20 : PySem.W.nsIn K mainGlobals "_law_taken" = some (some (.ref f_q20)))
    (lq20 : K.lookup f_q20 = some ⟨ocq20, odq20, .func (PySem.W.fnOf "_law_taken" "_law_taken" (defArgs s__law_taken) (defBody s__law_taken) (defScope s__law_taken) .none kVq20 dcq20 pmq20 anq20 cdq20 ctq20), slq20⟩)
    (cq20 : PySem.W.codeIn K cdq20 "_law_taken" = true)
    (kq20 : PySem.W.keepIn K (.ref f_q20) = true)
    (aq21 : PySem.W.nsIn K mainGlobals "_law_alike" = some (some (.ref f_q21)))
    (lq21 : K.lookup f_q21 = some ⟨ocq21, odq21, .func (PySem.W.fnOf "_law_alike" "_law_alike" (defArgs s__law_alike) (defBody s__law_alike) (defScope s__law_alike) .none kVq21 dcq21 pmq21 anq21 cdq21 ctq21), slq21⟩)
    (cq21 : PySem.W.codeIn K cdq21 "_law_alike" = true)
    (kq21 : PySem.W.keepIn K (.ref f_q21) = true)
    (aq22 : PySem.W.nsIn K mainGlobals "_law_raised" = some (some (.ref f_q22)))
    (lq22 : K.lookup f_q22 = some ⟨ocq22, odq22, .func (PySem.W.fnOf "_law_raised" "_law_raised" (defArgs s__law_raised) (defBody s__law_raised) (defScope s__law_raised) .none kVq22 dcq22 pmq22 anq22 cdq22 ctq22), slq22⟩)
    (cq22 : PySem.W.codeIn K cdq22 "_law_raised" = true)
    (kq22 : PySem.W.keepIn K (.ref f_q22) = true)
    (aq23 : PySem.W.nsIn K mainGlobals "_law_orders" = some (some (.ref f_q23)))
    (lq23 : K.lookup f_q23 = some ⟨ocq23, odq23, .func (PySem.W.fnOf "_law_orders" "_law_orders" (defArgs s__law_orders) (defBody s__law_orders) (defScope s__law_orders) .none kVq23 dcq23 pmq23 anq23 cdq23 ctq23), slq23⟩)
    (cq23 : PySem.W.codeIn K cdq23 "_law_orders" = true)
    (kq23 : PySem.W.keepIn K (.ref f_q23) = true)
    (aq24 : PySem.W.nsIn K mainGlobals "_law_book" = some (some (.ref f_q24)))
    (lq24 : K.lookup f_q24 = some ⟨ocq24, odq24, .func (PySem.W.fnOf "_law_book" "_law_book" (defArgs s__law_book) (defBody s__law_book) (defScope s__law_book) .none kVq24 dcq24 pmq24 anq24 cdq24 ctq24), slq24⟩)
    (cq24 : PySem.W.codeIn K cdq24 "_law_book" = true)
    (kq24 : PySem.W.keepIn K (.ref f_q24) = true)
    (aq25 : PySem.W.nsIn K mainGlobals "_law_is_book" = some (some (.ref f_q25)))
    (lq25 : K.lookup f_q25 = some ⟨ocq25, odq25, .func (PySem.W.fnOf "_law_is_book" "_law_is_book" (defArgs s__law_is_book) (defBody s__law_is_book) (defScope s__law_is_book) .none kVq25 dcq25 pmq25 anq25 (.ref cL_q25) ctq25), slq25⟩)
    (cq25 : PySem.W.codeIn K (.ref cL_q25) "_law_is_book" = true)
    (kq25 : PySem.W.keepIn K (.ref f_q25) = true)
    (aq26 : PySem.W.nsIn K mainGlobals "_law_are_rejected" = some (some (.ref f_q26)))
    (lq26 : K.lookup f_q26 = some ⟨ocq26, odq26, .func (PySem.W.fnOf "_law_are_rejected" "_law_are_rejected" (defArgs s__law_are_rejected) (defBody s__law_are_rejected) (defScope s__law_are_rejected) .none kVq26 dcq26 pmq26 anq26 (.ref cL_q26) ctq26), slq26⟩)
    (cq26 : PySem.W.codeIn K (.ref cL_q26) "_law_are_rejected" = true)
    (kq26 : PySem.W.keepIn K (.ref f_q26) = true)
    (aq27 : PySem.W.nsIn K mainGlobals "_law_are_chains" = some (some (.ref f_q27)))
    (lq27 : K.lookup f_q27 = some ⟨ocq27, odq27, .func (PySem.W.fnOf "_law_are_chains" "_law_are_chains" (defArgs s__law_are_chains) (defBody s__law_are_chains) (defScope s__law_are_chains) .none kVq27 dcq27 pmq27 anq27 (.ref cL_q27) ctq27), slq27⟩)
    (cq27 : PySem.W.codeIn K (.ref cL_q27) "_law_are_chains" = true)
    (kq27 : PySem.W.keepIn K (.ref f_q27) = true)
    (aq28 : PySem.W.nsIn K mainGlobals "law" = some (some (.ref f_q28)))
    (lq28 : K.lookup f_q28 = some ⟨ocq28, odq28, .func (PySem.W.fnOf "law" "law" (defArgs s_law) (defBody s_law) (defScope s_law) .none kVq28 dcq28 pmq28 anq28 (.ref cL_q28) ctq28), slq28⟩)
    (cq28 : PySem.W.codeIn K (.ref cL_q28) "law" = true)
    (kq28 : PySem.W.keepIn K (.ref f_q28) = true)
    (fi_q9 : PySem.W.fnIn K f_q9 = true)
    (pg_Book : PySem.W.plainGet K C_Book Str.empty = true)
    (hd_Book : PySem.W.hasDictIn K C_Book = true)
    (po_Book : PySem.W.plainOver K C_Book = true)
    (sa_Book : PySem.W.findIn K (.ref C_Book) "__setattr__" = some (some (.builtin "object.__setattr__")))
    (mk_Book : PySem.W.makesIn K C_Book = true)
    (kc_Book : PySem.W.keepIn K (.ref C_Book) = true)
    (n_Book_listed : PySem.W.findIn K (.ref C_Book) "listed" = some none)
    (n_Book___rrshift__ : PySem.W.findIn K (.ref C_Book) "__rrshift__" = some none)
    (c_LETTERS : PySem.W.nsIn K mainGlobals "LETTERS" = some (some (.str "abcdefghijklmnopqrstuvwxyz" tg_0)))
    (c_MAX_LETTERS : PySem.W.nsIn K mainGlobals "MAX_LETTERS" = some (some (.int 8 tg_1)))
    (c_MAX_ORDERS_books : PySem.W.nsIn K mainGlobals "MAX_ORDERS_books" = some (some (.int 30 tg_2)))
    (c_MAX_DAY : PySem.W.nsIn K mainGlobals "MAX_DAY" = some (some (.int 1000000000000000000 tg_3)))
    (c_MAX_WAY : PySem.W.nsIn K mainGlobals "MAX_WAY" = some (some (.int 30 tg_4)))
    (taB : PySem.W.typeIn K (.ref C_MailError) = some mcB)
    (raB : PySem.W.readsIn K C_MailError mcB = true)
    (rbB : PySem.W.specialIn K (.ref C_MailError) "__getattribute__" = some (some (.builtin "type.__getattribute__")))
    (fcB : PySem.W.findCls K (.ref C_MailError) mcB "__init__" = some (.val (.builtin "ValueError.__init__")))
    (xb_InvalidNumber : PySem.W.excIn K C_InvalidNumber [.type "ValueError", .type "Exception", .type "BaseException", .type "object"] "ValueError.__new__" = true)
    (xk_InvalidNumber : PySem.W.keepIn K (.ref C_InvalidNumber) = true)
    (xs_InvalidNumber : PySem.W.subIn K (.ref C_InvalidNumber) (.type "BaseException") = some true)
    (xt_InvalidNumber : PySem.W.typeIn K (.ref C_InvalidNumber) = some (.type "type"))
    (eg_InvalidNumber : PySem.W.findIn K (.ref C_InvalidNumber) "__getattribute__" = some (some (.builtin "BaseException.__getattribute__")))
    (ek_InvalidNumber : PySem.W.findIn K (.ref C_InvalidNumber) "__getattr__" = some none)
    (es_InvalidNumber : PySem.W.subIn K (.ref C_InvalidNumber) (.type "BaseException") = some true)
    (ed_InvalidNumber : PySem.W.hasDictIn K C_InvalidNumber = true)
    (ea_InvalidNumber : PySem.W.findIn K (.ref C_InvalidNumber) "__class__" = some (some (.builtin "object.__class__")))
    (en_InvalidNumber : PySem.W.specialIn K (.builtin "object.__class__") "__get__" = some (some (.builtin "getset_descriptor.__get__")))
    (et_InvalidNumber : PySem.W.takesIn K (.builtin "object.__class__") = some true)
    (em_InvalidNumber : PySem.W.mroIn K C_InvalidNumber (.type "object") = some true)
    (ex_InvalidNumber : PySem.W.exmOne K (.ref C_InvalidNumber) (.ref C_MailError) = some true)
    (ev_InvalidNumber : PySem.W.kitOne K (.ref C_InvalidNumber) (.type "ValueError") = some true)
    (kt_InvalidNumber_InvalidOrder : PySem.W.kitOne K (.ref C_InvalidNumber) (.ref C_InvalidOrder) = some false)
    (kt_InvalidNumber_UnknownOrder : PySem.W.kitOne K (.ref C_InvalidNumber) (.ref C_UnknownOrder) = some false)
    (kt_InvalidNumber_InvalidAddress : PySem.W.kitOne K (.ref C_InvalidNumber) (.ref C_InvalidAddress) = some false)
    (kt_InvalidNumber_InvalidDay : PySem.W.kitOne K (.ref C_InvalidNumber) (.ref C_InvalidDay) = some false)
    (kt_InvalidNumber_InvalidNumber : PySem.W.kitOne K (.ref C_InvalidNumber) (.ref C_InvalidNumber) = some true)
    (eg_InvalidOrder : PySem.W.findIn K (.ref C_InvalidOrder) "__getattribute__" = some (some (.builtin "BaseException.__getattribute__")))
    (ek_InvalidOrder : PySem.W.findIn K (.ref C_InvalidOrder) "__getattr__" = some none)
    (es_InvalidOrder : PySem.W.subIn K (.ref C_InvalidOrder) (.type "BaseException") = some true)
    (ed_InvalidOrder : PySem.W.hasDictIn K C_InvalidOrder = true)
    (ea_InvalidOrder : PySem.W.findIn K (.ref C_InvalidOrder) "__class__" = some (some (.builtin "object.__class__")))
    (en_InvalidOrder : PySem.W.specialIn K (.builtin "object.__class__") "__get__" = some (some (.builtin "getset_descriptor.__get__")))
    (et_InvalidOrder : PySem.W.takesIn K (.builtin "object.__class__") = some true)
    (em_InvalidOrder : PySem.W.mroIn K C_InvalidOrder (.type "object") = some true)
    (ex_InvalidOrder : PySem.W.exmOne K (.ref C_InvalidOrder) (.ref C_MailError) = some true)
    (ev_InvalidOrder : PySem.W.kitOne K (.ref C_InvalidOrder) (.type "ValueError") = some true)
    (kt_InvalidOrder_InvalidOrder : PySem.W.kitOne K (.ref C_InvalidOrder) (.ref C_InvalidOrder) = some true)
    (kt_InvalidOrder_UnknownOrder : PySem.W.kitOne K (.ref C_InvalidOrder) (.ref C_UnknownOrder) = some false)
    (kt_InvalidOrder_InvalidAddress : PySem.W.kitOne K (.ref C_InvalidOrder) (.ref C_InvalidAddress) = some false)
    (kt_InvalidOrder_InvalidDay : PySem.W.kitOne K (.ref C_InvalidOrder) (.ref C_InvalidDay) = some false)
    (kt_InvalidOrder_InvalidNumber : PySem.W.kitOne K (.ref C_InvalidOrder) (.ref C_InvalidNumber) = some false)
    (eg_UnknownOrder : PySem.W.findIn K (.ref C_UnknownOrder) "__getattribute__" = some (some (.builtin "BaseException.__getattribute__")))
    (ek_UnknownOrder : PySem.W.findIn K (.ref C_UnknownOrder) "__getattr__" = some none)
    (es_UnknownOrder : PySem.W.subIn K (.ref C_UnknownOrder) (.type "BaseException") = some true)
    (ed_UnknownOrder : PySem.W.hasDictIn K C_UnknownOrder = true)
    (ea_UnknownOrder : PySem.W.findIn K (.ref C_UnknownOrder) "__class__" = some (some (.builtin "object.__class__")))
    (en_UnknownOrder : PySem.W.specialIn K (.builtin "object.__class__") "__get__" = some (some (.builtin "getset_descriptor.__get__")))
    (et_UnknownOrder : PySem.W.takesIn K (.builtin "object.__class__") = some true)
    (em_UnknownOrder : PySem.W.mroIn K C_UnknownOrder (.type "object") = some true)
    (ex_UnknownOrder : PySem.W.exmOne K (.ref C_UnknownOrder) (.ref C_MailError) = some true)
    (ev_UnknownOrder : PySem.W.kitOne K (.ref C_UnknownOrder) (.type "ValueError") = some true)
    (kt_UnknownOrder_InvalidOrder : PySem.W.kitOne K (.ref C_UnknownOrder) (.ref C_InvalidOrder) = some false)
    (kt_UnknownOrder_UnknownOrder : PySem.W.kitOne K (.ref C_UnknownOrder) (.ref C_UnknownOrder) = some true)
    (kt_UnknownOrder_InvalidAddress : PySem.W.kitOne K (.ref C_UnknownOrder) (.ref C_InvalidAddress) = some false)
    (kt_UnknownOrder_InvalidDay : PySem.W.kitOne K (.ref C_UnknownOrder) (.ref C_InvalidDay) = some false)
    (kt_UnknownOrder_InvalidNumber : PySem.W.kitOne K (.ref C_UnknownOrder) (.ref C_InvalidNumber) = some false)
    (na_InvalidOrder : PySem.W.findIn K (.ref C_InvalidOrder) "index" = some none)
    (na_UnknownOrder : PySem.W.findIn K (.ref C_UnknownOrder) "index" = some none)
    (oc_Book : PySem.W.findIn K (.ref C_Book) "__class__" = some (some (.builtin "object.__class__")))
    (on_Book : PySem.W.specialIn K (.builtin "object.__class__") "__get__" = some (some (.builtin "getset_descriptor.__get__")))
    (ot_Book : PySem.W.takesIn K (.builtin "object.__class__") = some true)
    (om_Book : PySem.W.mroIn K C_Book (.type "object") = some true)
    (oe_Book : PySem.W.findIn K (.ref C_Book) "__ne__" = some (some (.builtin "object.__ne__")))
    (ki_Book : PySem.W.kitOne K (.ref C_Book) (.ref C_Book) = some true)
    (ku_Book : PySem.W.kitOne K (.type "tuple") (.ref C_Book) = some false)
    (tv_MAX_ORDERS : PySem.W.typeIn K (.ref C_Book) = some mcv_MAX_ORDERS)
    (rv_MAX_ORDERS : PySem.W.readsIn K C_Book mcv_MAX_ORDERS = true)
    (gv_MAX_ORDERS : PySem.W.specialIn K (.ref C_Book) "__getattribute__" = some (some (.builtin "type.__getattribute__")))
    (fv_MAX_ORDERS : PySem.W.findCls K (.ref C_Book) mcv_MAX_ORDERS "MAX_ORDERS" = some (.val (.int 30 tkv_MAX_ORDERS)))
    (b_isinstance : PySem.W.nsIn K mainGlobals "isinstance" = some none)
    (b_int : PySem.W.nsIn K mainGlobals "int" = some none)
    (b_bool : PySem.W.nsIn K mainGlobals "bool" = some none)
    (b_str : PySem.W.nsIn K mainGlobals "str" = some none)
    (b_tuple : PySem.W.nsIn K mainGlobals "tuple" = some none)
    (b_list : PySem.W.nsIn K mainGlobals "list" = some none)
    (b_len : PySem.W.nsIn K mainGlobals "len" = some none)
    (b_all : PySem.W.nsIn K mainGlobals "all" = some none)
    (b_enumerate : PySem.W.nsIn K mainGlobals "enumerate" = some none)
    (b_range : PySem.W.nsIn K mainGlobals "range" = some none)
    (b_max : PySem.W.nsIn K mainGlobals "max" = some none)
    (b_sorted : PySem.W.nsIn K mainGlobals "sorted" = some none)
    (b_set : PySem.W.nsIn K mainGlobals "set" = some none)
    (b_zip : PySem.W.nsIn K mainGlobals "zip" = some none)
    (b_ValueError : PySem.W.nsIn K mainGlobals "ValueError" = some none)
    (sf : PySem.W.selfFirst K C_Book = true)
    (hTb : ∀ P ∈ [PL_q27, PL_q26, PL_q25, PL_q28], h.get? P = some (PySem.W.tabObj #[]))
    (hnP_PL_q25 : K.lookup PL_q25 = none)
    (hcH_PL_q25 : PySem.W.codeHdIn K cL_q25 PL_q25 = true)
    (hnP_PL_q26 : K.lookup PL_q26 = none)
    (hcH_PL_q26 : PySem.W.codeHdIn K cL_q26 PL_q26 = true)
    (hnP_PL_q27 : K.lookup PL_q27 = none)
    (hcH_PL_q27 : PySem.W.codeHdIn K cL_q27 PL_q27 = true)
    (hnP_PL_q28 : K.lookup PL_q28 = none)
    (hcH_PL_q28 : PySem.W.codeHdIn K cL_q28 PL_q28 = true)
    (hne_0_1 : PL_q25 ≠ PL_q26)
    (hne_0_2 : PL_q25 ≠ PL_q27)
    (hne_0_3 : PL_q25 ≠ PL_q28)
    (hne_1_2 : PL_q26 ≠ PL_q27)
    (hne_1_3 : PL_q26 ≠ PL_q28)
    (hne_2_3 : PL_q27 ≠ PL_q28) :
    LamX.LawAtS l w K CX0 11 63 "_law_script" mg fa h := by
  have e := hfa.symm.trans (PySem.W.mg_of X G aq28)
  cases e
  have Fq0 := fun_mk (st := s_is_integer) lq0 cq0 kq0
  have bq0 := Fq0.binds (ps := ["value", "low", "high"]) fun _ _ _ _ _ _ us hl => match us, hl with | [_, _, _], _ => rfl
  have Fq1 := fun_mk (st := s_is_address) lq1 cq1 kq1
  have bq1 := Fq1.binds (ps := ["value"]) fun _ _ _ _ _ _ us hl => match us, hl with | [_], _ => rfl
  have Fq2 := fun_mk (st := s_is_order) lq2 cq2 kq2
  have bq2 := Fq2.binds (ps := ["value"]) fun _ _ _ _ _ _ us hl => match us, hl with | [_], _ => rfl
  have Fq3 := fun_mk (st := s_do_overlap) lq3 cq3 kq3
  have bq3 := Fq3.binds (ps := ["one", "other"]) fun _ _ _ _ _ _ us hl => match us, hl with | [_, _], _ => rfl
  have Fq4 := fun_mk (st := s_BookX_initX) lq4 cq4 kq4
  have Fq5 := fun_mk (st := s_Book_chain) lq5 cq5 kq5
  have Fq6 := fun_mk (st := s_Book_orders) lq6 cq6 kq6
  have bq6 := Fq6.binds (ps := ["self"]) fun _ _ _ _ _ _ us hl => match us, hl with | [_], _ => rfl
  have Fq7 := fun_mk (st := s_Book_addresses) lq7 cq7 kq7
  have bq7 := Fq7.binds (ps := ["self"]) fun _ _ _ _ _ _ us hl => match us, hl with | [_], _ => rfl
  have Fq8 := fun_mk (st := s_BookX_lenX) lq8 cq8 kq8
  have bq8 := Fq8.binds (ps := ["self"]) fun _ _ _ _ _ _ us hl => match us, hl with | [_], _ => rfl
  have Fq9 := fun_mk (st := s_BookX_getitemX) lq9 cq9 kq9
  have bq9 := Fq9.binds (ps := ["self", "index"]) fun _ _ _ _ _ _ us hl => match us, hl with | [_, _], _ => rfl
  have Fq10 := fun_mk (st := s_BookX_containsX) lq10 cq10 kq10
  have bq10 := Fq10.binds (ps := ["self", "address"]) fun _ _ _ _ _ _ us hl => match us, hl with | [_, _], _ => rfl
  have Fq11 := fun_mk (st := s_BookX_eqX) lq11 cq11 kq11
  have bq11 := Fq11.binds (ps := ["self", "other"]) fun _ _ _ _ _ _ us hl => match us, hl with | [_, _], _ => rfl
  have Fq12 := fun_mk (st := s_BookX_addX) lq12 cq12 kq12
  have bq12 := Fq12.binds (ps := ["self", "other"]) fun _ _ _ _ _ _ us hl => match us, hl with | [_, _], _ => rfl
  have Fq13 := fun_mk (st := s_BookX_rshiftX) lq13 cq13 kq13
  have bq13 := Fq13.binds (ps := ["self", "days"]) fun _ _ _ _ _ _ us hl => match us, hl with | [_, _], _ => rfl
  have Fq14 := fun_mk (st := s_Book_check_order) lq14 cq14 kq14
  have bq14 := Fq14.binds (ps := ["self", "index"]) fun _ _ _ _ _ _ us hl => match us, hl with | [_, _], _ => rfl
  have Fq15 := fun_mk (st := s_Book_without) lq15 cq15 kq15
  have Fq16 := fun_mk (st := s_book_of) lq16 cq16 kq16
  have bq16 := Fq16.binds (ps := ["orders"]) fun _ _ _ _ _ _ us hl => match us, hl with | [_], _ => rfl
  have Fq17 := fun_mk (st := s_moved) lq17 cq17 kq17
  have bq17 := Fq17.binds (ps := ["orders", "days"]) fun _ _ _ _ _ _ us hl => match us, hl with | [_, _], _ => rfl
  have Fq18 := fun_mk (st := s_InvalidOrderX_initX) lq18 cq18 kq18
  have bq18 := Fq18.binds (ps := ["self", "index"]) fun _ _ _ _ _ _ us hl => match us, hl with | [_, _], _ => rfl
  have Fq19 := fun_mk (st := s_UnknownOrderX_initX) lq19 cq19 kq19
  have bq19 := Fq19.binds (ps := ["self", "index"]) fun _ _ _ _ _ _ us hl => match us, hl with | [_, _], _ => rfl
  have Fq20 := fun_mk (st := s__law_taken) lq20 cq20 kq20
  have bq20 := Fq20.binds (ps := ["_law_row", "_law_many"]) fun _ _ _ _ _ _ us hl => match us, hl with | [_, _], _ => rfl
  have Fq21 := fun_mk (st := s__law_alike) lq21 cq21 kq21
  have bq21 := Fq21.binds (ps := ["_law_one", "_law_due"]) fun _ _ _ _ _ _ us hl => match us, hl with | [_, _], _ => rfl
  have Fq22 := fun_mk (st := s__law_raised) lq22 cq22 kq22
  have bq22 := Fq22.binds (ps := ["_law_work"]) fun _ _ _ _ _ _ us hl => match us, hl with | [_], _ => rfl
  have Fq23 := fun_mk (st := s__law_orders) lq23 cq23 kq23
  have bq23 := Fq23.binds (ps := ["_law_row", "_law_most", "_law_long"]) fun _ _ _ _ _ _ us hl => match us, hl with | [_, _, _], _ => rfl
  have Fq24 := fun_mk (st := s__law_book) lq24 cq24 kq24
  have bq24 := Fq24.binds (ps := ["_law_orders_here"]) fun _ _ _ _ _ _ us hl => match us, hl with | [_], _ => rfl
  have Fq25 := fun_mk (st := s__law_is_book) lq25 cq25 kq25
  have bq25 := Fq25.binds (ps := ["_law_book_here", "_law_orders_here"]) fun _ _ _ _ _ _ us hl => match us, hl with | [_, _], _ => rfl
  have Fq26 := fun_mk (st := s__law_are_rejected) lq26 cq26 kq26
  have bq26 := Fq26.binds (ps := ["_law_orders_here"]) fun _ _ _ _ _ _ us hl => match us, hl with | [_], _ => rfl
  have Fq27 := fun_mk (st := s__law_are_chains) lq27 cq27 kq27
  have bq27 := Fq27.binds (ps := []) fun _ _ _ _ _ _ us hl => match us, hl with | [], _ => rfl
  have Fq28 := fun_mk (st := s_law) lq28 cq28 kq28
  have bq28 := Fq28.binds (ps := ["_law_script"]) fun _ _ _ _ _ _ us hl => match us, hl with | [_], _ => rfl
  have DC_q25 : GDefC K mg "_law_is_book" s__law_is_book ["_law_book_here", "_law_orders_here"] cL_q25 := ⟨_, _, ⟨⟨_, _, _, _, _, _, _, _, rfl, lq25, cq25⟩⟩, PySem.W.mg_of X G aq25, bq25, kq25⟩
  have DC_q26 : GDefC K mg "_law_are_rejected" s__law_are_rejected ["_law_orders_here"] cL_q26 := ⟨_, _, ⟨⟨_, _, _, _, _, _, _, _, rfl, lq26, cq26⟩⟩, PySem.W.mg_of X G aq26, bq26, kq26⟩
  have DC_q27 : GDefC K mg "_law_are_chains" s__law_are_chains [] cL_q27 := ⟨_, _, ⟨⟨_, _, _, _, _, _, _, _, rfl, lq27, cq27⟩⟩, PySem.W.mg_of X G aq27, bq27, kq27⟩
  have FC : FunC K "law" "law" s_law _ _ cL_q28 := ⟨⟨_, _, _, _, _, _, _, _, rfl, lq28, cq28⟩⟩
  have T : Top K mg C_Book C_MailError C_InvalidOrder C_UnknownOrder C_InvalidAddress C_InvalidDay C_InvalidNumber := ⟨⟨_, _, Fq0, PySem.W.mg_of X G aq0, bq0⟩,
    ⟨_, _, Fq1, PySem.W.mg_of X G aq1, bq1⟩,
    ⟨_, _, Fq2, PySem.W.mg_of X G aq2, bq2⟩,
    ⟨_, _, Fq3, PySem.W.mg_of X G aq3, bq3⟩,
    ⟨_, _, Fq4, ⟨mk_Book, aq4, iq4, kc_Book⟩, PySem.W.mg_of X G aC_Book, bind_star1 (B := fun xs => bindArgs _ ⟨xs, []⟩) (fun _ => rfl) (fun _ _ _ => rfl)⟩,
    ⟨_, _, _, _, Fq5, ⟨raq5, rbq5⟩, ⟨aq5, ⟨_, prq5⟩, fiq5⟩, bind_star4 (B := fun xs => bindArgs _ ⟨xs, []⟩) (fun _ _ _ _ => rfl) (fun _ _ _ _ _ _ => rfl)⟩,
    ⟨_, _, _, Fq6, ⟨aq6, pgq6, ptq6, ⟨_, prq6⟩⟩, bq6⟩,
    ⟨_, _, _, Fq7, ⟨aq7, pgq7, ptq7, ⟨_, prq7⟩⟩, bq7⟩,
    ⟨_, _, Fq8, ⟨aq8, iq8, kq8⟩, bq8⟩,
    ⟨_, _, Fq9, ⟨aq9, iq9, kq9⟩, bq9⟩,
    ⟨_, _, Fq10, ⟨aq10, iq10, kq10⟩, bq10⟩,
    ⟨_, _, Fq11, ⟨aq11, iq11, kq11⟩, bq11⟩,
    ⟨_, _, Fq12, ⟨aq12, iq12, kq12⟩, bq12⟩,
    ⟨_, _, Fq13, ⟨aq13, iq13, kq13⟩, bq13⟩,
    ⟨_, _, Fq14, ⟨aq14, iq14, kq14⟩, bq14⟩,
    ⟨_, _, Fq15, ⟨aq15, iq15, kq15⟩, bind_star1 (B := fun xs => bindArgs _ ⟨xs, []⟩) (fun _ => rfl) (fun _ _ _ => rfl)⟩,
    ⟨_, _, Fq16, PySem.W.mg_of X G aq16, bq16⟩,
    ⟨_, _, Fq17, PySem.W.mg_of X G aq17, bq17⟩,
    ⟨⟨_, _, Fq18, aq18, iq18, bq18⟩, oex_of ob_InvalidOrder sa_InvalidOrder xs_InvalidOrder xt_InvalidOrder xk_InvalidOrder, PySem.W.mg_of X G ge_InvalidOrder⟩,
    ⟨⟨_, _, Fq19, aq19, iq19, bq19⟩, oex_of ob_UnknownOrder sa_UnknownOrder xs_UnknownOrder xt_UnknownOrder xk_UnknownOrder, PySem.W.mg_of X G ge_UnknownOrder⟩,
    ⟨_, _, Fq20, PySem.W.mg_of X G aq20, bq20⟩,
    ⟨_, _, Fq21, PySem.W.mg_of X G aq21, bq21⟩,
    ⟨_, _, Fq22, PySem.W.mg_of X G aq22, bq22⟩,
    ⟨_, _, Fq23, PySem.W.mg_of X G aq23, bq23⟩,
    ⟨_, _, Fq24, PySem.W.mg_of X G aq24, bq24⟩,
    ⟨_, _, Fq25, PySem.W.mg_of X G aq25, bq25⟩,
    ⟨_, _, Fq26, PySem.W.mg_of X G aq26, bq26⟩,
    ⟨_, _, Fq27, PySem.W.mg_of X G aq27, bq27⟩,
    ⟨_, _, Fq28, PySem.W.mg_of X G aq28, bq28⟩,
    ⟨pg_Book, hd_Book, po_Book, sa_Book⟩,
    fun f z => by rw [aq9] at z; cases z; exact fi_q9,
    n_Book_listed,
    n_Book___rrshift__,
    ⟨_, PySem.W.mg_of X G c_LETTERS⟩,
    ⟨_, PySem.W.mg_of X G c_MAX_LETTERS⟩,
    ⟨_, PySem.W.mg_of X G c_MAX_ORDERS_books⟩,
    ⟨_, PySem.W.mg_of X G c_MAX_DAY⟩,
    ⟨_, PySem.W.mg_of X G c_MAX_WAY⟩,
    PySem.W.mg_of X G ge_MailError,
    PySem.W.mg_of X G ge_InvalidOrder,
    PySem.W.mg_of X G ge_UnknownOrder,
    PySem.W.mg_of X G ge_InvalidAddress,
    PySem.W.mg_of X G ge_InvalidDay,
    PySem.W.mg_of X G ge_InvalidNumber,
    ⟨⟨_, ⟨raB, rbB⟩, fcB⟩⟩,
    ⟨xb_InvalidNumber, PySem.W.mg_of X G ge_InvalidNumber, xk_InvalidNumber, xs_InvalidNumber, xt_InvalidNumber⟩,
    ⟨⟨eg_InvalidNumber, ek_InvalidNumber, es_InvalidNumber, ed_InvalidNumber, ea_InvalidNumber, en_InvalidNumber, et_InvalidNumber, em_InvalidNumber⟩, ex_InvalidNumber, ev_InvalidNumber⟩,
    kt_InvalidNumber_InvalidOrder,
    kt_InvalidNumber_UnknownOrder,
    kt_InvalidNumber_InvalidAddress,
    kt_InvalidNumber_InvalidDay,
    kt_InvalidNumber_InvalidNumber,
    ⟨⟨eg_InvalidOrder, ek_InvalidOrder, es_InvalidOrder, ed_InvalidOrder, ea_InvalidOrder, en_InvalidOrder, et_InvalidOrder, em_InvalidOrder⟩, ex_InvalidOrder, ev_InvalidOrder⟩,
    kt_InvalidOrder_InvalidOrder,
    kt_InvalidOrder_UnknownOrder,
    kt_InvalidOrder_InvalidAddress,
    kt_InvalidOrder_InvalidDay,
    kt_InvalidOrder_InvalidNumber,
    ⟨⟨eg_UnknownOrder, ek_UnknownOrder, es_UnknownOrder, ed_UnknownOrder, ea_UnknownOrder, en_UnknownOrder, et_UnknownOrder, em_UnknownOrder⟩, ex_UnknownOrder, ev_UnknownOrder⟩,
    kt_UnknownOrder_InvalidOrder,
    kt_UnknownOrder_UnknownOrder,
    kt_UnknownOrder_InvalidAddress,
    kt_UnknownOrder_InvalidDay,
    kt_UnknownOrder_InvalidNumber,
    na_InvalidOrder,
    na_UnknownOrder,
    ⟨oc_Book, on_Book, ot_Book, om_Book, oe_Book, ki_Book, ku_Book⟩,
    PySem.W.mg_of X G aC_Book,
    ⟨_, _, ⟨rv_MAX_ORDERS, gv_MAX_ORDERS⟩, ⟨fv_MAX_ORDERS, ⟨_, rfl⟩⟩⟩,
    PySem.W.mg_none_of X G b_isinstance,
    PySem.W.mg_none_of X G b_int,
    PySem.W.mg_none_of X G b_bool,
    PySem.W.mg_none_of X G b_str,
    PySem.W.mg_none_of X G b_tuple,
    PySem.W.mg_none_of X G b_list,
    PySem.W.mg_none_of X G b_len,
    PySem.W.mg_none_of X G b_all,
    PySem.W.mg_none_of X G b_enumerate,
    PySem.W.mg_none_of X G b_range,
    PySem.W.mg_none_of X G b_max,
    PySem.W.mg_none_of X G b_sorted,
    PySem.W.mg_none_of X G b_set,
    PySem.W.mg_none_of X G b_zip,
    PySem.W.mg_none_of X G b_ValueError⟩
  refine ⟨_, [(cL_q25, PL_q25), (cL_q26, PL_q26), (cL_q27, PL_q27), (cL_q28, PL_q28)], spLawT K [PL_q25, PL_q26, PL_q27, PL_q28], fun p hp => (by simp only [List.mem_cons, List.not_mem_nil, or_false] at hp; rcases hp with hp | hp | hp | hp; (rw [hp]; exact hTb PL_q25 (by simp)); (rw [hp]; exact hTb PL_q26 (by simp)); (rw [hp]; exact hTb PL_q27 (by simp)); (rw [hp]; exact hTb PL_q28 (by simp))), fun p hp => (by simp only [List.mem_cons, List.not_mem_nil, or_false] at hp; rcases hp with hp | hp | hp | hp; (rw [hp]; exact hnP_PL_q25); (rw [hp]; exact hnP_PL_q26); (rw [hp]; exact hnP_PL_q27); (rw [hp]; exact hnP_PL_q28)), fun p hp => (by simp only [List.mem_cons, List.not_mem_nil, or_false] at hp; rcases hp with hp | hp | hp | hp; (rw [hp]; exact PySem.W.codeHd_of_K X hcH_PL_q25); (rw [hp]; exact PySem.W.codeHd_of_K X hcH_PL_q26); (rw [hp]; exact PySem.W.codeHd_of_K X hcH_PL_q27); (rw [hp]; exact PySem.W.codeHd_of_K X hcH_PL_q28)), fun s v => ?_, fun H a ns hl hb hH hS => ⟨a, ns, rfl, hS, hl, fun p hp => (by simp only [List.mem_cons, List.not_mem_nil, or_false] at hp; rcases hp with hp | hp | hp | hp; (rw [hp]; exact hH (cL_q25, PL_q25) (by simp)); (rw [hp]; exact hH (cL_q26, PL_q26) (by simp)); (rw [hp]; exact hH (cL_q27, PL_q27) (by simp)); (rw [hp]; exact hH (cL_q28, PL_q28) (by simp))), fun _ => rfl⟩, fun base _ _ tb => ok_law T sf FC (tb (cL_q28, PL_q28) (by simp)) DC_q25 (tb (cL_q25, PL_q25) (by simp)) DC_q26 (tb (cL_q26, PL_q26) (by simp)) DC_q27 (tb (cL_q27, PL_q27) (by simp)) hne_0_1 hne_0_2 hne_0_3 hne_1_2 hne_1_3 hne_2_3⟩
  exact .of_eq rfl
end MF
open PySem PySem.W PyProof.Rows
set_option maxRecDepth 100000 in
set_option maxHeartbeats 0 in
theorem PySem.Challenge.cw_mailforwards_k01_books_holds : PySem.Challenge.rw_mailforwards_k01_books.Holds := by
  w_on; o_law; k_head; (case hw => w_witness2)
  k_fill
  refine LamX.walk_ofTs (l := PySem.Challenge.rw_mailforwards_k01_books) (n := 63) (k := 11) (x := "_law_script") (CX := fun _ => C8.CX0) rfl (by decide) rfl ⟨rfl, by decide, by decide⟩ (fun w h Y => PySem.W.km_in_of Y) ?F (fun _ _ _ _ _ z => z)
  case F =>
    intro w mg fa h Y KX G hmg
    refine' MF.all_mk KX G hmg ?aC_Book ?ge_MailError ?ge_InvalidOrder ?ge_UnknownOrder ?ge_InvalidAddress ?ge_InvalidDay ?ge_InvalidNumber ?ob_InvalidOrder ?sa_InvalidOrder ?xs_InvalidOrder ?xt_InvalidOrder ?xk_InvalidOrder ?ob_UnknownOrder ?sa_UnknownOrder ?xs_UnknownOrder ?xt_UnknownOrder ?xk_UnknownOrder ?aq0 ?lq0 ?cq0 ?kq0 ?aq1 ?lq1 ?cq1 ?kq1 ?aq2 ?lq2 ?cq2 ?kq2 ?aq3 ?lq3 ?cq3 ?kq3 ?aq4 ?iq4 ?lq4 ?cq4 ?kq4 ?taq5 ?raq5 ?rbq5 ?aq5 ?prq5 ?fiq5 ?lq5 ?cq5 ?kq5 ?aq6 ?pgq6 ?ptq6 ?prq6 ?lq6 ?cq6 ?kq6 ?aq7 ?pgq7 ?ptq7 ?prq7 ?lq7 ?cq7 ?kq7 ?aq8 ?iq8 ?lq8 ?cq8 ?kq8 ?aq9 ?iq9 ?lq9 ?cq9 ?kq9 ?aq10 ?iq10 ?lq10 ?cq10 ?kq10 ?aq11 ?iq11 ?lq11 ?cq11 ?kq11 ?aq12 ?iq12 ?lq12 ?cq12 ?kq12 ?aq13 ?iq13 ?lq13 ?cq13 ?kq13 ?aq14 ?iq14 ?lq14 ?cq14 ?kq14 ?aq15 ?iq15 ?lq15 ?cq15 ?kq15 ?aq16 ?lq16 ?cq16 ?kq16 ?aq17 ?lq17 ?cq17 ?kq17 ?aq18 ?iq18 ?lq18 ?cq18 ?kq18 ?aq19 ?iq19 ?lq19 ?cq19 ?kq19 ?aq20 ?lq20 ?cq20 ?kq20 ?aq21 ?lq21 ?cq21 ?kq21 ?aq22 ?lq22 ?cq22 ?kq22 ?aq23 ?lq23 ?cq23 ?kq23 ?aq24 ?lq24 ?cq24 ?kq24 ?aq25 ?lq25 ?cq25 ?kq25 ?aq26 ?lq26 ?cq26 ?kq26 ?aq27 ?lq27 ?cq27 ?kq27 ?aq28 ?lq28 ?cq28 ?kq28 ?fi_q9 ?pg_Book ?hd_Book ?po_Book ?sa_Book ?mk_Book ?kc_Book ?n_Book_listed ?n_Book___rrshift__ ?c_LETTERS ?c_MAX_LETTERS ?c_MAX_ORDERS_books ?c_MAX_DAY ?c_MAX_WAY ?taB ?raB ?rbB ?fcB ?xb_InvalidNumber ?xk_InvalidNumber ?xs_InvalidNumber ?xt_InvalidNumber ?eg_InvalidNumber ?ek_InvalidNumber ?es_InvalidNumber ?ed_InvalidNumber ?ea_InvalidNumber ?en_InvalidNumber ?et_InvalidNumber ?em_InvalidNumber ?ex_InvalidNumber ?ev_InvalidNumber ?kt_InvalidNumber_InvalidOrder ?kt_InvalidNumber_UnknownOrder ?kt_InvalidNumber_InvalidAddress ?kt_InvalidNumber_InvalidDay ?kt_InvalidNumber_InvalidNumber ?eg_InvalidOrder ?ek_InvalidOrder ?es_InvalidOrder ?ed_InvalidOrder ?ea_InvalidOrder ?en_InvalidOrder ?et_InvalidOrder ?em_InvalidOrder ?ex_InvalidOrder ?ev_InvalidOrder ?kt_InvalidOrder_InvalidOrder ?kt_InvalidOrder_UnknownOrder ?kt_InvalidOrder_InvalidAddress ?kt_InvalidOrder_InvalidDay ?kt_InvalidOrder_InvalidNumber ?eg_UnknownOrder ?ek_UnknownOrder ?es_UnknownOrder ?ed_UnknownOrder ?ea_UnknownOrder ?en_UnknownOrder ?et_UnknownOrder ?em_UnknownOrder ?ex_UnknownOrder ?ev_UnknownOrder ?kt_UnknownOrder_InvalidOrder ?kt_UnknownOrder_UnknownOrder ?kt_UnknownOrder_InvalidAddress ?kt_UnknownOrder_InvalidDay ?kt_UnknownOrder_InvalidNumber ?na_InvalidOrder ?na_UnknownOrder ?oc_Book ?on_Book ?ot_Book ?om_Book ?oe_Book ?ki_Book ?ku_Book ?tv_MAX_ORDERS ?rv_MAX_ORDERS ?gv_MAX_ORDERS ?fv_MAX_ORDERS ?b_isinstance ?b_int ?b_bool ?b_str ?b_tuple ?b_list ?b_len ?b_all ?b_enumerate ?b_range ?b_max ?b_sorted ?b_set ?b_zip ?b_ValueError ?sf ?hTb ?hnP_PL_q25 ?hcH_PL_q25 ?hnP_PL_q26 ?hcH_PL_q26 ?hnP_PL_q27 ?hcH_PL_q27 ?hnP_PL_q28 ?hcH_PL_q28 ?hne_0_1 ?hne_0_2 ?hne_0_3 ?hne_1_2 ?hne_1_3 ?hne_2_3
    (case aC_Book => k_is)
    (case ge_MailError => k_is)
    (case ge_InvalidOrder => k_is)
    (case ge_UnknownOrder => k_is)
    (case ge_InvalidAddress => k_is)
    (case ge_InvalidDay => k_is)
    (case ge_InvalidNumber => k_is)
    (case ob_InvalidOrder => first | kernel_rfl | kit_is | rfl)
    (case sa_InvalidOrder => k_is)
    (case xs_InvalidOrder => k_is)
    (case xt_InvalidOrder => k_is)
    (case xk_InvalidOrder => k_is)
    (case ob_UnknownOrder => first | kernel_rfl | kit_is | rfl)
    (case sa_UnknownOrder => k_is)
    (case xs_UnknownOrder => k_is)
    (case xt_UnknownOrder => k_is)
    (case xk_UnknownOrder => k_is)
    (case aq0 => k_is)
    (case lq0 => k_is)
    (case cq0 => k_is)
    (case kq0 => k_is)
    (case aq1 => k_is)
    (case lq1 => k_is)
    (case cq1 => k_is)
    (case kq1 => k_is)
    (case aq2 => k_is)
    (case lq2 => k_is)
    (case cq2 => k_is)
    (case kq2 => k_is)
    (case aq3 => k_is)
    (case lq3 => k_is)
    (case cq3 => k_is)
    (case kq3 => k_is)
    (case aq4 => k_is)
    (case iq4 => k_is)
    (case lq4 => k_is)
    (case cq4 => k_is)
    (case kq4 => k_is)
    (case taq5 => k_is)
    (case raq5 => k_is)
    (case rbq5 => k_is)
    (case aq5 => k_is)
    (case prq5 => k_is)
    (case fiq5 => k_is)
    (case lq5 => k_is)
    (case cq5 => k_is)
    (case kq5 => k_is)
    (case aq6 => k_is)
    (case pgq6 => k_is)
    (case ptq6 => k_is)
    (case prq6 => k_is)
    (case lq6 => k_is)
    (case cq6 => k_is)
    (case kq6 => k_is)
    (case aq7 => k_is)
    (case pgq7 => k_is)
    (case ptq7 => k_is)
    (case prq7 => k_is)
    (case lq7 => k_is)
    (case cq7 => k_is)
    (case kq7 => k_is)
    (case aq8 => k_is)
    (case iq8 => k_is)
    (case lq8 => k_is)
    (case cq8 => k_is)
    (case kq8 => k_is)
    (case aq9 => k_is)
    (case iq9 => k_is)
    (case lq9 => k_is)
    (case cq9 => k_is)
    (case kq9 => k_is)
    (case aq10 => k_is)
    (case iq10 => k_is)
    (case lq10 => k_is)
    (case cq10 => k_is)
    (case kq10 => k_is)
    (case aq11 => k_is)
    (case iq11 => k_is)
    (case lq11 => k_is)
    (case cq11 => k_is)
    (case kq11 => k_is)
    (case aq12 => k_is)
    (case iq12 => k_is)
    (case lq12 => k_is)
    (case cq12 => k_is)
    (case kq12 => k_is)
    (case aq13 => k_is)
    (case iq13 => k_is)
    (case lq13 => k_is)
    (case cq13 => k_is)
    (case kq13 => k_is)
    (case aq14 => k_is)
    (case iq14 => k_is)
    (case lq14 => k_is)
    (case cq14 => k_is)
    (case kq14 => k_is)
    (case aq15 => k_is)
    (case iq15 => k_is)
    (case lq15 => k_is)
    (case cq15 => k_is)
    (case kq15 => k_is)
    (case aq16 => k_is)
    (case lq16 => k_is)
    (case cq16 => k_is)
    (case kq16 => k_is)
    (case aq17 => k_is)
    (case lq17 => k_is)
    (case cq17 => k_is)
    (case kq17 => k_is)
    (case aq18 => k_is)
    (case iq18 => k_is)
    (case lq18 => k_is)
    (case cq18 => k_is)
    (case kq18 => k_is)
    (case aq19 => k_is)
    (case iq19 => k_is)
    (case lq19 => k_is)
    (case cq19 => k_is)
    (case kq19 => k_is)
    (case aq20 => k_is)
    (case lq20 => k_is)
    (case cq20 => k_is)
    (case kq20 => k_is)
    (case aq21 => k_is)
    (case lq21 => k_is)
    (case cq21 => k_is)
    (case kq21 => k_is)
    (case aq22 => k_is)
    (case lq22 => k_is)
    (case cq22 => k_is)
    (case kq22 => k_is)
    (case aq23 => k_is)
    (case lq23 => k_is)
    (case cq23 => k_is)
    (case kq23 => k_is)
    (case aq24 => k_is)
    (case lq24 => k_is)
    (case cq24 => k_is)
    (case kq24 => k_is)
    (case aq25 => k_is)
    (case lq25 => k_is)
    (case cq25 => k_is)
    (case kq25 => k_is)
    (case aq26 => k_is)
    (case lq26 => k_is)
    (case cq26 => k_is)
    (case kq26 => k_is)
    (case aq27 => k_is)
    (case lq27 => k_is)
    (case cq27 => k_is)
    (case kq27 => k_is)
    (case aq28 => k_is)
    (case lq28 => k_is)
    (case cq28 => k_is)
    (case kq28 => k_is)
    (case fi_q9 => k_is)
    (case pg_Book => k_is)
    (case hd_Book => k_is)
    (case po_Book => k_is)
    (case sa_Book => k_is)
    (case mk_Book => k_is)
    (case kc_Book => k_is)
    (case n_Book_listed => k_is)
    (case n_Book___rrshift__ => k_is)
    (case c_LETTERS => k_is)
    (case c_MAX_LETTERS => k_is)
    (case c_MAX_ORDERS_books => k_is)
    (case c_MAX_DAY => k_is)
    (case c_MAX_WAY => k_is)
    (case taB => k_is)
    (case raB => k_is)
    (case rbB => k_is)
    (case fcB => k_is)
    (case xb_InvalidNumber => first | kernel_rfl | kit_is | rfl)
    (case xk_InvalidNumber => k_is)
    (case xs_InvalidNumber => k_is)
    (case xt_InvalidNumber => k_is)
    (case eg_InvalidNumber => k_is)
    (case ek_InvalidNumber => k_is)
    (case es_InvalidNumber => k_is)
    (case ed_InvalidNumber => k_is)
    (case ea_InvalidNumber => k_is)
    (case en_InvalidNumber => k_is)
    (case et_InvalidNumber => k_is)
    (case em_InvalidNumber => k_is)
    (case ex_InvalidNumber => first | kernel_rfl | kit_is | rfl)
    (case ev_InvalidNumber => first | kernel_rfl | kit_is | rfl)
    (case kt_InvalidNumber_InvalidOrder => first | kernel_rfl | kit_is | rfl)
    (case kt_InvalidNumber_UnknownOrder => first | kernel_rfl | kit_is | rfl)
    (case kt_InvalidNumber_InvalidAddress => first | kernel_rfl | kit_is | rfl)
    (case kt_InvalidNumber_InvalidDay => first | kernel_rfl | kit_is | rfl)
    (case kt_InvalidNumber_InvalidNumber => first | kernel_rfl | kit_is | rfl)
    (case eg_InvalidOrder => k_is)
    (case ek_InvalidOrder => k_is)
    (case es_InvalidOrder => k_is)
    (case ed_InvalidOrder => k_is)
    (case ea_InvalidOrder => k_is)
    (case en_InvalidOrder => k_is)
    (case et_InvalidOrder => k_is)
    (case em_InvalidOrder => k_is)
    (case ex_InvalidOrder => first | kernel_rfl | kit_is | rfl)
    (case ev_InvalidOrder => first | kernel_rfl | kit_is | rfl)
    (case kt_InvalidOrder_InvalidOrder => first | kernel_rfl | kit_is | rfl)
    (case kt_InvalidOrder_UnknownOrder => first | kernel_rfl | kit_is | rfl)
    (case kt_InvalidOrder_InvalidAddress => first | kernel_rfl | kit_is | rfl)
    (case kt_InvalidOrder_InvalidDay => first | kernel_rfl | kit_is | rfl)
    (case kt_InvalidOrder_InvalidNumber => first | kernel_rfl | kit_is | rfl)
    (case eg_UnknownOrder => k_is)
    (case ek_UnknownOrder => k_is)
    (case es_UnknownOrder => k_is)
    (case ed_UnknownOrder => k_is)
    (case ea_UnknownOrder => k_is)
    (case en_UnknownOrder => k_is)
    (case et_UnknownOrder => k_is)
    (case em_UnknownOrder => k_is)
    (case ex_UnknownOrder => first | kernel_rfl | kit_is | rfl)
    (case ev_UnknownOrder => first | kernel_rfl | kit_is | rfl)
    (case kt_UnknownOrder_InvalidOrder => first | kernel_rfl | kit_is | rfl)
    (case kt_UnknownOrder_UnknownOrder => first | kernel_rfl | kit_is | rfl)
    (case kt_UnknownOrder_InvalidAddress => first | kernel_rfl | kit_is | rfl)
    (case kt_UnknownOrder_InvalidDay => first | kernel_rfl | kit_is | rfl)
    (case kt_UnknownOrder_InvalidNumber => first | kernel_rfl | kit_is | rfl)
    (case na_InvalidOrder => k_is)
    (case na_UnknownOrder => k_is)
    (case oc_Book => k_is)
    (case on_Book => k_is)
    (case ot_Book => k_is)
    (case om_Book => k_is)
    (case oe_Book => k_is)
    (case ki_Book => first | kernel_rfl | kit_is | rfl)
    (case ku_Book => first | kernel_rfl | kit_is | rfl)
    (case tv_MAX_ORDERS => k_is)
    (case rv_MAX_ORDERS => k_is)
    (case gv_MAX_ORDERS => k_is)
    (case fv_MAX_ORDERS => k_is)
    (case b_isinstance => k_is)
    (case b_int => k_is)
    (case b_bool => k_is)
    (case b_str => k_is)
    (case b_tuple => k_is)
    (case b_list => k_is)
    (case b_len => k_is)
    (case b_all => k_is)
    (case b_enumerate => k_is)
    (case b_range => k_is)
    (case b_max => k_is)
    (case b_sorted => k_is)
    (case b_set => k_is)
    (case b_zip => k_is)
    (case b_ValueError => k_is)
    (case sf => k_is)
    (case hTb => exact PySem.W.km_tabs_of Y)
    (case hnP_PL_q25 => first | kernel_rfl | rfl)
    (case hcH_PL_q25 => first | kernel_rfl | rfl)
    (case hnP_PL_q26 => first | kernel_rfl | rfl)
    (case hcH_PL_q26 => first | kernel_rfl | rfl)
    (case hnP_PL_q27 => first | kernel_rfl | rfl)
    (case hcH_PL_q27 => first | kernel_rfl | rfl)
    (case hnP_PL_q28 => first | kernel_rfl | rfl)
    (case hcH_PL_q28 => first | kernel_rfl | rfl)
    (case hne_0_1 => decide)
    (case hne_0_2 => decide)
    (case hne_0_3 => decide)
    (case hne_1_2 => decide)
    (case hne_1_3 => decide)
    (case hne_2_3 => decide)
