import PyProof.Rows.All
import Wide.All
import OpenK.AllK
import Wide.FinOn
import HandS.ForMost
import HandS.Walk
import HandS.Defaults
import HandS.ClsMeth
import KE.GoesEnum
import KE.GoesMore
import HandS.FStr
import HandS.Property
import HandS.MakeKwOnly
import HandS.NoneIn
import HandS.IsInst
import HandS.TupAny
import HandS.Star
import HandS.Codes
import HandS.HeadHook1
import HandS.HeadHook2
import PySem.Challenge.RW_leverhouse_k07_whole_text_and_back
import KE.KStateDown
import HandS.WordsExc
import HandS.Head0
import HandS.Head1
import HandS.Head2
import HandS.HeadEnd
import HandS.HeadNt
set_option Elab.async false
set_option linter.all false
set_option maxRecDepth 100000
set_option maxHeartbeats 4000000
/-! Rules that the hand layer lacks: a staticmethod called on its class, a method called with keywords, enumerate of a tuple. -/
namespace K7
open PySem PySem.Spec PyProof.Rows L2 ClX

/-! ### a staticmethod -/
/-- C.m is a staticmethod: its record at p, its def at g -/
structure SMet (K : PySem.W.Frag) (C : Addr) (mc : Value) (m : Str) (p g : Addr) : Prop where
  at_ : PySem.W.findCls K (.ref C) mc m = some (.get (.builtin "staticmethod.__get__") (.ref p) .none (.ref C))
  rc : ∃ rest, PySem.W.recIn K p "staticmethod" = some (.ref g :: rest)
  kp : PySem.W.keepIn K (.ref g) = true
section
variable {X : Cx} {pins : List (Addr × Obj)} {σ : L2.St} {H : Hp} {s : Shared} {a C p g : Addr} {mc : Value} {f m : Str} {A : Around} {E : Value → Shared → Prop}
theorem getsmet_ok {b : Bool} {Q : Value → Shared → Prop} (I : Inv X pins σ H s) (r : CRead X.K C mc) (k : SMet X.K C mc m p g) (h : ∀ s', Inv X pins σ H s' → Q (.ref g) s') : wpAny (model X.prog X.w) A (getAttr (.ref C) m b) Q E s := by
  obtain ⟨rest, hp⟩ := k.rc
  refine PySem.W.cls_bind I.kIn r.rd k.at_ ?_
  refine wpAny_call (PySem.W.sm_get (s := { s with toks := s.toks + 1 }) I.kIn hp (PySem.W.handed_on rfl ?_))
  exact h _ (I.tok _)
theorem getmethsm_ok {pl : Sem Bool} {Q : Value × List Value → Shared → Prop} (I : Inv X pins σ H s) (r : CRead X.K C mc) (k : SMet X.K C mc m p g) (h : ∀ s', Inv X pins σ H s' → Q (.ref g, []) s') : wpAny (model X.prog X.w) A (getMethod (.ref C) m pl) Q E s :=
  PySem.W.method_cls I.kIn r.ga (getsmet_ok I r k h)
end
/-- o.m(..), o the class at C, m a staticmethod of it -/
def tSMeth (C : Addr) (sp : Sp) (E : XK) (ta : TE) (t : TA) : TE := fun σ H Q => ta σ H fun x H1 => x = .ref C ∧ t σ H1 fun vs H2 => sp vs H2 Q E
section
variable {X : Cx} {CX : CXT} {k n : Nat} {C p g f : Addr} {mc : Value} {sp : Sp} {E : XK} {o e : Expr} {es : List Expr} {m : Str} {pos apos : Pos} {ta : TE} {t tk : TA} {pl : Sem Bool} {fd : FuncData} {ps ks : List Str} {kws : List Keyword}
  {gf : List Value → List Value → List Value} {gV : List V → List V → List V}
theorem pe_smeth (he : PE X o ta) (r : CRead X.K C mc) (c : SMet X.K C mc m p g) (F : FnOk X.prog X.w X.K X.mg X.base CX k g fd ps sp) (hr : Room k X.A) (hb : Binds X.K fd ps []) (hx : Passes CX X E) (ha : PA X (e :: es) t)
    (hst : starEach (e :: es) X.env = (false, eval e X.env) :: starEach es X.env := by rfl) (hpl : (backTo pos (starEach es X.env)).any (·.1) = false := by rfl)
    (ht : eval (.Call (.Attribute o m apos) (e :: es) [] pos) X.env = (do
      let ov ← eval o X.env
      standAt apos.atName
      let (f, first) ← holding [ov] (getMethod ov m pl)
      callWith pos f first (backTo pos (starEach (e :: es) X.env)) (backToKw pos (keywordEach [] X.env))) := by rfl) :
    PE X (.Call (.Attribute o m apos) (e :: es) [] pos) (tSMeth C sp E ta t) := by
  refine ⟨fun pins s σ H Q I h => ?_⟩
  refine PySem.W.methodCall_KW (pl := pl) (thn (he.run pins s σ H _ I h) fun u s1 ⟨x, H1, I1, rx, ex, q⟩ => ?_) ht
  subst ex
  obtain rfl : u = Value.ref C := rx
  refine getmethsm_ok I1 r c fun s2 I2 => ?_
  refine PySem.W.callWith_K (first := []) (h₀ := X.base) I2.ok.mod.kin c.kp (thn (ha.run pos pins s2 σ H1 _ I2 q) fun us s3 ⟨vs, H2, I3, rv, q2⟩ => ⟨I3.kIn, ?_⟩) hst hpl
  exact run_fn (us := us) (vs := vs) (dvs := []) (ds := []) F hr hb .nil hx I3 rv (by rw [List.append_nil]; exact q2)

/-! ### o.m(e, .., k = v, ..) -/
def tMethK (C : Addr) (m : Str) (n j : Nat) (sp : Sp) (gV : List V → List V → List V) (E : XK) (ta : TE) (t tk : TA) : TE := fun σ H Q => ta σ H fun x H1 => ∃ a dx fs, x = .ref a ∧ H1 a = some (.ins C dx fs) ∧ fs.lookup m = none ∧
  t σ H1 fun vs H2 => tk σ H2 fun zs H3 => vs.length = n ∧ zs.length = j ∧ sp (gV (x :: vs) zs) H3 Q E
theorem pe_methK (he : PE X o ta) (c : Cls X.K C) (hm : Meth X.K C m f) (F : FnOk X.prog X.w X.K X.mg X.base CX k f fd ps sp) (hr : Room k X.A) (hb : KBn X.K fd ps (n + 1) ks gf gV) (hx : Passes CX X E) (ha : PA X (e :: es) t) (hkw : PK X kws tk)
    (hall : (backToKw pos (keywordEach kws X.env)).all (·.1.isSome) = true := by rfl) (hks : (backToKw pos (keywordEach kws X.env)).filterMap (·.1) = ks := by rfl)
    (hst : starEach (e :: es) X.env = (false, eval e X.env) :: starEach es X.env := by rfl)
    (hpl : ((backTo pos (starEach (e :: es) X.env)).any (·.1) || (backToKw pos (keywordEach kws X.env)).any (·.1.isNone)) = false := by rfl)
    (ht : eval (.Call (.Attribute o m apos) (e :: es) kws pos) X.env = (do
      let ov ← eval o X.env
      standAt apos.atName
      let (f, first) ← holding [ov] (getMethod ov m pl)
      callWith pos f first (backTo pos (starEach (e :: es) X.env)) (backToKw pos (keywordEach kws X.env))) := by rfl) :
    PE X (.Call (.Attribute o m apos) (e :: es) kws pos) (tMethK C m n ks.length sp gV E ta t tk) := by
  refine ⟨fun pins s σ H Q I h => ?_⟩
  refine PySem.W.methodCall_KW (pl := pl) (thn (he.run pins s σ H _ I h) fun u s1 ⟨x, H1, I1, rx, a, dx, fs, ex, ea, l, q⟩ => ?_) ht
  subst ex
  obtain rfl : u = Value.ref a := rx
  refine getmeth_ok I1 ea c hm l ?_
  refine PySem.W.callWith_KW (first := [.ref a]) (h₀ := X.base) I1.ok.mod.kin hm.kp hall (thn (ha.run pos pins s1 σ H1 _ I1 q) fun us s2 ⟨vs, H2, I2, r, q2⟩ => ?_) hpl hst
  refine thn (hkw.run pos pins s2 σ H2 _ I2 q2) fun ws s3 ⟨zs, H3, I3, rz, l1, l2, q3⟩ => ⟨I3.kIn, ?_⟩
  rw [hks]
  exact run_fnN (us := .ref a :: us) (vs := .ref a :: vs) F hr hb hx I3 (.cons rfl r) rz (congrArg Nat.succ l1) l2 q3
end

/-! ### enumerate of a tuple -/
theorem meets_enum1 {v : Value} {o : Obj} {H : Heap → Prop} (B : Begins v o H) :
    Meets (Builtin.«enumerate.__new__» ⟨[.type "enumerate", v], []⟩) (fun _ R s => H s.heap ∧
      R (.ok (.ret (.ref (s.heap.push o).objs.size))) { s with heap := (s.heap.push o).push { cls := .type "enumerate", data := .fields #[.none, .bool false, .ref s.heap.objs.size, rawInt 0, .none, .none] } }) :=
  .of_wp fun prog w A R s h => by
    obtain ⟨hp, g, d, tk, os⟩ := s; obtain ⟨h1, h⟩ := h
    have hsub := sub_enumerate
    have q1 : ∀ {A' : Around} {E : Value → Shared → Prop} {Q : Value → Shared → Prop}, Q (.ref hp.objs.size) ⟨hp.push o, g, d, tk, os⟩ → wpAny (model prog w) A' (pyIter v) Q E ⟨hp, g, d, tk, os⟩ :=
      fun q => B.iter prog w _ _ ⟨hp, g, d, tk, os⟩ _ h1 q
    wp_walk using q1
    refine wpAny_stack_any fun st => wpAny_pure ?_
    split
    · rename_i c _ _ _ _ _
      cases (c == Value.type "enumerate")
      · wp_walk using q1
        exact ⟨_, rfl, h⟩
      · wp_walk using q1
        exact ⟨_, rfl, h⟩
    · wp_walk using q1
      exact ⟨_, rfl, h⟩
theorem enum_begins1 {prog : Program} {w : World} {A : Around} {E : Value → Shared → Prop} {s : Shared} {a : Addr} {o : Obj} {H : Heap → Prop} {Q : Value → Shared → Prop} (B : Begins (.ref a) o H) (h1 : H s.heap)
    (h : ∀ h', IsEnum h' (s.heap.objs.size + 1) s.heap.objs.size 0 .none → h'.get? s.heap.objs.size = some o → h'.objs.size = s.heap.objs.size + 2 →
      (∀ b o, s.heap.get? b = some o → h'.get? b = some o) → Q (.ref (s.heap.objs.size + 1)) { s with heap := h' }) :
    wpAny (model prog w) A (call (.type "enumerate") [.ref a]) Q E s := by
  refine callType_new F.called_enumerate (by decide) (F.typeCall_enumerate_1 _) (F.newCall_enumerate_1 _) (fun obj => F.args_object_init_2 obj _) F.entry_enumerate_new
    (meets_enum1 B) ⟨h1, ?_⟩
  have hz : (s.heap.push o).objs.size = s.heap.objs.size + 1 := Heap.size_push ..
  show _ ∧ _
  rw [hz]
  have he : IsEnum ((s.heap.push o).push { cls := .type "enumerate", data := .fields #[.none, .bool false, .ref s.heap.objs.size, rawInt 0, .none, .none] }) (s.heap.objs.size + 1) s.heap.objs.size 0 .none := by
    have := Heap.get?_push_size (s.heap.push o) (o := { cls := .type "enumerate", data := .fields #[.none, .bool false, .ref s.heap.objs.size, rawInt 0, .none, .none] }) rfl
    rw [hz] at this; exact this
  refine ⟨⟨_, he, rfl⟩, h _ he (Heap.get?_push_of_some _ (Heap.get?_push_size _ B.free)) (by rw [Heap.size_push, hz]) fun b o x => Heap.get?_push_of_some _ (Heap.get?_push_of_some _ x)⟩
/-- the tuple at a, each item in a new pair -/
def Itet (K : PySem.W.Frag) (a : Addr) (xs : List V) : It :=
  ⟨fun i H => SqT K H a xs ∧ i < xs.length, fun i H v H' => ∃ T x, v = .ref T ∧ H T = none ∧ H' = upd H T (.tup [.int (i : Nat), x]) ∧ xs[i]? = some x, fun i H => SqT K H a xs ∧ i = xs.length⟩
theorem turn_enumT {P : Program} {w : World} {K : PySem.W.Frag} {elts : List Expr} {kk : Nat} {tpos : Pos} (a e it : Addr) (xs : List V) :
    Turn P w K (.Tuple elts kk tpos) (Itet K a xs) [e, it] e (fun i h => (∃ old, IsEnum h e it ((i : Nat) : Int) old) ∧ h.IsTupleIter it a i ∧ e ≠ it ∧ a ≠ it ∧ a ≠ e) where
  mem := by simp
  obj := fun i h st b hb => by
    obtain ⟨⟨old, he⟩, ⟨o, ho, hc, hd⟩, _⟩ := st
    have e' : b = e ∨ b = it := by simpa using hb
    rcases e' with z | z
    · rw [z]; exact ⟨_, he, fun v q => nomatch q⟩
    · rw [z]; exact ⟨o, ho, fun v q => by rw [hd] at q; cases q⟩
  keep := fun i h h' st k => let ⟨⟨old, he⟩, hi, hne⟩ := st; ⟨⟨old, k e (by simp) _ he⟩, hi.at fun o q => k it (by simp) o q, hne⟩
  item := by
    intro X hP hw hK hc i pins s σ H E I hf st hg
    subst hP hw hK
    obtain ⟨⟨old, he⟩, hit, hne, hai, hae⟩ := st
    obtain ⟨hq, hx⟩ := hg
    obtain ⟨its, rv, p, hz⟩ := I.tuple hq
    have hel : e < s.heap.objs.size := Heap.lt_size he
    have hil : it < s.heap.objs.size := by obtain ⟨_, q, _⟩ := hit; exact Heap.lt_size q
    have hl := rv.length
    have D : Draws X.prog X.w X.A.in1 it [it, a] its.toArray.size (fun i v => its.toArray[i]? = some v) (fun i h => h.IsTupleIter it a i ∧ h.IsTuple a its.toArray) := Draws.tuple (show X.A.in1.handled = none from I.ok.hd hc) it a hai its.toArray
    refine wpAny_pyNext_enum_itemD D he ⟨hit, p⟩ (by simp only [List.size_toArray]; omega) hne (by simp [hne, Ne.symm hae]) fun u h' tk hu ho hst' hT hsz hk => ?_
    have hu' : its[i]? = some u := by simpa using hu
    obtain ⟨x, hxs⟩ : ∃ x, xs[i]? = some x := ⟨xs[i], by simp [hx]⟩
    obtain ⟨u2, hu2, ru⟩ := rv.get hxs
    obtain rfl : u2 = u := by rw [hu2] at hu'; exact Option.some.inj hu'
    refine ⟨_, rfl, wpAny_letOwnedTupleGo_enum (s := { s with heap := h', toks := tk + 1 }) ho fun h'' he' sb => ?_⟩
    have hT2 : h''.get? s.heap.objs.size = some { cls := .type "tuple", data := .seq #[.int i tk, u2] } := (sb.2 _ (Nat.ne_of_gt hel)).trans hT
    have new : ObjOk X.prog X.w (upd H s.heap.objs.size (.tup [.int (i : Nat), x])) h'' s.heap.objs.size (.tup [.int (i : Nat), x]) :=
      ⟨by show 2 ≤ sizeLine; decide, [.int i tk, u2], .cons ⟨_, rfl⟩ (.cons ru .nil), ⟨_, hT2, rfl, _, rfl⟩⟩
    have I1 : Inv X pins σ (upd H s.heap.objs.size (.tup [.int (i : Nat), x])) { s with heap := h'', toks := tk + 1 } :=
      I.turnedNew (ch := [e, it]) (fun b ob hb q => (sb.2 b (fun z => hb (by simp [z]))).trans (hk b ob (fun z => hb (by simp [z])) (fun z => hb (by simp [z])) q)) hf (Nat.le_refl _) new
    refine ⟨.ref s.heap.objs.size, _, I1, rfl, ⟨_, x, rfl, I.hok.fresh (Nat.le_refl _), rfl, hxs⟩, ⟨⟨u2, ?_⟩, hst'.1.at fun o q => (sb.2 it (Ne.symm hne)).trans q, hne, hai, hae⟩, fun b hb => ?_⟩
    · have e1 : ((i + 1 : Nat) : Int) = (i : Int) + 1 := by omega
      rw [e1]; exact he'
    · have hb' : b < s.heap.objs.size := by
        have e' : b = e ∨ b = it := by simpa using hb
        rcases e' with z | z
        · rw [z]; exact hel
        · rw [z]; exact hil
      rw [upd_ne (Nat.ne_of_lt hb')]
      exact (hf b hb).1
  done := by
    intro X hP hw hK hc i pins s σ H E I hf st hg
    subst hP hw hK
    obtain ⟨⟨old, he⟩, hit, hne, hai, hae⟩ := st
    obtain ⟨hq, hx⟩ := hg
    obtain ⟨its, rv, p, hz⟩ := I.tuple hq
    obtain ⟨f0, f1, f2, f3, f4, f5⟩ := hf it (by simp)
    have hl := rv.length
    have D : Draws X.prog X.w X.A.in1 it [it, a] its.toArray.size (fun i v => its.toArray[i]? = some v) (fun i h => h.IsTupleIter it a i ∧ h.IsTuple a its.toArray) := Draws.tuple (show X.A.in1.handled = none from I.ok.hd hc) it a hai its.toArray
    have ei : i = its.toArray.size := by simp only [List.size_toArray]; omega
    subst ei
    exact wpAny_pyNext_enum_endD D he ⟨hit, p⟩ fun h' eb => ⟨rfl, I.turned (t' := s.toks) (fun b o hb q => eb b o hb q) f0 f1 f3 f4 f5⟩
  self := fun A i s Q E st h => let ⟨⟨_, he⟩, _⟩ := st; wpAny_pyIter_enum he h
def iEnumT (K : PySem.W.Frag) (ta : TA) : TI := fun σ H R => ta σ H fun vs H1 => ∃ a xs, vs = [.ref a] ∧ SqT K H1 a xs ∧ R (Itet K a xs) H1
theorem pi_enumT {X : Cx} {e : Expr} {ta : TA} {p pos tpos : Pos} {elts : List Expr} {kk : Nat} (hg : Gl X "enumerate") (hm : X.mg "enumerate" = none) (ha : PA X [e] ta) (hs : starEach [e] X.env = [(false, eval e X.env)] := by rfl) :
    PI X (.Tuple elts kk tpos) (.Call (.Name "enumerate" p) [e] [] pos) (iEnumT X.K ta) := by
  refine ⟨fun pins s σ H R I h => ?_⟩
  refine Call_ (ld_blt I hg hm boot_enumerate (PyProof.Rows.callWith_type1 (thn (ha.run pos pins s σ H _ I h) fun us s1 ⟨vs, H1, I1, r1, q1⟩ => ?_) hs rfl))
  obtain ⟨a, xs, ex, hq, q⟩ := q1
  subst ex
  cases r1 with
  | cons r rr =>
    cases rr
    cases r
    obtain ⟨its, rv, p', hz⟩ := I1.tuple hq
    have hal : a < s1.heap.objs.size := by obtain ⟨_, z, _⟩ := p'; exact Heap.lt_size z
    refine enum_begins1 (begins_tuple a its.toArray) p' fun h' he hit hsz hk => wpAny_pyIter_enum he ?_
    have I2 : Inv X pins σ H1 { s1 with heap := h' } := I1.kept (t' := s1.toks) hk
    refine ⟨s1.heap.objs.size + 1, [s1.heap.objs.size + 1, s1.heap.objs.size], _, _, H1, rfl, I2, turn_enumT a (s1.heap.objs.size + 1) s1.heap.objs.size xs,
      ⟨⟨.none, he⟩, ⟨_, hit, rfl, rfl⟩, Nat.succ_ne_self _, Nat.ne_of_lt hal, Nat.ne_of_lt (Nat.lt_succ_of_lt hal)⟩, fun b hb => ?_, q⟩
    have e' : b = s1.heap.objs.size + 1 ∨ b = s1.heap.objs.size := by simpa using hb
    have hle : s1.heap.objs.size ≤ b := by
      rcases e' with z | z
      · rw [z]; exact Nat.le_add_right _ _
      · rw [z]; exact Nat.le_refl _
    exact I1.fpOk hle (I1.hok.fresh hle)
theorem walk_enumT {K : PySem.W.Frag} {a : Addr} {xs : List V} : Walk (Itet K a xs) xs.length (fun H => SqT K H a xs) (YPair (fun i => some (.int (i : Nat))) (fun i => xs[i]?)) := by
  refine ⟨fun i _ hi q => ⟨q, hi⟩, fun _ q => ⟨q, rfl⟩, fun i H v H' _ q y => ?_⟩
  obtain ⟨T, x, h1, h2, h3, h4⟩ := y
  exact ⟨T, .int (i : Nat), x, h1, h2, h3, rfl, h4⟩
end K7

/-! The plain mathematics: a board's parts, its written form, reading it back, drawn names. No program in sight. -/
namespace K7
open PySem PySem.Spec PyProof.Rows L2

abbrev Load := Str × Str × Str
structure Con where
  one : Str
  other : Str
  mov : Option Str
  whn : Str
  way : Str
structure Parts where
  nodes : List Str
  sws : List Str
  rels : List Load
  lams : List Load
  cons : List Con
def Parts.movers (P : Parts) : List Str := P.sws ++ P.rels.map (·.1)

def nameChars : Str := "abcdefghijklmnopqrstuvwxyz0123456789"
def IsNm (z : Str) : Prop := 1 ≤ z.length ∧ z.length ≤ 12 ∧ ∀ c ∈ TL.tl z, c ∈ TL.tl nameChars
def EndsOk (N : List Str) (a b : Str) : Prop := a ∈ N ∧ b ∈ N ∧ a ≠ b
structure ConOk (N M : List Str) (c : Con) : Prop where
  ends : EndsOk N c.one c.other
  whn : c.whn = "make" ∨ c.whn = "break"
  way : c.way = "both" ∨ c.way = "forward"
  mov : ∀ m, c.mov = some m → m ∈ M
  wire : c.mov = none → c.whn = "make"
structure Good (P : Parts) : Prop where
  n2 : 2 ≤ P.nodes.length
  n16 : P.nodes.length ≤ 16
  nn : ∀ z ∈ P.nodes, IsNm z
  nd : P.nodes.Nodup
  s6 : P.sws.length ≤ 6
  r8 : P.rels.length ≤ 8
  mn : ∀ z ∈ P.movers, IsNm z
  md : P.movers.Nodup
  l1 : 1 ≤ P.lams.length
  l8 : P.lams.length ≤ 8
  ln : ∀ z ∈ P.lams.map (·.1), IsNm z
  ld : (P.lams.map (·.1)).Nodup
  re : ∀ r ∈ P.rels, EndsOk P.nodes r.2.1 r.2.2
  le : ∀ r ∈ P.lams, EndsOk P.nodes r.2.1 r.2.2
  c40 : P.cons.length ≤ 40
  ce : ∀ c ∈ P.cons, ConOk P.nodes P.movers c

/-! ### words, lines, the text -/
def relW (r : Load) : List Str := ["relay", r.1, r.2.1, r.2.2]
def lamW (r : Load) : List Str := ["lamp", r.1, r.2.1, r.2.2]
def movW : Option Str → Str
  | none => "-"
  | some m => m
def conW (c : Con) : List Str := ["contact", c.one, c.other, movW c.mov, c.whn, c.way]
def wordsOf (P : Parts) : List (List Str) := (("nodes" : Str) :: P.nodes) :: (("switches" : Str) :: P.sws) :: (P.rels.map relW ++ (P.lams.map lamW ++ P.cons.map conW))
def lineOf (ws : List Str) : Str := Str.join " " ws
def linesOf (P : Parts) : List Str := (wordsOf P).map lineOf
def textOf (P : Parts) : Str := Str.join "\n" (linesOf P)

/-- a word of a line: short, without a space or a newline -/
def okW (z : Str) : Bool := decide (z.length ≤ 12) && (TL.tl z).all fun c => c != 32 && c != 10
theorem chars_ok : (TL.tl nameChars).all (fun c => c != 32 && (c != 10 && c != 45)) = true := by decide +kernel
theorem char_ok {c : Nat} (h : c ∈ TL.tl nameChars) : c ≠ 32 ∧ c ≠ 10 ∧ c ≠ 45 := by
  have := List.all_eq_true.mp chars_ok c h
  simpa using this
theorem IsNm.okW {z : Str} (h : IsNm z) : okW z = true := by
  obtain ⟨_, h2, h3⟩ := h
  unfold K7.okW
  rw [Bool.and_eq_true, decide_eq_true_eq, List.all_eq_true]
  refine ⟨h2, fun c hc => ?_⟩
  obtain ⟨a, b, _⟩ := char_ok (h3 c hc)
  simp [a, b]
theorem IsNm.ne_dash {z : Str} (h : IsNm z) : z ≠ "-" := by
  rintro rfl
  have h1 : (45 : Nat) ∈ TL.tl ("-" : Str) := by decide +kernel
  exact (char_ok (h.2.2 45 h1)).2.2 rfl
theorem ok_nodes : okW "nodes" = true := by decide +kernel
theorem ok_switches : okW "switches" = true := by decide +kernel
theorem ok_relay : okW "relay" = true := by decide +kernel
theorem ok_lamp : okW "lamp" = true := by decide +kernel
theorem ok_contact : okW "contact" = true := by decide +kernel
theorem ok_dash : okW "-" = true := by decide +kernel
theorem ok_make : okW "make" = true := by decide +kernel
theorem ok_break : okW "break" = true := by decide +kernel
theorem ok_both : okW "both" = true := by decide +kernel
theorem ok_forward : okW "forward" = true := by decide +kernel
structure LineOk (ws : List Str) : Prop where
  ne : ws ≠ []
  len : ws.length ≤ 17
  ok : ∀ z ∈ ws, okW z = true
theorem Good.node {P : Parts} (G : Good P) {z : Str} (h : z ∈ P.nodes) : okW z = true := (G.nn z h).okW
theorem Good.sw {P : Parts} (G : Good P) {z : Str} (h : z ∈ P.sws) : okW z = true := (G.mn z (List.mem_append_left _ h)).okW
theorem Good.relN {P : Parts} (G : Good P) {r : Load} (h : r ∈ P.rels) : IsNm r.1 := G.mn _ (List.mem_append_right _ (List.mem_map.mpr ⟨r, h, rfl⟩))
theorem Good.lamN {P : Parts} (G : Good P) {r : Load} (h : r ∈ P.lams) : IsNm r.1 := G.ln _ (List.mem_map.mpr ⟨r, h, rfl⟩)
theorem Good.movW {P : Parts} (G : Good P) {c : Con} (h : c ∈ P.cons) : okW (movW c.mov) = true := by
  cases e : c.mov with
  | none => exact ok_dash
  | some m => exact (G.mn m ((G.ce c h).mov m e)).okW
theorem Good.lines {P : Parts} (G : Good P) : ∀ ws ∈ wordsOf P, LineOk ws := by
  intro ws h
  unfold wordsOf at h
  rcases List.mem_cons.mp h with rfl | h
  · refine ⟨by simp, by simp; exact G.n16, fun z hz => ?_⟩
    rcases List.mem_cons.mp hz with rfl | hz
    · exact ok_nodes
    · exact G.node hz
  rcases List.mem_cons.mp h with rfl | h
  · refine ⟨by simp, by have := G.s6; simp; omega, fun z hz => ?_⟩
    rcases List.mem_cons.mp hz with rfl | hz
    · exact ok_switches
    · exact G.sw hz
  rcases List.mem_append.mp h with h | h
  · obtain ⟨r, hr, rfl⟩ := List.mem_map.mp h
    refine ⟨by simp [relW], by simp [relW], fun z hz => ?_⟩
    obtain ⟨e1, e2, _⟩ := G.re r hr
    simp only [relW, List.mem_cons, List.not_mem_nil, or_false] at hz
    rcases hz with rfl | rfl | rfl | rfl
    · exact ok_relay
    · exact (G.relN hr).okW
    · exact G.node e1
    · exact G.node e2
  rcases List.mem_append.mp h with h | h
  · obtain ⟨r, hr, rfl⟩ := List.mem_map.mp h
    refine ⟨by simp [lamW], by simp [lamW], fun z hz => ?_⟩
    obtain ⟨e1, e2, _⟩ := G.le r hr
    simp only [lamW, List.mem_cons, List.not_mem_nil, or_false] at hz
    rcases hz with rfl | rfl | rfl | rfl
    · exact ok_lamp
    · exact (G.lamN hr).okW
    · exact G.node e1
    · exact G.node e2
  · obtain ⟨c, hc, rfl⟩ := List.mem_map.mp h
    refine ⟨by simp [conW], by simp [conW], fun z hz => ?_⟩
    have C := G.ce c hc
    obtain ⟨e1, e2, _⟩ := C.ends
    simp only [conW, List.mem_cons, List.not_mem_nil, or_false] at hz
    rcases hz with rfl | rfl | rfl | rfl | rfl | rfl
    · exact ok_contact
    · exact G.node e1
    · exact G.node e2
    · exact G.movW hc
    · rcases C.whn with e | e <;> rw [e]
      · exact ok_make
      · exact ok_break
    · rcases C.way with e | e <;> rw [e]
      · exact ok_both
      · exact ok_forward
theorem sum_le {α : Type} (f : α → Nat) (B : Nat) : ∀ (l : List α), (∀ x ∈ l, f x ≤ B) → (l.map f).sum ≤ l.length * B
  | [], _ => by simp
  | x :: l, h => by
    have h1 := sum_le f B l fun y hy => h y (List.mem_cons_of_mem _ hy)
    have h2 := h x List.mem_cons_self
    simp only [List.map_cons, List.sum_cons, List.length_cons, Nat.succ_mul]
    omega
theorem okW_len {z : Str} (h : okW z = true) : z.length ≤ 12 := by
  unfold okW at h
  exact of_decide_eq_true (Bool.and_eq_true_iff.mp h).1
theorem okW_ne {z : Str} (h : okW z = true) {c : Nat} (hc : c ∈ TL.tl z) : c ≠ 32 ∧ c ≠ 10 := by
  unfold okW at h
  have := List.all_eq_true.mp (Bool.and_eq_true_iff.mp h).2 c hc
  simpa using this
theorem tl_sp : TL.tl (" " : Str) = [32] := by decide +kernel
theorem tl_nl : TL.tl ("\n" : Str) = [10] := by decide +kernel
theorem len_sp : (" " : Str).length = 1 := by decide +kernel
theorem len_nl : ("\n" : Str).length = 1 := by decide +kernel
theorem LineOk.sum {ws : List Str} (h : LineOk ws) : (ws.map (·.length)).sum + ws.length * (" " : Str).length ≤ 221 := by
  have h1 := sum_le (·.length) 12 ws fun z hz => okW_len (h.ok z hz)
  have h2 := h.len
  rw [len_sp]
  omega
theorem LineOk.le {ws : List Str} (h : LineOk ws) : (lineOf ws).length ≤ 221 := Nat.le_trans (StrLaws.join_length_le _ _) h.sum
theorem LineOk.split {ws : List Str} (h : LineOk ws) : Txt.split (lineOf ws) " " = ws := by
  unfold lineOf
  rw [← TL.join_eq]
  exact TL.split_join (s := 32) (S := []) tl_sp (by decide +kernel) h.ne fun z hz hm => (okW_ne (h.ok z hz) hm).1 rfl
theorem mem_joinL {S : List Nat} {c : Nat} : ∀ {ps : List (List Nat)}, c ∈ TL.joinL S ps → c ∈ S ∨ ∃ p ∈ ps, c ∈ p
  | [], h => by cases h
  | [p], h => .inr ⟨p, List.mem_cons_self, h⟩
  | p :: q :: r, h => by
    have h' : c ∈ p ++ (S ++ TL.joinL S (q :: r)) := h
    rcases List.mem_append.mp h' with h1 | h1
    · exact .inr ⟨p, List.mem_cons_self, h1⟩
    · rcases List.mem_append.mp h1 with h2 | h2
      · exact .inl h2
      · rcases mem_joinL h2 with h3 | ⟨z, hz, h3⟩
        · exact .inl h3
        · exact .inr ⟨z, List.mem_cons_of_mem _ hz, h3⟩
theorem LineOk.noNl {ws : List Str} (h : LineOk ws) : 10 ∉ TL.tl (lineOf ws) := fun hm => by
  unfold lineOf at hm
  rw [TL.tl_join, tl_sp] at hm
  rcases mem_joinL hm with h1 | ⟨p, hp, h1⟩
  · simp at h1
  · obtain ⟨z, hz, rfl⟩ := List.mem_map.mp hp
    exact (okW_ne (h.ok z hz) h1).2 rfl
theorem words_len (P : Parts) : (wordsOf P).length = P.rels.length + P.lams.length + P.cons.length + 2 := by
  unfold wordsOf
  simp only [List.length_cons, List.length_append, List.length_map]
  omega
theorem Good.few {P : Parts} (G : Good P) : (wordsOf P).length ≤ 58 := by
  have h1 := G.r8
  have h2 := G.l8
  have h3 := G.c40
  rw [words_len]
  omega
theorem Good.sum {P : Parts} (G : Good P) : ((linesOf P).map (·.length)).sum + (linesOf P).length * ("\n" : Str).length ≤ 12876 := by
  have h1 := sum_le (·.length) 221 (linesOf P) fun z hz => by
    obtain ⟨ws, hw, rfl⟩ := List.mem_map.mp hz
    exact (G.lines ws hw).le
  have h2 : (linesOf P).length ≤ 58 := by
    unfold linesOf
    rw [List.length_map]
    exact G.few
  rw [len_nl]
  omega
theorem Good.text_le {P : Parts} (G : Good P) : (textOf P).length ≤ 12876 := Nat.le_trans (StrLaws.join_length_le _ _) G.sum
theorem Good.split {P : Parts} (G : Good P) : Txt.split (textOf P) "\n" = linesOf P := by
  unfold textOf
  rw [← TL.join_eq]
  refine TL.split_join (s := 10) (S := []) tl_nl (by decide +kernel) (by simp [linesOf, wordsOf]) fun z hz hm => ?_
  obtain ⟨ws, hw, rfl⟩ := List.mem_map.mp hz
  exact (G.lines ws hw).noNl hm

/-! ### lines made piece by piece -/
theorem app_assoc (a b c : Str) : a ++ b ++ c = a ++ (b ++ c) := by
  refine TL.ext_tl ?_
  simp only [TL.tl_append, List.append_assoc]
theorem emp_app (a : Str) : Str.empty ++ a = a := by
  refine TL.ext_tl ?_
  rw [TL.tl_append]
  rfl
theorem join_snoc (s : Str) : ∀ {l : List Str}, l ≠ [] → ∀ z, Str.join s (l ++ [z]) = Str.join s l ++ s ++ z
  | [], h, _ => absurd rfl h
  | [a], _, z => rfl
  | a :: b :: r, _, z => by
    show a ++ s ++ Str.join s ((b :: r) ++ [z]) = a ++ s ++ Str.join s (b :: r) ++ s ++ z
    rw [join_snoc s (by simp) z]
    simp only [app_assoc]
theorem line_take (x : Str) (ns : List Str) {i : Nat} {z : Str} (h : ns[i]? = some z) : lineOf (x :: ns.take (i + 1)) = lineOf (x :: ns.take i) ++ " " ++ z := by
  have e : ns.take (i + 1) = ns.take i ++ [z] := by
    rw [List.take_add_one, h]
    rfl
  unfold lineOf
  rw [e, ← List.cons_append, join_snoc _ (by simp)]
theorem line4 (x a b c : Str) : lineOf [x, a, b, c] = x ++ (" " ++ (a ++ (" " ++ (b ++ (" " ++ c))))) := by
  show x ++ " " ++ (a ++ " " ++ (b ++ " " ++ c)) = _
  simp only [app_assoc]
theorem line6 (x a b c d e : Str) : lineOf [x, a, b, c, d, e] = x ++ (" " ++ (a ++ (" " ++ (b ++ (" " ++ (c ++ (" " ++ (d ++ (" " ++ e))))))))) := by
  show x ++ " " ++ (a ++ " " ++ (b ++ " " ++ (c ++ " " ++ (d ++ " " ++ e)))) = _
  simp only [app_assoc]
theorem relay_sp : ("relay " : Str) = "relay" ++ " " := by decide +kernel
theorem lamp_sp : ("lamp " : Str) = "lamp" ++ " " := by decide +kernel
theorem contact_sp : ("contact " : Str) = "contact" ++ " " := by decide +kernel
theorem rel_line (a b c : Str) : ("relay " : Str) ++ a ++ " " ++ b ++ " " ++ c = lineOf (relW (a, b, c)) := by
  rw [relW, line4, relay_sp]
  simp only [app_assoc]
theorem lam_line (a b c : Str) : ("lamp " : Str) ++ a ++ " " ++ b ++ " " ++ c = lineOf (lamW (a, b, c)) := by
  rw [lamW, line4, lamp_sp]
  simp only [app_assoc]
theorem con_line (c : Con) : ("contact " : Str) ++ c.one ++ " " ++ c.other ++ " " ++ movW c.mov ++ " " ++ c.whn ++ " " ++ c.way = lineOf (conW c) := by
  rw [conW, line6, contact_sp]
  simp only [app_assoc]

/-! ### drawn names -/
theorem chars36 : (TL.tl nameChars).length = 36 := by decide +kernel
theorem chars_nd : (TL.tl nameChars).Nodup := by decide +kernel
def chr36 (i : Nat) : Nat := (TL.tl nameChars).getD i 0
theorem chr36_get {i : Nat} (h : i < 36) : (TL.tl nameChars)[i]? = some (chr36 i) := by
  unfold chr36
  rw [List.getD_eq_getElem?_getD, List.getElem?_eq_getElem (by rw [chars36]; exact h)]
  rfl
theorem chr36_mem {i : Nat} (h : i < 36) : chr36 i ∈ TL.tl nameChars := List.mem_of_getElem? (chr36_get h)
theorem chr36_inj {i j : Nat} (hi : i < 36) (hj : j < 36) (e : chr36 i = chr36 j) : i = j := by
  have a := chr36_get hi
  have b := chr36_get hj
  rw [e] at a
  exact nd_ix chars_nd a b
def nmOf (pre : Str) (p : Int) (c : Nat) : Str := cutS pre none (some p) ++ ⟨#[c]⟩ ++ cutS pre (some p) none
theorem tl_one (c : Nat) : TL.tl ⟨#[c]⟩ = [c] := rfl
theorem tl_nmOf (pre : Str) (p : Nat) (c : Nat) (hp : p ≤ pre.length) : TL.tl (nmOf pre p c) = (TL.tl pre).take p ++ ([c] ++ (TL.tl pre).drop p) := by
  have hl := TL.len_tl pre
  unfold nmOf
  rw [TL.tl_append, TL.tl_append, tl_one, List.append_assoc]
  have e1 : TL.tl (cutS pre none (some (p : Int))) = (TL.tl pre).take p := by
    show ((TL.tl pre).drop (HT.sIx pre.length 0 none)).take (HT.sIx pre.length pre.length (some (p : Int)) - HT.sIx pre.length 0 none) = _
    rw [HT.sIx_none, HT.sIx_nat, Nat.min_eq_left hp]
    simp
  have e2 : TL.tl (cutS pre (some (p : Int)) none) = (TL.tl pre).drop p := by
    show ((TL.tl pre).drop (HT.sIx pre.length 0 (some (p : Int)))).take (HT.sIx pre.length pre.length none - HT.sIx pre.length 0 (some (p : Int))) = _
    rw [HT.sIx_none, HT.sIx_nat, Nat.min_eq_left hp]
    apply List.take_of_length_le
    rw [List.length_drop]
    omega
  rw [e1, e2]
theorem nm_ok {pre : Str} {p c : Nat} (hp : p ≤ pre.length) (h11 : pre.length ≤ 11) (hpre : ∀ x ∈ TL.tl pre, x ∈ TL.tl nameChars) (hc : c ∈ TL.tl nameChars) : IsNm (nmOf pre p c) := by
  have hl := TL.len_tl pre
  have e := tl_nmOf pre p c hp
  have el : (nmOf pre p c).length = pre.length + 1 := by
    rw [TL.len_tl, e]
    simp only [List.length_append, List.length_take, List.length_drop, List.length_singleton]
    omega
  refine ⟨by omega, by omega, fun x hx => ?_⟩
  rw [e] at hx
  rcases List.mem_append.mp hx with h | h
  · exact hpre x (List.mem_of_mem_take h)
  rcases List.mem_append.mp h with h | h
  · rw [List.mem_singleton.mp h]; exact hc
  · exact hpre x (List.mem_of_mem_drop h)
theorem nm_inj {pre : Str} {p c d : Nat} (hp : p ≤ pre.length) (e : nmOf pre p c = nmOf pre p d) : c = d := by
  have h := congrArg TL.tl e
  rw [tl_nmOf _ _ _ hp, tl_nmOf _ _ _ hp] at h
  have h2 := List.append_cancel_left h
  simpa using h2
def namesOf (pre : Str) (p sh many : Nat) : List Str := (List.range many).map fun k => nmOf pre p (chr36 ((sh + k) % 36))
theorem names_len (pre : Str) (p sh many : Nat) : (namesOf pre p sh many).length = many := by simp [namesOf]
theorem names_ok {pre : Str} {p sh many : Nat} (hp : p ≤ pre.length) (h11 : pre.length ≤ 11) (hpre : ∀ x ∈ TL.tl pre, x ∈ TL.tl nameChars) : ∀ z ∈ namesOf pre p sh many, IsNm z := by
  intro z hz
  obtain ⟨k, _, rfl⟩ := List.mem_map.mp hz
  exact nm_ok hp h11 hpre (chr36_mem (Nat.mod_lt _ (by decide)))
theorem names_nd {pre : Str} {p sh many : Nat} (hp : p ≤ pre.length) (hm : many ≤ 36) : (namesOf pre p sh many).Nodup := by
  unfold namesOf List.Nodup
  rw [List.pairwise_iff_getElem]
  intro i j hi hj hij e
  simp only [List.length_map, List.length_range] at hi hj
  simp only [List.getElem_map, List.getElem_range] at e
  have h := chr36_inj (Nat.mod_lt _ (by decide)) (Nat.mod_lt _ (by decide)) (nm_inj hp e)
  omega

/-! ### drawn ends -/
theorem ends_draw {a b n : Int} (hn : 2 ≤ n) : 0 ≤ a % n ∧ a % n < n ∧ 0 ≤ (a % n + 1 + b % (n - 1)) % n ∧ (a % n + 1 + b % (n - 1)) % n < n ∧ a % n ≠ (a % n + 1 + b % (n - 1)) % n := by
  have h1 : 0 ≤ a % n := Int.emod_nonneg _ (by omega)
  have h2 : a % n < n := Int.emod_lt_of_pos _ (by omega)
  have h3 : 0 ≤ b % (n - 1) := Int.emod_nonneg _ (by omega)
  have h4 : b % (n - 1) < n - 1 := Int.emod_lt_of_pos _ (by omega)
  generalize a % n = x at *
  generalize b % (n - 1) = y at *
  refine ⟨h1, h2, Int.emod_nonneg _ (by omega), Int.emod_lt_of_pos _ (by omega), ?_⟩
  by_cases h : x + 1 + y < n
  · rw [Int.emod_eq_of_lt (by omega) h]
    omega
  · have e : (x + 1 + y) % n = x + 1 + y - n := by
      have e1 : x + 1 + y = (x + 1 + y - n) + n := by omega
      rw [e1, Int.add_emod_right, Int.emod_eq_of_lt (by omega) (by omega)]
      omega
    rw [e]
    omega

/-! ### which contacts a mover moves -/
def movV : Option Str → V
  | none => .non
  | some m => .str m
def hitB (cons : List Con) (m : Str) (n : Nat) : Bool := match cons[n]? with
  | some c => decide (c.mov = some m)
  | none => false
def hits (cons : List Con) (m : Str) (n : Nat) : List Int := ((List.range n).filter (hitB cons m)).map fun k => ((k : Nat) : Int)
theorem hits_succ (cons : List Con) (m : Str) (n : Nat) : hits cons m (n + 1) = if hitB cons m n = true then hits cons m n ++ [((n : Nat) : Int)] else hits cons m n := by
  unfold hits
  rw [List.range_succ, List.filter_append, List.map_append]
  cases h : hitB cons m n with
  | true => simp [h]
  | false => simp [h]
theorem hits_len (cons : List Con) (m : Str) (n : Nat) : (hits cons m n).length ≤ n := by
  unfold hits
  rw [List.length_map]
  exact Nat.le_trans (List.length_filter_le _ _) (by simp)
theorem hit_at {cons : List Con} {m : Str} {n : Nat} {c : Con} (h : cons[n]? = some c) : decide (movV c.mov = V.str m) = hitB cons m n := by
  unfold hitB
  rw [h]
  show decide (movV c.mov = V.str m) = decide (c.mov = some m)
  cases e : c.mov with
  | none => simp [movV]
  | some x => simp [movV]
end K7

/-! The text by places; what lies in memory; the facts of the top that the walk leans on. -/
namespace K7
open PySem PySem.Spec PyProof.Rows L2 ClX

/-! ### the text by places -/
def top (i : Nat) : Stmt := PySem.Challenge.pw_leverhouse_k07_whole_text_and_back.main.body.getD i (.Pass ⟨0, 0, 0, 0⟩)
abbrev sAreNames : Stmt := top 11
abbrev sIsBetween : Stmt := top 12
abbrev sAreLoads : Stmt := top 13
abbrev sIsContact : Stmt := top 14
abbrev sBInit : Stmt := inClass (top 15) 5
abbrev sIsName : Stmt := inClass (top 15) 6
abbrev sMovers : Stmt := inClass (top 15) 9
abbrev sMoverNumber : Stmt := inClass (top 15) 10
abbrev sContactsOf : Stmt := inClass (top 15) 12
abbrev sFormat : Stmt := top 17
abbrev sParseNames : Stmt := top 18
abbrev sStarts : Stmt := top 19
abbrev sRInit : Stmt := inClass (top 20) 0
abbrev sTakeNames : Stmt := inClass (top 20) 1
abbrev sCheckEnds : Stmt := inClass (top 20) 2
abbrev sTakeLoads : Stmt := inClass (top 20) 3
abbrev sTakeContacts : Stmt := inClass (top 20) 4
abbrev sRead : Stmt := inClass (top 20) 5
abbrev sParse : Stmt := top 21
abbrev sRow : Stmt := top 23
abbrev sNumbers : Stmt := top 24
abbrev sNames : Stmt := top 25
abbrev sCount : Stmt := top 26
abbrev sTwo : Stmt := top 27
abbrev sContact : Stmt := top 28
abbrev sLoads : Stmt := top 29
abbrev sParts : Stmt := top 30
abbrev sMade : Stmt := top 31
abbrev sSame : Stmt := top 32
abbrev sLines : Stmt := top 33
abbrev sLaw : Stmt := top 34

/-! ### heaps -/
theorem _root_.L2.Same.kput {H H1 : Hp} {p : Addr} {o : HO} (s : Same H H1) (h : H p = none) : Same H (upd H1 p o) := fun b ob e => by
  rw [upd_ne (ne_of_none e h)]
  exact s b ob e
theorem _root_.L2.Same.knew {H H1 : Hp} {p : Addr} {o : HO} (s : Same H H1) (h : H1 p = none) : Same H (upd H1 p o) := s.kput (s.free h)
theorem _root_.L2.Same.ktup {K : PySem.W.Frag} {H H' : Hp} {a : Addr} {xs : List V} (e : Same H H') (h : SqT K H a xs) : SqT K H' a xs := by
  rcases h with (h | ⟨o, h⟩) | h
  · exact .inl (.inl (e _ _ h))
  · exact .inl (.inr ⟨o, e _ _ h⟩)
  · exact .inr h
theorem same_up {H : Hp} {p : Addr} {o : HO} (h : H p = none) : Same H (upd H p o) := (Same.refl H).knew h
/-- rows: each item is a tuple of the row -/
structure RowsAt (K : PySem.W.Frag) (H : Hp) (xs : List V) (rows : List (List V)) : Prop where
  len : xs.length = rows.length
  at_ : ∀ (i : Nat) (r : List V), rows[i]? = some r → ∃ a, xs[i]? = some (.ref a) ∧ SqT K H a r
theorem RowsAt.same {K : PySem.W.Frag} {H H' : Hp} {xs : List V} {rows : List (List V)} (h : RowsAt K H xs rows) (s : Same H H') : RowsAt K H' xs rows :=
  ⟨h.len, fun i r e => let ⟨a, e1, e2⟩ := h.at_ i r e; ⟨a, e1, s.ktup e2⟩⟩
theorem RowsAt.nil {K : PySem.W.Frag} {H : Hp} : RowsAt K H [] [] := ⟨rfl, fun i r e => by simp at e⟩
theorem RowsAt.snoc {K : PySem.W.Frag} {H : Hp} {xs : List V} {rows : List (List V)} {a : Addr} {r : List V} (h : RowsAt K H xs rows) (t : SqT K H a r) : RowsAt K H (xs ++ [.ref a]) (rows ++ [r]) := by
  refine ⟨by simp [h.len], fun i q e => ?_⟩
  by_cases hi : i < rows.length
  · rw [List.getElem?_append_left hi] at e
    obtain ⟨b, e1, e2⟩ := h.at_ i q e
    exact ⟨b, by rw [List.getElem?_append_left (by rw [h.len]; exact hi)]; exact e1, e2⟩
  · have hl : i = rows.length := by
      have := (List.getElem?_eq_some_iff.mp e).1
      simp at this
      omega
    subst hl
    simp at e
    subst e
    exact ⟨a, by rw [← h.len]; simp, t⟩
/-- reading by the item -/
theorem RowsAt.get {K : PySem.W.Frag} {H : Hp} {xs : List V} {rows : List (List V)} (h : RowsAt K H xs rows) {i : Nat} {x : V} (e : xs[i]? = some x) : ∃ a r, x = .ref a ∧ rows[i]? = some r ∧ SqT K H a r := by
  have hi : i < rows.length := by rw [← h.len]; exact (List.getElem?_eq_some_iff.mp e).1
  obtain ⟨a, e1, e2⟩ := h.at_ i rows[i] (List.getElem?_eq_getElem hi)
  rw [e] at e1
  exact ⟨a, _, Option.some.inj e1, List.getElem?_eq_getElem hi, e2⟩
theorem RowsAt.getL {K : PySem.W.Frag} {H : Hp} {α : Type} {f : α → List V} {xs : List V} {ls : List α} (h : RowsAt K H xs (ls.map f)) {i : Nat} {x : V} (e : xs[i]? = some x) : ∃ a l, x = .ref a ∧ ls[i]? = some l ∧ SqT K H a (f l) := by
  obtain ⟨a, r, e1, e2, e3⟩ := h.get e
  rw [List.getElem?_map] at e2
  cases q : ls[i]? with
  | none => rw [q] at e2; cases e2
  | some l =>
    rw [q] at e2
    have := Option.some.inj e2
    subst this
    exact ⟨a, l, e1, rfl, e3⟩
/-- lists of words -/
structure LinesAt (K : PySem.W.Frag) (H : Hp) (l : Addr) (W : List (List Str)) : Prop where
  ex : ∃ xs : List V, SqL K H l xs ∧ xs.length = W.length ∧ ∀ (i : Nat) (ws : List Str), W[i]? = some ws → ∃ a, xs[i]? = some (.ref a) ∧ SqL K H a (ws.map V.str)
theorem LinesAt.same {K : PySem.W.Frag} {H H' : Hp} {l : Addr} {W : List (List Str)} (h : LinesAt K H l W) (s : Same H H') : LinesAt K H' l W := by
  obtain ⟨xs, h1, h2, h3⟩ := h.ex
  exact ⟨xs, s.seq h1, h2, fun i ws e => let ⟨a, e1, e2⟩ := h3 i ws e; ⟨a, e1, s.seq e2⟩⟩
def load3 (r : Load) : List V := [.str r.1, .str r.2.1, .str r.2.2]
def con5 (c : Con) : List V := [.str c.one, .str c.other, movV c.mov, .str c.whn, .str c.way]

/-! ### fields -/
theorem zip_lookup {N : List Str} (hN : N.Nodup) : ∀ {vals : List V} {i : Nat} {x : Str} {v : V}, N[i]? = some x → vals[i]? = some v → (N.zip vals).lookup x = some v := by
  induction N with
  | nil => intro vals i x v h; simp at h
  | cons n N ih =>
    intro vals i x v hx hv
    cases vals with
    | nil => simp at hv
    | cons w vals =>
      have hn := (List.nodup_cons.mp hN)
      cases i with
      | zero =>
        simp at hx hv
        subst hx hv
        show List.lookup n ((n, w) :: N.zip vals) = some w
        rw [List.lookup_cons]
        simp
      | succ i =>
        simp at hx hv
        have hne : x ≠ n := fun e => hn.1 (e ▸ List.mem_of_getElem? hx)
        show List.lookup x ((n, w) :: N.zip vals) = some v
        rw [List.lookup_cons]
        have : (x == n) = false := beq_eq_false_iff_ne.mpr hne
        rw [this]
        exact ih hn.2 hx hv
theorem zip_none {N : List Str} : ∀ {vals : List V} {x : Str}, x ∉ N → (N.zip vals).lookup x = none := by
  induction N with
  | nil => intro vals x _; rfl
  | cons n N ih =>
    intro vals x hx
    cases vals with
    | nil => rfl
    | cons w vals =>
      show List.lookup x ((n, w) :: N.zip vals) = none
      rw [List.lookup_cons]
      have h := not_or.mp (fun z => hx (List.mem_cons.mpr z))
      have : (x == n) = false := beq_eq_false_iff_ne.mpr h.1
      rw [this]
      exact ih h.2
theorem zip_put {N : List Str} (hN : N.Nodup) : ∀ {vals : List V} {i : Nat} {x : Str} {v : V}, N[i]? = some x → i < vals.length → putF x v (N.zip vals) = N.zip (vals.set i v) := by
  induction N with
  | nil => intro vals i x v h; simp at h
  | cons n N ih =>
    intro vals i x v hx hv
    cases vals with
    | nil => simp at hv
    | cons w vals =>
      have hn := (List.nodup_cons.mp hN)
      cases i with
      | zero =>
        simp at hx
        subst hx
        show (if n = n then (n, v) :: N.zip vals else (n, w) :: putF n v (N.zip vals)) = (n, v) :: N.zip vals
        rw [if_pos rfl]
      | succ i =>
        simp at hx hv
        have hne : ¬ n = x := fun e => hn.1 (e ▸ List.mem_of_getElem? hx)
        show (if n = x then (n, v) :: N.zip vals else (n, w) :: putF x v (N.zip vals)) = (n, w) :: N.zip (vals.set i v)
        rw [if_neg hne, ih hn.2 hx hv]
/-- a field more: the first fields of N are there -/
theorem zip_new {N : List Str} (hN : N.Nodup) : ∀ {vals : List V} {x : Str} {v : V}, N[vals.length]? = some x → putF x v (N.zip vals) = N.zip (vals ++ [v]) := by
  induction N with
  | nil => intro vals x v h; simp at h
  | cons n N ih =>
    intro vals x v hx
    have hn := (List.nodup_cons.mp hN)
    cases vals with
    | nil =>
      simp at hx
      subst hx
      show [(n, v)] = (n, v) :: N.zip []
      simp
    | cons w vals =>
      simp at hx
      have hne : ¬ n = x := fun e => hn.1 (e ▸ List.mem_of_getElem? hx)
      show (if n = x then (n, v) :: N.zip vals else (n, w) :: putF x v (N.zip vals)) = (n, w) :: N.zip (vals ++ [v])
      rw [if_neg hne, ih hn.2 hx]
theorem zip_len {N : List Str} {vals : List V} : (N.zip vals).length ≤ N.length := by
  rw [List.length_zip]
  exact Nat.min_le_left _ _
def BN : List Str := ["nodes", "switches", "relays", "lamps", "contacts"]
def RN : List Str := ["lines", "at", "nodes", "switches", "relays", "lamps", "contacts"]
theorem BN_nd : BN.Nodup := by decide +kernel
theorem RN_nd : RN.Nodup := by decide +kernel
abbrev aB (K : PySem.W.Frag) : Addr := He.ga K "Board"
abbrev aR (K : PySem.W.Frag) : Addr := He.ga K "Reader"
/-- a board stands at p -/
structure BoardAt (K : PySem.W.Frag) (H : Hp) (p : Addr) (P : Parts) : Prop where
  ex : ∃ (dx n s r l c : Addr) (xr xl xc : List V), H p = some (.ins (aB K) dx (BN.zip [.ref n, .ref s, .ref r, .ref l, .ref c])) ∧
    SqT K H n (P.nodes.map V.str) ∧ SqT K H s (P.sws.map V.str) ∧ SqT K H r xr ∧ RowsAt K H xr (P.rels.map load3) ∧ SqT K H l xl ∧ RowsAt K H xl (P.lams.map load3) ∧ SqT K H c xc ∧ RowsAt K H xc (P.cons.map con5)
theorem BoardAt.same {K : PySem.W.Frag} {H H' : Hp} {p : Addr} {P : Parts} (h : BoardAt K H p P) (s : Same H H') : BoardAt K H' p P := by
  obtain ⟨dx, n, sw, r, l, c, xr, xl, xc, h1, h2, h3, h4, h5, h6, h7, h8, h9⟩ := h.ex
  exact ⟨dx, n, sw, r, l, c, xr, xl, xc, s _ _ h1, s.ktup h2, s.ktup h3, s.ktup h4, h5.same s, s.ktup h6, h7.same s, s.ktup h8, h9.same s⟩
/-- the drawn parts: a tuple of five lists -/
structure PartsAt (K : PySem.W.Frag) (H : Hp) (p : Addr) (P : Parts) : Prop where
  ex : ∃ (n s r l c : Addr) (xr xl xc : List V), SqT K H p [.ref n, .ref s, .ref r, .ref l, .ref c] ∧
    H n = some (.lst (P.nodes.map V.str)) ∧ H s = some (.lst (P.sws.map V.str)) ∧ H r = some (.lst xr) ∧ RowsAt K H xr (P.rels.map load3) ∧ H l = some (.lst xl) ∧ RowsAt K H xl (P.lams.map load3) ∧ H c = some (.lst xc) ∧ RowsAt K H xc (P.cons.map con5)
theorem PartsAt.same {K : PySem.W.Frag} {H H' : Hp} {p : Addr} {P : Parts} (h : PartsAt K H p P) (s : Same H H') : PartsAt K H' p P := by
  obtain ⟨n, sw, r, l, c, xr, xl, xc, h1, h2, h3, h4, h5, h6, h7, h8, h9⟩ := h.ex
  exact ⟨n, sw, r, l, c, xr, xl, xc, s.ktup h1, s _ _ h2, s _ _ h3, s _ _ h4, h5.same s, s _ _ h6, h7.same s, s _ _ h8, h9.same s⟩

/-! ### lists of texts -/
theorem strs_get {zs : List Str} {i : Nat} {v : V} (h : (zs.map V.str)[i]? = some v) : ∃ z, zs[i]? = some z ∧ v = .str z := by
  rw [List.getElem?_map] at h
  cases e : zs[i]? with
  | none => rw [e] at h; cases h
  | some z => rw [e] at h; exact ⟨z, rfl, (Option.some.inj h).symm⟩
theorem strs_at {zs : List Str} {i : Nat} {z : Str} (h : zs[i]? = some z) : (zs.map V.str)[i]? = some (.str z) := by
  rw [List.getElem?_map, h]
  rfl
theorem strs_flat (zs : List Str) : (zs.map V.str).all flatV = true := by
  rw [List.all_eq_true]
  intro v hv
  obtain ⟨z, _, rfl⟩ := List.mem_map.mp hv
  rfl
theorem in_strs (z : Str) (zs : List Str) : inV (.str z) (zs.map V.str) = decide (z ∈ zs) := by
  unfold inV
  rw [List.any_map]
  by_cases h : z ∈ zs
  · rw [decide_eq_true h, List.any_eq_true]
    exact ⟨z, h, by simp [eqV]⟩
  · rw [decide_eq_false h, List.any_eq_false]
    intro y hy
    simp only [Function.comp, eqV]
    intro e
    exact h (eq_of_beq e ▸ hy)

/-! ### the defs of the top -/
/-- a def of the module under its name -/
structure Dfn (K : PySem.W.Frag) (mg : Str → Option Value) (x : Str) (st : Stmt) : Prop where
  ex : ∃ f fd, Fun K x x st f fd ∧ mg x = some (.ref f)
section
variable {P : Program} {w : World} {K : PySem.W.Frag} {mg : Str → Option Value} {base : Heap}
theorem cal_of {x : Str} {st : Stmt} {N ps : List Str} {k : Nat} {sp : Sp} (D : Dfn K mg x st) (S : FnScope N ps (defScope st)) (len : ∀ vs H Q E, sp vs H Q E → vs.length = ps.length)
    (hb : ∀ (kV doc pm : Value) (an : Option Addr) (cdv ct : Value) (us : List Value), us.length = ps.length → bindArgs (PySem.W.fnOf x x (defArgs st) (defBody st) (defScope st) .none kV doc pm an cdv ct) ⟨us, []⟩ = pure (ps.zip us))
    (hbody : ∀ (f : Addr) (cdv : Value) (A : Around) (outer : List Env) (s : Shared) (H : Hp) (vs : List V) (Q : VK) (E : XK), Room k (A.deeper (envOfC x (defScope st) s.heap.objs.size f cdv)) → sp vs H Q E →
      ∃ t, PSs (cxOf CX0 P w K mg base N x (defScope st) f cdv A outer s H E).nox (defBody st) t ∧ t { nx := fun _ H' => Q .non H', rt := Q } (start N vs) H) : C8.Cal P w K mg base (k + 1) x sp [] := by
  obtain ⟨f, fd, F, hm⟩ := D.ex
  exact ⟨f, fd, ps, [], F.ok S len (hbody f), hm, F.kp, F.binds hb, .nil⟩
/-- a method of a class -/
structure Mth (K : PySem.W.Frag) (C : Addr) (m qual : Str) (st : Stmt) : Prop where
  ex : ∃ f fd, Fun K m qual st f fd ∧ Meth K C m f
theorem met_of {C : Addr} {m qual : Str} {st : Stmt} {N ps : List Str} {k : Nat} {sp : Sp} (c : Cls K C) (D : Mth K C m qual st) (S : FnScope N ps (defScope st)) (len : ∀ vs H Q E, sp vs H Q E → vs.length = ps.length)
    (hb : ∀ (kV doc pm : Value) (an : Option Addr) (cdv ct : Value) (us : List Value), us.length = ps.length → bindArgs (PySem.W.fnOf m qual (defArgs st) (defBody st) (defScope st) .none kV doc pm an cdv ct) ⟨us, []⟩ = pure (ps.zip us))
    (hbody : ∀ (f : Addr) (cdv : Value) (A : Around) (outer : List Env) (s : Shared) (H : Hp) (vs : List V) (Q : VK) (E : XK), Room k (A.deeper (envOfC qual (defScope st) s.heap.objs.size f cdv)) → sp vs H Q E →
      ∃ t, PSs (cxOf CX0 P w K mg base N qual (defScope st) f cdv A outer s H E).nox (defBody st) t ∧ t { nx := fun _ H' => Q .non H', rt := Q } (start N vs) H) : C8.Met P w K mg base (k + 1) C m sp [] := by
  obtain ⟨f, fd, F, hm⟩ := D.ex
  exact ⟨f, fd, ps, [], c, hm, F.ok S len (hbody f), F.binds hb, .nil⟩
end
/-- what the walk leans on of the top's names -/
structure Tx (K : PySem.W.Frag) (mg : Str → Option Value) : Prop where
  len : mg "len" = none
  enumerate : mg "enumerate" = none
  all : mg "all" = none
  list : mg "list" = none
  tuple : mg "tuple" = none
  range : mg "range" = none
  int : mg "int" = none
  abs : mg "abs" = none
  max : mg "max" = none
  min : mg "min" = none
  isinstance : mg "isinstance" = none
  nchars : ∃ t, mg "NAME_CHARS" = some (.str nameChars t)
  mchars : ∃ t, mg "MOST_NAME_CHARS" = some (.int 12 t)
  whens : mg "WHENS" = some (.ref (He.ga K "WHENS"))
  ways : mg "WAYS" = some (.ref (He.ga K "WAYS"))
  whensT : ∀ H, SqT K H (He.ga K "WHENS") [.str "make", .str "break"]
  waysT : ∀ H, SqT K H (He.ga K "WAYS") [.str "both", .str "forward"]
  board : mg "Board" = some (.ref (aB K))
  reader : mg "Reader" = some (.ref (aR K))
  clB : Cls K (aB K)
  clR : Cls K (aR K)
  noB : ∀ f ∈ BN, NoAttr K (aB K) f
  noR : ∀ f ∈ RN, NoAttr K (aR K) f
  rdB : CRead K (aB K) (.type "type")
  mostN : ∃ u, CVal K (aB K) (.type "type") "MOST_NODES" (.int 16) u
  mostS : ∃ u, CVal K (aB K) (.type "type") "MOST_SWITCHES" (.int 6) u
  mostR : ∃ u, CVal K (aB K) (.type "type") "MOST_RELAYS" (.int 8) u
  mostL : ∃ u, CVal K (aB K) (.type "type") "MOST_LAMPS" (.int 8) u
  mostC : ∃ u, CVal K (aB K) (.type "type") "MOST_CONTACTS" (.int 40) u
theorem Tx.bN {K : PySem.W.Frag} {mg : Str → Option Value} (T : Tx K mg) (i : Nat) {f : Str} (h : BN[i]? = some f) : NoAttr K (aB K) f := T.noB f (List.mem_of_getElem? h)
theorem Tx.rN {K : PySem.W.Frag} {mg : Str → Option Value} (T : Tx K mg) (i : Nat) {f : Str} (h : RN[i]? = some f) : NoAttr K (aR K) f := T.noR f (List.mem_of_getElem? h)
/-- the staticmethod is_name -/
structure Stat (P : Program) (w : World) (K : PySem.W.Frag) (mg : Str → Option Value) (base : Heap) (k : Nat) (C : Addr) (m : Str) (sp : Sp) : Prop where
  ex : ∃ (p g : Addr) (fd : FuncData) (ps : List Str), SMet K C (.type "type") m p g ∧ FnOk P w K mg base CX0 k g fd ps sp ∧ Binds K fd ps []
section
variable {X : Cx} {k j : Nat} {C : Addr} {m : Str} {sp : Sp} {pos apos : Pos} {e o : Expr} {es : List Expr} {ta : TE} {t : TA}
theorem pe_st {pl : Sem Bool} (c : Stat X.prog X.w X.K X.mg X.base k C m sp) (r : CRead X.K C (.type "type")) (hr : Room j X.A) (hk : k ≤ j) (he : PE X o ta) (ha : PA X (e :: es) t)
    (hst : starEach (e :: es) X.env = (false, eval e X.env) :: starEach es X.env := by rfl) (hpl : (backTo pos (starEach es X.env)).any (·.1) = false := by rfl)
    (ht : eval (.Call (.Attribute o m apos) (e :: es) [] pos) X.env = (do
      let ov ← eval o X.env
      standAt apos.atName
      let (f, first) ← holding [ov] (getMethod ov m pl)
      callWith pos f first (backTo pos (starEach (e :: es) X.env)) (backToKw pos (keywordEach [] X.env))) := by rfl) :
    PE X (.Call (.Attribute o m apos) (e :: es) [] pos) (tSMeth C sp E0 ta t) := by
  obtain ⟨p, g, fd, ps, hs, F, b⟩ := c.ex
  exact pe_smeth (pl := pl) he r hs F (hr.mono hk) b pass0 ha hst hpl ht
end
end K7

namespace K7
open PySem PySem.Spec PyProof.Rows L2 ClX
theorem iteD {c A B : Prop} [Decidable c] (hc : c) (h : A) : if decide c = true then A else B := by
  rw [decide_eq_true hc]
  exact iteT h
theorem iteDN {c A B : Prop} [Decidable c] (hc : ¬ c) (h : B) : if decide c = true then A else B := by
  rw [decide_eq_false hc]
  exact iteF h
theorem ctrue {b : Bool} {A B : Prop} (e : b = true) (h : A) : if b = true then A else B := by
  rw [e]
  exact iteT h
theorem cfalse {b : Bool} {A B : Prop} (e : b = false) (h : B) : if b = true then A else B := by
  rw [e]
  exact iteF h
section
variable {P : Program} {w : World} {K : PySem.W.Frag} {mg : Str → Option Value} {base : Heap}
/-! ### Board.is_name -/
def spIsName : Sp := fun vs H Q _ => ∃ z, vs = [.str z] ∧ IsNm z ∧ ∀ H', Same H H' → Q (.bl true) H'
theorem scIsName : FnScope ["text", "char"] ["text"] (defScope sIsName) := ⟨rfl, rfl, rfl, by decide +kernel, rfl, by decide +kernel, by decide +kernel⟩
theorem ok_is_name {f : Addr} {fd : FuncData} (T : Tx K mg) (F : Fun K "is_name" "Board.is_name" sIsName f fd) : FnOk P w K mg base CX0 1 f fd ["text"] spIsName := by
  obtain ⟨t1, n1⟩ := T.nchars
  obtain ⟨t2, n2⟩ := T.mchars
  refine F.ok scIsName (fun vs H Q E h => ?_) (fun cdv A outer s H vs Q E hr h => ?_)
  · obtain ⟨z, rfl, _⟩ := h
    rfl
  · obtain ⟨z, rfl, hz, k⟩ := h
    obtain ⟨h1, h2, h3⟩ := id hz
    have hsz : z.length ≤ sizeLine := Nat.le_trans h2 (by decide)
    refine ⟨_, pss_cons (ps_if (pt_not (pt_chain op_le op_le pe_int (pe_callB call_len_str (by rfl) T.len PySem.boot_len (pa_cons (pv 0) pa_nil)) (pe_glob (v := .int 12) rfl n2 ⟨_, rfl⟩))) (pss_one (ps_ret pe_bl)) pss_nil)
      (pss_one (ps_ret (pe_callB (cr_all rfl) (by rfl) T.all (by decide +kernel) (pa_cons (pe_lc (own := [("char", 1)]) (g := gName 1) (tt := tYes) rfl scIsName.nd (pi_str (pv 0))
        (blkOk_by (N := ["text", "char"]) (sc := defScope sIsName) (by decide +kernel)) (fun _ _ _ _ _ => pg_name (i := 1) scIsName.nd rfl (Or.inl rfl)) (fun _ _ _ _ _ => pts_nil)
        (fun _ _ _ _ _ => pe_cmpR op_in_sign (pv 1) (pe_glob (v := .str nameChars) rfl n1 ⟨_, rfl⟩) rfl)) pa_nil)))), ?_⟩
    refine ⟨_, rfl, _, rfl, hsz, _, _, rfl, rfl, _, rfl, ?_⟩
    refine iteD (by omega) ⟨_, _, rfl, rfl, _, rfl, ?_⟩
    refine iteNS (by omega) ?_
    refine ⟨_, rfl, _, rfl, fun D hD => lc_it walk_str (fun i H2 => Same H H2 ∧ H2 D = some (.lst ((List.replicate i true).map V.bl)) ∧ i ≤ 12) ⟨same_up hD, upd_same, Nat.zero_le _⟩ (fun _ _ _ _ => trivial) ?_ ?_⟩
    · rintro i x H2 H3 hi ⟨s2, e2, l2⟩ ⟨rfl, c, hc, rfl⟩
      have hm : c ∈ nameChars.cps.toList := h3 c (by
        rw [← Array.getElem?_toList] at hc
        exact List.mem_of_getElem? hc)
      have hi2 : i < z.length := hi
      refine ⟨rfl, ?_⟩
      refine ⟨_, rfl, _, _, rfl, rfl, ?_⟩
      refine ⟨_, e2, by simp; exact Nat.lt_of_le_of_lt l2 (by decide), s2.kput hD, ?_, by omega⟩
      rw [upd_same, decide_eq_true hm, List.replicate_succ', List.map_append]
      rfl
    · rintro H2 ⟨s2, e2, l2⟩
      refine ⟨D, List.replicate _ true, rfl, SqL.of e2, ?_⟩
      have : (List.replicate z.cps.size true).all id = true := by
        rw [List.all_eq_true]
        intro b hb
        rw [(List.mem_replicate.mp hb).2]
        rfl
      rw [this]
      exact k H2 s2
/-! ### are_names -/
def spAreNames (K : PySem.W.Frag) : Sp := fun vs H Q _ => ∃ (a : Addr) (lo hi : Int) (zs : List Str), vs = [.ref a, .int lo, .int hi] ∧ SqL K H a (zs.map V.str) ∧ lo ≤ (zs.length : Int) ∧ (zs.length : Int) ≤ hi ∧ (∀ z ∈ zs, IsNm z) ∧ zs.Nodup ∧ ∀ H', Same H H' → Q (.bl true) H'
theorem scAreNames : FnScope ["names", "least", "most", "number", "name"] ["names", "least", "most"] (defScope sAreNames) := ⟨rfl, rfl, rfl, by decide +kernel, rfl, by decide +kernel, by decide +kernel⟩
theorem not_in_take {zs : List Str} (nd : zs.Nodup) {i : Nat} {z : Str} (h : zs[i]? = some z) : z ∉ zs.take i := fun hm => by
  obtain ⟨j, hj, e⟩ := List.mem_iff_getElem.mp hm
  rw [List.length_take] at hj
  rw [List.getElem_take] at e
  have h2 : zs[j]? = some z := by rw [List.getElem?_eq_getElem (by omega), e]
  have := nd_ix nd h h2
  omega
theorem cut_strs (zs : List Str) (i : Nat) : cutV (zs.map V.str) none (some ((i : Nat) : Int)) = (zs.take i).map V.str := by
  unfold cutV
  rw [HT.sIx_none, HT.sIx_nat, List.drop_zero, Nat.sub_zero, List.map_take]
  by_cases h : i ≤ (zs.map V.str).length
  · rw [Nat.min_eq_left h]
  · rw [Nat.min_eq_right (by omega), List.take_of_length_le (Nat.le_refl _), List.take_of_length_le (by omega)]
theorem ok_are_names (T : Tx K mg) (D : Dfn K mg "are_names" sAreNames) (cN : Stat P w K mg base 1 (aB K) "is_name" spIsName) : C8.Cal P w K mg base 2 "are_names" (spAreNames K) [] := by
  refine cal_of D scAreNames (fun vs H Q E h => ?_) (fun _ _ _ _ _ _ us hl => match us, hl with | [_, _, _], _ => rfl) (fun f cdv A outer s H vs Q E hr h => ?_)
  · obtain ⟨a, lo, hi, zs, rfl, _⟩ := h
    rfl
  · obtain ⟨a, lo, hi, zs, rfl, hS, h1, h2, h3, nd, k⟩ := h
    refine ⟨_, pss_cons (ps_if (pt_not (pt_chain op_le op_le (pv 1) (pe_callB call_len_seq (by rfl) T.len PySem.boot_len (pa_cons (pv 0) pa_nil)) (pv 2))) (pss_one (ps_ret pe_bl)) pss_nil)
      (pss_cons (ps_for PassesOwn.never rfl (pi_enum (by rfl) T.enumerate (pa_cons (pv 0) pa_nil)) (pg_tup rfl (pgs_cons (pg_name (i := 3) scAreNames.nd rfl (Or.inl rfl)) (pgs_cons (pg_name (i := 4) scAreNames.nd rfl (Or.inl rfl)) pgs_nil)))
        (pss_one (ps_if (PW.pt (pw_or (pt_not (pt_val (pe_st cN T.rdB hr (by decide) (pe_glob (v := .ref (aB K)) rfl T.board rfl) (pa_cons (pv 4) pa_nil)))) (pw_or1 (pt_cmpR op_in_seq (pv 4) (pe_slice sl_list (pv 0) po_none (po_some (pv 3))) (by rfl))))) (pss_one (ps_ret pe_bl)) pss_nil)))
      (pss_one (ps_ret pe_bl))), ?_⟩
    refine ⟨_, rfl, _, rfl, _, _, rfl, .inl hS, _, _, rfl, rfl, _, rfl, ?_⟩
    refine iteD (by simpa using h1) ⟨_, rfl, _, _, rfl, rfl, _, rfl, ?_⟩
    refine iteNS (by simpa using h2) ?_
    refine ⟨_, rfl, a, _, rfl, hS, for_it walk_enum (fun i σ H2 => ∃ v3 v4, σ = [some (.ref a), some (.int lo), some (.int hi), v3, v4] ∧ Same H H2) ⟨none, none, rfl, Same.refl H⟩ (fun i σ H2 _ ⟨_, _, _, s2⟩ => s2.seq hS) ?_ ?_⟩
    · rintro i x σ H2 H3 hi ⟨v3, v4, rfl, s2⟩ ⟨t, y, z, rfl, ht, rfl, e1, e2⟩
      obtain ⟨u, hu, rfl⟩ := strs_get e2
      obtain rfl := Option.some.inj e1
      refine ⟨t, _, rfl, SqT.of upd_same, rfl, _, _, rfl, _, _, rfl, rfl, ?_⟩
      refine ⟨rfl, _, rfl, u, rfl, h3 u (List.mem_of_getElem? hu), fun H4 s4 => ⟨true, rfl, ?_⟩⟩
      refine iteF ?_
      have s5 : Same H H4 := (s2.knew ht).trans s4
      refine ⟨_, rfl, _, rfl, _, rfl, _, rfl, a, _, rfl, s5.seq hS, fun p hp => ?_⟩
      refine ⟨p, _, rfl, .inl (SqL.of upd_same), rfl, ?_, _, rfl, ?_⟩
      · rw [cut_strs]; exact strs_flat _
      · refine cfalse ?_ ⟨_, _, rfl, s5.knew hp⟩
        show inV (.str u) _ = false
        rw [cut_strs, in_strs]
        exact decide_eq_false (not_in_take nd hu)
    · rintro σ H2 ⟨v3, v4, rfl, s2⟩
      exact k H2 s2
end
end K7

namespace K7
open PySem PySem.Spec PyProof.Rows L2 ClX
/-! ### readings of comprehensions -/
theorem wipe1 {σ : L2.St} {i : Nat} {v : V} (hi : i < σ.length) : ((wipe σ [i]).set i (some v))[i]? = some (some v) := by
  rw [List.getElem?_set]
  rw [if_pos rfl, if_pos (by rw [wipe_length]; exact hi)]
theorem wipe_set1 {σ : L2.St} {i : Nat} {v : V} : wipe ((wipe σ [i]).set i (some v)) [i] = wipe σ [i] := by
  show ((σ.set i none).set i (some v)).set i none = σ.set i none
  rw [List.set_set, List.set_set]
section
variable {K : PySem.W.Frag} {i : Nat} {σ : L2.St} {H : Hp} {Q : VK} {a : Addr} {xs : List V} {ls : List Load} {te : TE} {rows : List (List V)}
/-- [x[0] for x in a list of rows] -/
theorem rd_firstsL (hte : ∀ R : V → Hp → Prop, R (.ref a) H → te σ H R) (hi : i < σ.length) (hS : SqL K H a xs) (hR : RowsAt K H xs (ls.map load3)) (hz : xs.length ≤ 1000)
    (k : ∀ (D : Addr) (H' : Hp), H D = none → Same H H' → H' D = some (.lst ((ls.map (·.1)).map V.str)) → Q (.ref D) H') : tLc (iList K te) (gName i) tYes (tOp (rIxT K) (tVar i) (tC (.int 0))) [i] σ H Q := by
  refine hte _ ⟨a, rfl, ⟨_, hS⟩, fun D hD => lc_list (K := K) (a := a) (xs := xs) (fun j H2 => Same H H2 ∧ H2 D = some (.lst (((ls.take j).map (·.1)).map V.str)) ∧ j ≤ xs.length) ⟨same_up hD, upd_same, Nat.zero_le _⟩ (fun j H2 _ h => h.1.seq hS) ?_ ?_⟩
  · rintro j x H2 hj ⟨s2, e2, l2⟩
    obtain ⟨b, l, rfl, hl, ht⟩ := hR.getL hj
    have hlt : j < xs.length := (List.getElem?_eq_some_iff.mp hj).1
    refine ⟨wipe_set1, ?_⟩
    refine ⟨_, wipe1 hi, b, _, _, V.str l.1, rfl, rfl, s2.ktup ht, rfl, ?_⟩
    refine ⟨_, e2, ?_, s2.kput hD, ?_, hlt⟩
    · rw [List.length_map, List.length_map, List.length_take]
      exact small1000 (by omega)
    · rw [upd_same, List.take_add_one, hl]
      simp
  · rintro H2 ⟨s2, e2, l2⟩
    refine k D H2 hD s2 ?_
    rw [e2, List.take_of_length_le (by rw [hR.len, List.length_map]; exact Nat.le_refl _)]
theorem rd_firstsT (hte : ∀ R : V → Hp → Prop, R (.ref a) H → te σ H R) (hi : i < σ.length) (hS : SqT K H a xs) (hR : RowsAt K H xs (ls.map load3)) (hz : xs.length ≤ 1000)
    (k : ∀ (D : Addr) (H' : Hp), H D = none → Same H H' → H' D = some (.lst ((ls.map (·.1)).map V.str)) → Q (.ref D) H') : tLc (iTup K te) (gName i) tYes (tOp (rIxT K) (tVar i) (tC (.int 0))) [i] σ H Q := by
  refine hte _ ⟨a, rfl, ⟨_, hS⟩, fun D hD => lc_tup (K := K) (a := a) (xs := xs) (fun j H2 => Same H H2 ∧ H2 D = some (.lst (((ls.take j).map (·.1)).map V.str)) ∧ j ≤ xs.length) ⟨same_up hD, upd_same, Nat.zero_le _⟩ (fun j H2 _ h => h.1.ktup hS) ?_ ?_⟩
  · rintro j x H2 hj ⟨s2, e2, l2⟩
    obtain ⟨b, l, rfl, hl, ht⟩ := hR.getL hj
    have hlt : j < xs.length := (List.getElem?_eq_some_iff.mp hj).1
    refine ⟨wipe_set1, ?_⟩
    refine ⟨_, wipe1 hi, b, _, _, V.str l.1, rfl, rfl, s2.ktup ht, rfl, ?_⟩
    refine ⟨_, e2, ?_, s2.kput hD, ?_, hlt⟩
    · rw [List.length_map, List.length_map, List.length_take]
      exact small1000 (by omega)
    · rw [upd_same, List.take_add_one, hl]
      simp
  · rintro H2 ⟨s2, e2, l2⟩
    refine k D H2 hD s2 ?_
    rw [e2, List.take_of_length_le (by rw [hR.len, List.length_map]; exact Nat.le_refl _)]
/-- what tuple(x) asks -/
def rTup (K : PySem.W.Frag) : List V → Hp → VK → Prop := fun xs H Q => ∃ p ys, xs = [.ref p] ∧ ((SqL K H p ys ∧ ∀ l, H l = none → Q (.ref l) (upd H l (.tup ys))) ∨ (SqT K H p ys ∧ Q (.ref p) H))
/-- [tuple(x) for x in a list of rows] -/
theorem rd_tuples (hte : ∀ R : V → Hp → Prop, R (.ref a) H → te σ H R) (hi : i < σ.length) (hS : SqL K H a xs) (hR : RowsAt K H xs rows) (hz : xs.length ≤ 1000)
    (k : ∀ (D : Addr) (H' : Hp), H D = none → Same H H' → H' D = some (.lst xs) → Q (.ref D) H') : tLc (iList K te) (gName i) tYes (tCB (rTup K) (tCons (tVar i) tNil)) [i] σ H Q := by
  refine hte _ ⟨a, rfl, ⟨_, hS⟩, fun D hD => lc_list (K := K) (a := a) (xs := xs) (fun j H2 => Same H H2 ∧ H2 D = some (.lst (xs.take j)) ∧ j ≤ xs.length) ⟨same_up hD, upd_same, Nat.zero_le _⟩ (fun j H2 _ h => h.1.seq hS) ?_ ?_⟩
  · rintro j x H2 hj ⟨s2, e2, l2⟩
    obtain ⟨b, l, rfl, hl, ht⟩ := hR.get hj
    have hlt : j < xs.length := (List.getElem?_eq_some_iff.mp hj).1
    refine ⟨wipe_set1, ?_⟩
    refine ⟨_, wipe1 hi, b, _, rfl, .inr ⟨s2.ktup ht, ?_⟩⟩
    refine ⟨_, e2, ?_, s2.kput hD, ?_, hlt⟩
    · rw [List.length_take]
      exact small1000 (by omega)
    · rw [upd_same, List.take_add_one, hj]
      rfl
  · rintro H2 ⟨s2, e2, l2⟩
    refine k D H2 hD s2 ?_
    rw [e2, List.take_of_length_le (Nat.le_refl _)]
end
section
variable {P : Program} {w : World} {K : PySem.W.Frag} {mg : Str → Option Value} {base : Heap}
/-! ### is_between -/
def spIsBetween (K : PySem.W.Frag) : Sp := fun vs H Q _ => ∃ (x y : Str) (n : Addr) (ns : List Str), vs = [.str x, .str y, .ref n] ∧ SqL K H n (ns.map V.str) ∧ EndsOk ns x y ∧ Q (.bl true) H
theorem scIsBetween : FnScope ["one", "other", "nodes"] ["one", "other", "nodes"] (defScope sIsBetween) := ⟨rfl, rfl, rfl, by decide +kernel, rfl, by decide +kernel, by decide +kernel⟩
theorem ok_is_between (D : Dfn K mg "is_between" sIsBetween) : C8.Cal P w K mg base 1 "is_between" (spIsBetween K) [] := by
  refine cal_of D scIsBetween (fun vs H Q E h => ?_) (fun _ _ _ _ _ _ us hl => match us, hl with | [_, _, _], _ => rfl) (fun f cdv A outer s H vs Q E hr h => ?_)
  · obtain ⟨x, y, n, ns, rfl, _⟩ := h
    rfl
  · obtain ⟨x, y, n, ns, rfl, hS, ⟨h1, h2, h3⟩, k⟩ := h
    refine ⟨_, pss_one (ps_ret (pe_and (pe_cmpR op_in_seq (pv 0) (pv 2) (by rfl)) (pe_and (pe_cmpR op_in_seq (pv 1) (pv 2) (by rfl)) (pe_one (pe_cmpR op_ne (pv 0) (pv 1) (nomark _)))))), ?_⟩
    refine ⟨_, rfl, _, rfl, n, _, rfl, .inl hS, rfl, strs_flat _, _, rfl, ?_⟩
    refine ctrue (show inV (.str x) _ = true by rw [in_strs]; exact decide_eq_true h1) ?_
    refine ⟨_, rfl, _, rfl, n, _, rfl, .inl hS, rfl, strs_flat _, _, rfl, ?_⟩
    refine ctrue (show inV (.str y) _ = true by rw [in_strs]; exact decide_eq_true h2) ?_
    refine ⟨_, rfl, _, rfl, rfl, ?_⟩
    have e : (!decide (V.str x = V.str y)) = true := by simp [h3]
    show Q (.bl (!decide (V.str x = V.str y))) H
    rw [e]
    exact k
/-! ### are_loads -/
def spAreLoads (K : PySem.W.Frag) : Sp := fun vs H Q _ => ∃ (a n : Addr) (xs : List V) (ls : List Load) (ns : List Str), vs = [.ref a, .ref n] ∧ SqL K H a xs ∧ RowsAt K H xs (ls.map load3) ∧ SqL K H n (ns.map V.str) ∧ (∀ l ∈ ls, EndsOk ns l.2.1 l.2.2) ∧ Q (.bl true) H
theorem scAreLoads : FnScope ["loads", "nodes", "name", "one", "other"] ["loads", "nodes"] (defScope sAreLoads) := ⟨rfl, rfl, rfl, by decide +kernel, rfl, by decide +kernel, by decide +kernel⟩
theorem ok_are_loads (D : Dfn K mg "are_loads" sAreLoads) (cB : C8.Cal P w K mg base 1 "is_between" (spIsBetween K) []) : C8.Cal P w K mg base 2 "are_loads" (spAreLoads K) [] := by
  refine cal_of D scAreLoads (fun vs H Q E h => ?_) (fun _ _ _ _ _ _ us hl => match us, hl with | [_, _], _ => rfl) (fun f cdv A outer s H vs Q E hr h => ?_)
  · obtain ⟨a, n, xs, ls, ns, rfl, _⟩ := h
    rfl
  · obtain ⟨a, n, xs, ls, ns, rfl, hS, hR, hN, hE, k⟩ := h
    refine ⟨_, pss_cons (ps_for PassesOwn.never rfl (pi_list (pv 0)) (pg_tup rfl (pgs_cons (pg_name (i := 2) scAreLoads.nd rfl (Or.inl rfl)) (pgs_cons (pg_name (i := 3) scAreLoads.nd rfl (Or.inl rfl)) (pgs_cons (pg_name (i := 4) scAreLoads.nd rfl (Or.inl rfl)) pgs_nil))))
        (pss_one (ps_if (pt_not (pt_val (C8.pe_c cB hr (by decide) (by rfl) (pa_cons (pv 3) (pa_cons (pv 4) (pa_cons (pv 1) pa_nil)))))) (pss_one (ps_ret pe_bl)) pss_nil)))
      (pss_one (ps_ret pe_bl)), ?_⟩
    refine ⟨_, rfl, a, rfl, ⟨_, hS⟩, for_list (K := K) (a := a) (xs := xs) (fun i σ H2 => ∃ v2 v3 v4, σ = [some (.ref a), some (.ref n), v2, v3, v4] ∧ H2 = H) ⟨none, none, none, rfl, rfl⟩ (fun i σ H2 _ ⟨_, _, _, _, e⟩ => e ▸ hS) ?_ ?_⟩
    · rintro i x σ H2 hi ⟨v2, v3, v4, rfl, rfl⟩
      obtain ⟨b, l, rfl, hl, ht⟩ := hR.getL hi
      refine ⟨b, _, rfl, ht, rfl, _, _, rfl, _, _, rfl, _, _, rfl, rfl, ?_⟩
      refine ⟨_, rfl, _, rfl, _, rfl, _, _, n, ns, rfl, hN, hE l (List.mem_of_getElem? hl), true, rfl, ?_⟩
      exact iteF ⟨_, _, _, rfl, rfl⟩
    · rintro σ H2 ⟨v2, v3, v4, rfl, rfl⟩
      exact k
/-! ### is_contact -/
def spIsContact (K : PySem.W.Frag) : Sp := fun vs H Q _ => ∃ (a n m : Addr) (c : Con) (ns ms : List Str), vs = [.ref a, .ref n, .ref m] ∧ SqT K H a (con5 c) ∧ SqL K H n (ns.map V.str) ∧ SqL K H m (ms.map V.str) ∧ ConOk ns ms c ∧ Q (.bl true) H
theorem scIsContact : FnScope ["contact", "nodes", "movers", "one", "other", "mover", "when", "way"] ["contact", "nodes", "movers"] (defScope sIsContact) := ⟨rfl, rfl, rfl, by decide +kernel, rfl, by decide +kernel, by decide +kernel⟩
theorem in_two {z x y : Str} (h : z = x ∨ z = y) : inV (.str z) [.str x, .str y] = true := by
  rw [show ([.str x, .str y] : List V) = [x, y].map V.str from rfl, in_strs]
  refine decide_eq_true ?_
  rcases h with rfl | rfl <;> simp
theorem ok_is_contact (T : Tx K mg) (D : Dfn K mg "is_contact" sIsContact) (cB : C8.Cal P w K mg base 1 "is_between" (spIsBetween K) []) : C8.Cal P w K mg base 2 "is_contact" (spIsContact K) [] := by
  refine cal_of D scIsContact (fun vs H Q E h => ?_) (fun _ _ _ _ _ _ us hl => match us, hl with | [_, _, _], _ => rfl) (fun f cdv A outer s H vs Q E hr h => ?_)
  · obtain ⟨a, n, m, c, ns, ms, rfl, _⟩ := h
    rfl
  · obtain ⟨a, n, m, c, ns, ms, rfl, hT, hN, hM, hC, k⟩ := h
    refine ⟨_, pss_cons (ps_asg (pv 0) (pg_tup rfl (pgs_cons (pg_name (i := 3) scIsContact.nd rfl (Or.inl rfl)) (pgs_cons (pg_name (i := 4) scIsContact.nd rfl (Or.inl rfl)) (pgs_cons (pg_name (i := 5) scIsContact.nd rfl (Or.inl rfl)) (pgs_cons (pg_name (i := 6) scIsContact.nd rfl (Or.inl rfl)) (pgs_cons (pg_name (i := 7) scIsContact.nd rfl (Or.inl rfl)) pgs_nil)))))))
      (pss_cons (ps_if (PW.pt (pw_or (pt_not (pt_val (C8.pe_c cB hr (by decide) (by rfl) (pa_cons (pv 3) (pa_cons (pv 4) (pa_cons (pv 1) pa_nil))))))
          (pw_or (pt_cmpR op_notIn_seq (pv 6) (pe_glob (v := .ref (He.ga K "WHENS")) rfl T.whens rfl) (by rfl)) (pw_or1 (pt_cmpR op_notIn_seq (pv 7) (pe_glob (v := .ref (He.ga K "WAYS")) rfl T.ways rfl) (by rfl)))))) (pss_one (ps_ret pe_bl)) pss_nil)
      (pss_cons (ps_if (pt_cmpR op_isN (pv 5) pe_non (nomark _)) (pss_one (ps_ret (pe_cmpR op_eq (pv 6) pe_str (nomark _)))) pss_nil)
      (pss_one (ps_ret (pe_cmpR op_in_seq (pv 5) (pv 2) (by rfl)))))), ?_⟩
    refine ⟨_, rfl, a, _, rfl, hT, rfl, _, _, rfl, _, _, rfl, _, _, rfl, _, _, rfl, _, _, rfl, rfl, ?_⟩
    refine ⟨_, rfl, _, rfl, _, rfl, _, _, n, ns, rfl, hN, hC.ends, true, rfl, ?_⟩
    refine iteF ⟨_, rfl, _, _, rfl, .inr (T.whensT _), rfl, rfl, _, rfl, ?_⟩
    refine cfalse (show (!inV (.str c.whn) _) = false by rw [in_two hC.whn]; rfl) ⟨_, rfl, _, _, rfl, .inr (T.waysT _), rfl, rfl, _, rfl, ?_⟩
    refine cfalse (show (!inV (.str c.way) _) = false by rw [in_two hC.way]; rfl) ?_
    refine ⟨_, rfl, rfl, _, rfl, ?_⟩
    cases e : c.mov with
    | none =>
      refine ctrue (show decide (movV none = V.non) = true from rfl) ⟨_, rfl, rfl, ?_⟩
      have e2 : decide (V.str c.whn = V.str "make") = true := by rw [hC.wire e]; exact decide_eq_true rfl
      show Q (.bl (decide (V.str c.whn = V.str "make"))) H
      rw [e2]
      exact k
    | some x =>
      refine cfalse (show decide (movV (some x) = V.non) = false from rfl) ⟨_, rfl, _, rfl, m, _, rfl, .inl hM, rfl, strs_flat _, ?_⟩
      have e2 : inV (.str x) (ms.map V.str) = true := by rw [in_strs]; exact decide_eq_true (hC.mov x e)
      show Q (.bl (inV (.str x) (ms.map V.str))) H
      rw [e2]
      exact k
end
end K7

namespace K7
open PySem PySem.Spec PyProof.Rows L2 ClX
/-! ### a heap without one address -/
def del (H : Hp) (p : Addr) : Hp := fun b => if b = p then none else H b
theorem del_self {H : Hp} {p : Addr} : del H p p = none := by unfold del; rw [if_pos rfl]
theorem del_ne {H : Hp} {p b : Addr} (h : b ≠ p) : del H p b = H b := by unfold del; rw [if_neg h]
theorem del_same {H : Hp} {p : Addr} : Same (del H p) H := fun b o e => by
  by_cases h : b = p
  · subst h; rw [del_self] at e; cases e
  · rw [del_ne h] at e; exact e
theorem same_del {H0 H : Hp} {p : Addr} (s : Same H0 H) (h : H0 p = none) : Same H0 (del H p) := fun b o e => by
  rw [del_ne (ne_of_none e h)]
  exact s b o e
section
variable {K : PySem.W.Frag} {H : Hp} {p C dx a : Addr} {fs : List (Str × V)} {xs : List V} {rows : List (List V)} {o : HO}
theorem del_at (h : H a = some o) (hp : H p = some (.ins C dx fs)) (n : o ≠ .ins C dx fs) : del H p a = some o := by
  rw [del_ne (ne_of h hp n)]
  exact h
theorem del_seq (h : SqL K H a xs) (hp : H p = some (.ins C dx fs)) : SqL K (del H p) a xs := by
  rcases h with (h | ⟨o, h⟩) | h
  · exact .inl (.inl (del_at h hp (by intro z; cases z)))
  · exact .inl (.inr ⟨o, del_at h hp (by intro z; cases z)⟩)
  · exact .inr h
theorem del_tup (h : SqT K H a xs) (hp : H p = some (.ins C dx fs)) : SqT K (del H p) a xs := by
  rcases h with (h | ⟨o, h⟩) | h
  · exact .inl (.inl (del_at h hp (by intro z; cases z)))
  · exact .inl (.inr ⟨o, del_at h hp (by intro z; cases z)⟩)
  · exact .inr h
theorem del_rows (h : RowsAt K H xs rows) (hp : H p = some (.ins C dx fs)) : RowsAt K (del H p) xs rows :=
  ⟨h.len, fun i r e => let ⟨a, e1, e2⟩ := h.at_ i r e; ⟨a, e1, del_tup e2 hp⟩⟩
end
/-- a new object, then a field of the instance at p: what stands beside p -/
theorem fld_step {G H : Hp} {p q C dx : Addr} {o : HO} {fs : List (Str × V)} (s : Same G H) (g : G p = none) (hp : H p = some (.ins C dx fs)) (hq : H q = none) :
    ∃ G', Same G G' ∧ G' q = some o ∧ G' p = none ∧ q ≠ p ∧ ∀ o2, Same G' (upd (upd H q o) p o2) := by
  have n : q ≠ p := fun e => by rw [e, hp] at hq; cases hq
  refine ⟨upd G q o, same_up (s.free hq), upd_same, by rw [upd_ne (Ne.symm n)]; exact g, n, fun o2 b ob e => ?_⟩
  by_cases hb : b = q
  · subst hb
    rw [upd_ne n, upd_same]
    rw [upd_same] at e
    exact e
  · rw [upd_ne hb] at e
    rw [upd_ne (ne_of_none e g), upd_ne hb]
    exact s b ob e
theorem pe_tupOf {X : Cx} {e : Expr} {te : TE} {p pos : Pos} (hm : X.mg "tuple" = none) (he : PE X e te) (hg : Gl X "tuple" := by rfl) (hs : starEach [e] X.env = (false, eval e X.env) :: starEach [] X.env := by rfl) :
    PE X (.Call (.Name "tuple" p) [e] [] pos) (tCB (rTup X.K) (tCons te tNil)) := pe_callTy call_tuple_of hg hm (by decide +kernel) (pa_cons he pa_nil (hs := hs)) (he := hs)
/-! ### a reading, one step unfolded -/
section
variable {K : PySem.W.Frag} {D : Ends} {σ : L2.St} {H : Hp}
theorem nNx (h : D.nx σ H) : tNext D σ H := h
theorem nSq {t u : TS} (h : t { D with nx := u D } σ H) : tSeq t u D σ H := h
theorem nIf {c : TT} {t u : TS} (h : c σ H fun b H1 => if b = true then t D σ H1 else u D σ H1) : tIfS c t u D σ H := h
theorem nNot {c : TT} {Q : Bool → Hp → Prop} (h : c σ H fun b H1 => Q (!b) H1) : tNot c σ H Q := h
theorem nB {t : TE} {Q : Bool → Hp → Prop} (h : t σ H fun x H1 => ∃ c, x = .bl c ∧ Q c H1) : tB t σ H Q := h
theorem nCall {sp : Sp} {dvs : List V} {E : XK} {t : TA} {Q : VK} (h : t σ H fun vs H1 => sp (vs ++ dvs) H1 Q E) : tCall sp dvs E t σ H Q := h
theorem nCons {t : TE} {u : TA} {Q : List V → Hp → Prop} (h : t σ H fun x H1 => u σ H1 fun xs H2 => Q (x :: xs) H2) : tCons t u σ H Q := h
theorem nCB {r : List V → Hp → VK → Prop} {t : TA} {Q : VK} (h : t σ H fun vs H1 => r vs H1 Q) : tCB r t σ H Q := h
theorem nFld {ta tv : TE} {f : Str} (h : tv σ H fun y H1 => ta σ H1 fun x H2 => ∃ a C dx fs, x = .ref a ∧ H2 a = some (.ins C dx fs) ∧ Cls K C ∧ NoAttr K C f ∧ fs.length < 1000 ∧ D.nx σ (upd H2 a (.ins C dx (putF f y fs)))) : sFld K ta tv f D σ H := h
end
section
variable {P : Program} {w : World} {K : PySem.W.Frag} {mg : Str → Option Value} {base : Heap}
/-! ### Board.__init__ -/
def spBInit (K : PySem.W.Frag) : Sp := fun vs H Q _ => ∃ (p dx n l s r c : Addr) (xr xl xc : List V) (B : Parts), vs = [.ref p, .ref n, .ref l, .ref s, .ref r, .ref c] ∧ H p = some (.ins (aB K) dx []) ∧ Good B ∧
  SqL K H n (B.nodes.map V.str) ∧ SqL K H s (B.sws.map V.str) ∧ SqL K H r xr ∧ RowsAt K H xr (B.rels.map load3) ∧ SqL K H l xl ∧ RowsAt K H xl (B.lams.map load3) ∧ SqL K H c xc ∧ RowsAt K H xc (B.cons.map con5) ∧
  ∀ H', Same (del H p) H' → BoardAt K H' p B → Q .non H'
abbrev nBInit : List Str := ["self", "nodes", "lamps", "switches", "relays", "contacts", "movers", "contact", "relay", "lamp"]
abbrev pBInit : List Str := ["self", "nodes", "lamps", "switches", "relays", "contacts"]
theorem scBInit : FnScope nBInit pBInit (defScope sBInit) := ⟨rfl, rfl, rfl, by decide +kernel, rfl, by decide +kernel, by decide +kernel⟩
theorem ok_b_init {f : Addr} {fd : FuncData} (T : Tx K mg) (F : Fun K "__init__" "Board.__init__" sBInit f fd) (cA : C8.Cal P w K mg base 2 "are_names" (spAreNames K) []) (cL : C8.Cal P w K mg base 2 "are_loads" (spAreLoads K) [])
    (cC : C8.Cal P w K mg base 2 "is_contact" (spIsContact K) []) : FnOk P w K mg base CX0 3 f fd pBInit (spBInit K) := by
  obtain ⟨uN, vN⟩ := T.mostN
  obtain ⟨uS, vS⟩ := T.mostS
  obtain ⟨uR, vR⟩ := T.mostR
  obtain ⟨uL, vL⟩ := T.mostL
  obtain ⟨uC, vC⟩ := T.mostC
  refine F.ok scBInit (fun vs H Q E h => ?_) (fun cdv A outer s0 H vs Q E hr h => ?_)
  · obtain ⟨p, dx, n, l, s, r, c, xr, xl, xc, B, rfl, _⟩ := h
    rfl
  · obtain ⟨p, dx, n, l, s, r, c, xr, xl, xc, B, rfl, hp, G, hn, hs, hRr, hRr', hRl, hRl', hRc, hRc', k⟩ := h
    have lr : xr.length ≤ 1000 := by rw [hRr'.len, List.length_map]; have := G.r8; omega
    have ll : xl.length ≤ 1000 := by rw [hRl'.len, List.length_map]; have := G.l8; omega
    have lc : xc.length ≤ 1000 := by rw [hRc'.len, List.length_map]; have := G.c40; omega
    refine ⟨_, pss_cons (ps_if (PW.pt (pw_or (pt_not (pt_val (C8.pe_c cA hr (by decide) (by rfl) (pa_cons (pv 1) (pa_cons pe_int (pa_cons (pe_cval (pe_glob (v := .ref (aB K)) rfl T.board rfl)) pa_nil))))))
          (pw_or1 (pt_cmpR op_gt (pe_callB call_len_seq (by rfl) T.len PySem.boot_len (pa_cons (pv 3) pa_nil)) (pe_cval (pe_glob (v := .ref (aB K)) rfl T.board rfl)) (nomark _))))) (pss_one ps_never) pss_nil)
      (pss_cons (ps_set (i := 6) scBInit.nd rfl (Or.inl rfl) (pe_op op_cat (pe_callTy call_list_of (by rfl) T.list (by decide +kernel) (pa_cons (pv 3) pa_nil))
        (pe_lc (own := [("relay", 8)]) (g := gName 8) (tt := tYes) (te := tOp (rIxT K) (tVar 8) (tC (.int 0))) rfl scBInit.nd (pi_list (pv 4)) (blkOk_by (N := nBInit) (sc := defScope sBInit) (by decide +kernel)) (fun _ _ _ _ _ => pg_name (i := 8) scBInit.nd rfl (Or.inl rfl)) (fun _ _ _ _ _ => pts_nil)
          (fun _ _ _ _ _ => pe_ix ix_tup (pv 8) pe_int (fun _ _ => rfl)))))
      (pss_cons (ps_if (PW.pt (pw_or (pt_not (pt_val (C8.pe_c cA hr (by decide) (by rfl) (pa_cons (pv 6) (pa_cons pe_int (pa_cons (pe_op op_add (pe_cval (pe_glob (v := .ref (aB K)) rfl T.board rfl)) (pe_cval (pe_glob (v := .ref (aB K)) rfl T.board rfl))) pa_nil))))))
          (pw_or1 (pt_cmpR op_gt (pe_callB call_len_seq (by rfl) T.len PySem.boot_len (pa_cons (pv 4) pa_nil)) (pe_cval (pe_glob (v := .ref (aB K)) rfl T.board rfl)) (nomark _))))) (pss_one ps_never) pss_nil)
      (pss_cons (ps_if (pt_not (pt_val (C8.pe_c cA hr (by decide) (by rfl) (pa_cons (pe_lc (own := [("lamp", 9)]) (g := gName 9) (tt := tYes) (te := tOp (rIxT K) (tVar 9) (tC (.int 0))) rfl scBInit.nd (pi_list (pv 2)) (blkOk_by (N := nBInit) (sc := defScope sBInit) (by decide +kernel)) (fun _ _ _ _ _ => pg_name (i := 9) scBInit.nd rfl (Or.inl rfl)) (fun _ _ _ _ _ => pts_nil)
          (fun _ _ _ _ _ => pe_ix ix_tup (pv 9) pe_int (fun _ _ => rfl))) (pa_cons pe_int (pa_cons (pe_cval (pe_glob (v := .ref (aB K)) rfl T.board rfl)) pa_nil)))))) (pss_one ps_never) pss_nil)
      (pss_cons (ps_if (PW.pt (pw_or (pt_not (pt_val (C8.pe_c cL hr (by decide) (by rfl) (pa_cons (pv 4) (pa_cons (pv 1) pa_nil))))) (pw_or1 (pt_not (pt_val (C8.pe_c cL hr (by decide) (by rfl) (pa_cons (pv 2) (pa_cons (pv 1) pa_nil)))))))) (pss_one ps_never) pss_nil)
      (pss_cons (ps_if (pt_cmpR op_gt (pe_callB call_len_seq (by rfl) T.len PySem.boot_len (pa_cons (pv 5) pa_nil)) (pe_cval (pe_glob (v := .ref (aB K)) rfl T.board rfl)) (nomark _)) (pss_one ps_never) pss_nil)
      (pss_cons (ps_for PassesOwn.never rfl (pi_list (pv 5)) (pg_name (i := 7) scBInit.nd rfl (Or.inl rfl)) (pss_one (ps_if (pt_not (pt_val (C8.pe_c cC hr (by decide) (by rfl) (pa_cons (pv 7) (pa_cons (pv 1) (pa_cons (pv 6) pa_nil)))))) (pss_one ps_never) pss_nil)))
      (pss_cons (ps_fld (pv 0) (pe_callTy call_tuple_of (by rfl) T.tuple (by decide +kernel) (pa_cons (pv 1) pa_nil)) rfl)
      (pss_cons (ps_fld (pv 0) (pe_callTy call_tuple_of (by rfl) T.tuple (by decide +kernel) (pa_cons (pv 3) pa_nil)) rfl)
      (pss_cons (ps_fld (pv 0) (pe_callTy call_tuple_of (by rfl) T.tuple (by decide +kernel) (pa_cons (pe_lc (own := [("relay", 8)]) (g := gName 8) (tt := tYes) (te := tCB (rTup K) (tCons (tVar 8) tNil)) rfl scBInit.nd (pi_list (pv 4)) (blkOk_by (N := nBInit) (sc := defScope sBInit) (by decide +kernel))
          (fun _ _ _ _ _ => pg_name (i := 8) scBInit.nd rfl (Or.inl rfl)) (fun _ _ _ _ _ => pts_nil) (fun _ _ _ _ _ => pe_tupOf T.tuple (pv 8))) pa_nil)) rfl)
      (pss_cons (ps_fld (pv 0) (pe_callTy call_tuple_of (by rfl) T.tuple (by decide +kernel) (pa_cons (pe_lc (own := [("lamp", 9)]) (g := gName 9) (tt := tYes) (te := tCB (rTup K) (tCons (tVar 9) tNil)) rfl scBInit.nd (pi_list (pv 2)) (blkOk_by (N := nBInit) (sc := defScope sBInit) (by decide +kernel))
          (fun _ _ _ _ _ => pg_name (i := 9) scBInit.nd rfl (Or.inl rfl)) (fun _ _ _ _ _ => pts_nil) (fun _ _ _ _ _ => pe_tupOf T.tuple (pv 9))) pa_nil)) rfl)
      (pss_one (ps_fld (pv 0) (pe_callTy call_tuple_of (by rfl) T.tuple (by decide +kernel) (pa_cons (pe_lc (own := [("contact", 7)]) (g := gName 7) (tt := tYes) (te := tCB (rTup K) (tCons (tVar 7) tNil)) rfl scBInit.nd (pi_list (pv 5)) (blkOk_by (N := nBInit) (sc := defScope sBInit) (by decide +kernel))
          (fun _ _ _ _ _ => pg_name (i := 7) scBInit.nd rfl (Or.inl rfl)) (fun _ _ _ _ _ => pts_nil) (fun _ _ _ _ _ => pe_tupOf T.tuple (pv 7))) pa_nil)) rfl)))))))))))), ?_⟩
    -- nodes, switches
    refine ⟨_, rfl, _, _, _, _, rfl, T.rdB, vN, n, 2, 16, B.nodes, rfl, hn, by have := G.n2; omega, by have := G.n16; omega, G.nn, G.nd, fun H1 s1 => ⟨true, rfl, ?_⟩⟩
    refine iteF ⟨_, rfl, s, _, rfl, .inl (s1.seq hs), _, _, _, _, rfl, T.rdB, vS, _, _, rfl, rfl, _, rfl, ?_⟩
    refine iteDN (by rw [List.length_map]; have := G.s6; omega) ?_
    -- movers
    refine ⟨_, rfl, s, _, rfl, .inl (s1.seq hs), fun m1 hm1 => ?_⟩
    have s2 : Same H (upd H1 m1 (.lst (B.sws.map V.str))) := s1.knew hm1
    refine rd_firstsL (te := tVar 4) (i := 8) (a := r) (fun R h => ⟨_, rfl, h⟩) (by show 8 < 10; decide) (s2.seq hRr) (hRr'.same s2) lr fun m2 H2 hm2 s3 e2 => ?_
    refine ⟨m1, m2, _, _, rfl, rfl, s3 _ _ upd_same, e2, ?_, fun m3 hm3 => ?_⟩
    · simp only [List.length_map]
      have := G.s6
      have := G.r8
      exact Nat.le_trans (show B.sws.length + B.rels.length ≤ 1000 by omega) (by decide)
    have s4 : Same H (upd H2 m3 (.lst (B.sws.map V.str ++ (B.rels.map (·.1)).map V.str))) := (s2.trans s3).knew hm3
    have em : (.lst (B.sws.map V.str ++ (B.rels.map (·.1)).map V.str) : HO) = .lst (B.movers.map V.str) := by
      unfold Parts.movers
      rw [List.map_append]
    rw [em] at s4 ⊢
    have hm : SqL K (upd H2 m3 (.lst (B.movers.map V.str))) m3 (B.movers.map V.str) := SqL.of upd_same
    -- are_names(movers ..)
    refine ⟨_, rfl, _, _, _, _, rfl, T.rdB, vS, _, _, _, _, rfl, T.rdB, vR, _, _, rfl, rfl, m3, 0, 14, B.movers, rfl, hm, by omega, ?_, G.mn, G.md, fun H3 s5 => ⟨true, rfl, ?_⟩⟩
    · unfold Parts.movers
      rw [List.length_append, List.length_map]
      have := G.s6
      have := G.r8
      omega
    have s6 := s4.trans s5
    refine iteF ⟨_, rfl, r, _, rfl, .inl (s6.seq hRr), _, _, _, _, rfl, T.rdB, vR, _, _, rfl, rfl, _, rfl, ?_⟩
    refine iteDN (by rw [hRr'.len, List.length_map]; have := G.r8; omega) ?_
    -- lamps
    refine nNx ?_; dsimp only; refine nSq ?_; refine nIf ?_; refine nNot ?_; refine nB ?_; refine nCall ?_; refine nCons ?_
    refine rd_firstsL (te := tVar 2) (i := 9) (a := l) (fun R h => ⟨_, rfl, h⟩) (by show 9 < 10; decide) (s6.seq hRl) (hRl'.same s6) ll fun m4 H4 hm4 s7 e4 => ?_
    refine ⟨_, _, _, _, rfl, T.rdB, vL, m4, 1, 8, B.lams.map (·.1), rfl, SqL.of e4, by rw [List.length_map]; have := G.l1; omega, by rw [List.length_map]; have := G.l8; omega, G.ln, G.ld, fun H5 s8 => ⟨true, rfl, ?_⟩⟩
    refine iteF ?_
    have s9 := (s6.trans s7).trans s8
    have hm5 : SqL K H5 m3 (B.movers.map V.str) := s8.seq (s7.seq (s5.seq hm))
    -- loads
    refine ⟨_, rfl, _, rfl, r, n, xr, B.rels, B.nodes, rfl, s9.seq hRr, hRr'.same s9, s9.seq hn, G.re, true, rfl, ?_⟩
    refine iteF ⟨_, rfl, _, rfl, l, n, xl, B.lams, B.nodes, rfl, s9.seq hRl, hRl'.same s9, s9.seq hn, G.le, true, rfl, ?_⟩
    refine iteF ⟨_, rfl, c, _, rfl, .inl (s9.seq hRc), _, _, _, _, rfl, T.rdB, vC, _, _, rfl, rfl, _, rfl, ?_⟩
    refine iteDN (by rw [hRc'.len, List.length_map]; have := G.c40; omega) ?_
    -- contacts
    refine ⟨_, rfl, c, rfl, ⟨_, s9.seq hRc⟩, for_list (K := K) (a := c) (xs := xc) (fun i σ H6 => ∃ v7, σ = [some (.ref p), some (.ref n), some (.ref l), some (.ref s), some (.ref r), some (.ref c), some (.ref m3), v7, none, none] ∧ H6 = H5) ⟨none, rfl, rfl⟩
      (fun i σ H6 _ ⟨_, _, e⟩ => e ▸ s9.seq hRc) ?_ ?_⟩
    · rintro i x σ H6 hi ⟨v7, rfl, rfl⟩
      obtain ⟨b, cc, rfl, hl, ht⟩ := (hRc'.same s9).getL hi
      refine ⟨_, rfl, _, rfl, _, rfl, b, n, m3, cc, B.nodes, B.movers, rfl, ht, s9.seq hn, hm5, G.ce cc (List.mem_of_getElem? hl), true, rfl, ?_⟩
      exact iteF ⟨_, rfl, rfl⟩
    · rintro σ H6 ⟨v7, rfl, rfl⟩
      have hp6 : H6 p = some (.ins (aB K) dx []) := s9 _ _ hp
      -- the fields
      have D0 : Same (del H6 p) H6 := del_same
      have hnD : SqL K (del H6 p) n (B.nodes.map V.str) := del_seq (s9.seq hn) hp6
      have hsD : SqL K (del H6 p) s (B.sws.map V.str) := del_seq (s9.seq hs) hp6
      have hrD : SqL K (del H6 p) r xr := del_seq (s9.seq hRr) hp6
      have hrD' : RowsAt K (del H6 p) xr (B.rels.map load3) := del_rows (hRr'.same s9) hp6
      have hlD : SqL K (del H6 p) l xl := del_seq (s9.seq hRl) hp6
      have hlD' : RowsAt K (del H6 p) xl (B.lams.map load3) := del_rows (hRl'.same s9) hp6
      have hcD : SqL K (del H6 p) c xc := del_seq (s9.seq hRc) hp6
      have hcD' : RowsAt K (del H6 p) xc (B.cons.map con5) := del_rows (hRc'.same s9) hp6
      have kD : ∀ H', Same (del H6 p) H' → BoardAt K H' p B → Q .non H' := fun H' z b => k H' ((same_del (del_same.trans s9) del_self).trans z) b
      have nD : del H6 p p = none := del_self
      generalize del H6 p = D at D0 hnD hsD hrD hrD' hlD hlD' hcD hcD' kD nD
      refine ⟨_, rfl, n, _, rfl, .inl ⟨D0.seq hnD, fun q1 hq1 => ?_⟩⟩
      obtain ⟨G1, a1, b1, c1, d1, e1⟩ := fld_step (o := .tup (B.nodes.map V.str)) D0 nD hp6 hq1
      refine ⟨_, rfl, p, aB K, dx, [], rfl, (by rw [upd_ne (Ne.symm d1)]; exact hp6), T.clB, T.bN 0 rfl, by decide, ?_⟩
      rw [show putF ("nodes" : Str) (V.ref q1) [] = BN.zip [.ref q1] from zip_new (vals := []) BN_nd rfl]
      have f1 := e1 (.ins (aB K) dx (BN.zip [.ref q1]))
      have hp7 : (upd (upd H6 q1 (.tup (B.nodes.map V.str))) p (.ins (aB K) dx (BN.zip [.ref q1]))) p = some (.ins (aB K) dx (BN.zip [.ref q1])) := upd_same
      generalize upd (upd H6 q1 (.tup (B.nodes.map V.str))) p (.ins (aB K) dx (BN.zip [.ref q1])) = H7 at f1 hp7 ⊢
      refine ⟨_, rfl, s, _, rfl, .inl ⟨f1.seq (a1.seq hsD), fun q2 hq2 => ?_⟩⟩
      obtain ⟨G2, a2, b2, c2, d2, e2⟩ := fld_step (o := .tup (B.sws.map V.str)) f1 c1 hp7 hq2
      refine ⟨_, rfl, p, aB K, dx, _, rfl, (by rw [upd_ne (Ne.symm d2)]; exact hp7), T.clB, T.bN 1 rfl, Nat.lt_of_le_of_lt zip_len (by decide), ?_⟩
      rw [show putF ("switches" : Str) (V.ref q2) (BN.zip [.ref q1]) = BN.zip [.ref q1, .ref q2] from zip_new (vals := [.ref q1]) BN_nd rfl]
      have f2 := e2 (.ins (aB K) dx (BN.zip [.ref q1, .ref q2]))
      have hp8 : (upd (upd H7 q2 (.tup (B.sws.map V.str))) p (.ins (aB K) dx (BN.zip [.ref q1, .ref q2]))) p = some (.ins (aB K) dx (BN.zip [.ref q1, .ref q2])) := upd_same
      generalize upd (upd H7 q2 (.tup (B.sws.map V.str))) p (.ins (aB K) dx (BN.zip [.ref q1, .ref q2])) = H8 at f2 hp8 ⊢
      have y2 := a1.trans a2
      -- relays
      dsimp only; refine nSq ?_; refine nFld ?_; refine nCB ?_; refine nCons ?_
      refine rd_tuples (te := tVar 4) (i := 8) (rows := B.rels.map load3) (fun R h => ⟨_, rfl, h⟩) (by show 8 < 10; decide) (f2.seq (y2.seq hrD)) ((hrD'.same y2).same f2) lr fun i3 I3 hi3 z3 w3 => ⟨i3, _, rfl, .inl ⟨SqL.of w3, fun q3 hq3 => ?_⟩⟩
      obtain ⟨G3, a3, b3, c3, d3, e3⟩ := fld_step (o := .tup xr) (f2.trans z3) c2 (z3 _ _ hp8) hq3
      refine ⟨_, rfl, p, aB K, dx, _, rfl, (by rw [upd_ne (Ne.symm d3)]; exact z3 _ _ hp8), T.clB, T.bN 2 rfl, Nat.lt_of_le_of_lt zip_len (by decide), ?_⟩
      rw [show putF ("relays" : Str) (V.ref q3) (BN.zip [.ref q1, .ref q2]) = BN.zip [.ref q1, .ref q2, .ref q3] from zip_new (vals := [.ref q1, .ref q2]) BN_nd rfl]
      have f3 := e3 (.ins (aB K) dx (BN.zip [.ref q1, .ref q2, .ref q3]))
      have hp9 : (upd (upd I3 q3 (.tup xr)) p (.ins (aB K) dx (BN.zip [.ref q1, .ref q2, .ref q3]))) p = some (.ins (aB K) dx (BN.zip [.ref q1, .ref q2, .ref q3])) := upd_same
      generalize upd (upd I3 q3 (.tup xr)) p (.ins (aB K) dx (BN.zip [.ref q1, .ref q2, .ref q3])) = H9 at f3 hp9 ⊢
      have y3 := y2.trans a3
      -- lamps
      dsimp only; refine nSq ?_; refine nFld ?_; refine nCB ?_; refine nCons ?_
      refine rd_tuples (te := tVar 2) (i := 9) (rows := B.lams.map load3) (fun R h => ⟨_, rfl, h⟩) (by show 9 < 10; decide) (f3.seq (y3.seq hlD)) ((hlD'.same y3).same f3) ll fun i4 I4 hi4 z4 w4 => ⟨i4, _, rfl, .inl ⟨SqL.of w4, fun q4 hq4 => ?_⟩⟩
      obtain ⟨G4, a4, b4, c4, d4, e4'⟩ := fld_step (o := .tup xl) (f3.trans z4) c3 (z4 _ _ hp9) hq4
      refine ⟨_, rfl, p, aB K, dx, _, rfl, (by rw [upd_ne (Ne.symm d4)]; exact z4 _ _ hp9), T.clB, T.bN 3 rfl, Nat.lt_of_le_of_lt zip_len (by decide), ?_⟩
      rw [show putF ("lamps" : Str) (V.ref q4) (BN.zip [.ref q1, .ref q2, .ref q3]) = BN.zip [.ref q1, .ref q2, .ref q3, .ref q4] from zip_new (vals := [.ref q1, .ref q2, .ref q3]) BN_nd rfl]
      have f4 := e4' (.ins (aB K) dx (BN.zip [.ref q1, .ref q2, .ref q3, .ref q4]))
      have hp10 : (upd (upd I4 q4 (.tup xl)) p (.ins (aB K) dx (BN.zip [.ref q1, .ref q2, .ref q3, .ref q4]))) p = some (.ins (aB K) dx (BN.zip [.ref q1, .ref q2, .ref q3, .ref q4])) := upd_same
      generalize upd (upd I4 q4 (.tup xl)) p (.ins (aB K) dx (BN.zip [.ref q1, .ref q2, .ref q3, .ref q4])) = H10 at f4 hp10 ⊢
      have y4 := y3.trans a4
      -- contacts
      dsimp only; refine nFld ?_; refine nCB ?_; refine nCons ?_
      refine rd_tuples (te := tVar 5) (i := 7) (rows := B.cons.map con5) (fun R h => ⟨_, rfl, h⟩) (by show 7 < 10; decide) (f4.seq (y4.seq hcD)) ((hcD'.same y4).same f4) lc fun i5 I5 hi5 z5 w5 => ⟨i5, _, rfl, .inl ⟨SqL.of w5, fun q5 hq5 => ?_⟩⟩
      obtain ⟨G5, a5, b5, c5, d5, e5⟩ := fld_step (o := .tup xc) (f4.trans z5) c4 (z5 _ _ hp10) hq5
      refine ⟨_, rfl, p, aB K, dx, _, rfl, (by rw [upd_ne (Ne.symm d5)]; exact z5 _ _ hp10), T.clB, T.bN 4 rfl, Nat.lt_of_le_of_lt zip_len (by decide), ?_⟩
      rw [show putF ("contacts" : Str) (V.ref q5) (BN.zip [.ref q1, .ref q2, .ref q3, .ref q4]) = BN.zip [.ref q1, .ref q2, .ref q3, .ref q4, .ref q5] from zip_new (vals := [.ref q1, .ref q2, .ref q3, .ref q4]) BN_nd rfl]
      have f5 := e5 (.ins (aB K) dx (BN.zip [.ref q1, .ref q2, .ref q3, .ref q4, .ref q5]))
      have y5 := y4.trans a5
      refine kD _ (y5.trans f5) ⟨dx, q1, q2, q3, q4, q5, xr, xl, xc, upd_same, ?_, ?_, ?_, (hrD'.same y5).same f5, ?_, (hlD'.same y5).same f5, ?_, (hcD'.same y5).same f5⟩
      · exact SqT.of (f5 _ _ (a5 _ _ (a4 _ _ (a3 _ _ (a2 _ _ b1)))))
      · exact SqT.of (f5 _ _ (a5 _ _ (a4 _ _ (a3 _ _ b2))))
      · exact SqT.of (f5 _ _ (a5 _ _ (a4 _ _ b3)))
      · exact SqT.of (f5 _ _ (a5 _ _ b4))
      · exact SqT.of (f5 _ _ b5)
end
end K7

namespace K7
open PySem PySem.Spec PyProof.Rows L2 ClX
/-- a property of a class -/
structure Prp (P : Program) (w : World) (K : PySem.W.Frag) (mg : Str → Option Value) (base : Heap) (k : Nat) (C : Addr) (f : Str) (sp : Sp) : Prop where
  ex : ∃ (p g : Addr) (fd : FuncData) (ps : List Str), PropOf K C f p g ∧ FnOk P w K mg base CX0 k g fd ps sp ∧ Binds K fd ps []
theorem pe_pr {X : Cx} {k j : Nat} {C : Addr} {f : Str} {sp : Sp} {e : Expr} {ta : TE} {pos : Pos} (c : Prp X.prog X.w X.K X.mg X.base k C f sp) (cl : Cls X.K C) (hr : Room j X.A) (hk : k + 1 ≤ j) (he : PE X e ta)
    (hab : attributeBase e f X.env (eval e X.env) = eval e X.env := by rfl) : PE X (.Attribute e f pos) (tProp C sp [] E0 ta) := by
  obtain ⟨p, g, fd, ps, hp, F, b⟩ := c.ex
  exact pe_prop he cl hp F (hr.mono hk) b .nil pass0 hab
section
variable {P : Program} {w : World} {K : PySem.W.Frag} {mg : Str → Option Value} {base : Heap}
/-! ### Board.movers -/
def spMovers (K : PySem.W.Frag) : Sp := fun vs H Q _ => ∃ (p : Addr) (B : Parts), vs = [.ref p] ∧ BoardAt K H p B ∧ Good B ∧ ∀ (H' : Hp) (q : Addr), Same H H' → SqT K H' q (B.movers.map V.str) → Q (.ref q) H'
theorem scMovers : FnScope ["self", "relay"] ["self"] (defScope sMovers) := ⟨rfl, rfl, rfl, by decide +kernel, rfl, by decide +kernel, by decide +kernel⟩
theorem ok_movers {f : Addr} {fd : FuncData} (T : Tx K mg) (F : Fun K "movers" "Board.movers" sMovers f fd) : FnOk P w K mg base CX0 1 f fd ["self"] (spMovers K) := by
  refine F.ok scMovers (fun vs H Q E h => ?_) (fun cdv A outer s0 H vs Q E hr h => ?_)
  · obtain ⟨p, B, rfl, _⟩ := h
    rfl
  · obtain ⟨p, B, rfl, hB, G, k⟩ := h
    obtain ⟨dx, n, s, r, l, c, xr, xl, xc, h1, hn, hs, hRr, hRr', hRl, hRl', hRc, hRc'⟩ := hB.ex
    have lr : xr.length ≤ 1000 := by rw [hRr'.len, List.length_map]; have := G.r8; omega
    refine ⟨_, pss_one (ps_ret (pe_op op_catA (pe_fld (pv 0) rfl) (pe_callTy call_tuple_of (by rfl) T.tuple (by decide +kernel) (pa_cons
      (pe_lc (own := [("relay", 1)]) (g := gName 1) (tt := tYes) (te := tOp (rIxT K) (tVar 1) (tC (.int 0))) rfl scMovers.nd (pi_tup (pe_fld (pv 0) rfl)) (blkOk_by (N := ["self", "relay"]) (sc := defScope sMovers) (by decide +kernel))
        (fun _ _ _ _ _ => pg_name (i := 1) scMovers.nd rfl (Or.inl rfl)) (fun _ _ _ _ _ => pts_nil) (fun _ _ _ _ _ => pe_ix ix_tup (pv 1) pe_int (fun _ _ => rfl))) pa_nil)))), ?_⟩
    refine ⟨_, rfl, p, aB K, dx, _, _, rfl, h1, T.clB, T.bN 1 rfl, zip_lookup (i := 1) BN_nd rfl rfl, ?_⟩
    refine nCB ?_; refine nCons ?_
    refine rd_firstsT (a := r) (fun R h => ⟨_, rfl, p, aB K, dx, _, _, rfl, h1, T.clB, T.bN 2 rfl, zip_lookup (i := 2) BN_nd rfl rfl, h⟩) (by show 1 < 2; decide) hRr hRr' lr fun m2 H2 hm2 s3 e2 => ?_
    refine ⟨m2, _, rfl, .inl ⟨SqL.of e2, fun m3 hm3 => ?_⟩⟩
    have s4 : Same H (upd H2 m3 (.tup ((B.rels.map (·.1)).map V.str))) := s3.knew hm3
    have t3 : SqT K (upd H2 m3 (.tup ((B.rels.map (·.1)).map V.str))) m3 ((B.rels.map (·.1)).map V.str) := SqT.of upd_same
    generalize upd H2 m3 (.tup ((B.rels.map (·.1)).map V.str)) = H3 at s4 t3 ⊢
    have em : B.movers.map V.str = B.sws.map V.str ++ (B.rels.map (·.1)).map V.str := by unfold Parts.movers; rw [List.map_append]
    refine ⟨s, m3, _, _, rfl, rfl, s4.ktup hs, t3, ?_, fun e => ?_, fun e1 e2 => ?_, fun e1 e2 q hq => ?_⟩
    · simp only [List.length_map]
      have := G.s6
      have := G.r8
      exact Nat.le_trans (show B.sws.length + B.rels.length ≤ 1000 by omega) (by decide)
    · refine k H3 m3 s4 ?_
      rw [em, e, List.nil_append]
      exact t3
    · refine k H3 s s4 ?_
      rw [em, e2, List.append_nil]
      exact s4.ktup hs
    · refine k _ q (s4.knew hq) ?_
      rw [em]
      exact SqT.of upd_same
/-! ### Board.mover_number -/
def spMoverNumber (K : PySem.W.Frag) : Sp := fun vs H Q _ => ∃ (p : Addr) (m : Str) (B : Parts) (k : Nat), vs = [.ref p, .str m] ∧ BoardAt K H p B ∧ Good B ∧ B.movers[k]? = some m ∧ ∀ H', Same H H' → Q (.int ((k : Nat) : Int)) H'
theorem scMoverNumber : FnScope ["self", "name", "number", "mover"] ["self", "name"] (defScope sMoverNumber) := ⟨rfl, rfl, rfl, by decide +kernel, rfl, by decide +kernel, by decide +kernel⟩
theorem ok_mover_number (T : Tx K mg) (D : Mth K (aB K) "mover_number" "Board.mover_number" sMoverNumber) (cP : Prp P w K mg base 1 (aB K) "movers" (spMovers K)) : C8.Met P w K mg base 3 (aB K) "mover_number" (spMoverNumber K) [] := by
  refine met_of T.clB D scMoverNumber (fun vs H Q E h => ?_) (fun _ _ _ _ _ _ us hl => match us, hl with | [_, _], _ => rfl) (fun f cdv A outer s0 H vs Q E hr h => ?_)
  · obtain ⟨p, m, B, k, rfl, _⟩ := h
    rfl
  · obtain ⟨p, m, B, j, rfl, hB, G, hj, k⟩ := h
    obtain ⟨dx, n, s, r, l, c, xr, xl, xc, h1, _⟩ := hB.ex
    refine ⟨_, pss_cons (ps_for PassesOwn.never rfl (pi_enumT (by rfl) T.enumerate (pa_cons (pe_pr cP T.clB hr (by decide) (pv 0)) pa_nil)) (pg_tup rfl (pgs_cons (pg_name (i := 2) scMoverNumber.nd rfl (Or.inl rfl)) (pgs_cons (pg_name (i := 3) scMoverNumber.nd rfl (Or.inl rfl)) pgs_nil)))
        (pss_one (ps_if (pt_cmpR op_eq (pv 3) (pv 1) (nomark _)) (pss_one (ps_ret (pv 2))) pss_nil)))
      (pss_one ps_never), ?_⟩
    refine ⟨_, rfl, p, dx, _, rfl, h1, p, B, rfl, hB, G, fun H1 q s1 t1 => ?_⟩
    refine ⟨q, _, rfl, t1, for_it walk_enumT (fun i σ H2 => ∃ v2 v3, σ = [some (.ref p), some (.str m), v2, v3] ∧ Same H1 H2 ∧ i ≤ j) ⟨none, none, rfl, Same.refl _, Nat.zero_le _⟩ (fun i σ H2 _ ⟨_, _, _, s2, _⟩ => s2.ktup t1) ?_ ?_⟩
    · rintro i x σ H2 H3 hi ⟨v2, v3, rfl, s2, hij⟩ ⟨t, y, z, rfl, ht, rfl, e1, e2⟩
      obtain ⟨u, hu, rfl⟩ := strs_get e2
      obtain rfl := Option.some.inj e1
      refine ⟨t, _, rfl, SqT.of upd_same, rfl, _, _, rfl, _, _, rfl, rfl, ?_⟩
      refine ⟨_, rfl, _, rfl, rfl, _, rfl, ?_⟩
      by_cases hm : u = m
      · subst hm
        have hij2 : i = j := nd_ix G.md hu hj
        subst hij2
        exact iteD rfl ⟨_, rfl, k _ (s1.trans (s2.knew ht))⟩
      · refine iteDN (by simpa using hm) ⟨_, _, rfl, s2.knew ht, ?_⟩
        rcases Nat.lt_or_ge i j with h | h
        · exact h
        · have : i = j := by omega
          subst this
          rw [hu] at hj
          exact absurd (Option.some.inj hj) hm
    · rintro σ H2 ⟨v2, v3, rfl, s2, hij⟩
      have := (List.getElem?_eq_some_iff.mp hj).1
      rw [List.length_map] at hij
      omega
/-! ### Board.contacts_of -/
def spContactsOf (K : PySem.W.Frag) : Sp := fun vs H Q _ => ∃ (p : Addr) (m : Str) (B : Parts) (k : Nat), vs = [.ref p, .str m] ∧ BoardAt K H p B ∧ Good B ∧ B.movers[k]? = some m ∧
  ∀ (H' : Hp) (l : Addr), Same H H' → H' l = some (.lst ((hits B.cons m B.cons.length).map V.int)) → Q (.ref l) H'
theorem scContactsOf : FnScope ["self", "name", "number", "contact"] ["self", "name"] (defScope sContactsOf) := ⟨rfl, rfl, rfl, by decide +kernel, rfl, by decide +kernel, by decide +kernel⟩
theorem ok_contacts_of (T : Tx K mg) (D : Mth K (aB K) "contacts_of" "Board.contacts_of" sContactsOf) (cM : C8.Met P w K mg base 3 (aB K) "mover_number" (spMoverNumber K) []) : C8.Met P w K mg base 4 (aB K) "contacts_of" (spContactsOf K) [] := by
  refine met_of T.clB D scContactsOf (fun vs H Q E h => ?_) (fun _ _ _ _ _ _ us hl => match us, hl with | [_, _], _ => rfl) (fun f cdv A outer s0 H vs Q E hr h => ?_)
  · obtain ⟨p, m, B, k, rfl, _⟩ := h
    rfl
  · obtain ⟨p, m, B, j, rfl, hB, G, hj, k⟩ := h
    refine ⟨_, pss_cons (ps_expr (C8.pe_mt cM hr (by decide) (pv 0) (pa_cons (pv 1) pa_nil)))
      (pss_one (ps_ret (pe_lc (own := [("number", 2), ("contact", 3)]) (g := gTup K 2 (gCons (gName 2) (gCons (gName 3) gNil))) (tt := tTest (tOp rEq (tOp (rIxT K) (tVar 3) (tC (.int 2))) (tVar 1))) (te := tVar 2) rfl scContactsOf.nd
        (pi_enumT (by rfl) T.enumerate (pa_cons (pe_fld (pv 0) rfl) pa_nil)) (blkOk_by (N := ["self", "name", "number", "contact"]) (sc := defScope sContactsOf) (by decide +kernel))
        (fun _ _ _ _ _ => pg_tup rfl (pgs_cons (pg_name (i := 2) scContactsOf.nd rfl (Or.inl rfl)) (pgs_cons (pg_name (i := 3) scContactsOf.nd rfl (Or.inl rfl)) pgs_nil)))
        (fun _ _ _ _ _ => pts_one (pt_cmpR op_eq (pe_ix ix_tup (pv 3) pe_int (fun _ _ => rfl)) (pv 1) (nomark _))) (fun _ _ _ _ _ => pv 2)))), ?_⟩
    obtain ⟨dx, n, s, r, l, c, xr, xl, xc, h1, _⟩ := hB.ex
    refine ⟨_, rfl, p, dx, _, rfl, h1, zip_none (by decide +kernel), _, rfl, p, m, B, j, rfl, hB, G, hj, fun H1 s1 => ?_⟩
    obtain ⟨dx1, n1, s1', r1, l1, c1, xr1, xl1, xc1, g1, _, _, _, _, _, _, hRc, hRc'⟩ := (hB.same s1).ex
    refine ⟨_, rfl, p, aB K, dx1, _, _, rfl, g1, T.clB, T.bN 4 rfl, zip_lookup (i := 4) BN_nd rfl rfl, c1, _, rfl, hRc, fun D hD => lc_it walk_enumT (fun i H2 => Same H1 H2 ∧ H2 D = some (.lst ((hits B.cons m i).map V.int)) ∧ i ≤ xc1.length)
      ⟨same_up hD, upd_same, Nat.zero_le _⟩ (fun i H2 _ h => h.1.ktup hRc) ?_ ?_⟩
    · rintro i x H2 H3 hi ⟨s2, e2, l2⟩ ⟨t, y, z, rfl, ht, rfl, f1, f2⟩
      obtain rfl := Option.some.inj f1
      obtain ⟨b, cc, rfl, hc, hT⟩ := hRc'.getL f2
      have ntD : D ≠ t := fun e => by rw [← e, e2] at ht; cases ht
      refine ⟨t, _, rfl, SqT.of upd_same, rfl, _, _, rfl, _, _, rfl, rfl, rfl, ?_⟩
      have sx : Same H1 (upd H2 t (.tup [.int ((i : Nat) : Int), .ref b])) := s2.knew ht
      refine ⟨_, rfl, b, _, _, movV cc.mov, rfl, rfl, sx.ktup hT, rfl, _, rfl, ?_⟩
      refine ⟨by cases cc.mov <;> rfl, _, rfl, ?_⟩
      rw [hit_at hc]
      cases hh : hitB B.cons m i with
      | true =>
        refine iteT ⟨_, rfl, _, by rw [upd_ne ntD]; exact e2, ?_, sx.kput hD, ?_, hi⟩
        · rw [List.length_map]
          exact small1000 (Nat.le_trans (hits_len _ _ _) (by rw [hRc'.len, List.length_map] at l2; have := G.c40; omega))
        · rw [upd_same, hits_succ, if_pos hh, List.map_append]
          rfl
      | false =>
        refine iteF ⟨sx, ?_, hi⟩
        rw [upd_ne ntD, hits_succ, if_neg (by rw [hh]; exact Bool.false_ne_true)]
        exact e2
    · rintro H2 ⟨s2, e2, l2⟩
      refine k H2 D (s1.trans s2) ?_
      rw [e2, hRc'.len, List.length_map]
end
end K7

namespace K7
open PySem PySem.Spec PyProof.Rows L2 ClX
open StX (pa_star)
/-! ### f-strings, joins of short texts -/
theorem len_app (a b : Str) : (a ++ b).length = a.length + b.length := by
  rw [TL.len_tl, TL.tl_append, List.length_append, ← TL.len_tl, ← TL.len_tl]
theorem js_fit {σ : L2.St} {H : Hp} : ∀ {ts : List TE} {ys : List Str} {acc : Str} {Q : Str → Hp → Prop}, Paired (fun (t : TE) (y : Str) => ∀ R : VK, R (.str y) H → t σ H R) ts ys → acc.length + (ys.map (·.length)).sum ≤ sizeLine → Q (ys.foldl (· ++ ·) acc) H → tJs ts acc σ H Q
  | _, _, _, _, .nil, _, q => q
  | _, _, _, _, .cons h r, hl, q => h _ ⟨_, rfl, by
      rw [len_app]
      simp only [List.map_cons, List.sum_cons] at hl
      omega, js_fit r (by
      rw [len_app]
      simp only [List.map_cons, List.sum_cons] at hl
      omega) q⟩
theorem fmt_at {σ : L2.St} {H : Hp} {i : Nat} {y : Str} (h : σ[i]? = some (some (.str y))) (hl : y.length ≤ sizeLine) : ∀ R : VK, R (.str y) H → tFmt (tVar i) σ H R := fun R q => ⟨_, h, .inl ⟨y, rfl, hl, q⟩⟩
theorem str_at {σ : L2.St} {H : Hp} {y : Str} : ∀ R : VK, R (.str y) H → tC (.str y) σ H R := fun R q => q
theorem sz12 {n : Nat} (h : n ≤ 12) : n ≤ sizeLine := Nat.le_trans h (by decide)
theorem okW_sz {z : Str} (h : okW z = true) : z.length ≤ sizeLine := sz12 (okW_len h)
theorem Good.rel3 {P : Parts} (G : Good P) {r : Load} (h : r ∈ P.rels) : okW r.1 = true ∧ okW r.2.1 = true ∧ okW r.2.2 = true := ⟨(G.relN h).okW, G.node (G.re r h).1, G.node (G.re r h).2.1⟩
theorem Good.lam3 {P : Parts} (G : Good P) {r : Load} (h : r ∈ P.lams) : okW r.1 = true ∧ okW r.2.1 = true ∧ okW r.2.2 = true := ⟨(G.lamN h).okW, G.node (G.le r h).1, G.node (G.le r h).2.1⟩
theorem Good.con5 {P : Parts} (G : Good P) {c : Con} (h : c ∈ P.cons) : okW c.one = true ∧ okW c.other = true ∧ okW (K7.movW c.mov) = true ∧ okW c.whn = true ∧ okW c.way = true := by
  have C := G.ce c h
  refine ⟨G.node C.ends.1, G.node C.ends.2.1, G.movW h, ?_, ?_⟩
  · rcases C.whn with e | e <;> rw [e]
    · exact ok_make
    · exact ok_break
  · rcases C.way with e | e <;> rw [e]
    · exact ok_both
    · exact ok_forward
theorem len_relay : ("relay " : Str).length = 6 := by decide +kernel
theorem len_lamp : ("lamp " : Str).length = 5 := by decide +kernel
theorem len_contact : ("contact " : Str).length = 8 := by decide +kernel
/-- the lines so far -/
def lines0 (B : Parts) : List Str := [lineOf ("nodes" :: B.nodes), lineOf ("switches" :: B.sws)]
def linesR (B : Parts) (i : Nat) : List Str := lines0 B ++ (B.rels.take i).map fun r => lineOf (relW r)
def linesL (B : Parts) (i : Nat) : List Str := linesR B B.rels.length ++ (B.lams.take i).map fun r => lineOf (lamW r)
def linesC (B : Parts) (i : Nat) : List Str := linesL B B.lams.length ++ (B.cons.take i).map fun c => lineOf (conW c)
theorem linesC_all (B : Parts) : linesC B B.cons.length = linesOf B := by
  unfold linesC linesL linesR lines0 linesOf wordsOf
  simp only [List.take_length, List.map_cons, List.map_append, List.map_map]
  simp [Function.comp_def]
theorem take_succ_map {α β : Type} (f : α → β) (l : List α) {i : Nat} {x : α} (h : l[i]? = some x) : (l.take (i + 1)).map f = (l.take i).map f ++ [f x] := by
  rw [List.take_add_one, h, List.map_append]
  rfl
theorem linesR_succ {B : Parts} {i : Nat} {r : Load} (h : B.rels[i]? = some r) : linesR B (i + 1) = linesR B i ++ [lineOf (relW r)] := by
  unfold linesR
  rw [take_succ_map _ _ h, List.append_assoc]
theorem linesL_succ {B : Parts} {i : Nat} {r : Load} (h : B.lams[i]? = some r) : linesL B (i + 1) = linesL B i ++ [lineOf (lamW r)] := by
  unfold linesL
  rw [take_succ_map _ _ h, List.append_assoc]
theorem linesC_succ {B : Parts} {i : Nat} {r : Con} (h : B.cons[i]? = some r) : linesC B (i + 1) = linesC B i ++ [lineOf (conW r)] := by
  unfold linesC
  rw [take_succ_map _ _ h, List.append_assoc]
theorem linesR_len (B : Parts) (i : Nat) : (linesR B i).length ≤ 2 + B.rels.length := by
  unfold linesR lines0
  simp only [List.length_append, List.length_map, List.length_take, List.length_cons, List.length_nil]
  omega
theorem linesL_len (B : Parts) (i : Nat) : (linesL B i).length ≤ 2 + B.rels.length + B.lams.length := by
  have := linesR_len B B.rels.length
  unfold linesL
  simp only [List.length_append, List.length_map, List.length_take]
  omega
theorem linesC_len (B : Parts) (i : Nat) : (linesC B i).length ≤ 2 + B.rels.length + B.lams.length + B.cons.length := by
  have := linesL_len B B.lams.length
  unfold linesC
  simp only [List.length_append, List.length_map, List.length_take]
  omega
theorem linesR_0 (B : Parts) : linesR B 0 = lines0 B := by simp [linesR]
theorem linesL_0 (B : Parts) : linesL B 0 = linesR B B.rels.length := by simp [linesL]
theorem linesC_0 (B : Parts) : linesC B 0 = linesL B B.lams.length := by simp [linesC]
theorem Good.ln0 {P : Parts} (G : Good P) : LineOk ("nodes" :: P.nodes) := G.lines _ (by simp [wordsOf])
theorem Good.ln1 {P : Parts} (G : Good P) : LineOk ("switches" :: P.sws) := G.lines _ (by simp [wordsOf])
theorem Good.small {P : Parts} (G : Good P) : 2 + P.rels.length + P.lams.length + P.cons.length ≤ 58 := by
  have := G.r8
  have := G.l8
  have := G.c40
  omega
section
variable {P : Program} {w : World} {K : PySem.W.Frag} {mg : Str → Option Value} {base : Heap}
/-! ### format_board -/
def spFormat (K : PySem.W.Frag) : Sp := fun vs H Q _ => ∃ (p : Addr) (B : Parts), vs = [.ref p] ∧ BoardAt K H p B ∧ Good B ∧ ∀ H' : Hp, Same H H' → Q (.str (textOf B)) H'
abbrev nFormat : List Str := ["board", "lines", "name", "one", "other", "mover", "when", "way", "word"]
theorem scFormat : FnScope nFormat ["board"] (defScope sFormat) := ⟨rfl, rfl, rfl, by decide +kernel, rfl, by decide +kernel, by decide +kernel⟩
theorem ok_format (T : Tx K mg) (D : Dfn K mg "format_board" sFormat) : C8.Cal P w K mg base 1 "format_board" (spFormat K) [] := by
  refine cal_of D scFormat (fun vs H Q E h => ?_) (fun _ _ _ _ _ _ us hl => match us, hl with | [_], _ => rfl) (fun f cdv A outer s0 H vs Q E hr h => ?_)
  · obtain ⟨p, B, rfl, _⟩ := h
    rfl
  · obtain ⟨p, B, rfl, hB, G, k⟩ := h
    refine ⟨_, pss_cons (ps_set (i := 1) scFormat.nd rfl (Or.inl rfl) (pe_lst (pa_cons (pe_join pe_str (pe_lst (pa_cons pe_str (pa_star (pe_fld (pv 0) rfl) pa_nil)))) (pa_cons (pe_join pe_str (pe_lst (pa_cons pe_str (pa_star (pe_fld (pv 0) rfl) pa_nil)))) pa_nil))))
      (pss_cons (ps_for PassesOwn.never rfl (pi_tup (pe_fld (pv 0) rfl)) (pg_tup rfl (pgs_cons (pg_name (i := 2) scFormat.nd rfl (Or.inl rfl)) (pgs_cons (pg_name (i := 3) scFormat.nd rfl (Or.inl rfl)) (pgs_cons (pg_name (i := 4) scFormat.nd rfl (Or.inl rfl)) pgs_nil))))
        (pss_one (ps_expr (pe_bm PySem.F.plainAttrs_list PySem.F.slot_list_append PySem.F.type_list_append mt_append (pv 1) (pa_cons (pe_joined (.cons pe_str (.cons (pe_fmt (pv 2)) (.cons pe_str (.cons (pe_fmt (pv 3)) (.cons pe_str (.cons (pe_fmt (pv 4)) .nil))))))) pa_nil)))))
      (pss_cons (ps_for PassesOwn.never rfl (pi_tup (pe_fld (pv 0) rfl)) (pg_tup rfl (pgs_cons (pg_name (i := 2) scFormat.nd rfl (Or.inl rfl)) (pgs_cons (pg_name (i := 3) scFormat.nd rfl (Or.inl rfl)) (pgs_cons (pg_name (i := 4) scFormat.nd rfl (Or.inl rfl)) pgs_nil))))
        (pss_one (ps_expr (pe_bm PySem.F.plainAttrs_list PySem.F.slot_list_append PySem.F.type_list_append mt_append (pv 1) (pa_cons (pe_joined (.cons pe_str (.cons (pe_fmt (pv 2)) (.cons pe_str (.cons (pe_fmt (pv 3)) (.cons pe_str (.cons (pe_fmt (pv 4)) .nil))))))) pa_nil)))))
      (pss_cons (ps_for PassesOwn.never rfl (pi_tup (pe_fld (pv 0) rfl)) (pg_tup rfl (pgs_cons (pg_name (i := 3) scFormat.nd rfl (Or.inl rfl)) (pgs_cons (pg_name (i := 4) scFormat.nd rfl (Or.inl rfl)) (pgs_cons (pg_name (i := 5) scFormat.nd rfl (Or.inl rfl)) (pgs_cons (pg_name (i := 6) scFormat.nd rfl (Or.inl rfl)) (pgs_cons (pg_name (i := 7) scFormat.nd rfl (Or.inl rfl)) pgs_nil))))))
        (pss_cons (ps_set (i := 8) scFormat.nd rfl (Or.inl rfl) (pv 5)) (pss_cons (ps_if (pt_cmpR op_isN (pv 5) pe_non (nomark _)) (pss_one (ps_set (i := 8) scFormat.nd rfl (Or.inl rfl) pe_str)) pss_nil)
        (pss_one (ps_expr (pe_bm PySem.F.plainAttrs_list PySem.F.slot_list_append PySem.F.type_list_append mt_append (pv 1) (pa_cons (pe_joined (.cons pe_str (.cons (pe_fmt (pv 3)) (.cons pe_str (.cons (pe_fmt (pv 4)) (.cons pe_str (.cons (pe_fmt (pv 8)) (.cons pe_str (.cons (pe_fmt (pv 6)) (.cons pe_str (.cons (pe_fmt (pv 7)) .nil))))))))))) pa_nil)))))))
      (pss_one (ps_ret (pe_join pe_str (pv 1))))))), ?_⟩
    obtain ⟨dx, n, s, r, l, c, xr, xl, xc, h1, hn, hs, hRr, hRr', hRl, hRl', hRc, hRc'⟩ := hB.ex
    -- lines = [..]
    refine ⟨⟨_, rfl⟩, _, rfl, p, aB K, dx, _, _, rfl, h1, T.clB, T.bN 0 rfl, zip_lookup (i := 0) BN_nd rfl rfl, n, _, rfl, .inl hn, ?_, fun a1 ha1 => ?_⟩
    · simp only [List.length_cons, List.length_append, List.length_map, List.length_nil]
      have := G.n16
      exact Nat.le_trans (show B.nodes.length + 0 + 1 ≤ 1000 by omega) (by decide)
    rw [show (.lst (V.str "nodes" :: (B.nodes.map V.str ++ [])) : HO) = .lst ((("nodes" : Str) :: B.nodes).map V.str) by simp]
    refine ⟨_, a1, "nodes" :: B.nodes, rfl, rfl, .inl (SqL.of upd_same), Nat.le_trans G.ln0.sum (by decide), ?_⟩
    have s1 : Same H (upd H a1 (.lst ((("nodes" : Str) :: B.nodes).map V.str))) := same_up ha1
    generalize upd H a1 (.lst ((("nodes" : Str) :: B.nodes).map V.str)) = H1 at s1 ⊢
    refine ⟨⟨_, rfl⟩, _, rfl, p, aB K, dx, _, _, rfl, s1 _ _ h1, T.clB, T.bN 1 rfl, zip_lookup (i := 1) BN_nd rfl rfl, s, _, rfl, .inl (s1.ktup hs), ?_, fun a2 ha2 => ?_⟩
    · simp only [List.length_cons, List.length_append, List.length_map, List.length_nil]
      have := G.s6
      exact Nat.le_trans (show B.sws.length + 0 + 1 ≤ 1000 by omega) (by decide)
    rw [show (.lst (V.str "switches" :: (B.sws.map V.str ++ [])) : HO) = .lst ((("switches" : Str) :: B.sws).map V.str) by simp]
    refine ⟨_, a2, "switches" :: B.sws, rfl, rfl, .inl (SqL.of upd_same), Nat.le_trans G.ln1.sum (by decide), ?_⟩
    have s2 : Same H (upd H1 a2 (.lst ((("switches" : Str) :: B.sws).map V.str))) := s1.knew ha2
    generalize upd H1 a2 (.lst ((("switches" : Str) :: B.sws).map V.str)) = H2 at s2 ⊢
    refine ⟨by show 2 ≤ sizeLine; decide, fun m hm => ?_⟩
    rw [show (.lst [V.str (Txt.join " " ("nodes" :: B.nodes)), V.str (Txt.join " " ("switches" :: B.sws))] : HO) = .lst ((linesR B 0).map V.str) by rw [linesR_0, TL.join_eq, TL.join_eq]; rfl]
    have s3 : Same H (upd H2 m (.lst ((linesR B 0).map V.str))) := s2.knew hm
    have m0 : H m = none := s2.free hm
    have e3 : (upd H2 m (.lst ((linesR B 0).map V.str))) m = some (.lst ((linesR B 0).map V.str)) := upd_same
    generalize upd H2 m (.lst ((linesR B 0).map V.str)) = H3 at s3 e3 ⊢
    have big := G.small
    -- relays
    refine ⟨_, rfl, p, aB K, dx, _, _, rfl, s3 _ _ h1, T.clB, T.bN 2 rfl, zip_lookup (i := 2) BN_nd rfl rfl, r, rfl, ⟨_, s3.ktup hRr⟩, for_tup (K := K) (a := r) (xs := xr)
      (fun i σ H4 => ∃ v2 v3 v4, σ = [some (.ref p), some (.ref m), v2, v3, v4, none, none, none, none] ∧ Same H H4 ∧ H4 m = some (.lst ((linesR B i).map V.str))) ⟨none, none, none, rfl, s3, e3⟩ (fun i σ H4 _ ⟨_, _, _, _, z, _⟩ => z.ktup hRr) ?_ ?_⟩
    · rintro i x σ H4 hi ⟨v2, v3, v4, rfl, s4, e4⟩
      obtain ⟨b, rr, rfl, hl, ht⟩ := hRr'.getL hi
      obtain ⟨k1, k2, k3⟩ := G.rel3 (List.mem_of_getElem? hl)
      refine ⟨b, _, rfl, s4.ktup ht, rfl, _, _, rfl, _, _, rfl, _, _, rfl, rfl, ?_⟩
      refine ⟨_, rfl, .inl ⟨rfl, _, SqL.of e4⟩, ?_⟩
      refine js_fit (ys := ["relay ", rr.1, " ", rr.2.1, " ", rr.2.2]) (.cons str_at (.cons (fmt_at rfl (okW_sz k1)) (.cons str_at (.cons (fmt_at rfl (okW_sz k2)) (.cons str_at (.cons (fmt_at rfl (okW_sz k3)) .nil)))))) ?_ ?_
      · have := okW_len k1
        have := okW_len k2
        have := okW_len k3
        simp only [List.map_cons, List.map_nil, List.sum_cons, List.sum_nil, len_relay, len_sp]
        exact Nat.le_trans (show 0 + (6 + (rr.1.length + (1 + (rr.2.1.length + (1 + (rr.2.2.length + 0)))))) ≤ 1000 by omega) (by decide)
      · show ∃ l xs y, _
        refine ⟨m, _, _, rfl, rfl, e4, by rw [List.length_map]; exact small1000 (by have := linesR_len B i; omega), ?_⟩
        refine ⟨_, _, _, rfl, s4.kput m0, ?_⟩
        rw [upd_same, linesR_succ hl, List.map_append]
        show some (HO.lst ((linesR B i).map V.str ++ [V.str (Str.empty ++ "relay " ++ rr.1 ++ " " ++ rr.2.1 ++ " " ++ rr.2.2)])) = _
        rw [emp_app, rel_line]
        rfl
    · rintro σ H4 ⟨v2, v3, v4, rfl, s4, e4⟩
      rw [hRr'.len, List.length_map, ← linesL_0] at e4
      -- lamps
      refine ⟨_, rfl, p, aB K, dx, _, _, rfl, s4 _ _ h1, T.clB, T.bN 3 rfl, zip_lookup (i := 3) BN_nd rfl rfl, l, rfl, ⟨_, s4.ktup hRl⟩, for_tup (K := K) (a := l) (xs := xl)
        (fun i σ H5 => ∃ v2 v3 v4, σ = [some (.ref p), some (.ref m), v2, v3, v4, none, none, none, none] ∧ Same H H5 ∧ H5 m = some (.lst ((linesL B i).map V.str))) ⟨v2, v3, v4, rfl, s4, e4⟩ (fun i σ H5 _ ⟨_, _, _, _, z, _⟩ => z.ktup hRl) ?_ ?_⟩
      · rintro i x σ H5 hi ⟨v2, v3, v4, rfl, s5, e5⟩
        obtain ⟨b, rr, rfl, hl, ht⟩ := hRl'.getL hi
        obtain ⟨k1, k2, k3⟩ := G.lam3 (List.mem_of_getElem? hl)
        refine ⟨b, _, rfl, s5.ktup ht, rfl, _, _, rfl, _, _, rfl, _, _, rfl, rfl, ?_⟩
        refine ⟨_, rfl, .inl ⟨rfl, _, SqL.of e5⟩, ?_⟩
        refine js_fit (ys := ["lamp ", rr.1, " ", rr.2.1, " ", rr.2.2]) (.cons str_at (.cons (fmt_at rfl (okW_sz k1)) (.cons str_at (.cons (fmt_at rfl (okW_sz k2)) (.cons str_at (.cons (fmt_at rfl (okW_sz k3)) .nil)))))) ?_ ?_
        · have := okW_len k1
          have := okW_len k2
          have := okW_len k3
          simp only [List.map_cons, List.map_nil, List.sum_cons, List.sum_nil, len_lamp, len_sp]
          exact Nat.le_trans (show 0 + (5 + (rr.1.length + (1 + (rr.2.1.length + (1 + (rr.2.2.length + 0)))))) ≤ 1000 by omega) (by decide)
        · show ∃ l xs y, _
          refine ⟨m, _, _, rfl, rfl, e5, by rw [List.length_map]; exact small1000 (by have := linesL_len B i; omega), ?_⟩
          refine ⟨_, _, _, rfl, s5.kput m0, ?_⟩
          rw [upd_same, linesL_succ hl, List.map_append]
          show some (HO.lst ((linesL B i).map V.str ++ [V.str (Str.empty ++ "lamp " ++ rr.1 ++ " " ++ rr.2.1 ++ " " ++ rr.2.2)])) = _
          rw [emp_app, lam_line]
          rfl
      · rintro σ H5 ⟨v2, v3, v4, rfl, s5, e5⟩
        rw [hRl'.len, List.length_map, ← linesC_0] at e5
        -- contacts
        refine ⟨_, rfl, p, aB K, dx, _, _, rfl, s5 _ _ h1, T.clB, T.bN 4 rfl, zip_lookup (i := 4) BN_nd rfl rfl, c, rfl, ⟨_, s5.ktup hRc⟩, for_tup (K := K) (a := c) (xs := xc)
          (fun i σ H6 => ∃ v2 v3 v4 v5 v6 v7 v8, σ = [some (.ref p), some (.ref m), v2, v3, v4, v5, v6, v7, v8] ∧ Same H H6 ∧ H6 m = some (.lst ((linesC B i).map V.str))) ⟨v2, v3, v4, none, none, none, none, rfl, s5, e5⟩ (fun i σ H6 _ ⟨_, _, _, _, _, _, _, _, z, _⟩ => z.ktup hRc) ?_ ?_⟩
        · rintro i x σ H6 hi ⟨v2, v3, v4, v5, v6, v7, v8, rfl, s6, e6⟩
          obtain ⟨b, cc, rfl, hl, ht⟩ := hRc'.getL hi
          obtain ⟨k1, k2, k3, k4, k5⟩ := G.con5 (List.mem_of_getElem? hl)
          refine ⟨b, _, rfl, s6.ktup ht, rfl, _, _, rfl, _, _, rfl, _, _, rfl, _, _, rfl, _, _, rfl, rfl, ?_⟩
          refine ⟨_, rfl, _, rfl, rfl, _, rfl, ?_⟩
          have cl := con_line cc
          obtain ⟨o1, o2, mv, wh, wy⟩ := cc
          dsimp only at k1 k2 k3 k4 k5 cl
          cases mv with
          | none =>
            refine ctrue rfl ⟨_, rfl, .inl ⟨rfl, _, SqL.of e6⟩, ?_⟩
            refine js_fit (ys := ["contact ", o1, " ", o2, " ", "-", " ", wh, " ", wy]) (.cons str_at (.cons (fmt_at rfl (okW_sz k1)) (.cons str_at (.cons (fmt_at rfl (okW_sz k2)) (.cons str_at (.cons (fmt_at rfl (okW_sz ok_dash)) (.cons str_at (.cons (fmt_at rfl (okW_sz k4)) (.cons str_at (.cons (fmt_at rfl (okW_sz k5)) .nil)))))))))) ?_ ?_
            · have := okW_len k1
              have := okW_len k2
              have := okW_len ok_dash
              have := okW_len k4
              have := okW_len k5
              simp only [List.map_cons, List.map_nil, List.sum_cons, List.sum_nil, len_contact, len_sp]
              exact Nat.le_trans (show 0 + (8 + (o1.length + (1 + (o2.length + (1 + (("-" : Str).length + (1 + (wh.length + (1 + (wy.length + 0)))))))))) ≤ 1000 by omega) (by decide)
            · show ∃ l xs y, _
              refine ⟨m, _, _, rfl, rfl, e6, by rw [List.length_map]; exact small1000 (by have := linesC_len B i; omega), ?_⟩
              refine ⟨_, _, _, _, _, _, _, rfl, s6.kput m0, ?_⟩
              rw [upd_same, linesC_succ hl, List.map_append]
              show some (HO.lst ((linesC B i).map V.str ++ [V.str (Str.empty ++ "contact " ++ o1 ++ " " ++ o2 ++ " " ++ "-" ++ " " ++ wh ++ " " ++ wy)])) = _
              rw [emp_app, ← cl]
              rfl
          | some y =>
            refine cfalse rfl ?_
            refine ⟨_, rfl, .inl ⟨rfl, _, SqL.of e6⟩, ?_⟩
            refine js_fit (ys := ["contact ", o1, " ", o2, " ", y, " ", wh, " ", wy]) (.cons str_at (.cons (fmt_at rfl (okW_sz k1)) (.cons str_at (.cons (fmt_at rfl (okW_sz k2)) (.cons str_at (.cons (fmt_at rfl (okW_sz k3)) (.cons str_at (.cons (fmt_at rfl (okW_sz k4)) (.cons str_at (.cons (fmt_at rfl (okW_sz k5)) .nil)))))))))) ?_ ?_
            · have := okW_len k1
              have := okW_len k2
              have h3 : y.length ≤ 12 := okW_len k3
              have := okW_len k4
              have := okW_len k5
              simp only [List.map_cons, List.map_nil, List.sum_cons, List.sum_nil, len_contact, len_sp]
              exact Nat.le_trans (show 0 + (8 + (o1.length + (1 + (o2.length + (1 + (y.length + (1 + (wh.length + (1 + (wy.length + 0)))))))))) ≤ 1000 by omega) (by decide)
            · show ∃ l xs y, _
              refine ⟨m, _, _, rfl, rfl, e6, by rw [List.length_map]; exact small1000 (by have := linesC_len B i; omega), ?_⟩
              refine ⟨_, _, _, _, _, _, _, rfl, s6.kput m0, ?_⟩
              rw [upd_same, linesC_succ hl, List.map_append]
              show some (HO.lst ((linesC B i).map V.str ++ [V.str (Str.empty ++ "contact " ++ o1 ++ " " ++ o2 ++ " " ++ y ++ " " ++ wh ++ " " ++ wy)])) = _
              rw [emp_app]
              rw [show movW (some y) = y from rfl] at cl
              rw [← cl]
              rfl
        · rintro σ H6 ⟨v2, v3, v4, v5, v6, v7, v8, rfl, s6, e6⟩
          rw [hRc'.len, List.length_map, linesC_all] at e6
          refine ⟨⟨_, rfl⟩, _, rfl, _, m, linesOf B, rfl, rfl, .inl (SqL.of e6), Nat.le_trans G.sum (by decide), ?_⟩
          rw [TL.join_eq]
          exact k H6 s6
end
end K7

namespace K7
open PySem PySem.Spec PyProof.Rows L2 ClX
/-- a def called with keywords -/
structure CalK (P : Program) (w : World) (K : PySem.W.Frag) (mg : Str → Option Value) (base : Heap) (k : Nat) (x : Str) (n : Nat) (ks : List Str) (gV : List V → List V → List V) (sp : Sp) : Prop where
  ex : ∃ (f : Addr) (fd : FuncData) (ps : List Str) (g : List Value → List Value → List Value), FnOk P w K mg base CX0 k f fd ps sp ∧ mg x = some (.ref f) ∧ PySem.W.keepIn K (.ref f) = true ∧ KBn K fd ps n ks g gV
structure MetK (P : Program) (w : World) (K : PySem.W.Frag) (mg : Str → Option Value) (base : Heap) (k : Nat) (C : Addr) (m : Str) (n : Nat) (ks : List Str) (gV : List V → List V → List V) (sp : Sp) : Prop where
  ex : ∃ (f : Addr) (fd : FuncData) (ps : List Str) (g : List Value → List Value → List Value), Cls K C ∧ Meth K C m f ∧ FnOk P w K mg base CX0 k f fd ps sp ∧ KBn K fd ps n ks g gV
section
variable {X : Cx} {k j n : Nat} {C : Addr} {x m : Str} {ks : List Str} {gV : List V → List V → List V} {sp : Sp} {p pos apos : Pos} {e o : Expr} {es : List Expr} {kws : List Keyword} {ta : TE} {t tk : TA}
theorem pe_ck (c : CalK X.prog X.w X.K X.mg X.base k x n ks gV sp) (hr : Room j X.A) (hk : k ≤ j) (hg : Gl X x) (ha : PA X (e :: es) t) (hkw : PK X kws tk) (hall : (backToKw pos (keywordEach kws X.env)).all (·.1.isSome) = true := by rfl) (hks : (backToKw pos (keywordEach kws X.env)).filterMap (·.1) = ks := by rfl)
    (hdb : (x == ("__debug__" : Str)) = false := by decide) (he : starEach (e :: es) X.env = (false, eval e X.env) :: starEach es X.env := by rfl)
    (hpl : ((backTo pos (starEach (e :: es) X.env)).any (·.1) || (backToKw pos (keywordEach kws X.env)).any (·.1.isNone)) = false := by rfl) :
    PE X (.Call (.Name x p) (e :: es) kws pos) (tCallN n ks.length sp gV E0 t tk) := by
  obtain ⟨f, fd, ps, g, F, hm, kp, b⟩ := c.ex
  exact pe_callN F (hr.mono hk) hg hm kp b pass0 ha hkw hall hks hdb he hpl
theorem pe_mk2 {pl : Sem Bool} (c : MetK X.prog X.w X.K X.mg X.base k C m (n + 1) ks gV sp) (hr : Room j X.A) (hk : k ≤ j) (he : PE X o ta) (ha : PA X (e :: es) t) (hkw : PK X kws tk)
    (hall : (backToKw pos (keywordEach kws X.env)).all (·.1.isSome) = true := by rfl) (hks : (backToKw pos (keywordEach kws X.env)).filterMap (·.1) = ks := by rfl)
    (hst : starEach (e :: es) X.env = (false, eval e X.env) :: starEach es X.env := by rfl)
    (hpl : ((backTo pos (starEach (e :: es) X.env)).any (·.1) || (backToKw pos (keywordEach kws X.env)).any (·.1.isNone)) = false := by rfl)
    (ht : eval (.Call (.Attribute o m apos) (e :: es) kws pos) X.env = (do
      let ov ← eval o X.env
      standAt apos.atName
      let (f, first) ← holding [ov] (getMethod ov m pl)
      callWith pos f first (backTo pos (starEach (e :: es) X.env)) (backToKw pos (keywordEach kws X.env))) := by rfl) :
    PE X (.Call (.Attribute o m apos) (e :: es) kws pos) (tMethK C m n ks.length sp gV E0 ta t tk) := by
  obtain ⟨f, fd, ps, g, hc, hm, F, b⟩ := c.ex
  exact pe_methK (pl := pl) he hc hm F (hr.mono hk) b pass0 ha hkw hall hks hst hpl ht
end
section
variable {P : Program} {w : World} {K : PySem.W.Frag} {mg : Str → Option Value} {base : Heap}
theorem kbn_app {x qual : Str} {st : Stmt} {f : Addr} {fd : FuncData} {ps ks : List Str} {n : Nat} (F : Fun K x qual st f fd)
    (h : ∀ (kV doc pm : Value) (an : Option Addr) (cdv ct : Value) (us ws : List Value), us.length = n → ws.length = ks.length → bindArgs (PySem.W.fnOf x qual (defArgs st) (defBody st) (defScope st) .none kV doc pm an cdv ct) ⟨us, ks.zip ws⟩ = pure (ps.zip (us ++ ws))) :
    KBn K fd ps n ks (fun us ws => us ++ ws) (fun us ws => us ++ ws) := by
  obtain ⟨oc, od, kV, doc, pm, an, cdv, ct, osl, rfl, lk, hcd⟩ := F.ex
  exact ⟨fun s us ws _ l1 l2 => .of_eq (h kV doc pm an cdv ct us ws l1 l2), fun r1 r2 => r1.append r2⟩
/-! ### parse_names -/
def spParseNames (K : PySem.W.Frag) : Sp := fun vs H Q _ => ∃ (a : Addr) (ln lo hi : Int) (zs : List Str), vs = [.ref a, .int ln, .int lo, .int hi] ∧ SqL K H a (zs.map V.str) ∧ lo ≤ (zs.length : Int) ∧ (zs.length : Int) ≤ hi ∧ zs.length ≤ 100 ∧ (∀ z ∈ zs, IsNm z) ∧ zs.Nodup ∧
  ∀ (H' : Hp) (t : Addr), Same H H' → H t = none → H' t = some (.lst (zs.map V.str)) → Q (.ref t) H'
abbrev nParseNames : List Str := ["words", "line", "least", "most", "names", "word"]
theorem scParseNames : FnScope nParseNames ["words", "line", "least", "most"] (defScope sParseNames) := ⟨rfl, rfl, rfl, by decide +kernel, rfl, by decide +kernel, by decide +kernel⟩
theorem ok_parse_names (T : Tx K mg) (D : Dfn K mg "parse_names" sParseNames) (cN : Stat P w K mg base 1 (aB K) "is_name" spIsName) : CalK P w K mg base 2 "parse_names" 2 ["least", "most"] (fun us ws => us ++ ws) (spParseNames K) := by
  obtain ⟨f, fd, F, hm⟩ := D.ex
  refine ⟨f, fd, ["words", "line", "least", "most"], _, F.ok scParseNames (fun vs H Q E h => ?_) (fun cdv A outer s0 H vs Q E hr h => ?_), hm, F.kp, kbn_app F fun _ _ _ _ _ _ us ws h1 h2 => match us, h1 with | [_, _], _ => match ws, h2 with | [_, _], _ => rfl⟩
  · obtain ⟨a, ln, lo, hi, zs, rfl, _⟩ := h
    rfl
  · obtain ⟨a, ln, lo, hi, zs, rfl, hS, h1, h2, hl, h3, nd, k⟩ := h
    refine ⟨_, pss_cons (ps_if (pt_not (pt_chain op_le op_le (pv 2) (pe_callB call_len_seq (by rfl) T.len PySem.boot_len (pa_cons (pv 0) pa_nil)) (pv 3))) (pss_one ps_never) pss_nil)
      (pss_cons (ps_set (i := 4) scParseNames.nd rfl (Or.inl rfl) (pe_lst pa_nil))
      (pss_cons (ps_for PassesOwn.never rfl (pi_list (pv 0)) (pg_name (i := 5) scParseNames.nd rfl (Or.inl rfl))
        (pss_cons (ps_if (PW.pt (pw_or (pt_not (pt_val (pe_st cN T.rdB hr (by decide) (pe_glob (v := .ref (aB K)) rfl T.board rfl) (pa_cons (pv 5) pa_nil)))) (pw_or1 (pt_cmpR op_in_seq (pv 5) (pv 4) (by rfl))))) (pss_one ps_never) pss_nil)
        (pss_one (ps_expr (pe_bm PySem.F.plainAttrs_list PySem.F.slot_list_append PySem.F.type_list_append mt_append (pv 4) (pa_cons (pv 5) pa_nil))))))
      (pss_one (ps_ret (pv 4))))), ?_⟩
    refine ⟨_, rfl, _, rfl, _, _, rfl, .inl hS, _, _, rfl, rfl, _, rfl, ?_⟩
    refine iteD (by simpa using h1) ⟨_, rfl, _, _, rfl, rfl, _, rfl, ?_⟩
    refine iteNS (by simpa using h2) ?_
    refine ⟨Nat.zero_le _, fun t ht => ?_⟩
    have s1 : Same H (upd H t (.lst [])) := same_up ht
    have hS1 := s1.seq hS
    refine ⟨_, rfl, a, rfl, ⟨_, hS1⟩, for_list (K := K) (a := a) (xs := zs.map V.str) (fun i σ H2 => ∃ v5, σ = [some (.ref a), some (.int ln), some (.int lo), some (.int hi), some (.ref t), v5] ∧ Same H H2 ∧ H2 t = some (.lst ((zs.take i).map V.str))) ⟨none, rfl, s1, upd_same⟩
      (fun i σ H2 _ ⟨_, _, s2, _⟩ => s2.seq hS) ?_ ?_⟩
    · rintro i x σ H2 hi ⟨v5, rfl, s2, e2⟩
      obtain ⟨u, hu, rfl⟩ := strs_get hi
      refine ⟨rfl, _, rfl, u, rfl, h3 u (List.mem_of_getElem? hu), fun H3 s3 => ⟨true, rfl, ?_⟩⟩
      refine iteF ⟨_, rfl, _, rfl, t, _, rfl, .inl (SqL.of (s3 _ _ e2)), rfl, strs_flat _, _, rfl, ?_⟩
      refine cfalse (show inV (.str u) _ = false by rw [in_strs]; exact decide_eq_false (not_in_take nd hu)) ?_
      refine ⟨_, rfl, .inl ⟨rfl, _, SqL.of (s3 _ _ e2)⟩, _, rfl, t, _, _, rfl, rfl, s3 _ _ e2, ?_, ?_⟩
      · rw [List.length_map, List.length_take]
        exact small1000 (by omega)
      · refine ⟨_, rfl, (s2.trans s3).kput ht, ?_⟩
        rw [upd_same, take_succ_map _ _ hu]
    · rintro σ H2 ⟨v5, rfl, s2, e2⟩
      refine ⟨_, rfl, k H2 t s2 ht ?_⟩
      rw [e2, List.length_map, List.take_length]
/-! ### starts -/
def headIs (W : List (List Str)) (i : Nat) (w : Str) : Bool := match W[i]? with
  | some (x :: _) => decide (x = w)
  | _ => false
def spStarts (K : PySem.W.Frag) : Sp := fun vs H Q _ => ∃ (l : Addr) (i : Nat) (wd : Str) (W : List (List Str)), vs = [.ref l, .int ((i : Nat) : Int), .str wd] ∧ LinesAt K H l W ∧ (∀ ws ∈ W, ws ≠ []) ∧ Q (.bl (headIs W i wd)) H
theorem scStarts : FnScope ["lines", "at", "word"] ["lines", "at", "word"] (defScope sStarts) := ⟨rfl, rfl, rfl, by decide +kernel, rfl, by decide +kernel, by decide +kernel⟩
theorem ok_starts (T : Tx K mg) (D : Dfn K mg "starts" sStarts) : C8.Cal P w K mg base 1 "starts" (spStarts K) [] := by
  refine cal_of D scStarts (fun vs H Q E h => ?_) (fun _ _ _ _ _ _ us hl => match us, hl with | [_, _, _], _ => rfl) (fun f cdv A outer s0 H vs Q E hr h => ?_)
  · obtain ⟨l, i, wd, W, rfl, _⟩ := h
    rfl
  · obtain ⟨l, i, wd, W, rfl, hL, hne, k⟩ := h
    obtain ⟨xs, hx, hl, hrow⟩ := hL.ex
    refine ⟨_, pss_one (ps_ret (pe_and (pe_cmpR op_lt (pv 1) (pe_callB call_len_seq (by rfl) T.len PySem.boot_len (pa_cons (pv 0) pa_nil)) (nomark _))
      (pe_one (pe_cmpR op_eq (pe_ix ix_list (pe_ix ix_list (pv 0) (pv 1) (fun _ _ => rfl)) pe_int (fun _ _ => rfl)) (pv 2) (nomark _))))), ?_⟩
    refine ⟨_, rfl, _, rfl, l, _, rfl, .inl hx, _, _, rfl, rfl, _, rfl, ?_⟩
    unfold headIs at k
    cases e : W[i]? with
    | none =>
      rw [e] at k
      refine iteDN ?_ k
      have := List.getElem?_eq_none_iff.mp e
      omega
    | some ws =>
      rw [e] at k
      have hi : i < W.length := (List.getElem?_eq_some_iff.mp e).1
      obtain ⟨a, h1, h2⟩ := hrow i ws e
      cases ws with
      | nil => exact absurd rfl (hne [] (List.mem_of_getElem? e))
      | cons x r =>
        refine iteD (by omega) ⟨_, rfl, _, rfl, l, _, _, _, rfl, rfl, hx, atI_nat h1, a, _, _, V.str x, rfl, rfl, h2, atI_nat (j := 0) rfl, _, rfl, rfl, ?_⟩
        have e2 : decide (V.str x = V.str wd) = decide (x = wd) := by simp
        show Q (.bl (decide (V.str x = V.str wd))) H
        rw [e2]
        exact k
/-! ### Reader.check_ends -/
abbrev rfs (l : Addr) (i : Nat) (v2 v3 v4 v5 v6 : V) : List (Str × V) := RN.zip [.ref l, .int ((i : Nat) : Int), v2, v3, v4, v5, v6]
def spCheckEnds (K : PySem.W.Frag) : Sp := fun vs H Q _ => ∃ (p dx l a : Addr) (i : Nat) (v3 v4 v5 v6 : V) (x y : Str) (ns : List Str), vs = [.ref p, .str x, .str y] ∧ H p = some (.ins (aR K) dx (rfs l i (.ref a) v3 v4 v5 v6)) ∧ SqL K H a (ns.map V.str) ∧ EndsOk ns x y ∧ Q .non H
theorem scCheckEnds : FnScope ["self", "one", "other"] ["self", "one", "other"] (defScope sCheckEnds) := ⟨rfl, rfl, rfl, by decide +kernel, rfl, by decide +kernel, by decide +kernel⟩
theorem ok_check_ends (T : Tx K mg) (D : Mth K (aR K) "check_ends" "Reader.check_ends" sCheckEnds) : C8.Met P w K mg base 1 (aR K) "check_ends" (spCheckEnds K) [] := by
  refine met_of T.clR D scCheckEnds (fun vs H Q E h => ?_) (fun _ _ _ _ _ _ us hl => match us, hl with | [_, _, _], _ => rfl) (fun f cdv A outer s0 H vs Q E hr h => ?_)
  · obtain ⟨p, dx, l, a, i, v3, v4, v5, v6, x, y, ns, rfl, _⟩ := h
    rfl
  · obtain ⟨p, dx, l, a, i, v3, v4, v5, v6, x, y, ns, rfl, hp, hS, ⟨h1, h2, h3⟩, k⟩ := h
    refine ⟨_, pss_one (ps_if (PW.pt (pw_or (pt_cmpR op_notIn_seq (pv 1) (pe_fld (pv 0) rfl) (by rfl)) (pw_or (pt_cmpR op_notIn_seq (pv 2) (pe_fld (pv 0) rfl) (by rfl)) (pw_or1 (pt_cmpR op_eq (pv 1) (pv 2) (nomark _)))))) (pss_one ps_never) pss_nil), ?_⟩
    refine ⟨_, rfl, _, rfl, p, aR K, dx, _, _, rfl, hp, T.clR, T.rN 2 rfl, zip_lookup (i := 2) RN_nd rfl rfl, a, _, rfl, .inl hS, rfl, strs_flat _, _, rfl, ?_⟩
    refine cfalse (show (!inV (.str x) _) = false by rw [in_strs, decide_eq_true h1]; rfl) ?_
    refine ⟨_, rfl, _, rfl, p, aR K, dx, _, _, rfl, hp, T.clR, T.rN 2 rfl, zip_lookup (i := 2) RN_nd rfl rfl, a, _, rfl, .inl hS, rfl, strs_flat _, _, rfl, ?_⟩
    refine cfalse (show (!inV (.str y) _) = false by rw [in_strs, decide_eq_true h2]; rfl) ?_
    refine ⟨_, rfl, _, rfl, rfl, _, rfl, ?_⟩
    exact iteDN (by simpa using h3) k
/-! ### Reader.take_names -/
theorem cut1 (v : V) (xs : List V) : cutV (v :: xs) (some 1) none = xs := by
  unfold cutV
  have e : HT.sIx (v :: xs).length 0 (some 1) = 1 := by
    have := HT.sIx_nat (v :: xs).length 0 1
    rw [show ((1 : Nat) : Int) = 1 from rfl] at this
    rw [this]
    simp
  rw [e, HT.sIx_none]
  show xs.take _ = xs
  apply List.take_of_length_le
  simp
def spTakeNames (K : PySem.W.Frag) : Sp := fun vs H Q _ => ∃ (G : Hp) (p dx l : Addr) (i : Nat) (v2 v3 v4 v5 v6 : V) (wd : Str) (lo hi : Int) (W : List (List Str)) (zs : List Str), vs = [.ref p, .str wd, .int lo, .int hi] ∧
  Same G H ∧ G p = none ∧ H p = some (.ins (aR K) dx (rfs l i v2 v3 v4 v5 v6)) ∧ LinesAt K G l W ∧ (∀ ws ∈ W, ws ≠ []) ∧ W[i]? = some (wd :: zs) ∧ lo ≤ (zs.length : Int) ∧ (zs.length : Int) ≤ hi ∧ zs.length ≤ 100 ∧ (∀ z ∈ zs, IsNm z) ∧ zs.Nodup ∧
  ∀ (H' : Hp) (t : Addr), Same G H' → H' p = some (.ins (aR K) dx (rfs l (i + 1) v2 v3 v4 v5 v6)) → H t = none → H' t = some (.lst (zs.map V.str)) → Q (.ref t) H'
abbrev nTakeNames : List Str := ["self", "word", "least", "most", "names"]
theorem scTakeNames : FnScope nTakeNames ["self", "word", "least", "most"] (defScope sTakeNames) := ⟨rfl, rfl, rfl, by decide +kernel, rfl, by decide +kernel, by decide +kernel⟩
theorem ok_take_names (T : Tx K mg) (D : Mth K (aR K) "take_names" "Reader.take_names" sTakeNames) (cS : C8.Cal P w K mg base 1 "starts" (spStarts K) []) (cN : CalK P w K mg base 2 "parse_names" 2 ["least", "most"] (fun us ws => us ++ ws) (spParseNames K)) :
    MetK P w K mg base 3 (aR K) "take_names" 2 ["least", "most"] (fun us ws => us ++ ws) (spTakeNames K) := by
  obtain ⟨f, fd, F, hm⟩ := D.ex
  refine ⟨f, fd, ["self", "word", "least", "most"], _, T.clR, hm, F.ok scTakeNames (fun vs H Q E h => ?_) (fun cdv A outer s0 H vs Q E hr h => ?_), kbn_app F fun _ _ _ _ _ _ us ws h1 h2 => match us, h1 with | [_, _], _ => match ws, h2 with | [_, _], _ => rfl⟩
  · obtain ⟨G, p, dx, l, i, v2, v3, v4, v5, v6, wd, lo, hi, W, zs, rfl, _⟩ := h
    rfl
  · obtain ⟨G, p, dx, l, i, v2, v3, v4, v5, v6, wd, lo, hi, W, zs, rfl, sG, gp, hp, hL, hne, hW, h1, h2, hl, h3, nd, k⟩ := h
    refine ⟨_, pss_cons (ps_if (pt_not (pt_val (C8.pe_c cS hr (by decide) (by rfl) (pa_cons (pe_fld (pv 0) rfl) (pa_cons (pe_fld (pv 0) rfl) (pa_cons (pv 1) pa_nil)))))) (pss_one ps_never) pss_nil)
      (pss_cons (ps_set (i := 4) scTakeNames.nd rfl (Or.inl rfl) (pe_ck cN hr (by decide) (by rfl) (pa_cons (pe_slice sl_list (pe_ix ix_list (pe_fld (pv 0) rfl) (pe_fld (pv 0) rfl) (fun _ _ => rfl)) (po_some pe_int) po_none) (pa_cons (pe_op op_add (pe_fld (pv 0) rfl) pe_int) pa_nil)) (pk_cons (pv 2) (pk_cons (pv 3) pk_nil))))
      (pss_cons (ps_fldaug (pv 0) pe_int in_add)
      (pss_one (ps_ret (pv 4))))), ?_⟩
    have hLH := hL.same sG
    refine ⟨_, rfl, p, aR K, dx, _, _, rfl, hp, T.clR, T.rN 0 rfl, zip_lookup (i := 0) RN_nd rfl rfl, _, rfl, p, aR K, dx, _, _, rfl, hp, T.clR, T.rN 1 rfl, zip_lookup (i := 1) RN_nd rfl rfl, _, rfl, l, i, wd, W, rfl, hLH, hne, _, rfl, ?_⟩
    have hh : headIs W i wd = true := by
      unfold headIs
      rw [hW]
      exact decide_eq_true rfl
    rw [hh]
    refine iteF ?_
    obtain ⟨xs, hx, hxl, hrow⟩ := hLH.ex
    obtain ⟨a, e1, e2⟩ := hrow i _ hW
    refine ⟨_, rfl, p, aR K, dx, _, _, rfl, hp, T.clR, T.rN 0 rfl, zip_lookup (i := 0) RN_nd rfl rfl, _, rfl, p, aR K, dx, _, _, rfl, hp, T.clR, T.rN 1 rfl, zip_lookup (i := 1) RN_nd rfl rfl, l, _, _, _, rfl, rfl, hx, atI_nat e1, _, rfl, a, _, rfl, e2, fun q hq => ?_⟩
    rw [show cutV ((wd :: zs).map V.str) (some 1) none = zs.map V.str from cut1 _ _]
    have s1 : Same H (upd H q (.lst (zs.map V.str))) := same_up hq
    have n1 : q ≠ p := fun e => by rw [e, hp] at hq; cases hq
    have hp1 := s1 _ _ hp
    refine ⟨_, rfl, p, aR K, dx, _, _, rfl, hp1, T.clR, T.rN 1 rfl, zip_lookup (i := 1) RN_nd rfl rfl, _, _, rfl, rfl, _, rfl, _, rfl, rfl, rfl, q, _, lo, hi, zs, rfl, SqL.of upd_same, h1, h2, hl, h3, nd, fun H2 t s2 ht et => ?_⟩
    have hp2 := s2 _ _ hp1
    refine ⟨_, rfl, p, aR K, dx, _, _, rfl, hp2, T.clR, T.rN 1 rfl, zip_lookup (i := 1) RN_nd rfl rfl, _, _, rfl, rfl, dx, _, hp2, Nat.lt_of_le_of_lt zip_len (by decide), ?_⟩
    have n2 : t ≠ p := fun e => by rw [e, hp1] at ht; cases ht
    refine ⟨_, rfl, k _ t (((sG.trans s1).trans s2).kput gp) ?_ (s1.free ht) ?_⟩
    · rw [upd_same]
      show some (HO.ins (aR K) dx (putF "at" (V.int ((i : Int) + 1)) _)) = _
      rw [zip_put (i := 1) RN_nd rfl (by show 1 < 7; decide)]
      rfl
    · rw [upd_ne n2]
      exact et
end
end K7

namespace K7
open PySem PySem.Spec PyProof.Rows L2 ClX
theorem str_ne {x y : Str} (h : x ≠ y) : decide (V.str x = V.str y) = false := decide_eq_false (fun e => h (V.str.inj e))
section
variable {P : Program} {w : World} {K : PySem.W.Frag} {mg : Str → Option Value} {base : Heap}
/-! ### Reader.take_loads -/
def spTakeLoads (K : PySem.W.Frag) : Sp := fun vs H Q _ => ∃ (G : Hp) (p dx l a kn : Addr) (i : Nat) (v3 v4 v5 v6 : V) (wd : Str) (most : Int) (W : List (List Str)) (ns ks : List Str) (ls : List Load), vs = [.ref p, .str wd, .ref kn, .int most] ∧
  Same G H ∧ G p = none ∧ H p = some (.ins (aR K) dx (rfs l i (.ref a) v3 v4 v5 v6)) ∧ LinesAt K G l W ∧ (∀ ws ∈ W, ws ≠ []) ∧ SqL K G a (ns.map V.str) ∧ G kn = some (.lst (ks.map V.str)) ∧
  (∀ (j : Nat) (r : Load), ls[j]? = some r → W[i + j]? = some [wd, r.1, r.2.1, r.2.2]) ∧ headIs W (i + ls.length) wd = false ∧ (ks ++ ls.map (·.1)).Nodup ∧ (∀ r ∈ ls, IsNm r.1 ∧ EndsOk ns r.2.1 r.2.2) ∧ (ls.length : Int) ≤ most ∧ ls.length ≤ 100 ∧ ks.length ≤ 100 ∧
  ∀ (H' : Hp) (t : Addr) (xs : List V), Same G H' → H' p = some (.ins (aR K) dx (rfs l (i + ls.length) (.ref a) v3 v4 v5 v6)) → H t = none → H' t = some (.lst xs) → RowsAt K H' xs (ls.map load3) → Q (.ref t) H'
abbrev nTakeLoads : List Str := ["self", "word", "known", "most", "loads", "words", "names", "load"]
theorem scTakeLoads : FnScope nTakeLoads ["self", "word", "known", "most"] (defScope sTakeLoads) := ⟨rfl, rfl, rfl, by decide +kernel, rfl, by decide +kernel, by decide +kernel⟩
theorem ok_take_loads (T : Tx K mg) (D : Mth K (aR K) "take_loads" "Reader.take_loads" sTakeLoads) (cS : C8.Cal P w K mg base 1 "starts" (spStarts K) []) (cN : Stat P w K mg base 1 (aB K) "is_name" spIsName) (cE : C8.Met P w K mg base 1 (aR K) "check_ends" (spCheckEnds K) []) :
    C8.Met P w K mg base 2 (aR K) "take_loads" (spTakeLoads K) [] := by
  refine met_of T.clR D scTakeLoads (fun vs H Q E h => ?_) (fun _ _ _ _ _ _ us hl => match us, hl with | [_, _, _, _], _ => rfl) (fun f cdv A outer s0 H vs Q E hr h => ?_)
  · obtain ⟨G, p, dx, l, a, kn, i, v3, v4, v5, v6, wd, most, W, ns, ks, ls, rfl, _⟩ := h
    rfl
  · obtain ⟨G, p, dx, l, a, kn, i, v3, v4, v5, v6, wd, most, W, ns, ks, ls, rfl, sG, gp, hp, hL, hne, hA, hK, hW, hend, nd, hr3, hm, hl100, hk100, k⟩ := h
    refine ⟨_, pss_cons (ps_set (i := 4) scTakeLoads.nd rfl (Or.inl rfl) (pe_lst pa_nil))
      (pss_cons (ps_while PassesOwn.never (pt_val (C8.pe_c cS hr (by decide) (by rfl) (pa_cons (pe_fld (pv 0) rfl) (pa_cons (pe_fld (pv 0) rfl) (pa_cons (pv 1) pa_nil)))))
        (pss_cons (ps_set (i := 5) scTakeLoads.nd rfl (Or.inl rfl) (pe_ix ix_list (pe_fld (pv 0) rfl) (pe_fld (pv 0) rfl) (fun _ _ => rfl)))
        (pss_cons (ps_set (i := 6) scTakeLoads.nd rfl (Or.inl rfl) (pe_op op_cat (pv 2)
          (pe_lc (own := [("load", 7)]) (g := gName 7) (tt := tYes) (te := tOp (rIxT K) (tVar 7) (tC (.int 0))) rfl scTakeLoads.nd (pi_list (pv 4)) (blkOk_by (N := nTakeLoads) (sc := defScope sTakeLoads) (by decide +kernel)) (fun _ _ _ _ _ => pg_name (i := 7) scTakeLoads.nd rfl (Or.inl rfl)) (fun _ _ _ _ _ => pts_nil)
            (fun _ _ _ _ _ => pe_ix ix_tup (pv 7) pe_int (fun _ _ => rfl)))))
        (pss_cons (ps_if (PW.pt (pw_or (pt_cmpR op_ne (pe_callB call_len_seq (by rfl) T.len PySem.boot_len (pa_cons (pv 5) pa_nil)) pe_int (nomark _))
            (pw_or (pt_cmpR op_eq (pe_callB call_len_seq (by rfl) T.len PySem.boot_len (pa_cons (pv 4) pa_nil)) (pv 3) (nomark _))
            (pw_or (pt_not (pt_val (pe_st cN T.rdB hr (by decide) (pe_glob (v := .ref (aB K)) rfl T.board rfl) (pa_cons (pe_ix ix_list (pv 5) pe_int (fun _ _ => rfl)) pa_nil))))
            (pw_or1 (pt_cmpR op_in_seq (pe_ix ix_list (pv 5) pe_int (fun _ _ => rfl)) (pv 6) (by rfl))))))) (pss_one ps_never) pss_nil)
        (pss_cons (ps_expr (C8.pe_mt cE hr (by decide) (pv 0) (pa_cons (pe_ix ix_list (pv 5) pe_int (fun _ _ => rfl)) (pa_cons (pe_ix ix_list (pv 5) pe_int (fun _ _ => rfl)) pa_nil))))
        (pss_cons (ps_expr (pe_bm PySem.F.plainAttrs_list PySem.F.slot_list_append PySem.F.type_list_append mt_append (pv 4) (pa_cons (pe_tup (pa_cons (pe_ix ix_list (pv 5) pe_int (fun _ _ => rfl)) (pa_cons (pe_ix ix_list (pv 5) pe_int (fun _ _ => rfl)) (pa_cons (pe_ix ix_list (pv 5) pe_int (fun _ _ => rfl)) pa_nil)))) pa_nil)))
        (pss_one (ps_fldaug (pv 0) pe_int in_add))))))))
      (pss_one (ps_ret (pv 4)))), ?_⟩
    refine ⟨Nat.zero_le _, fun t ht => ?_⟩
    have ntp : t ≠ p := fun e => by rw [e, hp] at ht; cases ht
    have gt : G t = none := sG.free ht
    refine ⟨fun mm σ H2 => ∃ (j : Nat) (w5 w6 : Option V) (G2 : Hp) (xs : List V), mm = ls.length - j ∧ j ≤ ls.length ∧ σ = [some (.ref p), some (.str wd), some (.ref kn), some (.int most), some (.ref t), w5, w6, none] ∧
      Same G G2 ∧ Same G2 H2 ∧ G2 p = none ∧ G2 t = none ∧ H2 p = some (.ins (aR K) dx (rfs l (i + j) (.ref a) v3 v4 v5 v6)) ∧ H2 t = some (.lst xs) ∧ RowsAt K G2 xs ((ls.take j).map load3), ⟨_, 0, none, none, G, [], rfl, Nat.zero_le _, rfl, Same.refl _, sG.knew ht, gp, gt, by rw [upd_ne (Ne.symm ntp)]; exact hp, upd_same, RowsAt.nil⟩, ?_⟩
    rintro mm σ H2 ⟨j, w5, w6, G2, xs, rfl, hj, rfl, sGG, sG2, gp2, gt2, hp2, et, hR⟩
    have sH := sGG.trans sG2
    have hL2 := hL.same sH
    refine ⟨_, rfl, p, aR K, dx, _, _, rfl, hp2, T.clR, T.rN 0 rfl, zip_lookup (i := 0) RN_nd rfl rfl, _, rfl, p, aR K, dx, _, _, rfl, hp2, T.clR, T.rN 1 rfl, zip_lookup (i := 1) RN_nd rfl rfl, _, rfl, l, i + j, wd, W, rfl, hL2, hne, _, rfl, ?_⟩
    have hxs : xs.length = j := by
      rw [hR.len, List.length_map, List.length_take]
      omega
    rcases Nat.lt_or_ge j ls.length with hlt | hge
    · obtain ⟨r, hjr⟩ : ∃ r, ls[j]? = some r := ⟨ls[j], List.getElem?_eq_getElem hlt⟩
      have hWj := hW j r hjr
      have hrm := hr3 r (List.mem_of_getElem? hjr)
      refine ctrue (by unfold headIs; rw [hWj]; exact decide_eq_true rfl) ?_
      refine ⟨fun σ' H' => ∃ (w5 w6 : Option V) (G2 : Hp) (xs : List V), σ' = [some (.ref p), some (.str wd), some (.ref kn), some (.int most), some (.ref t), w5, w6, none] ∧
        Same G G2 ∧ Same G2 H' ∧ G2 p = none ∧ G2 t = none ∧ H' p = some (.ins (aR K) dx (rfs l (i + (j + 1)) (.ref a) v3 v4 v5 v6)) ∧ H' t = some (.lst xs) ∧ RowsAt K G2 xs ((ls.take (j + 1)).map load3),
        fun σ' H' ⟨w5, w6, G2, xs, h⟩ => ⟨ls.length - (j + 1), by omega, j + 1, w5, w6, G2, xs, rfl, hlt, h⟩, ?_⟩
      obtain ⟨rows, hx, hxl, hrow⟩ := hL2.ex
      obtain ⟨b, e1, e2⟩ := hrow (i + j) _ hWj
      refine ⟨_, rfl, p, aR K, dx, _, _, rfl, hp2, T.clR, T.rN 0 rfl, zip_lookup (i := 0) RN_nd rfl rfl, _, rfl, p, aR K, dx, _, _, rfl, hp2, T.clR, T.rN 1 rfl, zip_lookup (i := 1) RN_nd rfl rfl, l, _, _, _, rfl, rfl, hx, atI_nat e1, ?_⟩
      -- names
      refine ⟨_, rfl, ?_⟩
      refine rd_firstsL (te := tVar 4) (i := 7) (a := t) (fun R h => ⟨_, rfl, h⟩) (by show 7 < 8; decide) (SqL.of et) (hR.same sG2) (by omega) fun D1 H3 hD1 s3 e3 => ?_
      have sH3 := sH.trans s3
      refine ⟨kn, D1, _, _, rfl, rfl, sH3 _ _ hK, e3, ?_, fun D2 hD2 => ?_⟩
      · simp only [List.length_map, List.length_take]
        exact Nat.le_trans (show ks.length + min j ls.length ≤ 1000 by omega) (by decide)
      have s4 : Same H2 (upd H3 D2 (.lst (ks.map V.str ++ ((ls.take j).map (·.1)).map V.str))) := s3.knew hD2
      have e4 : SqL K (upd H3 D2 (.lst (ks.map V.str ++ ((ls.take j).map (·.1)).map V.str))) D2 ((ks ++ (ls.take j).map (·.1)).map V.str) := by
        rw [List.map_append]
        exact SqL.of upd_same
      generalize upd H3 D2 (.lst (ks.map V.str ++ ((ls.take j).map (·.1)).map V.str)) = H4 at s4 e4 ⊢
      have e2' := s4.seq e2
      have et4 := s4 _ _ et
      have hp4 := s4 _ _ hp2
      -- the test
      refine ⟨_, rfl, b, _, rfl, .inl e2', rfl, _, rfl, ?_⟩
      refine iteNS rfl ⟨_, rfl, t, _, rfl, .inl (SqL.of et4), _, rfl, rfl, _, rfl, ?_⟩
      refine iteDN (by rw [hxs]; intro z; have := V.int.inj z; omega) ?_
      refine ⟨rfl, _, rfl, b, _, _, V.str r.1, rfl, rfl, e2', rfl, r.1, rfl, hrm.1, fun H5 s5 => ⟨true, rfl, ?_⟩⟩
      refine iteF ⟨_, rfl, b, _, _, V.str r.1, rfl, rfl, s5.seq e2', rfl, _, rfl, D2, _, rfl, .inl (s5.seq e4), rfl, strs_flat _, _, rfl, ?_⟩
      refine cfalse ?_ ?_
      · show inV (.str r.1) _ = false
        rw [in_strs]
        refine decide_eq_false fun hm2 => ?_
        have hn : (ks ++ ls.map (·.1))[ks.length + j]? = some r.1 := by
          rw [List.getElem?_append_right (by omega), Nat.add_sub_cancel_left, List.getElem?_map, hjr]
          rfl
        have := not_in_take nd hn
        rw [List.take_length_add_append, ← List.map_take] at this
        exact this hm2
      -- check_ends
      have s6 := s4.trans s5
      have hp6 := s6 _ _ hp2
      have et6 := s6 _ _ et
      refine ⟨_, rfl, p, dx, _, rfl, hp6, zip_none (by decide +kernel), _, rfl, b, _, _, V.str r.2.1, rfl, rfl, s6.seq e2, rfl, _, rfl, b, _, _, V.str r.2.2, rfl, rfl, s6.seq e2, rfl, p, dx, l, a, i + j, v3, v4, v5, v6, r.2.1, r.2.2, ns, rfl, hp6, (sH.trans s6).seq hA, hrm.2, ?_⟩
      -- append
      refine ⟨_, rfl, .inl ⟨rfl, _, SqL.of et6⟩, _, rfl, b, _, _, V.str r.1, rfl, rfl, s6.seq e2, rfl, _, rfl, b, _, _, V.str r.2.1, rfl, rfl, s6.seq e2, rfl, _, rfl, b, _, _, V.str r.2.2, rfl, rfl, s6.seq e2, rfl, by show 3 ≤ sizeLine; decide, fun q hq => ?_⟩
      have nqt : t ≠ q := fun e => by rw [← e, et6] at hq; cases hq
      have nqp : p ≠ q := fun e => by rw [← e, hp6] at hq; cases hq
      refine ⟨t, xs, _, rfl, rfl, by rw [upd_ne nqt]; exact et6, small1000 (by omega), ?_⟩
      -- at += 1
      have hp7 : (upd (upd H5 q (.tup [.str r.1, .str r.2.1, .str r.2.2])) t (.lst (xs ++ [.ref q]))) p = some (.ins (aR K) dx (rfs l (i + j) (.ref a) v3 v4 v5 v6)) := by
        rw [upd_ne (Ne.symm ntp), upd_ne nqp]
        exact hp6
      refine ⟨_, rfl, p, aR K, dx, _, _, rfl, hp7, T.clR, T.rN 1 rfl, zip_lookup (i := 1) RN_nd rfl rfl, _, _, rfl, rfl, dx, _, hp7, Nat.lt_of_le_of_lt zip_len (by decide), ?_⟩
      have gq : G2 q = none := (sG2.trans s6).free hq
      refine ⟨_, _, upd G2 q (.tup [.str r.1, .str r.2.1, .str r.2.2]), xs ++ [.ref q], rfl, sGG.knew gq, fun c o e => ?_, by rw [upd_ne nqp]; exact gp2, by rw [upd_ne nqt]; exact gt2, ?_, ?_, ?_⟩
      · have ncp : c ≠ p := fun z => by rw [z, upd_ne nqp, gp2] at e; cases e
        have nct : c ≠ t := fun z => by rw [z, upd_ne nqt, gt2] at e; cases e
        rw [upd_ne ncp, upd_ne nct]
        by_cases hcq : c = q
        · subst hcq; rw [upd_same] at e ⊢; exact e
        · rw [upd_ne hcq] at e ⊢
          exact (sG2.trans s6) c o e
      · rw [upd_same]
        show some (HO.ins (aR K) dx (putF "at" (V.int (((i + j : Nat) : Int) + 1)) _)) = _
        rw [zip_put (i := 1) RN_nd rfl (by show 1 < 7; decide)]
        rfl
      · rw [upd_ne ntp, upd_same]
      · rw [take_succ_map _ _ hjr]
        exact (hR.same (same_up gq)).snoc (SqT.of upd_same)
    · have ej : j = ls.length := by omega
      subst ej
      refine cfalse hend ⟨_, rfl, ?_⟩
      refine k H2 t xs sH hp2 ht et ?_
      have := hR.same sG2
      rw [List.take_length] at this
      exact this
end
end K7

namespace K7
open PySem PySem.Spec PyProof.Rows L2 ClX
section
variable {P : Program} {w : World} {K : PySem.W.Frag} {mg : Str → Option Value} {base : Heap}
/-! ### Reader.take_contacts -/
def spTakeContacts (K : PySem.W.Frag) : Sp := fun vs H Q _ => ∃ (G : Hp) (p dx l a b c e : Addr) (i : Nat) (v5 : V) (W : List (List Str)) (ns sws : List Str) (rels : List Load) (xr : List V) (cons : List Con), vs = [.ref p] ∧
  Same G H ∧ G p = none ∧ G e = none ∧ e ≠ p ∧ H p = some (.ins (aR K) dx (rfs l i (.ref a) (.ref b) (.ref c) v5 (.ref e))) ∧ H e = some (.lst []) ∧ LinesAt K G l W ∧ (∀ ws ∈ W, ws ≠ []) ∧ SqL K G a (ns.map V.str) ∧ G b = some (.lst (sws.map V.str)) ∧ SqL K G c xr ∧ RowsAt K G xr (rels.map load3) ∧
  (∀ (j : Nat) (x : Con), cons[j]? = some x → W[i + j]? = some (conW x)) ∧ headIs W (i + cons.length) "contact" = false ∧ (∀ x ∈ cons, ConOk ns (sws ++ rels.map (·.1)) x) ∧ (∀ z ∈ sws ++ rels.map (·.1), IsNm z) ∧ cons.length ≤ 40 ∧ sws.length ≤ 100 ∧ rels.length ≤ 100 ∧
  ∀ (H' : Hp) (xs : List V), Same G H' → H' p = some (.ins (aR K) dx (rfs l (i + cons.length) (.ref a) (.ref b) (.ref c) v5 (.ref e))) → H' e = some (.lst xs) → RowsAt K H' xs (cons.map con5) → Q .non H'
abbrev nTakeContacts : List Str := ["self", "movers", "words", "word", "one", "other", "mover", "when", "way", "relay"]
theorem scTakeContacts : FnScope nTakeContacts ["self"] (defScope sTakeContacts) := ⟨rfl, rfl, rfl, by decide +kernel, rfl, by decide +kernel, by decide +kernel⟩
theorem ok_take_contacts (T : Tx K mg) (D : Mth K (aR K) "take_contacts" "Reader.take_contacts" sTakeContacts) (cS : C8.Cal P w K mg base 1 "starts" (spStarts K) []) (cE : C8.Met P w K mg base 1 (aR K) "check_ends" (spCheckEnds K) []) :
    C8.Met P w K mg base 2 (aR K) "take_contacts" (spTakeContacts K) [] := by
  obtain ⟨uC, vC⟩ := T.mostC
  refine met_of T.clR D scTakeContacts (fun vs H Q E h => ?_) (fun _ _ _ _ _ _ us hl => match us, hl with | [_], _ => rfl) (fun f cdv A outer s0 H vs Q E hr h => ?_)
  · obtain ⟨G, p, dx, l, a, b, c, e, i, v5, W, ns, sws, rels, xr, cons, rfl, _⟩ := h
    rfl
  · obtain ⟨G, p, dx, l, a, b, c, e, i, v5, W, ns, sws, rels, xr, cons, rfl, sG, gp, ge, nep, hp, he, hL, hne, hA, hB, hC, hC', hW, hend, hok, hnm, h40, hs100, hr100, k⟩ := h
    refine ⟨_, pss_cons (ps_set (i := 1) scTakeContacts.nd rfl (Or.inl rfl) (pe_op op_cat (pe_fld (pv 0) rfl)
          (pe_lc (own := [("relay", 9)]) (g := gName 9) (tt := tYes) (te := tOp (rIxT K) (tVar 9) (tC (.int 0))) rfl scTakeContacts.nd (pi_list (pe_fld (pv 0) rfl)) (blkOk_by (N := nTakeContacts) (sc := defScope sTakeContacts) (by decide +kernel)) (fun _ _ _ _ _ => pg_name (i := 9) scTakeContacts.nd rfl (Or.inl rfl)) (fun _ _ _ _ _ => pts_nil)
            (fun _ _ _ _ _ => pe_ix ix_tup (pv 9) pe_int (fun _ _ => rfl)))))
      (pss_one (ps_while PassesOwn.never (pt_val (C8.pe_c cS hr (by decide) (by rfl) (pa_cons (pe_fld (pv 0) rfl) (pa_cons (pe_fld (pv 0) rfl) (pa_cons pe_str pa_nil)))))
        (pss_cons (ps_set (i := 2) scTakeContacts.nd rfl (Or.inl rfl) (pe_ix ix_list (pe_fld (pv 0) rfl) (pe_fld (pv 0) rfl) (fun _ _ => rfl)))
        (pss_cons (ps_if (PW.pt (pw_or (pt_cmpR op_ne (pe_callB call_len_seq (by rfl) T.len PySem.boot_len (pa_cons (pv 2) pa_nil)) pe_int (nomark _))
            (pw_or1 (pt_cmpR op_eq (pe_callB call_len_seq (by rfl) T.len PySem.boot_len (pa_cons (pe_fld (pv 0) rfl) pa_nil)) (pe_cval (pe_glob (v := .ref (aB K)) rfl T.board rfl)) (nomark _))))) (pss_one ps_never) pss_nil)
        (pss_cons (ps_asg (pv 2) (pg_unl rfl (pgs_cons (pg_name (i := 3) scTakeContacts.nd rfl (Or.inl rfl)) (pgs_cons (pg_name (i := 4) scTakeContacts.nd rfl (Or.inl rfl)) (pgs_cons (pg_name (i := 5) scTakeContacts.nd rfl (Or.inl rfl)) (pgs_cons (pg_name (i := 6) scTakeContacts.nd rfl (Or.inl rfl))
            (pgs_cons (pg_name (i := 7) scTakeContacts.nd rfl (Or.inl rfl)) (pgs_cons (pg_name (i := 8) scTakeContacts.nd rfl (Or.inl rfl)) pgs_nil))))))))
        (pss_cons (ps_expr (C8.pe_mt cE hr (by decide) (pv 0) (pa_cons (pv 4) (pa_cons (pv 5) pa_nil))))
        (pss_cons (ps_if (PW.pt (pw_or (pt_cmpR op_notIn_seq (pv 7) (pe_glob (v := .ref (He.ga K "WHENS")) rfl T.whens rfl) (by rfl)) (pw_or (pt_cmpR op_notIn_seq (pv 8) (pe_glob (v := .ref (He.ga K "WAYS")) rfl T.ways rfl) (by rfl))
            (pw_or1 (PW.pt (pw_and (pt_cmpR op_notIn_seq (pv 6) (pv 1) (by rfl)) (pw_and1 (PW.pt (pw_or (pt_cmpR op_ne (pv 6) pe_str (nomark _)) (pw_or1 (pt_cmpR op_ne (pv 7) pe_str (nomark _)))))))))))) (pss_one ps_never) pss_nil)
        (pss_cons (ps_if (pt_cmpR op_eq (pv 6) pe_str (nomark _)) (pss_one (ps_set (i := 6) scTakeContacts.nd rfl (Or.inl rfl) pe_non)) pss_nil)
        (pss_cons (ps_expr (pe_bm PySem.F.plainAttrs_list PySem.F.slot_list_append PySem.F.type_list_append mt_append (pe_fld (pv 0) rfl) (pa_cons (pe_tup (pa_cons (pv 4) (pa_cons (pv 5) (pa_cons (pv 6) (pa_cons (pv 7) (pa_cons (pv 8) pa_nil)))))) pa_nil)))
        (pss_one (ps_fldaug (pv 0) pe_int in_add))))))))))), ?_⟩
    -- movers
    refine ⟨_, rfl, p, aR K, dx, _, _, rfl, hp, T.clR, T.rN 3 rfl, zip_lookup (i := 3) RN_nd rfl rfl, ?_⟩
    refine rd_firstsL (te := tFld K (tVar 0) "relays") (i := 9) (a := c) (fun R h => ⟨_, rfl, p, aR K, dx, _, _, rfl, hp, T.clR, T.rN 4 rfl, zip_lookup (i := 4) RN_nd rfl rfl, h⟩) (by show 9 < 10; decide) (sG.seq hC) (hC'.same sG) (by rw [hC'.len, List.length_map]; omega) fun D1 H1 hD1 s1 e1 => ?_
    refine ⟨b, D1, _, _, rfl, rfl, (sG.trans s1) _ _ hB, e1, ?_, fun m hm => ?_⟩
    · simp only [List.length_map]
      exact Nat.le_trans (show sws.length + rels.length ≤ 1000 by omega) (by decide)
    rw [← List.map_append]
    have sm0 : Same H (upd H1 m (.lst ((sws ++ rels.map (·.1)).map V.str))) := s1.knew hm
    have hm0 : H m = none := s1.free hm
    have em0 : (upd H1 m (.lst ((sws ++ rels.map (·.1)).map V.str))) m = some (.lst ((sws ++ rels.map (·.1)).map V.str)) := upd_same
    generalize upd H1 m (.lst ((sws ++ rels.map (·.1)).map V.str)) = H2 at sm0 em0 ⊢
    have nmp : m ≠ p := fun z => by rw [z, hp] at hm0; cases hm0
    have nme : m ≠ e := fun z => by rw [z, he] at hm0; cases hm0
    have gm : G m = none := sG.free hm0
    -- the static part: G and the movers
    have sGM : Same G (upd G m (.lst ((sws ++ rels.map (·.1)).map V.str))) := same_up gm
    have sM2 : Same (upd G m (.lst ((sws ++ rels.map (·.1)).map V.str))) H2 := fun x o z => by
      by_cases hx : x = m
      · subst hx; rw [upd_same] at z; rw [em0]; exact z
      · rw [upd_ne hx] at z; exact sm0 _ _ (sG _ _ z)
    have gMp : (upd G m (.lst ((sws ++ rels.map (·.1)).map V.str))) p = none := by rw [upd_ne (Ne.symm nmp)]; exact gp
    have gMe : (upd G m (.lst ((sws ++ rels.map (·.1)).map V.str))) e = none := by rw [upd_ne (Ne.symm nme)]; exact ge
    have hM : SqL K (upd G m (.lst ((sws ++ rels.map (·.1)).map V.str))) m ((sws ++ rels.map (·.1)).map V.str) := SqL.of upd_same
    generalize upd G m (.lst ((sws ++ rels.map (·.1)).map V.str)) = GM at sGM sM2 gMp gMe hM
    refine ⟨fun mm σ H3 => ∃ (j : Nat) (w2 w3 w4 w5 w6 w7 w8 : Option V) (G2 : Hp) (xs : List V), mm = cons.length - j ∧ j ≤ cons.length ∧ σ = [some (.ref p), some (.ref m), w2, w3, w4, w5, w6, w7, w8, none] ∧
      Same GM G2 ∧ Same G2 H3 ∧ G2 p = none ∧ G2 e = none ∧ H3 p = some (.ins (aR K) dx (rfs l (i + j) (.ref a) (.ref b) (.ref c) v5 (.ref e))) ∧ H3 e = some (.lst xs) ∧ RowsAt K G2 xs ((cons.take j).map con5),
      ⟨_, 0, none, none, none, none, none, none, none, GM, [], rfl, Nat.zero_le _, rfl, Same.refl _, sM2, gMp, gMe, sm0 _ _ hp, sm0 _ _ he, RowsAt.nil⟩, ?_⟩
    rintro mm σ H3 ⟨j, w2, w3, w4, w5, w6, w7, w8, G2, xs, rfl, hj, rfl, sMG, sG2, gp2, ge2, hp3, he3, hR⟩
    have sGG := sGM.trans sMG
    have sH := sGG.trans sG2
    have hL2 := hL.same sH
    refine ⟨_, rfl, p, aR K, dx, _, _, rfl, hp3, T.clR, T.rN 0 rfl, zip_lookup (i := 0) RN_nd rfl rfl, _, rfl, p, aR K, dx, _, _, rfl, hp3, T.clR, T.rN 1 rfl, zip_lookup (i := 1) RN_nd rfl rfl, l, i + j, "contact", W, rfl, hL2, hne, _, rfl, ?_⟩
    have hxs : xs.length = j := by
      rw [hR.len, List.length_map, List.length_take]
      omega
    rcases Nat.lt_or_ge j cons.length with hlt | hge
    · obtain ⟨x, hjx⟩ : ∃ x, cons[j]? = some x := ⟨cons[j], List.getElem?_eq_getElem hlt⟩
      have hWj := hW j x hjx
      have hx := hok x (List.mem_of_getElem? hjx)
      refine ctrue (by unfold headIs; rw [hWj]; exact decide_eq_true rfl) ?_
      refine ⟨fun σ' H' => ∃ (w2 w3 w4 w5 w6 w7 w8 : Option V) (G2 : Hp) (xs : List V), σ' = [some (.ref p), some (.ref m), w2, w3, w4, w5, w6, w7, w8, none] ∧
        Same GM G2 ∧ Same G2 H' ∧ G2 p = none ∧ G2 e = none ∧ H' p = some (.ins (aR K) dx (rfs l (i + (j + 1)) (.ref a) (.ref b) (.ref c) v5 (.ref e))) ∧ H' e = some (.lst xs) ∧ RowsAt K G2 xs ((cons.take (j + 1)).map con5),
        fun σ' H' ⟨w2, w3, w4, w5, w6, w7, w8, G2, xs, h⟩ => ⟨cons.length - (j + 1), by omega, j + 1, w2, w3, w4, w5, w6, w7, w8, G2, xs, rfl, hlt, h⟩, ?_⟩
      obtain ⟨rows, hrx, hrl, hrow⟩ := hL2.ex
      obtain ⟨u, e1, e2⟩ := hrow (i + j) _ hWj
      refine ⟨_, rfl, p, aR K, dx, _, _, rfl, hp3, T.clR, T.rN 0 rfl, zip_lookup (i := 0) RN_nd rfl rfl, _, rfl, p, aR K, dx, _, _, rfl, hp3, T.clR, T.rN 1 rfl, zip_lookup (i := 1) RN_nd rfl rfl, l, _, _, _, rfl, rfl, hrx, atI_nat e1, ?_⟩
      refine ⟨_, rfl, u, _, rfl, .inl e2, rfl, _, rfl, ?_⟩
      refine iteNS rfl ⟨_, rfl, p, aR K, dx, _, _, rfl, hp3, T.clR, T.rN 6 rfl, zip_lookup (i := 6) RN_nd rfl rfl, e, _, rfl, .inl (SqL.of he3), _, _, _, _, rfl, T.rdB, vC, rfl, _, rfl, ?_⟩
      refine iteDN (by rw [hxs]; intro z; have := V.int.inj z; omega) ?_
      refine ⟨_, rfl, u, _, rfl, e2, rfl, _, _, rfl, _, _, rfl, _, _, rfl, _, _, rfl, _, _, rfl, _, _, rfl, rfl, ?_⟩
      refine ⟨_, rfl, p, dx, _, rfl, hp3, zip_none (by decide +kernel), _, rfl, _, rfl, p, dx, l, a, i + j, _, _, _, _, x.one, x.other, ns, rfl, hp3, sH.seq hA, hx.ends, ?_⟩
      refine ⟨_, rfl, _, _, rfl, .inr (T.whensT _), rfl, rfl, _, rfl, ?_⟩
      refine cfalse (show (!inV (.str x.whn) _) = false by rw [in_two hx.whn]; rfl) ⟨_, rfl, _, _, rfl, .inr (T.waysT _), rfl, rfl, _, rfl, ?_⟩
      refine cfalse (show (!inV (.str x.way) _) = false by rw [in_two hx.way]; rfl) ?_
      refine ⟨_, rfl, _, rfl, m, _, rfl, .inl ((sMG.trans sG2).seq hM), rfl, strs_flat _, _, rfl, ?_⟩
      have hin : inV (.str (movW x.mov)) ((sws ++ rels.map (·.1)).map V.str) = decide (movW x.mov ∈ sws ++ rels.map (·.1)) := in_strs _ _
      -- what follows the test
      have rest : ∀ (xs' : List V) (v6 : V), v6 = movV x.mov → ∀ (D1 : Ends), D1.nx = (fun σ' H' => ∃ (w2 w3 w4 w5 w6 w7 w8 : Option V) (G2 : Hp) (xs : List V), σ' = [some (.ref p), some (.ref m), w2, w3, w4, w5, w6, w7, w8, none] ∧
          Same GM G2 ∧ Same G2 H' ∧ G2 p = none ∧ G2 e = none ∧ H' p = some (.ins (aR K) dx (rfs l (i + (j + 1)) (.ref a) (.ref b) (.ref c) v5 (.ref e))) ∧ H' e = some (.lst xs) ∧ RowsAt K G2 xs ((cons.take (j + 1)).map con5)) →
          (tSeq (tDrop (tBM K "list" rAppend (tFld K (tVar 0) "contacts") (tCons (tTup (tCons (tVar 4) (tCons (tVar 5) (tCons (tVar 6) (tCons (tVar 7) (tCons (tVar 8) tNil)))))) tNil))) (sFldAug K (tVar 0) (tC (.int 1)) rAdd "at")) D1
            [some (.ref p), some (.ref m), some (.ref u), some (.str "contact"), some (.str x.one), some (.str x.other), some v6, some (.str x.whn), some (.str x.way), none] H3 := by
        intro _ v6 ev D1 eD
        refine ⟨_, rfl, p, aR K, dx, _, _, rfl, hp3, T.clR, T.rN 6 rfl, zip_lookup (i := 6) RN_nd rfl rfl, .inl ⟨rfl, _, SqL.of he3⟩, _, rfl, _, rfl, _, rfl, _, rfl, _, rfl, by show 5 ≤ sizeLine; decide, fun q hq => ?_⟩
        have nqe : e ≠ q := fun z => by rw [← z, he3] at hq; cases hq
        have nqp : p ≠ q := fun z => by rw [← z, hp3] at hq; cases hq
        refine ⟨e, xs, _, rfl, rfl, by rw [upd_ne nqe]; exact he3, small1000 (by omega), ?_⟩
        have hp7 : (upd (upd H3 q (.tup [.str x.one, .str x.other, v6, .str x.whn, .str x.way])) e (.lst (xs ++ [.ref q]))) p = some (.ins (aR K) dx (rfs l (i + j) (.ref a) (.ref b) (.ref c) v5 (.ref e))) := by
          rw [upd_ne (Ne.symm nep), upd_ne nqp]
          exact hp3
        refine ⟨_, rfl, p, aR K, dx, _, _, rfl, hp7, T.clR, T.rN 1 rfl, zip_lookup (i := 1) RN_nd rfl rfl, _, _, rfl, rfl, dx, _, hp7, Nat.lt_of_le_of_lt zip_len (by decide), ?_⟩
        rw [eD]
        have gq : G2 q = none := sG2.free hq
        refine ⟨_, _, _, _, _, _, _, upd G2 q (.tup [.str x.one, .str x.other, v6, .str x.whn, .str x.way]), xs ++ [.ref q], rfl, sMG.knew gq, fun c o z => ?_, by rw [upd_ne nqp]; exact gp2, by rw [upd_ne nqe]; exact ge2, ?_, ?_, ?_⟩
        · have ncp : c ≠ p := fun y => by rw [y, upd_ne nqp, gp2] at z; cases z
          have nce : c ≠ e := fun y => by rw [y, upd_ne nqe, ge2] at z; cases z
          rw [upd_ne ncp, upd_ne nce]
          by_cases hcq : c = q
          · subst hcq; rw [upd_same] at z ⊢; exact z
          · rw [upd_ne hcq] at z ⊢
            exact sG2 c o z
        · rw [upd_same]
          show some (HO.ins (aR K) dx (putF "at" (V.int (((i + j : Nat) : Int) + 1)) _)) = _
          rw [zip_put (i := 1) RN_nd rfl (by show 1 < 7; decide)]
          rfl
        · rw [upd_ne nep, upd_same]
        · rw [take_succ_map _ _ hjx, ev]
          have := (hR.same (same_up (o := .tup (con5 x)) gq)).snoc (SqT.of (upd_same (H := G2) (a := q) (o := .tup (con5 x))))
          exact this
      cases hv : x.mov with
      | none =>
        have hw := hx.wire hv
        have hno : (movW x.mov) ∉ sws ++ rels.map (·.1) := fun hm2 => by
          rw [hv] at hm2
          exact (hnm _ hm2).ne_dash rfl
        refine ctrue (show (!inV (.str (movW none)) _) = true by rw [← hv, hin, decide_eq_false hno]; rfl) ?_
        refine ⟨_, rfl, rfl, _, rfl, ?_⟩
        refine iteNS rfl ⟨_, rfl, rfl, _, rfl, ?_⟩
        refine iteNS (congrArg V.str hw) ?_
        refine ⟨_, rfl, rfl, _, rfl, ?_⟩
        refine iteD rfl ?_
        exact rest [] .non (by rw [hv]; rfl) _ rfl
      | some y =>
        have hin2 : (movW x.mov) ∈ sws ++ rels.map (·.1) := by rw [hv]; exact hx.mov y hv
        refine cfalse (show (!inV (.str (movW (some y))) _) = false by rw [← hv, hin, decide_eq_true hin2]; rfl) ?_
        refine ⟨_, rfl, rfl, _, rfl, ?_⟩
        have hyd : y ≠ "-" := (hnm y (hx.mov y hv)).ne_dash
        refine cfalse (str_ne hyd) ?_
        exact rest [] (.str y) (by rw [hv]; rfl) _ rfl
    · have ej : j = cons.length := by omega
      subst ej
      refine cfalse hend ?_
      have h5 := hR.same sG2
      rw [List.take_length] at h5
      exact k H3 xs sH hp3 he3 h5
end
end K7

namespace K7
open PySem PySem.Spec PyProof.Rows L2 ClX
theorem del_upd {H : Hp} {p : Addr} {o : HO} : del (upd H p o) p = del H p := by
  funext b
  by_cases h : b = p
  · subst h; rw [del_self, del_self]
  · rw [del_ne h, del_ne h, upd_ne h]
theorem del_tupL {K : PySem.W.Frag} {H : Hp} {e a : Addr} {ys xs : List V} (h : SqT K H a xs) (he : H e = some (.lst ys)) : SqT K (del H e) a xs := by
  rcases h with (h | ⟨o, h⟩) | h
  · exact .inl (.inl (by rw [del_ne (ne_of h he (by intro z; cases z))]; exact h))
  · exact .inl (.inr ⟨o, by rw [del_ne (ne_of h he (by intro z; cases z))]; exact h⟩)
  · exact .inr h
theorem del_rowsL {K : PySem.W.Frag} {H : Hp} {e : Addr} {ys xs : List V} {rows : List (List V)} (h : RowsAt K H xs rows) (he : H e = some (.lst ys)) : RowsAt K (del H e) xs rows :=
  ⟨h.len, fun i r q => let ⟨a, e1, e2⟩ := h.at_ i r q; ⟨a, e1, del_tupL e2 he⟩⟩
/-! ### the lines by their places -/
theorem W_rel {B : Parts} {j : Nat} {r : Load} (h : B.rels[j]? = some r) : (wordsOf B)[2 + j]? = some (relW r) := by
  have hj := (List.getElem?_eq_some_iff.mp h).1
  rw [Nat.add_comm]
  show (B.rels.map relW ++ _)[j]? = _
  rw [List.getElem?_append_left (by rw [List.length_map]; exact hj), List.getElem?_map, h]
  rfl
theorem W_lam {B : Parts} {j : Nat} {r : Load} (h : B.lams[j]? = some r) : (wordsOf B)[2 + B.rels.length + j]? = some (lamW r) := by
  have hj := (List.getElem?_eq_some_iff.mp h).1
  rw [show 2 + B.rels.length + j = B.rels.length + j + 2 by omega]
  show (B.rels.map relW ++ (B.lams.map lamW ++ _))[B.rels.length + j]? = _
  rw [List.getElem?_append_right (by rw [List.length_map]; omega), List.length_map, Nat.add_sub_cancel_left, List.getElem?_append_left (by rw [List.length_map]; exact hj), List.getElem?_map, h]
  rfl
theorem W_con {B : Parts} {j : Nat} {c : Con} (h : B.cons[j]? = some c) : (wordsOf B)[2 + B.rels.length + B.lams.length + j]? = some (conW c) := by
  rw [show 2 + B.rels.length + B.lams.length + j = B.rels.length + (B.lams.length + j) + 2 by omega]
  show (B.rels.map relW ++ (B.lams.map lamW ++ B.cons.map conW))[B.rels.length + (B.lams.length + j)]? = _
  rw [List.getElem?_append_right (by rw [List.length_map]; omega), List.length_map, Nat.add_sub_cancel_left, List.getElem?_append_right (by rw [List.length_map]; omega), List.length_map, Nat.add_sub_cancel_left, List.getElem?_map, h]
  rfl
theorem W_end {B : Parts} : (wordsOf B)[2 + B.rels.length + B.lams.length + B.cons.length]? = none := by
  rw [List.getElem?_eq_none_iff, words_len]
  omega
theorem end_rel {B : Parts} (G : Good B) : headIs (wordsOf B) (2 + B.rels.length) "relay" = false := by
  have h1 := G.l1
  have h : B.lams[0]? = some B.lams[0] := List.getElem?_eq_getElem h1
  have := W_lam h
  unfold headIs
  rw [Nat.add_zero] at this
  rw [this]
  show decide (("lamp" : Str) = "relay") = false
  decide +kernel
theorem end_lam {B : Parts} : headIs (wordsOf B) (2 + B.rels.length + B.lams.length) "lamp" = false := by
  unfold headIs
  cases e : B.cons[0]? with
  | none =>
    have hl : B.cons.length = 0 := Nat.le_zero.mp (List.getElem?_eq_none_iff.mp e)
    have := W_end (B := B)
    rw [hl, Nat.add_zero] at this
    rw [this]
  | some c =>
    have := W_con e
    rw [Nat.add_zero] at this
    rw [this]
    show decide (("contact" : Str) = "lamp") = false
    decide +kernel
theorem end_con {B : Parts} : headIs (wordsOf B) (2 + B.rels.length + B.lams.length + B.cons.length) "contact" = false := by
  unfold headIs
  rw [W_end]
theorem Good.wne {B : Parts} (G : Good B) : ∀ ws ∈ wordsOf B, ws ≠ [] := fun ws h => (G.lines ws h).ne
section
variable {P : Program} {w : World} {K : PySem.W.Frag} {mg : Str → Option Value} {base : Heap}
/-! ### Reader.__init__ -/
def spRInit (K : PySem.W.Frag) : Sp := fun vs H Q _ => ∃ (p dx : Addr) (B : Parts), vs = [.ref p, .str (textOf B)] ∧ H p = some (.ins (aR K) dx []) ∧ Good B ∧
  ∀ (G H' : Hp) (l a b c d e : Addr), Same (del H p) G → Same G H' → G p = none → G e = none → e ≠ p → LinesAt K G l (wordsOf B) → H' p = some (.ins (aR K) dx (rfs l 0 (.ref a) (.ref b) (.ref c) (.ref d) (.ref e))) → H' e = some (.lst []) → Q .non H'
theorem scRInit : FnScope ["self", "text", "line"] ["self", "text"] (defScope sRInit) := ⟨rfl, rfl, rfl, by decide +kernel, rfl, by decide +kernel, by decide +kernel⟩
theorem len1 {z : Str} (h : z.length = 1) : (z.length == 0) = false := by rw [h]; rfl
theorem ok_r_init {f : Addr} {fd : FuncData} (T : Tx K mg) (F : Fun K "__init__" "Reader.__init__" sRInit f fd) : FnOk P w K mg base CX0 1 f fd ["self", "text"] (spRInit K) := by
  refine F.ok scRInit (fun vs H Q E h => ?_) (fun cdv A outer s0 H vs Q E hr h => ?_)
  · obtain ⟨p, dx, B, rfl, _⟩ := h
    rfl
  · obtain ⟨p, dx, B, rfl, hp, hG, k⟩ := h
    refine ⟨_, pss_cons (ps_fld (pv 0) (pe_lc (own := [("line", 2)]) (g := gName 2) (tt := tYes) rfl scRInit.nd (pi_list (pe_split (pv 1) pe_str)) (blkOk_by (N := ["self", "text", "line"]) (sc := defScope sRInit) (by decide +kernel)) (fun _ _ _ _ _ => pg_name (i := 2) scRInit.nd rfl (Or.inl rfl)) (fun _ _ _ _ _ => pts_nil)
          (fun _ _ _ _ _ => pe_split (pv 2) pe_str)) rfl)
      (pss_cons (ps_fld (pv 0) pe_int rfl) (pss_cons (ps_fld (pv 0) (pe_lst pa_nil) rfl) (pss_cons (ps_fld (pv 0) (pe_lst pa_nil) rfl) (pss_cons (ps_fld (pv 0) (pe_lst pa_nil) rfl) (pss_cons (ps_fld (pv 0) (pe_lst pa_nil) rfl) (pss_one (ps_fld (pv 0) (pe_lst pa_nil) rfl))))))), ?_⟩
    have htl := hG.text_le
    refine ⟨_, rfl, ⟨_, rfl⟩, textOf B, "\n", rfl, rfl, len1 len_nl, Nat.le_trans (show (textOf B).length + 2 ≤ 20000 by omega) (by decide), fun q hq => ?_⟩
    rw [hG.split]
    refine ⟨q, rfl, ⟨_, SqL.of upd_same⟩, fun D hD => lc_list (K := K) (a := q) (xs := (linesOf B).map V.str) (fun j H2 => Same H H2 ∧ H2 q = some (.lst ((linesOf B).map V.str)) ∧ H q = none ∧ H D = none ∧ ∃ xs : List V, H2 D = some (.lst xs) ∧ xs.length = j ∧ j ≤ (linesOf B).length ∧
      ∀ (i : Nat) (ws : List Str), i < j → (wordsOf B)[i]? = some ws → ∃ a, xs[i]? = some (.ref a) ∧ a ≠ D ∧ a ≠ p ∧ H2 a = some (.lst (ws.map V.str))) ?_ ?_ ?_ ?_⟩
    · have nqD : q ≠ D := fun z => by rw [← z, upd_same] at hD; cases hD
      have hD2 : H D = none := (same_up hq).free hD
      exact ⟨(same_up hq).kput hD2, by rw [upd_ne nqD]; exact upd_same, hq, hD2, [], upd_same, rfl, Nat.zero_le _, fun i ws h => absurd h (Nat.not_lt_zero _)⟩
    · rintro j H2 _ ⟨_, e, _⟩
      exact SqL.of e
    · rintro j x H2 hj ⟨s2, eq2, hq0, hD0, xs, eD, hxl, hjl, hrow⟩
      obtain ⟨z, hz, rfl⟩ := strs_get hj
      have hlt : j < (linesOf B).length := (List.getElem?_eq_some_iff.mp hz).1
      obtain ⟨ws, hws, rfl⟩ : ∃ ws, (wordsOf B)[j]? = some ws ∧ z = lineOf ws := by
        unfold linesOf at hz
        rw [List.getElem?_map] at hz
        cases q : (wordsOf B)[j]? with
        | none => rw [q] at hz; cases hz
        | some ws => rw [q] at hz; exact ⟨ws, rfl, (Option.some.inj hz).symm⟩
      have lok := hG.lines ws (List.mem_of_getElem? hws)
      refine ⟨rfl, ?_⟩
      refine ⟨_, rfl, ⟨_, rfl⟩, lineOf ws, " ", rfl, rfl, len1 len_sp, Nat.le_trans (show (lineOf ws).length + 2 ≤ 1000 by have := lok.le; omega) (by decide), fun b hb => ?_⟩
      rw [lok.split]
      have nbD : b ≠ D := fun z => by rw [z, eD] at hb; cases hb
      have nbp : b ≠ p := fun z => by rw [z, s2 _ _ hp] at hb; cases hb
      have nbq : b ≠ q := fun z => by rw [z, eq2] at hb; cases hb
      have nqD : q ≠ D := fun z => by rw [z, eD] at eq2; have := HO.lst.inj (Option.some.inj eq2); rw [this, List.length_map] at hxl; omega
      refine ⟨xs, by rw [upd_ne (Ne.symm nbD)]; exact eD, small1000 (by have := hG.few; unfold linesOf at hjl; rw [List.length_map] at hjl; omega), (s2.knew hb).kput hD0, by rw [upd_ne nqD, upd_ne (Ne.symm nbq)]; exact eq2, hq0, hD0, xs ++ [.ref b], upd_same, by rw [List.length_append, hxl]; rfl, hlt, fun i ws' hi hw => ?_⟩
      rcases Nat.lt_or_ge i j with h | h
      · obtain ⟨a, e1, e2, e3, e4⟩ := hrow i ws' h hw
        refine ⟨a, by rw [List.getElem?_append_left (by omega)]; exact e1, e2, e3, ?_⟩
        have nab : a ≠ b := fun z => by rw [z, hb] at e4; cases e4
        rw [upd_ne e2, upd_ne nab]
        exact e4
      · have : i = j := by omega
        subst this
        rw [hws] at hw
        have e := Option.some.inj hw
        subst e
        refine ⟨b, by rw [← hxl]; simp, nbD, nbp, ?_⟩
        rw [upd_ne nbD, upd_same]
    · rintro H2 ⟨s2, eq2, hq0, hD0, xs, eD, hxl, hjl, hrow⟩
      have hp2 := s2 _ _ hp
      have nDp : D ≠ p := fun z => by rw [z, hp] at hD0; cases hD0
      have hL : LinesAt K (del H2 p) D (wordsOf B) := by
        refine ⟨xs, SqL.of (by rw [del_ne nDp]; exact eD), by rw [hxl]; unfold linesOf; rw [List.length_map, List.length_map], fun i ws hw => ?_⟩
        have hi : i < (wordsOf B).length := (List.getElem?_eq_some_iff.mp hw).1
        obtain ⟨a, e1, e2, e3, e4⟩ := hrow i ws (by unfold linesOf; rw [List.length_map, List.length_map]; exact hi) hw
        exact ⟨a, e1, SqL.of (by rw [del_ne e3]; exact e4)⟩
      -- the fields
      have sG : Same (del H p) (del H2 p) := same_del (del_same.trans s2) del_self
      refine ⟨_, rfl, p, aR K, dx, [], rfl, hp2, T.clR, T.rN 0 rfl, by show 0 < 1000; decide, ?_⟩
      rw [show putF ("lines" : Str) (V.ref D) [] = RN.zip [.ref D] from zip_new (vals := []) RN_nd rfl]
      have f1 : Same (del H2 p) (upd H2 p (.ins (aR K) dx (RN.zip [.ref D]))) := del_same.kput del_self
      refine ⟨_, rfl, p, aR K, dx, _, rfl, upd_same, T.clR, T.rN 1 rfl, Nat.lt_of_le_of_lt zip_len (by decide), ?_⟩
      rw [upd_upd, show putF ("at" : Str) (V.int 0) (RN.zip [.ref D]) = RN.zip [.ref D, .int 0] from zip_new (vals := [.ref D]) RN_nd rfl]
      have f2 : Same (del H2 p) (upd H2 p (.ins (aR K) dx (RN.zip [.ref D, .int 0]))) := del_same.kput del_self
      have hp3 : (upd H2 p (.ins (aR K) dx (RN.zip [.ref D, .int 0]))) p = some (.ins (aR K) dx (RN.zip [.ref D, .int 0])) := upd_same
      have nG : (del H2 p) p = none := del_self
      generalize upd H2 p (.ins (aR K) dx (RN.zip [.ref D, .int 0])) = H3 at f2 hp3 ⊢
      generalize del H2 p = G0 at sG hL f2 nG
      refine ⟨Nat.zero_le _, fun q1 hq1 => ?_⟩
      obtain ⟨G1, a1, b1, c1, d1, e1⟩ := fld_step (o := .lst []) f2 nG hp3 hq1
      refine ⟨_, rfl, p, aR K, dx, _, rfl, by rw [upd_ne (Ne.symm d1)]; exact hp3, T.clR, T.rN 2 rfl, Nat.lt_of_le_of_lt zip_len (by decide), ?_⟩
      rw [show putF ("nodes" : Str) (V.ref q1) (RN.zip [.ref D, .int 0]) = RN.zip [.ref D, .int 0, .ref q1] from zip_new (vals := [.ref D, .int 0]) RN_nd rfl]
      have f3 := e1 (.ins (aR K) dx (RN.zip [.ref D, .int 0, .ref q1]))
      have hp4 : (upd (upd H3 q1 (.lst [])) p (.ins (aR K) dx (RN.zip [.ref D, .int 0, .ref q1]))) p = some (.ins (aR K) dx (RN.zip [.ref D, .int 0, .ref q1])) := upd_same
      generalize upd (upd H3 q1 (.lst [])) p (.ins (aR K) dx (RN.zip [.ref D, .int 0, .ref q1])) = H4 at f3 hp4 ⊢
      refine ⟨Nat.zero_le _, fun q2 hq2 => ?_⟩
      obtain ⟨G2, a2, b2, c2, d2, e2⟩ := fld_step (o := .lst []) f3 c1 hp4 hq2
      refine ⟨_, rfl, p, aR K, dx, _, rfl, by rw [upd_ne (Ne.symm d2)]; exact hp4, T.clR, T.rN 3 rfl, Nat.lt_of_le_of_lt zip_len (by decide), ?_⟩
      rw [show putF ("switches" : Str) (V.ref q2) (RN.zip [.ref D, .int 0, .ref q1]) = RN.zip [.ref D, .int 0, .ref q1, .ref q2] from zip_new (vals := [.ref D, .int 0, .ref q1]) RN_nd rfl]
      have f4 := e2 (.ins (aR K) dx (RN.zip [.ref D, .int 0, .ref q1, .ref q2]))
      have hp5 : (upd (upd H4 q2 (.lst [])) p (.ins (aR K) dx (RN.zip [.ref D, .int 0, .ref q1, .ref q2]))) p = some (.ins (aR K) dx (RN.zip [.ref D, .int 0, .ref q1, .ref q2])) := upd_same
      generalize upd (upd H4 q2 (.lst [])) p (.ins (aR K) dx (RN.zip [.ref D, .int 0, .ref q1, .ref q2])) = H5 at f4 hp5 ⊢
      refine ⟨Nat.zero_le _, fun q3 hq3 => ?_⟩
      obtain ⟨G3, a3, b3, c3, d3, e3⟩ := fld_step (o := .lst []) f4 c2 hp5 hq3
      refine ⟨_, rfl, p, aR K, dx, _, rfl, by rw [upd_ne (Ne.symm d3)]; exact hp5, T.clR, T.rN 4 rfl, Nat.lt_of_le_of_lt zip_len (by decide), ?_⟩
      rw [show putF ("relays" : Str) (V.ref q3) (RN.zip [.ref D, .int 0, .ref q1, .ref q2]) = RN.zip [.ref D, .int 0, .ref q1, .ref q2, .ref q3] from zip_new (vals := [.ref D, .int 0, .ref q1, .ref q2]) RN_nd rfl]
      have f5 := e3 (.ins (aR K) dx (RN.zip [.ref D, .int 0, .ref q1, .ref q2, .ref q3]))
      have hp6 : (upd (upd H5 q3 (.lst [])) p (.ins (aR K) dx (RN.zip [.ref D, .int 0, .ref q1, .ref q2, .ref q3]))) p = some (.ins (aR K) dx (RN.zip [.ref D, .int 0, .ref q1, .ref q2, .ref q3])) := upd_same
      generalize upd (upd H5 q3 (.lst [])) p (.ins (aR K) dx (RN.zip [.ref D, .int 0, .ref q1, .ref q2, .ref q3])) = H6 at f5 hp6 ⊢
      refine ⟨Nat.zero_le _, fun q4 hq4 => ?_⟩
      obtain ⟨G4, a4, b4, c4, d4, e4⟩ := fld_step (o := .lst []) f5 c3 hp6 hq4
      refine ⟨_, rfl, p, aR K, dx, _, rfl, by rw [upd_ne (Ne.symm d4)]; exact hp6, T.clR, T.rN 5 rfl, Nat.lt_of_le_of_lt zip_len (by decide), ?_⟩
      rw [show putF ("lamps" : Str) (V.ref q4) (RN.zip [.ref D, .int 0, .ref q1, .ref q2, .ref q3]) = RN.zip [.ref D, .int 0, .ref q1, .ref q2, .ref q3, .ref q4] from zip_new (vals := [.ref D, .int 0, .ref q1, .ref q2, .ref q3]) RN_nd rfl]
      have f6 := e4 (.ins (aR K) dx (RN.zip [.ref D, .int 0, .ref q1, .ref q2, .ref q3, .ref q4]))
      have hp7 : (upd (upd H6 q4 (.lst [])) p (.ins (aR K) dx (RN.zip [.ref D, .int 0, .ref q1, .ref q2, .ref q3, .ref q4]))) p = some (.ins (aR K) dx (RN.zip [.ref D, .int 0, .ref q1, .ref q2, .ref q3, .ref q4])) := upd_same
      generalize upd (upd H6 q4 (.lst [])) p (.ins (aR K) dx (RN.zip [.ref D, .int 0, .ref q1, .ref q2, .ref q3, .ref q4])) = H7 at f6 hp7 ⊢
      refine ⟨Nat.zero_le _, fun q5 hq5 => ?_⟩
      obtain ⟨G5, a5, b5, c5, d5, e5⟩ := fld_step (o := .lst []) f6 c4 hp7 hq5
      refine ⟨_, rfl, p, aR K, dx, _, rfl, by rw [upd_ne (Ne.symm d5)]; exact hp7, T.clR, T.rN 6 rfl, Nat.lt_of_le_of_lt zip_len (by decide), ?_⟩
      rw [show putF ("contacts" : Str) (V.ref q5) (RN.zip [.ref D, .int 0, .ref q1, .ref q2, .ref q3, .ref q4]) = RN.zip [.ref D, .int 0, .ref q1, .ref q2, .ref q3, .ref q4, .ref q5] from zip_new (vals := [.ref D, .int 0, .ref q1, .ref q2, .ref q3, .ref q4]) RN_nd rfl]
      have y4 : Same G0 G4 := ((a1.trans a2).trans a3).trans a4
      exact k G4 _ D q1 q2 q3 q4 q5 (sG.trans y4) (a5.trans (e5 _)) c4 (f6.free hq5) d5 (hL.same y4) upd_same (by rw [upd_ne d5]; exact upd_same)
end
end K7

namespace K7
open PySem PySem.Spec PyProof.Rows L2 ClX
section
variable {K : PySem.W.Frag} {l p dx C : Addr} {i : Nat} {v2 v3 v4 v5 v6 x : V}
theorem put2 : putF ("nodes" : Str) x (rfs l i v2 v3 v4 v5 v6) = rfs l i x v3 v4 v5 v6 := zip_put (i := 2) RN_nd rfl (by show 2 < 7; decide)
theorem put3 : putF ("switches" : Str) x (rfs l i v2 v3 v4 v5 v6) = rfs l i v2 x v4 v5 v6 := zip_put (i := 3) RN_nd rfl (by show 3 < 7; decide)
theorem put4 : putF ("relays" : Str) x (rfs l i v2 v3 v4 v5 v6) = rfs l i v2 v3 x v5 v6 := zip_put (i := 4) RN_nd rfl (by show 4 < 7; decide)
theorem put5 : putF ("lamps" : Str) x (rfs l i v2 v3 v4 v5 v6) = rfs l i v2 v3 v4 x v6 := zip_put (i := 5) RN_nd rfl (by show 5 < 7; decide)
end
/-- beside p, behind a call and a store of p -/
theorem stepG {H H1 : Hp} {p : Addr} {o : HO} (s : Same (del H p) H1) : Same (del H p) (del (upd H1 p o) p) := by
  rw [del_upd]
  exact same_del s del_self
section
variable {P : Program} {w : World} {K : PySem.W.Frag} {mg : Str → Option Value} {base : Heap}
/-! ### Reader.read -/
def spRead (K : PySem.W.Frag) : Sp := fun vs H Q _ => ∃ (G : Hp) (p dx l e : Addr) (v2 v3 v4 v5 : V) (B : Parts), vs = [.ref p] ∧ Same G H ∧ G p = none ∧ G e = none ∧ e ≠ p ∧ H p = some (.ins (aR K) dx (rfs l 0 v2 v3 v4 v5 (.ref e))) ∧ H e = some (.lst []) ∧ LinesAt K G l (wordsOf B) ∧ Good B ∧
  ∀ (H' : Hp) (n a b c d : Addr) (i : Nat) (xr xl xc : List V), Same G H' → H' p = some (.ins (aR K) dx (rfs l i (.ref a) (.ref b) (.ref c) (.ref d) (.ref e))) → H' a = some (.lst (B.nodes.map V.str)) → H' b = some (.lst (B.sws.map V.str)) →
    H' c = some (.lst xr) → RowsAt K H' xr (B.rels.map load3) → H' d = some (.lst xl) → RowsAt K H' xl (B.lams.map load3) → H' e = some (.lst xc) → RowsAt K H' xc (B.cons.map con5) → Q .non H'
theorem scRead : FnScope ["self"] ["self"] (defScope sRead) := ⟨rfl, rfl, rfl, by decide +kernel, rfl, by decide +kernel, by decide +kernel⟩
theorem ok_read (T : Tx K mg) (D : Mth K (aR K) "read" "Reader.read" sRead) (cT : MetK P w K mg base 3 (aR K) "take_names" 2 ["least", "most"] (fun us ws => us ++ ws) (spTakeNames K)) (cL : C8.Met P w K mg base 2 (aR K) "take_loads" (spTakeLoads K) [])
    (cC : C8.Met P w K mg base 2 (aR K) "take_contacts" (spTakeContacts K) []) : C8.Met P w K mg base 4 (aR K) "read" (spRead K) [] := by
  obtain ⟨uN, vN⟩ := T.mostN
  obtain ⟨uS, vS⟩ := T.mostS
  obtain ⟨uR, vR⟩ := T.mostR
  obtain ⟨uL, vL⟩ := T.mostL
  refine met_of T.clR D scRead (fun vs H Q E h => ?_) (fun _ _ _ _ _ _ us hl => match us, hl with | [_], _ => rfl) (fun f cdv A outer s0 H vs Q E hr h => ?_)
  · obtain ⟨G, p, dx, l, e, v2, v3, v4, v5, B, rfl, _⟩ := h
    rfl
  · obtain ⟨G, p, dx, l, e, v2, v3, v4, v5, B, rfl, sG, gp, ge, nep, hp, he, hL, hB, k⟩ := h
    refine ⟨_, pss_cons (ps_fld (pv 0) (pe_mk2 cT hr (by decide) (pv 0) (pa_cons pe_str pa_nil) (pk_cons pe_int (pk_cons (pe_cval (pe_glob (v := .ref (aB K)) rfl T.board rfl)) pk_nil))) rfl)
      (pss_cons (ps_fld (pv 0) (pe_mk2 cT hr (by decide) (pv 0) (pa_cons pe_str pa_nil) (pk_cons pe_int (pk_cons (pe_cval (pe_glob (v := .ref (aB K)) rfl T.board rfl)) pk_nil))) rfl)
      (pss_cons (ps_fld (pv 0) (C8.pe_mt cL hr (by decide) (pv 0) (pa_cons pe_str (pa_cons (pe_fld (pv 0) rfl) (pa_cons (pe_cval (pe_glob (v := .ref (aB K)) rfl T.board rfl)) pa_nil)))) rfl)
      (pss_cons (ps_fld (pv 0) (C8.pe_mt cL hr (by decide) (pv 0) (pa_cons pe_str (pa_cons (pe_lst pa_nil) (pa_cons (pe_cval (pe_glob (v := .ref (aB K)) rfl T.board rfl)) pa_nil)))) rfl)
      (pss_cons (ps_if (pt_cmpR op_eq (pe_callB call_len_seq (by rfl) T.len PySem.boot_len (pa_cons (pe_fld (pv 0) rfl) pa_nil)) pe_int (nomark _)) (pss_one ps_never) pss_nil)
      (pss_cons (ps_expr (C8.pe_mt0 cC hr (by decide) (pv 0)))
      (pss_one (ps_if (pt_cmpR op_lt (pe_fld (pv 0) rfl) (pe_callB call_len_seq (by rfl) T.len PySem.boot_len (pa_cons (pe_fld (pv 0) rfl) pa_nil)) (nomark _)) (pss_one ps_never) pss_nil))))))), ?_⟩
    have wne := hB.wne
    -- nodes
    have s00 : Same G (del H p) := same_del sG gp
    have e00 : (del H p) e = some (.lst []) := by rw [del_ne nep]; exact he
    refine ⟨_, rfl, p, dx, _, rfl, hp, zip_none (by decide +kernel), _, _, _, _, rfl, T.rdB, vN, rfl, rfl, del H p, p, dx, l, 0, v2, v3, v4, v5, .ref e, "nodes", 2, 16, wordsOf B, B.nodes, rfl, del_same, del_self, hp, hL.same s00, wne, rfl,
      by have := hB.n2; omega, by have := hB.n16; omega, by have := hB.n16; omega, hB.nn, hB.nd, fun H1 t1 s1 hp1 ht1 e1 => ?_⟩
    have n1p : t1 ≠ p := fun z => by rw [z, hp] at ht1; cases ht1
    have n1e : t1 ≠ e := fun z => by rw [z, he] at ht1; cases ht1
    refine ⟨_, rfl, p, aR K, dx, _, rfl, hp1, T.clR, T.rN 2 rfl, Nat.lt_of_le_of_lt zip_len (by decide), ?_⟩
    rw [put2]
    have d1 : Same (del H p) (del (upd H1 p (.ins (aR K) dx (rfs l (0 + 1) (.ref t1) v3 v4 v5 (.ref e)))) p) := stepG s1
    have q1 : (del (upd H1 p (.ins (aR K) dx (rfs l (0 + 1) (.ref t1) v3 v4 v5 (.ref e)))) p) t1 = some (.lst (B.nodes.map V.str)) := by rw [del_ne n1p, upd_ne n1p]; exact e1
    have p1 : (upd H1 p (.ins (aR K) dx (rfs l (0 + 1) (.ref t1) v3 v4 v5 (.ref e)))) p = some (.ins (aR K) dx (rfs l (0 + 1) (.ref t1) v3 v4 v5 (.ref e))) := upd_same
    generalize upd H1 p (.ins (aR K) dx (rfs l (0 + 1) (.ref t1) v3 v4 v5 (.ref e))) = I1 at d1 q1 p1 ⊢
    have g1 := s00.trans d1
    have e11 := d1 _ _ e00
    -- switches
    refine ⟨_, rfl, p, dx, _, rfl, p1, zip_none (by decide +kernel), _, _, _, _, rfl, T.rdB, vS, rfl, rfl, del I1 p, p, dx, l, 0 + 1, _, v3, v4, v5, .ref e, "switches", 0, 6, wordsOf B, B.sws, rfl, del_same, del_self, p1, hL.same g1, wne, rfl,
      by omega, by have := hB.s6; omega, by have := hB.s6; omega, fun z hz => hB.mn z (List.mem_append_left _ hz), (List.nodup_append.mp hB.md).1, fun H2 t2 s2 hp2 ht2 e2 => ?_⟩
    have n2p : t2 ≠ p := fun z => by rw [z, p1] at ht2; cases ht2
    have n2e : t2 ≠ e := fun z => by rw [z] at ht2; rw [del_ne nep, ht2] at e11; cases e11
    refine ⟨_, rfl, p, aR K, dx, _, rfl, hp2, T.clR, T.rN 3 rfl, Nat.lt_of_le_of_lt zip_len (by decide), ?_⟩
    rw [put3]
    have d2 : Same (del I1 p) (del (upd H2 p (.ins (aR K) dx (rfs l 2 (.ref t1) (.ref t2) v4 v5 (.ref e)))) p) := stepG s2
    have q2 : (del (upd H2 p (.ins (aR K) dx (rfs l 2 (.ref t1) (.ref t2) v4 v5 (.ref e)))) p) t2 = some (.lst (B.sws.map V.str)) := by rw [del_ne n2p, upd_ne n2p]; exact e2
    have p2 : (upd H2 p (.ins (aR K) dx (rfs l 2 (.ref t1) (.ref t2) v4 v5 (.ref e)))) p = some (.ins (aR K) dx (rfs l 2 (.ref t1) (.ref t2) v4 v5 (.ref e))) := upd_same
    show tSeq _ _ _ _ (upd H2 p (.ins (aR K) dx (rfs l 2 (.ref t1) (.ref t2) v4 v5 (.ref e))))
    generalize upd H2 p (.ins (aR K) dx (rfs l 2 (.ref t1) (.ref t2) v4 v5 (.ref e))) = I2 at d2 q2 p2 ⊢
    have g2 := g1.trans d2
    have e22 := d2 _ _ e11
    have q12 := d2 _ _ q1
    -- relays
    refine ⟨_, rfl, p, dx, _, rfl, p2, zip_none (by decide +kernel), _, rfl, p, aR K, dx, _, _, rfl, p2, T.clR, T.rN 3 rfl, zip_lookup (i := 3) RN_nd rfl rfl, _, _, _, _, rfl, T.rdB, vR,
      del I2 p, p, dx, l, t1, t2, 2, _, v4, v5, .ref e, "relay", 8, wordsOf B, B.nodes, B.sws, B.rels, rfl, del_same, del_self, p2, hL.same g2, wne, SqL.of q12, q2, fun j r hj => W_rel hj, end_rel hB, hB.md, fun r hr => ⟨hB.relN hr, hB.re r hr⟩, by have := hB.r8; omega, by have := hB.r8; omega, by have := hB.s6; omega,
      fun H3 t3 xr s3 hp3 ht3 e3 hxr => ?_⟩
    have n3p : t3 ≠ p := fun z => by rw [z, p2] at ht3; cases ht3
    have n3e : t3 ≠ e := fun z => by rw [z] at ht3; rw [del_ne nep, ht3] at e22; cases e22
    refine ⟨_, rfl, p, aR K, dx, _, rfl, hp3, T.clR, T.rN 4 rfl, Nat.lt_of_le_of_lt zip_len (by decide), ?_⟩
    rw [put4]
    have d3 : Same (del I2 p) (del (upd H3 p (.ins (aR K) dx (rfs l (2 + B.rels.length) (.ref t1) (.ref t2) (.ref t3) v5 (.ref e)))) p) := stepG s3
    have q3 : (del (upd H3 p (.ins (aR K) dx (rfs l (2 + B.rels.length) (.ref t1) (.ref t2) (.ref t3) v5 (.ref e)))) p) t3 = some (.lst xr) := by rw [del_ne n3p, upd_ne n3p]; exact e3
    have p3 : (upd H3 p (.ins (aR K) dx (rfs l (2 + B.rels.length) (.ref t1) (.ref t2) (.ref t3) v5 (.ref e)))) p = some (.ins (aR K) dx (rfs l (2 + B.rels.length) (.ref t1) (.ref t2) (.ref t3) v5 (.ref e))) := upd_same
    have r3 : RowsAt K (del (upd H3 p (.ins (aR K) dx (rfs l (2 + B.rels.length) (.ref t1) (.ref t2) (.ref t3) v5 (.ref e)))) p) xr (B.rels.map load3) := by rw [del_upd]; exact del_rows hxr hp3
    generalize upd H3 p (.ins (aR K) dx (rfs l (2 + B.rels.length) (.ref t1) (.ref t2) (.ref t3) v5 (.ref e))) = I3 at d3 q3 p3 r3 ⊢
    have g3 := g2.trans d3
    have e33 := d3 _ _ e22
    have q13 := d3 _ _ q12
    have q23 := d3 _ _ q2
    -- lamps
    refine ⟨_, rfl, p, dx, _, rfl, p3, zip_none (by decide +kernel), Nat.zero_le _, fun u hu => ?_⟩
    have nup : u ≠ p := fun z => by rw [z, p3] at hu; cases hu
    have su : Same I3 (upd I3 u (.lst [])) := same_up hu
    have p3' := su _ _ p3
    have du : Same (del I3 p) (del (upd I3 u (.lst [])) p) := same_del (del_same.trans su) del_self
    have qu : (del (upd I3 u (.lst [])) p) u = some (.lst (([] : List Str).map V.str)) := by rw [del_ne nup]; exact upd_same
    refine ⟨_, _, _, _, rfl, T.rdB, vL,
      del (upd I3 u (.lst [])) p, p, dx, l, t1, u, 2 + B.rels.length, _, _, v5, .ref e, "lamp", 8, wordsOf B, B.nodes, [], B.lams, rfl, del_same, del_self, p3', hL.same (g3.trans du), wne, SqL.of (du _ _ q13), qu, fun j r hj => W_lam hj, end_lam, hB.ld, fun r hr => ⟨hB.lamN hr, hB.le r hr⟩, by have := hB.l8; omega, by have := hB.l8; omega, by simp,
      fun H4 t4 xl s4 hp4 ht4 e4 hxl => ?_⟩
    have n4p : t4 ≠ p := fun z => by rw [z, p3'] at ht4; cases ht4
    have n4e : t4 ≠ e := fun z => by
      have h5 := du _ _ e33
      rw [z] at ht4
      rw [del_ne nep, ht4] at h5
      cases h5
    refine ⟨_, rfl, p, aR K, dx, _, rfl, hp4, T.clR, T.rN 5 rfl, Nat.lt_of_le_of_lt zip_len (by decide), ?_⟩
    rw [put5]
    have d4 : Same (del I3 p) (del (upd H4 p (.ins (aR K) dx (rfs l (2 + B.rels.length + B.lams.length) (.ref t1) (.ref t2) (.ref t3) (.ref t4) (.ref e)))) p) := du.trans (stepG s4)
    have q4 : (del (upd H4 p (.ins (aR K) dx (rfs l (2 + B.rels.length + B.lams.length) (.ref t1) (.ref t2) (.ref t3) (.ref t4) (.ref e)))) p) t4 = some (.lst xl) := by rw [del_ne n4p, upd_ne n4p]; exact e4
    have p4 : (upd H4 p (.ins (aR K) dx (rfs l (2 + B.rels.length + B.lams.length) (.ref t1) (.ref t2) (.ref t3) (.ref t4) (.ref e)))) p = some (.ins (aR K) dx (rfs l (2 + B.rels.length + B.lams.length) (.ref t1) (.ref t2) (.ref t3) (.ref t4) (.ref e))) := upd_same
    have r4 : RowsAt K (del (upd H4 p (.ins (aR K) dx (rfs l (2 + B.rels.length + B.lams.length) (.ref t1) (.ref t2) (.ref t3) (.ref t4) (.ref e)))) p) xl (B.lams.map load3) := by rw [del_upd]; exact del_rows hxl hp4
    generalize upd H4 p (.ins (aR K) dx (rfs l (2 + B.rels.length + B.lams.length) (.ref t1) (.ref t2) (.ref t3) (.ref t4) (.ref e))) = I4 at d4 q4 p4 r4 ⊢
    have g4 := g3.trans d4
    have e44 := d4 _ _ e33
    have q14 := d4 _ _ q13
    have q24 := d4 _ _ q23
    have q34 := d4 _ _ q3
    have r34 := r3.same d4
    -- len(self.lamps) == 0
    refine ⟨_, rfl, p, aR K, dx, _, _, rfl, p4, T.clR, T.rN 5 rfl, zip_lookup (i := 5) RN_nd rfl rfl, t4, _, rfl, .inl (SqL.of (del_same _ _ q4)), rfl, _, rfl, ?_⟩
    refine iteDN (by rw [r4.len, List.length_map]; intro z; have := V.int.inj z; have := hB.l1; omega) ?_
    -- contacts
    have ge2 : (del (del I4 p) e) e = none := del_self
    have gp2 : (del (del I4 p) e) p = none := by rw [del_ne (Ne.symm nep)]; exact del_self
    have sd : Same (del (del I4 p) e) I4 := (del_same (H := del I4 p)).trans del_same
    refine ⟨_, rfl, p, dx, _, rfl, p4, zip_none (by decide +kernel), del (del I4 p) e, p, dx, l, t1, t2, t3, e, 2 + B.rels.length + B.lams.length, _, wordsOf B, B.nodes, B.sws, B.rels, xr, B.cons, rfl, sd, gp2, ge2, nep, p4, del_same _ _ e44,
      hL.same (same_del g4 ge), wne, SqL.of (by rw [del_ne n1e]; exact q14), by rw [del_ne n2e]; exact q24, SqL.of (by rw [del_ne n3e]; exact q34), del_rowsL r34 e44, fun j x hj => W_con hj, end_con, hB.ce, hB.mn, hB.c40, by have := hB.s6; omega, by have := hB.r8; omega,
      fun H5 xc s5 hp5 e5 hxc => ?_⟩
    have hL5 := hL.same ((same_del g4 ge).trans s5)
    obtain ⟨xs, hx, hxl', _⟩ := hL5.ex
    refine ⟨_, rfl, p, aR K, dx, _, _, rfl, hp5, T.clR, T.rN 1 rfl, zip_lookup (i := 1) RN_nd rfl rfl, _, rfl, p, aR K, dx, _, _, rfl, hp5, T.clR, T.rN 0 rfl, zip_lookup (i := 0) RN_nd rfl rfl, l, _, rfl, .inl hx, _, _, rfl, rfl, _, rfl, ?_⟩
    refine iteDN (by rw [hxl', words_len]; omega) ?_
    exact k H5 p t1 t2 t3 t4 _ xr xl xc ((same_del g4 ge).trans s5) hp5 (s5 _ _ (by rw [del_ne n1e]; exact q14)) (s5 _ _ (by rw [del_ne n2e]; exact q24)) (s5 _ _ (by rw [del_ne n3e]; exact q34)) ((del_rowsL r34 e44).same s5)
      (s5 _ _ (by rw [del_ne n4e]; exact q4)) ((del_rowsL r4 e44).same s5) e5 hxc
/-! ### parse_board -/
def bArgs {α : Type} (us ws : List α) : List α := us ++ (match ws with
  | [a, b, c, d, e] => [a, d, b, c, e]
  | _ => [])
abbrev ksB : List Str := ["nodes", "switches", "relays", "lamps", "contacts"]
structure MakB (P : Program) (w : World) (K : PySem.W.Frag) (mg : Str → Option Value) (base : Heap) : Prop where
  ex : ∃ (f : Addr) (fd : FuncData), Mk K (aB K) f ∧ FnOk P w K mg base CX0 3 f fd pBInit (spBInit K) ∧ KBn K fd pBInit 1 ksB bArgs bArgs
theorem bargs_rel {vs zs : List V} {us ws : List Value} (r1 : Vals vs us) (r2 : Vals zs ws) : Vals (bArgs vs zs) (bArgs us ws) := by
  refine r1.append ?_
  match zs, ws, r2 with
  | [], [], .nil => exact .nil
  | [_], [_], .cons a .nil => exact .nil
  | [_, _], [_, _], .cons a (.cons b .nil) => exact .nil
  | [_, _, _], [_, _, _], .cons a (.cons b (.cons c .nil)) => exact .nil
  | [_, _, _, _], [_, _, _, _], .cons a (.cons b (.cons c (.cons d .nil))) => exact .nil
  | [_, _, _, _, _], [_, _, _, _, _], .cons a (.cons b (.cons c (.cons d (.cons e .nil)))) => exact .cons a (.cons d (.cons b (.cons c (.cons e .nil))))
  | _ :: _ :: _ :: _ :: _ :: _ :: _, _ :: _ :: _ :: _ :: _ :: _ :: _, .cons a (.cons b (.cons c (.cons d (.cons e (.cons f r))))) => exact .nil
theorem kbn_board {f : Addr} {fd : FuncData} (F : Fun K "__init__" "Board.__init__" sBInit f fd) : KBn K fd pBInit 1 ksB bArgs bArgs := by
  obtain ⟨oc, od, kV, doc, pm, an, cdv, ct, osl, rfl, lk, hcd⟩ := F.ex
  exact ⟨fun s us ws _ l1 l2 => match us, l1 with | [_], _ => match ws, l2 with | [_, _, _, _, _], _ => .of_eq rfl, bargs_rel⟩
theorem pe_board {X : Cx} {p pos : Pos} {kws : List Keyword} {tk : TA} {j : Nat} (c : MakB X.prog X.w X.K X.mg X.base) (hr : Room j X.A) (hk : 4 ≤ j) (hg : Gl X "Board") (hm : X.mg "Board" = some (.ref (aB X.K))) (hkw : PK X kws tk)
    (hall : (backToKw pos (keywordEach kws X.env)).all (·.1.isSome) = true := by rfl) (hks : (backToKw pos (keywordEach kws X.env)).filterMap (·.1) = ksB := by rfl)
    (hpl : ((backTo pos (starEach [] X.env)).any (·.1) || (backToKw pos (keywordEach kws X.env)).any (·.1.isNone)) = false := by rfl) :
    PE X (.Call (.Name "Board" p) [] kws pos) (tMakeK (aB X.K) 0 5 (spBInit X.K) bArgs E0 tNil tk) := by
  obtain ⟨f, fd, M, F, b⟩ := c.ex
  exact pe_makeK0 M F (hr.mono hk) hg hm b pass0 hkw hall hks (by decide) hpl
def spParse (K : PySem.W.Frag) : Sp := fun vs H Q _ => ∃ (B : Parts), vs = [.str (textOf B)] ∧ Good B ∧ ∀ (H' : Hp) (p : Addr), Same H H' → BoardAt K H' p B → Q (.ref p) H'
theorem scParse : FnScope ["text", "reader"] ["text"] (defScope sParse) := ⟨rfl, rfl, rfl, by decide +kernel, rfl, by decide +kernel, by decide +kernel⟩
theorem ok_parse (T : Tx K mg) (D : Dfn K mg "parse_board" sParse) (cR : C8.Mak P w K mg base 1 "Reader" (aR K) (spRInit K) []) (cE : C8.Met P w K mg base 4 (aR K) "read" (spRead K) []) (cB : MakB P w K mg base) : C8.Cal P w K mg base 5 "parse_board" (spParse K) [] := by
  refine cal_of D scParse (fun vs H Q E h => ?_) (fun _ _ _ _ _ _ us hl => match us, hl with | [_], _ => rfl) (fun f cdv A outer s0 H vs Q E hr h => ?_)
  · obtain ⟨B, rfl, _⟩ := h
    rfl
  · obtain ⟨B, rfl, hB, k⟩ := h
    refine ⟨_, pss_cons (ps_set (i := 1) scParse.nd rfl (Or.inl rfl) (C8.pe_mk cR hr (by decide) (by rfl) (pa_cons (pv 0) pa_nil)))
      (pss_cons (ps_expr (C8.pe_mt0 cE hr (by decide) (pv 1)))
      (pss_one (ps_ret (pe_board cB hr (by decide) (by rfl) T.board (pk_cons (pe_fld (pv 1) rfl) (pk_cons (pe_fld (pv 1) rfl) (pk_cons (pe_fld (pv 1) rfl) (pk_cons (pe_fld (pv 1) rfl) (pk_cons (pe_fld (pv 1) rfl) pk_nil))))))))), ?_⟩
    refine ⟨_, rfl, fun p dx np ndx nex => ⟨p, dx, B, rfl, upd_same, hB, fun G H1 l a b c d e sG0 sG gp ge nep hL hp1 he1 => ⟨rfl, ?_⟩⟩⟩
    have s0 : Same H (del (upd (upd H dx (.own p)) p (.ins (aR K) dx [])) p) := by
      rw [del_upd]
      exact same_del (same_up ndx) np
    have sHG := s0.trans sG0
    refine ⟨_, rfl, p, dx, _, rfl, hp1, zip_none (by decide +kernel), G, p, dx, l, e, _, _, _, _, B, rfl, sG, gp, ge, nep, hp1, he1, hL, hB, fun H2 _ a' b' c' d' i xr xl xc s2 hp2 ha hb hc hRr hd hRl he hRc => ?_⟩
    refine ⟨_, rfl, p, aR K, dx, _, _, rfl, hp2, T.clR, T.rN 2 rfl, zip_lookup (i := 2) RN_nd rfl rfl, _, rfl, p, aR K, dx, _, _, rfl, hp2, T.clR, T.rN 3 rfl, zip_lookup (i := 3) RN_nd rfl rfl, _, rfl, p, aR K, dx, _, _, rfl, hp2, T.clR, T.rN 4 rfl, zip_lookup (i := 4) RN_nd rfl rfl,
      _, rfl, p, aR K, dx, _, _, rfl, hp2, T.clR, T.rN 5 rfl, zip_lookup (i := 5) RN_nd rfl rfl, _, rfl, p, aR K, dx, _, _, rfl, hp2, T.clR, T.rN 6 rfl, zip_lookup (i := 6) RN_nd rfl rfl, rfl, rfl, fun q dq nq ndq nqe => ?_⟩
    have s3 : Same H2 (upd (upd H2 dq (.own q)) q (.ins (aB K) dq [])) := (same_up ndq).knew (by rw [upd_ne (Ne.symm nqe)]; exact nq)
    refine ⟨q, dq, a', d', b', c', e, xr, xl, xc, B, rfl, upd_same, hB, SqL.of (s3 _ _ ha), SqL.of (s3 _ _ hb), SqL.of (s3 _ _ hc), hRr.same s3, SqL.of (s3 _ _ hd), hRl.same s3, SqL.of (s3 _ _ he), hRc.same s3, fun H4 s4 hb4 => ⟨rfl, ?_⟩⟩
    refine k H4 q ?_ hb4
    refine (sHG.trans s2).trans (Same.trans ?_ s4)
    rw [del_upd]
    exact same_del (same_up ndq) nq
end
end K7

namespace K7
open PySem PySem.Spec PyProof.Rows L2 ClX
/-! ### lists of ints -/
theorem num_at {xs : List Int} {z : Int} (h0 : 0 ≤ z) (h1 : z < (xs.length : Int)) : atI (xs.map V.int) z = some (.int (xs.getD z.toNat 0)) := by
  refine at_of (j := z.toNat) (by omega) ?_
  have h : z.toNat < xs.length := by omega
  rw [List.getElem?_map, List.getD_eq_getElem?_getD, List.getElem?_eq_getElem h]
  rfl
theorem cut_take (xs : List V) (i : Nat) : cutV xs none (some ((i : Nat) : Int)) = xs.take i := by
  unfold cutV
  rw [HT.sIx_none, HT.sIx_nat, List.drop_zero, Nat.sub_zero]
  by_cases h : i ≤ xs.length
  · rw [Nat.min_eq_left h]
  · rw [Nat.min_eq_right (by omega), List.take_of_length_le (Nat.le_refl _), List.take_of_length_le (by omega)]
theorem cut_drop (xs : List V) (i : Nat) : cutV xs (some ((i : Nat) : Int)) none = xs.drop i := by
  unfold cutV
  rw [HT.sIx_none, HT.sIx_nat]
  by_cases h : i ≤ xs.length
  · rw [Nat.min_eq_left h]
    apply List.take_of_length_le
    rw [List.length_drop]
    omega
  · rw [Nat.min_eq_right (by omega), List.drop_of_length_le (Nat.le_refl _), List.drop_of_length_le (by omega)]
    simp
theorem ints_get {xs : List Int} {i : Nat} {v : V} (h : (xs.map V.int)[i]? = some v) : ∃ z, v = .int z := by
  rw [List.getElem?_map] at h
  cases e : xs[i]? with
  | none => rw [e] at h; cases h
  | some z => rw [e] at h; exact ⟨z, (Option.some.inj h).symm⟩
theorem app_int {xs : List Int} {z : Int} : (some (HO.lst (xs.map V.int ++ [V.int z])) : Option HO) = some (HO.lst ((xs ++ [z]).map V.int)) := by
  rw [List.map_append]
  rfl
theorem big {n : Nat} (h : n ≤ 20000) : n < sizeLine := Nat.lt_of_le_of_lt h (by decide)
theorem i48271 : (-(2 ^ 64 : Int) < 48271 ∧ (48271 : Int) < 2 ^ 64) := by decide
section
variable {P : Program} {w : World} {K : PySem.W.Frag} {mg : Str → Option Value} {base : Heap}
/-! ### _law_row -/
def spRow : Sp := fun vs H Q _ => ∃ (c : Int) (m : Nat), vs = [.int c, .int ((m : Nat) : Int)] ∧ m ≤ 1000 ∧ ∀ (ns : List Int) (H' : Hp) (t : Addr), ns.length = m → Same H H' → H t = none → H' t = some (.lst (ns.map V.int)) → Q (.ref t) H'
abbrev nRow : List Str := ["_law_cell", "_law_many", "_law_row_here", "_law_rest", "_law_k", "_law_mixed"]
theorem scRow : FnScope nRow ["_law_cell", "_law_many"] (defScope sRow) := ⟨rfl, rfl, rfl, by decide +kernel, rfl, by decide +kernel, by decide +kernel⟩
theorem ok_row (T : Tx K mg) (D : Dfn K mg "_law_row" sRow) : C8.Cal P w K mg base 1 "_law_row" spRow [] := by
  refine cal_of D scRow (fun vs H Q E h => ?_) (fun _ _ _ _ _ _ us hl => match us, hl with | [_, _], _ => rfl) (fun f cdv A outer s0 H vs Q E hr h => ?_)
  · obtain ⟨c, m, rfl, _⟩ := h
    rfl
  · obtain ⟨c, m, rfl, hm, k⟩ := h
    refine ⟨_, pss_cons (ps_set (i := 2) scRow.nd rfl (Or.inl rfl) (pe_lst pa_nil))
      (pss_cons (ps_set (i := 3) scRow.nd rfl (Or.inl rfl) (pe_callB call_abs (by rfl) T.abs (by decide +kernel) (pa_cons (pv 0) pa_nil)))
      (pss_cons (ps_for PassesOwn.never rfl (pi_range1 (by rfl) T.range (pa_cons (pv 1) pa_nil)) (pg_name (i := 4) scRow.nd rfl (Or.inl rfl))
        (pss_one (ps_if (pt_cmpR op_ge (pe_callB call_abs (by rfl) T.abs (by decide +kernel) (pa_cons (pv 0) pa_nil)) (pe_op op_pow pe_int pe_int) (nomark _))
          (pss_cons (ps_expr (pe_bm PySem.F.plainAttrs_list PySem.F.slot_list_append PySem.F.type_list_append mt_append (pv 2) (pa_cons (pe_op op_mod (pv 3) pe_int) pa_nil)))
          (pss_one (ps_set (i := 3) scRow.nd rfl (Or.inl rfl) (pe_op op_fdiv (pv 3) pe_int))))
          (pss_cons (ps_set (i := 5) scRow.nd rfl (Or.inl rfl) (pe_op op_mod (pe_op op_add (pe_op op_mul (pv 3) pe_int) (pe_op op_mul (pe_op op_add (pv 4) pe_int) pe_int)) pe_int))
          (pss_cons (ps_set (i := 5) scRow.nd rfl (Or.inl rfl) (pe_op op_mod (pe_op op_add (pe_op op_mul (pv 5) pe_int) (pe_op op_mul pe_int (pe_op op_add (pv 4) pe_int))) pe_int))
          (pss_one (ps_expr (pe_bm PySem.F.plainAttrs_list PySem.F.slot_list_append PySem.F.type_list_append mt_append (pv 2) (pa_cons (pe_op op_mod (pv 5) pe_int) pa_nil)))))))))
      (pss_one (ps_ret (pv 2))))), ?_⟩
    refine ⟨Nat.zero_le _, fun t ht => ?_⟩
    have s1 : Same H (upd H t (.lst [])) := same_up ht
    refine ⟨_, rfl, c, rfl, ?_⟩
    refine ⟨_, rfl, _, rfl, by omega, by omega, for_range (lo := 0) (n := m) (fun i σ H2 => ∃ (ns : List Int) (rest : Int) (v4 v5 : Option V), σ = [some (.int c), some (.int ((m : Nat) : Int)), some (.ref t), some (.int rest), v4, v5] ∧ Same H H2 ∧ H2 t = some (.lst (ns.map V.int)) ∧ ns.length = i)
      ⟨[], _, none, none, rfl, s1, upd_same, rfl⟩ ?_ ?_⟩
    · rintro i σ H2 hi ⟨ns, rest, v4, v5, rfl, s2, e2, hl⟩
      refine ⟨_, rfl, c, rfl, _, _, rfl, rfl, ⟨by decide, by decide, by decide⟩, _, _, rfl, rfl, _, rfl, ?_⟩
      refine ite2 (fun _ => ?_) (fun _ => ?_)
      · refine ⟨_, rfl, .inl ⟨rfl, _, SqL.of e2⟩, _, rfl, _, _, rfl, rfl, (by show (0 : Int) < 1009; decide), t, _, _, rfl, rfl, e2, by rw [List.length_map]; exact big (by omega), ?_⟩
        refine ⟨_, rfl, _, _, rfl, rfl, ⟨by decide, by decide⟩, ?_⟩
        exact ⟨ns ++ [_], _, _, _, rfl, s2.kput ht, upd_same.trans app_int, by rw [List.length_append, hl]; rfl⟩
      · refine ⟨_, rfl, _, _, rfl, rfl, .inr ⟨by decide, by decide⟩, _, rfl, _, _, rfl, rfl, _, _, rfl, rfl, .inr ⟨by decide, by decide⟩, _, _, rfl, rfl, _, _, rfl, rfl, (by show (0 : Int) < 2147483647; decide), ?_⟩
        refine ⟨_, rfl, _, _, rfl, rfl, .inr ⟨by decide, by decide⟩, _, rfl, _, _, rfl, rfl, _, _, rfl, rfl, .inl ⟨by decide, by decide⟩, _, _, rfl, rfl, _, _, rfl, rfl, (by show (0 : Int) < 2147483629; decide), ?_⟩
        refine ⟨_, rfl, .inl ⟨rfl, _, SqL.of e2⟩, _, rfl, _, _, rfl, rfl, (by show (0 : Int) < 1009; decide), t, _, _, rfl, rfl, e2, by rw [List.length_map]; exact big (by omega), ?_⟩
        exact ⟨ns ++ [_], _, _, _, rfl, s2.kput ht, upd_same.trans app_int, by rw [List.length_append, hl]; rfl⟩
    · rintro σ H2 ⟨ns, rest, v4, v5, rfl, s2, e2, hl⟩
      exact ⟨_, rfl, k ns H2 t hl s2 ht e2⟩
/-! ### _law_numbers -/
def spNumbers (K : PySem.W.Frag) : Sp := fun vs H Q _ => ∃ (a : Addr) (ns : List Int), vs = [.ref a, .int 254] ∧ SqL K H a (ns.map V.int) ∧ ns.length ≤ 63 ∧ ∀ (xs : List Int) (H' : Hp) (t : Addr), xs.length = 254 → Same H H' → H' t = some (.lst (xs.map V.int)) → Q (.ref t) H'
abbrev nNumbers : List Str := ["_law_script", "_law_many", "_law_cells", "_law_each", "_law_numbers_here", "_law_cell", "_law_number"]
theorem scNumbers : FnScope nNumbers ["_law_script", "_law_many"] (defScope sNumbers) := ⟨rfl, rfl, rfl, by decide +kernel, rfl, by decide +kernel, by decide +kernel⟩
theorem ok_numbers (T : Tx K mg) (D : Dfn K mg "_law_numbers" sNumbers) (cR : C8.Cal P w K mg base 1 "_law_row" spRow []) : C8.Cal P w K mg base 2 "_law_numbers" (spNumbers K) [] := by
  refine cal_of D scNumbers (fun vs H Q E h => ?_) (fun _ _ _ _ _ _ us hl => match us, hl with | [_, _], _ => rfl) (fun f cdv A outer s0 H vs Q E hr h => ?_)
  · obtain ⟨a, ns, rfl, _⟩ := h
    rfl
  · obtain ⟨a, ns, rfl, hS, hn, k⟩ := h
    refine ⟨_, pss_cons (ps_set (i := 2) scNumbers.nd rfl (Or.inl rfl) (pe_slice sl_list (pv 0) po_none (po_some pe_int)))
      (pss_cons (ps_set (i := 3) scNumbers.nd rfl (Or.inl rfl) (pe_op op_add pe_int (pe_op op_fdiv (pv 1) (pe_callB (call_max2 rfl) (by rfl) T.max (by decide +kernel) (pa_cons pe_int (pa_cons (pe_callB call_len_seq (by rfl) T.len PySem.boot_len (pa_cons (pv 2) pa_nil)) pa_nil))))))
      (pss_cons (ps_set (i := 4) scNumbers.nd rfl (Or.inl rfl) (pe_lst pa_nil))
      (pss_cons (ps_for PassesOwn.never rfl (pi_list (pv 2)) (pg_name (i := 5) scNumbers.nd rfl (Or.inl rfl))
        (pss_one (ps_for PassesOwn.never rfl (pi_list (C8.pe_c cR hr (by decide) (by rfl) (pa_cons (pv 5) (pa_cons (pv 3) pa_nil)))) (pg_name (i := 6) scNumbers.nd rfl (Or.inl rfl))
          (pss_one (ps_expr (pe_bm PySem.F.plainAttrs_list PySem.F.slot_list_append PySem.F.type_list_append mt_append (pv 4) (pa_cons (pv 6) pa_nil)))))))
      (pss_cons (ps_while PassesOwn.never (pt_cmpR op_lt (pe_callB call_len_seq (by rfl) T.len PySem.boot_len (pa_cons (pv 4) pa_nil)) (pv 1) (nomark _))
        (pss_one (ps_expr (pe_bm PySem.F.plainAttrs_list PySem.F.slot_list_append PySem.F.type_list_append mt_append (pv 4) (pa_cons pe_int pa_nil)))))
      (pss_one (ps_ret (pe_slice sl_list (pv 4) po_none (po_some (pv 1))))))))), ?_⟩
    refine ⟨_, rfl, _, rfl, a, _, rfl, hS, fun q hq => ?_⟩
    rw [show cutV (ns.map V.int) none (some 63) = (ns.take 63).map V.int by rw [List.map_take]; exact cut_take _ 63]
    have s1 : Same H (upd H q (.lst ((ns.take 63).map V.int))) := same_up hq
    have eq1 : (upd H q (.lst ((ns.take 63).map V.int))) q = some (.lst ((ns.take 63).map V.int)) := upd_same
    have hc63 : (ns.take 63).length ≤ 63 := by rw [List.length_take]; omega
    generalize ns.take 63 = cs at s1 eq1 hc63 ⊢
    generalize upd H q (.lst (cs.map V.int)) = H1 at s1 eq1 ⊢
    refine ⟨_, rfl, _, rfl, q, _, rfl, .inl (SqL.of eq1), _, _, rfl, _, _, rfl, rfl, ⟨?_, ?_⟩, _, _, rfl, rfl, ?_⟩
    · split <;> omega
    · rw [List.length_map]; split <;> omega
    obtain ⟨ea, hea, hea2⟩ : ∃ ea : Nat, (1 : Int) + 254 / (if ((cs.map V.int).length : Int) > 1 then ((cs.map V.int).length : Int) else 1) = (ea : Int) ∧ ea ≤ 255 := by
      rw [List.length_map]
      split
      · rename_i h
        have h1 : 0 ≤ (254 : Int) / (cs.length : Int) := Int.ediv_nonneg (by omega) (by omega)
        have h2 : (254 : Int) / (cs.length : Int) ≤ 254 := Int.ediv_le_self _ (by omega)
        exact ⟨(1 + 254 / (cs.length : Int)).toNat, by omega, by omega⟩
      · exact ⟨255, by decide, by decide⟩
    dsimp only
    rw [hea]
    refine ⟨Nat.zero_le _, fun t ht => ?_⟩
    have ntq : q ≠ t := fun z => by rw [← z, eq1] at ht; cases ht
    have ht0 : H1 t = none := ht
    refine ⟨_, rfl, q, rfl, ⟨_, SqL.of (by rw [upd_ne ntq]; exact eq1)⟩, for_list (K := K) (a := q) (xs := cs.map V.int) (fun i σ H2 => ∃ (xs : List Int) (v5 v6 : Option V), σ = [some (.ref a), some (.int 254), some (.ref q), some (.int ((ea : Nat) : Int)), some (.ref t), v5, v6] ∧ Same H1 H2 ∧ H2 t = some (.lst (xs.map V.int)) ∧ xs.length ≤ i * 255 ∧ i ≤ 63)
      ⟨[], none, none, rfl, same_up ht, upd_same, Nat.zero_le _, Nat.zero_le _⟩ (fun i σ H2 _ ⟨_, _, _, _, z, _⟩ => SqL.of (z _ _ eq1)) ?_ ?_⟩
    · rintro i x σ H2 hi ⟨xs, v5, v6, rfl, s2, e2, hxl, hi63⟩
      obtain ⟨c, rfl⟩ := ints_get hi
      have hlt : i < cs.length := by
        have := (List.getElem?_eq_some_iff.mp hi).1
        rw [List.length_map] at this
        exact this
      refine ⟨_, rfl, _, rfl, c, ea, rfl, by omega, fun rs H3 r hrl s3 hr0 er => ⟨r, rfl, ⟨_, SqL.of er⟩, ?_⟩⟩
      have nrt : r ≠ t := fun z => by rw [z, e2] at hr0; cases hr0
      refine for_list (K := K) (a := r) (xs := rs.map V.int) (fun j σ H4 => ∃ (ys : List Int) (v6 : Option V), σ = [some (.ref a), some (.int 254), some (.ref q), some (.int ((ea : Nat) : Int)), some (.ref t), some (.int c), v6] ∧ Same H1 H4 ∧ H4 r = some (.lst (rs.map V.int)) ∧ H4 t = some (.lst (ys.map V.int)) ∧ ys.length = xs.length + j ∧ j ≤ ea)
        ⟨xs, v6, rfl, s2.trans s3, er, s3 _ _ e2, rfl, Nat.zero_le _⟩ (fun j σ H4 _ ⟨_, _, _, _, z, _⟩ => SqL.of z) ?_ ?_
      · rintro j x σ H4 hj ⟨ys, v6, rfl, s4, er4, e4, hyl, hje⟩
        obtain ⟨d, rfl⟩ := ints_get hj
        have hjl : j < rs.length := by
          have := (List.getElem?_eq_some_iff.mp hj).1
          rw [List.length_map] at this
          exact this
        refine ⟨_, rfl, .inl ⟨rfl, _, SqL.of e4⟩, _, rfl, t, _, _, rfl, rfl, e4, by rw [List.length_map]; exact big (by omega), ?_⟩
        refine ⟨ys ++ [d], _, rfl, s4.kput ht0, by rw [upd_ne nrt]; exact er4, ?_, by rw [List.length_append, hyl]; rfl, by omega⟩
        rw [upd_same, List.map_append]
        rfl
      · rintro σ H4 ⟨ys, v6, rfl, s4, er4, e4, hyl, hje⟩
        refine ⟨ys, _, _, rfl, s4, e4, ?_, by omega⟩
        rw [List.length_map] at hyl
        omega
    · rintro σ H2 ⟨xs, v5, v6, rfl, s2, e2, hxl, hi63⟩
      refine ⟨fun mm σ H3 => ∃ (ys : List Int), mm = 254 - ys.length ∧ σ = [some (.ref a), some (.int 254), some (.ref q), some (.int ((ea : Nat) : Int)), some (.ref t), v5, v6] ∧ Same H1 H3 ∧ H3 t = some (.lst (ys.map V.int)) ∧ ys.length ≤ 16065,
        ⟨_, xs, rfl, rfl, s2, e2, by rw [List.length_map] at hxl; omega⟩, ?_⟩
      rintro mm σ H3 ⟨ys, rfl, rfl, s3, e3, hyl⟩
      refine ⟨_, rfl, t, _, rfl, .inl (SqL.of e3), _, rfl, _, _, rfl, rfl, _, rfl, ?_⟩
      rw [List.length_map]
      refine ite2 (fun hb => ?_) (fun hb => ?_)
      · have hb2 : ((ys.length : Nat) : Int) < 254 := of_decide_eq_true hb
        refine ⟨fun σ' H' => ∃ (zs : List Int), zs.length = ys.length + 1 ∧ σ' = [some (.ref a), some (.int 254), some (.ref q), some (.int ((ea : Nat) : Int)), some (.ref t), v5, v6] ∧ Same H1 H' ∧ H' t = some (.lst (zs.map V.int)),
          fun σ' H' ⟨zs, h1, h2, h3, h4⟩ => ⟨254 - zs.length, by omega, zs, rfl, h2, h3, h4, by omega⟩, ?_⟩
        refine ⟨_, rfl, .inl ⟨rfl, _, SqL.of e3⟩, t, _, _, rfl, rfl, e3, by rw [List.length_map]; exact big (by omega), ?_⟩
        refine ⟨ys ++ [0], by simp, rfl, s3.kput ht0, ?_⟩
        rw [upd_same, List.map_append]
        rfl
      · have hb2 : ¬ ((ys.length : Nat) : Int) < 254 := fun z => hb (decide_eq_true z)
        refine ⟨_, rfl, _, rfl, _, rfl, t, _, rfl, SqL.of e3, fun u hu => ?_⟩
        refine k (ys.take 254) _ u (by rw [List.length_take]; omega) ((s1.trans s3).knew hu) ?_
        rw [upd_same, List.map_take]
        rw [show cutV (ys.map V.int) none (some 254) = (ys.map V.int).take 254 from cut_take _ 254]
end
end K7

namespace K7
open PySem PySem.Spec PyProof.Rows L2 ClX
theorem nat_of {z : Int} (h : 0 ≤ z) : ∃ n : Nat, z = (n : Int) := ⟨z.toNat, by omega⟩
theorem mod_nat (a : Int) {n : Int} (h : 0 < n) : ∃ r : Nat, a % n = (r : Int) ∧ (r : Int) < n := by
  have h1 := Int.emod_nonneg a (by omega : n ≠ 0)
  have h2 := Int.emod_lt_of_pos a h
  exact ⟨(a % n).toNat, by omega, by omega⟩
theorem chr_at {i : Nat} (h : i < 36) : atI nameChars.cps.toList ((i : Nat) : Int) = some (chr36 i) := atI_nat (chr36_get h)
theorem chars_sz : nameChars.length ≤ sizeLine := by
  have := chars36
  have := TL.len_tl nameChars
  exact Nat.le_trans (show nameChars.length ≤ 1000 by omega) (by decide)
theorem one_len (c : Nat) : (⟨#[c]⟩ : Str).length = 1 := rfl
section
variable {P : Program} {w : World} {K : PySem.W.Frag} {mg : Str → Option Value} {base : Heap}
/-! ### _law_names -/
def spNames (K : PySem.W.Frag) : Sp := fun vs H Q _ => ∃ (a : Addr) (at_ m : Nat) (xs : List Int), vs = [.ref a, .int ((at_ : Nat) : Int), .int ((m : Nat) : Int)] ∧ SqL K H a (xs.map V.int) ∧ at_ + 4 < xs.length ∧ m ≤ 36 ∧
  ∀ (zs : List Str) (H' : Hp) (t : Addr), zs.length = m → (∀ z ∈ zs, IsNm z) → zs.Nodup → Same H H' → H t = none → H' t = some (.lst (zs.map V.str)) → Q (.ref t) H'
abbrev nNames : List Str := ["_law_numbers_here", "_law_at", "_law_many", "_law_chars", "_law_prefix", "_law_k", "_law_place", "_law_shift", "_law_names_here"]
theorem scNames : FnScope nNames ["_law_numbers_here", "_law_at", "_law_many"] (defScope sNames) := ⟨rfl, rfl, rfl, by decide +kernel, rfl, by decide +kernel, by decide +kernel⟩
theorem ok_names (T : Tx K mg) (D : Dfn K mg "_law_names" sNames) : C8.Cal P w K mg base 1 "_law_names" (spNames K) [] := by
  refine cal_of D scNames (fun vs H Q E h => ?_) (fun _ _ _ _ _ _ us hl => match us, hl with | [_, _, _], _ => rfl) (fun f cdv A outer s0 H vs Q E hr h => ?_)
  · obtain ⟨a, at_, m, xs, rfl, _⟩ := h
    rfl
  · obtain ⟨a, at_, m, xs, rfl, hS, h4, hm, k⟩ := h
    refine ⟨_, pss_cons (ps_set (i := 3) scNames.nd rfl (Or.inl rfl) pe_str)
      (pss_cons (ps_set (i := 4) scNames.nd rfl (Or.inl rfl) pe_str)
      (pss_cons (ps_for PassesOwn.never rfl (pi_range1 (by rfl) T.range (pa_cons (pe_op op_mod (pe_callTy call_int1 (by rfl) T.int (by decide +kernel) (pa_cons (pe_ix ix_list (pv 0) (pv 1) (fun _ _ => rfl)) pa_nil)) pe_int) pa_nil)) (pg_name (i := 5) scNames.nd rfl (Or.inl rfl))
        (pss_one (ps_set (i := 4) scNames.nd rfl (Or.inl rfl) (pe_op op_add_str (pv 4) (pe_ix ix_str (pv 3) (pe_op op_mod (pe_op op_add (pe_ix ix_list (pv 0) (pe_op op_add (pv 1) pe_int) (fun _ _ => rfl)) (pe_op op_mul (pv 5) (pe_ix ix_list (pv 0) (pe_op op_add (pv 1) pe_int) (fun _ _ => rfl)))) pe_int) (fun _ _ => rfl))))))
      (pss_cons (ps_set (i := 6) scNames.nd rfl (Or.inl rfl) (pe_op op_mod (pe_callTy call_int1 (by rfl) T.int (by decide +kernel) (pa_cons (pe_ix ix_list (pv 0) (pe_op op_add (pv 1) pe_int) (fun _ _ => rfl)) pa_nil)) (pe_op op_add (pe_callB call_len_str (by rfl) T.len PySem.boot_len (pa_cons (pv 4) pa_nil)) pe_int)))
      (pss_cons (ps_set (i := 7) scNames.nd rfl (Or.inl rfl) (pe_op op_mod (pe_callTy call_int1 (by rfl) T.int (by decide +kernel) (pa_cons (pe_ix ix_list (pv 0) (pe_op op_add (pv 1) pe_int) (fun _ _ => rfl)) pa_nil)) pe_int))
      (pss_cons (ps_set (i := 8) scNames.nd rfl (Or.inl rfl) (pe_lst pa_nil))
      (pss_cons (ps_for PassesOwn.never rfl (pi_range1 (by rfl) T.range (pa_cons (pv 2) pa_nil)) (pg_name (i := 5) scNames.nd rfl (Or.inl rfl))
        (pss_one (ps_expr (pe_bm PySem.F.plainAttrs_list PySem.F.slot_list_append PySem.F.type_list_append mt_append (pv 8) (pa_cons (pe_op op_add_str (pe_op op_add_str (pe_slice sl_str (pv 4) po_none (po_some (pv 6))) (pe_ix ix_str (pv 3) (pe_op op_mod (pe_op op_add (pv 7) (pv 5)) pe_int) (fun _ _ => rfl)))
          (pe_slice sl_str (pv 4) (po_some (pv 6)) po_none)) pa_nil)))))
      (pss_one (ps_ret (pv 8))))))))), ?_⟩
    have ix : ∀ z : Int, 0 ≤ z → z < (xs.length : Int) → atI (xs.map V.int) z = some (.int (xs.getD z.toNat 0)) := fun z h0 h1 => num_at h0 h1
    obtain ⟨r, hr1, hr2⟩ := mod_nat (xs.getD ((at_ : Nat) : Int).toNat 0) (show (0 : Int) < 12 by decide)
    refine ⟨_, rfl, _, rfl, a, _, _, _, rfl, rfl, hS, ix _ (by omega) (by omega), .inl ⟨_, rfl, ?_⟩⟩
    refine ⟨_, _, rfl, rfl, (by show (0 : Int) < 12; decide), ?_⟩
    refine ⟨((r : Nat) : Int), congrArg (fun z => [V.int z]) hr1, by omega, by omega, for_range (lo := 0) (n := r) (fun i σ H2 => ∃ (pre : Str) (v5 : Option V), σ = [some (.ref a), some (.int ((at_ : Nat) : Int)), some (.int ((m : Nat) : Int)), some (.str nameChars), some (.str pre), v5, none, none, none] ∧ H2 = H ∧ pre.length = i ∧ ∀ c ∈ TL.tl pre, c ∈ TL.tl nameChars)
      ⟨"", none, rfl, rfl, rfl, fun c hc => by cases hc⟩ ?_ ?_⟩
    · rintro i σ H2 hi ⟨pre, v5, rfl, rfl, hpl, hpc⟩
      obtain ⟨u, hu1, hu2⟩ := mod_nat (xs.getD (((at_ : Nat) : Int) + 1).toNat 0 + ((0 : Int) + (i : Int)) * xs.getD (((at_ : Nat) : Int) + 2).toNat 0) (show (0 : Int) < 36 by decide)
      refine ⟨_, rfl, _, rfl, _, rfl, _, rfl, _, _, rfl, rfl, a, _, _, _, rfl, rfl, hS, ix _ (by omega) (by omega), _, rfl, _, rfl, _, rfl, _, _, rfl, rfl, a, _, _, _, rfl, rfl, hS, ix _ (by omega) (by omega), _, _, rfl, rfl, .inl ⟨by omega, by omega⟩, _, _, rfl, rfl, _, _, rfl, rfl, (by show (0 : Int) < 36; decide), ?_⟩
      refine ⟨nameChars, _, chr36 u, rfl, rfl, chars_sz, by rw [hu1]; exact chr_at (by omega), _, _, rfl, rfl, ?_, ?_⟩
      · rw [one_len, hpl]
        exact Nat.le_trans (show i + 1 ≤ 1000 by omega) (by decide)
      refine ⟨_, _, rfl, rfl, by rw [len_app, hpl]; rfl, fun c hc => ?_⟩
      rw [TL.tl_append] at hc
      rcases List.mem_append.mp hc with h | h
      · exact hpc c h
      · rw [tl_one, List.mem_singleton] at h
        rw [h]
        exact chr36_mem (by omega)
    · rintro σ H2 ⟨pre, v5, rfl, rfl, hpl, hpc⟩
      have hpsz : pre.length ≤ sizeLine := Nat.le_trans (show pre.length ≤ 1000 by omega) (by decide)
      obtain ⟨pl, hp1, hp2⟩ := mod_nat (xs.getD (((at_ : Nat) : Int) + 3).toNat 0) (show (0 : Int) < ((pre.length : Nat) : Int) + 1 by omega)
      obtain ⟨sh, hs1, hs2⟩ := mod_nat (xs.getD (((at_ : Nat) : Int) + 4).toNat 0) (show (0 : Int) < 36 by decide)
      refine ⟨_, rfl, _, rfl, _, _, rfl, rfl, a, _, _, _, rfl, rfl, hS, ix _ (by omega) (by omega), .inl ⟨_, rfl, _, rfl, _, rfl, hpsz, _, _, rfl, rfl, _, _, rfl, rfl, ?_, ?_⟩⟩
      · show (0 : Int) < ((pre.length : Nat) : Int) + 1
        omega
      dsimp only
      rw [hp1]
      refine ⟨_, rfl, _, rfl, _, _, rfl, rfl, a, _, _, _, rfl, rfl, hS, ix _ (by omega) (by omega), .inl ⟨_, rfl, _, _, rfl, rfl, (by show (0 : Int) < 36; decide), ?_⟩⟩
      dsimp only
      rw [hs1]
      refine ⟨Nat.zero_le _, fun t ht => ?_⟩
      refine ⟨_, rfl, _, rfl, by omega, by omega, for_range (lo := 0) (n := m) (fun i σ H3 => ∃ (v5 : Option V), σ = [some (.ref a), some (.int ((at_ : Nat) : Int)), some (.int ((m : Nat) : Int)), some (.str nameChars), some (.str pre), v5, some (.int ((pl : Nat) : Int)), some (.int ((sh : Nat) : Int)), some (.ref t)] ∧
        Same H2 H3 ∧ H3 t = some (.lst ((namesOf pre pl sh i).map V.str))) ⟨v5, rfl, same_up ht, upd_same⟩ ?_ ?_⟩
      · rintro i σ H3 hi ⟨v5, rfl, s3, e3⟩
        have hu1 : (((sh : Nat) : Int) + (0 + ((i : Nat) : Int))) % 36 = (((sh + i) % 36 : Nat) : Int) := by omega
        refine ⟨_, rfl, .inl ⟨rfl, _, SqL.of e3⟩, _, rfl, _, rfl, _, rfl, pre, rfl, hpsz, _, rfl, _, rfl, _, rfl, _, _, rfl, rfl, _, _, rfl, rfl, (by show (0 : Int) < 36; decide), ?_⟩
        have hc1 := cutS_length pre none (some ((pl : Nat) : Int))
        have hc2 := cutS_length pre (some ((pl : Nat) : Int)) none
        refine ⟨nameChars, _, chr36 ((sh + i) % 36), rfl, rfl, chars_sz, by rw [hu1]; exact chr_at (Nat.mod_lt _ (by decide)), _, _, rfl, rfl, ?_, _, rfl, _, rfl, _, rfl, pre, rfl, hpsz, _, _, rfl, rfl, ?_, t, _, _, rfl, rfl, e3, ?_, ?_⟩
        · rw [one_len]
          exact Nat.le_trans (show _ ≤ 1000 by omega) (by decide)
        · rw [len_app, one_len]
          exact Nat.le_trans (show _ ≤ 1000 by omega) (by decide)
        · rw [List.length_map, names_len]
          exact big (by omega)
        · refine ⟨_, rfl, s3.kput ht, upd_same.trans ?_⟩
          show some (HO.lst ((namesOf pre pl sh i).map V.str ++ [V.str (nmOf pre ((pl : Nat) : Int) (chr36 ((sh + i) % 36)))])) = _
          unfold namesOf
          rw [List.range_succ, List.map_append, List.map_append]
          rfl
      · rintro σ H3 ⟨v5, rfl, s3, e3⟩
        have hple : pl ≤ pre.length := by omega
        exact ⟨_, rfl, k (namesOf pre pl sh m) H3 t (names_len _ _ _ _) (names_ok hple (by omega) hpc) (names_nd hple hm) s3 ht e3⟩
/-! ### _law_count -/
def spCount : Sp := fun vs H Q _ => ∃ (v lo hi : Int), vs = [.int v, .int lo, .int hi] ∧ lo ≤ hi ∧ ∀ r : Int, lo ≤ r → r ≤ hi → Q (.int r) H
theorem scCount : FnScope ["_law_number", "_law_least", "_law_most"] ["_law_number", "_law_least", "_law_most"] (defScope sCount) := ⟨rfl, rfl, rfl, by decide +kernel, rfl, by decide +kernel, by decide +kernel⟩
theorem ok_count (T : Tx K mg) (D : Dfn K mg "_law_count" sCount) : C8.Cal P w K mg base 1 "_law_count" spCount [] := by
  refine cal_of D scCount (fun vs H Q E h => ?_) (fun _ _ _ _ _ _ us hl => match us, hl with | [_, _, _], _ => rfl) (fun f cdv A outer s0 H vs Q E hr h => ?_)
  · obtain ⟨v, lo, hi, rfl, _⟩ := h
    rfl
  · obtain ⟨v, lo, hi, rfl, hlh, k⟩ := h
    refine ⟨_, pss_cons (ps_if (pt_cmpR op_eq (pe_op op_mod (pe_callTy call_int1 (by rfl) T.int (by decide +kernel) (pa_cons (pv 0) pa_nil)) pe_int) pe_int (nomark _)) (pss_one (ps_ret (pv 1))) pss_nil)
      (pss_cons (ps_if (pt_cmpR op_eq (pe_op op_mod (pe_callTy call_int1 (by rfl) T.int (by decide +kernel) (pa_cons (pv 0) pa_nil)) pe_int) pe_int (nomark _)) (pss_one (ps_ret (pv 2))) pss_nil)
      (pss_one (ps_ret (pe_op op_add (pv 1) (pe_op op_mod (pe_op op_fdiv (pv 0) pe_int) (pe_op op_add (pe_op op_sub (pe_callB (call_min2 rfl) (by rfl) T.min (by decide +kernel) (pa_cons (pv 2) (pa_cons (pe_op op_add (pv 1) pe_int) pa_nil))) (pv 1)) pe_int)))))), ?_⟩
    refine ⟨_, rfl, .inl ⟨_, rfl, _, _, rfl, rfl, (by show (0 : Int) < 6; decide), rfl, _, rfl, ?_⟩⟩
    refine ite2 (fun _ => ⟨_, rfl, k lo (Int.le_refl _) hlh⟩) (fun _ => ?_)
    refine ⟨_, rfl, .inl ⟨_, rfl, _, _, rfl, rfl, (by show (0 : Int) < 6; decide), rfl, _, rfl, ?_⟩⟩
    refine ite2 (fun _ => ⟨_, rfl, k hi hlh (Int.le_refl _)⟩) (fun _ => ?_)
    refine ⟨_, rfl, _, rfl, _, _, rfl, rfl, ⟨by decide, by decide⟩, _, rfl, _, rfl, _, _, rfl, rfl, _, _, rfl, _, rfl, _, _, rfl, rfl, _, _, rfl, rfl, _, _, rfl, rfl, ?_, _, _, rfl, rfl, ?_⟩
    · show (0 : Int) < (if lo + 4 < hi then lo + 4 else hi) - lo + 1
      split <;> omega
    · have hp : (0 : Int) < (if lo + 4 < hi then lo + 4 else hi) - lo + 1 := by split <;> omega
      have h1 := Int.emod_nonneg (v / 6) (by omega : (if lo + 4 < hi then lo + 4 else hi) - lo + 1 ≠ 0)
      have h2 := Int.emod_lt_of_pos (v / 6) hp
      have h3 : (if lo + 4 < hi then lo + 4 else hi) ≤ hi := by split <;> omega
      exact k _ (by omega) (by omega)
/-! ### _law_two -/
def spTwo (K : PySem.W.Frag) : Sp := fun vs H Q _ => ∃ (a b : Int) (n : Addr) (ns : List Str), vs = [.int a, .int b, .ref n] ∧ SqL K H n (ns.map V.str) ∧ 2 ≤ ns.length ∧ ns.Nodup ∧
  ∀ (x y : Str) (H' : Hp) (t : Addr), EndsOk ns x y → Same H H' → H' t = some (.tup [.str x, .str y]) → Q (.ref t) H'
abbrev nTwo : List Str := ["_law_one", "_law_other", "_law_nodes", "_law_first", "_law_second"]
theorem scTwo : FnScope nTwo ["_law_one", "_law_other", "_law_nodes"] (defScope sTwo) := ⟨rfl, rfl, rfl, by decide +kernel, rfl, by decide +kernel, by decide +kernel⟩
theorem ok_two (T : Tx K mg) (D : Dfn K mg "_law_two" sTwo) : C8.Cal P w K mg base 1 "_law_two" (spTwo K) [] := by
  refine cal_of D scTwo (fun vs H Q E h => ?_) (fun _ _ _ _ _ _ us hl => match us, hl with | [_, _, _], _ => rfl) (fun f cdv A outer s0 H vs Q E hr h => ?_)
  · obtain ⟨a, b, n, ns, rfl, _⟩ := h
    rfl
  · obtain ⟨a, b, n, ns, rfl, hS, h2, nd, k⟩ := h
    refine ⟨_, pss_cons (ps_set (i := 3) scTwo.nd rfl (Or.inl rfl) (pe_op op_mod (pe_callTy call_int1 (by rfl) T.int (by decide +kernel) (pa_cons (pv 0) pa_nil)) (pe_callB call_len_seq (by rfl) T.len PySem.boot_len (pa_cons (pv 2) pa_nil))))
      (pss_cons (ps_set (i := 4) scTwo.nd rfl (Or.inl rfl) (pe_op op_mod (pe_op op_add (pe_op op_add (pv 3) pe_int) (pe_op op_mod (pe_callTy call_int1 (by rfl) T.int (by decide +kernel) (pa_cons (pv 1) pa_nil)) (pe_op op_sub (pe_callB call_len_seq (by rfl) T.len PySem.boot_len (pa_cons (pv 2) pa_nil)) pe_int)))
          (pe_callB call_len_seq (by rfl) T.len PySem.boot_len (pa_cons (pv 2) pa_nil))))
      (pss_one (ps_ret (pe_tup (pa_cons (pe_ix ix_list (pv 2) (pv 3) (fun _ _ => rfl)) (pa_cons (pe_ix ix_list (pv 2) (pv 4) (fun _ _ => rfl)) pa_nil)))))), ?_⟩
    have hl : ((ns.map V.str).length : Int) = (ns.length : Int) := by rw [List.length_map]
    obtain ⟨q1, q2, q3, q4, q5⟩ := ends_draw (a := a) (b := b) (n := (ns.length : Int)) (by omega)
    refine ⟨_, rfl, .inl ⟨_, rfl, _, rfl, n, _, rfl, .inl hS, _, _, rfl, rfl, by rw [hl]; omega, ?_⟩⟩
    refine ⟨_, rfl, _, _, rfl, rfl, _, rfl, .inl ⟨_, rfl, _, rfl, n, _, rfl, .inl hS, _, _, rfl, rfl, _, _, rfl, rfl, by rw [hl]; omega, _, _, rfl, rfl, _, rfl, n, _, rfl, .inl hS, _, _, rfl, rfl, by rw [hl]; omega, ?_⟩⟩
    dsimp only
    rw [hl]
    generalize a % (ns.length : Int) = i at *
    generalize (i + 1 + b % ((ns.length : Int) - 1)) % (ns.length : Int) = j at *
    obtain ⟨i, rfl⟩ := nat_of q1
    obtain ⟨j, rfl⟩ := nat_of q3
    have hi : i < ns.length := by omega
    have hj : j < ns.length := by omega
    have ei : ns[i]? = some ns[i] := List.getElem?_eq_getElem hi
    have ej : ns[j]? = some ns[j] := List.getElem?_eq_getElem hj
    refine ⟨_, rfl, _, rfl, n, _, _, _, rfl, rfl, hS, atI_nat (strs_at ei), _, rfl, _, rfl, n, _, _, _, rfl, rfl, hS, atI_nat (strs_at ej), by show 2 ≤ sizeLine; decide, fun t ht => ?_⟩
    refine k ns[i] ns[j] _ t ⟨List.getElem_mem hi, List.getElem_mem hj, fun e => ?_⟩ (same_up ht) upd_same
    rw [e] at ei
    have := nd_ix nd ei ej
    omega
end
end K7

namespace K7
open PySem PySem.Spec PyProof.Rows L2 ClX
theorem row_step {G H : Hp} {t r : Addr} {o o2 : HO} (s : Same G H) (gt : G t = none) (hr : H r = none) (n : t ≠ r) : Same G (upd G r o) ∧ Same (upd G r o) (upd (upd H r o) t o2) ∧ (upd G r o) t = none := by
  have gr := s.free hr
  refine ⟨same_up gr, fun b ob e => ?_, by rw [upd_ne n]; exact gt⟩
  have nbt : b ≠ t := fun z => by rw [z, upd_ne n, gt] at e; cases e
  rw [upd_ne nbt]
  by_cases hb : b = r
  · subst hb; rw [upd_same] at e ⊢; exact e
  · rw [upd_ne hb] at e ⊢
    exact s b ob e
theorem two_at (x y : Str) (u : Int) : ∃ v, atI [V.str x, V.str y] (u % 2) = some (.str v) ∧ (v = x ∨ v = y) := by
  obtain ⟨r, h1, h2⟩ := mod_nat u (show (0 : Int) < 2 by decide)
  rw [h1]
  have : r = 0 ∨ r = 1 := by omega
  rcases this with rfl | rfl
  · exact ⟨x, rfl, .inl rfl⟩
  · exact ⟨y, rfl, .inr rfl⟩
section
variable {P : Program} {w : World} {K : PySem.W.Frag} {mg : Str → Option Value} {base : Heap}
/-! ### _law_contact -/
def spContact (K : PySem.W.Frag) : Sp := fun vs H Q _ => ∃ (a n m : Addr) (at_ : Nat) (xs : List Int) (ns ms : List Str), vs = [.ref a, .int ((at_ : Nat) : Int), .ref n, .ref m] ∧ SqL K H a (xs.map V.int) ∧ at_ + 4 < xs.length ∧ SqL K H n (ns.map V.str) ∧ 2 ≤ ns.length ∧ ns.Nodup ∧ SqL K H m (ms.map V.str) ∧
  ∀ (c : Con) (H' : Hp) (t : Addr), ConOk ns ms c → Same H H' → H' t = some (.tup (con5 c)) → Q (.ref t) H'
abbrev nContact : List Str := ["_law_numbers_here", "_law_at", "_law_nodes", "_law_movers", "_law_ends", "_law_way", "_law_choice"]
theorem scContact : FnScope nContact ["_law_numbers_here", "_law_at", "_law_nodes", "_law_movers"] (defScope sContact) := ⟨rfl, rfl, rfl, by decide +kernel, rfl, by decide +kernel, by decide +kernel⟩
theorem ok_lcontact (T : Tx K mg) (D : Dfn K mg "_law_contact" sContact) (cT : C8.Cal P w K mg base 1 "_law_two" (spTwo K) []) : C8.Cal P w K mg base 2 "_law_contact" (spContact K) [] := by
  refine cal_of D scContact (fun vs H Q E h => ?_) (fun _ _ _ _ _ _ us hl => match us, hl with | [_, _, _, _], _ => rfl) (fun f cdv A outer s0 H vs Q E hr h => ?_)
  · obtain ⟨a, n, m, at_, xs, ns, ms, rfl, _⟩ := h
    rfl
  · obtain ⟨a, n, m, at_, xs, ns, ms, rfl, hS, h4, hN, h2, nd, hM, k⟩ := h
    refine ⟨_, pss_cons (ps_set (i := 4) scContact.nd rfl (Or.inl rfl) (C8.pe_c cT hr (by decide) (by rfl) (pa_cons (pe_ix ix_list (pv 0) (pv 1) (fun _ _ => rfl)) (pa_cons (pe_ix ix_list (pv 0) (pe_op op_add (pv 1) pe_int) (fun _ _ => rfl)) (pa_cons (pv 2) pa_nil)))))
      (pss_cons (ps_set (i := 5) scContact.nd rfl (Or.inl rfl) (pe_ix ix_list (pe_lst (pa_cons pe_str (pa_cons pe_str pa_nil))) (pe_op op_mod (pe_callTy call_int1 (by rfl) T.int (by decide +kernel) (pa_cons (pe_ix ix_list (pv 0) (pe_op op_add (pv 1) pe_int) (fun _ _ => rfl)) pa_nil)) pe_int) (fun _ _ => rfl)))
      (pss_cons (ps_set (i := 6) scContact.nd rfl (Or.inl rfl) (pe_op op_mod (pe_callTy call_int1 (by rfl) T.int (by decide +kernel) (pa_cons (pe_ix ix_list (pv 0) (pe_op op_add (pv 1) pe_int) (fun _ _ => rfl)) pa_nil)) (pe_op op_add (pe_callB call_len_seq (by rfl) T.len PySem.boot_len (pa_cons (pv 3) pa_nil)) pe_int)))
      (pss_cons (ps_if (pt_cmpR op_eq (pv 6) (pe_callB call_len_seq (by rfl) T.len PySem.boot_len (pa_cons (pv 3) pa_nil)) (nomark _))
        (pss_one (ps_ret (pe_tup (pa_cons (pe_ix ix_tup (pv 4) pe_int (fun _ _ => rfl)) (pa_cons (pe_ix ix_tup (pv 4) pe_int (fun _ _ => rfl)) (pa_cons pe_non (pa_cons pe_str (pa_cons (pv 5) pa_nil)))))))) pss_nil)
      (pss_one (ps_ret (pe_tup (pa_cons (pe_ix ix_tup (pv 4) pe_int (fun _ _ => rfl)) (pa_cons (pe_ix ix_tup (pv 4) pe_int (fun _ _ => rfl)) (pa_cons (pe_ix ix_list (pv 3) (pv 6) (fun _ _ => rfl))
        (pa_cons (pe_ix ix_list (pe_lst (pa_cons pe_str (pa_cons pe_str pa_nil))) (pe_op op_mod (pe_callTy call_int1 (by rfl) T.int (by decide +kernel) (pa_cons (pe_ix ix_list (pv 0) (pe_op op_add (pv 1) pe_int) (fun _ _ => rfl)) pa_nil)) pe_int) (fun _ _ => rfl)) (pa_cons (pv 5) pa_nil))))))))))), ?_⟩
    have ix : ∀ z : Int, 0 ≤ z → z < (xs.length : Int) → atI (xs.map V.int) z = some (.int (xs.getD z.toNat 0)) := fun z h0 h1 => num_at h0 h1
    refine ⟨_, rfl, _, rfl, a, _, _, _, rfl, rfl, hS, ix _ (by omega) (by omega), _, rfl, _, rfl, _, _, rfl, rfl, a, _, _, _, rfl, rfl, hS, ix _ (by omega) (by omega), _, rfl, _, _, n, ns, rfl, hN, h2, nd, fun x y H1 e hE s1 et => ?_⟩
    refine ⟨by show 2 ≤ sizeLine; decide, fun q hq => ?_⟩
    have s2 : Same H (upd H1 q (.lst [.str "both", .str "forward"])) := s1.knew hq
    have eq2 : (upd H1 q (.lst [.str "both", .str "forward"])) q = some (.lst [.str "both", .str "forward"]) := upd_same
    have et2 := (same_up (o := .lst [.str "both", .str "forward"]) hq) _ _ et
    generalize upd H1 q (.lst [.str "both", .str "forward"]) = H2 at s2 eq2 et2 ⊢
    obtain ⟨way, hw1, hw2⟩ := two_at "both" "forward" (xs.getD (((at_ : Nat) : Int) + 4).toNat 0)
    refine ⟨_, rfl, _, rfl, _, _, rfl, rfl, a, _, _, _, rfl, rfl, s2.seq hS, ix _ (by omega) (by omega), .inl ⟨_, rfl, _, _, rfl, rfl, (by show (0 : Int) < 2; decide), q, _, _, .str way, rfl, rfl, SqL.of eq2, hw1, ?_⟩⟩
    obtain ⟨ch, hc1, hc2⟩ := mod_nat (xs.getD (((at_ : Nat) : Int) + 2).toNat 0) (show (0 : Int) < ((ms.length : Nat) : Int) + 1 by omega)
    refine ⟨_, rfl, _, rfl, _, _, rfl, rfl, a, _, _, _, rfl, rfl, s2.seq hS, ix _ (by omega) (by omega), .inl ⟨_, rfl, _, rfl, m, _, rfl, .inl (s2.seq hM), _, _, rfl, rfl, _, _, rfl, rfl, by rw [List.length_map]; omega, ?_⟩⟩
    dsimp only
    rw [List.length_map, hc1]
    refine ⟨_, rfl, _, rfl, m, _, rfl, .inl (s2.seq hM), rfl, _, rfl, ?_⟩
    rw [List.length_map]
    by_cases hch : ch = ms.length
    · refine iteD (by rw [hch]) ?_
      refine ⟨_, rfl, e, _, _, V.str x, rfl, rfl, SqT.of et2, rfl, _, rfl, e, _, _, V.str y, rfl, rfl, SqT.of et2, rfl, _, rfl, by show 5 ≤ sizeLine; decide, fun t ht => ?_⟩
      exact k ⟨x, y, none, "make", way⟩ _ t ⟨hE, .inl rfl, hw2, fun _ z => (by cases z), fun _ => rfl⟩ (s2.knew ht) upd_same
    · refine iteDN (fun z => hch (by have := V.int.inj z; omega)) ?_
      have hlt : ch < ms.length := by omega
      refine ⟨_, rfl, e, _, _, V.str x, rfl, rfl, SqT.of et2, rfl, _, rfl, e, _, _, V.str y, rfl, rfl, SqT.of et2, rfl, _, rfl, _, rfl, m, _, _, _, rfl, rfl, s2.seq hM, atI_nat (strs_at (List.getElem?_eq_getElem hlt)), by show 2 ≤ sizeLine; decide, fun q2 hq2 => ?_⟩
      have s3 : Same H (upd H2 q2 (.lst [.str "make", .str "break"])) := s2.knew hq2
      obtain ⟨wh, hh1, hh2⟩ := two_at "make" "break" (xs.getD (((at_ : Nat) : Int) + 3).toNat 0)
      refine ⟨_, rfl, _, rfl, _, _, rfl, rfl, a, _, _, _, rfl, rfl, s3.seq hS, ix _ (by omega) (by omega), .inl ⟨_, rfl, _, _, rfl, rfl, (by show (0 : Int) < 2; decide), q2, _, _, .str wh, rfl, rfl, SqL.of upd_same, hh1, _, rfl, by show 5 ≤ sizeLine; decide, fun t ht => ?_⟩⟩
      exact k ⟨x, y, some ms[ch], wh, way⟩ _ t ⟨hE, hh2, hw2, fun z hz => (by cases hz; exact List.getElem_mem hlt), fun z => (by cases z)⟩ (s3.knew ht) upd_same
/-! ### _law_loads -/
def spLoads (K : PySem.W.Frag) : Sp := fun vs H Q _ => ∃ (a nm n : Addr) (at_ : Nat) (xs : List Int) (zs ns : List Str), vs = [.ref a, .int ((at_ : Nat) : Int), .ref nm, .ref n] ∧ SqL K H a (xs.map V.int) ∧ at_ + 2 * zs.length ≤ xs.length ∧ zs.length ≤ 100 ∧ SqL K H nm (zs.map V.str) ∧ SqL K H n (ns.map V.str) ∧ 2 ≤ ns.length ∧ ns.Nodup ∧
  ∀ (ls : List Load) (xr : List V) (H' : Hp) (t : Addr), ls.map (·.1) = zs → (∀ l ∈ ls, EndsOk ns l.2.1 l.2.2) → Same H H' → H' t = some (.lst xr) → RowsAt K H' xr (ls.map load3) → Q (.ref t) H'
abbrev nLoads : List Str := ["_law_numbers_here", "_law_at", "_law_names_here", "_law_nodes", "_law_loads_here", "_law_k", "_law_ends"]
theorem scLoads : FnScope nLoads ["_law_numbers_here", "_law_at", "_law_names_here", "_law_nodes"] (defScope sLoads) := ⟨rfl, rfl, rfl, by decide +kernel, rfl, by decide +kernel, by decide +kernel⟩
theorem ok_loads (T : Tx K mg) (D : Dfn K mg "_law_loads" sLoads) (cT : C8.Cal P w K mg base 1 "_law_two" (spTwo K) []) : C8.Cal P w K mg base 2 "_law_loads" (spLoads K) [] := by
  refine cal_of D scLoads (fun vs H Q E h => ?_) (fun _ _ _ _ _ _ us hl => match us, hl with | [_, _, _, _], _ => rfl) (fun f cdv A outer s0 H vs Q E hr h => ?_)
  · obtain ⟨a, nm, n, at_, xs, zs, ns, rfl, _⟩ := h
    rfl
  · obtain ⟨a, nm, n, at_, xs, zs, ns, rfl, hS, hat, h100, hZ, hN, h2, nd, k⟩ := h
    refine ⟨_, pss_cons (ps_set (i := 4) scLoads.nd rfl (Or.inl rfl) (pe_lst pa_nil))
      (pss_cons (ps_for PassesOwn.never rfl (pi_range1 (by rfl) T.range (pa_cons (pe_callB call_len_seq (by rfl) T.len PySem.boot_len (pa_cons (pv 2) pa_nil)) pa_nil)) (pg_name (i := 5) scLoads.nd rfl (Or.inl rfl))
        (pss_cons (ps_set (i := 6) scLoads.nd rfl (Or.inl rfl) (C8.pe_c cT hr (by decide) (by rfl) (pa_cons (pe_ix ix_list (pv 0) (pe_op op_add (pv 1) (pe_op op_mul pe_int (pv 5))) (fun _ _ => rfl)) (pa_cons (pe_ix ix_list (pv 0) (pe_op op_add (pe_op op_add (pv 1) pe_int) (pe_op op_mul pe_int (pv 5))) (fun _ _ => rfl)) (pa_cons (pv 3) pa_nil)))))
        (pss_one (ps_expr (pe_bm PySem.F.plainAttrs_list PySem.F.slot_list_append PySem.F.type_list_append mt_append (pv 4) (pa_cons (pe_tup (pa_cons (pe_ix ix_list (pv 2) (pv 5) (fun _ _ => rfl)) (pa_cons (pe_ix ix_tup (pv 6) pe_int (fun _ _ => rfl)) (pa_cons (pe_ix ix_tup (pv 6) pe_int (fun _ _ => rfl)) pa_nil)))) pa_nil))))))
      (pss_one (ps_ret (pv 4)))), ?_⟩
    have ix : ∀ z : Int, 0 ≤ z → z < (xs.length : Int) → atI (xs.map V.int) z = some (.int (xs.getD z.toNat 0)) := fun z h0 h1 => num_at h0 h1
    refine ⟨Nat.zero_le _, fun t ht => ?_⟩
    have s1 : Same H (upd H t (.lst [])) := same_up ht
    refine ⟨_, rfl, nm, _, rfl, .inl (s1.seq hZ), ((zs.length : Nat) : Int), by rw [List.length_map], by omega, by omega, for_range (lo := 0) (n := zs.length) (fun i σ H2 => ∃ (ls : List Load) (xr : List V) (G : Hp) (v5 v6 : Option V), σ = [some (.ref a), some (.int ((at_ : Nat) : Int)), some (.ref nm), some (.ref n), some (.ref t), v5, v6] ∧
      Same H G ∧ Same G H2 ∧ G t = none ∧ H2 t = some (.lst xr) ∧ RowsAt K G xr (ls.map load3) ∧ ls.length = i ∧ ls.map (·.1) = zs.take i ∧ ∀ l ∈ ls, EndsOk ns l.2.1 l.2.2)
      ⟨[], [], H, none, none, rfl, Same.refl H, s1, ht, upd_same, RowsAt.nil, rfl, rfl, fun l h => by cases h⟩ ?_ ?_⟩
    · rintro i σ H2 hi ⟨ls, xr, G, v5, v6, rfl, sHG, sG, gt, et, hR, hll, hnm, hE⟩
      have s2 := sHG.trans sG
      refine ⟨_, rfl, _, rfl, _, rfl, _, _, rfl, rfl, .inl ⟨by decide, by decide⟩, _, _, rfl, rfl, a, _, _, _, rfl, rfl, s2.seq hS, ix _ (by omega) (by omega), _, rfl, _, rfl, _, _, rfl, rfl, _, rfl, _, _, rfl, rfl, .inl ⟨by decide, by decide⟩, _, _, rfl, rfl, a, _, _, _, rfl, rfl, s2.seq hS, ix _ (by omega) (by omega), _, rfl, _, _, n, ns, rfl, s2.seq hN, h2, nd,
        fun x y H3 q hxy s3 eq => ?_⟩
      have et3 := s3 _ _ et
      have hz : zs[i]? = some zs[i] := List.getElem?_eq_getElem hi
      refine ⟨_, rfl, .inl ⟨rfl, _, SqL.of et3⟩, _, rfl, _, rfl, nm, _, _, V.str zs[i], rfl, rfl, (s2.trans s3).seq hZ, at_of (j := i) (by omega) (strs_at hz), _, rfl, q, _, _, V.str x, rfl, rfl, SqT.of eq, rfl, _, rfl, q, _, _, V.str y, rfl, rfl, SqT.of eq, rfl, by show 3 ≤ sizeLine; decide, fun r hr0 => ?_⟩
      have ntr : t ≠ r := fun z => by rw [← z, et3] at hr0; cases hr0
      have hxl : xr.length = i := by rw [hR.len, List.length_map, hll]
      refine ⟨t, xr, _, rfl, rfl, by rw [upd_ne ntr]; exact et3, big (by omega), ?_⟩
      obtain ⟨p1, p2, p3⟩ := row_step (o := .tup [.str zs[i], .str x, .str y]) (o2 := .lst (xr ++ [.ref r])) (sG.trans s3) gt hr0 ntr
      refine ⟨ls ++ [(zs[i], x, y)], xr ++ [.ref r], _, _, _, rfl, sHG.trans p1, p2, p3, upd_same, ?_, by rw [List.length_append, hll]; rfl, ?_, fun l hl => ?_⟩
      · rw [List.map_append]
        exact (hR.same p1).snoc (SqT.of upd_same)
      · rw [List.map_append, hnm, List.take_add_one, hz]
        rfl
      · rcases List.mem_append.mp hl with h | h
        · exact hE l h
        · rw [List.mem_singleton.mp h]
          exact hxy
    · rintro σ H2 ⟨ls, xr, G, v5, v6, rfl, sHG, sG, gt, et, hR, hll, hnm, hE⟩
      refine ⟨_, rfl, k ls xr H2 t ?_ hE (sHG.trans sG) et (hR.same sG)⟩
      rw [hnm, List.take_length]
/-! ### _law_parts -/
def spParts (K : PySem.W.Frag) : Sp := fun vs H Q _ => ∃ (a : Addr) (xs : List Int), vs = [.ref a] ∧ SqL K H a (xs.map V.int) ∧ xs.length = 254 ∧ ∀ (B : Parts) (H' : Hp) (p : Addr), Good B → Same H H' → PartsAt K H' p B → Q (.ref p) H'
abbrev nParts : List Str := ["_law_numbers_here", "_law_nodes", "_law_switches", "_law_movers", "_law_relays", "_law_lamps", "_law_contacts", "_law_k"]
theorem scParts : FnScope nParts ["_law_numbers_here"] (defScope sParts) := ⟨rfl, rfl, rfl, by decide +kernel, rfl, by decide +kernel, by decide +kernel⟩
theorem ok_parts (T : Tx K mg) (D : Dfn K mg "_law_parts" sParts) (cN : C8.Cal P w K mg base 1 "_law_names" (spNames K) []) (cC : C8.Cal P w K mg base 1 "_law_count" spCount []) (cL : C8.Cal P w K mg base 2 "_law_loads" (spLoads K) [])
    (cX : C8.Cal P w K mg base 2 "_law_contact" (spContact K) []) : C8.Cal P w K mg base 3 "_law_parts" (spParts K) [] := by
  refine cal_of D scParts (fun vs H Q E h => ?_) (fun _ _ _ _ _ _ us hl => match us, hl with | [_], _ => rfl) (fun f cdv A outer s0 H vs Q E hr h => ?_)
  · obtain ⟨a, xs, rfl, _⟩ := h
    rfl
  · obtain ⟨a, xs, rfl, hS, hl, k⟩ := h
    refine ⟨_, pss_cons (ps_set (i := 1) scParts.nd rfl (Or.inl rfl) (C8.pe_c cN hr (by decide) (by rfl) (pa_cons (pv 0) (pa_cons pe_int (pa_cons (C8.pe_c cC hr (by decide) (by rfl) (pa_cons (pe_ix ix_list (pv 0) pe_int (fun _ _ => rfl)) (pa_cons pe_int (pa_cons pe_int pa_nil)))) pa_nil)))))
      (pss_cons (ps_set (i := 2) scParts.nd rfl (Or.inl rfl) (C8.pe_c cC hr (by decide) (by rfl) (pa_cons (pe_ix ix_list (pv 0) pe_int (fun _ _ => rfl)) (pa_cons pe_int (pa_cons pe_int pa_nil)))))
      (pss_cons (ps_set (i := 3) scParts.nd rfl (Or.inl rfl) (C8.pe_c cN hr (by decide) (by rfl) (pa_cons (pv 0) (pa_cons pe_int (pa_cons (pe_op op_add (pv 2) (C8.pe_c cC hr (by decide) (by rfl) (pa_cons (pe_ix ix_list (pv 0) pe_int (fun _ _ => rfl)) (pa_cons pe_int (pa_cons pe_int pa_nil))))) pa_nil)))))
      (pss_cons (ps_set (i := 4) scParts.nd rfl (Or.inl rfl) (C8.pe_c cL hr (by decide) (by rfl) (pa_cons (pv 0) (pa_cons pe_int (pa_cons (pe_slice sl_list (pv 3) (po_some (pv 2)) po_none) (pa_cons (pv 1) pa_nil))))))
      (pss_cons (ps_set (i := 5) scParts.nd rfl (Or.inl rfl) (C8.pe_c cL hr (by decide) (by rfl) (pa_cons (pv 0) (pa_cons pe_int (pa_cons (C8.pe_c cN hr (by decide) (by rfl) (pa_cons (pv 0) (pa_cons pe_int (pa_cons (C8.pe_c cC hr (by decide) (by rfl) (pa_cons (pe_ix ix_list (pv 0) pe_int (fun _ _ => rfl)) (pa_cons pe_int (pa_cons pe_int pa_nil)))) pa_nil)))) (pa_cons (pv 1) pa_nil))))))
      (pss_cons (ps_set (i := 6) scParts.nd rfl (Or.inl rfl) (pe_lst pa_nil))
      (pss_cons (ps_for PassesOwn.never rfl (pi_range1 (by rfl) T.range (pa_cons (C8.pe_c cC hr (by decide) (by rfl) (pa_cons (pe_ix ix_list (pv 0) pe_int (fun _ _ => rfl)) (pa_cons pe_int (pa_cons pe_int pa_nil)))) pa_nil)) (pg_name (i := 7) scParts.nd rfl (Or.inl rfl))
        (pss_one (ps_expr (pe_bm PySem.F.plainAttrs_list PySem.F.slot_list_append PySem.F.type_list_append mt_append (pv 6) (pa_cons (C8.pe_c cX hr (by decide) (by rfl) (pa_cons (pv 0) (pa_cons (pe_op op_add pe_int (pe_op op_mul pe_int (pv 7))) (pa_cons (pv 1) (pa_cons (pv 3) pa_nil))))) pa_nil)))))
      (pss_one (ps_ret (pe_tup (pa_cons (pv 1) (pa_cons (pe_slice sl_list (pv 3) po_none (po_some (pv 2))) (pa_cons (pv 4) (pa_cons (pv 5) (pa_cons (pv 6) pa_nil)))))))))))))), ?_⟩
    have ix : ∀ z : Int, 0 ≤ z → z < 254 → atI (xs.map V.int) z = some (.int (xs.getD z.toNat 0)) := fun z h0 h1 => num_at h0 (by omega)
    -- nodes
    refine ⟨_, rfl, _, rfl, a, _, _, _, rfl, rfl, hS, ix 5 (by decide) (by decide), _, 2, 16, rfl, by decide, fun c1 hc1 hc2 => ?_⟩
    obtain ⟨c1, rfl⟩ := nat_of (by omega : 0 ≤ c1)
    refine ⟨a, 0, c1, xs, rfl, hS, by omega, by omega, fun ns H1 n hn1 hn2 hn3 s1 hn0 en => ?_⟩
    -- switches
    refine ⟨_, rfl, a, _, _, _, rfl, rfl, s1.seq hS, ix 11 (by decide) (by decide), _, 0, 6, rfl, by decide, fun c2 hc3 hc4 => ?_⟩
    obtain ⟨c2, rfl⟩ := nat_of hc3
    -- movers
    refine ⟨_, rfl, _, rfl, _, rfl, a, _, _, _, rfl, rfl, s1.seq hS, ix 12 (by decide) (by decide), _, 0, 8, rfl, by decide, fun c3 hc5 hc6 => ?_⟩
    obtain ⟨c3, rfl⟩ := nat_of hc5
    refine ⟨_, _, rfl, rfl, a, 6, c2 + c3, xs, by simp, s1.seq hS, by omega, by omega, fun ms H2 m hm1 hm2 hm3 s2 hm0 em => ?_⟩
    have s12 := s1.trans s2
    -- relays
    refine ⟨_, rfl, _, rfl, _, rfl, _, rfl, m, _, rfl, SqL.of em, fun q1 hq1 => ?_⟩
    rw [show cutV (ms.map V.str) (some ((c2 : Nat) : Int)) none = (ms.drop c2).map V.str by rw [List.map_drop]; exact cut_drop _ _]
    have sq1 : Same H2 (upd H2 q1 (.lst ((ms.drop c2).map V.str))) := same_up hq1
    have s13 := s12.trans sq1
    refine ⟨_, rfl, a, q1, n, 20, xs, ms.drop c2, ns, rfl, s13.seq hS, by rw [List.length_drop]; omega, by rw [List.length_drop]; omega, SqL.of upd_same, SqL.of (sq1 _ _ (s2 _ _ en)), by omega, hn3, fun rels xr H3 r hr1 hr2 s3 er hRr => ?_⟩
    have s14 := s13.trans s3
    -- lamps
    refine ⟨_, rfl, _, rfl, _, rfl, a, _, _, _, rfl, rfl, s14.seq hS, ix 18 (by decide) (by decide), _, 1, 8, rfl, by decide, fun c4 hc7 hc8 => ?_⟩
    obtain ⟨c4, rfl⟩ := nat_of (by omega : 0 ≤ c4)
    refine ⟨a, 13, c4, xs, rfl, s14.seq hS, by omega, by omega, fun ls H4 l hl1 hl2 hl3 s4 hl0 el => ?_⟩
    have s15 := s14.trans s4
    refine ⟨_, rfl, a, l, n, 36, xs, ls, ns, rfl, s15.seq hS, by omega, by omega, SqL.of el, SqL.of (s4 _ _ (s3 _ _ (sq1 _ _ (s2 _ _ en)))), by omega, hn3, fun lams xl H5 la hla1 hla2 s5 ela hRl => ?_⟩
    have s16 := s15.trans s5
    -- contacts
    refine ⟨Nat.zero_le _, fun t ht => ?_⟩
    have s6 : Same H5 (upd H5 t (.lst [])) := same_up ht
    have en5 := s5 _ _ (s4 _ _ (s3 _ _ (sq1 _ _ (s2 _ _ en))))
    have em5 := s5 _ _ (s4 _ _ (s3 _ _ (sq1 _ _ em)))
    refine ⟨_, rfl, a, _, _, _, rfl, rfl, (s16.trans s6).seq hS, ix 19 (by decide) (by decide), _, 0, 40, rfl, by decide, fun c5 hc9 hc10 => ?_⟩
    obtain ⟨c5, rfl⟩ := nat_of hc9
    refine ⟨_, rfl, by omega, by omega, for_range (lo := 0) (n := c5) (fun i σ H6 => ∃ (cs : List Con) (xc : List V) (G : Hp) (v7 : Option V), σ = [some (.ref a), some (.ref n), some (.int ((c2 : Nat) : Int)), some (.ref m), some (.ref r), some (.ref la), some (.ref t), v7] ∧
      Same H5 G ∧ Same G H6 ∧ G t = none ∧ H6 t = some (.lst xc) ∧ RowsAt K G xc (cs.map con5) ∧ cs.length = i ∧ ∀ c ∈ cs, ConOk ns ms c)
      ⟨[], [], H5, none, rfl, Same.refl _, s6, ht, upd_same, RowsAt.nil, rfl, fun c h => by cases h⟩ ?_ ?_⟩
    · rintro i σ H6 hi ⟨cs, xc, G, v7, rfl, sHG, sG, gt, et, hR, hcl, hok⟩
      have s7 := sHG.trans sG
      refine ⟨_, rfl, .inl ⟨rfl, _, SqL.of et⟩, _, rfl, _, rfl, _, _, rfl, rfl, .inl ⟨by decide, by decide⟩, _, _, rfl, rfl, _, rfl, _, rfl, a, n, m, 52 + 5 * i, xs, ns, ms, by simp, (s16.trans s7).seq hS, by omega, SqL.of (s7 _ _ en5), by omega, hn3, SqL.of (s7 _ _ em5), fun c H7 q hc s8 eq => ?_⟩
      have et7 := s8 _ _ et
      have hxl : xc.length = i := by rw [hR.len, List.length_map, hcl]
      refine ⟨t, xc, _, rfl, rfl, et7, big (by omega), ?_⟩
      have ntq : q ≠ t := fun z => by rw [z, et7] at eq; cases eq
      -- the new tuple joins what stands
      have hG7 : Same G (upd G q (.tup (con5 c))) ∧ Same (upd G q (.tup (con5 c))) (upd H7 t (.lst (xc ++ [.ref q]))) ∧ (upd G q (.tup (con5 c))) t = none := by
        have sg7 := sG.trans s8
        refine ⟨fun b o e => ?_, fun b o e => ?_, by rw [upd_ne (Ne.symm ntq)]; exact gt⟩
        · by_cases hb : b = q
          · subst hb
            have := sg7 _ _ e
            rw [eq] at this
            rw [upd_same]
            exact this
          · rw [upd_ne hb]; exact e
        · have nbt : b ≠ t := fun z => by rw [z, upd_ne (Ne.symm ntq), gt] at e; cases e
          rw [upd_ne nbt]
          by_cases hb : b = q
          · subst hb; rw [upd_same] at e; rw [eq]; exact e
          · rw [upd_ne hb] at e
            exact sg7 _ _ e
      obtain ⟨p1, p2, p3⟩ := hG7
      refine ⟨cs ++ [c], xc ++ [.ref q], _, _, rfl, sHG.trans p1, p2, p3, upd_same, ?_, by rw [List.length_append, hcl]; rfl, fun d hd => ?_⟩
      · rw [List.map_append]
        exact (hR.same p1).snoc (SqT.of upd_same)
      · rcases List.mem_append.mp hd with h | h
        · exact hok d h
        · rw [List.mem_singleton.mp h]
          exact hc
    · rintro σ H6 ⟨cs, xc, G, v7, rfl, sHG, sG, gt, et, hR, hcl, hok⟩
      have s7 := sHG.trans sG
      refine ⟨_, rfl, _, rfl, _, rfl, _, rfl, m, _, rfl, SqL.of (s7 _ _ em5), fun q2 hq2 => ?_⟩
      rw [show cutV (ms.map V.str) none (some ((c2 : Nat) : Int)) = (ms.take c2).map V.str by rw [List.map_take]; exact cut_take _ _]
      have s8 : Same H6 (upd H6 q2 (.lst ((ms.take c2).map V.str))) := same_up hq2
      refine ⟨_, rfl, _, rfl, _, rfl, by show 5 ≤ sizeLine; decide, fun p hp => ?_⟩
      have s9 : Same H6 (upd (upd H6 q2 (.lst ((ms.take c2).map V.str))) p (.tup [.ref n, .ref q2, .ref r, .ref la, .ref t])) := s8.knew hp
      have npq : q2 ≠ p := fun z => by rw [← z, upd_same] at hp; cases hp
      have em2 : ms.take c2 ++ rels.map (·.1) = ms := by rw [hr1, List.take_append_drop]
      have s59 := s7.trans s9
      refine k ⟨ns, ms.take c2, rels, lams, cs⟩ _ p ?_ (s16.trans s59) ⟨n, q2, r, la, t, xr, xl, xc, SqT.of upd_same, s59 _ _ en5, ?_, s59 _ _ (s5 _ _ (s4 _ _ er)), (hRr.same (s4.trans s5)).same s59, s59 _ _ ela, hRl.same s59, s9 _ _ et, (hR.same sG).same s9⟩
      · exact {
          n2 := by show 2 ≤ ns.length; omega
          n16 := by show ns.length ≤ 16; omega
          nn := hn2
          nd := hn3
          s6 := by show (ms.take c2).length ≤ 6; rw [List.length_take]; omega
          r8 := by
            show rels.length ≤ 8
            have : (rels.map (·.1)).length = (ms.drop c2).length := by rw [hr1]
            rw [List.length_map, List.length_drop] at this
            omega
          mn := by show ∀ z ∈ ms.take c2 ++ rels.map (·.1), IsNm z; rw [em2]; exact hm2
          md := by show (ms.take c2 ++ rels.map (·.1)).Nodup; rw [em2]; exact hm3
          l1 := by
            show 1 ≤ lams.length
            have : (lams.map (·.1)).length = ls.length := by rw [hla1]
            rw [List.length_map] at this
            omega
          l8 := by
            show lams.length ≤ 8
            have : (lams.map (·.1)).length = ls.length := by rw [hla1]
            rw [List.length_map] at this
            omega
          ln := by show ∀ z ∈ lams.map (·.1), IsNm z; rw [hla1]; exact hl2
          ld := by show (lams.map (·.1)).Nodup; rw [hla1]; exact hl3
          re := hr2
          le := hla2
          c40 := by show cs.length ≤ 40; omega
          ce := by show ∀ c ∈ cs, ConOk ns (ms.take c2 ++ rels.map (·.1)) c; rw [em2]; exact hok }
      · rw [upd_ne npq, upd_same]
end
end K7

namespace K7
open PySem PySem.Spec PyProof.Rows L2 ClX
/-! ### data -/
def movD : Option Str → PyData
  | none => .none
  | some m => .str m
def load3D (r : Load) : List PyData := [.str r.1, .str r.2.1, .str r.2.2]
def con5D (c : Con) : List PyData := [.str c.one, .str c.other, movD c.mov, .str c.whn, .str c.way]
section
variable {K : PySem.W.Frag} {H : Hp}
theorem dp_strs : ∀ zs : List Str, DpAll K H (zs.map V.str) (zs.map PyData.str)
  | [] => .nil
  | z :: zs => .cons (.str z) (dp_strs zs)
theorem dp_ints : ∀ zs : List Int, DpAll K H (zs.map V.int) (zs.map PyData.int)
  | [] => .nil
  | z :: zs => .cons (.int z) (dp_ints zs)
theorem dp_load (r : Load) : DpAll K H (load3 r) (load3D r) := .cons (.str _) (.cons (.str _) (.cons (.str _) .nil))
theorem dp_con (c : Con) : DpAll K H (con5 c) (con5D c) := by
  refine .cons (.str _) (.cons (.str _) (.cons ?_ (.cons (.str _) (.cons (.str _) .nil))))
  cases c.mov with
  | none => exact .non
  | some m => exact .str m
theorem dp_rows {α : Type} {f : α → List V} {g : α → List PyData} (h : ∀ x, DpAll K H (f x) (g x)) : ∀ {xs : List V} {ls : List α}, RowsAt K H xs (ls.map f) → DpAll K H xs (ls.map fun x => .tuple (g x))
  | [], [], _ => .nil
  | [], _ :: _, r => by have := r.len; simp at this
  | _ :: _, [], r => by have := r.len; simp at this
  | x :: xs, l :: ls, r => by
    obtain ⟨a, e1, e2⟩ := r.at_ 0 (f l) rfl
    have ex : x = .ref a := Option.some.inj e1
    subst ex
    refine .cons (.tup e2 (h l)) (dp_rows h ⟨by have := r.len; simpa using this, fun i q e => ?_⟩)
    exact r.at_ (i + 1) q e
end
/-- data of this depth at most, that can be laid -/
def okD (k : Nat) (d : PyData) : Prop := d.canLay0 = true ∧ d.depth ≤ k
theorem lay_all {k : Nat} : ∀ {ds : List PyData}, (∀ d ∈ ds, okD k d) → PyData.canLayAll0 ds = true ∧ PyData.depthAll ds ≤ k
  | [], _ => ⟨rfl, Nat.zero_le _⟩
  | d :: ds, h => by
    obtain ⟨a, b⟩ := h d List.mem_cons_self
    obtain ⟨c, e⟩ := lay_all fun x hx => h x (List.mem_cons_of_mem _ hx)
    refine ⟨?_, ?_⟩
    · show (d.canLay0 && PyData.canLayAll0 ds) = true
      rw [a, c]
      rfl
    · show max d.depth (PyData.depthAll ds) ≤ k
      omega
theorem okD_tup {k : Nat} {ds : List PyData} (h : ∀ d ∈ ds, okD k d) : okD (k + 1) (.tuple ds) := by
  obtain ⟨a, b⟩ := lay_all h
  exact ⟨a, by show PyData.depthAll ds + 1 ≤ k + 1; omega⟩
theorem okD_lst {k : Nat} {ds : List PyData} (h : ∀ d ∈ ds, okD k d) : okD (k + 1) (.list ds) := by
  obtain ⟨a, b⟩ := lay_all h
  exact ⟨a, by show PyData.depthAll ds + 1 ≤ k + 1; omega⟩
theorem okD.shaped {k : Nat} {d : PyData} (h : okD k d) (hk : k ≤ 64) : SeqAt.shaped d = true := by
  unfold SeqAt.shaped
  rw [h.1, Bool.true_and]
  exact decide_eq_true (Nat.le_trans h.2 hk)
theorem okD.refl {k : Nat} {d : PyData} (h : okD k d) : PyData.eqv d d = true := SeqAt.eqv_refl d h.1
def cpsOk (z : Str) : Bool := z.cps.all (· < 0x110000)
theorem okD_str {z : Str} (h : cpsOk z = true) : okD 0 (.str z) := ⟨h, Nat.le_refl _⟩
theorem okD_int (z : Int) : okD 0 (.int z) := ⟨rfl, Nat.le_refl _⟩
theorem chars_cp : (TL.tl nameChars).all (fun c => decide (c < 0x110000)) = true := by decide +kernel
theorem IsNm.cps {z : Str} (h : IsNm z) : cpsOk z = true := by
  unfold cpsOk
  rw [← Array.all_toList, List.all_eq_true]
  intro c hc
  exact List.all_eq_true.mp chars_cp c (h.2.2 c hc)
theorem cp_make : cpsOk "make" = true := by decide +kernel
theorem cp_break : cpsOk "break" = true := by decide +kernel
theorem cp_both : cpsOk "both" = true := by decide +kernel
theorem cp_forward : cpsOk "forward" = true := by decide +kernel
theorem ok_strsD {zs : List Str} (h : ∀ z ∈ zs, IsNm z) : okD 1 (.tuple (zs.map PyData.str)) := okD_tup fun d hd => by
  obtain ⟨z, hz, rfl⟩ := List.mem_map.mp hd
  exact okD_str (h z hz).cps
theorem ok_intsD (zs : List Int) : okD 1 (.list (zs.map PyData.int)) := okD_lst fun d hd => by
  obtain ⟨z, hz, rfl⟩ := List.mem_map.mp hd
  exact okD_int z
theorem ok_loadsD {N : List Str} {ls : List Load} (hN : ∀ z ∈ N, IsNm z) (h : ∀ r ∈ ls, IsNm r.1 ∧ EndsOk N r.2.1 r.2.2) : okD 2 (.tuple (ls.map fun x => .tuple (load3D x))) := okD_tup fun d hd => by
  obtain ⟨r, hr, rfl⟩ := List.mem_map.mp hd
  obtain ⟨a, b, c, _⟩ := h r hr
  refine okD_tup fun e he => ?_
  simp only [load3D, List.mem_cons, List.not_mem_nil, or_false] at he
  rcases he with rfl | rfl | rfl
  · exact okD_str a.cps
  · exact okD_str (hN _ b).cps
  · exact okD_str (hN _ c).cps
theorem ok_consD {N M : List Str} {cs : List Con} (hN : ∀ z ∈ N, IsNm z) (hM : ∀ z ∈ M, IsNm z) (h : ∀ c ∈ cs, ConOk N M c) : okD 2 (.tuple (cs.map fun x => .tuple (con5D x))) := okD_tup fun d hd => by
  obtain ⟨c, hc, rfl⟩ := List.mem_map.mp hd
  have C := h c hc
  obtain ⟨e1, e2, _⟩ := C.ends
  refine okD_tup fun e he => ?_
  simp only [con5D, List.mem_cons, List.not_mem_nil, or_false] at he
  rcases he with rfl | rfl | rfl | rfl | rfl
  · exact okD_str (hN _ e1).cps
  · exact okD_str (hN _ e2).cps
  · cases q : c.mov with
    | none => exact ⟨rfl, Nat.le_refl _⟩
    | some m => exact okD_str (hM m (C.mov m q)).cps
  · rcases C.whn with q | q <;> rw [q]
    · exact okD_str cp_make
    · exact okD_str cp_break
  · rcases C.way with q | q <;> rw [q]
    · exact okD_str cp_both
    · exact okD_str cp_forward
/-- the type of a tuple -/
theorem sqt_ty {K : PySem.W.Frag} {H : Hp} {a : Addr} {xs : List V} (h : SqT K H a xs) : TyX K H (.ref a) (.type "tuple") := by
  rcases h with (h | ⟨o, h⟩) | ⟨o, its, n, h, hc, _⟩
  · exact .base (.tup h)
  · exact .fTuple h
  · exact .kTuple h hc
theorem tup_tup {K : PySem.W.Frag} : PySem.W.kitOne K (.type "tuple") (.type "tuple") = some true := by
  unfold PySem.W.kitOne
  rw [if_pos (by decide +kernel)]
section
variable {P : Program} {w : World} {K : PySem.W.Frag} {mg : Str → Option Value} {base : Heap}
/-! ### _law_made -/
def spMade (K : PySem.W.Frag) : Sp := fun vs H Q _ => ∃ (q : Addr) (B : Parts), vs = [.ref q] ∧ PartsAt K H q B ∧ Good B ∧ ∀ (H' : Hp) (p : Addr), Same H H' → BoardAt K H' p B → Q (.ref p) H'
theorem scMade : FnScope ["_law_parts_here"] ["_law_parts_here"] (defScope sMade) := ⟨rfl, rfl, rfl, by decide +kernel, rfl, by decide +kernel, by decide +kernel⟩
theorem ok_made (T : Tx K mg) (D : Dfn K mg "_law_made" sMade) (cB : MakB P w K mg base) : C8.Cal P w K mg base 5 "_law_made" (spMade K) [] := by
  refine cal_of D scMade (fun vs H Q E h => ?_) (fun _ _ _ _ _ _ us hl => match us, hl with | [_], _ => rfl) (fun f cdv A outer s0 H vs Q E hr h => ?_)
  · obtain ⟨q, B, rfl, _⟩ := h
    rfl
  · obtain ⟨q, B, rfl, hP, hB, k⟩ := h
    obtain ⟨n, s, r, l, c, xr, xl, xc, ht, hn, hs, hr', hRr, hl, hRl, hc, hRc⟩ := hP.ex
    refine ⟨_, pss_one (ps_ret (pe_board cB hr (by decide) (by rfl) T.board
      (pk_cons (pe_callTy call_list_of (by rfl) T.list (by decide +kernel) (pa_cons (pe_ix ix_tup (pv 0) pe_int (fun _ _ => rfl)) pa_nil)) (pk_cons (pe_callTy call_list_of (by rfl) T.list (by decide +kernel) (pa_cons (pe_ix ix_tup (pv 0) pe_int (fun _ _ => rfl)) pa_nil))
      (pk_cons (pe_callTy call_list_of (by rfl) T.list (by decide +kernel) (pa_cons (pe_ix ix_tup (pv 0) pe_int (fun _ _ => rfl)) pa_nil)) (pk_cons (pe_callTy call_list_of (by rfl) T.list (by decide +kernel) (pa_cons (pe_ix ix_tup (pv 0) pe_int (fun _ _ => rfl)) pa_nil))
      (pk_cons (pe_callTy call_list_of (by rfl) T.list (by decide +kernel) (pa_cons (pe_ix ix_tup (pv 0) pe_int (fun _ _ => rfl)) pa_nil)) pk_nil))))))), ?_⟩
    refine ⟨_, rfl, q, _, _, V.ref n, rfl, rfl, ht, rfl, n, _, rfl, .inl (SqL.of hn), fun n1 hn1 => ?_⟩
    have s1 : Same H (upd H n1 (.lst (B.nodes.map V.str))) := same_up hn1
    have e1 : (upd H n1 (.lst (B.nodes.map V.str))) n1 = some (.lst (B.nodes.map V.str)) := upd_same
    generalize upd H n1 (.lst (B.nodes.map V.str)) = H1 at s1 e1 ⊢
    refine ⟨_, rfl, q, _, _, V.ref s, rfl, rfl, s1.ktup ht, rfl, s, _, rfl, .inl (SqL.of (s1 _ _ hs)), fun n2 hn2 => ?_⟩
    have s2 : Same H1 (upd H1 n2 (.lst (B.sws.map V.str))) := same_up hn2
    have e2 : (upd H1 n2 (.lst (B.sws.map V.str))) n2 = some (.lst (B.sws.map V.str)) := upd_same
    generalize upd H1 n2 (.lst (B.sws.map V.str)) = H2 at s2 e2 ⊢
    have s12 := s1.trans s2
    refine ⟨_, rfl, q, _, _, V.ref r, rfl, rfl, s12.ktup ht, rfl, r, _, rfl, .inl (SqL.of (s12 _ _ hr')), fun n3 hn3 => ?_⟩
    have s3 : Same H2 (upd H2 n3 (.lst xr)) := same_up hn3
    have e3 : (upd H2 n3 (.lst xr)) n3 = some (.lst xr) := upd_same
    generalize upd H2 n3 (.lst xr) = H3 at s3 e3 ⊢
    have s13 := s12.trans s3
    refine ⟨_, rfl, q, _, _, V.ref l, rfl, rfl, s13.ktup ht, rfl, l, _, rfl, .inl (SqL.of (s13 _ _ hl)), fun n4 hn4 => ?_⟩
    have s4 : Same H3 (upd H3 n4 (.lst xl)) := same_up hn4
    have e4 : (upd H3 n4 (.lst xl)) n4 = some (.lst xl) := upd_same
    generalize upd H3 n4 (.lst xl) = H4 at s4 e4 ⊢
    have s14 := s13.trans s4
    refine ⟨_, rfl, q, _, _, V.ref c, rfl, rfl, s14.ktup ht, rfl, c, _, rfl, .inl (SqL.of (s14 _ _ hc)), fun n5 hn5 => ?_⟩
    have s5 : Same H4 (upd H4 n5 (.lst xc)) := same_up hn5
    have e5 : (upd H4 n5 (.lst xc)) n5 = some (.lst xc) := upd_same
    generalize upd H4 n5 (.lst xc) = H5 at s5 e5 ⊢
    have s15 := s14.trans s5
    refine ⟨rfl, rfl, fun x dx nx ndx nex => ?_⟩
    have s6 : Same H5 (upd (upd H5 dx (.own x)) x (.ins (aB K) dx [])) := (same_up ndx).knew (by rw [upd_ne (Ne.symm nex)]; exact nx)
    have z2 := (s3.trans s4).trans (s5.trans s6)
    refine ⟨x, dx, n1, n4, n2, n3, n5, xr, xl, xc, B, rfl, upd_same, hB, SqL.of (z2 _ _ (s2 _ _ e1)), SqL.of (z2 _ _ e2), SqL.of (s6 _ _ (s5 _ _ (s4 _ _ e3))), (hRr.same s15).same s6, SqL.of (s6 _ _ (s5 _ _ e4)), (hRl.same s15).same s6, SqL.of (s6 _ _ e5), (hRc.same s15).same s6, fun H7 s7 hb => ⟨rfl, ?_⟩⟩
    refine k H7 x (s15.trans (Same.trans ?_ s7)) hb
    rw [del_upd]
    exact same_del (same_up ndx) nx
/-! ### _law_same -/
def spSame (K : PySem.W.Frag) : Sp := fun vs H Q _ => ∃ (p q : Addr) (B : Parts), vs = [.ref p, .ref q] ∧ BoardAt K H p B ∧ PartsAt K H q B ∧ Good B ∧ ∀ H' : Hp, Same H H' → Q (.bl true) H'
theorem scSame : FnScope ["_law_board", "_law_parts_here", "_law_field"] ["_law_board", "_law_parts_here"] (defScope sSame) := ⟨rfl, rfl, rfl, by decide +kernel, rfl, by decide +kernel, by decide +kernel⟩
theorem ok_same (T : Tx K mg) (D : Dfn K mg "_law_same" sSame) : C8.Cal P w K mg base 1 "_law_same" (spSame K) [] := by
  refine cal_of D scSame (fun vs H Q E h => ?_) (fun _ _ _ _ _ _ us hl => match us, hl with | [_, _], _ => rfl) (fun f cdv A outer s0 H vs Q E hr h => ?_)
  · obtain ⟨p, q, B, rfl, _⟩ := h
    rfl
  · obtain ⟨p, q, B, rfl, hBo, hP, hG, k⟩ := h
    refine ⟨_, pss_cons (ps_for PassesOwn.never rfl (pi_list (pe_lst (pa_cons (pe_fld (pv 0) rfl) (pa_cons (pe_fld (pv 0) rfl) (pa_cons (pe_fld (pv 0) rfl) (pa_cons (pe_fld (pv 0) rfl) (pa_cons (pe_fld (pv 0) rfl) pa_nil))))))) (pg_name (i := 2) scSame.nd rfl (Or.inl rfl))
        (pss_one (ps_if (pt_not (pt_val (pe_callB call_isi (by rfl) T.isinstance (by decide +kernel) (pa_cons (pv 2) (pa_cons (pe_bltn (v := .ty "tuple") (u := .type "tuple") (by rfl) T.tuple (by decide +kernel) rfl) pa_nil))))) (pss_one (ps_ret pe_bl)) pss_nil)))
      (pss_cons (ps_if (PW.pt (pw_or (pt_cmpR (op_neD hr.units) (pe_fld (pv 0) rfl) (pe_callTy call_tuple_of (by rfl) T.tuple (by decide +kernel) (pa_cons (pe_ix ix_tup (pv 1) pe_int (fun _ _ => rfl)) pa_nil)) (nomark _))
          (pw_or (pt_cmpR (op_neD hr.units) (pe_fld (pv 0) rfl) (pe_callTy call_tuple_of (by rfl) T.tuple (by decide +kernel) (pa_cons (pe_ix ix_tup (pv 1) pe_int (fun _ _ => rfl)) pa_nil)) (nomark _))
          (pw_or1 (pt_cmpR (op_neD hr.units) (pe_fld (pv 0) rfl) (pe_callTy call_tuple_of (by rfl) T.tuple (by decide +kernel) (pa_cons (pe_ix ix_tup (pv 1) pe_int (fun _ _ => rfl)) pa_nil)) (nomark _)))))) (pss_one (ps_ret pe_bl)) pss_nil)
      (pss_one (ps_ret (pe_and (pe_cmpR (op_eqD hr.units) (pe_fld (pv 0) rfl) (pe_callTy call_tuple_of (by rfl) T.tuple (by decide +kernel) (pa_cons (pe_ix ix_tup (pv 1) pe_int (fun _ _ => rfl)) pa_nil)) (nomark _))
          (pe_one (pe_cmpR (op_eqD hr.units) (pe_fld (pv 0) rfl) (pe_callTy call_tuple_of (by rfl) T.tuple (by decide +kernel) (pa_cons (pe_ix ix_tup (pv 1) pe_int (fun _ _ => rfl)) pa_nil)) (nomark _))))))), ?_⟩
    obtain ⟨dx, n, s, r, l, c, xr, xl, xc, hp, hn, hs, hRr, hRr', hRl, hRl', hRc, hRc'⟩ := hBo.ex
    refine ⟨_, rfl, p, aB K, dx, _, _, rfl, hp, T.clB, T.bN 0 rfl, zip_lookup (i := 0) BN_nd rfl rfl, _, rfl, p, aB K, dx, _, _, rfl, hp, T.clB, T.bN 1 rfl, zip_lookup (i := 1) BN_nd rfl rfl, _, rfl, p, aB K, dx, _, _, rfl, hp, T.clB, T.bN 2 rfl, zip_lookup (i := 2) BN_nd rfl rfl,
      _, rfl, p, aB K, dx, _, _, rfl, hp, T.clB, T.bN 3 rfl, zip_lookup (i := 3) BN_nd rfl rfl, _, rfl, p, aB K, dx, _, _, rfl, hp, T.clB, T.bN 4 rfl, zip_lookup (i := 4) BN_nd rfl rfl, by show 5 ≤ sizeLine; decide, fun f1 hf1 => ?_⟩
    have s1 : Same H (upd H f1 (.lst [.ref n, .ref s, .ref r, .ref l, .ref c])) := same_up hf1
    have e1 : (upd H f1 (.lst [.ref n, .ref s, .ref r, .ref l, .ref c])) f1 = some (.lst [.ref n, .ref s, .ref r, .ref l, .ref c]) := upd_same
    generalize upd H f1 (.lst [.ref n, .ref s, .ref r, .ref l, .ref c]) = H1 at s1 e1 ⊢
    refine ⟨f1, rfl, ⟨_, SqL.of e1⟩, for_list (K := K) (a := f1) (xs := [.ref n, .ref s, .ref r, .ref l, .ref c]) (fun i σ H2 => ∃ v2, σ = [some (.ref p), some (.ref q), v2] ∧ H2 = H1) ⟨none, rfl, rfl⟩ (fun i σ H2 _ ⟨_, _, e⟩ => e ▸ SqL.of e1) ?_ ?_⟩
    · rintro i x σ H2 hi ⟨v2, rfl, rfl⟩
      obtain ⟨a, xs, rfl, ha⟩ : ∃ a xs, x = .ref a ∧ SqT K H2 a xs := by
        have hm := List.mem_of_getElem? hi
        simp only [List.mem_cons, List.not_mem_nil, or_false] at hm
        rcases hm with rfl | rfl | rfl | rfl | rfl
        · exact ⟨n, _, rfl, s1.ktup hn⟩
        · exact ⟨s, _, rfl, s1.ktup hs⟩
        · exact ⟨r, _, rfl, s1.ktup hRr⟩
        · exact ⟨l, _, rfl, s1.ktup hRl⟩
        · exact ⟨c, _, rfl, s1.ktup hRc⟩
      refine ⟨_, rfl, _, _, _, _, true, rfl, .ty "tuple", sqt_ty ha, tup_tup, true, rfl, ?_⟩
      exact iteF ⟨_, rfl, rfl⟩
    · rintro σ H2 ⟨v2, rfl, rfl⟩
      obtain ⟨n', s', r', l', c', yr, yl, yc, ht, hn', hs', hr', hYr, hl', hYl, hc', hYc⟩ := (hP.same s1).ex
      have hp2 := s1 _ _ hp
      have hnm := hG.nn
      have hsm : ∀ z ∈ B.sws, IsNm z := fun z hz => hG.mn z (List.mem_append_left _ hz)
      have dn := ok_strsD hnm
      have ds := ok_strsD hsm
      have dr := ok_loadsD hnm fun r hr => ⟨hG.relN hr, hG.re r hr⟩
      have dl := ok_loadsD hnm fun r hr => ⟨hG.lamN hr, hG.le r hr⟩
      have dc := ok_consD hnm hG.mn hG.ce
      -- nodes
      refine ⟨_, rfl, p, aB K, dx, _, _, rfl, hp2, T.clB, T.bN 0 rfl, zip_lookup (i := 0) BN_nd rfl rfl, _, rfl, q, _, _, V.ref n', rfl, rfl, ht, rfl, n', _, rfl, .inl ⟨SqL.of hn', fun q1 hq1 => ?_⟩⟩
      have t1 : Same H2 (upd H2 q1 (.tup (B.nodes.map V.str))) := same_up hq1
      refine ⟨_, _, .tup (t1.ktup (s1.ktup hn)) (dp_strs _), .tup (SqT.of upd_same) (dp_strs _), dn.shaped (by decide), dn.shaped (by decide), _, rfl, ?_⟩
      refine cfalse (by rw [dn.refl]; rfl) ?_
      generalize upd H2 q1 (.tup (B.nodes.map V.str)) = H3 at t1 ⊢
      -- switches
      refine ⟨_, rfl, p, aB K, dx, _, _, rfl, t1 _ _ hp2, T.clB, T.bN 1 rfl, zip_lookup (i := 1) BN_nd rfl rfl, _, rfl, q, _, _, V.ref s', rfl, rfl, t1.ktup ht, rfl, s', _, rfl, .inl ⟨SqL.of (t1 _ _ hs'), fun q2 hq2 => ?_⟩⟩
      have t2 : Same H2 (upd H3 q2 (.tup (B.sws.map V.str))) := t1.knew hq2
      refine ⟨_, _, .tup (t2.ktup (s1.ktup hs)) (dp_strs _), .tup (SqT.of upd_same) (dp_strs _), ds.shaped (by decide), ds.shaped (by decide), _, rfl, ?_⟩
      refine cfalse (by rw [ds.refl]; rfl) ?_
      generalize upd H3 q2 (.tup (B.sws.map V.str)) = H4 at t2 ⊢
      -- relays
      refine ⟨_, rfl, p, aB K, dx, _, _, rfl, t2 _ _ hp2, T.clB, T.bN 2 rfl, zip_lookup (i := 2) BN_nd rfl rfl, _, rfl, q, _, _, V.ref r', rfl, rfl, t2.ktup ht, rfl, r', _, rfl, .inl ⟨SqL.of (t2 _ _ hr'), fun q3 hq3 => ?_⟩⟩
      have t3 : Same H2 (upd H4 q3 (.tup yr)) := t2.knew hq3
      refine ⟨_, _, .tup (t3.ktup (s1.ktup hRr)) (dp_rows dp_load ((hRr'.same s1).same t3)), .tup (SqT.of upd_same) (dp_rows dp_load (hYr.same t3)), dr.shaped (by decide), dr.shaped (by decide), _, rfl, ?_⟩
      refine cfalse (by rw [dr.refl]; rfl) ?_
      generalize upd H4 q3 (.tup yr) = H5 at t3 ⊢
      -- lamps
      refine ⟨_, rfl, p, aB K, dx, _, _, rfl, t3 _ _ hp2, T.clB, T.bN 3 rfl, zip_lookup (i := 3) BN_nd rfl rfl, _, rfl, q, _, _, V.ref l', rfl, rfl, t3.ktup ht, rfl, l', _, rfl, .inl ⟨SqL.of (t3 _ _ hl'), fun q4 hq4 => ?_⟩⟩
      have t4 : Same H2 (upd H5 q4 (.tup yl)) := t3.knew hq4
      refine ⟨_, _, .tup (t4.ktup (s1.ktup hRl)) (dp_rows dp_load ((hRl'.same s1).same t4)), .tup (SqT.of upd_same) (dp_rows dp_load (hYl.same t4)), dl.shaped (by decide), dl.shaped (by decide), _, rfl, ?_⟩
      refine ctrue (by rw [dl.refl]) ?_
      generalize upd H5 q4 (.tup yl) = H6 at t4 ⊢
      -- contacts
      refine ⟨_, rfl, p, aB K, dx, _, _, rfl, t4 _ _ hp2, T.clB, T.bN 4 rfl, zip_lookup (i := 4) BN_nd rfl rfl, _, rfl, q, _, _, V.ref c', rfl, rfl, t4.ktup ht, rfl, c', _, rfl, .inl ⟨SqL.of (t4 _ _ hc'), fun q5 hq5 => ?_⟩⟩
      have t5 : Same H2 (upd H6 q5 (.tup yc)) := t4.knew hq5
      refine ⟨_, _, .tup (t5.ktup (s1.ktup hRc)) (dp_rows dp_con ((hRc'.same s1).same t5)), .tup (SqT.of upd_same) (dp_rows dp_con (hYc.same t5)), dc.shaped (by decide), dc.shaped (by decide), ?_⟩
      rw [dc.refl]
      exact k _ (s1.trans t5)
end
end K7

namespace K7
open PySem PySem.Spec PyProof.Rows L2 ClX
theorem sm {n : Nat} (h : n ≤ 1000) : n ≤ sizeLine := Nat.le_trans h (by decide)
theorem line_sub (x : Str) {ns : List Str} (h : LineOk (x :: ns)) (i : Nat) : (lineOf (x :: ns.take i)).length ≤ 221 := by
  refine LineOk.le ⟨by simp, ?_, fun z hz => ?_⟩
  · have := h.len
    simp only [List.length_cons, List.length_take] at this ⊢
    omega
  · rcases List.mem_cons.mp hz with rfl | hz
    · exact h.ok _ List.mem_cons_self
    · exact h.ok z (List.mem_cons_of_mem _ (List.mem_of_mem_take hz))
theorem line_one (x : Str) : lineOf [x] = x := by
  unfold lineOf
  rw [← TL.join_eq]
  rfl
section
variable {P : Program} {w : World} {K : PySem.W.Frag} {mg : Str → Option Value} {base : Heap}
/-! ### _law_lines -/
def spLines (K : PySem.W.Frag) : Sp := fun vs H Q _ => ∃ (q : Addr) (B : Parts), vs = [.ref q] ∧ PartsAt K H q B ∧ Good B ∧ ∀ (H' : Hp) (t : Addr), Same H H' → H' t = some (.lst ((linesOf B).map V.str)) → Q (.ref t) H'
abbrev nLines : List Str := ["_law_parts_here", "_law_lines_here", "_law_node", "_law_switch", "_law_relay", "_law_lamp", "_law_contact_here", "_law_mover"]
theorem scLines : FnScope nLines ["_law_parts_here"] (defScope sLines) := ⟨rfl, rfl, rfl, by decide +kernel, rfl, by decide +kernel, by decide +kernel⟩
theorem ok_lines (T : Tx K mg) (D : Dfn K mg "_law_lines" sLines) : C8.Cal P w K mg base 1 "_law_lines" (spLines K) [] := by
  refine cal_of D scLines (fun vs H Q E h => ?_) (fun _ _ _ _ _ _ us hl => match us, hl with | [_], _ => rfl) (fun f cdv A outer s0 H vs Q E hr h => ?_)
  · obtain ⟨q, B, rfl, _⟩ := h
    rfl
  · obtain ⟨q, B, rfl, hP, G, k⟩ := h
    refine ⟨_, pss_cons (ps_set (i := 1) scLines.nd rfl (Or.inl rfl) (pe_lst (pa_cons pe_str (pa_cons pe_str pa_nil))))
      (pss_cons (ps_for PassesOwn.never rfl (pi_list (pe_ix ix_tup (pv 0) pe_int (fun _ _ => rfl))) (pg_name (i := 2) scLines.nd rfl (Or.inl rfl))
        (pss_one (ps_asg (pe_op op_add_str (pe_op op_add_str (pe_ix ix_list (pv 1) pe_int (fun _ _ => rfl)) pe_str) (pv 2)) (pg_sub (pv 1) pe_int set_list))))
      (pss_cons (ps_for PassesOwn.never rfl (pi_list (pe_ix ix_tup (pv 0) pe_int (fun _ _ => rfl))) (pg_name (i := 3) scLines.nd rfl (Or.inl rfl))
        (pss_one (ps_asg (pe_op op_add_str (pe_op op_add_str (pe_ix ix_list (pv 1) pe_int (fun _ _ => rfl)) pe_str) (pv 3)) (pg_sub (pv 1) pe_int set_list))))
      (pss_cons (ps_for PassesOwn.never rfl (pi_list (pe_ix ix_tup (pv 0) pe_int (fun _ _ => rfl))) (pg_name (i := 4) scLines.nd rfl (Or.inl rfl))
        (pss_one (ps_expr (pe_bm PySem.F.plainAttrs_list PySem.F.slot_list_append PySem.F.type_list_append mt_append (pv 1) (pa_cons (pe_op op_add_str (pe_op op_add_str (pe_op op_add_str (pe_op op_add_str (pe_op op_add_str pe_str (pe_ix ix_tup (pv 4) pe_int (fun _ _ => rfl))) pe_str) (pe_ix ix_tup (pv 4) pe_int (fun _ _ => rfl))) pe_str) (pe_ix ix_tup (pv 4) pe_int (fun _ _ => rfl))) pa_nil)))))
      (pss_cons (ps_for PassesOwn.never rfl (pi_list (pe_ix ix_tup (pv 0) pe_int (fun _ _ => rfl))) (pg_name (i := 5) scLines.nd rfl (Or.inl rfl))
        (pss_one (ps_expr (pe_bm PySem.F.plainAttrs_list PySem.F.slot_list_append PySem.F.type_list_append mt_append (pv 1) (pa_cons (pe_op op_add_str (pe_op op_add_str (pe_op op_add_str (pe_op op_add_str (pe_op op_add_str pe_str (pe_ix ix_tup (pv 5) pe_int (fun _ _ => rfl))) pe_str) (pe_ix ix_tup (pv 5) pe_int (fun _ _ => rfl))) pe_str) (pe_ix ix_tup (pv 5) pe_int (fun _ _ => rfl))) pa_nil)))))
      (pss_cons (ps_for PassesOwn.never rfl (pi_list (pe_ix ix_tup (pv 0) pe_int (fun _ _ => rfl))) (pg_name (i := 6) scLines.nd rfl (Or.inl rfl))
        (pss_cons (ps_set (i := 7) scLines.nd rfl (Or.inl rfl) (pe_ix ix_tup (pv 6) pe_int (fun _ _ => rfl))) (pss_cons (ps_if (pt_cmpR op_isN (pv 7) pe_non (nomark _)) (pss_one (ps_set (i := 7) scLines.nd rfl (Or.inl rfl) pe_str)) pss_nil)
        (pss_one (ps_expr (pe_bm PySem.F.plainAttrs_list PySem.F.slot_list_append PySem.F.type_list_append mt_append (pv 1) (pa_cons (pe_op op_add_str (pe_op op_add_str (pe_op op_add_str (pe_op op_add_str (pe_op op_add_str (pe_op op_add_str (pe_op op_add_str (pe_op op_add_str (pe_op op_add_str pe_str
            (pe_ix ix_tup (pv 6) pe_int (fun _ _ => rfl))) pe_str) (pe_ix ix_tup (pv 6) pe_int (fun _ _ => rfl))) pe_str) (pv 7)) pe_str) (pe_ix ix_tup (pv 6) pe_int (fun _ _ => rfl))) pe_str) (pe_ix ix_tup (pv 6) pe_int (fun _ _ => rfl))) pa_nil)))))))
      (pss_one (ps_ret (pv 1)))))))), ?_⟩
    obtain ⟨n, s, r, l, c, xr, xl, xc, ht, hn, hs, hr', hRr, hl, hRl, hc, hRc⟩ := hP.ex
    refine ⟨by show 2 ≤ sizeLine; decide, fun m hm => ?_⟩
    have s0' : Same H (upd H m (.lst [.str "nodes", .str "switches"])) := same_up hm
    have e0 : (upd H m (.lst [.str "nodes", .str "switches"])) m = some (.lst [.str (lineOf ("nodes" :: B.nodes.take 0)), .str "switches"]) := by
      rw [List.take_zero, line_one]
      exact upd_same
    generalize upd H m (.lst [.str "nodes", .str "switches"]) = H0 at s0' e0 ⊢
    -- nodes
    refine ⟨_, rfl, q, _, _, V.ref n, rfl, rfl, s0'.ktup ht, rfl, n, rfl, ⟨_, SqL.of (s0' _ _ hn)⟩, for_list (K := K) (a := n) (xs := B.nodes.map V.str)
      (fun i σ H4 => ∃ v2, σ = [some (.ref q), some (.ref m), v2, none, none, none, none, none] ∧ Same H H4 ∧ H4 m = some (.lst [.str (lineOf ("nodes" :: B.nodes.take i)), .str "switches"])) ⟨none, rfl, s0', e0⟩ (fun i σ H4 _ ⟨_, _, z, _⟩ => SqL.of (z _ _ hn)) ?_ ?_⟩
    · rintro i x σ H4 hi ⟨v2, rfl, s4, e4⟩
      rw [List.getElem?_map] at hi
      obtain ⟨z, hz, rfl⟩ : ∃ z, B.nodes[i]? = some z ∧ x = .str z := by
        cases e : B.nodes[i]? with
        | none => rw [e] at hi; cases hi
        | some z => rw [e] at hi; exact ⟨z, rfl, (Option.some.inj hi).symm⟩
      have b1 := line_sub "nodes" G.ln0 i
      have b2 := okW_len (G.node (List.mem_of_getElem? hz))
      refine ⟨_, rfl, m, _, _, V.str (lineOf ("nodes" :: B.nodes.take i)), rfl, rfl, SqL.of e4, rfl, _, _, rfl, rfl, sm (by simp only [len_sp]; omega), _, rfl, _, _, rfl, rfl, sm (by simp only [len_app, len_sp]; omega), _, rfl, m, _, _, 0, rfl, rfl, e4, rfl, ?_⟩
      refine ⟨_, rfl, s4.kput hm, ?_⟩
      rw [upd_same, line_take _ _ hz]
      rfl
    · rintro σ H4 ⟨v2, rfl, s4, e4⟩
      rw [List.length_map, List.take_length] at e4
      have e4' : H4 m = some (.lst [.str (lineOf ("nodes" :: B.nodes)), .str (lineOf ("switches" :: B.sws.take 0))]) := by
        rw [List.take_zero, line_one]
        exact e4
      -- switches
      refine ⟨_, rfl, q, _, _, V.ref s, rfl, rfl, s4.ktup ht, rfl, s, rfl, ⟨_, SqL.of (s4 _ _ hs)⟩, for_list (K := K) (a := s) (xs := B.sws.map V.str)
        (fun i σ H5 => ∃ v3, σ = [some (.ref q), some (.ref m), v2, v3, none, none, none, none] ∧ Same H H5 ∧ H5 m = some (.lst [.str (lineOf ("nodes" :: B.nodes)), .str (lineOf ("switches" :: B.sws.take i))])) ⟨none, rfl, s4, e4'⟩ (fun i σ H5 _ ⟨_, _, z, _⟩ => SqL.of (z _ _ hs)) ?_ ?_⟩
      · rintro i x σ H5 hi ⟨v3, rfl, s5, e5⟩
        rw [List.getElem?_map] at hi
        obtain ⟨z, hz, rfl⟩ : ∃ z, B.sws[i]? = some z ∧ x = .str z := by
          cases e : B.sws[i]? with
          | none => rw [e] at hi; cases hi
          | some z => rw [e] at hi; exact ⟨z, rfl, (Option.some.inj hi).symm⟩
        have b1 := line_sub "switches" G.ln1 i
        have b2 := okW_len (G.sw (List.mem_of_getElem? hz))
        refine ⟨_, rfl, m, _, _, V.str (lineOf ("switches" :: B.sws.take i)), rfl, rfl, SqL.of e5, rfl, _, _, rfl, rfl, sm (by simp only [len_sp]; omega), _, rfl, _, _, rfl, rfl, sm (by simp only [len_app, len_sp]; omega), _, rfl, m, _, _, 1, rfl, rfl, e5, rfl, ?_⟩
        refine ⟨_, rfl, s5.kput hm, ?_⟩
        rw [upd_same, line_take _ _ hz]
        rfl
      · rintro σ H5 ⟨v3, rfl, s5, e5⟩
        rw [List.length_map, List.take_length] at e5
        have e5' : H5 m = some (.lst ((linesR B 0).map V.str)) := by
          rw [linesR_0]
          exact e5
        have big := G.small
        -- relays
        refine ⟨_, rfl, q, _, _, V.ref r, rfl, rfl, s5.ktup ht, rfl, r, rfl, ⟨_, SqL.of (s5 _ _ hr')⟩, for_list (K := K) (a := r) (xs := xr)
          (fun i σ H6 => ∃ v4, σ = [some (.ref q), some (.ref m), v2, v3, v4, none, none, none] ∧ Same H H6 ∧ H6 m = some (.lst ((linesR B i).map V.str))) ⟨none, rfl, s5, e5'⟩ (fun i σ H6 _ ⟨_, _, z, _⟩ => SqL.of (z _ _ hr')) ?_ ?_⟩
        · rintro i x σ H6 hi ⟨v4, rfl, s6, e6⟩
          obtain ⟨b, rr, rfl, hl', ht'⟩ := hRr.getL hi
          obtain ⟨k1, k2, k3⟩ := G.rel3 (List.mem_of_getElem? hl')
          replace k1 := okW_len k1
          replace k2 := okW_len k2
          replace k3 := okW_len k3
          have h4 := s6.ktup ht'
          refine ⟨_, rfl, .inl ⟨rfl, _, SqL.of e6⟩, _, rfl, b, _, _, V.str rr.1, rfl, rfl, h4, rfl, _, _, rfl, rfl, sm (by simp only [len_relay]; omega), _, _, rfl, rfl, sm (by simp only [len_app, len_relay, len_sp]; omega),
            _, rfl, b, _, _, V.str rr.2.1, rfl, rfl, h4, rfl, _, _, rfl, rfl, sm (by simp only [len_app, len_relay, len_sp]; omega), _, _, rfl, rfl, sm (by simp only [len_app, len_relay, len_sp]; omega),
            _, rfl, b, _, _, V.str rr.2.2, rfl, rfl, h4, rfl, _, _, rfl, rfl, sm (by simp only [len_app, len_relay, len_sp]; omega), ?_⟩
          show ∃ l xs y, _
          refine ⟨m, _, _, rfl, rfl, e6, by rw [List.length_map]; exact small1000 (by have := linesR_len B i; omega), ?_⟩
          refine ⟨_, rfl, s6.kput hm, ?_⟩
          rw [upd_same, linesR_succ hl', List.map_append]
          show some (HO.lst ((linesR B i).map V.str ++ [V.str ("relay " ++ rr.1 ++ " " ++ rr.2.1 ++ " " ++ rr.2.2)])) = _
          rw [rel_line]
          rfl
        · rintro σ H6 ⟨v4, rfl, s6, e6⟩
          rw [hRr.len, List.length_map, ← linesL_0] at e6
          -- lamps
          refine ⟨_, rfl, q, _, _, V.ref l, rfl, rfl, s6.ktup ht, rfl, l, rfl, ⟨_, SqL.of (s6 _ _ hl)⟩, for_list (K := K) (a := l) (xs := xl)
            (fun i σ H7 => ∃ v5, σ = [some (.ref q), some (.ref m), v2, v3, v4, v5, none, none] ∧ Same H H7 ∧ H7 m = some (.lst ((linesL B i).map V.str))) ⟨none, rfl, s6, e6⟩ (fun i σ H7 _ ⟨_, _, z, _⟩ => SqL.of (z _ _ hl)) ?_ ?_⟩
          · rintro i x σ H7 hi ⟨v5, rfl, s7, e7⟩
            obtain ⟨b, rr, rfl, hl', ht'⟩ := hRl.getL hi
            obtain ⟨k1, k2, k3⟩ := G.lam3 (List.mem_of_getElem? hl')
            replace k1 := okW_len k1
            replace k2 := okW_len k2
            replace k3 := okW_len k3
            have h4 := s7.ktup ht'
            refine ⟨_, rfl, .inl ⟨rfl, _, SqL.of e7⟩, _, rfl, b, _, _, V.str rr.1, rfl, rfl, h4, rfl, _, _, rfl, rfl, sm (by simp only [len_lamp]; omega), _, _, rfl, rfl, sm (by simp only [len_app, len_lamp, len_sp]; omega),
              _, rfl, b, _, _, V.str rr.2.1, rfl, rfl, h4, rfl, _, _, rfl, rfl, sm (by simp only [len_app, len_lamp, len_sp]; omega), _, _, rfl, rfl, sm (by simp only [len_app, len_lamp, len_sp]; omega),
              _, rfl, b, _, _, V.str rr.2.2, rfl, rfl, h4, rfl, _, _, rfl, rfl, sm (by simp only [len_app, len_lamp, len_sp]; omega), ?_⟩
            show ∃ l xs y, _
            refine ⟨m, _, _, rfl, rfl, e7, by rw [List.length_map]; exact small1000 (by have := linesL_len B i; omega), ?_⟩
            refine ⟨_, rfl, s7.kput hm, ?_⟩
            rw [upd_same, linesL_succ hl', List.map_append]
            show some (HO.lst ((linesL B i).map V.str ++ [V.str ("lamp " ++ rr.1 ++ " " ++ rr.2.1 ++ " " ++ rr.2.2)])) = _
            rw [lam_line]
            rfl
          · rintro σ H7 ⟨v5, rfl, s7, e7⟩
            rw [hRl.len, List.length_map, ← linesC_0] at e7
            -- contacts
            refine ⟨_, rfl, q, _, _, V.ref c, rfl, rfl, s7.ktup ht, rfl, c, rfl, ⟨_, SqL.of (s7 _ _ hc)⟩, for_list (K := K) (a := c) (xs := xc)
              (fun i σ H8 => ∃ v6 v7, σ = [some (.ref q), some (.ref m), v2, v3, v4, v5, v6, v7] ∧ Same H H8 ∧ H8 m = some (.lst ((linesC B i).map V.str))) ⟨none, none, rfl, s7, e7⟩ (fun i σ H8 _ ⟨_, _, _, z, _⟩ => SqL.of (z _ _ hc)) ?_ ?_⟩
            · rintro i x σ H8 hi ⟨v6, v7, rfl, s8, e8⟩
              obtain ⟨b, cc, rfl, hl', ht'⟩ := hRc.getL hi
              obtain ⟨k1, k2, k3, k4, k5⟩ := G.con5 (List.mem_of_getElem? hl')
              replace k1 := okW_len k1
              replace k2 := okW_len k2
              replace k3 := okW_len k3
              replace k4 := okW_len k4
              replace k5 := okW_len k5
              have h4 := s8.ktup ht'
              have cl := con_line cc
              obtain ⟨o1, o2, mv, wh, wy⟩ := cc
              dsimp only at k1 k2 k3 k4 k5 cl h4
              refine ⟨_, rfl, b, _, _, movV mv, rfl, rfl, h4, rfl, _, rfl, rfl, _, rfl, ?_⟩
              cases mv with
              | none =>
                have d1 : ("-" : Str).length ≤ 12 := by decide +kernel
                refine ctrue rfl ⟨_, rfl, .inl ⟨rfl, _, SqL.of e8⟩, _, rfl, b, _, _, V.str o1, rfl, rfl, h4, rfl, _, _, rfl, rfl, sm (by simp only [len_contact]; omega), _, _, rfl, rfl, sm (by simp only [len_app, len_contact, len_sp]; omega),
                  _, rfl, b, _, _, V.str o2, rfl, rfl, h4, rfl, _, _, rfl, rfl, sm (by simp only [len_app, len_contact, len_sp]; omega), _, _, rfl, rfl, sm (by simp only [len_app, len_contact, len_sp]; omega),
                  _, rfl, _, _, rfl, rfl, sm (by simp only [len_app, len_contact, len_sp]; omega), _, _, rfl, rfl, sm (by simp only [len_app, len_contact, len_sp]; omega),
                  _, rfl, b, _, _, V.str wh, rfl, rfl, h4, rfl, _, _, rfl, rfl, sm (by simp only [len_app, len_contact, len_sp]; omega), _, _, rfl, rfl, sm (by simp only [len_app, len_contact, len_sp]; omega),
                  _, rfl, b, _, _, V.str wy, rfl, rfl, h4, rfl, _, _, rfl, rfl, sm (by simp only [len_app, len_contact, len_sp]; omega), ?_⟩
                show ∃ l xs y, _
                refine ⟨m, _, _, rfl, rfl, e8, by rw [List.length_map]; exact small1000 (by have := linesC_len B i; omega), ?_⟩
                refine ⟨_, _, rfl, s8.kput hm, ?_⟩
                rw [upd_same, linesC_succ hl', List.map_append]
                show some (HO.lst ((linesC B i).map V.str ++ [V.str ("contact " ++ o1 ++ " " ++ o2 ++ " " ++ "-" ++ " " ++ wh ++ " " ++ wy)])) = _
                rw [← cl]
                rfl
              | some y =>
                have d1 : y.length ≤ 12 := k3
                refine cfalse rfl ⟨_, rfl, .inl ⟨rfl, _, SqL.of e8⟩, _, rfl, b, _, _, V.str o1, rfl, rfl, h4, rfl, _, _, rfl, rfl, sm (by simp only [len_contact]; omega), _, _, rfl, rfl, sm (by simp only [len_app, len_contact, len_sp]; omega),
                  _, rfl, b, _, _, V.str o2, rfl, rfl, h4, rfl, _, _, rfl, rfl, sm (by simp only [len_app, len_contact, len_sp]; omega), _, _, rfl, rfl, sm (by simp only [len_app, len_contact, len_sp]; omega),
                  _, rfl, _, _, rfl, rfl, sm (by simp only [len_app, len_contact, len_sp]; omega), _, _, rfl, rfl, sm (by simp only [len_app, len_contact, len_sp]; omega),
                  _, rfl, b, _, _, V.str wh, rfl, rfl, h4, rfl, _, _, rfl, rfl, sm (by simp only [len_app, len_contact, len_sp]; omega), _, _, rfl, rfl, sm (by simp only [len_app, len_contact, len_sp]; omega),
                  _, rfl, b, _, _, V.str wy, rfl, rfl, h4, rfl, _, _, rfl, rfl, sm (by simp only [len_app, len_contact, len_sp]; omega), ?_⟩
                show ∃ l xs y, _
                refine ⟨m, _, _, rfl, rfl, e8, by rw [List.length_map]; exact small1000 (by have := linesC_len B i; omega), ?_⟩
                refine ⟨_, _, rfl, s8.kput hm, ?_⟩
                rw [upd_same, linesC_succ hl', List.map_append]
                show some (HO.lst ((linesC B i).map V.str ++ [V.str ("contact " ++ o1 ++ " " ++ o2 ++ " " ++ y ++ " " ++ wh ++ " " ++ wy)])) = _
                rw [show movW (some y) = y from rfl] at cl
                rw [← cl]
                rfl
            · rintro σ H8 ⟨v6, v7, rfl, s8, e8⟩
              rw [hRc.len, List.length_map, linesC_all] at e8
              exact ⟨_, rfl, k H8 m s8 e8⟩
end
end K7

namespace K7
open PySem PySem.Spec PyProof.Rows L2 ClX
/-! ### the small board of the law -/
def B0 : Parts := ⟨["p", "m"], [], [], [("l", "p", "m")], []⟩
theorem tB0 : textOf B0 = "nodes p m\nswitches\nlamp l p m" := by decide +kernel
theorem nm_p : IsNm "p" := by refine ⟨by decide +kernel, by decide +kernel, ?_⟩; exact List.all_eq_true.mp (by decide +kernel : (TL.tl "p").all (fun c => decide (c ∈ TL.tl nameChars)) = true) |> fun h c hc => of_decide_eq_true (h c hc)
theorem nm_m : IsNm "m" := by refine ⟨by decide +kernel, by decide +kernel, ?_⟩; exact List.all_eq_true.mp (by decide +kernel : (TL.tl "m").all (fun c => decide (c ∈ TL.tl nameChars)) = true) |> fun h c hc => of_decide_eq_true (h c hc)
theorem nm_l : IsNm "l" := by refine ⟨by decide +kernel, by decide +kernel, ?_⟩; exact List.all_eq_true.mp (by decide +kernel : (TL.tl "l").all (fun c => decide (c ∈ TL.tl nameChars)) = true) |> fun h c hc => of_decide_eq_true (h c hc)
theorem pm_ne : ("p" : Str) ≠ "m" := by decide +kernel
theorem gB0 : Good B0 where
  n2 := by decide
  n16 := by decide
  nn := fun z hz => by
    have h : z ∈ [("p" : Str), "m"] := hz
    simp only [List.mem_cons, List.not_mem_nil, or_false] at h
    rcases h with rfl | rfl
    · exact nm_p
    · exact nm_m
  nd := List.nodup_cons.mpr ⟨fun h => pm_ne (List.mem_singleton.mp h), List.nodup_cons.mpr ⟨List.not_mem_nil, List.nodup_nil⟩⟩
  s6 := by decide
  r8 := by decide
  mn := fun z hz => by
    have h : z ∈ ([] : List Str) := hz
    cases h
  md := List.nodup_nil
  l1 := by decide
  l8 := by decide
  ln := fun z hz => by
    have h : z ∈ [("l" : Str)] := hz
    rw [List.mem_singleton.mp h]
    exact nm_l
  ld := List.nodup_cons.mpr ⟨List.not_mem_nil, List.nodup_nil⟩
  re := fun r hr => by
    have h : r ∈ ([] : List Load) := hr
    cases h
  le := fun r hr => by
    have h : r ∈ [(("l", "p", "m") : Load)] := hr
    rw [List.mem_singleton.mp h]
    exact ⟨List.mem_cons_self, List.mem_cons_of_mem _ List.mem_cons_self, pm_ne⟩
  c40 := by decide
  ce := fun c hc => by
    have h : c ∈ ([] : List Con) := hc
    cases h
section
variable {P : Program} {w : World} {K : PySem.W.Frag} {mg : Str → Option Value} {base : Heap}
/-! ### law -/
def spLaw (K : PySem.W.Frag) : Sp := fun vs H Q _ => ∃ (a : Addr) (ns : List Int), vs = [.ref a] ∧ SqL K H a (ns.map V.int) ∧ ns.length ≤ 63 ∧ ∀ H' : Hp, Q (.bl true) H'
abbrev nLaw : List Str := ["_law_script", "_law_numbers_here", "_law_parts_here", "_law_lines_here", "_law_text", "_law_board", "_law_small", "_law_movers", "_law_k", "_law_made_here", "_law_relay", "_law_n"]
theorem scLaw : FnScope nLaw ["_law_script"] (defScope sLaw) := ⟨rfl, rfl, rfl, by decide +kernel, rfl, by decide +kernel, by decide +kernel⟩
theorem ok_law {f : Addr} {fd : FuncData} (T : Tx K mg) (F : Fun K "law" "law" sLaw f fd) (cNu : C8.Cal P w K mg base 2 "_law_numbers" (spNumbers K) []) (cPa : C8.Cal P w K mg base 3 "_law_parts" (spParts K) []) (cLi : C8.Cal P w K mg base 1 "_law_lines" (spLines K) [])
    (cP : C8.Cal P w K mg base 5 "parse_board" (spParse K) []) (cS : C8.Cal P w K mg base 1 "_law_same" (spSame K) []) (cN : C8.Met P w K mg base 3 (aB K) "mover_number" (spMoverNumber K) []) (cO : C8.Met P w K mg base 4 (aB K) "contacts_of" (spContactsOf K) [])
    (cM : C8.Cal P w K mg base 5 "_law_made" (spMade K) []) (cF : C8.Cal P w K mg base 1 "format_board" (spFormat K) []) : FnOk P w K mg base CX0 6 f fd ["_law_script"] (spLaw K) := by
  refine F.ok scLaw (fun vs H Q E h => ?_) (fun cdv A outer s0 H vs Q E hr h => ?_)
  · obtain ⟨a, ns, rfl, _⟩ := h
    rfl
  · obtain ⟨a, ns, rfl, hS, hl, k⟩ := h
    refine ⟨_, pss_cons (ps_set (i := 1) scLaw.nd rfl (Or.inl rfl) (C8.pe_c cNu hr (by decide) (by rfl) (pa_cons (pv 0) (pa_cons pe_int pa_nil))))
      (pss_cons (ps_set (i := 2) scLaw.nd rfl (Or.inr rfl) (C8.pe_c cPa hr (by decide) (by rfl) (pa_cons (pv 1) pa_nil)))
      (pss_cons (ps_set (i := 3) scLaw.nd rfl (Or.inl rfl) (C8.pe_c cLi hr (by decide) (by rfl) (pa_cons (pv 2) pa_nil)))
      (pss_cons (ps_set (i := 4) scLaw.nd rfl (Or.inl rfl) (pe_join pe_str (pv 3)))
      (pss_cons (ps_set (i := 5) scLaw.nd rfl (Or.inl rfl) (C8.pe_c cP hr (by decide) (by rfl) (pa_cons (pv 4) pa_nil)))
      (pss_cons (ps_if (pt_not (pt_val (C8.pe_c cS hr (by decide) (by rfl) (pa_cons (pv 5) (pa_cons (pv 2) pa_nil))))) (pss_one (ps_ret pe_bl)) pss_nil)
      (pss_cons (ps_set (i := 6) scLaw.nd rfl (Or.inl rfl) (C8.pe_c cP hr (by decide) (by rfl) (pa_cons pe_str pa_nil)))
      (pss_cons (ps_if (pt_not (pt_val (C8.pe_c cS hr (by decide) (by rfl) (pa_cons (pv 6) (pa_cons (pe_tup (pa_cons (pe_lst (pa_cons pe_str (pa_cons pe_str pa_nil))) (pa_cons (pe_lst pa_nil) (pa_cons (pe_lst pa_nil)
        (pa_cons (pe_lst (pa_cons (pe_tup (pa_cons pe_str (pa_cons pe_str (pa_cons pe_str pa_nil)))) pa_nil)) (pa_cons (pe_lst pa_nil) pa_nil)))))) pa_nil))))) (pss_one (ps_ret pe_bl)) pss_nil)
      (pss_cons (ps_set (i := 7) scLaw.nd rfl (Or.inr rfl) (pe_op op_cat (pe_ix ix_tup (pv 2) pe_int (fun _ _ => rfl))
        (pe_lc (own := [("_law_relay", 10)]) (g := gName 10) (tt := tYes) (te := tOp (rIxT K) (tVar 10) (tC (.int 0))) rfl scLaw.nd (pi_list (pe_ix ix_tup (pv 2) pe_int (fun _ _ => rfl))) (blkOk_by (N := nLaw) (sc := defScope sLaw) (by decide +kernel))
          (fun _ _ _ _ _ => pg_name (i := 10) scLaw.nd rfl (Or.inl rfl)) (fun _ _ _ _ _ => pts_nil) (fun _ _ _ _ _ => pe_ix ix_tup (pv 10) pe_int (fun _ _ => rfl)))))
      (pss_cons (ps_for PassesOwn.never rfl (pi_range1 (by rfl) T.range (pa_cons (pe_callB call_len_seq (by rfl) T.len PySem.boot_len (pa_cons (pv 7) pa_nil)) pa_nil)) (pg_name (i := 8) scLaw.nd rfl (Or.inr rfl))
        (pss_cons (ps_if (pt_cmpR op_ne (C8.pe_mt cN hr (by decide) (pv 5) (pa_cons (pe_ix ix_list (pv 7) (pv 8) (fun _ _ => rfl)) pa_nil)) (pv 8) (nomark _)) (pss_one (ps_ret pe_bl)) pss_nil)
        (pss_one (ps_if (pt_cmpR (op_neD hr.units) (C8.pe_mt cO hr (by decide) (pv 5) (pa_cons (pe_ix ix_list (pv 7) (pv 8) (fun _ _ => rfl)) pa_nil))
          (pe_lc (own := [("_law_n", 11)]) (g := gName 11) (tt := tTest (tOp rEq (tOp (rIxT K) (tOp (rIxL K) (tOp (rIxT K) (tVar 2) (tC (.int 4))) (tVar 11)) (tC (.int 2))) (tOp (rIxL K) (tVar 7) (tVar 8)))) (te := tVar 11) rfl scLaw.nd
            (pi_range1 (by rfl) T.range (pa_cons (pe_callB call_len_seq (by rfl) T.len PySem.boot_len (pa_cons (pe_ix ix_tup (pv 2) pe_int (fun _ _ => rfl)) pa_nil)) pa_nil)) (blkOk_by (N := nLaw) (sc := defScope sLaw) (by decide +kernel))
            (fun _ _ _ _ _ => pg_name (i := 11) scLaw.nd rfl (Or.inl rfl))
            (fun _ _ _ _ _ => pts_one (pt_cmpR op_eq (pe_ix ix_tup (pe_ix ix_list (pe_ix ix_tup (pv 2) pe_int (fun _ _ => rfl)) (pv 11) (fun _ _ => rfl)) pe_int (fun _ _ => rfl)) (pe_ix ix_list (pv 7) (pv 8) (fun _ _ => rfl)) (nomark _)))
            (fun _ _ _ _ _ => pv 11)) (nomark _)) (pss_one (ps_ret pe_bl)) pss_nil))))
      (pss_cons (ps_set (i := 9) scLaw.nd rfl (Or.inl rfl) (C8.pe_c cM hr (by decide) (by rfl) (pa_cons (pv 2) pa_nil)))
      (pss_one (ps_ret (pe_and (pe_cmpR op_eq (C8.pe_c cF hr (by decide) (by rfl) (pa_cons (pv 5) pa_nil)) (pv 4) (nomark _))
        (pe_and (pe_cmpR op_eq (C8.pe_c cF hr (by decide) (by rfl) (pa_cons (pv 9) pa_nil)) (pv 4) (nomark _))
        (pe_one (C8.pe_c cS hr (by decide) (by rfl) (pa_cons (C8.pe_c cP hr (by decide) (by rfl) (pa_cons (C8.pe_c cF hr (by decide) (by rfl) (pa_cons (pv 9) pa_nil)) pa_nil)) (pa_cons (pv 2) pa_nil)))))))))))))))))), ?_⟩
    refine ⟨_, rfl, a, ns, rfl, hS, hl, fun xs H1 t hx s1 e1 => ?_⟩
    refine ⟨_, rfl, t, xs, rfl, SqL.of e1, hx, fun B H2 q G s2 hP => ?_⟩
    refine ⟨_, rfl, q, B, rfl, hP, G, fun H3 l s3 e3 => ?_⟩
    refine ⟨⟨_, rfl⟩, _, rfl, _, l, linesOf B, rfl, rfl, .inl (SqL.of e3), Nat.le_trans G.sum (by decide), ?_⟩
    rw [TL.join_eq]
    refine ⟨_, rfl, B, rfl, G, fun H4 p s4 hB => ?_⟩
    have sP := s3.trans s4
    refine ⟨_, rfl, _, rfl, p, q, B, rfl, hB, hP.same sP, G, fun H5 s5 => ⟨true, rfl, iteF ?_⟩⟩
    replace sP := sP.trans s5
    have sB := s5
    refine ⟨B0, congrArg (fun z => [V.str z]) tB0.symm, gB0, fun H6 p0 s6 hB0 => ?_⟩
    replace sP := sP.trans s6
    replace sB := sB.trans s6
    -- the small parts
    refine ⟨_, rfl, by show 2 ≤ sizeLine; decide, fun m1 f1 => ?_⟩
    have t1 : Same H6 (upd H6 m1 (.lst [.str "p", .str "m"])) := same_up f1
    have g1 : (upd H6 m1 (.lst [.str "p", .str "m"])) m1 = some (.lst (B0.nodes.map V.str)) := upd_same
    generalize upd H6 m1 (.lst [.str "p", .str "m"]) = I1 at t1 g1 ⊢
    refine ⟨Nat.zero_le _, fun m2 f2 => ?_⟩
    have t2 : Same I1 (upd I1 m2 (.lst [])) := same_up f2
    have g2 : (upd I1 m2 (.lst [])) m2 = some (.lst (B0.sws.map V.str)) := upd_same
    generalize upd I1 m2 (.lst []) = I2 at t2 g2 ⊢
    refine ⟨Nat.zero_le _, fun m3 f3 => ?_⟩
    have t3 : Same I2 (upd I2 m3 (.lst [])) := same_up f3
    have g3 : (upd I2 m3 (.lst [])) m3 = some (.lst []) := upd_same
    generalize upd I2 m3 (.lst []) = I3 at t3 g3 ⊢
    refine ⟨by show 3 ≤ sizeLine; decide, fun m4 f4 => ?_⟩
    have t4 : Same I3 (upd I3 m4 (.tup [.str "l", .str "p", .str "m"])) := same_up f4
    have g4 : SqT K (upd I3 m4 (.tup [.str "l", .str "p", .str "m"])) m4 (load3 ("l", "p", "m")) := SqT.of upd_same
    generalize upd I3 m4 (.tup [.str "l", .str "p", .str "m"]) = I4 at t4 g4 ⊢
    refine ⟨by show 1 ≤ sizeLine; decide, fun m5 f5 => ?_⟩
    have t5 : Same I4 (upd I4 m5 (.lst [.ref m4])) := same_up f5
    have g5 : (upd I4 m5 (.lst [.ref m4])) m5 = some (.lst [.ref m4]) := upd_same
    generalize upd I4 m5 (.lst [.ref m4]) = I5 at t5 g5 ⊢
    refine ⟨Nat.zero_le _, fun m6 f6 => ?_⟩
    have t6 : Same I5 (upd I5 m6 (.lst [])) := same_up f6
    have g6 : (upd I5 m6 (.lst [])) m6 = some (.lst []) := upd_same
    generalize upd I5 m6 (.lst []) = I6 at t6 g6 ⊢
    refine ⟨by show 5 ≤ sizeLine; decide, fun m7 f7 => ?_⟩
    have t7 : Same I6 (upd I6 m7 (.tup [.ref m1, .ref m2, .ref m3, .ref m5, .ref m6])) := same_up f7
    have g7 : SqT K (upd I6 m7 (.tup [.ref m1, .ref m2, .ref m3, .ref m5, .ref m6])) m7 [.ref m1, .ref m2, .ref m3, .ref m5, .ref m6] := SqT.of upd_same
    generalize upd I6 m7 (.tup [.ref m1, .ref m2, .ref m3, .ref m5, .ref m6]) = I7 at t7 g7 ⊢
    have u6 := t7
    have u5 := t6.trans u6
    have u4 := t5.trans u5
    have u3 := t4.trans u4
    have u2 := t3.trans u3
    have u1 := t2.trans u2
    have u0 := t1.trans u1
    have hP0 : PartsAt K I7 m7 B0 := by
      refine ⟨m1, m2, m3, m5, m6, [], [.ref m4], [], g7, u1 _ _ g1, u2 _ _ g2, u3 _ _ g3, RowsAt.nil, u5 _ _ g5, ⟨rfl, fun i r e => ?_⟩, u6 _ _ g6, RowsAt.nil⟩
      cases i with
      | zero => exact ⟨m4, rfl, Option.some.inj e ▸ u4.ktup g4⟩
      | succ i => cases e
    refine ⟨p0, m7, B0, rfl, hB0.same u0, hP0, gB0, fun H7 s7 => ⟨true, rfl, iteF ?_⟩⟩
    replace sP := (sP.trans u0).trans s7
    replace sB := (sB.trans u0).trans s7
    replace hP := hP.same sP
    replace hB := hB.same sB
    clear sP sB u0 u1 u2 u3 u4 u5 u6 t1 t2 t3 t4 t5 t6 t7 g1 g2 g3 g4 g5 g6 g7 f1 f2 f3 f4 f5 f6 f7 s1 s2 s3 s4 s5 s6 s7 hB0 hP0 e1 e3
    -- movers
    obtain ⟨n, s, r, la, c, xr, xl, xc, hT, hn, hs, hr', hRr, hla, hRl, hc, hRc⟩ := hP.ex
    refine ⟨_, rfl, q, _, _, V.ref s, rfl, rfl, hT, rfl, ?_⟩
    refine rd_firstsL (te := tOp (rIxT K) (tVar 2) (tC (.int 2))) (i := 10) (a := r) (fun R h => ⟨_, rfl, q, _, _, V.ref r, rfl, rfl, hT, rfl, h⟩) (by show 10 < 12; decide) (SqL.of hr') hRr (by rw [hRr.len, List.length_map]; have := G.r8; omega) fun m2 H8 hm2 s8 e8 => ?_
    refine ⟨s, m2, _, _, rfl, rfl, s8 _ _ hs, e8, ?_, fun mv hmv => ?_⟩
    · simp only [List.length_map]
      have := G.s6
      have := G.r8
      exact Nat.le_trans (show B.sws.length + B.rels.length ≤ 1000 by omega) (by decide)
    rw [show B.sws.map V.str ++ (B.rels.map (·.1)).map V.str = B.movers.map V.str by unfold Parts.movers; rw [List.map_append]]
    have s9 : Same H7 (upd H8 mv (.lst (B.movers.map V.str))) := s8.knew hmv
    have e9 : (upd H8 mv (.lst (B.movers.map V.str))) mv = some (.lst (B.movers.map V.str)) := upd_same
    generalize upd H8 mv (.lst (B.movers.map V.str)) = H9 at s9 e9 ⊢
    replace hP := hP.same s9
    replace hB := hB.same s9
    clear hT hn hs hr' hRr hla hRl hc hRc
    have hml : B.movers.length ≤ 14 := by
      unfold Parts.movers
      rw [List.length_append, List.length_map]
      have := G.s6
      have := G.r8
      omega
    refine ⟨_, rfl, mv, _, rfl, .inl (SqL.of e9), ((B.movers.length : Nat) : Int), by rw [List.length_map], by omega, by omega, for_range (lo := 0) (n := B.movers.length)
      (fun i σ Ht => ∃ v8, σ = [some (.ref a), some (.ref t), some (.ref q), some (.ref l), some (.str (textOf B)), some (.ref p), some (.ref p0), some (.ref mv), v8, none, none, none] ∧ Same H9 Ht) ⟨none, rfl, Same.refl _⟩ ?_ ?_⟩
    · rintro i σ Ha hi ⟨v8, rfl, sa⟩
      have hm : B.movers[i]? = some B.movers[i] := List.getElem?_eq_getElem hi
      generalize B.movers[i] = m at hm
      have hAt : atI (B.movers.map V.str) (0 + (i : Int)) = some (.str m) := at_of (j := i) (by omega) (strs_at hm)
      obtain ⟨dx, _, _, _, _, _, _, _, _, hp, _⟩ := (hB.same sa).ex
      refine ⟨_, rfl, p, dx, _, rfl, hp, zip_none (by decide +kernel), _, rfl, _, rfl, mv, _, _, V.str m, rfl, rfl, SqL.of (sa _ _ e9), hAt, p, m, B, i, rfl, hB.same sa, G, hm, fun Hb sb => ?_⟩
      replace sb := sa.trans sb
      obtain ⟨dx, _, _, _, _, _, _, _, _, hp, _⟩ := (hB.same sb).ex
      refine ⟨_, rfl, rfl, _, rfl, cfalse (show (!decide (V.int ((i : Nat) : Int) = V.int (0 + ((i : Nat) : Int)))) = false by rw [Int.zero_add, decide_eq_true rfl]; rfl) ?_⟩
      refine ⟨_, rfl, p, dx, _, rfl, hp, zip_none (by decide +kernel), _, rfl, _, rfl, mv, _, _, V.str m, rfl, rfl, SqL.of (sb _ _ e9), hAt, p, m, B, i, rfl, hB.same sb, G, hm, fun Hc ho sc eo => ?_⟩
      replace sc := sb.trans sc
      obtain ⟨n, s, r, la, c, xr, xl, xc, hT, hn, hs, hr', hRr, hla, hRl, hc, hRc⟩ := (hP.same sc).ex
      have hcl : xc.length = B.cons.length := by rw [hRc.len, List.length_map]
      have hc40 := G.c40
      refine ⟨_, rfl, q, _, _, V.ref c, rfl, rfl, hT, rfl, c, _, rfl, .inl (SqL.of hc), ((B.cons.length : Nat) : Int), by rw [hcl], by omega, by omega, fun Da hDa => lc_range (lo := 0) (n := B.cons.length)
        (fun i H2 => Same Hc H2 ∧ H2 Da = some (.lst ((hits B.cons m i).map V.int))) ⟨same_up hDa, upd_same⟩ ?_ ?_⟩
      · rintro j H2 hj ⟨s2, e2⟩
        have hx : xc[j]? = some xc[j] := List.getElem?_eq_getElem (by omega)
        obtain ⟨b, cc, hb, hcc, hTc⟩ := hRc.getL hx
        rw [hb] at hx
        have hAc : atI xc (0 + (j : Int)) = some (.ref b) := at_of (j := j) (by omega) hx
        have sx := sc.trans s2
        refine ⟨rfl, ?_⟩
        refine ⟨_, rfl, q, _, _, V.ref c, rfl, rfl, s2.ktup hT, rfl, _, rfl, c, _, _, V.ref b, rfl, rfl, SqL.of (s2 _ _ hc), hAc, b, _, _, movV cc.mov, rfl, rfl, s2.ktup hTc, rfl, _, rfl, _, rfl, mv, _, _, V.str m, rfl, rfl, SqL.of (sx _ _ e9), hAt, ?_⟩
        refine ⟨by cases cc.mov <;> rfl, _, rfl, ?_⟩
        rw [hit_at hcc]
        cases hh : hitB B.cons m j with
        | true =>
          refine iteT ⟨_, rfl, _, e2, ?_, s2.kput hDa, ?_⟩
          · rw [List.length_map]
            exact small1000 (Nat.le_trans (hits_len _ _ _) (by omega))
          · rw [upd_same, hits_succ, if_pos hh, Int.zero_add, List.map_append]
            rfl
        | false =>
          refine iteF ⟨s2, ?_⟩
          rw [hits_succ, if_neg (by rw [hh]; exact Bool.false_ne_true)]
          exact e2
      · rintro H2 ⟨s2, e2⟩
        have dd := ok_intsD (hits B.cons m B.cons.length)
        refine ⟨_, _, .lst (SqL.of (s2 _ _ eo)) (dp_ints _), .lst (SqL.of e2) (dp_ints _), dd.shaped (by decide), dd.shaped (by decide), _, rfl, ?_⟩
        refine cfalse (by rw [dd.refl]; rfl) ?_
        exact ⟨_, rfl, sc.trans s2⟩
    · rintro σ Ha ⟨v8, rfl, sa⟩
      refine ⟨_, rfl, q, B, rfl, hP.same sa, G, fun Hb mb sb hM => ?_⟩
      refine ⟨_, rfl, p, B, rfl, (hB.same sa).same sb, G, fun Hc sc => ?_⟩
      refine ⟨_, rfl, rfl, _, rfl, ctrue (decide_eq_true rfl) ?_⟩
      replace hM := hM.same sc
      replace sb := (sa.trans sb).trans sc
      refine ⟨_, rfl, mb, B, rfl, hM, G, fun Hd sd => ?_⟩
      refine ⟨_, rfl, rfl, _, rfl, ctrue (decide_eq_true rfl) ?_⟩
      replace hM := hM.same sd
      replace sb := sb.trans sd
      refine ⟨_, rfl, mb, B, rfl, hM, G, fun He se => ?_⟩
      refine ⟨B, rfl, G, fun Hf pf sf hF => ?_⟩
      refine ⟨_, rfl, pf, q, B, rfl, hF, hP.same ((sb.trans se).trans sf), G, fun Hg sg => ?_⟩
      exact k Hg
end
end K7

set_option maxHeartbeats 0
namespace K7
open PySem PySem.Spec PyProof.Rows L2 ClX
/-! ### the head: where each def stands, what is asked of the top -/
def hG (x : Str) (st : Stmt) : He5.DefA := ⟨fun K => He.ga K x, x, x, defArgs st, defBody st, defScope st, [], []⟩
def hM (C m q : Str) (st : Stmt) : He5.DefA := ⟨fun K => He.ma K (He.ga K C) m, m, q, defArgs st, defBody st, defScope st, [], []⟩
def hW (T : String) (m q : Str) (st : Stmt) : He5.DefA := ⟨fun K => He5.wf K (He.ga K "Board") T m, m, q, defArgs st, defBody st, defScope st, [], []⟩
def hfn : List He5.DefA := [hG "are_names" sAreNames, hG "is_between" sIsBetween, hG "are_loads" sAreLoads, hG "is_contact" sIsContact, hM "Board" "__init__" "Board.__init__" sBInit,
  hW "staticmethod" "is_name" "Board.is_name" sIsName, hW "property" "movers" "Board.movers" sMovers, hM "Board" "mover_number" "Board.mover_number" sMoverNumber, hM "Board" "contacts_of" "Board.contacts_of" sContactsOf,
  hG "format_board" sFormat, hG "parse_names" sParseNames, hG "starts" sStarts, hM "Reader" "__init__" "Reader.__init__" sRInit, hM "Reader" "take_names" "Reader.take_names" sTakeNames, hM "Reader" "check_ends" "Reader.check_ends" sCheckEnds,
  hM "Reader" "take_loads" "Reader.take_loads" sTakeLoads, hM "Reader" "take_contacts" "Reader.take_contacts" sTakeContacts, hM "Reader" "read" "Reader.read" sRead, hG "parse_board" sParse, hG "_law_row" sRow, hG "_law_numbers" sNumbers,
  hG "_law_names" sNames, hG "_law_count" sCount, hG "_law_two" sTwo, hG "_law_contact" sContact, hG "_law_loads" sLoads, hG "_law_parts" sParts, hG "_law_made" sMade, hG "_law_same" sSame, hG "_law_lines" sLines, hG "law" sLaw]
def hglo : List Str := ["WHENS", "WAYS", "are_names", "is_between", "are_loads", "is_contact", "Board", "format_board", "parse_names", "starts", "Reader", "parse_board",
  "_law_row", "_law_numbers", "_law_names", "_law_count", "_law_two", "_law_contact", "_law_loads", "_law_parts", "_law_made", "_law_same", "_law_lines", "law"]
def hfree : List Str := ["len", "enumerate", "all", "list", "tuple", "range", "int", "abs", "max", "min", "isinstance"]
def hfa : List He.Fa := hglo.map He.Fa.glo ++ hfree.map He.Fa.free ++ [.str "NAME_CHARS" nameChars, .int "MOST_NAME_CHARS" 12, .cls "Board", .cls "Reader", .mkr "Board", .mkr "Reader"] ++ BN.map (He.Fa.noat "Board") ++ RN.map (He.Fa.noat "Reader") ++
  [.meth "Board" "mover_number", .meth "Board" "contacts_of", .meth "Reader" "take_names", .meth "Reader" "check_ends", .meth "Reader" "take_loads", .meth "Reader" "take_contacts", .meth "Reader" "read"]
def cvB (K : PySem.W.Frag) (f : Str) (i : Int) : Bool := match PySem.W.findCls K (.ref (aB K)) (.type "type") f with
  | some (.val u) => He.relB (.int i) u
  | _ => false
def prB (K : PySem.W.Frag) (m : Str) : Bool := He.eqO (PySem.W.findIn K (.ref (aB K)) m) (some (some (.ref (He.ma K (aB K) m)))) && (He.eqO (PySem.W.specialIn K (.ref (He.ma K (aB K) m)) "__get__") (some (some (.builtin "property.__get__"))) &&
  (decide (PySem.W.takesIn K (.ref (He.ma K (aB K) m)) = some true) && (match PySem.W.recIn K (He.ma K (aB K) m) "property" with
    | some (.ref _ :: _) => true
    | _ => false)))
def hex (K : PySem.W.Frag) : Bool := He.tupB K "WHENS" [.str "make", .str "break"] && (He.tupB K "WAYS" [.str "both", .str "forward"] && (PySem.W.readsIn K (aB K) (.type "type") && (He.eqO (PySem.W.specialIn K (.ref (aB K)) "__getattribute__") (some (some (.builtin "type.__getattribute__"))) &&
  (cvB K "MOST_NODES" 16 && (cvB K "MOST_SWITCHES" 6 && (cvB K "MOST_RELAYS" 8 && (cvB K "MOST_LAMPS" 8 && (cvB K "MOST_CONTACTS" 40 && (He5.wrapB K (aB K) "staticmethod" "staticmethod.__get__" "is_name" && prB K "movers")))))))))
def hobs (g : Addr → Option Obj) : He.AlD × Bool := (He5.obsA hfa hfn (He.frG g (He5.asA g 6)), hex (He.frG g (He5.asA g 6)))
structure Says (K : PySem.W.Frag) : Prop where
  d : He5.SaysA hfa hfn K
  ex : hex K = true
def hk : PySem.W.Hook where
  α := He.AlD × Bool
  obs := fun s => hobs s.heap.get?
  val := fun _ => (He5.valA hfn, true)
  says := fun _ h => ∃ K : PySem.W.Frag, K.In h ∧ Says K
  of := fun _ _ e => ⟨_, He.frG_in, congrArg (fun z : He.AlD × Bool => z.1) e, congrArg (fun z : He.AlD × Bool => z.2) e⟩
  keeps := fun _ _ _ ⟨K, hK, c⟩ k => ⟨K, PySem.W.Frag.In.keeps hK k, c⟩
def hob (s : PySem.W.SharedT) : He.AlD × Bool := hobs (HandSHeadRun.getT s)
theorem hob_eq (s : PySem.W.SharedT) : hob s = hk.obs s.abs := by
  have e : HandSHeadRun.getT s = s.abs.heap.get? := funext (HandSHeadRun.getT_eq s)
  show hobs (HandSHeadRun.getT s) = hobs s.abs.heap.get?
  rw [e]
abbrev hR : PySem.W.OpenRow := PySem.W.OpenLaw.row PySem.Challenge.rw_leverhouse_k07_whole_text_and_back
def hloose : List Str := ["_wall", "__name__", "LeverhouseError", "InvalidBoard", "UnknownName", "InvalidNotation", "NAME_CHARS", "MOST_NAME_CHARS", "WHENS", "WAYS", "are_names", "is_between", "are_loads", "is_contact", "Board", "format_board", "parse_names", "starts", "Reader", "parse_board",
  "_law_row", "_law_numbers", "_law_names", "_law_count", "_law_two", "_law_contact", "_law_loads", "_law_parts", "_law_made", "_law_same", "_law_lines"]
theorem hrun (w : World) : HandSHeadRun.RunEq hR (PySem.W.view hR.prog [34]) hk hob 4000 hloose w := by
  intro os
  kernel_rfl
end K7

set_option maxHeartbeats 4000000
namespace K7
open PySem PySem.Spec PyProof.Rows L2 ClX
open He (ba)
/-! ### from what the head tells -/
section
variable {K : PySem.W.Frag} {h : Heap} {mg : Str → Option Value}
theorem cv_ok {f : Str} {i : Int} (e : cvB K f i = true) : ∃ u, CVal K (aB K) (.type "type") f (.int i) u := by
  unfold cvB at e
  cases q : PySem.W.findCls K (.ref (aB K)) (.type "type") f with
  | none => rw [q] at e; cases e
  | some r =>
    rw [q] at e
    cases r with
    | val u => exact ⟨u, q, He.relB_ok e⟩
    | _ => cases e
theorem pr_ok {m : Str} (e : prB K m = true) : PropOf K (aB K) m (He.ma K (aB K) m) (He5.wf K (aB K) "property" m) := by
  obtain ⟨e1, e⟩ := ba e
  obtain ⟨e2, e⟩ := ba e
  obtain ⟨e3, e4⟩ := ba e
  refine ⟨He.eqO_ok e1, He.eqO_ok e2, of_decide_eq_true e3, ?_⟩
  unfold He5.wf
  split at e4
  · rename_i f r q
    exact ⟨r, by rw [q]⟩
  · cases e4
theorem Says.fa (c : Says K) {f : He.Fa} (m : f ∈ hfa) : f.ok K = true := by
  obtain ⟨i, hi, e⟩ := List.mem_iff_getElem.mp m
  exact c.d.fact i (f := f) (by rw [List.getElem?_eq_getElem hi, e])
theorem in_app {α : Type} {x : α} {a b : List α} (h : x ∈ a ∨ x ∈ b) : x ∈ a ++ b := List.mem_append.mpr h
theorem Says.glo (c : Says K) (X : K.In h) (G : h.Ns mainGlobals mg) {x : Str} (m : x ∈ hglo) : mg x = some (.ref (He.ga K x)) :=
  He.glo_ok X G (c.fa (in_app (.inl (in_app (.inl (in_app (.inl (in_app (.inl (in_app (.inl (List.mem_map.mpr ⟨x, m, rfl⟩))))))))))))
theorem Says.free (c : Says K) (X : K.In h) (G : h.Ns mainGlobals mg) {x : Str} (m : x ∈ hfree) : mg x = none :=
  He.free_ok X G (c.fa (in_app (.inl (in_app (.inl (in_app (.inl (in_app (.inl (in_app (.inr (List.mem_map.mpr ⟨x, m, rfl⟩))))))))))))
theorem Says.mid (c : Says K) {f : He.Fa} (m : f ∈ [He.Fa.str "NAME_CHARS" nameChars, .int "MOST_NAME_CHARS" 12, .cls "Board", .cls "Reader", .mkr "Board", .mkr "Reader"]) : f.ok K = true :=
  c.fa (in_app (.inl (in_app (.inl (in_app (.inl (in_app (.inr m))))))))
theorem Says.nB (c : Says K) {f : Str} (m : f ∈ BN) : (He.Fa.noat "Board" f).ok K = true := c.fa (in_app (.inl (in_app (.inl (in_app (.inr (List.mem_map.mpr ⟨f, m, rfl⟩)))))))
theorem Says.nR (c : Says K) {f : Str} (m : f ∈ RN) : (He.Fa.noat "Reader" f).ok K = true := c.fa (in_app (.inl (in_app (.inr (List.mem_map.mpr ⟨f, m, rfl⟩)))))
theorem Says.mt (c : Says K) {f : He.Fa} (m : f ∈ [He.Fa.meth "Board" "mover_number", .meth "Board" "contacts_of", .meth "Reader" "take_names", .meth "Reader" "check_ends", .meth "Reader" "take_loads", .meth "Reader" "take_contacts", .meth "Reader" "read"]) : f.ok K = true := c.fa (in_app (.inr m))
theorem Says.tx (c : Says K) (X : K.In h) (G : h.Ns mainGlobals mg) : Tx K mg := by
  obtain ⟨x1, x⟩ := ba c.ex
  obtain ⟨x2, x⟩ := ba x
  obtain ⟨x3, x⟩ := ba x
  obtain ⟨x4, x⟩ := ba x
  obtain ⟨x5, x⟩ := ba x
  obtain ⟨x6, x⟩ := ba x
  obtain ⟨x7, x⟩ := ba x
  obtain ⟨x8, x⟩ := ba x
  obtain ⟨x9, x⟩ := ba x
  exact {
    len := c.free X G (by decide +kernel)
    enumerate := c.free X G (by decide +kernel)
    all := c.free X G (by decide +kernel)
    list := c.free X G (by decide +kernel)
    tuple := c.free X G (by decide +kernel)
    range := c.free X G (by decide +kernel)
    int := c.free X G (by decide +kernel)
    abs := c.free X G (by decide +kernel)
    max := c.free X G (by decide +kernel)
    min := c.free X G (by decide +kernel)
    isinstance := c.free X G (by decide +kernel)
    nchars := He.str_ok X G (c.mid (List.mem_cons_self))
    mchars := He.int_ok X G (c.mid (List.mem_cons_of_mem _ List.mem_cons_self))
    whens := c.glo X G (by decide +kernel)
    ways := c.glo X G (by decide +kernel)
    whensT := fun H => He.tupB_ok x1 H
    waysT := fun H => He.tupB_ok x2 H
    board := c.glo X G (by decide +kernel)
    reader := c.glo X G (by decide +kernel)
    clB := He.cls_ok (c.mid (List.mem_cons_of_mem _ (List.mem_cons_of_mem _ List.mem_cons_self)))
    clR := He.cls_ok (c.mid (List.mem_cons_of_mem _ (List.mem_cons_of_mem _ (List.mem_cons_of_mem _ List.mem_cons_self))))
    noB := fun f m => He.noat_ok (c.nB m)
    noR := fun f m => He.noat_ok (c.nR m)
    rdB := ⟨x3, He.eqO_ok x4⟩
    mostN := cv_ok x5
    mostS := cv_ok x6
    mostR := cv_ok x7
    mostL := cv_ok x8
    mostC := cv_ok x9 }
theorem Says.wr (c : Says K) : He5.wrapB K (aB K) "staticmethod" "staticmethod.__get__" "is_name" = true ∧ prB K "movers" = true := by
  obtain ⟨x1, x⟩ := ba c.ex
  obtain ⟨x2, x⟩ := ba x
  obtain ⟨x3, x⟩ := ba x
  obtain ⟨x4, x⟩ := ba x
  obtain ⟨x5, x⟩ := ba x
  obtain ⟨x6, x⟩ := ba x
  obtain ⟨x7, x⟩ := ba x
  obtain ⟨x8, x⟩ := ba x
  obtain ⟨x9, x⟩ := ba x
  exact ba x
theorem Says.mkB (c : Says K) : Mk K (aB K) (He.ma K (aB K) "__init__") := He.mkr_ok (c.mid (List.mem_cons_of_mem _ (List.mem_cons_of_mem _ (List.mem_cons_of_mem _ (List.mem_cons_of_mem _ List.mem_cons_self)))))
theorem Says.mkR (c : Says K) : Mk K (aR K) (He.ma K (aR K) "__init__") := He.mkr_ok (c.mid (List.mem_cons_of_mem _ (List.mem_cons_of_mem _ (List.mem_cons_of_mem _ (List.mem_cons_of_mem _ (List.mem_cons_of_mem _ List.mem_cons_self))))))
/-- a def of the module -/
theorem Says.df (c : Says K) (X : K.In h) (G : h.Ns mainGlobals mg) (i : Nat) {x : Str} {st : Stmt} (e : hfn[i]? = some (hG x st)) (m : x ∈ hglo) : Dfn K mg x st := by
  obtain ⟨fd, F⟩ := c.d.def_ i (d := hG x st) e
  exact ⟨_, fd, He5.fun_of F, c.glo X G m⟩
/-- a method of a class -/
theorem Says.me (c : Says K) (i : Nat) {C m q : Str} {st : Stmt} (e : hfn[i]? = some (hM C m q st)) (k : (He.Fa.meth C m).ok K = true) : Mth K (He.ga K C) m q st := by
  obtain ⟨fd, F⟩ := c.d.def_ i (d := hM C m q st) e
  exact ⟨_, fd, He5.fun_of F, He.meth_ok k⟩
end
section
variable {P : Program} {w : World} {K : PySem.W.Frag} {base h : Heap} {mg : Str → Option Value}
theorem law_ok (c : Says K) (X : K.In h) (G : h.Ns mainGlobals mg) {fd : FuncData} (F : Fun K "law" "law" sLaw (He.ga K "law") fd) : FnOk P w K mg base CX0 6 (He.ga K "law") fd ["_law_script"] (spLaw K) := by
  have T : Tx K mg := c.tx X G
  obtain ⟨hw1, hw2⟩ := c.wr
  obtain ⟨fdN, FN⟩ := c.d.def_ 5 (d := hW "staticmethod" "is_name" "Board.is_name" sIsName) rfl
  have FN' : Fun K "is_name" "Board.is_name" sIsName (He5.wf K (aB K) "staticmethod" "is_name") fdN := He5.fun_of (kws := []) FN
  have cN : Stat P w K mg base 1 (aB K) "is_name" spIsName := ⟨_, _, fdN, _, ⟨(He5.wrapB_ok hw1).1, (He5.wrapB_ok hw1).2, FN'.kp⟩, ok_is_name T FN', FN'.binds fun _ _ _ _ _ _ us hl => match us, hl with | [_], _ => rfl⟩
  obtain ⟨fdP, FP⟩ := c.d.def_ 6 (d := hW "property" "movers" "Board.movers" sMovers) rfl
  have FP' : Fun K "movers" "Board.movers" sMovers (He5.wf K (aB K) "property" "movers") fdP := He5.fun_of (kws := []) FP
  have cPr : Prp P w K mg base 1 (aB K) "movers" (spMovers K) := ⟨_, _, fdP, _, pr_ok hw2, ok_movers T FP', FP'.binds fun _ _ _ _ _ _ us hl => match us, hl with | [_], _ => rfl⟩
  have cAN : C8.Cal P w K mg base 2 "are_names" (spAreNames K) [] := ok_are_names T (c.df X G 0 rfl (by decide +kernel)) cN
  have cIB : C8.Cal P w K mg base 1 "is_between" (spIsBetween K) [] := ok_is_between (c.df X G 1 rfl (by decide +kernel))
  have cAL : C8.Cal P w K mg base 2 "are_loads" (spAreLoads K) [] := ok_are_loads (c.df X G 2 rfl (by decide +kernel)) cIB
  have cIC : C8.Cal P w K mg base 2 "is_contact" (spIsContact K) [] := ok_is_contact T (c.df X G 3 rfl (by decide +kernel)) cIB
  obtain ⟨fdB, FB⟩ := c.d.def_ 4 (d := hM "Board" "__init__" "Board.__init__" sBInit) rfl
  have FB' : Fun K "__init__" "Board.__init__" sBInit (He.ma K (aB K) "__init__") fdB := He5.fun_of (kws := []) FB
  have cB : MakB P w K mg base := ⟨_, fdB, c.mkB, ok_b_init T FB' cAN cAL cIC, kbn_board FB'⟩
  have cMN : C8.Met P w K mg base 3 (aB K) "mover_number" (spMoverNumber K) [] := ok_mover_number T (c.me 7 rfl (c.mt (by simp))) cPr
  have cCO : C8.Met P w K mg base 4 (aB K) "contacts_of" (spContactsOf K) [] := ok_contacts_of T (c.me 8 rfl (c.mt (by simp))) cMN
  have cF : C8.Cal P w K mg base 1 "format_board" (spFormat K) [] := ok_format T (c.df X G 9 rfl (by decide +kernel))
  have cPN : CalK P w K mg base 2 "parse_names" 2 ["least", "most"] (fun us ws => us ++ ws) (spParseNames K) := ok_parse_names T (c.df X G 10 rfl (by decide +kernel)) cN
  have cS : C8.Cal P w K mg base 1 "starts" (spStarts K) [] := ok_starts T (c.df X G 11 rfl (by decide +kernel))
  obtain ⟨fdR, FR⟩ := c.d.def_ 12 (d := hM "Reader" "__init__" "Reader.__init__" sRInit) rfl
  have FR' : Fun K "__init__" "Reader.__init__" sRInit (He.ma K (aR K) "__init__") fdR := He5.fun_of (kws := []) FR
  have cR : C8.Mak P w K mg base 1 "Reader" (aR K) (spRInit K) [] := ⟨_, fdR, _, _, c.mkR, ok_r_init T FR', T.reader, FR'.binds (fun _ _ _ _ _ _ us hl => match us, hl with | [_, _], _ => rfl), .nil⟩
  have cCE : C8.Met P w K mg base 1 (aR K) "check_ends" (spCheckEnds K) [] := ok_check_ends T (c.me 14 rfl (c.mt (by simp)))
  have cTN : MetK P w K mg base 3 (aR K) "take_names" 2 ["least", "most"] (fun us ws => us ++ ws) (spTakeNames K) := ok_take_names T (c.me 13 rfl (c.mt (by simp))) cS cPN
  have cTL : C8.Met P w K mg base 2 (aR K) "take_loads" (spTakeLoads K) [] := ok_take_loads T (c.me 15 rfl (c.mt (by simp))) cS cN cCE
  have cTC : C8.Met P w K mg base 2 (aR K) "take_contacts" (spTakeContacts K) [] := ok_take_contacts T (c.me 16 rfl (c.mt (by simp))) cS cCE
  have cRd : C8.Met P w K mg base 4 (aR K) "read" (spRead K) [] := ok_read T (c.me 17 rfl (c.mt (by simp))) cTN cTL cTC
  have cP : C8.Cal P w K mg base 5 "parse_board" (spParse K) [] := ok_parse T (c.df X G 18 rfl (by decide +kernel)) cR cRd cB
  have cRow : C8.Cal P w K mg base 1 "_law_row" spRow [] := ok_row T (c.df X G 19 rfl (by decide +kernel))
  have cNu : C8.Cal P w K mg base 2 "_law_numbers" (spNumbers K) [] := ok_numbers T (c.df X G 20 rfl (by decide +kernel)) cRow
  have cNa : C8.Cal P w K mg base 1 "_law_names" (spNames K) [] := ok_names T (c.df X G 21 rfl (by decide +kernel))
  have cCt : C8.Cal P w K mg base 1 "_law_count" spCount [] := ok_count T (c.df X G 22 rfl (by decide +kernel))
  have cTw : C8.Cal P w K mg base 1 "_law_two" (spTwo K) [] := ok_two T (c.df X G 23 rfl (by decide +kernel))
  have cLc : C8.Cal P w K mg base 2 "_law_contact" (spContact K) [] := ok_lcontact T (c.df X G 24 rfl (by decide +kernel)) cTw
  have cLl : C8.Cal P w K mg base 2 "_law_loads" (spLoads K) [] := ok_loads T (c.df X G 25 rfl (by decide +kernel)) cTw
  have cPa : C8.Cal P w K mg base 3 "_law_parts" (spParts K) [] := ok_parts T (c.df X G 26 rfl (by decide +kernel)) cNa cCt cLl cLc
  have cMa : C8.Cal P w K mg base 5 "_law_made" (spMade K) [] := ok_made T (c.df X G 27 rfl (by decide +kernel)) cB
  have cSa : C8.Cal P w K mg base 1 "_law_same" (spSame K) [] := ok_same T (c.df X G 28 rfl (by decide +kernel))
  have cLi : C8.Cal P w K mg base 1 "_law_lines" (spLines K) [] := ok_lines T (c.df X G 29 rfl (by decide +kernel))
  exact ok_law T F cNu cPa cLi cP cSa cMN cCO cMa cF
theorem law_facts (X : K.In h) (G : h.Ns mainGlobals mg) {f : Addr} (hfa : mg ("law" : Str) = some (.ref f)) (c : Says K) :
    ∃ fd : FuncData, (∀ (s : Shared) (v : Value), BindsTo s fd ⟨[v], []⟩ [("_law_script", v)]) ∧ ∀ base : Heap, K.In base → base.Ns mainGlobals mg → FnOk P w K mg base CX0 6 f fd ["_law_script"] (spLaw K) := by
  obtain ⟨fd, F⟩ := c.d.def_ 30 (d := hG "law" sLaw) rfl
  have e := hfa.symm.trans (c.glo X G (by decide +kernel))
  cases e
  have b := FunD.bindsA (ps := ["_law_script"]) F fun _ _ _ _ _ _ us hl => match us, hl with | [_], _ => rfl
  exact ⟨fd, fun s v => b s [v] rfl, fun base X2 G2 => law_ok c X2 G2 (He5.fun_of F)⟩
end
end K7
open PySem PySem.W PySem.Calls PyProof.Rows
theorem PySem.Challenge.cw_leverhouse_k07_whole_text_and_back_holds : PySem.Challenge.rw_leverhouse_k07_whole_text_and_back.Holds := by
  w_on; o_law
  refine HandSHeadRun.head_any (r := K7.hR) (q := view K7.hR.prog [34]) (H := K7.hk) (ob := K7.hob) (M := 4000) (loose := K7.hloose) (d := HandSHeadRun.topDef K7.hR.prog 34) (kwd := []) K7.hob_eq
    (by kernel_rfl) (fun s => by kernel_rfl) K7.hrun (by kernel_rfl) (by kernel_rfl) (by kernel_rfl) (by rfl) (by first | assumption | decide +kernel) (by decide +kernel) ⟨rfl, rfl, rfl, rfl, rfl, by decide +kernel⟩ ?hw ?hc
  case hw => w_witness2
  case hc =>
    refine L2.walk_ofE (l := PySem.Challenge.rw_leverhouse_k07_whole_text_and_back) (n := 63) (k := 6) (x := "_law_script") (CX := L2.CX0) rfl (by decide) (by kernel_rfl) ⟨rfl, by decide, by decide⟩ ?F (fun _ _ _ _ z => z)
    intro w mg fa h Y G hmg0
    obtain ⟨K, KX, c⟩ := Y
    have hmg : mg ("law" : PySem.Str) = some (.ref fa) := by
      have e : (HandSHeadRun.topDef K7.hR.prog 34).name = ("law" : PySem.Str) := by kernel_rfl
      rw [← e]
      exact hmg0
    obtain ⟨fd, hb, hF⟩ := K7.law_facts (P := (PySem.Challenge.rw_leverhouse_k07_whole_text_and_back).prog) (w := w) KX G hmg c
    exact ⟨K, fd, K7.spLaw K, KX, hb, fun H a ns hl _ hS => ⟨a, ns, rfl, hS, hl, fun _ => rfl⟩, hF⟩
