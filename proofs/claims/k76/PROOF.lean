import PyProof.Rows.All
import Wide.All
import OpenK.AllK
import Wide.FinOn
import HandS.ForMost
import HandS.More
import HandS.Star
import HandS.Slots
import HandS.Property
import HandS.ClsMeth
import HandS.IterVal
import KE.KWithOwn
import HandS.Deep
import HandS.Style
import HandS.IsInst
import HandS.DictComp
import HandS.Walk
import HandS.HeadEnd
import HandS.Head2
import HandS.HeadNt
import HandS.MakeKwOnly
import HandS.Codes
import HandS.HeadHook3
import HandS.Set
import HandS.SetFor
import HandS.SetTxt0
import HandS.Strs
import PyProof.Claim2
import HandS.TupAny
import HandS.SlotsOwn
import PyProof.FactsAll.dict_2
import KE.GoesMore
import KE.KEqDict
import PyProof.TupleOfSeq
import HandS.Sort
import KE.KSortTup
import PyProof.Rows.SortKeyStr
import PyProof.StrOps
import PySem.Challenge.RW_halfsetup_k76_whole_desks_of_long_histor
set_option Elab.async false
set_option linter.all false
set_option maxRecDepth 100000
set_option maxHeartbeats 4000000
/-! calls by a promise of positional values -/
namespace Hs
open PySem PySem.Spec PyProof.Rows L2 StX
section
variable {X : Cx} {CX : CXT} {k i : Nat} {f C g p : Addr} {sp : Sp} {E : XK} {x m : Str} {e o : Expr} {es : List Expr} {te ta : TE} {t : TA} {np pos apos : Pos}
/-- f(e, ..) -/
def tCallR (sp : Sp) (E : XK) (t : TA) : TE := fun σ H Q => t σ H fun vs H1 => sp vs H1 Q E
theorem pe_callR (F : FnR X.prog X.w X.K X.mg X.base CX k f sp) (hr : Room k X.A) (hg : Gl X x) (hm : X.mg x = some (.ref f)) (hk : PySem.W.keepIn X.K (.ref f) = true) (hx : Passes CX X E)
    (ha : PA X (e :: es) t) (hdb : (x == ("__debug__" : Str)) = false := by decide) (he : starEach (e :: es) X.env = (false, eval e X.env) :: starEach es X.env := by rfl) (hpl : (backTo pos (starEach es X.env)).any (·.1) = false := by rfl) :
    PE X (.Call (.Name x np) (e :: es) [] pos) (tCallR sp E t) := ⟨fun pins s σ H Q I h =>
  wpAny_Call_Name_kw (ld_glob I hg hm (PySem.W.callWith_K (h₀ := X.base) I.ok.mod.kin hk
    (thn (ha.run pos pins s σ H _ I h) fun us s1 ⟨vs, H1, I1, r, q⟩ => ⟨I1.kIn, wpAny_call (run_fnR F hr hx I1 r q)⟩) he hpl) hdb)⟩
/-- o.m() -/
theorem pe_methR0 {pl : Sem Bool} (he : PE X o ta) (c : Cls X.K C) (hm : Meth X.K C m f) (F : FnR X.prog X.w X.K X.mg X.base CX k f sp) (hr : Room k X.A) (hx : Passes CX X E)
    (ht : eval (.Call (.Attribute o m apos) [] [] pos) X.env = (do
      let ov ← eval o X.env
      standAt apos.atName
      let (f, first) ← holding [ov] (getMethod ov m pl)
      callWith pos f first (backTo pos (starEach [] X.env)) (backToKw pos (keywordEach [] X.env))) := by rfl) :
    PE X (.Call (.Attribute o m apos) [] [] pos) (tMethR C m sp E ta tNil) := by
  refine ⟨fun pins s σ H Q I h => ?_⟩
  refine PySem.W.methodCall_KW (pl := pl) (thn (he.run pins s σ H _ I h) ?_) ht
  rintro u s1 ⟨y, H1, I1, ry, a, dx, fs, rfl, ea, l, q⟩
  obtain rfl : u = Value.ref a := ry
  exact getmeth_ok I1 ea c hm l (PySem.W.callWith_K0 (first := [.ref a]) I1.kIn hm.kp (wpAny_call (run_fnR (us := [.ref a]) (vs := [.ref a]) F hr hx I1 (.cons rfl .nil) q)))
/-- e.f, f a property -/
def tPropR (C : Addr) (sp : Sp) (E : XK) (ta : TE) : TE := fun σ H Q => ta σ H fun x H1 => ∃ a dx fs, x = .ref a ∧ H1 a = some (.ins C dx fs) ∧ sp [.ref a] H1 Q E
theorem pe_propR (he : PE X e ta) (c : Cls X.K C) (hp : PropOf X.K C m p g) (F : FnR X.prog X.w X.K X.mg X.base CX k g sp) (hr : Room (k + 1) X.A) (hx : Passes CX X.nox E)
    (hab : attributeBase e m X.env (eval e X.env) = eval e X.env := by rfl) : PE X (.Attribute e m pos) (tPropR C sp E ta) := by
  refine ⟨fun pins s σ H Q I h => ?_⟩
  refine attr_of hab (thn (he.run pins s σ H _ I h) ?_)
  rintro u s1 ⟨y, H1, I1, ry, a, dx, fs, rfl, ea, q⟩
  obtain rfl : u = Value.ref a := ry
  obtain ⟨mA, O, _, _, _, _⟩ := ins_get I1.hok ea
  obtain ⟨od, J, _⟩ := O.look
  obtain ⟨rest, hrec⟩ := hp.rec_
  have hc : (PySem.W.clsIn X.K C).isSome = true := by
    obtain ⟨cd, hc, _⟩ := PySem.W.any_some c.hd
    rw [hc]
    rfl
  have I2 := I1.tok (s1.toks + 1)
  refine PySem.W.get_bind I1.kIn J (PySem.W.plainGet_of (c.get m)).1 (PySem.W.findObj_data hc hp.at_ hp.get hp.tak) (PySem.W.plainGet_of (c.get m)).2 (wpAny_call (PySem.W.prop_get (s := { s1 with toks := s1.toks + 1 }) I1.kIn hrec ?_))
  refine codeAny_mono (F X.A.in1 X.stack { s1 with toks := s1.toks + 1 } H1 [.ref a] [.ref a] Q E hr.in1 I2.env0.in1 (.cons rfl .nil) q) fun r s' hq => ?_
  cases r with
  | error er => exact False.elim (hx pins σ H1 { s1 with toks := s1.toks + 1 } er s' (I2.wish _) hq)
  | ok fl =>
    cases fl with
    | ret u =>
      obtain ⟨v, H', I3, rv, q3⟩ := I2.after hq
      show wpAny _ _ (handedOut u) _ _ _
      rw [PySem.W.handedOut_of (handed_of rv)]
      exact wpAny_pure ⟨v, H', I3, rv, q3⟩
    | next => exact False.elim hq
    | brk => exact False.elim hq
    | cont => exact False.elim hq
/-- x(e, ..), x a local name that holds a class -/
def tMakeV (i : Nat) (C : Addr) (sp : Sp) (E : XK) (t : TA) : TE := fun σ H Q => σ[i]? = some (some (.ref C)) ∧ tMakeR C sp E t σ H Q
theorem pe_makeV (M : Mk X.K C f) (F : FnR X.prog X.w X.K X.mg X.base CX k f sp) (hr : Room (k + 1) X.A) (hN : X.N[i]? = some x) (hx : Passes CX X E) (ha : PA X (e :: es) t)
    (hv : Vis X.env.scope x := by first | exact Or.inl rfl | exact Or.inr (Or.inl rfl) | exact Or.inr (Or.inr rfl)) (hd : (x == ("__debug__" : Str)) = false := by decide) (hcd : (x == ("__classdict__" : Str)) = false := by decide)
    (he : starEach (e :: es) X.env = (false, eval e X.env) :: starEach es X.env := by rfl) (hpl : (backTo pos (starEach es X.env)).any (·.1) = false := by rfl) : PE X (.Call (.Name x np) (e :: es) [] pos) (tMakeV i C sp E t) := by
  refine ⟨fun pins s σ H Q I h => ?_⟩
  obtain ⟨hs, h⟩ := h
  refine wpAny_Call_Name_kw (thn ((pe_var (pos := np) (i := i) hN hv hd hcd).run pins s σ H (fun v H1 => v = .ref C ∧ H1 = H) I ⟨.ref C, hs, rfl, rfl⟩) ?_)
  rintro u s1 ⟨v, H1, I1, r1, rfl, rfl⟩
  obtain rfl : u = Value.ref C := r1
  exact PySem.W.callWith_K (h₀ := X.base) I.ok.mod.kin M.kp (thn (ha.run pos pins s1 σ _ _ I1 h) fun us s2 ⟨vs, H2, I2, r, q⟩ => ⟨I2.kIn, run_makeR M F hr hx I2 r q⟩) he hpl
/-- o.f as a target, f a slot -/
def gSlot (K : PySem.W.Frag) (f : Str) (to : TE) : TG := fun v σ H Q => to σ H fun x H1 => ∃ a C dx p vs i, x = .ref a ∧ SlX.Slt H1 a C dx vs ∧ SlX.SCls K C ∧ SlX.Slot1 K C f p i ∧ Q σ (SlX.slH H1 a C dx (SlX.putS i v vs))
theorem pg_slot (ho : PE X o ta) : PG X (.Attribute o m pos) (gSlot X.K m ta) := by
  refine ⟨fun pins s σ H v u Q I r h => ?_⟩
  refine PySem.W.kas_attr (thn (ho.run pins s σ H _ I h) ?_)
  rintro ov s1 ⟨y, H1, I1, ry, a, C, dx, p, vs, i, rfl, hsl, c, t, q⟩
  obtain rfl : ov = Value.ref a := ry
  exact SlX.setslot_ok I1 hsl c t r fun s2 I2 => ⟨σ, _, I2, q⟩
end
/-! with C(..) as n: .. -/
section
variable {X : Cx} {k k' i : Nat} {f f' C : Addr} {sp sp' : Sp} {y : Str} {ctx : Expr} {te : TE} {tb : TS} {body : List Stmt} {py pos : Pos}
def tWith (C : Addr) (sp sp' : Sp) (i : Nat) (te : TE) (tb : TS) : TS := fun D σ H => te σ H fun x H1 => ∃ a dx fs, x = .ref a ∧ H1 a = some (.ins C dx fs) ∧
  sp [.ref a] H1 (fun v H2 => tb ⟨fun σ' H' => sp' [.ref a, .non, .non, .non] H' (fun _ H3 => D.nx σ' H3) E0, fun r H' => sp' [.ref a, .non, .non, .non] H' (fun _ H3 => D.rt r H3) E0,
    fun σ' H' => sp' [.ref a, .non, .non, .non] H' (fun _ H3 => D.bk σ' H3) E0, fun σ' H' => sp' [.ref a, .non, .non, .non] H' (fun _ H3 => D.ct σ' H3) E0⟩ (σ.set i (some v)) H2) E0
structure WithC (K : PySem.W.Frag) (C f f' : Addr) : Prop where
  en : PySem.W.findIn K (.ref C) "__enter__" = some (some (.ref f))
  enf : PySem.W.isFn K (.ref f) = true
  ex : PySem.W.findIn K (.ref C) "__exit__" = some (some (.ref f'))
  exf : PySem.W.isFn K (.ref f') = true
theorem ps_with (W : WithC X.K C f f') (F : FnR X.prog X.w X.K X.mg X.base CX0 k f sp) (F' : FnR X.prog X.w X.K X.mg X.base CX0 k' f' sp') (hr : Room k X.A) (hr' : Room k' X.A) (hN : X.N.Nodup) (hi : X.N[i]? = some y) (hx : Loc X.env.scope y)
    (he : PE X ctx te) (hb : PSs X body tb) (hxe : X.xe = fun _ _ => False := by rfl) (hf : X.fn y = true ∨ X.env.scope.names.lookup y = some .local := by first | exact .inl rfl | exact .inr rfl | assumption) :
    PS X (.With [⟨ctx, some (.Name y py)⟩] body pos) (tWith C sp sp' i te tb) := by
  refine ⟨fun pins s σ H D I h => ?_⟩
  refine PySem.W.kw_execN (thn (he.run pins s σ H _ I h) ?_)
  rintro u s1 ⟨x, H1, I1, rx, a, dx, fs, rfl, ea, q⟩
  obtain rfl : u = Value.ref a := rx
  obtain ⟨mA, O, _, _, _, _⟩ := ins_get I1.hok ea
  obtain ⟨od, J, _⟩ := O.look
  refine PySem.W.kw_core (b := assign (.Name y py) X.env) I1.kIn J W.en W.enf W.ex W.exf ?_
  have hr1 := wpAny_call (run_fnR (us := [.ref a]) (vs := [.ref a]) F hr pass0 I1 (.cons rfl .nil) q)
  refine thn hr1 ?_
  rintro v s2 ⟨w, H2, I2, rw2, q2⟩
  refine wpAny_assign_Name (store_ok I2 hN hi hx rw2 (fun s3 I3 => ?_) hf)
  have hb3 := hb.run pins s3 _ H2 _ I3 q2
  rw [hxe] at hb3
  refine wpAny_mono hb3 (fun fl s4 q4 => ?_) fun _ _ z => z
  have out : ∀ {σ' : L2.St} {H' : Hp} {R : Hp → Prop} {P : Shared → Prop}, Inv X pins σ' H' s4 → sp' [.ref a, .non, .non, .non] H' (fun _ H3 => R H3) E0 → (∀ s5 H3, Inv X pins σ' H3 s5 → R H3 → P s5) →
      wpAny (model X.prog X.w) X.A (call (.ref f') [.ref a, .none, .none, .none]) (fun _ s5 => P s5) X.xe s4 := fun {σ' H' R P} I4 q5 hP => by
    refine thn (wpAny_call (run_fnR (us := [.ref a, .none, .none, .none]) (vs := [.ref a, .non, .non, .non]) F' hr' pass0 I4 (.cons rfl (.cons rfl (.cons rfl (.cons rfl .nil)))) q5)) ?_
    rintro v5 s5 ⟨w5, H5, I5, r5, q6⟩
    exact hP s5 H5 I5 q6
  cases fl with
  | next =>
    obtain ⟨σ', H', I4, q5⟩ := q4
    exact out I4 q5 fun s5 H5 I5 z => ⟨σ', H5, I5, z⟩
  | brk =>
    obtain ⟨σ', H', I4, q5⟩ := q4
    exact out I4 q5 fun s5 H5 I5 z => ⟨σ', H5, I5, z⟩
  | cont =>
    obtain ⟨σ', H', I4, q5⟩ := q4
    exact out I4 q5 fun s5 H5 I5 z => ⟨σ', H5, I5, z⟩
  | ret u =>
    obtain ⟨r, σ', H', I4, rr, q5⟩ := q4
    exact out I4 q5 fun s5 H5 I5 z => ⟨r, σ', H5, I5, rr, z⟩
end
end Hs
set_option Elab.async false
set_option linter.all false
set_option maxRecDepth 100000
set_option maxHeartbeats 4000000
/-! facts about values that last -/
namespace Hs
open PySem PySem.Spec PyProof.Rows L2 StX
def nk : HO → HO
  | .frz o u => match u with
    | .dK k => .dK k
    | .dT k => .dT k
    | u => .frz o u
  | o => o
abbrev AS := Addr → Prop
/-- what is outside S stands as it stood, but that dicts may be locked or not -/
def LE (S : AS) (H H' : Hp) : Prop := ∀ a o, ¬ S a → H a = some o → ∃ o', H' a = some o' ∧ nk o' = nk o
theorem LE.refl (S : AS) (H : Hp) : LE S H H := fun a o _ h => ⟨o, h, rfl⟩
theorem LE.trans {S : AS} {H H1 H2 : Hp} (a : LE S H H1) (b : LE S H1 H2) : LE S H H2 := fun x o hs h => by
  obtain ⟨o1, h1, e1⟩ := a x o hs h
  obtain ⟨o2, h2, e2⟩ := b x o1 hs h1
  exact ⟨o2, h2, e2.trans e1⟩
theorem LE.of {S : AS} {H H' : Hp} (e : Same H H') : LE S H H' := fun a o _ h => ⟨o, e a o h, rfl⟩
theorem LE.sub {S T : AS} {H H' : Hp} (h : ∀ a, S a → T a) (e : LE S H H') : LE T H H' := fun a o hs ho => e a o (fun z => hs (h a z)) ho
abbrev A0 : AS := fun _ => False
theorem LE.any {S : AS} {H H' : Hp} (e : LE A0 H H') : LE S H H' := e.sub fun _ z => z.elim
theorem LE.new {S : AS} {H : Hp} {p : Addr} {o : HO} (h : H p = none) : LE S H (upd H p o) := LE.of fun a u e => by
  rw [upd_ne (ne_of_none e h)]
  exact e
theorem LE.mut {S : AS} {H : Hp} {p : Addr} {o : HO} (h : S p) : LE S H (upd H p o) := fun a u hs e => ⟨u, by
  rw [upd_ne (fun z => hs (by rw [z]; exact h))]
  exact e, rfl⟩
/-- outside S all is as it was -/
def XE (S : AS) (H H' : Hp) : Prop := ∀ a o, ¬ S a → H a = some o → H' a = some o
theorem XE.refl (S : AS) (H : Hp) : XE S H H := fun a o _ h => h
theorem XE.trans {S : AS} {H H1 H2 : Hp} (a : XE S H H1) (b : XE S H1 H2) : XE S H H2 := fun x o hs h => b x o hs (a x o hs h)
theorem XE.of {S : AS} {H H' : Hp} (e : Same H H') : XE S H H' := fun a o _ h => e a o h
theorem XE.sub {S T : AS} {H H' : Hp} (h : ∀ a, S a → T a) (e : XE S H H') : XE T H H' := fun a o hs ho => e a o (fun z => hs (h a z)) ho
theorem XE.m {S : AS} {H H' : Hp} (e : XE S H H') : LE S H H' := fun a o hs h => ⟨o, e a o hs h, rfl⟩
theorem XE.new {S : AS} {H : Hp} {p : Addr} {o : HO} (h : H p = none) : XE S H (upd H p o) := XE.of fun a u e => by
  rw [upd_ne (ne_of_none e h)]
  exact e
theorem XE.mut {S : AS} {H : Hp} {p : Addr} {o : HO} (h : S p) : XE S H (upd H p o) := fun a u hs e => by
  rw [upd_ne (fun z => hs (by rw [z]; exact h))]
  exact e
def isD : HO → Bool
  | .dK _ => true
  | .dT _ => true
  | _ => false
def isT : HO → Bool
  | .tup _ => true
  | _ => false
theorem LE.lock {S : AS} {H : Hp} {d : Addr} {u : HO} {od : Obj} (hu : isD u = true) (h : H d = some u) : LE S H (upd H d (.frz od u)) := fun a o _ ha => by
  by_cases e : a = d
  · subst e
    rw [h] at ha
    cases ha
    exact ⟨_, upd_same, by cases u <;> first | rfl | cases hu⟩
  · exact ⟨o, by rw [upd_ne e]; exact ha, rfl⟩
theorem LE.unlock {S : AS} {H : Hp} {d : Addr} {u : HO} {od : Obj} (hu : isD u = true) (h : H d = some (.frz od u)) : LE S H (upd H d u) := fun a o _ ha => by
  by_cases e : a = d
  · subst e
    rw [h] at ha
    cases ha
    exact ⟨_, upd_same, by cases u <;> first | rfl | cases hu⟩
  · exact ⟨o, by rw [upd_ne e]; exact ha, rfl⟩
/-- as LE, and S stands exactly -/
def LX (S : AS) (H H' : Hp) : Prop := LE A0 H H' ∧ ∀ a o, S a → H a = some o → H' a = some o
theorem LX.refl (S : AS) (H : Hp) : LX S H H := ⟨LE.refl _ _, fun a o _ h => h⟩
theorem LX.trans {S : AS} {H H1 H2 : Hp} (a : LX S H H1) (b : LX S H1 H2) : LX S H H2 := ⟨a.1.trans b.1, fun x o hs h => b.2 x o hs (a.2 x o hs h)⟩
theorem LX.of {S : AS} {H H' : Hp} (e : Same H H') : LX S H H' := ⟨LE.of e, fun a o _ h => e a o h⟩
theorem LX.new {S : AS} {H : Hp} {p : Addr} {o : HO} (h : H p = none) : LX S H (upd H p o) := LX.of fun a u e => by
  rw [upd_ne (ne_of_none e h)]
  exact e
theorem LX.sub {S T : AS} {H H' : Hp} (h : ∀ a, T a → S a) (e : LX S H H') : LX T H H' := ⟨e.1, fun a o hs ho => e.2 a o (h a hs) ho⟩
theorem LX.any {S T : AS} {H H' : Hp} (e : LX S H H') : LE T H H' := e.1.any
theorem LX.lock {S : AS} {H : Hp} {d : Addr} {u : HO} {od : Obj} (hu : isD u = true) (nd : ¬ S d) (h : H d = some u) : LX S H (upd H d (.frz od u)) := ⟨LE.lock hu h, fun a o hs ha => by
  rw [upd_ne (fun z => nd (by rw [← z]; exact hs))]
  exact ha⟩
theorem LX.unlock {S : AS} {H : Hp} {d : Addr} {u : HO} {od : Obj} (hu : isD u = true) (nd : ¬ S d) (h : H d = some (.frz od u)) : LX S H (upd H d u) := ⟨LE.unlock hu h, fun a o hs ha => by
  rw [upd_ne (fun z => nd (by rw [← z]; exact hs))]
  exact ha⟩
theorem nk_tup {o : HO} {xs : List V} (h : nk o = .tup xs) : o = .tup xs := by
  cases o with
  | frz o u => cases u <;> simp [nk] at h
  | _ => first | exact h | cases h
theorem nk_lst {o : HO} {xs : List V} (h : nk o = .lst xs) : o = .lst xs := by
  cases o with
  | frz o u => cases u <;> simp [nk] at h
  | _ => first | exact h | cases h
theorem nk_ins {o : HO} {C dx : Addr} {fs : List (Str × V)} (h : nk o = .ins C dx fs) : o = .ins C dx fs := by
  cases o with
  | frz o u => cases u <;> simp [nk] at h
  | _ => first | exact h | cases h
theorem nk_ext {o : HO} {φ : Heap → Prop} (h : nk o = .ext φ) : o = .ext φ := by
  cases o with
  | frz o u => cases u <;> simp [nk] at h
  | _ => first | exact h | cases h
theorem nk_own {o : HO} {x : Addr} (h : nk o = .own x) : o = .own x := by
  cases o with
  | frz o u => cases u <;> simp [nk] at h
  | _ => first | exact h | cases h
theorem nk_frzl {o : HO} {ob : Obj} {xs : List V} (h : nk o = .frz ob (.lst xs)) : o = .frz ob (.lst xs) := by
  cases o with
  | frz o u => cases u <;> simp [nk] at h <;> simp_all
  | _ => first | exact h | cases h
theorem nk_frzt {o : HO} {ob : Obj} {xs : List V} (h : nk o = .frz ob (.tup xs)) : o = .frz ob (.tup xs) := by
  cases o with
  | frz o u => cases u <;> simp [nk] at h <;> simp_all
  | _ => first | exact h | cases h
theorem nk_dK {o : HO} {k : List (Key × V)} (h : nk o = .dK k) : o = .dK k ∨ ∃ u, o = .frz u (.dK k) := by
  cases o with
  | frz o u =>
    cases u <;> simp [nk] at h
    subst h
    exact .inr ⟨_, rfl⟩
  | _ => first | exact .inl h | cases h
theorem nk_dT {o : HO} {k : List (List Key × V)} (h : nk o = .dT k) : o = .dT k ∨ ∃ u, o = .frz u (.dT k) := by
  cases o with
  | frz o u =>
    cases u <;> simp [nk] at h
    subst h
    exact .inr ⟨_, rfl⟩
  | _ => first | exact .inl h | cases h
section
variable {S T : AS} {K : PySem.W.Frag} {H H' : Hp} {a : Addr}
theorem LE.tup {xs : List V} (e : LE S H H') (hs : ¬ S a) (h : H a = some (.tup xs)) : H' a = some (.tup xs) := by
  obtain ⟨o, h1, h2⟩ := e a _ hs h
  rw [h1, nk_tup h2]
theorem LE.lst {xs : List V} (e : LE S H H') (hs : ¬ S a) (h : H a = some (.lst xs)) : H' a = some (.lst xs) := by
  obtain ⟨o, h1, h2⟩ := e a _ hs h
  rw [h1, nk_lst h2]
theorem LE.ins {C dx : Addr} {fs : List (Str × V)} (e : LE S H H') (hs : ¬ S a) (h : H a = some (.ins C dx fs)) : H' a = some (.ins C dx fs) := by
  obtain ⟨o, h1, h2⟩ := e a _ hs h
  rw [h1, nk_ins h2]
theorem LE.dK {k : List (Key × V)} (e : LE S H H') (hs : ¬ S a) (h : Rd H a (.dK k)) : Rd H' a (.dK k) := by
  rcases h with h | ⟨u, h⟩ <;> obtain ⟨o, h1, h2⟩ := e a _ hs h <;> rcases nk_dK h2 with rfl | ⟨v, rfl⟩ <;> first | exact .inl h1 | exact .inr ⟨_, h1⟩
theorem LE.dT {k : List (List Key × V)} (e : LE S H H') (hs : ¬ S a) (h : Rd H a (.dT k)) : Rd H' a (.dT k) := by
  rcases h with h | ⟨u, h⟩ <;> obtain ⟨o, h1, h2⟩ := e a _ hs h <;> rcases nk_dT h2 with rfl | ⟨v, rfl⟩ <;> first | exact .inl h1 | exact .inr ⟨_, h1⟩
/-- a tuple of the heap, or one of the written part -/
def ST (S : AS) (K : PySem.W.Frag) (H : Hp) (a : Addr) (xs : List V) : Prop := (¬ S a ∧ H a = some (.tup xs)) ∨ ∃ (o : Obj) (its : Array Value) (n : Nat), K.lookup a = some o ∧ o.cls = .type "tuple" ∧ o.data = .seq its n ∧ its.size ≤ sizeLine ∧ Vals xs its.toList
theorem ST.sq {xs : List V} (h : ST S K H a xs) : SqT K H a xs := h.elim (fun z => .inl (.inl z.2)) .inr
theorem ST.le {xs : List V} (e : LE S H H') (h : ST S K H a xs) : ST S K H' a xs := h.elim (fun z => .inl ⟨z.1, e.tup z.1 z.2⟩) .inr
theorem not_in (hl : ∀ a, T a → S a ∨ H a = none) {o : HO} (hs : ¬ S a) (h : H a = some o) : ¬ T a := fun z => (hl a z).elim hs fun y => by rw [h] at y; cases y
theorem ST.lift {xs : List V} (hl : ∀ a, T a → S a ∨ H a = none) (h : ST S K H a xs) : ST T K H a xs := h.elim (fun z => .inl ⟨not_in hl z.1 z.2, z.2⟩) .inr
end
mutual
inductive Da (S : AS) (K : PySem.W.Frag) (H : Hp) : V → PyData → Prop
  | non : Da S K H .non .none
  | bl (b : Bool) : Da S K H (.bl b) (.bool b)
  | int (i : Int) : Da S K H (.int i) (.int i)
  | str (x : Str) : Da S K H (.str x) (.str x)
  | lst {a : Addr} {xs : List V} {ds : List PyData} : ¬ S a → H a = some (.lst xs) → DaAll S K H xs ds → Da S K H (.ref a) (.list ds)
  | tup {a : Addr} {xs : List V} {ds : List PyData} : ST S K H a xs → DaAll S K H xs ds → Da S K H (.ref a) (.tuple ds)
inductive DaAll (S : AS) (K : PySem.W.Frag) (H : Hp) : List V → List PyData → Prop
  | nil : DaAll S K H [] []
  | cons {v : V} {vs : List V} {d : PyData} {ds : List PyData} : Da S K H v d → DaAll S K H vs ds → DaAll S K H (v :: vs) (d :: ds)
end
section
variable {S T : AS} {K : PySem.W.Frag} {H H' : Hp}
mutual
theorem Da.dp : ∀ {v : V} {d : PyData}, Da S K H v d → Dp K H v d
  | _, _, .non => .non
  | _, _, .bl b => .bl b
  | _, _, .int i => .int i
  | _, _, .str x => .str x
  | _, _, .lst _ h t => .lst (.inl (.inl h)) t.dp
  | _, _, .tup h t => .tup h.sq t.dp
theorem DaAll.dp : ∀ {v : List V} {d : List PyData}, DaAll S K H v d → DpAll K H v d
  | _, _, .nil => .nil
  | _, _, .cons h t => .cons h.dp t.dp
end
mutual
theorem Da.le (e : LE S H H') : ∀ {v : V} {d : PyData}, Da S K H v d → Da S K H' v d
  | _, _, .non => .non
  | _, _, .bl b => .bl b
  | _, _, .int i => .int i
  | _, _, .str x => .str x
  | _, _, .lst s h t => .lst s (e.lst s h) (t.le e)
  | _, _, .tup h t => .tup (h.le e) (t.le e)
theorem DaAll.le (e : LE S H H') : ∀ {v : List V} {d : List PyData}, DaAll S K H v d → DaAll S K H' v d
  | _, _, .nil => .nil
  | _, _, .cons h t => .cons (h.le e) (t.le e)
end
mutual
theorem Da.lift (hl : ∀ a, T a → S a ∨ H a = none) : ∀ {v : V} {d : PyData}, Da S K H v d → Da T K H v d
  | _, _, .non => .non
  | _, _, .bl b => .bl b
  | _, _, .int i => .int i
  | _, _, .str x => .str x
  | _, _, .lst s h t => .lst (not_in hl s h) h (t.lift hl)
  | _, _, .tup h t => .tup (h.lift hl) (t.lift hl)
theorem DaAll.lift (hl : ∀ a, T a → S a ∨ H a = none) : ∀ {v : List V} {d : List PyData}, DaAll S K H v d → DaAll T K H v d
  | _, _, .nil => .nil
  | _, _, .cons h t => .cons (h.lift hl) (t.lift hl)
end
theorem DaAll.get : ∀ {vs : List V} {ds : List PyData} {i : Nat} {d : PyData}, DaAll S K H vs ds → ds[i]? = some d → ∃ v, vs[i]? = some v ∧ Da S K H v d
  | _, _, _, _, .nil, e => by simp at e
  | _, _, 0, _, .cons h t, e => by
    simp at e
    subst e
    exact ⟨_, rfl, h⟩
  | _, _, i + 1, _, .cons h t, e => by
    obtain ⟨v, h1, h2⟩ := DaAll.get (i := i) t (by simpa using e)
    exact ⟨v, by simpa using h1, h2⟩
theorem DaAll.len : ∀ {vs : List V} {ds : List PyData}, DaAll S K H vs ds → vs.length = ds.length
  | _, _, .nil => rfl
  | _, _, .cons h t => by simp [t.len]
theorem DaAll.app : ∀ {vs ws : List V} {ds es : List PyData}, DaAll S K H vs ds → DaAll S K H ws es → DaAll S K H (vs ++ ws) (ds ++ es)
  | _, _, _, _, .nil, h => h
  | _, _, _, _, .cons h t, u => .cons h (t.app u)
theorem DaAll.take : ∀ {vs : List V} {ds : List PyData} (n : Nat), DaAll S K H vs ds → DaAll S K H (vs.take n) (ds.take n)
  | _, _, 0, _ => .nil
  | _, _, n + 1, .nil => .nil
  | _, _, n + 1, .cons h t => .cons h (t.take n)
theorem DaAll.drop : ∀ {vs : List V} {ds : List PyData} (n : Nat), DaAll S K H vs ds → DaAll S K H (vs.drop n) (ds.drop n)
  | _, _, 0, h => h
  | _, _, n + 1, .nil => .nil
  | _, _, n + 1, .cons h t => t.drop n
theorem DaAll.mem : ∀ {vs : List V} {ds : List PyData} {v : V}, DaAll S K H vs ds → v ∈ vs → ∃ d, d ∈ ds ∧ Da S K H v d
  | _, _, _, .nil, h => by cases h
  | _, _, v, .cons h t, m => by
    rcases List.mem_cons.mp m with rfl | m
    · exact ⟨_, List.mem_cons_self, h⟩
    · obtain ⟨d, h1, h2⟩ := t.mem m
      exact ⟨d, List.mem_cons_of_mem _ h1, h2⟩
theorem DaAll.strs : ∀ {xs : List Str}, DaAll S K H (xs.map V.str) (xs.map PyData.str)
  | [] => .nil
  | x :: xs => .cons (.str x) DaAll.strs
theorem DaAll.strs_of : ∀ {xs : List Str} {vs : List V}, DaAll S K H vs (xs.map PyData.str) → vs = xs.map V.str
  | [], _, .nil => rfl
  | x :: xs, _, .cons (.str _) t => by rw [DaAll.strs_of t]; rfl
theorem DaAll.ints : ∀ {xs : List Int}, DaAll S K H (xs.map V.int) (xs.map PyData.int)
  | [] => .nil
  | x :: xs => .cons (.int x) DaAll.ints
theorem DaAll.ints_of : ∀ {xs : List Int} {vs : List V}, DaAll S K H vs (xs.map PyData.int) → vs = xs.map V.int
  | [], _, .nil => rfl
  | x :: xs, _, .cons (.int _) t => by rw [DaAll.ints_of t]; rfl
theorem DaAll.bls_of : ∀ {xs : List Bool} {vs : List V}, DaAll S K H vs (xs.map PyData.bool) → vs = xs.map V.bl
  | [], _, .nil => rfl
  | x :: xs, _, .cons (.bl _) t => by rw [DaAll.bls_of t]; rfl
theorem Da.str_of {v : V} {x : Str} (h : Da S K H v (.str x)) : v = .str x := by cases h; rfl
theorem Da.int_of {v : V} {x : Int} (h : Da S K H v (.int x)) : v = .int x := by cases h; rfl
theorem Da.bl_of {v : V} {x : Bool} (h : Da S K H v (.bool x)) : v = .bl x := by cases h; rfl
theorem Da.non_of {v : V} (h : Da S K H v .none) : v = .non := by cases h; rfl
theorem Da.tup_of {v : V} {ds : List PyData} (h : Da S K H v (.tuple ds)) : ∃ a xs, v = .ref a ∧ ST S K H a xs ∧ DaAll S K H xs ds := by
  cases h with
  | tup h t => exact ⟨_, _, rfl, h, t⟩
theorem Da.lst_of {v : V} {ds : List PyData} (h : Da S K H v (.list ds)) : ∃ a xs, v = .ref a ∧ ¬ S a ∧ H a = some (.lst xs) ∧ DaAll S K H xs ds := by
  cases h with
  | lst s h t => exact ⟨_, _, rfl, s, h, t⟩
end
/-- a lasting fact about a value -/
structure Fm where
  p : AS → V → Hp → Prop
  le : ∀ {S v H H'}, LE S H H' → p S v H → p S v H'
  lift : ∀ {S T v H}, (∀ a, T a → S a ∨ H a = none) → p S v H → p T v H
theorem Fm.xe (φ : Fm) {S : AS} {v : V} {H H' : Hp} (e : XE S H H') (h : φ.p S v H) : φ.p S v H' := φ.le e.m h
abbrev Is (K : PySem.W.Frag) (d : PyData) : Fm := ⟨fun S v H => Da S K H v d, fun e h => h.le e, fun hl h => h.lift hl⟩
abbrev Eqv (v : V) : Fm := ⟨fun _ u _ => u = v, fun _ h => h, fun _ h => h⟩
abbrev Exs {α : Type} (P : α → Prop) (φ : α → Fm) : Fm := ⟨fun S v H => ∃ a, P a ∧ (φ a).p S v H, fun e ⟨a, h1, h2⟩ => ⟨a, h1, (φ a).le e h2⟩, fun e ⟨a, h1, h2⟩ => ⟨a, h1, (φ a).lift e h2⟩⟩
abbrev Bo (b : Bool) : Fm := Eqv (.bl b)
/-- what a def keeps and changes -/
structure IV (S : AS) where
  p : Hp → Prop
  le : ∀ {H H'}, LX S H H' → p H → p H'
  dom : ∀ {H}, p H → ∀ a, S a → ∃ o, H a = some o ∧ isT o = false
theorem IV.fresh {S : AS} (I : IV S) {H : Hp} {p : Addr} (h : I.p H) (hp : H p = none) : ¬ S p := fun z => by
  obtain ⟨o, h1, _⟩ := I.dom h p z
  rw [hp] at h1
  cases h1
theorem IV.notT {S : AS} (I : IV S) {H : Hp} {p : Addr} {xs : List V} (h : I.p H) (hp : H p = some (.tup xs)) : ¬ S p := fun z => by
  obtain ⟨o, h1, h2⟩ := I.dom h p z
  rw [hp] at h1
  cases h1
  cases h2
abbrev Ctx := List (Option Fm)
def Env (S : AS) (Γ : Ctx) (σ : L2.St) (H : Hp) : Prop := σ.length = Γ.length ∧ ∀ (i : Nat) (φ : Fm), Γ[i]? = some (some φ) → ∃ v, σ[i]? = some (some v) ∧ φ.p S v H
section
variable {S T : AS} {Γ : Ctx} {σ : L2.St} {H H' : Hp} {φ : Fm} {v : V}
theorem Env.le (e : LE S H H') (h : Env S Γ σ H) : Env S Γ σ H' := ⟨h.1, fun i φ g => by
  obtain ⟨v, h1, h2⟩ := h.2 i φ g
  exact ⟨v, h1, φ.le e h2⟩⟩
theorem Env.xe (e : XE S H H') (h : Env S Γ σ H) : Env S Γ σ H' := h.le e.m
theorem Env.lift (hl : ∀ a, T a → S a ∨ H a = none) (h : Env S Γ σ H) : Env T Γ σ H := ⟨h.1, fun i φ g => by
  obtain ⟨v, h1, h2⟩ := h.2 i φ g
  exact ⟨v, h1, φ.lift hl h2⟩⟩
theorem Env.set (h : Env S Γ σ H) (i : Nat) (hv : φ.p S v H) : Env S (Γ.set i (some φ)) (σ.set i (some v)) H := ⟨by simp [h.1], fun j ψ g => by
  by_cases hj : i = j
  · subst hj
    by_cases hi : i < Γ.length
    · rw [List.getElem?_set_self hi] at g
      cases g
      exact ⟨v, List.getElem?_set_self (by rw [h.1]; exact hi), hv⟩
    · rw [List.getElem?_eq_none (by simp; omega)] at g
      cases g
  · rw [List.getElem?_set_ne hj] at g
    obtain ⟨u, h1, h2⟩ := h.2 j ψ g
    exact ⟨u, by rw [List.getElem?_set_ne hj]; exact h1, h2⟩⟩
/-- fewer facts, weaker facts -/
inductive Sub : Ctx → Ctx → Prop
  | nil : Sub [] []
  | s {g : Option Fm} {Δ Γ : Ctx} : Sub Δ Γ → Sub (g :: Δ) (g :: Γ)
  | n {g : Option Fm} {Δ Γ : Ctx} : Sub Δ Γ → Sub (none :: Δ) (g :: Γ)
  | w {φ ψ : Fm} {Δ Γ : Ctx} : (∀ S v H, ψ.p S v H → φ.p S v H) → Sub Δ Γ → Sub (some φ :: Δ) (some ψ :: Γ)
theorem Sub.refl : ∀ Γ : Ctx, Sub Γ Γ
  | [] => .nil
  | _ :: Γ => .s (Sub.refl Γ)
theorem Sub.len : ∀ {Δ Γ : Ctx}, Sub Δ Γ → Δ.length = Γ.length
  | _, _, .nil => rfl
  | _, _, .s t => by simp [t.len]
  | _, _, .n t => by simp [t.len]
  | _, _, .w _ t => by simp [t.len]
theorem Sub.at_ : ∀ {Δ Γ : Ctx} {i : Nat} {φ : Fm}, Sub Δ Γ → Δ[i]? = some (some φ) → ∃ ψ : Fm, Γ[i]? = some (some ψ) ∧ ∀ S v H, ψ.p S v H → φ.p S v H
  | _, _, _, _, .nil, h => by simp at h
  | _, _, 0, φ, .s t, h => ⟨φ, h, fun _ _ _ z => z⟩
  | _, _, 0, φ, .n t, h => by simp at h
  | _, _, 0, φ, .w (ψ := ψ) e t, h => by
    simp at h
    subst h
    exact ⟨ψ, rfl, e⟩
  | _, _, i + 1, φ, .s t, h => by
    obtain ⟨ψ, h1, h2⟩ := Sub.at_ (i := i) t (by simpa using h)
    exact ⟨ψ, by simpa using h1, h2⟩
  | _, _, i + 1, φ, .n t, h => by
    obtain ⟨ψ, h1, h2⟩ := Sub.at_ (i := i) t (by simpa using h)
    exact ⟨ψ, by simpa using h1, h2⟩
  | _, _, i + 1, φ, .w _ t, h => by
    obtain ⟨ψ, h1, h2⟩ := Sub.at_ (i := i) t (by simpa using h)
    exact ⟨ψ, by simpa using h1, h2⟩
theorem Env.sub {Δ : Ctx} (s : Sub Δ Γ) (h : Env S Γ σ H) : Env S Δ σ H := ⟨h.1.trans s.len.symm, fun i φ g => by
  obtain ⟨ψ, h1, h2⟩ := s.at_ g
  obtain ⟨v, h3, h4⟩ := h.2 i ψ h1
  exact ⟨v, h3, h2 S v H h4⟩⟩
def wipeG (Γ : Ctx) : List Nat → Ctx
  | [] => Γ
  | v :: vs => (wipeG Γ vs).set v none
theorem Env.unset (h : Env S Γ σ H) (i : Nat) : Env S (Γ.set i none) (σ.set i none) H := ⟨by simp [h.1], fun j ψ g => by
  by_cases hj : i = j
  · subst hj
    by_cases hi : i < Γ.length
    · rw [List.getElem?_set_self hi] at g
      cases g
    · rw [List.getElem?_eq_none (by simp; omega)] at g
      cases g
  · rw [List.getElem?_set_ne hj] at g
    obtain ⟨u, h1, h2⟩ := h.2 j ψ g
    exact ⟨u, by rw [List.getElem?_set_ne hj]; exact h1, h2⟩⟩
theorem Env.wipe (h : Env S Γ σ H) : ∀ vs : List Nat, Env S (wipeG Γ vs) (L2.wipe σ vs) H
  | [] => h
  | v :: vs => (Env.wipe h vs).unset v
end
def Ins (S : AS) : List Fm → List V → Hp → Prop
  | [], vs, _ => vs = []
  | φ :: φs, vs, H => ∃ v ws, vs = v :: ws ∧ φ.p S v H ∧ Ins S φs ws H
theorem Ins.le {S : AS} {H H' : Hp} (e : LE S H H') : ∀ {φs : List Fm} {vs : List V}, Ins S φs vs H → Ins S φs vs H'
  | [], _, h => h
  | φ :: φs, _, ⟨v, ws, h1, h2, h3⟩ => ⟨v, ws, h1, φ.le e h2, h3.le e⟩
theorem Ins.xe {S : AS} {H H' : Hp} (e : XE S H H') {φs : List Fm} {vs : List V} (h : Ins S φs vs H) : Ins S φs vs H' := h.le e.m
theorem Ins.len {S : AS} {H : Hp} : ∀ {φs : List Fm} {vs : List V}, Ins S φs vs H → vs.length = φs.length
  | [], _, h => by rw [h]; rfl
  | φ :: φs, _, ⟨v, ws, h1, h2, h3⟩ => by rw [h1]; simp [h3.len]
theorem Ins.get {S : AS} {H : Hp} : ∀ {φs : List Fm} {vs : List V} {i : Nat} {φ : Fm}, Ins S φs vs H → φs[i]? = some φ → ∃ v, vs[i]? = some v ∧ φ.p S v H
  | [], _, _, _, _, e => by simp at e
  | φ :: φs, _, 0, _, ⟨v, ws, h1, h2, h3⟩, e => by
    simp at e
    subst e
    exact ⟨v, by rw [h1]; rfl, h2⟩
  | φ :: φs, _, i + 1, _, ⟨v, ws, h1, h2, h3⟩, e => by
    obtain ⟨u, h4, h5⟩ := Ins.get (i := i) h3 (by simpa using e)
    exact ⟨u, by rw [h1]; simpa using h4, h5⟩
/-- the slots at a def's start -/
def ctx0 (n : Nat) (φs : List Fm) : Ctx := φs.map some ++ List.replicate (n - φs.length) none
theorem Env.start {S : AS} {H : Hp} {φs : List Fm} {vs : List V} (N : List Str) (h : Ins S φs vs H) : Env S (ctx0 N.length φs) (L2.start N vs) H := by
  have hl := h.len
  refine ⟨by simp [ctx0, L2.start, hl], fun i φ g => ?_⟩
  unfold ctx0 at g
  by_cases hi : i < φs.length
  · rw [List.getElem?_append_left (by simpa using hi)] at g
    have g' : φs[i]? = some φ := by
      rw [List.getElem?_map] at g
      cases q : φs[i]? with
      | none => rw [q] at g; cases g
      | some z => rw [q] at g; cases g; rfl
    obtain ⟨v, h1, h2⟩ := h.get g'
    exact ⟨v, by unfold L2.start; rw [List.getElem?_append_left (by simp [hl]; exact hi), List.getElem?_map, h1]; rfl, h2⟩
  · rw [List.getElem?_append_right (by simp; omega)] at g
    rw [List.getElem?_replicate] at g
    split at g <;> simp at g
end Hs
set_option Elab.async false
set_option linter.all false
set_option maxRecDepth 100000
set_option maxHeartbeats 4000000
/-! what a reading gives, by lasting facts -/
namespace Hs
open PySem PySem.Spec PyProof.Rows L2 StX
def GE (S : AS) (Γ : Ctx) (I : IV S) (t : TE) (φ : Fm) (J : IV S) : Prop := ∀ σ H, Env S Γ σ H → I.p H → ∀ Q : VK, (∀ v H', XE S H H' → J.p H' → φ.p S v H' → Q v H') → t σ H Q
def GA (S : AS) (Γ : Ctx) (I : IV S) (t : TA) (φs : List Fm) (J : IV S) : Prop := ∀ σ H, Env S Γ σ H → I.p H → ∀ Q : List V → Hp → Prop, (∀ vs H', XE S H H' → J.p H' → Ins S φs vs H' → Q vs H') → t σ H Q
def GT (S : AS) (Γ : Ctx) (I : IV S) (t : TT) (P : Bool → Prop) (J : IV S) : Prop := ∀ σ H, Env S Γ σ H → I.p H → ∀ Q : Bool → Hp → Prop, (∀ b H', XE S H H' → J.p H' → P b → Q b H') → t σ H Q
def GS (S : AS) (Γ : Ctx) (I : IV S) (t : TS) (R : VK) (N : L2.St → Hp → Prop) : Prop := ∀ σ H, Env S Γ σ H → I.p H → ∀ D : Ends, (∀ v H', XE S H H' → R v H' → D.rt v H') → (∀ σ' H', XE S H H' → N σ' H' → D.nx σ' H') → t D σ H
def En (S : AS) (Γ : Ctx) (I : IV S) : L2.St → Hp → Prop := fun σ H => Env S Γ σ H ∧ I.p H
def GR (S : AS) (I : IV S) (r : R2) (φ ψ χ : Fm) (J : IV S) : Prop := ∀ x y H, I.p H → φ.p S x H → ψ.p S y H → ∀ Q : VK, (∀ v H', XE S H H' → J.p H' → χ.p S v H' → Q v H') → r x y H Q
def GC (S : AS) (I : IV S) (r : List V → Hp → VK → Prop) (φs : List Fm) (χ : Fm) (J : IV S) : Prop := ∀ vs H, I.p H → Ins S φs vs H → ∀ Q : VK, (∀ v H', XE S H H' → J.p H' → χ.p S v H' → Q v H') → r vs H Q
def GG (S : AS) (Γ : Ctx) (g : TG) (φ : Fm) (Δ : Ctx) (js : List Nat) : Prop := ∀ σ H v (Q : L2.St → Hp → Prop), Env S Γ σ H → φ.p S v H → (∀ σ2, Env S Δ σ2 H → (∀ vs : List Nat, (∀ j ∈ js, j ∈ vs) → L2.wipe σ2 vs = L2.wipe σ vs) → Q σ2 H) → g v σ H Q
def GGs (S : AS) (Γ : Ctx) (g : TGs) (φs : List Fm) (Δ : Ctx) (js : List Nat) : Prop := ∀ σ H vs (Q : L2.St → Hp → Prop), Env S Γ σ H → Ins S φs vs H → (∀ σ2, Env S Δ σ2 H → (∀ vs : List Nat, (∀ j ∈ js, j ∈ vs) → L2.wipe σ2 vs = L2.wipe σ vs) → Q σ2 H) → g vs σ H Q
section
variable {S : AS} {K : PySem.W.Frag} {Γ Δ : Ctx} {I J L M : IV S} {ta tb tc te : TE} {φ ψ χ ξ : Fm} {r r' : R2} {tt : TT} {t u t' : TS} {R : VK} {N : L2.St → Hp → Prop} {i : Nat}
/-! expressions -/
theorem ge_var (h : Γ[i]? = some (some φ)) : GE S Γ I (tVar i) φ I := fun σ H e hi Q q => by
  obtain ⟨v, h1, h2⟩ := e.2 i φ h
  exact ⟨v, h1, q v H (XE.refl S H) hi h2⟩
theorem ge_c {v : V} (h : ∀ H, φ.p S v H) : GE S Γ I (tC v) φ I := fun σ H e hi Q q => q v H (XE.refl S H) hi (h H)
theorem ge_int {n : Int} : GE S Γ I (tC (.int n)) (Is K (.int n)) I := ge_c fun _ => .int n
theorem ge_str {n : Str} : GE S Γ I (tC (.str n)) (Is K (.str n)) I := ge_c fun _ => .str n
theorem ge_bl {n : Bool} : GE S Γ I (tC (.bl n)) (Is K (.bool n)) I := ge_c fun _ => .bl n
theorem ge_non : GE S Γ I (tC .non) (Is K .none) I := ge_c fun _ => .non
theorem GE.wk (h : GE S Γ I te φ J) (w : ∀ v H, J.p H → φ.p S v H → ψ.p S v H) : GE S Γ I te ψ J := fun σ H e hi Q q => h σ H e hi Q fun v H' l j p => q v H' l j (w v H' j p)
theorem GE.ex {α : Type} {P : α → Prop} {φ : α → Fm} (a : α) (ha : P a) (h : GE S Γ I te (φ a) J) : GE S Γ I te (Exs P φ) J := h.wk fun v H _ p => ⟨a, ha, p⟩
theorem ge_op (ha : GE S Γ I ta φ J) (hb : GE S Γ J tb ψ L) (hr : GR S L r φ ψ χ M) : GE S Γ I (tOp r ta tb) χ M := fun σ H e hi Q q =>
  ha σ H e hi _ fun x H1 l1 j1 p1 => hb σ H1 (e.xe l1) j1 _ fun y H2 l2 j2 p2 => hr x y H2 j2 (φ.xe l2 p1) p2 Q fun v H3 l3 j3 p3 => q v H3 ((l1.trans l2).trans l3) j3 p3
theorem ge_chain {b c : Bool} (ha : GE S Γ I ta φ J) (hb : GE S Γ J tb ψ L) (hr : GR S L r φ ψ (Is K (.bool b)) L) (hc : b = true → GE S Γ L tc χ L) (hr' : b = true → GR S L r' ψ χ (Is K (.bool c)) L) : GE S Γ I (tChain r r' ta tb tc) (Is K (.bool (b && c))) L := fun σ H e hi Q q =>
  ha σ H e hi _ fun x H1 l1 j1 p1 => hb σ H1 (e.xe l1) j1 _ fun y H2 l2 j2 p2 => hr x y H2 j2 (φ.xe l2 p1) p2 _ fun v H3 l3 j3 p3 => ⟨b, p3.bl_of, by
    cases b with
    | true =>
      rw [if_pos rfl]
      exact hc rfl σ H3 (e.xe ((l1.trans l2).trans l3)) j3 _ fun w H4 l4 j4 p4 => hr' rfl y w H4 j4 (ψ.xe (l3.trans l4) p2) p4 Q fun v H5 l5 j5 p5 => q v H5 ((((l1.trans l2).trans l3).trans l4).trans l5) j5 p5
    | false =>
      rw [if_neg (by decide)]
      exact q _ H3 ((l1.trans l2).trans l3) j3 (.bl _)⟩
theorem ge_andV {a b : Bool} (ha : GE S Γ I ta (Is K (.bool a)) J) (hb : a = true → GE S Γ J tb (Is K (.bool b)) L) (hn : a = false → ∀ H, J.p H → L.p H) : GE S Γ I (tAndV ta tb) (Is K (.bool (a && b))) L := fun σ H e hi Q q =>
  ha σ H e hi _ fun x H1 l1 j1 p1 => ⟨a, p1.bl_of, by
    cases a with
    | true =>
      rw [if_pos rfl]
      exact hb rfl σ H1 (e.xe l1) j1 _ fun v H2 l2 j2 p2 => q v H2 (l1.trans l2) j2 p2
    | false =>
      rw [if_neg (by decide)]
      exact q _ H1 l1 (hn rfl H1 j1) (.bl _)⟩
theorem ge_orV {a b : Bool} (ha : GE S Γ I ta (Is K (.bool a)) J) (hb : a = false → GE S Γ J tb (Is K (.bool b)) L) (hn : a = true → ∀ H, J.p H → L.p H) : GE S Γ I (tOrV ta tb) (Is K (.bool (a || b))) L := fun σ H e hi Q q =>
  ha σ H e hi _ fun x H1 l1 j1 p1 => ⟨a, p1.bl_of, by
    cases a with
    | false =>
      rw [if_neg (by decide)]
      exact hb rfl σ H1 (e.xe l1) j1 _ fun v H2 l2 j2 p2 => q v H2 (l1.trans l2) j2 p2
    | true =>
      rw [if_pos rfl]
      exact q _ H1 l1 (hn rfl H1 j1) (.bl _)⟩
theorem ge_and {a b : Bool} (ha : GE S Γ I ta (Is K (.bool a)) J) (hb : a = true → GE S Γ J tb (Is K (.bool b)) J) : GE S Γ I (tAndV ta tb) (Is K (.bool (a && b))) J := ge_andV ha hb fun _ _ h => h
theorem ge_or {a b : Bool} (ha : GE S Γ I ta (Is K (.bool a)) J) (hb : a = false → GE S Γ J tb (Is K (.bool b)) J) : GE S Γ I (tOrV ta tb) (Is K (.bool (a || b))) J := ge_orV ha hb fun _ _ h => h
theorem ge_not {a : Bool} (ha : GE S Γ I ta (Is K (.bool a)) J) : GE S Γ I (tNotV ta) (Is K (.bool (!a))) J := fun σ H e hi Q q => ha σ H e hi _ fun x H1 l1 j1 p1 => ⟨a, p1.bl_of, q _ H1 l1 j1 (.bl _)⟩
theorem ge_if {P : Bool → Prop} (hc : GT S Γ I tt P J) (ha : P true → GE S Γ J ta φ L) (hb : P false → GE S Γ J tb φ L) : GE S Γ I (tIf tt ta tb) φ L := fun σ H e hi Q q => hc σ H e hi _ fun b H1 l1 j1 p1 => by
  cases b with
  | true =>
    rw [if_pos rfl]
    exact ha p1 σ H1 (e.xe l1) j1 Q fun v H2 l2 j2 p2 => q v H2 (l1.trans l2) j2 p2
  | false =>
    rw [if_neg (by decide)]
    exact hb p1 σ H1 (e.xe l1) j1 Q fun v H2 l2 j2 p2 => q v H2 (l1.trans l2) j2 p2
abbrev NonF (b : Bool) : Fm := ⟨fun _ v _ => decide (v = .non) = b, fun _ h => h, fun _ h => h⟩
theorem ge_isN {b : Bool} (ha : GE S Γ I ta φ J) (h : ∀ v H, J.p H → φ.p S v H → decide (v = .non) = b) : GE S Γ I (tIsN ta) (Is K (.bool b)) J := fun σ H e hi Q q => ha σ H e hi _ fun x H1 l1 j1 p1 => by
  have := h x H1 j1 p1
  exact q _ H1 l1 j1 (by rw [this]; exact .bl _)
theorem ge_notN {b : Bool} (ha : GE S Γ I ta φ J) (h : ∀ v H, J.p H → φ.p S v H → decide (v = .non) = b) : GE S Γ I (tNotN ta) (Is K (.bool (!b))) J := fun σ H e hi Q q => ha σ H e hi _ fun x H1 l1 j1 p1 => by
  have := h x H1 j1 p1
  exact q _ H1 l1 j1 (by rw [this]; exact .bl _)
/-! argument lists -/
theorem ga_nil : GA S Γ I tNil [] I := fun σ H e hi Q q => q [] H (XE.refl S H) hi rfl
theorem ga_cons {t : TA} {φs : List Fm} (ha : GE S Γ I ta φ J) (hb : GA S Γ J t φs L) : GA S Γ I (tCons ta t) (φ :: φs) L := fun σ H e hi Q q =>
  ha σ H e hi _ fun x H1 l1 j1 p1 => hb σ H1 (e.xe l1) j1 _ fun vs H2 l2 j2 p2 => q (x :: vs) H2 (l1.trans l2) j2 ⟨x, vs, rfl, φ.xe l2 p1, p2⟩
/-! tuples, lists of facts -/
theorem Ins.lift {T : AS} {H : Hp} (hl : ∀ a, T a → S a ∨ H a = none) : ∀ {φs : List Fm} {vs : List V}, Ins S φs vs H → Ins T φs vs H
  | [], _, h => h
  | φ :: φs, _, ⟨v, ws, e1, e2, e3⟩ => ⟨v, ws, e1, φ.lift hl e2, Ins.lift hl e3⟩
abbrev Tup (K : PySem.W.Frag) (φs : List Fm) : Fm := ⟨fun S v H => ∃ a xs, v = .ref a ∧ ST S K H a xs ∧ Ins S φs xs H, fun e ⟨a, xs, h1, h2, h3⟩ => ⟨a, xs, h1, ST.le e h2, Ins.le e h3⟩, fun hl ⟨a, xs, h1, h2, h3⟩ => ⟨a, xs, h1, h2.lift hl, h3.lift hl⟩⟩
abbrev Lst (φs : List Fm) : Fm := ⟨fun S v H => ∃ a xs, v = .ref a ∧ ¬ S a ∧ H a = some (.lst xs) ∧ Ins S φs xs H, fun e ⟨a, xs, h1, hs, h2, h3⟩ => ⟨a, xs, h1, hs, e.lst hs h2, h3.le e⟩, fun hl ⟨a, xs, h1, hs, h2, h3⟩ => ⟨a, xs, h1, not_in hl hs h2, h2, h3.lift hl⟩⟩
theorem ge_tup {t : TA} {φs : List Fm} (h : GA S Γ I t φs J) (hz : φs.length ≤ 1000) : GE S Γ I (tTup t) (Tup K φs) J := fun σ H e hi Q q => h σ H e hi _ fun vs H1 l1 j1 p1 => by
  refine ⟨Nat.le_trans (by rw [p1.len]; exact hz) (by decide), fun p hp => q _ _ (l1.trans (XE.new hp)) (J.le (LX.new hp) j1) ⟨p, vs, rfl, .inl ⟨J.fresh j1 hp, upd_same⟩, p1.le (LE.new hp)⟩⟩
theorem ge_lst {t : TA} {φs : List Fm} (h : GA S Γ I t φs J) (hz : φs.length ≤ 1000) : GE S Γ I (tLst t) (Lst φs) J := fun σ H e hi Q q => h σ H e hi _ fun vs H1 l1 j1 p1 => by
  refine ⟨Nat.le_trans (by rw [p1.len]; exact hz) (by decide), fun p hp => q _ _ (l1.trans (XE.new hp)) (J.le (LX.new hp) j1) ⟨p, vs, rfl, J.fresh j1 hp, upd_same, p1.le (LE.new hp)⟩⟩
/-- facts that say data -/
inductive Dl (K : PySem.W.Frag) : List Fm → List PyData → Prop
  | nil : Dl K [] []
  | cons {d : PyData} {φs : List Fm} {ds : List PyData} : Dl K φs ds → Dl K (Is K d :: φs) (d :: ds)
theorem Dl.all {H : Hp} : ∀ {φs : List Fm} {ds : List PyData} {vs : List V}, Dl K φs ds → Ins S φs vs H → DaAll S K H vs ds
  | _, _, _, .nil, h => by
    have : _ = [] := h
    subst this
    exact .nil
  | _, _, _, .cons t, ⟨v, ws, e1, e2, e3⟩ => by
    subst e1
    exact .cons e2 (t.all e3)
theorem Dl.map : ∀ (ds : List PyData), Dl K (ds.map (Is K)) ds
  | [] => .nil
  | d :: ds => .cons (Dl.map ds)
theorem Ins.of_all {H : Hp} : ∀ {ds : List PyData} {vs : List V}, DaAll S K H vs ds → Ins S (ds.map (Is K)) vs H
  | _, _, .nil => rfl
  | _, _, .cons h t => ⟨_, _, rfl, h, Ins.of_all t⟩
theorem ge_tupD {t : TA} {φs : List Fm} {ds : List PyData} (h : GA S Γ I t φs J) (hd : Dl K φs ds) (hz : φs.length ≤ 1000) : GE S Γ I (tTup t) (Is K (.tuple ds)) J :=
  (ge_tup (K := K) h hz).wk fun v H _ ⟨a, xs, e, h1, h2⟩ => by
    subst e
    exact .tup h1 (hd.all h2)
theorem ge_lstD {t : TA} {φs : List Fm} {ds : List PyData} (h : GA S Γ I t φs J) (hd : Dl K φs ds) (hz : φs.length ≤ 1000) : GE S Γ I (tLst t) (Is K (.list ds)) J :=
  (ge_lst h hz).wk fun v H _ ⟨a, xs, e, hs, h1, h2⟩ => by
    subst e
    exact .lst hs h1 (hd.all h2)
theorem is_tup {H : Hp} {v : V} {ds : List PyData} (h : (Is K (.tuple ds)).p S v H) : (Tup K (ds.map (Is K))).p S v H := by
  obtain ⟨a, xs, e, h1, h2⟩ := Da.tup_of h
  exact ⟨a, xs, e, h1, Ins.of_all h2⟩
theorem is_lst {H : Hp} {v : V} {ds : List PyData} (h : (Is K (.list ds)).p S v H) : (Lst (ds.map (Is K))).p S v H := by
  obtain ⟨a, xs, e, hs, h1, h2⟩ := Da.lst_of h
  exact ⟨a, xs, e, hs, h1, Ins.of_all h2⟩
/-! operators -/
theorem gr_I0 {g : Int → Int → V} {f : Int → Int → PyData} {a b : Int} (h : ∀ H, Da S K H (g a b) (f a b)) : GR S I (rI0 g) (Is K (.int a)) (Is K (.int b)) (Is K (f a b)) I := fun x y H hi h1 h2 Q q =>
  ⟨a, b, Da.int_of h1, Da.int_of h2, q _ H (XE.refl S H) hi (h H)⟩
theorem gr_I {C : Int → Int → Prop} {g : Int → Int → V} {d : PyData} {a b : Int} (hc : C a b) (h : ∀ H, Da S K H (g a b) d) : GR S I (rI C g) (Is K (.int a)) (Is K (.int b)) (Is K d) I := fun x y H hi h1 h2 Q q =>
  ⟨a, b, Da.int_of h1, Da.int_of h2, hc, q _ H (XE.refl S H) hi (h H)⟩
theorem gr_add {a b : Int} : GR S I (rI0 fun i j => .int (i + j)) (Is K (.int a)) (Is K (.int b)) (Is K (.int (a + b))) I := gr_I0 (f := fun i j => .int (i + j)) fun _ => .int _
theorem gr_sub {a b : Int} : GR S I (rI0 fun i j => .int (i - j)) (Is K (.int a)) (Is K (.int b)) (Is K (.int (a - b))) I := gr_I0 (f := fun i j => .int (i - j)) fun _ => .int _
theorem gr_lt {a b : Int} : GR S I (rI0 fun i j => .bl (decide (i < j))) (Is K (.int a)) (Is K (.int b)) (Is K (.bool (decide (a < b)))) I := gr_I0 (f := fun i j => .bool (decide (i < j))) fun _ => .bl _
theorem gr_le {a b : Int} : GR S I (rI0 fun i j => .bl (decide (i ≤ j))) (Is K (.int a)) (Is K (.int b)) (Is K (.bool (decide (a ≤ b)))) I := gr_I0 (f := fun i j => .bool (decide (i ≤ j))) fun _ => .bl _
theorem gr_gt {a b : Int} : GR S I (rI0 fun i j => .bl (decide (j < i))) (Is K (.int a)) (Is K (.int b)) (Is K (.bool (decide (b < a)))) I := gr_I0 (f := fun i j => .bool (decide (j < i))) fun _ => .bl _
theorem gr_ge {a b : Int} : GR S I (rI0 fun i j => .bl (decide (j ≤ i))) (Is K (.int a)) (Is K (.int b)) (Is K (.bool (decide (b ≤ a)))) I := gr_I0 (f := fun i j => .bool (decide (j ≤ i))) fun _ => .bl _
theorem gr_eqI {a b : Int} : GR S I rEq (Is K (.int a)) (Is K (.int b)) (Is K (.bool (decide (a = b)))) I := fun x y H hi h1 h2 Q q => by
  obtain rfl := Da.int_of h1
  obtain rfl := Da.int_of h2
  refine ⟨rfl, q _ H (XE.refl S H) hi ?_⟩
  have : decide (V.int a = V.int b) = decide (a = b) := by simp
  rw [this]
  exact .bl _
theorem gr_neI {a b : Int} : GR S I rNe (Is K (.int a)) (Is K (.int b)) (Is K (.bool (!decide (a = b)))) I := fun x y H hi h1 h2 Q q => by
  obtain rfl := Da.int_of h1
  obtain rfl := Da.int_of h2
  refine ⟨rfl, q _ H (XE.refl S H) hi ?_⟩
  have : decide (V.int a = V.int b) = decide (a = b) := by simp
  rw [this]
  exact .bl _
theorem gr_eqS {a b : Str} : GR S I rEq (Is K (.str a)) (Is K (.str b)) (Is K (.bool (decide (a = b)))) I := fun x y H hi h1 h2 Q q => by
  obtain rfl := Da.str_of h1
  obtain rfl := Da.str_of h2
  refine ⟨rfl, q _ H (XE.refl S H) hi ?_⟩
  have : decide (V.str a = V.str b) = decide (a = b) := by simp
  rw [this]
  exact .bl _
theorem gr_neS {a b : Str} : GR S I rNe (Is K (.str a)) (Is K (.str b)) (Is K (.bool (!decide (a = b)))) I := fun x y H hi h1 h2 Q q => by
  obtain rfl := Da.str_of h1
  obtain rfl := Da.str_of h2
  refine ⟨rfl, q _ H (XE.refl S H) hi ?_⟩
  have : decide (V.str a = V.str b) = decide (a = b) := by simp
  rw [this]
  exact .bl _
theorem gr_neB {a b : Bool} : GR S I rNe (Is K (.bool a)) (Is K (.bool b)) (Is K (.bool (!decide (a = b)))) I := fun x y H hi h1 h2 Q q => by
  obtain rfl := Da.bl_of h1
  obtain rfl := Da.bl_of h2
  refine ⟨rfl, q _ H (XE.refl S H) hi ?_⟩
  have : decide (V.bl a = V.bl b) = decide (a = b) := by simp
  rw [this]
  exact .bl _
theorem gr_eqD {d e : PyData} (hd : SeqAt.shaped d = true) (he : SeqAt.shaped e = true) : GR S I (rEqD K) (Is K d) (Is K e) (Is K (.bool (PyData.eqv d e))) I := fun x y H hi h1 h2 Q q =>
  ⟨d, e, Da.dp h1, Da.dp h2, hd, he, q _ H (XE.refl S H) hi (.bl _)⟩
theorem gr_neD {d e : PyData} (hd : SeqAt.shaped d = true) (he : SeqAt.shaped e = true) : GR S I (rNeD K) (Is K d) (Is K e) (Is K (.bool (!PyData.eqv d e))) I := fun x y H hi h1 h2 Q q =>
  ⟨d, e, Da.dp h1, Da.dp h2, hd, he, q _ H (XE.refl S H) hi (.bl _)⟩
theorem gr_notInD {d : PyData} {ds : List PyData} (hd : SeqAt.shaped d = true) (he : SeqAt.shaped (.list ds) = true) : GR S I (rNotInD K) (Is K d) (Is K (.list ds)) (Is K (.bool (!ds.any fun z => PyData.eqv z d))) I := fun x y H hi h1 h2 Q q =>
  ⟨d, ds, Da.dp h1, Da.dp h2, hd, he, q _ H (XE.refl S H) hi (.bl _)⟩
theorem inV_strs {x : Str} : ∀ {xs : List Str}, inV (.str x) (xs.map V.str) = decide (x ∈ xs)
  | [] => rfl
  | y :: ys => by
    have ih := inV_strs (x := x) (xs := ys)
    unfold inV at ih ⊢
    rw [List.map_cons, List.any_cons, ih]
    show ((y == x) || decide (x ∈ ys)) = _
    by_cases h : y = x
    · subst h
      rw [show (y == y) = true from beq_self_eq_true y, Bool.true_or, decide_eq_true List.mem_cons_self]
    · rw [beq_false_of_ne h, Bool.false_or]
      exact decide_eq_decide.mpr ⟨List.mem_cons_of_mem _, fun m => (List.mem_cons.mp m).resolve_left fun z => h z.symm⟩
theorem flat_strs : ∀ (xs : List Str), (xs.map V.str).all flatV = true
  | [] => rfl
  | x :: xs => by
    rw [List.map_cons, List.all_cons, flat_strs xs]
    rfl
/-- x in a tuple, a list of texts -/
theorem gr_inS {x : Str} {xs : List Str} : GR S I (rIn K false) (Is K (.str x)) (Is K (.tuple (xs.map .str))) (Is K (.bool (decide (x ∈ xs)))) I := fun u y H hi h1 h2 Q q => by
  obtain rfl := Da.str_of h1
  obtain ⟨a, vs, rfl, h3, h4⟩ := Da.tup_of h2
  obtain rfl := h4.strs_of
  refine ⟨a, _, rfl, .inr h3.sq, rfl, flat_strs xs, ?_⟩
  rw [inV_strs]
  exact q _ H (XE.refl S H) hi (.bl _)
theorem gr_niS {x : Str} {xs : List Str} : GR S I (rIn K true) (Is K (.str x)) (Is K (.tuple (xs.map .str))) (Is K (.bool (!decide (x ∈ xs)))) I := fun u y H hi h1 h2 Q q => by
  obtain rfl := Da.str_of h1
  obtain ⟨a, vs, rfl, h3, h4⟩ := Da.tup_of h2
  obtain rfl := h4.strs_of
  refine ⟨a, _, rfl, .inr h3.sq, rfl, flat_strs xs, ?_⟩
  rw [inV_strs]
  exact q _ H (XE.refl S H) hi (.bl _)
theorem gr_inSL {x : Str} {xs : List Str} : GR S I (rIn K false) (Is K (.str x)) (Is K (.list (xs.map .str))) (Is K (.bool (decide (x ∈ xs)))) I := fun u y H hi h1 h2 Q q => by
  obtain rfl := Da.str_of h1
  obtain ⟨a, vs, rfl, hs, h3, h4⟩ := Da.lst_of h2
  obtain rfl := h4.strs_of
  refine ⟨a, _, rfl, .inl (.inl (.inl h3)), rfl, flat_strs xs, ?_⟩
  rw [inV_strs]
  exact q _ H (XE.refl S H) hi (.bl _)
theorem gr_niSL {x : Str} {xs : List Str} : GR S I (rIn K true) (Is K (.str x)) (Is K (.list (xs.map .str))) (Is K (.bool (!decide (x ∈ xs)))) I := fun u y H hi h1 h2 Q q => by
  obtain rfl := Da.str_of h1
  obtain ⟨a, vs, rfl, hs, h3, h4⟩ := Da.lst_of h2
  obtain rfl := h4.strs_of
  refine ⟨a, _, rfl, .inl (.inl (.inl h3)), rfl, flat_strs xs, ?_⟩
  rw [inV_strs]
  exact q _ H (XE.refl S H) hi (.bl _)
theorem atI_nn {α : Type} {xs : List α} {n : Int} {x : α} (h0 : 0 ≤ n) (h : xs[n.toNat]? = some x) : atI xs n = some x := by
  have hl : n.toNat < xs.length := (List.getElem?_eq_some_iff.mp h).1
  unfold atI ixN
  rw [if_pos h0, if_pos (by omega)]
  exact h
theorem gr_ixT {n : Int} {φs : List Fm} (h0 : 0 ≤ n) (h : φs[n.toNat]? = some φ) : GR S I (rIxT K) (Tup K φs) (Is K (.int n)) φ I := fun x y H hi h1 h2 Q q => by
  obtain rfl := Da.int_of h2
  obtain ⟨a, xs, rfl, h3, h4⟩ := h1
  obtain ⟨v, h5, h6⟩ := h4.get h
  exact ⟨a, xs, n, v, rfl, rfl, h3.sq, atI_nn h0 h5, q v H (XE.refl S H) hi h6⟩
theorem gr_ixL {n : Int} {φs : List Fm} (h0 : 0 ≤ n) (h : φs[n.toNat]? = some φ) : GR S I (rIxL K) (Lst φs) (Is K (.int n)) φ I := fun x y H hi h1 h2 Q q => by
  obtain rfl := Da.int_of h2
  obtain ⟨a, xs, rfl, hs, h3, h4⟩ := h1
  obtain ⟨v, h5, h6⟩ := h4.get h
  exact ⟨a, xs, n, v, rfl, rfl, .inl (.inl h3), atI_nn h0 h5, q v H (XE.refl S H) hi h6⟩
theorem gr_ixD {n : Int} {ds : List PyData} {d : PyData} (h0 : 0 ≤ n) (h : ds[n.toNat]? = some d) : GR S I (rIxT K) (Is K (.tuple ds)) (Is K (.int n)) (Is K d) I := fun x y H hi h1 h2 Q q =>
  gr_ixT h0 (by rw [List.getElem?_map, h]; rfl) x y H hi (is_tup h1) h2 Q q
theorem gr_ixLD {n : Int} {ds : List PyData} {d : PyData} (h0 : 0 ≤ n) (h : ds[n.toNat]? = some d) : GR S I (rIxL K) (Is K (.list ds)) (Is K (.int n)) (Is K d) I := fun x y H hi h1 h2 Q q =>
  gr_ixL h0 (by rw [List.getElem?_map, h]; rfl) x y H hi (is_lst h1) h2 Q q
/-- xs + ys -/
theorem gr_cat {ds es : List PyData} (hz : ds.length + es.length ≤ 100000) : GR S I rCat (Is K (.list ds)) (Is K (.list es)) (Is K (.list (ds ++ es))) I := fun x y H hi h1 h2 Q q => by
  obtain ⟨a, xs, rfl, hs, h3, h4⟩ := Da.lst_of h1
  obtain ⟨b, ys, rfl, hs', h5, h6⟩ := Da.lst_of h2
  refine ⟨a, b, xs, ys, rfl, rfl, h3, h5, by rw [h4.len, h6.len]; exact Nat.le_trans hz (by decide), fun p hp => q _ _ (XE.new hp) (I.le (LX.new hp) hi) (.lst (I.fresh hi hp) upd_same ((h4.app h6).le (LE.new hp)))⟩
theorem GR.ex1 {α : Type} {P : α → Prop} {φ : α → Fm} (h : ∀ a, P a → GR S I r (φ a) ψ χ J) : GR S I r (Exs P φ) ψ χ J := fun x y H hi ⟨a, ha, h1⟩ h2 Q q => h a ha x y H hi h1 h2 Q q
theorem GR.ex2 {α : Type} {P : α → Prop} {ψ : α → Fm} (h : ∀ a, P a → GR S I r φ (ψ a) χ J) : GR S I r φ (Exs P ψ) χ J := fun x y H hi h1 ⟨a, ha, h2⟩ Q q => h a ha x y H hi h1 h2 Q q
theorem GR.wk (h : GR S I r φ ψ χ J) (w : ∀ v H, J.p H → χ.p S v H → ξ.p S v H) : GR S I r φ ψ ξ J := fun x y H hi h1 h2 Q q => h x y H hi h1 h2 Q fun v H' l j p => q v H' l j (w v H' j p)
/-! built-in calls -/
theorem ge_cb {rc : List V → Hp → VK → Prop} {t : TA} {φs : List Fm} (h : GA S Γ I t φs J) (hr : GC S J rc φs χ L) : GE S Γ I (tCB rc t) χ L := fun σ H e hi Q q =>
  h σ H e hi _ fun vs H1 l1 j1 p1 => hr vs H1 j1 p1 Q fun v H2 l2 j2 p2 => q v H2 (l1.trans l2) j2 p2
theorem gc_lenT {φs : List Fm} : GC S I (fun xs H Q => ∃ p ys, xs = [.ref p] ∧ (SqL K H p ys ∨ SqT K H p ys) ∧ Q (.int ys.length) H) [Tup K φs] (Is K (.int φs.length)) I := fun vs H hi h Q q => by
  obtain ⟨v, ws, rfl, ⟨a, xs, rfl, h1, h2⟩, rfl⟩ := h
  refine ⟨a, xs, rfl, .inr h1.sq, q _ H (XE.refl S H) hi ?_⟩
  rw [h2.len]
  exact .int _
theorem gc_lenL {φs : List Fm} : GC S I (fun xs H Q => ∃ p ys, xs = [.ref p] ∧ (SqL K H p ys ∨ SqT K H p ys) ∧ Q (.int ys.length) H) [Lst φs] (Is K (.int φs.length)) I := fun vs H hi h Q q => by
  obtain ⟨v, ws, rfl, ⟨a, xs, rfl, hs, h1, h2⟩, rfl⟩ := h
  refine ⟨a, xs, rfl, .inl (.inl (.inl h1)), q _ H (XE.refl S H) hi ?_⟩
  rw [h2.len]
  exact .int _
theorem gc_lenLD {ds : List PyData} : GC S I (fun xs H Q => ∃ p ys, xs = [.ref p] ∧ (SqL K H p ys ∨ SqT K H p ys) ∧ Q (.int ys.length) H) [Is K (.list ds)] (Is K (.int ds.length)) I := fun vs H hi h Q q => by
  obtain ⟨v, ws, rfl, h1, rfl⟩ := h
  have := gc_lenL (K := K) [v] H hi ⟨v, [], rfl, is_lst h1, rfl⟩ Q
  rw [List.length_map] at this
  exact this q
theorem gc_lenTD {ds : List PyData} : GC S I (fun xs H Q => ∃ p ys, xs = [.ref p] ∧ (SqL K H p ys ∨ SqT K H p ys) ∧ Q (.int ys.length) H) [Is K (.tuple ds)] (Is K (.int ds.length)) I := fun vs H hi h Q q => by
  obtain ⟨v, ws, rfl, h1, rfl⟩ := h
  have := gc_lenT (K := K) [v] H hi ⟨v, [], rfl, is_tup h1, rfl⟩ Q
  rw [List.length_map] at this
  exact this q
theorem gc_all {bs : List Bool} : GC S I (rAll K) [Is K (.list (bs.map .bool))] (Is K (.bool (bs.all id))) I := fun vs H hi h Q q => by
  obtain ⟨v, ws, rfl, h1, rfl⟩ := h
  obtain ⟨a, xs, rfl, hs, h3, h4⟩ := Da.lst_of h1
  obtain rfl := h4.bls_of
  exact ⟨a, bs, rfl, .inl (.inl h3), q _ H (XE.refl S H) hi (.bl _)⟩
theorem gc_int {n : Int} : GC S I (fun xs H Q => (∃ i, xs = [.int i] ∧ Q (.int i) H) ∨ ∃ k, xs = [.bl k] ∧ Q (.int (if k then 1 else 0)) H) [Is K (.int n)] (Is K (.int n)) I := fun vs H hi h Q q => by
  obtain ⟨v, ws, rfl, h1, rfl⟩ := h
  obtain rfl := Da.int_of h1
  exact .inl ⟨n, rfl, q _ H (XE.refl S H) hi (.int _)⟩
theorem gc_tupleL {ds : List PyData} : GC S I (fun xs H Q => ∃ p ys, xs = [.ref p] ∧ ((SqL K H p ys ∧ ∀ l, H l = none → Q (.ref l) (upd H l (.tup ys))) ∨ (SqT K H p ys ∧ Q (.ref p) H))) [Is K (.list ds)] (Is K (.tuple ds)) I := fun vs H hi h Q q => by
  obtain ⟨v, ws, rfl, h1, rfl⟩ := h
  obtain ⟨a, xs, rfl, hs, h3, h4⟩ := Da.lst_of h1
  exact ⟨a, xs, rfl, .inl ⟨.inl (.inl h3), fun p hp => q _ _ (XE.new hp) (I.le (LX.new hp) hi) (.tup (.inl ⟨I.fresh hi hp, upd_same⟩) (h4.le (LE.new hp)))⟩⟩
theorem gc_tupleLF {φs : List Fm} : GC S I (fun xs H Q => ∃ p ys, xs = [.ref p] ∧ ((SqL K H p ys ∧ ∀ l, H l = none → Q (.ref l) (upd H l (.tup ys))) ∨ (SqT K H p ys ∧ Q (.ref p) H))) [Lst φs] (Tup K φs) I := fun vs H hi h Q q => by
  obtain ⟨v, ws, rfl, ⟨a, xs, rfl, hs, h3, h4⟩, rfl⟩ := h
  exact ⟨a, xs, rfl, .inl ⟨.inl (.inl h3), fun p hp => q _ _ (XE.new hp) (I.le (LX.new hp) hi) ⟨p, xs, rfl, .inl ⟨I.fresh hi hp, upd_same⟩, h4.le (LE.new hp)⟩⟩⟩
theorem gc_listT {ds : List PyData} : GC S I (fun xs H Q => ∃ p ys, xs = [.ref p] ∧ (SqL K H p ys ∨ SqT K H p ys) ∧ ∀ l, H l = none → Q (.ref l) (upd H l (.lst ys))) [Is K (.tuple ds)] (Is K (.list ds)) I := fun vs H hi h Q q => by
  obtain ⟨v, ws, rfl, h1, rfl⟩ := h
  obtain ⟨a, xs, rfl, h3, h4⟩ := Da.tup_of h1
  exact ⟨a, xs, rfl, .inr h3.sq, fun p hp => q _ _ (XE.new hp) (I.le (LX.new hp) hi) (.lst (I.fresh hi hp) upd_same (h4.le (LE.new hp)))⟩
theorem gc_listL {ds : List PyData} : GC S I (fun xs H Q => ∃ p ys, xs = [.ref p] ∧ (SqL K H p ys ∨ SqT K H p ys) ∧ ∀ l, H l = none → Q (.ref l) (upd H l (.lst ys))) [Is K (.list ds)] (Is K (.list ds)) I := fun vs H hi h Q q => by
  obtain ⟨v, ws, rfl, h1, rfl⟩ := h
  obtain ⟨a, xs, rfl, hs, h3, h4⟩ := Da.lst_of h1
  exact ⟨a, xs, rfl, .inl (.inl (.inl h3)), fun p hp => q _ _ (XE.new hp) (I.le (LX.new hp) hi) (.lst (I.fresh hi hp) upd_same (h4.le (LE.new hp)))⟩
/-! tests -/
theorem gt_val {b : Bool} (h : GE S Γ I te (Is K (.bool b)) J) : GT S Γ I (tTest te) (fun c => b = c) J := fun σ H e hi Q q => h σ H e hi _ fun v H1 l1 j1 p1 => ⟨b, Da.bl_of p1, q b H1 l1 j1 rfl⟩
theorem gt_valB {b : Bool} (h : GE S Γ I te (Is K (.bool b)) J) : GT S Γ I (tB te) (fun c => b = c) J := fun σ H e hi Q q => h σ H e hi _ fun v H1 l1 j1 p1 => ⟨b, Da.bl_of p1, q b H1 l1 j1 rfl⟩
theorem gt_valX {P : Bool → Prop} (h : GE S Γ I te (Exs P fun b => Is K (.bool b)) J) : GT S Γ I (tTest te) P J := fun σ H e hi Q q => h σ H e hi _ fun v H1 l1 j1 ⟨b, hb, p1⟩ => ⟨b, Da.bl_of p1, q b H1 l1 j1 hb⟩
theorem gt_yes : GT S Γ I tYes (fun c => true = c) I := fun σ H e hi Q q => q true H (XE.refl S H) hi rfl
theorem gt_not {P : Bool → Prop} (h : GT S Γ I tt P J) : GT S Γ I (tNot tt) (fun c => P (!c)) J := fun σ H e hi Q q => h σ H e hi _ fun b H1 l1 j1 p1 => q (!b) H1 l1 j1 (by show P (!!b); rw [Bool.not_not]; exact p1)
theorem GT.wk {P P' : Bool → Prop} (h : GT S Γ I tt P J) (w : ∀ b, P b → P' b) : GT S Γ I tt P' J := fun σ H e hi Q q => h σ H e hi Q fun b H1 l1 j1 p1 => q b H1 l1 j1 (w b p1)
theorem gt_and {a b : Bool} {tu : TT} (ha : GT S Γ I tt (fun c => a = c) J) (hb : a = true → GT S Γ J tu (fun c => b = c) J) : GT S Γ I (tAnd tt tu) (fun c => (a && b) = c) J := fun σ H e hi Q q => ha σ H e hi _ fun c H1 l1 j1 p1 => by
  subst p1
  cases a with
  | true =>
    rw [if_pos rfl]
    exact hb rfl σ H1 (e.xe l1) j1 Q fun c H2 l2 j2 p2 => q c H2 (l1.trans l2) j2 p2
  | false =>
    rw [if_neg (by decide)]
    exact q false H1 l1 j1 rfl
theorem gt_or {a b : Bool} {tu : TT} (ha : GT S Γ I tt (fun c => a = c) J) (hb : a = false → GT S Γ J tu (fun c => b = c) J) : GT S Γ I (tOr tt tu) (fun c => (a || b) = c) J := fun σ H e hi Q q => ha σ H e hi _ fun c H1 l1 j1 p1 => by
  subst p1
  cases a with
  | false =>
    rw [if_neg (by decide)]
    exact hb rfl σ H1 (e.xe l1) j1 Q fun c H2 l2 j2 p2 => q c H2 (l1.trans l2) j2 p2
  | true =>
    rw [if_pos rfl]
    exact q true H1 l1 j1 rfl
/-! targets -/
theorem wipe_set {σ : L2.St} {j : Nat} {x : Option V} : ∀ {vs : List Nat}, j ∈ vs → L2.wipe (σ.set j x) vs = L2.wipe σ vs
  | [], h => by cases h
  | v :: vs, h => by
    unfold L2.wipe
    by_cases hj : j = v
    · subst hj
      have : ∀ ws : List Nat, (L2.wipe (σ.set j x) ws).set j none = (L2.wipe σ ws).set j none := by
        intro ws
        induction ws with
        | nil => show (σ.set j x).set j none = σ.set j none; rw [List.set_set]
        | cons w ws ih =>
          show ((L2.wipe (σ.set j x) ws).set w none).set j none = ((L2.wipe σ ws).set w none).set j none
          by_cases hw : w = j
          · subst hw
            rw [List.set_set, List.set_set]
            exact ih
          · rw [List.set_comm _ _ hw, List.set_comm _ _ hw, ih]
      exact this vs
    · rw [wipe_set ((List.mem_cons.mp h).resolve_left hj)]
theorem gg_name : GG S Γ (gName i) φ (Γ.set i (some φ)) [i] := fun σ H v Q e h q => q _ (e.set i h) fun vs hj => wipe_set (hj i List.mem_cons_self)
theorem gg_nil : GGs S Γ gNil [] Γ [] := fun σ H vs Q e h q => ⟨h, q σ e fun _ _ => rfl⟩
theorem gg_cons {g : TG} {gs : TGs} {φs : List Fm} {Δ' : Ctx} {js ks : List Nat} (h1 : GG S Γ g φ Δ js) (h2 : GGs S Δ gs φs Δ' ks) : GGs S Γ (gCons g gs) (φ :: φs) Δ' (js ++ ks) := fun σ H vs Q e ⟨v, ws, e1, p1, p2⟩ q =>
  ⟨v, ws, e1, h1 σ H v _ e p1 fun σ2 e2 w2 => h2 σ2 H ws Q e2 p2 fun σ3 e3 w3 => q σ3 e3 fun vs hj => (w3 vs fun j m => hj j (List.mem_append_right _ m)).trans (w2 vs fun j m => hj j (List.mem_append_left _ m))⟩
theorem gg_tup {n : Nat} {gs : TGs} {φs : List Fm} {js : List Nat} (h : GGs S Γ gs φs Δ js) (hn : φs.length = n) : GG S Γ (gTup K n gs) (Tup K φs) Δ js := fun σ H v Q e ⟨a, xs, e1, p1, p2⟩ q => ⟨a, xs, e1, p1.sq, by rw [p2.len]; exact hn, h σ H xs Q e p2 q⟩
theorem gg_tupD {n : Nat} {gs : TGs} {ds : List PyData} {js : List Nat} (h : GGs S Γ gs (ds.map (Is K)) Δ js) (hn : ds.length = n) : GG S Γ (gTup K n gs) (Is K (.tuple ds)) Δ js := fun σ H v Q e p q => gg_tup h (by rw [List.length_map]; exact hn) σ H v Q e (is_tup p) q
theorem GG.ex {α : Type} {P : α → Prop} {φ : α → Fm} {g : TG} {js : List Nat} (h : ∀ a, P a → GG S Γ g (φ a) Δ js) : GG S Γ g (Exs P φ) Δ js := fun σ H v Q e ⟨a, ha, p⟩ q => h a ha σ H v Q e p q
/-! statements -/
theorem gs_next : GS S Γ I tNext R (En S Γ I) := fun σ H e hi D _ n => n σ H (XE.refl S H) ⟨e, hi⟩
theorem GS.wk {N' : L2.St → Hp → Prop} (h : GS S Γ I t R N) (w : ∀ σ H, N σ H → N' σ H) : GS S Γ I t R N' := fun σ H e hi D r n => h σ H e hi D r fun σ' H' l p => n σ' H' l (w σ' H' p)
theorem GS.wkR {R' : VK} (h : GS S Γ I t R N) (w : ∀ v H, R v H → R' v H) : GS S Γ I t R' N := fun σ H e hi D r n => h σ H e hi D (fun v H' l p => r v H' l (w v H' p)) n
theorem gs_seq (h1 : GS S Γ I t R (En S Δ J)) (h2 : GS S Δ J u R N) : GS S Γ I (tSeq t u) R N := fun σ H e hi D r n =>
  h1 σ H e hi { D with nx := u D } r fun σ' H' l ⟨e', hi'⟩ => h2 σ' H' e' hi' D (fun v H2 l2 p => r v H2 (l.trans l2) p) fun σ2 H2 l2 p => n σ2 H2 (l.trans l2) p
theorem gs_seqX {α : Type} {P : α → Prop} {Δ : α → Ctx} {J : α → IV S} (h1 : GS S Γ I t R (fun σ H => ∃ a, P a ∧ En S (Δ a) (J a) σ H)) (h2 : ∀ a, P a → GS S (Δ a) (J a) u R N) : GS S Γ I (tSeq t u) R N := fun σ H e hi D r n =>
  h1 σ H e hi { D with nx := u D } r fun σ' H' l ⟨a, ha, e', hi'⟩ => h2 a ha σ' H' e' hi' D (fun v H2 l2 p => r v H2 (l.trans l2) p) fun σ2 H2 l2 p => n σ2 H2 (l.trans l2) p
theorem gs_set (h : GE S Γ I te φ J) : GS S Γ I (tAsg te (gName i)) R (En S (Γ.set i (some φ)) J) := fun σ H e hi D r n => h σ H e hi _ fun v H1 l1 j1 p1 => n _ H1 l1 ⟨(e.xe l1).set i p1, j1⟩
theorem gs_asg {g : TG} {js : List Nat} (h : GE S Γ I te φ J) (hg : GG S Γ g φ Δ js) : GS S Γ I (tAsg te g) R (En S Δ J) := fun σ H e hi D r n => h σ H e hi _ fun v H1 l1 j1 p1 => hg σ H1 v _ (e.xe l1) p1 fun σ2 e2 _ => n σ2 H1 l1 ⟨e2, j1⟩
theorem gs_setX {α : Type} {P : α → Prop} {φ : α → Fm} (h : GE S Γ I te (Exs P φ) J) : GS S Γ I (tAsg te (gName i)) R (fun σ H => ∃ a, P a ∧ En S (Γ.set i (some (φ a))) J σ H) := fun σ H e hi D r n => h σ H e hi _ fun v H1 l1 j1 ⟨a, ha, p1⟩ => n _ H1 l1 ⟨a, ha, (e.xe l1).set i p1, j1⟩
theorem gs_asgX {α : Type} {P : α → Prop} {φ : α → Fm} {Δ : α → Ctx} {g : TG} {js : List Nat} (h : GE S Γ I te (Exs P φ) J) (hg : ∀ a, P a → GG S Γ g (φ a) (Δ a) js) : GS S Γ I (tAsg te g) R (fun σ H => ∃ a, P a ∧ En S (Δ a) J σ H) := fun σ H e hi D r n =>
  h σ H e hi _ fun v H1 l1 j1 ⟨a, ha, p1⟩ => hg a ha σ H1 v _ (e.xe l1) p1 fun σ2 e2 _ => n σ2 H1 l1 ⟨a, ha, e2, j1⟩
theorem gs_par {j : Nat} {ta : TA} (h : GA S Γ I ta [φ, ψ] J) : GS S Γ I (tPar i j ta) R (En S ((Γ.set i (some φ)).set j (some ψ)) J) := fun σ H e hi D r n => h σ H e hi _ fun vs H1 l1 j1 p1 => by
  obtain ⟨v, ws, rfl, p2, w, ws', rfl, p3, rfl⟩ := p1
  exact ⟨v, w, rfl, n _ H1 l1 ⟨((e.xe l1).set i p2).set j p3, j1⟩⟩
theorem gs_par3 {j l : Nat} {ta : TA} (h : GA S Γ I ta [φ, ψ, χ] J) : GS S Γ I (tPar3 i j l ta) R (En S (((Γ.set i (some φ)).set j (some ψ)).set l (some χ)) J) := fun σ H e hi D r n => h σ H e hi _ fun vs H1 l1 j1 p1 => by
  obtain ⟨v, ws, rfl, p2, w, ws', rfl, p3, z, ws'', rfl, p4, rfl⟩ := p1
  exact ⟨v, w, z, rfl, n _ H1 l1 ⟨(((e.xe l1).set i p2).set j p3).set l p4, j1⟩⟩
theorem gs_drop (h : GE S Γ I te φ J) : GS S Γ I (tDrop te) R (En S Γ J) := fun σ H e hi D r n => h σ H e hi _ fun v H1 l1 j1 p1 => n _ H1 l1 ⟨e.xe l1, j1⟩
theorem gs_ret (h : GE S Γ I te φ J) (w : ∀ v H, J.p H → φ.p S v H → R v H) : GS S Γ I (tRet te) R N := fun σ H e hi D r n => h σ H e hi _ fun v H1 l1 j1 p1 => r v H1 l1 (w v H1 j1 p1)
theorem gs_retS (h : GE S Γ I te φ J) (w : ∀ v H, J.p H → φ.p S v H → R v H) : GS S Γ I (tSeq (tRet te) u) R N := fun σ H e hi D r n => h σ H e hi _ fun v H1 l1 j1 p1 => r v H1 l1 (w v H1 j1 p1)
theorem gs_if {P : Bool → Prop} (hc : GT S Γ I tt P J) (ha : P true → GS S Γ J t R N) (hb : P false → GS S Γ J u R N) : GS S Γ I (tIfS tt t u) R N := fun σ H e hi D r n => hc σ H e hi _ fun b H1 l1 j1 p1 => by
  cases b with
  | true =>
    rw [if_pos rfl]
    exact ha p1 σ H1 (e.xe l1) j1 D (fun v H2 l2 p => r v H2 (l1.trans l2) p) fun σ2 H2 l2 p => n σ2 H2 (l1.trans l2) p
  | false =>
    rw [if_neg (by decide)]
    exact hb p1 σ H1 (e.xe l1) j1 D (fun v H2 l2 p => r v H2 (l1.trans l2) p) fun σ2 H2 l2 p => n σ2 H2 (l1.trans l2) p
theorem gs_ifs {P : Bool → Prop} (hc : GT S Γ I tt P J) (ha : P true → GS S Γ J (tSeq t u) R N) (hb : P false → GS S Γ J (tSeq t' u) R N) : GS S Γ I (tSeq (tIfS tt t t') u) R N := fun σ H e hi D r n => hc σ H e hi _ fun b H1 l1 j1 p1 => by
  cases b with
  | true =>
    rw [if_pos rfl]
    exact ha p1 σ H1 (e.xe l1) j1 D (fun v H2 l2 p => r v H2 (l1.trans l2) p) fun σ2 H2 l2 p => n σ2 H2 (l1.trans l2) p
  | false =>
    rw [if_neg (by decide)]
    exact hb p1 σ H1 (e.xe l1) j1 D (fun v H2 l2 p => r v H2 (l1.trans l2) p) fun σ2 H2 l2 p => n σ2 H2 (l1.trans l2) p
theorem gs_nextS (h : GS S Γ I u R N) : GS S Γ I (tSeq tNext u) R N := h
theorem gs_assoc {w : TS} (h : GS S Γ I (tSeq t (tSeq u w)) R N) : GS S Γ I (tSeq (tSeq t u) w) R N := h
theorem gs_never {w : TS} (h : False) : GS S Γ I w R N := h.elim
/-- fewer facts, other state -/
theorem GS.pre (h : GS S Δ J t R N) (s : Sub Δ Γ) (w : ∀ H, I.p H → J.p H) : GS S Γ I t R N := fun σ H e hi D r n => h σ H (e.sub s) (w H hi) D r n
end
end Hs
set_option Elab.async false
set_option linter.all false
set_option maxRecDepth 100000
set_option maxHeartbeats 4000000
/-! contracts, calls, objects, dicts, loops, comprehensions -/
namespace Hs
open PySem PySem.Spec PyProof.Rows L2 StX
theorem Ins.app {S : AS} {H : Hp} : ∀ {φs ψs : List Fm} {vs ws : List V}, Ins S φs vs H → Ins S ψs ws H → Ins S (φs ++ ψs) (vs ++ ws) H
  | [], _, _, _, h, h' => by
    have : _ = [] := h
    subst this
    exact h'
  | φ :: φs, _, _, _, ⟨v, ws, e1, e2, e3⟩, h' => by
    subst e1
    exact ⟨v, _, rfl, e2, Ins.app e3 h'⟩
structure Ctr (S : AS) where
  I : IV S
  J : IV S
  ins : List Fm
  out : Fm
abbrev CTR := ∀ S, Ctr S → Prop
def spC (c : CTR) : Sp := fun vs H Q _ => ∃ S k, c S k ∧ k.I.p H ∧ Ins S k.ins vs H ∧ ∀ v H', XE S H H' → k.J.p H' → k.out.p S v H' → Q v H'
def pureC {ι : Type} (ask : ι → Prop) (ins : ι → List Fm) (out : ι → Fm) : CTR := fun S k => ∃ x, ask x ∧ k.J = k.I ∧ k.ins = ins x ∧ k.out = out x
/-- cells at T, told by at_: any other of its kind may stand there -/
def Cl {S : AS} (I : IV S) (T : AS) (at_ : Hp → Prop) : Prop := (∀ a, T a → S a) ∧ (∀ H H', (∀ a, T a → H' a = H a) → at_ H → at_ H') ∧ ∀ H H', I.p H → XE T H H' → at_ H' → I.p H'
structure Ext {S S' : AS} (I : IV S) (I' : IV S') : Prop where
  sub : ∀ a, S a → S' a
  wk : ∀ H, I'.p H → I.p H
  cl : ∀ T at_, Cl I T at_ → Cl I' T at_
theorem Ext.refl {S : AS} (I : IV S) : Ext I I := ⟨fun _ h => h, fun _ h => h, fun _ _ h => h⟩
section
variable {S : AS} {K : PySem.W.Frag} {Γ Δ : Ctx} {I J L M : IV S} {ta tb tc te td ty : TE} {t : TA} {φ ψ χ ξ : Fm} {φs ψs fs : List Fm} {R : VK} {N : L2.St → Hp → Prop} {C : Addr} {m : Str} {E : XK} {c : CTR}
theorem ge_call (h : GA S Γ I t φs J) (hc : c S ⟨J, L, φs, φ⟩) : GE S Γ I (tCallR (spC c) E t) φ L := fun σ H e hi Q q => h σ H e hi _ fun vs H1 l1 j1 p1 => ⟨S, _, hc, j1, p1, fun v H' l j p => q v H' (l1.trans l) j p⟩
/-- an argument's fact may say which of many -/
theorem ge_callX (h : GA S Γ I t ψs J) (w : ∀ vs H, J.p H → Ins S ψs vs H → ∃ k : Ctr S, c S k ∧ k.I.p H ∧ Ins S k.ins vs H ∧ ∀ v H', k.J.p H' → k.out.p S v H' → L.p H' ∧ φ.p S v H') : GE S Γ I (tCallR (spC c) E t) φ L := fun σ H e hi Q q => h σ H e hi _ fun vs H1 l1 j1 p1 => by
  obtain ⟨k, hc, hi2, h2, h3⟩ := w vs H1 j1 p1
  exact ⟨S, k, hc, hi2, h2, fun v H' l j p => q v H' (l1.trans l) (h3 v H' j p).1 (h3 v H' j p).2⟩
def InsOf (C : Addr) (m : Str) (φ : Fm) : Prop := ∀ S v H, φ.p S v H → ∃ a dx fs, v = .ref a ∧ H a = some (.ins C dx fs) ∧ fs.lookup m = none
theorem ge_meth (ho : GE S Γ I ta φ J) (hm : InsOf C m φ) (h : GA S Γ J t φs L) (hc : c S ⟨L, M, φ :: φs, ψ⟩) : GE S Γ I (tMethR C m (spC c) E ta t) ψ M := fun σ H e hi Q q => ho σ H e hi _ fun v H1 l1 j1 p1 => by
  obtain ⟨a, dx, fs, rfl, ea, l⟩ := hm S v H1 p1
  exact ⟨a, dx, fs, rfl, ea, l, h σ H1 (e.xe l1) j1 _ fun vs H2 l2 j2 p2 => ⟨S, _, hc, j2, ⟨_, vs, rfl, φ.xe l2 p1, p2⟩, fun v H' l j p => q v H' ((l1.trans l2).trans l) j p⟩⟩
theorem ge_prop (ho : GE S Γ I ta φ J) (hm : InsOf C m φ) (hc : c S ⟨J, M, [φ], ψ⟩) : GE S Γ I (tPropR C (spC c) E ta) ψ M := fun σ H e hi Q q => ho σ H e hi _ fun v H1 l1 j1 p1 => by
  obtain ⟨a, dx, fs, rfl, ea, l⟩ := hm S v H1 p1
  exact ⟨a, dx, fs, rfl, ea, S, _, hc, j1, ⟨_, [], rfl, p1, rfl⟩, fun v H' l j p => q v H' (l1.trans l) j p⟩
/-! objects by their fields -/
abbrev Ob (C : Addr) (fs : List (Str × Fm)) : Fm := ⟨fun S v H => ∃ a dx ws, v = .ref a ∧ ¬ S a ∧ H a = some (.ins C dx ((fs.map Prod.fst).zip ws)) ∧ Ins S (fs.map Prod.snd) ws H,
  fun e ⟨a, dx, ws, h1, hs, h2, h3⟩ => ⟨a, dx, ws, h1, hs, LE.ins e hs h2, Ins.le e h3⟩, fun hl ⟨a, dx, ws, h1, hs, h2, h3⟩ => ⟨a, dx, ws, h1, not_in hl hs h2, h2, h3.lift hl⟩⟩
theorem zip_lookup {H : Hp} : ∀ {fs : List (Str × Fm)} {ws : List V} {f : Str}, Ins S (fs.map Prod.snd) ws H → fs.lookup f = some ψ → ∃ w, ((fs.map Prod.fst).zip ws).lookup f = some w ∧ ψ.p S w H
  | [], _, _, _, h => by cases h
  | (g, φ) :: fs, _, f, ⟨v, ws, e1, e2, e3⟩, h => by
    subst e1
    rw [List.lookup_cons] at h
    show ∃ w, ((g, v) :: ((fs.map Prod.fst).zip ws)).lookup f = some w ∧ _
    rw [List.lookup_cons]
    cases hg : f == g with
    | true =>
      rw [hg] at h
      cases h
      exact ⟨v, rfl, e2⟩
    | false =>
      rw [hg] at h
      exact zip_lookup e3 h
theorem zip_none : ∀ {fs : List (Str × Fm)} {ws : List V} {f : Str}, fs.lookup f = none → ((fs.map Prod.fst).zip ws).lookup f = none
  | [], _, _, _ => rfl
  | (g, φ) :: fs, [], _, _ => rfl
  | (g, φ) :: fs, w :: ws, f, h => by
    rw [List.lookup_cons] at h
    show ((g, w) :: ((fs.map Prod.fst).zip ws)).lookup f = none
    rw [List.lookup_cons]
    cases hg : f == g with
    | true =>
      rw [hg] at h
      cases h
    | false =>
      rw [hg] at h
      exact zip_none h
theorem ge_fld {fs : List (Str × Fm)} {f : Str} (ho : GE S Γ I te (Ob C fs) J) (cl : Cls K C) (na : NoAttr K C f) (h : fs.lookup f = some ψ) : GE S Γ I (tFld K te f) ψ J := fun σ H e hi Q q => ho σ H e hi _ fun v H1 l1 j1 p1 => by
  obtain ⟨a, dx, ws, rfl, hs, h2, h3⟩ := p1
  obtain ⟨w, h4, h5⟩ := zip_lookup h3 h
  exact ⟨a, C, dx, _, w, rfl, h2, cl, na, h4, q w H1 l1 j1 h5⟩
theorem ob_ins {fs : List (Str × Fm)} (h : fs.lookup m = none) : InsOf C m (Ob C fs) := fun S v H ⟨a, dx, ws, h1, hs, h2, h3⟩ => ⟨a, dx, _, h1, h2, zip_none h⟩
/-! dicts -/
section
variable {κ : Type} [DecidableEq κ]
def lk {α : Type} (rows : List (κ × α)) (k : κ) : Option α := (rows.find? fun r => decide (r.1 = k)).map Prod.snd
theorem lk_val {H : Hp} {k : κ} : ∀ {rows : List (κ × Fm)} {kvs : List (κ × V)}, kvs.map Prod.fst = rows.map Prod.fst → Ins S (rows.map Prod.snd) (kvs.map Prod.snd) H →
    (lk rows k = none → valV kvs k = none) ∧ ∀ ψ : Fm, lk rows k = some ψ → ∃ v, valV kvs k = some v ∧ ψ.p S v H
  | [], [], _, _ => ⟨fun _ => rfl, fun _ h => by cases h⟩
  | [], _ :: _, h, _ => by cases h
  | _ :: _, [], h, _ => by cases h
  | (k1, φ) :: rows, (k2, v) :: kvs, h, hi => by
    obtain ⟨u, ws, e1, e2, e3⟩ := hi
    injection e1 with e1 e1'
    injection h with h h'
    obtain rfl : v = u := e1
    obtain rfl : k2 = k1 := h
    rw [← e1'] at e3
    have ih := lk_val (k := k) h' e3
    unfold lk valV at ih ⊢
    rw [List.find?_cons, List.find?_cons]
    by_cases hk : k2 = k
    · rw [decide_eq_true hk]
      refine ⟨fun h => (by cases h), fun ψ h => ?_⟩
      cases h
      exact ⟨v, rfl, e2⟩
    · rw [decide_eq_false hk]
      exact ih
end
abbrev Dct (rows : List (Key × Fm)) : Fm := ⟨fun S v H => ∃ d kvs, v = .ref d ∧ ¬ S d ∧ Rd H d (.dK kvs) ∧ kvs.map Prod.fst = rows.map Prod.fst ∧ Ins S (rows.map Prod.snd) (kvs.map Prod.snd) H,
  fun e ⟨d, kvs, h1, hs, h2, h3, h4⟩ => ⟨d, kvs, h1, hs, LE.dK e hs h2, h3, Ins.le e h4⟩, fun hl ⟨d, kvs, h1, hs, h2, h3, h4⟩ => ⟨d, kvs, h1, by
    rcases h2 with h2 | ⟨u, h2⟩ <;> exact not_in hl hs h2, h2, h3, h4.lift hl⟩⟩
abbrev DctT (rows : List (List Key × Fm)) : Fm := ⟨fun S v H => ∃ d kvs, v = .ref d ∧ ¬ S d ∧ Rd H d (.dT kvs) ∧ kvs.map Prod.fst = rows.map Prod.fst ∧ Ins S (rows.map Prod.snd) (kvs.map Prod.snd) H,
  fun e ⟨d, kvs, h1, hs, h2, h3, h4⟩ => ⟨d, kvs, h1, hs, LE.dT e hs h2, h3, Ins.le e h4⟩, fun hl ⟨d, kvs, h1, hs, h2, h3, h4⟩ => ⟨d, kvs, h1, by
    rcases h2 with h2 | ⟨u, h2⟩ <;> exact not_in hl hs h2, h2, h3, h4.lift hl⟩⟩
/-- a tuple of keys, of the heap -/
abbrev KeyT (ks : List Key) : Fm := ⟨fun S v H => ∃ b, v = .ref b ∧ ¬ S b ∧ H b = some (.tup (ks.map kV)), fun e ⟨b, h1, hs, h2⟩ => ⟨b, h1, hs, LE.tup e hs h2⟩, fun hl ⟨b, h1, hs, h2⟩ => ⟨b, h1, not_in hl hs h2, h2⟩⟩
def kd : Key → PyData
  | .inl i => .int i
  | .inr x => .str x
theorem kd_is {H : Hp} (k : Key) : Da S K H (kV k) (kd k) := by cases k <;> first | exact .int _ | exact .str _
theorem kd_of {H : Hp} {k : Key} {v : V} (h : Da S K H v (kd k)) : v = kV k := by cases k <;> first | exact h.int_of | exact h.str_of
theorem KeyT.tup {H : Hp} {ks : List Key} {v : V} (h : (KeyT ks).p S v H) : (Is K (.tuple (ks.map kd))).p S v H := by
  obtain ⟨b, rfl, hs, h2⟩ := h
  refine .tup (.inl ⟨hs, h2⟩) ?_
  clear h2
  induction ks with
  | nil => exact .nil
  | cons k ks ih => exact .cons (kd_is k) ih
theorem all_kd {H : Hp} : ∀ {ks : List Key} {vs : List V}, DaAll S K H vs (ks.map kd) → vs = ks.map kV
  | [], _, .nil => rfl
  | k :: ks, _, .cons h t => by rw [kd_of h, all_kd t]; rfl
/-- a new tuple of keys -/
theorem ge_tupK {ks : List Key} (h : GA S Γ I t φs J) (hd : Dl K φs (ks.map kd)) (hz : φs.length ≤ 1000) : GE S Γ I (tTup t) (KeyT ks) J := fun σ H e hi Q q => h σ H e hi _ fun vs H1 l1 j1 p1 => by
  obtain rfl : vs = ks.map kV := all_kd (hd.all p1)
  exact ⟨Nat.le_trans (by rw [p1.len]; exact hz) (by decide), fun p hp => q _ _ (l1.trans (XE.new hp)) (J.le (LX.new hp) j1) ⟨p, rfl, J.fresh j1 hp, upd_same⟩⟩
theorem ge_dget {rows : List (Key × Fm)} {k : Key} (ho : GE S Γ I td (Dct rows) J) (hk : GE S Γ J ty (Is K (kd k)) L) (h : lk rows k = some ψ) : GE S Γ I (tDGet td ty) ψ L := fun σ H e hi Q q =>
  ho σ H e hi _ fun v H1 l1 j1 p1 => hk σ H1 (e.xe l1) j1 _ fun u H2 l2 j2 p2 => by
    obtain ⟨d, kvs, rfl, hs, h2, h3, h4⟩ := (Dct rows).xe l2 p1
    obtain rfl := kd_of p2
    obtain ⟨w, h5, h6⟩ := (lk_val h3 h4).2 ψ h
    exact ⟨d, w, rfl, .inl ⟨kvs, k, h2, rfl, h5.symm⟩, q w H2 (l1.trans l2) j2 h6⟩
theorem ge_din {rows : List (Key × Fm)} {k : Key} (hk : GE S Γ I ty (Is K (kd k)) J) (ho : GE S Γ J td (Dct rows) L) : GE S Γ I (tDIn ty td) (Is K (.bool (lk rows k).isSome)) L := fun σ H e hi Q q =>
  hk σ H e hi _ fun v H1 l1 j1 p1 => ho σ H1 (e.xe l1) j1 _ fun u H2 l2 j2 p2 => by
    obtain ⟨d, kvs, rfl, hs, h2, h3, h4⟩ := p2
    obtain rfl := kd_of p1
    have h5 := lk_val (k := k) h3 h4
    refine ⟨d, valV kvs k, rfl, .inl ⟨kvs, k, h2, rfl, rfl⟩, q _ H2 (l1.trans l2) j2 ?_⟩
    cases h6 : lk rows k with
    | none => rw [h5.1 h6]; exact .bl _
    | some ψ =>
      obtain ⟨w, h7, _⟩ := h5.2 ψ h6
      rw [h7]
      exact .bl _
theorem ge_dnotin {rows : List (Key × Fm)} {k : Key} (hk : GE S Γ I ty (Is K (kd k)) J) (ho : GE S Γ J td (Dct rows) L) : GE S Γ I (tDNotIn ty td) (Is K (.bool (!(lk rows k).isSome))) L := fun σ H e hi Q q =>
  hk σ H e hi _ fun v H1 l1 j1 p1 => ho σ H1 (e.xe l1) j1 _ fun u H2 l2 j2 p2 => by
    obtain ⟨d, kvs, rfl, hs, h2, h3, h4⟩ := p2
    obtain rfl := kd_of p1
    have h5 := lk_val (k := k) h3 h4
    refine ⟨d, valV kvs k, rfl, .inl ⟨kvs, k, h2, rfl, rfl⟩, q _ H2 (l1.trans l2) j2 ?_⟩
    cases h6 : lk rows k with
    | none => rw [h5.1 h6]; exact .bl _
    | some ψ =>
      obtain ⟨w, h7, _⟩ := h5.2 ψ h6
      rw [h7]
      exact .bl _
theorem ge_dgetT {rows : List (List Key × Fm)} {ks : List Key} (ho : GE S Γ I td (DctT rows) J) (hk : GE S Γ J ty (KeyT ks) L) (h : lk rows ks = some ψ) : GE S Γ I (tDGet td ty) ψ L := fun σ H e hi Q q =>
  ho σ H e hi _ fun v H1 l1 j1 p1 => hk σ H1 (e.xe l1) j1 _ fun u H2 l2 j2 p2 => by
    obtain ⟨d, kvs, rfl, hs, h2, h3, h4⟩ := (DctT rows).xe l2 p1
    obtain ⟨b, rfl, hb, h7⟩ := p2
    obtain ⟨w, h5, h6⟩ := (lk_val h3 h4).2 ψ h
    exact ⟨d, w, rfl, .inr ⟨kvs, ks, b, h2, rfl, h7, h5.symm⟩, q w H2 (l1.trans l2) j2 h6⟩
theorem ge_dinT {rows : List (List Key × Fm)} {ks : List Key} (hk : GE S Γ I ty (KeyT ks) J) (ho : GE S Γ J td (DctT rows) L) : GE S Γ I (tDIn ty td) (Is K (.bool (lk rows ks).isSome)) L := fun σ H e hi Q q =>
  hk σ H e hi _ fun v H1 l1 j1 p1 => ho σ H1 (e.xe l1) j1 _ fun u H2 l2 j2 p2 => by
    obtain ⟨d, kvs, rfl, hs, h2, h3, h4⟩ := p2
    obtain ⟨b, rfl, hb, h8⟩ := (KeyT ks).xe l2 p1
    have h5 := lk_val (k := ks) h3 h4
    refine ⟨d, valV kvs ks, rfl, .inr ⟨kvs, ks, b, h2, rfl, h8, rfl⟩, q _ H2 (l1.trans l2) j2 ?_⟩
    cases h6 : lk rows ks with
    | none => rw [h5.1 h6]; exact .bl _
    | some ψ =>
      obtain ⟨w, h7, _⟩ := h5.2 ψ h6
      rw [h7]
      exact .bl _
/-! what is walked -/
def GIp (S : AS) (σ : L2.St) (H : Hp) (wi : TI) (ψs : List Fm) (J : IV S) : Prop := ∀ R : It → Hp → Prop,
  (∀ Jt H', XE S H H' → J.p H' → (∃ (G : Hp → Prop) (Y : Nat → Hp → V → Hp → Prop), Walk Jt ψs.length G Y ∧ ∀ T : AS, (∀ a, T a → S a ∨ H' a = none) → (∀ H2, XE T H' H2 → G H2) ∧ ∀ i ψ H2 x H3, ψs[i]? = some ψ → XE T H' H2 → (∀ p, (H2 p = none ∨ ∃ xs, H2 p = some (.tup xs)) → ¬ T p) → Y i H2 x H3 → Same H2 H3 ∧ ψ.p T x H3) → R Jt H') → wi σ H R
def GI (S : AS) (Γ : Ctx) (I : IV S) (wi : TI) (ψs : List Fm) (J : IV S) : Prop := ∀ σ H, Env S Γ σ H → I.p H → GIp S σ H wi ψs J
theorem gi_list {tl : TE} (h : GE S Γ I tl (Lst φs) J) : GI S Γ I (iList K tl) φs J := fun σ H e hi R r => h σ H e hi _ fun v H1 l1 j1 p1 => by
  obtain ⟨a, xs, rfl, hs, h2, h3⟩ := p1
  refine ⟨a, rfl, ⟨xs, SqL.of h2⟩, r _ H1 l1 j1 ⟨_, _, by rw [← h3.len]; exact walk_list (K := K) (a := a) (xs := xs), fun T hT => ⟨fun H2 l2 => SqL.of (l2 a _ (not_in hT hs h2) h2), fun i ψ H2 x H3 hψ l2 _ y => ?_⟩⟩⟩
  obtain ⟨rfl, y2⟩ := y
  obtain ⟨v, h4, h5⟩ := (h3.lift hT).get hψ
  rw [h4] at y2
  cases y2
  exact ⟨Same.refl _, ψ.xe l2 h5⟩
theorem gi_tup {tl : TE} (h : GE S Γ I tl (Tup K φs) J) : GI S Γ I (iTup K tl) φs J := fun σ H e hi R r => h σ H e hi _ fun v H1 l1 j1 p1 => by
  obtain ⟨a, xs, rfl, h2, h3⟩ := p1
  refine ⟨a, rfl, ⟨xs, h2.sq⟩, r _ H1 l1 j1 ⟨_, _, by rw [← h3.len]; exact walk_tup (K := K) (a := a) (xs := xs), fun T hT => ⟨fun H2 l2 => (ST.le l2.m (h2.lift hT)).sq, fun i ψ H2 x H3 hψ l2 _ y => ?_⟩⟩⟩
  obtain ⟨rfl, y2⟩ := y
  obtain ⟨v, h4, h5⟩ := (h3.lift hT).get hψ
  rw [h4] at y2
  cases y2
  exact ⟨Same.refl _, ψ.xe l2 h5⟩
theorem gi_listD {tl : TE} {ds : List PyData} (h : GE S Γ I tl (Is K (.list ds)) J) : GI S Γ I (iList K tl) (ds.map (Is K)) J := gi_list (h.wk fun _ _ _ p => is_lst p)
theorem gi_tupD {tl : TE} {ds : List PyData} (h : GE S Γ I tl (Is K (.tuple ds)) J) : GI S Γ I (iTup K tl) (ds.map (Is K)) J := gi_tup (h.wk fun _ _ _ p => is_tup p)
theorem gi_range {n : Nat} (hn : n ≤ 100000) (h : GA S Γ I t [Is K (.int n)] J) : GI S Γ I (iRng1 t) ((List.range n).map fun i => Is K (.int (i : Nat))) J := fun σ H e hi R r => h σ H e hi _ fun vs H1 l1 j1 p1 => by
  obtain ⟨v, ws, rfl, p2, rfl⟩ := p1
  obtain rfl := Da.int_of p2
  refine ⟨(n : Int), rfl, by omega, by omega, r _ H1 l1 j1 ⟨_, _, by rw [List.length_map, List.length_range, Int.toNat_natCast]; exact walk_range (lo := 0) (n := n), fun T hT => ⟨fun _ _ => trivial, fun i ψ H2 x H3 hψ l2 _ y => ?_⟩⟩⟩
  obtain ⟨rfl, rfl⟩ := y
  refine ⟨Same.refl _, ?_⟩
  rw [List.getElem?_map] at hψ
  cases q : (List.range n)[i]? with
  | none => rw [q] at hψ; cases hψ
  | some j =>
    rw [q] at hψ
    have hj := List.getElem?_eq_some_iff.mp q
    obtain ⟨_, hj⟩ := hj
    rw [List.getElem_range] at hj
    subst hj
    cases hψ
    show Da T K _ (.int (0 + (i : Int))) (.int (i : Int))
    rw [Int.zero_add]
    exact .int _
theorem gi_enum (h : GA S Γ I t [Lst φs] J) : GI S Γ I (iEnum K t) ((List.range φs.length).zipWith (fun i φ => Tup K [Is K (.int (i : Nat)), φ]) φs) J := fun σ H e hi R r => h σ H e hi _ fun vs H1 l1 j1 p1 => by
  obtain ⟨v, ws, rfl, ⟨a, xs, rfl, hs, h2, h3⟩, rfl⟩ := p1
  refine ⟨a, xs, rfl, SqL.of h2, r _ H1 l1 j1 ⟨_, _, by rw [List.length_zipWith, List.length_range, Nat.min_self, ← h3.len]; exact walk_enum (K := K) (a := a) (xs := xs), fun U hU => ⟨fun H2 l2 => SqL.of (l2 a _ (not_in hU hs h2) h2), fun i ψ H2 x H3 hψ l2 fr y => ?_⟩⟩⟩
  obtain ⟨T, x1, x2, rfl, hT, rfl, e1, e2⟩ := y
  refine ⟨fun b o hb => by rw [upd_ne (ne_of_none hb hT)]; exact hb, ?_⟩
  rw [List.getElem?_zipWith] at hψ
  cases q : φs[i]? with
  | none =>
    rw [q] at hψ
    cases h9 : (List.range φs.length)[i]? <;> rw [h9] at hψ <;> cases hψ
  | some φ =>
    have hi : i < φs.length := (List.getElem?_eq_some_iff.mp q).1
    rw [q, List.getElem?_range hi] at hψ
    cases hψ
    obtain ⟨v, h4, h5⟩ := (h3.lift hU).get q
    have e2 : xs[i]? = some x2 := e2
    rw [h4] at e2
    cases e2
    cases e1
    exact ⟨T, _, rfl, .inl ⟨fr T (.inl hT), upd_same⟩, _, _, rfl, .int _, _, _, rfl, φ.xe (XE.new hT) (φ.xe l2 h5), rfl⟩
theorem for_core {β : Type} {wi : TI} {g : TG} {tb : TS} {σ : L2.St} {H : Hp} (Γi : β → Ctx) (Ji : β → IV S) (G : Nat → β → Prop) (b0 : β) (h : GIp S σ H wi ψs J) (e : Env S Γ σ H) (h0 : G 0 b0) (hs0 : Sub (Γi b0) Γ) (hj0 : ∀ H, J.p H → (Ji b0).p H)
    (hs : ∀ i ψ b, ψs[i]? = some ψ → G i b → ∃ Δ js, GG S (Γi b) g ψ Δ js ∧ GS S Δ (Ji b) tb R (fun σ H => ∃ b', G (i + 1) b' ∧ En S (Γi b') (Ji b') σ H))
    (D : Ends) (r : ∀ v H', XE S H H' → R v H' → D.rt v H') (n : ∀ σ' H', XE S H H' → (∃ b, G ψs.length b ∧ En S (Γi b) (Ji b) σ' H') → D.nx σ' H') : tFor wi g tb D σ H := h _ fun Jt H1 l1 j1 ⟨Gw, Y, w, hT⟩ => by
  obtain ⟨hG, hY⟩ := hT S fun _ => .inl
  refine for_it w (fun i σ' H' => XE S H1 H' ∧ ∃ b, G i b ∧ En S (Γi b) (Ji b) σ' H') ⟨XE.refl S H1, b0, h0, (e.xe l1).sub hs0, hj0 H1 j1⟩ (fun i σ' H' _ p => hG H' p.1) (fun i x σ' H2 H3 hi2 p y => ?_) fun σ' H' p => n σ' H' (l1.trans p.1) p.2
  obtain ⟨l2, b, gb, eb, jb⟩ := p
  have hψ : ψs[i]? = some ψs[i] := List.getElem?_eq_getElem hi2
  obtain ⟨sm, px⟩ := hY i _ H2 x H3 hψ l2 (fun p hp => hp.elim ((Ji b).fresh jb) fun ⟨_, z⟩ => (Ji b).notT jb z) y
  obtain ⟨Δ, js, hg, hb⟩ := hs i _ b hψ gb
  refine hg σ' H3 x _ (eb.xe (XE.of sm)) px fun σ2 e2 _ => hb σ2 H3 e2 ((Ji b).le (LX.of sm) jb) _ (fun v H' l p => r v H' ((l1.trans l2).trans ((XE.of sm).trans l)) p) fun σ3 H' l p => ⟨l2.trans ((XE.of sm).trans l), p⟩
theorem gs_for {β : Type} {wi : TI} {g : TG} {tb : TS} (Γi : β → Ctx) (Ji : β → IV S) (G : Nat → β → Prop) (b0 : β) (h : GI S Γ I wi ψs J) (h0 : G 0 b0) (hs0 : Sub (Γi b0) Γ) (hj0 : ∀ H, J.p H → (Ji b0).p H)
    (hs : ∀ i ψ b, ψs[i]? = some ψ → G i b → ∃ Δ js, GG S (Γi b) g ψ Δ js ∧ GS S Δ (Ji b) tb R (fun σ H => ∃ b', G (i + 1) b' ∧ En S (Γi b') (Ji b') σ H)) :
    GS S Γ I (tFor wi g tb) R (fun σ H => ∃ b, G ψs.length b ∧ En S (Γi b) (Ji b) σ H) := fun σ H e hi D r n => for_core Γi Ji G b0 (h σ H e hi) e h0 hs0 hj0 hs D r n
end
/-! a list that is being made -/
def SU (S : AS) (p : Addr) : AS := fun a => S a ∨ a = p
theorem upd_id {H : Hp} {p : Addr} {o : HO} (h : H p = some o) : upd H p o = H := by
  funext b
  by_cases e : b = p
  · subst e
    rw [upd_same, h]
  · rw [upd_ne e]
theorem LE.updB {S : AS} {H H' : Hp} {p : Addr} {o : HO} (e : LE S H H') : LE S (upd H p o) (upd H' p o) := fun a u hs h => by
  by_cases z : a = p
  · subst z
    rw [upd_same] at h
    exact ⟨o, upd_same, by rw [Option.some.inj h]⟩
  · rw [upd_ne z] at h
    obtain ⟨o', h1, h2⟩ := e a u hs h
    exact ⟨o', by rw [upd_ne z]; exact h1, h2⟩
theorem XE.updB {S : AS} {H H' : Hp} {p : Addr} {o : HO} (e : XE S H H') : XE S (upd H p o) (upd H' p o) := fun a u hs h => by
  by_cases z : a = p
  · subst z
    rw [upd_same] at h
    rw [upd_same]
    exact h
  · rw [upd_ne z] at h ⊢
    exact e a u hs h
theorem LX.updB {S : AS} {H H' : Hp} {p : Addr} {o : HO} (e : LX S H H') : LX S (upd H p o) (upd H' p o) := ⟨e.1.updB, fun a u hs h => by
  by_cases z : a = p
  · subst z
    rw [upd_same] at h
    rw [upd_same]
    exact h
  · rw [upd_ne z] at h ⊢
    exact e.2 a u hs h⟩
def IV.acc {S : AS} (I : IV S) (p : Addr) (fs : List Fm) : IV (SU S p) := ⟨fun H => (∀ xs, I.p (upd H p (.lst xs))) ∧ ∃ vs, H p = some (.lst vs) ∧ Ins (SU S p) fs vs H,
  fun e ⟨h, vs, h1, h2⟩ => ⟨fun xs => I.le (LX.updB (e.sub fun a z => .inl z)) (h xs), vs, e.2 p _ (.inr rfl) h1, Ins.le e.any h2⟩, fun ⟨h, vs, h1, h2⟩ a ha => ha.elim (fun z => by
    have := h vs
    rw [upd_id h1] at this
    exact I.dom this a z) fun z => by
    subst z
    exact ⟨_, h1, rfl⟩⟩
theorem acc_wk {S : AS} {I : IV S} {p : Addr} {fs : List Fm} {H : Hp} (h : (I.acc p fs).p H) : I.p H := by
  obtain ⟨h, vs, h1, _⟩ := h
  have := h vs
  rw [upd_id h1] at this
  exact this
theorem acc_ext {S : AS} {I : IV S} {p : Addr} {fs : List Fm} (hp : ¬ S p) : Ext I (I.acc p fs) := ⟨fun _ h => .inl h, fun _ h => acc_wk h, fun T at_ c => ⟨fun a h => .inl (c.1 a h), c.2.1, fun H H' ⟨h, vs, h1, h2⟩ e ha =>
  ⟨fun xs => c.2.2 _ _ (h xs) (XE.updB e) (c.2.1 H' _ (fun a z => by rw [upd_ne (fun y => hp (by rw [← y]; exact c.1 a z))]) ha), vs, e p _ (fun z => hp (c.1 p z)) h1, h2.xe (e.sub fun a z => .inl (c.1 a z))⟩⟩⟩
section
variable {S : AS} {K : PySem.W.Frag} {Γ Δ : Ctx} {I J L M : IV S} {ta tb tc te td ty : TE} {t : TA} {φ ψ χ ξ : Fm} {φs ψs fs : List Fm} {R : VK} {N : L2.St → Hp → Prop} {u : TS} {i : Nat} {p : Addr}
theorem acc_out {H : Hp} (hp : ¬ S p) (h : (I.acc p fs).p H) : (Lst fs).p S (.ref p) H := by
  obtain ⟨h, vs, h1, h2⟩ := h
  exact ⟨p, vs, rfl, hp, h1, h2.lift fun a z => .inl (.inl z)⟩
theorem gs_acc (h : ∀ p, ¬ S p → GS (SU S p) (Γ.set i (some (Eqv (.ref p)))) (I.acc p []) u R N) : GS S Γ I (tSeq (tAsg (tLst tNil) (gName i)) u) R N := fun σ H e hi D r n => by
  refine ⟨by decide, fun p hp => ?_⟩
  have l : XE S H (upd H p (.lst [])) := XE.new hp
  have back : ∀ {H'}, XE (SU S p) (upd H p (.lst [])) H' → XE S H H' := fun {H'} x a o hs ha => x a o (fun z => z.elim hs fun z => by
    subst z
    rw [hp] at ha
    cases ha) (l a o hs ha)
  refine h p (I.fresh hi hp) _ _ ((Env.lift (fun a z => z.elim .inl fun z => .inr (by rw [z]; exact hp)) e).xe (XE.new hp) |>.set i (φ := Eqv (.ref p)) rfl) ⟨fun xs => by rw [upd_upd]; exact I.le (LX.new hp) hi, [], upd_same, rfl⟩ D (fun v H' x q => r v H' (back x) q) fun σ' H' x q => n σ' H' (back x) q
theorem ge_app (ho : ∀ fs, GE (SU S p) Γ (I.acc p fs) ta (Eqv (.ref p)) (I.acc p fs)) (h : GE (SU S p) Γ (I.acc p fs) te χ (I.acc p fs)) (hz : fs.length ≤ 1000) : GE (SU S p) Γ (I.acc p fs) (tBM K "list" rAppend ta (tCons te tNil)) (Is K .none) (I.acc p (fs ++ [χ])) := fun σ H e hi Q q =>
  ho fs σ H e hi _ fun v H1 l1 j1 p1 => by
    obtain rfl : v = .ref p := p1
    have j1' := j1
    obtain ⟨_, vs1, h1, _⟩ := j1'
    refine ⟨Or.inl ⟨rfl, _, SqL.of h1⟩, h σ H1 (e.xe l1) j1 _ fun w H2 l2 j2 p2 => ?_⟩
    obtain ⟨k2, vs, h3, h4⟩ := j2
    refine ⟨p, vs, w, rfl, rfl, h3, Nat.lt_of_le_of_lt (by rw [h4.len]; exact hz) (by decide), q _ _ ((l1.trans l2).trans (XE.mut (.inr rfl))) ⟨fun xs => by rw [upd_upd]; exact k2 xs, vs ++ [w], upd_same, ?_⟩ .non⟩
    exact (Ins.app (ψs := [χ]) (ws := [w]) h4 ⟨w, [], rfl, p2, rfl⟩).xe (XE.mut (.inr rfl))
end
end Hs
set_option Elab.async false
set_option linter.all false
set_option maxRecDepth 100000
set_option maxHeartbeats 4000000
/-! comprehensions, locked dicts, a def and its contract -/
namespace Hs
open PySem PySem.Spec PyProof.Rows L2 StX
section
variable {S : AS} {K : PySem.W.Frag} {Γ : Ctx} {I J L M : IV S} {te td : TE} {tt : TT} {φ ψ χ ξ : Fm} {φs ψs fs : List Fm} {R : VK} {N : L2.St → Hp → Prop}
theorem wipe_idem (σ : L2.St) : ∀ vs ws : List Nat, (∀ v ∈ ws, v ∈ vs) → L2.wipe (L2.wipe σ ws) vs = L2.wipe σ vs
  | vs, [], _ => rfl
  | vs, w :: ws, h => by
    show L2.wipe ((L2.wipe σ ws).set w none) vs = _
    rw [wipe_set (h w List.mem_cons_self), wipe_idem σ vs ws fun v m => h v (List.mem_cons_of_mem _ m)]
theorem lc_core' {wi : TI} {g : TG} {vs : List Nat} {σ : L2.St} {H : Hp} (G : Nat → List Fm → Prop) (h : GIp S σ H wi ψs J) (e : Env S Γ σ H) (h0 : G 0 []) (hz : ∀ i fs, i ≤ ψs.length → G i fs → fs.length ≤ 1000)
    (hs : ∀ (i : Nat) (ψ : Fm) (fs : List Fm) (S' : AS) (I' : IV S'), Ext J I' → ψs[i]? = some ψ → G i fs → ∃ Δ js, (∀ j ∈ js, j ∈ vs) ∧ GG S' (wipeG Γ vs) g ψ Δ js ∧ ∃ P, GT S' Δ I' tt P I' ∧ (P false → G (i + 1) fs) ∧ (P true → ∃ χ, GE S' Δ I' te χ I' ∧ G (i + 1) (fs ++ [χ]))) :
    ∀ Q : VK, (∀ v H', XE S H H' → J.p H' → (Exs (G ψs.length) Lst).p S v H' → Q v H') → tLc wi g tt te vs σ H Q := fun Q q => h _ fun Jt H1 l1 j1 ⟨Gw, Y, w, hT⟩ D hD => by
  have nS : ¬ S D := J.fresh j1 hD
  have sub : ∀ a, SU S D a → S a ∨ H1 a = none := fun a z => z.elim .inl fun z => .inr (by rw [z]; exact hD)
  obtain ⟨hG, hY⟩ := hT (SU S D) sub
  have back : ∀ {H'}, XE (SU S D) H1 H' → XE S H1 H' := fun {H'} x a o hs ha => x a o (fun z => z.elim hs fun z => by
    subst z
    rw [hD] at ha
    cases ha) ha
  have eD : Env (SU S D) Γ σ H1 := Env.lift sub (e.xe l1)
  refine lc_it w (fun i H' => XE (SU S D) H1 H' ∧ ∃ fs, G i fs ∧ (J.acc D fs).p H') ⟨XE.new hD, [], h0, fun xs => by rw [upd_upd]; exact J.le (LX.new hD) j1, [], upd_same, rfl⟩ (fun i H' _ p => hG H' p.1) (fun i x H2 H3 hi2 p y => ?_) fun H' p => ?_
  · obtain ⟨l2, fs, gf, jf⟩ := p
    have hψ : ψs[i]? = some ψs[i] := List.getElem?_eq_getElem hi2
    obtain ⟨sm, px⟩ := hY i _ H2 x H3 hψ l2 (fun q hq => hq.elim ((J.acc D fs).fresh jf) fun ⟨_, z⟩ => (J.acc D fs).notT jf z) y
    have jf3 : (J.acc D fs).p H3 := (J.acc D fs).le (LX.of sm) jf
    obtain ⟨Δ, js, hjs, hg, P, hT, hF, hE⟩ := hs i _ fs (SU S D) (J.acc D fs) (acc_ext nS) hψ gf
    have l3 := l2.trans (XE.of sm)
    refine hg (L2.wipe σ vs) H3 x _ ((Env.wipe eD vs).xe l3) px fun σ2 e2 w2 => ?_
    refine ⟨by rw [w2 vs hjs]; exact wipe_idem σ vs vs fun _ m => m, hT σ2 H3 e2 jf3 _ fun b H4 l4 j4 pb => ?_⟩
    cases b with
    | true =>
      rw [if_pos rfl]
      obtain ⟨χ, hχ, gχ⟩ := hE pb
      refine hχ σ2 H4 (e2.xe l4) j4 _ fun v H5 l5 j5 pv => ?_
      obtain ⟨k5, acc, h5, h6⟩ := j5
      refine ⟨acc, h5, Nat.lt_of_le_of_lt (by rw [h6.len]; exact hz i fs (by omega) gf) (by decide), (l3.trans l4).trans (l5.trans (XE.mut (.inr rfl))), _, gχ, fun xs => by rw [upd_upd]; exact k5 xs, acc ++ [v], upd_same, ?_⟩
      exact (Ins.app (ψs := [χ]) (ws := [v]) h6 ⟨v, [], rfl, pv, rfl⟩).xe (XE.mut (.inr rfl))
    | false =>
      rw [if_neg (by decide)]
      exact ⟨l3.trans l4, fs, hF pb, j4⟩
  · obtain ⟨l2, fs, gf, jf⟩ := p
    exact q _ _ (l1.trans (back l2)) (acc_wk jf) ⟨fs, gf, acc_out nS jf⟩
theorem ge_lc {wi : TI} {g : TG} {vs : List Nat} (G : Nat → List Fm → Prop) (h : GI S Γ I wi ψs J) (h0 : G 0 []) (hz : ∀ i fs, i ≤ ψs.length → G i fs → fs.length ≤ 1000)
    (hs : ∀ (i : Nat) (ψ : Fm) (fs : List Fm) (S' : AS) (I' : IV S'), Ext J I' → ψs[i]? = some ψ → G i fs → ∃ Δ js, (∀ j ∈ js, j ∈ vs) ∧ GG S' (wipeG Γ vs) g ψ Δ js ∧ ∃ P, GT S' Δ I' tt P I' ∧ (P false → G (i + 1) fs) ∧ (P true → ∃ χ, GE S' Δ I' te χ I' ∧ G (i + 1) (fs ++ [χ]))) :
    GE S Γ I (tLc wi g tt te vs) (Exs (G ψs.length) Lst) J := fun σ H e hi => lc_core' G (h σ H e hi) e h0 hz hs
/-- each item once, by data: those that pass, as they become -/
theorem ge_lcD {α : Type} {wi : TI} {g : TG} {vs : List Nat} (src : List α) (emb : α → Fm) (p : α → Bool) (f : α → PyData) (h : GI S Γ I wi (src.map emb) J) (hz : src.length ≤ 1000)
    (hs : ∀ (x : α) (S' : AS) (I' : IV S'), Ext J I' → x ∈ src → ∃ Δ js, (∀ j ∈ js, j ∈ vs) ∧ GG S' (wipeG Γ vs) g (emb x) Δ js ∧ GT S' Δ I' tt (fun c => p x = c) I' ∧ (p x = true → GE S' Δ I' te (Is K (f x)) I')) :
    GE S Γ I (tLc wi g tt te vs) (Is K (.list ((src.filter p).map f))) J := by
  refine (ge_lc (fun i fs => fs = (((src.take i).filter p).map f).map (Is K)) h rfl (fun i fs hi e => ?_) fun i ψ fs S' I' ext hψ e => ?_).wk fun v H _ ⟨fs, e, a, xs, h1, h2, h3, h4⟩ => ?_
  · subst e
    rw [List.length_map, List.length_map]
    refine Nat.le_trans (List.length_filter_le _ _) ?_
    rw [List.length_take]
    omega
  · rw [List.getElem?_map] at hψ
    cases hx : src[i]? with
    | none => rw [hx] at hψ; cases hψ
    | some x =>
      rw [hx] at hψ
      cases hψ
      have e1 : src.take (i + 1) = src.take i ++ [x] := by
        have hi : i < src.length := (List.getElem?_eq_some_iff.mp hx).1
        rw [List.take_succ_eq_append_getElem hi, (List.getElem?_eq_some_iff.mp hx).2]
      obtain ⟨Δ, js, h1, h2, h3, h4⟩ := hs x S' I' ext (List.mem_of_getElem? hx)
      refine ⟨Δ, js, h1, h2, _, h3, fun hp => ?_, fun hp => ⟨_, h4 hp, ?_⟩⟩
      · rw [e, e1, List.filter_append, List.filter_cons_of_neg (by rw [hp]; decide), List.filter_nil, List.append_nil]
      · rw [e, e1, List.filter_append, List.filter_cons_of_pos hp, List.filter_nil, List.map_append, List.map_append]
        rfl
  · rw [List.length_map, List.take_length] at e
    subst e
    subst h1
    exact .lst h2 h3 ((Dl.map _).all h4)
/-! a locked dict -/
def tOr2 (t u : TS) : TS := fun D σ H => t D σ H ∨ u D σ H
theorem ps_or {X : Cx} {st : Stmt} {t u : TS} (h1 : PS X st t) (h2 : PS X st u) : PS X st (tOr2 t u) := ⟨fun pins s σ H D I h => h.elim (h1.run pins s σ H D I) (h2.run pins s σ H D I)⟩
def tOr2E (t u : TE) : TE := fun σ H Q => t σ H Q ∨ u σ H Q
theorem pe_or2 {X : Cx} {e : Expr} {t u : TE} (h1 : PE X e t) (h2 : PE X e u) : PE X e (tOr2E t u) := ⟨fun pins s σ H Q I h => h.elim (h1.run pins s σ H Q I) (h2.run pins s σ H Q I)⟩
/-- where a dict comes from, and that it lasts -/
def DSrc (S : AS) (Γ : Ctx) (I : IV S) (td : TE) (ok : HO → Hp → Prop) : Prop := ∀ σ H, Env S Γ σ H → I.p H → ∃ d u, isD u = true ∧ ¬ S d ∧ Rd H d u ∧ ok u H ∧ ∀ H', LE S H H' → ∀ Q : VK, Q (.ref d) H' → td σ H' Q
def okK (S : AS) (rows : List (Key × Fm)) : HO → Hp → Prop := fun u H => ∃ kvs, u = .dK kvs ∧ kvs.map Prod.fst = rows.map Prod.fst ∧ Ins S (rows.map Prod.snd) (kvs.map Prod.snd) H
def okT (S : AS) (rows : List (List Key × Fm)) : HO → Hp → Prop := fun u H => ∃ kvs, u = .dT kvs ∧ kvs.map Prod.fst = rows.map Prod.fst ∧ Ins S (rows.map Prod.snd) (kvs.map Prod.snd) H
theorem dsrc_var {rows : List (Key × Fm)} {i : Nat} (h : Γ[i]? = some (some (Dct rows))) : DSrc S Γ I (tVar i) (okK S rows) := fun σ H e hi => by
  obtain ⟨v, h1, d, kvs, rfl, hs, h2, h3, h4⟩ := e.2 i _ h
  exact ⟨d, _, rfl, hs, h2, ⟨kvs, rfl, h3, h4⟩, fun H' _ Q q => ⟨_, h1, q⟩⟩
theorem dsrc_fld {rows : List (Key × Fm)} {i : Nat} {C : Addr} {fs : List (Str × Fm)} {f : Str} (h : Γ[i]? = some (some (Ob C fs))) (cl : Cls K C) (na : NoAttr K C f) (hf : fs.lookup f = some (Dct rows)) : DSrc S Γ I (tFld K (tVar i) f) (okK S rows) := fun σ H e hi => by
  obtain ⟨v, h1, a, dx, ws, rfl, ha, h5, h6⟩ := e.2 i _ h
  obtain ⟨w, h7, d, kvs, rfl, hs, h2, h3, h4⟩ := zip_lookup h6 hf
  exact ⟨d, _, rfl, hs, h2, ⟨kvs, rfl, h3, h4⟩, fun H' l Q q => ⟨_, h1, a, C, dx, _, _, rfl, l.ins ha h5, cl, na, h7, q⟩⟩
theorem dsrc_fldT {rows : List (List Key × Fm)} {i : Nat} {C : Addr} {fs : List (Str × Fm)} {f : Str} (h : Γ[i]? = some (some (Ob C fs))) (cl : Cls K C) (na : NoAttr K C f) (hf : fs.lookup f = some (DctT rows)) : DSrc S Γ I (tFld K (tVar i) f) (okT S rows) := fun σ H e hi => by
  obtain ⟨v, h1, a, dx, ws, rfl, ha, h5, h6⟩ := e.2 i _ h
  obtain ⟨w, h7, d, kvs, rfl, hs, h2, h3, h4⟩ := zip_lookup h6 hf
  exact ⟨d, _, rfl, hs, h2, ⟨kvs, rfl, h3, h4⟩, fun H' l Q q => ⟨_, h1, a, C, dx, _, _, rfl, l.ins ha h5, cl, na, h7, q⟩⟩
/-- a dict's iterator, the dict locked -/
def DIt (S : AS) (td : TE) (wi : TI) (ok : HO → Hp → Prop) (ψs : List Fm) : Prop := ∀ (I : IV S) (σ : L2.St) (H : Hp) (d : Addr) (u : HO) (od : Obj), ¬ S d → ok u H → H d = some (.frz od u) → (∀ H', LE S H H' → ∀ Q : VK, Q (.ref d) H' → td σ H' Q) → I.p H → GIp S σ H wi ψs I
theorem dit_keys {rows : List (Key × Fm)} : DIt S td (iKeys td) (okK S rows) (rows.map fun r => Is K (kd r.1)) := fun I σ H d u od nd ⟨kvs, hu, h3, h4⟩ hd ht hi R r => by
  subst hu
  refine ht H (LE.refl S H) _ ⟨d, od, rfl, .inl ⟨kvs, hd, r _ H (XE.refl S H) hi ⟨_, _, by rw [List.length_map, ← List.length_map (f := Prod.fst), ← h3, List.length_map]; exact walk_keys, fun T hT => ⟨fun H2 l2 => l2 d _ (not_in hT nd hd) hd, fun i ψ H2 x H3 hψ l2 _ y => ?_⟩⟩⟩⟩
  obtain ⟨rfl, k, v, h5, rfl⟩ := y
  refine ⟨Same.refl _, ?_⟩
  rw [List.getElem?_map] at hψ
  have h6 : (kvs.map Prod.fst)[i]? = some k := by rw [List.getElem?_map, h5]; rfl
  rw [h3, List.getElem?_map] at h6
  cases hr : rows[i]? with
  | none => rw [hr] at hψ; cases hψ
  | some q =>
    rw [hr] at hψ h6
    cases hψ
    cases h6
    exact kd_is _
theorem dit_keysT {rows : List (List Key × Fm)} : DIt S td (iKeys td) (okT S rows) (rows.map fun r => KeyT r.1) := fun I σ H d u od nd ⟨kvs, hu, h3, h4⟩ hd ht hi R r => by
  subst hu
  refine ht H (LE.refl S H) _ ⟨d, od, rfl, .inr ⟨kvs, hd, r _ H (XE.refl S H) hi ⟨_, _, by rw [List.length_map, ← List.length_map (f := Prod.fst), ← h3, List.length_map]; exact walk_keysT, fun T hT => ⟨fun H2 l2 => l2 d _ (not_in hT nd hd) hd, fun i ψ H2 x H3 hψ l2 fr y => ?_⟩⟩⟩⟩
  obtain ⟨rfl, k, v, q, h5, rfl, h7⟩ := y
  refine ⟨Same.refl _, ?_⟩
  rw [List.getElem?_map] at hψ
  have h6 : (kvs.map Prod.fst)[i]? = some k := by rw [List.getElem?_map, h5]; rfl
  rw [h3, List.getElem?_map] at h6
  cases hr : rows[i]? with
  | none => rw [hr] at hψ; cases hψ
  | some q2 =>
    rw [hr] at hψ h6
    cases hψ
    cases h6
    exact ⟨q, rfl, fr q (.inr ⟨_, h7⟩), h7⟩
theorem dit_items {rows : List (Key × Fm)} : DIt S td (iItems td) (okK S rows) (rows.map fun r => Tup K [Is K (kd r.1), r.2]) := fun I σ H d u od nd ⟨kvs, hu, h3, h4⟩ hd ht hi R r => by
  subst hu
  refine ht H (LE.refl S H) _ ⟨d, od, kvs, rfl, hd, r _ H (XE.refl S H) hi ⟨_, _, by rw [List.length_map, ← List.length_map (f := Prod.fst), ← h3, List.length_map]; exact walk_items, fun T hT => ⟨fun H2 l2 => l2 d _ (not_in hT nd hd) hd, fun i ψ H2 x H3 hψ l2 fr y => ?_⟩⟩⟩
  obtain ⟨p, x1, x2, rfl, hp, rfl, e1, e2⟩ := y
  refine ⟨fun b o hb => by rw [upd_ne (ne_of_none hb hp)]; exact hb, ?_⟩
  rw [List.getElem?_map] at hψ
  cases hr : rows[i]? with
  | none => rw [hr] at hψ; cases hψ
  | some q2 =>
    rw [hr] at hψ
    cases hψ
    cases hk : kvs[i]? with
    | none =>
      have e1 : kvs[i]?.map (fun kv => kV kv.1) = some x1 := e1
      rw [hk] at e1
      cases e1
    | some kv =>
      have e1 : kvs[i]?.map (fun kv => kV kv.1) = some x1 := e1
      have e2 : kvs[i]?.map Prod.snd = some x2 := e2
      rw [hk] at e1 e2
      cases e1
      cases e2
      have h6 : (kvs.map Prod.fst)[i]? = some kv.1 := by rw [List.getElem?_map, hk]; rfl
      rw [h3, List.getElem?_map, hr] at h6
      have h6 : q2.1 = kv.1 := Option.some.inj h6
      obtain ⟨v, h8, h9⟩ := (h4.lift hT).get (i := i) (φ := q2.2) (by rw [List.getElem?_map, hr]; rfl)
      rw [List.getElem?_map, hk] at h8
      cases h8
      exact ⟨p, _, rfl, .inl ⟨fr p (.inl hp), upd_same⟩, _, _, rfl, by rw [h6]; exact kd_is _, _, _, rfl, q2.2.xe (XE.new hp) (q2.2.xe l2 h9), rfl⟩
/-- a loop over a dict, locked or not yet -/
theorem gs_forK {β : Type} {wi : TI} {g : TG} {tb : TS} {ok : HO → Hp → Prop} (Γi : β → Ctx) (Ji : β → IV S) (G : Nat → β → Prop) (b0 : β) (h : DSrc S Γ I td ok) (hok : ∀ u H H', LE S H H' → ok u H → ok u H') (w : DIt S td wi ok ψs) (h0 : G 0 b0) (hs0 : Sub (Γi b0) Γ) (hj0 : ∀ H, I.p H → (Ji b0).p H)
    (hR : ∀ v H H', LX S H H' → R v H → R v H')
    (hs : ∀ i ψ b, ψs[i]? = some ψ → G i b → ∃ Δ js, GG S (Γi b) g ψ Δ js ∧ GS S Δ (Ji b) tb R (fun σ H => ∃ b', G (i + 1) b' ∧ En S (Γi b') (Ji b') σ H)) :
    GS S Γ I (tOr2 (tLock (tFor wi g tb)) (tFor wi g tb)) R (fun σ H => ∃ b, G ψs.length b ∧ En S (Γi b) (Ji b) σ H) := fun σ H e hi D r n => by
  obtain ⟨d, u, hu, nd, h1, o1, ht⟩ := h σ H e hi
  rcases h1 with h1 | ⟨od, h1⟩
  · refine .inl ⟨d, u, h1, by cases u <;> first | exact True.intro | (exact (Bool.noConfusion hu)), fun od => ?_⟩
    have lk : ∀ T, LE T H (upd H d (.frz od u)) := fun T => LE.lock hu h1
    have back : ∀ {H'}, XE S (upd H d (.frz od u)) H' → H' d = some (.frz od u) ∧ XE S H (upd H' d u) := fun {H'} x => ⟨x d _ nd upd_same, fun a o hs ha => by
      by_cases z : a = d
      · subst z
        rw [h1] at ha
        rw [upd_same]
        exact ha
      · rw [upd_ne z]
        exact x a o hs (by rw [upd_ne z]; exact ha)⟩
    refine for_core Γi Ji G b0 (w I σ _ d u od nd (hok u _ _ (lk S) o1) upd_same (fun H' l => ht H' ((lk S).trans l)) (I.le (LX.lock hu nd h1) hi)) (e.le (lk S)) h0 hs0 hj0 hs _ (fun v H' x p => ?_) fun σ' H' x p => ?_
    · exact ⟨(back x).1, r v _ (back x).2 (hR v H' _ (LX.unlock hu nd (back x).1) p)⟩
    · obtain ⟨b, gb, eb, jb⟩ := p
      exact ⟨(back x).1, n σ' _ (back x).2 ⟨b, gb, eb.le (LE.unlock hu (back x).1), (Ji b).le (LX.unlock hu nd (back x).1) jb⟩⟩
  · exact .inr (for_core Γi Ji G b0 (w I σ H d u od nd o1 h1 ht hi) e h0 hs0 hj0 hs D r n)
/-- a comprehension over a dict, locked or not yet -/
theorem ge_lcK {wi : TI} {g : TG} {vs : List Nat} {ok : HO → Hp → Prop} (G : Nat → List Fm → Prop) (h : DSrc S Γ I td ok) (hok : ∀ u H H', LE S H H' → ok u H → ok u H') (w : DIt S td wi ok ψs) (h0 : G 0 []) (hz : ∀ i fs, i ≤ ψs.length → G i fs → fs.length ≤ 1000)
    (hs : ∀ (i : Nat) (ψ : Fm) (fs : List Fm) (S' : AS) (I' : IV S'), Ext I I' → ψs[i]? = some ψ → G i fs → ∃ Δ js, (∀ j ∈ js, j ∈ vs) ∧ GG S' (wipeG Γ vs) g ψ Δ js ∧ ∃ P, GT S' Δ I' tt P I' ∧ (P false → G (i + 1) fs) ∧ (P true → ∃ χ, GE S' Δ I' te χ I' ∧ G (i + 1) (fs ++ [χ]))) :
    GE S Γ I (tOr2E (tLockE (tLc wi g tt te vs)) (tLc wi g tt te vs)) (Exs (G ψs.length) Lst) I := fun σ H e hi Q q => by
  obtain ⟨d, u, hu, nd, h1, o1, ht⟩ := h σ H e hi
  rcases h1 with h1 | ⟨od, h1⟩
  · refine .inl ⟨d, u, h1, by cases u <;> first | exact True.intro | (exact (Bool.noConfusion hu)), fun od => ?_⟩
    have lk : ∀ T, LE T H (upd H d (.frz od u)) := fun T => LE.lock hu h1
    refine lc_core' G (w I σ _ d u od nd (hok u _ _ (lk S) o1) upd_same (fun H' l => ht H' ((lk S).trans l)) (I.le (LX.lock hu nd h1) hi)) (e.le (lk S)) h0 hz hs _ fun v H' x j p => ?_
    have hd := x d _ nd upd_same
    refine ⟨hd, q v _ (fun a o hs ha => ?_) (I.le (LX.unlock hu nd hd) j) ((Exs (G ψs.length) Lst).le (LE.unlock hu hd) p)⟩
    by_cases z : a = d
    · subst z
      rw [h1] at ha
      rw [upd_same]
      exact ha
    · rw [upd_ne z]
      exact x a o hs (by rw [upd_ne z]; exact ha)
  · exact .inr (lc_core' G (w I σ H d u od nd o1 h1 ht hi) e h0 hz hs Q q)
theorem okK_le {rows : List (Key × Fm)} : ∀ u H H', LE S H H' → okK S rows u H → okK S rows u H' := fun u H H' l ⟨kvs, h1, h2, h3⟩ => ⟨kvs, h1, h2, h3.le l⟩
theorem okT_le {rows : List (List Key × Fm)} : ∀ u H H', LE S H H' → okT S rows u H → okT S rows u H' := fun u H H' l ⟨kvs, h1, h2, h3⟩ => ⟨kvs, h1, h2, h3.le l⟩
end
/-- what a contract hands out -/
def Rk {S : AS} (k : Ctr S) : VK := fun v H => k.out.p S v H ∧ k.J.p H
theorem Rk_le {S T : AS} {k : Ctr S} (ht : ∀ a, S a → T a) : ∀ v H H', LX T H H' → Rk k v H → Rk k v H' := fun v H H' l ⟨h1, h2⟩ => ⟨k.out.le l.any h1, k.J.le (l.sub ht) h2⟩
/-- a def keeps its contract -/
theorem ok_of {P : Program} {w : World} {K : PySem.W.Frag} {mg : Str → Option Value} {base : Heap} {x qual : Str} {st : Stmt} {f : Addr} {fd : FuncData} {N ps : List Str} {k : Nat} {c : CTR} (F : Fun K x qual st f fd) (Sc : FnScope N ps (defScope st)) (hb : Binds K fd ps [])
    (len : ∀ S kk, c S kk → kk.ins.length = ps.length)
    (hbody : ∀ (cdv : Value) (A : Around) (outer : List PySem.Env) (s : Shared) (H : Hp) (E : XK), Room k (A.deeper (envOfC qual (defScope st) s.heap.objs.size f cdv)) →
      ∃ t, PSs (cxOf CX0 P w K mg base N qual (defScope st) f cdv A outer s H E).nox (defBody st) t ∧ ∀ S kk, c S kk → GS S (ctx0 N.length kk.ins) kk.I t (Rk kk) (fun _ H => Rk kk .non H)) : FnR P w K mg base CX0 (k + 1) f (spC c) := by
  have h : FnOk P w K mg base CX0 (k + 1) f fd ps (spC c) := F.ok Sc (fun vs H Q E ⟨S, kk, hc, _, hi, _⟩ => by rw [hi.len, len S kk hc]) fun cdv A outer s H vs Q E hr hsp => by
    obtain ⟨t, h1, h2⟩ := hbody cdv A outer s H E hr
    obtain ⟨S, kk, hc, hi, hins, q⟩ := hsp
    exact ⟨t, h1, h2 S kk hc _ _ (Env.start N hins) hi _ (fun v H' l p => q v H' l p.2 p.1) fun σ' H' l p => q .non H' l p.2 p.1⟩
  exact (h.raw hb .nil).imp fun vs H Q E q => by rw [List.append_nil]; exact q
end Hs
set_option Elab.async false
set_option linter.all false
set_option maxRecDepth 100000
set_option maxHeartbeats 4000000
namespace Hs
open PySem PySem.Spec PyProof.Rows L2
def topS (i : Nat) : Stmt := PySem.Challenge.pw_halfsetup_k76_whole_desks_of_long_histor.main.body.getD i (.Pass ⟨0, 0, 0, 0⟩)
/-- a property's getter -/
def pgA (K : PySem.W.Frag) (C f : Str) : Addr := match PySem.W.recIn K (He.ma K (He.ga K C) f) "property" with
  | some (.ref a :: _) => a
  | _ => 0
abbrev s_is_number : Stmt := topS 17
abbrev s_is_word : Stmt := topS 18
abbrev s_is_rising : Stmt := topS 19
abbrev s_is_need : Stmt := topS 21
abbrev s_is_state : Stmt := topS 32
abbrev s_edition_in : Stmt := topS 34
abbrev s_is_there : Stmt := topS 35
abbrev s_is_met : Stmt := topS 36
abbrev s_lacking : Stmt := topS 37
abbrev s_hostile : Stmt := topS 38
abbrev s_is_sound : Stmt := topS 39
abbrev s_unpack_refusal : Stmt := topS 45
abbrev s_setup_refusal : Stmt := topS 46
abbrev s_remove_refusal : Stmt := topS 47
abbrev s_refusal : Stmt := topS 48
abbrev s_executed : Stmt := topS 55
abbrev s_need_begin : Stmt := topS 56
abbrev s_run : Stmt := topS 57
abbrev s_is_operation : Stmt := topS 63
abbrev s_law_taken : Stmt := topS 72
abbrev s_law_pick : Stmt := topS 73
abbrev s_law_some : Stmt := topS 74
abbrev s_law_editions : Stmt := topS 75
abbrev s_law_store : Stmt := topS 76
abbrev s_law_versions : Stmt := topS 77
abbrev s_law_names : Stmt := topS 78
abbrev s_law_edition : Stmt := topS 79
abbrev s_law_state : Stmt := topS 80
abbrev s_law_states : Stmt := topS 81
abbrev s_law_met : Stmt := topS 82
abbrev s_law_there : Stmt := topS 83
abbrev s_law_hostile : Stmt := topS 84
abbrev s_law_why : Stmt := topS 85
abbrev s_law_deeds : Stmt := topS 86
abbrev s_law_least_of : Stmt := topS 87
abbrev s_law_step : Stmt := topS 88
abbrev s_law_shows : Stmt := topS 89
abbrev s_law : Stmt := topS 90
abbrev s_Edition_init : Stmt := inClass (topS 20) 0
abbrev s_Store_init : Stmt := inClass (topS 70) 0
abbrev s_Store_names : Stmt := inClass (topS 70) 1
abbrev s_Store_contains : Stmt := inClass (topS 70) 4
abbrev s_Store_eq : Stmt := inClass (topS 70) 7
abbrev s_System_init : Stmt := inClass (topS 33) 0
abbrev s_System_states : Stmt := inClass (topS 33) 2
abbrev s_System_eq : Stmt := inClass (topS 33) 5
abbrev s_System_with_state : Stmt := inClass (topS 33) 6
abbrev s_Run_init : Stmt := inClass (topS 54) 0
abbrev s_Run_is_done : Stmt := inClass (topS 54) 1
abbrev s_Run_state_behind : Stmt := inClass (topS 54) 2
abbrev s_Run_unpacked_new : Stmt := inClass (topS 54) 3
abbrev s_Run_unpacked_over : Stmt := inClass (topS 54) 4
abbrev s_Run_is_left : Stmt := inClass (topS 54) 5
abbrev s_Run_given_up : Stmt := inClass (topS 54) 6
abbrev s_Run_put_back : Stmt := inClass (topS 54) 7
abbrev s_Run_set_up : Stmt := inClass (topS 54) 8
abbrev s_Run_removed : Stmt := inClass (topS 54) 9
abbrev s_Run_purged : Stmt := inClass (topS 54) 10
abbrev s_State_init : Stmt := inClass (topS 64) 1
abbrev s_State_all_three : Stmt := inClass (topS 64) 2
abbrev s_State_copied : Stmt := inClass (topS 64) 3
abbrev s_State_go_on : Stmt := inClass (topS 64) 4
abbrev s_State_go_back : Stmt := inClass (topS 64) 5
abbrev s_State_go_again : Stmt := inClass (topS 64) 6
abbrev s_Desk_init : Stmt := inClass (topS 65) 0
abbrev s_Desk_system : Stmt := inClass (topS 65) 2
abbrev s_Desk_call_count : Stmt := inClass (topS 65) 3
abbrev s_Desk_kept : Stmt := inClass (topS 65) 4
abbrev s_Desk_history : Stmt := inClass (topS 65) 5
abbrev s_Desk_act : Stmt := inClass (topS 65) 6
abbrev s_Desk_store_as : Stmt := inClass (topS 65) 8
abbrev s_Desk_fetch : Stmt := inClass (topS 65) 9
abbrev s_Desk_undo : Stmt := inClass (topS 65) 10
abbrev s_Desk_redo : Stmt := inClass (topS 65) 11
abbrev s_Desk_execute : Stmt := inClass (topS 65) 12
abbrev s_Desk_apply_all : Stmt := inClass (topS 65) 13
abbrev s_Desk_tried : Stmt := inClass (topS 65) 14
abbrev s_Trial_init : Stmt := inClass (topS 66) 0
abbrev s_Trial_hold : Stmt := inClass (topS 66) 1
abbrev s_Trial_enter : Stmt := inClass (topS 66) 2
abbrev s_Trial_exit : Stmt := inClass (topS 66) 3
abbrev s_Desk_replay : Stmt := inClass (topS 65) 1
abbrev a_is_number (K : PySem.W.Frag) : Addr := He.ga K "is_number"
abbrev a_is_word (K : PySem.W.Frag) : Addr := He.ga K "is_word"
abbrev a_is_rising (K : PySem.W.Frag) : Addr := He.ga K "is_rising"
abbrev a_is_need (K : PySem.W.Frag) : Addr := He.ga K "is_need"
abbrev a_is_state (K : PySem.W.Frag) : Addr := He.ga K "is_state"
abbrev a_edition_in (K : PySem.W.Frag) : Addr := He.ga K "edition_in"
abbrev a_is_there (K : PySem.W.Frag) : Addr := He.ga K "is_there"
abbrev a_is_met (K : PySem.W.Frag) : Addr := He.ga K "is_met"
abbrev a_lacking (K : PySem.W.Frag) : Addr := He.ga K "lacking"
abbrev a_hostile (K : PySem.W.Frag) : Addr := He.ga K "hostile"
abbrev a_is_sound (K : PySem.W.Frag) : Addr := He.ga K "is_sound"
abbrev a_unpack_refusal (K : PySem.W.Frag) : Addr := He.ga K "unpack_refusal"
abbrev a_setup_refusal (K : PySem.W.Frag) : Addr := He.ga K "setup_refusal"
abbrev a_remove_refusal (K : PySem.W.Frag) : Addr := He.ga K "remove_refusal"
abbrev a_refusal (K : PySem.W.Frag) : Addr := He.ga K "refusal"
abbrev a_executed (K : PySem.W.Frag) : Addr := He.ga K "executed"
abbrev a_need_begin (K : PySem.W.Frag) : Addr := He.ga K "need_begin"
abbrev a_run (K : PySem.W.Frag) : Addr := He.ga K "run"
abbrev a_is_operation (K : PySem.W.Frag) : Addr := He.ga K "is_operation"
abbrev a_law_taken (K : PySem.W.Frag) : Addr := He.ga K "_law_taken"
abbrev a_law_pick (K : PySem.W.Frag) : Addr := He.ga K "_law_pick"
abbrev a_law_some (K : PySem.W.Frag) : Addr := He.ga K "_law_some"
abbrev a_law_editions (K : PySem.W.Frag) : Addr := He.ga K "_law_editions"
abbrev a_law_store (K : PySem.W.Frag) : Addr := He.ga K "_law_store"
abbrev a_law_versions (K : PySem.W.Frag) : Addr := He.ga K "_law_versions"
abbrev a_law_names (K : PySem.W.Frag) : Addr := He.ga K "_law_names"
abbrev a_law_edition (K : PySem.W.Frag) : Addr := He.ga K "_law_edition"
abbrev a_law_state (K : PySem.W.Frag) : Addr := He.ga K "_law_state"
abbrev a_law_states (K : PySem.W.Frag) : Addr := He.ga K "_law_states"
abbrev a_law_met (K : PySem.W.Frag) : Addr := He.ga K "_law_met"
abbrev a_law_there (K : PySem.W.Frag) : Addr := He.ga K "_law_there"
abbrev a_law_hostile (K : PySem.W.Frag) : Addr := He.ga K "_law_hostile"
abbrev a_law_why (K : PySem.W.Frag) : Addr := He.ga K "_law_why"
abbrev a_law_deeds (K : PySem.W.Frag) : Addr := He.ga K "_law_deeds"
abbrev a_law_least_of (K : PySem.W.Frag) : Addr := He.ga K "_law_least_of"
abbrev a_law_step (K : PySem.W.Frag) : Addr := He.ga K "_law_step"
abbrev a_law_shows (K : PySem.W.Frag) : Addr := He.ga K "_law_shows"
abbrev a_law (K : PySem.W.Frag) : Addr := He.ga K "law"
abbrev a_Edition_init (K : PySem.W.Frag) : Addr := He.ma K (He.ga K "Edition") "__init__"
abbrev a_Store_init (K : PySem.W.Frag) : Addr := He.ma K (He.ga K "Store") "__init__"
abbrev a_Store_names (K : PySem.W.Frag) : Addr := pgA K "Store" "names"
abbrev a_Store_contains (K : PySem.W.Frag) : Addr := He.ma K (He.ga K "Store") "__contains__"
abbrev a_Store_eq (K : PySem.W.Frag) : Addr := He.ma K (He.ga K "Store") "__eq__"
abbrev a_System_init (K : PySem.W.Frag) : Addr := He.ma K (He.ga K "System") "__init__"
abbrev a_System_states (K : PySem.W.Frag) : Addr := pgA K "System" "states"
abbrev a_System_eq (K : PySem.W.Frag) : Addr := He.ma K (He.ga K "System") "__eq__"
abbrev a_System_with_state (K : PySem.W.Frag) : Addr := He.ma K (He.ga K "System") "with_state"
abbrev a_Run_init (K : PySem.W.Frag) : Addr := He.ma K (He.ga K "Run") "__init__"
abbrev a_Run_is_done (K : PySem.W.Frag) : Addr := He.ma K (He.ga K "Run") "is_done"
abbrev a_Run_state_behind (K : PySem.W.Frag) : Addr := He.ma K (He.ga K "Run") "state_behind"
abbrev a_Run_unpacked_new (K : PySem.W.Frag) : Addr := He.ma K (He.ga K "Run") "unpacked_new"
abbrev a_Run_unpacked_over (K : PySem.W.Frag) : Addr := He.ma K (He.ga K "Run") "unpacked_over"
abbrev a_Run_is_left (K : PySem.W.Frag) : Addr := He.ma K (He.ga K "Run") "is_left"
abbrev a_Run_given_up (K : PySem.W.Frag) : Addr := He.ma K (He.ga K "Run") "given_up"
abbrev a_Run_put_back (K : PySem.W.Frag) : Addr := He.ma K (He.ga K "Run") "put_back"
abbrev a_Run_set_up (K : PySem.W.Frag) : Addr := He.ma K (He.ga K "Run") "set_up"
abbrev a_Run_removed (K : PySem.W.Frag) : Addr := He.ma K (He.ga K "Run") "removed"
abbrev a_Run_purged (K : PySem.W.Frag) : Addr := He.ma K (He.ga K "Run") "purged"
abbrev a_State_init (K : PySem.W.Frag) : Addr := He.ma K (He.ga K "State") "__init__"
abbrev a_State_all_three (K : PySem.W.Frag) : Addr := He.ma K (He.ga K "State") "all_three"
abbrev a_State_copied (K : PySem.W.Frag) : Addr := He.ma K (He.ga K "State") "copied"
abbrev a_State_go_on (K : PySem.W.Frag) : Addr := He.ma K (He.ga K "State") "go_on"
abbrev a_State_go_back (K : PySem.W.Frag) : Addr := He.ma K (He.ga K "State") "go_back"
abbrev a_State_go_again (K : PySem.W.Frag) : Addr := He.ma K (He.ga K "State") "go_again"
abbrev a_Desk_init (K : PySem.W.Frag) : Addr := He.ma K (He.ga K "Desk") "__init__"
abbrev a_Desk_system (K : PySem.W.Frag) : Addr := pgA K "Desk" "system"
abbrev a_Desk_call_count (K : PySem.W.Frag) : Addr := pgA K "Desk" "call_count"
abbrev a_Desk_kept (K : PySem.W.Frag) : Addr := pgA K "Desk" "kept"
abbrev a_Desk_history (K : PySem.W.Frag) : Addr := pgA K "Desk" "history"
abbrev a_Desk_act (K : PySem.W.Frag) : Addr := He.ma K (He.ga K "Desk") "act"
abbrev a_Desk_store_as (K : PySem.W.Frag) : Addr := He.ma K (He.ga K "Desk") "store_as"
abbrev a_Desk_fetch (K : PySem.W.Frag) : Addr := He.ma K (He.ga K "Desk") "fetch"
abbrev a_Desk_undo (K : PySem.W.Frag) : Addr := He.ma K (He.ga K "Desk") "undo"
abbrev a_Desk_redo (K : PySem.W.Frag) : Addr := He.ma K (He.ga K "Desk") "redo"
abbrev a_Desk_execute (K : PySem.W.Frag) : Addr := He.ma K (He.ga K "Desk") "execute"
abbrev a_Desk_apply_all (K : PySem.W.Frag) : Addr := He.ma K (He.ga K "Desk") "apply_all"
abbrev a_Desk_tried (K : PySem.W.Frag) : Addr := He.ma K (He.ga K "Desk") "tried"
abbrev a_Trial_init (K : PySem.W.Frag) : Addr := He.ma K (He.ga K "Trial") "__init__"
abbrev a_Trial_hold (K : PySem.W.Frag) : Addr := He.ma K (He.ga K "Trial") "hold"
abbrev a_Trial_enter (K : PySem.W.Frag) : Addr := He.ma K (He.ga K "Trial") "__enter__"
abbrev a_Trial_exit (K : PySem.W.Frag) : Addr := He.ma K (He.ga K "Trial") "__exit__"
abbrev a_Desk_replay (K : PySem.W.Frag) : Addr := He5.wf K (He.ga K "Desk") "classmethod" "replay"
abbrev C_Edition (K : PySem.W.Frag) : Addr := He.ga K "Edition"
abbrev C_Store (K : PySem.W.Frag) : Addr := He.ga K "Store"
abbrev C_System (K : PySem.W.Frag) : Addr := He.ga K "System"
abbrev C_Run (K : PySem.W.Frag) : Addr := He.ga K "Run"
abbrev C_State (K : PySem.W.Frag) : Addr := He.ga K "State"
abbrev C_Desk (K : PySem.W.Frag) : Addr := He.ga K "Desk"
abbrev C_Trial (K : PySem.W.Frag) : Addr := He.ga K "Trial"
/-- a tuple of the written part -/
def KTup (K : PySem.W.Frag) (x : Str) (vs : List V) : Prop := ∀ S H, ST S K H (He.ga K x) vs
structure Tx (K : PySem.W.Frag) (mg : Str → Option Value) : Prop where
  f_is_number : ∃ fd, FunD K "is_number" "is_number" (defArgs s_is_number) (defBody s_is_number) (defScope s_is_number) [] [] (a_is_number K) fd
  f_is_word : ∃ fd, FunD K "is_word" "is_word" (defArgs s_is_word) (defBody s_is_word) (defScope s_is_word) [] [] (a_is_word K) fd
  f_is_rising : ∃ fd, FunD K "is_rising" "is_rising" (defArgs s_is_rising) (defBody s_is_rising) (defScope s_is_rising) [] [] (a_is_rising K) fd
  f_is_need : ∃ fd, FunD K "is_need" "is_need" (defArgs s_is_need) (defBody s_is_need) (defScope s_is_need) [] [] (a_is_need K) fd
  f_is_state : ∃ fd, FunD K "is_state" "is_state" (defArgs s_is_state) (defBody s_is_state) (defScope s_is_state) [] [] (a_is_state K) fd
  f_edition_in : ∃ fd, FunD K "edition_in" "edition_in" (defArgs s_edition_in) (defBody s_edition_in) (defScope s_edition_in) [] [] (a_edition_in K) fd
  f_is_there : ∃ fd, FunD K "is_there" "is_there" (defArgs s_is_there) (defBody s_is_there) (defScope s_is_there) [] [] (a_is_there K) fd
  f_is_met : ∃ fd, FunD K "is_met" "is_met" (defArgs s_is_met) (defBody s_is_met) (defScope s_is_met) [] [] (a_is_met K) fd
  f_lacking : ∃ fd, FunD K "lacking" "lacking" (defArgs s_lacking) (defBody s_lacking) (defScope s_lacking) [] [] (a_lacking K) fd
  f_hostile : ∃ fd, FunD K "hostile" "hostile" (defArgs s_hostile) (defBody s_hostile) (defScope s_hostile) [] [] (a_hostile K) fd
  f_is_sound : ∃ fd, FunD K "is_sound" "is_sound" (defArgs s_is_sound) (defBody s_is_sound) (defScope s_is_sound) [] [] (a_is_sound K) fd
  f_unpack_refusal : ∃ fd, FunD K "unpack_refusal" "unpack_refusal" (defArgs s_unpack_refusal) (defBody s_unpack_refusal) (defScope s_unpack_refusal) [] [] (a_unpack_refusal K) fd
  f_setup_refusal : ∃ fd, FunD K "setup_refusal" "setup_refusal" (defArgs s_setup_refusal) (defBody s_setup_refusal) (defScope s_setup_refusal) [] [] (a_setup_refusal K) fd
  f_remove_refusal : ∃ fd, FunD K "remove_refusal" "remove_refusal" (defArgs s_remove_refusal) (defBody s_remove_refusal) (defScope s_remove_refusal) [] [] (a_remove_refusal K) fd
  f_refusal : ∃ fd, FunD K "refusal" "refusal" (defArgs s_refusal) (defBody s_refusal) (defScope s_refusal) [] [] (a_refusal K) fd
  f_executed : ∃ fd, FunD K "executed" "executed" (defArgs s_executed) (defBody s_executed) (defScope s_executed) [] [] (a_executed K) fd
  f_need_begin : ∃ fd, FunD K "need_begin" "need_begin" (defArgs s_need_begin) (defBody s_need_begin) (defScope s_need_begin) [] [] (a_need_begin K) fd
  f_run : ∃ fd, FunD K "run" "run" (defArgs s_run) (defBody s_run) (defScope s_run) [] [] (a_run K) fd
  f_is_operation : ∃ fd, FunD K "is_operation" "is_operation" (defArgs s_is_operation) (defBody s_is_operation) (defScope s_is_operation) [] [] (a_is_operation K) fd
  f_law_taken : ∃ fd, FunD K "_law_taken" "_law_taken" (defArgs s_law_taken) (defBody s_law_taken) (defScope s_law_taken) [] [] (a_law_taken K) fd
  f_law_pick : ∃ fd, FunD K "_law_pick" "_law_pick" (defArgs s_law_pick) (defBody s_law_pick) (defScope s_law_pick) [] [] (a_law_pick K) fd
  f_law_some : ∃ fd, FunD K "_law_some" "_law_some" (defArgs s_law_some) (defBody s_law_some) (defScope s_law_some) [] [] (a_law_some K) fd
  f_law_editions : ∃ fd, FunD K "_law_editions" "_law_editions" (defArgs s_law_editions) (defBody s_law_editions) (defScope s_law_editions) [] [] (a_law_editions K) fd
  f_law_store : ∃ fd, FunD K "_law_store" "_law_store" (defArgs s_law_store) (defBody s_law_store) (defScope s_law_store) [] [] (a_law_store K) fd
  f_law_versions : ∃ fd, FunD K "_law_versions" "_law_versions" (defArgs s_law_versions) (defBody s_law_versions) (defScope s_law_versions) [] [] (a_law_versions K) fd
  f_law_names : ∃ fd, FunD K "_law_names" "_law_names" (defArgs s_law_names) (defBody s_law_names) (defScope s_law_names) [] [] (a_law_names K) fd
  f_law_edition : ∃ fd, FunD K "_law_edition" "_law_edition" (defArgs s_law_edition) (defBody s_law_edition) (defScope s_law_edition) [] [] (a_law_edition K) fd
  f_law_state : ∃ fd, FunD K "_law_state" "_law_state" (defArgs s_law_state) (defBody s_law_state) (defScope s_law_state) [] [] (a_law_state K) fd
  f_law_states : ∃ fd, FunD K "_law_states" "_law_states" (defArgs s_law_states) (defBody s_law_states) (defScope s_law_states) [] [] (a_law_states K) fd
  f_law_met : ∃ fd, FunD K "_law_met" "_law_met" (defArgs s_law_met) (defBody s_law_met) (defScope s_law_met) [] [] (a_law_met K) fd
  f_law_there : ∃ fd, FunD K "_law_there" "_law_there" (defArgs s_law_there) (defBody s_law_there) (defScope s_law_there) [] [] (a_law_there K) fd
  f_law_hostile : ∃ fd, FunD K "_law_hostile" "_law_hostile" (defArgs s_law_hostile) (defBody s_law_hostile) (defScope s_law_hostile) [] [] (a_law_hostile K) fd
  f_law_why : ∃ fd, FunD K "_law_why" "_law_why" (defArgs s_law_why) (defBody s_law_why) (defScope s_law_why) [] [] (a_law_why K) fd
  f_law_deeds : ∃ fd, FunD K "_law_deeds" "_law_deeds" (defArgs s_law_deeds) (defBody s_law_deeds) (defScope s_law_deeds) [] [] (a_law_deeds K) fd
  f_law_least_of : ∃ fd, FunD K "_law_least_of" "_law_least_of" (defArgs s_law_least_of) (defBody s_law_least_of) (defScope s_law_least_of) [] [] (a_law_least_of K) fd
  f_law_step : ∃ fd, FunD K "_law_step" "_law_step" (defArgs s_law_step) (defBody s_law_step) (defScope s_law_step) [] [] (a_law_step K) fd
  f_law_shows : ∃ fd, FunD K "_law_shows" "_law_shows" (defArgs s_law_shows) (defBody s_law_shows) (defScope s_law_shows) [] [] (a_law_shows K) fd
  f_law : ∃ fd, FunD K "law" "law" (defArgs s_law) (defBody s_law) (defScope s_law) [] [] (a_law K) fd
  f_Edition_init : ∃ fd, FunD K "__init__" "Edition.__init__" (defArgs s_Edition_init) (defBody s_Edition_init) (defScope s_Edition_init) [] [("scripts", .ref (He.ga K "SCRIPTS"))] (a_Edition_init K) fd
  f_Store_init : ∃ fd, FunD K "__init__" "Store.__init__" (defArgs s_Store_init) (defBody s_Store_init) (defScope s_Store_init) [] [] (a_Store_init K) fd
  f_Store_names : ∃ fd, FunD K "names" "Store.names" (defArgs s_Store_names) (defBody s_Store_names) (defScope s_Store_names) [] [] (a_Store_names K) fd
  f_Store_contains : ∃ fd, FunD K "__contains__" "Store.__contains__" (defArgs s_Store_contains) (defBody s_Store_contains) (defScope s_Store_contains) [] [] (a_Store_contains K) fd
  f_Store_eq : ∃ fd, FunD K "__eq__" "Store.__eq__" (defArgs s_Store_eq) (defBody s_Store_eq) (defScope s_Store_eq) [] [] (a_Store_eq K) fd
  f_System_init : ∃ fd, FunD K "__init__" "System.__init__" (defArgs s_System_init) (defBody s_System_init) (defScope s_System_init) [] [] (a_System_init K) fd
  f_System_states : ∃ fd, FunD K "states" "System.states" (defArgs s_System_states) (defBody s_System_states) (defScope s_System_states) [] [] (a_System_states K) fd
  f_System_eq : ∃ fd, FunD K "__eq__" "System.__eq__" (defArgs s_System_eq) (defBody s_System_eq) (defScope s_System_eq) [] [] (a_System_eq K) fd
  f_System_with_state : ∃ fd, FunD K "with_state" "System.with_state" (defArgs s_System_with_state) (defBody s_System_with_state) (defScope s_System_with_state) [] [] (a_System_with_state K) fd
  f_Run_init : ∃ fd, FunD K "__init__" "Run.__init__" (defArgs s_Run_init) (defBody s_Run_init) (defScope s_Run_init) [] [] (a_Run_init K) fd
  f_Run_is_done : ∃ fd, FunD K "is_done" "Run.is_done" (defArgs s_Run_is_done) (defBody s_Run_is_done) (defScope s_Run_is_done) [] [] (a_Run_is_done K) fd
  f_Run_state_behind : ∃ fd, FunD K "state_behind" "Run.state_behind" (defArgs s_Run_state_behind) (defBody s_Run_state_behind) (defScope s_Run_state_behind) [] [] (a_Run_state_behind K) fd
  f_Run_unpacked_new : ∃ fd, FunD K "unpacked_new" "Run.unpacked_new" (defArgs s_Run_unpacked_new) (defBody s_Run_unpacked_new) (defScope s_Run_unpacked_new) [] [] (a_Run_unpacked_new K) fd
  f_Run_unpacked_over : ∃ fd, FunD K "unpacked_over" "Run.unpacked_over" (defArgs s_Run_unpacked_over) (defBody s_Run_unpacked_over) (defScope s_Run_unpacked_over) [] [] (a_Run_unpacked_over K) fd
  f_Run_is_left : ∃ fd, FunD K "is_left" "Run.is_left" (defArgs s_Run_is_left) (defBody s_Run_is_left) (defScope s_Run_is_left) [] [] (a_Run_is_left K) fd
  f_Run_given_up : ∃ fd, FunD K "given_up" "Run.given_up" (defArgs s_Run_given_up) (defBody s_Run_given_up) (defScope s_Run_given_up) [] [] (a_Run_given_up K) fd
  f_Run_put_back : ∃ fd, FunD K "put_back" "Run.put_back" (defArgs s_Run_put_back) (defBody s_Run_put_back) (defScope s_Run_put_back) [] [] (a_Run_put_back K) fd
  f_Run_set_up : ∃ fd, FunD K "set_up" "Run.set_up" (defArgs s_Run_set_up) (defBody s_Run_set_up) (defScope s_Run_set_up) [] [] (a_Run_set_up K) fd
  f_Run_removed : ∃ fd, FunD K "removed" "Run.removed" (defArgs s_Run_removed) (defBody s_Run_removed) (defScope s_Run_removed) [] [] (a_Run_removed K) fd
  f_Run_purged : ∃ fd, FunD K "purged" "Run.purged" (defArgs s_Run_purged) (defBody s_Run_purged) (defScope s_Run_purged) [] [] (a_Run_purged K) fd
  f_State_init : ∃ fd, FunD K "__init__" "State.__init__" (defArgs s_State_init) (defBody s_State_init) (defScope s_State_init) [] [] (a_State_init K) fd
  f_State_all_three : ∃ fd, FunD K "all_three" "State.all_three" (defArgs s_State_all_three) (defBody s_State_all_three) (defScope s_State_all_three) [] [] (a_State_all_three K) fd
  f_State_copied : ∃ fd, FunD K "copied" "State.copied" (defArgs s_State_copied) (defBody s_State_copied) (defScope s_State_copied) [] [] (a_State_copied K) fd
  f_State_go_on : ∃ fd, FunD K "go_on" "State.go_on" (defArgs s_State_go_on) (defBody s_State_go_on) (defScope s_State_go_on) [] [] (a_State_go_on K) fd
  f_State_go_back : ∃ fd, FunD K "go_back" "State.go_back" (defArgs s_State_go_back) (defBody s_State_go_back) (defScope s_State_go_back) [] [] (a_State_go_back K) fd
  f_State_go_again : ∃ fd, FunD K "go_again" "State.go_again" (defArgs s_State_go_again) (defBody s_State_go_again) (defScope s_State_go_again) [] [] (a_State_go_again K) fd
  f_Desk_init : ∃ fd, FunD K "__init__" "Desk.__init__" (defArgs s_Desk_init) (defBody s_Desk_init) (defScope s_Desk_init) [] [] (a_Desk_init K) fd
  f_Desk_system : ∃ fd, FunD K "system" "Desk.system" (defArgs s_Desk_system) (defBody s_Desk_system) (defScope s_Desk_system) [] [] (a_Desk_system K) fd
  f_Desk_call_count : ∃ fd, FunD K "call_count" "Desk.call_count" (defArgs s_Desk_call_count) (defBody s_Desk_call_count) (defScope s_Desk_call_count) [] [] (a_Desk_call_count K) fd
  f_Desk_kept : ∃ fd, FunD K "kept" "Desk.kept" (defArgs s_Desk_kept) (defBody s_Desk_kept) (defScope s_Desk_kept) [] [] (a_Desk_kept K) fd
  f_Desk_history : ∃ fd, FunD K "history" "Desk.history" (defArgs s_Desk_history) (defBody s_Desk_history) (defScope s_Desk_history) [] [] (a_Desk_history K) fd
  f_Desk_act : ∃ fd, FunD K "act" "Desk.act" (defArgs s_Desk_act) (defBody s_Desk_act) (defScope s_Desk_act) [] [] (a_Desk_act K) fd
  f_Desk_store_as : ∃ fd, FunD K "store_as" "Desk.store_as" (defArgs s_Desk_store_as) (defBody s_Desk_store_as) (defScope s_Desk_store_as) [] [] (a_Desk_store_as K) fd
  f_Desk_fetch : ∃ fd, FunD K "fetch" "Desk.fetch" (defArgs s_Desk_fetch) (defBody s_Desk_fetch) (defScope s_Desk_fetch) [] [] (a_Desk_fetch K) fd
  f_Desk_undo : ∃ fd, FunD K "undo" "Desk.undo" (defArgs s_Desk_undo) (defBody s_Desk_undo) (defScope s_Desk_undo) [] [] (a_Desk_undo K) fd
  f_Desk_redo : ∃ fd, FunD K "redo" "Desk.redo" (defArgs s_Desk_redo) (defBody s_Desk_redo) (defScope s_Desk_redo) [] [] (a_Desk_redo K) fd
  f_Desk_execute : ∃ fd, FunD K "execute" "Desk.execute" (defArgs s_Desk_execute) (defBody s_Desk_execute) (defScope s_Desk_execute) [] [] (a_Desk_execute K) fd
  f_Desk_apply_all : ∃ fd, FunD K "apply_all" "Desk.apply_all" (defArgs s_Desk_apply_all) (defBody s_Desk_apply_all) (defScope s_Desk_apply_all) [] [] (a_Desk_apply_all K) fd
  f_Desk_tried : ∃ fd, FunD K "tried" "Desk.tried" (defArgs s_Desk_tried) (defBody s_Desk_tried) (defScope s_Desk_tried) [] [] (a_Desk_tried K) fd
  f_Trial_init : ∃ fd, FunD K "__init__" "Trial.__init__" (defArgs s_Trial_init) (defBody s_Trial_init) (defScope s_Trial_init) [] [] (a_Trial_init K) fd
  f_Trial_hold : ∃ fd, FunD K "hold" "Trial.hold" (defArgs s_Trial_hold) (defBody s_Trial_hold) (defScope s_Trial_hold) [] [] (a_Trial_hold K) fd
  f_Trial_enter : ∃ fd, FunD K "__enter__" "Trial.__enter__" (defArgs s_Trial_enter) (defBody s_Trial_enter) (defScope s_Trial_enter) [] [] (a_Trial_enter K) fd
  f_Trial_exit : ∃ fd, FunD K "__exit__" "Trial.__exit__" (defArgs s_Trial_exit) (defBody s_Trial_exit) (defScope s_Trial_exit) [] [] (a_Trial_exit K) fd
  f_Desk_replay : ∃ fd, FunD K "replay" "Desk.replay" (defArgs s_Desk_replay) (defBody s_Desk_replay) (defScope s_Desk_replay) [] [] (a_Desk_replay K) fd
  g_is_number : mg "is_number" = some (.ref (He.ga K "is_number"))
  g_is_word : mg "is_word" = some (.ref (He.ga K "is_word"))
  g_is_rising : mg "is_rising" = some (.ref (He.ga K "is_rising"))
  g_is_need : mg "is_need" = some (.ref (He.ga K "is_need"))
  g_is_state : mg "is_state" = some (.ref (He.ga K "is_state"))
  g_edition_in : mg "edition_in" = some (.ref (He.ga K "edition_in"))
  g_is_there : mg "is_there" = some (.ref (He.ga K "is_there"))
  g_is_met : mg "is_met" = some (.ref (He.ga K "is_met"))
  g_lacking : mg "lacking" = some (.ref (He.ga K "lacking"))
  g_hostile : mg "hostile" = some (.ref (He.ga K "hostile"))
  g_is_sound : mg "is_sound" = some (.ref (He.ga K "is_sound"))
  g_unpack_refusal : mg "unpack_refusal" = some (.ref (He.ga K "unpack_refusal"))
  g_setup_refusal : mg "setup_refusal" = some (.ref (He.ga K "setup_refusal"))
  g_remove_refusal : mg "remove_refusal" = some (.ref (He.ga K "remove_refusal"))
  g_refusal : mg "refusal" = some (.ref (He.ga K "refusal"))
  g_executed : mg "executed" = some (.ref (He.ga K "executed"))
  g_need_begin : mg "need_begin" = some (.ref (He.ga K "need_begin"))
  g_run : mg "run" = some (.ref (He.ga K "run"))
  g_is_operation : mg "is_operation" = some (.ref (He.ga K "is_operation"))
  g__law_taken : mg "_law_taken" = some (.ref (He.ga K "_law_taken"))
  g__law_pick : mg "_law_pick" = some (.ref (He.ga K "_law_pick"))
  g__law_some : mg "_law_some" = some (.ref (He.ga K "_law_some"))
  g__law_editions : mg "_law_editions" = some (.ref (He.ga K "_law_editions"))
  g__law_store : mg "_law_store" = some (.ref (He.ga K "_law_store"))
  g__law_versions : mg "_law_versions" = some (.ref (He.ga K "_law_versions"))
  g__law_names : mg "_law_names" = some (.ref (He.ga K "_law_names"))
  g__law_edition : mg "_law_edition" = some (.ref (He.ga K "_law_edition"))
  g__law_state : mg "_law_state" = some (.ref (He.ga K "_law_state"))
  g__law_states : mg "_law_states" = some (.ref (He.ga K "_law_states"))
  g__law_met : mg "_law_met" = some (.ref (He.ga K "_law_met"))
  g__law_there : mg "_law_there" = some (.ref (He.ga K "_law_there"))
  g__law_hostile : mg "_law_hostile" = some (.ref (He.ga K "_law_hostile"))
  g__law_why : mg "_law_why" = some (.ref (He.ga K "_law_why"))
  g__law_deeds : mg "_law_deeds" = some (.ref (He.ga K "_law_deeds"))
  g__law_least_of : mg "_law_least_of" = some (.ref (He.ga K "_law_least_of"))
  g__law_step : mg "_law_step" = some (.ref (He.ga K "_law_step"))
  g__law_shows : mg "_law_shows" = some (.ref (He.ga K "_law_shows"))
  g_law : mg "law" = some (.ref (He.ga K "law"))
  g_NOTHING : mg "NOTHING" = some (.ref (He.ga K "NOTHING"))
  g_THERE : mg "THERE" = some (.ref (He.ga K "THERE"))
  g_SCRIPTS : mg "SCRIPTS" = some (.ref (He.ga K "SCRIPTS"))
  g_STATUSES : mg "STATUSES" = some (.ref (He.ga K "STATUSES"))
  g_Edition : mg "Edition" = some (.ref (He.ga K "Edition"))
  g_Store : mg "Store" = some (.ref (He.ga K "Store"))
  g_System : mg "System" = some (.ref (He.ga K "System"))
  g_Run : mg "Run" = some (.ref (He.ga K "Run"))
  g_State : mg "State" = some (.ref (He.ga K "State"))
  g_Desk : mg "Desk" = some (.ref (He.ga K "Desk"))
  g_Trial : mg "Trial" = some (.ref (He.ga K "Trial"))
  g_SIZES : mg "SIZES" = some (.ref (He.ga K "SIZES"))
  k_is_number : PySem.W.keepIn K (.ref (He.ga K "is_number")) = true
  k_is_word : PySem.W.keepIn K (.ref (He.ga K "is_word")) = true
  k_is_rising : PySem.W.keepIn K (.ref (He.ga K "is_rising")) = true
  k_is_need : PySem.W.keepIn K (.ref (He.ga K "is_need")) = true
  k_is_state : PySem.W.keepIn K (.ref (He.ga K "is_state")) = true
  k_edition_in : PySem.W.keepIn K (.ref (He.ga K "edition_in")) = true
  k_is_there : PySem.W.keepIn K (.ref (He.ga K "is_there")) = true
  k_is_met : PySem.W.keepIn K (.ref (He.ga K "is_met")) = true
  k_lacking : PySem.W.keepIn K (.ref (He.ga K "lacking")) = true
  k_hostile : PySem.W.keepIn K (.ref (He.ga K "hostile")) = true
  k_is_sound : PySem.W.keepIn K (.ref (He.ga K "is_sound")) = true
  k_unpack_refusal : PySem.W.keepIn K (.ref (He.ga K "unpack_refusal")) = true
  k_setup_refusal : PySem.W.keepIn K (.ref (He.ga K "setup_refusal")) = true
  k_remove_refusal : PySem.W.keepIn K (.ref (He.ga K "remove_refusal")) = true
  k_refusal : PySem.W.keepIn K (.ref (He.ga K "refusal")) = true
  k_executed : PySem.W.keepIn K (.ref (He.ga K "executed")) = true
  k_need_begin : PySem.W.keepIn K (.ref (He.ga K "need_begin")) = true
  k_run : PySem.W.keepIn K (.ref (He.ga K "run")) = true
  k_is_operation : PySem.W.keepIn K (.ref (He.ga K "is_operation")) = true
  k__law_taken : PySem.W.keepIn K (.ref (He.ga K "_law_taken")) = true
  k__law_pick : PySem.W.keepIn K (.ref (He.ga K "_law_pick")) = true
  k__law_some : PySem.W.keepIn K (.ref (He.ga K "_law_some")) = true
  k__law_editions : PySem.W.keepIn K (.ref (He.ga K "_law_editions")) = true
  k__law_store : PySem.W.keepIn K (.ref (He.ga K "_law_store")) = true
  k__law_versions : PySem.W.keepIn K (.ref (He.ga K "_law_versions")) = true
  k__law_names : PySem.W.keepIn K (.ref (He.ga K "_law_names")) = true
  k__law_edition : PySem.W.keepIn K (.ref (He.ga K "_law_edition")) = true
  k__law_state : PySem.W.keepIn K (.ref (He.ga K "_law_state")) = true
  k__law_states : PySem.W.keepIn K (.ref (He.ga K "_law_states")) = true
  k__law_met : PySem.W.keepIn K (.ref (He.ga K "_law_met")) = true
  k__law_there : PySem.W.keepIn K (.ref (He.ga K "_law_there")) = true
  k__law_hostile : PySem.W.keepIn K (.ref (He.ga K "_law_hostile")) = true
  k__law_why : PySem.W.keepIn K (.ref (He.ga K "_law_why")) = true
  k__law_deeds : PySem.W.keepIn K (.ref (He.ga K "_law_deeds")) = true
  k__law_least_of : PySem.W.keepIn K (.ref (He.ga K "_law_least_of")) = true
  k__law_step : PySem.W.keepIn K (.ref (He.ga K "_law_step")) = true
  k__law_shows : PySem.W.keepIn K (.ref (He.ga K "_law_shows")) = true
  k_law : PySem.W.keepIn K (.ref (He.ga K "law")) = true
  s_ABSENT : ∃ t, mg "ABSENT" = some (.str "absent" t)
  s_FAILED : ∃ t, mg "FAILED" = some (.str "failed" t)
  s_HALF : ∃ t, mg "HALF" = some (.str "half" t)
  s_LEFT : ∃ t, mg "LEFT" = some (.str "left" t)
  s_READY : ∃ t, mg "READY" = some (.str "ready" t)
  s_UNPACKED : ∃ t, mg "UNPACKED" = some (.str "unpacked" t)
  s_UNPACK : ∃ t, mg "UNPACK" = some (.str "unpack" t)
  s_SETUP : ∃ t, mg "SETUP" = some (.str "setup" t)
  s_REMOVE : ∃ t, mg "REMOVE" = some (.str "remove" t)
  s_PURGE : ∃ t, mg "PURGE" = some (.str "purge" t)
  s_CLEAN : ∃ t, mg "CLEAN" = some (.str "clean" t)
  s_ENTER : ∃ t, mg "ENTER" = some (.str "enter" t)
  s_LEAVE : ∃ t, mg "LEAVE" = some (.str "leave" t)
  s_LETTERS : ∃ t, mg "LETTERS" = some (.str "abcdefghijklmnopqrstuvwxyz" t)
  i_MOST_LETTERS : ∃ t, mg "MOST_LETTERS" = some (.int 8 t)
  i_MOST_VERSION : ∃ t, mg "MOST_VERSION" = some (.int 99 t)
  i_MOST_EDITIONS : ∃ t, mg "MOST_EDITIONS" = some (.int 12 t)
  i_MOST_NAMES : ∃ t, mg "MOST_NAMES" = some (.int 4 t)
  v_NOTHING : KTup K "NOTHING" [.str "absent", .int 0, .int 0]
  v_THERE : KTup K "THERE" [.str "failed", .str "half", .str "ready", .str "unpacked"]
  v_SCRIPTS : KTup K "SCRIPTS" [.str "clean", .str "enter", .str "leave", .str "setup"]
  v_STATUSES : KTup K "STATUSES" [.str "absent", .str "failed", .str "half", .str "left", .str "ready", .str "unpacked"]
  n_len : mg "len" = none
  n_sorted : mg "sorted" = none
  n_min : mg "min" = none
  n_all : mg "all" = none
  n_isinstance : mg "isinstance" = none
  n_list : mg "list" = none
  n_tuple : mg "tuple" = none
  n_dict : mg "dict" = none
  n_set : mg "set" = none
  n_int : mg "int" = none
  n_bool : mg "bool" = none
  n_str : mg "str" = none
  n_range : mg "range" = none
  n_enumerate : mg "enumerate" = none
  c_Edition : Cls K (C_Edition K)
  mk_Edition : Mk K (C_Edition K) (a_Edition_init K)
  na_Edition_label : NoAttr K (C_Edition K) "label"
  na_Edition_number : NoAttr K (C_Edition K) "number"
  na_Edition_has : NoAttr K (C_Edition K) "has"
  na_Edition_wants : NoAttr K (C_Edition K) "wants"
  na_Edition_asks : NoAttr K (C_Edition K) "asks"
  na_Edition_shuns : NoAttr K (C_Edition K) "shuns"
  c_Store : Cls K (C_Store K)
  mk_Store : Mk K (C_Store K) (a_Store_init K)
  na_Store_known : NoAttr K (C_Store K) "known"
  p_Store_names : PropOf K (C_Store K) "names" (He.ma K (C_Store K) "names") (a_Store_names K)
  c_System : Cls K (C_System K)
  mk_System : Mk K (C_System K) (a_System_init K)
  na_System_base : NoAttr K (C_System K) "base"
  na_System_rows : NoAttr K (C_System K) "rows"
  m_System_with_state : Meth K (C_System K) "with_state" (a_System_with_state K)
  p_System_states : PropOf K (C_System K) "states" (He.ma K (C_System K) "states") (a_System_states K)
  c_Run : Cls K (C_Run K)
  mk_Run : Mk K (C_Run K) (a_Run_init K)
  na_Run_base : NoAttr K (C_Run K) "base"
  na_Run_fails : NoAttr K (C_Run K) "fails"
  na_Run_made : NoAttr K (C_Run K) "made"
  m_Run_is_done : Meth K (C_Run K) "is_done" (a_Run_is_done K)
  m_Run_state_behind : Meth K (C_Run K) "state_behind" (a_Run_state_behind K)
  m_Run_unpacked_new : Meth K (C_Run K) "unpacked_new" (a_Run_unpacked_new K)
  m_Run_unpacked_over : Meth K (C_Run K) "unpacked_over" (a_Run_unpacked_over K)
  m_Run_is_left : Meth K (C_Run K) "is_left" (a_Run_is_left K)
  m_Run_given_up : Meth K (C_Run K) "given_up" (a_Run_given_up K)
  m_Run_put_back : Meth K (C_Run K) "put_back" (a_Run_put_back K)
  m_Run_set_up : Meth K (C_Run K) "set_up" (a_Run_set_up K)
  m_Run_removed : Meth K (C_Run K) "removed" (a_Run_removed K)
  m_Run_purged : Meth K (C_Run K) "purged" (a_Run_purged K)
  mk_State : Mk K (C_State K) (a_State_init K)
  m_State_all_three : Meth K (C_State K) "all_three" (a_State_all_three K)
  m_State_copied : Meth K (C_State K) "copied" (a_State_copied K)
  m_State_go_on : Meth K (C_State K) "go_on" (a_State_go_on K)
  m_State_go_back : Meth K (C_State K) "go_back" (a_State_go_back K)
  m_State_go_again : Meth K (C_State K) "go_again" (a_State_go_again K)
  c_Desk : Cls K (C_Desk K)
  mk_Desk : Mk K (C_Desk K) (a_Desk_init K)
  na_Desk_state : NoAttr K (C_Desk K) "state"
  m_Desk_act : Meth K (C_Desk K) "act" (a_Desk_act K)
  m_Desk_store_as : Meth K (C_Desk K) "store_as" (a_Desk_store_as K)
  m_Desk_fetch : Meth K (C_Desk K) "fetch" (a_Desk_fetch K)
  m_Desk_undo : Meth K (C_Desk K) "undo" (a_Desk_undo K)
  m_Desk_redo : Meth K (C_Desk K) "redo" (a_Desk_redo K)
  m_Desk_execute : Meth K (C_Desk K) "execute" (a_Desk_execute K)
  m_Desk_apply_all : Meth K (C_Desk K) "apply_all" (a_Desk_apply_all K)
  m_Desk_tried : Meth K (C_Desk K) "tried" (a_Desk_tried K)
  p_Desk_system : PropOf K (C_Desk K) "system" (He.ma K (C_Desk K) "system") (a_Desk_system K)
  p_Desk_call_count : PropOf K (C_Desk K) "call_count" (He.ma K (C_Desk K) "call_count") (a_Desk_call_count K)
  p_Desk_kept : PropOf K (C_Desk K) "kept" (He.ma K (C_Desk K) "kept") (a_Desk_kept K)
  p_Desk_history : PropOf K (C_Desk K) "history" (He.ma K (C_Desk K) "history") (a_Desk_history K)
  c_Trial : Cls K (C_Trial K)
  mk_Trial : Mk K (C_Trial K) (a_Trial_init K)
  na_Trial_tested_desk : NoAttr K (C_Trial K) "tested_desk"
  na_Trial_origin : NoAttr K (C_Trial K) "origin"
  na_Trial_fresh : NoAttr K (C_Trial K) "fresh"
  na_Trial_chosen : NoAttr K (C_Trial K) "chosen"
  m_Trial_hold : Meth K (C_Trial K) "hold" (a_Trial_hold K)
  x_Store_contains : PySem.W.findIn K (.ref (C_Store K)) "__contains__" = some (some (.ref (a_Store_contains K)))
  x_Store_containsF : PySem.W.isFn K (.ref (a_Store_contains K)) = true
  x_Store_eq : PySem.W.findIn K (.ref (C_Store K)) "__eq__" = some (some (.ref (a_Store_eq K)))
  x_Store_eqF : PySem.W.isFn K (.ref (a_Store_eq K)) = true
  x_System_eq : PySem.W.findIn K (.ref (C_System K)) "__eq__" = some (some (.ref (a_System_eq K)))
  x_System_eqF : PySem.W.isFn K (.ref (a_System_eq K)) = true
  x_System_ne : PySem.W.findIn K (.ref (C_System K)) "__ne__" = some (some (.builtin "object.__ne__"))
  x_System_mro : PySem.W.mroIn K (C_System K) (.type "object") = some true
end Hs
set_option Elab.async false
set_option linter.all false
set_option maxRecDepth 100000
set_option maxHeartbeats 0
namespace Hs
open PySem PySem.Spec PyProof.Rows L2 He

/-! what is looked at behind the top -/
def propB (K : PySem.W.Frag) (C f : Str) : Bool := eqO (PySem.W.findIn K (.ref (ga K C)) f) (some (some (.ref (ma K (ga K C) f)))) && (eqO (PySem.W.specialIn K (.ref (ma K (ga K C) f)) "__get__") (some (some (.builtin "property.__get__"))) && (decide (PySem.W.takesIn K (.ref (ma K (ga K C) f)) = some true) && (match PySem.W.recIn K (ma K (ga K C) f) "property" with
  | some (.ref _ :: _) => true
  | _ => false)))
theorem propB_ok {K : PySem.W.Frag} {C f : Str} (h : propB K C f = true) : PropOf K (ga K C) f (ma K (ga K C) f) (pgA K C f) := by
  obtain ⟨h1, h⟩ := ba h
  obtain ⟨h2, h⟩ := ba h
  obtain ⟨h3, h4⟩ := ba h
  refine ⟨eqO_ok h1, eqO_ok h2, of_decide_eq_true h3, ?_⟩
  unfold pgA
  split at h4
  · rename_i a r e
    exact ⟨r, by rw [e]⟩
  · cases h4
def fnB (K : PySem.W.Frag) (C m : Str) : Bool := eqO (PySem.W.findIn K (.ref (ga K C)) m) (some (some (.ref (ma K (ga K C) m)))) && PySem.W.isFn K (.ref (ma K (ga K C) m))
def inscB (K : PySem.W.Frag) (C : Str) : Bool := eqO (PySem.W.findIn K (.ref (ga K C)) "__class__") (some (some (.builtin "object.__class__"))) && (eqO (PySem.W.specialIn K (.builtin "object.__class__") "__get__") (some (some (.builtin "getset_descriptor.__get__"))) && (decide (PySem.W.takesIn K (.builtin "object.__class__") = some true) && (decide (PySem.W.mroIn K (ga K C) (.type "object") = some true) && decide (PySem.W.kitOne K (.ref (ga K C)) (.ref (ga K C)) = some true))))
theorem inscB_ok {K : PySem.W.Frag} {C : Str} (c : Cls K (ga K C)) (h : inscB K C = true) : C8.InsC K (ga K C) := by
  obtain ⟨h1, h⟩ := ba h
  obtain ⟨h2, h⟩ := ba h
  obtain ⟨h3, h⟩ := ba h
  obtain ⟨h4, h5⟩ := ba h
  exact ⟨c, eqO_ok h1, eqO_ok h2, of_decide_eq_true h3, of_decide_eq_true h4, of_decide_eq_true h5⟩
def sclsB (K : PySem.W.Frag) (C : Str) : Bool := PySem.W.plainGet K (ga K C) Str.empty && (PySem.W.isClsIn K (ga K C) && (PySem.W.plainOver K (ga K C) && eqO (PySem.W.findIn K (.ref (ga K C)) "__setattr__") (some (some (.builtin "object.__setattr__")))))
theorem sclsB_ok {K : PySem.W.Frag} {C : Str} (h : sclsB K C = true) : SlX.SCls K (ga K C) := by
  obtain ⟨h1, h⟩ := ba h
  obtain ⟨h2, h⟩ := ba h
  obtain ⟨h3, h4⟩ := ba h
  exact ⟨h1, h2, h3, eqO_ok h4⟩
def slotB (K : PySem.W.Frag) (C f : Str) (i : Nat) : Bool := eqO (PySem.W.findIn K (.ref (ga K C)) f) (some (some (.ref (ma K (ga K C) f)))) && (eqO (PySem.W.specialIn K (.ref (ma K (ga K C) f)) "__get__") (some (some (.builtin "member_descriptor.__get__"))) && (decide (PySem.W.takesIn K (.ref (ma K (ga K C) f)) = some true) && (decide (PySem.W.typeIn K (.ref (ma K (ga K C) f)) = some (.type "member_descriptor")) && (decide (PySem.W.slotIn K (ma K (ga K C) f) (ga K C) = some i) && decide (i < 1000)))))
theorem slotB_ok {K : PySem.W.Frag} {C f : Str} {i : Nat} (h : slotB K C f i = true) : ∃ p, SlX.Slot1 K (ga K C) f p i := by
  obtain ⟨h1, h⟩ := ba h
  obtain ⟨h2, h⟩ := ba h
  obtain ⟨h3, h⟩ := ba h
  obtain ⟨h4, h⟩ := ba h
  obtain ⟨h5, h6⟩ := ba h
  exact ⟨_, eqO_ok h1, eqO_ok h2, of_decide_eq_true h3, of_decide_eq_true h4, of_decide_eq_true h5, of_decide_eq_true h6⟩
def szV : List (Str × Dv) := [("act", .int 3), ("store_as", .int 2), ("fetch", .int 2)]
def szK : List Str := ["act", "mend_all", "store_as", "fetch", "undo", "redo"]
def fn0 : List He5.DefA := [⟨fun K => a_is_number K, "is_number", "is_number", defArgs s_is_number, defBody s_is_number, defScope s_is_number, [], []⟩, ⟨fun K => a_is_word K, "is_word", "is_word", defArgs s_is_word, defBody s_is_word, defScope s_is_word, [], []⟩, ⟨fun K => a_is_rising K, "is_rising", "is_rising", defArgs s_is_rising, defBody s_is_rising, defScope s_is_rising, [], []⟩, ⟨fun K => a_is_need K, "is_need", "is_need", defArgs s_is_need, defBody s_is_need, defScope s_is_need, [], []⟩, ⟨fun K => a_is_state K, "is_state", "is_state", defArgs s_is_state, defBody s_is_state, defScope s_is_state, [], []⟩, ⟨fun K => a_edition_in K, "edition_in", "edition_in", defArgs s_edition_in, defBody s_edition_in, defScope s_edition_in, [], []⟩, ⟨fun K => a_is_there K, "is_there", "is_there", defArgs s_is_there, defBody s_is_there, defScope s_is_there, [], []⟩, ⟨fun K => a_is_met K, "is_met", "is_met", defArgs s_is_met, defBody s_is_met, defScope s_is_met, [], []⟩, ⟨fun K => a_lacking K, "lacking", "lacking", defArgs s_lacking, defBody s_lacking, defScope s_lacking, [], []⟩, ⟨fun K => a_hostile K, "hostile", "hostile", defArgs s_hostile, defBody s_hostile, defScope s_hostile, [], []⟩, ⟨fun K => a_is_sound K, "is_sound", "is_sound", defArgs s_is_sound, defBody s_is_sound, defScope s_is_sound, [], []⟩, ⟨fun K => a_unpack_refusal K, "unpack_refusal", "unpack_refusal", defArgs s_unpack_refusal, defBody s_unpack_refusal, defScope s_unpack_refusal, [], []⟩, ⟨fun K => a_setup_refusal K, "setup_refusal", "setup_refusal", defArgs s_setup_refusal, defBody s_setup_refusal, defScope s_setup_refusal, [], []⟩, ⟨fun K => a_remove_refusal K, "remove_refusal", "remove_refusal", defArgs s_remove_refusal, defBody s_remove_refusal, defScope s_remove_refusal, [], []⟩, ⟨fun K => a_refusal K, "refusal", "refusal", defArgs s_refusal, defBody s_refusal, defScope s_refusal, [], []⟩, ⟨fun K => a_executed K, "executed", "executed", defArgs s_executed, defBody s_executed, defScope s_executed, [], []⟩, ⟨fun K => a_need_begin K, "need_begin", "need_begin", defArgs s_need_begin, defBody s_need_begin, defScope s_need_begin, [], []⟩, ⟨fun K => a_run K, "run", "run", defArgs s_run, defBody s_run, defScope s_run, [], []⟩, ⟨fun K => a_is_operation K, "is_operation", "is_operation", defArgs s_is_operation, defBody s_is_operation, defScope s_is_operation, [], []⟩, ⟨fun K => a_law_taken K, "_law_taken", "_law_taken", defArgs s_law_taken, defBody s_law_taken, defScope s_law_taken, [], []⟩]
def fn1 : List He5.DefA := [⟨fun K => a_law_pick K, "_law_pick", "_law_pick", defArgs s_law_pick, defBody s_law_pick, defScope s_law_pick, [], []⟩, ⟨fun K => a_law_some K, "_law_some", "_law_some", defArgs s_law_some, defBody s_law_some, defScope s_law_some, [], []⟩, ⟨fun K => a_law_editions K, "_law_editions", "_law_editions", defArgs s_law_editions, defBody s_law_editions, defScope s_law_editions, [], []⟩, ⟨fun K => a_law_store K, "_law_store", "_law_store", defArgs s_law_store, defBody s_law_store, defScope s_law_store, [], []⟩, ⟨fun K => a_law_versions K, "_law_versions", "_law_versions", defArgs s_law_versions, defBody s_law_versions, defScope s_law_versions, [], []⟩, ⟨fun K => a_law_names K, "_law_names", "_law_names", defArgs s_law_names, defBody s_law_names, defScope s_law_names, [], []⟩, ⟨fun K => a_law_edition K, "_law_edition", "_law_edition", defArgs s_law_edition, defBody s_law_edition, defScope s_law_edition, [], []⟩, ⟨fun K => a_law_state K, "_law_state", "_law_state", defArgs s_law_state, defBody s_law_state, defScope s_law_state, [], []⟩, ⟨fun K => a_law_states K, "_law_states", "_law_states", defArgs s_law_states, defBody s_law_states, defScope s_law_states, [], []⟩, ⟨fun K => a_law_met K, "_law_met", "_law_met", defArgs s_law_met, defBody s_law_met, defScope s_law_met, [], []⟩, ⟨fun K => a_law_there K, "_law_there", "_law_there", defArgs s_law_there, defBody s_law_there, defScope s_law_there, [], []⟩, ⟨fun K => a_law_hostile K, "_law_hostile", "_law_hostile", defArgs s_law_hostile, defBody s_law_hostile, defScope s_law_hostile, [], []⟩, ⟨fun K => a_law_why K, "_law_why", "_law_why", defArgs s_law_why, defBody s_law_why, defScope s_law_why, [], []⟩, ⟨fun K => a_law_deeds K, "_law_deeds", "_law_deeds", defArgs s_law_deeds, defBody s_law_deeds, defScope s_law_deeds, [], []⟩, ⟨fun K => a_law_least_of K, "_law_least_of", "_law_least_of", defArgs s_law_least_of, defBody s_law_least_of, defScope s_law_least_of, [], []⟩, ⟨fun K => a_law_step K, "_law_step", "_law_step", defArgs s_law_step, defBody s_law_step, defScope s_law_step, [], []⟩, ⟨fun K => a_law_shows K, "_law_shows", "_law_shows", defArgs s_law_shows, defBody s_law_shows, defScope s_law_shows, [], []⟩, ⟨fun K => a_law K, "law", "law", defArgs s_law, defBody s_law, defScope s_law, [], []⟩, ⟨fun K => a_Edition_init K, "__init__", "Edition.__init__", defArgs s_Edition_init, defBody s_Edition_init, defScope s_Edition_init, [], [("scripts", .glo "SCRIPTS")]⟩, ⟨fun K => a_Store_init K, "__init__", "Store.__init__", defArgs s_Store_init, defBody s_Store_init, defScope s_Store_init, [], []⟩]
def fn2 : List He5.DefA := [⟨fun K => a_Store_names K, "names", "Store.names", defArgs s_Store_names, defBody s_Store_names, defScope s_Store_names, [], []⟩, ⟨fun K => a_Store_contains K, "__contains__", "Store.__contains__", defArgs s_Store_contains, defBody s_Store_contains, defScope s_Store_contains, [], []⟩, ⟨fun K => a_Store_eq K, "__eq__", "Store.__eq__", defArgs s_Store_eq, defBody s_Store_eq, defScope s_Store_eq, [], []⟩, ⟨fun K => a_System_init K, "__init__", "System.__init__", defArgs s_System_init, defBody s_System_init, defScope s_System_init, [], []⟩, ⟨fun K => a_System_states K, "states", "System.states", defArgs s_System_states, defBody s_System_states, defScope s_System_states, [], []⟩, ⟨fun K => a_System_eq K, "__eq__", "System.__eq__", defArgs s_System_eq, defBody s_System_eq, defScope s_System_eq, [], []⟩, ⟨fun K => a_System_with_state K, "with_state", "System.with_state", defArgs s_System_with_state, defBody s_System_with_state, defScope s_System_with_state, [], []⟩, ⟨fun K => a_Run_init K, "__init__", "Run.__init__", defArgs s_Run_init, defBody s_Run_init, defScope s_Run_init, [], []⟩, ⟨fun K => a_Run_is_done K, "is_done", "Run.is_done", defArgs s_Run_is_done, defBody s_Run_is_done, defScope s_Run_is_done, [], []⟩, ⟨fun K => a_Run_state_behind K, "state_behind", "Run.state_behind", defArgs s_Run_state_behind, defBody s_Run_state_behind, defScope s_Run_state_behind, [], []⟩, ⟨fun K => a_Run_unpacked_new K, "unpacked_new", "Run.unpacked_new", defArgs s_Run_unpacked_new, defBody s_Run_unpacked_new, defScope s_Run_unpacked_new, [], []⟩, ⟨fun K => a_Run_unpacked_over K, "unpacked_over", "Run.unpacked_over", defArgs s_Run_unpacked_over, defBody s_Run_unpacked_over, defScope s_Run_unpacked_over, [], []⟩, ⟨fun K => a_Run_is_left K, "is_left", "Run.is_left", defArgs s_Run_is_left, defBody s_Run_is_left, defScope s_Run_is_left, [], []⟩, ⟨fun K => a_Run_given_up K, "given_up", "Run.given_up", defArgs s_Run_given_up, defBody s_Run_given_up, defScope s_Run_given_up, [], []⟩, ⟨fun K => a_Run_put_back K, "put_back", "Run.put_back", defArgs s_Run_put_back, defBody s_Run_put_back, defScope s_Run_put_back, [], []⟩, ⟨fun K => a_Run_set_up K, "set_up", "Run.set_up", defArgs s_Run_set_up, defBody s_Run_set_up, defScope s_Run_set_up, [], []⟩, ⟨fun K => a_Run_removed K, "removed", "Run.removed", defArgs s_Run_removed, defBody s_Run_removed, defScope s_Run_removed, [], []⟩, ⟨fun K => a_Run_purged K, "purged", "Run.purged", defArgs s_Run_purged, defBody s_Run_purged, defScope s_Run_purged, [], []⟩, ⟨fun K => a_State_init K, "__init__", "State.__init__", defArgs s_State_init, defBody s_State_init, defScope s_State_init, [], []⟩, ⟨fun K => a_State_all_three K, "all_three", "State.all_three", defArgs s_State_all_three, defBody s_State_all_three, defScope s_State_all_three, [], []⟩]
def fn3 : List He5.DefA := [⟨fun K => a_State_copied K, "copied", "State.copied", defArgs s_State_copied, defBody s_State_copied, defScope s_State_copied, [], []⟩, ⟨fun K => a_State_go_on K, "go_on", "State.go_on", defArgs s_State_go_on, defBody s_State_go_on, defScope s_State_go_on, [], []⟩, ⟨fun K => a_State_go_back K, "go_back", "State.go_back", defArgs s_State_go_back, defBody s_State_go_back, defScope s_State_go_back, [], []⟩, ⟨fun K => a_State_go_again K, "go_again", "State.go_again", defArgs s_State_go_again, defBody s_State_go_again, defScope s_State_go_again, [], []⟩, ⟨fun K => a_Desk_init K, "__init__", "Desk.__init__", defArgs s_Desk_init, defBody s_Desk_init, defScope s_Desk_init, [], []⟩, ⟨fun K => a_Desk_system K, "system", "Desk.system", defArgs s_Desk_system, defBody s_Desk_system, defScope s_Desk_system, [], []⟩, ⟨fun K => a_Desk_call_count K, "call_count", "Desk.call_count", defArgs s_Desk_call_count, defBody s_Desk_call_count, defScope s_Desk_call_count, [], []⟩, ⟨fun K => a_Desk_kept K, "kept", "Desk.kept", defArgs s_Desk_kept, defBody s_Desk_kept, defScope s_Desk_kept, [], []⟩, ⟨fun K => a_Desk_history K, "history", "Desk.history", defArgs s_Desk_history, defBody s_Desk_history, defScope s_Desk_history, [], []⟩, ⟨fun K => a_Desk_act K, "act", "Desk.act", defArgs s_Desk_act, defBody s_Desk_act, defScope s_Desk_act, [], []⟩, ⟨fun K => a_Desk_store_as K, "store_as", "Desk.store_as", defArgs s_Desk_store_as, defBody s_Desk_store_as, defScope s_Desk_store_as, [], []⟩, ⟨fun K => a_Desk_fetch K, "fetch", "Desk.fetch", defArgs s_Desk_fetch, defBody s_Desk_fetch, defScope s_Desk_fetch, [], []⟩, ⟨fun K => a_Desk_undo K, "undo", "Desk.undo", defArgs s_Desk_undo, defBody s_Desk_undo, defScope s_Desk_undo, [], []⟩, ⟨fun K => a_Desk_redo K, "redo", "Desk.redo", defArgs s_Desk_redo, defBody s_Desk_redo, defScope s_Desk_redo, [], []⟩, ⟨fun K => a_Desk_execute K, "execute", "Desk.execute", defArgs s_Desk_execute, defBody s_Desk_execute, defScope s_Desk_execute, [], []⟩, ⟨fun K => a_Desk_apply_all K, "apply_all", "Desk.apply_all", defArgs s_Desk_apply_all, defBody s_Desk_apply_all, defScope s_Desk_apply_all, [], []⟩, ⟨fun K => a_Desk_tried K, "tried", "Desk.tried", defArgs s_Desk_tried, defBody s_Desk_tried, defScope s_Desk_tried, [], []⟩, ⟨fun K => a_Trial_init K, "__init__", "Trial.__init__", defArgs s_Trial_init, defBody s_Trial_init, defScope s_Trial_init, [], []⟩, ⟨fun K => a_Trial_hold K, "hold", "Trial.hold", defArgs s_Trial_hold, defBody s_Trial_hold, defScope s_Trial_hold, [], []⟩, ⟨fun K => a_Trial_enter K, "__enter__", "Trial.__enter__", defArgs s_Trial_enter, defBody s_Trial_enter, defScope s_Trial_enter, [], []⟩]
def fn4 : List He5.DefA := [⟨fun K => a_Trial_exit K, "__exit__", "Trial.__exit__", defArgs s_Trial_exit, defBody s_Trial_exit, defScope s_Trial_exit, [], []⟩, ⟨fun K => a_Desk_replay K, "replay", "Desk.replay", defArgs s_Desk_replay, defBody s_Desk_replay, defScope s_Desk_replay, [], []⟩]
def fnW : List He5.DefA := fn0 ++ fn1 ++ fn2 ++ fn3 ++ fn4
def fa0 : List Fa := [.glo "is_number", .glo "is_word", .glo "is_rising", .glo "is_need", .glo "is_state", .glo "edition_in", .glo "is_there", .glo "is_met", .glo "lacking", .glo "hostile", .glo "is_sound", .glo "unpack_refusal", .glo "setup_refusal", .glo "remove_refusal", .glo "refusal", .glo "executed", .glo "need_begin", .glo "run", .glo "is_operation", .glo "_law_taken", .glo "_law_pick", .glo "_law_some", .glo "_law_editions", .glo "_law_store", .glo "_law_versions", .glo "_law_names", .glo "_law_edition", .glo "_law_state", .glo "_law_states", .glo "_law_met"]
def fa1 : List Fa := [.glo "_law_there", .glo "_law_hostile", .glo "_law_why", .glo "_law_deeds", .glo "_law_least_of", .glo "_law_step", .glo "_law_shows", .glo "law", .glo "NOTHING", .glo "THERE", .glo "SCRIPTS", .glo "STATUSES", .glo "Edition", .glo "Store", .glo "System", .glo "Run", .glo "State", .glo "Desk", .glo "Trial", .glo "SIZES", .keep "is_number", .keep "is_word", .keep "is_rising", .keep "is_need", .keep "is_state", .keep "edition_in", .keep "is_there", .keep "is_met", .keep "lacking", .keep "hostile"]
def fa2 : List Fa := [.keep "is_sound", .keep "unpack_refusal", .keep "setup_refusal", .keep "remove_refusal", .keep "refusal", .keep "executed", .keep "need_begin", .keep "run", .keep "is_operation", .keep "_law_taken", .keep "_law_pick", .keep "_law_some", .keep "_law_editions", .keep "_law_store", .keep "_law_versions", .keep "_law_names", .keep "_law_edition", .keep "_law_state", .keep "_law_states", .keep "_law_met", .keep "_law_there", .keep "_law_hostile", .keep "_law_why", .keep "_law_deeds", .keep "_law_least_of", .keep "_law_step", .keep "_law_shows", .keep "law", .str "ABSENT" "absent", .str "FAILED" "failed"]
def fa3 : List Fa := [.str "HALF" "half", .str "LEFT" "left", .str "READY" "ready", .str "UNPACKED" "unpacked", .str "UNPACK" "unpack", .str "SETUP" "setup", .str "REMOVE" "remove", .str "PURGE" "purge", .str "CLEAN" "clean", .str "ENTER" "enter", .str "LEAVE" "leave", .str "LETTERS" "abcdefghijklmnopqrstuvwxyz", .int "MOST_LETTERS" 8, .int "MOST_VERSION" 99, .int "MOST_EDITIONS" 12, .int "MOST_NAMES" 4, .free "len", .free "sorted", .free "min", .free "all", .free "isinstance", .free "list", .free "tuple", .free "dict", .free "set", .free "int", .free "bool", .free "str", .free "range", .free "enumerate"]
def fa4 : List Fa := [.cls "Edition", .mkr "Edition", .noat "Edition" "label", .noat "Edition" "number", .noat "Edition" "has", .noat "Edition" "wants", .noat "Edition" "asks", .noat "Edition" "shuns", .cls "Store", .mkr "Store", .noat "Store" "known", .cls "System", .mkr "System", .noat "System" "base", .noat "System" "rows", .meth "System" "with_state", .cls "Run", .mkr "Run", .noat "Run" "base", .noat "Run" "fails", .noat "Run" "made", .meth "Run" "is_done", .meth "Run" "state_behind", .meth "Run" "unpacked_new", .meth "Run" "unpacked_over", .meth "Run" "is_left", .meth "Run" "given_up", .meth "Run" "put_back", .meth "Run" "set_up", .meth "Run" "removed"]
def fa5 : List Fa := [.meth "Run" "purged", .mkr "State", .meth "State" "all_three", .meth "State" "copied", .meth "State" "go_on", .meth "State" "go_back", .meth "State" "go_again", .cls "Desk", .mkr "Desk", .noat "Desk" "state", .meth "Desk" "act", .meth "Desk" "store_as", .meth "Desk" "fetch", .meth "Desk" "undo", .meth "Desk" "redo", .meth "Desk" "execute", .meth "Desk" "apply_all", .meth "Desk" "tried", .cls "Trial", .mkr "Trial", .noat "Trial" "tested_desk", .noat "Trial" "origin", .noat "Trial" "fresh", .noat "Trial" "chosen", .meth "Trial" "hold"]
def faW : List Fa := fa0 ++ fa1 ++ fa2 ++ fa3 ++ fa4 ++ fa5
def exW (K : PySem.W.Frag) : Bool := [tupB K "NOTHING" [.str "absent", .int 0, .int 0], tupB K "THERE" [.str "failed", .str "half", .str "ready", .str "unpacked"], tupB K "SCRIPTS" [.str "clean", .str "enter", .str "leave", .str "setup"], tupB K "STATUSES" [.str "absent", .str "failed", .str "half", .str "left", .str "ready", .str "unpacked"], propB K "Store" "names", propB K "System" "states", propB K "Desk" "system", propB K "Desk" "call_count", propB K "Desk" "kept", propB K "Desk" "history", fnB K "Store" "__contains__", fnB K "Store" "__eq__", fnB K "System" "__eq__", eqO (PySem.W.findIn K (.ref (ga K "System")) "__ne__") (some (some (.builtin "object.__ne__"))), decide (PySem.W.mroIn K (ga K "System") (.type "object") = some true), inscB K "Store", inscB K "System", sclsB K "State", slotB K "State" "count" 0, slotB K "State" "past" 1, slotB K "State" "present" 2, slotB K "State" "shelf" 3, slotB K "State" "undone" 4, valsB K (ga K "SIZES") szV, fnB K "Trial" "__enter__", fnB K "Trial" "__exit__", PySem.W.readsIn K (ga K "Desk") (.type "type"), He5.wrapB K (ga K "Desk") "classmethod" "classmethod.__get__" "replay" && PySem.W.fnIn K (He5.wf K (ga K "Desk") "classmethod" "replay")].all id
abbrev AlW : Type := He.AlD × Option (List (Option (Str × Int)))
def obsW (K : PySem.W.Frag) : AlW := (((faW.all fun f => f.ok K) && (exW K && fnW.all fun d => d.ok K), fnW.map fun d => He5.fnA K (d.at_ K)), dicW K (ga K "SIZES"))
def valW (w : World) : AlW := ((true, fnW.map He5.DefA.val), some (keysIn w.params szK))
def SaysW (w : World) (K : PySem.W.Frag) : Prop := obsW K = valW w
def dvals (o : Obj) : List Addr := match o.data with
  | .dict es _ => es.toList.flatMap fun e => refV e.val
  | _ => []
def kids1 (o : Obj) : List Addr := match o.data with
  | .func fd => refV fd.code ++ refV fd.kwdefaults
  | .cls cd => [cd.ns]
  | _ => []
def kids3 (o : Obj) : List Addr := match o.data with
  | .func fd => refV fd.code ++ refV fd.kwdefaults
  | .fields vs => vs.toList.flatMap refV
  | _ => []
def kids4 (o : Obj) : List Addr := match o.data with
  | .func fd => refV fd.code
  | _ => []
def stepA (g : Addr → Option Obj) (k : Obj → List Addr) : List Addr → List Addr
  | [] => []
  | a :: r => (match g a with
    | some o => k o
    | none => []) ++ stepA g k r
def asL (g : Addr → Option Obj) : List (Obj → List Addr) → List Addr → List Addr
  | [], l => l
  | k :: ks, l => l ++ asL g ks (stepA g k l)
/-- the module's names, what they are made of, a class's methods, their code -/
def asW (g : Addr → Option Obj) : List Addr := asL g [dvals, kids1, dvals, kids3, kids4] [mainGlobals] ++ [cStatics]
def obsWG (g : Addr → Option Obj) : AlW := obsW (frG g (asW g))
def hookW : PySem.W.Hook where
  α := AlW
  obs := fun s => obsWG s.heap.get?
  val := fun w => valW w
  says := fun w h => ∃ K : PySem.W.Frag, K.In h ∧ SaysW w K
  of := fun _ _ e => ⟨_, frG_in, e⟩
  keeps := fun _ _ _ ⟨K, hK, c⟩ k => ⟨K, PySem.W.Frag.In.keeps hK k, c⟩
abbrev RW : PySem.W.OpenRow := PySem.W.OpenLaw.row PySem.Challenge.rw_halfsetup_k76_whole_desks_of_long_histor
def obW (s : PySem.W.SharedT) : AlW := obsWG (HandSHeadRun.getT s)
theorem obW_eq (s : PySem.W.SharedT) : obW s = hookW.obs s.abs := by
  have e : HandSHeadRun.getT s = s.abs.heap.get? := funext (HandSHeadRun.getT_eq s)
  unfold obW
  rw [e]
  rfl
def lo0 : List Str := ["SetupError", "InvalidEdition", "InvalidStore", "UnknownEdition", "UnknownName", "InvalidSystem", "Refused", "NoWay", "InvalidName", "UnknownKept", "InvalidOperation", "SCRIPTS"]
def lo1 : List Str := ["LETTERS", "MOST_LETTERS", "MOST_VERSION", "is_number", "is_word", "is_rising", "Edition", "is_need", "NOTHING", "ABSENT", "FAILED", "HALF"]
def lo2 : List Str := ["LEFT", "READY", "UNPACKED", "STATUSES", "THERE", "is_state", "System", "edition_in", "is_there", "is_met", "lacking", "hostile"]
def lo3 : List Str := ["is_sound", "UNPACK", "SETUP", "REMOVE", "PURGE", "unpack_refusal", "setup_refusal", "remove_refusal", "refusal", "all_deeds", "CLEAN", "ENTER"]
def lo4 : List Str := ["LEAVE", "Run", "executed", "need_begin", "run", "shortest", "mend", "SIZES", "is_operation", "State", "Desk", "Trial"]
def lo5 : List Str := ["MOST_EDITIONS", "MOST_NAMES", "Store", "_law_taken", "_law_pick", "_law_some", "_law_editions", "_law_store", "_law_versions", "_law_names", "_law_edition", "_law_state"]
def lo6 : List Str := ["_law_states", "_law_met", "_law_there", "_law_hostile", "_law_why", "_law_deeds", "_law_least_of", "_law_step", "_law_shows"]
def lo : List Str := lo0 ++ (lo1 ++ (lo2 ++ (lo3 ++ (lo4 ++ (lo5 ++ (lo6))))))
end Hs
set_option Elab.async false
set_option linter.all false
set_option maxRecDepth 100000
set_option maxHeartbeats 0
namespace Hs
open PySem PySem.Spec PyProof.Rows L2
theorem runA (w : World) : HandSHeadRun.RunEq RW (PySem.W.view RW.prog [90]) hookW obW 12000 lo (w.withFollow "special-get-raises" false) := by
  intro os
  kernel_rfl
end Hs
set_option Elab.async false
set_option linter.all false
set_option maxRecDepth 100000
set_option maxHeartbeats 0
namespace Hs
open PySem PySem.Spec PyProof.Rows L2
theorem runB (w : World) : HandSHeadRun.RunEq RW (PySem.W.view RW.prog [90]) hookW obW 12000 lo (w.withFollow "special-get-raises" true) := by
  intro os
  kernel_rfl
end Hs
set_option Elab.async false
set_option linter.all false
set_option maxRecDepth 100000
set_option maxHeartbeats 4000000
/-! sets of texts -/
namespace Hs
open PySem PySem.Spec PyProof.Rows L2 PySem.Froz
/-- a set of the texts l, each once -/
def TsR (P : Program) (w : World) (h : Heap) (a : Addr) (l : List Str) : Prop := ∃ D : SD, h.get? a = some (sObj "set" D) ∧ TxOk P w D l ∧ Ris D.2.2.place.toList ∧ (w.params.followText "set-order" = true ∨ D.2.2.led = true) ∧ l.Nodup
theorem TsR.at {P : Program} {w : World} {h h' : Heap} {a : Addr} {l : List Str} (R : TsR P w h a l) (k : ∀ o, h.get? a = some o → h'.get? a = some o) : TsR P w h' a l := by
  obtain ⟨D, h1, r⟩ := R
  exact ⟨D, k _ h1, r⟩
theorem tail_ris {ep : Nat} {es1 : Array (Int × Value)} {t2 : SetTable} {b : Bool} (r : Ris t2.place.toList) : Ris (tailTx ep es1 t2 b).2.2.place.toList ∧ (tailTx ep es1 t2 b).2.2.led = t2.led := by
  unfold tailTx
  split
  · exact ⟨relayAll_ris _ _ _, relayAll_led _ _ _⟩
  · exact ⟨r, rfl⟩
theorem add_ris {D : SD} {k : Int} {v : Value} (r : Ris D.2.2.place.toList) : Ris (addTx k v D).2.2.place.toList ∧ (addTx k v D).2.2.led = D.2.2.led := by
  have h1 := layNew_ris D.2.2 D.1 k v r
  have h2 := layNew_led D.2.2 D.1 k v
  unfold addTx
  split
  · have := tail_ris (ep := D.2.1) (es1 := (layNew D.2.2 D.1 k v).1) (t2 := { (layNew D.2.2 D.1 k v).2.1 with plain := false }) (b := (layNew D.2.2 D.1 k v).2.2.1) h1
    exact ⟨this.1, this.2.trans h2⟩
  · have := tail_ris (ep := D.2.1) (es1 := (layNew D.2.2 D.1 k v).1) (t2 := (layNew D.2.2 D.1 k v).2.1) (b := (layNew D.2.2 D.1 k v).2.2.1) h1
    exact ⟨this.1, this.2.trans h2⟩
section
variable {P : Program} {w : World} {A : Around} {E : Value → Shared → Prop} {s : Shared}
/-- it is in already -/
theorem add_old {a : Addr} {D : SD} {l : List Str} {k : Str} {u : Tok} {Q : Bool → Shared → Prop} (ho : s.heap.get? a = some (sObj "set" D)) (F : TxOk P w D l) (hk : k ∈ l) (hb : l.length < scanBound)
    (h : Q false s) : wpAny (model P w) A (setAddHashed a (.str k u) (hashStr w k)) Q E s := by
  obtain ⟨es, ep, t⟩ := D
  have hd : (sObj "set" (es, ep, t)).data = .set es ep t := rfl
  have hf : t.fits es.size = true := F.fit
  have hel : ElemsOf (strKind P w) es.toList := F.el
  have hsz : es.size = l.length := F.sz
  have hb0 : es.size < scanBound := by omega
  have hkey : (strKind P w).is k (.str k u) = true := is_str k u
  obtain ⟨j, hr⟩ : ∃ j, List.findIdx? (fun e => (strKind P w).is k e.2) es.toList = some j := by
    cases hr : List.findIdx? (fun e => (strKind P w).is k e.2) es.toList with
    | some j => exact ⟨j, rfl⟩
    | none =>
      obtain ⟨e, he, z⟩ := (F.mem k).mp hk
      have := List.findIdx?_eq_none_iff.mp hr e he
      rw [z] at this
      cases this
  unfold setAddHashed setAddHashedIn
  refine wpAny_holding (wpAny_bind (wpAny_setState_of ho hd hf ?_))
  dsimp only
  rw [byScan_of rfl hb0 hel]
  simp only [↓reduceIte]
  unfold setAddByScan
  refine wpAny_bind ?_
  refine wpAny_bind (wpAny_rule ?_)
  refine wpAny_bind (wpAny_setScan_of (knd := strKind P w) (k := k) hkey ho hd hf hel ?_)
  rw [hr]
  exact wpAny_pure (wpAny_pure h)
theorem same_upd {h : Heap} {a : Addr} {o : Obj} {f : Obj → Obj} (_ho : h.get? a = some o) : Heap.SameBut a h (h.update a f) := Heap.SameBut.update ..
/-- set.add's body on a text -/
theorem tsR_add {a : Addr} {l : List Str} {k : Str} {u : Tok} {Q : Bool → Shared → Prop} (R : TsR P w s.heap a l) (hb : l.length + 1 < scanBound)
    (h : ∀ b h', Heap.SameBut a s.heap h' → TsR P w h' a (if k ∈ l then l else k :: l) → Q b { s with heap := h' }) : wpAny (model P w) A (setAddHashed a (.str k u) (hashStr w k)) Q E s := by
  obtain ⟨D, h1, F, r, led, nd⟩ := R
  by_cases hk : k ∈ l
  · refine add_old h1 F hk (by omega) ?_
    have := h false s.heap (Heap.SameBut.refl _ _) (by rw [if_pos hk]; exact ⟨D, h1, F, r, led, nd⟩)
    exact this
  · refine add_x h1 F hk hb ?_
    refine h true _ (same_upd h1) ?_
    rw [if_neg hk]
    have ar := add_ris (k := hashStr w k) (v := .str k u) r
    exact ⟨_, get_upd _ h1 rfl, add_ok u F, ar.1, by rw [ar.2]; exact led, List.nodup_cons.mpr ⟨hk, nd⟩⟩
theorem tsR_fresh {h : Heap} {a : Addr} (ho : h.get? a = some { cls := .type "set", dict := none, data := .set #[] 0 (.fresh 0 0 (!w.params.followText "set-order")) }) : TsR P w h a [] :=
  ⟨(#[], 0, .fresh 0 0 (!w.params.followText "set-order")), ho, TxOk.nil (by rfl), List.Pairwise.nil, by
    show _ ∨ (!w.params.followText "set-order") = true
    cases w.params.followText "set-order"
    · exact .inr rfl
    · exact .inl rfl, List.nodup_nil⟩
theorem set_update_txt {I : Addr} {fp wr : List Addr} {G : Array GenState → Array GenState → Prop} {n : Nat} {Pv : Nat → Value → Prop} {St : Nat → Shared → Prop} {R : Result → Shared → Prop}
    (W : WalksS P w A.in1 I fp wr G n Pv St) (S : Addr) (hSf : S ∉ fp) (xs : List Str) (hn : n = xs.length) (hb : xs.length + 1 < scanBound) (hval : ∀ i v, Pv i v → ∃ k t, xs[i]? = some k ∧ v = .str k t) :
    ∀ (k i : Nat) (s : Shared), n - i = k → i ≤ n → St i s → (∃ l, l.length ≤ i ∧ (∀ x, x ∈ l ↔ x ∈ xs.take i) ∧ TsR P w s.heap S l) →
      (∀ s' l, Moved (S :: wr) G s s' → l.length ≤ n → (∀ x, x ∈ l ↔ x ∈ xs) → TsR P w s'.heap S l → R (.ok (.ret .none)) s') →
      codeAny (model P w) A (.builtin "set.update.loop" ⟨[.ref S, .ref I], []⟩) R s := by
  have hSw : S ∉ wr := fun h => hSf (W.sub _ h)
  have hsub : ∀ b ∈ wr, b ∈ S :: wr := fun b hb => List.mem_cons_of_mem _ hb
  intro k
  induction k with
  | zero =>
    intro i s hk' hi hst ⟨l, hc, hm0, hS⟩ hR
    have hin : i = n := by omega
    subst hin
    refine codeAny_builtin F.entry_set_update_loop ?_
    rw [Around.under_plainId F.plain_set_update_loop _]
    show wpAny _ A.in1 (pyNext (.ref I) >>= _) _ _ s
    refine wpAny_bind (W.done s _ _ hst fun s' hm => ?_)
    show wpAny _ A.in1 (ret Value.none) _ _ s'
    have e : xs.take i = xs := List.take_of_length_le (by omega)
    rw [e] at hm0
    exact wpAny_pure (hR s' l (hm.mono hsub) hc hm0 (hS.at fun o e => hm.heap S o hSw e))
  | succ k ih =>
    intro i s hk' hi hst ⟨l, hc, hm0, hS⟩ hR
    have hlt : i < n := by omega
    refine codeAny_builtin F.entry_set_update_loop ?_
    rw [Around.under_plainId F.plain_set_update_loop _]
    show wpAny _ A.in1 (pyNext (.ref I) >>= _) _ _ s
    refine wpAny_bind (W.item i s _ _ hlt hst fun v s' hP hst' hm => ?_)
    obtain ⟨z, t, hz, rfl⟩ := hval i v hP
    have hS' : TsR P w s'.heap S l := hS.at fun o e => hm.heap S o hSw e
    show wpAny _ A.in1 (holding [Value.str z t] (setAdd S (.str z t)) >>= _) _ _ s'
    refine wpAny_bind (wpAny_holding ?_)
    unfold setAdd
    refine wpAny_holding ?_
    refine wpAny_bind ((strKind P w).pyHash (k := z) (is_str z t) ?_)
    refine tsR_add (s := { s' with toks := s'.toks + 1 }) hS' (by omega) fun b h' hsb hS2 => ?_
    have hm3 : ∀ x, x ∈ (if z ∈ l then l else z :: l) ↔ x ∈ xs.take (i + 1) := fun x => by
      have e1 : x ∈ List.take (i + 1) xs ↔ x ∈ List.take i xs ∨ x = z := by
        rw [List.take_add_one, hz]; simp
      rw [e1, ← hm0]
      split
      · rename_i hzl
        exact ⟨.inl, fun q => q.elim id fun q => by rw [q]; exact hzl⟩
      · exact ⟨fun q => (List.mem_cons.mp q).symm, fun q => List.mem_cons.mpr q.symm⟩
    have hc3 : (if z ∈ l then l else z :: l).length ≤ i + 1 := by
      split
      · omega
      · simp; omega
    refine wpAny_pure ⟨plainId_quiet F.plain_set_update_loop _, ih (i + 1) _ (by omega) hlt (W.frame _ s' _ _ hst' (Nat.le_succ _) fun b hb o e => ?_) ⟨_, hc3, hm3, hS2⟩ fun s'' l2 hm'' hc'' hm4 hS'' => ?_⟩
    · rw [hsb.2 b (fun h : b = S => hSf (by rw [← h]; exact hb))]; exact e
    · refine hR s'' l2 (Moved.trans W.gtrans ((hm.mono hsub).then_heap (Nat.le_succ _) fun b o hb e => ?_) hm'') hc'' hm4 hS''
      rw [hsb.2 b (fun h : b = S => hb (by rw [h]; exact List.mem_cons_self))]; exact e
end
end Hs
set_option Elab.async false
set_option linter.all false
set_option maxRecDepth 100000
set_option maxHeartbeats 4000000
/-! set(texts) -/
namespace Hs
open PySem PySem.Spec PyProof.Rows L2 PySem.Froz
section
variable {P : Program} {w : World} {A : Around} {E : Value → Shared → Prop} {s : Shared}
set_option maxRecDepth 100000 in
set_option maxHeartbeats 3200000 in
theorem call_set_txT {l : Addr} {items : Array Value} (ns : List Str) {Q : Value → Shared → Prop} (hh : A.handled = none) (hl : s.heap.IsTuple l items) (hit : StrsAre items.toList ns) (hb : ns.length + 1 < scanBound)
    (h : ∀ (h' : Heap) (tk : Nat) (l2 : List Str), TsR P w h' s.heap.objs.size l2 → (∀ x, x ∈ l2 ↔ x ∈ ns) → l2.length ≤ ns.length → (∀ b o, s.heap.get? b = some o → h'.get? b = some o) → Q (.ref s.heap.objs.size) { s with heap := h', toks := tk }) :
    wpAny (model P w) A (call (.type "set") [.ref l]) Q E s := by
  have hisz : items.size = ns.length := by
    have q := StrsAre.len_eq hit
    rw [Array.length_toList] at q
    exact q
  obtain ⟨c, tl, hmro⟩ := F.called_set.mro
  have hmade := F.called_set.made
  have hsub := F.called_set.sub
  refine wpAny_call (codeAny_of_tree ?_)
  show wpAny _ _ (callAny (.type "set") _) _ _ _
  refine wpAny_pure ⟨Code.quiet_builtin _ (by decide +kernel), codeAny_builtin F.entry_type_call ?_⟩
  rw [Around.under_plain (weight_type_call_type "set" [.ref l] []) rfl]
  have h1 := F.called_set.notType
  have h2 := F.called_set.canCreate
  have hct := F.typeCall_set_1 (.ref l)
  repeat (any_goals (first | assumption | wp_step))

  refine codeAny_mono (code_set_led1 (.ref l) (E := E) (Q₁ := fun obj s₁ => obj = .ref s.heap.objs.size ∧ s₁ = { s with heap := s.heap.push { cls := .type "set", dict := none, data := .set #[] 0 (.fresh 0 0 (!w.params.followText "set-order")) } }) ⟨rfl, rfl⟩) fun r s₁ hr => ?_
  cases r with
  | error e => exact hr
  | ok fl =>
    cases fl with
    | ret obj =>
      obtain ⟨rfl, rfl⟩ := hr
      have hS : (s.heap.push { cls := .type "set", dict := none, data := .set #[] 0 (.fresh 0 0 (!w.params.followText "set-order")) }).get? s.heap.objs.size = some { cls := .type "set", dict := none, data := .set #[] 0 (.fresh 0 0 (!w.params.followText "set-order")) } := Heap.get?_push_size _ rfl
      have hT : Shared.TypeIs { s with heap := s.heap.push { cls := .type "set", dict := none, data := .set #[] 0 (.fresh 0 0 (!w.params.followText "set-order")) } } (.ref s.heap.objs.size) "set" := ⟨_, hS, rfl⟩
      have hli := F.called_set.init.lookup
      have hbi := F.called_set.init.bind (.ref s.heap.objs.size)
      repeat (any_goals (first | assumption | wp_step))

      refine codeAny_mono (codeAny_call_builtin (R := wants (fun r s₂ => r = .none ∧ ∃ h' tk l2, s₂ = { s with heap := h', toks := tk } ∧ TsR P w h' s.heap.objs.size l2 ∧ (∀ x, x ∈ l2 ↔ x ∈ ns) ∧ l2.length ≤ ns.length ∧
          (∀ b o, s.heap.get? b = some o → h'.get? b = some o)) E) F.called_set.init.plain F.entry_set_init (check_set_init_1 hT ?_)) fun r₂ s₂ hr₂ => ?_
      · obtain ⟨ol, hol, hcl, nl, hdl⟩ := hl
        obtain ⟨ocls, odict, odata, oslots⟩ := ol
        simp only at hcl hdl
        subst hcl; subst hdl
        have hol' : (s.heap.push { cls := .type "set", dict := none, data := .set #[] 0 (.fresh 0 0 (!w.params.followText "set-order")) }).get? l = some { cls := .type "tuple", dict := odict, data := .seq items nl, slots := oslots } := Heap.get?_push_of_some _ hol
        have hsls := F.sub_tuple_set
        have hslf := F.sub_tuple_frozenset
        have hne : (Value.type "tuple" == Value.type "dict") = false := by decide
        have hl1 : (s.heap.push { cls := .type "set", dict := none, data := .set #[] 0 (.fresh 0 0 (!w.params.followText "set-order")) }).IsTuple l items := ⟨_, hol', rfl, nl, rfl⟩
        unfold Builtin.«set.__init__» noKeywords Builtin.Frozenset.updateFrom
        generalize hPI : pyIter = PI
        wp_walk
        subst hPI

        refine wpAny_pyIter_tuple hl1 ?_
        refine wpAny_bind (wpAny_runValue ?_)
        have hlS : l < s.heap.objs.size := Heap.lt_size hol
        have hh3 : A.in1.in1.in1.handled = none := by simp [hh]
        have hz1 : (s.heap.push { cls := .type "set", dict := none, data := .set #[] 0 (.fresh 0 0 (!w.params.followText "set-order")) }).objs.size = s.heap.objs.size + 1 := Heap.size_push ..
        have hneI : l ≠ (s.heap.push { cls := .type "set", dict := none, data := .set #[] 0 (.fresh 0 0 (!w.params.followText "set-order")) }).objs.size := by
          rw [Heap.size_push]; exact Nat.ne_of_lt (Nat.lt_succ_of_lt hlS)
        have hSf : s.heap.objs.size ∉ [(s.heap.push { cls := .type "set", dict := none, data := .set #[] 0 (.fresh 0 0 (!w.params.followText "set-order")) }).objs.size, l] := by
          rw [Heap.size_push]; simp only [List.mem_cons, List.mem_singleton, List.not_mem_nil, or_false, not_or]
          exact ⟨Nat.ne_of_lt (Nat.lt_succ_self _), Nat.ne_of_gt hlS⟩
        have hval : ∀ (i : Nat) (v : Value), items[i]? = some v → ∃ k t, ns[i]? = some k ∧ v = .str k t := fun i v hv => by
          have hi : i < ns.length := by rw [← hisz]; exact (Array.getElem?_eq_some_iff.mp hv).1
          obtain ⟨t, e⟩ := SS.strs_at hit i v (by rw [Array.getElem?_toList]; exact hv)
          refine ⟨ns[i], t, List.getElem?_eq_getElem hi, ?_⟩
          rw [e, List.getD_eq_getElem?_getD, List.getElem?_eq_getElem hi] <;> rfl
        refine set_update_txt ((Walks.tuple hh3 _ l hneI items).toS) s.heap.objs.size
          hSf ns hisz hb hval (items.size - 0) 0 _ (by omega) (Nat.zero_le _)
          ⟨⟨_, Heap.get?_push_size _ rfl, rfl, rfl⟩, (hl1.push _)⟩ ?hS0 ?hR
        case hS0 =>
          have hget : ((s.heap.push { cls := .type "set", dict := none, data := .set #[] 0 (.fresh 0 0 (!w.params.followText "set-order")) }).push { cls := .type "tuple_iterator", data := .fields #[.ref l, .int 0 0] }).get? s.heap.objs.size
              = some { cls := .type "set", dict := none, data := .set #[] 0 (.fresh 0 0 (!w.params.followText "set-order")) } := Heap.get?_push_of_some _ hS
          exact ⟨[], Nat.le_refl 0, fun x => by simp, tsR_fresh hget⟩
        case hR =>
          intro s' l2 hm hc' hm2 hS'
          obtain ⟨h', g2, d', tk', os'⟩ := s'
          have eg : g2 = s.gens := hm.gens
          have ed : d' = s.drawn := hm.drawn
          have eo : os' = s.os := hm.os
          subst eg; subst ed; subst eo
          show wpAny _ _ _ _ _ _
          refine wpAny_pure ?_
          show wpAny _ _ (ret Value.none) _ _ _
          rw [hisz] at hc'
          refine wpAny_pure ⟨rfl, h', tk', l2, rfl, hS', hm2, hc', fun b o e => ?_⟩
          have hb0 : b < s.heap.objs.size := Heap.lt_size e
          have hb1 : b ≠ s.heap.objs.size := Nat.ne_of_lt hb0
          have hb2 : b ≠ (s.heap.push { cls := .type "set", dict := none, data := .set #[] 0 (.fresh 0 0 (!w.params.followText "set-order")) }).objs.size := by
            rw [Heap.size_push]; exact Nat.ne_of_lt (Nat.lt_succ_of_lt hb0)
          exact hm.heap b o (by simp only [List.mem_cons, List.mem_singleton, List.not_mem_nil, or_false, not_or]; exact ⟨hb1, hb2⟩) (Heap.get?_push_of_some _ (Heap.get?_push_of_some _ e))

      · cases r₂ with
        | error e => exact hr₂
        | ok fl₂ =>
          cases fl₂ with
          | ret r =>
            obtain ⟨rfl, h', tk, l2, rfl, hS', hm2, hc', hk'⟩ := hr₂
            repeat (any_goals (first | assumption | wp_step))
            exact h _ _ _ hS' hm2 hc' hk'
          | _ => exact hr₂.elim
    | _ => exact hr.elim


set_option maxRecDepth 100000 in
set_option maxHeartbeats 3200000 in
theorem call_set_txL {l : Addr} {items : Array Value} (ns : List Str) {Q : Value → Shared → Prop} (hh : A.handled = none) (hl : s.heap.IsList l items) (hit : StrsAre items.toList ns) (hb : ns.length + 1 < scanBound)
    (h : ∀ (h' : Heap) (tk : Nat) (l2 : List Str), TsR P w h' s.heap.objs.size l2 → (∀ x, x ∈ l2 ↔ x ∈ ns) → l2.length ≤ ns.length → (∀ b o, s.heap.get? b = some o → h'.get? b = some o) → Q (.ref s.heap.objs.size) { s with heap := h', toks := tk }) :
    wpAny (model P w) A (call (.type "set") [.ref l]) Q E s := by
  have hisz : items.size = ns.length := by
    have q := StrsAre.len_eq hit
    rw [Array.length_toList] at q
    exact q
  obtain ⟨c, tl, hmro⟩ := F.called_set.mro
  have hmade := F.called_set.made
  have hsub := F.called_set.sub
  refine wpAny_call (codeAny_of_tree ?_)
  show wpAny _ _ (callAny (.type "set") _) _ _ _
  refine wpAny_pure ⟨Code.quiet_builtin _ (by decide +kernel), codeAny_builtin F.entry_type_call ?_⟩
  rw [Around.under_plain (weight_type_call_type "set" [.ref l] []) rfl]
  have h1 := F.called_set.notType
  have h2 := F.called_set.canCreate
  have hct := F.typeCall_set_1 (.ref l)
  repeat (any_goals (first | assumption | wp_step))

  refine codeAny_mono (code_set_led1 (.ref l) (E := E) (Q₁ := fun obj s₁ => obj = .ref s.heap.objs.size ∧ s₁ = { s with heap := s.heap.push { cls := .type "set", dict := none, data := .set #[] 0 (.fresh 0 0 (!w.params.followText "set-order")) } }) ⟨rfl, rfl⟩) fun r s₁ hr => ?_
  cases r with
  | error e => exact hr
  | ok fl =>
    cases fl with
    | ret obj =>
      obtain ⟨rfl, rfl⟩ := hr
      have hS : (s.heap.push { cls := .type "set", dict := none, data := .set #[] 0 (.fresh 0 0 (!w.params.followText "set-order")) }).get? s.heap.objs.size = some { cls := .type "set", dict := none, data := .set #[] 0 (.fresh 0 0 (!w.params.followText "set-order")) } := Heap.get?_push_size _ rfl
      have hT : Shared.TypeIs { s with heap := s.heap.push { cls := .type "set", dict := none, data := .set #[] 0 (.fresh 0 0 (!w.params.followText "set-order")) } } (.ref s.heap.objs.size) "set" := ⟨_, hS, rfl⟩
      have hli := F.called_set.init.lookup
      have hbi := F.called_set.init.bind (.ref s.heap.objs.size)
      repeat (any_goals (first | assumption | wp_step))

      refine codeAny_mono (codeAny_call_builtin (R := wants (fun r s₂ => r = .none ∧ ∃ h' tk l2, s₂ = { s with heap := h', toks := tk } ∧ TsR P w h' s.heap.objs.size l2 ∧ (∀ x, x ∈ l2 ↔ x ∈ ns) ∧ l2.length ≤ ns.length ∧
          (∀ b o, s.heap.get? b = some o → h'.get? b = some o)) E) F.called_set.init.plain F.entry_set_init (check_set_init_1 hT ?_)) fun r₂ s₂ hr₂ => ?_
      · obtain ⟨ol, hol, hcl, nl, hdl⟩ := hl
        obtain ⟨ocls, odict, odata, oslots⟩ := ol
        simp only at hcl hdl
        subst hcl; subst hdl
        have hol' : (s.heap.push { cls := .type "set", dict := none, data := .set #[] 0 (.fresh 0 0 (!w.params.followText "set-order")) }).get? l = some { cls := .type "list", dict := odict, data := .seq items nl, slots := oslots } := Heap.get?_push_of_some _ hol
        have hsls := F.sub_list_set
        have hslf := F.sub_list_frozenset
        have hne : (Value.type "list" == Value.type "dict") = false := by decide
        have hl1 : (s.heap.push { cls := .type "set", dict := none, data := .set #[] 0 (.fresh 0 0 (!w.params.followText "set-order")) }).IsList l items := ⟨_, hol', rfl, nl, rfl⟩
        unfold Builtin.«set.__init__» noKeywords Builtin.Frozenset.updateFrom
        generalize hPI : pyIter = PI
        wp_walk
        subst hPI

        refine wpAny_pyIter_list hl1 ?_
        refine wpAny_bind (wpAny_runValue ?_)
        have hlS : l < s.heap.objs.size := Heap.lt_size hol
        have hh3 : A.in1.in1.in1.handled = none := by simp [hh]
        have hz1 : (s.heap.push { cls := .type "set", dict := none, data := .set #[] 0 (.fresh 0 0 (!w.params.followText "set-order")) }).objs.size = s.heap.objs.size + 1 := Heap.size_push ..
        have hneI : l ≠ (s.heap.push { cls := .type "set", dict := none, data := .set #[] 0 (.fresh 0 0 (!w.params.followText "set-order")) }).objs.size := by
          rw [Heap.size_push]; exact Nat.ne_of_lt (Nat.lt_succ_of_lt hlS)
        have hSf : s.heap.objs.size ∉ [(s.heap.push { cls := .type "set", dict := none, data := .set #[] 0 (.fresh 0 0 (!w.params.followText "set-order")) }).objs.size, l] := by
          rw [Heap.size_push]; simp only [List.mem_cons, List.mem_singleton, List.not_mem_nil, or_false, not_or]
          exact ⟨Nat.ne_of_lt (Nat.lt_succ_self _), Nat.ne_of_gt hlS⟩
        have hval : ∀ (i : Nat) (v : Value), items[i]? = some v → ∃ k t, ns[i]? = some k ∧ v = .str k t := fun i v hv => by
          have hi : i < ns.length := by rw [← hisz]; exact (Array.getElem?_eq_some_iff.mp hv).1
          obtain ⟨t, e⟩ := SS.strs_at hit i v (by rw [Array.getElem?_toList]; exact hv)
          refine ⟨ns[i], t, List.getElem?_eq_getElem hi, ?_⟩
          rw [e, List.getD_eq_getElem?_getD, List.getElem?_eq_getElem hi] <;> rfl
        refine set_update_txt ((Walks.list hh3 _ l hneI items).toS) s.heap.objs.size
          hSf ns hisz hb hval (items.size - 0) 0 _ (by omega) (Nat.zero_le _)
          ⟨⟨_, Heap.get?_push_size _ rfl, rfl, rfl⟩, (hl1.push _)⟩ ?hS0 ?hR
        case hS0 =>
          have hget : ((s.heap.push { cls := .type "set", dict := none, data := .set #[] 0 (.fresh 0 0 (!w.params.followText "set-order")) }).push { cls := .type "list_iterator", data := .fields #[.ref l, .int 0 0] }).get? s.heap.objs.size
              = some { cls := .type "set", dict := none, data := .set #[] 0 (.fresh 0 0 (!w.params.followText "set-order")) } := Heap.get?_push_of_some _ hS
          exact ⟨[], Nat.le_refl 0, fun x => by simp, tsR_fresh hget⟩
        case hR =>
          intro s' l2 hm hc' hm2 hS'
          obtain ⟨h', g2, d', tk', os'⟩ := s'
          have eg : g2 = s.gens := hm.gens
          have ed : d' = s.drawn := hm.drawn
          have eo : os' = s.os := hm.os
          subst eg; subst ed; subst eo
          show wpAny _ _ _ _ _ _
          refine wpAny_pure ?_
          show wpAny _ _ (ret Value.none) _ _ _
          rw [hisz] at hc'
          refine wpAny_pure ⟨rfl, h', tk', l2, rfl, hS', hm2, hc', fun b o e => ?_⟩
          have hb0 : b < s.heap.objs.size := Heap.lt_size e
          have hb1 : b ≠ s.heap.objs.size := Nat.ne_of_lt hb0
          have hb2 : b ≠ (s.heap.push { cls := .type "set", dict := none, data := .set #[] 0 (.fresh 0 0 (!w.params.followText "set-order")) }).objs.size := by
            rw [Heap.size_push]; exact Nat.ne_of_lt (Nat.lt_succ_of_lt hb0)
          exact hm.heap b o (by simp only [List.mem_cons, List.mem_singleton, List.not_mem_nil, or_false, not_or]; exact ⟨hb1, hb2⟩) (Heap.get?_push_of_some _ (Heap.get?_push_of_some _ e))

      · cases r₂ with
        | error e => exact hr₂
        | ok fl₂ =>
          cases fl₂ with
          | ret r =>
            obtain ⟨rfl, h', tk, l2, rfl, hS', hm2, hc', hk'⟩ := hr₂
            repeat (any_goals (first | assumption | wp_step))
            exact h _ _ _ hS' hm2 hc' hk'
          | _ => exact hr₂.elim
    | _ => exact hr.elim

end
end Hs
set_option Elab.async false
set_option linter.all false
set_option maxRecDepth 100000
set_option maxHeartbeats 4000000
/-! the program's functions, plain -/
namespace Hs
open PySem PySem.Spec PyProof.Rows L2
structure Ed where
  nm : Str
  ver : Int
  has : List Str
  wants : List (Str × Int)
  asks : List (Str × Int)
  shuns : List Str
structure S3 where
  st : Str
  ver : Int
  done : Int
abbrev Rows := List (Str × S3)
abbrev strsD (xs : List Str) : PyData := .tuple (xs.map .str)
abbrev needD (n : Str × Int) : PyData := .tuple [.str n.1, .int n.2]
abbrev needsD (ns : List (Str × Int)) : PyData := .tuple (ns.map needD)
abbrev stD (s : S3) : PyData := .tuple [.str s.st, .int s.ver, .int s.done]
abbrev edD (e : Ed) : PyData := .tuple [.str e.nm, .int e.ver, strsD e.has, needsD e.wants, needsD e.asks, strsD e.shuns]
def findE (es : List Ed) (n : Str) (v : Int) : Option Ed := es.find? fun e => decide (e.nm = n) && decide (e.ver = v)
/-- statuses -/
abbrev sAb : Str := "absent"
abbrev sFa : Str := "failed"
abbrev sHa : Str := "half"
abbrev sLe : Str := "left"
abbrev sRe : Str := "ready"
abbrev sUn : Str := "unpacked"
abbrev allSt : List Str := [sAb, sFa, sHa, sLe, sRe, sUn]
abbrev thereSt : List Str := [sFa, sHa, sRe, sUn]
abbrev allScr : List Str := ["clean", "enter", "leave", "setup"]
abbrev dS : S3 := ⟨sAb, 0, 0⟩
abbrev dE : Ed := ⟨sAb, 0, [], [], [], []⟩
def rowAt (R : Rows) (n : Str) : S3 := (lk R n).getD dS
def edAt (es : List Ed) (n : Str) (v : Int) : Ed := (findE es n v).getD dE
def isState (es : List Ed) (n : Str) (s : S3) : Bool :=
  if decide (s.st = sAb) = true then decide (s.ver = 0) && decide (s.done = 0)
  else if (!decide (s.st ∈ allSt) || (!(findE es n s.ver).isSome || (!decide (s.done = 0) && !(findE es n s.done).isSome))) = true then false
  else !decide (s.st = sRe) || decide (s.done = s.ver)
def isThere (R : Rows) (n : Str) : Bool := (lk R n).isSome && decide ((rowAt R n).st ∈ thereSt)
def isMet (R : Rows) (n : Str) (l : Int) : Bool := (lk R n).isSome && (decide ((rowAt R n).st = sRe) && decide (l ≤ (rowAt R n).ver))
def lacks (R : Rows) (needs : List (Str × Int)) : Bool := needs.any fun n => !isMet R n.1 n.2
def edIn (es : List Ed) (R : Rows) (n : Str) : Ed := edAt es n (rowAt R n).ver
def hostAt (es : List Ed) (R : Rows) (e : Ed) (n : Str) : Bool := (!decide (n = e.nm) && isThere R n) && (decide (n ∈ e.shuns) || decide (e.nm ∈ (edIn es R n).shuns))
def hostile (es : List Ed) (R : Rows) (e : Ed) : Bool := R.any fun r => hostAt es R e r.1
def soundAt (es : List Ed) (R : Rows) (n : Str) (s : S3) : Bool :=
  !decide (s.st ∈ [sFa, sHa, sUn]) && (!decide (s.st = sRe) || !(lacks R (edIn es R n).wants || hostile es R (edIn es R n)))
def isSound (es : List Ed) (R : Rows) : Bool := R.all fun r => soundAt es R r.1 r.2
/-- names in their order -/
def ltS (a b : Str) : Bool := decide (a.cps.toList < b.cps.toList)
inductive Asc : List Str → Prop
  | nil : Asc []
  | cons {x : Str} {xs : List Str} : (∀ y ∈ xs, ltS x y = true) → Asc xs → Asc (x :: xs)
def strOk1 (x : Str) : Bool := x.cps.all (· < 0x110000)
structure EsOk (es : List Ed) (ns : List Str) : Prop where
  asc : Asc ns
  few : ns.length ≤ 3
  pos : 0 < es.length
  le : es.length ≤ 12
  nd : (es.map fun e => (e.nm, e.ver)).Nodup
  mem : ∀ e ∈ es, e.nm ∈ ns
  has : ∀ n ∈ ns, ∃ e ∈ es, e.nm = n
  few2 : ∀ e ∈ es, e.wants.length ≤ 10 ∧ e.asks.length ≤ 10
structure RowsOk (es : List Ed) (ns : List Str) (R : Rows) : Prop where
  keys : R.map Prod.fst = ns
  ok : ∀ r ∈ R, isState es r.1 r.2 = true
/-! what is refused -/
def unpackOk (es : List Ed) (R : Rows) (n : Str) (v : Int) : Bool := (findE es n v).isSome && (!(decide ((rowAt R n).st ∈ [sFa, sRe, sUn]) && decide ((rowAt R n).ver = v)) && (!lacks R (edAt es n v).asks && !hostile es R (edAt es n v)))
def setupOk (es : List Ed) (R : Rows) (n : Str) : Bool := decide ((rowAt R n).st ∈ [sFa, sUn]) && !lacks R (edIn es R n).wants
def removeOk (es : List Ed) (R : Rows) (n : Str) : Bool := isThere R n && R.all fun r => !(decide ((rowAt R r.1).st = sRe) && decide (n ∈ (edIn es R r.1).wants.map Prod.fst))
inductive Deed where
  | unpack (n : Str) (v : Int)
  | setup (n : Str)
  | remove (n : Str)
  | purge (n : Str)
def Deed.d : Deed → PyData
  | .unpack n v => .tuple [.str "unpack", .str n, .int v]
  | .setup n => .tuple [.str "setup", .str n]
  | .remove n => .tuple [.str "remove", .str n]
  | .purge n => .tuple [.str "purge", .str n]
def Deed.nm : Deed → Str
  | .unpack n _ | .setup n | .remove n | .purge n => n
def allowed (es : List Ed) (R : Rows) : Deed → Bool
  | .unpack n v => unpackOk es R n v
  | .setup n => (lk R n).isSome && setupOk es R n
  | .remove n => (lk R n).isSome && removeOk es R n
  | .purge n => (lk R n).isSome && decide ((rowAt R n).st = sLe)
/-! the run: what a call gives and how many calls were made -/
abbrev M (α : Type) := Nat → α × Nat
def isDone (es : List Ed) (fails : List Int) (n : Str) (v : Int) (sc : Str) : M Bool := fun m => if sc ∈ (edAt es n v).has then (!decide ((m : Int) ∈ fails), m + 1) else (true, m)
section
variable (es : List Ed) (fails : List Int) (n : Str)
def putBack (s : S3) (st : Str) : M S3 := fun m => let r := isDone es fails n s.ver "setup" m
  if r.1 then (s, r.2) else (⟨st, s.ver, s.done⟩, r.2)
def givenUp (s : S3) (new : Int) : M S3 := fun m => let r := isDone es fails n new "clean" m
  if r.1 then (if s.st ∈ [sFa, sRe] then putBack es fails n s sUn r.2 else (s, r.2)) else (⟨sHa, s.ver, s.done⟩, r.2)
def isLeft (old new : Int) : M Bool := fun m => let r := isDone es fails n old "leave" m
  if r.1 then (true, r.2) else isDone es fails n new "leave" r.2
def overGo (s : S3) (new : Int) : M S3 := fun m => let r := isDone es fails n new "enter" m
  if r.1 then (let r2 := isDone es fails n s.ver "clean" r.2
    if r2.1 then (⟨sUn, new, s.done⟩, r2.2) else (let r3 := isDone es fails n new "clean" r2.2
      if r3.1 then (⟨sUn, new, s.done⟩, r3.2) else (let r4 := isDone es fails n s.ver "enter" r3.2
        if r4.1 then givenUp es fails n s new r4.2 else (⟨sHa, s.ver, s.done⟩, r4.2))))
  else givenUp es fails n s new r.2
def unpackedOver (s : S3) (new : Int) : M S3 := fun m =>
  if s.st ∈ [sFa, sRe] then (let r := isLeft es fails n s.ver new m
    if r.1 then overGo es fails n s new r.2 else putBack es fails n s sFa r.2)
  else overGo es fails n s new m
def unpackedNew (s : S3) (new : Int) : M S3 := fun m => let r := isDone es fails n new "enter" m
  if r.1 then (⟨sUn, new, s.done⟩, r.2) else (let r2 := isDone es fails n new "clean" r.2
    if r2.1 then (s, r2.2) else (⟨sHa, new, s.done⟩, r2.2))
def setUp (s : S3) : M S3 := fun m => let r := isDone es fails n s.ver "setup" m
  if r.1 then (⟨sRe, s.ver, s.ver⟩, r.2) else (⟨sFa, s.ver, s.done⟩, r.2)
def removedGo (s : S3) : M S3 := fun m => let r := isDone es fails n s.ver "clean" m
  (⟨if r.1 then sLe else sHa, s.ver, s.done⟩, r.2)
def removed (s : S3) : M S3 := fun m =>
  if s.st ∈ [sFa, sRe] then (let r := isDone es fails n s.ver "leave" m
    if r.1 then removedGo es fails n s r.2 else (let r2 := isDone es fails n s.ver "setup" r.2
      if r2.1 then (s, r2.2) else (⟨sFa, s.ver, s.done⟩, r2.2)))
  else removedGo es fails n s m
def purged (s : S3) : M S3 := fun m => let r := isDone es fails n s.ver "clean" m
  if r.1 then (⟨sAb, 0, 0⟩, r.2) else (s, r.2)
end
def stateBehind (es : List Ed) (fails : List Int) (R : Rows) (d : Deed) : M S3 := fun m => match d with
  | .unpack n v => if (!decide ((rowAt R n).st ∈ thereSt) || decide ((rowAt R n).st = sHa)) = true then unpackedNew es fails n (rowAt R n) v m else unpackedOver es fails n (rowAt R n) v m
  | .setup n => setUp es fails n (rowAt R n) m
  | .remove n => removed es fails n (rowAt R n) m
  | .purge n => purged es fails n (rowAt R n) m
def putR (R : Rows) (n : Str) (s : S3) : Rows := R.map fun r => if r.1 = n then (r.1, s) else r
def runR (es : List Ed) (fails : List Int) (R : Rows) (d : Deed) : Rows × Nat := let r := stateBehind es fails R d 0
  (putR R d.nm r.1, r.2)
end Hs
set_option Elab.async false
set_option linter.all false
set_option maxRecDepth 100000
set_option maxHeartbeats 4000000
/-! plain lemmas -/
namespace Hs
open PySem PySem.Spec PyProof.Rows L2
theorem any_filter {α : Type} (p : α → Bool) : ∀ xs : List α, (!(xs.filter p).isEmpty) = xs.any p
  | [] => rfl
  | x :: xs => by
    rw [List.filter_cons, List.any_cons]
    cases h : p x with
    | true => rfl
    | false =>
      rw [if_neg (by decide), Bool.false_or]
      exact any_filter p xs
theorem emp_map {α β : Type} {f : α → β} : ∀ {xs : List α}, (xs.map f).isEmpty = xs.isEmpty
  | [] => rfl
  | _ :: _ => rfl
theorem lack_b {R : Rows} {needs : List (Str × Int)} {b : Bool} (h : (!(List.map PyData.str (List.map (fun x => x.fst) (List.filter (fun x => !isMet R x.fst x.snd) needs))).isEmpty) = b) : lacks R needs = b := by
  rw [emp_map, emp_map, any_filter] at h
  exact h
theorem emp_pos {α : Type} {xs : List α} (h : (!xs.isEmpty) = true) : 0 < xs.length := by
  cases xs with
  | nil => cases h
  | cons x xs => exact Nat.succ_pos _
theorem emp_posM {α β : Type} {f : α → β} {xs : List α} (h : (!(xs.map f).isEmpty) = true) : 0 < xs.length := by
  rw [emp_map] at h
  exact emp_pos h
theorem ltS_irr (a : Str) : ltS a a = false := by
  unfold ltS
  exact decide_eq_false (List.lt_irrefl _)
theorem Asc.nodup : ∀ {xs : List Str}, Asc xs → xs.Nodup
  | _, .nil => List.nodup_nil
  | _, .cons h t => List.nodup_cons.mpr ⟨fun m => Bool.noConfusion ((ltS_irr _).symm.trans (h _ m)), t.nodup⟩
theorem lk_mem {α κ : Type} [DecidableEq κ] : ∀ {R : List (κ × α)} {r : κ × α}, (R.map Prod.fst).Nodup → r ∈ R → lk R r.1 = some r.2
  | [], _, _, h => by cases h
  | q :: R, r, nd, h => by
    unfold lk
    rw [List.find?_cons]
    rcases List.mem_cons.mp h with e | h
    · subst e
      rw [decide_eq_true rfl]
      rfl
    · have nd' := List.nodup_cons.mp nd
      have : ¬ q.1 = r.1 := fun e => nd'.1 (by rw [e]; exact List.mem_map_of_mem h)
      rw [decide_eq_false this]
      exact lk_mem nd'.2 h
theorem lk_some {α κ : Type} [DecidableEq κ] {R : List (κ × α)} {k : κ} {s : α} (h : lk R k = some s) : (k, s) ∈ R := by
  unfold lk at h
  cases h2 : R.find? (fun r => decide (r.1 = k)) with
  | none => rw [h2] at h; cases h
  | some q =>
    rw [h2] at h
    cases h
    have h3 := List.find?_some h2
    have h4 := List.mem_of_find?_eq_some h2
    have e : q.1 = k := of_decide_eq_true h3
    subst e
    exact h4
theorem lk_isSome {α κ : Type} [DecidableEq κ] {R : List (κ × α)} {k : κ} : (lk R k).isSome = true ↔ k ∈ R.map Prod.fst := by
  constructor
  · intro h
    cases h2 : lk R k with
    | none => rw [h2] at h; cases h
    | some s => exact List.mem_map_of_mem (f := Prod.fst) (lk_some h2)
  · intro h
    obtain ⟨q, hq, e⟩ := List.mem_map.mp h
    unfold lk
    cases h2 : R.find? (fun r => decide (r.1 = k)) with
    | none =>
      have := List.find?_eq_none.mp h2 q hq
      simp [e] at this
    | some s => rfl
theorem RowsOk.nd {es : List Ed} {ns : List Str} {R : Rows} (he : EsOk es ns) (h : RowsOk es ns R) : (R.map Prod.fst).Nodup := by rw [h.keys]; exact he.asc.nodup
theorem RowsOk.rowAt {es : List Ed} {ns : List Str} {R : Rows} (he : EsOk es ns) (h : RowsOk es ns R) {r : Str × S3} (hr : r ∈ R) : rowAt R r.1 = r.2 := by
  unfold Hs.rowAt
  rw [lk_mem (h.nd he) hr]
  rfl
theorem RowsOk.some {es : List Ed} {ns : List Str} {R : Rows} (h : RowsOk es ns R) {r : Str × S3} (hr : r ∈ R) : (lk R r.1).isSome = true := lk_isSome.mpr (List.mem_map_of_mem hr)
theorem RowsOk.state {es : List Ed} {ns : List Str} {R : Rows} (h : RowsOk es ns R) {n : Str} (hn : (lk R n).isSome = true) : isState es n (Hs.rowAt R n) = true := by
  unfold Hs.rowAt
  cases h2 : lk R n with
  | none => rw [h2] at hn; cases hn
  | some s => exact h.ok _ (lk_some h2)
theorem isState_found {es : List Ed} {n : Str} {s : S3} (h : isState es n s = true) (hs : ¬ s.st = sAb) : (findE es n s.ver).isSome = true := by
  unfold isState at h
  rw [if_neg (by rw [decide_eq_false hs]; decide)] at h
  cases h2 : (findE es n s.ver).isSome with
  | true => rfl
  | false =>
    rw [h2] at h
    simp at h
theorem RowsOk.found {es : List Ed} {ns : List Str} {R : Rows} (h : RowsOk es ns R) {n : Str} (hn : (lk R n).isSome = true) (hs : ¬ (Hs.rowAt R n).st = sAb) : (findE es n (Hs.rowAt R n).ver).isSome = true := isState_found (h.state hn) hs
theorem there_na {st : Str} (h : st ∈ thereSt) : ¬ st = sAb := by
  intro e
  subst e
  revert h
  decide +kernel
theorem RowsOk.foundT {es : List Ed} {ns : List Str} {R : Rows} (h : RowsOk es ns R) {n : Str} (ht : isThere R n = true) : (lk R n).isSome = true ∧ (findE es n (Hs.rowAt R n).ver).isSome = true := by
  unfold isThere at ht
  obtain ⟨h1, h2⟩ := Bool.and_eq_true_iff.mp ht
  exact ⟨h1, h.found h1 (there_na (of_decide_eq_true h2))⟩
theorem findE_mem {es : List Ed} {n : Str} {v : Int} (h : (findE es n v).isSome = true) : edAt es n v ∈ es ∧ (edAt es n v).nm = n ∧ (edAt es n v).ver = v := by
  unfold edAt
  cases h2 : findE es n v with
  | none => rw [h2] at h; cases h
  | some e =>
    unfold findE at h2
    have h3 := List.find?_some h2
    have h4 := Bool.and_eq_true_iff.mp h3
    exact ⟨List.mem_of_find?_eq_some h2, of_decide_eq_true h4.1, of_decide_eq_true h4.2⟩
theorem RowsOk.inNs {es : List Ed} {ns : List Str} {R : Rows} (he : EsOk es ns) (h : RowsOk es ns R) {n : Str} {v : Int} (hf : (findE es n v).isSome = true) : (lk R n).isSome = true := by
  have h1 := findE_mem hf
  have h2 := he.mem _ h1.1
  rw [h1.2.1] at h2
  exact lk_isSome.mpr (by rw [h.keys]; exact h2)
theorem RowsOk.few {es : List Ed} {ns : List Str} {R : Rows} (he : EsOk es ns) (h : RowsOk es ns R) : R.length ≤ 3 := by
  have := he.few
  rw [← h.keys, List.length_map] at this
  exact this
theorem shaped_ab (v d : Int) : SeqAt.shaped (.tuple [.str sAb, .int v, .int d]) = true := by
  unfold SeqAt.shaped
  have : PyData.strOk sAb = true := by decide +kernel
  simp [PyData.canLay0, PyData.canLayAll0, PyData.depth, PyData.depthAll, this]
theorem eqv_st (v d : Int) : PyData.eqv (.tuple [.str sAb, .int v, .int d]) (.tuple [.str sAb, .int 0, .int 0]) = (decide (v = 0) && decide (d = 0)) := by
  simp only [PyData.eqv, PyData.eqvAll]
  rw [Bool.eq_iff_iff]
  simp
theorem st_ab {s : S3} (h : decide (s.st = sAb) = true) : stD s = .tuple [.str sAb, .int s.ver, .int s.done] := by rw [← of_decide_eq_true h]
theorem isState_ab {es : List Ed} {n : Str} {s : S3} (h : decide (s.st = sAb) = true) : isState es n s = (decide (s.ver = 0) && decide (s.done = 0)) := by
  unfold isState
  rw [if_pos h]
theorem not_f {b : Bool} (h : (!b) = false) : b = true := by
  cases b with
  | true => rfl
  | false => cases h
theorem not_t {b : Bool} (h : (!b) = true) : b = false := by
  cases b with
  | false => rfl
  | true => cases h
theorem take_one {α : Type} {xs : List α} {i : Nat} {x : α} (h : xs[i]? = some x) : xs.take (i + 1) = xs.take i ++ [x] := by
  have hi : i < xs.length := (List.getElem?_eq_some_iff.mp h).1
  rw [List.take_succ_eq_append_getElem hi, (List.getElem?_eq_some_iff.mp h).2]
theorem filt_yes {α : Type} {p : α → Bool} {xs : List α} {i : Nat} {x : α} (h : xs[i]? = some x) (hp : p x = true) : (xs.take (i + 1)).filter p = (xs.take i).filter p ++ [x] := by
  rw [take_one h, List.filter_append, List.filter_cons_of_pos hp, List.filter_nil]
theorem filt_no {α : Type} {p : α → Bool} {xs : List α} {i : Nat} {x : α} (h : xs[i]? = some x) (hp : p x = false) : (xs.take (i + 1)).filter p = (xs.take i).filter p := by
  rw [take_one h, List.filter_append, List.filter_cons_of_neg (by rw [hp]; decide), List.filter_nil, List.append_nil]
theorem filt_len {α : Type} {p : α → Bool} {xs : List α} {i n : Nat} (h : xs.length ≤ n) : ((xs.take i).filter p).length ≤ n := Nat.le_trans (List.length_filter_le _ _) (Nat.le_trans (by rw [List.length_take]; omega) h)
theorem all_take {α : Type} {p : α → Bool} {xs : List α} (h : ∀ (i : Nat) (x : α), xs[i]? = some x → i < xs.length → p x = true) : xs.all p = true := List.all_eq_true.mpr fun x hx => by
  obtain ⟨i, hi, e⟩ := List.getElem_of_mem hx
  exact h i x (by rw [List.getElem?_eq_getElem hi, e]) hi
theorem all_not {α : Type} {p : α → Bool} {xs : List α} {i : Nat} {x : α} (h : xs[i]? = some x) (hp : p x = false) : xs.all p = false := by
  cases ha : xs.all p with
  | false => rfl
  | true =>
    have := List.all_eq_true.mp ha x (List.mem_of_getElem? h)
    rw [hp] at this
    cases this
theorem filt_true {α : Type} (xs : List α) : xs.filter (fun _ => true) = xs := by simp
end Hs
set_option Elab.async false
set_option linter.all false
set_option maxRecDepth 100000
set_option maxHeartbeats 4000000
/-! the objects by their facts; more rules -/
namespace Hs
open PySem PySem.Spec PyProof.Rows L2 StX
theorem pe_gs {X : Cx} {x z : Str} {pos : Pos} (hg : Gl X x) (h : ∃ t, X.mg x = some (.str z t)) (hd : (x == ("__debug__" : Str)) = false := by decide) : PE X (.Name x pos) (tC (.str z)) := by
  obtain ⟨t, h⟩ := h
  exact pe_glob hg h ⟨t, rfl⟩ hd
theorem pe_gi {X : Cx} {x : Str} {i : Int} {pos : Pos} (hg : Gl X x) (h : ∃ t, X.mg x = some (.int i t)) (hd : (x == ("__debug__" : Str)) = false := by decide) : PE X (.Name x pos) (tC (.int i)) := by
  obtain ⟨t, h⟩ := h
  exact pe_glob hg h ⟨t, rfl⟩ hd
section
variable {X : Cx} {e l tg : Expr} {f : Str} {ta tl : TE} {pos : Pos} {es : List Expr} {k n : Nat} {t : TGs}
theorem ix_tupK (K : PySem.W.Frag) (h : X.K = K := by rfl) : IxR X (rIxT K) := h ▸ ix_tup
theorem ix_listK (K : PySem.W.Frag) (h : X.K = K := by rfl) : IxR X (rIxL K) := h ▸ ix_list
theorem sl_tupK (K : PySem.W.Frag) (h : X.K = K := by rfl) : SlR X (rSlT K) := h ▸ sl_tup
theorem sl_tupAK (K : PySem.W.Frag) (h : X.K = K := by rfl) : SlR X (rSlA K) := h ▸ sl_tupA
theorem sl_listK (K : PySem.W.Frag) (h : X.K = K := by rfl) : SlR X (rSlL K) := h ▸ sl_list
theorem op_inK (K : PySem.W.Frag) (h : X.K = K := by rfl) : OpR X (compareOp .In) (rIn K false) := h ▸ op_in_seq
theorem op_niK (K : PySem.W.Frag) (h : X.K = K := by rfl) : OpR X (compareOp .NotIn) (rIn K true) := h ▸ op_notIn_seq
theorem op_eqDK (K : PySem.W.Frag) (hu : X.A.units + 64 < cLine) (h : X.K = K := by rfl) : OpR X (compareOp .Eq) (rEqD K) := h ▸ op_eqD hu
theorem op_neDK (K : PySem.W.Frag) (hu : X.A.units + 64 < cLine) (h : X.K = K := by rfl) : OpR X (compareOp .NotEq) (rNeD K) := h ▸ op_neD hu
theorem op_notInDK (K : PySem.W.Frag) (hu : X.A.units + 65 < cLine) (h : X.K = K := by rfl) : OpR X (compareOp .NotIn) (rNotInD K) := h ▸ op_notInD hu
theorem pe_fldK (K : PySem.W.Frag) (he : PE X e ta) (hb : attributeBase e f X.env (eval e X.env) = eval e X.env) (h : X.K = K := by rfl) : PE X (.Attribute e f pos) (tFld K ta f) := h ▸ pe_fld he hb
theorem pi_listK (K : PySem.W.Frag) (hl : PE X l tl) (h : X.K = K := by rfl) : PI X tg l (iList K tl) := h ▸ pi_list hl
theorem pi_tupK (K : PySem.W.Frag) (hl : PE X l tl) (h : X.K = K := by rfl) : PI X tg l (iTup K tl) := h ▸ pi_tup hl
theorem pg_tupK (K : PySem.W.Frag) (hc : X.calm = true) (hg : PGs X es t) (h : X.K = K := by rfl) (hn : (assignEach es X.env).length = n := by rfl) (hst : (assignEach es X.env).findIdx? (·.1) = none := by rfl) : PG X (.Tuple es k pos) (gTup K n t) := h ▸ pg_tup hc hg hn hst
end
abbrev ObA (a C : Addr) (fs : List (Str × Fm)) : Fm := ⟨fun S v H => v = .ref a ∧ ¬ S a ∧ ∃ dx ws, H a = some (.ins C dx ((fs.map Prod.fst).zip ws)) ∧ Ins S (fs.map Prod.snd) ws H,
  fun e ⟨h1, hs, dx, ws, h2, h3⟩ => ⟨h1, hs, dx, ws, LE.ins e hs h2, Ins.le e h3⟩, fun hl ⟨h1, hs, dx, ws, h2, h3⟩ => ⟨h1, not_in hl hs h2, dx, ws, h2, h3.lift hl⟩⟩
theorem oba_ob {a C : Addr} {fs : List (Str × Fm)} : ∀ S v H, (ObA a C fs).p S v H → (Ob C fs).p S v H := fun S v H ⟨h1, hs, dx, ws, h2, h3⟩ => ⟨a, dx, ws, h1, hs, h2, h3⟩
section
variable (K : PySem.W.Frag)
abbrev Edn (e : Ed) : Fm := Ob (C_Edition K) [("label", Is K (.str e.nm)), ("number", Is K (.int e.ver)), ("has", Is K (strsD e.has)), ("wants", Is K (needsD e.wants)), ("asks", Is K (needsD e.asks)), ("shuns", Is K (strsD e.shuns))]
abbrev knownF (es : List Ed) : List (List Key × Fm) := es.map fun e => ([.inr e.nm, .inl e.ver], Edn K e)
abbrev Sto (sa : Addr) (es : List Ed) : Fm := ObA sa (C_Store K) [("known", DctT (knownF K es))]
abbrev rowsF (R : Rows) : List (Key × Fm) := R.map fun r => (.inr r.1, Is K (stD r.2))
abbrev Sys (sa : Addr) (es : List Ed) (R : Rows) : Fm := Ob (C_System K) [("base", Sto K sa es), ("rows", Dct (rowsF K R))]
end
theorem lk_rows {K : PySem.W.Frag} {n : Str} : ∀ {R : Rows}, lk (rowsF K R) (.inr n) = (lk R n).map fun s => Is K (stD s)
  | [] => rfl
  | r :: R => by
    have ih := lk_rows (K := K) (n := n) (R := R)
    unfold lk at ih ⊢
    rw [show rowsF K (r :: R) = (.inr r.1, Is K (stD r.2)) :: rowsF K R from rfl, List.find?_cons, List.find?_cons]
    by_cases h : r.1 = n
    · subst h
      rw [decide_eq_true rfl, decide_eq_true rfl]
      rfl
    · rw [decide_eq_false h, decide_eq_false (fun z => h (Sum.inr.inj z))]
      exact ih
theorem lk_known {K : PySem.W.Frag} {n : Str} {v : Int} : ∀ {es : List Ed}, lk (knownF K es) [.inr n, .inl v] = (findE es n v).map (Edn K)
  | [] => rfl
  | e :: es => by
    have ih := lk_known (K := K) (n := n) (v := v) (es := es)
    unfold lk findE at ih ⊢
    rw [show knownF K (e :: es) = ([.inr e.nm, .inl e.ver], Edn K e) :: knownF K es from rfl, List.find?_cons, List.find?_cons]
    by_cases h : e.nm = n ∧ e.ver = v
    · obtain ⟨rfl, rfl⟩ := h
      rw [decide_eq_true rfl, decide_eq_true rfl, decide_eq_true rfl]
      rfl
    · rw [decide_eq_false (fun z => h (by injection z with z1 z2; injection z2 with z2 _; exact ⟨Sum.inr.inj z1, Sum.inl.inj z2⟩))]
      have : (decide (e.nm = n) && decide (e.ver = v)) = false := by
        cases h1 : (decide (e.nm = n) && decide (e.ver = v)) with
        | false => rfl
        | true =>
          have := Bool.and_eq_true_iff.mp h1
          exact absurd ⟨of_decide_eq_true this.1, of_decide_eq_true this.2⟩ h
      rw [this]
      exact ih
section
variable {S : AS} {K : PySem.W.Frag} {Γ Δ : Ctx} {I J L M : IV S} {ta tb tc te td ty : TE} {t : TA} {φ ψ χ ξ : Fm} {φs ψs fs : List Fm} {R : VK} {N : L2.St → Hp → Prop} {C a : Addr} {m : Str}
theorem ge_fldA {fs : List (Str × Fm)} {f : Str} (ho : GE S Γ I te (ObA a C fs) J) (cl : Cls K C) (na : NoAttr K C f) (h : fs.lookup f = some ψ) : GE S Γ I (tFld K te f) ψ J := ge_fld (ho.wk fun v H _ p => oba_ob _ _ _ p) cl na h
theorem ge_rget {R : Rows} {n : Str} (ho : GE S Γ I td (Dct (rowsF K R)) J) (hk : GE S Γ J ty (Is K (.str n)) L) (h : (lk R n).isSome = true) : GE S Γ I (tDGet td ty) (Is K (stD (rowAt R n))) L := ge_dget (k := .inr n) ho hk (by
  rw [lk_rows]
  unfold rowAt
  cases h2 : lk R n with
  | none => rw [h2] at h; cases h
  | some s => rfl)
theorem ge_rin {R : Rows} {n : Str} (hk : GE S Γ I ty (Is K (.str n)) J) (ho : GE S Γ J td (Dct (rowsF K R)) L) : GE S Γ I (tDIn ty td) (Is K (.bool (lk R n).isSome)) L := by
  have := ge_din (k := .inr n) hk ho
  rw [lk_rows] at this
  cases h2 : lk R n with
  | none => rw [h2] at this; exact this
  | some s => rw [h2] at this; exact this
theorem ge_rnin {R : Rows} {n : Str} (hk : GE S Γ I ty (Is K (.str n)) J) (ho : GE S Γ J td (Dct (rowsF K R)) L) : GE S Γ I (tDNotIn ty td) (Is K (.bool (!(lk R n).isSome))) L := by
  have := ge_dnotin (k := .inr n) hk ho
  rw [lk_rows] at this
  cases h2 : lk R n with
  | none => rw [h2] at this; exact this
  | some s => rw [h2] at this; exact this
theorem ge_kget {es : List Ed} {n : Str} {v : Int} (ho : GE S Γ I td (DctT (knownF K es)) J) (hk : GE S Γ J ty (KeyT [.inr n, .inl v]) L) (h : (findE es n v).isSome = true) : GE S Γ I (tDGet td ty) (Edn K (edAt es n v)) L := ge_dgetT ho hk (by
  rw [lk_known]
  unfold edAt
  cases h2 : findE es n v with
  | none => rw [h2] at h; cases h
  | some s => rfl)
theorem ge_kin {es : List Ed} {n : Str} {v : Int} (hk : GE S Γ I ty (KeyT [.inr n, .inl v]) J) (ho : GE S Γ J td (DctT (knownF K es)) L) : GE S Γ I (tDIn ty td) (Is K (.bool (findE es n v).isSome)) L := by
  have := ge_dinT (K := K) hk ho
  rw [lk_known] at this
  cases h2 : findE es n v with
  | none => rw [h2] at this; exact this
  | some s => rw [h2] at this; exact this
theorem ge_tupK2 {n : Str} {v : Int} (h : GA S Γ I t [Is K (.str n), Is K (.int v)] J) : GE S Γ I (tTup t) (KeyT [.inr n, .inl v]) J := ge_tupK (K := K) (ks := [.inr n, .inl v]) h (.cons (.cons .nil)) (by show 2 ≤ 1000; decide)
/-- a tuple of the written part -/
theorem ge_kt {x : Str} {vs : List V} {ds : List PyData} (h : KTup K x vs) (hd : ∀ H, DaAll S K H vs ds) : GE S Γ I (tC (.ref (He.ga K x))) (Is K (.tuple ds)) I := ge_c fun H => .tup (h S H) (hd H)
theorem da4 {H : Hp} {a b c d : Str} : DaAll S K H [.str a, .str b, .str c, .str d] ([a, b, c, d].map .str) := .cons (.str _) (.cons (.str _) (.cons (.str _) (.cons (.str _) .nil)))
theorem da6 {H : Hp} {a b c d e f : Str} : DaAll S K H [.str a, .str b, .str c, .str d, .str e, .str f] ([a, b, c, d, e, f].map .str) := .cons (.str _) (.cons (.str _) (.cons (.str _) (.cons (.str _) (.cons (.str _) (.cons (.str _) .nil)))))
theorem daN {H : Hp} {a : Str} {b c : Int} : DaAll S K H [.str a, .int b, .int c] [.str a, .int b, .int c] := .cons (.str _) (.cons (.int _) (.cons (.int _) .nil))
theorem ge_tupS1 {a : Str} (h : GA S Γ I t [Is K (.str a)] J) : GE S Γ I (tTup t) (Is K (strsD [a])) J := ge_tupD h (.cons .nil) (by show 1 ≤ 1000; decide)
theorem ge_tupS2 {a b : Str} (h : GA S Γ I t [Is K (.str a), Is K (.str b)] J) : GE S Γ I (tTup t) (Is K (strsD [a, b])) J := ge_tupD h (.cons (.cons .nil)) (by show 2 ≤ 1000; decide)
theorem ge_tupS3 {a b c : Str} (h : GA S Γ I t [Is K (.str a), Is K (.str b), Is K (.str c)] J) : GE S Γ I (tTup t) (Is K (strsD [a, b, c])) J := ge_tupD h (.cons (.cons (.cons .nil))) (by show 3 ≤ 1000; decide)
theorem ge_tupS4 {a b c d : Str} (h : GA S Γ I t [Is K (.str a), Is K (.str b), Is K (.str c), Is K (.str d)] J) : GE S Γ I (tTup t) (Is K (strsD [a, b, c, d])) J := ge_tupD h (.cons (.cons (.cons (.cons .nil)))) (by show 4 ≤ 1000; decide)
theorem gs_retIf {P : Bool → Prop} {tt : TT} {w : L2.St → Hp → Prop} (hc : GT S Γ I tt P J) (ha : P true → GS S Γ J (tRet ta) R w) (hb : P false → GS S Γ J (tRet tb) R w) : GS S Γ I (tRet (tIf tt ta tb)) R w := fun σ H e hi D r n => hc σ H e hi _ fun b H1 l1 j1 p1 => by
  cases b with
  | true =>
    rw [if_pos rfl]
    exact ha p1 σ H1 (e.xe l1) j1 D (fun v H' l p => r v H' (l1.trans l) p) fun σ' H' l p => n σ' H' (l1.trans l) p
  | false =>
    rw [if_neg (by decide)]
    exact hb p1 σ H1 (e.xe l1) j1 D (fun v H' l p => r v H' (l1.trans l) p) fun σ' H' l p => n σ' H' (l1.trans l) p
/-- return, by data -/
theorem gs_retD {d d' : PyData} {w : L2.St → Hp → Prop} {k : Ctr S} (h : GE S Γ I te (Is K d) k.J) (ho : k.out = Is K d') (e : d = d') : GS S Γ I (tRet te) (Rk k) w := gs_ret h fun v H hj hp => ⟨by rw [ho, ← e]; exact hp, hj⟩
theorem gs_retDS {d d' : PyData} {w : L2.St → Hp → Prop} {u : TS} {k : Ctr S} (h : GE S Γ I te (Is K d) k.J) (ho : k.out = Is K d') (e : d = d') : GS S Γ I (tSeq (tRet te) u) (Rk k) w := gs_retS h fun v H hj hp => ⟨by rw [ho, ← e]; exact hp, hj⟩
theorem gs_retF {w : L2.St → Hp → Prop} {k : Ctr S} (h : GE S Γ I te k.out k.J) : GS S Γ I (tRet te) (Rk k) w := gs_ret h fun v H hj hp => ⟨hp, hj⟩
theorem gs_retFS {w : L2.St → Hp → Prop} {u : TS} {k : Ctr S} (h : GE S Γ I te k.out k.J) : GS S Γ I (tSeq (tRet te) u) (Rk k) w := gs_retS h fun v H hj hp => ⟨hp, hj⟩
theorem gc_isiInt {n : Int} : GC S I (rIsi K) [Is K (.int n), Eqv (.ty "int")] (Is K (.bool true)) I := fun vs H hi h Q q => by
  obtain ⟨v, ws, rfl, h1, w, ws', rfl, h2, rfl⟩ := h
  obtain rfl := Da.int_of h1
  obtain rfl : w = .ty "int" := h2
  exact ⟨_, _, .type "int", .type "int", true, rfl, .ty _, .base (.int _), kit_ty (by decide +kernel), q _ H (XE.refl S H) hi (.bl _)⟩
theorem gc_isiBool {n : Int} : GC S I (rIsi K) [Is K (.int n), Eqv (.ty "bool")] (Is K (.bool false)) I := fun vs H hi h Q q => by
  obtain ⟨v, ws, rfl, h1, w, ws', rfl, h2, rfl⟩ := h
  obtain rfl := Da.int_of h1
  obtain rfl : w = .ty "bool" := h2
  exact ⟨_, _, .type "int", .type "bool", false, rfl, .ty _, .base (.int _), kit_ty (by decide +kernel), q _ H (XE.refl S H) hi (.bl _)⟩
theorem gc_isiStr {n : Str} : GC S I (rIsi K) [Is K (.str n), Eqv (.ty "str")] (Is K (.bool true)) I := fun vs H hi h Q q => by
  obtain ⟨v, ws, rfl, h1, w, ws', rfl, h2, rfl⟩ := h
  obtain rfl := Da.str_of h1
  obtain rfl : w = .ty "str" := h2
  exact ⟨_, _, .type "str", .type "str", true, rfl, .ty _, .base (.str _), kit_ty (by decide +kernel), q _ H (XE.refl S H) hi (.bl _)⟩
theorem gc_isiTup {φs : List Fm} : GC S I (rIsi K) [Tup K φs, Eqv (.ty "tuple")] (Is K (.bool true)) I := fun vs H hi h Q q => by
  obtain ⟨v, ws, rfl, ⟨a, xs, rfl, h3, _⟩, w, ws', rfl, h2, rfl⟩ := h
  obtain rfl : w = .ty "tuple" := h2
  refine ⟨_, _, .type "tuple", .type "tuple", true, rfl, .ty _, ?_, kit_ty (by decide +kernel), q _ H (XE.refl S H) hi (.bl _)⟩
  rcases h3 with ⟨_, h3⟩ | ⟨o, _, _, h4, h5, _⟩
  · exact .base (.tup h3)
  · exact .kTuple h4 h5
theorem ge_ty {n : String} : GE S Γ I (tC (.ty n)) (Eqv (.ty n)) I := ge_c fun _ => rfl
/-- len of a text -/
theorem gc_lenS {x : Str} (hx : x.length ≤ sizeLine) : GC S I (fun xs H Q => ∃ z, xs = [.str z] ∧ z.length ≤ sizeLine ∧ Q (.int z.length) H) [Is K (.str x)] (Is K (.int x.length)) I := fun vs H hi h Q q => by
  obtain ⟨v, ws, rfl, h1, rfl⟩ := h
  obtain rfl := Da.str_of h1
  exact ⟨x, rfl, hx, q _ H (XE.refl S H) hi (.int _)⟩
theorem Ins.drop {S : AS} : ∀ (n : Nat) {φs : List Fm} {vs : List V} {H : Hp}, Ins S φs vs H → Ins S (φs.drop n) (vs.drop n) H
  | 0, _, _, _, h => h
  | n + 1, [], _, _, h => by
    have : _ = [] := h
    subst this
    exact rfl
  | n + 1, φ :: φs, _, _, ⟨v, ws, e, h1, h2⟩ => by
    subst e
    exact Ins.drop n h2
theorem Ins.take {S : AS} : ∀ (n : Nat) {φs : List Fm} {vs : List V} {H : Hp}, Ins S φs vs H → Ins S (φs.take n) (vs.take n) H
  | 0, _, _, _, h => rfl
  | n + 1, [], _, _, h => by
    have : _ = [] := h
    subst this
    exact rfl
  | n + 1, φ :: φs, _, _, ⟨v, ws, e, h1, h2⟩ => by
    subst e
    exact ⟨v, _, rfl, h1, Ins.take n h2⟩
def cutF {α : Type} (φs : List α) (lo hi : Option Int) : List α := (φs.drop (HT.sIx φs.length 0 lo)).take (HT.sIx φs.length φs.length hi - HT.sIx φs.length 0 lo)
/-- t[i:j] of a tuple, by facts -/
theorem ge_slT {tl th : TO} {lo hi' : Option Int} (h : GE S Γ I te (Tup K φs) J) (hl : ∀ σ H, ∀ Q : Option Int → Hp → Prop, Q lo H → tl σ H Q) (hh : ∀ σ H, ∀ Q : Option Int → Hp → Prop, Q hi' H → th σ H Q) :
    GE S Γ I (tSl (rSlA K) te tl th) (Tup K (cutF φs lo hi')) J := fun σ H e hi Q q => h σ H e hi _ fun v H1 l1 j1 ⟨a, xs, e1, h1, h2⟩ => by
  subst e1
  have hn := h2.len
  refine hl σ H1 _ (hh σ H1 _ ⟨a, xs, rfl, h1.sq, fun ⟨z1, z2⟩ => q _ _ l1 j1 ⟨a, xs, rfl, h1, ?_⟩, fun _ p hp => q _ _ (l1.trans (XE.new hp)) (J.le (LX.new hp) j1) ⟨p, _, rfl, .inl ⟨J.fresh j1 hp, upd_same⟩, ?_⟩⟩)
  · unfold cutF
    rw [hn] at z1 z2
    rw [z1, z2, List.drop_zero, Nat.sub_zero, List.take_length]
    exact h2
  · unfold cutV cutF
    rw [hn]
    exact (Ins.take _ (Ins.drop _ h2)).xe (XE.new hp)
theorem ge_slD {tl th : TO} {lo hi' : Option Int} {ds : List PyData} (h : GE S Γ I te (Is K (.tuple ds)) J) (hl : ∀ σ H, ∀ Q : Option Int → Hp → Prop, Q lo H → tl σ H Q) (hh : ∀ σ H, ∀ Q : Option Int → Hp → Prop, Q hi' H → th σ H Q) :
    GE S Γ I (tSl (rSlA K) te tl th) (Is K (.tuple (cutF ds lo hi'))) J := (ge_slT (h.wk fun _ _ _ p => is_tup p) hl hh).wk fun v H _ ⟨a, xs, e, h1, h2⟩ => by
  subst e
  refine .tup h1 ?_
  have : cutF (ds.map (Is K)) lo hi' = (cutF ds lo hi').map (Is K) := by
    unfold cutF
    rw [List.length_map, List.map_take, List.map_drop]
  rw [this] at h2
  exact (Dl.map _).all h2
theorem po_n (σ : L2.St) (H : Hp) : ∀ Q : Option Int → Hp → Prop, Q none H → tNoPart σ H Q := fun Q q => q
theorem po_i {i : Int} (σ : L2.St) (H : Hp) : ∀ Q : Option Int → Hp → Prop, Q (some i) H → tPart (tC (.int i)) σ H Q := fun Q q => ⟨i, rfl, q⟩
end
end Hs
set_option Elab.async false
set_option linter.all false
set_option maxRecDepth 100000
set_option maxHeartbeats 4000000
/-! min of texts; a class's own in, ==, != -/
namespace Hs
open PySem PySem.Spec PyProof.Rows L2 StX
section
variable {X : Cx}
/-- min(xs), texts: one of them -/
def rMinS (K : PySem.W.Frag) : List V → Hp → VK → Prop := fun vs H Q => ∃ (a : Addr) (xs : List Str), vs = [V.ref a] ∧ SqL K H a (xs.map V.str) ∧ 0 < xs.length ∧ ∀ x, Q (.str x) H
theorem cr_minS (hc : X.calm = true) : CallR X (.builtin "min") (rMinS X.K) := by
  intro pins s σ H vs us Q I r h
  obtain ⟨a, xs, rfl, hs, hne, q⟩ := h
  obtain ⟨its, rv, hl, _⟩ := I.list hs
  rw [Vals.ref1 r]
  have hlen := rv.length
  rw [List.length_map] at hlen
  have hl' : s.heap.IsList a its.toArray := hl.isList
  have hlt : a < s.heap.objs.size := by obtain ⟨_, e, _⟩ := hl'; exact Heap.lt_size e
  refine call_min_walk (wpAny_pyIter_list hl' ?_)
  refine ⟨_, _, _, _, (fun i v => its.toArray[i]? = some v), _, (fun i j => decide ((xs.getD i Str.empty).cps.toList < (xs.getD j Str.empty).cps.toList)), rfl, Walks.list (A := X.A.in1) (I.ok.hd hc) _ a (Nat.ne_of_lt hlt) its.toArray,
    ⟨⟨_, Heap.get?_push_size _ rfl, rfl, rfl⟩, hl'.push _⟩, fun b hb => ?_, by rw [List.size_toArray]; omega, ?_, fun v h' tk hP hk => ?_⟩
  · show b < (s.heap.push _).objs.size
    rw [Heap.size_push]
    rcases List.mem_cons.mp hb with rfl | hb
    · exact Nat.lt_succ_self _
    · rcases List.mem_cons.mp hb with rfl | hb
      · exact Nat.lt_succ_of_lt hlt
      · cases hb
  · intro i j vi vj s' Q' E' hi hj hQ
    obtain ⟨t1, rfl⟩ := SS.strs_at rv.strs i vi (by simpa using hi)
    obtain ⟨t2, rfl⟩ := SS.strs_at rv.strs j vj (by simpa using hj)
    exact PyProof.Rows.lt_str hQ
  · obtain ⟨t1, rfl⟩ := SS.strs_at rv.strs _ v (by simpa using hP)
    exact ⟨.str _, H, I.kept (old_kept hk), ⟨_, rfl⟩, q _⟩
/-! x not in o, by o's own def -/
def rNotInO (C : Addr) (sp : Sp) : R2 := fun x y H Q => ∃ a dx fs, y = .ref a ∧ H a = some (.ins C dx fs) ∧ sp [y, x] H (fun z H' => ∃ b, z = .bl b ∧ Q (.bl (!b)) H') E0
theorem op_notInO {k : Nat} {f C : Addr} {sp : Sp} (hs : PySem.W.findIn X.K (.ref C) "__contains__" = some (some (.ref f))) (hf : PySem.W.isFn X.K (.ref f) = true) (F : FnR X.prog X.w X.K X.mg X.base CX0 k f sp) (hr : Room k X.A) :
    OpR X (compareOp .NotIn) (rNotInO C sp) := by
  intro pins s σ H x y v u Q I rx ry h
  obtain ⟨a, dx, fs, rfl, ha, q⟩ := h
  cases (show u = Value.ref a from ry)
  obtain ⟨mA, O, _⟩ := ins_get I.hok ha
  obtain ⟨od, J, _⟩ := O.look
  obtain ⟨m, hF⟩ := I.fr
  refine PySem.W.notIn_K hF I.ok.mod.kin J hs hf ?_
  refine thn (wpAny_call (run_fnR (us := [.ref a, v]) (vs := [.ref a, x]) F hr pass0 I (.cons rfl (.cons rx .nil)) q)) fun w s1 ⟨z, H1, I1, rz, b, e, q1⟩ => ?_
  subst e
  cases (show w = Value.bool b from rz)
  exact wpAny_truthy_bool ⟨.bl (!b), H1, I1, rfl, q1⟩
/-! ==, != of two instances of one class that has its own == -/
def rEqO (C : Addr) (sp : Sp) : R2 := fun x y H Q => ∃ a dx fs b dy gs, x = .ref a ∧ y = .ref b ∧ H a = some (.ins C dx fs) ∧ H b = some (.ins C dy gs) ∧ sp [x, y] H (fun z H' => ∃ b, z = .bl b ∧ Q (.bl b) H') E0
def rNeO (C : Addr) (sp : Sp) : R2 := fun x y H Q => ∃ a dx fs b dy gs, x = .ref a ∧ y = .ref b ∧ H a = some (.ins C dx fs) ∧ H b = some (.ins C dy gs) ∧ sp [x, y] H (fun z H' => ∃ b, z = .bl b ∧ Q (.bl (!b)) H') E0
theorem op_eqO {k : Nat} {f C : Addr} {sp : Sp} (hs : PySem.W.findIn X.K (.ref C) "__eq__" = some (some (.ref f))) (hf : PySem.W.isFn X.K (.ref f) = true) (F : FnR X.prog X.w X.K X.mg X.base CX0 k f sp) (hr : Room k X.A) :
    OpR X (compareOp .Eq) (rEqO C sp) := by
  intro pins s σ H x y v u Q I rx ry h
  obtain ⟨a, dx, fs, b, dy, gs, rfl, rfl, ha, hb, q⟩ := h
  cases (show v = Value.ref a from rx)
  cases (show u = Value.ref b from ry)
  obtain ⟨mA, O, _⟩ := ins_get I.hok ha
  obtain ⟨od, J, _⟩ := O.look
  obtain ⟨mB, O', _⟩ := ins_get I.hok hb
  obtain ⟨od', J', _⟩ := O'.look
  obtain ⟨m, hF⟩ := I.fr
  show wpAny _ _ (richCompare .Eq (.ref a) (.ref b)) _ _ _
  refine PySem.W.cmp_K (op := .Eq) (tb := .ref C) hr.units0 hF I.ok.mod.kin J J'.type ?_ hs hf ?_
  · unfold PySem.W.notFirst
    simp
  refine wpAny_mono (wpAny_call (run_fnR (us := [.ref a, .ref b]) (vs := [.ref a, .ref b]) F hr pass0 I (.cons rfl (.cons rfl .nil)) q)) (fun w s' z => ?_) fun _ _ x => x
  obtain ⟨z', H', I', rz, b', e, qz⟩ := z
  subst e
  cases (show w = Value.bool b' from rz)
  exact ⟨.bl b', H', I', rfl, qz⟩
theorem op_neO {k : Nat} {f C : Addr} {sp : Sp} (hs : PySem.W.findIn X.K (.ref C) "__eq__" = some (some (.ref f))) (hf : PySem.W.isFn X.K (.ref f) = true) (hn : PySem.W.findIn X.K (.ref C) "__ne__" = some (some (.builtin "object.__ne__")))
    (hm : PySem.W.mroIn X.K C (.type "object") = some true) (G : FnR X.prog X.w X.K X.mg X.base CX0 k f sp) (hr : Room (k + 1) X.A) :
    OpR X (compareOp .NotEq) (rNeO C sp) := by
  intro pins s σ H x y v u Q I rx ry h
  obtain ⟨a, dx, fs, b, dy, gs, rfl, rfl, ha, hb, q⟩ := h
  cases (show v = Value.ref a from rx)
  cases (show u = Value.ref b from ry)
  obtain ⟨mA, O, _⟩ := ins_get I.hok ha
  obtain ⟨od, J, _⟩ := O.look
  obtain ⟨mB, O', _⟩ := ins_get I.hok hb
  obtain ⟨od', J', _⟩ := O'.look
  have Kn : X.K.In s.heap := I.kIn
  have run : wpAny (model X.prog X.w) X.A.in1 (call (.ref f) [.ref a, .ref b]) (fun w s' => ∃ c, w = .bool c ∧ EP X pins σ Q (.bool (!c)) s') X.xe s := by
    refine wpAny_call (codeAny_mono (G X.A.in1 X.stack s H [.ref a, .ref b] [.ref a, .ref b] _ E0 hr.in1 I.env0.in1 (.cons rfl (.cons rfl .nil)) q) fun r s' hq => ?_)
    cases r with
    | error er => exact False.elim hq
    | ok fl =>
      cases fl with
      | ret w =>
        obtain ⟨v', H', I3, rv, c, e, q3⟩ := I.after hq
        subst e
        cases (show w = Value.bool c from rv)
        exact ⟨c, rfl, .bl (!c), H', I3, rfl, q3⟩
      | next => exact False.elim hq
      | brk => exact False.elim hq
      | cont => exact False.elim hq
  have entry : wpAny (model X.prog X.w) X.A.in1 (Builtin.«object.__ne__» ⟨[.ref a, .ref b], []⟩) (fun f s' => ∃ c, f = .done (.ret (.bool c)) ∧ EP X pins σ Q (.bool c) s') X.xe s := by
    unfold Builtin.«object.__ne__»
    refine wpAny_bind (wpAny_pure ?_)
    dsimp only
    refine wpAny_bind (wpAny_cRoomFor (by have := hr.un; show X.A.units + 1 < cLine; omega) ?_)
    refine wpAny_bind (PySem.W.ifBound_K Kn J hs hf (wpAny_mono run (fun w s' hw => ?_) fun _ _ e => e))
    obtain ⟨c, rfl, hq⟩ := hw
    refine wpAny_bind (wpAny_truthy_bool ?_)
    exact wpAny_pure ⟨!c, rfl, hq⟩
  have one : wpAny (model X.prog X.w) X.A (tryCompare (.ref a) "__ne__" (.ref b)) (fun r s' => ∃ w, r = some w ∧ EP X pins σ Q w s') X.xe s := by
    unfold tryCompare
    refine wpAny_bind ?_
    simp only [callSpecialIfBound?, bindSpecialIfBound?]
    refine wpAny_holding (wpAny_bind (wpAny_bind (wpAny_bind (J.type.here ((PySem.W.looks_findIn Kn hn).here ?_)))))
    refine wpAny_bind (wpAny_askSetting (wpAny_ite ?_))
    have fin : ∀ {Q' : Option Value → Shared → Prop}, (∀ c s', EP X pins σ Q (.bool c) s' → Q' (some (.bool c)) s') → wpAny (model X.prog X.w) X.A (call (.builtin "object.__ne__") ([.ref a] ++ [.ref b]) >>= fun v => pure (some v)) Q' X.xe s := fun hQ' => by
      refine wpAny_bind (wpAny_call (codeAny_call_builtin F.cmp_object.ne.plain F.cmpEntry_ne (PySem.W.check_slot F.cmpKind_ne F.cmpSplit_ne (J.type.andThen (PySem.W.looks_mroIn Kn hm)) (F.cmpArgs_ne _ _) (wpAny_mono entry (fun f s' hf => ?_) fun _ _ e => e))))
      obtain ⟨c, rfl, hq⟩ := hf
      exact wpAny_pure (hQ' c _ hq)
    split
    · exact wpAny_bind (wpAny_of_eq (F.cmp_object.ne.bind _) (wpAny_pure (by exact fin fun c s' hq => wpAny_pure ⟨_, rfl, hq⟩)))
    · exact wpAny_tryCatch (wpAny_bind (wpAny_of_eq (F.cmp_object.ne.bind _) (wpAny_pure (by exact fin fun c s' hq => wpAny_pure ⟨_, rfl, hq⟩))))
  show wpAny _ _ (richCompare .NotEq (.ref a) (.ref b)) _ _ _
  unfold richCompare
  simp only [oneThing_ref]
  refine wpAny_holding (wpAny_bind (wpAny_cRoomFor hr.units0 ?_))
  rw [cmpInfo_NotEq]
  dsimp only
  refine wpAny_bind (J.type.here (wpAny_bind (J'.type.here ?_)))
  rw [show (Value.ref C != Value.ref C) = false from by simp]
  simp only [Bool.false_eq_true, if_false]
  refine wpAny_bind (wpAny_pure ?_)
  simp only [Bool.false_eq_true, if_false]
  refine wpAny_bind (wpAny_mono one (fun r s' z => ?_) fun _ _ e => e)
  obtain ⟨w, rfl, hq⟩ := z
  exact wpAny_pure hq
end
end Hs
set_option Elab.async false
set_option linter.all false
set_option maxRecDepth 100000
set_option maxHeartbeats 4000000
namespace Hs
open PySem PySem.Spec PyProof.Rows L2 StX
section
variable {X : Cx}
/-- xs != [] -/
def rNeE (K : PySem.W.Frag) : R2 := fun x y H Q => ∃ a b xs, x = .ref a ∧ y = .ref b ∧ SqL K H a xs ∧ SqL K H b [] ∧ Q (.bl (!xs.isEmpty)) H
theorem op_neE (hu : X.A.units < cLine) : OpR X (compareOp .NotEq) (rNeE X.K) := by
  intro pins s σ H x y v u Q I rx ry h
  obtain ⟨a, b, xs, rfl, rfl, h1, h2, q⟩ := h
  cases (show v = Value.ref a from rx)
  cases (show u = Value.ref b from ry)
  obtain ⟨its, rv, hl, _⟩ := I.list h1
  obtain ⟨its2, rv2, hl2, _⟩ := I.list h2
  have e2 : its2 = [] := by cases rv2; rfl
  subst e2
  have fin : EP X pins σ Q (.bool (!xs.isEmpty)) s := ⟨.bl _, H, I, rfl, q⟩
  show wpAny _ _ (richCompare .NotEq (.ref a) (.ref b)) _ _ _
  cases xs with
  | nil =>
    have e1 : its = [] := by cases rv; rfl
    subst e1
    exact SeqAt.RcNeAt.lists (e := fun _ => true) hl.isList hl2.isList rfl hu (fun j h1 _ => absurd h1 (by simp)) X.prog X.w _ _ fin
  | cons z zs =>
    have hn : its.length = zs.length + 1 := rv.length.symm
    exact SeqAt.RcNeAt.lists_lengths hl.isList hl2.isList (by simp [hn]) hu X.prog X.w _ _ fin
/-- t == () -/
def rEqE (K : PySem.W.Frag) : R2 := fun x y H Q => ∃ a b xs, x = .ref a ∧ y = .ref b ∧ SqT K H a xs ∧ SqT K H b [] ∧ Q (.bl xs.isEmpty) H
theorem op_eqE (hu : X.A.units < cLine) : OpR X (compareOp .Eq) (rEqE X.K) := by
  intro pins s σ H x y v u Q I rx ry h
  obtain ⟨a, b, xs, rfl, rfl, h1, h2, q⟩ := h
  cases (show v = Value.ref a from rx)
  cases (show u = Value.ref b from ry)
  obtain ⟨its, rv, hl, _⟩ := I.tuple h1
  obtain ⟨its2, rv2, hl2, _⟩ := I.tuple h2
  have e2 : its2 = [] := by cases rv2; rfl
  subst e2
  have fin : EP X pins σ Q (.bool xs.isEmpty) s := ⟨.bl _, H, I, rfl, q⟩
  show wpAny _ _ (richCompare .Eq (.ref a) (.ref b)) _ _ _
  have key := SeqAt.RcAt.tuples (A := X.A) (e := fun _ => true) hl hl2 hu (fun j _ h2 => absurd h2 (by simp)) X.prog X.w X.xe (EP X pins σ Q)
  refine key ?_
  have hn := rv.length
  cases xs with
  | nil =>
    have e1 : its = [] := by cases rv; rfl
    subst e1
    exact fin
  | cons z zs =>
    have : ((List.range (min its.toArray.size ([] : List Value).toArray.size)).all (fun _ => true) && its.toArray.size == ([] : List Value).toArray.size) = false := by
      have : its.length = zs.length + 1 := hn.symm
      simp [this]
    rw [this]
    exact fin
end
section
variable {S : AS} {K : PySem.W.Frag} {Γ Δ : Ctx} {I J L M : IV S} {ta tb tc te td ty : TE} {t : TA} {φ ψ χ ξ : Fm} {φs ψs fs : List Fm} {R : VK} {N : L2.St → Hp → Prop} {C a : Addr} {m : Str}
theorem gc_minS {xs : List Str} (h0 : 0 < xs.length) : GC S I (rMinS K) [Is K (.list (xs.map .str))] (Exs (fun _ : Str => True) fun x => Is K (.str x)) I := fun vs H hi h Q q => by
  obtain ⟨v, ws, rfl, h1, rfl⟩ := h
  obtain ⟨a, ys, rfl, hs, h3, h4⟩ := Da.lst_of h1
  obtain rfl := h4.strs_of
  exact ⟨a, xs, rfl, .inl (.inl h3), h0, fun x => q _ H (XE.refl S H) hi ⟨x, trivial, .str x⟩⟩
theorem gr_neE {φs : List Fm} : GR S I (rNeE K) (Lst φs) (Is K (.list [])) (Is K (.bool (!φs.isEmpty))) I := fun x y H hi h1 h2 Q q => by
  obtain ⟨a, xs, rfl, hs, h3, h4⟩ := h1
  obtain ⟨b, ys, rfl, hs', h5, h6⟩ := Da.lst_of h2
  cases h6
  refine ⟨a, b, xs, rfl, rfl, .inl (.inl h3), .inl (.inl h5), ?_⟩
  have hn := h4.len
  have : xs.isEmpty = φs.isEmpty := by cases xs <;> cases φs <;> first | rfl | (simp at hn)
  rw [this]
  exact q _ H (XE.refl S H) hi (.bl _)
theorem gr_neED {ds : List PyData} : GR S I (rNeE K) (Is K (.list ds)) (Is K (.list [])) (Is K (.bool (!ds.isEmpty))) I := fun x y H hi h1 h2 Q q => by
  have := gr_neE (K := K) (I := I) x y H hi (is_lst h1) h2 Q
  rw [show (ds.map (Is K)).isEmpty = ds.isEmpty from by cases ds <;> rfl] at this
  exact this q
theorem gr_eqE {φs : List Fm} : GR S I (rEqE K) (Tup K φs) (Is K (.tuple [])) (Is K (.bool φs.isEmpty)) I := fun x y H hi h1 h2 Q q => by
  obtain ⟨a, xs, rfl, h3, h4⟩ := h1
  obtain ⟨b, ys, rfl, h5, h6⟩ := Da.tup_of h2
  cases h6
  refine ⟨a, b, xs, rfl, rfl, h3.sq, h5.sq, ?_⟩
  have hn := h4.len
  have : xs.isEmpty = φs.isEmpty := by cases xs <;> cases φs <;> first | rfl | (simp at hn)
  rw [this]
  exact q _ H (XE.refl S H) hi (.bl _)
/-- x not in o, by its own def -/
theorem gr_notInO {c : CTR} {b : Bool} (hm : InsOf C "" ψ) (hc : c S ⟨I, J, [ψ, φ], Is K (.bool b)⟩) : GR S I (rNotInO C (spC c)) φ ψ (Is K (.bool (!b))) J := fun x y H hi h1 h2 Q q => by
  obtain ⟨a, dx, fs, rfl, ea, _⟩ := hm S y H h2
  refine ⟨a, dx, fs, rfl, ea, S, _, hc, hi, ⟨_, _, rfl, h2, _, _, rfl, h1, rfl⟩, fun v H' l j p => ⟨b, Da.bl_of p, q _ H' l j (.bl _)⟩⟩
theorem gr_eqO {c : CTR} {b : Bool} (hm : InsOf C "" φ) (hm' : InsOf C "" ψ) (hc : c S ⟨I, J, [φ, ψ], Is K (.bool b)⟩) : GR S I (rEqO C (spC c)) φ ψ (Is K (.bool b)) J := fun x y H hi h1 h2 Q q => by
  obtain ⟨a, dx, fs, rfl, ea, _⟩ := hm S x H h1
  obtain ⟨b', dx', fs', rfl, eb, _⟩ := hm' S y H h2
  exact ⟨a, dx, fs, b', dx', fs', rfl, rfl, ea, eb, S, _, hc, hi, ⟨_, _, rfl, h1, _, _, rfl, h2, rfl⟩, fun v H' l j p => ⟨b, Da.bl_of p, q _ H' l j (.bl _)⟩⟩
theorem gr_neO {c : CTR} {b : Bool} (hm : InsOf C "" φ) (hm' : InsOf C "" ψ) (hc : c S ⟨I, J, [φ, ψ], Is K (.bool b)⟩) : GR S I (rNeO C (spC c)) φ ψ (Is K (.bool (!b))) J := fun x y H hi h1 h2 Q q => by
  obtain ⟨a, dx, fs, rfl, ea, _⟩ := hm S x H h1
  obtain ⟨b', dx', fs', rfl, eb, _⟩ := hm' S y H h2
  exact ⟨a, dx, fs, b', dx', fs', rfl, rfl, ea, eb, S, _, hc, hi, ⟨_, _, rfl, h1, _, _, rfl, h2, rfl⟩, fun v H' l j p => ⟨b, Da.bl_of p, q _ H' l j (.bl _)⟩⟩
theorem gi_tupM {α : Type} {tl : TE} {src : List α} {f : α → PyData} (h : GE S Γ I tl (Is K (.tuple (src.map f))) J) : GI S Γ I (iTup K tl) (src.map fun x => Is K (f x)) J := by
  have := gi_tupD h
  rw [List.map_map] at this
  exact this
theorem gi_listM {α : Type} {tl : TE} {src : List α} {f : α → PyData} (h : GE S Γ I tl (Is K (.list (src.map f))) J) : GI S Γ I (iList K tl) (src.map fun x => Is K (f x)) J := by
  have := gi_listD h
  rw [List.map_map] at this
  exact this
theorem ge_lcS {α : Type} {wi : TI} {g : TG} {tt : TT} {vs : List Nat} (src : List α) (emb : α → Fm) (p : α → Bool) (f : α → Str) (h : GI S Γ I wi (src.map emb) J) (hz : src.length ≤ 1000)
    (hs : ∀ (x : α) (S' : AS) (I' : IV S'), Ext J I' → x ∈ src → ∃ Δ js, (∀ j ∈ js, j ∈ vs) ∧ GG S' (wipeG Γ vs) g (emb x) Δ js ∧ GT S' Δ I' tt (fun c => p x = c) I' ∧ (p x = true → GE S' Δ I' te (Is K (.str (f x))) I')) :
    GE S Γ I (tLc wi g tt te vs) (Is K (.list (((src.filter p).map f).map .str))) J := by
  have := ge_lcD (K := K) src emb p (fun x => .str (f x)) h hz hs
  rw [List.map_map]
  exact this
theorem ge_lcB {α : Type} {wi : TI} {g : TG} {tt : TT} {vs : List Nat} (src : List α) (emb : α → Fm) (p : α → Bool) (f : α → Bool) (h : GI S Γ I wi (src.map emb) J) (hz : src.length ≤ 1000)
    (hs : ∀ (x : α) (S' : AS) (I' : IV S'), Ext J I' → x ∈ src → ∃ Δ js, (∀ j ∈ js, j ∈ vs) ∧ GG S' (wipeG Γ vs) g (emb x) Δ js ∧ GT S' Δ I' tt (fun c => p x = c) I' ∧ (p x = true → GE S' Δ I' te (Is K (.bool (f x))) I')) :
    GE S Γ I (tLc wi g tt te vs) (Is K (.list (((src.filter p).map f).map .bool))) J := by
  have := ge_lcD (K := K) src emb p (fun x => .bool (f x)) h hz hs
  rw [List.map_map]
  exact this
theorem ge_lcS1 {α : Type} {wi : TI} {g : TG} {tt : TT} {vs : List Nat} (src : List α) (emb : α → Fm) (f : α → Str) (h : GI S Γ I wi (src.map emb) J) (hz : src.length ≤ 1000)
    (hs : ∀ (x : α) (S' : AS) (I' : IV S'), Ext J I' → x ∈ src → ∃ Δ js, (∀ j ∈ js, j ∈ vs) ∧ GG S' (wipeG Γ vs) g (emb x) Δ js ∧ GT S' Δ I' tt (fun c => true = c) I' ∧ (true = true → GE S' Δ I' te (Is K (.str (f x))) I')) :
    GE S Γ I (tLc wi g tt te vs) (Is K (.list ((src.map f).map .str))) J := by
  have := ge_lcS (K := K) src emb (fun _ => true) f h hz hs
  rw [filt_true] at this
  exact this
theorem ge_lcB1 {α : Type} {wi : TI} {g : TG} {tt : TT} {vs : List Nat} (src : List α) (emb : α → Fm) (f : α → Bool) (h : GI S Γ I wi (src.map emb) J) (hz : src.length ≤ 1000)
    (hs : ∀ (x : α) (S' : AS) (I' : IV S'), Ext J I' → x ∈ src → ∃ Δ js, (∀ j ∈ js, j ∈ vs) ∧ GG S' (wipeG Γ vs) g (emb x) Δ js ∧ GT S' Δ I' tt (fun c => true = c) I' ∧ (true = true → GE S' Δ I' te (Is K (.bool (f x))) I')) :
    GE S Γ I (tLc wi g tt te vs) (Is K (.list ((src.map f).map .bool))) J := by
  have := ge_lcB (K := K) src emb (fun _ => true) f h hz hs
  rw [filt_true] at this
  exact this
theorem ge_lcD1 {α : Type} {wi : TI} {g : TG} {tt : TT} {vs : List Nat} (src : List α) (emb : α → Fm) (f : α → PyData) (h : GI S Γ I wi (src.map emb) J) (hz : src.length ≤ 1000)
    (hs : ∀ (x : α) (S' : AS) (I' : IV S'), Ext J I' → x ∈ src → ∃ Δ js, (∀ j ∈ js, j ∈ vs) ∧ GG S' (wipeG Γ vs) g (emb x) Δ js ∧ GT S' Δ I' tt (fun c => true = c) I' ∧ (true = true → GE S' Δ I' te (Is K (f x)) I')) :
    GE S Γ I (tLc wi g tt te vs) (Is K (.list (src.map f))) J := by
  have := ge_lcD (K := K) src emb (fun _ => true) f h hz hs
  rw [filt_true] at this
  exact this
theorem gt_notB {b : Bool} {tt : TT} (h : GT S Γ I tt (fun c => b = c) J) : GT S Γ I (tNot tt) (fun c => (!b) = c) J := (gt_not h).wk fun c hc => by
  rw [hc, Bool.not_not]
/-- the list that is being made, read -/
theorem gr_neEacc {p : Addr} {fs : List Fm} : GR (SU S p) (I.acc p fs) (rNeE K) (Eqv (.ref p)) (Is K (.list [])) (Is K (.bool (!fs.isEmpty))) (I.acc p fs) := fun x y H hi h1 h2 Q q => by
  obtain rfl : x = .ref p := h1
  obtain ⟨b, ys, rfl, hs', h5, h6⟩ := Da.lst_of h2
  cases h6
  obtain ⟨vs, h3, h4⟩ := hi.2
  refine ⟨p, b, vs, rfl, rfl, .inl (.inl h3), .inl (.inl h5), ?_⟩
  have hn := h4.len
  have : vs.isEmpty = fs.isEmpty := by cases vs <;> cases fs <;> first | rfl | (simp at hn)
  rw [this]
  exact q _ H (XE.refl _ H) hi (.bl _)
theorem gc_minAcc {p : Addr} {xs : List Str} (h0 : 0 < xs.length) : GC (SU S p) (I.acc p (xs.map fun x => Is K (.str x))) (rMinS K) [Eqv (.ref p)] (Exs (fun _ : Str => True) fun x => Is K (.str x)) (I.acc p (xs.map fun x => Is K (.str x))) := fun vs H hi h Q q => by
  obtain ⟨v, ws, rfl, h1, rfl⟩ := h
  obtain rfl : v = .ref p := h1
  obtain ⟨vs, h3, h4⟩ := hi.2
  have h5 : vs = xs.map V.str := by
    have h6 : Dl K (xs.map fun x => Is K (.str x)) (xs.map .str) := by
      clear h4 h3 hi q h0
      induction xs with
      | nil => exact .nil
      | cons x xs ih => exact .cons ih
    exact (h6.all h4).strs_of
  subst h5
  exact ⟨p, xs, rfl, .inl (.inl h3), h0, fun x => q _ H (XE.refl _ H) hi ⟨x, trivial, .str x⟩⟩
theorem gs_retNonA {p : Addr} {fs fs' : List Fm} {b : Bool} {w : L2.St → Hp → Prop} {k : Ctr S} (h : GE (SU S p) Γ (I.acc p fs) te φ (I.acc p fs')) (hk : k.J = I) (ho : k.out = NonF b) (e : ∀ v H, φ.p (SU S p) v H → decide (v = .non) = b) : GS (SU S p) Γ (I.acc p fs) (tRet te) (Rk k) w :=
  gs_ret h fun v H hj hp => ⟨by rw [ho]; exact e v H hp, by rw [hk]; exact acc_wk hj⟩
/-- a turn's end -/
def Tn {β : Type} (S : AS) (Γi : β → Ctx) (Ji : β → IV S) (G : β → Prop) : L2.St → Hp → Prop := fun σ H => ∃ b', G b' ∧ En S (Γi b') (Ji b') σ H
theorem gs_turn {β : Type} {ts : TS} {Γi : β → Ctx} {Ji : β → IV S} {G : β → Prop} (b' : β) (h : GS S Γ I ts R (En S Δ J)) (hG : G b') (hs : Sub (Γi b') Δ) (hj : ∀ H, J.p H → (Ji b').p H) : GS S Γ I ts R (Tn S Γi Ji G) :=
  h.wk fun σ H ⟨e, j⟩ => ⟨b', hG, e.sub hs, hj H j⟩
theorem rows_at {R : Rows} {i : Nat} {ψ : Fm} (h : ((rowsF K R).map fun r => Is K (kd r.1))[i]? = some ψ) : ∃ r, R[i]? = some r ∧ ψ = Is K (.str r.1) := by
  rw [List.getElem?_map, List.getElem?_map] at h
  cases hr : R[i]? with
  | none => rw [hr] at h; cases h
  | some r =>
    rw [hr] at h
    cases h
    exact ⟨r, rfl, rfl⟩
theorem items_at {R : Rows} {i : Nat} {ψ : Fm} (h : ((rowsF K R).map fun r => Tup K [Is K (kd r.1), r.2])[i]? = some ψ) : ∃ r, R[i]? = some r ∧ ψ = Tup K [Is K (.str r.1), Is K (stD r.2)] := by
  rw [List.getElem?_map, List.getElem?_map] at h
  cases hr : R[i]? with
  | none => rw [hr] at h; cases h
  | some r =>
    rw [hr] at h
    cases h
    exact ⟨r, rfl, rfl⟩
theorem gs_forKS {β : Type} {wi : TI} {g : TG} {tb u : TS} {ok : HO → Hp → Prop} (Γi : β → Ctx) (Ji : β → IV S) (G : Nat → β → Prop) (b0 : β) (h : DSrc S Γ I td ok) (hok : ∀ u H H', LE S H H' → ok u H → ok u H') (w : DIt S td wi ok ψs) (h0 : G 0 b0) (hs0 : Sub (Γi b0) Γ) (hj0 : ∀ H, I.p H → (Ji b0).p H)
    (hR : ∀ v H H', LX S H H' → R v H → R v H')
    (hs : ∀ i ψ b, ψs[i]? = some ψ → G i b → ∃ Δ js, GG S (Γi b) g ψ Δ js ∧ GS S Δ (Ji b) tb R (Tn S Γi Ji (G (i + 1))))
    (hd : ∀ b, G ψs.length b → GS S (Γi b) (Ji b) u R N) : GS S Γ I (tSeq (tOr2 (tLock (tFor wi g tb)) (tFor wi g tb)) u) R N :=
  gs_seqX (P := G ψs.length) (gs_forK Γi Ji G b0 h hok w h0 hs0 hj0 hR hs) hd
theorem gs_forS {β : Type} {wi : TI} {g : TG} {tb u : TS} (Γi : β → Ctx) (Ji : β → IV S) (G : Nat → β → Prop) (b0 : β) (h : GI S Γ I wi ψs J) (h0 : G 0 b0) (hs0 : Sub (Γi b0) Γ) (hj0 : ∀ H, J.p H → (Ji b0).p H)
    (hs : ∀ i ψ b, ψs[i]? = some ψ → G i b → ∃ Δ js, GG S (Γi b) g ψ Δ js ∧ GS S Δ (Ji b) tb R (Tn S Γi Ji (G (i + 1))))
    (hd : ∀ b, G ψs.length b → GS S (Γi b) (Ji b) u R N) : GS S Γ I (tSeq (tFor wi g tb) u) R N :=
  gs_seqX (P := G ψs.length) (gs_for Γi Ji G b0 h h0 hs0 hj0 hs) hd
theorem host_b {es : List Ed} {R : Rows} {e : Ed} {b : Bool} (h : (!(((R.filter fun r => hostAt es R e r.1).map Prod.fst).map fun x => Is K (.str x)).isEmpty) = b) : hostile es R e = b := by
  rw [emp_map, emp_map, any_filter] at h
  exact h
theorem map_str {α : Type} {f : α → Str} {xs : List α} : xs.map (fun x => PyData.str (f x)) = (xs.map f).map .str := by rw [List.map_map]; rfl
/-- a value or None -/
theorem gs_retNon {b : Bool} {w : L2.St → Hp → Prop} {k : Ctr S} (h : GE S Γ I te φ k.J) (ho : k.out = NonF b) (e : ∀ v H, φ.p S v H → decide (v = .non) = b) : GS S Γ I (tRet te) (Rk k) w := gs_ret h fun v H hj hp => ⟨by rw [ho]; exact e v H hp, hj⟩
theorem gs_retNonS {b : Bool} {w : L2.St → Hp → Prop} {u : TS} {k : Ctr S} (h : GE S Γ I te φ k.J) (ho : k.out = NonF b) (e : ∀ v H, φ.p S v H → decide (v = .non) = b) : GS S Γ I (tSeq (tRet te) u) (Rk k) w := gs_retS h fun v H hj hp => ⟨by rw [ho]; exact e v H hp, hj⟩
theorem non_non {b : Bool} (hb : b = true) : ∀ v H, (Is K .none).p S v H → decide (v = .non) = b := fun v H h => by
  rw [hb, Da.non_of h]
  rfl
theorem non_str {b : Bool} {x : Str} (hb : b = false) : ∀ v H, (Is K (.str x)).p S v H → decide (v = .non) = b := fun v H h => by
  rw [hb, Da.str_of h]
  rfl
theorem non_strX {b : Bool} (hb : b = false) : ∀ v H, (Exs (fun _ : Str => True) fun x => Is K (.str x)).p S v H → decide (v = .non) = b := fun v H ⟨x, _, h⟩ => by
  rw [hb, Da.str_of h]
  rfl
theorem non_tup {b : Bool} {φs : List Fm} (hb : b = false) : ∀ v H, (Tup K φs).p S v H → decide (v = .non) = b := fun v H ⟨a, xs, e, _⟩ => by
  rw [hb, e]
  rfl
theorem non_tupD {b : Bool} {ds : List PyData} (hb : b = false) : ∀ v H, (Is K (.tuple ds)).p S v H → decide (v = .non) = b := fun v H h => non_tup hb v H (is_tup h)
theorem oba_ins {fs : List (Str × Fm)} (h : fs.lookup m = none) : InsOf C m (ObA a C fs) := fun S v H p => ob_ins h S v H (oba_ob S v H p)
end
end Hs
set_option Elab.async false
set_option linter.all false
set_option maxRecDepth 100000
set_option maxHeartbeats 4000000
/-! a list whose length alone is told -/
namespace Hs
open PySem PySem.Spec PyProof.Rows L2 StX
structure CntF (S : AS) (m : Addr) (F : Nat → IV S) : Prop where
  sub : S m
  get : ∀ n H, (F n).p H → ∃ xs, H m = some (.lst xs) ∧ xs.length = n
  put : ∀ n n' H H', (F n).p H → XE (fun a => a = m) H H' → (∃ xs, H' m = some (.lst xs) ∧ xs.length = n') → (F n').p H'
section
variable {S : AS} {K : PySem.W.Frag} {Γ Δ : Ctx} {I J L M : IV S} {ta tb tc te td ty : TE} {t : TA} {tt tu : TT} {φ ψ χ ξ : Fm} {φs ψs fs : List Fm} {R : VK} {N : L2.St → Hp → Prop} {C a m : Addr} {F : Nat → IV S} {n : Nat}
theorem gc_lenCnt (hF : CntF S m F) : GC S (F n) (fun xs H Q => ∃ p ys, xs = [.ref p] ∧ (SqL K H p ys ∨ SqT K H p ys) ∧ Q (.int ys.length) H) [Eqv (.ref m)] (Is K (.int n)) (F n) := fun vs H hi h Q q => by
  obtain ⟨v, ws, rfl, h1, rfl⟩ := h
  obtain rfl : v = .ref m := h1
  obtain ⟨xs, h2, h3⟩ := hF.get n H hi
  refine ⟨m, xs, rfl, .inl (.inl (.inl h2)), q _ H (XE.refl S H) hi ?_⟩
  rw [h3]
  exact .int _
theorem ge_appCnt (hF : CntF S m F) (hz : n ≤ 1000) (ho : GE S Γ (F n) ta (Eqv (.ref m)) (F n)) (h : GE S Γ (F n) te χ (F n)) : GE S Γ (F n) (tBM K "list" rAppend ta (tCons te tNil)) (Is K .none) (F (n + 1)) := fun σ H e hi Q q =>
  ho σ H e hi _ fun v H1 l1 j1 p1 => by
    obtain rfl : v = .ref m := p1
    obtain ⟨xs, h2, h3⟩ := hF.get n H1 j1
    refine ⟨Or.inl ⟨rfl, _, SqL.of h2⟩, h σ H1 (e.xe l1) j1 _ fun w H2 l2 j2 p2 => ?_⟩
    obtain ⟨ys, h4, h5⟩ := hF.get n H2 j2
    exact ⟨m, ys, w, rfl, rfl, h4, Nat.lt_of_le_of_lt (by rw [h5]; exact hz) (by decide), q _ _ ((l1.trans l2).trans (XE.mut hF.sub)) (hF.put n (n + 1) H2 _ j2 (XE.mut rfl) ⟨_, upd_same, by rw [List.length_append, h5]; rfl⟩) .non⟩
theorem inV_ints {x : Int} : ∀ {xs : List Int}, inV (.int x) (xs.map V.int) = decide (x ∈ xs)
  | [] => rfl
  | y :: ys => by
    have ih := inV_ints (x := x) (xs := ys)
    unfold inV at ih ⊢
    rw [List.map_cons, List.any_cons, ih]
    show ((y == x) || decide (x ∈ ys)) = _
    by_cases h : y = x
    · subst h
      rw [show (y == y) = true from beq_self_eq_true y, Bool.true_or, decide_eq_true List.mem_cons_self]
    · rw [beq_false_of_ne h, Bool.false_or]
      exact decide_eq_decide.mpr ⟨List.mem_cons_of_mem _, fun m => (List.mem_cons.mp m).resolve_left fun z => h z.symm⟩
theorem flat_ints : ∀ (xs : List Int), (xs.map V.int).all flatV = true
  | [] => rfl
  | x :: xs => by
    rw [List.map_cons, List.all_cons, flat_ints xs]
    rfl
theorem gr_inI {x : Int} {xs : List Int} : GR S I (rIn K false) (Is K (.int x)) (Is K (.tuple (xs.map .int))) (Is K (.bool (decide (x ∈ xs)))) I := fun u y H hi h1 h2 Q q => by
  obtain rfl := Da.int_of h1
  obtain ⟨a, vs, rfl, h3, h4⟩ := Da.tup_of h2
  obtain rfl := h4.ints_of
  refine ⟨a, _, rfl, .inr h3.sq, rfl, flat_ints xs, ?_⟩
  rw [inV_ints]
  exact q _ H (XE.refl S H) hi (.bl _)
theorem ga_star (ho : GE S Γ I te (Tup K φs) J) (h : GA S Γ J t ψs L) : GA S Γ I (tStar K te t) (φs ++ ψs) L := fun σ H e hi Q q => ho σ H e hi _ fun v H1 l1 j1 ⟨a, xs, e1, h1, h2⟩ => by
  subst e1
  exact ⟨a, xs, rfl, .inl h1.sq, h σ H1 (e.xe l1) j1 _ fun ys H2 l2 j2 p2 => q _ H2 (l1.trans l2) j2 (Ins.app (h2.xe l2) p2)⟩
theorem ga_starD {ds : List PyData} (ho : GE S Γ I te (Is K (.tuple ds)) J) (h : GA S Γ J t ψs L) : GA S Γ I (tStar K te t) (ds.map (Is K) ++ ψs) L := ga_star (ho.wk fun _ _ _ p => is_tup p) h
theorem pa_starK {X : Cx} {e : Expr} {es : List Expr} {p : Pos} (K : PySem.W.Frag) (he : PE X e te) (ha : PA X es t) (h : X.K = K := by rfl) : PA X (.Starred e p :: es) (tStar K te t) := h ▸ pa_star he ha
theorem gt_andT {b : Bool} (ha : GT S Γ I tt (fun c => true = c) J) (hb : GT S Γ J tu (fun c => b = c) L) : GT S Γ I (tAnd tt tu) (fun c => b = c) L := fun σ H e hi Q q => ha σ H e hi _ fun c H1 l1 j1 p1 => by
  subst p1
  rw [if_pos rfl]
  exact hb σ H1 (e.xe l1) j1 Q fun c H2 l2 j2 p2 => q c H2 (l1.trans l2) j2 p2
theorem gt_andF (ha : GT S Γ I tt (fun c => false = c) J) : GT S Γ I (tAnd tt tu) (fun c => false = c) J := fun σ H e hi Q q => ha σ H e hi _ fun c H1 l1 j1 p1 => by
  subst p1
  rw [if_neg (by decide)]
  exact q _ H1 l1 j1 rfl
theorem GT.to {b c : Bool} (h : GT S Γ I tt (fun x => b = x) J) (e : b = c) : GT S Γ I tt (fun x => c = x) J := e ▸ h
theorem ge_ifS {b : Bool} {x y : Str} (hc : GT S Γ I tt (fun c => b = c) J) : GE S Γ I (tIf tt (tC (.str x)) (tC (.str y))) (Is K (.str (if b = true then x else y))) J := ge_if hc (fun h => by
  rw [h, if_pos rfl]
  exact ge_str) fun h => by
  rw [h, if_neg (by decide)]
  exact ge_str
theorem gs_retT {p : S3 × Nat} {x : Str} {y z : Int} {n1 : Nat} {w : L2.St → Hp → Prop} {k : Ctr S} (h : GE S Γ I te (Is K (.tuple [.str x, .int y, .int z])) (F n1)) (hj : k.J = F p.2) (ho : k.out = Is K (stD p.1)) (e : p = (⟨x, y, z⟩, n1)) : GS S Γ I (tRet te) (Rk k) w := gs_ret h fun v H j q => by
  subst e
  exact ⟨by rw [ho]; exact q, by rw [hj]; exact j⟩
theorem gs_retTS {u : TS} {p : S3 × Nat} {x : Str} {y z : Int} {n1 : Nat} {w : L2.St → Hp → Prop} {k : Ctr S} (h : GE S Γ I te (Is K (.tuple [.str x, .int y, .int z])) (F n1)) (hj : k.J = F p.2) (ho : k.out = Is K (stD p.1)) (e : p = (⟨x, y, z⟩, n1)) : GS S Γ I (tSeq (tRet te) u) (Rk k) w := gs_retS h fun v H j q => by
  subst e
  exact ⟨by rw [ho]; exact q, by rw [hj]; exact j⟩
theorem gs_retM {p q : S3 × Nat} {w : L2.St → Hp → Prop} {k : Ctr S} (h : GE S Γ I te (Is K (stD q.1)) (F q.2)) (hj : k.J = F p.2) (ho : k.out = Is K (stD p.1)) (e : p = q) : GS S Γ I (tRet te) (Rk k) w := gs_ret h fun v H j q => by
  subst e
  exact ⟨by rw [ho]; exact q, by rw [hj]; exact j⟩
theorem gs_retMS {u : TS} {p q : S3 × Nat} {w : L2.St → Hp → Prop} {k : Ctr S} (h : GE S Γ I te (Is K (stD q.1)) (F q.2)) (hj : k.J = F p.2) (ho : k.out = Is K (stD p.1)) (e : p = q) : GS S Γ I (tSeq (tRet te) u) (Rk k) w := gs_retS h fun v H j q => by
  subst e
  exact ⟨by rw [ho]; exact q, by rw [hj]; exact j⟩
theorem gs_retIfS {u : TS} {P : Bool → Prop} {w : L2.St → Hp → Prop} (hc : GT S Γ I tt P J) (ha : P true → GS S Γ J (tSeq (tRet ta) u) R w) (hb : P false → GS S Γ J (tSeq (tRet tb) u) R w) : GS S Γ I (tSeq (tRet (tIf tt ta tb)) u) R w := fun σ H e hi D r n => hc σ H e hi _ fun b H1 l1 j1 p1 => by
  cases b with
  | true =>
    rw [if_pos rfl]
    exact ha p1 σ H1 (e.xe l1) j1 D (fun v H' l p => r v H' (l1.trans l) p) fun σ' H' l p => n σ' H' (l1.trans l) p
  | false =>
    rw [if_neg (by decide)]
    exact hb p1 σ H1 (e.xe l1) j1 D (fun v H' l p => r v H' (l1.trans l) p) fun σ' H' l p => n σ' H' (l1.trans l) p
/-- a state handed on -/
theorem gs_retZ {p : S3 × Nat} {s : S3} {n1 : Nat} {w : L2.St → Hp → Prop} {k : Ctr S} (h : GE S Γ I te (Is K (stD s)) (F n1)) (hj : k.J = F p.2) (ho : k.out = Is K (stD p.1)) (e : p = (s, n1)) : GS S Γ I (tRet te) (Rk k) w := gs_retM (q := (s, n1)) h hj ho e
theorem gs_retZS {u : TS} {p : S3 × Nat} {s : S3} {n1 : Nat} {w : L2.St → Hp → Prop} {k : Ctr S} (h : GE S Γ I te (Is K (stD s)) (F n1)) (hj : k.J = F p.2) (ho : k.out = Is K (stD p.1)) (e : p = (s, n1)) : GS S Γ I (tSeq (tRet te) u) (Rk k) w := gs_retMS (q := (s, n1)) h hj ho e
theorem gs_retB {p : Bool × Nat} {b : Bool} {n1 : Nat} {w : L2.St → Hp → Prop} {k : Ctr S} (h : GE S Γ I te (Is K (.bool b)) (F n1)) (hj : k.J = F p.2) (ho : k.out = Is K (.bool p.1)) (e : p = (b, n1)) : GS S Γ I (tRet te) (Rk k) w := gs_ret h fun v H j q => by
  subst e
  exact ⟨by rw [ho]; exact q, by rw [hj]; exact j⟩
theorem gs_retBS {u : TS} {p : Bool × Nat} {b : Bool} {n1 : Nat} {w : L2.St → Hp → Prop} {k : Ctr S} (h : GE S Γ I te (Is K (.bool b)) (F n1)) (hj : k.J = F p.2) (ho : k.out = Is K (.bool p.1)) (e : p = (b, n1)) : GS S Γ I (tSeq (tRet te) u) (Rk k) w := gs_retS h fun v H j q => by
  subst e
  exact ⟨by rw [ho]; exact q, by rw [hj]; exact j⟩
end
theorem isDone_b {es : List Ed} {fails : List Int} {n : Str} {v : Int} {sc : Str} {m b : Nat} (h : m ≤ b) : (isDone es fails n v sc m).2 ≤ b + 1 := by
  unfold isDone
  split
  · exact Nat.succ_le_succ h
  · exact Nat.le_succ_of_le h
theorem isLeft_b {es : List Ed} {fails : List Int} {n : Str} {v v' : Int} {m b : Nat} (h : m ≤ b) : (isLeft es fails n v v' m).2 ≤ b + 2 := by
  unfold isLeft
  have h1 := isDone_b (es := es) (fails := fails) (n := n) (v := v) (sc := "leave") h
  dsimp only
  split
  · exact Nat.le_succ_of_le h1
  · exact isDone_b h1
theorem fresh_found {es : List Ed} {ns : List Str} {R : Rows} {n : Str} (hr : RowsOk es ns R) (hn : (lk R n).isSome = true) (h : (!decide ((rowAt R n).st ∈ thereSt) || decide ((rowAt R n).st = sHa)) = false) : (findE es n (rowAt R n).ver).isSome = true := hr.found hn (there_na (of_decide_eq_true (not_f (Bool.or_eq_false_iff.mp h).1)))
end Hs
set_option Elab.async false
set_option linter.all false
set_option maxRecDepth 100000
set_option maxHeartbeats 4000000
namespace Hs
open PySem PySem.Spec PyProof.Rows L2 StX
section
variable {X : Cx}
/-- a | b, dicts: a new one -/
def rDor : R2 := fun x y H Q => ∃ a b ks ls, x = .ref a ∧ y = .ref b ∧ Rd H a (.dK ks) ∧ Rd H b (.dK ls) ∧ ks.length + ls.length ≤ sizeLine ∧ ∀ p, H p = none → Q (.ref p) (upd H p (.dK (mergeK ks ls)))
theorem orOf_at {prog : Program} {w : World} {A : Around} {E : Value → Shared → Prop} {s : Shared} {a b : Addr} {va vb : List (Key × Value)} {Q : PySem.Fin → Shared → Prop} (hA : (a == sysModules) = false) (hB : (b == sysModules) = false)
    (ha : s.heap.DictOf (mixKind prog w) a va) (hb : s.heap.DictOf (mixKind prog w) b vb) (hz : va.length + vb.length ≤ sizeLine)
    (h : ∀ h', h'.DictOf (mixKind prog w) s.heap.objs.size (merged va vb) → (∀ c o, s.heap.get? c = some o → h'.get? c = some o) → Q (.done (.ret (.ref s.heap.objs.size))) { s with heap := h' }) :
    wpAny (model prog w) A (Builtin.«dict.__or__» ⟨[.ref a, .ref b], []⟩) Q E s := by
  obtain ⟨oa, esa, epa, hoa, hca, hda, hka, hpa, hna⟩ := id ha
  unfold Builtin.«dict.__or__»
  refine wpAny_bind ?_
  unfold Builtin.Dict.dictSlotArgs
  refine wpAny_bind (wpAny_notOrdered_dict ha.typeIs ?_)
  refine wpAny_bind (wpAny_pure ?_)
  refine wpAny_pure ?_
  dsimp only
  refine wpAny_bind ?_
  refine wpAny_bind (wpAny_isInstance ha.typeIs isSubtype_dict_dict ?_)
  show wpAny _ _ (isInstance (.ref b) (.type "dict")) _ _ _
  refine wpAny_isInstance hb.typeIs isSubtype_dict_dict ?_
  simp only [Bool.not_true, Bool.false_eq_true, if_false]
  have tail : ∀ (h1 : Heap), h1.DictOf (mixKind prog w) s.heap.objs.size va → (∀ c o, s.heap.get? c = some o → h1.get? c = some o) →
      wpAny (model prog w) A (do
        let l ← Builtin.Dict.addrOf (.ref s.heap.objs.size)
        holding [.ref s.heap.objs.size] (Builtin.Dict.updateFrom "dict.__or__" l (.ref b) [] (.ref s.heap.objs.size))) Q E { s with heap := h1 } := by
    intro h1 hd1 hk1
    have hne : s.heap.objs.size ≠ b := by
      obtain ⟨_, _, _, hg, _⟩ := hb
      exact fun e => absurd (Heap.lt_size hg) (by rw [e]; exact Nat.lt_irrefl _)
    have hb1 : h1.DictOf (mixKind prog w) b vb := by
      obtain ⟨ob, esb, epb, hob, r⟩ := hb
      exact ⟨ob, esb, epb, hk1 b ob hob, r⟩
    refine wpAny_bind (wpAny_pure ?_)
    refine wpAny_holding ?_
    unfold Builtin.Dict.updateFrom
    refine wpAny_bind (wpAny_typeOf hb1.typeIs ?_)
    rw [if_neg (by decide)]
    refine wpAny_bind ?_
    unfold Builtin.Dict.merge
    refine wpAny_bind ?_
    unfold Builtin.Dict.readDirectly
    refine wpAny_bind (wpAny_isInstance hb1.typeIs isSubtype_dict_dict ?_)
    simp only [Bool.not_true, Bool.false_eq_true, if_false]
    refine wpAny_bind (wpAny_specialOf hb1.typeIs F.slot_dict_iter.lookup (wpAny_pure ?_))
    simp only [beq_self_eq_true, if_true]
    refine wpAny_bind (wpAny_pure ?_)
    refine wpAny_mergeDict (hsz := hz) hne hB hd1 hb1 fun h' hd' _ hs' => ?_
    show wpAny _ _ (Builtin.Dict.addKeywords s.heap.objs.size [] >>= _) _ _ _
    exact wpAny_bind (wpAny_pure (wpAny_pure (h h' hd' fun c o e => (hs'.2 c (Nat.ne_of_lt (Heap.lt_size e))).trans (hk1 c o e))))
  refine wpAny_bind ?_
  unfold Builtin.Dict.copyOf
  refine wpAny_bind (wpAny_pure ?_)
  refine wpAny_bind ?_
  unfold Builtin.Dict.showsAll
  rw [if_neg (by rw [hA]; exact Bool.false_ne_true)]
  refine wpAny_pure ?_
  refine wpAny_bind (wpAny_dictEntries hoa hda ?_)
  have hlen : va.length = esa.size := by rw [← hpa.length]; simp
  split
  · rename_i hemp
    have e0 : esa = #[] := Array.isEmpty_iff.mp hemp
    have hva : va = [] := List.length_eq_zero_iff.mp (by rw [hlen, e0]; rfl)
    refine wpAny_bind (wpAny_rule ?_)
    refine wpAny_newObj_type (tail _ ?_ fun c o e => Heap.get?_push_of_some _ e)
    rw [hva]
    exact Heap.DictOf.new s.heap
  · refine wpAny_bind ?_
    unfold Builtin.Dict.readDirectly
    refine wpAny_bind (wpAny_isInstance ha.typeIs isSubtype_dict_dict ?_)
    simp only [Bool.not_true, Bool.false_eq_true, if_false]
    refine wpAny_bind (wpAny_specialOf ha.typeIs F.slot_dict_iter.lookup (wpAny_pure ?_))
    simp only [beq_self_eq_true, if_true]
    refine wpAny_bind (wpAny_entriesForEmpty (knd := mixKind prog w) hoa hda hka ?_)
    refine wpAny_newObj_type (tail _ ?_ fun c o e => Heap.get?_push_of_some _ e) ?_
    · exact ⟨_, esa, 0, Heap.get?_push_size _ rfl, ⟨rfl, rfl, rfl⟩, rfl, hka, hpa, hna⟩
    · show esa.size ≤ _
      omega
theorem op_dor : OpR X (binaryOp .BitOr) rDor := by
  intro pins s σ H x y v u Q I rx ry h
  obtain ⟨a, b, ks, ls, rfl, rfl, h1, h2, hz, q⟩ := h
  cases (show v = Value.ref a from rx)
  cases (show u = Value.ref b from ry)
  obtain ⟨z1, g1, va, r1, d1⟩ := dk_rd I.hok h1
  obtain ⟨z2, g2, vb, r2, d2⟩ := dk_rd I.hok h2
  refine wpAny_binaryOp_same (op := .BitOr) (T := "dict") d1.typeIs d2.typeIs F.fills_dict_or F.slot_dict_or (wpAny_call_entry F.slot_dict_or d1.typeIs F.entry_dict_or ?_ (F.args_dict_or_2 _ _))
  refine orOf_at g1 g2 d1 d2 (by rw [← r1.length, ← r2.length]; exact hz) fun h' dd hk => ?_
  have hl : (mergeK ks ls).length ≤ sizeLine := Nat.le_trans (by have := length_mergeK ls ks; omega) hz
  exact ⟨_, rfl, by simp, .ref s.heap.objs.size, _, I.laid (t' := s.toks) (o := .dK (mergeK ks ls)) hk (Nat.le_refl _) (dk_new hl (beq_eq_false_iff_ne.mpr (Ne.symm (Nat.ne_of_lt I.big))) (r2.merge r1) dd), rfl, q _ (I.hok.fresh (Nat.le_refl _))⟩
end
end Hs
set_option Elab.async false
set_option linter.all false
set_option maxRecDepth 100000
set_option maxHeartbeats 4000000
/-! objects made, dicts copied, sorted, united -/
namespace Hs
open PySem PySem.Spec PyProof.Rows L2 StX
theorem zip_put {g : Str} {w : V} : ∀ {fs : List (Str × Fm)} {ws : List V}, ws.length = fs.length → (∀ q ∈ fs, ¬ q.1 = g) → putF g w ((fs.map Prod.fst).zip ws) = (fs.map Prod.fst ++ [g]).zip (ws ++ [w])
  | [], [], _, _ => rfl
  | (h, φ) :: fs, v :: ws, hl, hn => by
    show putF g w ((h, v) :: ((fs.map Prod.fst).zip ws)) = (h, v) :: ((fs.map Prod.fst ++ [g]).zip (ws ++ [w]))
    unfold putF
    rw [if_neg (hn (h, φ) List.mem_cons_self), zip_put (by simpa using hl) fun q hq => hn q (List.mem_cons_of_mem _ hq)]
  | [], _ :: _, hl, _ => by simp at hl
  | _ :: _, [], hl, _ => by simp at hl
/-- an object whose fields are being set -/
def IV.obj {S : AS} (I : IV S) (x C dx : Addr) (fs : List (Str × Fm)) : IV (SU S x) := ⟨fun H => (∀ gs, I.p (upd H x (.ins C dx gs))) ∧ ∃ ws, H x = some (.ins C dx ((fs.map Prod.fst).zip ws)) ∧ Ins (SU S x) (fs.map Prod.snd) ws H,
  fun e ⟨h, ws, h1, h2⟩ => ⟨fun gs => I.le (LX.updB (e.sub fun a z => .inl z)) (h gs), ws, e.2 x _ (.inr rfl) h1, Ins.le e.any h2⟩, fun ⟨h, ws, h1, h2⟩ a ha => ha.elim (fun z => by
    have := h ((fs.map Prod.fst).zip ws)
    rw [upd_id h1] at this
    exact I.dom this a z) fun z => by
    subst z
    exact ⟨_, h1, rfl⟩⟩
theorem obj_wk {S : AS} {I : IV S} {x C dx : Addr} {fs : List (Str × Fm)} {H : Hp} (h : (I.obj x C dx fs).p H) : I.p H := by
  obtain ⟨h, ws, h1, _⟩ := h
  have := h ((fs.map Prod.fst).zip ws)
  rw [upd_id h1] at this
  exact this
abbrev CIN := ∀ S, IV S → List Fm → List (Str × Fm) → Prop
def spIn (C : Addr) (c : CIN) : Sp := fun vs H Q _ => ∃ S I ins outs x dx ws, c S I ins outs ∧ vs = .ref x :: ws ∧ ¬ S x ∧ (I.obj x C dx []).p H ∧ Ins (SU S x) ins ws H ∧ ∀ H', XE (SU S x) H H' → (I.obj x C dx outs).p H' → Q .non H'
section
variable {S : AS} {K : PySem.W.Frag} {Γ Δ : Ctx} {I J L M : IV S} {ta tb tc te td ty tx : TE} {t : TA} {tt tu : TT} {φ ψ χ ξ : Fm} {φs ψs : List Fm} {fs : List (Str × Fm)} {R : VK} {N : L2.St → Hp → Prop} {C a m x dx : Addr} {f : Str} {n : Nat} {E : XK}
theorem gs_fld (hv : GE (SU S x) Γ (I.obj x C dx fs) te ψ (I.obj x C dx fs)) (ho : GE (SU S x) Γ (I.obj x C dx fs) ta (Eqv (.ref x)) (I.obj x C dx fs)) (cl : Cls K C) (na : NoAttr K C f) (hn : ∀ q ∈ fs, ¬ q.1 = f) (hl : fs.length ≤ 20) :
    GS (SU S x) Γ (I.obj x C dx fs) (sFld K ta te f) R (En (SU S x) Γ (I.obj x C dx (fs ++ [(f, ψ)]))) := fun σ H e hi D r nn => hv σ H e hi _ fun v H1 l1 j1 p1 => ho σ H1 (e.xe l1) j1 _ fun u H2 l2 j2 p2 => by
  obtain rfl : u = .ref x := p2
  obtain ⟨k2, ws, h1, h2⟩ := j2
  have hwl : ws.length = fs.length := by rw [h2.len, List.length_map]
  refine ⟨x, C, dx, _, rfl, h1, cl, na, Nat.lt_of_le_of_lt (by rw [List.length_zip, List.length_map]; omega) (by decide : 20 < 1000), nn _ _ ((l1.trans l2).trans (XE.mut (.inr rfl))) ⟨(e.xe (l1.trans l2)).xe (XE.mut (.inr rfl)), fun gs => by rw [upd_upd]; exact k2 gs, ws ++ [v], ?_, ?_⟩⟩
  · rw [upd_same, zip_put hwl hn, List.map_append]
    rfl
  · rw [List.map_append]
    exact (Ins.app (ψs := [ψ]) (ws := [v]) h2 ⟨v, [], rfl, ψ.xe l2 p1, rfl⟩).xe (XE.mut (.inr rfl))
theorem obj_out {H : Hp} (hx : ¬ S x) (h : (I.obj x C dx fs).p H) : (Ob C fs).p S (.ref x) H := by
  obtain ⟨h, ws, h1, h2⟩ := h
  exact ⟨x, dx, ws, rfl, hx, h1, h2.lift fun a z => .inl (.inl z)⟩
theorem ge_make {c : CIN} (h : GA S Γ I t φs J) (hc : c S J φs fs) : GE S Γ I (tMakeR C (spIn C c) E t) (Ob C fs) J := fun σ H e hi Q q => h σ H e hi _ fun vs H1 l1 j1 p1 x dx hx hdx hne => by
  have nS := J.fresh j1 hx
  have l2 : ∀ T, XE T H1 (upd (upd H1 dx (.own x)) x (.ins C dx [])) := fun T => (XE.new hdx).trans (XE.new (by rw [upd_ne (Ne.symm hne)]; exact hx))
  have back : ∀ {H'}, XE (SU S x) (upd (upd H1 dx (.own x)) x (.ins C dx [])) H' → XE S H1 H' := fun {H'} y a o hs ha => y a o (fun z => z.elim hs fun z => by
    subst z
    rw [hx] at ha
    cases ha) (l2 S a o hs ha)
  refine ⟨S, J, φs, fs, x, dx, vs, hc, rfl, nS, ⟨fun gs => ?_, [], upd_same, rfl⟩, (p1.lift fun a z => z.elim .inl fun z => .inr (by rw [z]; exact hx)).xe (l2 _), fun H' y k => ⟨rfl, q _ H' (l1.trans (back y)) (obj_wk k) (obj_out nS k)⟩⟩
  rw [upd_upd]
  exact J.le ((LX.new hdx).trans (LX.new (by rw [upd_ne (Ne.symm hne)]; exact hx))) j1
/-- dict(d) -/
def rDcopy : List V → Hp → VK → Prop := fun xs H Q => ∃ a kvs, xs = [.ref a] ∧ Rd H a (.dK kvs) ∧ ∀ p, H p = none → Q (.ref p) (upd H p (.dK kvs))
theorem call_dcopy {X : Cx} : CallR X (.type "dict") rDcopy := by
  intro pins s σ H xs us Q I r h
  obtain ⟨a, kvs, rfl, hd, q⟩ := h
  rw [Vals.ref1 r]
  exact d_copyOf I hd fun p s' hp I' => ⟨.ref p, _, I', rfl, q p hp⟩
theorem gc_dcopy {rows : List (Key × Fm)} : GC S I rDcopy [Dct rows] (Dct rows) I := fun vs H hi h Q q => by
  obtain ⟨v, ws, rfl, ⟨d, kvs, rfl, hs, h2, h3, h4⟩, rfl⟩ := h
  exact ⟨d, kvs, rfl, h2, fun p hp => q _ _ (XE.new hp) (I.le (LX.new hp) hi) ⟨p, kvs, rfl, I.fresh hi hp, .inl upd_same, h3, h4.xe (XE.new hp)⟩⟩
/-- sorted(d), texts -/
theorem gc_sortedD {ks : List Str} {rows : List (Key × Fm)} (hk : rows.map Prod.fst = ks.map Sum.inr) (hz : ks.length < 64) : GC S I (fun xs H Q => ∃ (a : Addr) (kvs : List (Key × V)) (ks : List Str), xs = [.ref a] ∧ Rd H a (.dK kvs) ∧ kvs.map (·.1) = ks.map Sum.inr ∧ ks.length < 64 ∧
    ∀ ys p, ys.Perm ks → sortedS ys = true → H p = none → Q (.ref p) (upd H p (.lst (ys.map V.str)))) [Dct rows] (Exs (fun ys : List Str => ys.Perm ks ∧ sortedS ys = true) fun ys => Is K (.list (ys.map .str))) I := fun vs H hi h Q q => by
  obtain ⟨v, ws, rfl, ⟨d, kvs, rfl, hs, h2, h3, h4⟩, rfl⟩ := h
  exact ⟨d, kvs, ks, rfl, h2, h3.trans hk, hz, fun ys p h5 h6 hp => q _ _ (XE.new hp) (I.le (LX.new hp) hi) ⟨ys, ⟨h5, h6⟩, .lst (I.fresh hi hp) upd_same DaAll.strs⟩⟩
/-- d.get(k, x) -/
theorem ge_rget2 {R : Rows} {k : Str} {z : S3} (ho : GE S Γ I td (Dct (rowsF K R)) J) (hk : GE S Γ J ty (Is K (.str k)) L) (hx : GE S Γ L tx (Is K (stD z)) M) : GE S Γ I (tDGet2 td ty tx) (Is K (stD ((lk R k).getD z))) M := fun σ H e hi Q q =>
  ho σ H e hi _ fun v H1 l1 j1 p1 => by
    obtain ⟨d, kvs, rfl, hs, h2, h3, h4⟩ := p1
    refine ⟨d, rfl, .inl ⟨kvs, h2⟩, hk σ H1 (e.xe l1) j1 _ fun u H2 l2 j2 p2 => hx σ H2 (e.xe (l1.trans l2)) j2 _ fun w H3 l3 j3 p3 => ?_⟩
    obtain rfl := Da.str_of p2
    have h5 := lk_val (k := Sum.inr k) h3 (h4.xe (l2.trans l3))
    refine ⟨valV kvs (.inr k), .inl ⟨kvs, .inr k, LE.dK (l2.trans l3).m hs h2, rfl, rfl⟩, q _ H3 ((l1.trans l2).trans l3) j3 ?_⟩
    have h6 := lk_rows (K := K) (n := k) (R := R)
    cases h7 : lk R k with
    | none =>
      rw [h7] at h6
      rw [h5.1 h6]
      exact p3
    | some s =>
      rw [h7] at h6
      obtain ⟨y, h8, h9⟩ := h5.2 _ h6
      rw [h8]
      exact h9
/-- rows | {n: s}, n a key -/
theorem mergeK_one {kvs : List (Key × V)} {k : Key} {v : V} : mergeK kvs [(k, v)] = putK kvs k v := rfl
theorem putK_rows {H : Hp} {n : Str} {s : S3} {v : V} (hv : (Is K (stD s)).p S v H) : ∀ {R : Rows} {kvs : List (Key × V)}, n ∈ R.map Prod.fst → kvs.map Prod.fst = (rowsF K R).map Prod.fst → Ins S ((rowsF K R).map Prod.snd) (kvs.map Prod.snd) H →
    (putK kvs (.inr n) v).map Prod.fst = (rowsF K (putR R n s)).map Prod.fst ∧ Ins S ((rowsF K (putR R n s)).map Prod.snd) ((putK kvs (.inr n) v).map Prod.snd) H := by
  intro R kvs hn hk hi
  have hany : (kvs.any fun kv => decide (kv.1 = .inr n)) = true := by
    have : (Sum.inr n : Key) ∈ kvs.map Prod.fst := by
      rw [hk, List.map_map]
      obtain ⟨r, hr, e⟩ := List.mem_map.mp hn
      exact List.mem_map.mpr ⟨r, hr, by rw [← e]; rfl⟩
    obtain ⟨q, hq, e⟩ := List.mem_map.mp this
    exact List.any_eq_true.mpr ⟨q, hq, decide_eq_true e⟩
  unfold putK
  rw [if_pos hany]
  clear hany hn
  induction R generalizing kvs with
  | nil =>
    cases kvs with
    | nil => exact ⟨rfl, rfl⟩
    | cons q kvs => cases hk
  | cons r R ih =>
    cases kvs with
    | nil => cases hk
    | cons q kvs =>
      obtain ⟨u, ws, e1, e2, e3⟩ := hi
      injection e1 with e1 e1'
      injection hk with hk1 hk2
      rw [← e1'] at e3
      obtain ⟨i1, i2⟩ := ih hk2 e3
      have hk1 : q.1 = Sum.inr r.1 := hk1
      by_cases hr : r.1 = n
      · have hq : q.1 = Sum.inr n := by rw [hk1, hr]
        refine ⟨?_, ?_⟩
        · show (if q.1 = Sum.inr n then (q.1, v) else q).1 :: _ = (Sum.inr (if r.1 = n then (r.1, s) else r).1 : Key) :: _
          rw [if_pos hq, if_pos hr]
          show q.1 :: _ = _
          rw [hk1]
          exact congrArg _ i1
        · show Ins S (Is K (stD (if r.1 = n then (r.1, s) else r).2) :: _) ((if q.1 = Sum.inr n then (q.1, v) else q).2 :: _) H
          rw [if_pos hq, if_pos hr]
          exact ⟨_, _, rfl, hv, i2⟩
      · have hq : ¬ q.1 = Sum.inr n := fun z => hr (Sum.inr.inj (hk1.symm.trans z))
        refine ⟨?_, ?_⟩
        · show (if q.1 = Sum.inr n then (q.1, v) else q).1 :: _ = (Sum.inr (if r.1 = n then (r.1, s) else r).1 : Key) :: _
          rw [if_neg hq, if_neg hr, hk1]
          exact congrArg _ i1
        · show Ins S (Is K (stD (if r.1 = n then (r.1, s) else r).2) :: _) ((if q.1 = Sum.inr n then (q.1, v) else q).2 :: _) H
          rw [if_neg hq, if_neg hr]
          exact ⟨_, _, rfl, by rw [e1]; exact e2, i2⟩
theorem gr_dor {R : Rows} {n : Str} {s : S3} (hn : n ∈ R.map Prod.fst) (hz : R.length ≤ 100) : GR S I rDor (Dct (rowsF K R)) (Dct [(.inr n, Is K (stD s))]) (Dct (rowsF K (putR R n s))) I := fun x y H hi h1 h2 Q q => by
  obtain ⟨d, kvs, rfl, hs, h3, h4, h5⟩ := h1
  obtain ⟨d', kvs', rfl, hs', h3', h4', h5'⟩ := h2
  have hkl : kvs.length = R.length := by
    have := congrArg List.length h4
    simpa using this
  have key : ∃ v, kvs' = [(Sum.inr n, v)] ∧ (Is K (stD s)).p S v H := by
    cases kvs' with
    | nil => cases h4'
    | cons p r =>
      obtain ⟨pk, pv⟩ := p
      cases r with
      | cons _ _ => simp at h4'
      | nil =>
        have e4 : pk = Sum.inr n := by simpa using h4'
        obtain ⟨v, ws, e1, e2, e3⟩ := h5'
        have e5 : pv = v := by
          have : [pv] = v :: ws := e1
          exact (List.cons.inj this).1
        exact ⟨v, by rw [e4, e5], e2⟩
  obtain ⟨v, rfl, e2⟩ := key
  refine ⟨d, d', kvs, _, rfl, rfl, h3, h3', Nat.le_trans (by rw [hkl]; show R.length + 1 ≤ 101; omega) (by decide), fun p hp => ?_⟩
  rw [mergeK_one]
  obtain ⟨i1, i2⟩ := putK_rows e2 hn h4 h5
  exact q _ _ (XE.new hp) (I.le (LX.new hp) hi) ⟨p, _, rfl, I.fresh hi hp, .inl upd_same, i1, i2.xe (XE.new hp)⟩
/-- a dict that is being made -/
def IV.dk {S : AS} (I : IV S) (p : Addr) (rows : List (Key × Fm)) : IV (SU S p) := ⟨fun H => (∀ kvs, I.p (upd H p (.dK kvs))) ∧ ∃ kvs, H p = some (.dK kvs) ∧ kvs.map Prod.fst = rows.map Prod.fst ∧ Ins (SU S p) (rows.map Prod.snd) (kvs.map Prod.snd) H,
  fun e ⟨h, kvs, h1, h2, h3⟩ => ⟨fun gs => I.le (LX.updB (e.sub fun a z => .inl z)) (h gs), kvs, e.2 p _ (.inr rfl) h1, h2, Ins.le e.any h3⟩, fun ⟨h, kvs, h1, _⟩ a ha => ha.elim (fun z => by
    have := h kvs
    rw [upd_id h1] at this
    exact I.dom this a z) fun z => by
    subst z
    exact ⟨_, h1, rfl⟩⟩
theorem dk_wk {S : AS} {I : IV S} {p : Addr} {rows : List (Key × Fm)} {H : Hp} (h : (I.dk p rows).p H) : I.p H := by
  obtain ⟨h, kvs, h1, _⟩ := h
  have := h kvs
  rw [upd_id h1] at this
  exact this
theorem dk_out {S : AS} {I : IV S} {p : Addr} {rows : List (Key × Fm)} {H : Hp} (hp : ¬ S p) (h : (I.dk p rows).p H) : (Dct rows).p S (.ref p) H := by
  obtain ⟨h, kvs, h1, h2, h3⟩ := h
  exact ⟨p, kvs, rfl, hp, .inl h1, h2, h3.lift fun a z => .inl (.inl z)⟩
theorem dk_ext {S : AS} {I : IV S} {p : Addr} {rows : List (Key × Fm)} (hp : ¬ S p) : Ext I (I.dk p rows) := ⟨fun _ h => .inl h, fun _ h => dk_wk h, fun T at_ c => ⟨fun a h => .inl (c.1 a h), c.2.1, fun H H' ⟨h, kvs, h1, h2, h3⟩ e ha =>
  ⟨fun xs => c.2.2 _ _ (h xs) (XE.updB e) (c.2.1 H' _ (fun a z => by rw [upd_ne (fun y => hp (by rw [← y]; exact c.1 a z))]) ha), kvs, e p _ (fun z => hp (c.1 p z)) h1, h2, h3.xe (e.sub fun a z => .inl (c.1 a z))⟩⟩⟩
theorem ge_disp1 {n : Str} (hk : ∀ (S' : AS) (J : IV S'), GE S' Γ J ty (Is K (.str n)) J) (hv : ∀ (S' : AS) (J : IV S'), GE S' Γ J tx ψ J) : GE S Γ I (tDisp [(ty, tx)]) (Dct [(.inr n, ψ)]) I := fun σ H e hi Q q p hp => by
  have nS : ¬ S p := I.fresh hi hp
  have e0 : Env (SU S p) Γ σ (upd H p (.dK [])) := (Env.lift (fun a z => z.elim .inl fun z => .inr (by rw [z]; exact hp)) e).xe (XE.new hp)
  have j0 : (I.dk p []).p (upd H p (.dK [])) := ⟨fun kvs => by rw [upd_upd]; exact I.le (LX.new hp) hi, [], upd_same, rfl, rfl⟩
  have back : ∀ {H'} {o : HO}, XE (SU S p) (upd H p (.dK [])) H' → XE S H (upd H' p o) := fun {H'} {o} x a u hs ha => by
    have : a ≠ p := ne_of_none ha hp
    rw [upd_ne this]
    exact x a u (fun z => z.elim hs this) (by rw [upd_ne this]; exact ha)
  refine hk _ (I.dk p []) σ _ e0 j0 _ fun v1 H1 l1 j1 p1 => hv _ (I.dk p []) σ H1 (e0.xe l1) j1 _ fun v2 H2 l2 j2 p2 => ?_
  obtain ⟨k2, kvs, h2, h3, h4⟩ := j2
  have : kvs = [] := by cases kvs with
    | nil => rfl
    | cons a b => cases h3
  subst this
  refine ⟨h2, [(Sum.inr n, v2)], ?_, by show 1 ≤ 15; decide, ?_⟩
  · rw [Da.str_of p1]
    rfl
  · have p3 : ψ.p (SU S p) v2 (upd H2 p (.dK (mergeK [] [(Sum.inr n, v2)]))) := ψ.xe (XE.mut (.inr rfl)) p2
    exact q _ _ (back (l1.trans l2)) (k2 _) ⟨p, _, rfl, nS, .inl upd_same, rfl, _, _, rfl, ψ.lift (fun a z => .inl (.inl z)) p3, rfl⟩
theorem putK_new {kvs : List (Key × V)} {k : Key} {v : V} (h : ¬ k ∈ kvs.map Prod.fst) : putK kvs k v = kvs ++ [(k, v)] := by
  unfold putK
  rw [if_neg]
  intro z
  obtain ⟨q, hq, e⟩ := List.any_eq_true.mp z
  exact h (List.mem_map.mpr ⟨q, hq, of_decide_eq_true e⟩)
/-- {k: v for x in ..}, the keys texts, each once -/
theorem ge_dc {α : Type} {wi : TI} {g : TG} {tk tv : TE} {vs : List Nat} (src : List α) (emb : α → Fm) (k : α → Str) (ψ : α → Fm) (h : GI S Γ I wi (src.map emb) J) (hn : (src.map k).Nodup) (hz : src.length ≤ 1000)
    (hs : ∀ (x : α) (S' : AS) (I' : IV S'), Ext J I' → x ∈ src → ∃ Δ js, (∀ j ∈ js, j ∈ vs) ∧ GG S' (wipeG Γ vs) g (emb x) Δ js ∧ GT S' Δ I' tt (fun c => true = c) I' ∧ GE S' Δ I' tk (Is K (.str (k x))) I' ∧ GE S' Δ I' tv (ψ x) I') :
    GE S Γ I (tDc wi g tt tk tv vs) (Dct (src.map fun x => (.inr (k x), ψ x))) J := fun σ H e hi Q q => h σ H e hi _ fun Jt H1 l1 j1 ⟨Gw, Y, w, hT⟩ D hD => by
  have nS : ¬ S D := J.fresh j1 hD
  have sub : ∀ a, SU S D a → S a ∨ H1 a = none := fun a z => z.elim .inl fun z => .inr (by rw [z]; exact hD)
  obtain ⟨hG, hY⟩ := hT (SU S D) sub
  have back : ∀ {H'}, XE (SU S D) H1 H' → XE S H1 H' := fun {H'} x a o hs ha => x a o (fun z => z.elim hs fun z => by
    subst z
    rw [hD] at ha
    cases ha) ha
  have eD : Env (SU S D) Γ σ H1 := Env.lift sub (e.xe l1)
  have hlen : (src.map emb).length = src.length := List.length_map ..
  refine ⟨fun i m H' => m = src.length - i ∧ i ≤ src.length ∧ XE (SU S D) H1 H' ∧ (J.dk D ((src.take i).map fun x => (.inr (k x), ψ x))).p H', ⟨src.length, by simp, Nat.zero_le _, XE.new hD, fun kvs => by rw [upd_upd]; exact J.le (LX.new hD) j1, [], upd_same, rfl, rfl⟩, ?_⟩
  rintro i m H2 ⟨rfl, hi2, l2, jf⟩
  by_cases hlt : i < src.length
  · refine .inr ⟨w.goes i H2 (by rw [hlen]; exact hlt) (hG H2 l2), fun H' => XE (SU S D) H1 H' ∧ (J.dk D ((src.take (i + 1)).map fun x => (.inr (k x), ψ x))).p H', fun H' p' => ⟨src.length - (i + 1), by omega, rfl, hlt, p'⟩, fun x H3 y => ?_⟩
    have hx : src[i]? = some src[i] := List.getElem?_eq_getElem hlt
    have hψ : (src.map emb)[i]? = some (emb src[i]) := by rw [List.getElem?_map, hx]; rfl
    obtain ⟨sm, px⟩ := hY i _ H2 x H3 hψ l2 (fun q hq => hq.elim ((J.dk D _).fresh jf) fun ⟨_, z⟩ => (J.dk D _).notT jf z) (w.yields i H2 x H3 (by rw [hlen]; exact hlt) (hG H2 l2) y)
    have jf3 := (J.dk D _).le (LX.of sm) jf
    obtain ⟨Δ, js, hjs, hg, ht, hk, hv⟩ := hs src[i] (SU S D) (J.dk D _) (dk_ext nS) (List.getElem_mem hlt)
    have l3 := l2.trans (XE.of sm)
    refine hg (L2.wipe σ vs) H3 x _ ((Env.wipe eD vs).xe l3) px fun σ2 e2 w2 => ?_
    refine ⟨by rw [w2 vs hjs]; exact wipe_idem σ vs vs fun _ m => m, ht σ2 H3 e2 jf3 _ fun b H4 l4 j4 pb => ?_⟩
    subst pb
    rw [if_pos rfl]
    refine hk σ2 H4 (e2.xe l4) j4 _ fun v H5 l5 j5 pv => hv σ2 H5 (e2.xe (l4.trans l5)) j5 _ fun z H6 l6 j6 pz => ?_
    obtain ⟨k6, kvs, h6, h7, h8⟩ := j6
    have e1 : src.take (i + 1) = src.take i ++ [src[i]] := take_one hx
    have hfst : kvs.map Prod.fst = (src.take i).map fun x => (.inr (k x) : Key) := by rw [h7, List.map_map]; rfl
    have hnew : ¬ (Sum.inr (k src[i]) : Key) ∈ kvs.map Prod.fst := by
      rw [hfst]
      intro z
      obtain ⟨y, hy, e⟩ := List.mem_map.mp z
      have hnd : ((src.take i ++ [src[i]]).map k).Nodup := by
        rw [← e1, List.map_take]
        exact hn.sublist (List.take_sublist _ _)
      rw [List.map_append] at hnd
      have := (List.nodup_append.mp hnd).2.2 (k y) (List.mem_map_of_mem hy) (k src[i]) (List.mem_singleton.mpr rfl)
      exact this (Sum.inr.inj e)
    have hkl : kvs.length = i := by
      have := congrArg List.length hfst
      rw [List.length_map, List.length_map, List.length_take] at this
      omega
    refine ⟨kvs, .inr (k src[i]), Da.str_of pv, h6, Nat.lt_of_lt_of_le (by rw [hkl]; exact hlt) (Nat.le_trans hz (by decide)), (((l3.trans l4).trans l5).trans l6).trans (XE.mut (.inr rfl)), fun xs => by rw [upd_upd]; exact k6 xs, kvs ++ [(.inr (k src[i]), z)], by rw [upd_same, putK_new hnew], ?_, ?_⟩
    · rw [e1, List.map_append, List.map_append, List.map_append, h7]
      rfl
    · rw [e1, List.map_append, List.map_append, List.map_append]
      exact (Ins.app (ψs := [ψ src[i]]) (ws := [z]) h8 ⟨z, [], rfl, pz, rfl⟩).xe (XE.mut (.inr rfl))
  · have ei : i = src.length := by omega
    subst ei
    rw [List.take_length] at jf
    exact .inl ⟨by have := w.stops H2 (hG H2 l2); rw [hlen] at this; exact this, q _ _ (l1.trans (back l2)) (dk_wk jf) (dk_out nS jf)⟩
end
end Hs
set_option Elab.async false
set_option linter.all false
set_option maxRecDepth 100000
set_option maxHeartbeats 4000000
/-! rules on sets of texts -/
namespace Hs
open PySem PySem.Spec PyProof.Rows L2 PySem.Froz
theorem perm_nodup : ∀ {l T : List Str}, l.Nodup → (∀ x ∈ l, x ∈ T) → l.length = T.length → T.Perm l
  | [], T, _, _, hl => by
    have : T = [] := List.eq_nil_of_length_eq_zero hl.symm
    rw [this]
  | x :: l, T, hn, hs, hl => by
    obtain ⟨h1, h2⟩ := List.nodup_cons.mp hn
    have hx : x ∈ T := hs x List.mem_cons_self
    have p := List.perm_cons_erase hx
    refine p.trans (List.Perm.cons x (perm_nodup h2 (fun y hy => ?_) ?_))
    · have := p.mem_iff.mp (hs y (List.mem_cons_of_mem _ hy))
      rcases List.mem_cons.mp this with e | e
      · exact absurd (e ▸ hy) h1
      · exact e
    · have := p.length_eq
      rw [List.length_cons] at this hl
      omega
theorem strs_of {P : Program} {w : World} : ∀ {es : List (Int × Value)}, ElemsOf (strKind P w) es → ∃ T : List Str, StrsAre (es.map (·.2)) T ∧ ∀ k, k ∈ T ↔ ∃ e ∈ es, (strKind P w).is k e.2 = true
  | [], _ => ⟨[], .nil, fun k => by simp⟩
  | e :: es, h => by
    obtain ⟨T, h1, h2⟩ := strs_of h.tail
    obtain ⟨⟨k, hk, _⟩, _⟩ := h.head
    have hk' : Value.isStrOf k e.2 = true := hk
    obtain ⟨t, ev⟩ := Value.isStrOf_shape hk'
    refine ⟨k :: T, ?_, fun x => ?_⟩
    · show StrsAre (e.2 :: es.map (·.2)) (k :: T)
      rw [ev]
      exact .cons k t h1
    · constructor
      · intro hm
        rcases List.mem_cons.mp hm with q | q
        · exact ⟨e, List.mem_cons_self, by rw [q]; exact hk⟩
        · obtain ⟨f, hf, z⟩ := (h2 x).mp q
          exact ⟨f, List.mem_cons_of_mem _ hf, z⟩
      · rintro ⟨f, hf, z⟩
        rcases List.mem_cons.mp hf with q | q
        · rw [q] at z
          rw [(strKind P w).inj _ _ _ z hk]
          exact List.mem_cons_self
        · exact List.mem_cons_of_mem _ ((h2 x).mpr ⟨f, q, z⟩)
def SetTx (P : Program) (w : World) (a : Addr) (l : List Str) : HO := .ext fun h => TsR P w h a l
section
variable {X : Cx}
theorem setTx_new {w : World} {P : Program} {H : Hp} {h : Heap} {a : Addr} {l : List Str} (R : TsR P w h a l) : ObjOk P w H h a (SetTx P w a l) := by
  have ⟨D, ho, _⟩ := R
  exact ⟨R, ⟨_, ho⟩, fun h1 h2 p k => TsR.at p k⟩
theorem setTx_get {pins : List (Addr × Obj)} {σ : L2.St} {H : Hp} {s : Shared} {a : Addr} {l : List Str} (I : Inv X pins σ H s) (ha : H a = some (SetTx X.prog X.w a l)) : TsR X.prog X.w s.heap a l := (I.hok a _ ha).1
theorem TsR.setOf {P : Program} {w : World} {h : Heap} {a : Addr} {l : List Str} (R : TsR P w h a l) (hl : l.length < scanBound) : h.SetOf (strKind P w) a (fun k => decide (k ∈ l)) l.length := by
  obtain ⟨⟨es, ep, t⟩, ho, F, _, _, _⟩ := R
  refine ⟨_, es, ep, t, ho, ⟨rfl, rfl, rfl⟩, rfl, F.el, fun k => by rw [decide_eq_true_iff]; exact F.mem k, ?_, F.fit, F.sz⟩
  have : es.size = l.length := F.sz
  omega
/-- set(xs), a list or a tuple of texts -/
def rSetTx (P : Program) (w : World) (K : PySem.W.Frag) : List V → Hp → VK → Prop := fun xs H Q => ∃ (b : Addr) (ts : List Str), xs = [V.ref b] ∧ (SqL K H b (ts.map V.str) ∨ SqT K H b (ts.map V.str)) ∧ ts.length ≤ 1000 ∧
  ∀ p l, (∀ x, x ∈ l ↔ x ∈ ts) → l.length ≤ ts.length → l.Nodup → H p = none → Q (.ref p) (upd H p (SetTx P w p l))
theorem cr_setTx (hc : X.calm = true) : CallR X (.type "set") (rSetTx X.prog X.w X.K) := by
  intro pins s σ H xs us Q I r h
  obtain ⟨b, ts, rfl, hs, hz, q⟩ := h
  rw [Vals.ref1 r]
  have fin : ∀ (h' : Heap) (tk : Nat) (l2 : List Str), TsR X.prog X.w h' s.heap.objs.size l2 → (∀ x, x ∈ l2 ↔ x ∈ ts) → l2.length ≤ ts.length → (∀ b o, s.heap.get? b = some o → h'.get? b = some o) →
      EP X pins σ Q (.ref s.heap.objs.size) { s with heap := h', toks := tk } := fun h' tk l2 R hm hl k =>
    ⟨.ref _, upd H s.heap.objs.size (SetTx X.prog X.w s.heap.objs.size l2), I.laid (t' := tk) k (Nat.le_refl _) (setTx_new R), rfl, q _ l2 hm hl (by obtain ⟨D, _, _, _, _, nd⟩ := R; exact nd) (I.hok.fresh (Nat.le_refl _))⟩
  rcases hs with hs | hs
  · obtain ⟨its, rv, pl, _⟩ := I.list hs
    exact call_set_txL ts (I.ok.hd hc) pl.isList (by simpa using strsAre_of rv) (by unfold scanBound; omega) fin
  · obtain ⟨its, rv, pl, _⟩ := I.tuple hs
    exact call_set_txT ts (I.ok.hd hc) pl (by simpa using strsAre_of rv) (by unfold scanBound; omega) fin
/-- k in s, k not in s -/
def rTxIn (P : Program) (w : World) (b : Bool) : V → V → Hp → VK → Prop := fun x y H Q => ∃ k a l, x = V.str k ∧ y = V.ref a ∧ H a = some (SetTx P w a l) ∧ l.length ≤ 1000 ∧ Q (.bl (b ^^ decide (k ∈ l))) H
theorem op_txIn : OpR X (compareOp .In) (rTxIn X.prog X.w false) := by
  intro pins s σ H x y v u Q I rx ry h
  obtain ⟨k, a, l, rfl, rfl, ha, hz, q⟩ := h
  obtain ⟨tk, rfl⟩ := rx
  cases ry
  refine wpAny_inSet_of (is_str k tk) rfl ((setTx_get I ha).setOf (by unfold scanBound; omega)) ⟨.bl (decide (k ∈ l)), H, I.tok _, rfl, ?_⟩
  rw [Bool.false_xor] at q
  exact q
theorem op_txNotIn : OpR X (compareOp .NotIn) (rTxIn X.prog X.w true) := by
  intro pins s σ H x y v u Q I rx ry h
  obtain ⟨k, a, l, rfl, rfl, ha, hz, q⟩ := h
  obtain ⟨tk, rfl⟩ := rx
  cases ry
  refine wpAny_notInSet_of (is_str k tk) rfl ((setTx_get I ha).setOf (by unfold scanBound; omega)) ⟨.bl (!decide (k ∈ l)), H, I.tok _, rfl, ?_⟩
  rw [Bool.true_xor] at q
  exact q
/-- len(s) -/
def rLenTx (P : Program) (w : World) : List V → Hp → VK → Prop := fun xs H Q => ∃ a l, xs = [V.ref a] ∧ H a = some (SetTx P w a l) ∧ l.length ≤ 1000 ∧ Q (.int l.length) H
theorem cr_lenTx : CallR X (.builtin "len") (rLenTx X.prog X.w) := by
  intro pins s σ H xs us Q I r h
  obtain ⟨a, l, rfl, ha, hz, q⟩ := h
  rw [Vals.ref1 r]
  obtain ⟨⟨es, ep, t⟩, ho, F, _, _, _⟩ := setTx_get I ha
  have hsz : es.size = l.length := F.sz
  refine call_len_set (es := es) (ep := ep) (t := t) ho ⟨rfl, rfl, rfl⟩ rfl F.fit (by omega) ⟨.int l.length, H, I.tok _, ⟨_, by rw [hsz]⟩, q⟩
/-- sorted(s) -/
def rSortTx (P : Program) (w : World) : List V → Hp → VK → Prop := fun xs H Q => ∃ a l, xs = [V.ref a] ∧ H a = some (SetTx P w a l) ∧ l.length < 64 ∧
  ∀ ys p, ys.Perm l → sortedS ys = true → H p = none → l.Nodup → Q (.ref p) (upd H p (.lst (ys.map V.str)))
theorem cr_sortTx (hc : X.calm = true) : CallR X (.builtin "sorted") (rSortTx X.prog X.w) := by
  intro pins s σ H xs us Q I r h
  obtain ⟨a, l, rfl, ha, h64, q⟩ := h
  rw [Vals.ref1 r]
  obtain ⟨⟨es, ep, t⟩, ho, F, ri, led, nd⟩ := setTx_get I ha
  have hsz : es.size = l.length := F.sz
  refine Calls.call_function_entry kind_sorted plain_sorted entry_sorted (args_sorted1 _) ?_
  unfold Builtin.«sorted»
  refine wpAny_bind (m := checkCount "sorted" 1 1 _) (wpAny_pure ?_)
  refine wpAny_bind (collect_set (A := X.A.in1) (I.ok.hd hc) ⟨_, ho, rfl, rfl⟩ F.fit (by show es.size < scanBound; unfold scanBound; omega) ri led fun s1 vs k1 hz g1 o1 pm => ?_)
  obtain ⟨T, hT, hTm⟩ := strs_of (P := X.prog) (w := X.w) F.el
  have hTl : T.Perm l := perm_nodup nd (fun x hx => (hTm x).mpr ((F.mem x).mp hx)) (by rw [← StrsAre.len_eq hT, List.length_map, Array.length_toList]; exact hsz.symm)
  have hvl : vs.length = l.length := by rw [pm.length_eq, List.length_map, Array.length_toList]; exact hsz
  obtain ⟨T2, hS, hT2⟩ : ∃ T2, StrsAre vs T2 ∧ T2.Perm T := by
    have hall : ∀ v ∈ vs, ∃ x t, v = Value.str x t := fun v hv => hT.all v (pm.mem_iff.mp hv)
    refine ⟨vs.map strOf, strsAre_map vs hall, ?_⟩
    have := pm.map strOf
    rw [hT.strs] at this
    exact this
  refine wpAny_bind (wpAny_newList ?_ (by rw [hvl, sizeLine_eq]; omega))
  have hoL : (s1.heap.push (seqObj "list" vs.toArray 0)).get? s1.heap.objs.size = some (seqObj "list" vs.toArray 0) := Heap.get?_push_size _ rfl
  refine wpAny_bind (wpAny_holding (wpAny_call_entry slot_list_sort ⟨_, hoL, rfl⟩ entry_list_sort (list_sort_treeK strKind_oneLt hoL hS.keysOf (fun v₁ v₂ rest e => keyKind_strs (by rw [← e]; exact hS)) (by rw [hvl]; exact h64) fun st' hp hs => ⟨_, rfl, ?_⟩) (args_list_sort _)))
  obtain ⟨ys, g1', g2, g3⟩ := sorted_out_str hS hp hs
  obtain ⟨c, hcc⟩ := sortedHeap_at (vs := vs) (out := (arrOf st').map (·.2)) hoL
  have hlen : (ys.map V.str).length ≤ sizeLine := by
    rw [List.length_map, g2.length_eq, hT2.length_eq, hTl.length_eq, sizeLine_eq]; omega
  have hn : H s1.heap.objs.size = none := I.hok.fresh hz
  have kall : ∀ b u, s.heap.get? b = some u → (sortedHeap (s1.heap.push (seqObj "list" vs.toArray 0)) s1.heap.objs.size vs ((arrOf st').map (·.2))).get? b = some u := fun b u e => by
    have q := k1 b u e
    have hlt := Heap.lt_size q
    rw [sortedHeap_old (Nat.ne_of_lt hlt) (by rw [size_push']; exact Nat.lt_succ_of_lt hlt)]
    exact Heap.get?_push_of_some _ q
  obtain ⟨hp1, gn1, dr1, tk1, os1⟩ := s1
  cases g1
  cases o1
  have J : Inv X pins σ (upd H hp1.objs.size (.lst (ys.map V.str))) { s with heap := sortedHeap (hp1.push (seqObj "list" vs.toArray 0)) hp1.objs.size vs ((arrOf st').map (·.2)), drawn := dr1, toks := tk1 } :=
    I.call (ch := []) (Un.laid kall hz hn) (I.hok.laid kall hz ⟨hlen, ((arrOf st').map (·.2)).toList, c, vals_of_strs g1', by rw [Array.toArray_toList]; exact hcc⟩) I.bare (fun _ z => nomatch z)
  exact wpAny_pure ⟨_, rfl, .ref hp1.objs.size, _, J, rfl, q ys _ (g2.trans (hT2.trans hTl)) g3 hn nd⟩
end
end Hs
set_option Elab.async false
set_option linter.all false
set_option maxRecDepth 100000
set_option maxHeartbeats 4000000
/-! the contracts -/
namespace Hs
open PySem PySem.Spec PyProof.Rows L2 StX
section
variable (K : PySem.W.Frag)
def ct_is_number : CTR := fun S k => ∃ n lo hi : Int, k.J = k.I ∧ k.ins = [Is K (.int n), Is K (.int lo), Is K (.int hi)] ∧ k.out = Is K (.bool (decide (lo ≤ n) && decide (n ≤ hi)))
def ct_is_there : CTR := fun S k => ∃ sa es R n, k.J = k.I ∧ k.ins = [Sys K sa es R, Is K (.str n)] ∧ k.out = Is K (.bool (isThere R n))
def ct_is_met : CTR := fun S k => ∃ sa es R n l, k.J = k.I ∧ k.ins = [Sys K sa es R, Is K (.tuple [.str n, .int l])] ∧ k.out = Is K (.bool (isMet R n l))
def ct_edition_in : CTR := fun S k => ∃ sa es R n, (lk R n).isSome = true ∧ (findE es n (rowAt R n).ver).isSome = true ∧ k.J = k.I ∧ k.ins = [Sys K sa es R, Is K (.str n)] ∧ k.out = Edn K (edIn es R n)
def ct_lacking : CTR := fun S k => ∃ sa es R needs, needs.length ≤ 10 ∧ k.J = k.I ∧ k.ins = [Sys K sa es R, Is K (needsD needs)] ∧ k.out = NonF (!lacks R needs)
def ct_hostile : CTR := fun S k => ∃ sa es ns R e, EsOk es ns ∧ RowsOk es ns R ∧ k.J = k.I ∧ k.ins = [Sys K sa es R, Edn K e] ∧ k.out = NonF (!hostile es R e)
def ct_is_sound : CTR := fun S k => ∃ sa es ns R, EsOk es ns ∧ RowsOk es ns R ∧ k.J = k.I ∧ k.ins = [Sys K sa es R] ∧ k.out = Is K (.bool (isSound es R))
def ct_is_state : CTR := fun S k => ∃ sa es n s, k.J = k.I ∧ k.ins = [Sto K sa es, Is K (.str n), Is K (stD s)] ∧ k.out = Is K (.bool (isState es n s))
def ct_Store_contains : CTR := fun S k => ∃ sa es n v, k.J = k.I ∧ k.ins = [Sto K sa es, KeyT [.inr n, .inl v]] ∧ k.out = Is K (.bool (findE es n v).isSome)
def ct_unpack_refusal : CTR := fun S k => ∃ sa es ns R n v, EsOk es ns ∧ RowsOk es ns R ∧ k.J = k.I ∧ k.ins = [Sys K sa es R, Is K (.str n), Is K (.int v)] ∧ k.out = NonF (unpackOk es R n v)
def ct_setup_refusal : CTR := fun S k => ∃ sa es ns R n, EsOk es ns ∧ RowsOk es ns R ∧ (lk R n).isSome = true ∧ k.J = k.I ∧ k.ins = [Sys K sa es R, Is K (.str n)] ∧ k.out = NonF (setupOk es R n)
def ct_remove_refusal : CTR := fun S k => ∃ sa es ns R n, EsOk es ns ∧ RowsOk es ns R ∧ k.J = k.I ∧ k.ins = [Sys K sa es R, Is K (.str n)] ∧ k.out = NonF (removeOk es R n)
def ct_refusal : CTR := fun S k => ∃ sa es ns R d, EsOk es ns ∧ RowsOk es ns R ∧ k.J = k.I ∧ k.ins = [Sys K sa es R, Is K d.d] ∧ k.out = NonF (allowed es R d)
end
end Hs
set_option Elab.async false
set_option linter.all false
set_option maxRecDepth 100000
set_option maxHeartbeats 4000000
/-! the contracts of a run -/
namespace Hs
open PySem PySem.Spec PyProof.Rows L2 StX
section
variable (K : PySem.W.Frag)
abbrev RunO (sa : Addr) (es : List Ed) (R : Rows) (fails : List Int) (m : Addr) : Fm := Ob (C_Run K) [("base", Sys K sa es R), ("fails", Is K (.tuple (fails.map .int))), ("made", Eqv (.ref m))]
def ct_Run_is_done : CTR := fun S k => ∃ sa es ns R fails m F c n v sc w2 x, CntF S m F ∧ EsOk es ns ∧ RowsOk es ns R ∧ (findE es n v).isSome = true ∧ c ≤ 60 ∧ k.I = F c ∧ k.J = F (isDone es fails n v sc c).2 ∧ k.ins = [RunO K sa es R fails m, Is K (.str n), Is K (.int v), Is K (.tuple [.str sc, .str w2, .int x])] ∧ k.out = Is K (.bool (isDone es fails n v sc c).1)
def ct_Run_put_back : CTR := fun S k => ∃ sa es ns R fails m F c n new st, CntF S m F ∧ EsOk es ns ∧ RowsOk es ns R ∧ (lk R n).isSome = true ∧ (findE es n (rowAt R n).ver).isSome = true ∧ c ≤ 59 ∧ k.I = F c ∧ k.J = F (putBack es fails n (rowAt R n) st c).2 ∧ k.ins = [RunO K sa es R fails m, Is K (.str n), Is K (.int new), Is K (.str st)] ∧ k.out = Is K (stD (putBack es fails n (rowAt R n) st c).1)
def ct_Run_given_up : CTR := fun S k => ∃ sa es ns R fails m F c n new, CntF S m F ∧ EsOk es ns ∧ RowsOk es ns R ∧ (lk R n).isSome = true ∧ (findE es n (rowAt R n).ver).isSome = true ∧ (findE es n new).isSome = true ∧ c ≤ 58 ∧ k.I = F c ∧ k.J = F (givenUp es fails n (rowAt R n) new c).2 ∧ k.ins = [RunO K sa es R fails m, Is K (.str n), Is K (.int new)] ∧ k.out = Is K (stD (givenUp es fails n (rowAt R n) new c).1)
def ct_Run_is_left : CTR := fun S k => ∃ sa es ns R fails m F c n old new, CntF S m F ∧ EsOk es ns ∧ RowsOk es ns R ∧ (findE es n old).isSome = true ∧ (findE es n new).isSome = true ∧ c ≤ 58 ∧ k.I = F c ∧ k.J = F (isLeft es fails n old new c).2 ∧ k.ins = [RunO K sa es R fails m, Is K (.str n), Is K (.int old), Is K (.int new)] ∧ k.out = Is K (.bool (isLeft es fails n old new c).1)
def ct_Run_unpacked_over : CTR := fun S k => ∃ sa es ns R fails m F c n new, CntF S m F ∧ EsOk es ns ∧ RowsOk es ns R ∧ (lk R n).isSome = true ∧ (findE es n (rowAt R n).ver).isSome = true ∧ (findE es n new).isSome = true ∧ c ≤ 50 ∧ k.I = F c ∧ k.J = F (unpackedOver es fails n (rowAt R n) new c).2 ∧ k.ins = [RunO K sa es R fails m, Is K (.str n), Is K (.int new)] ∧ k.out = Is K (stD (unpackedOver es fails n (rowAt R n) new c).1)
def ct_Run_unpacked_new : CTR := fun S k => ∃ sa es ns R fails m F c n new, CntF S m F ∧ EsOk es ns ∧ RowsOk es ns R ∧ (lk R n).isSome = true ∧ (findE es n new).isSome = true ∧ c ≤ 50 ∧ k.I = F c ∧ k.J = F (unpackedNew es fails n (rowAt R n) new c).2 ∧ k.ins = [RunO K sa es R fails m, Is K (.str n), Is K (.int new)] ∧ k.out = Is K (stD (unpackedNew es fails n (rowAt R n) new c).1)
def ct_Run_set_up : CTR := fun S k => ∃ sa es ns R fails m F c n, CntF S m F ∧ EsOk es ns ∧ RowsOk es ns R ∧ (lk R n).isSome = true ∧ (findE es n (rowAt R n).ver).isSome = true ∧ c ≤ 50 ∧ k.I = F c ∧ k.J = F (setUp es fails n (rowAt R n) c).2 ∧ k.ins = [RunO K sa es R fails m, Is K (.str n)] ∧ k.out = Is K (stD (setUp es fails n (rowAt R n) c).1)
def ct_Run_removed : CTR := fun S k => ∃ sa es ns R fails m F c n, CntF S m F ∧ EsOk es ns ∧ RowsOk es ns R ∧ (lk R n).isSome = true ∧ (findE es n (rowAt R n).ver).isSome = true ∧ c ≤ 50 ∧ k.I = F c ∧ k.J = F (removed es fails n (rowAt R n) c).2 ∧ k.ins = [RunO K sa es R fails m, Is K (.str n)] ∧ k.out = Is K (stD (removed es fails n (rowAt R n) c).1)
def ct_Run_purged : CTR := fun S k => ∃ sa es ns R fails m F c n, CntF S m F ∧ EsOk es ns ∧ RowsOk es ns R ∧ (lk R n).isSome = true ∧ (findE es n (rowAt R n).ver).isSome = true ∧ c ≤ 50 ∧ k.I = F c ∧ k.J = F (purged es fails n (rowAt R n) c).2 ∧ k.ins = [RunO K sa es R fails m, Is K (.str n)] ∧ k.out = Is K (stD (purged es fails n (rowAt R n) c).1)
/-- what the versions of a deed's calls want -/
def runnable (es : List Ed) (R : Rows) : Deed → Prop
  | .unpack n v => (lk R n).isSome = true ∧ (findE es n v).isSome = true
  | .setup n => (lk R n).isSome = true ∧ ¬ (rowAt R n).st = sAb
  | .remove n => (lk R n).isSome = true ∧ ¬ (rowAt R n).st = sAb
  | .purge n => (lk R n).isSome = true ∧ ¬ (rowAt R n).st = sAb
def ct_Run_state_behind : CTR := fun S k => ∃ sa es ns R fails m F c d, CntF S m F ∧ EsOk es ns ∧ RowsOk es ns R ∧ runnable es R d ∧ c ≤ 50 ∧ k.I = F c ∧ k.J = F (stateBehind es fails R d c).2 ∧ k.ins = [RunO K sa es R fails m, Is K d.d] ∧ k.out = Is K (stD (stateBehind es fails R d c).1)
end
end Hs
set_option Elab.async false
set_option linter.all false
set_option maxRecDepth 100000
set_option maxHeartbeats 4000000
/-! a run leaves a state that is one -/
namespace Hs
open PySem PySem.Spec PyProof.Rows L2
def doneOk (es : List Ed) (n : Str) (x : Int) : Prop := x = 0 ∨ (findE es n x).isSome = true
abbrev midSt : List Str := [sFa, sHa, sLe, sUn]
theorem mid_ok {es : List Ed} {n st : Str} {v x : Int} (hs : st ∈ midSt) (hv : (findE es n v).isSome = true) (hx : doneOk es n x) : isState es n ⟨st, v, x⟩ = true := by
  have h1 : decide (st = sAb) = false := decide_eq_false fun e => by
    subst e
    revert hs
    decide +kernel
  have h2 : decide (st ∈ allSt) = true := decide_eq_true (by
    rcases List.mem_cons.mp hs with e | hs
    · rw [e]; decide +kernel
    · rcases List.mem_cons.mp hs with e | hs
      · rw [e]; decide +kernel
      · rcases List.mem_cons.mp hs with e | hs
        · rw [e]; decide +kernel
        · rw [List.mem_singleton.mp hs]; decide +kernel)
  have h3 : decide (st = sRe) = false := decide_eq_false fun e => by
    subst e
    revert hs
    decide +kernel
  unfold isState
  rw [if_neg (by rw [h1]; decide)]
  have h4 : (!decide (x = 0) && !(findE es n x).isSome) = false := by
    rcases hx with e | e
    · rw [decide_eq_true e]; rfl
    · rw [e]; simp
  rw [if_neg (by show ¬ (!decide (st ∈ allSt) || (!(findE es n v).isSome || (!decide (x = 0) && !(findE es n x).isSome))) = true; rw [h2, hv, h4]; decide)]
  show (!decide (st = sRe) || decide (x = v)) = true
  rw [h3]
  rfl
theorem ready_ok {es : List Ed} {n : Str} {v : Int} (hv : (findE es n v).isSome = true) : isState es n ⟨sRe, v, v⟩ = true := by
  unfold isState
  rw [if_neg (by show ¬ decide (sRe = sAb) = true; decide +kernel)]
  have h2 : decide (sRe ∈ allSt) = true := by decide +kernel
  rw [if_neg (by show ¬ (!decide (sRe ∈ allSt) || (!(findE es n v).isSome || (!decide (v = 0) && !(findE es n v).isSome))) = true; rw [h2, hv]; simp)]
  show (!decide (sRe = sRe) || decide (v = v)) = true
  rw [decide_eq_true (show v = v from rfl)]
  simp
theorem done_of {es : List Ed} {n : Str} {s : S3} (h : isState es n s = true) : doneOk es n s.done := by
  unfold isState at h
  by_cases hs : s.st = sAb
  · rw [if_pos (decide_eq_true hs)] at h
    exact .inl (of_decide_eq_true (Bool.and_eq_true_iff.mp h).2)
  · rw [if_neg (by rw [decide_eq_false hs]; decide)] at h
    by_cases h2 : s.done = 0
    · exact .inl h2
    · cases h3 : (findE es n s.done).isSome with
      | true => exact .inr h3
      | false =>
        rw [h3, decide_eq_false h2] at h
        simp at h
section
variable {es : List Ed} {fails : List Int} {n : Str} {s : S3}
theorem putBack_ok (h : isState es n s = true) (hv : (findE es n s.ver).isSome = true) {st : Str} (hst : st ∈ midSt) (m : Nat) : isState es n (putBack es fails n s st m).1 = true := by
  unfold putBack
  dsimp only
  split
  · exact h
  · exact mid_ok hst hv (done_of h)
theorem givenUp_ok (h : isState es n s = true) (hv : (findE es n s.ver).isSome = true) (v : Int) (m : Nat) : isState es n (givenUp es fails n s v m).1 = true := by
  unfold givenUp
  dsimp only
  split
  · split
    · exact putBack_ok h hv (by decide +kernel) _
    · exact h
  · exact mid_ok (by decide +kernel) hv (done_of h)
theorem overGo_ok (h : isState es n s = true) (hv : (findE es n s.ver).isSome = true) {v : Int} (hn : (findE es n v).isSome = true) (m : Nat) : isState es n (overGo es fails n s v m).1 = true := by
  unfold overGo
  dsimp only
  split
  · split
    · exact mid_ok (by decide +kernel) hn (done_of h)
    · split
      · exact mid_ok (by decide +kernel) hn (done_of h)
      · split
        · exact givenUp_ok h hv _ _
        · exact mid_ok (by decide +kernel) hv (done_of h)
  · exact givenUp_ok h hv _ _
theorem over_ok (h : isState es n s = true) (hv : (findE es n s.ver).isSome = true) {v : Int} (hn : (findE es n v).isSome = true) (m : Nat) : isState es n (unpackedOver es fails n s v m).1 = true := by
  unfold unpackedOver
  split
  · dsimp only
    split
    · exact overGo_ok h hv hn _
    · exact putBack_ok h hv (by decide +kernel) _
  · exact overGo_ok h hv hn _
theorem new_ok (h : isState es n s = true) {v : Int} (hn : (findE es n v).isSome = true) (m : Nat) : isState es n (unpackedNew es fails n s v m).1 = true := by
  unfold unpackedNew
  dsimp only
  split
  · exact mid_ok (by decide +kernel) hn (done_of h)
  · split
    · exact h
    · exact mid_ok (by decide +kernel) hn (done_of h)
theorem setUp_ok (h : isState es n s = true) (hv : (findE es n s.ver).isSome = true) (m : Nat) : isState es n (setUp es fails n s m).1 = true := by
  unfold setUp
  dsimp only
  split
  · exact ready_ok hv
  · exact mid_ok (by decide +kernel) hv (done_of h)
theorem removedGo_ok (h : isState es n s = true) (hv : (findE es n s.ver).isSome = true) (m : Nat) : isState es n (removedGo es fails n s m).1 = true := by
  unfold removedGo
  dsimp only
  refine mid_ok ?_ hv (done_of h)
  split <;> decide +kernel
theorem removed_ok (h : isState es n s = true) (hv : (findE es n s.ver).isSome = true) (m : Nat) : isState es n (removed es fails n s m).1 = true := by
  unfold removed
  split
  · dsimp only
    split
    · exact removedGo_ok h hv _
    · split
      · exact h
      · exact mid_ok (by decide +kernel) hv (done_of h)
  · exact removedGo_ok h hv _
theorem purged_ok (h : isState es n s = true) (m : Nat) : isState es n (purged es fails n s m).1 = true := by
  unfold purged
  dsimp only
  split
  · unfold isState
    rw [if_pos (by show decide (sAb = sAb) = true; decide +kernel)]
    rfl
  · exact h
end
theorem behind_ok {es : List Ed} {ns : List Str} {R : Rows} {fails : List Int} {d : Deed} (hr : RowsOk es ns R) (hd : runnable es R d) (m : Nat) : isState es d.nm (stateBehind es fails R d m).1 = true := by
  cases d with
  | unpack n v =>
    obtain ⟨hn, hE⟩ := hd
    show isState es n (if _ then _ else _ : S3 × Nat).1 = true
    split
    · exact new_ok (hr.state hn) hE m
    · rename_i h
      refine over_ok (hr.state hn) (hr.found hn (there_na ?_)) hE m
      by_cases h2 : (rowAt R n).st ∈ thereSt
      · exact h2
      · exfalso
        apply h
        rw [decide_eq_false h2]
        rfl
  | setup n => exact setUp_ok (hr.state hd.1) (hr.found hd.1 hd.2) m
  | remove n => exact removed_ok (hr.state hd.1) (hr.found hd.1 hd.2) m
  | purge n => exact purged_ok (hr.state hd.1) m
theorem runnable_in {es : List Ed} {R : Rows} {d : Deed} (hd : runnable es R d) : (lk R d.nm).isSome = true := by
  cases d <;> exact hd.1
theorem allowed_run {es : List Ed} {ns : List Str} {R : Rows} {d : Deed} (he : EsOk es ns) (hr : RowsOk es ns R) (h : allowed es R d = true) : runnable es R d := by
  cases d with
  | unpack n v =>
    have h1 := (Bool.and_eq_true_iff.mp (show unpackOk es R n v = true from h)).1
    exact ⟨hr.inNs he h1, h1⟩
  | setup n =>
    have h1 := Bool.and_eq_true_iff.mp (show ((lk R n).isSome && setupOk es R n) = true from h)
    refine ⟨h1.1, fun e => ?_⟩
    have h2 := of_decide_eq_true (Bool.and_eq_true_iff.mp (show (decide ((rowAt R n).st ∈ [sFa, sUn]) && _) = true from h1.2)).1
    rw [e] at h2
    revert h2
    decide +kernel
  | remove n =>
    have h1 := Bool.and_eq_true_iff.mp (show ((lk R n).isSome && removeOk es R n) = true from h)
    refine ⟨h1.1, ?_⟩
    have h2 := (Bool.and_eq_true_iff.mp (show (isThere R n && _) = true from h1.2)).1
    exact there_na (of_decide_eq_true (Bool.and_eq_true_iff.mp h2).2)
  | purge n =>
    have h1 := Bool.and_eq_true_iff.mp (show ((lk R n).isSome && decide ((rowAt R n).st = sLe)) = true from h)
    refine ⟨h1.1, fun e => ?_⟩
    have h2 := of_decide_eq_true h1.2
    rw [e] at h2
    revert h2
    decide +kernel
theorem putR_keys {R : Rows} {n : Str} {s : S3} : (putR R n s).map Prod.fst = R.map Prod.fst := by
  unfold putR
  rw [List.map_map]
  refine List.map_congr_left fun r _ => ?_
  show (if r.1 = n then (r.1, s) else r).1 = r.1
  split <;> rfl
theorem putR_ok {es : List Ed} {ns : List Str} {R : Rows} {n : Str} {s : S3} (hr : RowsOk es ns R) (hs : isState es n s = true) : RowsOk es ns (putR R n s) := ⟨putR_keys.trans hr.keys, fun r hm => by
  unfold putR at hm
  obtain ⟨q, hq, e⟩ := List.mem_map.mp hm
  by_cases h : q.1 = n
  · rw [if_pos h] at e
    rw [← e, h]
    exact hs
  · rw [if_neg h] at e
    rw [← e]
    exact hr.ok q hq⟩
theorem rows_norm {es : List Ed} {ns : List Str} {R : Rows} (he : EsOk es ns) (hr : RowsOk es ns R) : (ns.map fun n => (n, (lk R n).getD dS)) = R := by
  have h1 : ∀ r ∈ R, (r.1, (lk R r.1).getD dS) = r := fun r hm => by
    rw [lk_mem (hr.nd he) hm]
    rfl
  rw [← hr.keys, List.map_map]
  conv => rhs; rw [← List.map_id R]
  exact List.map_congr_left fun r hm => h1 r hm
end Hs
set_option Elab.async false
set_option linter.all false
set_option maxRecDepth 100000
set_option maxHeartbeats 4000000
/-! sets of texts: in the layer -/
namespace Hs
open PySem PySem.Spec PyProof.Rows L2 StX
theorem perm_both : ∀ {l T : List Str}, l.Nodup → T.Nodup → (∀ x, x ∈ l ↔ x ∈ T) → l.Perm T
  | [], [], _, _, _ => List.Perm.refl _
  | [], y :: ys, _, _, h => by have := (h y).mpr List.mem_cons_self; cases this
  | x :: l, T, hl, hT, h => by
    obtain ⟨n1, n2⟩ := List.nodup_cons.mp hl
    have p := List.perm_cons_erase ((h x).mp List.mem_cons_self)
    have nT := List.nodup_cons.mp (p.nodup_iff.mp hT)
    refine (List.Perm.cons x (perm_both n2 nT.2 fun y => ?_)).trans p.symm
    constructor
    · intro hy
      rcases List.mem_cons.mp (p.mem_iff.mp ((h y).mp (List.mem_cons_of_mem _ hy))) with e | e
      · subst e; exact absurd hy n1
      · exact e
    · intro hy
      rcases List.mem_cons.mp ((h y).mpr (p.mem_iff.mpr (List.mem_cons_of_mem _ hy))) with e | e
      · subst e; exact absurd hy nT.1
      · exact e
theorem asc_of : ∀ {ys : List Str}, sortedS ys = true → ys.Nodup → Asc ys
  | [], _, _ => .nil
  | x :: r, h, nd => by
    obtain ⟨n1, n2⟩ := List.nodup_cons.mp nd
    have key : ∀ (r : List Str) (x : Str), risingS x r = true → ∀ y ∈ r, x.cps.toList ≤ y.cps.toList := by
      intro r
      induction r with
      | nil => intro x _ y hy; cases hy
      | cons z r ih =>
        intro x h y hy
        have h' : (!ltCps z.cps.toList x.cps.toList && risingS z r) = true := h
        rw [Bool.and_eq_true, Bool.not_eq_true', ltCps_eq, decide_eq_false_iff_not] at h'
        have h1 : x.cps.toList ≤ z.cps.toList := List.not_lt.mp h'.1
        rcases List.mem_cons.mp hy with e | e
        · rw [e]; exact h1
        · exact List.le_trans h1 (ih z h'.2 y e)
    refine .cons (fun y hy => ?_) (asc_of ?_ n2)
    · have := key r x h y hy
      unfold ltS
      rw [decide_eq_true_iff]
      refine Decidable.byContradiction fun hnl => n1 ?_
      have e : x.cps.toList = y.cps.toList := List.le_antisymm this (List.not_lt.mp hnl)
      have : x = y := by
        obtain ⟨⟨a⟩⟩ := x
        obtain ⟨⟨b⟩⟩ := y
        simp only at e
        rw [e]
      rw [this]; exact hy
    · cases r with
      | nil => rfl
      | cons z r =>
        have h' : (!ltCps z.cps.toList x.cps.toList && risingS z r) = true := h
        rw [Bool.and_eq_true] at h'
        exact h'.2
theorem ltS_asymm {x y : Str} (h : ltS x y = true) (h' : ltS y x = true) : False := by
  unfold ltS at h h'
  rw [decide_eq_true_iff] at h h'
  exact List.lt_irrefl _ (List.lt_trans h h')
theorem asc_eq : ∀ {xs ys : List Str}, Asc xs → Asc ys → (∀ k, k ∈ xs ↔ k ∈ ys) → xs = ys
  | [], [], _, _, _ => rfl
  | [], y :: ys, _, _, h => by have := (h y).mpr List.mem_cons_self; cases this
  | x :: xs, [], _, _, h => by have := (h x).mp List.mem_cons_self; cases this
  | x :: xs, y :: ys, hx, hy, h => by
    have nx := hx.nodup
    have ny := hy.nodup
    cases hx with
    | cons hx1 hx2 =>
      cases hy with
      | cons hy1 hy2 =>
        have e : x = y := by
          rcases List.mem_cons.mp ((h x).mp List.mem_cons_self) with e | e
          · exact e
          · rcases List.mem_cons.mp ((h y).mpr List.mem_cons_self) with e2 | e2
            · exact e2.symm
            · exact (ltS_asymm (hy1 x e) (hx1 y e2)).elim
        subst e
        rw [asc_eq hx2 hy2 fun k => ?_]
        constructor
        · intro hk
          rcases List.mem_cons.mp ((h k).mp (List.mem_cons_of_mem _ hk)) with e | e
          · subst e; exact absurd hk (List.nodup_cons.mp nx).1
          · exact e
        · intro hk
          rcases List.mem_cons.mp ((h k).mpr (List.mem_cons_of_mem _ hk)) with e | e
          · subst e; exact absurd hk (List.nodup_cons.mp ny).1
          · exact e
/-- the set of the texts ts -/
def TsF (P : Program) (w : World) (ts : List Str) : Fm := ⟨fun S v H => ∃ a l, v = .ref a ∧ ¬ S a ∧ H a = some (SetTx P w a l) ∧ (∀ x, x ∈ l ↔ x ∈ ts) ∧ l.length ≤ ts.length ∧ l.Nodup,
  fun {_ _ _ _} e ⟨a, l, h1, h2, h3, h4⟩ => ⟨a, l, h1, h2, by obtain ⟨o, g1, g2⟩ := e a _ h2 h3; rw [g1, nk_ext g2]; rfl, h4⟩,
  fun {_ _ _ _} hl ⟨a, l, h1, h2, h3, h4⟩ => ⟨a, l, h1, fun ht => (hl a ht).elim h2 (fun z => nomatch h3.symm.trans z), h3, h4⟩⟩
section
variable {S : AS} {P : Program} {w : World} {K : PySem.W.Frag} {I : IV S} {ts : List Str}
theorem gc_setL (hz : ts.length ≤ 1000) : GC S I (rSetTx P w K) [Is K (.list (ts.map .str))] (TsF P w ts) I := fun vs H hi h Q q => by
  obtain ⟨v, ws, rfl, h1, rfl⟩ := h
  obtain ⟨a, xs, rfl, hs, h2, h3⟩ := Da.lst_of h1
  obtain rfl := h3.strs_of
  exact ⟨a, ts, rfl, .inl (SqL.of h2), hz, fun p l hm hl nd hp => q _ _ (XE.new hp) (I.le (LX.new hp) hi) ⟨p, l, rfl, I.fresh hi hp, upd_same, hm, hl, nd⟩⟩
theorem gc_setT (hz : ts.length ≤ 1000) : GC S I (rSetTx P w K) [Is K (.tuple (ts.map .str))] (TsF P w ts) I := fun vs H hi h Q q => by
  obtain ⟨v, ws, rfl, h1, rfl⟩ := h
  obtain ⟨a, xs, rfl, h2, h3⟩ := Da.tup_of h1
  obtain rfl := h3.strs_of
  exact ⟨a, ts, rfl, .inr h2.sq, hz, fun p l hm hl nd hp => q _ _ (XE.new hp) (I.le (LX.new hp) hi) ⟨p, l, rfl, I.fresh hi hp, upd_same, hm, hl, nd⟩⟩
theorem gr_txIn {x : Str} (hz : ts.length ≤ 1000) : GR S I (rTxIn P w false) (Is K (.str x)) (TsF P w ts) (Is K (.bool (decide (x ∈ ts)))) I := fun u y H hi h1 h2 Q q => by
  obtain ⟨a, l, rfl, hs, ha, hm, hl, nd⟩ := h2
  refine ⟨x, a, l, Da.str_of h1, rfl, ha, by omega, q _ H (XE.refl S H) hi ?_⟩
  rw [Bool.false_xor, decide_eq_decide.mpr (hm x)]
  exact .bl _
theorem gr_txNotIn {x : Str} (hz : ts.length ≤ 1000) : GR S I (rTxIn P w true) (Is K (.str x)) (TsF P w ts) (Is K (.bool (!decide (x ∈ ts)))) I := fun u y H hi h1 h2 Q q => by
  obtain ⟨a, l, rfl, hs, ha, hm, hl, nd⟩ := h2
  refine ⟨x, a, l, Da.str_of h1, rfl, ha, by omega, q _ H (XE.refl S H) hi ?_⟩
  rw [Bool.true_xor, decide_eq_decide.mpr (hm x)]
  exact .bl _
theorem gc_lenTx {n : Nat} (hz : ts.length ≤ 1000) (hn : ∀ l : List Str, (∀ x, x ∈ l ↔ x ∈ ts) → l.Nodup → l.length = n) : GC S I (rLenTx P w) [TsF P w ts] (Is K (.int n)) I := fun vs H hi h Q q => by
  obtain ⟨v, ws, rfl, ⟨a, l, rfl, hs, ha, hm, hl, nd⟩, rfl⟩ := h
  refine ⟨a, l, rfl, ha, by omega, q _ H (XE.refl S H) hi ?_⟩
  rw [hn l hm nd]
  exact .int _
theorem gc_sortTx {ns : List Str} (hz : ts.length ≤ 1000) (ha' : Asc ns) (h64 : ns.length < 64) (hm' : ∀ x, x ∈ ns ↔ x ∈ ts) : GC S I (rSortTx P w) [TsF P w ts] (Is K (.list (ns.map .str))) I := fun vs H hi h Q q => by
  obtain ⟨v, ws, rfl, ⟨a, l, rfl, hs, ha, hm, hl, nd⟩, rfl⟩ := h
  have hln : l.Perm ns := perm_both nd ha'.nodup fun x => (hm x).trans (hm' x).symm
  refine ⟨a, l, rfl, ha, by rw [hln.length_eq]; exact h64, fun ys p h5 h6 hp nd => ?_⟩
  have e : ys = ns := asc_eq (asc_of h6 (h5.nodup_iff.mpr nd)) ha' fun k => by rw [h5.mem_iff, hm, hm']
  subst e
  exact q _ _ (XE.new hp) (I.le (LX.new hp) hi) (.lst (I.fresh hi hp) upd_same DaAll.strs)
end
end Hs
set_option Elab.async false
set_option linter.all false
set_option maxRecDepth 100000
set_option maxHeartbeats 4000000
/-! a def that sets up an object; a loop over one of many lists; a run's making -/
namespace Hs
open PySem PySem.Spec PyProof.Rows L2 StX
theorem ok_init {P : Program} {w : World} {K : PySem.W.Frag} {mg : Str → Option Value} {base : Heap} {x qual : Str} {st : Stmt} {f C : Addr} {fd : FuncData} {N ps : List Str} {k : Nat} {c : CIN} (F : Fun K x qual st f fd) (Sc : FnScope N ps (defScope st)) (hb : Binds K fd ps [])
    (len : ∀ S I ins outs, c S I ins outs → ins.length + 1 = ps.length)
    (hbody : ∀ (cdv : Value) (A : Around) (outer : List PySem.Env) (s : Shared) (H : Hp) (E : XK), Room k (A.deeper (envOfC qual (defScope st) s.heap.objs.size f cdv)) →
      ∃ t, PSs (cxOf CX0 P w K mg base N qual (defScope st) f cdv A outer s H E).nox (defBody st) t ∧ ∀ S I ins outs x dx, c S I ins outs → ¬ S x → GS (SU S x) (ctx0 N.length (Eqv (.ref x) :: ins)) (I.obj x C dx []) t (fun _ _ => False) (fun _ H => (I.obj x C dx outs).p H)) : FnR P w K mg base CX0 (k + 1) f (spIn C c) := by
  have h : FnOk P w K mg base CX0 (k + 1) f fd ps (spIn C c) := F.ok Sc (fun vs H Q E ⟨S, I, ins, outs, x, dx, ws, hc, hv, _, _, hi, _⟩ => by rw [hv, ← len S I ins outs hc, List.length_cons, hi.len]) fun cdv A outer s H vs Q E hr hsp => by
    obtain ⟨t, h1, h2⟩ := hbody cdv A outer s H E hr
    obtain ⟨S, I, ins, outs, x, dx, ws, hc, rfl, nS, hi, hins, q⟩ := hsp
    exact ⟨t, h1, h2 S I ins outs x dx hc nS _ _ (Env.start N (φs := Eqv (.ref x) :: ins) ⟨_, _, rfl, rfl, hins⟩) hi _ (fun v H' l p => p.elim) fun σ' H' l p => q H' l p⟩
  exact (h.raw hb .nil).imp fun vs H Q E q => by rw [List.append_nil]; exact q
def IV.cnt {S : AS} (I : IV S) (m : Addr) (n : Nat) : IV (SU S m) := ⟨fun H => (∀ xs, I.p (upd H m (.lst xs))) ∧ ∃ xs, H m = some (.lst xs) ∧ xs.length = n,
  fun e ⟨h, xs, h1, h2⟩ => ⟨fun ys => I.le (LX.updB (e.sub fun a z => .inl z)) (h ys), xs, e.2 m _ (.inr rfl) h1, h2⟩, fun ⟨h, xs, h1, _⟩ a ha => ha.elim (fun z => by
    have := h xs
    rw [upd_id h1] at this
    exact I.dom this a z) fun z => by
    subst z
    exact ⟨_, h1, rfl⟩⟩
theorem cnt_wk {S : AS} {I : IV S} {m : Addr} {n : Nat} {H : Hp} (h : (I.cnt m n).p H) : I.p H := by
  obtain ⟨h, xs, h1, _⟩ := h
  have := h xs
  rw [upd_id h1] at this
  exact this
theorem cnt_fam {S : AS} (I : IV S) (m : Addr) (hm : ¬ S m) : CntF (SU S m) m (I.cnt m) := ⟨.inr rfl, fun n H h => h.2, fun n n' H H' h e h' => ⟨fun xs => I.le ⟨fun a o _ ha => by
  by_cases z : a = m
  · subst z
    rw [upd_same] at ha ⊢
    exact ⟨o, ha, rfl⟩
  · rw [upd_ne z] at ha ⊢
    exact ⟨o, e a o z ha, rfl⟩, fun a o ha h2 => by
  have z : a ≠ m := fun z => hm (by rw [← z]; exact ha)
  rw [upd_ne z] at h2 ⊢
  exact e a o z h2⟩ (h.1 xs), h'⟩⟩
/-- a list of which the length is told -/
abbrev LstN (n : Nat) : Fm := ⟨fun S v H => ∃ a xs, v = .ref a ∧ ¬ S a ∧ H a = some (.lst xs) ∧ xs.length = n, fun e ⟨a, xs, h1, hs, h2, h3⟩ => ⟨a, xs, h1, hs, LE.lst e hs h2, h3⟩, fun hl ⟨a, xs, h1, hs, h2, h3⟩ => ⟨a, xs, h1, not_in hl hs h2, h2, h3⟩⟩
def spRun (C : Addr) : Sp := fun vs H Q _ => ∃ x v1 v2 dx, vs = [.ref x, v1, v2] ∧ H x = some (.ins C dx []) ∧ ∀ H' m, H m = none → (∀ a o, a ≠ x → H a = some o → H' a = some o) → H' x = some (.ins C dx [("base", v1), ("fails", v2), ("made", .ref m)]) → H' m = some (.lst []) → Q .non H'
section
variable {S : AS} {K : PySem.W.Frag} {Γ Δ : Ctx} {I J L M : IV S} {ta tb tc te td ty tx tl : TE} {t : TA} {tt tu : TT} {φ ψ χ ξ : Fm} {φs : List Fm} {R : VK} {N : L2.St → Hp → Prop} {C a m x dx : Addr} {i : Nat} {E : XK} {u : TS}
theorem gs_run (h : GA S Γ I t [φ, ψ] J) (k : ∀ m, ¬ S m → GS (SU S m) (Γ.set i (some (Ob C [("base", φ), ("fails", ψ), ("made", Eqv (.ref m))]))) (J.cnt m 0) u R N) : GS S Γ I (tSeq (tAsg (tMakeR C (spRun C) E t) (gName i)) u) R N := fun σ H e hi D r n => h σ H e hi _ fun vs H1 l1 j1 p1 x dx hx hdx hne => by
  obtain ⟨v1, ws, rfl, p2, v2, ws', rfl, p3, rfl⟩ := p1
  have sm : ∀ a o, H1 a = some o → (upd (upd H1 dx (.own x)) x (.ins C dx [])) a = some o := fun a o ha => by
    rw [upd_ne (ne_of_none ha hx), upd_ne (ne_of_none ha hdx)]
    exact ha
  refine ⟨x, v1, v2, dx, rfl, upd_same, fun H' m hm keep hx' hm' => ⟨rfl, ?_⟩⟩
  have hm1 : H1 m = none := by
    cases z : H1 m with
    | none => rfl
    | some o => rw [sm m o z] at hm; cases hm
  have nS := J.fresh j1 hm1
  have nSx := J.fresh j1 hx
  have hmx : m ≠ x := fun z => by rw [z, upd_same] at hm; cases hm
  have same : Same H1 H' := fun a o ha => keep a o (ne_of_none ha hx) (sm a o ha)
  have sub : ∀ a, SU S m a → S a ∨ H1 a = none := fun a z => z.elim .inl fun z => .inr (by rw [z]; exact hm1)
  have back : ∀ {H2}, XE (SU S m) H' H2 → XE S H H2 := fun {H2} y => l1.trans fun a o hs ha => y a o (fun z => z.elim hs fun z => by
    subst z
    rw [hm1] at ha
    cases ha) (same a o ha)
  refine k m nS _ _ (((Env.lift sub (e.xe l1)).xe (XE.of same)).set i (φ := Ob C [("base", φ), ("fails", ψ), ("made", Eqv (.ref m))]) ⟨x, dx, [v1, v2, .ref m], rfl, fun z => z.elim nSx (Ne.symm hmx), hx', v1, _, rfl, φ.xe (XE.of same) (φ.lift sub p2), v2, _, rfl, ψ.xe (XE.of same) (ψ.lift sub p3), _, _, rfl, rfl, rfl⟩) ⟨fun xs => ?_, [], hm', rfl⟩ D (fun v H2 y q => r v H2 (back y) q) fun σ' H2 y q => n σ' H2 (back y) q
  exact J.le (LX.of fun a o ha => by rw [upd_ne (ne_of_none ha hm1)]; exact same a o ha) j1
/-- a loop over one of many lists -/
theorem gs_forX {α β : Type} {g : TG} {tb : TS} {P : α → Prop} {φ : α → Fm} (ψs : α → List Fm) (h : GE S Γ I tl (Exs P φ) J) (hφ : ∀ a v H, P a → (φ a).p S v H → (Lst (ψs a)).p S v H) (Γi : α → β → Ctx) (Ji : α → β → IV S) (G : α → Nat → β → Prop) (b0 : α → β) (h0 : ∀ a, P a → G a 0 (b0 a)) (hs0 : ∀ a, Sub (Γi a (b0 a)) Γ) (hj0 : ∀ a H, J.p H → (Ji a (b0 a)).p H)
    (hs : ∀ a i ψ b, P a → (ψs a)[i]? = some ψ → G a i b → ∃ Δ js, GG S (Γi a b) g ψ Δ js ∧ GS S Δ (Ji a b) tb R (Tn S (Γi a) (Ji a) (G a (i + 1))))
    (hd : ∀ a b, P a → G a (ψs a).length b → GS S (Γi a b) (Ji a b) u R N) : GS S Γ I (tSeq (tFor (iList K tl) g tb) u) R N := fun σ H e hi D r n => h σ H e hi _ fun v H1 l1 j1 ⟨a, ha, p1⟩ => by
  have gi : GIp S σ H1 (iList K (tC v)) (ψs a) J := fun R' r' => by
    obtain ⟨a', xs, rfl, hs', h2, h3⟩ := hφ a v H1 ha p1
    refine ⟨a', rfl, ⟨xs, SqL.of h2⟩, r' _ H1 (XE.refl S H1) j1 ⟨_, _, by rw [← h3.len]; exact walk_list (K := K) (a := a') (xs := xs), fun T hT => ⟨fun H2 l2 => SqL.of (l2 a' _ (not_in hT hs' h2) h2), fun i ψ H2 x H3 hψ l2 _ y => ?_⟩⟩⟩
    obtain ⟨rfl, y2⟩ := y
    obtain ⟨w, h4, h5⟩ := (h3.lift hT).get hψ
    rw [h4] at y2
    cases y2
    exact ⟨Same.refl _, ψ.xe l2 h5⟩
  exact for_core (wi := iList K (tC v)) (Γi a) (Ji a) (G a) (b0 a) gi (e.xe l1) (h0 a ha) (hs0 a) (hj0 a) (fun i ψ b hψ hg => hs a i ψ b ha hψ hg) { D with nx := u D } (fun v H' l p => r v H' (l1.trans l) p) fun σ' H' l ⟨b, hb, eb, jb⟩ => hd a b ha hb σ' H' eb jb D (fun v H2 l2 p => r v H2 ((l1.trans l).trans l2) p) fun σ2 H2 l2 p => n σ2 H2 ((l1.trans l).trans l2) p
end
end Hs
set_option Elab.async false
set_option linter.all false
set_option maxRecDepth 100000
set_option maxHeartbeats 4000000
/-! comprehensions over a dict's keys -/
namespace Hs
open PySem PySem.Spec PyProof.Rows L2 StX
section
variable {S : AS} {K : PySem.W.Frag} {Γ Δ : Ctx} {I J L M : IV S} {ta tb tc te td ty tx : TE} {t : TA} {tt tu : TT} {φ ψ χ ξ : Fm} {φs ψs : List Fm} {R : VK} {N : L2.St → Hp → Prop}
theorem ge_lcKD {α : Type} {wi : TI} {g : TG} {vs : List Nat} {ok : HO → Hp → Prop} (src : List α) (emb : α → Fm) (p : α → Bool) (f : α → PyData) (h : DSrc S Γ I td ok) (hok : ∀ u H H', LE S H H' → ok u H → ok u H') (w : DIt S td wi ok (src.map emb)) (hz : src.length ≤ 1000)
    (hs : ∀ (x : α) (S' : AS) (I' : IV S'), Ext I I' → x ∈ src → ∃ Δ js, (∀ j ∈ js, j ∈ vs) ∧ GG S' (wipeG Γ vs) g (emb x) Δ js ∧ GT S' Δ I' tt (fun c => p x = c) I' ∧ (p x = true → GE S' Δ I' te (Is K (f x)) I')) :
    GE S Γ I (tOr2E (tLockE (tLc wi g tt te vs)) (tLc wi g tt te vs)) (Is K (.list ((src.filter p).map f))) I := by
  refine (ge_lcK (fun i fs => fs = (((src.take i).filter p).map f).map (Is K)) h hok w rfl (fun i fs hi e => ?_) fun i ψ fs S' I' ext hψ e => ?_).wk fun v H _ ⟨fs, e, a, xs, h1, h2, h3, h4⟩ => ?_
  · subst e
    rw [List.length_map, List.length_map]
    refine Nat.le_trans (List.length_filter_le _ _) ?_
    rw [List.length_take]
    omega
  · rw [List.getElem?_map] at hψ
    cases hx : src[i]? with
    | none => rw [hx] at hψ; cases hψ
    | some x =>
      rw [hx] at hψ
      cases hψ
      have e1 : src.take (i + 1) = src.take i ++ [x] := by
        have hi : i < src.length := (List.getElem?_eq_some_iff.mp hx).1
        rw [List.take_succ_eq_append_getElem hi, (List.getElem?_eq_some_iff.mp hx).2]
      obtain ⟨Δ, js, h1, h2, h3, h4⟩ := hs x S' I' ext (List.mem_of_getElem? hx)
      refine ⟨Δ, js, h1, h2, _, h3, fun hp => ?_, fun hp => ⟨_, h4 hp, ?_⟩⟩
      · rw [e, e1, List.filter_append, List.filter_cons_of_neg (by rw [hp]; decide), List.filter_nil, List.append_nil]
      · rw [e, e1, List.filter_append, List.filter_cons_of_pos hp, List.filter_nil, List.map_append, List.map_append]
        rfl
  · rw [List.length_map, List.take_length] at e
    subst e
    subst h1
    exact .lst h2 h3 ((Dl.map _).all h4)
theorem ge_lcKS1 {α : Type} {wi : TI} {g : TG} {vs : List Nat} {ok : HO → Hp → Prop} (src : List α) (emb : α → Fm) (f : α → Str) (h : DSrc S Γ I td ok) (hok : ∀ u H H', LE S H H' → ok u H → ok u H') (w : DIt S td wi ok (src.map emb)) (hz : src.length ≤ 1000)
    (hs : ∀ (x : α) (S' : AS) (I' : IV S'), Ext I I' → x ∈ src → ∃ Δ js, (∀ j ∈ js, j ∈ vs) ∧ GG S' (wipeG Γ vs) g (emb x) Δ js ∧ GT S' Δ I' tt (fun c => true = c) I' ∧ (true = true → GE S' Δ I' te (Is K (.str (f x))) I')) :
    GE S Γ I (tOr2E (tLockE (tLc wi g tt te vs)) (tLc wi g tt te vs)) (Is K (.list ((src.map f).map .str))) I := by
  have := ge_lcKD (K := K) src emb (fun _ => true) (fun x => .str (f x)) h hok w hz hs
  rw [filt_true] at this
  rw [List.map_map]
  exact this
theorem dsrc_fldTA {rows : List (List Key × Fm)} {i : Nat} {sa C : Addr} {fs : List (Str × Fm)} {f : Str} (h : Γ[i]? = some (some (ObA sa C fs))) (cl : Cls K C) (na : NoAttr K C f) (hf : fs.lookup f = some (DctT rows)) : DSrc S Γ I (tFld K (tVar i) f) (okT S rows) := fun σ H e hi => by
  obtain ⟨v, h1, p⟩ := e.2 i _ h
  obtain ⟨a, dx, ws, rfl, ha, h5, h6⟩ := oba_ob _ _ _ p
  obtain ⟨w, h7, d, kvs, rfl, hs, h2, h3, h4⟩ := zip_lookup h6 hf
  exact ⟨d, _, rfl, hs, h2, ⟨kvs, rfl, h3, h4⟩, fun H' l Q q => ⟨_, h1, a, C, dx, _, _, rfl, l.ins ha h5, cl, na, h7, q⟩⟩
theorem gg_keyT {n : Nat} {gs : TGs} {ks : List Key} {js : List Nat} (h : GGs S Γ gs ((ks.map kd).map (Is K)) Δ js) (hn : (ks.map kd).length = n) : GG S Γ (gTup K n gs) (KeyT ks) Δ js := fun σ H v Q e p q => gg_tupD h hn σ H v Q e (KeyT.tup p) q
theorem dit_known {es : List Ed} : DIt S td (iKeys td) (okT S (knownF K es)) (es.map fun e => KeyT [.inr e.nm, .inl e.ver]) := by
  have := dit_keysT (S := S) (td := td) (rows := knownF K es)
  rw [List.map_map] at this
  exact this
end
end Hs
set_option Elab.async false
set_option linter.all false
set_option maxRecDepth 100000
set_option maxHeartbeats 4000000
/-! signs of texts -/
namespace Hs
open PySem PySem.Spec PyProof.Rows L2 StX
section
variable {S : AS} {K : PySem.W.Frag} {Γ Δ : Ctx} {I J L M : IV S} {ta tb tc te td ty tx : TE} {t : TA} {tt tu : TT} {φ ψ χ ξ : Fm} {φs ψs : List Fm} {R : VK} {N : L2.St → Hp → Prop}
abbrev sgn (c : Nat) : Str := ⟨#[c]⟩
theorem gi_str {z : Str} (h : GE S Γ I te (Is K (.str z)) J) : GI S Γ I (iStr te) (z.cps.toList.map fun c => Is K (.str (sgn c))) J := fun σ H e hi R r => h σ H e hi _ fun v H1 l1 j1 p1 => by
  obtain rfl := Da.str_of p1
  refine ⟨z, rfl, r _ H1 l1 j1 ⟨_, _, by rw [List.length_map, Array.length_toList]; exact walk_str (z := z), fun T hT => ⟨fun H2 l2 => trivial, fun i ψ H2 x H3 hψ l2 _ y => ?_⟩⟩⟩
  obtain ⟨rfl, c, h4, rfl⟩ := y
  rw [List.getElem?_map, Array.getElem?_toList, h4] at hψ
  cases hψ
  exact ⟨Same.refl _, .str _⟩
theorem gr_inSign {c : Nat} {z : Str} : GR S I (fun x y H Q => ∃ (c : Nat) (z : Str), x = .str ⟨#[c]⟩ ∧ y = .str z ∧ Q (.bl (decide (c ∈ z.cps.toList))) H) (Is K (.str (sgn c))) (Is K (.str z)) (Is K (.bool (decide (c ∈ z.cps.toList)))) I := fun x y H hi h1 h2 Q q => by
  obtain rfl := Da.str_of h1
  obtain rfl := Da.str_of h2
  exact ⟨c, z, rfl, rfl, q _ H (XE.refl S H) hi (.bl _)⟩
end
abbrev LETT : Str := "abcdefghijklmnopqrstuvwxyz"
def isWord (x : Str) : Bool := (decide ((1 : Int) ≤ x.length) && decide ((x.length : Int) ≤ 8)) && (x.cps.toList.map fun c => decide (c ∈ LETT.cps.toList)).all id
theorem strs_lay : ∀ {xs : List Str}, (∀ x ∈ xs, PyData.strOk x = true) → PyData.canLayAll0 (xs.map PyData.str) = true ∧ PyData.depthAll (xs.map PyData.str) ≤ 1
  | [], _ => ⟨by simp [PyData.canLayAll0], by simp [PyData.depthAll]⟩
  | x :: xs, h => by
    obtain ⟨h1, h2⟩ := strs_lay (xs := xs) fun y hy => h y (List.mem_cons_of_mem _ hy)
    have hx := h x List.mem_cons_self
    refine ⟨?_, ?_⟩
    · simp only [List.map_cons, PyData.canLayAll0, PyData.canLay0, hx, h1, Bool.and_self]
    · simp only [List.map_cons, PyData.depthAll, PyData.depth]
      omega
theorem shaped_strs {xs : List Str} (h : ∀ x ∈ xs, PyData.strOk x = true) : SeqAt.shaped (.list (xs.map .str)) = true := by
  obtain ⟨h1, h2⟩ := strs_lay h
  unfold SeqAt.shaped
  simp only [PyData.canLay0, PyData.depth, h1, Bool.true_and, decide_eq_true_eq]
  refine decide_eq_true ?_
  omega
theorem eqv_strs : ∀ (xs : List Str), PyData.eqvAll (xs.map PyData.str) (xs.map PyData.str) = true
  | [] => by simp [PyData.eqvAll]
  | x :: xs => by
    have := eqv_strs xs
    simp only [List.map_cons, PyData.eqvAll, PyData.eqv, this]
    simp
def ct_is_rising (K : PySem.W.Frag) : CTR := fun S k => ∃ ts d, Asc ts ∧ ts.length < 60 ∧ (∀ x ∈ ts, PyData.strOk x = true) ∧ (d = PyData.tuple (ts.map .str) ∨ d = PyData.list (ts.map .str)) ∧ k.J = k.I ∧ k.ins = [Is K d] ∧ k.out = Is K (.bool true)
def ct_is_need (K : PySem.W.Frag) : CTR := fun S k => ∃ (x n : Str) (v : Int), isWord x = true ∧ x.length ≤ 1000 ∧ ¬ x = n ∧ 1 ≤ v ∧ v ≤ 99 ∧ k.J = k.I ∧ k.ins = [Is K (needD (x, v)), Is K (.str n)] ∧ k.out = Is K (.bool true)
def ct_is_word (K : PySem.W.Frag) : CTR := fun S k => ∃ x : Str, x.length ≤ 1000 ∧ k.J = k.I ∧ k.ins = [Is K (.str x)] ∧ k.out = Is K (.bool (isWord x))
end Hs
set_option Elab.async false
set_option linter.all false
set_option maxRecDepth 100000
set_option maxHeartbeats 4000000
/-! objects made with keywords -/
namespace Hs
open PySem PySem.Spec PyProof.Rows L2 StX
theorem ok_initD {P : Program} {w : World} {K : PySem.W.Frag} {mg : Str → Option Value} {base : Heap} {x qual : Str} {params : Arguments} {body : List Stmt} {scope : Scope} {dvs : List V} {kws : List (Str × V)} {f C : Addr} {fd : FuncData} {N ps : List Str} {k : Nat} {c : CIN} (F : FunD K x qual params body scope dvs kws f fd) (Sc : FnScope N ps scope)
    (len : ∀ S I ins outs, c S I ins outs → ins.length + 1 = ps.length)
    (hbody : ∀ (cdv : Value) (A : Around) (outer : List PySem.Env) (s : Shared) (H : Hp) (E : XK), Room k (A.deeper (envOfC qual scope s.heap.objs.size f cdv)) →
      ∃ t, PSs (cxOf CX0 P w K mg base N qual scope f cdv A outer s H E).nox body t ∧ ∀ S I ins outs x dx, c S I ins outs → ¬ S x → GS (SU S x) (ctx0 N.length (Eqv (.ref x) :: ins)) (I.obj x C dx []) t (fun _ _ => False) (fun _ H => (I.obj x C dx outs).p H)) : FnOk P w K mg base CX0 (k + 1) f fd ps (spIn C c) :=
  F.ok Sc (fun vs H Q E ⟨S, I, ins, outs, x, dx, ws, hc, hv, _, _, hi, _⟩ => by rw [hv, ← len S I ins outs hc, List.length_cons, hi.len]) fun cdv A outer s H vs Q E hr hsp => by
    obtain ⟨t, h1, h2⟩ := hbody cdv A outer s H E hr
    obtain ⟨S, I, ins, outs, x, dx, ws, hc, rfl, nS, hi, hins, q⟩ := hsp
    exact ⟨t, h1.nox, h2 S I ins outs x dx hc nS _ _ (Env.start N (φs := Eqv (.ref x) :: ins) ⟨_, _, rfl, rfl, hins⟩) hi _ (fun v H' l p => p.elim) fun σ' H' l p => q H' l p⟩
section
variable {S : AS} {K : PySem.W.Frag} {Γ Δ : Ctx} {I J L M : IV S} {t tk : TA} {φs ψs : List Fm} {fs : List (Str × Fm)} {C : Addr} {n m : Nat} {E : XK}
theorem Ins.both : ∀ {φs ψs : List Fm} {vs ws : List V} {H : Hp}, Ins S φs vs H → Ins S ψs ws H → Ins S (φs ++ ψs) (vs ++ ws) H
  | [], _, vs, _, _, h1, h2 => by
    have : vs = [] := h1
    subst this
    exact h2
  | φ :: φs, _, _, _, _, ⟨v, vs, e, h1, h3⟩, h2 => by
    subst e
    exact ⟨v, _, rfl, h1, Ins.both h3 h2⟩
theorem ge_makeK {c : CIN} {gV : List V → List V → List V} (hg : ∀ x vs zs, gV (x :: vs) zs = x :: (vs ++ zs)) (h : GA S Γ I t φs J) (hk : GA S Γ J tk ψs L) (hn : φs.length = n) (hm : ψs.length = m) (hc : c S L (φs ++ ψs) fs) : GE S Γ I (tMakeK C n m (spIn C c) gV E t tk) (Ob C fs) L := fun σ H e hi Q q => h σ H e hi _ fun vs H0 l0 j0 p0 => hk σ H0 (e.xe l0) j0 _ fun zs H1 l1 j1 p1' => by
  have p1 := (p0.xe l1).both p1'
  refine ⟨by rw [p0.len, hn], by rw [p1'.len, hm], fun x dx hx hdx hne => ?_⟩
  rw [hg]
  have nS := L.fresh j1 hx
  have l2 : ∀ T, XE T H1 (upd (upd H1 dx (.own x)) x (.ins C dx [])) := fun T => (XE.new hdx).trans (XE.new (by rw [upd_ne (Ne.symm hne)]; exact hx))
  have back : ∀ {H'}, XE (SU S x) (upd (upd H1 dx (.own x)) x (.ins C dx [])) H' → XE S H1 H' := fun {H'} y a o hs ha => y a o (fun z => z.elim hs fun z => by
    subst z
    rw [hx] at ha
    cases ha) (l2 S a o hs ha)
  refine ⟨S, L, φs ++ ψs, fs, x, dx, vs ++ zs, hc, rfl, nS, ⟨fun gs => ?_, [], upd_same, rfl⟩, (p1.lift fun a z => z.elim .inl fun z => .inr (by rw [z]; exact hx)).xe (l2 _), fun H' y k => ⟨rfl, q _ H' ((l0.trans l1).trans (back y)) (obj_wk k) (obj_out nS k)⟩⟩
  rw [upd_upd]
  exact L.le ((LX.new hdx).trans (LX.new (by rw [upd_ne (Ne.symm hne)]; exact hx))) j1
end
end Hs
set_option Elab.async false
set_option linter.all false
set_option maxRecDepth 100000
set_option maxHeartbeats 4000000
/-! enumerate(tuple) -/
namespace Hs
open PySem PySem.Spec PyProof.Rows L2
theorem meets_enumerate_newTu (l : Addr) (items : Array Value) :
    Meets (Builtin.«enumerate.__new__» ⟨[.type "enumerate", .ref l], []⟩) (fun _ R s => s.heap.IsTuple l items ∧
      R (.ok (.ret (.ref (s.heap.push { cls := .type "tuple_iterator", data := .fields #[.ref l, .int 0 0] }).objs.size)))
        { s with heap := (s.heap.push { cls := .type "tuple_iterator", data := .fields #[.ref l, .int 0 0] }).push { cls := .type "enumerate", data := .fields #[.none, .bool false, .ref s.heap.objs.size, rawInt 0, .none, .none] } }) :=
  .of_wp fun prog w A R s h => by
    obtain ⟨hp, g, d, tk, os⟩ := s; obtain ⟨hL, h⟩ := h
    have hsub := sub_enumerate
    wp_walk using wpAny_pyIter_tuple hL
    refine wpAny_stack_any fun st => wpAny_pure ?_
    split
    · rename_i c _ _ _ _ _
      cases (c == Value.type "enumerate")
      · wp_walk using wpAny_pyIter_tuple hL
        exact ⟨_, rfl, h⟩
      · wp_walk using wpAny_pyIter_tuple hL
        exact ⟨_, rfl, h⟩
    · wp_walk using wpAny_pyIter_tuple hL
      exact ⟨_, rfl, h⟩
section
variable {prog : Program} {w : World} {A : Around} {E : Value → Shared → Prop} {s : Shared}
theorem call_enumerate_tup {l : Addr} {items : Array Value} {Q : Value → Shared → Prop} (hL : s.heap.IsTuple l items)
    (h : ∀ h', IsEnum h' (s.heap.objs.size + 1) s.heap.objs.size 0 .none → h'.IsTupleIter s.heap.objs.size l 0 → h'.objs.size = s.heap.objs.size + 2 →
      (∀ b o, s.heap.get? b = some o → h'.get? b = some o) → Q (.ref (s.heap.objs.size + 1)) { s with heap := h' }) :
    wpAny (model prog w) A (call (.type "enumerate") [.ref l]) Q E s := by
  refine callType_new F.called_enumerate (by decide) (F.typeCall_enumerate_1 _) (F.newCall_enumerate_1 _) (fun obj => F.args_object_init_2 obj _) F.entry_enumerate_new
    (meets_enumerate_newTu l items) ⟨hL, ?_⟩
  have hz : (s.heap.push { cls := .type "tuple_iterator", data := .fields #[.ref l, .int 0 0] }).objs.size = s.heap.objs.size + 1 := Heap.size_push ..
  show _ ∧ _
  rw [hz]
  have he : IsEnum ((s.heap.push { cls := .type "tuple_iterator", data := .fields #[.ref l, .int 0 0] }).push
      { cls := .type "enumerate", data := .fields #[.none, .bool false, .ref s.heap.objs.size, rawInt 0, .none, .none] }) (s.heap.objs.size + 1) s.heap.objs.size 0 .none := by
    have := Heap.get?_push_size (s.heap.push { cls := .type "tuple_iterator", data := .fields #[.ref l, .int 0 0] })
      (o := { cls := .type "enumerate", data := .fields #[.none, .bool false, .ref s.heap.objs.size, rawInt 0, .none, .none] }) rfl
    rw [hz] at this; exact this
  refine ⟨⟨_, he, rfl⟩, h _ he ⟨_, Heap.get?_push_of_some _ (Heap.get?_push_size _ rfl), rfl, rfl⟩ (by rw [Heap.size_push, hz]) fun b o x => Heap.get?_push_of_some _ (Heap.get?_push_of_some _ x)⟩
end
/-- the tuple at a, each item in a new pair -/
def Itet (K : PySem.W.Frag) (a : Addr) : It :=
  ⟨fun i H => ∃ (xs : List V) (x : V), SqT K H a xs ∧ xs[i]? = some x, fun i H v H' => ∃ T x, v = .ref T ∧ H T = none ∧ H' = upd H T (.tup [.int (i : Nat), x]) ∧ ∀ xs, SqT K H a xs → xs[i]? = some x, fun i H => ∃ xs : List V, SqT K H a xs ∧ xs.length = i⟩
theorem turn_enumT {P : Program} {w : World} {K : PySem.W.Frag} {elts : List Expr} {kk : Nat} {tpos : Pos} (a e it : Addr) (items : Array Value) (hai : a ≠ it) (hae : a ≠ e) :
    Turn P w K (.Tuple elts kk tpos) (Itet K a) [e, it] e (fun i h => (∃ old, IsEnum h e it ((i : Nat) : Int) old) ∧ h.IsTupleIter it a i ∧ e ≠ it) where
  mem := by simp
  obj := fun i h st b hb => by
    obtain ⟨⟨old, he⟩, ⟨o, ho, hc, hd⟩, _⟩ := st
    have e' : b = e ∨ b = it := by simpa using hb
    rcases e' with z | z
    · rw [z]; exact ⟨_, he, fun v q => nomatch q⟩
    · rw [z]; exact ⟨o, ho, fun v q => by rw [hd] at q; cases q⟩
  keep := fun i h h' st k => let ⟨⟨old, he⟩, hi, hne⟩ := st; ⟨⟨old, k e (by simp) _ he⟩, hi.at fun o q => k it (by simp) o q, hne⟩
  item := by
    intro X hP hw hK hc i pins s σ H E I hf st hg
    subst hP hw hK
    obtain ⟨⟨old, he⟩, hit, hne⟩ := st
    obtain ⟨xs, x, hq, hx⟩ := hg
    obtain ⟨its, rv, p, hz⟩ := I.tuple hq
    obtain ⟨u, hu, ru⟩ := rv.get hx
    have hel : e < s.heap.objs.size := Heap.lt_size he
    have hil : it < s.heap.objs.size := by obtain ⟨_, q, _⟩ := hit; exact Heap.lt_size q
    have hlt : i < its.toArray.size := by
      have := (List.getElem?_eq_some_iff.mp hu).1
      simpa using this
    refine wpAny_pyNext_enum_itemD (Draws.tuple (prog := X.prog) (w := X.w) (A := X.A.in1) (I.ok.hd hc) it a hai its.toArray) he ⟨hit, p⟩ hlt hne (by simp; exact ⟨hne, Ne.symm hae⟩) fun y h' tk hy ho st' hT hsz hk => ?_
    have hyu : y = u := by
      have hy' : its.toArray[i]? = some y := hy
      have : its[i]? = some y := by simpa using hy'
      rw [hu] at this
      exact (Option.some.inj this).symm
    subst hyu
    refine ⟨_, rfl, wpAny_letOwnedTupleGo_enum (s := { s with heap := h', toks := tk + 1 }) ho fun h'' he' sb => ?_⟩
    have hT2 : h''.get? s.heap.objs.size = some { cls := .type "tuple", data := .seq #[.int i tk, y] } := (sb.2 _ (Nat.ne_of_gt hel)).trans hT
    have new : ObjOk X.prog X.w (upd H s.heap.objs.size (.tup [.int (i : Nat), x])) h'' s.heap.objs.size (.tup [.int (i : Nat), x]) :=
      ⟨by show 2 ≤ sizeLine; decide, [.int i tk, y], .cons ⟨_, rfl⟩ (.cons ru .nil), ⟨_, hT2, rfl, _, rfl⟩⟩
    have I1 : Inv X pins σ (upd H s.heap.objs.size (.tup [.int (i : Nat), x])) { s with heap := h'', toks := tk + 1 } :=
      I.turnedNew (ch := [e, it]) (fun b ob hb q => (sb.2 b (fun z => hb (by simp [z]))).trans (hk b ob (fun z => hb (by simp [z])) (fun z => hb (by simp [z])) q)) hf (Nat.le_refl _) new
    refine ⟨.ref s.heap.objs.size, _, I1, rfl, ⟨_, x, rfl, I.hok.fresh (Nat.le_refl _), rfl, fun ys hy => by rw [I.tuple_inj hy hq]; exact hx⟩, ⟨⟨y, ?_⟩, st'.1.at fun o q => (sb.2 it (Ne.symm hne)).trans q, hne⟩, fun b hb => ?_⟩
    · have e1 : ((i + 1 : Nat) : Int) = (i : Int) + 1 := by omega
      rw [e1]; exact he'
    · have hb' : b < s.heap.objs.size := by
        have e' : b = e ∨ b = it := by simpa using hb
        rcases e' with z | z
        · rw [z]; exact hel
        · rw [z]; exact hil
      rw [upd_ne (Nat.ne_of_lt hb')]
      exact (hf b hb).1
  done := by
    intro X hP hw hK hc i pins s σ H E I hf st hg
    subst hP hw hK
    obtain ⟨⟨old, he⟩, hit, hne⟩ := st
    obtain ⟨xs, hq, hx⟩ := hg
    obtain ⟨its, rv, p, hz⟩ := I.tuple hq
    obtain ⟨f0, f1, f2, f3, f4, f5⟩ := hf it (by simp)
    have hl := rv.length
    have e1 : i = its.toArray.size := by simp; omega
    subst e1
    exact wpAny_pyNext_enum_endD (Draws.tuple (prog := X.prog) (w := X.w) (A := X.A.in1) (I.ok.hd hc) it a hai its.toArray) he ⟨hit, p⟩ fun h' eb => ⟨rfl, I.turned (t' := s.toks) (fun b o hb q => eb b o hb q) f0 f1 f3 f4 f5⟩
  self := fun A i s Q E st h => let ⟨⟨_, he⟩, _⟩ := st; wpAny_pyIter_enum he h
def iEnumT (K : PySem.W.Frag) (ta : TA) : TI := fun σ H R => ta σ H fun vs H1 => ∃ a xs, vs = [.ref a] ∧ SqT K H1 a xs ∧ R (Itet K a) H1
theorem pi_enumT {X : Cx} {e : Expr} {ta : TA} {p pos tpos : Pos} {elts : List Expr} {kk : Nat} (hg : Gl X "enumerate") (hm : X.mg "enumerate" = none) (ha : PA X [e] ta) (hs : starEach [e] X.env = [(false, eval e X.env)] := by rfl) :
    PI X (.Tuple elts kk tpos) (.Call (.Name "enumerate" p) [e] [] pos) (iEnumT X.K ta) := by
  refine ⟨fun pins s σ H R I h => ?_⟩
  refine Call_ (ld_blt I hg hm boot_enumerate (PyProof.Rows.callWith_type1 (thn (ha.run pos pins s σ H _ I h) fun us s1 ⟨vs, H1, I1, r1, q1⟩ => ?_) hs rfl))
  obtain ⟨a, xs, ex, hq, q⟩ := q1
  subst ex
  cases r1 with
  | cons r rr =>
    cases rr
    cases r
    obtain ⟨its, rv, p', hz⟩ := I1.tuple hq
    have hal : a < s1.heap.objs.size := by obtain ⟨_, q, _⟩ := p'; exact Heap.lt_size q
    refine call_enumerate_tup p' fun h' he hit hsz hk => wpAny_pyIter_enum he ?_
    have I2 : Inv X pins σ H1 { s1 with heap := h' } := I1.kept (t' := s1.toks) hk
    refine ⟨s1.heap.objs.size + 1, [s1.heap.objs.size + 1, s1.heap.objs.size], _, _, H1, rfl, I2, turn_enumT a (s1.heap.objs.size + 1) s1.heap.objs.size its.toArray (Nat.ne_of_lt hal) (Nat.ne_of_lt (Nat.lt_succ_of_lt hal)), ⟨⟨.none, he⟩, hit, Nat.succ_ne_self _⟩, fun b hb => ?_, q⟩
    have e' : b = s1.heap.objs.size + 1 ∨ b = s1.heap.objs.size := by simpa using hb
    have hle : s1.heap.objs.size ≤ b := by
      rcases e' with z | z
      · rw [z]; exact Nat.le_add_right _ _
      · rw [z]; exact Nat.le_refl _
    exact I1.fpOk hle (I1.hok.fresh hle)
theorem walk_enumT {K : PySem.W.Frag} {a : Addr} {xs : List V} : Walk (Itet K a) xs.length (fun H => SqT K H a xs) (YPair (fun i => some (.int (i : Nat))) (fun i => xs[i]?)) := by
  refine ⟨fun i _ hi q => ⟨xs, xs[i], q, by simp [hi]⟩, fun _ q => ⟨xs, q, rfl⟩, fun i H v H' _ q y => ?_⟩
  obtain ⟨T, x, h1, h2, h3, h4⟩ := y
  exact ⟨T, .int (i : Nat), x, h1, h2, h3, rfl, h4 xs q⟩
section
variable {S : AS} {K : PySem.W.Frag} {Γ : Ctx} {I J : IV S} {t : TA} {φs : List Fm}
theorem gi_enumT (h : GA S Γ I t [Tup K φs] J) : GI S Γ I (iEnumT K t) ((List.range φs.length).zipWith (fun i φ => Tup K [Is K (.int (i : Nat)), φ]) φs) J := fun σ H e hi R r => h σ H e hi _ fun vs H1 l1 j1 p1 => by
  obtain ⟨v, ws, rfl, ⟨a, xs, rfl, h2, h3⟩, rfl⟩ := p1
  refine ⟨a, xs, rfl, h2.sq, r _ H1 l1 j1 ⟨_, _, by rw [List.length_zipWith, List.length_range, Nat.min_self, ← h3.len]; exact walk_enumT (K := K) (a := a) (xs := xs), fun U hU => ⟨fun H2 l2 => (ST.le l2.m (h2.lift hU)).sq, fun i ψ H2 x H3 hψ l2 fr y => ?_⟩⟩⟩
  obtain ⟨T, x1, x2, rfl, hT, rfl, e1, e2⟩ := y
  refine ⟨fun b o hb => by rw [upd_ne (ne_of_none hb hT)]; exact hb, ?_⟩
  rw [List.getElem?_zipWith] at hψ
  cases q : φs[i]? with
  | none =>
    rw [q] at hψ
    cases h9 : (List.range φs.length)[i]? <;> rw [h9] at hψ <;> cases hψ
  | some φ =>
    have hi : i < φs.length := (List.getElem?_eq_some_iff.mp q).1
    rw [q, List.getElem?_range hi] at hψ
    cases hψ
    obtain ⟨v, h4, h5⟩ := (h3.lift hU).get q
    have e2 : xs[i]? = some x2 := e2
    rw [h4] at e2
    cases e2
    cases e1
    exact ⟨T, _, rfl, .inl ⟨fr T (.inl hT), upd_same⟩, _, _, rfl, .int _, _, _, rfl, φ.xe (XE.new hT) (φ.xe l2 h5), rfl⟩
end
end Hs
set_option Elab.async false
set_option linter.all false
set_option maxRecDepth 100000
set_option maxHeartbeats 4000000
/-! dicts of tuple keys, compared: with itself, with a shorter or longer one -/
namespace Hs
open PySem PySem.Spec PyProof.Rows L2
section
variable {prog : Program} {w : World} {K : Type} [DecidableEq K] {knd : HeapKind prog w K} {A : Around} {E : Value → Shared → Prop} {s : Shared}
theorem dq_sizes {nm : String} {a b : Addr} {oa ob : Obj} {es es' ep ep'} {Q : Bool → Shared → Prop} (ha : (a == sysModules) = false) (hb : (b == sysModules) = false)
    (hoa : s.heap.get? a = some oa) (hda : oa.data = .dict es ep) (hob : s.heap.get? b = some ob) (hdb : ob.data = .dict es' ep') (hne : es.size ≠ es'.size) (h : Q false s) :
    wpAny (model prog w) A (Builtin.Dict.samePairs nm a b) Q E s := by
  unfold Builtin.Dict.samePairs Builtin.Dict.showsAll
  rw [if_neg (show ¬ (a == sysModules) = true by rw [ha]; exact Bool.false_ne_true), if_neg (show ¬ (b == sysModules) = true by rw [hb]; exact Bool.false_ne_true)]
  refine wpAny_bind (wpAny_pure (wpAny_bind (wpAny_pure ?_)))
  refine wpAny_bind (wpAny_dictEntries hoa hda ?_)
  dsimp only
  refine wpAny_bind (wpAny_dictEntries hob hdb ?_)
  rw [if_pos (by simpa using hne)]
  exact wpAny_bind (wpAny_rule (wpAny_pure h))
theorem dq_self {nm : String} {a : Addr} {xs : List (K × Addr × Value)} {Q : Bool → Shared → Prop} (ha : (a == sysModules) = false) (hu : knd.room A)
    (da : s.heap.DictOfH knd a xs) (h : Q true s) :
    wpAny (model prog w) A (Builtin.Dict.samePairs nm a a) Q E s := by
  obtain ⟨oa, es, ep, hoa, _, hda, he, his, hn⟩ := da
  have hsz : es.size = xs.length := size_of_entries he
  unfold Builtin.Dict.samePairs Builtin.Dict.showsAll
  rw [if_neg (show ¬ (a == sysModules) = true by rw [ha]; exact Bool.false_ne_true)]
  refine wpAny_bind (wpAny_pure (wpAny_bind (wpAny_pure ?_)))
  refine wpAny_bind (wpAny_dictEntries hoa hda ?_)
  dsimp only
  refine wpAny_bind (wpAny_dictEntries hoa hda ?_)
  rw [if_neg (by simp)]
  refine wpAny_bind (wpAny_dictEpoch hoa hda ?_)
  refine wpAny_bind ?_
  rw [Std.Legacy.Range.forIn_eq_forIn_range']
  simp only [Std.Legacy.Range.size, Nat.sub_zero, Nat.add_sub_cancel, Nat.div_one]
  refine wpAny_forIn_list _
    (fun rest q s' => s' = s ∧ q = (none, ()) ∧ ∃ i, rest = List.range' i (es.size - i) ∧ i ≤ es.size)
    _ ?_ ?_ _ _ ⟨rfl, rfl, 0, by simp, Nat.zero_le _⟩
  · rintro x rest q s' ⟨rfl, rfl, i, hr, hi⟩
    have hlt : i < es.size := by
      rcases Nat.lt_or_ge i es.size with h | h
      · exact h
      · rw [Nat.sub_eq_zero_of_le h] at hr; simp at hr
    obtain ⟨rfl, hrest⟩ : x = i ∧ rest = List.range' (i + 1) (es.size - (i + 1)) := by
      have e : es.size - i = (es.size - (i + 1)) + 1 := by omega
      rw [e, List.range'_succ] at hr
      injection hr with h1 h2
      exact ⟨h1, h2⟩
    refine wpAny_bind (wpAny_dictEntries hoa hda ?_)
    have hxl : x < xs.length := by rw [← hsz]; exact hlt
    obtain ⟨k, p, hkp⟩ : ∃ k p, xs[x] = (k, p) := ⟨_, _, rfl⟩
    have hget : xs[x]? = some (k, p) := by rw [List.getElem?_eq_getElem hxl, hkp]
    have hent : es[x]? = some (entryOfKey knd (k, p)) := by rw [entry_at he x, hget]; rfl
    rw [hent]
    have hk : knd.is s'.heap k p.1 := his (k, p) (List.mem_of_getElem? hget)
    show wpAny _ _ (holding [Value.ref p.1, p.2] _ >>= _) _ _ _
    refine wpAny_bind (wpAny_holding (wpAny_bind (wpAny_dictFind_heap hu hk hoa hda he his hn (fun hno => absurd hget (hno x p)) fun j p' hj => ?_)))
    have ej : j = x := idxH_unique hn hj hget
    subst ej
    refine wpAny_bind (wpAny_dictEntries hoa hda ?_)
    rw [hent]
    refine wpAny_holding (SeqAt.EqAt.same p.2 prog w _ _ ?_)
    show wpAny _ _ (if (!true) = true then _ else _) _ _ _
    rw [if_neg (by decide)]
    refine wpAny_bind (wpAny_dictEpoch hoa hda ?_)
    rw [if_neg (by simp)]
    exact wpAny_pure ⟨rfl, rfl, j + 1, hrest, hlt⟩
  · rintro q s' ⟨rfl, rfl, i, hr, hi⟩
    exact wpAny_pure h
theorem dq_eq {a b : Addr} {oa ob : Obj} {r : Bool} {Q : Value → Shared → Prop} (hoa : s.heap.get? a = some oa) (xa : oa.ExactDict) (hob : s.heap.get? b = some ob) (xb : ob.ExactDict) (hu : A.units < cLine)
    (hs : ∀ (nm : String) (A' : Around) (E' : Value → Shared → Prop) (Q' : Bool → Shared → Prop), A'.units ≤ A.units + 1 → Q' r s → wpAny (model prog w) A' (Builtin.Dict.samePairs nm a b) Q' E' s) (h : Q (.bool r) s) :
    wpAny (model prog w) A (compareOp .Eq (.ref a) (.ref b)) Q E s := by
  have ta : s.TypeIs (.ref a) "dict" := ⟨oa, hoa, xa.1⟩
  have tb : s.TypeIs (.ref b) "dict" := ⟨ob, hob, xb.1⟩
  refine wpAny_richCompare_same_room (op := .Eq) ta tb PySem.F.slot_dict_eq (wpAny_call_entry PySem.F.slot_dict_eq ta PySem.F.entry_dict_eq ?_ (PySem.F.args_dict_eq_2 _ _)) hu
  show wpAny _ _ (Builtin.Dict.dictSlotArgs "__eq__" ⟨[.ref a, .ref b], []⟩ >>= _) _ _ s
  refine wpAny_bind ?_
  unfold Builtin.Dict.dictSlotArgs
  refine wpAny_bind (wpAny_notOrdered_dict ta ?_)
  show wpAny _ _ (pure (Value.ref a, Value.ref b)) _ _ s
  refine wpAny_pure ?_
  refine wpAny_bind (wpAny_isInstance (T := "dict") tb PySem.F.sub_dict_dict ?_)
  simp only [Bool.not_true, Bool.false_eq_true, if_false]
  refine wpAny_bind (wpAny_pure (wpAny_bind (wpAny_pure ?_)))
  refine wpAny_bind (hs _ _ _ _ (Nat.le_refl _) ?_)
  refine wpAny_pure ⟨_, rfl, ?_, ?_⟩
  · exact fun x => nomatch x
  · simpa using h
end
section
variable {X : Cx} {S : AS} {K : PySem.W.Frag} {I : IV S}
/-- d == d, and d == e of another length -/
def rEqT : R2 := fun x y H Q => ∃ a b ks ls, x = .ref a ∧ y = .ref b ∧ Rd H a (.dT ks) ∧ Rd H b (.dT ls) ∧ ((a = b ∧ Q (.bl true) H) ∨ (ks.length ≠ ls.length ∧ Q (.bl false) H))
theorem op_eqT (hu : X.A.units + 1 < cLine) : OpR X (compareOp .Eq) rEqT := by
  intro pins s σ H x y v u Q I rx ry h
  obtain ⟨a, b, ks, ls, rfl, rfl, ea, eb, h⟩ := h
  obtain rfl : v = Value.ref a := rx
  obtain rfl : u = Value.ref b := ry
  obtain ⟨_, ya, xa, ra, oa, es, ep, h1, h2, h3, h4, h5, h6⟩ := dt_rd I.hok ea
  obtain ⟨_, yb, xb, rb, ob, es', ep', g1, g2, g3, g4, g5, g6⟩ := dt_rd I.hok eb
  rcases h with ⟨rfl, q⟩ | ⟨hne, q⟩
  · exact dq_eq (r := true) h1 h2 h1 h2 (Nat.lt_of_succ_lt hu) (fun nm A' E' Q' hA hq => dq_self (knd := tupleKind (mixKind X.prog X.w)) ya (Nat.lt_of_le_of_lt hA hu) ⟨oa, es, ep, h1, h2, h3, h4, h5, h6⟩ hq) ⟨.bl true, H, I, rfl, q⟩
  · refine dq_eq (r := false) h1 h2 g1 g2 (Nat.lt_of_succ_lt hu) (fun nm A' E' Q' hA hq => dq_sizes ya yb h1 h3 g1 g3 ?_ hq) ⟨.bl false, H, I, rfl, q⟩
    have e1 : es.size = xa.length := size_of_entries h4
    have e2 : es'.size = xb.length := size_of_entries g4
    have e3 : ks.length = xa.length := ra.length
    have e4 : ls.length = xb.length := rb.length
    omega
end
end Hs
set_option Elab.async false
set_option linter.all false
set_option maxRecDepth 100000
set_option maxHeartbeats 4000000
/-! an object with a dict of tuple keys, both being made -/
namespace Hs
open PySem PySem.Spec PyProof.Rows L2 StX
abbrev SK (S : AS) (x d : Addr) : AS := SU (SU S x) d
/-- the object x of one field, a dict with these rows -/
def IV.kn {S : AS} (I : IV S) (f : Str) (x C dx d : Addr) (rows : List (List Key × Fm)) : IV (SK S x d) := ⟨fun H => (∀ gs ds, I.p (upd (upd H x (.ins C dx gs)) d (.dT ds))) ∧ H x = some (.ins C dx [(f, .ref d)]) ∧ ∃ kvs, H d = some (.dT kvs) ∧ kvs.map Prod.fst = rows.map Prod.fst ∧ Ins (SK S x d) (rows.map Prod.snd) (kvs.map Prod.snd) H,
  fun e ⟨h, h0, kvs, h1, h2, h3⟩ => ⟨fun gs ds => I.le (LX.updB (LX.updB (e.sub fun a z => .inl (.inl z)))) (h gs ds), e.2 x _ (.inl (.inr rfl)) h0, kvs, e.2 d _ (.inr rfl) h1, h2, Ins.le e.any h3⟩, fun ⟨h, h0, kvs, h1, _⟩ a ha => ha.elim (fun z => z.elim (fun z => by
    have := h [(f, .ref d)] kvs
    rw [upd_id h0, upd_id h1] at this
    exact I.dom this a z) fun z => by
    subst z
    exact ⟨_, h0, rfl⟩) fun z => by
    subst z
    exact ⟨_, h1, rfl⟩⟩
section
variable {S : AS} {K : PySem.W.Frag} {Γ Δ : Ctx} {I : IV S} {ta tb tc te td ty tx tv : TE} {φ ψ χ ξ : Fm} {R : VK} {N : L2.St → Hp → Prop} {f : Str} {x C dx d : Addr} {rows : List (List Key × Fm)} {u : TS} {ks : List Key}
theorem kn_wk {H : Hp} (h : (I.kn f x C dx d rows).p H) : I.p H := by
  obtain ⟨h, h0, kvs, h1, _⟩ := h
  have := h [(f, .ref d)] kvs
  rw [upd_id h0, upd_id h1] at this
  exact this
theorem kn_out {H : Hp} (nd : ¬ SU S x d) (h : (I.kn f x C dx d rows).p H) : (I.obj x C dx [(f, DctT rows)]).p H := by
  obtain ⟨h, h0, kvs, h1, h2, h3⟩ := h
  refine ⟨fun gs => ?_, [.ref d], h0, .ref d, [], rfl, ⟨d, kvs, rfl, nd, .inl h1, h2, h3.lift fun a z => .inl (.inl z)⟩, rfl⟩
  have := h gs kvs
  rw [upd_id (H := upd H x (.ins C dx gs)) (by rw [upd_ne (fun z => nd (.inr z))]; exact h1)] at this
  exact this
/-- self.f = {} at the start -/
theorem gs_known {j : Nat} (hj : Γ[j]? = some (some (Eqv (.ref x)))) (cl : Cls K C) (na : NoAttr K C f)
    (k : ∀ d, ¬ SU S x d → GS (SK S x d) Γ (I.kn f x C dx d []) u R N) : GS (SU S x) Γ (I.obj x C dx []) (tSeq (sFld K (tVar j) tDNewT f) u) R N := fun σ H e hi D r n d hd => by
  have nS : ¬ SU S x d := (I.obj x C dx []).fresh hi hd
  have hxd : d ≠ x := fun z => nS (.inr z)
  obtain ⟨v, hv, pv⟩ := e.2 j _ hj
  obtain rfl : v = .ref x := pv
  obtain ⟨kI, ws, h1, h2⟩ := hi
  have hw : ws = [] := h2
  subst hw
  have h1' : H x = some (.ins C dx []) := h1
  refine ⟨_, hv, x, C, dx, [], rfl, by rw [upd_ne (Ne.symm hxd)]; exact h1', cl, na, by decide, ?_⟩
  have hl : ∀ a, SK S x d a → SU S x a ∨ H a = none := fun a z => z.elim .inl fun z => .inr (by rw [z]; exact hd)
  have xe : XE (SU S x) H (upd (upd H d (.dT [])) x (.ins C dx (putF f (.ref d) []))) := (XE.new hd).trans (XE.mut (.inr rfl))
  have back : ∀ {H2}, XE (SK S x d) (upd (upd H d (.dT [])) x (.ins C dx (putF f (.ref d) []))) H2 → XE (SU S x) H H2 := fun {H2} y a o hs ha => y a o (fun z => z.elim hs fun z => by
    subst z
    rw [hd] at ha
    cases ha) (xe a o hs ha)
  refine k d nS σ _ ((Env.lift hl e).xe (xe.sub fun a z => .inl z)) ⟨fun gs ds => ?_, upd_same, [], by rw [upd_ne hxd]; exact upd_same, rfl, rfl⟩ D (fun v H2 y q => r v H2 (back y) q) fun σ' H2 y q => n σ' H2 (back y) q
  have e2 : upd (upd (upd (upd H d (.dT [])) x (.ins C dx (putF f (.ref d) []))) x (.ins C dx gs)) d (.dT ds) = upd (upd H x (.ins C dx gs)) d (.dT ds) := by
    rw [upd_upd]
    funext a
    by_cases z : a = d
    · subst z; rw [upd_same, upd_same]
    · rw [upd_ne z, upd_ne z]
      by_cases z2 : a = x
      · subst z2; rw [upd_same, upd_same]
      · rw [upd_ne z2, upd_ne z2, upd_ne z]
  rw [e2]
  exact I.le (LX.new (by rw [upd_ne hxd]; exact hd)) (kI gs)
/-- self.f -/
theorem ge_knF (hx : Γ[i]? = some (some (Eqv (.ref x)))) (cl : Cls K C) (na : NoAttr K C f) : GE (SK S x d) Γ (I.kn f x C dx d rows) (tFld K (tVar i) f) (Eqv (.ref d)) (I.kn f x C dx d rows) := fun σ H e hi Q q => by
  obtain ⟨v, h1, p⟩ := e.2 i _ hx
  obtain rfl : v = .ref x := p
  exact ⟨_, h1, x, C, dx, _, _, rfl, hi.2.1, cl, na, by show List.lookup f [(f, V.ref d)] = some (V.ref d); simp [List.lookup], q _ H (XE.refl _ H) hi rfl⟩
/-- k in self.f -/
theorem ge_knIn (hk : GE (SK S x d) Γ (I.kn f x C dx d rows) ty (KeyT ks) (I.kn f x C dx d rows)) (ho : GE (SK S x d) Γ (I.kn f x C dx d rows) td (Eqv (.ref d)) (I.kn f x C dx d rows)) : GE (SK S x d) Γ (I.kn f x C dx d rows) (tDIn ty td) (Is K (.bool (lk rows ks).isSome)) (I.kn f x C dx d rows) := fun σ H e hi Q q =>
  hk σ H e hi _ fun v H1 l1 j1 p1 => ho σ H1 (e.xe l1) j1 _ fun u H2 l2 j2 p2 => by
    obtain rfl : u = .ref d := p2
    obtain ⟨g, h0, kvs, h2, h3, h4⟩ := id j2
    obtain ⟨b, rfl, hb, h8⟩ := (KeyT ks).xe l2 p1
    have h5 := lk_val (k := ks) h3 h4
    refine ⟨d, valV kvs ks, rfl, .inr ⟨kvs, ks, b, .inl h2, rfl, h8, rfl⟩, q _ H2 (l1.trans l2) j2 ?_⟩
    cases h6 : lk rows ks with
    | none => rw [h5.1 h6]; exact .bl _
    | some ψ =>
      obtain ⟨w, h7, _⟩ := h5.2 ψ h6
      rw [h7]
      exact .bl _
theorem putT_new {kvs : List (List Key × V)} {k : List Key} {v : V} (h : ¬ k ∈ kvs.map Prod.fst) : putK kvs k v = kvs ++ [(k, v)] := by
  unfold putK
  rw [if_neg]
  intro z
  obtain ⟨q, hq, e⟩ := List.any_eq_true.mp z
  exact h (List.mem_map.mpr ⟨q, hq, of_decide_eq_true e⟩)
/-- self.f[k] = v, a new key -/
theorem gs_knPut (hx : x ≠ d) (hv : GE (SK S x d) Γ (I.kn f x C dx d rows) tv ψ (I.kn f x C dx d rows)) (ho : GE (SK S x d) Γ (I.kn f x C dx d rows) td (Eqv (.ref d)) (I.kn f x C dx d rows)) (hk : GE (SK S x d) Γ (I.kn f x C dx d rows) ty (KeyT ks) (I.kn f x C dx d rows)) (hn : ¬ ks ∈ rows.map Prod.fst) (hz : rows.length ≤ 100) :
    GS (SK S x d) Γ (I.kn f x C dx d rows) (sDPut td ty tv) R (En (SK S x d) Γ (I.kn f x C dx d (rows ++ [(ks, ψ)]))) := fun σ H e hi D r n => hv σ H e hi _ fun v H1 l1 j1 p1 => ho σ H1 (e.xe l1) j1 _ fun w H2 l2 j2 p2 => hk σ H2 (e.xe (l1.trans l2)) j2 _ fun y H3 l3 j3 p3 => by
  obtain rfl : w = .ref d := p2
  obtain ⟨b, rfl, hb, h8⟩ := p3
  obtain ⟨g, h0, kvs, h2, h3, h4⟩ := j3
  have hlen : kvs.length = rows.length := by
    have := congrArg List.length h3
    rwa [List.length_map, List.length_map] at this
  have l4 : XE (SK S x d) H3 (upd H3 d (.dT (putK kvs ks v))) := XE.mut (.inr rfl)
  refine ⟨d, _, rfl, .inr ⟨kvs, ks, b, h2, rfl, h8, Nat.lt_of_le_of_lt (by rw [hlen]; exact hz) (by decide), rfl⟩, n _ _ (((l1.trans l2).trans l3).trans l4) ⟨e.xe (((l1.trans l2).trans l3).trans l4), fun gs ds => ?_, by rw [upd_ne hx]; exact h0, _, upd_same, ?_, ?_⟩⟩
  · have e2 : upd (upd (upd H3 d (.dT (putK kvs ks v))) x (.ins C dx gs)) d (.dT ds) = upd (upd H3 x (.ins C dx gs)) d (.dT ds) := by
      funext a
      by_cases z : a = d
      · subst z; rw [upd_same, upd_same]
      · rw [upd_ne z, upd_ne z]
        by_cases z2 : a = x
        · subst z2; rw [upd_same, upd_same]
        · rw [upd_ne z2, upd_ne z2, upd_ne z]
    rw [e2]
    exact g gs ds
  · rw [putT_new (by rw [h3]; exact hn), List.map_append, List.map_append, h3] <;> rfl
  · have l5 := l4
    rw [putT_new (by rw [h3]; exact hn)] at l5 ⊢
    rw [List.map_append, List.map_append]
    exact (Ins.app (ψs := [ψ]) (ws := [v]) h4 ⟨v, [], rfl, ψ.xe (l2.trans l3) p1, rfl⟩).xe l5
/-- self.f == {} -/
theorem ge_knEq (ho : GE (SK S x d) Γ (I.kn f x C dx d rows) td (Eqv (.ref d)) (I.kn f x C dx d rows)) (hn : rows ≠ []) : GE (SK S x d) Γ (I.kn f x C dx d rows) (tOp rEqT td tDNewT) (Is K (.bool false)) (I.kn f x C dx d rows) := fun σ H e hi Q q => ho σ H e hi _ fun w H2 l2 j2 p2 p hp => by
  obtain rfl : w = .ref d := p2
  have hnp := (I.kn f x C dx d rows).fresh j2 hp
  obtain ⟨g, h0, kvs, h2, h3, h4⟩ := id j2
  refine ⟨d, p, kvs, [], rfl, rfl, .inl (by rw [upd_ne (fun z => hnp (.inr z.symm))]; exact h2), .inl upd_same, .inr ⟨?_, q _ _ (l2.trans (XE.new hp)) ((I.kn f x C dx d rows).le (LX.new hp) j2) (.bl _)⟩⟩
  intro z
  have := congrArg List.length h3
  rw [List.length_map, List.length_map, z] at this
  exact hn (List.eq_nil_of_length_eq_zero this.symm)
/-- what runs with the object and the dict as they stand, and gives a list of texts -/
theorem ge_knDown {j : Nat} {ts : List Str} (hx : x ≠ d) (nx : ¬ S x) (nd : ¬ S d) (hj : Γ[j]? = some (some (Eqv (.ref x)))) (h : ∀ I' : IV S, GE S (Γ.set j (some (ObA x C [(f, DctT rows)]))) I' te (Is K (.list (ts.map .str))) I') : GE (SK S x d) Γ (I.kn f x C dx d rows) te (Is K (.list (ts.map .str))) (I.kn f x C dx d rows) := fun σ H e hi Q q => by
  obtain ⟨g, h0, kvs, h2, h3, h4⟩ := id hi
  have dn : ∀ a, S a → SK S x d a ∨ H a = none := fun a z => .inl (.inl (.inl z))
  have e0 : Env S Γ σ H := Env.lift dn e
  obtain ⟨v, hv, pv⟩ := e.2 j _ hj
  obtain rfl : v = .ref x := pv
  have e1 : Env S (Γ.set j (some (ObA x C [(f, DctT rows)]))) σ H := by
    have := e0.set j (φ := ObA x C [(f, DctT rows)]) (v := .ref x) ⟨rfl, nx, dx, [.ref d], h0, .ref d, [], rfl, ⟨d, kvs, rfl, nd, .inl h2, h3, h4.lift dn⟩, rfl⟩
    have es : σ.set j (some (.ref x)) = σ := by
      apply List.ext_getElem?
      intro k
      rw [List.getElem?_set]
      split
      · rename_i z
        subst z
        split
        · exact hv.symm
        · rename_i z
          rw [List.getElem?_eq_none (Nat.le_of_not_lt z)]
      · rfl
    rwa [es] at this
  let I' : IV S := ⟨fun H => ∀ gs ds, I.p (upd (upd H x (.ins C dx gs)) d (.dT ds)), fun e h gs ds => I.le (LX.updB (LX.updB e)) (h gs ds), fun {H} h a ha => by
    obtain ⟨o, h5, h6⟩ := I.dom (h [] []) a ha
    rw [upd_ne (fun z => nd (by rw [← z]; exact ha)), upd_ne (fun z => nx (by rw [← z]; exact ha))] at h5
    exact ⟨o, h5, h6⟩⟩
  refine h I' σ H e1 g _ fun w H1 l1 j1 p1 => q w H1 (l1.sub fun a z => .inl (.inl z)) ⟨j1, l1 _ _ nx h0, kvs, l1 _ _ nd h2, h3, h4.xe (l1.sub fun a z => .inl (.inl z))⟩ ?_
  obtain ⟨a, xs, rfl, ha, h5, h6⟩ := Da.lst_of p1
  obtain rfl := h6.strs_of
  refine .lst (fun z => z.elim (fun z => z.elim ha fun z => ?_) fun z => ?_) h5 DaAll.strs
  · subst z
    rw [l1 _ _ nx h0] at h5
    cases h5
  · subst z
    rw [l1 _ _ nd h2] at h5
    cases h5
end
end Hs
set_option Elab.async false
set_option linter.all false
set_option maxRecDepth 100000
set_option maxHeartbeats 4000000
namespace Hs
open PySem PySem.Spec PyProof.Rows L2 StX
section
variable (K : PySem.W.Frag)
def ct_Store_names : CTR := fun S k => ∃ sa es ns, EsOk es ns ∧ k.J = k.I ∧ k.ins = [Sto K sa es] ∧ k.out = Is K (.tuple (ns.map .str))
def ci_System : CIN := fun S I ins outs => ∃ sa es ns R, EsOk es ns ∧ (R.map Prod.fst).Nodup ∧ R.length ≤ 10 ∧ (∀ r ∈ R, r.1 ∈ ns ∧ isState es r.1 r.2 = true) ∧ ins = [Sto K sa es, Dct (rowsF K R)] ∧ outs = [(("base" : Str), Sto K sa es), (("rows" : Str), Dct (rowsF K (ns.map fun n => (n, (lk R n).getD dS))))]
def ct_System_with_state : CTR := fun S k => ∃ sa es ns R n s, EsOk es ns ∧ RowsOk es ns R ∧ (lk R n).isSome = true ∧ isState es n s = true ∧ k.J = k.I ∧ k.ins = [Sys K sa es R, Is K (.str n), Is K (stD s)] ∧ k.out = Sys K sa es (putR R n s)
def ct_System_states : CTR := fun S k => ∃ sa es R, k.J = k.I ∧ k.ins = [Sys K sa es R] ∧ k.out = Dct (rowsF K R)
def ct_executed : CTR := fun S k => ∃ sa es ns R d fails, EsOk es ns ∧ RowsOk es ns R ∧ runnable es R d ∧ k.J = k.I ∧ k.ins = [Sys K sa es R, Is K d.d, Is K (.tuple (fails.map .int))] ∧ k.out = Tup K [Sys K sa es (runR es fails R d).1, LstN (runR es fails R d).2]
def ct_need_begin : CTR := fun S k => ∃ sa es ns R d, EsOk es ns ∧ RowsOk es ns R ∧ allowed es R d = true ∧ k.J = k.I ∧ k.ins = [Sys K sa es R, Is K d.d] ∧ k.out = Is K .none
def ct_run : CTR := fun S k => ∃ sa es ns R d fails, EsOk es ns ∧ RowsOk es ns R ∧ allowed es R d = true ∧ k.J = k.I ∧ k.ins = [Sys K sa es R, Is K d.d, Is K (.tuple (fails.map .int))] ∧ k.out = Tup K [Sys K sa es (runR es fails R d).1, LstN (runR es fails R d).2]
end
section
variable {S : AS} {K : PySem.W.Frag} {I : IV S}
theorem gr_deed1 {d : Deed} : GR S I (rIxT K) (Is K d.d) (Is K (.int 1)) (Is K (.str d.nm)) I := by
  cases d <;> exact gr_ixD (by decide) rfl
end
end Hs
set_option Elab.async false
set_option linter.all false
set_option maxRecDepth 100000
set_option maxHeartbeats 4000000
namespace Hs
open PySem PySem.Spec PyProof.Rows L2 StX
structure NeedsOk (n : Str) (ns : List (Str × Int)) : Prop where
  asc : Asc (ns.map Prod.fst)
  few : ns.length < 60
  ok : ∀ p ∈ ns, isWord p.1 = true ∧ p.1.length ≤ 1000 ∧ ¬ p.1 = n ∧ 1 ≤ p.2 ∧ p.2 ≤ 99 ∧ PyData.strOk p.1 = true
structure EdOk (e : Ed) : Prop where
  w : isWord e.nm = true
  wl : e.nm.length ≤ 1000
  lo : 1 ≤ e.ver
  hi : e.ver ≤ 99
  has : Asc e.has
  hasl : e.has.length < 60
  hasS : ∀ x ∈ e.has, x ∈ allScr ∧ PyData.strOk x = true
  wants : NeedsOk e.nm e.wants
  asks : NeedsOk e.nm e.asks
  shuns : Asc e.shuns
  shunsl : e.shuns.length < 60
  shunsS : ∀ x ∈ e.shuns, isWord x = true ∧ x.length ≤ 1000 ∧ ¬ x = e.nm ∧ PyData.strOk x = true
theorem all_ok {α : Type} {xs : List α} {f : α → Bool} (h : ∀ x ∈ xs, f x = true) : (xs.map f).all id = true := by
  rw [List.all_eq_true]
  intro b hb
  obtain ⟨x, hx, e⟩ := List.mem_map.mp hb
  rw [← e]
  exact h x hx
theorem hn_of (L : List Str) {fs : List (Str × Fm)} {f : Str} (e : fs.map Prod.fst = L) (h : L.all (fun g => !decide (g = f)) = true) : ∀ q ∈ fs, ¬ q.1 = f := fun q hq e2 => by
  subst e
  have := List.all_eq_true.mp h q.1 (List.mem_map_of_mem hq)
  rw [decide_eq_true e2] at this
  cases this
theorem nodup_le : ∀ {l T : List Str}, l.Nodup → (∀ x ∈ l, x ∈ T) → l.length ≤ T.length
  | [], _, _, _ => Nat.zero_le _
  | x :: l, T, hn, hs => by
    obtain ⟨h1, h2⟩ := List.nodup_cons.mp hn
    have p := List.perm_cons_erase (hs x List.mem_cons_self)
    have ih := nodup_le (l := l) (T := T.erase x) h2 fun y hy => by
      rcases List.mem_cons.mp (p.mem_iff.mp (hs y (List.mem_cons_of_mem _ hy))) with e | e
      · exact absurd (e ▸ hy) h1
      · exact e
    have e := p.length_eq
    rw [List.length_cons] at e ⊢
    omega
theorem uniq_ex : ∀ ts : List Str, ∃ l : List Str, l.Nodup ∧ ∀ x, x ∈ l ↔ x ∈ ts
  | [] => ⟨[], List.nodup_nil, fun _ => Iff.rfl⟩
  | t :: ts => by
    obtain ⟨l, h1, h2⟩ := uniq_ex ts
    by_cases h : t ∈ l
    · refine ⟨l, h1, fun x => ?_⟩
      rw [List.mem_cons, ← h2]
      exact ⟨.inr, fun z => z.elim (fun z => z ▸ h) id⟩
    · refine ⟨t :: l, List.nodup_cons.mpr ⟨h, h1⟩, fun x => ?_⟩
      rw [List.mem_cons, List.mem_cons, h2]
section
variable (K : PySem.W.Frag)
def ci_Store : CIN := fun S I ins outs => ∃ es ns, EsOk es ns ∧ ins = [Tup K (es.map (Edn K))] ∧ outs = [(("known" : Str), DctT (knownF K es))]
abbrev edIns (e : Ed) : List Fm := [Is K (.str e.nm), Is K (.int e.ver), Is K (strsD e.has), Is K (needsD e.wants), Is K (needsD e.asks), Is K (strsD e.shuns)]
def ci_Edition : CIN := fun S I ins outs => ∃ e, EdOk e ∧ ins = edIns K e ∧ outs = [(("label" : Str), Is K (.str e.nm)), (("number" : Str), Is K (.int e.ver)), (("has" : Str), Is K (strsD e.has)), (("wants" : Str), Is K (needsD e.wants)), (("asks" : Str), Is K (needsD e.asks)), (("shuns" : Str), Is K (strsD e.shuns))]
end
end Hs
set_option Elab.async false
set_option linter.all false
set_option maxRecDepth 100000
set_option maxHeartbeats 4000000
/-! dicts of data, compared -/
namespace Hs
open PySem PySem.Spec PyProof.Rows L2 StX
section
variable {X : Cx} {κ : Type} [DecidableEq κ]
theorem hitsD {pins : List (Addr × Obj)} {σ : L2.St} {H : Hp} {s : Shared} (I : Inv X pins σ H s) (hu : X.A.in1.units + 64 < cLine) {ls : List (κ × V)} {vb : List (κ × Value)} (rb : KV ls vb) {ks : List (κ × V)} {va : List (κ × Value)} (ra : KV ks va) :
    (∀ p ∈ ks, ∃ w d, valV ls p.1 = some w ∧ Dp X.K H p.2 d ∧ Dp X.K H w d ∧ SeqAt.shaped d = true) → PySem.W.KeqHits X.A.in1 s vb va true := by
  unfold KV at ra
  induction ra with
  | nil => intro _; exact .nil
  | @cons p q ps qs h t ih =>
    intro hp
    obtain ⟨h1, h2⟩ := h
    obtain ⟨w, d, e, f1, f2, f3⟩ := hp p List.mem_cons_self
    have rr : RelO (some w) (valueAt vb p.1) := by rw [← e]; exact rb.val p.1
    obtain ⟨y, hy, ry⟩ := rr.some_of
    obtain ⟨k, v⟩ := q
    have h1' : p.1 = k := h1
    rw [h1'] at hy
    obtain ⟨as, r1⟩ := Dp.reads I d _ _ f1 h2
    obtain ⟨bs, r2⟩ := Dp.reads I d _ _ f2 ry
    have z := PySem.W.keq_at (A := X.A) r1 r2 f3 f3 hu
    rw [SeqAt.eqv_refl d (SeqAt.canLay_of_shaped f3)] at z
    show PySem.W.KeqHits X.A.in1 s vb ((k, v) :: qs) (true && true)
    exact .hit hy z (ih fun p' hm => hp p' (List.mem_cons_of_mem _ hm))
def rEqKD (K : PySem.W.Frag) : R2 := fun x y H Q => ∃ a b ks ls, x = .ref a ∧ y = .ref b ∧ Rd H a (.dK ks) ∧ Rd H b (.dK ls) ∧ ks.length = ls.length ∧ (∀ p ∈ ks, ∃ w d, valV ls p.1 = some w ∧ Dp K H p.2 d ∧ Dp K H w d ∧ SeqAt.shaped d = true) ∧ Q (.bl true) H
theorem op_eqKD (hu : X.A.in1.units + 64 < cLine) (hu1 : X.A.units < cLine) : OpR X (compareOp .Eq) (rEqKD X.K) := by
  intro pins s σ H x y v u Q I rx ry h
  obtain ⟨a, b, ks, ls, rfl, rfl, ea, eb, hlen, hp, q⟩ := h
  obtain rfl : v = Value.ref a := rx
  obtain rfl : u = Value.ref b := ry
  obtain ⟨_, ya, va, ra, da⟩ := dk_rd I.hok ea
  obtain ⟨_, yb, vb, rb, db⟩ := dk_rd I.hok eb
  have hl : va.length = vb.length := by rw [← ra.length, ← rb.length]; exact hlen
  exact PySem.W.keq_eq (knd := mixKind X.prog X.w) (r := true) ya yb da db hu1 (fun _ => hitsD I hu rb ra hp) (fin_bl I q (by simp [hl]))
end
theorem shaped_st {s : S3} (h : s.st ∈ allSt) : SeqAt.shaped (stD s) = true := by
  unfold SeqAt.shaped
  have h1 : ∀ x ∈ allSt, PyData.strOk x = true := by decide +kernel
  have := h1 _ h
  simp [PyData.canLay0, PyData.canLayAll0, PyData.depth, PyData.depthAll, this]
section
variable {S : AS} {K : PySem.W.Frag} {I : IV S}
theorem valV_mem {κ : Type} [DecidableEq κ] : ∀ {kvs : List (κ × V)} {p : κ × V}, (kvs.map Prod.fst).Nodup → p ∈ kvs → valV kvs p.1 = some p.2
  | q :: r, p, nd, h => by
    obtain ⟨n1, n2⟩ := List.nodup_cons.mp nd
    rcases List.mem_cons.mp h with e | h'
    · subst e
      exact valV_pos rfl
    · rw [valV_neg (fun z => n1 (by rw [z]; exact List.mem_map_of_mem h'))]
      exact valV_mem n2 h'
theorem rows_mem {H : Hp} : ∀ {R : Rows} {kvs : List (Key × V)}, kvs.map Prod.fst = (rowsF K R).map Prod.fst → Ins S ((rowsF K R).map Prod.snd) (kvs.map Prod.snd) H → ∀ p ∈ kvs, ∃ r ∈ R, p.1 = .inr r.1 ∧ Da S K H p.2 (stD r.2)
  | [], [], _, _, _, h => by cases h
  | [], _ :: _, h, _, _, _ => by cases h
  | _ :: _, [], h, _, _, _ => by cases h
  | r :: R, q :: kvs, hk, hi, p, hp => by
    obtain ⟨u, ws, e1, e2, e3⟩ := hi
    injection e1 with e1 e1'
    injection hk with hk1 hk2
    rw [← e1'] at e3
    rcases List.mem_cons.mp hp with e | hp
    · subst e
      exact ⟨r, List.mem_cons_self, hk1, by rw [e1]; exact e2⟩
    · obtain ⟨r', h1, h2⟩ := rows_mem hk2 e3 p hp
      exact ⟨r', List.mem_cons_of_mem _ h1, h2⟩
theorem gr_eqRows {R : Rows} (hs : ∀ r ∈ R, r.2.st ∈ allSt) (nd : (R.map Prod.fst).Nodup) : GR S I (rEqKD K) (Dct (rowsF K R)) (Dct (rowsF K R)) (Is K (.bool true)) I := fun x y H hi h1 h2 Q q => by
  obtain ⟨a, ks, rfl, sa, a1, a2, a3⟩ := h1
  obtain ⟨b, ls, rfl, sb, b1, b2, b3⟩ := h2
  have hkn : ∀ {ms : List (Key × V)}, ms.map Prod.fst = (rowsF K R).map Prod.fst → (ms.map Prod.fst).Nodup := fun {ms} e => by
    rw [e, List.map_map]
    have : (List.map (Prod.fst ∘ fun r : Str × S3 => ((Sum.inr r.1 : Key), Is K (stD r.2))) R) = (R.map Prod.fst).map Sum.inr := by rw [List.map_map]; rfl
    rw [this]
    exact List.Pairwise.map _ (fun a b h z => h (Sum.inr.inj z)) nd
  refine ⟨a, b, ks, ls, rfl, rfl, a1, b1, ?_, fun p hp => ?_, q _ H (XE.refl S H) hi (.bl _)⟩
  · have := congrArg List.length (a2.trans b2.symm)
    rwa [List.length_map, List.length_map] at this
  · obtain ⟨r, hr, e1, e2⟩ := rows_mem a2 a3 p hp
    have : p.1 ∈ ls.map Prod.fst := by rw [b2.trans a2.symm]; exact List.mem_map_of_mem hp
    obtain ⟨p', hp', e3⟩ := List.mem_map.mp this
    obtain ⟨r', hr', e4, e5⟩ := rows_mem b2 b3 p' hp'
    have er : r' = r := by
      have e6 : r'.1 = r.1 := Sum.inr.inj (e4.symm.trans (e3.trans e1))
      have h7 := lk_mem nd hr
      have h8 := lk_mem nd hr'
      rw [e6, h7] at h8
      exact Prod.ext e6 (Option.some.inj h8).symm
    subst er
    exact ⟨p'.2, _, by rw [← e3]; exact valV_mem (hkn b2) hp', e2.dp, e5.dp, shaped_st (hs _ hr)⟩
/-- one dict -/
theorem gr_eqT1 {sa : Addr} {rows : List (List Key × Fm)} {φ : Fm} (h : ∀ v u H, φ.p S v H → φ.p S u H → v = u ∧ ∃ d ks, v = .ref d ∧ Rd H d (.dT ks)) : GR S I rEqT φ φ (Is K (.bool true)) I := fun x y H hi h1 h2 Q q => by
  obtain ⟨rfl, d, ks, rfl, hd⟩ := h x y H h1 h2
  exact ⟨d, d, ks, ks, rfl, rfl, hd, hd, .inl ⟨rfl, q _ H (XE.refl S H) hi (.bl _)⟩⟩
end
end Hs
set_option Elab.async false
set_option linter.all false
set_option maxRecDepth 100000
/-! further facts of the loaded program -/
namespace Hs
open PySem PySem.Spec PyProof.Rows L2
structure Ty (K : PySem.W.Frag) (mg : Str → Option Value) : Prop extends Tx K mg where
  ic_Store : C8.InsC K (C_Store K)
  ic_System : C8.InsC K (C_System K)
  S : SlX.SCls K (C_State K)
  sl_present : ∃ p, SlX.Slot1 K (C_State K) "present" p 2
  sl_count : ∃ p, SlX.Slot1 K (C_State K) "count" p 0
  sl_shelf : ∃ p, SlX.Slot1 K (C_State K) "shelf" p 3
  sl_past : ∃ p, SlX.Slot1 K (C_State K) "past" p 1
  sl_undone : ∃ p, SlX.Slot1 K (C_State K) "undone" p 4
end Hs
set_option Elab.async false
set_option linter.all false
set_option maxRecDepth 100000
set_option maxHeartbeats 4000000
/-! own ==: what it reads -/
namespace Hs
open PySem PySem.Spec PyProof.Rows L2 StX
section
variable {S : AS} {K : PySem.W.Frag} {Γ Δ : Ctx} {I : IV S} {φ ψ : Fm} {C : Addr}
theorem gc_isC (hm : InsOf C "" φ) : GC S I (fun xs H Q => ∃ a dx fs, xs = [.ref a, .ref C] ∧ H a = some (.ins C dx fs) ∧ Q (.bl true) H) [φ, Eqv (.ref C)] (Is K (.bool true)) I := fun vs H hi h Q q => by
  obtain ⟨v, ws, rfl, h1, w, us, rfl, h2, rfl⟩ := h
  obtain ⟨a, dx, fs, rfl, ea, _⟩ := hm S v H h1
  obtain rfl : w = .ref C := h2
  exact ⟨a, dx, fs, rfl, ea, q _ H (XE.refl S H) hi (.bl _)⟩
theorem ge_knSame {sa : Addr} {rows : List (List Key × Fm)} {i j : Nat} {f : Str} (hi : Γ[i]? = some (some (ObA sa C [(f, DctT rows)]))) (hj : Γ[j]? = some (some (ObA sa C [(f, DctT rows)]))) (cl : Cls K C) (na : NoAttr K C f) : GE S Γ I (tOp rEqT (tFld K (tVar i) f) (tFld K (tVar j) f)) (Is K (.bool true)) I := fun σ H e hI Q q => by
  obtain ⟨v, hv, p1⟩ := e.2 i _ hi
  obtain ⟨u, hu, p2⟩ := e.2 j _ hj
  obtain ⟨rfl, hs, dx, ws, h2, w, ws', rfl, ⟨d, kvs, rfl, hd, h3, h4, h5⟩, rfl⟩ := p1
  obtain ⟨rfl, hs', dx', ws', h2', w', ws'', rfl, ⟨d', kvs', rfl, hd', h3', h4', h5'⟩, rfl⟩ := p2
  have e1 := h2.symm.trans h2'
  have hl : List.lookup f (([(f, DctT rows)].map Prod.fst).zip [V.ref d]) = some (V.ref d) := by
    show List.lookup f [(f, V.ref d)] = _
    simp [List.lookup]
  refine ⟨_, hv, sa, C, dx, _, _, rfl, h2, cl, na, hl, _, hu, sa, C, dx, _, _, rfl, h2, cl, na, hl, d, d, kvs, kvs, rfl, rfl, h3, h3, .inl ⟨rfl, q _ H (XE.refl S H) hI (.bl _)⟩⟩
end
section
variable (K : PySem.W.Frag)
def ct_Store_eq : CTR := fun S k => ∃ sa es, k.J = k.I ∧ k.ins = [Sto K sa es, Sto K sa es] ∧ k.out = Is K (.bool true)
def ct_System_eq : CTR := fun S k => ∃ sa es R, (∀ r ∈ R, r.2.st ∈ allSt) ∧ (R.map Prod.fst).Nodup ∧ k.J = k.I ∧ k.ins = [Sys K sa es R, Sys K sa es R] ∧ k.out = Is K (.bool true)
end
end Hs
set_option Elab.async false
set_option linter.all false
set_option maxRecDepth 100000
set_option maxHeartbeats 4000000
/-! the row of the law: a list [script, pos, seed, rest] that every helper changes -/
namespace Hs
open PySem PySem.Spec PyProof.Rows L2 StX
structure Rw where
  pos : Int
  seed : Int
  rest : Int
structure RwOk (w : Rw) : Prop where
  p : 0 ≤ w.pos
  s0 : 0 ≤ w.seed
  s1 : w.seed < 2147483647
def taken (sc : List Int) (w : Rw) (m : Int) : Int × Rw :=
  if 0 < w.rest then (w.rest % m, ⟨w.pos, w.seed, w.rest / m⟩)
  else if (sc.length : Int) < w.pos + 1 then (((w.seed * 48271 + 11) % 2147483647 / 7) % m, ⟨w.pos + 1, (w.seed * 48271 + 11) % 2147483647, w.rest⟩)
  else ((sc.getD w.pos.toNat 0) % m, ⟨w.pos + 1, (w.seed * 48271 + sc.getD w.pos.toNat 0 + 11) % 2147483647, if 10 ^ 18 ≤ sc.getD w.pos.toNat 0 then sc.getD w.pos.toNat 0 / m else 0⟩)
theorem taken_ok {sc : List Int} {w : Rw} {m : Int} (h : RwOk w) : RwOk (taken sc w m).2 := by
  obtain ⟨p, s0, s1⟩ := h
  unfold taken
  split
  · exact ⟨p, s0, s1⟩
  · split
    · exact ⟨by show 0 ≤ w.pos + 1; omega, Int.emod_nonneg _ (by decide), Int.emod_lt_of_pos _ (by decide)⟩
    · exact ⟨by show 0 ≤ w.pos + 1; omega, Int.emod_nonneg _ (by decide), Int.emod_lt_of_pos _ (by decide)⟩
theorem taken_lo {sc : List Int} {w : Rw} {m : Int} (hm : 0 < m) : 0 ≤ (taken sc w m).1 ∧ (taken sc w m).1 < m := by
  unfold taken
  split
  · exact ⟨Int.emod_nonneg _ (by omega), Int.emod_lt_of_pos _ hm⟩
  · split
    · exact ⟨Int.emod_nonneg _ (by omega), Int.emod_lt_of_pos _ hm⟩
    · exact ⟨Int.emod_nonneg _ (by omega), Int.emod_lt_of_pos _ hm⟩
def RowAt (r : Addr) (sv : V) (w : Rw) (H : Hp) : Prop := H r = some (.lst [sv, .int w.pos, .int w.seed, .int w.rest])
/-- the script: a list that may be frozen, outside what is kept -/
def ScrL (S : AS) (K : PySem.W.Frag) (H : Hp) (b : Addr) (xs : List V) : Prop := (¬ S b ∧ Rd H b (.lst xs)) ∨ ∃ (o : Obj) (its : Array Value) (n : Nat), K.lookup b = some o ∧ o.cls = .type "list" ∧ o.dict = none ∧ o.data = .seq its n ∧ its.size ≤ sizeLine ∧ Vals xs its.toList
theorem ScrL.sq {S : AS} {K : PySem.W.Frag} {H : Hp} {b : Addr} {xs : List V} (h : ScrL S K H b xs) : SqL K H b xs := h.elim (fun z => .inl z.2) .inr
theorem ScrL.le {S : AS} {K : PySem.W.Frag} {H H' : Hp} {b : Addr} {xs : List V} (e : LE S H H') (h : ScrL S K H b xs) : ScrL S K H' b xs := h.elim (fun z => .inl ⟨z.1, z.2.elim (fun y => .inl (e.lst z.1 y)) fun ⟨ob, y⟩ => .inr ⟨ob, by
  obtain ⟨o, h1, h2⟩ := e b _ z.1 y
  rw [h1, nk_frzl h2]⟩⟩) .inr
theorem ScrL.lift {S T : AS} {K : PySem.W.Frag} {H : Hp} {b : Addr} {xs : List V} (hl : ∀ a, T a → S a ∨ H a = none) (h : ScrL S K H b xs) : ScrL T K H b xs := h.elim (fun z => .inl ⟨fun t => (hl b t).elim z.1 fun y => z.2.elim (fun x => (by rw [y] at x; cases x)) fun ⟨_, x⟩ => (by rw [y] at x; cases x), z.2⟩) .inr
abbrev ScrF (K : PySem.W.Frag) (sc : List Int) : Fm := ⟨fun S v H => ∃ b, v = .ref b ∧ ScrL S K H b (sc.map V.int), fun e ⟨b, h1, h2⟩ => ⟨b, h1, h2.le e⟩, fun hl ⟨b, h1, h2⟩ => ⟨b, h1, h2.lift hl⟩⟩
/-- the row, and what its script is -/
abbrev RowV (K : PySem.W.Frag) (r : Addr) (sv : V) (sc : List Int) : Fm := ⟨fun S v H => v = .ref r ∧ (ScrF K sc).p S sv H, fun e h => ⟨h.1, (ScrF K sc).le e h.2⟩, fun hl h => ⟨h.1, (ScrF K sc).lift hl h.2⟩⟩
structure RowF (S : AS) (r : Addr) (sv : V) (F : Rw → IV S) : Prop where
  sub : S r
  get : ∀ w H, (F w).p H → RowAt r sv w H
  put : ∀ w w' H H', RwOk w' → (F w).p H → XE (fun a => a = r) H H' → RowAt r sv w' H' → (F w').p H'
section
variable {S : AS} {K : PySem.W.Frag} {Γ Δ : Ctx} {I J L M : IV S} {ta tb tc te td ty : TE} {t : TA} {φ ψ χ ξ : Fm} {R : VK} {N : L2.St → Hp → Prop} {r : Addr} {sc : List Int} {F : Rw → IV S} {w : Rw} {sv : V}
theorem gr_row0 (hF : RowF S r sv F) : GR S (F w) (rIxL K) (RowV K r sv sc) (Is K (.int 0)) (ScrF K sc) (F w) := fun x y H hi h1 h2 Q q => by
  obtain ⟨rfl, hsv⟩ := h1
  obtain rfl := Da.int_of h2
  have h3 := hF.get w H hi
  exact ⟨r, _, 0, sv, rfl, rfl, SqL.of h3, atI_nn (by decide) rfl, q _ H (XE.refl S H) hi hsv⟩
theorem gc_lenScr : GC S I (fun xs H Q => ∃ p ys, xs = [.ref p] ∧ (SqL K H p ys ∨ SqT K H p ys) ∧ Q (.int ys.length) H) [ScrF K sc] (Is K (.int sc.length)) I := fun vs H hi h Q q => by
  obtain ⟨v, ws, rfl, ⟨b, rfl, h1⟩, rfl⟩ := h
  refine ⟨b, _, rfl, .inl h1.sq, q _ H (XE.refl S H) hi ?_⟩
  rw [List.length_map]
  exact .int _
theorem gr_ixScr {n c : Int} (h0 : 0 ≤ n) (h : sc[n.toNat]? = some c) : GR S I (rIxL K) (ScrF K sc) (Is K (.int n)) (Is K (.int c)) I := fun x y H hi h1 h2 Q q => by
  obtain ⟨b, rfl, h3⟩ := h1
  obtain rfl := Da.int_of h2
  exact ⟨b, _, n, .int c, rfl, rfl, h3.sq, atI_nn h0 (by rw [List.getElem?_map, h]; rfl), q _ H (XE.refl S H) hi (.int _)⟩
theorem gr_row1 (hF : RowF S r sv F) : GR S (F w) (rIxL K) (RowV K r sv sc) (Is K (.int 1)) (Is K (.int w.pos)) (F w) := fun x y H hi h1 h2 Q q => by
  obtain ⟨rfl, hsv⟩ := h1
  obtain rfl := Da.int_of h2
  have h3 := hF.get w H hi
  exact ⟨r, _, 1, _, rfl, rfl, SqL.of h3, atI_nn (by decide) rfl, q _ H (XE.refl S H) hi (.int _)⟩
theorem gr_row2 (hF : RowF S r sv F) : GR S (F w) (rIxL K) (RowV K r sv sc) (Is K (.int 2)) (Is K (.int w.seed)) (F w) := fun x y H hi h1 h2 Q q => by
  obtain ⟨rfl, hsv⟩ := h1
  obtain rfl := Da.int_of h2
  have h3 := hF.get w H hi
  exact ⟨r, _, 2, _, rfl, rfl, SqL.of h3, atI_nn (by decide) rfl, q _ H (XE.refl S H) hi (.int _)⟩
theorem gr_row3 (hF : RowF S r sv F) : GR S (F w) (rIxL K) (RowV K r sv sc) (Is K (.int 3)) (Is K (.int w.rest)) (F w) := fun x y H hi h1 h2 Q q => by
  obtain ⟨rfl, hsv⟩ := h1
  obtain rfl := Da.int_of h2
  have h3 := hF.get w H hi
  exact ⟨r, _, 3, _, rfl, rfl, SqL.of h3, atI_nn (by decide) rfl, q _ H (XE.refl S H) hi (.int _)⟩
theorem row_put (hF : RowF S r sv F) {w' : Rw} {H : Hp} (hk : RwOk w') (h : (F w).p H) : (F w').p (upd H r (.lst [sv, .int w'.pos, .int w'.seed, .int w'.rest])) :=
  hF.put w w' H _ hk h (XE.mut rfl) upd_same
/-- row[1] = n .. row[3] = n -/
theorem gs_row1 {n : Int} (hF : RowF S r sv F) (hv : GE S Γ (F w) te (Is K (.int n)) (F w)) (ho : GE S Γ (F w) ta (RowV K r sv sc) (F w)) (hk : RwOk ⟨n, w.seed, w.rest⟩) : GS S Γ (F w) (tAsg te (gSub ta (tC (.int 1)) rSetL)) R (En S Γ (F ⟨n, w.seed, w.rest⟩)) := fun σ H e hi D _ k => hv σ H e hi _ fun v H1 l1 j1 p1 => ho σ H1 (e.xe l1) j1 _ fun u H2 l2 j2 p2 => by
  obtain rfl := Da.int_of p1
  obtain ⟨rfl, hsv⟩ := p2
  have h3 := hF.get w H2 j2
  exact ⟨r, _, 1, 1, rfl, rfl, h3, rfl, k _ _ ((l1.trans l2).trans (XE.mut hF.sub)) ⟨e.xe ((l1.trans l2).trans (XE.mut hF.sub)), row_put hF (w' := ⟨n, w.seed, w.rest⟩) hk j2⟩⟩
theorem gs_row2 {n : Int} (hF : RowF S r sv F) (hv : GE S Γ (F w) te (Is K (.int n)) (F w)) (ho : GE S Γ (F w) ta (RowV K r sv sc) (F w)) (hk : RwOk ⟨w.pos, n, w.rest⟩) : GS S Γ (F w) (tAsg te (gSub ta (tC (.int 2)) rSetL)) R (En S Γ (F ⟨w.pos, n, w.rest⟩)) := fun σ H e hi D _ k => hv σ H e hi _ fun v H1 l1 j1 p1 => ho σ H1 (e.xe l1) j1 _ fun u H2 l2 j2 p2 => by
  obtain rfl := Da.int_of p1
  obtain ⟨rfl, hsv⟩ := p2
  have h3 := hF.get w H2 j2
  exact ⟨r, _, 2, 2, rfl, rfl, h3, rfl, k _ _ ((l1.trans l2).trans (XE.mut hF.sub)) ⟨e.xe ((l1.trans l2).trans (XE.mut hF.sub)), row_put hF (w' := ⟨w.pos, n, w.rest⟩) hk j2⟩⟩
theorem gs_row3 {n : Int} (hF : RowF S r sv F) (hv : GE S Γ (F w) te (Is K (.int n)) (F w)) (ho : GE S Γ (F w) ta (RowV K r sv sc) (F w)) (hk : RwOk ⟨w.pos, w.seed, n⟩) : GS S Γ (F w) (tAsg te (gSub ta (tC (.int 3)) rSetL)) R (En S Γ (F ⟨w.pos, w.seed, n⟩)) := fun σ H e hi D _ k => hv σ H e hi _ fun v H1 l1 j1 p1 => ho σ H1 (e.xe l1) j1 _ fun u H2 l2 j2 p2 => by
  obtain rfl := Da.int_of p1
  obtain ⟨rfl, hsv⟩ := p2
  have h3 := hF.get w H2 j2
  exact ⟨r, _, 3, 3, rfl, rfl, h3, rfl, k _ _ ((l1.trans l2).trans (XE.mut hF.sub)) ⟨e.xe ((l1.trans l2).trans (XE.mut hF.sub)), row_put hF (w' := ⟨w.pos, w.seed, n⟩) hk j2⟩⟩
end
def rowOk (r : Addr) (sv : V) (H : Hp) : Prop := ∃ w, RwOk w ∧ RowAt r sv w H
/-- what a helper asks of the row: it stands, and may become any other that stands -/
structure RowI {S : AS} (r : Addr) (sv : V) (I : IV S) : Prop where
  get : ∀ H, I.p H → rowOk r sv H
  cl : Cl I (fun a => a = r) (rowOk r sv)
theorem RowI.ext {S S' : AS} {r : Addr} {sv : V} {I : IV S} {I' : IV S'} (e : Ext I I') (h : RowI r sv I) : RowI r sv I' := ⟨fun H p => h.get H (e.wk H p), e.cl _ _ h.cl⟩
def RowI.fam {S : AS} {r : Addr} {sv : V} {I : IV S} (h : RowI r sv I) (w : Rw) : IV S := ⟨fun H => I.p H ∧ RowAt r sv w H, fun e ⟨h1, h2⟩ => ⟨I.le e h1, e.2 r _ (h.cl.1 r rfl) h2⟩, fun h' a ha => I.dom h'.1 a ha⟩
theorem RowI.famF {S : AS} {r : Addr} {sv : V} {I : IV S} (h : RowI r sv I) : RowF S r sv h.fam :=
  ⟨h.cl.1 r rfl, fun w H p => p.2, fun w w' H H' hk p e ha => ⟨h.cl.2.2 H H' p.1 e ⟨w', hk, ha⟩, ha⟩⟩
section
variable (K : PySem.W.Frag)
def ct_law_taken : CTR := fun S k => ∃ r sv sc F w m, RowF S r sv F ∧ RwOk w ∧ 0 < m ∧ m < 1000 ∧ k.I = F w ∧ k.J = F (taken sc w m).2 ∧ k.ins = [RowV K r sv sc, Is K (.int m)] ∧ k.out = Is K (.int (taken sc w m).1)
end
end Hs
set_option Elab.async false
set_option linter.all false
set_option maxRecDepth 100000
set_option maxHeartbeats 4000000
namespace Hs
open PySem PySem.Spec PyProof.Rows L2 StX
section
variable {P : Program} {w : World} {K : PySem.W.Frag} {mg : Str → Option Value} {base : Heap}
abbrev N_law_taken : List Str := ["_law_row", "_law_many", "_law_found", "_law_cell"]
theorem sc_law_taken : FnScope N_law_taken ["_law_row", "_law_many"] (defScope s_law_taken) := ⟨rfl, rfl, rfl, by decide +kernel, rfl, by decide +kernel, by decide +kernel⟩
theorem ok_law_taken (T : Tx K mg) : FnR P w K mg base CX0 1 (a_law_taken K) (spC (ct_law_taken K)) := by
  obtain ⟨fd, F⟩ := T.f_law_taken
  have nd := sc_law_taken.nd
  refine ok_of (He5.fun_of F) sc_law_taken (F.bindsN fun _ _ _ _ _ _ us hl => match us, hl with | [_, _], _ => rfl) ?_ fun cdv A outer s H E hr => have hu := hu_of hr; have hu0 := hr.units0; ⟨_, (pss_cons (ps_if (pt_cmpR op_gt (pe_ix (ix_listK K) (pv 0) pe_int (fun _ _ => rfl)) pe_int (nomark _)) (pss_cons (ps_set (i := 2) nd rfl (.inl rfl) (pe_op op_mod (pe_callTy call_int1 (by rfl) T.n_int (by decide +kernel) (pa_cons (pe_ix (ix_listK K) (pv 0) pe_int (fun _ _ => rfl)) pa_nil)) (pv 1)))
    (pss_cons (ps_asg (pe_op op_fdiv (pe_ix (ix_listK K) (pv 0) pe_int (fun _ _ => rfl)) (pv 1)) (pg_sub (pv 0) pe_int set_list))
    (pss_one (ps_ret (pv 2))))) pss_nil)
    (pss_cons (ps_asg (pe_op op_add (pe_ix (ix_listK K) (pv 0) pe_int (fun _ _ => rfl)) pe_int) (pg_sub (pv 0) pe_int set_list))
    (pss_cons (ps_if (pt_cmpR op_gt (pe_ix (ix_listK K) (pv 0) pe_int (fun _ _ => rfl)) (pe_callB call_len_seq (by rfl) T.n_len PySem.boot_len (pa_cons (pe_ix (ix_listK K) (pv 0) pe_int (fun _ _ => rfl)) pa_nil)) (nomark _)) (pss_cons (ps_asg (pe_op op_mod (pe_callTy call_int1 (by rfl) T.n_int (by decide +kernel) (pa_cons (pe_op op_add (pe_op op_mul (pe_ix (ix_listK K) (pv 0) pe_int (fun _ _ => rfl)) pe_int) pe_int) pa_nil)) pe_int) (pg_sub (pv 0) pe_int set_list))
    (pss_one (ps_ret (pe_op op_mod (pe_callTy call_int1 (by rfl) T.n_int (by decide +kernel) (pa_cons (pe_op op_fdiv (pe_ix (ix_listK K) (pv 0) pe_int (fun _ _ => rfl)) pe_int) pa_nil)) (pv 1))))) pss_nil)
    (pss_cons (ps_set (i := 3) nd rfl (.inl rfl) (pe_ix (ix_listK K) (pe_ix (ix_listK K) (pv 0) pe_int (fun _ _ => rfl)) (pe_op op_sub (pe_ix (ix_listK K) (pv 0) pe_int (fun _ _ => rfl)) pe_int) (fun _ _ => rfl)))
    (pss_cons (ps_asg (pe_op op_mod (pe_callTy call_int1 (by rfl) T.n_int (by decide +kernel) (pa_cons (pe_op op_add (pe_op op_add (pe_op op_mul (pe_ix (ix_listK K) (pv 0) pe_int (fun _ _ => rfl)) pe_int) (pv 3)) pe_int) pa_nil)) pe_int) (pg_sub (pv 0) pe_int set_list))
    (pss_cons (ps_asg (pe_ifExp (pt_cmpR op_ge (pv 3) (pe_op op_pow pe_int pe_int) (nomark _)) (pe_op op_fdiv (pv 3) (pv 1)) pe_int) (pg_sub (pv 0) pe_int set_list))
    (pss_one (ps_ret (pe_op op_mod (pe_callTy call_int1 (by rfl) T.n_int (by decide +kernel) (pa_cons (pv 3) pa_nil)) (pv 1)))))))))), ?_⟩
  · rintro S ⟨I, J, ins, out⟩ ⟨r, sv, sc, F, w, m, hF, hw, hm, hm2, h0, h1, h2, h3⟩
    dsimp only at h2 ⊢
    subst h2
    rfl
  · rintro S ⟨I, J, ins, out⟩ ⟨r, sv, sc, F, w, m, hF, hw, hm, hm2, h0, h1, h2, h3⟩
    dsimp only at h0
    subst h0
    dsimp only at h1 h2 h3
    subst h1 h2 h3
    have cm : CMul w.seed 48271 := .inl ⟨by have := hw.s0; omega, by have := hw.s1; omega⟩
    refine gs_ifs (gt_val (K := K) (ge_op (ge_op (ge_var rfl) (ge_int (K := K)) (gr_row3 hF)) (ge_int (K := K)) gr_gt)) (fun b1 => ?_) (fun b1 => gs_nextS ?_)
    · have e : taken sc w m = (w.rest % m, ⟨w.pos, w.seed, w.rest / m⟩) := if_pos (of_decide_eq_true b1)
      rw [e]
      exact gs_assoc (gs_seq (gs_set (ge_op (ge_cb (ga_cons (ge_op (ge_var rfl) (ge_int (K := K)) (gr_row3 hF)) ga_nil) gc_int) (ge_var rfl) (gr_I (K := K) (d := .int (w.rest % m)) hm fun H => .int _))) (gs_assoc (gs_seq (gs_row3 hF (ge_op (ge_op (ge_var rfl) (ge_int (K := K)) (gr_row3 hF)) (ge_var rfl) (gr_I (K := K) (d := .int (w.rest / m)) ⟨hm, by omega⟩ fun H => .int _)) (ge_var rfl) ⟨hw.p, hw.s0, hw.s1⟩) (gs_retS (ge_var rfl) fun v H j p => ⟨p, j⟩))))
    have n1 : ¬ 0 < w.rest := of_decide_eq_false b1
    refine gs_seq (gs_row1 hF (ge_op (ge_op (ge_var rfl) (ge_int (K := K)) (gr_row1 hF)) (ge_int (K := K)) gr_add) (ge_var rfl) ⟨by show 0 ≤ w.pos + 1; have := hw.p; omega, hw.s0, hw.s1⟩) ?_
    refine gs_ifs (gt_val (K := K) (ge_op (ge_op (ge_var rfl) (ge_int (K := K)) (gr_row1 hF)) (ge_cb (ga_cons (ge_op (ge_var rfl) (ge_int (K := K)) (gr_row0 hF)) ga_nil) gc_lenScr) gr_gt)) (fun b2 => ?_) (fun b2 => gs_nextS ?_)
    · have e : taken sc w m = (((w.seed * 48271 + 11) % 2147483647 / 7) % m, ⟨w.pos + 1, (w.seed * 48271 + 11) % 2147483647, w.rest⟩) := (if_neg n1).trans (if_pos (of_decide_eq_true b2))
      rw [e]
      exact gs_assoc (gs_seq (gs_row2 hF (ge_op (ge_cb (ga_cons (ge_op (ge_op (ge_op (ge_var rfl) (ge_int (K := K)) (gr_row2 hF)) (ge_int (K := K)) (gr_I (K := K) (d := .int (w.seed * 48271)) cm fun H => .int _)) (ge_int (K := K)) gr_add) ga_nil) gc_int) (ge_int (K := K)) (gr_I (K := K) (d := .int ((w.seed * 48271 + 11) % 2147483647)) (by decide) fun H => .int _)) (ge_var rfl) ⟨by show 0 ≤ w.pos + 1; have := hw.p; omega, Int.emod_nonneg _ (by decide), Int.emod_lt_of_pos _ (by decide)⟩) (gs_retS (ge_op (ge_cb (ga_cons (ge_op (ge_op (ge_var rfl) (ge_int (K := K)) (gr_row2 hF)) (ge_int (K := K)) (gr_I (K := K) (d := .int ((w.seed * 48271 + 11) % 2147483647 / 7)) ⟨by decide, by decide⟩ fun H => .int _)) ga_nil) gc_int) (ge_var rfl) (gr_I (K := K) (d := .int ((w.seed * 48271 + 11) % 2147483647 / 7 % m)) hm fun H => .int _)) fun v H j p => ⟨p, j⟩))
    · have n2 : ¬ (sc.length : Int) < w.pos + 1 := of_decide_eq_false b2
      have hp := hw.p
      have hlt : w.pos.toNat < sc.length := by omega
      have e : taken sc w m = ((sc.getD w.pos.toNat 0) % m, ⟨w.pos + 1, (w.seed * 48271 + sc.getD w.pos.toNat 0 + 11) % 2147483647, if 10 ^ 18 ≤ sc.getD w.pos.toNat 0 then sc.getD w.pos.toNat 0 / m else 0⟩) := (if_neg n1).trans (if_neg n2)
      rw [e]
      have hget : sc[(w.pos + 1 - 1).toNat]? = some (sc.getD w.pos.toNat 0) := by
        rw [Int.add_sub_cancel, List.getElem?_eq_getElem hlt, List.getD_eq_getElem?_getD, List.getElem?_eq_getElem hlt]
        rfl
      generalize sc.getD w.pos.toNat 0 = c at hget ⊢
      refine gs_seq (gs_set (ge_op (ge_op (ge_var rfl) (ge_int (K := K)) (gr_row0 hF)) (ge_op (ge_op (ge_var rfl) (ge_int (K := K)) (gr_row1 hF)) (ge_int (K := K)) gr_sub) (gr_ixScr (by show 0 ≤ w.pos + 1 - 1; omega) hget))) ?_
      refine gs_seq (gs_row2 hF (ge_op (ge_cb (ga_cons (ge_op (ge_op (ge_op (ge_op (ge_var rfl) (ge_int (K := K)) (gr_row2 hF)) (ge_int (K := K)) (gr_I (K := K) (d := .int (w.seed * 48271)) cm fun H => .int _)) (ge_var rfl) gr_add) (ge_int (K := K)) gr_add) ga_nil) gc_int) (ge_int (K := K)) (gr_I (K := K) (d := .int ((w.seed * 48271 + c + 11) % 2147483647)) (by decide) fun H => .int _)) (ge_var rfl) ⟨by show 0 ≤ w.pos + 1; have := hw.p; omega, Int.emod_nonneg _ (by decide), Int.emod_lt_of_pos _ (by decide)⟩) ?_
      refine gs_seq (gs_row3 (n := if 10 ^ 18 ≤ c then c / m else 0) hF (ge_if (gt_val (K := K) (ge_op (ge_var rfl) (ge_op (ge_int (K := K)) (ge_int (K := K)) (gr_I (K := K) (d := .int (10 ^ 18)) ⟨by decide, by decide, by decide⟩ fun H => .int _)) gr_ge)) (fun b3 => ?_) (fun b3 => ?_)) (ge_var rfl) ⟨by show 0 ≤ w.pos + 1; have := hw.p; omega, Int.emod_nonneg _ (by decide), Int.emod_lt_of_pos _ (by decide)⟩) (gs_ret (ge_op (ge_cb (ga_cons (ge_var rfl) ga_nil) gc_int) (ge_var rfl) (gr_I (K := K) (d := .int (c % m)) hm fun H => .int _)) fun v H j p => ⟨p, j⟩)
      · rw [if_pos (of_decide_eq_true b3)]
        exact ge_op (ge_var rfl) (ge_var rfl) (gr_I (K := K) (d := .int (c / m)) ⟨hm, by omega⟩ fun H => .int _)
      · rw [if_neg (of_decide_eq_false b3)]
        exact ge_int (K := K)
    all_goals skip
-- slots: 0=_law_row 1=_law_many 2=_law_found 3=_law_cell  uses: []

end
end Hs
set_option Elab.async false
set_option linter.all false
set_option maxRecDepth 100000
set_option maxHeartbeats 4000000
/-! the row by itself: some number, the row stands -/
namespace Hs
open PySem PySem.Spec PyProof.Rows L2 StX
abbrev SomeInt (K : PySem.W.Frag) (m : Int) : Fm := Exs (fun n : Int => 0 ≤ n ∧ n < m) fun n => Is K (.int n)
def ct_taken (K : PySem.W.Frag) : CTR := fun S k => ∃ r sv sc m, RowI r sv k.I ∧ 0 < m ∧ m < 1000 ∧ k.J = k.I ∧ k.ins = [RowV K r sv sc, Is K (.int m)] ∧ k.out = SomeInt K m
def ct_law_pick (K : PySem.W.Frag) : CTR := fun S k => ∃ r sv sc ds, RowI r sv k.I ∧ 0 < ds.length ∧ ds.length < 1000 ∧ k.J = k.I ∧ k.ins = [RowV K r sv sc, Is K (.list ds)] ∧ k.out = Exs (fun d : PyData => d ∈ ds) fun d => Is K d
section
variable {S : AS} {K : PySem.W.Frag} {I : IV S}
theorem gr_pick {ds : List PyData} : GR S I (rIxL K) (Is K (.list ds)) (SomeInt K ds.length) (Exs (fun d : PyData => d ∈ ds) fun d => Is K d) I := fun x y H hi h1 ⟨n, hn, h2⟩ Q q =>
  gr_ixLD (d := ds[n.toNat]'(by omega)) hn.1 (List.getElem?_eq_getElem (by omega)) x y H hi h1 h2 Q fun v H' l j p => q v H' l j ⟨_, List.getElem_mem _, p⟩
end
section
variable {P : Program} {w : World} {K : PySem.W.Frag} {mg : Str → Option Value} {base : Heap}
theorem ok_taken (T : Tx K mg) : FnR P w K mg base CX0 1 (a_law_taken K) (spC (ct_taken K)) := (ok_law_taken T).imp fun vs H Q E ⟨S, ⟨I, J, ins, out⟩, ⟨r, sv, sc, m, hI, hm, hm2, h1, h2, h3⟩, hi, hins, q⟩ => by
  dsimp only at h1 h2 h3 hi hins q hI
  subst h1 h2 h3
  obtain ⟨w0, hw, hr⟩ := hI.get H hi
  exact ⟨S, ⟨hI.fam w0, hI.fam (taken sc w0 m).2, _, Is K (.int (taken sc w0 m).1)⟩, ⟨r, sv, sc, hI.fam, w0, m, hI.famF, hw, hm, hm2, rfl, rfl, rfl, rfl⟩, ⟨hi, hr⟩, hins, fun v H' x j p => q v H' x j.1 ⟨_, taken_lo hm, p⟩⟩
end
end Hs
set_option Elab.async false
set_option linter.all false
set_option maxRecDepth 100000
set_option maxHeartbeats 4000000
/-! sorted(a list or a tuple of texts) -/
namespace Hs
open PySem PySem.Spec PyProof.Rows L2
section
variable {X : Cx}
def rSortSq (K : PySem.W.Frag) : List V → Hp → VK → Prop := fun xs H Q => ∃ (a : Addr) (l : List Str), xs = [V.ref a] ∧ (SqL K H a (l.map V.str) ∨ SqT K H a (l.map V.str)) ∧ l.length < 64 ∧
  ∀ ys p, ys.Perm l → sortedS ys = true → H p = none → Q (.ref p) (upd H p (.lst (ys.map V.str)))
theorem cr_sortSq (hc : X.calm = true) : CallR X (.builtin "sorted") (rSortSq X.K) := by
  intro pins s σ H xs us Q I r h
  obtain ⟨a, l, rfl, ha, h64, q⟩ := h
  rw [Vals.ref1 r]
  have go : ∀ (T : String) (o : Obj) (its : List Value) (n : Nat), (T = "list" ∨ T = "tuple") → s.heap.get? a = some o → o.cls = .type T → o.data = .seq its.toArray n → Vals (l.map V.str) its → wpAny (model X.prog X.w) X.A (call (.builtin "sorted") [.ref a]) (EP X pins σ Q) X.xe s := fun T o its n hT ho hcl hd rv => by
    have hS : StrsAre its l := by simpa using strsAre_of rv
    have hvl : its.length = l.length := StrsAre.len_eq hS
    refine Calls.call_function_entry kind_sorted plain_sorted entry_sorted (args_sorted1 _) ?_
    unfold Builtin.«sorted»
    refine wpAny_bind (m := checkCount "sorted" 1 1 _) (wpAny_pure ?_)
    refine wpAny_bind (wpAny_collect_seq a hT ho hcl hd (fun h1 k1 => ?_) (by simp; rw [hvl, sizeLine_eq]; omega))
    have e0 : its.toArray.toList = its := by simp
    rw [e0]
    have I1 : Inv X pins σ H { s with heap := h1 } := I.kept (t' := s.toks) k1
    refine wpAny_bind (wpAny_newList ?_ (by rw [hvl, sizeLine_eq]; omega))
    have hoL : (h1.push (seqObj "list" its.toArray 0)).get? h1.objs.size = some (seqObj "list" its.toArray 0) := Heap.get?_push_size _ rfl
    refine wpAny_bind (wpAny_holding (wpAny_call_entry slot_list_sort ⟨_, hoL, rfl⟩ entry_list_sort (list_sort_treeK strKind_oneLt hoL hS.keysOf (fun v₁ v₂ rest e => keyKind_strs (by rw [← e]; exact hS)) (by rw [hvl]; exact h64) fun st' hp hs => ⟨_, rfl, ?_⟩) (args_list_sort _)))
    obtain ⟨ys, g1', g2, g3⟩ := sorted_out_str hS hp hs
    obtain ⟨c, hcc⟩ := sortedHeap_at (vs := its) (out := (arrOf st').map (·.2)) hoL
    have hlen : (ys.map V.str).length ≤ sizeLine := by
      rw [List.length_map, g2.length_eq, sizeLine_eq]; omega
    have kall : ∀ b u, h1.get? b = some u → (sortedHeap (h1.push (seqObj "list" its.toArray 0)) h1.objs.size its ((arrOf st').map (·.2))).get? b = some u := fun b u q => by
      have hlt := Heap.lt_size q
      rw [sortedHeap_old (Nat.ne_of_lt hlt) (by rw [size_push']; exact Nat.lt_succ_of_lt hlt)]
      exact Heap.get?_push_of_some _ q
    exact wpAny_pure ⟨_, rfl, .ref h1.objs.size, upd H h1.objs.size (.lst (ys.map V.str)), I1.laid (t' := s.toks) kall (Nat.le_refl _) (show ObjOk X.prog X.w _ _ _ (.lst (ys.map V.str)) from ⟨hlen, ((arrOf st').map (·.2)).toList, c, vals_of_strs g1', by rw [Array.toArray_toList]; exact hcc⟩), rfl, q ys _ g2 g3 (I1.hok.fresh (Nat.le_refl _))⟩
  rcases ha with ha | ha
  · obtain ⟨its, rv, ⟨o, n, ho, hcl, hdn, hd⟩, _⟩ := I.list ha
    exact go "list" o its n (.inl rfl) ho hcl hd rv
  · obtain ⟨its, rv, ⟨o, ho, hcl, n, hd⟩, _⟩ := I.tuple ha
    exact go "tuple" o its n (.inr rfl) ho hcl hd rv
end
section
variable {S : AS} {K : PySem.W.Frag} {I : IV S} {l : List Str}
theorem gc_sortT (h64 : l.length < 64) (ha : Asc l) : GC S I (rSortSq K) [Is K (.tuple (l.map .str))] (Is K (.list (l.map .str))) I := fun vs H hi h Q q => by
  obtain ⟨v, ws, rfl, h1, rfl⟩ := h
  obtain ⟨a, xs, rfl, h2, h3⟩ := Da.tup_of h1
  obtain rfl := h3.strs_of
  refine ⟨a, l, rfl, .inr h2.sq, h64, fun ys p h5 h6 hp => ?_⟩
  have e : ys = l := asc_eq (asc_of h6 (h5.nodup_iff.mpr ha.nodup)) ha fun k => h5.mem_iff
  subst e
  exact q _ _ (XE.new hp) (I.le (LX.new hp) hi) (.lst (I.fresh hi hp) upd_same DaAll.strs)
end
end Hs
set_option Elab.async false
set_option linter.all false
set_option maxRecDepth 100000
set_option maxHeartbeats 4000000
/-! comprehensions that draw -/
namespace Hs
open PySem PySem.Spec PyProof.Rows L2 StX
inductive All2 {α β : Type} (Q : α → β → Prop) : List α → List β → Prop
  | nil : All2 Q [] []
  | cons {x : α} {d : β} {xs : List α} {ds : List β} : Q x d → All2 Q xs ds → All2 Q (x :: xs) (d :: ds)
theorem All2.len {α β : Type} {Q : α → β → Prop} : ∀ {xs : List α} {ds : List β}, All2 Q xs ds → xs.length = ds.length
  | _, _, .nil => rfl
  | _, _, .cons _ t => congrArg (· + 1) t.len
/-- some of src, in their order, each as it became -/
def Picks {α β : Type} (Q : α → β → Prop) (src : List α) (ds : List β) : Prop := ∃ xs : List α, xs.Sublist src ∧ All2 Q xs ds
section
variable {S : AS} {K : PySem.W.Frag} {Γ Δ : Ctx} {I J L M : IV S} {ta tb tc te td ty : TE} {t : TA} {tt : TT} {φ ψ χ ξ : Fm} {R : VK} {N : L2.St → Hp → Prop}
theorem ins_all2 {α : Type} {Q : α → PyData → Prop} {H : Hp} : ∀ {xs : List α} {ws : List V}, Ins S (xs.map fun x => Exs (Q x) fun d => Is K d) ws H → ∃ ds, All2 Q xs ds ∧ DaAll S K H ws ds
  | [], ws, h => by
    have : ws = [] := h
    subst this
    exact ⟨[], .nil, .nil⟩
  | x :: xs, _, ⟨v, ws, rfl, ⟨d, hd, hv⟩, h⟩ => by
    obtain ⟨ds, h1, h2⟩ := ins_all2 h
    exact ⟨d :: ds, .cons hd h1, .cons hv h2⟩
theorem ge_lcX {α : Type} {wi : TI} {g : TG} {vs : List Nat} (src : List α) (emb : α → Fm) (Q : α → PyData → Prop) (h : GI S Γ I wi (src.map emb) J) (hz : src.length ≤ 1000)
    (hs : ∀ (x : α) (S' : AS) (I' : IV S'), Ext J I' → x ∈ src → ∃ Δ js, (∀ j ∈ js, j ∈ vs) ∧ GG S' (wipeG Γ vs) g (emb x) Δ js ∧ ∃ P, GT S' Δ I' tt P I' ∧ (P true → GE S' Δ I' te (Exs (Q x) fun d => Is K d) I')) :
    GE S Γ I (tLc wi g tt te vs) (Exs (Picks Q src) fun ds => Is K (.list ds)) J := by
  refine (ge_lc (fun i fs => ∃ xs : List α, xs.Sublist (src.take i) ∧ fs = xs.map fun x => Exs (Q x) fun d => Is K d) h ⟨[], List.Sublist.refl _, rfl⟩ (fun i fs hi ⟨xs, h1, e⟩ => ?_) fun i ψ fs S' I' ext hψ ⟨xs, h1, e⟩ => ?_).wk fun v H _ ⟨fs, ⟨xs, h0, e⟩, a, ws, h1, h2, h3, h4⟩ => ?_
  · subst e
    rw [List.length_map]
    refine Nat.le_trans h1.length_le ?_
    rw [List.length_take]
    omega
  · rw [List.getElem?_map] at hψ
    cases hx : src[i]? with
    | none => rw [hx] at hψ; cases hψ
    | some x =>
      rw [hx] at hψ
      cases hψ
      have e1 : src.take (i + 1) = src.take i ++ [x] := by
        have hi : i < src.length := (List.getElem?_eq_some_iff.mp hx).1
        rw [List.take_succ_eq_append_getElem hi, (List.getElem?_eq_some_iff.mp hx).2]
      obtain ⟨Δ, js, k1, k2, P, k3, k4⟩ := hs x S' I' ext (List.mem_of_getElem? hx)
      refine ⟨Δ, js, k1, k2, P, k3, fun _ => ⟨xs, ?_, e⟩, fun hp => ⟨_, k4 hp, xs ++ [x], ?_, ?_⟩⟩
      · rw [e1]
        exact h1.trans (List.sublist_append_left _ _)
      · rw [e1]
        exact h1.append (List.Sublist.refl _)
      · rw [e, List.map_append]
        rfl
  · subst e h1
    rw [List.length_map, List.take_length] at h0
    obtain ⟨ds, k1, k2⟩ := ins_all2 h4
    exact ⟨ds, ⟨xs, h0, k1⟩, .lst h2 h3 k2⟩
theorem gc_exs {α : Type} {P : α → Prop} {φ χ : α → Fm} {rc : List V → Hp → VK → Prop} (h : ∀ a, P a → GC S I rc [φ a] (χ a) J) : GC S I rc [Exs P φ] (Exs P χ) J := fun vs H hi ⟨v, ws, e, ⟨a, ha, p⟩, e2⟩ Q q =>
  h a ha vs H hi ⟨v, ws, e, p, e2⟩ Q fun u H' l j p' => q u H' l j ⟨a, ha, p'⟩
theorem gc_tupleLX {P : List PyData → Prop} : GC S I (fun xs H Q => ∃ p ys, xs = [.ref p] ∧ ((SqL K H p ys ∧ ∀ l, H l = none → Q (.ref l) (upd H l (.tup ys))) ∨ (SqT K H p ys ∧ Q (.ref p) H))) [Exs P fun ds => Is K (.list ds)] (Exs P fun ds => Is K (.tuple ds)) I := gc_exs fun ds _ => gc_tupleL
/-- x == n of some number -/
theorem gr_exL {α : Type} {P : α → Prop} {φ χ : α → Fm} {r : R2} (h : ∀ a, P a → GR S I r (φ a) ψ (χ a) J) : GR S I r (Exs P φ) ψ (Exs P χ) J := fun x y H hi ⟨a, ha, p⟩ p2 Q q => h a ha x y H hi p p2 Q fun u H' l j p' => q u H' l j ⟨a, ha, p'⟩
theorem gt_someEq {m n : Int} (h : GE S Γ I te (SomeInt K m) J) : GT S Γ I (tTest (tOp rEq te (tC (.int n)))) (fun _ => True) J :=
  gt_valX (K := K) ((ge_op h (ge_int (K := K)) (gr_exL (χ := fun i => Is K (.bool (decide (i = n)))) fun i _ => gr_eqI)).wk fun v H _ ⟨i, _, p⟩ => ⟨_, trivial, p⟩)
end
def ct_law_some (K : PySem.W.Frag) : CTR := fun S k => ∃ r sv sc xs, RowI r sv k.I ∧ Asc xs ∧ xs.length < 64 ∧ k.J = k.I ∧ k.ins = [RowV K r sv sc, Is K (strsD xs)] ∧ k.out = Exs (fun ts : List Str => ts.Sublist xs) fun ts => Is K (strsD ts)
theorem picks_self {xs : List Str} {ds : List PyData} (h : Picks (fun x d => d = .str x) xs ds) : ∃ ts : List Str, ts.Sublist xs ∧ ds = ts.map .str := by
  obtain ⟨ts, h1, h2⟩ := h
  refine ⟨ts, h1, ?_⟩
  clear h1
  induction h2 with
  | nil => rfl
  | cons e _ ih => rw [e, ih]; rfl
end Hs
set_option Elab.async false
set_option linter.all false
set_option maxRecDepth 100000
set_option maxHeartbeats 4000000
/-! contracts of the law's helpers on editions as data -/
namespace Hs
open PySem PySem.Spec PyProof.Rows L2 StX
section
variable (K : PySem.W.Frag)
abbrev edsD (es : List Ed) : PyData := .list (es.map edD)
def ct_law_versions : CTR := fun S k => ∃ es n, es.length ≤ 1000 ∧ k.J = k.I ∧ k.ins = [Is K (edsD es), Is K (.str n)] ∧ k.out = Is K (.list ((es.filter fun e => decide (e.nm = n)).map fun e => .int e.ver))
def ct_law_names : CTR := fun S k => ∃ es ns, EsOk es ns ∧ k.J = k.I ∧ k.ins = [Is K (edsD es)] ∧ k.out = Is K (.list (ns.map .str))
def ct_law_edition : CTR := fun S k => ∃ es n v, es.length ≤ 1000 ∧ (∀ e ∈ es, PyData.strOk e.nm = true) ∧ PyData.strOk n = true ∧ (findE es n v).isSome = true ∧ k.J = k.I ∧ k.ins = [Is K (edsD es), Is K (.str n), Is K (.int v)] ∧ k.out = Is K (edD (edAt es n v))
def ct_law_met : CTR := fun S k => ∃ R n l, k.J = k.I ∧ k.ins = [Dct (rowsF K R), Is K (needD (n, l))] ∧ k.out = Is K (.bool (isMet R n l))
def ct_law_there : CTR := fun S k => ∃ R n, k.J = k.I ∧ k.ins = [Dct (rowsF K R), Is K (.str n)] ∧ k.out = Is K (.bool (isThere R n))
def ct_law_least_of : CTR := fun S k => ∃ (wd : Str) (xs : List Str), k.J = k.I ∧ k.ins = [Is K (.str wd), Is K (.list (xs.map .str))] ∧ k.out = NonF xs.isEmpty
end
theorem shaped_si {x : Str} {i : Int} (h : PyData.strOk x = true) : SeqAt.shaped (.tuple [.str x, .int i]) = true := by
  unfold SeqAt.shaped
  simp [PyData.canLay0, PyData.canLayAll0, PyData.depth, PyData.depthAll, h]
theorem eqv_si {x y : Str} {i j : Int} : PyData.eqv (.tuple [.str x, .int i]) (.tuple [.str y, .int j]) = (decide (x = y) && decide (i = j)) := by
  simp only [PyData.eqv, PyData.eqvAll]
  rw [Bool.eq_iff_iff]
  simp
end Hs
set_option Elab.async false
set_option linter.all false
set_option maxRecDepth 100000
set_option maxHeartbeats 4000000
namespace Hs
open PySem PySem.Spec PyProof.Rows L2 StX
section
variable {P : Program} {w : World} {K : PySem.W.Frag} {mg : Str → Option Value} {base : Heap}
abbrev N_is_number : List Str := ["thing", "low", "high"]
theorem sc_is_number : FnScope N_is_number ["thing", "low", "high"] (defScope s_is_number) := ⟨rfl, rfl, rfl, by decide +kernel, rfl, by decide +kernel, by decide +kernel⟩
theorem ok_is_number (T : Tx K mg) : FnR P w K mg base CX0 1 (a_is_number K) (spC (ct_is_number K)) := by
  obtain ⟨fd, F⟩ := T.f_is_number
  have nd := sc_is_number.nd
  refine ok_of (He5.fun_of F) sc_is_number (F.bindsN fun _ _ _ _ _ _ us hl => match us, hl with | [_, _, _], _ => rfl) ?_ fun cdv A outer s H E hr => have hu := hu_of hr; have hu0 := hr.units0; ⟨_, (pss_one (ps_ret (pe_and (pe_callB call_isi (by rfl) T.n_isinstance (by decide +kernel) (pa_cons (pv 0) (pa_cons (pe_bltn (v := .ty "int") rfl T.n_int (by decide +kernel) rfl) pa_nil))) (pe_and (pe_not (pe_callB call_isi (by rfl) T.n_isinstance (by decide +kernel) (pa_cons (pv 0) (pa_cons (pe_bltn (v := .ty "bool") rfl T.n_bool (by decide +kernel) rfl) pa_nil)))) (pe_one (pe_chain op_le op_le (pv 1) (pv 0) (pv 2))))))), ?_⟩
  · rintro S ⟨I, J, ins, out⟩ ⟨n, lo, hi, h1, h2, h3⟩
    dsimp only at h2 ⊢
    subst h2
    rfl
  · rintro S ⟨I, J, ins, out⟩ ⟨n, lo, hi, h1, h2, h3⟩
    dsimp only at h1 h2 h3
    subst h1 h2 h3
    refine (gs_retD (ge_and (ge_cb (ga_cons (ge_var rfl) (ga_cons ge_ty ga_nil)) gc_isiInt) fun _ => (ge_and (ge_not (ge_cb (ga_cons (ge_var rfl) (ga_cons ge_ty ga_nil)) gc_isiBool)) fun _ => (ge_chain (ge_var rfl) (ge_var rfl) gr_le (fun _ => (ge_var rfl)) (fun _ => gr_le)))) rfl ?_)
    all_goals rfl
-- slots: 0=thing 1=low 2=high  uses: []

end
end Hs
set_option Elab.async false
set_option linter.all false
set_option maxRecDepth 100000
set_option maxHeartbeats 4000000
namespace Hs
open PySem PySem.Spec PyProof.Rows L2 StX
section
variable {P : Program} {w : World} {K : PySem.W.Frag} {mg : Str → Option Value} {base : Heap}
abbrev N_is_word : List Str := ["thing", "letter"]
theorem sc_is_word : FnScope N_is_word ["thing"] (defScope s_is_word) := ⟨rfl, rfl, rfl, by decide +kernel, rfl, by decide +kernel, by decide +kernel⟩
theorem ok_is_word (T : Tx K mg) : FnR P w K mg base CX0 1 (a_is_word K) (spC (ct_is_word K)) := by
  obtain ⟨fd, F⟩ := T.f_is_word
  have nd := sc_is_word.nd
  refine ok_of (He5.fun_of F) sc_is_word (F.bindsN fun _ _ _ _ _ _ us hl => match us, hl with | [_], _ => rfl) ?_ fun cdv A outer s H E hr => have hu := hu_of hr; have hu0 := hr.units0; ⟨_, (pss_one (ps_ret (pe_and (pe_chain op_le op_le pe_int (pe_callB call_len_str (by rfl) T.n_len PySem.boot_len (pa_cons (pv 0) pa_nil)) (pe_gi rfl T.i_MOST_LETTERS)) (pe_one (pe_callB (cr_all rfl) (by rfl) T.n_all (by decide +kernel) (pa_cons (pe_lc (own := [("letter", 1)]) (g := gName 1) (tt := tYes) rfl nd (pi_str (pv 0)) (blkOk_by (own := [("letter", 1)]) (N := N_is_word) (sc := defScope s_is_word) (by decide +kernel)) (fun _ _ _ _ _ => pg_name (i := 1) nd rfl (Or.inl rfl)) (fun _ _ _ _ _ => pts_nil) (fun _ _ _ _ _ => (pe_cmpR op_in_sign (pv 1) (pe_gs rfl T.s_LETTERS) (by rfl)))) pa_nil)))))), ?_⟩
  · rintro S ⟨I, J, ins, out⟩ ⟨x, hz, h1, h2, h3⟩
    dsimp only at h2 ⊢
    subst h2
    rfl
  · rintro S ⟨I, J, ins, out⟩ ⟨x, hz, h1, h2, h3⟩
    dsimp only at h1 h2 h3
    subst h1 h2 h3
    have hz' : x.cps.toList.length ≤ 1000 := by rw [Array.length_toList]; exact hz
    refine (gs_retD (ge_and (ge_chain (ge_int (K := K)) (ge_cb (ga_cons (ge_var rfl) ga_nil) (gc_lenS (Nat.le_trans hz (by decide)))) gr_le (fun _ => (ge_int (K := K))) (fun _ => gr_le)) fun _ => (ge_cb (ga_cons (ge_lcB x.cps.toList (fun x => Is K (.str (sgn x))) (fun x => true) (fun x => (decide (x ∈ LETT.cps.toList))) (gi_str (ge_var rfl)) hz' fun x S' I' ext hx => ⟨_, _, (fun _ h => h), gg_name, gt_yes, fun hp => (ge_op (ge_var rfl) (ge_str (K := K)) gr_inSign)⟩) ga_nil) gc_all)) rfl ?_)
    rw [filt_true]; rfl
-- slots: 0=thing 1=letter  uses: []

end
end Hs
set_option Elab.async false
set_option linter.all false
set_option maxRecDepth 100000
set_option maxHeartbeats 4000000
namespace Hs
open PySem PySem.Spec PyProof.Rows L2 StX
section
variable {P : Program} {w : World} {K : PySem.W.Frag} {mg : Str → Option Value} {base : Heap}
abbrev N_is_rising : List Str := ["row"]
theorem sc_is_rising : FnScope N_is_rising ["row"] (defScope s_is_rising) := ⟨rfl, rfl, rfl, by decide +kernel, rfl, by decide +kernel, by decide +kernel⟩
theorem ok_is_rising (T : Tx K mg) : FnR P w K mg base CX0 1 (a_is_rising K) (spC (ct_is_rising K)) := by
  obtain ⟨fd, F⟩ := T.f_is_rising
  have nd := sc_is_rising.nd
  refine ok_of (He5.fun_of F) sc_is_rising (F.bindsN fun _ _ _ _ _ _ us hl => match us, hl with | [_], _ => rfl) ?_ fun cdv A outer s H E hr => have hu := hu_of hr; have hu0 := hr.units0; ⟨_, (pss_one (ps_ret (pe_cmpR (op_eqDK K hr.units) (pe_callTy call_list_of (by rfl) T.n_list (by decide +kernel) (pa_cons (pv 0) pa_nil)) (pe_callB (cr_sortTx rfl) (by rfl) T.n_sorted (by decide +kernel) (pa_cons (pe_callTy (cr_setTx rfl) (by rfl) T.n_set (by decide +kernel) (pa_cons (pv 0) pa_nil)) pa_nil)) (nomark _)))), ?_⟩
  · rintro S ⟨I, J, ins, out⟩ ⟨ts, d, ha, hz, hs, hd, h1, h2, h3⟩
    dsimp only at h2 ⊢
    subst h2
    rfl
  · rintro S ⟨I, J, ins, out⟩ ⟨ts, d, ha, hz, hs, hd, h1, h2, h3⟩
    dsimp only at h1 h2 h3
    subst h1 h2 h3
    have hz' : ts.length ≤ 1000 := by omega
    have sh := shaped_strs hs
    rcases hd with rfl | rfl
    · refine (gs_retD (ge_op (ge_cb (ga_cons (ge_var rfl) ga_nil) gc_listT) (ge_cb (ga_cons (ge_cb (ga_cons (ge_var rfl) ga_nil) (gc_setT hz')) ga_nil) (gc_sortTx hz' ha (by omega) fun x => Iff.rfl)) (gr_eqD sh sh)) rfl ?_)
      rw [PyData.eqv, eqv_strs]
    · refine (gs_retD (ge_op (ge_cb (ga_cons (ge_var rfl) ga_nil) gc_listL) (ge_cb (ga_cons (ge_cb (ga_cons (ge_var rfl) ga_nil) (gc_setL hz')) ga_nil) (gc_sortTx hz' ha (by omega) fun x => Iff.rfl)) (gr_eqD sh sh)) rfl ?_)
      rw [PyData.eqv, eqv_strs]
    all_goals skip
-- slots: 0=row  uses: []

end
end Hs
set_option Elab.async false
set_option linter.all false
set_option maxRecDepth 100000
set_option maxHeartbeats 4000000
namespace Hs
open PySem PySem.Spec PyProof.Rows L2 StX
section
variable {P : Program} {w : World} {K : PySem.W.Frag} {mg : Str → Option Value} {base : Heap}
abbrev N_is_need : List Str := ["one", "name", "other", "least"]
theorem sc_is_need : FnScope N_is_need ["one", "name"] (defScope s_is_need) := ⟨rfl, rfl, rfl, by decide +kernel, rfl, by decide +kernel, by decide +kernel⟩
theorem ok_is_need (T : Tx K mg) : FnR P w K mg base CX0 2 (a_is_need K) (spC (ct_is_need K)) := by
  obtain ⟨fd, F⟩ := T.f_is_need
  have nd := sc_is_need.nd
  refine ok_of (He5.fun_of F) sc_is_need (F.bindsN fun _ _ _ _ _ _ us hl => match us, hl with | [_, _], _ => rfl) ?_ fun cdv A outer s H E hr => have hu := hu_of hr; have hu0 := hr.units0; ⟨_, (pss_cons (ps_asg (pv 0) (pg_tupK K rfl (pgs_cons (pg_name (i := 2) nd rfl (.inl rfl)) (pgs_cons (pg_name (i := 3) nd rfl (.inl rfl)) pgs_nil))))
    (pss_one (ps_ret (pe_and (pe_callR (ok_is_word T) (hr.mono (by decide)) rfl T.g_is_word T.k_is_word pass0 (pa_cons (pv 2) pa_nil)) (pe_and (pe_cmpR op_ne (pv 2) (pv 1) (nomark _)) (pe_one (pe_callR (ok_is_number T) (hr.mono (by decide)) rfl T.g_is_number T.k_is_number pass0 (pa_cons (pv 3) (pa_cons pe_int (pa_cons (pe_gi rfl T.i_MOST_VERSION) pa_nil)))))))))), ?_⟩
  · rintro S ⟨I, J, ins, out⟩ ⟨x, n, v, hx, hz, hn, h1', h2', h1, h2, h3⟩
    dsimp only at h2 ⊢
    subst h2
    rfl
  · rintro S ⟨I, J, ins, out⟩ ⟨x, n, v, hx, hz, hn, h1', h2', h1, h2, h3⟩
    dsimp only at h1 h2 h3
    subst h1 h2 h3
    refine (gs_seq (gs_asg (ge_var rfl) (gg_tupD (gg_cons gg_name (gg_cons gg_name gg_nil)) rfl)) (gs_retD (ge_and (ge_call (ga_cons (ge_var rfl) ga_nil) ⟨_, by assumption, rfl, rfl, rfl⟩) fun _ => (ge_and (ge_op (ge_var rfl) (ge_var rfl) (by first | exact gr_neS | exact gr_neI)) fun _ => (ge_call (ga_cons (ge_var rfl) (ga_cons (ge_int (K := K)) (ga_cons (ge_int (K := K)) ga_nil))) ⟨_, _, _, rfl, rfl, rfl⟩))) rfl ?_))
    show PyData.bool (isWord x && (!decide (x = n) && (decide (1 ≤ v) && decide (v ≤ 99)))) = _
    rw [hx, decide_eq_false hn, decide_eq_true h1', decide_eq_true h2']
    rfl
-- slots: 0=one 1=name 2=other 3=least  uses: ['is_number', 'is_word']

end
end Hs
set_option Elab.async false
set_option linter.all false
set_option maxRecDepth 100000
set_option maxHeartbeats 4000000
namespace Hs
open PySem PySem.Spec PyProof.Rows L2 StX
section
variable {P : Program} {w : World} {K : PySem.W.Frag} {mg : Str → Option Value} {base : Heap}
abbrev N_Edition_init : List Str := ["self", "name", "version", "scripts", "needs", "first", "against", "part", "some", "script", "other", "least", "one"]
theorem sc_Edition_init : FnScope N_Edition_init ["self", "name", "version", "scripts", "needs", "first", "against"] (defScope s_Edition_init) := ⟨rfl, rfl, rfl, by decide +kernel, rfl, by decide +kernel, by decide +kernel⟩
theorem okk_Edition_init (T : Tx K mg) : ∃ fd, FnOk P w K mg base CX0 3 (a_Edition_init K) fd ["self", "name", "version", "scripts", "needs", "first", "against"] (spIn (C_Edition K) (ci_Edition K)) ∧ ∃ (g : List Value → List Value → List Value) (gV : List V → List V → List V), (∀ x vs zs, gV (x :: vs) zs = x :: (vs ++ zs)) ∧ KBn K fd ["self", "name", "version", "scripts", "needs", "first", "against"] 3 ["scripts", "needs", "first", "against"] g gV := by
  obtain ⟨fd, F⟩ := T.f_Edition_init
  have nd := sc_Edition_init.nd
  refine ⟨fd, ok_initD F sc_Edition_init ?_ fun cdv A outer s H E hr => have hu := hu_of hr; have hu0 := hr.units0; ⟨_, (pss_cons (ps_if (pt_not (pt_val (pe_callR (ok_is_word T) (hr.mono (by decide)) rfl T.g_is_word T.k_is_word pass0 (pa_cons (pv 1) pa_nil)))) pss_never pss_nil)
    (pss_cons (ps_if (pt_not (pt_val (pe_callR (ok_is_number T) (hr.mono (by decide)) rfl T.g_is_number T.k_is_number pass0 (pa_cons (pv 2) (pa_cons pe_int (pa_cons (pe_gi rfl T.i_MOST_VERSION) pa_nil)))))) pss_never pss_nil)
    (pss_cons (ps_if (PW.pt (pw_or (pt_not (pt_val (pe_callR (ok_is_rising T) (hr.mono (by decide)) rfl T.g_is_rising T.k_is_rising pass0 (pa_cons (pv 3) pa_nil)))) (pw_or1 (pt_not (pt_val (pe_callB (cr_all rfl) (by rfl) T.n_all (by decide +kernel) (pa_cons (pe_lc (own := [("script", 9)]) (g := gName 9) (tt := tYes) rfl nd (pi_tupK K (pv 3)) (blkOk_by (own := [("script", 9)]) (N := N_Edition_init) (sc := defScope s_Edition_init) (by decide +kernel)) (fun _ _ _ _ _ => pg_name (i := 9) nd rfl (Or.inl rfl)) (fun _ _ _ _ _ => pts_nil) (fun _ _ _ _ _ => (pe_cmpR (op_inK K) (pv 9) (pe_glob (v := .ref _) rfl T.g_SCRIPTS rfl) (by rfl)))) pa_nil))))))) pss_never pss_nil)
    (pss_cons (ps_for PassesOwn.never rfl (pi_tupK K (pe_tup (pa_cons (pe_tup (pa_cons pe_str (pa_cons (pv 4) pa_nil))) (pa_cons (pe_tup (pa_cons pe_str (pa_cons (pv 5) pa_nil))) pa_nil)))) (pg_tupK K rfl (pgs_cons (pg_name (i := 7) nd rfl (.inl rfl)) (pgs_cons (pg_name (i := 8) nd rfl (.inl rfl)) pgs_nil)))
    (pss_one (ps_if (PW.pt (pw_or (pt_not (pt_val (pe_callR (ok_is_rising T) (hr.mono (by decide)) rfl T.g_is_rising T.k_is_rising pass0 (pa_cons (pe_lc (own := [("other", 10), ("least", 11)]) (g := _) (tt := tYes) rfl nd (pi_tupK K (pv 8)) (blkOk_by (own := [("other", 10), ("least", 11)]) (N := N_Edition_init) (sc := defScope s_Edition_init) (by decide +kernel)) (fun _ _ _ _ _ => pg_tupK (n := 2) K rfl (pgs_cons (pg_name (i := 10) nd rfl (Or.inl rfl)) (pgs_cons (pg_name (i := 11) nd rfl (Or.inl rfl)) pgs_nil))) (fun _ _ _ _ _ => pts_nil) (fun _ _ _ _ _ => (pv 10))) pa_nil)))) (pw_or1 (pt_not (pt_val (pe_callB (cr_all rfl) (by rfl) T.n_all (by decide +kernel) (pa_cons (pe_lc (own := [("one", 12)]) (g := gName 12) (tt := tYes) rfl nd (pi_tupK K (pv 8)) (blkOk_by (own := [("one", 12)]) (N := N_Edition_init) (sc := defScope s_Edition_init) (by decide +kernel)) (fun _ _ _ _ _ => pg_name (i := 12) nd rfl (Or.inl rfl)) (fun _ _ _ _ _ => pts_nil) (fun _ _ _ _ _ => (pe_callR (ok_is_need T) (hr.mono (by decide)) rfl T.g_is_need T.k_is_need pass0 (pa_cons (pv 12) (pa_cons (pv 1) pa_nil))))) pa_nil))))))) pss_never pss_nil)))
    (pss_cons (ps_if (PW.pt (pw_or (pt_not (pt_val (pe_callR (ok_is_rising T) (hr.mono (by decide)) rfl T.g_is_rising T.k_is_rising pass0 (pa_cons (pv 6) pa_nil)))) (pw_or1 (pt_not (pt_val (pe_callB (cr_all rfl) (by rfl) T.n_all (by decide +kernel) (pa_cons (pe_lc (own := [("other", 10)]) (g := gName 10) (tt := tYes) rfl nd (pi_tupK K (pv 6)) (blkOk_by (own := [("other", 10)]) (N := N_Edition_init) (sc := defScope s_Edition_init) (by decide +kernel)) (fun _ _ _ _ _ => pg_name (i := 10) nd rfl (Or.inl rfl)) (fun _ _ _ _ _ => pts_nil) (fun _ _ _ _ _ => (pe_and (pe_callR (ok_is_word T) (hr.mono (by decide)) rfl T.g_is_word T.k_is_word pass0 (pa_cons (pv 10) pa_nil)) (pe_one (pe_cmpR op_ne (pv 10) (pv 1) (nomark _)))))) pa_nil))))))) pss_never pss_nil)
    (pss_cons (ps_fld (pv 0) (pv 1) rfl)
    (pss_cons (ps_fld (pv 0) (pv 2) rfl)
    (pss_cons (ps_fld (pv 0) (pv 3) rfl)
    (pss_cons (ps_fld (pv 0) (pv 4) rfl)
    (pss_cons (ps_fld (pv 0) (pv 5) rfl)
    (pss_one (ps_fld (pv 0) (pv 6) rfl)))))))))))), ?_⟩, ?_⟩
  · rintro S I ins outs ⟨e, he, h2, h3⟩
    subst h2
    rfl
  · rintro S I ins outs x dx ⟨e, he, h2, h3⟩ nS
    subst h2 h3
    have z1 : e.has.length ≤ 1000 := by have := he.hasl; omega
    have z2 : e.shuns.length ≤ 1000 := by have := he.shunsl; omega
    have a1 : (e.has.map fun x => decide (x ∈ allScr)).all id = true := all_ok fun x hx => decide_eq_true (he.hasS x hx).1
    have a2 : (e.shuns.map fun x => isWord x && !decide (x = e.nm)).all id = true := all_ok fun x hx => by
      obtain ⟨h1, _, h2, _⟩ := he.shunsS x hx
      rw [h1, decide_eq_false h2]
      rfl
    refine gs_ifs (gt_notB (gt_valB (K := K) (ge_call (ga_cons (ge_var rfl) ga_nil) ⟨_, he.wl, rfl, rfl, rfl⟩))) (fun b1 => gs_never (by rw [he.w] at b1; cases b1)) (fun _ => gs_nextS ?_)
    refine gs_ifs (gt_notB (gt_valB (K := K) (ge_call (ga_cons (ge_var rfl) (ga_cons (ge_int (K := K)) (ga_cons (ge_int (K := K)) ga_nil))) ⟨_, _, _, rfl, rfl, rfl⟩))) (fun b1 => gs_never (by rw [decide_eq_true he.lo, decide_eq_true he.hi] at b1; cases b1)) (fun _ => gs_nextS ?_)
    refine gs_ifs (gt_or (gt_notB (gt_valB (K := K) (ge_call (ga_cons (ge_var rfl) ga_nil) ⟨e.has, _, he.has, he.hasl, fun x hx => (he.hasS x hx).2, .inl rfl, rfl, rfl, rfl⟩))) fun _ => gt_notB (gt_valB (K := K) (ge_cb (ga_cons (ge_lcB1 e.has (fun x => Is K (.str x)) (fun x => decide (x ∈ allScr)) (gi_tupM (ge_var rfl)) z1 fun x S' I' ext hx => ⟨_, _, (fun _ h => h), gg_name, gt_yes, fun _ => ge_op (ge_var rfl) (ge_kt T.v_SCRIPTS fun _ => da4) gr_inS⟩) ga_nil) gc_all))) (fun b1 => gs_never (by rw [a1] at b1; cases b1)) (fun _ => gs_nextS ?_)
    refine gs_forS (fun _ : Unit => [some (Eqv (.ref x)), some (Is K (.str e.nm)), some (Is K (.int e.ver)), some (Is K (strsD e.has)), some (Is K (needsD e.wants)), some (Is K (needsD e.asks)), some (Is K (strsD e.shuns)), none, none, none, none, none, none]) (fun _ => I.obj x (C_Edition K) dx []) (fun _ _ => True) ()
      (gi_tup (ge_tup (K := K) (ga_cons (ge_tup (K := K) (ga_cons (ge_str (K := K)) (ga_cons (ge_var rfl) ga_nil)) (by show 2 ≤ 1000; decide)) (ga_cons (ge_tup (K := K) (ga_cons (ge_str (K := K)) (ga_cons (ge_var rfl) ga_nil)) (by show 2 ≤ 1000; decide)) ga_nil)) (by show 2 ≤ 1000; decide))) trivial
      (.s (.s (.s (.s (.s (.s (.s (.s (.s (.s (.s (.s (.s .nil))))))))))))) (fun _ h => h) (fun i ψ b hψ _ => ?_) fun _ _ => ?_
    · obtain ⟨p, ns, hn, e2⟩ : ∃ (p : Str) (ns : List (Str × Int)), NeedsOk e.nm ns ∧ ψ = Tup K [Is K (.str p), Is K (needsD ns)] := by
        match i, hψ with
        | 0, hψ => cases hψ; exact ⟨_, _, he.wants, rfl⟩
        | 1, hψ => cases hψ; exact ⟨_, _, he.asks, rfl⟩
      subst e2
      have z3 : ns.length ≤ 1000 := by have := hn.few; omega
      have a3 : (ns.map fun _ => true).all id = true := all_ok fun x hx => rfl
      refine ⟨_, _, gg_tup (gg_cons gg_name (gg_cons gg_name gg_nil)) rfl, gs_if (gt_or (gt_notB (gt_valB (K := K) (ge_call (ga_cons (ge_lcS1 ns (fun p => Is K (needD p)) Prod.fst (gi_tupM (ge_var rfl)) z3 fun x S' I' ext hx => ⟨_, _, (fun j h => by simp at h; simp [h]), gg_tupD (gg_cons gg_name (gg_cons gg_name gg_nil)) rfl, gt_yes, fun _ => ge_var rfl⟩) ga_nil) ⟨ns.map Prod.fst, _, hn.asc, by rw [List.length_map]; exact hn.few, fun x hx => ?_, .inr rfl, rfl, rfl, rfl⟩))) fun _ => gt_notB (gt_valB (K := K) (ge_cb (ga_cons (ge_lcB1 ns (fun p => Is K (needD p)) (fun _ => true) (gi_tupM (ge_var rfl)) z3 fun x S' I' ext hx => ⟨_, _, (fun _ h => h), gg_name, gt_yes, fun _ => ge_call (ga_cons (ge_var rfl) (ga_cons (ge_var rfl) ga_nil)) ?_⟩) ga_nil) gc_all))) (fun b1 => gs_never (by rw [a3] at b1; cases b1)) (fun _ => gs_turn () gs_next trivial (.s (.s (.s (.s (.s (.s (.s (.n (.n (.s (.s (.s (.s .nil))))))))))))) fun _ h => h)⟩
      · obtain ⟨q, hq, e3⟩ := List.mem_map.mp hx
        rw [← e3]
        exact (hn.ok q hq).2.2.2.2.2
      · obtain ⟨h1, h2, h3, h4, h5, _⟩ := hn.ok x hx
        exact ⟨x.1, e.nm, x.2, h1, h2, h3, h4, h5, rfl, rfl, rfl⟩
    refine gs_ifs (gt_or (gt_notB (gt_valB (K := K) (ge_call (ga_cons (ge_var rfl) ga_nil) ⟨e.shuns, _, he.shuns, he.shunsl, fun x hx => (he.shunsS x hx).2.2.2, .inl rfl, rfl, rfl, rfl⟩))) fun _ => gt_notB (gt_valB (K := K) (ge_cb (ga_cons (ge_lcB1 e.shuns (fun x => Is K (.str x)) (fun x => isWord x && !decide (x = e.nm)) (gi_tupM (ge_var rfl)) z2 fun x S' I' ext hx => ⟨_, _, (fun _ h => h), gg_name, gt_yes, fun _ => ge_and (ge_call (ga_cons (ge_var rfl) ga_nil) ⟨_, (he.shunsS x hx).2.1, rfl, rfl, rfl⟩) fun _ => ge_op (ge_var rfl) (ge_var rfl) gr_neS⟩) ga_nil) gc_all))) (fun b1 => gs_never (by rw [a2] at b1; cases b1)) (fun _ => gs_nextS ?_)
    refine gs_seq (gs_fld (ge_var rfl) (ge_var rfl) T.c_Edition T.na_Edition_label (hn_of [] rfl rfl) (by decide)) ?_
    refine gs_seq (gs_fld (ge_var rfl) (ge_var rfl) T.c_Edition T.na_Edition_number (hn_of ["label"] rfl (by decide +kernel)) (by show 1 ≤ 20; decide)) ?_
    refine gs_seq (gs_fld (ge_var rfl) (ge_var rfl) T.c_Edition T.na_Edition_has (hn_of ["label", "number"] rfl (by decide +kernel)) (by show 2 ≤ 20; decide)) ?_
    refine gs_seq (gs_fld (ge_var rfl) (ge_var rfl) T.c_Edition T.na_Edition_wants (hn_of ["label", "number", "has"] rfl (by decide +kernel)) (by show 3 ≤ 20; decide)) ?_
    refine gs_seq (gs_fld (ge_var rfl) (ge_var rfl) T.c_Edition T.na_Edition_asks (hn_of ["label", "number", "has", "wants"] rfl (by decide +kernel)) (by show 4 ≤ 20; decide)) ?_
    exact (gs_fld (ge_var rfl) (ge_var rfl) T.c_Edition T.na_Edition_shuns (hn_of ["label", "number", "has", "wants", "asks"] rfl (by decide +kernel)) (by show 5 ≤ 20; decide)).wk fun σ H ⟨_, j⟩ => j
  · obtain ⟨mv, hb⟩ := F.kbinds0 (ps := ["self", "name", "version", "scripts", "needs", "first", "against"]) 3 ["scripts", "needs", "first", "against"] [] (fun us mv ws => us ++ ws) (fun h => nomatch h) (fun q h => nomatch h) (fun r1 _ r3 => r1.append r3) fun D doc pm an cdv ct us mv ws l1 l2 l3 => match us, ws, l1, l3 with | [_, _, _], [_, _, _, _], _, _ => rfl
    exact ⟨_, _, fun x vs zs => rfl, hb⟩
-- slots: 0=self 1=name 2=version 3=scripts 4=needs 5=first 6=against 7=part 8=some 9=script 10=other 11=least 12=one  uses: ['is_word', 'is_number', 'is_rising', 'is_need']

end
end Hs
set_option Elab.async false
set_option linter.all false
set_option maxRecDepth 100000
set_option maxHeartbeats 4000000
namespace Hs
open PySem PySem.Spec PyProof.Rows L2 StX
section
variable {P : Program} {w : World} {K : PySem.W.Frag} {mg : Str → Option Value} {base : Heap}
abbrev N_Store_init : List Str := ["self", "editions", "index", "edition", "key", "names", "is_full", "name", "version"]
theorem sc_Store_init : FnScope N_Store_init ["self", "editions"] (defScope s_Store_init) := ⟨rfl, rfl, rfl, by decide +kernel, rfl, by decide +kernel, by decide +kernel⟩
theorem ok_Store_init (T : Tx K mg) : FnR P w K mg base CX0 1 (a_Store_init K) (spIn (C_Store K) (ci_Store K)) := by
  obtain ⟨fd, F⟩ := T.f_Store_init
  have nd := sc_Store_init.nd
  refine ok_init (He5.fun_of F) sc_Store_init (F.bindsN fun _ _ _ _ _ _ us hl => match us, hl with | [_, _], _ => rfl) ?_ fun cdv A outer s H E hr => have hu := hu_of hr; have hu0 := hr.units0; ⟨_, (pss_cons (ps_fld (pv 0) pe_dnewT rfl)
    (pss_cons (ps_for PassesOwn.never rfl (pi_enumT (by rfl) T.n_enumerate (pa_cons (pv 1) pa_nil)) (pg_tupK K rfl (pgs_cons (pg_name (i := 2) nd rfl (.inl rfl)) (pgs_cons (pg_name (i := 3) nd rfl (.inl rfl)) pgs_nil)))
    (pss_cons (ps_set (i := 4) nd rfl (.inl rfl) (pe_tup (pa_cons (pe_fldK K (pv 3) rfl) (pa_cons (pe_fldK K (pv 3) rfl) pa_nil))))
    (pss_cons (ps_set (i := 5) nd rfl (.inl rfl) (pe_callTy (cr_setTx rfl) (by rfl) T.n_set (by decide +kernel) (pa_cons (pe_or2 (pe_lock (pe_lc (own := [("name", 7), ("version", 8)]) (g := _) (tt := tYes) rfl nd (pi_keys (pe_fldK K (pv 0) rfl)) (blkOk_by (own := [("name", 7), ("version", 8)]) (N := N_Store_init) (sc := defScope s_Store_init) (by decide +kernel)) (fun _ _ _ _ _ => pg_tupK (n := 2) K rfl (pgs_cons (pg_name (i := 7) nd rfl (Or.inl rfl)) (pgs_cons (pg_name (i := 8) nd rfl (Or.inl rfl)) pgs_nil))) (fun _ _ _ _ _ => pts_nil) (fun _ _ _ _ _ => (pv 7)))) (pe_lc (own := [("name", 7), ("version", 8)]) (g := _) (tt := tYes) rfl nd (pi_keys (pe_fldK K (pv 0) rfl)) (blkOk_by (own := [("name", 7), ("version", 8)]) (N := N_Store_init) (sc := defScope s_Store_init) (by decide +kernel)) (fun _ _ _ _ _ => pg_tupK (n := 2) K rfl (pgs_cons (pg_name (i := 7) nd rfl (Or.inl rfl)) (pgs_cons (pg_name (i := 8) nd rfl (Or.inl rfl)) pgs_nil))) (fun _ _ _ _ _ => pts_nil) (fun _ _ _ _ _ => (pv 7)))) pa_nil)))
    (pss_cons (ps_set (i := 6) nd rfl (.inl rfl) (pe_and (pe_cmpR op_txNotIn (pe_fldK K (pv 3) rfl) (pv 5) (by rfl)) (pe_one (pe_cmpR op_eq (pe_callB cr_lenTx (by rfl) T.n_len PySem.boot_len (pa_cons (pv 5) pa_nil)) (pe_gi rfl T.i_MOST_NAMES) (nomark _)))))
    (pss_cons (ps_if (PW.pt (pw_or (pt_cmpR op_eq (pv 2) (pe_gi rfl T.i_MOST_EDITIONS) (nomark _)) (pw_or (pt_cmp (pc_din hu (pv 4) (pe_fldK K (pv 0) rfl))) (pw_or1 (pt_val (pv 6)))))) pss_never pss_nil)
    (pss_one (ps_dput hu (pe_fldK K (pv 0) rfl) (pv 4) (pv 3) rfl)))))))
    (pss_one (ps_if (pt_cmpR (op_eqT hu) (pe_fldK K (pv 0) rfl) pe_dnewT (nomark _)) pss_never pss_nil)))), ?_⟩
  · rintro S I ins outs ⟨es, ns, he, h2, h3⟩
    subst h2
    rfl
  · rintro S I ins outs x dx ⟨es, ns, he, h2, h3⟩ nS
    subst h2 h3
    have hz1 : es.length ≤ 1000 := Nat.le_trans he.le (by decide)
    refine gs_known (j := 0) rfl T.c_Store T.na_Store_known fun d nd => ?_
    have hxd : x ≠ d := fun z => nd (.inr z.symm)
    have nS' : ¬ S d := fun z => nd (.inl z)
    refine gs_forS (fun _ : List Ed => [some (Eqv (.ref x)), some (Tup K (es.map (Edn K))), none, none, none, none, none, none, none]) (fun b => I.kn "known" x (C_Store K) dx d (knownF K b)) (fun i b => b = es.take i) [] (gi_enumT (ga_cons (ge_var rfl) ga_nil)) rfl (.s (.s (.s (.s (.s (.s (.s (.s (.s .nil))))))))) (fun _ h => h) (fun i ψ b hψ hb => ?_) fun b hb => ?_
    · rw [List.getElem?_zipWith, List.length_map] at hψ
      cases hx : es[i]? with
      | none => rw [List.getElem?_map, hx] at hψ; cases h9 : (List.range es.length)[i]? <;> rw [h9] at hψ <;> cases hψ
      | some e =>
        have hi : i < es.length := (List.getElem?_eq_some_iff.mp hx).1
        rw [List.getElem?_map, hx, List.getElem?_range hi] at hψ
        cases hψ
        have hbl : b.length = i := by rw [hb, List.length_take]; omega
        have hbm : ∀ q ∈ b, q ∈ es := fun q hq => List.mem_of_mem_take (by rw [← hb]; exact hq)
        have hz2 : b.length ≤ 1000 := by omega
        have hz3 : (b.map fun q => q.nm).length ≤ 1000 := by rw [List.length_map]; exact hz2
        have e1 : es.take (i + 1) = b ++ [e] := by
          rw [List.take_succ_eq_append_getElem hi, (List.getElem?_eq_some_iff.mp hx).2, hb]
        have hnk : ¬ ([.inr e.nm, .inl e.ver] : List Key) ∈ (knownF K b).map Prod.fst := by
          rw [List.map_map]
          intro z
          obtain ⟨q, hq, e2⟩ := List.mem_map.mp z
          have h1 : q.nm = e.nm ∧ q.ver = e.ver := by
            have e2 : ([.inr q.nm, .inl q.ver] : List Key) = [.inr e.nm, .inl e.ver] := e2
            injection e2 with e3 e4
            injection e4 with e4 _
            exact ⟨Sum.inr.inj e3, Sum.inl.inj e4⟩
          have h2 : ((b ++ [e]).map fun e => (e.nm, e.ver)).Nodup := by
            rw [← e1, List.map_take]
            exact he.nd.sublist (List.take_sublist _ _)
          rw [List.map_append, List.nodup_append] at h2
          exact h2.2.2 (q.nm, q.ver) (List.mem_map_of_mem hq) (e.nm, e.ver) (List.mem_singleton.mpr rfl) (by rw [h1.1, h1.2])
        obtain ⟨l0, u1, u2⟩ := uniq_ex (b.map fun q => q.nm)
        have hn4 : ¬ ((l0.length : Nat) : Int) = 4 := by
          have := nodup_le (T := ns) u1 fun y hy => by
            obtain ⟨q, hq, e2⟩ := List.mem_map.mp ((u2 y).mp hy)
            rw [← e2]
            exact he.mem q (hbm q hq)
          have := he.few
          omega
        refine ⟨_, _, gg_tup (gg_cons gg_name (gg_cons gg_name gg_nil)) rfl, ?_⟩
        refine gs_seq (gs_set (ge_tupK2 (K := K) (ga_cons (ge_fld (ge_var rfl) T.c_Edition T.na_Edition_label rfl) (ga_cons (ge_fld (ge_var rfl) T.c_Edition T.na_Edition_number rfl) ga_nil)))) ?_
        refine gs_seq (gs_set (ge_cb (ga_cons (ge_knDown (K := K) (j := 0) hxd nS nS' rfl fun I' => ge_lcKS1 (K := K) b (fun e => KeyT [.inr e.nm, .inl e.ver]) (fun e => e.nm) (dsrc_fldTA (rows := knownF K b) (sa := x) (fs := [("known", DctT (knownF K b))]) rfl T.c_Store T.na_Store_known rfl) okT_le dit_known hz2 fun e S' I' ext _ => ⟨_, _, (fun j h => by simp at h; simp [h]), gg_keyT (gg_cons gg_name (gg_cons gg_name gg_nil)) rfl, gt_yes, fun _ => ge_var rfl⟩) ga_nil) (gc_setL hz3))) ?_
        refine gs_seq (gs_set (ge_and (K := K) (ge_op (ge_fld (ge_var rfl) T.c_Edition T.na_Edition_label rfl) (ge_var rfl) (gr_txNotIn hz3)) fun _ => ge_op (ge_cb (ga_cons (ge_var rfl) ga_nil) (gc_lenTx hz3 fun l h1 h2 => (perm_both h2 u1 fun x => (h1 x).trans (u2 x).symm).length_eq)) (ge_int (K := K)) gr_eqI)) ?_
        refine gs_seq (gs_if (gt_or (gt_val (K := K) (ge_op (ge_var rfl) (ge_int (K := K)) gr_eqI)) fun _ => gt_or (gt_valB (K := K) (ge_knIn (ge_var rfl) (ge_knF rfl T.c_Store T.na_Store_known))) fun _ => gt_valB (K := K) (ge_var rfl)) (fun b1 => gs_never ?_) (fun _ => gs_next)) (gs_turn (es.take (i + 1)) (gs_knPut hxd (ge_var rfl) (ge_knF rfl T.c_Store T.na_Store_known) (ge_var rfl) hnk (by rw [List.length_map]; have := he.le; omega)) rfl (.s (.s (.n (.n (.n (.n (.n (.s (.s .nil))))))))) fun H h => ?_)
        · have h1 : lk (knownF K b) [.inr e.nm, .inl e.ver] = none := by
            cases z : lk (knownF K b) ([.inr e.nm, .inl e.ver] : List Key) with
            | none => rfl
            | some φ => exact absurd (lk_isSome.mp (by rw [z]; rfl)) hnk
          have h2 : ¬ ((i : Nat) : Int) = 12 := by have := he.le; omega
          rw [h1, decide_eq_false h2, decide_eq_false hn4, Bool.and_false] at b1
          cases b1
        · rw [e1]
          show (I.kn "known" x (C_Store K) dx d (List.map _ (b ++ [e]))).p H
          rw [List.map_append]
          exact h
    · have hb2 : b = es := by
        rw [hb, List.length_zipWith, List.length_map, List.length_range, Nat.min_self, List.take_length]
      rw [hb2]
      have hne : knownF K es ≠ [] := fun z => by
        have h1 : es.length = 0 := by
          have := congrArg List.length z
          rwa [List.length_map] at this
        have h2 := he.pos
        omega
      refine (gs_if (gt_val (K := K) (ge_knEq (ge_knF rfl T.c_Store T.na_Store_known) hne)) (fun b1 => gs_never (by cases b1)) (fun _ => gs_next)).wk fun σ H ⟨_, j⟩ => kn_out nd j
-- slots: 0=self 1=editions 2=index 3=edition 4=key 5=names 6=is_full 7=name 8=version  uses: []

end
end Hs
set_option Elab.async false
set_option linter.all false
set_option maxRecDepth 100000
set_option maxHeartbeats 4000000
/-! a list made, then handed on -/
namespace Hs
open PySem PySem.Spec PyProof.Rows L2 StX
section
variable {S : AS} {K : PySem.W.Frag} {Γ Δ : Ctx} {I : IV S} {te : TE} {φ : Fm} {fs fs' : List Fm} {N : L2.St → Hp → Prop} {p : Addr}
theorem gc_tupleAcc : GC (SU S p) (I.acc p fs) (fun xs H Q => ∃ p ys, xs = [.ref p] ∧ ((SqL K H p ys ∧ ∀ l, H l = none → Q (.ref l) (upd H l (.tup ys))) ∨ (SqT K H p ys ∧ Q (.ref p) H))) [Eqv (.ref p)] (Tup K fs) (I.acc p fs) := fun vs H hi h Q q => by
  obtain ⟨v, ws, rfl, h1, rfl⟩ := h
  obtain rfl : v = .ref p := h1
  obtain ⟨g, xs, h2, h3⟩ := id hi
  exact ⟨p, xs, rfl, .inl ⟨SqL.of h2, fun l hl => q _ _ (XE.new hl) ((I.acc p fs).le (LX.new hl) hi) ⟨l, xs, rfl, .inl ⟨(I.acc p fs).fresh hi hl, upd_same⟩, h3.xe (XE.new hl)⟩⟩⟩
theorem gs_retA {w : L2.St → Hp → Prop} {k : Ctr S} (h : GE (SU S p) Γ (I.acc p fs) te φ (I.acc p fs')) (hk : k.J = I) (ho : ∀ v H, φ.p S v H → k.out.p S v H) : GS (SU S p) Γ (I.acc p fs) (tRet te) (Rk k) w :=
  gs_ret h fun v H hj hp => ⟨ho v H (φ.lift (fun a z => .inl (.inl z)) hp), by rw [hk]; exact acc_wk hj⟩
end
def ct_law_store (K : PySem.W.Frag) : CTR := fun S k => ∃ es ns, EsOk es ns ∧ (∀ e ∈ es, EdOk e) ∧ k.J = k.I ∧ k.ins = [Is K (edsD es)] ∧ k.out = Exs (fun _ : Addr => True) fun sa => Sto K sa es
end Hs
set_option Elab.async false
set_option linter.all false
set_option maxRecDepth 100000
set_option maxHeartbeats 4000000
/-! states drawn -/
namespace Hs
open PySem PySem.Spec PyProof.Rows L2 StX
def ct_law_state (K : PySem.W.Frag) : CTR := fun S k => ∃ r sv sc es n, RowI r sv k.I ∧ es.length ≤ 100 ∧ (∃ e ∈ es, e.nm = n) ∧ k.J = k.I ∧ k.ins = [RowV K r sv sc, Is K (edsD es), Is K (.str n)] ∧ k.out = Exs (fun s : S3 => isState es n s = true) fun s => Is K (stD s)
end Hs
set_option Elab.async false
set_option linter.all false
set_option maxRecDepth 100000
set_option maxHeartbeats 4000000
/-! dict(pairs) -/
namespace Hs
open PySem PySem.Spec PyProof.Rows L2 StX
theorem mergeK_app : ∀ (kvs acc : List (Key × V)), ((acc ++ kvs).map Prod.fst).Nodup → mergeK acc kvs = acc ++ kvs
  | [], acc, _ => by rw [List.append_nil]; rfl
  | q :: r, acc, h => by
    have h1 : ¬ q.1 ∈ acc.map Prod.fst := by
      rw [List.map_append, List.nodup_append] at h
      exact fun z => h.2.2 q.1 z q.1 List.mem_cons_self rfl
    show mergeK (putK acc q.1 q.2) r = _
    rw [putK_new h1]
    have e : acc ++ q :: r = (acc ++ [(q.1, q.2)]) ++ r := by rw [List.append_assoc]; rfl
    rw [e] at h ⊢
    exact mergeK_app r _ h
section
variable {S : AS} {K : PySem.W.Frag} {I : IV S}
abbrev pairD (r : Str × S3) : PyData := .tuple [.str r.1, stD r.2]
theorem pairs_of {H : Hp} : ∀ {R : Rows} {xs : List V}, DaAll S K H xs (R.map pairD) → ∃ (ps : List Addr) (kvs : List (Key × V)), xs = ps.map V.ref ∧ Paired (fun p kv => SqT K H p [kV kv.1, kv.2]) ps kvs ∧ kvs.map Prod.fst = (rowsF K R).map Prod.fst ∧ Ins S ((rowsF K R).map Prod.snd) (kvs.map Prod.snd) H
  | [], _, .nil => ⟨[], [], rfl, .nil, rfl, rfl⟩
  | r :: R, _, .cons h t => by
    obtain ⟨ps, kvs, rfl, h2, h3, h4⟩ := pairs_of t
    obtain ⟨a, ys, rfl, h5, h6⟩ := Da.tup_of h
    cases h6 with
    | cons k1 k2 =>
      cases k2 with
      | cons k3 k4 =>
        cases k4
        cases k1
        rename_i v
        exact ⟨a :: ps, (.inr r.1, v) :: kvs, rfl, .cons h5.sq h2, by rw [List.map_cons, h3]; rfl, v, _, rfl, k3, h4⟩
theorem gc_dictP {R : Rows} (nd : (R.map Prod.fst).Nodup) : GC S I (fun xs H Q => ∃ (a : Addr) (ps : List Addr) (kvs : List (Key × V)), xs = [.ref a] ∧ SqL K H a (ps.map V.ref) ∧ Paired (fun p kv => SqT K H p [kV kv.1, kv.2]) ps kvs ∧
    ∀ p, H p = none → Q (.ref p) (upd H p (.dK (mergeK [] kvs)))) [Is K (.list (R.map pairD))] (Dct (rowsF K R)) I := fun vs H hi h Q q => by
  obtain ⟨v, ws, rfl, h1, rfl⟩ := h
  obtain ⟨a, xs, rfl, hs, h2, h3⟩ := Da.lst_of h1
  obtain ⟨ps, kvs, rfl, h4, h5, h6⟩ := pairs_of h3
  refine ⟨a, ps, kvs, rfl, SqL.of h2, h4, fun p hp => ?_⟩
  have e : mergeK [] kvs = kvs := mergeK_app kvs [] (by
    rw [List.nil_append, h5, List.map_map]
    have e2 : (List.map (Prod.fst ∘ fun r : Str × S3 => ((Sum.inr r.1 : Key), Is K (stD r.2))) R) = (R.map Prod.fst).map Sum.inr := by rw [List.map_map]; rfl
    rw [e2]
    exact List.Pairwise.map _ (fun a b h z => h (Sum.inr.inj z)) nd)
  rw [e]
  exact q _ _ (XE.new hp) (I.le (LX.new hp) hi) ⟨p, kvs, rfl, I.fresh hi hp, .inl upd_same, h5, h6.xe (XE.new hp)⟩
end
def ct_law_states (K : PySem.W.Frag) : CTR := fun S k => ∃ r sv sc es ns, RowI r sv k.I ∧ EsOk es ns ∧ k.J = k.I ∧ k.ins = [RowV K r sv sc, Is K (edsD es)] ∧ k.out = Exs (fun R : Rows => RowsOk es ns R) fun R => Dct (rowsF K R)
/-- every one, none left out -/
theorem ge_lcAll {S : AS} {K : PySem.W.Frag} {Γ : Ctx} {I J : IV S} {te : TE} {α : Type} {wi : TI} {g : TG} {vs : List Nat} (src : List α) (emb : α → Fm) (Q : α → PyData → Prop) (h : GI S Γ I wi (src.map emb) J) (hz : src.length ≤ 1000)
    (hs : ∀ (x : α) (S' : AS) (I' : IV S'), Ext J I' → x ∈ src → ∃ Δ js, (∀ j ∈ js, j ∈ vs) ∧ GG S' (wipeG Γ vs) g (emb x) Δ js ∧ GE S' Δ I' te (Exs (Q x) fun d => Is K d) I') :
    GE S Γ I (tLc wi g tYes te vs) (Exs (All2 Q src) fun ds => Is K (.list ds)) J := by
  refine (ge_lc (fun i fs => fs = (src.take i).map fun x => Exs (Q x) fun d => Is K d) h rfl (fun i fs hi e => ?_) fun i ψ fs S' I' ext hψ e => ?_).wk fun v H _ ⟨fs, e, a, ws, h1, h2, h3, h4⟩ => ?_
  · subst e
    rw [List.length_map, List.length_take]
    omega
  · rw [List.getElem?_map] at hψ
    cases hx : src[i]? with
    | none => rw [hx] at hψ; cases hψ
    | some x =>
      rw [hx] at hψ
      cases hψ
      have e1 : src.take (i + 1) = src.take i ++ [x] := by
        have hi : i < src.length := (List.getElem?_eq_some_iff.mp hx).1
        rw [List.take_succ_eq_append_getElem hi, (List.getElem?_eq_some_iff.mp hx).2]
      obtain ⟨Δ, js, k1, k2, k4⟩ := hs x S' I' ext (List.mem_of_getElem? hx)
      refine ⟨Δ, js, k1, k2, (fun c => true = c), gt_yes, (fun z => nomatch z), fun _ => ⟨_, k4, ?_⟩⟩
      rw [e, e1, List.map_append]
      rfl
  · subst e h1
    rw [List.length_map, List.take_length] at h4
    obtain ⟨ds, k1, k2⟩ := ins_all2 h4
    exact ⟨ds, k1, .lst h2 h3 k2⟩
end Hs
set_option Elab.async false
set_option linter.all false
set_option maxRecDepth 100000
set_option maxHeartbeats 4000000
namespace Hs
open PySem PySem.Spec PyProof.Rows L2 StX
section
variable {P : Program} {w : World} {K : PySem.W.Frag} {mg : Str → Option Value} {base : Heap}
abbrev N_law_edition : List Str := ["_law_some_here", "_law_name", "_law_version", "_law_one"]
theorem sc_law_edition : FnScope N_law_edition ["_law_some_here", "_law_name", "_law_version"] (defScope s_law_edition) := ⟨rfl, rfl, rfl, by decide +kernel, rfl, by decide +kernel, by decide +kernel⟩
theorem ok_law_edition (T : Tx K mg) : FnR P w K mg base CX0 1 (a_law_edition K) (spC (ct_law_edition K)) := by
  obtain ⟨fd, F⟩ := T.f_law_edition
  have nd := sc_law_edition.nd
  refine ok_of (He5.fun_of F) sc_law_edition (F.bindsN fun _ _ _ _ _ _ us hl => match us, hl with | [_, _, _], _ => rfl) ?_ fun cdv A outer s H E hr => have hu := hu_of hr; have hu0 := hr.units0; ⟨_, (pss_one (ps_ret (pe_ix (ix_listK K) (pe_lc (own := [("_law_one", 3)]) (g := gName 3) (tt := _) rfl nd (pi_listK K (pv 0)) (blkOk_by (own := [("_law_one", 3)]) (N := N_law_edition) (sc := defScope s_law_edition) (by decide +kernel)) (fun _ _ _ _ _ => pg_name (i := 3) nd rfl (Or.inl rfl)) (fun _ _ _ _ _ => pts_one (pt_cmpR (op_eqDK K hr.units) (pe_slice (sl_tupAK K) (pv 3) po_none (po_some pe_int)) (pe_tup (pa_cons (pv 1) (pa_cons (pv 2) pa_nil))) (nomark _))) (fun _ _ _ _ _ => (pv 3))) pe_int (fun _ _ => rfl)))), ?_⟩
  · rintro S ⟨I, J, ins, out⟩ ⟨es, n, v, hz, hs, hn, hf, h1, h2, h3⟩
    dsimp only at h2 ⊢
    subst h2
    rfl
  · rintro S ⟨I, J, ins, out⟩ ⟨es, n, v, hz, hs, hn, hf, h1, h2, h3⟩
    dsimp only at h1 h2 h3
    subst h1 h2 h3
    refine gs_retF (ge_op (ge_lcD (K := K) es (fun e => Is K (edD e)) (fun e => decide (e.nm = n) && decide (e.ver = v)) edD (gi_listM (ge_var rfl)) hz fun e S' I' ext he => ⟨_, _, (fun _ h => h), gg_name, ?_, fun _ => ge_var rfl⟩) (ge_int (K := K)) (gr_ixLD (by decide) ?_))
    · rw [← eqv_si]
      exact gt_val (K := K) (ge_op (ge_slD (ge_var rfl) po_n po_i) (ge_tupD (ga_cons (ge_var rfl) (ga_cons (ge_var rfl) ga_nil)) (.cons (.cons .nil)) (by show 2 ≤ 1000; decide)) (gr_eqD (shaped_si (hs e he)) (shaped_si hn)))
    · show ((es.filter _).map edD)[0]? = _
      rw [List.getElem?_map, ← List.head?_eq_getElem?, List.head?_filter]
      unfold edAt findE at *
      cases z : es.find? (fun e => decide (e.nm = n) && decide (e.ver = v)) with
      | none => rw [z] at hf; cases hf
      | some e => rfl
    all_goals skip
-- slots: 0=_law_some_here 1=_law_name 2=_law_version 3=_law_one  uses: []

end
end Hs
set_option Elab.async false
set_option linter.all false
set_option maxRecDepth 100000
set_option maxHeartbeats 4000000
namespace Hs
open PySem PySem.Spec PyProof.Rows L2 StX
section
variable {P : Program} {w : World} {K : PySem.W.Frag} {mg : Str → Option Value} {base : Heap}
abbrev N_law_there : List Str := ["_law_states_here", "_law_name"]
theorem sc_law_there : FnScope N_law_there ["_law_states_here", "_law_name"] (defScope s_law_there) := ⟨rfl, rfl, rfl, by decide +kernel, rfl, by decide +kernel, by decide +kernel⟩
theorem ok_law_there (T : Tx K mg) : FnR P w K mg base CX0 1 (a_law_there K) (spC (ct_law_there K)) := by
  obtain ⟨fd, F⟩ := T.f_law_there
  have nd := sc_law_there.nd
  refine ok_of (He5.fun_of F) sc_law_there (F.bindsN fun _ _ _ _ _ _ us hl => match us, hl with | [_, _], _ => rfl) ?_ fun cdv A outer s H E hr => have hu := hu_of hr; have hu0 := hr.units0; ⟨_, (pss_one (ps_ret (pe_and (pe_cmp (pc_din hu (pv 1) (pv 0))) (pe_one (pe_cmpR (op_inK K) (pe_ix (ix_tupK K) (pe_dget hu (pv 0) (pv 1) (fun _ _ => rfl)) pe_int (fun _ _ => rfl)) (pe_tup (pa_cons pe_str (pa_cons pe_str (pa_cons pe_str (pa_cons pe_str pa_nil))))) (by rfl)))))), ?_⟩
  · rintro S ⟨I, J, ins, out⟩ ⟨R, n, h1, h2, h3⟩
    dsimp only at h2 ⊢
    subst h2
    rfl
  · rintro S ⟨I, J, ins, out⟩ ⟨R, n, h1, h2, h3⟩
    dsimp only at h1 h2 h3
    subst h1 h2 h3
    refine (gs_retD (ge_and (ge_rin (ge_var rfl) (ge_var rfl)) fun _ => (ge_op (ge_op (ge_rget (ge_var rfl) (ge_var rfl) (by assumption)) (ge_int (K := K)) (gr_ixD (by decide) rfl)) (ge_tupS4 (ga_cons (ge_str (K := K)) (ga_cons (ge_str (K := K)) (ga_cons (ge_str (K := K)) (ga_cons (ge_str (K := K)) ga_nil))))) gr_inS)) rfl ?_)
    all_goals rfl
-- slots: 0=_law_states_here 1=_law_name  uses: []

end
end Hs
set_option Elab.async false
set_option linter.all false
set_option maxRecDepth 100000
set_option maxHeartbeats 4000000
namespace Hs
open PySem PySem.Spec PyProof.Rows L2 StX
section
variable {P : Program} {w : World} {K : PySem.W.Frag} {mg : Str → Option Value} {base : Heap}
abbrev N_law_met : List Str := ["_law_states_here", "_law_need"]
theorem sc_law_met : FnScope N_law_met ["_law_states_here", "_law_need"] (defScope s_law_met) := ⟨rfl, rfl, rfl, by decide +kernel, rfl, by decide +kernel, by decide +kernel⟩
theorem ok_law_met (T : Tx K mg) : FnR P w K mg base CX0 1 (a_law_met K) (spC (ct_law_met K)) := by
  obtain ⟨fd, F⟩ := T.f_law_met
  have nd := sc_law_met.nd
  refine ok_of (He5.fun_of F) sc_law_met (F.bindsN fun _ _ _ _ _ _ us hl => match us, hl with | [_, _], _ => rfl) ?_ fun cdv A outer s H E hr => have hu := hu_of hr; have hu0 := hr.units0; ⟨_, (pss_one (ps_ret (pe_and (pe_cmp (pc_din hu (pe_ix (ix_tupK K) (pv 1) pe_int (fun _ _ => rfl)) (pv 0))) (pe_and (pe_cmpR op_eq (pe_ix (ix_tupK K) (pe_dget hu (pv 0) (pe_ix (ix_tupK K) (pv 1) pe_int (fun _ _ => rfl)) (fun _ _ => rfl)) pe_int (fun _ _ => rfl)) pe_str (nomark _)) (pe_one (pe_cmpR op_ge (pe_ix (ix_tupK K) (pe_dget hu (pv 0) (pe_ix (ix_tupK K) (pv 1) pe_int (fun _ _ => rfl)) (fun _ _ => rfl)) pe_int (fun _ _ => rfl)) (pe_ix (ix_tupK K) (pv 1) pe_int (fun _ _ => rfl)) (nomark _))))))), ?_⟩
  · rintro S ⟨I, J, ins, out⟩ ⟨R, n, l, h1, h2, h3⟩
    dsimp only at h2 ⊢
    subst h2
    rfl
  · rintro S ⟨I, J, ins, out⟩ ⟨R, n, l, h1, h2, h3⟩
    dsimp only at h1 h2 h3
    subst h1 h2 h3
    refine (gs_retD (ge_and (ge_rin (ge_op (ge_var rfl) (ge_int (K := K)) (gr_ixD (by decide) rfl)) (ge_var rfl)) fun _ => (ge_and (ge_op (ge_op (ge_rget (ge_var rfl) (ge_op (ge_var rfl) (ge_int (K := K)) (gr_ixD (by decide) rfl)) (by assumption)) (ge_int (K := K)) (gr_ixD (by decide) rfl)) (ge_str (K := K)) (by first | exact gr_eqS | exact gr_eqI)) fun _ => (ge_op (ge_op (ge_rget (ge_var rfl) (ge_op (ge_var rfl) (ge_int (K := K)) (gr_ixD (by decide) rfl)) (by assumption)) (ge_int (K := K)) (gr_ixD (by decide) rfl)) (ge_op (ge_var rfl) (ge_int (K := K)) (gr_ixD (by decide) rfl)) gr_ge))) rfl ?_)
    all_goals rfl
-- slots: 0=_law_states_here 1=_law_need  uses: []

end
end Hs
set_option Elab.async false
set_option linter.all false
set_option maxRecDepth 100000
set_option maxHeartbeats 4000000
namespace Hs
open PySem PySem.Spec PyProof.Rows L2 StX
section
variable {P : Program} {w : World} {K : PySem.W.Frag} {mg : Str → Option Value} {base : Heap}
abbrev N_law_least_of : List Str := ["_law_word", "_law_names_here"]
theorem sc_law_least_of : FnScope N_law_least_of ["_law_word", "_law_names_here"] (defScope s_law_least_of) := ⟨rfl, rfl, rfl, by decide +kernel, rfl, by decide +kernel, by decide +kernel⟩
theorem ok_law_least_of (T : Tx K mg) : FnR P w K mg base CX0 1 (a_law_least_of K) (spC (ct_law_least_of K)) := by
  obtain ⟨fd, F⟩ := T.f_law_least_of
  have nd := sc_law_least_of.nd
  refine ok_of (He5.fun_of F) sc_law_least_of (F.bindsN fun _ _ _ _ _ _ us hl => match us, hl with | [_, _], _ => rfl) ?_ fun cdv A outer s H E hr => have hu := hu_of hr; have hu0 := hr.units0; ⟨_, (pss_one (ps_ret (pe_ifExp (pt_cmpR (op_neE hu0) (pv 1) (pe_lst pa_nil) (nomark _)) (pe_tup (pa_cons (pv 0) (pa_cons (pe_callB (cr_minS rfl) (by rfl) T.n_min (by decide +kernel) (pa_cons (pv 1) pa_nil)) pa_nil))) pe_non))), ?_⟩
  · rintro S ⟨I, J, ins, out⟩ ⟨wd, xs, h1, h2, h3⟩
    dsimp only at h2 ⊢
    subst h2
    rfl
  · rintro S ⟨I, J, ins, out⟩ ⟨wd, xs, h1, h2, h3⟩
    dsimp only at h1 h2 h3
    subst h1 h2 h3
    refine gs_retIf (gt_val (K := K) (ge_op (ge_var rfl) (ge_lstD (K := K) ga_nil .nil (by show 0 ≤ 1000; decide)) gr_neED)) (fun b1 => ?_) (fun b1 => gs_retNon (ge_non (K := K)) rfl (non_non ?_))
    · refine gs_ret (ge_tup (K := K) (ga_cons (ge_var rfl) (ga_cons (ge_cb (ga_cons (ge_var rfl) ga_nil) (gc_minS (emp_posM b1))) ga_nil)) (by show 2 ≤ 1000; decide)) fun v H j p => ⟨?_, j⟩
      rw [emp_map] at b1
      have e : xs.isEmpty = false := by cases h : xs.isEmpty <;> rw [h] at b1 <;> first | rfl | cases b1
      show decide (v = .non) = xs.isEmpty
      rw [e]
      obtain ⟨a, ys, rfl, _⟩ := p
      rfl
    · rw [emp_map] at b1
      cases h : xs.isEmpty <;> rw [h] at b1 <;> first | rfl | cases b1
    all_goals skip
-- slots: 0=_law_word 1=_law_names_here  uses: []

end
end Hs
set_option Elab.async false
set_option linter.all false
set_option maxRecDepth 100000
set_option maxHeartbeats 4000000
/-! who stands against an edition -/
namespace Hs
open PySem PySem.Spec PyProof.Rows L2 StX
section
variable {S : AS} {K : PySem.W.Frag} {I : IV S} {es : List Ed} {ns : List Str} {R : Rows}
theorem gc_sortedNs (he : EsOk es ns) (hr : RowsOk es ns R) : GC S I (fun xs H Q => ∃ (a : Addr) (kvs : List (Key × V)) (ks : List Str), xs = [.ref a] ∧ Rd H a (.dK kvs) ∧ kvs.map (·.1) = ks.map Sum.inr ∧ ks.length < 64 ∧
    ∀ ys p, ys.Perm ks → sortedS ys = true → H p = none → Q (.ref p) (upd H p (.lst (ys.map V.str)))) [Dct (rowsF K R)] (Is K (.list (ns.map .str))) I := fun vs H hi h Q q =>
  gc_sortedD (K := K) (ks := ns) (by rw [← hr.keys, List.map_map, List.map_map]; rfl) (Nat.lt_of_le_of_lt he.few (by decide)) vs H hi h Q fun v H' l j ⟨ys, ⟨h1, h2⟩, p⟩ => by
    have e : ys = ns := asc_eq (asc_of h2 (h1.nodup_iff.mpr he.asc.nodup)) he.asc fun k => h1.mem_iff
    subst e
    exact q v H' l j p
end
section
variable (K : PySem.W.Frag)
def ct_law_hostile : CTR := fun S k => ∃ es ns R e, EsOk es ns ∧ RowsOk es ns R ∧ (∀ n ∈ ns, PyData.strOk n = true) ∧ k.J = k.I ∧ k.ins = [Is K (edsD es), Dct (rowsF K R), Is K (edD e)] ∧ k.out = Is K (.list ((ns.filter fun n => hostAt es R e n).map .str))
end
end Hs
set_option Elab.async false
set_option linter.all false
set_option maxRecDepth 100000
set_option maxHeartbeats 4000000
/-! sorted(deeds): the same deeds in some order -/
namespace Hs
open PySem PySem.Spec PyProof.Rows L2 Srt
section
variable {prog : Program} {w : World} {A : Around} {s : Shared}
/-- a deed as a value: two texts, or two texts and an int -/
def IsDeed (h : Heap) (v : Value) : Prop := ∃ (a : Addr) (o : Obj) (n : Nat) (x y : Str) (t u : Tok) (z : List Value), v = .ref a ∧ h.get? a = some o ∧ o.cls = .type "tuple" ∧ o.data = .seq (Value.str x t :: Value.str y u :: z).toArray n ∧ (z = [] ∨ ∃ i k, z = [Value.int i k])
theorem IsDeed.keeps {h h' : Heap} {v : Value} (p : IsDeed h v) (k : ∀ b o, h.get? b = some o → o.cls = .type "tuple" → h'.get? b = some o) : IsDeed h' v := by
  obtain ⟨a, o, n, x, y, t, u, z, e, ho, hc, hd, hz⟩ := p
  exact ⟨a, o, n, x, y, t, u, z, e, k _ _ ho hc, hc, hd, hz⟩
theorem kat_ex {b fin : Bool} : ∀ (l : List (Value × Value)) (i : Nat), (∀ j p q, l[j]? = some (p, q) → (∃ e, SeqAt.EqAt A s p q e) ∧ ∃ c, ∀ Q : Bool → Shared → Prop, Q c s → wpAny (model prog w) A (oneLt' (b && (i + j) == 0) p q) Q (fun _ _ => False) s) →
    ∃ r : Bool, PySem.W.KatLex prog w A b fin (fun r' s' => s' = s ∧ r' = r) l i s
  | [], i, _ => ⟨fin, PySem.W.kat_nil ⟨rfl, rfl⟩⟩
  | (p, q) :: l, i, h => by
    obtain ⟨⟨e, he⟩, c, hc⟩ := h 0 p q rfl
    cases e with
    | false => exact ⟨c, PySem.W.kat_cons (he prog w _ _ (PySem.W.kat_no (hc _ ⟨rfl, rfl⟩)))⟩
    | true =>
      obtain ⟨r, hr⟩ := kat_ex l (i + 1) fun j p q e => by
        have := h (j + 1) p q e
        rwa [show i + 1 + j = i + (j + 1) by omega]
      exact ⟨r, PySem.W.kat_cons (he prog w _ _ (PySem.W.kat_yes hr))⟩
theorem deed_tot {vs : List Value} (hp : ∀ v ∈ vs, IsDeed s.heap v) : Tot prog w A s (tuples' true) (fun p => p.1 ∈ vs) := by
  intro p q hm hm'
  obtain ⟨a, o, n, x, y, t, u, z, e, ho, hc, hd, hz⟩ := hp _ hm
  obtain ⟨a', o', n', x', y', t', u', z', e', ho', hc', hd', hz'⟩ := hp _ hm'
  rw [e, e']
  have key : ∀ fin, ∃ r, PySem.W.KatLex prog w A true fin (fun r' s' => s' = s ∧ r' = r) ((Value.str x t :: Value.str y u :: z).zip (Value.str x' t' :: Value.str y' u' :: z')) 0 s := fun fin => kat_ex _ 0 fun j p q e => by
    match j, e with
    | 0, e =>
      cases e
      exact ⟨⟨_, SeqAt.EqAt.str_str _ _ _ _⟩, _, fun Q h => oneLt_str h⟩
    | 1, e =>
      cases e
      exact ⟨⟨_, SeqAt.EqAt.str_str _ _ _ _⟩, _, fun Q h => PySem.W.kat_one _ _ (lt_str h)⟩
    | j + 2, e =>
      have e : (z.zip z')[j]? = some (p, q) := e
      rcases hz with rfl | ⟨i, k, rfl⟩
      · simp at e
      · rcases hz' with rfl | ⟨i', k', rfl⟩
        · simp at e
        · match j, e with
          | 0, e =>
            cases e
            exact ⟨⟨_, SeqAt.EqAt.int_int _ _ _ _⟩, _, fun Q h => PySem.W.kat_one _ _ (PyProof.Rows.lt_int h)⟩
          | j + 1, e => simp at e
  obtain ⟨r, hr⟩ := key (decide ((Value.str x t :: Value.str y u :: z).toArray.size < (Value.str x' t' :: Value.str y' u' :: z').toArray.size))
  exact ⟨r, PySem.W.kat_lt ho hd ho' hd' hr⟩
theorem deed_firsts {h : Heap} : ∀ {vs : List Value}, (∀ v ∈ vs, IsDeed h v) → ∃ fs : List Value, PySem.W.KatTups h vs fs ∧ fs.length = vs.length ∧ ∀ f ∈ fs, ∃ x t, f = Value.str x t
  | [], _ => ⟨[], PySem.W.KatTups.nil, rfl, fun _ hm => by simp at hm⟩
  | v :: vs, hp => by
    obtain ⟨fs, h1, h2, h3⟩ := deed_firsts (vs := vs) fun v' hm => hp v' (List.mem_cons_of_mem _ hm)
    obtain ⟨a, o, n, x, y, t, u, z, e, ho, hc, hd, hz⟩ := hp v (List.mem_cons_self ..)
    subst e
    refine ⟨.str x t :: fs, PySem.W.KatTups.cons ho hc hd rfl h1, by rw [List.length_cons, List.length_cons, h2], fun f hm => ?_⟩
    rcases List.mem_cons.mp hm with rfl | hm
    · exact ⟨x, t, rfl⟩
    · exact h3 f hm
theorem deeds_sortable {a : Addr} {vs : List Value} (h0 : 0 < vs.length) (hp : ∀ v ∈ vs, IsDeed s.heap v) (ha : ∀ o, s.heap.get? a = some o → o.cls ≠ .type "tuple") : Sortable prog w A s a vs := by
  intro h' keep
  have hp' : ∀ v ∈ vs, IsDeed h' v := fun v hm => (hp v hm).keeps fun b o e c => keep b o (fun z => by subst z; exact ha o e c) e
  obtain ⟨fs, h1, h2, h3⟩ := deed_firsts hp'
  refine ⟨tuples' true, fun Q E hq => ?_, deed_tot hp'⟩
  refine PySem.W.kat_kind (T := .type "str") h1 (by omega) (fun f hm => ?_) (by rfl) ?_
  · obtain ⟨x, t, rfl⟩ := h3 f hm
    exact PySem.W.Looks.now
  · have e : (Value.type "str" != Value.type "tuple") = true := by first | decide +kernel | rfl | decide
    rw [e]
    exact hq
theorem sorted_deeds {E : Value → Shared → Prop} {l : Addr} {vs : List Value} {Q : Value → Shared → Prop} (hl : s.heap.IsList l vs.toArray) (hz : vs.length ≤ sizeLine) (hp : ∀ v ∈ vs, IsDeed s.heap v)
    (h : ∀ (h' : Heap) (d : Addr) (out : List Value), out.Perm vs → (∀ b o, s.heap.get? b = some o → h'.get? b = some o) → s.heap.objs.size ≤ d → (∃ n, h'.get? d = some (seqObj "list" out.toArray n)) → Q (.ref d) { s with heap := h' }) :
    wpAny (model prog w) A (call (.builtin "sorted") [.ref l]) Q E s := by
  refine sorted_any hl hz (fun h2 h₁ a ha k => ?_) fun out ho => ?_
  · refine deeds_sortable (s := { s with heap := h₁ }) (by omega) (fun v hm => ?_) fun o e => ?_
    · exact (hp v hm).keeps fun b o e _ => (k b o e).2
    · have e' : some o = some (seqObj "list" vs.toArray 0) := e.symm.trans ha
      cases e'
      intro c
      exact absurd (Value.type.inj c) (by decide)
  · exact h _ _ out ho (fun b o e => sortedAll_old e) (Nat.le_succ _) (sortedAll_at s.heap vs out.toArray)
end
section
variable {X : Cx}
def rSortD (K : PySem.W.Frag) : List V → Hp → VK → Prop := fun vs H Q => ∃ a xs, vs = [V.ref a] ∧ SqL K H a xs ∧ (∀ x ∈ xs, ∃ t a b z, x = V.ref t ∧ SqT K H t (.str a :: .str b :: z) ∧ (z = [] ∨ ∃ i, z = [V.int i])) ∧
  ∀ ys p, ys.Perm xs → H p = none → Q (.ref p) (upd H p (.lst ys))
theorem cr_sortD : CallR X (.builtin "sorted") (rSortD X.K) := by
  intro pins s σ H vs us Q I r h
  obtain ⟨a, xs, rfl, hs, hx, q⟩ := h
  obtain ⟨its, rv, hl, hz⟩ := I.list hs
  obtain ⟨u, rfl, ru⟩ := vals1 r
  obtain rfl : u = Value.ref a := ru
  obtain ⟨e1, e2⟩ := refs_back rv fun x m => by
    obtain ⟨t, _, _, _, e, _⟩ := hx x m
    exact ⟨t, e⟩
  refine sorted_deeds hl.isList (by rw [← rv.length]; exact hz) (fun v hv => ?_) fun h' d out hp k hd hn => ?_
  · obtain ⟨t, rfl⟩ := e2 v hv
    have hm : V.ref t ∈ xs := by rw [e1]; exact List.mem_map.mpr ⟨_, hv, rfl⟩
    obtain ⟨t', a, b, z, e, ht, hz⟩ := hx _ hm
    cases e
    obtain ⟨its2, r2, ⟨o, ho, hc, n, hd⟩, _⟩ := I.tuple ht
    cases r2 with
    | cons ra r3 =>
      cases r3 with
      | cons rb r4 =>
        obtain ⟨t1, rfl⟩ := ra
        obtain ⟨t2, rfl⟩ := rb
        refine ⟨t, o, n, a, b, t1, t2, _, rfl, ho, hc, hd, ?_⟩
        rcases hz with rfl | ⟨i, rfl⟩
        · cases r4
          exact .inl rfl
        · cases r4 with
          | cons ri r5 =>
            cases r5
            obtain ⟨k, rfl⟩ := ri
            exact .inr ⟨i, k, rfl⟩
  · have h3 : ∀ u ∈ out, ∃ a, u = Value.ref a := fun u hu => e2 u (hp.mem_iff.mp hu)
    obtain ⟨n, hn⟩ := hn
    refine ⟨.ref d, upd H d (.lst (out.map backV)), I.laid (t' := s.toks) k hd ⟨?_, out, n, vals_back h3, hn⟩, rfl, q _ d ?_ (I.hok.fresh hd)⟩
    · rw [List.length_map, hp.length_eq, ← rv.length]; exact hz
    · rw [e1]; exact hp.map backV
theorem cr_sortDK (K : PySem.W.Frag) (h : X.K = K := by rfl) : CallR X (.builtin "sorted") (rSortD K) := h ▸ cr_sortD
end
section
variable {S : AS} {K : PySem.W.Frag} {I : IV S}
theorem da_perm {H : Hp} {xs ys : List V} (hp : ys.Perm xs) : ∀ {ds : List Deed}, DaAll S K H xs (ds.map Deed.d) → ∃ ds' : List Deed, ds'.Perm ds ∧ DaAll S K H ys (ds'.map Deed.d) := by
  induction hp with
  | nil => exact fun {ds} h => ⟨ds, .refl _, h⟩
  | cons x _ ih =>
    intro ds h
    cases ds with
    | nil => cases h
    | cons d ds =>
      cases h with
      | cons h1 h2 =>
        obtain ⟨ds', h3, h4⟩ := ih h2
        exact ⟨d :: ds', h3.cons _, .cons h1 h4⟩
  | swap x y l =>
    intro ds h
    cases ds with
    | nil => cases h
    | cons d ds =>
      cases h with
      | cons h1 h2 =>
        cases ds with
        | nil => cases h2
        | cons d2 ds =>
          cases h2 with
          | cons h2 h3 => exact ⟨d2 :: d :: ds, .swap _ _ _, .cons h2 (.cons h1 h3)⟩
  | trans _ _ ih1 ih2 =>
    intro ds h
    obtain ⟨ds1, h1, h2⟩ := ih2 h
    obtain ⟨ds2, h3, h4⟩ := ih1 h2
    exact ⟨ds2, h3.trans h1, h4⟩
theorem da_deed {H : Hp} {v : V} {d : Deed} (h : Da S K H v d.d) : ∃ t a b z, v = V.ref t ∧ SqT K H t (.str a :: .str b :: z) ∧ (z = [] ∨ ∃ i, z = [V.int i]) := by
  cases d with
  | unpack n i =>
    obtain ⟨a, xs, rfl, h1, h2⟩ := Da.tup_of h
    cases h2 with
    | cons k1 h2 =>
      cases h2 with
      | cons k2 h2 =>
        cases h2 with
        | cons k3 h2 =>
          cases h2
          obtain rfl := Da.str_of k1
          obtain rfl := Da.str_of k2
          obtain rfl := Da.int_of k3
          exact ⟨a, _, _, _, rfl, h1.sq, .inr ⟨_, rfl⟩⟩
  | _ =>
    obtain ⟨a, xs, rfl, h1, h2⟩ := Da.tup_of h
    cases h2 with
    | cons k1 h2 =>
      cases h2 with
      | cons k2 h2 =>
        cases h2
        obtain rfl := Da.str_of k1
        obtain rfl := Da.str_of k2
        exact ⟨a, _, _, _, rfl, h1.sq, .inl rfl⟩
theorem gc_sortD {ds : List Deed} : GC S I (rSortD K) [Is K (.list (ds.map Deed.d))] (Exs (fun ds' : List Deed => ds'.Perm ds) fun ds' => Is K (.list (ds'.map Deed.d))) I := fun vs H hi h Q q => by
  obtain ⟨v, ws, rfl, h1, rfl⟩ := h
  obtain ⟨a, xs, rfl, hs, h2, h3⟩ := Da.lst_of h1
  refine ⟨a, xs, rfl, SqL.of h2, fun x hx => ?_, fun ys p hp hn => ?_⟩
  · obtain ⟨d, hd, hv⟩ := h3.mem hx
    obtain ⟨d, _, rfl⟩ := List.mem_map.mp hd
    exact da_deed hv
  · obtain ⟨ds', k1, k2⟩ := da_perm hp h3
    exact q _ _ (XE.new hn) (I.le (LX.new hn) hi) ⟨ds', k1, .lst (I.fresh hi hn) upd_same (k2.le (LE.new hn))⟩
end
end Hs
set_option Elab.async false
set_option linter.all false
set_option maxRecDepth 100000
set_option maxHeartbeats 4000000
/-! why a deed cannot begin; all deeds -/
namespace Hs
open PySem PySem.Spec PyProof.Rows L2 StX
section
variable {S : AS} {K : PySem.W.Frag} {Γ Δ : Ctx} {I J L M : IV S} {φ ψ ψ1 ψ2 ψ3 χ ξ : Fm} {te tl : TE} {tt : TT}
/-- {n1: .., n2: .., n3: ..}, the keys texts -/
theorem ge_disp3 {y1 x1 y2 x2 y3 x3 : TE} {n1 n2 n3 : Str} (h12 : ¬ n1 = n2) (h13 : ¬ n1 = n3) (h23 : ¬ n2 = n3)
    (k1 : ∀ (S' : AS) (J : IV S'), GE S' Γ J y1 (Is K (.str n1)) J) (v1 : ∀ (S' : AS) (J : IV S'), GE S' Γ J x1 ψ1 J)
    (k2 : ∀ (S' : AS) (J : IV S'), GE S' Γ J y2 (Is K (.str n2)) J) (v2 : ∀ (S' : AS) (J : IV S'), GE S' Γ J x2 ψ2 J)
    (k3 : ∀ (S' : AS) (J : IV S'), GE S' Γ J y3 (Is K (.str n3)) J) (v3 : ∀ (S' : AS) (J : IV S'), GE S' Γ J x3 ψ3 J) : GE S Γ I (tDisp [(y1, x1), (y2, x2), (y3, x3)]) (Dct [(.inr n1, ψ1), (.inr n2, ψ2), (.inr n3, ψ3)]) I := fun σ H e hi Q q p hp => by
  have nS : ¬ S p := I.fresh hi hp
  have e0 : Env (SU S p) Γ σ (upd H p (.dK [])) := (Env.lift (fun a z => z.elim .inl fun z => .inr (by rw [z]; exact hp)) e).xe (XE.new hp)
  have j0 : (I.dk p []).p (upd H p (.dK [])) := ⟨fun kvs => by rw [upd_upd]; exact I.le (LX.new hp) hi, [], upd_same, rfl, rfl⟩
  have back : ∀ {H'} {o : HO}, XE (SU S p) (upd H p (.dK [])) H' → XE S H (upd H' p o) := fun {H'} {o} x a u hs ha => by
    have : a ≠ p := ne_of_none ha hp
    rw [upd_ne this]
    exact x a u (fun z => z.elim hs this) (by rw [upd_ne this]; exact ha)
  refine k1 _ (I.dk p []) σ _ e0 j0 _ fun u1 H1 l1 j1 q1 => v1 _ (I.dk p []) σ H1 (e0.xe l1) j1 _ fun w1 H2 l2 j2 r1 => ?_
  refine k2 _ (I.dk p []) σ H2 (e0.xe (l1.trans l2)) j2 _ fun u2 H3 l3 j3 q2 => v2 _ (I.dk p []) σ H3 (e0.xe ((l1.trans l2).trans l3)) j3 _ fun w2 H4 l4 j4 r2 => ?_
  refine k3 _ (I.dk p []) σ H4 (e0.xe (((l1.trans l2).trans l3).trans l4)) j4 _ fun u3 H5 l5 j5 q3 => v3 _ (I.dk p []) σ H5 (e0.xe ((((l1.trans l2).trans l3).trans l4).trans l5)) j5 _ fun w3 H6 l6 j6 r3 => ?_
  obtain ⟨k, kvs, h2, h3, h4⟩ := j6
  have : kvs = [] := by cases kvs with
    | nil => rfl
    | cons a b => cases h3
  subst this
  refine ⟨h2, [(Sum.inr n1, w1), (Sum.inr n2, w2), (Sum.inr n3, w3)], ?_, by show 3 ≤ 15; decide, ?_⟩
  · rw [Da.str_of q1, Da.str_of q2, Da.str_of q3]
    rfl
  · have em : mergeK [] [(Sum.inr n1, w1), (Sum.inr n2, w2), (Sum.inr n3, w3)] = [((Sum.inr n1 : Key), w1), (Sum.inr n2, w2), (Sum.inr n3, w3)] := mergeK_app _ [] (by
      simp only [List.nil_append, List.map_cons, List.map_nil, List.nodup_cons, List.mem_cons, List.not_mem_nil, or_false, not_or, Sum.inr.injEq, not_false_eq_true, List.nodup_nil, and_true, true_and]
      exact ⟨⟨h12, h13⟩, h23⟩)
    rw [em]
    have l7 : XE (SU S p) H6 (upd H6 p (.dK [((Sum.inr n1 : Key), w1), (Sum.inr n2, w2), (Sum.inr n3, w3)])) := XE.mut (.inr rfl)
    have dn : ∀ a, S a → SU S p a ∨ (upd H6 p (.dK [((Sum.inr n1 : Key), w1), (Sum.inr n2, w2), (Sum.inr n3, w3)])) a = none := fun a z => .inl (.inl z)
    exact q _ _ (back (((((l1.trans l2).trans l3).trans l4).trans l5).trans l6)) (k _) ⟨p, _, rfl, nS, .inl upd_same, rfl, _, _, rfl, ψ1.lift dn (ψ1.xe ((((l3.trans l4).trans l5).trans l6).trans l7) r1), _, _, rfl, ψ2.lift dn (ψ2.xe ((l5.trans l6).trans l7) r2), _, _, rfl, ψ3.lift dn (ψ3.xe l7 r3), rfl⟩
/-- the state with a fact about a value -/
def IV.plus {S : AS} (I : IV S) (φ : Fm) (v : V) : IV S := ⟨fun H => I.p H ∧ φ.p S v H, fun e h => ⟨I.le e h.1, φ.le e.any h.2⟩, fun h a ha => I.dom h.1 a ha⟩
theorem plus_ext {v : V} : Ext I (I.plus φ v) := ⟨fun _ h => h, fun _ h => h.1, fun T at_ c => ⟨c.1, c.2.1, fun H H' h e ha => ⟨c.2.2 H H' h.1 e ha, φ.xe (e.sub c.1) h.2⟩⟩⟩
theorem Ext.trans {S1 S2 S3 : AS} {I1 : IV S1} {I2 : IV S2} {I3 : IV S3} (a : Ext I1 I2) (b : Ext I2 I3) : Ext I1 I3 := ⟨fun x h => b.sub x (a.sub x h), fun H h => a.wk H (b.wk H h), fun T at_ c => b.cl T at_ (a.cl T at_ c)⟩
/-- a comprehension over one of many lists -/
theorem ge_lcDX {α β : Type} {P : β → Prop} {φ : β → Fm} {g : TG} {vs : List Nat} (src : β → List α) (f0 : α → PyData) (p : β → α → Bool) (f : β → α → PyData) (h : GE S Γ I tl (Exs P φ) J) (hφ : ∀ b v H, P b → (φ b).p S v H → (Is K (.list ((src b).map f0))).p S v H) (hz : ∀ b, P b → (src b).length ≤ 1000)
    (hs : ∀ b, P b → ∀ (x : α) (S' : AS) (I' : IV S'), Ext J I' → x ∈ src b → ∃ Δ js, (∀ j ∈ js, j ∈ vs) ∧ GG S' (wipeG Γ vs) g (Is K (f0 x)) Δ js ∧ GT S' Δ I' tt (fun c => p b x = c) I' ∧ (p b x = true → GE S' Δ I' te (Is K (f b x)) I')) :
    GE S Γ I (tLc (iList K tl) g tt te vs) (Exs P fun b => Is K (.list (((src b).filter (p b)).map (f b)))) J := fun σ H e hi Q q => h σ H e hi _ fun v H1 l1 j1 ⟨b, hb, p1⟩ => by
  have k1 : GE S Γ (J.plus (Is K (.list ((src b).map f0))) v) (tC v) (Is K (.list ((src b).map f0))) (J.plus (Is K (.list ((src b).map f0))) v) := fun σ H _ hi Q q => q v H (XE.refl S H) hi hi.2
  have k2 := ge_lcD (K := K) (tt := tt) (te := te) (g := g) (vs := vs) (src b) (fun x => Is K (f0 x)) (p b) (f b) (gi_listM k1) (hz b hb) fun x S' I' ext hx => hs b hb x S' I' (plus_ext.trans ext) hx
  exact k2 σ H1 (e.xe l1) ⟨j1, hφ b v H1 hb p1⟩ Q fun u H' l j p => q u H' (l1.trans l) j.1 ⟨b, hb, p⟩
end
theorem why_in {es : List Ed} {n : Str} {v : Int} (hf : (findE es n v).isSome = true) : (!(es.map fun e => PyData.tuple [.str e.nm, .int e.ver]).any fun z => PyData.eqv z (.tuple [.str n, .int v])) = false := by
  unfold findE at hf
  rw [List.find?_isSome] at hf
  obtain ⟨e, h1, h2⟩ := hf
  have : ((es.map fun e => PyData.tuple [.str e.nm, .int e.ver]).any fun z => PyData.eqv z (.tuple [.str n, .int v])) = true := by
    rw [List.any_eq_true]
    exact ⟨_, List.mem_map_of_mem h1, by rw [eqv_si]; exact h2⟩
  rw [this]
  rfl
theorem shaped_list {ds : List PyData} {n : Nat} (hn : n < 64) (h : ∀ d ∈ ds, d.canLay0 = true ∧ d.depth ≤ n) : SeqAt.shaped (.list ds) = true := by
  have h1 : PyData.canLayAll0 ds = true ∧ PyData.depthAll ds ≤ n := by
    induction ds with
    | nil => exact ⟨rfl, Nat.zero_le _⟩
    | cons d ds ih =>
      obtain ⟨h3, h4⟩ := ih fun x hx => h x (List.mem_cons_of_mem _ hx)
      obtain ⟨h5, h6⟩ := h d List.mem_cons_self
      exact ⟨by rw [PyData.canLayAll0, h5, h3]; rfl, by rw [PyData.depthAll]; exact Nat.max_le.mpr ⟨h6, h4⟩⟩
  unfold SeqAt.shaped
  rw [PyData.canLay0, h1.1, Bool.true_and]
  refine decide_eq_true ?_
  rw [PyData.depth]
  omega
theorem shaped_sis {es : List Ed} (h : ∀ e ∈ es, PyData.strOk e.nm = true) : SeqAt.shaped (.list (es.map fun e => PyData.tuple [.str e.nm, .int e.ver])) = true := shaped_list (n := 2) (by decide) fun d hd => by
  obtain ⟨e, h1, rfl⟩ := List.mem_map.mp hd
  have := shaped_si (i := e.ver) (h e h1)
  exact ⟨SeqAt.canLay_of_shaped this, by simp [PyData.depth, PyData.depthAll]⟩
theorem lack_e {R : Rows} {needs : List (Str × Int)} : (((needs.filter fun x => !isMet R x.1 x.2).map fun x => x.1).isEmpty) = !lacks R needs := by
  rw [emp_map]
  unfold lacks
  rw [← any_filter, Bool.not_not]
theorem host_e {es : List Ed} {ns : List Str} {R : Rows} {e : Ed} (hr : RowsOk es ns R) : (ns.filter fun n => hostAt es R e n).isEmpty = !hostile es R e := by
  unfold hostile
  have : (R.any fun r => hostAt es R e r.1) = ns.any fun n => hostAt es R e n := by rw [← hr.keys, List.any_map]; rfl
  rw [this, ← any_filter, Bool.not_not]
theorem RowsOk.few3 {es : List Ed} {ns : List Str} {R : Rows} (he : EsOk es ns) (h : RowsOk es ns R) : R.length ≤ 3 := by
  have := congrArg List.length h.keys
  rw [List.length_map] at this
  rw [this]
  exact he.few
theorem why_emp {ws : List (Str × Int)} {n : Str} : (ws.filter fun x => decide (x.1 = n)).isEmpty = !decide (n ∈ ws.map Prod.fst) := by
  rw [show (ws.filter fun x => decide (x.1 = n)).isEmpty = !(!(ws.filter fun x => decide (x.1 = n)).isEmpty) from (Bool.not_not _).symm, any_filter]
  congr 1
  rw [Bool.eq_iff_iff, List.any_eq_true, decide_eq_true_iff, List.mem_map]
  constructor
  · rintro ⟨x, h1, h2⟩
    exact ⟨x, h1, of_decide_eq_true h2⟩
  · rintro ⟨x, h1, h2⟩
    exact ⟨x, h1, decide_eq_true h2⟩
theorem emp_app {α : Type} {a b : List α} : (a ++ b).isEmpty = (a.isEmpty && b.isEmpty) := by cases a <;> rfl
theorem room65 {k : Nat} {A : Around} (r : Room k A) : A.units + 65 < cLine := by have := r.un; omega
theorem why_one {x y : Str} : decide (x ∈ [y]) = decide (x = y) := by simp
/-- a deed of these names, to an edition that there is -/
def deedIn (es : List Ed) (ns : List Str) (d : Deed) : Prop := d.nm ∈ ns ∧ match d with | .unpack n v => (findE es n v).isSome = true | _ => True
section
variable (K : PySem.W.Frag)
def ct_law_why : CTR := fun S k => ∃ es ns R d, EsOk es ns ∧ RowsOk es ns R ∧ (∀ n ∈ ns, PyData.strOk n = true) ∧ deedIn es ns d ∧ k.J = k.I ∧ k.ins = [Is K (edsD es), Dct (rowsF K R), Is K d.d] ∧ k.out = NonF (allowed es R d)
def ct_law_deeds : CTR := fun S k => ∃ es ns R, EsOk es ns ∧ RowsOk es ns R ∧ (∀ n ∈ ns, PyData.strOk n = true) ∧ k.J = k.I ∧ k.ins = [Is K (edsD es), Dct (rowsF K R)] ∧ k.out = Exs (fun ds : List Deed => ds.length ≤ 500 ∧ ∀ d ∈ ds, allowed es R d = true ∧ d.nm ∈ ns) fun ds => Is K (.list (ds.map Deed.d))
end
end Hs
set_option Elab.async false
set_option linter.all false
set_option maxRecDepth 100000
set_option maxHeartbeats 4000000
/-! set(a list of ints) -/
namespace Hs
open PySem PySem.Spec PyProof.Rows L2
section
variable {P : Program} {w : World} {A : Around} {E : Value → Shared → Prop} {s : Shared}
set_option maxRecDepth 100000 in
set_option maxHeartbeats 3200000 in
theorem call_set_intL {l : Addr} {items : Array Value} (ns : List Int) {Q : Value → Shared → Prop} (hh : A.handled = none) (hl : s.heap.IsList l items) (hit : IntsAre items.toList ns) (hb : ns.length + 1 < scanBound)
    (h : ∀ (h' : Heap) (tk c : Nat), SetR w h' s.heap.objs.size (fun j => decide (j ∈ ns)) c → c ≤ ns.length → (∀ b o, s.heap.get? b = some o → h'.get? b = some o) → Q (.ref s.heap.objs.size) { s with heap := h', toks := tk }) :
    wpAny (model P w) A (call (.type "set") [.ref l]) Q E s := by
  have hisz : items.size = ns.length := by
    have q := IntsAre.length hit
    rw [Array.length_toList] at q
    exact q
  obtain ⟨c, tl, hmro⟩ := F.called_set.mro
  have hmade := F.called_set.made
  have hsub := F.called_set.sub
  refine wpAny_call (codeAny_of_tree ?_)
  show wpAny _ _ (callAny (.type "set") _) _ _ _
  refine wpAny_pure ⟨Code.quiet_builtin _ (by decide +kernel), codeAny_builtin F.entry_type_call ?_⟩
  rw [Around.under_plain (weight_type_call_type "set" [.ref l] []) rfl]
  have h1 := F.called_set.notType
  have h2 := F.called_set.canCreate
  have hct := F.typeCall_set_1 (.ref l)
  repeat (any_goals (first | assumption | wp_step))

  refine codeAny_mono (code_set_led1 (.ref l) (E := E) (Q₁ := fun obj s₁ => obj = .ref s.heap.objs.size ∧ s₁ = { s with heap := s.heap.push { cls := .type "set", dict := none, data := .set #[] 0 (.fresh 0 0 (!w.params.followText "set-order")) } }) ⟨rfl, rfl⟩) fun r s₁ hr => ?_
  cases r with
  | error e => exact hr
  | ok fl =>
    cases fl with
    | ret obj =>
      obtain ⟨rfl, rfl⟩ := hr
      have hS : (s.heap.push { cls := .type "set", dict := none, data := .set #[] 0 (.fresh 0 0 (!w.params.followText "set-order")) }).get? s.heap.objs.size = some { cls := .type "set", dict := none, data := .set #[] 0 (.fresh 0 0 (!w.params.followText "set-order")) } := Heap.get?_push_size _ rfl
      have hT : Shared.TypeIs { s with heap := s.heap.push { cls := .type "set", dict := none, data := .set #[] 0 (.fresh 0 0 (!w.params.followText "set-order")) } } (.ref s.heap.objs.size) "set" := ⟨_, hS, rfl⟩
      have hli := F.called_set.init.lookup
      have hbi := F.called_set.init.bind (.ref s.heap.objs.size)
      repeat (any_goals (first | assumption | wp_step))

      refine codeAny_mono (codeAny_call_builtin (R := wants (fun r s₂ => r = .none ∧ ∃ h' tk c, s₂ = { s with heap := h', toks := tk } ∧ SetR w h' s.heap.objs.size (fun j => decide (j ∈ ns)) c ∧ c ≤ ns.length ∧
          (∀ b o, s.heap.get? b = some o → h'.get? b = some o)) E) F.called_set.init.plain F.entry_set_init (check_set_init_1 hT ?_)) fun r₂ s₂ hr₂ => ?_
      · obtain ⟨ol, hol, hcl, nl, hdl⟩ := hl
        obtain ⟨ocls, odict, odata, oslots⟩ := ol
        simp only at hcl hdl
        subst hcl; subst hdl
        have hol' : (s.heap.push { cls := .type "set", dict := none, data := .set #[] 0 (.fresh 0 0 (!w.params.followText "set-order")) }).get? l = some { cls := .type "list", dict := odict, data := .seq items nl, slots := oslots } := Heap.get?_push_of_some _ hol
        have hsls := F.sub_list_set
        have hslf := F.sub_list_frozenset
        have hne : (Value.type "list" == Value.type "dict") = false := by decide
        have hl1 : (s.heap.push { cls := .type "set", dict := none, data := .set #[] 0 (.fresh 0 0 (!w.params.followText "set-order")) }).IsList l items := ⟨_, hol', rfl, nl, rfl⟩
        unfold Builtin.«set.__init__» noKeywords Builtin.Frozenset.updateFrom
        generalize hPI : pyIter = PI
        wp_walk
        subst hPI

        refine wpAny_pyIter_list hl1 ?_
        refine wpAny_bind (wpAny_runValue ?_)
        have hlS : l < s.heap.objs.size := Heap.lt_size hol
        have hh3 : A.in1.in1.in1.handled = none := by simp [hh]
        have hz1 : (s.heap.push { cls := .type "set", dict := none, data := .set #[] 0 (.fresh 0 0 (!w.params.followText "set-order")) }).objs.size = s.heap.objs.size + 1 := Heap.size_push ..
        have hneI : l ≠ (s.heap.push { cls := .type "set", dict := none, data := .set #[] 0 (.fresh 0 0 (!w.params.followText "set-order")) }).objs.size := by
          rw [Heap.size_push]; exact Nat.ne_of_lt (Nat.lt_succ_of_lt hlS)
        have hSf : s.heap.objs.size ∉ [(s.heap.push { cls := .type "set", dict := none, data := .set #[] 0 (.fresh 0 0 (!w.params.followText "set-order")) }).objs.size, l] := by
          rw [Heap.size_push]; simp only [List.mem_cons, List.mem_singleton, List.not_mem_nil, or_false, not_or]
          exact ⟨Nat.ne_of_lt (Nat.lt_succ_self _), Nat.ne_of_gt hlS⟩
        have hval : ∀ (i : Nat) (v : Value), items[i]? = some v → ∃ k t, ns[i]? = some k ∧ v = .int k t := fun i v hv => by
          have hi : i < ns.length := by rw [← hisz]; exact (Array.getElem?_eq_some_iff.mp hv).1
          obtain ⟨t, e⟩ := PyProof.Rows.IntsAre.int_at hit i v (by rw [Array.getElem?_toList]; exact hv)
          refine ⟨ns[i], t, List.getElem?_eq_getElem hi, ?_⟩
          rw [e, List.getD_eq_getElem?_getD, List.getElem?_eq_getElem hi] <;> rfl
        refine set_update_ints ((Walks.list hh3 _ l hneI items).toS) s.heap.objs.size
          hSf ns hisz hb hval (items.size - 0) 0 _ (by omega) (Nat.zero_le _)
          ⟨⟨_, Heap.get?_push_size _ rfl, rfl, rfl⟩, (hl1.push _)⟩ ?hS0 ?hR
        case hS0 =>
          have hget : ((s.heap.push { cls := .type "set", dict := none, data := .set #[] 0 (.fresh 0 0 (!w.params.followText "set-order")) }).push { cls := .type "list_iterator", data := .fields #[.ref l, .int 0 0] }).get? s.heap.objs.size
              = some { cls := .type "set", dict := none, data := .set #[] 0 (.fresh 0 0 (!w.params.followText "set-order")) } := Heap.get?_push_of_some _ hS
          exact ⟨0, Nat.le_refl 0, setR_new_at hget⟩
        case hR =>
          intro s' c' hm hc' hS'
          obtain ⟨h', g2, d', tk', os'⟩ := s'
          have eg : g2 = s.gens := hm.gens
          have ed : d' = s.drawn := hm.drawn
          have eo : os' = s.os := hm.os
          subst eg; subst ed; subst eo
          show wpAny _ _ _ _ _ _
          refine wpAny_pure ?_
          show wpAny _ _ (ret Value.none) _ _ _
          rw [hisz] at hc'
          refine wpAny_pure ⟨rfl, h', tk', c', rfl, hS', hc', fun b o e => ?_⟩
          have hb0 : b < s.heap.objs.size := Heap.lt_size e
          have hb1 : b ≠ s.heap.objs.size := Nat.ne_of_lt hb0
          have hb2 : b ≠ (s.heap.push { cls := .type "set", dict := none, data := .set #[] 0 (.fresh 0 0 (!w.params.followText "set-order")) }).objs.size := by
            rw [Heap.size_push]; exact Nat.ne_of_lt (Nat.lt_succ_of_lt hb0)
          exact hm.heap b o (by simp only [List.mem_cons, List.mem_singleton, List.not_mem_nil, or_false, not_or]; exact ⟨hb1, hb2⟩) (Heap.get?_push_of_some _ (Heap.get?_push_of_some _ e))

      · cases r₂ with
        | error e => exact hr₂
        | ok fl₂ =>
          cases fl₂ with
          | ret r =>
            obtain ⟨rfl, h', tk, c', rfl, hS', hc', hk'⟩ := hr₂
            repeat (any_goals (first | assumption | wp_step))
            exact h _ _ _ hS' hc' hk'
          | _ => exact hr₂.elim
    | _ => exact hr.elim

end
end Hs
set_option Elab.async false
set_option linter.all false
set_option maxRecDepth 100000
set_option maxHeartbeats 4000000
/-! editions drawn: sets of ints, list slices, a list begun beside another value -/
namespace Hs
open PySem PySem.Spec PyProof.Rows L2 StX
section
variable {X : Cx}
/-- set(a list of ints) -/
def rSetLI (K : PySem.W.Frag) (w : World) : List V → Hp → VK → Prop := fun xs H Q => ∃ (a : Addr) (ns : List Int), xs = [V.ref a] ∧ SqL K H a (ns.map V.int) ∧ ns.length < 64 ∧ ∀ p c, c ≤ ns.length → H p = none → Q (.ref p) (upd H p (SetO w p (fun j => decide (j ∈ ns)) c))
theorem cr_setLI (hc : X.calm = true) : CallR X (.type "set") (rSetLI X.K X.w) := by
  intro pins s σ H xs us Q I r h
  obtain ⟨a, ns, rfl, hs, hz, q⟩ := h
  obtain ⟨its, rv, hl, _⟩ := I.list hs
  rw [Vals.ref1 r]
  refine call_set_intL ns (I.ok.hd hc) hl.isList (by simpa using intsAre_of rv) (by unfold scanBound; omega) fun h' tk c R hc k => ?_
  exact ⟨.ref s.heap.objs.size, _, I.laid (t' := tk) k (Nat.le_refl _) (setO_new R), rfl, q _ c hc (I.hok.fresh (Nat.le_refl _))⟩
end
/-- the set of these ints -/
def SiF (w : World) (ns : List Int) : Fm := ⟨fun S v H => ∃ a c, v = .ref a ∧ ¬ S a ∧ H a = some (SetO w a (fun j => decide (j ∈ ns)) c) ∧ c ≤ ns.length,
  fun {_ _ _ _} e ⟨a, c, h1, h2, h3, h4⟩ => ⟨a, c, h1, h2, by obtain ⟨o, g1, g2⟩ := e a _ h2 h3; rw [g1, nk_ext g2]; rfl, h4⟩,
  fun {_ _ _ _} hl ⟨a, c, h1, h2, h3, h4⟩ => ⟨a, c, h1, fun ht => (hl a ht).elim h2 (fun z => nomatch h3.symm.trans z), h3, h4⟩⟩
section
variable {S : AS} {K : PySem.W.Frag} {w : World} {Γ Δ : Ctx} {I J L M : IV S} {ta tb te tl : TE} {φ ψ χ ξ : Fm} {R : VK} {N : L2.St → Hp → Prop} {r : R2} {u : TS}
theorem gc_setLI {ns : List Int} (hz : ns.length < 64) : GC S I (rSetLI K w) [Is K (.list (ns.map .int))] (SiF w ns) I := fun vs H hi h Q q => by
  obtain ⟨v, ws, rfl, h1, rfl⟩ := h
  obtain ⟨a, xs, rfl, hs, h2, h3⟩ := Da.lst_of h1
  obtain rfl := h3.ints_of
  exact ⟨a, ns, rfl, SqL.of h2, hz, fun p c hc hp => q _ _ (XE.new hp) (I.le (LX.new hp) hi) ⟨p, c, rfl, I.fresh hi hp, upd_same, hc⟩⟩
theorem gc_sortSI {ns : List Int} (hz : ns.length < 64) : GC S I (rSortedSet w) [SiF w ns] (Exs (fun ys : List Int => ys.Pairwise (· < ·) ∧ (∀ k, k ∈ ys ↔ k ∈ ns) ∧ ys.length ≤ ns.length) fun ys => Is K (.list (ys.map .int))) I := fun vs H hi h Q q => by
  obtain ⟨v, ws, rfl, ⟨a, c, rfl, hs, ha, hc⟩, rfl⟩ := h
  refine ⟨a, _, c, rfl, ha, by omega, fun ys p h1 h2 h3 hp => q _ _ (XE.new hp) (I.le (LX.new hp) hi) ⟨ys, ⟨h1, fun k => by rw [h2, decide_eq_true_iff], by omega⟩, .lst (I.fresh hi hp) upd_same DaAll.ints⟩⟩
/-- an operand that is one of many -/
theorem gr_exR {α : Type} {P : α → Prop} {ψ χ : α → Fm} (h : ∀ a, P a → GR S I r φ (ψ a) (χ a) J) : GR S I r φ (Exs P ψ) (Exs P χ) J := fun x y H hi p ⟨a, ha, p2⟩ Q q => h a ha x y H hi p p2 Q fun u H' l j p' => q u H' l j ⟨a, ha, p'⟩
/-- a drawn int, handed on -/
theorem ge_exI {P : Int → Prop} (f : TE → TE) (hf : ∀ t σ H Q, f t σ H Q = t σ H fun x H1 => f (tC x) σ H1 Q) (h : GE S Γ I te (Exs P fun n => Is K (.int n)) J) (k : ∀ n, P n → GE S Γ J (f (tC (.int n))) χ L) : GE S Γ I (f te) χ L := fun σ H e hi Q q => by
  rw [hf]
  exact h σ H e hi _ fun v H1 l1 j1 ⟨n, hn, p⟩ => by
    obtain rfl := Da.int_of p
    exact k n hn σ H1 (e.xe l1) j1 Q fun v H' l j p => q v H' (l1.trans l) j p
theorem gs_exI {P : Int → Prop} (f : TE → TS) (hf : ∀ t D σ H, f t D σ H = t σ H fun x H1 => f (tC x) D σ H1) (h : GE S Γ I te (Exs P fun n => Is K (.int n)) J) (k : ∀ n, P n → GS S Γ J (f (tC (.int n))) R N) : GS S Γ I (f te) R N := fun σ H e hi D r nn => by
  rw [hf]
  exact h σ H e hi _ fun v H1 l1 j1 ⟨n, hn, p⟩ => by
    obtain rfl := Da.int_of p
    exact k n hn σ H1 (e.xe l1) j1 D (fun v H' l p => r v H' (l1.trans l) p) fun σ' H' l p => nn σ' H' (l1.trans l) p
/-- xs[:n] of a list -/
theorem ge_slLX {P : Int → Prop} {ds : List PyData} (h : GE S Γ I te (Is K (.list ds)) J) (hn : GE S Γ J tl (Exs P fun n => Is K (.int n)) L) : GE S Γ I (tSl (rSlL K) te tNoPart (tPart tl)) (Exs P fun n => Is K (.list (cutF ds none (some n)))) L := fun σ H e hi Q q => h σ H e hi _ fun v H1 l1 j1 p1 => hn σ H1 (e.xe l1) j1 _ fun u H2 l2 j2 ⟨n, hP, p2⟩ => by
  obtain rfl := Da.int_of p2
  obtain ⟨a, xs, rfl, hs, h2, h3⟩ := Da.lst_of p1
  refine ⟨n, rfl, a, xs, rfl, SqL.of (l2 a _ hs h2), fun p hp => q _ _ ((l1.trans l2).trans (XE.new hp)) (L.le (LX.new hp) j2) ⟨n, hP, .lst (L.fresh j2 hp) upd_same ?_⟩⟩
  unfold cutV cutF
  rw [h3.len]
  exact (((h3.le l2.m).drop _).take _).le (LE.new hp)
/-- x, xs = e, [] -/
theorem gs_parAccX {α : Type} {P : α → Prop} {φ : α → Fm} {i j : Nat} (h : GE S Γ I te (Exs P φ) J) (k : ∀ a, P a → ∀ p, ¬ S p → GS (SU S p) ((Γ.set i (some (φ a))).set j (some (Eqv (.ref p)))) (J.acc p []) u R N) : GS S Γ I (tSeq (tPar i j (tCons te (tCons (tLst tNil) tNil))) u) R N := fun σ H e hi D r n => h σ H e hi _ fun v H1 l1 j1 ⟨a, ha, p1⟩ => by
  refine ⟨by decide, fun p hp => ⟨v, .ref p, rfl, ?_⟩⟩
  have l : XE S H1 (upd H1 p (.lst [])) := XE.new hp
  have back : ∀ {H'}, XE (SU S p) (upd H1 p (.lst [])) H' → XE S H H' := fun {H'} x => l1.trans fun a o hs ha => x a o (fun z => z.elim hs fun z => by
    subst z
    rw [hp] at ha
    cases ha) (l a o hs ha)
  have sub : ∀ a, SU S p a → S a ∨ H1 a = none := fun a z => z.elim .inl fun z => .inr (by rw [z]; exact hp)
  exact k a ha p (J.fresh j1 hp) _ _ ((((Env.lift sub (e.xe l1)).xe (XE.new hp)).set i ((φ a).xe (XE.new hp) ((φ a).lift sub p1))).set j (φ := Eqv (.ref p)) rfl) ⟨fun xs => by rw [upd_upd]; exact J.le (LX.new hp) j1, [], upd_same, rfl⟩ D (fun v H' x q => r v H' (back x) q) fun σ' H' x q => n σ' H' (back x) q
end
/-- editions that could be made so far -/
structure EsPre (es : List Ed) (ns : List Str) : Prop where
  mem : ∀ e ∈ es, e.nm ∈ ns
  nd : (es.map fun e => (e.nm, e.ver)).Nodup
  has : ∀ n ∈ ns, ∃ e ∈ es, e.nm = n
  ok : ∀ e ∈ es, EdOk e ∧ e.wants.length ≤ 10 ∧ e.asks.length ≤ 10
/-- two names, or one -/
structure NsOk (ns : List Str) : Prop where
  asc : Asc ns
  few : ns.length ≤ 2
  pos : 0 < ns.length
  ok : ∀ n ∈ ns, isWord n = true ∧ n.length ≤ 1000 ∧ PyData.strOk n = true
theorem EsPre.ok2 {es : List Ed} {ns : List Str} (h : EsPre es ns) (hn : NsOk ns) (hl : es.length ≤ 2 * ns.length) : EsOk es ns := by
  have h1 := hn.few
  refine ⟨hn.asc, by omega, ?_, by omega, h.nd, h.mem, h.has, fun e he => (h.ok e he).2⟩
  obtain ⟨n, hm⟩ : ∃ n, n ∈ ns := by
    cases ns with
    | nil => exact absurd hn.pos (by decide)
    | cons n r => exact ⟨n, List.mem_cons_self⟩
  obtain ⟨e, he, _⟩ := h.has n hm
  exact List.length_pos_of_mem he
def EdsP (es : List Ed) : Prop := ∃ ns, EsOk es ns ∧ NsOk ns ∧ ∀ e ∈ es, EdOk e
def ct_law_editions (K : PySem.W.Frag) : CTR := fun S k => ∃ r sv sc, RowI r sv k.I ∧ k.J = k.I ∧ k.ins = [RowV K r sv sc, Is K (.int 2), Is K (.int 2)] ∧ k.out = Exs EdsP fun es => Is K (edsD es)
/-- needs drawn -/
theorem picks_needs {xs : List Str} {ds : List PyData} (h : Picks (fun x d => ∃ v : Int, (1 ≤ v ∧ v ≤ 3) ∧ d = needD (x, v)) xs ds) : ∃ ws : List (Str × Int), (ws.map Prod.fst).Sublist xs ∧ (∀ p ∈ ws, 1 ≤ p.2 ∧ p.2 ≤ 3) ∧ ds = ws.map needD := by
  obtain ⟨ts, h1, h2⟩ := h
  have key : ∀ {ts : List Str} {ds : List PyData}, All2 (fun x d => ∃ v : Int, (1 ≤ v ∧ v ≤ 3) ∧ d = needD (x, v)) ts ds → ∃ ws : List (Str × Int), ws.map Prod.fst = ts ∧ (∀ p ∈ ws, 1 ≤ p.2 ∧ p.2 ≤ 3) ∧ ds = ws.map needD := fun {ts ds} h => by
    induction h with
    | nil => exact ⟨[], rfl, (fun p hp => nomatch hp), rfl⟩
    | @cons x d xs ds e _ ih =>
      obtain ⟨v, hv, rfl⟩ := e
      obtain ⟨ws, k1, k2, k3⟩ := ih
      exact ⟨(x, v) :: ws, by rw [List.map_cons, k1], (fun p hp => (List.mem_cons.mp hp).elim (fun z => by rw [z]; exact hv) (k2 p)), by rw [List.map_cons, k3]⟩
  obtain ⟨ws, k1, k2, k3⟩ := key h2
  exact ⟨ws, by rw [k1]; exact h1, k2, k3⟩
theorem Asc.sub {xs ys : List Str} (h : xs.Sublist ys) (hy : Asc ys) : Asc xs := by
  induction h with
  | slnil => exact .nil
  | cons a h ih =>
    cases hy with
    | cons _ t => exact ih t
  | cons_cons a h ih =>
    cases hy with
    | cons k t => exact .cons (fun y hy => k y (h.subset hy)) (ih t)
theorem needs_ok {ns : List Str} {n : Str} {ws : List (Str × Int)} (hn : NsOk ns) (h : (ws.map Prod.fst).Sublist (ns.filter fun x => !decide (x = n))) (hv : ∀ p ∈ ws, 1 ≤ p.2 ∧ p.2 ≤ 3) : NeedsOk n ws ∧ ws.length ≤ 10 := by
  have hl : ws.length ≤ 2 := by
    have h1 := h.length_le
    rw [List.length_map] at h1
    have h2 := List.length_filter_le (fun x => !decide (x = n)) ns
    have h3 := hn.few
    omega
  refine ⟨⟨(hn.asc.sub List.filter_sublist).sub h, by omega, fun p hp => ?_⟩, by omega⟩
  obtain ⟨h1, h2⟩ := List.mem_filter.mp (h.subset (List.mem_map_of_mem hp))
  obtain ⟨k1, k2, k3⟩ := hn.ok _ h1
  obtain ⟨v1, v2⟩ := hv p hp
  exact ⟨k1, k2, of_decide_eq_false (not_t h2), v1, by omega, k3⟩
theorem shuns_ok {ns : List Str} {n : Str} {xs : List Str} (hn : NsOk ns) (h : xs.Sublist (ns.filter fun x => !decide (x = n))) : Asc xs ∧ xs.length < 60 ∧ ∀ x ∈ xs, isWord x = true ∧ x.length ≤ 1000 ∧ ¬ x = n ∧ PyData.strOk x = true := by
  have hl : xs.length ≤ 2 := by
    have h1 := h.length_le
    have h2 := List.length_filter_le (fun x => !decide (x = n)) ns
    have h3 := hn.few
    omega
  refine ⟨(hn.asc.sub List.filter_sublist).sub h, by omega, fun x hx => ?_⟩
  obtain ⟨h1, h2⟩ := List.mem_filter.mp (h.subset hx)
  obtain ⟨k1, k2, k3⟩ := hn.ok _ h1
  exact ⟨k1, k2, of_decide_eq_false (not_t h2), k3⟩
section
variable {S : AS} {K : PySem.W.Frag} {w : World} {Γ Δ : Ctx} {I J L M : IV S} {ta tb te tl : TE} {φ ψ χ ξ : Fm} {R : VK} {N : L2.St → Hp → Prop} {r : R2} {u : TS} {t : TA}
theorem ge_1p {m : Int} (h : GE S Γ I te (SomeInt K m) J) : GE S Γ I (tOp (rI0 fun i j => .int (i + j)) (tC (.int 1)) te) (Exs (fun k : Int => 1 ≤ k ∧ k ≤ m) fun k => Is K (.int k)) J :=
  (ge_op (ge_int (K := K)) h (gr_exR (χ := fun n => Is K (.int (1 + n))) fun n _ => gr_add)).wk fun v H _ ⟨n, hn, p⟩ => ⟨1 + n, by omega, p⟩
theorem ge_tupNeed {y : Str} (h : GA S Γ I t [Is K (.str y), Exs (fun k : Int => 1 ≤ k ∧ k ≤ 3) fun k => Is K (.int k)] J) : GE S Γ I (tTup t) (Exs (fun d => ∃ v : Int, (1 ≤ v ∧ v ≤ 3) ∧ d = needD (y, v)) fun d => Is K d) J :=
  (ge_tup (K := K) h (by show 2 ≤ 1000; decide)).wk fun v H _ p => by
    obtain ⟨a, xs, rfl, h1, v1, ws, rfl, h2, v2, ws', rfl, ⟨k, hk, h3⟩, rfl⟩ := p
    exact ⟨_, ⟨k, hk, rfl⟩, .tup h1 (.cons h2 (.cons h3 .nil))⟩
def WsP (ns : List Str) (n : Str) (ws : List (Str × Int)) : Prop := (ws.map Prod.fst).Sublist (ns.filter fun x => !decide (x = n)) ∧ ∀ p ∈ ws, 1 ≤ p.2 ∧ p.2 ≤ 3
theorem GE.needs {ns : List Str} {n : Str} (h : GE S Γ I te (Exs (Picks (fun x d => ∃ v : Int, (1 ≤ v ∧ v ≤ 3) ∧ d = needD (x, v)) (ns.filter fun x => !decide (x = n))) fun ds => Is K (.tuple ds)) J) : GE S Γ I te (Exs (WsP ns n) fun ws => Is K (needsD ws)) J := h.wk fun v H _ ⟨ds, hd, p⟩ => by
  obtain ⟨ws, h1, h2, rfl⟩ := picks_needs hd
  exact ⟨ws, ⟨h1, h2⟩, p⟩
theorem GE.shuns {xs : List Str} (h : GE S Γ I te (Exs (Picks (fun x d => d = PyData.str x) xs) fun ds => Is K (.tuple ds)) J) : GE S Γ I te (Exs (fun ts : List Str => ts.Sublist xs) fun ts => Is K (strsD ts)) J := h.wk fun v H _ ⟨ds, hd, p⟩ => by
  obtain ⟨ts, h1, rfl⟩ := picks_self hd
  exact ⟨ts, h1, p⟩
/-- ints drawn: as many as asked for -/
theorem all2_ints {α : Type} {a b : Int} {xs : List α} {ds : List PyData} (h : All2 (fun _ d => ∃ v : Int, (a ≤ v ∧ v ≤ b) ∧ d = PyData.int v) xs ds) : ∃ ns : List Int, ns.length = xs.length ∧ (∀ v ∈ ns, a ≤ v ∧ v ≤ b) ∧ ds = ns.map .int := by
  induction h with
  | nil => exact ⟨[], rfl, (fun v hv => nomatch hv), rfl⟩
  | @cons x d xs ds e _ ih =>
    obtain ⟨v, hv, rfl⟩ := e
    obtain ⟨ns, h1, h2, rfl⟩ := ih
    exact ⟨v :: ns, by rw [List.length_cons, List.length_cons, h1], (fun y hy => (List.mem_cons.mp hy).elim (fun z => by rw [z]; exact hv) (h2 y)), rfl⟩
/-- versions: ascending, one or two -/
structure VsOk (vs : List Int) : Prop where
  asc : vs.Pairwise (· < ·)
  pos : 0 < vs.length
  few : vs.length ≤ 2
  ok : ∀ v ∈ vs, 1 ≤ v ∧ v ≤ 4
theorem ge_vers {k : Nat} {m : List Nat} (hk : 1 ≤ k ∧ k ≤ 2) (h : GE S Γ I te (Exs (All2 (fun (_ : Nat) d => ∃ v : Int, (1 ≤ v ∧ v ≤ 4) ∧ d = PyData.int v) (List.range k)) fun ds => Is K (.list ds)) J) : GE S Γ I te (Exs (fun ns : List Int => 0 < ns.length ∧ ns.length ≤ 2 ∧ ∀ v ∈ ns, 1 ≤ v ∧ v ≤ 4) fun ns => Is K (.list (ns.map .int))) J := h.wk fun v H _ ⟨ds, hd, p⟩ => by
  obtain ⟨ns, h1, h2, rfl⟩ := all2_ints hd
  rw [List.length_range] at h1
  exact ⟨ns, ⟨by omega, by omega, h2⟩, p⟩
theorem ge_vers2 (h : GE S Γ I te (Exs (fun ns : List Int => 0 < ns.length ∧ ns.length ≤ 2 ∧ ∀ v ∈ ns, 1 ≤ v ∧ v ≤ 4) fun ns => Exs (fun ys : List Int => ys.Pairwise (· < ·) ∧ (∀ k, k ∈ ys ↔ k ∈ ns) ∧ ys.length ≤ ns.length) fun ys => Is K (.list (ys.map .int))) J) : GE S Γ I te (Exs VsOk fun ys => Is K (.list (ys.map .int))) J := h.wk fun v H _ ⟨ns, ⟨h1, h2, h3⟩, ys, ⟨k1, k2, k3⟩, p⟩ => ⟨ys, ⟨k1, by
  cases ns with
  | nil => exact absurd h1 (by decide)
  | cons n r => exact List.length_pos_of_mem ((k2 n).mpr List.mem_cons_self), by omega, fun v hv => h3 v ((k2 v).mp hv)⟩, p⟩
/-- a loop over one of many lists, the last of its block -/
theorem gs_forX1 {α β : Type} {g : TG} {tb : TS} {P : α → Prop} {φ : α → Fm} (ψs : α → List Fm) (h : GE S Γ I tl (Exs P φ) J) (hφ : ∀ a v H, P a → (φ a).p S v H → (Lst (ψs a)).p S v H) (Γi : α → β → Ctx) (Ji : α → β → IV S) (G : α → Nat → β → Prop) (b0 : α → β) (h0 : ∀ a, P a → G a 0 (b0 a)) (hs0 : ∀ a, Sub (Γi a (b0 a)) Γ) (hj0 : ∀ a H, J.p H → (Ji a (b0 a)).p H)
    (hs : ∀ a i ψ b, P a → (ψs a)[i]? = some ψ → G a i b → ∃ Δ js, GG S (Γi a b) g ψ Δ js ∧ GS S Δ (Ji a b) tb R (Tn S (Γi a) (Ji a) (G a (i + 1))))
    (hd : ∀ a b, P a → G a (ψs a).length b → ∀ σ H, En S (Γi a b) (Ji a b) σ H → N σ H) : GS S Γ I (tFor (iList K tl) g tb) R N := fun σ H e hi D r n =>
  gs_forX (u := tNext) ψs h hφ Γi Ji G b0 h0 hs0 hj0 hs (fun a b ha hb => gs_next.wk (hd a b ha hb)) σ H e hi D r n
end
theorem scr_asc : Asc allScr := .cons (by decide +kernel) (.cons (by decide +kernel) (.cons (by decide +kernel) (.cons (fun y hy => nomatch hy) .nil)))
theorem scr_str : ∀ y ∈ allScr, PyData.strOk y = true := by decide +kernel
theorem names_cut {m : Int} (hm : 1 ≤ m ∧ m ≤ 2) : ∃ ns : List Str, NsOk ns ∧ cutF [PyData.str "db", .str "lib", .str "web"] none (some m) = ns.map .str := by
  have h : m = 1 ∨ m = 2 := by omega
  rcases h with rfl | rfl
  · refine ⟨["db"], ⟨.cons (fun y hy => nomatch hy) .nil, by decide, by decide, fun n hn => ?_⟩, rfl⟩
    obtain rfl := List.mem_singleton.mp hn
    exact ⟨by decide +kernel, by decide +kernel, by decide +kernel⟩
  · refine ⟨["db", "lib"], ⟨.cons (fun y hy => ?_) (.cons (fun y hy => nomatch hy) .nil), by decide, by decide, fun n hn => ?_⟩, rfl⟩
    · obtain rfl := List.mem_singleton.mp hy
      decide +kernel
    · rcases List.mem_cons.mp hn with rfl | hn
      · exact ⟨by decide +kernel, by decide +kernel, by decide +kernel⟩
      · obtain rfl := List.mem_singleton.mp hn
        exact ⟨by decide +kernel, by decide +kernel, by decide +kernel⟩
/-- the editions of one name more -/
theorem EsPre.more {b d : List Ed} {ns : List Str} {x : Str} {vs : List Int} (h : EsPre b ns) (hx : x ∉ ns) (hv : VsOk vs) (hd : d.map (fun e => e.ver) = vs) (hm : ∀ e ∈ d, e.nm = x ∧ EdOk e ∧ e.wants.length ≤ 10 ∧ e.asks.length ≤ 10) : EsPre (b ++ d) (ns ++ [x]) := by
  refine ⟨fun e he => ?_, ?_, fun n hn => ?_, fun e he => ?_⟩
  · rcases List.mem_append.mp he with he | he
    · exact List.mem_append_left _ (h.mem e he)
    · exact List.mem_append_right _ (by rw [(hm e he).1]; exact List.mem_singleton.mpr rfl)
  · rw [List.map_append, List.nodup_append]
    refine ⟨h.nd, ?_, fun p hp q hq => ?_⟩
    · have h2 : (d.map fun e => e.ver).Nodup := by
        rw [hd]
        exact hv.asc.imp fun h => by omega
      clear hd hm
      induction d with
      | nil => exact List.nodup_nil
      | cons e d ih =>
        obtain ⟨k1, k2⟩ := List.nodup_cons.mp h2
        refine List.nodup_cons.mpr ⟨fun z => k1 ?_, ih k2⟩
        obtain ⟨q, hq, eq⟩ := List.mem_map.mp z
        exact List.mem_map.mpr ⟨q, hq, congrArg Prod.snd eq⟩
    · obtain ⟨e, he, rfl⟩ := List.mem_map.mp hp
      obtain ⟨f, hf, rfl⟩ := List.mem_map.mp hq
      intro z
      have : e.nm = f.nm := congrArg Prod.fst z
      rw [(hm f hf).1] at this
      exact hx (by rw [← this]; exact h.mem e he)
  · rcases List.mem_append.mp hn with hn | hn
    · obtain ⟨e, he, hen⟩ := h.has n hn
      exact ⟨e, List.mem_append_left _ he, hen⟩
    · obtain rfl := List.mem_singleton.mp hn
      cases d with
      | nil =>
        have := hv.pos
        rw [← hd] at this
        exact absurd this (by decide)
      | cons e d => exact ⟨e, List.mem_append_right _ List.mem_cons_self, (hm e List.mem_cons_self).1⟩
  · rcases List.mem_append.mp he with he | he
    · exact h.ok e he
    · exact (hm e he).2
end Hs
set_option Elab.async false
set_option linter.all false
set_option maxRecDepth 100000
set_option maxHeartbeats 4000000
/-! the slots of a state; scenes, operations -/
namespace Hs
open PySem PySem.Spec PyProof.Rows L2 StX
section
variable {X : Cx} {o e value : Expr} {f : Str} {pos pos' : Pos} {ta tv : TE}
theorem pe_slK (K : PySem.W.Frag) (he : PE X e ta) (hb : attributeBase e f X.env (eval e X.env) = eval e X.env) (h : X.K = K := by rfl) : PE X (.Attribute e f pos) (SlX.tSl K ta f) := h ▸ SlX.pe_sl he hb
theorem ps_slK (K : PySem.W.Frag) (ha : PE X o ta) (hv : PE X value tv) (hs : swapsWith value (some (.Attribute o f pos')) pos.line X.env = pure false) (h : X.K = K := by rfl) : PS X (.Assign [.Attribute o f pos'] value pos) (SlX.sSl K ta tv f) := h ▸ SlX.ps_sl ha hv hs
theorem pg_slotK (K : PySem.W.Frag) (ho : PE X o ta) (h : X.K = K := by rfl) : PG X (.Attribute o f pos) (gSlot K f ta) := h ▸ pg_slot ho
end
/-- an operation -/
inductive Op where
  | act (d : Deed) (fails : List Int)
  | store (n : Str)
  | fetch (n : Str)
def Op.d : Op → PyData
  | .act d fails => .tuple [.str "act", d.d, .tuple (fails.map .int)]
  | .store n => .tuple [.str "store_as", .str n]
  | .fetch n => .tuple [.str "fetch", .str n]
/-- the system's states, the number of calls, what is kept -/
structure Scn where
  rows : Rows
  cnt : Int
  shelf : List (Str × Rows)
/-- a row put -/
def putG {κ α : Type} [DecidableEq κ] (rows : List (κ × α)) (k : κ) (x : α) : List (κ × α) := if k ∈ rows.map Prod.fst then rows.map (fun r => if r.1 = k then (r.1, x) else r) else rows ++ [(k, x)]
/-- what a desk has -/
structure DM where
  now : Scn
  past : List (Op × Scn)
  und : List (Op × Scn)
section
variable (K : PySem.W.Frag) (sa : Addr) (es : List Ed)
abbrev shelfF (sh : List (Str × Rows)) : List (Key × Fm) := sh.map fun r => (.inr r.1, Sys K sa es r.2)
abbrev ScnF (s : Scn) : Fm := Tup K [Sys K sa es s.rows, Is K (.int s.cnt), Dct (shelfF K sa es s.shelf)]
abbrev OpF (p : Op × Scn) : Fm := Tup K [Is K p.1.d, ScnF K sa es p.2]
/-- the slots: count, past, present, shelf, undone -/
abbrev stF (m : DM) : List Fm := [Is K (.int m.now.cnt), Tup K (m.past.map (OpF K sa es)), Sys K sa es m.now.rows, Dct (shelfF K sa es m.now.shelf), Tup K (m.und.map (OpF K sa es))]
end
def StAt (K : PySem.W.Frag) (S : AS) (st ds : Addr) (φs : List Fm) (H : Hp) : Prop := ∃ ws : List V, H st = some (SlX.SlO st (C_State K) ds (ws.map some)) ∧ H ds = some (.xd []) ∧ Ins S φs ws H
structure StF (K : PySem.W.Frag) (S : AS) (st ds : Addr) (F : List Fm → IV S) : Prop where
  sub : S st
  sub2 : S ds
  get : ∀ φs H, (F φs).p H → StAt K S st ds φs H
  put : ∀ φs φs' H H', (F φs).p H → XE (fun a => a = st ∨ a = ds) H H' → StAt K S st ds φs' H' → (F φs').p H'
theorem putS_in {i : Nat} {v : V} {ws : List V} (h : i < ws.length) : SlX.putS i v (ws.map some) = (ws.set i v).map some := by
  unfold SlX.putS
  rw [List.length_map, show i + 1 - ws.length = 0 by omega, List.replicate_zero, List.append_nil, List.map_set]
theorem Ins.set {S : AS} {ψ : Fm} {H : Hp} {w : V} (hw : ψ.p S w H) : ∀ {φs : List Fm} {ws : List V} (i : Nat), Ins S φs ws H → Ins S (φs.set i ψ) (ws.set i w) H
  | [], ws, i, h => by
    have : ws = [] := h
    subst this
    exact rfl
  | φ :: φs, _, 0, ⟨v, ws, rfl, h1, h2⟩ => ⟨w, ws, rfl, hw, h2⟩
  | φ :: φs, _, i + 1, ⟨v, ws, rfl, h1, h2⟩ => ⟨v, ws.set i w, rfl, h1, Ins.set hw i h2⟩
section
variable {S : AS} {K : PySem.W.Frag} {Γ Δ : Ctx} {I J L M : IV S} {ta tb te tl tv : TE} {t : TA} {φ ψ χ ξ : Fm} {φs ψs : List Fm} {R : VK} {N : L2.St → Hp → Prop} {r : R2} {u : TS} {st ds : Addr} {F : List Fm → IV S} {i : Nat} {f m : Str} {E : XK} {c : CTR}
theorem StAt.slt {H : Hp} {ws : List V} (h1 : H st = some (SlX.SlO st (C_State K) ds (ws.map some))) (h2 : H ds = some (.xd [])) : SlX.Slt H st (C_State K) ds (ws.map some) := .inr ⟨h1, h2⟩
theorem StAt.ne {H : Hp} {vs : List (Option V)} (h1 : H st = some (SlX.SlO st (C_State K) ds vs)) (h2 : H ds = some (.xd [])) : ds ≠ st := fun z => by
  rw [z, h1] at h2
  exact SlX.slO_not (Option.some.inj h2)
/-- behind a store into a slot -/
theorem StAt.set {H : Hp} {ws : List V} {w : V} (h1 : H st = some (SlX.SlO st (C_State K) ds (ws.map some))) (h2 : H ds = some (.xd [])) (h3 : Ins S φs ws H) (sub : S st) (sub2 : S ds) (hi : i < φs.length) (hw : ψ.p S w H) :
    XE (fun a => a = st ∨ a = ds) H (SlX.slH H st (C_State K) ds (SlX.putS i w (ws.map some))) ∧ StAt K S st ds (φs.set i ψ) (SlX.slH H st (C_State K) ds (SlX.putS i w (ws.map some))) := by
  have hne := StAt.ne h1 h2
  have hwl := h3.len
  have x : XE (fun a => a = st ∨ a = ds) H (SlX.slH H st (C_State K) ds (SlX.putS i w (ws.map some))) := fun a o hs ha => by
    rw [SlX.slH_ne (fun z => hs (.inl z)) (fun z => hs (.inr z))]
    exact ha
  have x2 : XE S H (SlX.slH H st (C_State K) ds (SlX.putS i w (ws.map some))) := x.sub fun a z => z.elim (fun z => by rw [z]; exact sub) fun z => by rw [z]; exact sub2
  refine ⟨x, ws.set i w, ?_, ?_, ?_⟩
  · rw [putS_in (by omega)]
    unfold SlX.slH
    exact upd_same
  · unfold SlX.slH
    rw [upd_ne hne, upd_same]
  · exact Ins.set (ψ.xe x2 hw) i (h3.xe x2)
theorem ge_slot (hF : StF K S st ds F) (ho : GE S Γ (F φs) te (Eqv (.ref st)) (F φs)) (sc : SlX.SCls K (C_State K)) (sl : ∃ p, SlX.Slot1 K (C_State K) f p i) (h : φs[i]? = some ψ) : GE S Γ (F φs) (SlX.tSl K te f) ψ (F φs) := fun σ H e hi Q q => ho σ H e hi _ fun v H1 l1 j1 p1 => by
  obtain rfl : v = .ref st := p1
  obtain ⟨ws, h1, h2, h3⟩ := hF.get _ H1 j1
  obtain ⟨w, h4, h5⟩ := h3.get h
  obtain ⟨p, hp⟩ := sl
  exact ⟨st, _, ds, p, _, i, w, rfl, StAt.slt h1 h2, sc, hp, by rw [List.getElem?_map, h4]; rfl, q w H1 l1 j1 h5⟩
theorem gs_slot (hF : StF K S st ds F) (hv : GE S Γ (F φs) tv ψ (F φs)) (ho : GE S Γ (F φs) ta (Eqv (.ref st)) (F φs)) (sc : SlX.SCls K (C_State K)) (sl : ∃ p, SlX.Slot1 K (C_State K) f p i) (hl : i < φs.length) : GS S Γ (F φs) (SlX.sSl K ta tv f) R (En S Γ (F (φs.set i ψ))) := fun σ H e hi D r n => hv σ H e hi _ fun v H1 l1 j1 p1 => ho σ H1 (e.xe l1) j1 _ fun u H2 l2 j2 p2 => by
  obtain rfl : u = .ref st := p2
  obtain ⟨ws, h1, h2, h3⟩ := hF.get _ H2 j2
  obtain ⟨p, hp⟩ := sl
  obtain ⟨x, a⟩ := StAt.set (i := i) h1 h2 h3 hF.sub hF.sub2 hl (ψ.xe l2 p1)
  have x2 := x.sub (T := S) fun a z => z.elim (fun z => by rw [z]; exact hF.sub) fun z => by rw [z]; exact hF.sub2
  exact ⟨st, _, ds, p, _, i, rfl, StAt.slt h1 h2, sc, hp, n _ _ ((l1.trans l2).trans x2) ⟨e.xe ((l1.trans l2).trans x2), hF.put _ _ _ _ j2 x a⟩⟩
/-- o.f1, o.f2, o.f3 = a tuple -/
theorem gs_slot3 {i1 i2 i3 : Nat} {f1 f2 f3 : Str} {ψ1 ψ2 ψ3 : Fm} {x1 x2 x3 : TE} (hF : StF K S st ds F) (hv : GE S Γ (F φs) tv (Tup K [ψ1, ψ2, ψ3]) (F φs)) (o1 : ∀ φs, GE S Γ (F φs) x1 (Eqv (.ref st)) (F φs)) (o2 : ∀ φs, GE S Γ (F φs) x2 (Eqv (.ref st)) (F φs)) (o3 : ∀ φs, GE S Γ (F φs) x3 (Eqv (.ref st)) (F φs)) (sc : SlX.SCls K (C_State K))
    (s1 : ∃ p, SlX.Slot1 K (C_State K) f1 p i1) (s2 : ∃ p, SlX.Slot1 K (C_State K) f2 p i2) (s3 : ∃ p, SlX.Slot1 K (C_State K) f3 p i3) (h1 : i1 < φs.length) (h2 : i2 < φs.length) (h3 : i3 < φs.length) :
    GS S Γ (F φs) (tAsg tv (gTup K 3 (gCons (gSlot K f1 x1) (gCons (gSlot K f2 x2) (gCons (gSlot K f3 x3) gNil))))) R (En S Γ (F (((φs.set i1 ψ1).set i2 ψ2).set i3 ψ3))) := fun σ H e hi D r n => hv σ H e hi _ fun v H1 l1 j1 p1 => by
  obtain ⟨a, xs, rfl, ht, v1, ws', rfl, q1, v2, ws'', rfl, q2, v3, ws''', rfl, q3, rfl⟩ := p1
  have sub : ∀ a, (a = st ∨ a = ds) → S a := fun a z => z.elim (fun z => by rw [z]; exact hF.sub) fun z => by rw [z]; exact hF.sub2
  obtain ⟨p1, hp1⟩ := s1
  obtain ⟨p2, hp2⟩ := s2
  obtain ⟨p3, hp3⟩ := s3
  refine ⟨a, _, rfl, ht.sq, rfl, ⟨v1, _, rfl, o1 _ σ H1 (e.xe l1) j1 _ fun u H2 l2 j2 k2 => ?_⟩⟩
  obtain rfl : u = .ref st := k2
  obtain ⟨ws, g1, g2, g3⟩ := hF.get _ H2 j2
  obtain ⟨x, b⟩ := StAt.set (i := i1) g1 g2 g3 hF.sub hF.sub2 h1 (ψ1.xe l2 q1)
  have j3 := hF.put _ _ _ _ j2 x b
  have l3 := (l1.trans l2).trans (x.sub sub)
  refine ⟨st, _, ds, p1, _, i1, rfl, StAt.slt g1 g2, sc, hp1, ⟨v2, _, rfl, o2 _ σ _ (e.xe l3) j3 _ fun u H4 l4 j4 k4 => ?_⟩⟩
  obtain rfl : u = .ref st := k4
  obtain ⟨ws4, g1', g2', g3'⟩ := hF.get _ H4 j4
  obtain ⟨x', b'⟩ := StAt.set (i := i2) g1' g2' g3' hF.sub hF.sub2 (by rw [List.length_set]; exact h2) (ψ2.xe (l2.trans ((x.sub sub).trans l4)) q2)
  have j5 := hF.put _ _ _ _ j4 x' b'
  have l5 := (l3.trans l4).trans (x'.sub sub)
  refine ⟨st, _, ds, p2, _, i2, rfl, StAt.slt g1' g2', sc, hp2, ⟨v3, _, rfl, o3 _ σ _ (e.xe l5) j5 _ fun u H6 l6 j6 k6 => ?_⟩⟩
  obtain rfl : u = .ref st := k6
  obtain ⟨ws6, g1'', g2'', g3''⟩ := hF.get _ H6 j6
  obtain ⟨x'', b''⟩ := StAt.set (i := i3) g1'' g2'' g3'' hF.sub hF.sub2 (by rw [List.length_set, List.length_set]; exact h3) (ψ3.xe ((l2.trans ((x.sub sub).trans l4)).trans ((x'.sub sub).trans l6)) q3)
  have j7 := hF.put _ _ _ _ j6 x'' b''
  have l7 := (l5.trans l6).trans (x''.sub sub)
  exact ⟨st, _, ds, p3, _, i3, rfl, StAt.slt g1'' g2'', sc, hp3, rfl, n _ _ l7 ⟨e.xe l7, j7⟩⟩
/-- st.m(..) -/
theorem ge_methZ (hF : StF K S st ds F) (ho : GE S Γ (F φs) ta (Eqv (.ref st)) (F φs)) (h : GA S Γ (F φs) t ψs (F φs)) (hc : c S ⟨F φs, L, Eqv (.ref st) :: ψs, χ⟩) : GE S Γ (F φs) (SlX.tMethSl (C_State K) (spC c) E ta t) χ L := fun σ H e hi Q q => ho σ H e hi _ fun v H1 l1 j1 p1 => by
  obtain rfl : v = .ref st := p1
  obtain ⟨ws, h1, h2, h3⟩ := hF.get _ H1 j1
  exact ⟨st, ds, _, rfl, StAt.slt h1 h2, h σ H1 (e.xe l1) j1 _ fun vs H2 l2 j2 p2 => ⟨S, _, hc, j2, ⟨_, vs, rfl, rfl, p2⟩, fun v H' l j p => q v H' ((l1.trans l2).trans l) j p⟩⟩
/-- t[-1], t[:-1] of a tuple with a last item -/
theorem gr_ixLast : GR S I (rIxT K) (Tup K (φs ++ [φ])) (Is K (.int (-1))) φ I := fun x y H hi h1 h2 Q q => by
  obtain rfl := Da.int_of h2
  obtain ⟨a, xs, rfl, h3, h4⟩ := h1
  have hl := h4.len
  rw [List.length_append] at hl
  obtain ⟨v, h5, h6⟩ := h4.get (i := φs.length) (φ := φ) (by rw [List.getElem?_append_right (Nat.le_refl _), Nat.sub_self]; rfl)
  have h7 : atI xs (-1) = some v := by
    have hl : xs.length = φs.length + 1 := hl
    unfold atI ixN
    rw [if_neg (by decide), if_pos (by omega), show ((-1 : Int) + (xs.length : Int)).toNat = φs.length by omega]
    exact h5
  exact ⟨a, xs, -1, v, rfl, rfl, h3.sq, h7, q v H (XE.refl S H) hi h6⟩
theorem ge_neg1 : GE S Γ I (tUn (rU fun i => .int (-i)) (tC (.int 1))) (Is K (.int (-1))) I := fun σ H e hi Q q => ⟨1, rfl, q _ H (XE.refl S H) hi (.int _)⟩
theorem po_neg1 (σ : L2.St) (H : Hp) : ∀ Q : Option Int → Hp → Prop, Q (some (-1)) H → tPart (tUn (rU fun i => .int (-i)) (tC (.int 1))) σ H Q := fun Q q => ⟨1, rfl, -1, rfl, q⟩
theorem cut_last {α : Type} {φs : List α} {φ : α} : cutF (φs ++ [φ]) none (some (-1)) = φs := by
  unfold cutF
  have e1 : HT.sIx (φs ++ [φ]).length 0 none = 0 := rfl
  have e2 : HT.sIx (φs ++ [φ]).length (φs ++ [φ]).length (some (-1)) = φs.length := by
    rw [List.length_append]
    show HT.sIx (φs.length + 1) (φs.length + 1) (some (-1)) = φs.length
    simp [HT.sIx]; omega
  rw [e1, e2, Nat.sub_zero, List.drop_zero, List.take_left]
end
section
variable (K : PySem.W.Frag)
def ct_State_all_three : CTR := fun S k => ∃ st ds F a b c u v, StF K S st ds F ∧ k.I = F [b, u, a, c, v] ∧ k.J = F [b, u, a, c, v] ∧ k.ins = [Eqv (.ref st)] ∧ k.out = Tup K [a, b, c]
def ct_State_go_on : CTR := fun S k => ∃ st ds F a b c ps v op a' b' c', StF K S st ds F ∧ ps.length ≤ 900 ∧ k.I = F [b, Tup K ps, a, c, v] ∧ k.J = F [b', Tup K (ps ++ [Tup K [op, Tup K [a, b, c]]]), a', c', Tup K []] ∧ k.ins = [Eqv (.ref st), op, Tup K [a', b', c']] ∧ k.out = Is K .none
def ct_State_go_back : CTR := fun S k => ∃ st ds F a b c ps us op a' b' c', StF K S st ds F ∧ ps.length ≤ 900 ∧ us.length ≤ 900 ∧ k.I = F [b, Tup K (ps ++ [Tup K [op, Tup K [a', b', c']]]), a, c, Tup K us] ∧ k.J = F [b', Tup K ps, a', c', Tup K (us ++ [Tup K [op, Tup K [a, b, c]]])] ∧ k.ins = [Eqv (.ref st)] ∧ k.out = Is K .none
def ct_State_go_again : CTR := fun S k => ∃ st ds F a b c ps us op a' b' c', StF K S st ds F ∧ ps.length ≤ 900 ∧ us.length ≤ 900 ∧ k.I = F [b, Tup K ps, a, c, Tup K (us ++ [Tup K [op, Tup K [a', b', c']]])] ∧ k.J = F [b', Tup K (ps ++ [Tup K [op, Tup K [a, b, c]]]), a', c', Tup K us] ∧ k.ins = [Eqv (.ref st)] ∧ k.out = Is K .none
end
end Hs
set_option Elab.async false
set_option linter.all false
set_option maxRecDepth 100000
set_option maxHeartbeats 4000000
/-! a state made, copied; a trial entered, held, left: by heaps -/
namespace Hs
open PySem PySem.Spec PyProof.Rows L2 StX
abbrev slO (K : PySem.W.Frag) (st ds : Addr) (ws : List V) : HO := SlX.SlO st (C_State K) ds (ws.map some)
theorem ins_slO {K : PySem.W.Frag} {C dx st ds : Addr} {fs : List (Str × V)} {ws : List V} : HO.ins C dx fs ≠ slO K st ds ws := fun z => by
  unfold slO SlX.SlO at z
  cases z
theorem slO_xd {K : PySem.W.Frag} {st ds : Addr} {ws : List V} : slO K st ds ws ≠ HO.xd [] := fun z => by
  unfold slO SlX.SlO at z
  cases z
/-- State(whole, past, undone) -/
def spSt (K : PySem.W.Frag) : Sp := fun vs H Q _ => ∃ x t vp vu a b c dx, vs = [.ref x, .ref t, vp, vu] ∧ H x = some (.ins (C_State K) dx []) ∧ dx ≠ x ∧ SqT K H t [a, b, c] ∧
  ∀ H', (∀ y, y ≠ x → y ≠ dx → H' y = H y) → H' x = some (slO K x dx [b, vp, a, c, vu]) → H' dx = some (.xd []) → Q .non H'
/-- self.copied() -/
def spCop (K : PySem.W.Frag) : Sp := fun vs H Q _ => ∃ st ds v0 v1 v2 v3 v4, vs = [.ref st] ∧ H st = some (slO K st ds [v0, v1, v2, v3, v4]) ∧ H ds = some (.xd []) ∧
  ∀ H' x dx, H x = none → H dx = none → dx ≠ x → Same H H' → H' x = some (slO K x dx [v0, v1, v2, v3, v4]) → H' dx = some (.xd []) → Q (.ref x) H'
abbrev trF (a b c d : V) : List (Str × V) := [("tested_desk", a), ("origin", b), ("fresh", c), ("chosen", d)]
abbrev dkF (st : Addr) : List (Str × V) := [("state", .ref st)]
def spTrI (K : PySem.W.Frag) : Sp := fun vs H Q _ => ∃ x dx dk dxd st, vs = [.ref x, .ref dk] ∧ H x = some (.ins (C_Trial K) dx []) ∧ H dk = some (.ins (C_Desk K) dxd (dkF st)) ∧ Q .non (upd H x (.ins (C_Trial K) dx (trF (.ref dk) (.ref st) (.ref st) (.ref st))))
def spTrH (K : PySem.W.Frag) : Sp := fun vs H Q _ => ∃ x dx a b c d, vs = [.ref x] ∧ H x = some (.ins (C_Trial K) dx (trF a b c d)) ∧ Q .non (upd H x (.ins (C_Trial K) dx (trF a b c c)))
def spTrE (K : PySem.W.Frag) : Sp := fun vs H Q _ => ∃ x dx dk dxd st ds b c d v0 v1 v2 v3 v4, vs = [.ref x] ∧ H x = some (.ins (C_Trial K) dx (trF (.ref dk) b c d)) ∧ H dk = some (.ins (C_Desk K) dxd (dkF st)) ∧ x ≠ dk ∧ H st = some (slO K st ds [v0, v1, v2, v3, v4]) ∧ H ds = some (.xd []) ∧
  ∀ H' s1 d1 s2 d2, H s1 = none → H d1 = none → H s2 = none → H d2 = none → d1 ≠ s1 → d2 ≠ s2 → s1 ≠ s2 → s1 ≠ d2 → d1 ≠ s2 → d1 ≠ d2 → (∀ a o, a ≠ x → a ≠ dk → H a = some o → H' a = some o) →
    H' x = some (.ins (C_Trial K) dx (trF (.ref dk) (.ref st) (.ref s2) (.ref s1))) → H' dk = some (.ins (C_Desk K) dxd (dkF s2)) → H' s1 = some (slO K s1 d1 [v0, v1, v2, v3, v4]) → H' d1 = some (.xd []) → H' s2 = some (slO K s2 d2 [v0, v1, v2, v3, v4]) → H' d2 = some (.xd []) → Q (.ref x) H'
def spTrX (K : PySem.W.Frag) : Sp := fun vs H Q _ => ∃ x dx dk dxd st ds ch dc c s v0 v1 v2 v3 v4 u0 u1 u2 u3 u4, vs = [.ref x, .non, .non, .non] ∧ H x = some (.ins (C_Trial K) dx (trF (.ref dk) (.ref st) c (.ref ch))) ∧ H dk = some (.ins (C_Desk K) dxd (dkF s)) ∧ x ≠ dk ∧
  H st = some (slO K st ds [v0, v1, v2, v3, v4]) ∧ H ds = some (.xd []) ∧ H ch = some (slO K ch dc [u0, u1, u2, u3, u4]) ∧ H dc = some (.xd []) ∧ ch ≠ st ∧ dc ≠ ds ∧
  ∀ H', (∀ a, a ≠ st → a ≠ ds → a ≠ dk → H' a = H a) → H' st = some (slO K st ds [u0, u1, u2, u3, u4]) → H' ds = some (.xd []) → H' dk = some (.ins (C_Desk K) dxd (dkF st)) → Q .non H'
/-- a state by itself -/
def stS (st ds : Addr) : AS := fun a => a = st ∨ a = ds
def IV.st (K : PySem.W.Frag) (st ds : Addr) (φs : List Fm) : IV (stS st ds) := ⟨fun H => StAt K (stS st ds) st ds φs H,
  fun {H H'} e ⟨ws, h1, h2, h3⟩ => ⟨ws, e.2 _ _ (.inl rfl) h1, e.2 _ _ (.inr rfl) h2, h3.le e.any⟩, fun {H} ⟨ws, h1, h2, h3⟩ a ha => ha.elim (fun z => by rw [z]; exact ⟨_, h1, rfl⟩) fun z => by rw [z]; exact ⟨_, h2, rfl⟩⟩
theorem st_fam (K : PySem.W.Frag) (st ds : Addr) : StF K (stS st ds) st ds (IV.st K st ds) := ⟨.inl rfl, .inr rfl, fun _ _ h => h, fun _ _ _ _ _ _ h => h⟩
theorem ins5 {S : AS} {H : Hp} {v0 v1 v2 v3 v4 : V} {ws : List V} (h : Ins S [Eqv v0, Eqv v1, Eqv v2, Eqv v3, Eqv v4] ws H) : ws = [v0, v1, v2, v3, v4] := by
  obtain ⟨w0, _, rfl, e0, w1, _, rfl, e1, w2, _, rfl, e2, w3, _, rfl, e3, w4, _, rfl, e4, rfl⟩ := h
  rw [show w0 = v0 from e0, show w1 = v1 from e1, show w2 = v2 from e2, show w3 = v3 from e3, show w4 = v4 from e4]
/-- a call of a method of a state by itself: all stands -/
theorem st_all {K : PySem.W.Frag} {st ds : Addr} {v0 v1 v2 v3 v4 : V} {H : Hp} {Q : VK} {E : XK} (h1 : H st = some (slO K st ds [v0, v1, v2, v3, v4])) (h2 : H ds = some (.xd []))
    (q : ∀ p H', Same H H' → SqT K H' p [v2, v0, v3] → Q (.ref p) H') : spC (ct_State_all_three K) [.ref st] H Q E := by
  refine ⟨stS st ds, ⟨IV.st K st ds [Eqv v0, Eqv v1, Eqv v2, Eqv v3, Eqv v4], IV.st K st ds [Eqv v0, Eqv v1, Eqv v2, Eqv v3, Eqv v4], [Eqv (.ref st)], Tup K [Eqv v2, Eqv v0, Eqv v3]⟩, ⟨st, ds, IV.st K st ds, _, _, _, _, _, st_fam K st ds, rfl, rfl, rfl, rfl⟩, ⟨_, h1, h2, _, _, rfl, rfl, _, _, rfl, rfl, _, _, rfl, rfl, _, _, rfl, rfl, _, _, rfl, rfl, rfl⟩, ⟨_, _, rfl, rfl, rfl⟩, ?_⟩
  rintro v H' x ⟨ws, k1, k2, k3⟩ ⟨a, xs, rfl, h3, w2, _, rfl, e2, w0, _, rfl, e0, w3, _, rfl, e3, rfl⟩
  have ew := ins5 k3
  subst ew
  rw [show w2 = v2 from e2, show w0 = v0 from e0, show w3 = v3 from e3] at h3
  refine q a H' (fun y o hy => ?_) h3.sq
  by_cases z : y = st
  · rw [z] at hy ⊢
    rw [h1] at hy
    rw [k1]
    exact hy
  · by_cases z2 : y = ds
    · rw [z2] at hy ⊢
      rw [h2] at hy
      rw [k2]
      exact hy
    · exact x y o (fun w => w.elim z z2) hy
theorem sqt_same {K : PySem.W.Frag} {H H' : Hp} {p : Addr} {xs : List V} (e : Same H H') (h : SqT K H p xs) : SqT K H' p xs := h.elim (fun z => z.elim (fun z => .inl (.inl (e _ _ z))) fun ⟨o, z⟩ => .inl (.inr ⟨o, e _ _ z⟩)) .inr
theorem none_same {H H' : Hp} {p : Addr} (e : Same H H') (h : H' p = none) : H p = none := by
  cases z : H p with
  | none => rfl
  | some o => rw [e p o z] at h; cases h
theorem sl_none {K : PySem.W.Frag} {st ds : Addr} {ws : List V} {H : Hp} (h1 : H st = some (slO K st ds ws)) (h2 : H ds = some (.xd [])) : SlX.Slt H st (C_State K) ds (ws.map some) := .inr ⟨h1, h2⟩
theorem upd_none {H : Hp} {x p : Addr} {o : HO} (h : upd H x o p = none) : H p = none ∧ p ≠ x := by
  have hn : p ≠ x := fun z => by
    rw [z, upd_same] at h
    cases h
  rw [upd_ne hn] at h
  exact ⟨h, hn⟩
theorem puts0 {vu vp a b c : V} : SlX.putS 4 vu (SlX.putS 1 vp (SlX.putS 3 c (SlX.putS 0 b (SlX.putS 2 a [])))) = [b, vp, a, c, vu].map some := by simp [SlX.putS, List.replicate]
theorem puts5 {v0 v1 v2 v3 v4 vu vp a b c : V} : SlX.putS 4 vu (SlX.putS 1 vp (SlX.putS 3 c (SlX.putS 0 b (SlX.putS 2 a ([v0, v1, v2, v3, v4].map some))))) = [b, vp, a, c, vu].map some := by simp [SlX.putS]
end Hs
set_option Elab.async false
set_option linter.all false
set_option maxRecDepth 100000
set_option maxHeartbeats 4000000
/-! a desk by what it has; a block in which it is tried -/
namespace Hs
open PySem PySem.Spec PyProof.Rows L2 StX
structure DkF (K : PySem.W.Frag) (S : AS) (dk st ds : Addr) (F : List Fm → IV S) : Prop extends StF K S st ds F where
  subD : S dk
  desk : ∀ φs H, (F φs).p H → ∃ dx, H dk = some (.ins (C_Desk K) dx (dkF st))
/-- the object x of a trial: hold makes it so -/
structure TrF (K : PySem.W.Frag) (T : AS) (x : Addr) (F : Bool → List Fm → IV T) : Prop where
  sub : T x
  get : ∀ h φs H, (F h φs).p H → ∃ tx a b c d, H x = some (.ins (C_Trial K) tx (trF a b c d)) ∧ (F true φs).p (upd H x (.ins (C_Trial K) tx (trF a b c c)))
section
variable {S : AS} {K : PySem.W.Frag} {Γ Δ : Ctx} {I J L M : IV S} {ta tb te tl tv : TE} {t : TA} {φ ψ χ ξ : Fm} {φs ψs : List Fm} {R : VK} {N : L2.St → Hp → Prop} {r : R2} {u : TS} {dk st ds x : Addr} {F : List Fm → IV S} {G : Bool → List Fm → IV S} {i : Nat} {f m : Str} {E : XK} {c : CTR} {h : Bool}
theorem ge_state (hF : DkF K S dk st ds F) (cl : Cls K (C_Desk K)) (na : NoAttr K (C_Desk K) "state") (ho : GE S Γ (F φs) te (Eqv (.ref dk)) (F φs)) : GE S Γ (F φs) (tFld K te "state") (Eqv (.ref st)) (F φs) := fun σ H e hi Q q => ho σ H e hi _ fun v H1 l1 j1 p1 => by
  obtain rfl : v = .ref dk := p1
  obtain ⟨dx, hd⟩ := hF.desk _ H1 j1
  exact ⟨dk, _, dx, _, .ref st, rfl, hd, cl, na, rfl, q _ H1 l1 j1 rfl⟩
theorem ge_methD (hF : DkF K S dk st ds F) (hm : (dkF st).lookup m = none) (ho : GE S Γ (F φs) ta (Eqv (.ref dk)) (F φs)) (ha : GA S Γ (F φs) t ψs (F φs)) (hc : c S ⟨F φs, L, Eqv (.ref dk) :: ψs, χ⟩) : GE S Γ (F φs) (tMethR (C_Desk K) m (spC c) E ta t) χ L := fun σ H e hi Q q => ho σ H e hi _ fun v H1 l1 j1 p1 => by
  obtain rfl : v = .ref dk := p1
  obtain ⟨dx, hd⟩ := hF.desk _ H1 j1
  exact ⟨dk, dx, _, rfl, hd, hm, ha σ H1 (e.xe l1) j1 _ fun vs H2 l2 j2 p2 => ⟨S, _, hc, j2, ⟨_, vs, rfl, rfl, p2⟩, fun v H' l j p => q v H' ((l1.trans l2).trans l) j p⟩⟩
theorem ge_propD (hF : DkF K S dk st ds F) (ho : GE S Γ (F φs) ta (Eqv (.ref dk)) (F φs)) (hc : c S ⟨F φs, L, [Eqv (.ref dk)], χ⟩) : GE S Γ (F φs) (tPropR (C_Desk K) (spC c) E ta) χ L := fun σ H e hi Q q => ho σ H e hi _ fun v H1 l1 j1 p1 => by
  obtain rfl : v = .ref dk := p1
  obtain ⟨dx, hd⟩ := hF.desk _ H1 j1
  exact ⟨dk, dx, _, rfl, hd, S, _, hc, j1, ⟨_, [], rfl, rfl, rfl⟩, fun v H' l j p => q v H' (l1.trans l) j p⟩
theorem ge_hold (hG : TrF K S x G) (ho : GE S Γ (G h φs) ta (Eqv (.ref x)) (G h φs)) : GE S Γ (G h φs) (tMethR (C_Trial K) "hold" (spTrH K) E ta tNil) (Is K .none) (G true φs) := fun σ H e hi Q q => ho σ H e hi _ fun v H1 l1 j1 p1 => by
  obtain rfl : v = .ref x := p1
  obtain ⟨tx, a, b, c, d, hx, hp⟩ := hG.get _ _ H1 j1
  exact ⟨x, tx, _, rfl, hx, rfl, x, tx, a, b, c, d, rfl, hx, q _ _ (l1.trans (XE.mut hG.sub)) hp .non⟩
end
/-! the block -/
def TrS (S : AS) (x s1 d1 s2 d2 : Addr) : AS := fun a => S a ∨ a = x ∨ a = s1 ∨ a = d1 ∨ a = s2 ∨ a = d2
abbrev TrD (dk x s1 d1 s2 d2 : Addr) (a : Addr) : Prop := a = dk ∨ a = x ∨ a = s1 ∨ a = d1 ∨ a = s2 ∨ a = d2
/-- what the block hides: the desk as it was, and none of the new -/
def TrB {S : AS} (K : PySem.W.Frag) (I : IV S) (dk dxd st x s1 d1 s2 d2 : Addr) (H : Hp) : Prop := ∀ H' : Hp, (∀ a, ¬ TrD dk x s1 d1 s2 d2 a → H' a = H a) → H' dk = some (.ins (C_Desk K) dxd (dkF st)) → I.p H'
theorem TrB.step {S T : AS} {K : PySem.W.Frag} {I : IV S} {dk dxd st x s1 d1 s2 d2 : Addr} {H H2 : Hp} (hb : TrB K I dk dxd st x s1 d1 s2 d2 H) (hd : ∀ a o, ¬ TrD dk x s1 d1 s2 d2 a → H a = some o → ∃ o', H2 a = some o' ∧ nk o' = nk o) (hs : ∀ a o, ¬ TrD dk x s1 d1 s2 d2 a → S a → H a = some o → H2 a = some o) : TrB K I dk dxd st x s1 d1 s2 d2 H2 := fun H' ha hk => by
  have h1 : I.p (fun a => if TrD dk x s1 d1 s2 d2 a then H' a else H a) := hb _ (fun a hn => if_neg hn) (by rw [if_pos (.inl rfl)]; exact hk)
  refine I.le ⟨fun a o _ h => ?_, fun a o hS h => ?_⟩ h1
  · by_cases hn : TrD dk x s1 d1 s2 d2 a
    · simp only [if_pos hn] at h
      exact ⟨o, h, rfl⟩
    · simp only [if_neg hn] at h
      rw [ha a hn]
      exact hd a o hn h
  · by_cases hn : TrD dk x s1 d1 s2 d2 a
    · simp only [if_pos hn] at h
      exact h
    · simp only [if_neg hn] at h
      rw [ha a hn]
      exact hs a o hn hS h
/-- the desk as it was, at this heap -/
def TrH (K : PySem.W.Frag) (dk dxd st : Addr) (H : Hp) : Hp := upd H dk (.ins (C_Desk K) dxd (dkF st))
theorem TrB.at_ {S : AS} {K : PySem.W.Frag} {I : IV S} {dk dxd st x s1 d1 s2 d2 : Addr} {H : Hp} (hb : TrB K I dk dxd st x s1 d1 s2 d2 H) : I.p (TrH K dk dxd st H) := hb _ (fun a hn => upd_ne fun z => hn (.inl z)) upd_same
def IV.tr {S : AS} (K : PySem.W.Frag) (I : IV S) (dk dxd st x tx s1 d1 s2 d2 : Addr) (h : Bool) (φs φs' : List Fm) : IV (TrS S x s1 d1 s2 d2) := ⟨fun H => TrB K I dk dxd st x s1 d1 s2 d2 H ∧ S dk ∧ H dk = some (.ins (C_Desk K) dxd (dkF s2)) ∧
    H x = some (.ins (C_Trial K) tx (trF (.ref dk) (.ref st) (.ref s2) (.ref (if h then s2 else s1)))) ∧ StAt K (TrS S x s1 d1 s2 d2) s1 d1 φs H ∧ StAt K (TrS S x s1 d1 s2 d2) s2 d2 φs' H,
  fun {H H'} e ⟨hb, sd, h1, h2, ⟨ws, h3, h4, h5⟩, us, h6, h7, h8⟩ => ⟨hb.step (T := TrS S x s1 d1 s2 d2) (fun a o _ ho => e.1 a o (fun z => z) ho) fun a o _ hS ho => e.2 a o (.inl hS) ho, sd, e.2 _ _ (.inl sd) h1, e.2 _ _ (.inr (.inl rfl)) h2,
    ⟨ws, e.2 _ _ (.inr (.inr (.inl rfl))) h3, e.2 _ _ (.inr (.inr (.inr (.inl rfl)))) h4, h5.le e.any⟩, us, e.2 _ _ (.inr (.inr (.inr (.inr (.inl rfl))))) h6, e.2 _ _ (.inr (.inr (.inr (.inr (.inr rfl))))) h7, h8.le e.any⟩,
  fun {H} ⟨hb, sd, h1, h2, ⟨ws, h3, h4, h5⟩, us, h6, h7, h8⟩ a ha => by
    rcases ha with ha | rfl | rfl | rfl | rfl | rfl
    · obtain ⟨o, k1, k2⟩ := I.dom hb.at_ a ha
      by_cases z : a = dk
      · subst z
        exact ⟨_, h1, rfl⟩
      · unfold TrH at k1
        rw [upd_ne z] at k1
        exact ⟨o, k1, k2⟩
    · exact ⟨_, h2, rfl⟩
    · exact ⟨_, h3, rfl⟩
    · exact ⟨_, h4, rfl⟩
    · exact ⟨_, h6, rfl⟩
    · exact ⟨_, h7, rfl⟩⟩
section
variable {S : AS} {K : PySem.W.Frag} {dk dxd st ds x tx s1 d1 s2 d2 : Addr} {F : List Fm → IV S} {φs : List Fm}
theorem tr_dk (sd : S dk) (n1 : s1 ≠ s2) (n2 : d1 ≠ d2) (h : Bool) : DkF K (TrS S x s1 d1 s2 d2) dk s2 d2 (IV.tr K (F φs) dk dxd st x tx s1 d1 s2 d2 h φs) := by
  refine ⟨⟨.inr (.inr (.inr (.inr (.inl rfl)))), .inr (.inr (.inr (.inr (.inr rfl)))), fun φs' H hh => hh.2.2.2.2.2, fun φs' φs'' H H' ⟨hb, sd, h1, h2, ⟨ws, h3, h4, h5⟩, us, h6, h7, h8⟩ e b => ?_⟩, .inl sd, fun φs' H hh => ⟨dxd, hh.2.2.1⟩⟩
  have k1 : dk ≠ s2 := fun z => by rw [z, h6] at h1; exact ins_slO (Option.some.inj h1).symm
  have k2 : dk ≠ d2 := fun z => by rw [z, h7] at h1; cases h1
  have k3 : x ≠ s2 := fun z => by rw [z, h6] at h2; exact ins_slO (Option.some.inj h2).symm
  have k4 : x ≠ d2 := fun z => by rw [z, h7] at h2; cases h2
  have k5 : s1 ≠ d2 := fun z => by rw [z, h7] at h3; exact slO_xd (Option.some.inj h3).symm
  have k6 : d1 ≠ s2 := fun z => by rw [z, h6] at h4; exact slO_xd (Option.some.inj h4)
  have e2 : XE (TrS S x s1 d1 s2 d2) H H' := e.sub fun a z => z.elim (fun z => .inr (.inr (.inr (.inr (.inl z))))) fun z => .inr (.inr (.inr (.inr (.inr z))))
  have nD : ∀ a, ¬ TrD dk x s1 d1 s2 d2 a → ¬ (a = s2 ∨ a = d2) := fun a hn z => hn (z.elim (fun z => .inr (.inr (.inr (.inr (.inl z))))) fun z => .inr (.inr (.inr (.inr (.inr z)))))
  have ne2 : ∀ {a : Addr}, a ≠ s2 → a ≠ d2 → ¬ (a = s2 ∨ a = d2) := fun h1 h2 z => z.elim h1 h2
  exact ⟨hb.step (T := S) (fun a o hn ho => ⟨o, e a o (nD a hn) ho, rfl⟩) fun a o hn _ ho => e a o (nD a hn) ho, sd, e _ _ (ne2 k1 k2) h1, e _ _ (ne2 k3 k4) h2, ⟨ws, e _ _ (ne2 n1 k5) h3, e _ _ (ne2 k6 n2) h4, h5.xe e2⟩, b⟩
theorem tr_hold (n1 : s1 ≠ s2) (sd : S dk) : TrF K (TrS S x s1 d1 s2 d2) x (fun h φs' => IV.tr K (F φs) dk dxd st x tx s1 d1 s2 d2 h φs φs') := by
  refine ⟨.inr (.inl rfl), fun h φs' H ⟨hb, sd, h1, h2, ⟨ws, h3, h4, h5⟩, us, h6, h7, h8⟩ => ⟨tx, _, _, _, _, h2, ?_⟩⟩
  have e2 : XE (TrS S x s1 d1 s2 d2) H (upd H x (.ins (C_Trial K) tx (trF (.ref dk) (.ref st) (.ref s2) (.ref s2)))) := XE.mut (.inr (.inl rfl))
  have k1 : dk ≠ x := fun z => by
    rw [z, h2] at h1
    exact nomatch (HO.ins.inj (Option.some.inj h1)).2.2
  have k2 : s1 ≠ x := fun z => by rw [z, h2] at h3; exact ins_slO (Option.some.inj h3)
  have k3 : d1 ≠ x := fun z => by rw [z, h2] at h4; cases h4
  have k4 : s2 ≠ x := fun z => by rw [z, h2] at h6; exact ins_slO (Option.some.inj h6)
  have k5 : d2 ≠ x := fun z => by rw [z, h2] at h7; cases h7
  refine ⟨hb.step (T := S) (fun a o hn ho => ⟨o, ?_, rfl⟩) fun a o hn _ ho => ?_, sd, by rw [upd_ne k1]; exact h1, upd_same, ⟨ws, by rw [upd_ne k2]; exact h3, by rw [upd_ne k3]; exact h4, h5.xe e2⟩, us, by rw [upd_ne k4]; exact h6, by rw [upd_ne k5]; exact h7, h8.xe e2⟩
  · rw [upd_ne fun z => hn (.inr (.inl z))]
    exact ho
  · rw [upd_ne fun z => hn (.inr (.inl z))]
    exact ho
theorem ins_five {S : AS} {H : Hp} {a b c d e : Fm} {ws : List V} (h : Ins S [a, b, c, d, e] ws H) : ∃ v0 v1 v2 v3 v4, ws = [v0, v1, v2, v3, v4] := by
  obtain ⟨w0, _, rfl, _, w1, _, rfl, _, w2, _, rfl, _, w3, _, rfl, _, w4, _, rfl, _, rfl⟩ := h
  exact ⟨_, _, _, _, _, rfl⟩
end
section
variable {S : AS} {K : PySem.W.Frag} {Γ Δ : Ctx} {I J L M : IV S} {ta tb tc te td ty : TE} {t : TA} {φ ψ χ ξ : Fm} {φs ψs fs : List Fm} {R : VK} {N : L2.St → Hp → Prop} {u tbd : TS} {i : Nat} {E : XK} {dk st ds : Addr} {F : List Fm → IV S} {c0 c1 c2 c3 c4 : Fm}
/-- with Trial(desk) as n: .. (no return in it) -/
theorem gs_with {β : Type} {P : β → Prop} {Δ : β → Ctx} {hb : β → Bool} {φb : β → List Fm} (hF : DkF K S dk st ds F) (hd : GA S Γ (F [c0, c1, c2, c3, c4]) t [Eqv (.ref dk)] (F [c0, c1, c2, c3, c4])) (h5 : ∀ b, P b → ∃ p q r s t, φb b = [p, q, r, s, t])
    (k : ∀ (T : AS) (x s2 d2 : Addr) (G : Bool → List Fm → IV T), (∀ a, S a → T a) → (∀ h, DkF K T dk s2 d2 (G h)) → TrF K T x G → GS T (Γ.set i (some (Eqv (.ref x)))) (G false [c0, c1, c2, c3, c4]) tbd (fun _ _ => False) (fun σ H => ∃ b, P b ∧ En T (Δ b) (G (hb b) (φb b)) σ H)) :
    GS S Γ (F [c0, c1, c2, c3, c4]) (tWith (C_Trial K) (spTrE K) (spTrX K) i (tMakeR (C_Trial K) (spTrI K) E t) tbd) R (fun σ H => ∃ x, P x ∧ En S (Δ x) (F (if hb x then φb x else [c0, c1, c2, c3, c4])) σ H) := fun σ H e hi D r n => hd σ H e hi _ fun vs H1 l1 j1 p1 x tx hx htx hne => by
  obtain ⟨v, _, rfl, p2, rfl⟩ := p1
  obtain rfl : v = .ref dk := p2
  obtain ⟨dxd, hdk⟩ := hF.desk _ H1 j1
  obtain ⟨ws, g1, g2, g3⟩ := hF.get _ H1 j1
  obtain ⟨w0, w1, w2, w3, w4, rfl⟩ := ins_five g3
  have sm : ∀ a o, H1 a = some o → (upd (upd H1 tx (.own x)) x (.ins (C_Trial K) tx [])) a = some o := fun a o ha => by rw [upd_ne (ne_of_none ha hx), upd_ne (ne_of_none ha htx)]; exact ha
  have ndx := ne_of_none hdk hx
  refine ⟨x, tx, dk, dxd, st, rfl, upd_same, sm _ _ hdk, ⟨rfl, x, tx, _, rfl, upd_same, ?_⟩⟩
  rw [upd_upd]
  have sm2 : ∀ {fs} a o, H1 a = some o → (upd (upd H1 tx (.own x)) x (.ins (C_Trial K) tx fs)) a = some o := fun {fs} a o ha => by rw [upd_ne (ne_of_none ha hx), upd_ne (ne_of_none ha htx)]; exact ha
  refine ⟨x, tx, dk, dxd, st, ds, _, _, _, w0, w1, w2, w3, w4, rfl, upd_same, sm2 _ _ hdk, Ne.symm ndx, sm2 _ _ g1, sm2 _ _ g2, fun H' s1 d1 s2 d2 z1 z2 z3 z4 m1 m2 n1 n2 n3 n4 hk k1 k2 k3 k4 k5 k6 => ?_⟩
  -- what was none at the start
  have nn : ∀ {p}, (upd (upd H1 tx (.own x)) x (.ins (C_Trial K) tx (trF (.ref dk) (.ref st) (.ref st) (.ref st)))) p = none → H1 p = none := fun {p} hp => by
    cases z : H1 p with
    | none => rfl
    | some o => rw [sm2 p o z] at hp; cases hp
  have y1 := nn z1
  have y2 := nn z2
  have y3 := nn z3
  have y4 := nn z4
  have up : ∀ a o, a ≠ dk → H1 a = some o → H' a = some o := fun a o nd ha => hk a o (ne_of_none ha hx) nd (sm2 a o ha)
  have toT : ∀ a, TrS S x s1 d1 s2 d2 a → S a ∨ H1 a = none := fun a ha => by
    rcases ha with ha | rfl | rfl | rfl | rfl | rfl
    · exact .inl ha
    · exact .inr hx
    · exact .inr y1
    · exact .inr y2
    · exact .inr y3
    · exact .inr y4
  have xT : XE (TrS S x s1 d1 s2 d2) H1 H' := fun a o hn ha => up a o (fun z => hn (.inl (by rw [z]; exact hF.subD))) ha
  have i0 : TrB K (F [c0, c1, c2, c3, c4]) dk dxd st x s1 d1 s2 d2 H' := fun H2 h2 hk2 => by
    refine (F [c0, c1, c2, c3, c4]).le ⟨fun y o _ hy => ⟨o, ?_, rfl⟩, fun y o _ hy => ?_⟩ j1 <;>
    · by_cases z : y = dk
      · rw [z] at hy ⊢
        rw [hk2, ← hdk]
        exact hy
      · rw [h2 y fun w => ?_]
        · exact up y o z hy
        · rcases w with w | w | w | w | w | w
          · exact z w
          · exact ne_of_none hy hx w
          · exact ne_of_none hy y1 w
          · exact ne_of_none hy y2 w
          · exact ne_of_none hy y3 w
          · exact ne_of_none hy y4 w
  have gT := (g3.lift toT).xe xT
  have jT : (IV.tr K (F [c0, c1, c2, c3, c4]) dk dxd st x tx s1 d1 s2 d2 false [c0, c1, c2, c3, c4] [c0, c1, c2, c3, c4]).p H' := ⟨i0, hF.subD, k2, k1, ⟨_, k3, k4, gT⟩, _, k5, k6, gT⟩
  have eT : Env (TrS S x s1 d1 s2 d2) Γ σ H' := (Env.lift toT (e.xe l1)).xe xT
  refine k (TrS S x s1 d1 s2 d2) x s2 d2 (fun h φs' => IV.tr K (F [c0, c1, c2, c3, c4]) dk dxd st x tx s1 d1 s2 d2 h [c0, c1, c2, c3, c4] φs') (fun a ha => .inl ha) (fun h => tr_dk hF.subD n1 n4 h) (tr_hold n1 hF.subD) _ H' (eT.set i (φ := Eqv (.ref x)) rfl) jT _ (fun v H2 _ z => z.elim) fun σ' H2 x2 ⟨b', hP, e3, j3⟩ => ?_
  obtain ⟨ib, sd, q1, q2, ⟨us1, q3, q4, q5⟩, us2, q6, q7, q8⟩ := j3
  have j4 := ib.at_
  obtain ⟨ws', f1, f2, f3⟩ := hF.get _ _ j4
  obtain ⟨v0, v1, v2, v3, v4, rfl⟩ := ins_five f3
  have nst : st ≠ dk := fun z => by
    unfold TrH at f1
    rw [z, upd_same] at f1
    exact ins_slO (Option.some.inj f1)
  have nds : ds ≠ dk := fun z => by
    unfold TrH at f2
    rw [z, upd_same] at f2
    cases f2
  unfold TrH at f1 f2
  rw [upd_ne nst] at f1
  rw [upd_ne nds] at f2
  have nx : x ≠ dk := Ne.symm ndx
  -- the state that is taken over
  obtain ⟨p0, p1, p2, p3, p4, e5⟩ := h5 b' hP
  have fin : ∀ (ch dc : Addr) (φc : List Fm) (us : List V) (o0 o1 o2 o3 o4 : Fm), φc = [o0, o1, o2, o3, o4] → (if hb b' then s2 else s1) = ch → H2 ch = some (slO K ch dc us) → H2 dc = some (.xd []) → Ins (TrS S x s1 d1 s2 d2) φc us H2 → ch ≠ st → dc ≠ ds → (if hb b' then φb b' else [c0, c1, c2, c3, c4]) = φc →
      spTrX K [.ref x, .non, .non, .non] H2 (fun _ H3 => D.nx σ' H3) E0 := fun ch dc φc us o0 o1 o2 o3 o4 ec eh t1 t2 t3 t4 t5 ef => by
    subst ec
    obtain ⟨u0, u1, u2, u3, u4, rfl⟩ := ins_five t3
    rw [eh] at q2
    refine ⟨x, tx, dk, dxd, st, ds, ch, dc, _, s2, v0, v1, v2, v3, v4, u0, u1, u2, u3, u4, rfl, q2, q1, nx, f1, f2, t1, t2, t4, t5, fun H3 r1 r2 r3 r4 => ?_⟩
    have x3 : XE S H2 H3 := fun y o hn hy => by
      rw [r1 y (fun z => hn (by rw [z]; exact hF.sub)) (fun z => hn (by rw [z]; exact hF.sub2)) (fun z => hn (by rw [z]; exact hF.subD))]
      exact hy
    have dn : ∀ a, S a → TrS S x s1 d1 s2 d2 a ∨ H2 a = none := fun a ha => .inl (.inl ha)
    have j5 : (F [o0, o1, o2, o3, o4]).p H3 := hF.put _ _ _ _ j4 (fun y o hn hy => by
      unfold TrH at hy
      by_cases z : y = dk
      · rw [z, upd_same] at hy
        rw [z, r4]
        exact hy
      · rw [upd_ne z] at hy
        rw [r1 y (fun w => hn (.inl w)) (fun w => hn (.inr w)) z]
        exact hy) ⟨_, r2, r3, (t3.lift dn).xe x3⟩
    refine n σ' H3 ?_ ⟨b', hP, (Env.lift dn e3).xe x3, by rw [ef]; exact j5⟩
    refine l1.trans fun y o hn hy => ?_
    refine x3 y o hn (x2 y o (fun w => ?_) (up y o (fun z => hn (by rw [z]; exact hF.subD)) hy))
    rcases toT y w with w | w
    · exact hn w
    · rw [hy] at w
      cases w
  cases hh : hb b' with
  | true => exact fin s2 d2 (φb b') us2 p0 p1 p2 p3 p4 e5 (by rw [hh]; rfl) q6 q7 q8 (Ne.symm (ne_of_none g1 y3)) (Ne.symm (ne_of_none g2 y4)) (by rw [hh]; rfl)
  | false => exact fin s1 d1 [c0, c1, c2, c3, c4] us1 c0 c1 c2 c3 c4 rfl (by rw [hh]; rfl) q3 q4 q5 (Ne.symm (ne_of_none g1 y1)) (Ne.symm (ne_of_none g2 y2)) (by rw [hh]; rfl)
end
end Hs
set_option Elab.async false
set_option linter.all false
set_option maxRecDepth 100000
set_option maxHeartbeats 4000000
/-! operations, plain; the contracts of a desk -/
namespace Hs
open PySem PySem.Spec PyProof.Rows L2 StX
abbrev xyS : List Str := ["x", "y"]
def shelfAt (sh : List (Str × Rows)) (n : Str) : Rows := (lk sh n).getD []
def execS (es : List Ed) (s : Scn) : Op → Scn
  | .act d fails => ⟨(runR es fails s.rows d).1, s.cnt + (runR es fails s.rows d).2, s.shelf⟩
  | .store n => ⟨s.rows, s.cnt, putG s.shelf n s.rows⟩
  | .fetch n => ⟨shelfAt s.shelf n, s.cnt, s.shelf⟩
def dueS (es : List Ed) (s : Scn) : Op → PyData
  | .act d fails => .int (runR es fails s.rows d).2
  | .store n => .bool (lk s.shelf n).isSome
  | .fetch n => .bool (isSound es (shelfAt s.shelf n))
def opOk (es : List Ed) (ns : List Str) (s : Scn) : Op → Prop
  | .act d fails => allowed es s.rows d = true ∧ d.nm ∈ ns ∧ fails.length ≤ 10
  | .store n => n ∈ xyS
  | .fetch n => n ∈ xyS ∧ (lk s.shelf n).isSome = true
structure ScnOk (es : List Ed) (ns : List Str) (s : Scn) : Prop where
  rows : RowsOk es ns s.rows
  nd : (s.shelf.map Prod.fst).Nodup
  ok : ∀ r ∈ s.shelf, r.1 ∈ xyS ∧ RowsOk es ns r.2
def goOn (m : DM) (op : Op) (s : Scn) : DM := ⟨s, m.past ++ [(op, m.now)], []⟩
def goAll (es : List Ed) : DM → List Op → DM
  | m, [] => m
  | m, op :: r => goAll es (goOn m op (execS es m.now op)) r
def duesS (es : List Ed) : Scn → List Op → List PyData
  | _, [] => []
  | s, op :: r => dueS es s op :: duesS es (execS es s op) r
def chain (es : List Ed) (ns : List Str) : Scn → List Op → Prop
  | _, [] => True
  | s, op :: r => opOk es ns s op ∧ chain es ns (execS es s op) r
def undoM (m : DM) : DM := match m.past.reverse with
  | [] => m
  | (op, s) :: r => ⟨s, r.reverse, m.und ++ [(op, m.now)]⟩
def redoM (m : DM) : DM := match m.und.reverse with
  | [] => m
  | (op, s) :: r => ⟨s, m.past ++ [(op, m.now)], r.reverse⟩
theorem undoM_cat {now : Scn} {ps und : List (Op × Scn)} {op : Op} {s : Scn} : undoM ⟨now, ps.concat (op, s), und⟩ = ⟨s, ps, und ++ [(op, now)]⟩ := by simp [undoM]
theorem redoM_cat {now : Scn} {past us : List (Op × Scn)} {op : Op} {s : Scn} : redoM ⟨now, past, us.concat (op, s)⟩ = ⟨s, past ++ [(op, now)], us⟩ := by simp [redoM]
theorem cat_emp {α β : Type} {f : α → β} {xs : List α} {x : α} : ((xs.concat x).map f).isEmpty = false := by cases xs <;> rfl
theorem cat_pos {α : Type} {xs : List α} {x : α} : (!(xs.concat x).isEmpty) = true := by cases xs <;> rfl
theorem putG_keys {κ α : Type} [DecidableEq κ] {rows : List (κ × α)} {k : κ} {x : α} : (putG rows k x).map Prod.fst = if k ∈ rows.map Prod.fst then rows.map Prod.fst else rows.map Prod.fst ++ [k] := by
  unfold putG
  split
  · rw [List.map_map]
    refine List.map_congr_left fun r _ => ?_
    show (if r.1 = k then (r.1, x) else r).1 = r.1
    split <;> rfl
  · rw [List.map_append]
    rfl
theorem putG_nd {κ α : Type} [DecidableEq κ] {rows : List (κ × α)} {k : κ} {x : α} (h : (rows.map Prod.fst).Nodup) : ((putG rows k x).map Prod.fst).Nodup := by
  rw [putG_keys]
  split
  · exact h
  · rename_i hn
    rw [List.nodup_append]
    exact ⟨h, List.nodup_cons.mpr ⟨(fun z => nomatch z), List.nodup_nil⟩, fun a ha b hb z => hn (by rw [← List.mem_singleton.mp hb, ← z]; exact ha)⟩
theorem putG_mem {κ α : Type} [DecidableEq κ] {rows : List (κ × α)} {k : κ} {x : α} {r : κ × α} (h : r ∈ putG rows k x) : r = (k, x) ∨ r ∈ rows := by
  unfold putG at h
  split at h
  · obtain ⟨q, hq, e⟩ := List.mem_map.mp h
    by_cases z : q.1 = k
    · rw [if_pos z] at e
      rw [← e, z]
      exact .inl rfl
    · rw [if_neg z] at e
      rw [← e]
      exact .inr hq
  · rcases List.mem_append.mp h with h | h
    · exact .inr h
    · exact .inl (List.mem_singleton.mp h)
theorem xy_few {sh : List (Str × Rows)} (nd : (sh.map Prod.fst).Nodup) (ok : ∀ r ∈ sh, r.1 ∈ xyS) : sh.length ≤ 2 := by
  have := nodup_le (T := xyS) nd fun x hx => by
    obtain ⟨r, hr, rfl⟩ := List.mem_map.mp hx
    exact ok r hr
  rwa [List.length_map] at this
theorem ScnOk.few {es : List Ed} {ns : List Str} {s : Scn} (h : ScnOk es ns s) : s.shelf.length ≤ 2 := xy_few h.nd fun r hr => (h.ok r hr).1
theorem shelf_ok {es : List Ed} {ns : List Str} {s : Scn} {n : Str} (h : ScnOk es ns s) (hn : (lk s.shelf n).isSome = true) : RowsOk es ns (shelfAt s.shelf n) := by
  unfold shelfAt
  cases z : lk s.shelf n with
  | none => rw [z] at hn; cases hn
  | some R => exact (h.ok _ (lk_some z)).2
theorem exec_ok {es : List Ed} {ns : List Str} {s : Scn} {op : Op} (he : EsOk es ns) (h : ScnOk es ns s) (ho : opOk es ns s op) : ScnOk es ns (execS es s op) := by
  cases op with
  | act d fails => exact ⟨putR_ok h.rows (behind_ok h.rows (allowed_run he h.rows ho.1) 0), h.nd, h.ok⟩
  | store n => exact ⟨h.rows, putG_nd h.nd, fun r hr => (putG_mem hr).elim (fun z => by rw [z]; exact ⟨ho, h.rows⟩) (h.ok r)⟩
  | fetch n => exact ⟨shelf_ok h ho.2, h.nd, h.ok⟩
theorem xy_word : ∀ n ∈ xyS, isWord n = true ∧ n.length ≤ 1000 ∧ PyData.strOk n = true := by decide +kernel
section
variable {S : AS} {K : PySem.W.Frag} {Γ Δ : Ctx} {I J L M : IV S} {sa : Addr} {es : List Ed} {ta tb td te ty : TE}
theorem stF_on {m : DM} {op : Op} {s : Scn} : stF K sa es (goOn m op s) = [Is K (.int s.cnt), Tup K (m.past.map (OpF K sa es) ++ [Tup K [Is K op.d, ScnF K sa es m.now]]), Sys K sa es s.rows, Dct (shelfF K sa es s.shelf), Tup K []] := by
  unfold goOn
  show [_, Tup K ((m.past ++ [(op, m.now)]).map (OpF K sa es)), _, _, _] = _
  rw [List.map_append]
  rfl
theorem undoF_cat {now : Scn} {ps und : List (Op × Scn)} {op : Op} {s : Scn} : stF K sa es ⟨now, ps.concat (op, s), und⟩ = [Is K (.int now.cnt), Tup K (ps.map (OpF K sa es) ++ [Tup K [Is K op.d, ScnF K sa es s]]), Sys K sa es now.rows, Dct (shelfF K sa es now.shelf), Tup K (und.map (OpF K sa es))] := by
  show [_, Tup K ((ps.concat (op, s)).map (OpF K sa es)), _, _, _] = _
  rw [List.concat_eq_append, List.map_append]
  rfl
theorem undoF_to {now : Scn} {ps und : List (Op × Scn)} {op : Op} {s : Scn} : stF K sa es ⟨s, ps, und ++ [(op, now)]⟩ = [Is K (.int s.cnt), Tup K (ps.map (OpF K sa es)), Sys K sa es s.rows, Dct (shelfF K sa es s.shelf), Tup K (und.map (OpF K sa es) ++ [Tup K [Is K op.d, ScnF K sa es now]])] := by
  show [_, _, _, _, Tup K ((und ++ [(op, now)]).map (OpF K sa es))] = _
  rw [List.map_append]
  rfl
theorem redoF_cat {now : Scn} {past us : List (Op × Scn)} {op : Op} {s : Scn} : stF K sa es ⟨now, past, us.concat (op, s)⟩ = [Is K (.int now.cnt), Tup K (past.map (OpF K sa es)), Sys K sa es now.rows, Dct (shelfF K sa es now.shelf), Tup K (us.map (OpF K sa es) ++ [Tup K [Is K op.d, ScnF K sa es s]])] := by
  show [_, _, _, _, Tup K ((us.concat (op, s)).map (OpF K sa es))] = _
  rw [List.concat_eq_append, List.map_append]
  rfl
theorem redoF_to {now : Scn} {past us : List (Op × Scn)} {op : Op} {s : Scn} : stF K sa es ⟨s, past ++ [(op, now)], us⟩ = [Is K (.int s.cnt), Tup K (past.map (OpF K sa es) ++ [Tup K [Is K op.d, ScnF K sa es now]]), Sys K sa es s.rows, Dct (shelfF K sa es s.shelf), Tup K (us.map (OpF K sa es))] := by
  show [_, Tup K ((past ++ [(op, now)]).map (OpF K sa es)), _, _, _] = _
  rw [List.map_append]
  rfl
theorem lk_shelf {sh : List (Str × Rows)} {n : Str} : lk (shelfF K sa es sh) (.inr n) = (lk sh n).map fun R => Sys K sa es R := by
  induction sh with
  | nil => rfl
  | cons r sh ih =>
    unfold lk at ih ⊢
    rw [show shelfF K sa es (r :: sh) = (.inr r.1, Sys K sa es r.2) :: shelfF K sa es sh from rfl, List.find?_cons, List.find?_cons]
    by_cases h : r.1 = n
    · rw [decide_eq_true (show (Sum.inr r.1 : Key) = Sum.inr n by rw [h]), decide_eq_true h]
      rfl
    · rw [decide_eq_false (show ¬ (Sum.inr r.1 : Key) = Sum.inr n from fun z => h (Sum.inr.inj z)), decide_eq_false h]
      exact ih
theorem ge_sget {sh : List (Str × Rows)} {n : Str} (ho : GE S Γ I td (Dct (shelfF K sa es sh)) J) (hk : GE S Γ J ty (Is K (.str n)) L) (h : (lk sh n).isSome = true) : GE S Γ I (tDGet td ty) (Sys K sa es (shelfAt sh n)) L := ge_dget (k := .inr n) ho hk (by
  rw [lk_shelf]
  unfold shelfAt
  cases h2 : lk sh n with
  | none => rw [h2] at h; cases h
  | some s => rfl)
theorem ge_sin {sh : List (Str × Rows)} {n : Str} (hk : GE S Γ I ty (Is K (.str n)) J) (ho : GE S Γ J td (Dct (shelfF K sa es sh)) L) : GE S Γ I (tDIn ty td) (Is K (.bool (lk sh n).isSome)) L := by
  have := ge_din (k := .inr n) hk ho
  rw [lk_shelf] at this
  cases h2 : lk sh n with
  | none => rw [h2] at this; exact this
  | some s => rw [h2] at this; exact this
theorem ge_snin {sh : List (Str × Rows)} {n : Str} (hk : GE S Γ I ty (Is K (.str n)) J) (ho : GE S Γ J td (Dct (shelfF K sa es sh)) L) : GE S Γ I (tDNotIn ty td) (Is K (.bool (!(lk sh n).isSome))) L := by
  have := ge_dnotin (k := .inr n) hk ho
  rw [lk_shelf] at this
  cases h2 : lk sh n with
  | none => rw [h2] at this; exact this
  | some s => rw [h2] at this; exact this
theorem gc_lenLN {n : Nat} : GC S I (fun xs H Q => ∃ p ys, xs = [.ref p] ∧ (SqL K H p ys ∨ SqT K H p ys) ∧ Q (.int ys.length) H) [LstN n] (Is K (.int n)) I := fun vs H hi h Q q => by
  obtain ⟨v, ws, rfl, ⟨a, xs, rfl, hs, h1, h2⟩, rfl⟩ := h
  refine ⟨a, xs, rfl, .inl (.inl (.inl h1)), q _ H (XE.refl S H) hi ?_⟩
  rw [h2]
  exact .int _
/-- a row put, by facts -/
theorem putG_rows {ψ : Fm} {H : Hp} {k : Key} {v : V} (hv : ψ.p S v H) : ∀ {rows : List (Key × Fm)} {kvs : List (Key × V)}, kvs.map Prod.fst = rows.map Prod.fst → Ins S (rows.map Prod.snd) (kvs.map Prod.snd) H →
    (putK kvs k v).map Prod.fst = (putG rows k ψ).map Prod.fst ∧ Ins S ((putG rows k ψ).map Prod.snd) ((putK kvs k v).map Prod.snd) H := by
  intro rows kvs h1 h2
  have hany : ((kvs.any fun kv => decide (kv.1 = k)) = true) ↔ k ∈ rows.map Prod.fst := by
    rw [← h1, List.any_eq_true, List.mem_map]
    constructor
    · rintro ⟨q, hq, e⟩
      exact ⟨q, hq, of_decide_eq_true e⟩
    · rintro ⟨q, hq, e⟩
      exact ⟨q, hq, decide_eq_true e⟩
  unfold putK putG
  by_cases hk : k ∈ rows.map Prod.fst
  · rw [if_pos hk, if_pos (hany.mpr hk)]
    clear hany hk
    induction rows generalizing kvs with
    | nil =>
      cases kvs with
      | nil => exact ⟨rfl, rfl⟩
      | cons a b => cases h1
    | cons r rows ih =>
      cases kvs with
      | nil => cases h1
      | cons q kvs =>
        injection h1 with e1 e2
        obtain ⟨u, us, e3, k1, k2⟩ := h2
        injection e3 with e4 e5
        rw [← e5] at k2
        obtain ⟨i1, i2⟩ := ih e2 k2
        simp only [List.map_cons]
        by_cases z : q.1 = k
        · rw [if_pos z, if_pos (e1 ▸ z)]
          exact ⟨by rw [i1]; show q.1 :: _ = r.1 :: _; rw [e1], v, _, rfl, hv, i2⟩
        · rw [if_neg z, if_neg (fun w => z (e1.trans w))]
          exact ⟨by rw [i1, e1], q.2, _, rfl, by rw [e4]; exact k1, i2⟩
  · rw [if_neg hk, if_neg (fun z => hk (hany.mp z))]
    rw [List.map_append, List.map_append, List.map_append, List.map_append, h1]
    exact ⟨rfl, Ins.app (ψs := [ψ]) (ws := [v]) h2 ⟨v, [], rfl, hv, rfl⟩⟩
/-- d | {k: v} -/
theorem gr_dorG {rows : List (Key × Fm)} {k : Key} {ψ : Fm} (hz : rows.length ≤ 100) : GR S I rDor (Dct rows) (Dct [(k, ψ)]) (Dct (putG rows k ψ)) I := fun x y H hi h1 h2 Q q => by
  obtain ⟨d, kvs, rfl, hs, h3, h4, h5⟩ := h1
  obtain ⟨d', kvs', rfl, hs', h3', h4', h5'⟩ := h2
  have hkl : kvs.length = rows.length := by
    have := congrArg List.length h4
    rwa [List.length_map, List.length_map] at this
  obtain ⟨v, e1, e2⟩ : ∃ v, kvs' = [(k, v)] ∧ ψ.p S v H := by
    match kvs', h4', h5' with
    | [(k', v)], h4', ⟨u, us, e3, k1, k2⟩ =>
      injection h4' with e4 _
      injection e3 with e5 _
      exact ⟨v, by rw [show k' = k from e4], by rw [show v = u from e5]; exact k1⟩
  subst e1
  refine ⟨d, d', kvs, _, rfl, rfl, h3, h3', Nat.le_trans (by rw [hkl]; show rows.length + 1 ≤ 101; omega) (by decide), fun p hp => ?_⟩
  rw [mergeK_one]
  obtain ⟨i1, i2⟩ := putG_rows e2 h4 h5
  exact q _ _ (XE.new hp) (I.le (LX.new hp) hi) ⟨p, _, rfl, I.fresh hi hp, .inl upd_same, i1, i2.xe (XE.new hp)⟩
theorem shelf_put {sh : List (Str × Rows)} {n : Str} {R : Rows} : putG (shelfF K sa es sh) (.inr n) (Sys K sa es R) = shelfF K sa es (putG sh n R) := by
  have hm : ((Sum.inr n : Key) ∈ (shelfF K sa es sh).map Prod.fst) ↔ n ∈ sh.map Prod.fst := by
    rw [List.map_map, List.mem_map, List.mem_map]
    constructor
    · rintro ⟨q, hq, e⟩
      exact ⟨q, hq, Sum.inr.inj e⟩
    · rintro ⟨q, hq, e⟩
      exact ⟨q, hq, congrArg Sum.inr e⟩
  unfold putG
  by_cases h : n ∈ sh.map Prod.fst
  · rw [if_pos h, if_pos (hm.mpr h), List.map_map]
    show _ = List.map _ (List.map _ sh)
    rw [List.map_map]
    refine List.map_congr_left fun r _ => ?_
    by_cases z : r.1 = n
    · simp [z]
    · simp [z]
  · rw [if_neg h, if_neg (fun z => h (hm.mp z))]
    show _ = List.map _ (sh ++ [(n, R)])
    rw [List.map_append]
    rfl
end
section
variable (K : PySem.W.Frag)
abbrev ListD (ds : List PyData) : Fm := Is K (.list ds)
def ct_Desk_system : CTR := fun S k => ∃ dk st ds F sa es m, DkF K S dk st ds F ∧ k.I = F (stF K sa es m) ∧ k.J = F (stF K sa es m) ∧ k.ins = [Eqv (.ref dk)] ∧ k.out = Sys K sa es m.now.rows
def ct_Desk_call_count : CTR := fun S k => ∃ dk st ds F sa es m, DkF K S dk st ds F ∧ k.I = F (stF K sa es m) ∧ k.J = F (stF K sa es m) ∧ k.ins = [Eqv (.ref dk)] ∧ k.out = Is K (.int m.now.cnt)
def ct_Desk_kept : CTR := fun S k => ∃ dk st ds F sa es m, DkF K S dk st ds F ∧ m.now.shelf.length < 64 ∧ k.I = F (stF K sa es m) ∧ k.J = F (stF K sa es m) ∧ k.ins = [Eqv (.ref dk)] ∧ k.out = Exs (fun ys : List Str => ys.Perm (m.now.shelf.map Prod.fst) ∧ sortedS ys = true) fun ys => Is K (.list (ys.map .str))
def ct_Desk_history : CTR := fun S k => ∃ dk st ds F sa es m, DkF K S dk st ds F ∧ m.past.length ≤ 900 ∧ k.I = F (stF K sa es m) ∧ k.J = F (stF K sa es m) ∧ k.ins = [Eqv (.ref dk)] ∧ k.out = Is K (.list (m.past.map fun p => p.1.d))
def ct_Desk_act : CTR := fun S k => ∃ dk st ds F sa es ns m d fails, DkF K S dk st ds F ∧ EsOk es ns ∧ RowsOk es ns m.now.rows ∧ allowed es m.now.rows d = true ∧ m.past.length ≤ 900 ∧ k.I = F (stF K sa es m) ∧ k.J = F (stF K sa es (goOn m (.act d fails) (execS es m.now (.act d fails)))) ∧ k.ins = [Eqv (.ref dk), Is K d.d, Is K (.tuple (fails.map .int))] ∧ k.out = Is K (dueS es m.now (.act d fails))
def ct_Desk_store_as : CTR := fun S k => ∃ dk st ds F sa es m n, DkF K S dk st ds F ∧ n ∈ xyS ∧ m.now.shelf.length ≤ 2 ∧ m.past.length ≤ 900 ∧ k.I = F (stF K sa es m) ∧ k.J = F (stF K sa es (goOn m (.store n) (execS es m.now (.store n)))) ∧ k.ins = [Eqv (.ref dk), Is K (.str n)] ∧ k.out = Is K (dueS es m.now (.store n))
def ct_Desk_fetch : CTR := fun S k => ∃ dk st ds F sa es ns m n, DkF K S dk st ds F ∧ EsOk es ns ∧ ScnOk es ns m.now ∧ (lk m.now.shelf n).isSome = true ∧ m.past.length ≤ 900 ∧ k.I = F (stF K sa es m) ∧ k.J = F (stF K sa es (goOn m (.fetch n) (execS es m.now (.fetch n)))) ∧ k.ins = [Eqv (.ref dk), Is K (.str n)] ∧ k.out = Is K (dueS es m.now (.fetch n))
def ct_Desk_undo : CTR := fun S k => ∃ dk st ds F sa es m, DkF K S dk st ds F ∧ m.past.length ≤ 900 ∧ m.und.length ≤ 900 ∧ k.I = F (stF K sa es m) ∧ k.J = F (stF K sa es (undoM m)) ∧ k.ins = [Eqv (.ref dk)] ∧ k.out = Is K (.bool (!m.past.isEmpty))
def ct_Desk_redo : CTR := fun S k => ∃ dk st ds F sa es m, DkF K S dk st ds F ∧ m.past.length ≤ 900 ∧ m.und.length ≤ 900 ∧ k.I = F (stF K sa es m) ∧ k.J = F (stF K sa es (redoM m)) ∧ k.ins = [Eqv (.ref dk)] ∧ k.out = Is K (.bool (!m.und.isEmpty))
def ct_Desk_execute : CTR := fun S k => ∃ dk st ds F sa es ns m op, DkF K S dk st ds F ∧ EsOk es ns ∧ ScnOk es ns m.now ∧ opOk es ns m.now op ∧ m.past.length ≤ 900 ∧ k.I = F (stF K sa es m) ∧ k.J = F (stF K sa es (goOn m op (execS es m.now op))) ∧ k.ins = [Eqv (.ref dk), Is K op.d] ∧ k.out = Is K (dueS es m.now op)
def ct_Desk_apply_all : CTR := fun S k => ∃ dk st ds F sa es ns m ops, DkF K S dk st ds F ∧ EsOk es ns ∧ ScnOk es ns m.now ∧ chain es ns m.now ops ∧ m.past.length + ops.length ≤ 900 ∧ k.I = F (stF K sa es m) ∧ k.J = F (stF K sa es (goAll es m ops)) ∧ k.ins = [Eqv (.ref dk), Is K (.list (ops.map Op.d))] ∧ k.out = Is K (.list (duesS es m.now ops))
def ct_Desk_tried : CTR := fun S k => ∃ dk st ds F sa es ns m ops keep, DkF K S dk st ds F ∧ EsOk es ns ∧ ScnOk es ns m.now ∧ chain es ns m.now ops ∧ m.past.length + ops.length ≤ 900 ∧ k.I = F (stF K sa es m) ∧ k.J = F (stF K sa es (if keep = true then goAll es m ops else m)) ∧ k.ins = [Eqv (.ref dk), Is K (.list (ops.map Op.d)), Is K (.bool keep)] ∧ k.out = Is K (.list (duesS es m.now ops))
def ct_is_operation : CTR := fun S k => ∃ op : Op, k.J = k.I ∧ k.ins = [Is K op.d] ∧ k.out = Is K (.bool true)
end
end Hs
set_option Elab.async false
set_option linter.all false
set_option maxRecDepth 100000
set_option maxHeartbeats 4000000
/-! the written dict SIZES, the trial, the class method: further facts of the loaded program -/
namespace Hs
open PySem PySem.Spec PyProof.Rows L2 StX
structure Tz (w : World) (K : PySem.W.Frag) (mg : Str → Option Value) : Prop extends Ty K mg where
  sz_act : KDct K w (He.ga K "SIZES") "act" (.int 3)
  sz_store : KDct K w (He.ga K "SIZES") "store_as" (.int 2)
  sz_fetch : KDct K w (He.ga K "SIZES") "fetch" (.int 2)
  sz_low : (He.ga K "SIZES" == sysModules) = false
  w_Trial : WithC K (C_Trial K) (a_Trial_enter K) (a_Trial_exit K)
  cr_Desk : ∃ mc p, ClX.CRead K (C_Desk K) mc ∧ ClX.CMet K (C_Desk K) mc "replay" p (a_Desk_replay K)
/-- d.get(k, x), d a written dict, k there -/
def tKGet2 (K : PySem.W.Frag) (w : World) (td ty tx : TE) : TE := fun σ H Q => td σ H fun x H1 => ∃ p es n, x = .ref p ∧ K.lookup p = some ⟨.type "dict", none, .dict es n, #[]⟩ ∧ PySem.W.KeysLit w.params es.toList ∧ (p == sysModules) = false ∧
  ty σ H1 fun y H2 => tx σ H2 fun z H3 => ∃ k v u, y = .str k ∧ PySem.W.nsIn K p k = some (some u) ∧ RelV v u ∧ Q v H3
section
variable {X : Cx} {o e f : Expr} {apos cpos : Pos} {td ty tx : TE}
theorem pe_kget2 (ho : PE X o td) (he : PE X e ty) (hf : PE X f tx) (m : M2 X o "get" apos e f cpos) : PE X (.Call (.Attribute o "get" apos) [e, f] [] cpos) (tKGet2 X.K X.w td ty tx) := by
  refine ⟨fun pins s σ H Q I h => ?_⟩
  refine wpAny_Call_method m.base m.few m.line PySem.F.plainAttrs_dict PySem.F.slot_dict_get PySem.F.type_dict_get (thn (ho.run pins s σ H _ I h) ?_)
  rintro u s1 ⟨x, H1, I1, rx, p, es, n, ex, hl, hk, low, q1⟩
  subst ex
  obtain rfl : u = Value.ref p := rx
  have hm := PySem.W.mapOf_K (prog := X.prog) (w := X.w) I1.kIn hl hk
  refine ⟨hm.typeIs, hm.noDict, ?_⟩
  rw [m.trees]
  refine Calls.callWith_builtin rfl (Calls.evalArgs_plain (Calls.spliced_cons (thn (he.run pins s1 σ H1 _ I1 q1) ?_)))
  rintro iv s2 ⟨y, H2, I2, ry, q2⟩
  refine Calls.spliced_cons (thn (hf.run pins s2 σ H2 _ I2 q2) ?_)
  rintro fv s3 ⟨z, H3, I3, rz, k, v, u0, ey, hn, ru, q3⟩
  refine Calls.spliced_nil ?_
  subst ey
  obtain ⟨t, rfl⟩ := ry
  have hm3 := PySem.W.mapOf_K (prog := X.prog) (w := X.w) I3.kIn hl hk
  refine call_meetsIn PySem.F.slot_dict_get hm3.typeIs PySem.F.entry_dict_get (PySem.F.args_dict_get_3 _ _ _) (meets_dict_get_default (strKind X.prog X.w) p (strKind_is X.prog X.w k t) low fv) ⟨_, hm3, ?_⟩
  rw [PySem.W.find_K hl hn]
  exact ⟨v, H3, I3.tok _, ru, q3⟩
theorem pe_kget2K (K : PySem.W.Frag) (ho : PE X o td) (he : PE X e ty) (hf : PE X f tx) (m : M2 X o "get" apos e f cpos) (h : X.K = K := by rfl) : PE X (.Call (.Attribute o "get" apos) [e, f] [] cpos) (tKGet2 K X.w td ty tx) := h ▸ pe_kget2 ho he hf m
end
section
variable {S : AS} {K : PySem.W.Frag} {w : World} {Γ Δ : Ctx} {I J L M : IV S} {ta tb td te ty tx : TE} {φ : Fm}
theorem ge_kget2 {p : Addr} {k : Str} {v : Int} (hk : KDct K w p k (.int v)) (low : (p == sysModules) = false) (ho : GE S Γ I td (Eqv (.ref p)) J) (hy : GE S Γ J ty (Is K (.str k)) L) (hx : GE S Γ L tx φ M) : GE S Γ I (tKGet2 K w td ty tx) (Is K (.int v)) M := fun σ H e hi Q q => ho σ H e hi _ fun x H1 l1 j1 p1 => by
  obtain rfl : x = .ref p := p1
  obtain ⟨es, n, u, hl, hk, hn, ru⟩ := hk
  refine ⟨p, es, n, rfl, hl, hk, low, hy σ H1 (e.xe l1) j1 _ fun y H2 l2 j2 p2 => hx σ H2 (e.xe (l1.trans l2)) j2 _ fun z H3 l3 j3 p3 => ?_⟩
  exact ⟨k, _, u, Da.str_of p2, hn, ru, q _ H3 ((l1.trans l2).trans l3) j3 (.int _)⟩
theorem gc_isiTD {ds : List PyData} : GC S I (rIsi K) [Is K (.tuple ds), Eqv (.ty "tuple")] (Is K (.bool true)) I := fun vs H hi ⟨v, ws, e, p1, p2⟩ Q q => gc_isiTup vs H hi ⟨v, ws, e, is_tup p1, p2⟩ Q q
theorem gr_eqED {ds : List PyData} : GR S I (rEqE K) (Is K (.tuple ds)) (Is K (.tuple [])) (Is K (.bool ds.isEmpty)) I := fun x y H hi h1 h2 Q q => by
  have := gr_eqE (K := K) (I := I) x y H hi (is_tup h1) h2 Q
  rw [show (ds.map (Is K)).isEmpty = ds.isEmpty from by cases ds <;> rfl] at this
  exact this q
end
end Hs
set_option Elab.async false
set_option linter.all false
set_option maxRecDepth 100000
set_option maxHeartbeats 0
namespace Hs
open PySem PySem.Spec PyProof.Rows L2 He

/-! the record of facts from what was seen -/
section
variable {w : World} {K : PySem.W.Frag}
theorem SaysW.all (c : SaysW w K) : ((faW.all fun f => f.ok K) && (exW K && fnW.all fun d => d.ok K)) = true := congrArg (fun z : AlW => z.1.1) c
theorem SaysW.fact (c : SaysW w K) (i : Nat) {f : Fa} (h : faW[i]? = some f := by rfl) : f.ok K = true := List.all_eq_true.mp (ba c.all).1 f (List.mem_of_getElem? h)
theorem SaysW.ex (c : SaysW w K) : exW K = true := (ba (ba c.all).2).1
theorem SaysW.def_ (c : SaysW w K) (i : Nat) {d : He5.DefA} (h : fnW[i]? = some d := by rfl) : ∃ fd, FunD K d.name d.qual d.params d.body d.scope (d.dvs K) (d.kws K) (d.at_ K) fd := by
  have e : fnW.map (fun d => He5.fnA K (d.at_ K)) = fnW.map He5.DefA.val := congrArg (fun z : AlW => z.1.2) c
  have e2 : (fnW.map fun d => He5.fnA K (d.at_ K))[i]? = (fnW.map He5.DefA.val)[i]? := by rw [e]
  rw [List.getElem?_map, List.getElem?_map, h] at e2
  exact He5.DefA.funD (Option.some.inj e2) (List.all_eq_true.mp (ba (ba c.all).2).2 d (List.mem_of_getElem? h))
theorem SaysW.dic (c : SaysW w K) : ∃ es n, KDict K w (ga K "SIZES") es n := dicW_ok (show dicW K (ga K "SIZES") = some (keysIn w.params szK) from congrArg (fun z : AlW => z.2) c)
theorem exs_at {bs : List Bool} (h : bs.all id = true) (i : Nat) {b : Bool} (e : bs[i]? = some b) : b = true := List.all_eq_true.mp h b (List.mem_of_getElem? e)
theorem ktup_ok {x : Str} {vs : List Dv} (h : tupB K x vs = true) : KTup K x (vs.map (Dv.v K)) := fun S H => (tupB_ok h (fun _ => none)).elim (fun z => z.elim (fun z => nomatch z) fun ⟨_, z⟩ => nomatch z) .inr
theorem cread_w {C : Addr} (h0 : PySem.W.readsIn K C (.type "type") = true) : ClX.CRead K C (.type "type") := by
  refine ⟨h0, ?_⟩
  have h := h0
  unfold PySem.W.readsIn at h
  obtain ⟨h, _⟩ := ba h
  obtain ⟨h, _⟩ := ba h
  obtain ⟨h, h3⟩ := ba h
  obtain ⟨_, h2⟩ := ba h
  unfold PySem.W.specialIn
  rw [beq_iff_eq.mp h2, Option.bind_some]
  exact beq_iff_eq.mp h3
theorem kdct_w {D : Addr} {es : Array DictEntry} {n : Nat} {k : Str} {v : V} (d : KDict K w D es n) (h : ∃ u, PySem.W.nsIn K D k = some (some u) ∧ RelV v u) : KDct K w D k v := by
  obtain ⟨u, h1, h2⟩ := h
  exact ⟨es, n, u, d.at_, d.lit, h1, h2⟩
end
theorem tz_of {w : World} {K : PySem.W.Frag} {h : Heap} {mg : Str → Option Value} (X : K.In h) (G : h.Ns mainGlobals mg) (c : SaysW w K) : Tz w K mg := by
  obtain ⟨es, n, D⟩ := c.dic
  have D' : KDict K w (ga K "SIZES") es n := D
  exact {
    f_is_number := c.def_ 0 rfl
    f_is_word := c.def_ 1 rfl
    f_is_rising := c.def_ 2 rfl
    f_is_need := c.def_ 3 rfl
    f_is_state := c.def_ 4 rfl
    f_edition_in := c.def_ 5 rfl
    f_is_there := c.def_ 6 rfl
    f_is_met := c.def_ 7 rfl
    f_lacking := c.def_ 8 rfl
    f_hostile := c.def_ 9 rfl
    f_is_sound := c.def_ 10 rfl
    f_unpack_refusal := c.def_ 11 rfl
    f_setup_refusal := c.def_ 12 rfl
    f_remove_refusal := c.def_ 13 rfl
    f_refusal := c.def_ 14 rfl
    f_executed := c.def_ 15 rfl
    f_need_begin := c.def_ 16 rfl
    f_run := c.def_ 17 rfl
    f_is_operation := c.def_ 18 rfl
    f_law_taken := c.def_ 19 rfl
    f_law_pick := c.def_ 20 rfl
    f_law_some := c.def_ 21 rfl
    f_law_editions := c.def_ 22 rfl
    f_law_store := c.def_ 23 rfl
    f_law_versions := c.def_ 24 rfl
    f_law_names := c.def_ 25 rfl
    f_law_edition := c.def_ 26 rfl
    f_law_state := c.def_ 27 rfl
    f_law_states := c.def_ 28 rfl
    f_law_met := c.def_ 29 rfl
    f_law_there := c.def_ 30 rfl
    f_law_hostile := c.def_ 31 rfl
    f_law_why := c.def_ 32 rfl
    f_law_deeds := c.def_ 33 rfl
    f_law_least_of := c.def_ 34 rfl
    f_law_step := c.def_ 35 rfl
    f_law_shows := c.def_ 36 rfl
    f_law := c.def_ 37 rfl
    f_Edition_init := c.def_ 38 rfl
    f_Store_init := c.def_ 39 rfl
    f_Store_names := c.def_ 40 rfl
    f_Store_contains := c.def_ 41 rfl
    f_Store_eq := c.def_ 42 rfl
    f_System_init := c.def_ 43 rfl
    f_System_states := c.def_ 44 rfl
    f_System_eq := c.def_ 45 rfl
    f_System_with_state := c.def_ 46 rfl
    f_Run_init := c.def_ 47 rfl
    f_Run_is_done := c.def_ 48 rfl
    f_Run_state_behind := c.def_ 49 rfl
    f_Run_unpacked_new := c.def_ 50 rfl
    f_Run_unpacked_over := c.def_ 51 rfl
    f_Run_is_left := c.def_ 52 rfl
    f_Run_given_up := c.def_ 53 rfl
    f_Run_put_back := c.def_ 54 rfl
    f_Run_set_up := c.def_ 55 rfl
    f_Run_removed := c.def_ 56 rfl
    f_Run_purged := c.def_ 57 rfl
    f_State_init := c.def_ 58 rfl
    f_State_all_three := c.def_ 59 rfl
    f_State_copied := c.def_ 60 rfl
    f_State_go_on := c.def_ 61 rfl
    f_State_go_back := c.def_ 62 rfl
    f_State_go_again := c.def_ 63 rfl
    f_Desk_init := c.def_ 64 rfl
    f_Desk_system := c.def_ 65 rfl
    f_Desk_call_count := c.def_ 66 rfl
    f_Desk_kept := c.def_ 67 rfl
    f_Desk_history := c.def_ 68 rfl
    f_Desk_act := c.def_ 69 rfl
    f_Desk_store_as := c.def_ 70 rfl
    f_Desk_fetch := c.def_ 71 rfl
    f_Desk_undo := c.def_ 72 rfl
    f_Desk_redo := c.def_ 73 rfl
    f_Desk_execute := c.def_ 74 rfl
    f_Desk_apply_all := c.def_ 75 rfl
    f_Desk_tried := c.def_ 76 rfl
    f_Trial_init := c.def_ 77 rfl
    f_Trial_hold := c.def_ 78 rfl
    f_Trial_enter := c.def_ 79 rfl
    f_Trial_exit := c.def_ 80 rfl
    f_Desk_replay := c.def_ 81 rfl
    g_is_number := glo_ok X G (c.fact 0 (f := .glo "is_number") rfl)
    g_is_word := glo_ok X G (c.fact 1 (f := .glo "is_word") rfl)
    g_is_rising := glo_ok X G (c.fact 2 (f := .glo "is_rising") rfl)
    g_is_need := glo_ok X G (c.fact 3 (f := .glo "is_need") rfl)
    g_is_state := glo_ok X G (c.fact 4 (f := .glo "is_state") rfl)
    g_edition_in := glo_ok X G (c.fact 5 (f := .glo "edition_in") rfl)
    g_is_there := glo_ok X G (c.fact 6 (f := .glo "is_there") rfl)
    g_is_met := glo_ok X G (c.fact 7 (f := .glo "is_met") rfl)
    g_lacking := glo_ok X G (c.fact 8 (f := .glo "lacking") rfl)
    g_hostile := glo_ok X G (c.fact 9 (f := .glo "hostile") rfl)
    g_is_sound := glo_ok X G (c.fact 10 (f := .glo "is_sound") rfl)
    g_unpack_refusal := glo_ok X G (c.fact 11 (f := .glo "unpack_refusal") rfl)
    g_setup_refusal := glo_ok X G (c.fact 12 (f := .glo "setup_refusal") rfl)
    g_remove_refusal := glo_ok X G (c.fact 13 (f := .glo "remove_refusal") rfl)
    g_refusal := glo_ok X G (c.fact 14 (f := .glo "refusal") rfl)
    g_executed := glo_ok X G (c.fact 15 (f := .glo "executed") rfl)
    g_need_begin := glo_ok X G (c.fact 16 (f := .glo "need_begin") rfl)
    g_run := glo_ok X G (c.fact 17 (f := .glo "run") rfl)
    g_is_operation := glo_ok X G (c.fact 18 (f := .glo "is_operation") rfl)
    g__law_taken := glo_ok X G (c.fact 19 (f := .glo "_law_taken") rfl)
    g__law_pick := glo_ok X G (c.fact 20 (f := .glo "_law_pick") rfl)
    g__law_some := glo_ok X G (c.fact 21 (f := .glo "_law_some") rfl)
    g__law_editions := glo_ok X G (c.fact 22 (f := .glo "_law_editions") rfl)
    g__law_store := glo_ok X G (c.fact 23 (f := .glo "_law_store") rfl)
    g__law_versions := glo_ok X G (c.fact 24 (f := .glo "_law_versions") rfl)
    g__law_names := glo_ok X G (c.fact 25 (f := .glo "_law_names") rfl)
    g__law_edition := glo_ok X G (c.fact 26 (f := .glo "_law_edition") rfl)
    g__law_state := glo_ok X G (c.fact 27 (f := .glo "_law_state") rfl)
    g__law_states := glo_ok X G (c.fact 28 (f := .glo "_law_states") rfl)
    g__law_met := glo_ok X G (c.fact 29 (f := .glo "_law_met") rfl)
    g__law_there := glo_ok X G (c.fact 30 (f := .glo "_law_there") rfl)
    g__law_hostile := glo_ok X G (c.fact 31 (f := .glo "_law_hostile") rfl)
    g__law_why := glo_ok X G (c.fact 32 (f := .glo "_law_why") rfl)
    g__law_deeds := glo_ok X G (c.fact 33 (f := .glo "_law_deeds") rfl)
    g__law_least_of := glo_ok X G (c.fact 34 (f := .glo "_law_least_of") rfl)
    g__law_step := glo_ok X G (c.fact 35 (f := .glo "_law_step") rfl)
    g__law_shows := glo_ok X G (c.fact 36 (f := .glo "_law_shows") rfl)
    g_law := glo_ok X G (c.fact 37 (f := .glo "law") rfl)
    g_NOTHING := glo_ok X G (c.fact 38 (f := .glo "NOTHING") rfl)
    g_THERE := glo_ok X G (c.fact 39 (f := .glo "THERE") rfl)
    g_SCRIPTS := glo_ok X G (c.fact 40 (f := .glo "SCRIPTS") rfl)
    g_STATUSES := glo_ok X G (c.fact 41 (f := .glo "STATUSES") rfl)
    g_Edition := glo_ok X G (c.fact 42 (f := .glo "Edition") rfl)
    g_Store := glo_ok X G (c.fact 43 (f := .glo "Store") rfl)
    g_System := glo_ok X G (c.fact 44 (f := .glo "System") rfl)
    g_Run := glo_ok X G (c.fact 45 (f := .glo "Run") rfl)
    g_State := glo_ok X G (c.fact 46 (f := .glo "State") rfl)
    g_Desk := glo_ok X G (c.fact 47 (f := .glo "Desk") rfl)
    g_Trial := glo_ok X G (c.fact 48 (f := .glo "Trial") rfl)
    g_SIZES := glo_ok X G (c.fact 49 (f := .glo "SIZES") rfl)
    k_is_number := keep_ok (c.fact 50 (f := .keep "is_number") rfl)
    k_is_word := keep_ok (c.fact 51 (f := .keep "is_word") rfl)
    k_is_rising := keep_ok (c.fact 52 (f := .keep "is_rising") rfl)
    k_is_need := keep_ok (c.fact 53 (f := .keep "is_need") rfl)
    k_is_state := keep_ok (c.fact 54 (f := .keep "is_state") rfl)
    k_edition_in := keep_ok (c.fact 55 (f := .keep "edition_in") rfl)
    k_is_there := keep_ok (c.fact 56 (f := .keep "is_there") rfl)
    k_is_met := keep_ok (c.fact 57 (f := .keep "is_met") rfl)
    k_lacking := keep_ok (c.fact 58 (f := .keep "lacking") rfl)
    k_hostile := keep_ok (c.fact 59 (f := .keep "hostile") rfl)
    k_is_sound := keep_ok (c.fact 60 (f := .keep "is_sound") rfl)
    k_unpack_refusal := keep_ok (c.fact 61 (f := .keep "unpack_refusal") rfl)
    k_setup_refusal := keep_ok (c.fact 62 (f := .keep "setup_refusal") rfl)
    k_remove_refusal := keep_ok (c.fact 63 (f := .keep "remove_refusal") rfl)
    k_refusal := keep_ok (c.fact 64 (f := .keep "refusal") rfl)
    k_executed := keep_ok (c.fact 65 (f := .keep "executed") rfl)
    k_need_begin := keep_ok (c.fact 66 (f := .keep "need_begin") rfl)
    k_run := keep_ok (c.fact 67 (f := .keep "run") rfl)
    k_is_operation := keep_ok (c.fact 68 (f := .keep "is_operation") rfl)
    k__law_taken := keep_ok (c.fact 69 (f := .keep "_law_taken") rfl)
    k__law_pick := keep_ok (c.fact 70 (f := .keep "_law_pick") rfl)
    k__law_some := keep_ok (c.fact 71 (f := .keep "_law_some") rfl)
    k__law_editions := keep_ok (c.fact 72 (f := .keep "_law_editions") rfl)
    k__law_store := keep_ok (c.fact 73 (f := .keep "_law_store") rfl)
    k__law_versions := keep_ok (c.fact 74 (f := .keep "_law_versions") rfl)
    k__law_names := keep_ok (c.fact 75 (f := .keep "_law_names") rfl)
    k__law_edition := keep_ok (c.fact 76 (f := .keep "_law_edition") rfl)
    k__law_state := keep_ok (c.fact 77 (f := .keep "_law_state") rfl)
    k__law_states := keep_ok (c.fact 78 (f := .keep "_law_states") rfl)
    k__law_met := keep_ok (c.fact 79 (f := .keep "_law_met") rfl)
    k__law_there := keep_ok (c.fact 80 (f := .keep "_law_there") rfl)
    k__law_hostile := keep_ok (c.fact 81 (f := .keep "_law_hostile") rfl)
    k__law_why := keep_ok (c.fact 82 (f := .keep "_law_why") rfl)
    k__law_deeds := keep_ok (c.fact 83 (f := .keep "_law_deeds") rfl)
    k__law_least_of := keep_ok (c.fact 84 (f := .keep "_law_least_of") rfl)
    k__law_step := keep_ok (c.fact 85 (f := .keep "_law_step") rfl)
    k__law_shows := keep_ok (c.fact 86 (f := .keep "_law_shows") rfl)
    k_law := keep_ok (c.fact 87 (f := .keep "law") rfl)
    s_ABSENT := str_ok X G (c.fact 88 (f := .str "ABSENT" "absent") rfl)
    s_FAILED := str_ok X G (c.fact 89 (f := .str "FAILED" "failed") rfl)
    s_HALF := str_ok X G (c.fact 90 (f := .str "HALF" "half") rfl)
    s_LEFT := str_ok X G (c.fact 91 (f := .str "LEFT" "left") rfl)
    s_READY := str_ok X G (c.fact 92 (f := .str "READY" "ready") rfl)
    s_UNPACKED := str_ok X G (c.fact 93 (f := .str "UNPACKED" "unpacked") rfl)
    s_UNPACK := str_ok X G (c.fact 94 (f := .str "UNPACK" "unpack") rfl)
    s_SETUP := str_ok X G (c.fact 95 (f := .str "SETUP" "setup") rfl)
    s_REMOVE := str_ok X G (c.fact 96 (f := .str "REMOVE" "remove") rfl)
    s_PURGE := str_ok X G (c.fact 97 (f := .str "PURGE" "purge") rfl)
    s_CLEAN := str_ok X G (c.fact 98 (f := .str "CLEAN" "clean") rfl)
    s_ENTER := str_ok X G (c.fact 99 (f := .str "ENTER" "enter") rfl)
    s_LEAVE := str_ok X G (c.fact 100 (f := .str "LEAVE" "leave") rfl)
    s_LETTERS := str_ok X G (c.fact 101 (f := .str "LETTERS" "abcdefghijklmnopqrstuvwxyz") rfl)
    i_MOST_LETTERS := int_ok X G (c.fact 102 (f := .int "MOST_LETTERS" 8) rfl)
    i_MOST_VERSION := int_ok X G (c.fact 103 (f := .int "MOST_VERSION" 99) rfl)
    i_MOST_EDITIONS := int_ok X G (c.fact 104 (f := .int "MOST_EDITIONS" 12) rfl)
    i_MOST_NAMES := int_ok X G (c.fact 105 (f := .int "MOST_NAMES" 4) rfl)
    n_len := free_ok X G (c.fact 106 (f := .free "len") rfl)
    n_sorted := free_ok X G (c.fact 107 (f := .free "sorted") rfl)
    n_min := free_ok X G (c.fact 108 (f := .free "min") rfl)
    n_all := free_ok X G (c.fact 109 (f := .free "all") rfl)
    n_isinstance := free_ok X G (c.fact 110 (f := .free "isinstance") rfl)
    n_list := free_ok X G (c.fact 111 (f := .free "list") rfl)
    n_tuple := free_ok X G (c.fact 112 (f := .free "tuple") rfl)
    n_dict := free_ok X G (c.fact 113 (f := .free "dict") rfl)
    n_set := free_ok X G (c.fact 114 (f := .free "set") rfl)
    n_int := free_ok X G (c.fact 115 (f := .free "int") rfl)
    n_bool := free_ok X G (c.fact 116 (f := .free "bool") rfl)
    n_str := free_ok X G (c.fact 117 (f := .free "str") rfl)
    n_range := free_ok X G (c.fact 118 (f := .free "range") rfl)
    n_enumerate := free_ok X G (c.fact 119 (f := .free "enumerate") rfl)
    c_Edition := cls_ok (c.fact 120 (f := .cls "Edition") rfl)
    mk_Edition := mkr_ok (c.fact 121 (f := .mkr "Edition") rfl)
    na_Edition_label := noat_ok (c.fact 122 (f := .noat "Edition" "label") rfl)
    na_Edition_number := noat_ok (c.fact 123 (f := .noat "Edition" "number") rfl)
    na_Edition_has := noat_ok (c.fact 124 (f := .noat "Edition" "has") rfl)
    na_Edition_wants := noat_ok (c.fact 125 (f := .noat "Edition" "wants") rfl)
    na_Edition_asks := noat_ok (c.fact 126 (f := .noat "Edition" "asks") rfl)
    na_Edition_shuns := noat_ok (c.fact 127 (f := .noat "Edition" "shuns") rfl)
    c_Store := cls_ok (c.fact 128 (f := .cls "Store") rfl)
    mk_Store := mkr_ok (c.fact 129 (f := .mkr "Store") rfl)
    na_Store_known := noat_ok (c.fact 130 (f := .noat "Store" "known") rfl)
    c_System := cls_ok (c.fact 131 (f := .cls "System") rfl)
    mk_System := mkr_ok (c.fact 132 (f := .mkr "System") rfl)
    na_System_base := noat_ok (c.fact 133 (f := .noat "System" "base") rfl)
    na_System_rows := noat_ok (c.fact 134 (f := .noat "System" "rows") rfl)
    m_System_with_state := meth_ok (c.fact 135 (f := .meth "System" "with_state") rfl)
    c_Run := cls_ok (c.fact 136 (f := .cls "Run") rfl)
    mk_Run := mkr_ok (c.fact 137 (f := .mkr "Run") rfl)
    na_Run_base := noat_ok (c.fact 138 (f := .noat "Run" "base") rfl)
    na_Run_fails := noat_ok (c.fact 139 (f := .noat "Run" "fails") rfl)
    na_Run_made := noat_ok (c.fact 140 (f := .noat "Run" "made") rfl)
    m_Run_is_done := meth_ok (c.fact 141 (f := .meth "Run" "is_done") rfl)
    m_Run_state_behind := meth_ok (c.fact 142 (f := .meth "Run" "state_behind") rfl)
    m_Run_unpacked_new := meth_ok (c.fact 143 (f := .meth "Run" "unpacked_new") rfl)
    m_Run_unpacked_over := meth_ok (c.fact 144 (f := .meth "Run" "unpacked_over") rfl)
    m_Run_is_left := meth_ok (c.fact 145 (f := .meth "Run" "is_left") rfl)
    m_Run_given_up := meth_ok (c.fact 146 (f := .meth "Run" "given_up") rfl)
    m_Run_put_back := meth_ok (c.fact 147 (f := .meth "Run" "put_back") rfl)
    m_Run_set_up := meth_ok (c.fact 148 (f := .meth "Run" "set_up") rfl)
    m_Run_removed := meth_ok (c.fact 149 (f := .meth "Run" "removed") rfl)
    m_Run_purged := meth_ok (c.fact 150 (f := .meth "Run" "purged") rfl)
    mk_State := mkr_ok (c.fact 151 (f := .mkr "State") rfl)
    m_State_all_three := meth_ok (c.fact 152 (f := .meth "State" "all_three") rfl)
    m_State_copied := meth_ok (c.fact 153 (f := .meth "State" "copied") rfl)
    m_State_go_on := meth_ok (c.fact 154 (f := .meth "State" "go_on") rfl)
    m_State_go_back := meth_ok (c.fact 155 (f := .meth "State" "go_back") rfl)
    m_State_go_again := meth_ok (c.fact 156 (f := .meth "State" "go_again") rfl)
    c_Desk := cls_ok (c.fact 157 (f := .cls "Desk") rfl)
    mk_Desk := mkr_ok (c.fact 158 (f := .mkr "Desk") rfl)
    na_Desk_state := noat_ok (c.fact 159 (f := .noat "Desk" "state") rfl)
    m_Desk_act := meth_ok (c.fact 160 (f := .meth "Desk" "act") rfl)
    m_Desk_store_as := meth_ok (c.fact 161 (f := .meth "Desk" "store_as") rfl)
    m_Desk_fetch := meth_ok (c.fact 162 (f := .meth "Desk" "fetch") rfl)
    m_Desk_undo := meth_ok (c.fact 163 (f := .meth "Desk" "undo") rfl)
    m_Desk_redo := meth_ok (c.fact 164 (f := .meth "Desk" "redo") rfl)
    m_Desk_execute := meth_ok (c.fact 165 (f := .meth "Desk" "execute") rfl)
    m_Desk_apply_all := meth_ok (c.fact 166 (f := .meth "Desk" "apply_all") rfl)
    m_Desk_tried := meth_ok (c.fact 167 (f := .meth "Desk" "tried") rfl)
    c_Trial := cls_ok (c.fact 168 (f := .cls "Trial") rfl)
    mk_Trial := mkr_ok (c.fact 169 (f := .mkr "Trial") rfl)
    na_Trial_tested_desk := noat_ok (c.fact 170 (f := .noat "Trial" "tested_desk") rfl)
    na_Trial_origin := noat_ok (c.fact 171 (f := .noat "Trial" "origin") rfl)
    na_Trial_fresh := noat_ok (c.fact 172 (f := .noat "Trial" "fresh") rfl)
    na_Trial_chosen := noat_ok (c.fact 173 (f := .noat "Trial" "chosen") rfl)
    m_Trial_hold := meth_ok (c.fact 174 (f := .meth "Trial" "hold") rfl)
    v_NOTHING := ktup_ok (exs_at c.ex 0 rfl)
    v_THERE := ktup_ok (exs_at c.ex 1 rfl)
    v_SCRIPTS := ktup_ok (exs_at c.ex 2 rfl)
    v_STATUSES := ktup_ok (exs_at c.ex 3 rfl)
    p_Store_names := propB_ok (exs_at c.ex 4 rfl)
    p_System_states := propB_ok (exs_at c.ex 5 rfl)
    p_Desk_system := propB_ok (exs_at c.ex 6 rfl)
    p_Desk_call_count := propB_ok (exs_at c.ex 7 rfl)
    p_Desk_kept := propB_ok (exs_at c.ex 8 rfl)
    p_Desk_history := propB_ok (exs_at c.ex 9 rfl)
    x_Store_contains := eqO_ok (ba (show fnB K _ _ = true from (exs_at c.ex 10 rfl))).1
    x_Store_containsF := (ba (show fnB K _ _ = true from (exs_at c.ex 10 rfl))).2
    x_Store_eq := eqO_ok (ba (show fnB K _ _ = true from (exs_at c.ex 11 rfl))).1
    x_Store_eqF := (ba (show fnB K _ _ = true from (exs_at c.ex 11 rfl))).2
    x_System_eq := eqO_ok (ba (show fnB K _ _ = true from (exs_at c.ex 12 rfl))).1
    x_System_eqF := (ba (show fnB K _ _ = true from (exs_at c.ex 12 rfl))).2
    x_System_ne := eqO_ok (exs_at c.ex 13 rfl)
    x_System_mro := of_decide_eq_true (exs_at c.ex 14 rfl)
    ic_Store := inscB_ok (cls_ok (c.fact 128 (f := .cls "Store") rfl)) (exs_at c.ex 15 rfl)
    ic_System := inscB_ok (cls_ok (c.fact 131 (f := .cls "System") rfl)) (exs_at c.ex 16 rfl)
    S := sclsB_ok (exs_at c.ex 17 rfl)
    sl_count := slotB_ok (exs_at c.ex 18 rfl)
    sl_past := slotB_ok (exs_at c.ex 19 rfl)
    sl_present := slotB_ok (exs_at c.ex 20 rfl)
    sl_shelf := slotB_ok (exs_at c.ex 21 rfl)
    sl_undone := slotB_ok (exs_at c.ex 22 rfl)
    sz_act := kdct_w D (valsB_ok (q := ("act", .int 3)) (exs_at c.ex 23 rfl) (by simp [szV]))
    sz_store := kdct_w D (valsB_ok (q := ("store_as", .int 2)) (exs_at c.ex 23 rfl) (by simp [szV]))
    sz_fetch := kdct_w D (valsB_ok (q := ("fetch", .int 2)) (exs_at c.ex 23 rfl) (by simp [szV]))
    sz_low := D.low
    w_Trial := ⟨eqO_ok (ba (show fnB K _ _ = true from (exs_at c.ex 24 rfl))).1, (ba (show fnB K _ _ = true from (exs_at c.ex 24 rfl))).2, eqO_ok (ba (show fnB K _ _ = true from (exs_at c.ex 25 rfl))).1, (ba (show fnB K _ _ = true from (exs_at c.ex 25 rfl))).2⟩
    cr_Desk := ⟨_, _, cread_w (exs_at c.ex 26 rfl), He5.cmet_of (ba (show (_ && _) = true from (exs_at c.ex 27 rfl))).1 (ba (show (_ && _) = true from (exs_at c.ex 27 rfl))).2⟩ }
end Hs
set_option Elab.async false
set_option linter.all false
set_option maxRecDepth 100000
set_option maxHeartbeats 4000000
/-! a step drawn: a dict copied and written, one of many taken from a slot -/
namespace Hs
open PySem PySem.Spec PyProof.Rows L2 StX
section
variable {S : AS} {K : PySem.W.Frag} {w : World} {Γ Δ : Ctx} {I J L M : IV S} {ta tb te tl td ty tv : TE} {t : TA} {φ ψ χ ξ : Fm} {R : VK} {N : L2.St → Hp → Prop} {r : R2} {u : TS} {i : Nat}
theorem Env.opn {σ : L2.St} {H : Hp} {v : V} (e : Env S Γ σ H) (hv : σ[i]? = some (some v)) (p : φ.p S v H) : Env S (Γ.set i (some φ)) σ H := by
  refine ⟨by rw [List.length_set]; exact e.1, fun j ψ hj => ?_⟩
  rw [List.getElem?_set] at hj
  by_cases z : i = j
  · subst z
    rw [if_pos rfl] at hj
    split at hj
    · cases hj
      exact ⟨v, hv, p⟩
    · cases hj
  · rw [if_neg z] at hj
    exact e.2 j ψ hj
/-- a slot that holds one of many: which -/
theorem gs_opn {α : Type} {P : α → Prop} {φ : α → Fm} (i : Nat) (hi : Γ[i]? = some (some (Exs P φ))) (k : ∀ a, P a → GS S (Γ.set i (some (φ a))) I u R N) : GS S Γ I u R N := fun σ H e hI D r n => by
  obtain ⟨v, hv, a, ha, p⟩ := e.2 i _ hi
  exact k a ha σ H (e.opn hv p) hI D r n
/-- x = dict(d), to be written -/
theorem gs_dcopy {rows : List (Key × Fm)} (h : GA S Γ I t [Dct rows] J) (k : ∀ p, ¬ S p → GS (SU S p) (Γ.set i (some (Eqv (.ref p)))) (J.dk p rows) u R N) : GS S Γ I (tSeq (tAsg (tCB rDcopy t) (gName i)) u) R N := fun σ H e hi D r n => h σ H e hi _ fun vs H1 l1 j1 p1 => by
  obtain ⟨v, ws, rfl, ⟨d, kvs, rfl, hs, h2, h3, h4⟩, rfl⟩ := p1
  refine ⟨d, kvs, rfl, h2, fun p hp => ?_⟩
  have l : XE S H1 (upd H1 p (.dK kvs)) := XE.new hp
  have back : ∀ {H'}, XE (SU S p) (upd H1 p (.dK kvs)) H' → XE S H H' := fun {H'} x => l1.trans fun a o hs ha => x a o (fun z => z.elim hs fun z => by
    subst z
    rw [hp] at ha
    cases ha) (l a o hs ha)
  have sub : ∀ a, SU S p a → S a ∨ H1 a = none := fun a z => z.elim .inl fun z => .inr (by rw [z]; exact hp)
  refine k p (J.fresh j1 hp) _ _ (((Env.lift sub (e.xe l1)).xe (XE.new hp)).set i (φ := Eqv (.ref p)) rfl) ⟨fun xs => by rw [upd_upd]; exact J.le (LX.new hp) j1, kvs, upd_same, h3, ?_⟩ D (fun v H' x q => r v H' (back x) q) fun σ' H' x q => n σ' H' (back x) q
  exact (h4.lift sub).xe (XE.new hp)
/-- x[name] = v -/
theorem gs_dkPut {p : Addr} {rows : List (Key × Fm)} {k : Str} {Γ : Ctx} (hv : GE (SU S p) Γ (I.dk p rows) tv ψ (I.dk p rows)) (ho : GE (SU S p) Γ (I.dk p rows) td (Eqv (.ref p)) (I.dk p rows)) (hk : GE (SU S p) Γ (I.dk p rows) ty (Is K (.str k)) (I.dk p rows)) (hz : rows.length ≤ 100) :
    GS (SU S p) Γ (I.dk p rows) (sDPut td ty tv) R (En (SU S p) Γ (I.dk p (putG rows (.inr k) ψ))) := fun σ H e hi D r n => hv σ H e hi _ fun v H1 l1 j1 p1 => ho σ H1 (e.xe l1) j1 _ fun w H2 l2 j2 p2 => hk σ H2 (e.xe (l1.trans l2)) j2 _ fun y H3 l3 j3 p3 => by
  obtain rfl : w = .ref p := p2
  obtain rfl := Da.str_of p3
  obtain ⟨h0, kvs, h2, h3, h4⟩ := j3
  have hlen : kvs.length = rows.length := by
    have := congrArg List.length h3
    rwa [List.length_map, List.length_map] at this
  have l4 : XE (SU S p) H3 (upd H3 p (.dK (putK kvs (.inr k) v))) := XE.mut (.inr rfl)
  obtain ⟨i1, i2⟩ := putG_rows (k := .inr k) (ψ.xe (l2.trans l3) p1) h3 h4
  exact ⟨p, _, rfl, DPut.k (k := .inr k) h2 (Nat.lt_of_le_of_lt (by rw [hlen]; exact hz) (by decide)), n _ _ (((l1.trans l2).trans l3).trans l4) ⟨e.xe (((l1.trans l2).trans l3).trans l4), fun xs => by rw [upd_upd]; exact h0 xs, _, upd_same, i1, i2.xe l4⟩⟩
/-- ("store_as", name), (here, count, more), .. : more is the dict's own -/
theorem scn_out {H : Hp} {a b : Fm} {p : Addr} {rows : List (Key × Fm)} {v : V} (hp : ¬ S p) (h : (Tup K [a, b, Eqv (.ref p)]).p (SU S p) v H) (j : (I.dk p rows).p H) : (Tup K [a, b, Dct rows]).p S v H := by
  obtain ⟨x, xs, rfl, h1, v1, _, rfl, k1, v2, _, rfl, k2, v3, _, rfl, k3, rfl⟩ := h
  obtain rfl : v3 = .ref p := k3
  have sub : ∀ q, S q → SU S p q ∨ H q = none := fun q z => .inl (.inl z)
  exact ⟨x, _, rfl, h1.lift sub, v1, _, rfl, a.lift sub k1, v2, _, rfl, b.lift sub k2, _, _, rfl, dk_out hp j, rfl⟩
end
theorem picks_range {n : Nat} {ds : List PyData} (h : Picks (fun (x : Nat) d => d = .int (x : Nat)) (List.range n) ds) : ∃ fails : List Int, ds = fails.map .int ∧ fails.length ≤ n := by
  obtain ⟨ts, h1, h2⟩ := h
  have key : ∀ {ts : List Nat} {ds : List PyData}, All2 (fun (x : Nat) d => d = .int (x : Nat)) ts ds → ∃ fails : List Int, ds = fails.map .int ∧ fails.length = ts.length := fun {ts ds} h => by
    induction h with
    | nil => exact ⟨[], rfl, rfl⟩
    | @cons x d xs ds e _ ih =>
      subst e
      obtain ⟨fs, rfl, h⟩ := ih
      exact ⟨(x : Nat) :: fs, rfl, by rw [List.length_cons, List.length_cons, h]⟩
  obtain ⟨fs, k1, k2⟩ := key h2
  refine ⟨fs, k1, ?_⟩
  have := h1.length_le
  rw [List.length_range] at this
  omega
def ct_law_step (K : PySem.W.Frag) : CTR := fun S k => ∃ r sv sc sa es ns s, RowI r sv k.I ∧ EsOk es ns ∧ (∀ n ∈ ns, PyData.strOk n = true) ∧ ScnOk es ns s ∧ k.J = k.I ∧ k.ins = [RowV K r sv sc, Is K (edsD es), ScnF K sa es s] ∧
  k.out = Exs (fun op : Op => opOk es ns s op) fun op => Tup K [Is K op.d, ScnF K sa es (execS es s op), Is K (dueS es s op)]
end Hs
set_option Elab.async false
set_option linter.all false
set_option maxRecDepth 100000
set_option maxHeartbeats 4000000
/-! what a desk shows: its data are equal to themselves -/
namespace Hs
open PySem PySem.Spec PyProof.Rows L2 StX
theorem eqv_ints : ∀ (xs : List Int), PyData.eqvAll (xs.map PyData.int) (xs.map PyData.int) = true
  | [] => by simp [PyData.eqvAll]
  | x :: xs => by
    have := eqv_ints xs
    simp only [List.map_cons, PyData.eqvAll, PyData.eqv, this]
    simp
theorem eqv_deed (d : Deed) : PyData.eqv d.d d.d = true := by
  cases d <;> simp [Deed.d, PyData.eqv, PyData.eqvAll]
theorem eqv_op (op : Op) : PyData.eqv op.d op.d = true := by
  cases op with
  | act d fails => simp [Op.d, PyData.eqv, PyData.eqvAll, eqv_deed, eqv_ints]
  | store n => simp [Op.d, PyData.eqv, PyData.eqvAll]
  | fetch n => simp [Op.d, PyData.eqv, PyData.eqvAll]
theorem eqv_all {α : Type} {f : α → PyData} (h : ∀ x, PyData.eqv (f x) (f x) = true) : ∀ (xs : List α), PyData.eqv (.list (xs.map f)) (.list (xs.map f)) = true := fun xs => by
  rw [PyData.eqv]
  induction xs with
  | nil => simp [PyData.eqvAll]
  | cons x xs ih => simp only [List.map_cons, PyData.eqvAll, h x, ih, Bool.and_self]
def LayOp (op : Op) : Prop := op.d.canLay0 = true ∧ op.d.depth ≤ 5
theorem lay_ints : ∀ (xs : List Int), PyData.canLayAll0 (xs.map PyData.int) = true ∧ PyData.depthAll (xs.map PyData.int) ≤ 1
  | [] => ⟨rfl, Nat.zero_le _⟩
  | x :: xs => by
    obtain ⟨h1, h2⟩ := lay_ints xs
    refine ⟨by simp only [List.map_cons, PyData.canLayAll0, PyData.canLay0, h1, Bool.and_self], ?_⟩
    simp only [List.map_cons, PyData.depthAll, PyData.depth]
    omega
theorem lay_act : PyData.strOk ("act" : Str) = true := by decide +kernel
theorem lay_store : PyData.strOk ("store_as" : Str) = true := by decide +kernel
theorem lay_fetch : PyData.strOk ("fetch" : Str) = true := by decide +kernel
theorem lay_deeds : ∀ s ∈ (["unpack", "setup", "remove", "purge"] : List Str), PyData.strOk s = true := by decide +kernel
theorem lay_deed {d : Deed} (h : PyData.strOk d.nm = true) : d.d.canLay0 = true ∧ d.d.depth ≤ 2 := by
  have h1 := lay_deeds "unpack" (by simp)
  have h2 := lay_deeds "setup" (by simp)
  have h3 := lay_deeds "remove" (by simp)
  have h4 := lay_deeds "purge" (by simp)
  cases d <;> simp_all [Deed.d, Deed.nm, PyData.canLay0, PyData.canLayAll0, PyData.depth, PyData.depthAll]
theorem lay_op {es : List Ed} {ns : List Str} {s : Scn} {op : Op} (hns : ∀ n ∈ ns, PyData.strOk n = true) (h : opOk es ns s op) : LayOp op := by
  cases op with
  | act d fails =>
    obtain ⟨h1, h2⟩ := lay_deed (hns _ h.2.1)
    obtain ⟨h3, h4⟩ := lay_ints fails
    refine ⟨by simp [Op.d, PyData.canLay0, PyData.canLayAll0, lay_act, h1, h3], ?_⟩
    simp only [Op.d, PyData.depth, PyData.depthAll]
    omega
  | store n =>
    have := (xy_word n h).2.2
    exact ⟨by simp [Op.d, PyData.canLay0, PyData.canLayAll0, lay_store, this], by simp [Op.d, PyData.depth, PyData.depthAll]⟩
  | fetch n =>
    have := (xy_word n h.1).2.2
    exact ⟨by simp [Op.d, PyData.canLay0, PyData.canLayAll0, lay_fetch, this], by simp [Op.d, PyData.depth, PyData.depthAll]⟩
theorem shaped_ops {ops : List Op} (h : ∀ op ∈ ops, LayOp op) : SeqAt.shaped (.list (ops.map Op.d)) = true := shaped_list (n := 5) (by decide) fun d hd => by
  obtain ⟨op, h1, rfl⟩ := List.mem_map.mp hd
  exact h op h1
def LayDue (d : PyData) : Prop := (d.canLay0 = true ∧ d.depth ≤ 5) ∧ PyData.eqv d d = true
theorem lay_due {es : List Ed} {s : Scn} {op : Op} : LayDue (dueS es s op) := by
  cases op <;> exact ⟨⟨rfl, Nat.le_trans (by simp [dueS, PyData.depth]) (by decide : 1 ≤ 5)⟩, by simp [dueS, PyData.eqv]⟩
theorem shaped_dues {ds : List PyData} (h : ∀ d ∈ ds, LayDue d) : SeqAt.shaped (.list ds) = true := shaped_list (n := 5) (by decide) fun d hd => (h d hd).1
theorem eqv_dues {ds : List PyData} (h : ∀ d ∈ ds, LayDue d) : PyData.eqv (.list ds) (.list ds) = true := by
  rw [PyData.eqv]
  induction ds with
  | nil => simp [PyData.eqvAll]
  | cons x xs ih => simp only [PyData.eqvAll, (h x List.mem_cons_self).2, ih fun d hd => h d (List.mem_cons_of_mem _ hd), Bool.and_self]
theorem dues_lay {es : List Ed} : ∀ {ops : List Op} {s : Scn}, ∀ d ∈ duesS es s ops, LayDue d
  | [], _, d, h => nomatch h
  | op :: r, s, d, h => by
    rcases List.mem_cons.mp h with rfl | h
    · exact lay_due
    · exact dues_lay (ops := r) d h
theorem st_all' {es : List Ed} {n : Str} {s : S3} (h : isState es n s = true) : s.st ∈ allSt := by
  unfold isState at h
  split at h
  · rename_i h1
    rw [show s.st = sAb from of_decide_eq_true h1]
    decide +kernel
  · simp at h
    simp only [allSt, List.mem_cons, List.not_mem_nil, or_false]
    exact h.1.1
section
variable {S : AS} {K : PySem.W.Frag} {I J : IV S} {r : R2} {χ : Fm}
theorem gr_exs2 {α β : Type} {P : α → Prop} {Q : β → Prop} {φ : α → Fm} {ψ : β → Fm} (h : ∀ a b, P a → Q b → GR S I r (φ a) (ψ b) χ J) : GR S I r (Exs P φ) (Exs Q ψ) χ J := fun x y H hi ⟨a, ha, p1⟩ ⟨b, hb, p2⟩ => h a b ha hb x y H hi p1 p2
theorem sorted_same {ks ys zs : List Str} (nd : ks.Nodup) (h1 : ys.Perm ks ∧ sortedS ys = true) (h2 : zs.Perm ks ∧ sortedS zs = true) : ys = zs :=
  asc_eq (asc_of h1.2 (h1.1.nodup_iff.mpr nd)) (asc_of h2.2 (h2.1.nodup_iff.mpr nd)) fun k => by rw [h1.1.mem_iff, h2.1.mem_iff]
end
def ct_law_shows (K : PySem.W.Frag) : CTR := fun S k => ∃ dk st ds F sa es ns m, DkF K S dk st ds F ∧ EsOk es ns ∧ ScnOk es ns m.now ∧ m.past.length ≤ 900 ∧ (∀ p ∈ m.past, LayOp p.1) ∧ k.I = F (stF K sa es m) ∧ k.J = F (stF K sa es m) ∧ k.ins = [Eqv (.ref dk), ScnF K sa es m.now, ListD K (m.past.map fun p => p.1.d)] ∧ k.out = Is K (.bool true)
end Hs
set_option Elab.async false
set_option linter.all false
set_option maxRecDepth 100000
set_option maxHeartbeats 4000000
/-! a comprehension that changes a desk -/
namespace Hs
open PySem PySem.Spec PyProof.Rows L2 StX
def undB (K : PySem.W.Frag) (st ds D : Addr) (ws0 : List V) (xs : List V) (H : Hp) : Hp := upd (upd (upd H st (slO K st ds ws0)) ds (.xd [])) D (.lst xs)
def IV.und {S : AS} (K : PySem.W.Frag) (F : List Fm → IV S) (st ds D : Addr) (fs φs : List Fm) : IV (SU S D) := ⟨fun H => (∃ (ws0 : List V) (φ0 : List Fm), ∀ xs, (F φ0).p (undB K st ds D ws0 xs H)) ∧ S st ∧ S ds ∧ StAt K (SU S D) st ds φs H ∧ ∃ vs, H D = some (.lst vs) ∧ Ins (SU S D) fs vs H,
  fun {H H'} e ⟨⟨ws0, φ0, hb⟩, s1, s2, ⟨ws, h1, h2, h3⟩, vs, h4, h5⟩ => ⟨⟨ws0, φ0, fun xs => (F φ0).le (LX.updB (LX.updB (LX.updB (e.sub fun a z => .inl z)))) (hb xs)⟩, s1, s2, ⟨ws, e.2 _ _ (.inl s1) h1, e.2 _ _ (.inl s2) h2, h3.le e.any⟩, vs, e.2 _ _ (.inr rfl) h4, h5.le e.any⟩,
  fun {H} ⟨⟨ws0, φ0, hb⟩, s1, s2, ⟨ws, h1, h2, h3⟩, vs, h4, h5⟩ a ha => by
    rcases ha with ha | rfl
    · by_cases z1 : a = D
      · subst z1
        exact ⟨_, h4, rfl⟩
      · by_cases z2 : a = ds
        · subst z2
          exact ⟨_, h2, rfl⟩
        · by_cases z3 : a = st
          · subst z3
            exact ⟨_, h1, rfl⟩
          · obtain ⟨o, k1, k2⟩ := (F φ0).dom (hb vs) a ha
            unfold undB at k1
            rw [upd_ne z1, upd_ne z2, upd_ne z3] at k1
            exact ⟨o, k1, k2⟩
    · exact ⟨_, h4, rfl⟩⟩
section
variable {S : AS} {K : PySem.W.Frag} {dk st ds D : Addr} {F : List Fm → IV S} {φs fs : List Fm}
theorem und_wk {H : Hp} (hF : StF K S st ds F) (h : (IV.und K F st ds D fs φs).p H) : (F φs).p H := by
  obtain ⟨⟨ws0, φ0, hb⟩, s1, s2, ⟨ws, h1, h2, h3⟩, vs, h4, h5⟩ := h
  refine hF.put φ0 φs _ H (hb vs) (fun a o hn ha => ?_) ⟨ws, h1, h2, h3.lift fun a z => .inl (.inl z)⟩
  unfold undB at ha
  by_cases z1 : a = D
  · rw [z1, upd_same] at ha
    rw [z1, h4]
    exact ha
  · rw [upd_ne z1, upd_ne (fun z => hn (.inr z)), upd_ne (fun z => hn (.inl z))] at ha
    exact ha
theorem und_in {H : Hp} (hF : StF K S st ds F) (h : (F φs).p H) (hD : H D = none) : (IV.und K F st ds D [] φs).p (upd H D (.lst [])) := by
  obtain ⟨ws, h1, h2, h3⟩ := hF.get _ H h
  have e : ∀ xs, undB K st ds D ws xs (upd H D (.lst [])) = upd H D (.lst xs) := fun xs => by
    have n1 := ne_of_none h1 hD
    have n2 := ne_of_none h2 hD
    funext a
    unfold undB
    by_cases z1 : a = D
    · rw [z1, upd_same, upd_same]
    · rw [upd_ne z1, upd_ne z1]
      by_cases z2 : a = ds
      · rw [z2, upd_same, h2]
      · rw [upd_ne z2]
        by_cases z3 : a = st
        · rw [z3, upd_same]
          exact h1.symm
        · rw [upd_ne z3, upd_ne z1]
  have l : XE (SU S D) H (upd H D (.lst [])) := XE.new hD
  refine ⟨⟨ws, φs, fun xs => ?_⟩, hF.sub, hF.sub2, ⟨ws, ?_, ?_, (h3.lift fun a z => z.elim .inl fun z => .inr (by rw [z]; exact hD)).xe l⟩, [], upd_same, rfl⟩
  · rw [e]
    exact (F φs).le (LX.new hD) h
  · rw [upd_ne (ne_of_none h1 hD)]
    exact h1
  · rw [upd_ne (ne_of_none h2 hD)]
    exact h2
theorem und_dk (hF : DkF K S dk st ds F) : DkF K (SU S D) dk st ds (IV.und K F st ds D fs) := by
  refine ⟨⟨.inl hF.sub, .inl hF.sub2, fun φs H h => h.2.2.2.1, fun φs φs' H H' ⟨⟨ws0, φ0, hb⟩, s1, s2, ⟨ws, h1, h2, h3⟩, vs, h4, h5⟩ e b => ?_⟩, .inl hF.subD, fun φs H ⟨⟨ws0, φ0, hb⟩, s1, s2, ⟨ws, h1, h2, h3⟩, vs, h4, h5⟩ => ?_⟩
  · have nD1 : D ≠ st := fun z => by rw [z, h1] at h4; unfold SlX.SlO at h4; cases h4
    have nD2 : D ≠ ds := fun z => by rw [z, h2] at h4; cases h4
    have e2 : XE (SU S D) H H' := e.sub fun a z => z.elim (fun z => .inl (by rw [z]; exact s1)) fun z => .inl (by rw [z]; exact s2)
    refine ⟨⟨ws0, φ0, fun xs => (F φ0).le ?_ (hb xs)⟩, s1, s2, b, vs, e _ _ (fun z => z.elim nD1 nD2) h4, h5.xe e2⟩
    have key : ∀ a o, undB K st ds D ws0 xs H a = some o → undB K st ds D ws0 xs H' a = some o := fun a o ha => by
      unfold undB at ha ⊢
      by_cases z1 : a = D
      · rw [z1, upd_same] at ha ⊢
        exact ha
      · rw [upd_ne z1] at ha ⊢
        by_cases z2 : a = ds
        · rw [z2, upd_same] at ha ⊢
          exact ha
        · rw [upd_ne z2] at ha ⊢
          by_cases z3 : a = st
          · rw [z3, upd_same] at ha ⊢
            exact ha
          · rw [upd_ne z3] at ha ⊢
            exact e a o (fun z => z.elim z3 z2) ha
    exact ⟨fun a o _ ha => ⟨o, key a o ha, rfl⟩, fun a o _ ha => key a o ha⟩
  · obtain ⟨dx, hd⟩ := hF.desk φ0 _ (hb vs)
    unfold undB at hd
    have z1 : dk ≠ D := fun z => by rw [z, upd_same] at hd; cases hd
    rw [upd_ne z1] at hd
    have z2 : dk ≠ ds := fun z => by rw [z, upd_same] at hd; cases hd
    rw [upd_ne z2] at hd
    have z3 : dk ≠ st := fun z => by rw [z, upd_same] at hd; exact ins_slO (Option.some.inj hd).symm
    rw [upd_ne z3] at hd
    exact ⟨dx, hd⟩
theorem und_push {H : Hp} {χ : Fm} {v : V} (hv : χ.p (SU S D) v H) (h : (IV.und K F st ds D fs φs).p H) : ∃ acc, H D = some (.lst acc) ∧ acc.length = fs.length ∧ (IV.und K F st ds D (fs ++ [χ]) φs).p (upd H D (.lst (acc ++ [v]))) := by
  obtain ⟨⟨ws0, φ0, hb⟩, s1, s2, ⟨ws, h1, h2, h3⟩, vs, h4, h5⟩ := h
  have nD1 : st ≠ D := fun z => by rw [z, h4] at h1; unfold SlX.SlO at h1; cases h1
  have nD2 : ds ≠ D := fun z => by rw [z, h4] at h2; cases h2
  have l : XE (SU S D) H (upd H D (.lst (vs ++ [v]))) := XE.mut (.inr rfl)
  refine ⟨vs, h4, h5.len, ⟨ws0, φ0, fun xs => ?_⟩, s1, s2, ⟨ws, by rw [upd_ne nD1]; exact h1, by rw [upd_ne nD2]; exact h2, h3.xe l⟩, vs ++ [v], upd_same, (Ins.app (ψs := [χ]) (ws := [v]) h5 ⟨v, [], rfl, hv, rfl⟩).xe l⟩
  have e : undB K st ds D ws0 xs (upd H D (.lst (vs ++ [v]))) = undB K st ds D ws0 xs H := by
    funext a
    unfold undB
    by_cases z1 : a = D
    · rw [z1, upd_same, upd_same]
    · rw [upd_ne z1, upd_ne z1]
      by_cases z2 : a = ds
      · rw [z2, upd_same, upd_same]
      · rw [upd_ne z2, upd_ne z2]
        by_cases z3 : a = st
        · rw [z3, upd_same, upd_same]
        · rw [upd_ne z3, upd_ne z3, upd_ne z1]
  rw [e]
  exact hb xs
theorem und_out {H : Hp} {dsl : List PyData} (nD : ¬ S D) (h : (IV.und K F st ds D (dsl.map (Is K)) φs).p H) : Da S K H (.ref D) (.list dsl) := by
  obtain ⟨_, s1, s2, ⟨ws, h1, h2, h3⟩, vs, h4, h5⟩ := h
  exact .lst nD h4 ((Dl.map dsl).all (h5.lift fun a z => .inl (.inl z)))
end
section
variable {S : AS} {K : PySem.W.Frag} {Γ Δ : Ctx} {I J L M : IV S} {te td : TE} {φ ψ χ ξ : Fm} {φs ψs fs : List Fm} {R : VK} {N : L2.St → Hp → Prop} {dk st ds : Addr} {F : List Fm → IV S}
theorem ge_lcDk {wi : TI} {g : TG} {vs : List Nat} (hF : DkF K S dk st ds F) (φ : Nat → List Fm) (dsl : List PyData) (h : GI S Γ I wi ψs (F (φ 0))) (hl : ψs.length = dsl.length) (hz : dsl.length ≤ 1000)
    (hs : ∀ (i : Nat) (ψ : Fm) (d : PyData) (S' : AS) (F' : List Fm → IV S'), DkF K S' dk st ds F' → ψs[i]? = some ψ → dsl[i]? = some d → ∃ Δ js, (∀ j ∈ js, j ∈ vs) ∧ GG S' (wipeG Γ vs) g ψ Δ js ∧ GE S' Δ (F' (φ i)) te (Is K d) (F' (φ (i + 1)))) :
    GE S Γ I (tLc wi g tYes te vs) (Is K (.list dsl)) (F (φ dsl.length)) := fun σ H e hi Q q => h σ H e hi _ fun Jt H1 l1 j1 ⟨Gw, Y, w, hT⟩ D hD => by
  have nS : ¬ S D := (F (φ 0)).fresh j1 hD
  have sub : ∀ a, SU S D a → S a ∨ H1 a = none := fun a z => z.elim .inl fun z => .inr (by rw [z]; exact hD)
  obtain ⟨hG, hY⟩ := hT (SU S D) sub
  have back : ∀ {H'}, XE (SU S D) H1 H' → XE S H1 H' := fun {H'} x a o hs ha => x a o (fun z => z.elim hs fun z => by
    subst z
    rw [hD] at ha
    cases ha) ha
  have eD : Env (SU S D) Γ σ H1 := Env.lift sub (e.xe l1)
  refine lc_it w (fun i H' => XE (SU S D) H1 H' ∧ (IV.und K F st ds D ((dsl.take i).map (Is K)) (φ i)).p H') ⟨XE.new hD, und_in hF.toStF j1 hD⟩ (fun i H' _ p => hG H' p.1) (fun i x H2 H3 hi2 p y => ?_) fun H' p => ?_
  · obtain ⟨l2, jf⟩ := p
    have hψ : ψs[i]? = some ψs[i] := List.getElem?_eq_getElem hi2
    have hid : i < dsl.length := by omega
    have hd : dsl[i]? = some dsl[i] := List.getElem?_eq_getElem hid
    obtain ⟨sm, px⟩ := hY i _ H2 x H3 hψ l2 (fun q hq => hq.elim ((IV.und K F st ds D _ (φ i)).fresh jf) fun ⟨_, z⟩ => (IV.und K F st ds D _ (φ i)).notT jf z) y
    have jf3 := (IV.und K F st ds D ((dsl.take i).map (Is K)) (φ i)).le (LX.of sm) jf
    obtain ⟨Δ, js, hjs, hg, hE⟩ := hs i _ _ (SU S D) (IV.und K F st ds D ((dsl.take i).map (Is K))) (und_dk hF) hψ hd
    have l3 := l2.trans (XE.of sm)
    refine hg (L2.wipe σ vs) H3 x _ ((Env.wipe eD vs).xe l3) px fun σ2 e2 w2 => ?_
    refine ⟨by rw [w2 vs hjs]; exact wipe_idem σ vs vs fun _ m => m, gt_yes σ2 H3 e2 jf3 _ fun b H4 l4 j4 pb => ?_⟩
    subst pb
    rw [if_pos rfl]
    refine hE σ2 H4 (e2.xe l4) j4 _ fun v H5 l5 j5 pv => ?_
    obtain ⟨acc, k1, k2, k3⟩ := und_push pv j5
    refine ⟨acc, k1, Nat.lt_of_le_of_lt (by rw [k2, List.length_map, List.length_take]; omega) (by decide : 1000 < sizeLine), (l3.trans l4).trans (l5.trans (XE.mut (.inr rfl))), ?_⟩
    rw [List.take_succ_eq_append_getElem hid, List.map_append]
    exact k3
  · obtain ⟨l2, jf⟩ := p
    rw [hl] at jf
    rw [List.take_length] at jf
    exact q _ _ (l1.trans (back l2)) (und_wk hF.toStF jf) (und_out nS jf)
end
theorem dues_len {es : List Ed} : ∀ {ops : List Op} {s : Scn}, (duesS es s ops).length = ops.length
  | [], _ => rfl
  | op :: r, s => congrArg (· + 1) (dues_len (ops := r))
theorem chain_at {es : List Ed} {ns : List Str} (he : EsOk es ns) : ∀ {ops : List Op} {m : DM} {i : Nat} {op : Op}, ScnOk es ns m.now → chain es ns m.now ops → ops[i]? = some op →
    ScnOk es ns (goAll es m (ops.take i)).now ∧ opOk es ns (goAll es m (ops.take i)).now op ∧ goAll es m (ops.take (i + 1)) = goOn (goAll es m (ops.take i)) op (execS es (goAll es m (ops.take i)).now op) ∧ (duesS es m.now ops)[i]? = some (dueS es (goAll es m (ops.take i)).now op) ∧ (goAll es m (ops.take i)).past.length = m.past.length + i
  | [], _, _, _, _, _, h => by cases h
  | o :: r, m, 0, op, hs, hc, h => by
    cases h
    exact ⟨hs, hc.1, rfl, rfl, rfl⟩
  | o :: r, m, i + 1, op, hs, hc, h => by
    obtain ⟨h1, h2, h3, h4, h5⟩ := chain_at he (ops := r) (m := goOn m o (execS es m.now o)) (i := i) (exec_ok he hs hc.1) hc.2 h
    refine ⟨h1, h2, h3, h4, ?_⟩
    show (goAll es (goOn m o (execS es m.now o)) (r.take i)).past.length = _
    rw [h5]
    show (m.past ++ [(o, m.now)]).length + i = _
    rw [List.length_append]
    show _ + 1 + i = _
    omega
theorem goAll_ok {es : List Ed} {ns : List Str} (he : EsOk es ns) : ∀ {ops : List Op} {m : DM}, ScnOk es ns m.now → chain es ns m.now ops → ScnOk es ns (goAll es m ops).now
  | [], _, hs, _ => hs
  | o :: r, m, hs, hc => goAll_ok he (ops := r) (m := goOn m o (execS es m.now o)) (exec_ok he hs hc.1) hc.2
theorem stF_five {K : PySem.W.Frag} {sa : Addr} {es : List Ed} {m : DM} : ∃ p q r s t, stF K sa es m = [p, q, r, s, t] := ⟨_, _, _, _, _, rfl⟩
end Hs
set_option Elab.async false
set_option linter.all false
set_option maxRecDepth 100000
set_option maxHeartbeats 4000000
/-! a desk made -/
namespace Hs
open PySem PySem.Spec PyProof.Rows L2 StX
/-- Desk(system): by heaps -/
def spDesk (K : PySem.W.Frag) : Sp := fun vs H Q _ => ∃ x v dx, vs = [.ref x, v] ∧ H x = some (.ins (C_Desk K) dx []) ∧ ∀ H' st ds pt pu pd, H st = none → H ds = none → H pt = none → H pu = none → H pd = none → ds ≠ st → pu ≠ pt →
  (∀ a o, a ≠ x → H a = some o → H' a = some o) → H' x = some (.ins (C_Desk K) dx (dkF st)) → H' st = some (slO K st ds [.int 0, .ref pt, v, .ref pd, .ref pu]) → H' ds = some (.xd []) → H' pt = some (.tup []) → H' pu = some (.tup []) → H' pd = some (.dK []) → Q .non H'
def NdS (S : AS) (x st ds : Addr) : AS := fun a => S a ∨ a = x ∨ a = st ∨ a = ds
abbrev NdD (x st ds : Addr) (a : Addr) : Prop := a = x ∨ a = st ∨ a = ds
/-- I, none of the desk's own cells in sight -/
def NdB {S : AS} (I : IV S) (x st ds : Addr) (H : Hp) : Prop := ∀ H' : Hp, (∀ a, ¬ NdD x st ds a → H' a = H a) → I.p H'
theorem NdB.step {S : AS} {I : IV S} {x st ds : Addr} {H H2 : Hp} (hb : NdB I x st ds H) (hd : ∀ a o, ¬ NdD x st ds a → H a = some o → ∃ o', H2 a = some o' ∧ nk o' = nk o) (hs : ∀ a o, ¬ NdD x st ds a → S a → H a = some o → H2 a = some o) : NdB I x st ds H2 := fun H' ha => by
  have h1 : I.p (fun a => if NdD x st ds a then H' a else H a) := hb _ fun a hn => if_neg hn
  refine I.le ⟨fun a o _ h => ?_, fun a o hS h => ?_⟩ h1
  · by_cases hn : NdD x st ds a
    · simp only [if_pos hn] at h
      exact ⟨o, h, rfl⟩
    · simp only [if_neg hn] at h
      rw [ha a hn]
      exact hd a o hn h
  · by_cases hn : NdD x st ds a
    · simp only [if_pos hn] at h
      exact h
    · simp only [if_neg hn] at h
      rw [ha a hn]
      exact hs a o hn hS h
def IV.dsk {S : AS} (K : PySem.W.Frag) (I : IV S) (x dx st ds : Addr) (φs : List Fm) : IV (NdS S x st ds) := ⟨fun H => NdB I x st ds H ∧ H x = some (.ins (C_Desk K) dx (dkF st)) ∧ StAt K (NdS S x st ds) st ds φs H,
  fun {H H'} e ⟨hb, h2, ⟨ws, h3, h4, h5⟩⟩ => ⟨hb.step (fun a o _ ho => e.1 a o (fun z => z) ho) fun a o _ hS ho => e.2 a o (.inl hS) ho, e.2 _ _ (.inr (.inl rfl)) h2, ⟨ws, e.2 _ _ (.inr (.inr (.inl rfl))) h3, e.2 _ _ (.inr (.inr (.inr rfl))) h4, h5.le e.any⟩⟩,
  fun {H} ⟨hb, h2, ⟨ws, h3, h4, h5⟩⟩ a ha => by
    rcases ha with ha | rfl | rfl | rfl
    · exact I.dom (hb H fun _ _ => rfl) a ha
    · exact ⟨_, h2, rfl⟩
    · exact ⟨_, h3, rfl⟩
    · exact ⟨_, h4, rfl⟩⟩
section
variable {S : AS} {K : PySem.W.Frag} {x dx st ds : Addr} {I : IV S} {φs : List Fm} {H H' : Hp}
theorem dsk_wk (h : (IV.dsk K I x dx st ds φs).p H) : I.p H := h.1 H fun _ _ => rfl
theorem dsk_dk : DkF K (NdS S x st ds) x st ds (IV.dsk K I x dx st ds) := by
  refine ⟨⟨.inr (.inr (.inl rfl)), .inr (.inr (.inr rfl)), fun φs H h => h.2.2, fun φs φs' H H' ⟨hb, h2, ⟨ws, h3, h4, h5⟩⟩ e b => ?_⟩, .inr (.inl rfl), fun φs H h => ⟨_, h.2.1⟩⟩
  have n1 : x ≠ st := fun z => by rw [z, h3] at h2; exact ins_slO (Option.some.inj h2).symm
  have n2 : x ≠ ds := fun z => by rw [z, h4] at h2; cases h2
  have nD : ∀ a, ¬ NdD x st ds a → ¬ (a = st ∨ a = ds) := fun a hn z => hn (.inr z)
  exact ⟨hb.step (fun a o hn ho => ⟨o, e a o (nD a hn) ho, rfl⟩) fun a o hn _ ho => e a o (nD a hn) ho, e _ _ (fun z => z.elim n1 n2) h2, b⟩
/-- the new desk -/
theorem dsk_new {sa : Addr} {es : List Ed} {R : Rows} {v : V} {pt pu pd : Addr} (hi : I.p H) (hv : (Sys K sa es R).p S v H) (hx : H x = none) (h1 : H st = none) (h2 : H ds = none) (h3 : H pt = none) (h4 : H pu = none) (h5 : H pd = none) (e : Same H H')
    (kx : H' x = some (.ins (C_Desk K) dx (dkF st))) (k1 : H' st = some (slO K st ds [.int 0, .ref pt, v, .ref pd, .ref pu])) (k2 : H' ds = some (.xd [])) (k3 : H' pt = some (.tup [])) (k4 : H' pu = some (.tup [])) (k5 : H' pd = some (.dK [])) :
    (IV.dsk K I x dx st ds (stF K sa es ⟨⟨R, 0, []⟩, [], []⟩)).p H' := by
  have nt : ∀ {p : Addr} {o : HO}, H p = none → H' p = some o → (∀ C fs, o ≠ .ins C dx fs) → (∀ ws, o ≠ slO K st ds ws) → o ≠ .xd [] → ¬ NdS S x st ds p := fun {p o} hp ho n1 n2 n3 z => by
    rcases z with z | z | z | z
    · obtain ⟨o, k, _⟩ := I.dom hi _ z
      rw [hp] at k
      cases k
    · rw [z, kx] at ho
      exact n1 _ _ (Option.some.inj ho).symm
    · rw [z, k1] at ho
      exact n2 _ (Option.some.inj ho).symm
    · rw [z, k2] at ho
      exact n3 (Option.some.inj ho).symm
  have sub : ∀ a, NdS S x st ds a → S a ∨ H a = none := fun a z => z.elim .inl fun z => .inr (z.elim (fun z => by rw [z]; exact hx) fun z => z.elim (fun z => by rw [z]; exact h1) fun z => by rw [z]; exact h2)
  have tn : ∀ ws, HO.tup [] ≠ slO K st ds ws := fun ws z => by unfold slO SlX.SlO at z; cases z
  have dn : ∀ ws, HO.dK [] ≠ slO K st ds ws := fun ws z => by unfold slO SlX.SlO at z; cases z
  have nd := fun a o (hn : ¬ NdD x st ds a) (ho : H a = some o) => e a o ho
  refine ⟨fun H2 h2' => I.le ⟨fun a o _ h => ⟨o, ?_, rfl⟩, fun a o _ h => ?_⟩ hi, kx, _, k1, k2, ?_⟩
  · rw [h2' a fun z => z.elim (ne_of_none h hx) fun z => z.elim (ne_of_none h h1) (ne_of_none h h2)]
    exact e a o h
  · rw [h2' a fun z => z.elim (ne_of_none h hx) fun z => z.elim (ne_of_none h h1) (ne_of_none h h2)]
    exact e a o h
  · refine ⟨_, _, rfl, .int 0, _, _, rfl, ⟨pt, [], rfl, .inl ⟨nt h3 k3 (fun _ _ z => by cases z) tn (fun z => by cases z), k3⟩, rfl⟩, _, _, rfl, (Sys K sa es R).xe (XE.of e) ((Sys K sa es R).lift sub hv), _, _, rfl, ⟨pd, [], rfl, nt h5 k5 (fun _ _ z => by cases z) dn (fun z => by cases z), .inl k5, rfl, rfl⟩, _, _, rfl, ⟨pu, [], rfl, .inl ⟨nt h4 k4 (fun _ _ z => by cases z) tn (fun z => by cases z), k4⟩, rfl⟩, rfl⟩
end
abbrev dm0 (R : Rows) : DM := ⟨⟨R, 0, []⟩, [], []⟩
/-- Desk.replay(system, operations) -/
def spRepl (K : PySem.W.Frag) : Sp := fun vs H Q _ => ∃ (S : AS) (I : IV S) (sa : Addr) (es : List Ed) (ns : List Str) (R : Rows) (ops : List Op) (v u : V), vs = [.ref (C_Desk K), v, u] ∧ I.p H ∧ (Sys K sa es R).p S v H ∧ (ListD K (ops.map Op.d)).p S u H ∧ EsOk es ns ∧ RowsOk es ns R ∧ chain es ns ⟨R, 0, []⟩ ops ∧ ops.length ≤ 900 ∧
  ∀ H' x dx st ds, H x = none → H st = none → H ds = none → XE S H H' → (IV.dsk K I x dx st ds (stF K sa es (goAll es (dm0 R) ops))).p H' → Q (.ref x) H'
end Hs
set_option Elab.async false
set_option linter.all false
set_option maxRecDepth 100000
set_option maxHeartbeats 4000000
/-! the law's own def: triples without a frame; what it holds -/
namespace Hs
open PySem PySem.Spec PyProof.Rows L2 StX
def GW (S : AS) (Γ : Ctx) (I : IV S) (t : TS) (R : VK) (N : L2.St → Hp → Prop) : Prop := ∀ σ H, Env S Γ σ H → I.p H → ∀ D : Ends, (∀ v H', R v H' → D.rt v H') → (∀ σ' H', N σ' H' → D.nx σ' H') → t D σ H
section
variable {S : AS} {K : PySem.W.Frag} {Γ Δ : Ctx} {I J L M : IV S} {ta tb tc te td ty : TE} {t : TA} {tt : TT} {φ ψ χ ξ : Fm} {φs ψs fs : List Fm} {R : VK} {N : L2.St → Hp → Prop} {a b u w : TS} {i : Nat}
theorem gw_of (h : GS S Γ I a R N) : GW S Γ I a R N := fun σ H e hi D r n => h σ H e hi D (fun v H' _ p => r v H' p) fun σ' H' _ p => n σ' H' p
theorem gw_seq (h1 : GS S Γ I a R (En S Δ J)) (h2 : GW S Δ J u R N) : GW S Γ I (tSeq a u) R N := fun σ H e hi D r n => h1 σ H e hi { D with nx := u D } (fun v H' _ p => r v H' p) fun σ' H' _ ⟨e', hi'⟩ => h2 σ' H' e' hi' D r n
theorem gw_seqX {α : Type} {P : α → Prop} {Δ : α → Ctx} {J : α → IV S} (h1 : GS S Γ I a R (fun σ H => ∃ x, P x ∧ En S (Δ x) (J x) σ H)) (h2 : ∀ x, P x → GW S (Δ x) (J x) u R N) : GW S Γ I (tSeq a u) R N := fun σ H e hi D r n => h1 σ H e hi { D with nx := u D } (fun v H' _ p => r v H' p) fun σ' H' _ ⟨x, hx, e', hi'⟩ => h2 x hx σ' H' e' hi' D r n
theorem gw_if {P : Bool → Prop} (hc : GT S Γ I tt P J) (ha : P true → GW S Γ J a R N) (hb : P false → GW S Γ J b R N) : GW S Γ I (tIfS tt a b) R N := fun σ H e hi D r n => hc σ H e hi _ fun c H1 l1 j1 p1 => by
  cases c with
  | true =>
    rw [if_pos rfl]
    exact ha p1 σ H1 (e.xe l1) j1 D r n
  | false =>
    rw [if_neg (by decide)]
    exact hb p1 σ H1 (e.xe l1) j1 D r n
theorem gw_ifs {P : Bool → Prop} (hc : GT S Γ I tt P J) (ha : P true → GW S Γ J (tSeq a u) R N) (hb : P false → GW S Γ J (tSeq b u) R N) : GW S Γ I (tSeq (tIfS tt a b) u) R N := fun σ H e hi D r n => hc σ H e hi _ fun c H1 l1 j1 p1 => by
  cases c with
  | true =>
    rw [if_pos rfl]
    exact ha p1 σ H1 (e.xe l1) j1 D r n
  | false =>
    rw [if_neg (by decide)]
    exact hb p1 σ H1 (e.xe l1) j1 D r n
/-- a check that holds -/
theorem gw_chk (hc : GT S Γ I tt (fun c => false = c) J) (hb : GW S Γ J u R N) : GW S Γ I (tSeq (tIfS tt a tNext) u) R N := gw_ifs hc (fun z => Bool.noConfusion z) fun _ => hb
theorem gw_chk1 (hc : GT S Γ I tt (fun c => false = c) J) (hb : ∀ σ H, Env S Γ σ H → J.p H → N σ H) : GW S Γ I (tIfS tt a tNext) R N := gw_if hc (fun z => Bool.noConfusion z) fun _ σ H e hi D r n => n σ H (hb σ H e hi)
theorem gw_nextS (h : GW S Γ I u R N) : GW S Γ I (tSeq tNext u) R N := h
theorem gw_assoc (h : GW S Γ I (tSeq a (tSeq b u)) R N) : GW S Γ I (tSeq (tSeq a b) u) R N := h
theorem gw_pre (h : GW S Δ J a R N) (s : Sub Δ Γ) (w : ∀ H, I.p H → J.p H) : GW S Γ I a R N := fun σ H e hi D r n => h σ H (e.sub s) (w H hi) D r n
theorem gw_opn {α : Type} {P : α → Prop} {φ : α → Fm} (i : Nat) (hi : Γ[i]? = some (some (Exs P φ))) (k : ∀ x, P x → GW S (Γ.set i (some (φ x))) I u R N) : GW S Γ I u R N := fun σ H e hI D r n => by
  obtain ⟨v, hv, x, hx, p⟩ := e.2 i _ hi
  exact k x hx σ H (e.opn hv p) hI D r n
/-- a drawn int, handed on -/
theorem gw_exI {P : Int → Prop} (f : TE → TS) (hf : ∀ t D σ H, f t D σ H = t σ H fun x H1 => f (tC x) D σ H1) (h : GE S Γ I te (Exs P fun n => Is K (.int n)) J) (k : ∀ n, P n → GW S Γ J (f (tC (.int n))) R N) : GW S Γ I (f te) R N := fun σ H e hi D r nn => by
  rw [hf]
  exact h σ H e hi _ fun v H1 l1 j1 ⟨n, hn, p⟩ => by
    obtain rfl := Da.int_of p
    exact k n hn σ H1 (e.xe l1) j1 D r nn
end
/-- for x in range(n) -/
theorem gw_range {β : Type} {K : PySem.W.Frag} {g : TG} {tb u : TS} {R : VK} {N : L2.St → Hp → Prop} (n : Nat) (hn : n ≤ 100000) (Sb : β → AS) (Γi : β → Ctx) (Ji : (b : β) → IV (Sb b)) (G : Nat → β → Prop) (b0 : β) (h0 : G 0 b0)
    (hs : ∀ i b, i < n → G i b → ∃ Δ js, GG (Sb b) (Γi b) g (Is K (.int (i : Nat))) Δ js ∧ GW (Sb b) Δ (Ji b) tb R (fun σ H => ∃ b', G (i + 1) b' ∧ En (Sb b') (Γi b') (Ji b') σ H))
    (hd : ∀ b, G n b → GW (Sb b) (Γi b) (Ji b) u R N) : GW (Sb b0) (Γi b0) (Ji b0) (tSeq (tFor (iRng1 (tCons (tC (.int (n : Nat))) tNil)) g tb) u) R N := fun σ H e hi D r nn => by
  show tFor (iRng1 (tCons (tC (.int (n : Nat))) tNil)) g tb { D with nx := u D } σ H
  unfold tFor
  refine ⟨(n : Int), rfl, by omega, by omega, ?_⟩
  rw [Int.toNat_natCast]
  refine for_it (walk_range (lo := 0) (n := n)) (fun i σ' H' => ∃ b, G i b ∧ En (Sb b) (Γi b) (Ji b) σ' H') ⟨b0, h0, e, hi⟩ (fun i σ' H' _ p => trivial) (fun i x σ' H2 H3 hi2 p y => ?_) fun σ' H' p => ?_
  · obtain ⟨rfl, rfl⟩ := y
    obtain ⟨b, gb, eb, jb⟩ := p
    obtain ⟨Δ, js, hg, hb⟩ := hs i b hi2 gb
    refine hg σ' _ _ _ eb (show Da (Sb b) K _ (.int (0 + (i : Int))) (.int (i : Int)) by rw [Int.zero_add]; exact .int _) fun σ2 e2 _ => hb σ2 _ e2 jb _ (fun v H' p => r v H' p) fun σ3 H' p => p
  · obtain ⟨b, gb, eb, jb⟩ := p
    exact hd b gb σ' H' eb jb D r nn
/-! what the law holds: the row, the desk, two lists -/
structure LwS (S : AS) (r' dk' st' ds' p' f' : Addr) : Prop where
  r : S r'
  dk : S dk'
  st : S st'
  ds : S ds'
  p : S p'
  f : S f'
  rp : r' ≠ p'
  rf : r' ≠ f'
  pf : p' ≠ f'
def Dom (S : AS) (H : Hp) : Prop := ∀ a, S a → ∃ o, H a = some o ∧ isT o = false
def OwnL (S : AS) (p : Addr) (fs : List Fm) (H : Hp) : Prop := ∃ vs, H p = some (.lst vs) ∧ Ins S fs vs H
def LwP (K : PySem.W.Frag) (S : AS) (r : Addr) (sv : V) (dk st ds p f : Addr) (φs ps fs : List Fm) (H : Hp) : Prop := LwS S r dk st ds p f ∧ Dom S H ∧ rowOk r sv H ∧ (∃ dx, H dk = some (.ins (C_Desk K) dx (dkF st))) ∧ StAt K S st ds φs H ∧ OwnL S p ps H ∧ OwnL S f fs H
def IV.law (K : PySem.W.Frag) (S : AS) (r : Addr) (sv : V) (dk st ds p f : Addr) (φs ps fs : List Fm) : IV S := ⟨LwP K S r sv dk st ds p f φs ps fs,
  fun {H H'} e ⟨h, hd, ⟨w, h1, h2⟩, ⟨dx, h3⟩, ⟨ws, h4, h5, h6⟩, ⟨vs, h7, h8⟩, us, h9, h10⟩ => ⟨h, fun a ha => by
    obtain ⟨o, k1, k2⟩ := hd a ha
    exact ⟨o, e.2 a o ha k1, k2⟩, ⟨w, h1, e.2 _ _ h.r h2⟩, ⟨dx, e.2 _ _ h.dk h3⟩, ⟨ws, e.2 _ _ h.st h4, e.2 _ _ h.ds h5, h6.le e.any⟩, ⟨vs, e.2 _ _ h.p h7, h8.le e.any⟩, us, e.2 _ _ h.f h9, h10.le e.any⟩,
  fun h a ha => h.2.1 a ha⟩
section
variable {S : AS} {K : PySem.W.Frag} {Γ Δ : Ctx} {I J L M : IV S} {ta tb tc te td ty : TE} {t : TA} {tt : TT} {φ ψ χ ξ : Fm} {φs φs' ps fs gs : List Fm} {R : VK} {N : L2.St → Hp → Prop} {u : TS} {i : Nat} {H H' : Hp} {r dk st ds p f q : Addr} {sv : V}
theorem lst_slo {st ds : Addr} {ws : List V} {vs : List V} : slO K st ds ws ≠ HO.lst vs := fun z => by
  unfold slO SlX.SlO at z
  cases z
theorem law_dk (h : LwS S r dk st ds p f) : DkF K S dk st ds (fun φs => IV.law K S r sv dk st ds p f φs ps fs) := by
  refine ⟨⟨h.st, h.ds, fun φs H hh => hh.2.2.2.2.1, fun φs φs' H H' ⟨h, hd, ⟨w, h1, h2⟩, ⟨dx, h3⟩, ⟨ws, h4, h5, h6⟩, ⟨vs, h7, h8⟩, us, h9, h10⟩ e b => ?_⟩, h.dk, fun φs H hh => hh.2.2.2.1⟩
  have e2 : XE S H H' := e.sub fun a z => z.elim (fun z => by rw [z]; exact h.st) fun z => by rw [z]; exact h.ds
  have n1 : ∀ {a : Addr} {vs : List V}, H a = some (.lst vs) → ¬ (a = st ∨ a = ds) := fun ha z => z.elim (fun z => by rw [z, h4] at ha; exact lst_slo (Option.some.inj ha)) fun z => by rw [z, h5] at ha; cases ha
  have n2 : ¬ (dk = st ∨ dk = ds) := fun z => z.elim (fun z => by rw [z, h4] at h3; exact ins_slO (Option.some.inj h3).symm) fun z => by rw [z, h5] at h3; cases h3
  refine ⟨h, fun a ha => ?_, ⟨w, h1, e _ _ (n1 h2) h2⟩, ⟨dx, e _ _ n2 h3⟩, b, ⟨vs, e _ _ (n1 h7) h7, h8.xe e2⟩, us, e _ _ (n1 h9) h9, h10.xe e2⟩
  obtain ⟨ws', b1, b2, _⟩ := b
  by_cases z1 : a = st
  · rw [z1]
    exact ⟨_, b1, rfl⟩
  · by_cases z2 : a = ds
    · rw [z2]
      exact ⟨_, b2, rfl⟩
    · obtain ⟨o, k1, k2⟩ := hd a ha
      exact ⟨o, e a o (fun z => z.elim z1 z2) k1, k2⟩
theorem law_row (h : LwS S r dk st ds p f) : RowI r sv (IV.law K S r sv dk st ds p f φs ps fs) := by
  refine ⟨fun H hh => hh.2.2.1, fun a z => by rw [z]; exact h.r, fun H H' ha ⟨w, h1, h2⟩ => ⟨w, h1, ?_⟩, fun H H' ⟨h, hd, ⟨w, h1, h2⟩, ⟨dx, h3⟩, ⟨ws, h4, h5, h6⟩, ⟨vs, h7, h8⟩, us, h9, h10⟩ e ⟨w', k1, k2⟩ => ?_⟩
  · unfold RowAt
    rw [ha r rfl]
    exact h2
  have e2 : XE S H H' := e.sub fun a z => by rw [z]; exact h.r
  have n1 : ∀ {a : Addr} {o : HO}, H a = some o → (∀ vs, o ≠ .lst vs) → a ≠ r := fun ha hn z => by
    unfold RowAt at h2
    rw [z, h2] at ha
    exact hn _ (Option.some.inj ha).symm
  refine ⟨h, fun a ha => ?_, ⟨w', k1, k2⟩, ⟨dx, e _ _ (n1 h3 fun vs z => by cases z) h3⟩, ⟨ws, e _ _ (n1 h4 fun vs => lst_slo) h4, e _ _ (n1 h5 fun vs z => by cases z) h5, h6.xe e2⟩, ⟨vs, e _ _ (Ne.symm h.rp) h7, h8.xe e2⟩, us, e _ _ (Ne.symm h.rf) h9, h10.xe e2⟩
  by_cases z : a = r
  · rw [z]
    exact ⟨_, k2, rfl⟩
  · obtain ⟨o, b1, b2⟩ := hd a ha
    exact ⟨o, e a o z b1, b2⟩
/-! a list that is held, read -/
theorem gc_lenOwn (h : ∀ H, I.p H → OwnL S p ps H) : GC S I (fun xs H Q => ∃ p ys, xs = [.ref p] ∧ (SqL K H p ys ∨ SqT K H p ys) ∧ Q (.int ys.length) H) [Eqv (.ref p)] (Is K (.int ps.length)) I := fun vs H hi hh Q q => by
  obtain ⟨v, ws, rfl, h1, rfl⟩ := hh
  obtain rfl : v = .ref p := h1
  obtain ⟨vs, h2, h3⟩ := h H hi
  refine ⟨p, vs, rfl, .inl (SqL.of h2), q _ H (XE.refl S H) hi ?_⟩
  rw [h3.len]
  exact .int _
theorem gr_ixOwnLast (h : ∀ H, I.p H → OwnL S p (ps ++ [φ]) H) : GR S I (rIxL K) (Eqv (.ref p)) (Is K (.int (-1))) φ I := fun x y H hi h1 h2 Q q => by
  obtain rfl := Da.int_of h2
  obtain rfl : x = .ref p := h1
  obtain ⟨xs, h3, h4⟩ := h H hi
  have hl := h4.len
  rw [List.length_append] at hl
  obtain ⟨v, h5, h6⟩ := h4.get (i := ps.length) (φ := φ) (by rw [List.getElem?_append_right (Nat.le_refl _), Nat.sub_self]; rfl)
  have h7 : atI xs (-1) = some v := by
    have hl : xs.length = ps.length + 1 := hl
    unfold atI ixN
    rw [if_neg (by decide), if_pos (by omega), show ((-1 : Int) + (xs.length : Int)).toNat = ps.length by omega]
    exact h5
  exact ⟨p, xs, -1, v, rfl, rfl, SqL.of h3, h7, q v H (XE.refl S H) hi h6⟩
theorem gr_neOwn (h : ∀ H, I.p H → OwnL S p ps H) : GR S I (rNeE K) (Eqv (.ref p)) (Is K (.list [])) (Is K (.bool (!ps.isEmpty))) I := fun x y H hi h1 h2 Q q => by
  obtain rfl : x = .ref p := h1
  obtain ⟨b, ys, rfl, hs', h5, h6⟩ := Da.lst_of h2
  cases h6
  obtain ⟨vs, h3, h4⟩ := h H hi
  refine ⟨p, b, vs, rfl, rfl, .inl (.inl h3), .inl (.inl h5), ?_⟩
  have hn := h4.len
  have : vs.isEmpty = ps.isEmpty := by cases vs <;> cases ps <;> first | rfl | (simp at hn)
  rw [this]
  exact q _ H (XE.refl S H) hi (.bl _)
theorem ge_slOwn (h : ∀ H, I.p H → OwnL S p (φ :: ps) H) (he : GE S Γ I te (Eqv (.ref p)) I) : GE S Γ I (tSl (rSlL K) te (tPart (tC (.int 1))) tNoPart) (Lst ps) I := fun σ H e hi Q q => he σ H e hi _ fun v H1 l1 j1 p1 => by
  obtain rfl : v = .ref p := p1
  obtain ⟨vs, h3, h4⟩ := h H1 j1
  obtain ⟨v0, ws, rfl, k1, k2⟩ := h4
  refine ⟨1, rfl, p, _, rfl, SqL.of h3, fun c hc => q _ _ (l1.trans (XE.new hc)) (I.le (LX.new hc) j1) ⟨c, _, rfl, I.fresh j1 hc, upd_same, ?_⟩⟩
  have e1 : cutV (v0 :: ws) (some 1) none = ws := by
    unfold cutV
    have a1 : HT.sIx (v0 :: ws).length 0 (some 1) = 1 := by simp [HT.sIx]
    have a2 : HT.sIx (v0 :: ws).length (v0 :: ws).length none = (v0 :: ws).length := rfl
    rw [a1, a2, List.length_cons, Nat.add_sub_cancel, List.drop_succ_cons, List.drop_zero, List.take_length]
  rw [e1]
  exact k2.xe (XE.new hc)
/-! popped, made anew -/
theorem ge_popP : GE S Γ (IV.law K S r sv dk st ds p f φs (ps ++ [φ]) fs) ta (Eqv (.ref p)) (IV.law K S r sv dk st ds p f φs (ps ++ [φ]) fs) → GE S Γ (IV.law K S r sv dk st ds p f φs (ps ++ [φ]) fs) (tBM0 K "list" rPop ta) φ (IV.law K S r sv dk st ds p f φs ps fs) := fun ho σ H e hi Q q => ho σ H e hi _ fun v H1 l1 j1 p1 => by
  obtain rfl : v = .ref p := p1
  obtain ⟨h, hd, ⟨w, h1, h2⟩, ⟨dx, h3⟩, ⟨ws, h4, h5, h6⟩, ⟨vs, h7, h8⟩, us, h9, h10⟩ := j1
  have hl := h8.len
  rw [List.length_append] at hl
  have hl : vs.length = ps.length + 1 := hl
  obtain ⟨y, k1, k2⟩ := h8.get (i := ps.length) (φ := φ) (by rw [List.getElem?_append_right (Nat.le_refl _), Nat.sub_self]; rfl)
  have x2 : XE S H1 (upd H1 p (.lst vs.dropLast)) := XE.mut h.p
  have n1 : ∀ {a : Addr} {o : HO}, H1 a = some o → (∀ vs, o ≠ .lst vs) → a ≠ p := fun ha hn z => by
    rw [z, h7] at ha
    exact hn _ (Option.some.inj ha).symm
  refine ⟨.inl ⟨rfl, _, SqL.of h7⟩, p, vs, y, rfl, rfl, h7, by rw [show vs.length - 1 = ps.length by omega]; exact k1, q _ _ (l1.trans x2) ⟨h, fun a ha => ?_, ⟨w, h1, ?_⟩, ⟨dx, ?_⟩, ⟨ws, ?_, ?_, h6.xe x2⟩, ⟨_, upd_same, ?_⟩, us, ?_, h10.xe x2⟩ (φ.xe x2 k2)⟩
  · by_cases z : a = p
    · rw [z]
      exact ⟨_, upd_same, rfl⟩
    · rw [upd_ne z]
      exact hd a ha
  · unfold RowAt at h2 ⊢
    rw [upd_ne h.rp]
    exact h2
  · rw [upd_ne (n1 h3 fun vs z => by cases z)]
    exact h3
  · rw [upd_ne (n1 h4 fun vs => lst_slo)]
    exact h4
  · rw [upd_ne (n1 h5 fun vs z => by cases z)]
    exact h5
  · have := h8.take ps.length
    rw [List.take_left] at this
    have e1 : vs.dropLast = vs.take ps.length := by rw [List.dropLast_eq_take, hl]; rfl
    rw [← e1] at this
    exact this.xe x2
  · rw [upd_ne (Ne.symm h.pf)]
    exact h9
theorem LwS.flip (h : LwS S r dk st ds p f) : LwS S r dk st ds f p := ⟨h.r, h.dk, h.st, h.ds, h.f, h.p, h.rf, h.rp, Ne.symm h.pf⟩
theorem law_flip (h : (IV.law K S r sv dk st ds p f φs ps fs).p H) : (IV.law K S r sv dk st ds f p φs fs ps).p H := ⟨h.1.flip, h.2.1, h.2.2.1, h.2.2.2.1, h.2.2.2.2.1, h.2.2.2.2.2.2, h.2.2.2.2.2.1⟩
theorem ge_popF (ho : GE S Γ (IV.law K S r sv dk st ds p f φs ps (fs ++ [φ])) ta (Eqv (.ref f)) (IV.law K S r sv dk st ds p f φs ps (fs ++ [φ]))) : GE S Γ (IV.law K S r sv dk st ds p f φs ps (fs ++ [φ])) (tBM0 K "list" rPop ta) φ (IV.law K S r sv dk st ds p f φs ps fs) := fun σ H e hi Q q =>
  ge_popP (p := f) (f := p) (ps := fs) (fs := ps) (fun σ H e hi Q q => ho σ H e (law_flip hi) Q fun v H' l j p => q v H' l (law_flip j) p) σ H e (law_flip hi) Q fun v H' l j p => q v H' l (law_flip j) p
/-- a new list in the place of past -/
theorem law_newP {ws : List V} (h : (IV.law K S r sv dk st ds p f φs ps fs).p H) (hq : H q = none) (hw : Ins S gs ws H) : (IV.law K (SU S q) r sv dk st ds q f φs gs fs).p (upd H q (.lst ws)) := by
  have nS := (IV.law K S r sv dk st ds p f φs ps fs).fresh h hq
  obtain ⟨h, hd, ⟨w, h1, h2⟩, ⟨dx, h3⟩, ⟨ws', h4, h5, h6⟩, ⟨vs, h7, h8⟩, us, h9, h10⟩ := h
  have sub : ∀ a, SU S q a → S a ∨ H a = none := fun a z => z.elim .inl fun z => .inr (by rw [z]; exact hq)
  have x : ∀ T, XE T H (upd H q (.lst ws)) := fun T => XE.new hq
  have up : ∀ {a : Addr} {o : HO}, H a = some o → upd H q (.lst ws) a = some o := fun ha => by rw [upd_ne (ne_of_none ha hq)]; exact ha
  have nq : ∀ {a : Addr}, S a → a ≠ q := fun ha z => nS (by rw [← z]; exact ha)
  refine ⟨⟨.inl h.r, .inl h.dk, .inl h.st, .inl h.ds, .inr rfl, .inl h.f, nq h.r, h.rf, Ne.symm (nq h.f)⟩, fun a ha => ?_, ⟨w, h1, up h2⟩, ⟨dx, up h3⟩, ⟨ws', up h4, up h5, (h6.lift sub).xe (x _)⟩, ⟨ws, upd_same, (hw.lift sub).xe (x _)⟩, us, up h9, (h10.lift sub).xe (x _)⟩
  rcases ha with ha | rfl
  · obtain ⟨o, k1, k2⟩ := hd a ha
    exact ⟨o, up k1, k2⟩
  · exact ⟨_, upd_same, rfl⟩
theorem law_newF {ws : List V} (h : (IV.law K S r sv dk st ds p f φs ps fs).p H) (hq : H q = none) (hw : Ins S gs ws H) : (IV.law K (SU S q) r sv dk st ds p q φs ps gs).p (upd H q (.lst ws)) := law_flip (law_newP (law_flip h) hq hw)
theorem env_new {σ : L2.St} {ws : List V} (e : Env S Γ σ H) (hq : H q = none) : Env (SU S q) Γ σ (upd H q (.lst ws)) := (Env.lift (fun a z => z.elim .inl fun z => .inr (by rw [z]; exact hq)) e).xe (XE.new hq)
/-- future = future + .. -/
theorem gw_setF {i : Nat} {ps' : List Fm} (hv : GE S Γ (IV.law K S r sv dk st ds p f φs ps fs) ta (Eqv (.ref f)) (IV.law K S r sv dk st ds p f φs ps fs)) (he : GE S Γ (IV.law K S r sv dk st ds p f φs ps fs) te (Lst gs) (IV.law K S r sv dk st ds p f φs ps' fs)) (hz : fs.length + gs.length ≤ 1000)
    (k : ∀ q, LwS (SU S q) r dk st ds p q → GW (SU S q) (Γ.set i (some (Eqv (.ref q)))) (IV.law K (SU S q) r sv dk st ds p q φs ps' (fs ++ gs)) u R N) : GW S Γ (IV.law K S r sv dk st ds p f φs ps fs) (tSeq (tAsg (tOp rCat ta te) (gName i)) u) R N := fun σ H e hi D rr n => hv σ H e hi _ fun v H1 l1 j1 p1 => he σ H1 (e.xe l1) j1 _ fun v2 H2 l2 j2 p2 => by
  obtain rfl : v = .ref f := p1
  obtain ⟨c, zs, rfl, h1, h2, h3⟩ := p2
  have j2' := j2
  obtain ⟨h, hd, h4, h5, h6, h7, us, h9, h10⟩ := j2'
  refine ⟨f, c, us, zs, rfl, rfl, h9, h2, by rw [h10.len, h3.len]; exact Nat.le_trans hz (by decide), fun q hq => ?_⟩
  have j3 := law_newF j2 hq (h10.app h3)
  exact k q j3.1 _ _ ((env_new (e.xe (l1.trans l2)) hq).set i (φ := Eqv (.ref q)) rfl) j3 D rr n
/-- past = past + .. -/
theorem gw_setP {i : Nat} {fs' : List Fm} (hv : GE S Γ (IV.law K S r sv dk st ds p f φs ps fs) ta (Eqv (.ref p)) (IV.law K S r sv dk st ds p f φs ps fs)) (he : GE S Γ (IV.law K S r sv dk st ds p f φs ps fs) te (Lst gs) (IV.law K S r sv dk st ds p f φs ps fs')) (hz : ps.length + gs.length ≤ 1000)
    (k : ∀ q, LwS (SU S q) r dk st ds q f → GW (SU S q) (Γ.set i (some (Eqv (.ref q)))) (IV.law K (SU S q) r sv dk st ds q f φs (ps ++ gs) fs') u R N) : GW S Γ (IV.law K S r sv dk st ds p f φs ps fs) (tSeq (tAsg (tOp rCat ta te) (gName i)) u) R N := fun σ H e hi D rr n => hv σ H e hi _ fun v H1 l1 j1 p1 => he σ H1 (e.xe l1) j1 _ fun v2 H2 l2 j2 p2 => by
  obtain rfl : v = .ref p := p1
  obtain ⟨c, zs, rfl, h1, h2, h3⟩ := p2
  have j2' := j2
  obtain ⟨h, hd, h4, h5, h6, ⟨vs, h7, h8⟩, h9⟩ := j2'
  refine ⟨p, c, vs, zs, rfl, rfl, h7, h2, by rw [h8.len, h3.len]; exact Nat.le_trans hz (by decide), fun q hq => ?_⟩
  have j3 := law_newP j2 hq (h8.app h3)
  exact k q j3.1 _ _ ((env_new (e.xe (l1.trans l2)) hq).set i (φ := Eqv (.ref q)) rfl) j3 D rr n
/-- past, future = past + .., [] -/
theorem gw_setPF {i j : Nat} (hv : GE S Γ (IV.law K S r sv dk st ds p f φs ps fs) ta (Eqv (.ref p)) (IV.law K S r sv dk st ds p f φs ps fs)) (he : GE S Γ (IV.law K S r sv dk st ds p f φs ps fs) te (Lst gs) (IV.law K S r sv dk st ds p f φs ps fs)) (hz : ps.length + gs.length ≤ 1000)
    (k : ∀ q1 q2, LwS (SU (SU S q1) q2) r dk st ds q1 q2 → GW (SU (SU S q1) q2) ((Γ.set i (some (Eqv (.ref q1)))).set j (some (Eqv (.ref q2)))) (IV.law K (SU (SU S q1) q2) r sv dk st ds q1 q2 φs (ps ++ gs) []) u R N) : GW S Γ (IV.law K S r sv dk st ds p f φs ps fs) (tSeq (tPar i j (tCons (tOp rCat ta te) (tCons (tLst tNil) tNil))) u) R N := fun σ H e hi D rr n => hv σ H e hi _ fun v H1 l1 j1 p1 => he σ H1 (e.xe l1) j1 _ fun v2 H2 l2 j2 p2 => by
  obtain rfl : v = .ref p := p1
  obtain ⟨c, zs, rfl, h1, h2, h3⟩ := p2
  have j2' := j2
  obtain ⟨h, hd, h4, h5, h6, ⟨vs, h7, h8⟩, h9⟩ := j2'
  refine ⟨p, c, vs, zs, rfl, rfl, h7, h2, by rw [h8.len, h3.len]; exact Nat.le_trans hz (by decide), fun q hq => ⟨by decide, fun q2 hq2 => ⟨_, _, rfl, ?_⟩⟩⟩
  have j3 := law_newP j2 hq (h8.app h3)
  have j4 := law_newF j3 hq2 (gs := []) (ws := []) rfl
  exact k q q2 j4.1 _ _ (((env_new (env_new (e.xe (l1.trans l2)) hq) hq2).set i (φ := Eqv (.ref q)) rfl).set j (φ := Eqv (.ref q2)) rfl) j4 D rr n
end
end Hs
set_option Elab.async false
set_option linter.all false
set_option maxRecDepth 100000
set_option maxHeartbeats 4000000
/-! the law's ghosts: steps that were taken, steps that were undone -/
namespace Hs
open PySem PySem.Spec PyProof.Rows L2 StX
def lastS : Scn → List (Op × Scn) → Scn
  | s, [] => s
  | _, p :: r => lastS p.2 r
def bef : Scn → List (Op × Scn) → List (Op × Scn)
  | _, [] => []
  | s, p :: r => (p.1, s) :: bef p.2 r
def Steps (es : List Ed) (ns : List Str) : Scn → List (Op × Scn) → Prop
  | _, [] => True
  | s, p :: r => opOk es ns s p.1 ∧ p.2 = execS es s p.1 ∧ Steps es ns p.2 r
theorem lastS_app {ys : List (Op × Scn)} : ∀ {xs : List (Op × Scn)} {s : Scn}, lastS s (xs ++ ys) = lastS (lastS s xs) ys
  | [], _ => rfl
  | p :: r, _ => lastS_app (xs := r) (s := p.2)
theorem bef_app {ys : List (Op × Scn)} : ∀ {xs : List (Op × Scn)} {s : Scn}, bef s (xs ++ ys) = bef s xs ++ bef (lastS s xs) ys
  | [], _ => rfl
  | p :: r, s => congrArg ((p.1, s) :: ·) (bef_app (xs := r) (s := p.2))
theorem steps_app {es : List Ed} {ns : List Str} {ys : List (Op × Scn)} : ∀ {xs : List (Op × Scn)} {s : Scn}, Steps es ns s (xs ++ ys) ↔ Steps es ns s xs ∧ Steps es ns (lastS s xs) ys
  | [], _ => ⟨fun h => ⟨trivial, h⟩, fun h => h.2⟩
  | p :: r, s => by
    show opOk es ns s p.1 ∧ p.2 = execS es s p.1 ∧ Steps es ns p.2 (r ++ ys) ↔ (opOk es ns s p.1 ∧ p.2 = execS es s p.1 ∧ Steps es ns p.2 r) ∧ Steps es ns (lastS p.2 r) ys
    rw [steps_app (xs := r) (s := p.2)]
    exact ⟨fun ⟨a, b, c, d⟩ => ⟨⟨a, b, c⟩, d⟩, fun ⟨⟨a, b, c⟩, d⟩ => ⟨a, b, c, d⟩⟩
theorem steps_ok {es : List Ed} {ns : List Str} (he : EsOk es ns) : ∀ {xs : List (Op × Scn)} {s : Scn}, ScnOk es ns s → Steps es ns s xs → ScnOk es ns (lastS s xs)
  | [], _, h, _ => h
  | p :: r, s, h, ⟨h1, h2, h3⟩ => steps_ok he (xs := r) (by rw [h2]; exact exec_ok he h h1) h3
theorem bef_d : ∀ {xs : List (Op × Scn)} {s : Scn}, ((bef s xs).map fun p => p.1.d) = xs.map fun p => p.1.d
  | [], _ => rfl
  | p :: r, _ => congrArg (p.1.d :: ·) (bef_d (xs := r) (s := p.2))
theorem bef_fst : ∀ {xs : List (Op × Scn)} {s : Scn}, (bef s xs).map Prod.fst = xs.map Prod.fst
  | [], _ => rfl
  | p :: r, _ => congrArg (p.1 :: ·) (bef_fst (xs := r) (s := p.2))
theorem bef_len {xs : List (Op × Scn)} {s : Scn} : (bef s xs).length = xs.length := by
  have := congrArg List.length (bef_fst (xs := xs) (s := s))
  rwa [List.length_map, List.length_map] at this
theorem steps_lay {es : List Ed} {ns : List Str} (hns : ∀ n ∈ ns, PyData.strOk n = true) : ∀ {xs : List (Op × Scn)} {s : Scn}, Steps es ns s xs → ∀ p ∈ xs, LayOp p.1
  | [], _, _, p, h => nomatch h
  | q :: r, s, ⟨h1, h2, h3⟩, p, h => by
    rcases List.mem_cons.mp h with rfl | h
    · exact lay_op hns h1
    · exact steps_lay hns h3 p h
theorem bef_lay {es : List Ed} {ns : List Str} (hns : ∀ n ∈ ns, PyData.strOk n = true) : ∀ {xs : List (Op × Scn)} {s : Scn}, Steps es ns s xs → ∀ p ∈ bef s xs, LayOp p.1
  | [], _, _, p, h => nomatch h
  | q :: r, s, ⟨h1, h2, h3⟩, p, h => by
    rcases List.mem_cons.mp h with rfl | h
    · exact lay_op hns h1
    · exact bef_lay hns h3 p h
theorem steps_chain {es : List Ed} {ns : List Str} : ∀ {xs : List (Op × Scn)} {s : Scn}, Steps es ns s xs → chain es ns s (xs.map Prod.fst)
  | [], _, _ => trivial
  | q :: r, s, ⟨h1, h2, h3⟩ => ⟨h1, by rw [← h2]; exact steps_chain h3⟩
theorem goAll_steps {es : List Ed} {ns : List Str} : ∀ {xs : List (Op × Scn)} {m : DM}, Steps es ns m.now xs → goAll es m (xs.map Prod.fst) = ⟨lastS m.now xs, m.past ++ bef m.now xs, if xs.isEmpty = true then m.und else []⟩
  | [], m, _ => by
    show m = ⟨m.now, m.past ++ [], m.und⟩
    rw [List.append_nil]
  | q :: r, m, ⟨h1, h2, h3⟩ => by
    show goAll es (goOn m q.1 (execS es m.now q.1)) (r.map Prod.fst) = _
    rw [← h2, goAll_steps (xs := r) (m := goOn m q.1 q.2) h3]
    show (⟨lastS q.2 r, (m.past ++ [(q.1, m.now)]) ++ bef q.2 r, _⟩ : DM) = ⟨lastS q.2 r, m.past ++ (q.1, m.now) :: bef q.2 r, []⟩
    rw [List.append_assoc]
    congr 1
    cases r <;> rfl
theorem dues_cat {es : List Ed} {ns : List Str} {q : Op × Scn} : ∀ {xs : List (Op × Scn)} {s : Scn}, Steps es ns s xs → duesS es s ((xs ++ [q]).map Prod.fst) = duesS es s (xs.map Prod.fst) ++ [dueS es (lastS s xs) q.1]
  | [], _, _ => rfl
  | p :: r, s, ⟨h1, h2, h3⟩ => by
    show dueS es s p.1 :: duesS es (execS es s p.1) ((r ++ [q]).map Prod.fst) = dueS es s p.1 :: (duesS es (execS es s p.1) (r.map Prod.fst) ++ [dueS es (lastS p.2 r) q.1])
    rw [← h2, dues_cat h3]
abbrev dm (s0 : Scn) (prev fut : List (Op × Scn)) : DM := ⟨lastS s0 prev, bef s0 prev, fut⟩
theorem undo_dm {s0 : Scn} {xs us : List (Op × Scn)} {p : Op × Scn} : undoM (dm s0 (xs ++ [p]) us) = dm s0 xs (us ++ [p]) := by
  show undoM ⟨lastS s0 (xs ++ [p]), bef s0 (xs ++ [p]), us⟩ = _
  rw [lastS_app, bef_app]
  show undoM ⟨p.2, bef s0 xs ++ [(p.1, lastS s0 xs)], us⟩ = _
  rw [← List.concat_eq_append, undoM_cat]
theorem undo_nil {s0 : Scn} {us : List (Op × Scn)} : undoM (dm s0 [] us) = dm s0 [] us := rfl
theorem redo_dm {s0 : Scn} {xs us : List (Op × Scn)} {p : Op × Scn} : redoM (dm s0 xs (us ++ [p])) = dm s0 (xs ++ [p]) us := by
  show redoM ⟨lastS s0 xs, bef s0 xs, us ++ [p]⟩ = ⟨lastS s0 (xs ++ [p]), bef s0 (xs ++ [p]), us⟩
  rw [lastS_app, bef_app, ← List.concat_eq_append (as := us), show p = (p.1, p.2) from rfl, redoM_cat]
  rfl
theorem redo_nil {s0 : Scn} {xs : List (Op × Scn)} : redoM (dm s0 xs []) = dm s0 xs [] := rfl
section
variable (K : PySem.W.Frag) (sa : Addr) (es : List Ed)
abbrev itF (x : PyData × Scn) : Fm := Tup K [ScnF K sa es x.2, Is K x.1]
abbrev itsF (xs : List (Op × Scn)) : List Fm := xs.map fun p => itF K sa es (p.1.d, p.2)
abbrev itsP (s0 : Scn) (xs : List (Op × Scn)) : List Fm := itF K sa es (.none, s0) :: itsF K sa es xs
end
section
variable {K : PySem.W.Frag} {sa : Addr} {es : List Ed}
theorem itsF_cat {xs : List (Op × Scn)} {p : Op × Scn} : itsF K sa es (xs ++ [p]) = itsF K sa es xs ++ [itF K sa es (p.1.d, p.2)] := by
  show List.map _ (xs ++ [p]) = _
  rw [List.map_append]
  rfl
theorem itsP_cat {s0 : Scn} {xs : List (Op × Scn)} {p : Op × Scn} : itsP K sa es s0 (xs ++ [p]) = itsP K sa es s0 xs ++ [itF K sa es (p.1.d, p.2)] := by
  show itF K sa es (.none, s0) :: itsF K sa es (xs ++ [p]) = _
  rw [itsF_cat]
  rfl
theorem its_last {s0 : Scn} {xs : List (Op × Scn)} : ∃ ys d, itsP K sa es s0 xs = ys ++ [itF K sa es (d, lastS s0 xs)] := by
  rcases List.eq_nil_or_concat xs with rfl | ⟨ys, p, rfl⟩
  · exact ⟨[], .none, rfl⟩
  · refine ⟨itsP K sa es s0 ys, p.1.d, ?_⟩
    rw [List.concat_eq_append, itsP_cat, lastS_app]
    rfl
end
end Hs
set_option Elab.async false
set_option linter.all false
set_option maxRecDepth 100000
set_option maxHeartbeats 4000000
/-! the law's end: a second desk beside the first -/
namespace Hs
open PySem PySem.Spec PyProof.Rows L2 StX
def IV.law2 (K : PySem.W.Frag) (S : AS) (r : Addr) (sv : V) (dk st ds p f : Addr) (φs ps fs : List Fm) (x dx s2 d2 : Addr) (ψs : List Fm) : IV S := ⟨fun H => LwP K S r sv dk st ds p f φs ps fs H ∧ H x = some (.ins (C_Desk K) dx (dkF s2)) ∧ StAt K S s2 d2 ψs H ∧ S x ∧ S s2 ∧ S d2,
  fun {H H'} e ⟨h, h2, ⟨ws, h3, h4, h5⟩, k1, k2, k3⟩ => ⟨(IV.law K S r sv dk st ds p f φs ps fs).le e h, e.2 _ _ k1 h2, ⟨ws, e.2 _ _ k2 h3, e.2 _ _ k3 h4, h5.le e.any⟩, k1, k2, k3⟩,
  fun h a ha => h.1.2.1 a ha⟩
section
variable {S : AS} {K : PySem.W.Frag} {Γ Δ : Ctx} {R : VK} {N : L2.St → Hp → Prop} {φs ps fs ψs : List Fm} {H H' : Hp} {r dk st ds p f x dx s2 d2 : Addr} {sv : V}
theorem law2_old (h : LwS S r dk st ds p f) (n1 : s2 ≠ st) (n2 : d2 ≠ ds) : DkF K S dk st ds (fun φs => IV.law2 K S r sv dk st ds p f φs ps fs x dx s2 d2 ψs) := by
  have hF := law_dk (K := K) (sv := sv) (ps := ps) (fs := fs) h
  refine ⟨⟨h.st, h.ds, fun φs H hh => hF.get φs H hh.1, fun φs φs' H H' ⟨hl, h2, ⟨ws, h3, h4, h5⟩, k1, k2, k3⟩ e b => ?_⟩, h.dk, fun φs H hh => hF.desk φs H hh.1⟩
  obtain ⟨ws', b1, b2, _⟩ := hF.get φs H hl
  have e2 : XE S H H' := e.sub fun a z => z.elim (fun z => by rw [z]; exact h.st) fun z => by rw [z]; exact h.ds
  have q1 : ¬ (x = st ∨ x = ds) := fun z => z.elim (fun z => by rw [z, b1] at h2; exact ins_slO (Option.some.inj h2).symm) fun z => by rw [z, b2] at h2; cases h2
  have q2 : ¬ (s2 = st ∨ s2 = ds) := fun z => z.elim n1 fun z => by rw [z, b2] at h3; exact slO_xd (Option.some.inj h3).symm
  have q3 : ¬ (d2 = st ∨ d2 = ds) := fun z => z.elim (fun z => by rw [z, b1] at h4; exact slO_xd (Option.some.inj h4)) n2
  exact ⟨hF.put φs φs' H H' hl e b, e _ _ q1 h2, ⟨ws, e _ _ q2 h3, e _ _ q3 h4, h5.xe e2⟩, k1, k2, k3⟩
theorem law2_new (h : LwS S r dk st ds p f) (sx : S x) (ss : S s2) (sd : S d2) (n1 : s2 ≠ st) (n2 : d2 ≠ ds) : DkF K S x s2 d2 (fun ψs => IV.law2 K S r sv dk st ds p f φs ps fs x dx s2 d2 ψs) := by
  refine ⟨⟨ss, sd, fun ψs H hh => hh.2.2.1, fun ψs ψs' H H' ⟨⟨h, hd, ⟨w, g1, g2⟩, ⟨dx', g3⟩, ⟨vs', g4, g5, g6⟩, ⟨vs, g7, g8⟩, us, g9, g10⟩, h2, ⟨ws, h3, h4, h5⟩, k1, k2, k3⟩ e b => ?_⟩, sx, fun ψs H hh => ⟨_, hh.2.1⟩⟩
  have e2 : XE S H H' := e.sub fun a z => z.elim (fun z => by rw [z]; exact ss) fun z => by rw [z]; exact sd
  have m1 : ∀ {a : Addr} {vs : List V}, H a = some (.lst vs) → ¬ (a = s2 ∨ a = d2) := fun ha z => z.elim (fun z => by rw [z, h3] at ha; exact lst_slo (Option.some.inj ha)) fun z => by rw [z, h4] at ha; cases ha
  have m2 : ∀ {a : Addr} {C dx fs}, H a = some (.ins C dx fs) → ¬ (a = s2 ∨ a = d2) := fun ha z => z.elim (fun z => by rw [z, h3] at ha; exact ins_slO (Option.some.inj ha).symm) fun z => by rw [z, h4] at ha; cases ha
  have m3 : ¬ (st = s2 ∨ st = d2) := fun z => z.elim (fun z => n1 z.symm) fun z => by rw [z, h4] at g4; exact slO_xd (Option.some.inj g4).symm
  have m4 : ¬ (ds = s2 ∨ ds = d2) := fun z => z.elim (fun z => by rw [z, h3] at g5; exact slO_xd (Option.some.inj g5)) fun z => n2 z.symm
  refine ⟨⟨h, fun a ha => ?_, ⟨w, g1, e _ _ (m1 g2) g2⟩, ⟨dx', e _ _ (m2 g3) g3⟩, ⟨vs', e _ _ m3 g4, e _ _ m4 g5, g6.xe e2⟩, ⟨vs, e _ _ (m1 g7) g7, g8.xe e2⟩, us, e _ _ (m1 g9) g9, g10.xe e2⟩, e _ _ (m2 h2) h2, b, k1, k2, k3⟩
  obtain ⟨ws', b1, b2, _⟩ := b
  by_cases z1 : a = s2
  · rw [z1]
    exact ⟨_, b1, rfl⟩
  · by_cases z2 : a = d2
    · rw [z2]
      exact ⟨_, b2, rfl⟩
    · obtain ⟨o, k1, k2⟩ := hd a ha
      exact ⟨o, e a o (fun z => z.elim z1 z2) k1, k2⟩
/-- the new desk beside what the law holds -/
theorem law2_in (hS : LwS S r dk st ds p f) (hd : Dom S H') (j : (IV.dsk K (IV.law K S r sv dk st ds p f φs ps fs) x dx s2 d2 ψs).p H') (nx : ¬ S x) (ns : ¬ S s2) (nd : ¬ S d2) : (IV.law2 K (NdS S x s2 d2) r sv dk st ds p f φs ps fs x dx s2 d2 ψs).p H' := by
  classical
  obtain ⟨hb, h2, h3⟩ := j
  have h0 := hb (fun a => if NdD x s2 d2 a then none else H' a) fun a hn => if_neg hn
  obtain ⟨h, hd0, ⟨w, g1, g2⟩, ⟨dx', g3⟩, ⟨vs', g4, g5, g6⟩, ⟨vs, g7, g8⟩, us, g9, g10⟩ := h0
  have at_ : ∀ {a : Addr} {o : HO}, (fun a => if NdD x s2 d2 a then none else H' a) a = some o → H' a = some o := fun {a o} ha => by
    by_cases z : NdD x s2 d2 a
    · simp only [if_pos z] at ha
      cases ha
    · simp only [if_neg z] at ha
      exact ha
  have sub : ∀ a, NdS S x s2 d2 a → S a ∨ (fun a => if NdD x s2 d2 a then none else H' a) a = none := fun a z => z.elim .inl fun z => .inr (if_pos z)
  have e : XE (NdS S x s2 d2) (fun a => if NdD x s2 d2 a then none else H' a) H' := fun a o _ ha => at_ ha
  refine ⟨⟨⟨.inl h.r, .inl h.dk, .inl h.st, .inl h.ds, .inl h.p, .inl h.f, h.rp, h.rf, h.pf⟩, fun a ha => ?_, ⟨w, g1, at_ g2⟩, ⟨dx', at_ g3⟩, ⟨vs', at_ g4, at_ g5, (g6.lift sub).xe e⟩, ⟨vs, at_ g7, (g8.lift sub).xe e⟩, us, at_ g9, (g10.lift sub).xe e⟩, h2, h3, .inr (.inl rfl), .inr (.inr (.inl rfl)), .inr (.inr (.inr rfl))⟩
  rcases ha with ha | rfl | rfl | rfl
  · exact hd a ha
  · exact ⟨_, h2, rfl⟩
  · obtain ⟨ws, h3, h4, h5⟩ := h3
    exact ⟨_, h3, rfl⟩
  · obtain ⟨ws, h3, h4, h5⟩ := h3
    exact ⟨_, h4, rfl⟩
/-- return _law_shows(Desk.replay(system, desk.history), scene, desk.history) -/
theorem gw_final {sa : Addr} {es : List Ed} {ns : List Str} {R0 : Rows} {m : DM} (hS : LwS S r dk st ds p f) (he : EsOk es ns) (hR : RowsOk es ns R0) (hs : ScnOk es ns m.now) (hz : m.past.length ≤ 900) (hl : ∀ q ∈ m.past, LayOp q.1) (hc : chain es ns ⟨R0, 0, []⟩ (m.past.map Prod.fst)) (hg : goAll es (dm0 R0) (m.past.map Prod.fst) = ⟨m.now, m.past, []⟩)
    (g3 : Γ[3]? = some (some (Sys K sa es R0))) (g4 : Γ[4]? = some (some (Eqv (.ref dk)))) (g10 : Γ[10]? = some (some (ScnF K sa es m.now))) :
    GW S Γ (IV.law K S r sv dk st ds p f (stF K sa es m) ps fs) (tRet (tCallR (spC (ct_law_shows K)) E0 (tCons (ClX.tCMeth (C_Desk K) (spRepl K) E0 (tC (.ref (C_Desk K))) (tCons (tVar 3) (tCons (tPropR (C_Desk K) (spC (ct_Desk_history K)) E0 (tVar 4)) tNil))) (tCons (tVar 10) (tCons (tPropR (C_Desk K) (spC (ct_Desk_history K)) E0 (tVar 4)) tNil))))) (fun v _ => v = .bl true) N := fun σ H e hi D rr nn => by
  have ga : GA S Γ (IV.law K S r sv dk st ds p f (stF K sa es m) ps fs) (tCons (tVar 3) (tCons (tPropR (C_Desk K) (spC (ct_Desk_history K)) E0 (tVar 4)) tNil)) [Sys K sa es R0, ListD K (m.past.map fun q => q.1.d)] (IV.law K S r sv dk st ds p f (stF K sa es m) ps fs) :=
    ga_cons (ge_var g3) (ga_cons (ge_propD (F := fun φs => IV.law K S r sv dk st ds p f φs ps fs) (φs := stF K sa es m) (law_dk hS) (ge_var g4) ⟨dk, st, ds, fun φs => IV.law K S r sv dk st ds p f φs ps fs, sa, es, m, law_dk hS, hz, rfl, rfl, rfl, rfl⟩) ga_nil)
  refine ⟨rfl, ga σ H e hi _ fun vs H1 l1 j1 p1 => ?_⟩
  obtain ⟨v, _, rfl, hv, u, _, rfl, hu, rfl⟩ := p1
  have em : (m.past.map fun q => q.1.d) = (m.past.map Prod.fst).map Op.d := by rw [List.map_map]; rfl
  refine ⟨S, _, sa, es, ns, R0, m.past.map Prod.fst, v, u, rfl, j1, hv, (by rw [← em]; exact hu), he, hR, hc, by rw [List.length_map]; exact hz, fun H2 x dx s2 d2 hx h2 h3 e2 j2 => ?_⟩
  rw [hg] at j2
  have nx := (IV.law K S r sv dk st ds p f (stF K sa es m) ps fs).fresh j1 hx
  have ns' := (IV.law K S r sv dk st ds p f (stF K sa es m) ps fs).fresh j1 h2
  have nd := (IV.law K S r sv dk st ds p f (stF K sa es m) ps fs).fresh j1 h3
  have j3 := law2_in hS (dsk_wk j2).2.1 j2 nx ns' nd
  have hS2 := j3.1.1
  have n1 : s2 ≠ st := fun z => ns' (by rw [z]; exact hS.st)
  have n2 : d2 ≠ ds := fun z => nd (by rw [z]; exact hS.ds)
  have sub : ∀ a, NdS S x s2 d2 a → S a ∨ H1 a = none := fun a z => z.elim .inl fun z => .inr (z.elim (fun z => by rw [z]; exact hx) fun z => z.elim (fun z => by rw [z]; exact h2) fun z => by rw [z]; exact h3)
  have e3 : Env (NdS S x s2 d2) Γ σ H2 := (Env.lift sub (e.xe l1)).xe (e2.sub fun a z => .inl z)
  have ga2 : GA (NdS S x s2 d2) Γ (IV.law2 K (NdS S x s2 d2) r sv dk st ds p f (stF K sa es m) ps fs x dx s2 d2 (stF K sa es ⟨m.now, m.past, []⟩)) (tCons (tVar 10) (tCons (tPropR (C_Desk K) (spC (ct_Desk_history K)) E0 (tVar 4)) tNil)) [ScnF K sa es m.now, ListD K (m.past.map fun q => q.1.d)] (IV.law2 K (NdS S x s2 d2) r sv dk st ds p f (stF K sa es m) ps fs x dx s2 d2 (stF K sa es ⟨m.now, m.past, []⟩)) :=
    ga_cons (ge_var g10) (ga_cons (ge_propD (F := fun φs => IV.law2 K (NdS S x s2 d2) r sv dk st ds p f φs ps fs x dx s2 d2 (stF K sa es ⟨m.now, m.past, []⟩)) (φs := stF K sa es m) (law2_old hS2 n1 n2) (ge_var g4) ⟨dk, st, ds, fun φs => IV.law2 K (NdS S x s2 d2) r sv dk st ds p f φs ps fs x dx s2 d2 (stF K sa es ⟨m.now, m.past, []⟩), sa, es, m, law2_old hS2 n1 n2, hz, rfl, rfl, rfl, rfl⟩) ga_nil)
  refine ga2 σ H2 e3 j3 _ fun vs2 H3 l3 j4 p4 => ?_
  refine ⟨NdS S x s2 d2, ⟨_, _, [Eqv (.ref x), ScnF K sa es m.now, ListD K (m.past.map fun q => q.1.d)], Is K (.bool true)⟩, ⟨x, s2, d2, fun ψs => IV.law2 K (NdS S x s2 d2) r sv dk st ds p f (stF K sa es m) ps fs x dx s2 d2 ψs, sa, es, ns, ⟨m.now, m.past, []⟩, law2_new hS2 (.inr (.inl rfl)) (.inr (.inr (.inl rfl))) (.inr (.inr (.inr rfl))) n1 n2, he, hs, hz, hl, rfl, rfl, rfl, rfl⟩, j4, ⟨_, vs2, rfl, rfl, p4⟩, fun v3 H4 l4 j5 p5 => rr _ _ (Da.bl_of p5)⟩
end
end Hs
set_option Elab.async false
set_option linter.all false
set_option maxRecDepth 100000
set_option maxHeartbeats 4000000
/-! the law's start; what it asks of the desk at each turn -/
namespace Hs
open PySem PySem.Spec PyProof.Rows L2 StX
def IV.none0 : IV (fun _ => False) := ⟨fun _ => True, fun _ h => h, fun _ a h => h.elim⟩
def IV.row (r : Addr) (sv : V) : IV (fun a => a = r) := ⟨rowOk r sv, fun {H H'} e ⟨w, h1, h2⟩ => ⟨w, h1, e.2 _ _ rfl h2⟩, fun {H} ⟨w, h1, h2⟩ a ha => by
  rw [ha]
  exact ⟨_, h2, rfl⟩⟩
theorem row_rowI {r : Addr} {sv : V} : RowI r sv (IV.row r sv) := ⟨fun H h => h, fun a z => z, fun H H' ha ⟨w, h1, h2⟩ => ⟨w, h1, by
  unfold RowAt
  rw [ha r rfl]
  exact h2⟩, fun H H' _ e k => k⟩
section
variable {S : AS} {K : PySem.W.Frag} {Γ Δ : Ctx} {I J L M : IV S} {ta tb tc te td ty : TE} {t : TA} {tt tu : TT} {φ ψ χ ξ : Fm} {φs ψs φs' ps fs gs : List Fm} {R : VK} {N : L2.St → Hp → Prop} {u : TS} {i : Nat} {H H' : Hp} {r dk st ds p f q : Addr} {sv : V} {sc : List Int}
theorem gt_orF {b : Bool} (ha : GT S Γ I tt (fun c => false = c) J) (hb : GT S Γ J tu (fun c => b = c) L) : GT S Γ I (tOr tt tu) (fun c => b = c) L := fun σ H e hi Q q => ha σ H e hi _ fun c H1 l1 j1 p1 => by
  subst p1
  rw [if_neg (by decide)]
  exact hb σ H1 (e.xe l1) j1 Q fun c H2 l2 j2 p2 => q c H2 (l1.trans l2) j2 p2
theorem gr_notB {a b : Bool} : GR S I rNotB (Is K (.bool a)) (Is K (.bool b)) (Is K (.bool (!decide (a = b)))) I := fun x y H hi h1 h2 Q q => by
  obtain rfl := Da.bl_of h1
  obtain rfl := Da.bl_of h2
  exact ⟨a, b, rfl, rfl, q _ H (XE.refl S H) hi (.bl _)⟩
theorem ge_dnew : GE S Γ I tDNewK (Dct []) I := fun σ H e hi Q q p hp => q _ _ (XE.new hp) (I.le (LX.new hp) hi) ⟨p, [], rfl, I.fresh hi hp, .inl upd_same, rfl, rfl⟩
/-- row = [script, 0, 0, 0] -/
theorem gw_row {Γ : Ctx} (g0 : Γ[0]? = some (some (ScrF K sc))) (k : ∀ r sv, GW (fun a => a = r) (Γ.set 1 (some (RowV K r sv sc))) (IV.row r sv) u R N) :
    GW (fun _ => False) Γ IV.none0 (tSeq (tAsg (tLst (tCons (tVar 0) (tCons (tC (.int 0)) (tCons (tC (.int 0)) (tCons (tC (.int 0)) tNil))))) (gName 1)) u) R N := fun σ H e hi D rr nn => by
  obtain ⟨v, hv, hs⟩ := e.2 0 _ g0
  refine ⟨v, hv, Nat.le_trans (by show 4 ≤ 1000; decide) (by decide), fun r hr => ?_⟩
  have sub : ∀ a, a = r → False ∨ H a = none := fun a z => .inr (by rw [z]; exact hr)
  have e2 : Env (fun a => a = r) Γ σ (upd H r (.lst [v, .int 0, .int 0, .int 0])) := (Env.lift sub e).xe (XE.new hr)
  exact k r v _ _ (e2.set 1 (φ := RowV K r v sc) ⟨rfl, (ScrF K sc).xe (XE.new hr) ((ScrF K sc).lift sub hs)⟩) ⟨⟨0, 0, 0⟩, ⟨by decide, by decide, by decide⟩, upd_same⟩ D rr nn
theorem ge_makeX {α : Type} {P : α → Prop} {c : CIN} {C : Addr} {E : XK} {fs : α → List (Str × Fm)} (h : GA S Γ I t φs J) (hx : ∀ vs H, J.p H → Ins S φs vs H → ∃ a, P a ∧ ∃ φs', c S J φs' (fs a) ∧ Ins S φs' vs H) : GE S Γ I (tMakeR C (spIn C c) E t) (Exs P fun a => Ob C (fs a)) J := fun σ H e hi Q q => h σ H e hi _ fun vs H1 l1 j1 p1 x dx hx' hdx hne => by
  obtain ⟨a, ha, φs', hc, p1'⟩ := hx vs H1 j1 p1
  have nS := J.fresh j1 hx'
  have l2 : ∀ T, XE T H1 (upd (upd H1 dx (.own x)) x (.ins C dx [])) := fun T => (XE.new hdx).trans (XE.new (by rw [upd_ne (Ne.symm hne)]; exact hx'))
  have back : ∀ {H'}, XE (SU S x) (upd (upd H1 dx (.own x)) x (.ins C dx [])) H' → XE S H1 H' := fun {H'} y b o hs ha => y b o (fun z => z.elim hs fun z => by
    subst z
    rw [hx'] at ha
    cases ha) (l2 S b o hs ha)
  refine ⟨S, J, φs', fs a, x, dx, vs, hc, rfl, nS, ⟨fun gs => ?_, [], upd_same, rfl⟩, (p1'.lift fun b z => z.elim .inl fun z => .inr (by rw [z]; exact hx')).xe (l2 _), fun H' y k => ⟨rfl, q _ H' (l1.trans (back y)) (obj_wk k) ⟨a, ha, obj_out nS k⟩⟩⟩
  rw [upd_upd]
  exact J.le ((LX.new hdx).trans (LX.new (by rw [upd_ne (Ne.symm hne)]; exact hx'))) j1
/-- desk, past, future = Desk(system), [((system, 0, {}), None)], [] -/
theorem gw_desk {Γ : Ctx} {sa : Addr} {es : List Ed} {R0 : Rows} (g3 : Γ[3]? = some (some (Sys K sa es R0)))
    (k : ∀ (S' : AS) dk st ds p f, LwS S' r dk st ds p f → GW S' (((Γ.set 4 (some (Eqv (.ref dk)))).set 5 (some (Eqv (.ref p)))).set 6 (some (Eqv (.ref f)))) (IV.law K S' r sv dk st ds p f (stF K sa es (dm ⟨R0, 0, []⟩ [] [])) (itsP K sa es ⟨R0, 0, []⟩ []) (itsF K sa es [])) u R N) :
    GW (fun a => a = r) Γ (IV.row r sv) (tSeq (tPar3 4 5 6 (tCons (tMakeR (C_Desk K) (spDesk K) E0 (tCons (tVar 3) tNil)) (tCons (tLst (tCons (tTup (tCons (tTup (tCons (tVar 3) (tCons (tC (.int 0)) (tCons tDNewK tNil)))) (tCons (tC .non) tNil))) tNil)) (tCons (tLst tNil) tNil)))) u) R N := fun σ H e hi D rr nn => by
  obtain ⟨v, hv, hs⟩ := e.2 3 _ g3
  refine ⟨v, hv, fun x dx hx hdx hne => ⟨x, v, dx, rfl, upd_same, fun H' st ds pt pu pd h1 h2 h3 h4 h5 n1 n2 e0 k0 k1 k2 k3 k4 k5 => ⟨rfl, ?_⟩⟩⟩
  have g := fun {p : Addr} (h : (upd (upd H dx (.own x)) x (.ins (C_Desk K) dx [])) p = none) => (upd_none (upd_none h).1).1
  have sm : Same H H' := fun a o ha => e0 a o (ne_of_none ha hx) (by rw [upd_ne (ne_of_none ha hx), upd_ne (ne_of_none ha hdx)]; exact ha)
  have sub : ∀ a, NdS (fun a => a = r) x st ds a → a = r ∨ H a = none := fun a z => z.elim .inl fun z => .inr (z.elim (fun z => by rw [z]; exact hx) fun z => z.elim (fun z => by rw [z]; exact g h1) fun z => by rw [z]; exact g h2)
  have j := dsk_new (I := IV.row r sv) hi hs hx (g h1) (g h2) (g h3) (g h4) (g h5) sm k0 k1 k2 k3 k4 k5
  have e2 : Env (NdS (fun a => a = r) x st ds) Γ σ H' := (Env.lift sub e).xe (XE.of sm)
  have ga : GA (NdS (fun a => a = r) x st ds) Γ (IV.dsk K (IV.row r sv) x dx st ds (stF K sa es ⟨⟨R0, 0, []⟩, [], []⟩)) (tCons (tTup (tCons (tTup (tCons (tVar 3) (tCons (tC (.int 0)) (tCons tDNewK tNil)))) (tCons (tC .non) tNil))) tNil) [itF K sa es (.none, ⟨R0, 0, []⟩)] (IV.dsk K (IV.row r sv) x dx st ds (stF K sa es ⟨⟨R0, 0, []⟩, [], []⟩)) :=
    ga_cons (ge_tup (K := K) (ga_cons (ge_tup (K := K) (ga_cons (ge_var g3) (ga_cons (ge_int (K := K)) (ga_cons ge_dnew ga_nil))) (by show 3 ≤ 1000; decide)) (ga_cons (ge_non (K := K)) ga_nil)) (by show 2 ≤ 1000; decide)) ga_nil
  refine ga σ H' e2 j (fun xs H1 => xs.length ≤ sizeLine ∧ ∀ p, H1 p = none → (tCons (tLst tNil) tNil) σ (upd H1 p (.lst xs)) fun ys H2 => ∃ a b c, V.ref x :: V.ref p :: ys = [a, b, c] ∧ u D (((σ.set 4 (some a)).set 5 (some b)).set 6 (some c)) H2) fun ws H2 l2 j2 p2 => ?_
  refine ⟨by rw [p2.len]; exact Nat.le_trans (by show 1 ≤ 1000; decide) (by decide), fun c hc => ⟨Nat.le_trans (by show 0 ≤ 1000; decide) (by decide), fun d hd => ⟨_, _, _, rfl, ?_⟩⟩⟩
  have e3 := e2.xe l2
  have nc := (IV.dsk K (IV.row r sv) x dx st ds (stF K sa es ⟨⟨R0, 0, []⟩, [], []⟩)).fresh j2 hc
  obtain ⟨hd', hdc⟩ := upd_none hd
  have nd := (IV.dsk K (IV.row r sv) x dx st ds (stF K sa es ⟨⟨R0, 0, []⟩, [], []⟩)).fresh j2 hd'
  have sub2 : ∀ a, SU (SU (NdS (fun a => a = r) x st ds) c) d a → NdS (fun a => a = r) x st ds a ∨ H2 a = none := fun a z => z.elim (fun z => z.elim .inl fun z => .inr (by rw [z]; exact hc)) fun z => .inr (by rw [z]; exact hd')
  have x2 : ∀ T, XE T H2 (upd (upd H2 c (.lst ws)) d (.lst [])) := fun T => (XE.new hc).trans (XE.new hd)
  have up : ∀ {a : Addr} {o : HO}, H2 a = some o → (upd (upd H2 c (.lst ws)) d (.lst [])) a = some o := fun {a o} ha => by rw [upd_ne (ne_of_none ha hd'), upd_ne (ne_of_none ha hc)]; exact ha
  have hr : NdS (fun a => a = r) x st ds r := .inl rfl
  have j3 : (IV.law K (SU (SU (NdS (fun a => a = r) x st ds) c) d) r sv x st ds c d (stF K sa es (dm ⟨R0, 0, []⟩ [] [])) (itsP K sa es ⟨R0, 0, []⟩ []) (itsF K sa es [])).p (upd (upd H2 c (.lst ws)) d (.lst [])) := by
    obtain ⟨w, w1, w2⟩ := dsk_wk j2
    have dom := (IV.dsk K (IV.row r sv) x dx st ds (stF K sa es ⟨⟨R0, 0, []⟩, [], []⟩)).dom j2
    obtain ⟨hb, q1, ws', q2, q3, q4⟩ := j2
    refine ⟨⟨.inl (.inl hr), .inl (.inl (.inr (.inl rfl))), .inl (.inl (.inr (.inr (.inl rfl)))), .inl (.inl (.inr (.inr (.inr rfl)))), .inl (.inr rfl), .inr rfl, fun z => nc (by rw [← z]; exact hr), fun z => nd (by rw [← z]; exact hr), Ne.symm hdc⟩, fun a ha => ?_, ⟨w, w1, up w2⟩, ⟨dx, up q1⟩, ⟨ws', up q2, up q3, (q4.lift sub2).xe (x2 _)⟩, ⟨ws, ?_, (p2.lift sub2).xe (x2 _)⟩, [], upd_same, rfl⟩
    · rcases ha with (ha | rfl) | rfl
      · obtain ⟨o, b1, b2⟩ := dom a ha
        exact ⟨o, up b1, b2⟩
      · exact ⟨_, by rw [upd_ne (Ne.symm hdc), upd_same], rfl⟩
      · exact ⟨_, upd_same, rfl⟩
    · rw [upd_ne (Ne.symm hdc), upd_same]
  exact k _ x st ds c d j3.1 _ _ (((((Env.lift sub2 e3).xe (x2 _)).set 4 (φ := Eqv (.ref x)) rfl).set 5 (φ := Eqv (.ref c)) rfl).set 6 (φ := Eqv (.ref d)) rfl) j3 D rr nn
end
end Hs
set_option Elab.async false
set_option linter.all false
set_option maxRecDepth 100000
set_option maxHeartbeats 4000000
/-! the law's turns -/
namespace Hs
open PySem PySem.Spec PyProof.Rows L2 StX
abbrev lwG (K : PySem.W.Frag) (r : Addr) (sv : V) (sc : List Int) (es : List Ed) (sa : Addr) (R0 : Rows) (dk p f : Addr) (a8 a9 a10 a11 a12 a13 : Option Fm) : Ctx := [none, some (RowV K r sv sc), some (Is K (edsD es)), some (Sys K sa es R0), some (Eqv (.ref dk)), some (Eqv (.ref p)), some (Eqv (.ref f)), none, a8, a9, a10, a11, a12, a13, none]
abbrev tLast0 (K : PySem.W.Frag) : TE := tOp (rIxT K) (tOp (rIxL K) (tVar 5) (tUn (rU fun i => V.int (-i)) (tC (V.int 1)))) (tC (V.int 0))
abbrev tHist (K : PySem.W.Frag) : TE := tLc (iList K (tSl (rSlL K) (tVar 5) (tPart (tC (V.int 1))) tNoPart)) (gName 14) tYes (tOp (rIxT K) (tVar 14) (tC (V.int 1))) [14]
abbrev tShows (K : PySem.W.Frag) : TT := tNot (tB (tCallR (spC (ct_law_shows K)) E0 (tCons (tVar 4) (tCons (tLast0 K) (tCons (tHist K) tNil)))))
abbrev tChk (t : TT) : TS := tIfS t (tRet (tC (V.bl false))) tNext
abbrev tLen5 (K : PySem.W.Frag) : TE := tCB (fun xs H Q => ∃ p ys, xs = [V.ref p] ∧ (SqL K H p ys ∨ SqT K H p ys) ∧ Q (V.int ys.length) H) (tCons (tVar 5) tNil)
abbrev rGt : R2 := rI0 fun i j => V.bl (decide (j < i))
abbrev tUndo (K : PySem.W.Frag) : TE := tMethR (C_Desk K) "undo" (spC (ct_Desk_undo K)) E0 (tVar 4) tNil
abbrev tRedo (K : PySem.W.Frag) : TE := tMethR (C_Desk K) "redo" (spC (ct_Desk_redo K)) E0 (tVar 4) tNil
abbrev tFut (K : PySem.W.Frag) : TE := tOp (rNeE K) (tVar 6) (tLst tNil)
abbrev tA (K : PySem.W.Frag) : TS := tSeq (tChk (tTest (tOp rNe (tUndo K) (tOp rGt (tLen5 K) (tC (V.int 1))))))
  (tAsg (tOp rCat (tVar 6) (tIf (tTest (tOp rGt (tLen5 K) (tC (V.int 1)))) (tLst (tCons (tBM0 K "list" rPop (tVar 5)) tNil)) (tLst tNil))) (gName 6))
abbrev tBk (K : PySem.W.Frag) : TS := tSeq (tChk (tTest (tOp rNe (tRedo K) (tFut K))))
  (tAsg (tOp rCat (tVar 5) (tIf (tTest (tFut K)) (tLst (tCons (tBM0 K "list" rPop (tVar 6)) tNil)) (tLst tNil))) (gName 5))
abbrev gOp (K : PySem.W.Frag) : TG := gTup K 3 (gCons (gName 9) (gCons (gName 10) (gCons (gName 11) gNil)))
abbrev tCk (K : PySem.W.Frag) : TS := tSeq (tAsg (tCallR (spC (ct_law_step K)) E0 (tCons (tVar 1) (tCons (tVar 2) (tCons (tLast0 K) tNil)))) (gOp K))
  (tSeq (tChk (tTest (tOp (rNeD K) (tMethR (C_Desk K) "apply_all" (spC (ct_Desk_apply_all K)) E0 (tVar 4) (tCons (tLst (tCons (tVar 9) tNil)) tNil)) (tLst (tCons (tVar 11) tNil)))))
  (tPar 5 6 (tCons (tOp rCat (tVar 5) (tLst (tCons (tTup (tCons (tVar 10) (tCons (tVar 9) tNil))) tNil))) (tCons (tLst tNil) tNil))))
abbrev tTurn (K : PySem.W.Frag) : TS := tSeq (tAsg (tCallR (spC (ct_taken K)) E0 (tCons (tVar 1) (tCons (tC (V.int 5)) tNil))) (gName 8))
  (tSeq (tIfS (tTest (tOp rEq (tVar 8) (tC (V.int 0)))) (tA K) (tIfS (tTest (tOp rEq (tVar 8) (tC (V.int 1)))) (tBk K) (tCk K))) (tChk (tShows K)))
abbrev sc0 (R0 : Rows) : Scn := ⟨R0, 0, []⟩
structure Gh where
  S : AS
  p : Addr
  f : Addr
  prev : List (Op × Scn)
  fut : List (Op × Scn)
section
variable {K : PySem.W.Frag} {r dk st ds sa : Addr} {sv : V} {sc : List Int} {es : List Ed} {ns : List Str} {R0 : Rows} {S : AS} {p f : Addr} {prev fut : List (Op × Scn)} {φs fs : List Fm} {a8 a9 a10 a11 a12 a13 : Option Fm} {R : VK} {N : L2.St → Hp → Prop} {i : Nat}
abbrev LI (K : PySem.W.Frag) (sa : Addr) (es : List Ed) (R0 : Rows) (r : Addr) (sv : V) (dk st ds : Addr) (S : AS) (p f : Addr) (prev fut : List (Op × Scn)) : IV S := IV.law K S r sv dk st ds p f (stF K sa es (dm (sc0 R0) prev fut)) (itsP K sa es (sc0 R0) prev) (itsF K sa es fut)
abbrev LF (K : PySem.W.Frag) (r : Addr) (sv : V) (dk st ds : Addr) (S : AS) (p f : Addr) (ps fs : List Fm) : List Fm → IV S := fun φs => IV.law K S r sv dk st ds p f φs ps fs
theorem sc0_ok (hR : RowsOk es ns R0) : ScnOk es ns (sc0 R0) := ⟨hR, List.nodup_nil, fun _ h => nomatch h⟩
theorem ge_last0 : GE S (lwG K r sv sc es sa R0 dk p f a8 a9 a10 a11 a12 a13) (IV.law K S r sv dk st ds p f φs (itsP K sa es (sc0 R0) prev) fs) (tLast0 K) (ScnF K sa es (lastS (sc0 R0) prev)) (IV.law K S r sv dk st ds p f φs (itsP K sa es (sc0 R0) prev) fs) := by
  obtain ⟨ys, d, e⟩ := its_last (K := K) (sa := sa) (es := es) (s0 := sc0 R0) (xs := prev)
  rw [e]
  exact ge_op (ge_op (ge_var rfl) ge_neg1 (gr_ixOwnLast fun H hh => hh.2.2.2.2.2.1)) (ge_int (K := K)) (gr_ixT (by decide) rfl)
theorem ge_hist (hz : prev.length ≤ 1000) : GE S (lwG K r sv sc es sa R0 dk p f a8 a9 a10 a11 a12 a13) (IV.law K S r sv dk st ds p f φs (itsP K sa es (sc0 R0) prev) fs) (tHist K) (ListD K (prev.map fun q => q.1.d)) (IV.law K S r sv dk st ds p f φs (itsP K sa es (sc0 R0) prev) fs) :=
  ge_lcD1 (K := K) prev (fun q => itF K sa es (q.1.d, q.2)) (fun q => q.1.d) (gi_list (ge_slOwn (fun H hh => hh.2.2.2.2.2.1) (ge_var rfl))) hz fun q S' I' ext hq => ⟨_, _, (fun _ h => h), gg_name, gt_yes, fun _ => ge_op (ge_var rfl) (ge_int (K := K)) (gr_ixT (by decide) rfl)⟩
variable (he : EsOk es ns) (hns : ∀ n ∈ ns, PyData.strOk n = true) (hR : RowsOk es ns R0)
include he hns hR
theorem gt_shows (h : LwS S r dk st ds p f) (hst : Steps es ns (sc0 R0) prev) (hz : prev.length ≤ 900) : GT S (lwG K r sv sc es sa R0 dk p f a8 a9 a10 a11 a12 a13) (LI K sa es R0 r sv dk st ds S p f prev fut) (tShows K) (fun c => false = c) (LI K sa es R0 r sv dk st ds S p f prev fut) := by
  have hh := ge_hist (K := K) (r := r) (sv := sv) (sc := sc) (es := es) (sa := sa) (R0 := R0) (dk := dk) (st := st) (ds := ds) (S := S) (p := p) (f := f) (prev := prev) (φs := stF K sa es (dm (sc0 R0) prev fut)) (fs := itsF K sa es fut) (a8 := a8) (a9 := a9) (a10 := a10) (a11 := a11) (a12 := a12) (a13 := a13) (by omega)
  rw [← bef_d (s := sc0 R0)] at hh
  exact gt_notB (b := true) (gt_valB (K := K) (b := true) (ge_call (ga_cons (ge_var rfl) (ga_cons ge_last0 (ga_cons hh ga_nil))) ⟨dk, st, ds, LF K r sv dk st ds S p f (itsP K sa es (sc0 R0) prev) (itsF K sa es fut), sa, es, ns, dm (sc0 R0) prev fut, law_dk h, he, steps_ok he (sc0_ok hR) hst, by show (bef (sc0 R0) prev).length ≤ 900; rw [bef_len]; exact hz, bef_lay hns hst, rfl, rfl, rfl, rfl⟩))
end
end Hs
set_option Elab.async false
set_option linter.all false
set_option maxRecDepth 100000
set_option maxHeartbeats 4000000
/-! the law's turns, each kind -/
namespace Hs
open PySem PySem.Spec PyProof.Rows L2 StX
section
variable {K : PySem.W.Frag} {r dk st ds sa : Addr} {sv : V} {sc : List Int} {es : List Ed} {ns : List Str} {R0 : Rows} {S : AS} {p f : Addr} {prev fut : List (Op × Scn)} {φs fs : List Fm} {a8 a9 a10 a11 a12 a13 : Option Fm} {R : VK} {N : L2.St → Hp → Prop} {i : Nat}
abbrev Gd (es : List Ed) (ns : List Str) (R0 : Rows) (r dk st ds : Addr) (i : Nat) (b : Gh) : Prop := LwS b.S r dk st ds b.p b.f ∧ Steps es ns (sc0 R0) (b.prev ++ b.fut.reverse) ∧ b.prev.length + b.fut.length ≤ i
abbrev Nt (K : PySem.W.Frag) (r dk st ds sa : Addr) (sv : V) (sc : List Int) (es : List Ed) (ns : List Str) (R0 : Rows) (i : Nat) : L2.St → Hp → Prop := fun σ H => ∃ b : Gh, Gd es ns R0 r dk st ds (i + 1) b ∧ En b.S (lwG K r sv sc es sa R0 dk b.p b.f none none none none none none) (LI K sa es R0 r sv dk st ds b.S b.p b.f b.prev b.fut) σ H
variable (he : EsOk es ns) (hns : ∀ n ∈ ns, PyData.strOk n = true) (hR : RowsOk es ns R0)
include he hns hR
theorem gw_end (b : Gh) (hb : Gd es ns R0 r dk st ds (i + 1) b) (hi : i ≤ 100) : GW b.S (lwG K r sv sc es sa R0 dk b.p b.f a8 a9 a10 a11 none none) (LI K sa es R0 r sv dk st ds b.S b.p b.f b.prev b.fut) (tChk (tShows K)) R (Nt K r dk st ds sa sv sc es ns R0 i) :=
  gw_chk1 (gt_shows he hns hR hb.1 (steps_app.mp hb.2.1).1 (by have := hb.2.2; omega)) fun σ H e j => ⟨b, hb, e.sub (.s (.s (.s (.s (.s (.s (.s (.s (.n (.n (.n (.n (.s (.s (.s .nil))))))))))))))), j⟩
omit hns hR he in
theorem len5 (h : LwS S r dk st ds p f) {b : Bool} (e : decide ((1 : Int) < ((itsP K sa es (sc0 R0) prev).length : Nat)) = b) : GE S (lwG K r sv sc es sa R0 dk p f a8 a9 a10 a11 a12 a13) (IV.law K S r sv dk st ds p f φs (itsP K sa es (sc0 R0) prev) fs) (tOp rGt (tLen5 K) (tC (V.int 1))) (Is K (.bool b)) (IV.law K S r sv dk st ds p f φs (itsP K sa es (sc0 R0) prev) fs) := by
  subst e
  exact ge_op (ge_cb (ga_cons (ge_var rfl) ga_nil) (gc_lenOwn (ps := itsP K sa es (sc0 R0) prev) fun H hh => hh.2.2.2.2.2.1)) (ge_int (K := K)) gr_gt
omit hns hR he in
theorem itsP_len {xs : List (Op × Scn)} : (itsP K sa es (sc0 R0) xs).length = xs.length + 1 := by
  show (itsF K sa es xs).length + 1 = _
  rw [List.length_map]
omit hns hR he in
theorem bef_emp {xs : List (Op × Scn)} {q : Op × Scn} {s : Scn} : (!(bef s (xs ++ [q])).isEmpty) = true := by
  cases xs <;> rfl
omit hns hR he in
theorem fut_emp {xs : List (Op × Scn)} {q : Op × Scn} : (!(xs ++ [q]).isEmpty) = true := by
  cases xs <;> rfl
omit hns hR he in
theorem ne_same {a : Bool} : (!decide (a = a)) = false := by cases a <;> rfl
theorem gw_tA (h : LwS S r dk st ds p f) (hst : Steps es ns (sc0 R0) (prev ++ fut.reverse)) (hz : prev.length + fut.length ≤ i) (hi : i ≤ 100) :
    GW S (lwG K r sv sc es sa R0 dk p f a8 none none none none none) (LI K sa es R0 r sv dk st ds S p f prev fut) (tSeq (tA K) (tChk (tShows K))) R (Nt K r dk st ds sa sv sc es ns R0 i) := by
  refine gw_assoc ?_
  rcases List.eq_nil_or_concat prev with rfl | ⟨xs, q, rfl⟩
  · refine gw_chk (GT.to (gt_val (K := K) (ge_op (ge_methD (F := LF K r sv dk st ds S p f (itsP K sa es (sc0 R0) []) (itsF K sa es fut)) (φs := stF K sa es (dm (sc0 R0) [] fut)) (L := LI K sa es R0 r sv dk st ds S p f [] fut) (law_dk h) rfl (ge_var rfl) ga_nil ⟨dk, st, ds, LF K r sv dk st ds S p f (itsP K sa es (sc0 R0) []) (itsF K sa es fut), sa, es, dm (sc0 R0) [] fut, law_dk h, by show 0 ≤ 900; omega, by show fut.length ≤ 900; omega, rfl, rfl, rfl, rfl⟩) (len5 (b := false) h (by rw [itsP_len]; decide)) gr_neB)) rfl) ?_
    refine gw_setF (gs := []) (ge_var rfl) (ge_if (GT.to (gt_val (K := K) (len5 (b := false) h (by rw [itsP_len]; decide))) rfl) (fun b => Bool.noConfusion b) fun _ => ge_lst ga_nil (by show 0 ≤ 1000; decide)) (by rw [List.length_map]; show fut.length + 0 ≤ 1000; omega) fun q hq => ?_
    rw [List.append_nil]
    exact gw_end he hns hR ⟨SU S q, p, q, [], fut⟩ ⟨hq, hst, by show 0 + fut.length ≤ i + 1; omega⟩ hi
  · rw [List.concat_eq_append] at hst hz ⊢
    rw [List.length_append] at hz
    have hz : xs.length + 1 + fut.length ≤ i := hz
    have hl : decide ((1 : Int) < ((itsP K sa es (sc0 R0) (xs ++ [q])).length : Nat)) = true := decide_eq_true (by rw [itsP_len, List.length_append]; show (1 : Int) < ((xs.length + 1 + 1 : Nat) : Int); omega)
    refine gw_chk (J := LF K r sv dk st ds S p f (itsP K sa es (sc0 R0) (xs ++ [q])) (itsF K sa es fut) (stF K sa es (dm (sc0 R0) xs (fut ++ [q])))) (GT.to (gt_val (K := K) (ge_op (ge_methD (F := LF K r sv dk st ds S p f (itsP K sa es (sc0 R0) (xs ++ [q])) (itsF K sa es fut)) (φs := stF K sa es (dm (sc0 R0) (xs ++ [q]) fut)) (χ := Is K (.bool true)) (law_dk h) rfl (ge_var rfl) ga_nil ⟨dk, st, ds, LF K r sv dk st ds S p f (itsP K sa es (sc0 R0) (xs ++ [q])) (itsF K sa es fut), sa, es, dm (sc0 R0) (xs ++ [q]) fut, law_dk h, by show (bef _ _).length ≤ 900; rw [bef_len, List.length_append]; show xs.length + 1 ≤ 900; omega, by show fut.length ≤ 900; omega, rfl, by rw [undo_dm], rfl, by show _ = Is K (.bool (!(bef (sc0 R0) (xs ++ [q])).isEmpty)); rw [bef_emp]⟩) (len5 h hl) gr_neB)) ne_same) ?_
    refine gw_setF (gs := [itF K sa es (q.1.d, q.2)]) (ps' := itsP K sa es (sc0 R0) xs) (ge_var rfl) (ge_if (GT.to (gt_val (K := K) (len5 h hl)) rfl) (fun _ => ?_) (fun b => Bool.noConfusion b)) (by rw [List.length_map]; show fut.length + 1 ≤ 1000; omega) fun q' hq => ?_
    · rw [itsP_cat]
      exact ge_lst (ga_cons (ge_popP (ge_var rfl)) ga_nil) (by show 1 ≤ 1000; decide)
    · rw [← itsF_cat]
      exact gw_end he hns hR ⟨SU S q', p, q', xs, fut ++ [q]⟩ ⟨hq, by rw [List.reverse_append]; rw [List.append_assoc] at hst; exact hst, by show xs.length + (fut ++ [q]).length ≤ i + 1; rw [List.length_append]; show xs.length + (fut.length + 1) ≤ i + 1; omega⟩ hi
omit hns hR he in
theorem futE (h : LwS S r dk st ds p f) {b : Bool} (e : (!(itsF K sa es fut).isEmpty) = b) : GE S (lwG K r sv sc es sa R0 dk p f a8 a9 a10 a11 a12 a13) (IV.law K S r sv dk st ds p f φs φs' (itsF K sa es fut)) (tFut K) (Is K (.bool b)) (IV.law K S r sv dk st ds p f φs φs' (itsF K sa es fut)) := by
  subst e
  exact ge_op (ge_var rfl) (ge_lstD (K := K) ga_nil .nil (by show 0 ≤ 1000; decide)) (gr_neOwn fun H hh => hh.2.2.2.2.2.2)
omit hns hR he in
theorem itsF_emp {xs : List (Op × Scn)} {q : Op × Scn} : (!(itsF K sa es (xs ++ [q])).isEmpty) = true := by
  cases xs <;> rfl
theorem gw_tB (h : LwS S r dk st ds p f) (hst : Steps es ns (sc0 R0) (prev ++ fut.reverse)) (hz : prev.length + fut.length ≤ i) (hi : i ≤ 100) :
    GW S (lwG K r sv sc es sa R0 dk p f a8 none none none none none) (LI K sa es R0 r sv dk st ds S p f prev fut) (tSeq (tBk K) (tChk (tShows K))) R (Nt K r dk st ds sa sv sc es ns R0 i) := by
  refine gw_assoc ?_
  rcases List.eq_nil_or_concat fut with rfl | ⟨us, q, rfl⟩
  · refine gw_chk (GT.to (gt_val (K := K) (ge_op (ge_methD (F := LF K r sv dk st ds S p f (itsP K sa es (sc0 R0) prev) (itsF K sa es [])) (φs := stF K sa es (dm (sc0 R0) prev [])) (L := LI K sa es R0 r sv dk st ds S p f prev []) (law_dk h) rfl (ge_var rfl) ga_nil ⟨dk, st, ds, LF K r sv dk st ds S p f (itsP K sa es (sc0 R0) prev) (itsF K sa es []), sa, es, dm (sc0 R0) prev [], law_dk h, by show (bef _ _).length ≤ 900; rw [bef_len]; omega, by show 0 ≤ 900; omega, rfl, rfl, rfl, rfl⟩) (futE (b := false) h rfl) gr_neB)) rfl) ?_
    refine gw_setP (gs := []) (fs' := itsF K sa es []) (ge_var rfl) (ge_if (GT.to (gt_val (K := K) (futE (b := false) h rfl)) rfl) (fun b => Bool.noConfusion b) fun _ => ge_lst ga_nil (by show 0 ≤ 1000; decide)) (by rw [itsP_len]; show prev.length + 1 + 0 ≤ 1000; omega) fun q hq => ?_
    rw [List.append_nil]
    exact gw_end he hns hR ⟨SU S q, q, f, prev, []⟩ ⟨hq, hst, by show prev.length + 0 ≤ i + 1; omega⟩ hi
  · rw [List.concat_eq_append] at hst hz ⊢
    rw [List.length_append] at hz
    have hz : prev.length + (us.length + 1) ≤ i := hz
    refine gw_chk (J := LF K r sv dk st ds S p f (itsP K sa es (sc0 R0) prev) (itsF K sa es (us ++ [q])) (stF K sa es (dm (sc0 R0) (prev ++ [q]) us))) (GT.to (gt_val (K := K) (ge_op (ge_methD (F := LF K r sv dk st ds S p f (itsP K sa es (sc0 R0) prev) (itsF K sa es (us ++ [q]))) (φs := stF K sa es (dm (sc0 R0) prev (us ++ [q]))) (χ := Is K (.bool true)) (law_dk h) rfl (ge_var rfl) ga_nil ⟨dk, st, ds, LF K r sv dk st ds S p f (itsP K sa es (sc0 R0) prev) (itsF K sa es (us ++ [q])), sa, es, dm (sc0 R0) prev (us ++ [q]), law_dk h, by show (bef _ _).length ≤ 900; rw [bef_len]; omega, by show (us ++ [q]).length ≤ 900; rw [List.length_append]; show us.length + 1 ≤ 900; omega, rfl, by rw [redo_dm], rfl, by show _ = Is K (.bool (!(us ++ [q]).isEmpty)); rw [fut_emp]⟩) (futE h itsF_emp) gr_neB)) ne_same) ?_
    refine gw_setP (gs := [itF K sa es (q.1.d, q.2)]) (fs' := itsF K sa es us) (ge_var rfl) (ge_if (GT.to (gt_val (K := K) (futE h itsF_emp)) rfl) (fun _ => ?_) (fun b => Bool.noConfusion b)) (by rw [itsP_len]; show prev.length + 1 + 1 ≤ 1000; omega) fun q' hq => ?_
    · rw [itsF_cat]
      exact ge_lst (ga_cons (ge_popF (ge_var rfl)) ga_nil) (by show 1 ≤ 1000; decide)
    · rw [← itsP_cat]
      exact gw_end he hns hR ⟨SU S q', q', f, prev ++ [q], us⟩ ⟨hq, by rw [List.reverse_append] at hst; rw [List.append_assoc]; exact hst, by show (prev ++ [q]).length + us.length ≤ i + 1; rw [List.length_append]; show prev.length + 1 + us.length ≤ i + 1; omega⟩ hi
end
end Hs
set_option Elab.async false
set_option linter.all false
set_option maxRecDepth 100000
set_option maxHeartbeats 4000000
/-! the law's loops and end -/
namespace Hs
open PySem PySem.Spec PyProof.Rows L2 StX
abbrev tTried (K : PySem.W.Frag) (b : Bool) : TE := tMethR (C_Desk K) "tried" (spC (ct_Desk_tried K)) E0 (tVar 4) (tCons (tVar 12) (tCons (tC (V.bl b)) tNil))
abbrev tTail (K : PySem.W.Frag) : TS :=
  tSeq (tChk (tTest (tOp (rNeD K) (tTried K false) (tVar 13))))
  (tSeq (tChk (tShows K))
  (tSeq (tChk (tOr (tTest (tOp rNe (tRedo K) (tFut K))) (tAnd (tTest (tFut K)) (tTest (tOp rNotB (tUndo K) (tC (V.bl true)))))))
  (tSeq (tChk (tTest (tOp (rNeD K) (tTried K true) (tVar 13))))
  (tSeq (tChk (tNot (tB (tCallR (spC (ct_law_shows K)) E0 (tCons (tVar 4) (tCons (tVar 10) (tCons (tOp rCat (tHist K) (tVar 12)) tNil)))))))
  (tRet (tCallR (spC (ct_law_shows K)) E0 (tCons (ClX.tCMeth (C_Desk K) (spRepl K) E0 (tC (.ref (C_Desk K))) (tCons (tVar 3) (tCons (tPropR (C_Desk K) (spC (ct_Desk_history K)) E0 (tVar 4)) tNil))) (tCons (tVar 10) (tCons (tPropR (C_Desk K) (spC (ct_Desk_history K)) E0 (tVar 4)) tNil)))))))))
abbrev tBody2 (K : PySem.W.Frag) : TS := tSeq (tAsg (tCallR (spC (ct_law_step K)) E0 (tCons (tVar 1) (tCons (tVar 2) (tCons (tVar 10) tNil)))) (gOp K))
  (tPar 12 13 (tCons (tOp rCat (tVar 12) (tLst (tCons (tVar 9) tNil))) (tCons (tOp rCat (tVar 13) (tLst (tCons (tVar 11) tNil))) tNil)))
abbrev tPhase2 (K : PySem.W.Frag) : TS := tSeq (tPar3 12 10 13 (tCons (tLst tNil) (tCons (tLast0 K) (tCons (tLst tNil) tNil))))
  (tSeq (tFor (iRng1 (tCons (tCallR (spC (ct_taken K)) E0 (tCons (tVar 1) (tCons (tC (V.int 8)) tNil))) tNil)) (gName 7) (tBody2 K)) (tTail K))
section
variable {K : PySem.W.Frag} {r dk st ds sa : Addr} {sv : V} {sc : List Int} {es : List Ed} {ns : List Str} {R0 : Rows} {S : AS} {p f : Addr} {prev fut xs : List (Op × Scn)} {φs fs : List Fm} {a8 a9 a10 a11 a12 a13 : Option Fm} {R : VK} {N : L2.St → Hp → Prop} {i : Nat}
theorem step_dm {s0 : Scn} {op : Op} : goAll es (dm s0 prev fut) [op] = dm s0 (prev ++ [(op, execS es (lastS s0 prev) op)]) [] := by
  show (⟨execS es (lastS s0 prev) op, bef s0 prev ++ [(op, lastS s0 prev)], []⟩ : DM) = ⟨lastS s0 (prev ++ [(op, _)]), bef s0 (prev ++ [(op, _)]), []⟩
  rw [lastS_app, bef_app]
  rfl
theorem ne_dues {dsl : List PyData} (h : ∀ d ∈ dsl, LayDue d) : (!PyData.eqv (.list dsl) (.list dsl)) = false := by
  rw [eqv_dues h]
  rfl
variable (he : EsOk es ns) (hns : ∀ n ∈ ns, PyData.strOk n = true) (hR : RowsOk es ns R0)
include he hns hR
theorem gw_tC (h : LwS S r dk st ds p f) (hst : Steps es ns (sc0 R0) (prev ++ fut.reverse)) (hz : prev.length + fut.length ≤ i) (hi : i ≤ 100) :
    GW S (lwG K r sv sc es sa R0 dk p f a8 none none none none none) (LI K sa es R0 r sv dk st ds S p f prev fut) (tSeq (tCk K) (tChk (tShows K))) R (Nt K r dk st ds sa sv sc es ns R0 i) := by
  have hp := (steps_app.mp hst).1
  have hnow := steps_ok he (sc0_ok hR) hp
  refine gw_assoc (gw_seqX (gs_asgX (ge_call (ga_cons (ge_var rfl) (ga_cons (ge_var rfl) (ga_cons ge_last0 ga_nil))) ⟨r, sv, sc, sa, es, ns, lastS (sc0 R0) prev, law_row h, he, hns, hnow, rfl, rfl, rfl⟩) fun op hop => gg_tup (gg_cons gg_name (gg_cons gg_name (gg_cons gg_name gg_nil))) rfl) fun op hop => gw_assoc ?_)
  refine gw_pre (Δ := lwG K r sv sc es sa R0 dk p f a8 (some (Is K op.d)) (some (ScnF K sa es (execS es (lastS (sc0 R0) prev) op))) (some (Is K (dueS es (lastS (sc0 R0) prev) op))) none none) (J := LI K sa es R0 r sv dk st ds S p f prev fut) ?_ (Sub.refl _) (fun _ h => h)
  have hd : ∀ d ∈ [dueS es (lastS (sc0 R0) prev) op], LayDue d := fun d hd => by
    rw [List.mem_singleton.mp hd]
    exact lay_due
  refine gw_chk (J := LF K r sv dk st ds S p f (itsP K sa es (sc0 R0) prev) (itsF K sa es fut) (stF K sa es (dm (sc0 R0) (prev ++ [(op, execS es (lastS (sc0 R0) prev) op)]) []))) (GT.to (gt_val (K := K) (ge_op (ge_methD (F := LF K r sv dk st ds S p f (itsP K sa es (sc0 R0) prev) (itsF K sa es fut)) (φs := stF K sa es (dm (sc0 R0) prev fut)) (law_dk h) rfl (ge_var rfl) (ga_cons (ge_lstD (K := K) (ga_cons (ge_var rfl) ga_nil) (.cons .nil) (by show 1 ≤ 1000; decide)) ga_nil) ⟨dk, st, ds, LF K r sv dk st ds S p f (itsP K sa es (sc0 R0) prev) (itsF K sa es fut), sa, es, ns, dm (sc0 R0) prev fut, [op], law_dk h, he, hnow, ⟨hop, trivial⟩, by show (bef _ _).length + 1 ≤ 900; rw [bef_len]; omega, rfl, by rw [step_dm], rfl, rfl⟩) (ge_lstD (K := K) (ga_cons (ge_var rfl) ga_nil) (.cons .nil) (by show 1 ≤ 1000; decide)) (gr_neD (shaped_dues hd) (shaped_dues hd)))) (ne_dues hd)) ?_
  refine gw_setPF (gs := [itF K sa es ((op, execS es (lastS (sc0 R0) prev) op).1.d, (op, execS es (lastS (sc0 R0) prev) op).2)]) (ge_var rfl) (ge_lst (ga_cons (ge_tup (K := K) (ga_cons (ge_var rfl) (ga_cons (ge_var rfl) ga_nil)) (by show 2 ≤ 1000; decide)) ga_nil) (by show 1 ≤ 1000; decide)) (by rw [itsP_len]; show prev.length + 1 + 1 ≤ 1000; omega) fun q1 q2 hq => ?_
  rw [← itsP_cat]
  exact gw_end he hns hR ⟨SU (SU S q1) q2, q1, q2, prev ++ [(op, execS es (lastS (sc0 R0) prev) op)], []⟩ ⟨hq, by rw [show ([] : List (Op × Scn)).reverse = [] from rfl, List.append_nil]; exact steps_app.mpr ⟨hp, hop, rfl, trivial⟩, by show (prev ++ [_]).length + 0 ≤ i + 1; rw [List.length_append]; show prev.length + 1 + 0 ≤ i + 1; omega⟩ hi
theorem gw_turn (b : Gh) (hb : Gd es ns R0 r dk st ds i b) (hi : i ≤ 100) : GW b.S (lwG K r sv sc es sa R0 dk b.p b.f none none none none none none) (LI K sa es R0 r sv dk st ds b.S b.p b.f b.prev b.fut) (tTurn K) R (Nt K r dk st ds sa sv sc es ns R0 i) := by
  obtain ⟨h, hst, hz⟩ := hb
  refine gw_seqX (gs_setX (ge_call (ga_cons (ge_var rfl) (ga_cons (ge_int (K := K)) ga_nil)) ⟨r, sv, sc, 5, law_row h, by decide, by decide, rfl, rfl, rfl⟩)) fun k hk => ?_
  refine gw_pre (Δ := lwG K r sv sc es sa R0 dk b.p b.f (some (Is K (.int k))) none none none none none) (J := LI K sa es R0 r sv dk st ds b.S b.p b.f b.prev b.fut) ?_ (Sub.refl _) (fun _ h => h)
  exact gw_ifs (gt_val (K := K) (ge_op (ge_var rfl) (ge_int (K := K)) gr_eqI)) (fun _ => gw_tA he hns hR h hst hz hi) (fun _ => gw_ifs (gt_val (K := K) (ge_op (ge_var rfl) (ge_int (K := K)) gr_eqI)) (fun _ => gw_tB he hns hR h hst hz hi) (fun _ => gw_tC he hns hR h hst hz hi))
end
end Hs
set_option Elab.async false
set_option linter.all false
set_option maxRecDepth 100000
set_option maxHeartbeats 4000000
/-! the law's last checks -/
namespace Hs
open PySem PySem.Spec PyProof.Rows L2 StX
abbrev tShow2 (K : PySem.W.Frag) : TT := tNot (tB (tCallR (spC (ct_law_shows K)) E0 (tCons (tVar 4) (tCons (tVar 10) (tCons (tOp rCat (tHist K) (tVar 12)) tNil)))))
section
variable {K : PySem.W.Frag} {r dk st ds sa : Addr} {sv : V} {sc : List Int} {es : List Ed} {ns : List Str} {R0 : Rows} {S : AS} {p f : Addr} {prev fut xs : List (Op × Scn)} {φs fs : List Fm} {R : VK} {N : L2.St → Hp → Prop} {u : TS} {i : Nat}
abbrev lwG2 (K : PySem.W.Frag) (r : Addr) (sv : V) (sc : List Int) (es : List Ed) (sa : Addr) (R0 : Rows) (dk p f : Addr) (prev xs : List (Op × Scn)) : Ctx := lwG K r sv sc es sa R0 dk p f none none (some (ScnF K sa es (lastS (lastS (sc0 R0) prev) xs))) none (some (ListD K ((xs.map Prod.fst).map Op.d))) (some (ListD K (duesS es (lastS (sc0 R0) prev) (xs.map Prod.fst))))
abbrev dm2 (R0 : Rows) (prev fut xs : List (Op × Scn)) : DM := ⟨lastS (lastS (sc0 R0) prev) xs, bef (sc0 R0) prev ++ bef (lastS (sc0 R0) prev) xs, if xs.isEmpty = true then fut else []⟩
variable (he : EsOk es ns) (hns : ∀ n ∈ ns, PyData.strOk n = true) (hR : RowsOk es ns R0) (h : LwS S r dk st ds p f) (hst : Steps es ns (sc0 R0) (prev ++ fut.reverse)) (hz : prev.length + fut.length ≤ 100) (hx : Steps es ns (lastS (sc0 R0) prev) xs) (hxl : xs.length ≤ 100)
include he hns hR h hst hz hx hxl
theorem gt_triedF : GT S (lwG2 K r sv sc es sa R0 dk p f prev xs) (LI K sa es R0 r sv dk st ds S p f prev fut) (tTest (tOp (rNeD K) (tTried K false) (tVar 13))) (fun c => false = c) (LI K sa es R0 r sv dk st ds S p f prev fut) :=
  GT.to (gt_val (K := K) (ge_op (ge_methD (F := LF K r sv dk st ds S p f (itsP K sa es (sc0 R0) prev) (itsF K sa es fut)) (φs := stF K sa es (dm (sc0 R0) prev fut)) (L := LI K sa es R0 r sv dk st ds S p f prev fut) (law_dk h) rfl (ge_var rfl) (ga_cons (ge_var rfl) (ga_cons (ge_bl (K := K)) ga_nil)) ⟨dk, st, ds, LF K r sv dk st ds S p f (itsP K sa es (sc0 R0) prev) (itsF K sa es fut), sa, es, ns, dm (sc0 R0) prev fut, xs.map Prod.fst, false, law_dk h, he, steps_ok he (sc0_ok hR) (steps_app.mp hst).1, steps_chain hx, by show (bef _ _).length + (xs.map _).length ≤ 900; rw [bef_len, List.length_map]; omega, rfl, rfl, rfl, rfl⟩) (ge_var rfl) (gr_neD (shaped_dues dues_lay) (shaped_dues dues_lay)))) (ne_dues dues_lay)
theorem gt_triedT : GT S (lwG2 K r sv sc es sa R0 dk p f prev xs) (LI K sa es R0 r sv dk st ds S p f prev fut) (tTest (tOp (rNeD K) (tTried K true) (tVar 13))) (fun c => false = c) (LF K r sv dk st ds S p f (itsP K sa es (sc0 R0) prev) (itsF K sa es fut) (stF K sa es (dm2 R0 prev fut xs))) :=
  GT.to (gt_val (K := K) (ge_op (ge_methD (F := LF K r sv dk st ds S p f (itsP K sa es (sc0 R0) prev) (itsF K sa es fut)) (φs := stF K sa es (dm (sc0 R0) prev fut)) (L := LF K r sv dk st ds S p f (itsP K sa es (sc0 R0) prev) (itsF K sa es fut) (stF K sa es (dm2 R0 prev fut xs))) (law_dk h) rfl (ge_var rfl) (ga_cons (ge_var rfl) (ga_cons (ge_bl (K := K)) ga_nil)) ⟨dk, st, ds, LF K r sv dk st ds S p f (itsP K sa es (sc0 R0) prev) (itsF K sa es fut), sa, es, ns, dm (sc0 R0) prev fut, xs.map Prod.fst, true, law_dk h, he, steps_ok he (sc0_ok hR) (steps_app.mp hst).1, steps_chain hx, by show (bef _ _).length + (xs.map _).length ≤ 900; rw [bef_len, List.length_map]; omega, rfl, by rw [if_pos rfl, goAll_steps (m := dm (sc0 R0) prev fut) hx], rfl, rfl⟩) (ge_var rfl) (gr_neD (shaped_dues dues_lay) (shaped_dues dues_lay)))) (ne_dues dues_lay)
theorem gt_reun : GT S (lwG2 K r sv sc es sa R0 dk p f prev xs) (LI K sa es R0 r sv dk st ds S p f prev fut) (tOr (tTest (tOp rNe (tRedo K) (tFut K))) (tAnd (tTest (tFut K)) (tTest (tOp rNotB (tUndo K) (tC (V.bl true)))))) (fun c => false = c) (LI K sa es R0 r sv dk st ds S p f prev fut) := by
  rcases List.eq_nil_or_concat fut with rfl | ⟨us, q, rfl⟩
  · exact gt_orF (GT.to (gt_val (K := K) (ge_op (ge_methD (F := LF K r sv dk st ds S p f (itsP K sa es (sc0 R0) prev) (itsF K sa es [])) (φs := stF K sa es (dm (sc0 R0) prev [])) (L := LI K sa es R0 r sv dk st ds S p f prev []) (law_dk h) rfl (ge_var rfl) ga_nil ⟨dk, st, ds, LF K r sv dk st ds S p f (itsP K sa es (sc0 R0) prev) (itsF K sa es []), sa, es, dm (sc0 R0) prev [], law_dk h, by show (bef _ _).length ≤ 900; rw [bef_len]; omega, by show 0 ≤ 900; omega, rfl, rfl, rfl, rfl⟩) (futE (b := false) h rfl) gr_neB)) rfl) (gt_andF (GT.to (gt_val (K := K) (futE (b := false) h rfl)) rfl))
  · rw [List.concat_eq_append] at hst hz ⊢
    rw [List.length_append] at hz
    have hz : prev.length + (us.length + 1) ≤ 100 := hz
    refine gt_orF (J := LF K r sv dk st ds S p f (itsP K sa es (sc0 R0) prev) (itsF K sa es (us ++ [q])) (stF K sa es (dm (sc0 R0) (prev ++ [q]) us))) (GT.to (gt_val (K := K) (ge_op (ge_methD (F := LF K r sv dk st ds S p f (itsP K sa es (sc0 R0) prev) (itsF K sa es (us ++ [q]))) (φs := stF K sa es (dm (sc0 R0) prev (us ++ [q]))) (χ := Is K (.bool true)) (law_dk h) rfl (ge_var rfl) ga_nil ⟨dk, st, ds, LF K r sv dk st ds S p f (itsP K sa es (sc0 R0) prev) (itsF K sa es (us ++ [q])), sa, es, dm (sc0 R0) prev (us ++ [q]), law_dk h, by show (bef _ _).length ≤ 900; rw [bef_len]; omega, by show (us ++ [q]).length ≤ 900; rw [List.length_append]; show us.length + 1 ≤ 900; omega, rfl, by rw [redo_dm], rfl, by show _ = Is K (.bool (!(us ++ [q]).isEmpty)); rw [fut_emp]⟩) (futE h itsF_emp) gr_neB)) ne_same) ?_
    refine gt_andT (GT.to (gt_val (K := K) (futE h itsF_emp)) rfl) (GT.to (gt_val (K := K) (ge_op (ge_methD (F := LF K r sv dk st ds S p f (itsP K sa es (sc0 R0) prev) (itsF K sa es (us ++ [q]))) (φs := stF K sa es (dm (sc0 R0) (prev ++ [q]) us)) (L := LI K sa es R0 r sv dk st ds S p f prev (us ++ [q])) (χ := Is K (.bool true)) (law_dk h) rfl (ge_var rfl) ga_nil ⟨dk, st, ds, LF K r sv dk st ds S p f (itsP K sa es (sc0 R0) prev) (itsF K sa es (us ++ [q])), sa, es, dm (sc0 R0) (prev ++ [q]) us, law_dk h, by show (bef _ _).length ≤ 900; rw [bef_len, List.length_append]; show prev.length + 1 ≤ 900; omega, by show us.length ≤ 900; omega, rfl, by rw [undo_dm], rfl, by show _ = Is K (.bool (!(bef (sc0 R0) (prev ++ [q])).isEmpty)); rw [bef_emp]⟩) (ge_bl (K := K)) gr_notB)) rfl)
theorem dm2_past : (dm2 R0 prev fut xs).past = bef (sc0 R0) (prev ++ xs) := bef_app.symm
theorem steps2 : Steps es ns (sc0 R0) (prev ++ xs) := steps_app.mpr ⟨(steps_app.mp hst).1, hx⟩
theorem gt_show2 : GT S (lwG2 K r sv sc es sa R0 dk p f prev xs) (LF K r sv dk st ds S p f (itsP K sa es (sc0 R0) prev) (itsF K sa es fut) (stF K sa es (dm2 R0 prev fut xs))) (tShow2 K) (fun c => false = c) (LF K r sv dk st ds S p f (itsP K sa es (sc0 R0) prev) (itsF K sa es fut) (stF K sa es (dm2 R0 prev fut xs))) := by
  have hs2 := steps2 he hns hR h hst hz hx hxl
  have hp := dm2_past he hns hR h hst hz hx hxl
  have hh : GE S (lwG2 K r sv sc es sa R0 dk p f prev xs) (LF K r sv dk st ds S p f (itsP K sa es (sc0 R0) prev) (itsF K sa es fut) (stF K sa es (dm2 R0 prev fut xs))) (tOp rCat (tHist K) (tVar 12)) (ListD K ((prev.map fun q => q.1.d) ++ (xs.map Prod.fst).map Op.d)) (LF K r sv dk st ds S p f (itsP K sa es (sc0 R0) prev) (itsF K sa es fut) (stF K sa es (dm2 R0 prev fut xs))) :=
    ge_op (ge_hist (by omega)) (ge_var rfl) (gr_cat (by rw [List.length_map, List.length_map, List.length_map]; omega))
  have e : (prev.map fun q => q.1.d) ++ (xs.map Prod.fst).map Op.d = (dm2 R0 prev fut xs).past.map fun q => q.1.d := by
    rw [hp, bef_d, List.map_append, List.map_map]
    rfl
  rw [e] at hh
  exact gt_notB (b := true) (gt_valB (K := K) (b := true) (ge_call (ga_cons (ge_var rfl) (ga_cons (ge_var rfl) (ga_cons hh ga_nil))) ⟨dk, st, ds, LF K r sv dk st ds S p f (itsP K sa es (sc0 R0) prev) (itsF K sa es fut), sa, es, ns, dm2 R0 prev fut xs, law_dk h, he, steps_ok he (steps_ok he (sc0_ok hR) (steps_app.mp hst).1) hx, by rw [hp, bef_len, List.length_append]; omega, by rw [hp]; exact bef_lay hns hs2, rfl, rfl, rfl, rfl⟩))
theorem gw_tail : GW S (lwG2 K r sv sc es sa R0 dk p f prev xs) (LI K sa es R0 r sv dk st ds S p f prev fut) (tTail K) (fun v _ => v = .bl true) N := by
  have hs2 := steps2 he hns hR h hst hz hx hxl
  have hp := dm2_past he hns hR h hst hz hx hxl
  have ef : (dm2 R0 prev fut xs).past.map Prod.fst = (prev ++ xs).map Prod.fst := by rw [hp, bef_fst]
  refine gw_chk (gt_triedF he hns hR h hst hz hx hxl) (gw_chk (gt_shows he hns hR h (steps_app.mp hst).1 (by omega)) (gw_chk (gt_reun he hns hR h hst hz hx hxl) (gw_chk (gt_triedT he hns hR h hst hz hx hxl) (gw_chk (gt_show2 he hns hR h hst hz hx hxl) (gw_final h he hR (steps_ok he (steps_ok he (sc0_ok hR) (steps_app.mp hst).1) hx) (by rw [hp, bef_len, List.length_append]; omega) (by rw [hp]; exact bef_lay hns hs2) (by rw [ef]; exact steps_chain hs2) ?_ rfl rfl rfl)))))
  rw [ef, goAll_steps (m := dm0 R0) hs2, hp]
  show (⟨lastS (sc0 R0) (prev ++ xs), [] ++ bef (sc0 R0) (prev ++ xs), if (prev ++ xs).isEmpty = true then [] else []⟩ : DM) = _
  rw [lastS_app, List.nil_append, ite_self]
end
end Hs
set_option Elab.async false
set_option linter.all false
set_option maxRecDepth 100000
set_option maxHeartbeats 4000000
/-! the law, whole -/
namespace Hs
open PySem PySem.Spec PyProof.Rows L2 StX
abbrev tSys (K : PySem.W.Frag) : TE := tMakeR (C_System K) (spIn (C_System K) (ci_System K)) E0 (tCons (tCallR (spC (ct_law_store K)) E0 (tCons (tVar 2) tNil)) (tCons (tCallR (spC (ct_law_states K)) E0 (tCons (tVar 1) (tCons (tVar 2) tNil))) tNil))
abbrev tLaw (K : PySem.W.Frag) : TS :=
  tSeq (tAsg (tLst (tCons (tVar 0) (tCons (tC (V.int 0)) (tCons (tC (V.int 0)) (tCons (tC (V.int 0)) tNil))))) (gName 1))
  (tSeq (tAsg (tCallR (spC (ct_law_editions K)) E0 (tCons (tVar 1) (tCons (tC (V.int 2)) (tCons (tC (V.int 2)) tNil)))) (gName 2))
  (tSeq (tAsg (tSys K) (gName 3))
  (tSeq (tPar3 4 5 6 (tCons (tMakeR (C_Desk K) (spDesk K) E0 (tCons (tVar 3) tNil)) (tCons (tLst (tCons (tTup (tCons (tTup (tCons (tVar 3) (tCons (tC (V.int 0)) (tCons tDNewK tNil)))) (tCons (tC V.non) tNil))) tNil)) (tCons (tLst tNil) tNil))))
  (tSeq (tFor (iRng1 (tCons (tCallR (spC (ct_taken K)) E0 (tCons (tVar 1) (tCons (tC (V.int 41)) tNil))) tNil)) (gName 7) (tTurn K))
  (tPhase2 K)))))
section
variable {K : PySem.W.Frag} {r dk st ds sa : Addr} {sv : V} {sc : List Int} {es : List Ed} {ns : List Str} {R0 : Rows} {S : AS} {p f : Addr} {prev fut xs : List (Op × Scn)} {R : VK} {N : L2.St → Hp → Prop} {u : TS} {i : Nat}
section
variable (he : EsOk es ns) (hns : ∀ n ∈ ns, PyData.strOk n = true) (hR : RowsOk es ns R0)
include he hns hR
theorem gw_body2 (h : LwS S r dk st ds p f) (hst : Steps es ns (sc0 R0) prev) (hx : Steps es ns (lastS (sc0 R0) prev) xs) (hl : xs.length ≤ i) (hi : i ≤ 20) :
    GW S (lwG2 K r sv sc es sa R0 dk p f prev xs) (LI K sa es R0 r sv dk st ds S p f prev fut) (tBody2 K) R (fun σ H => ∃ ys, (Steps es ns (lastS (sc0 R0) prev) ys ∧ ys.length ≤ i + 1) ∧ En S (lwG2 K r sv sc es sa R0 dk p f prev ys) (LI K sa es R0 r sv dk st ds S p f prev fut) σ H) := by
  have hnow := steps_ok he (steps_ok he (sc0_ok hR) hst) hx
  refine gw_seqX (gs_asgX (ge_call (ga_cons (ge_var rfl) (ga_cons (ge_var rfl) (ga_cons (ge_var rfl) ga_nil))) ⟨r, sv, sc, sa, es, ns, lastS (lastS (sc0 R0) prev) xs, law_row h, he, hns, hnow, rfl, rfl, rfl⟩) fun op hop => gg_tup (gg_cons gg_name (gg_cons gg_name (gg_cons gg_name gg_nil))) rfl) fun op hop => ?_
  refine gw_pre (Δ := lwG K r sv sc es sa R0 dk p f none (some (Is K op.d)) (some (ScnF K sa es (execS es (lastS (lastS (sc0 R0) prev) xs) op))) (some (Is K (dueS es (lastS (lastS (sc0 R0) prev) xs) op))) (some (ListD K ((xs.map Prod.fst).map Op.d))) (some (ListD K (duesS es (lastS (sc0 R0) prev) (xs.map Prod.fst))))) (J := LI K sa es R0 r sv dk st ds S p f prev fut) ?_ (Sub.refl _) (fun _ h => h)
  have hg : Steps es ns (lastS (sc0 R0) prev) (xs ++ [(op, execS es (lastS (lastS (sc0 R0) prev) xs) op)]) := steps_app.mpr ⟨hx, hop, rfl, trivial⟩
  refine gw_of ((gs_par (ga_cons (ge_op (ge_var rfl) (ge_lstD (K := K) (ga_cons (ge_var rfl) ga_nil) (.cons .nil) (by show 1 ≤ 1000; decide)) (gr_cat (by rw [List.length_map, List.length_map]; show xs.length + 1 ≤ 100000; omega))) (ga_cons (ge_op (ge_var rfl) (ge_lstD (K := K) (ga_cons (ge_var rfl) ga_nil) (.cons .nil) (by show 1 ≤ 1000; decide)) (gr_cat (by rw [dues_len, List.length_map]; show xs.length + 1 ≤ 100000; omega))) ga_nil))).wk fun σ H ⟨e, j⟩ => ⟨_, ⟨hg, by rw [List.length_append]; show xs.length + 1 ≤ i + 1; omega⟩, ?_, j⟩)
  have e1 : ((xs ++ [(op, execS es (lastS (lastS (sc0 R0) prev) xs) op)]).map Prod.fst).map Op.d = (xs.map Prod.fst).map Op.d ++ [op.d] := by
    rw [List.map_append, List.map_append]
    rfl
  unfold lwG2
  rw [e1, dues_cat hx, lastS_app]
  exact e.sub (.s (.s (.s (.s (.s (.s (.s (.s (.s (.n (.s (.n (.s (.s (.s .nil)))))))))))))))
theorem gw_phase2 (b : Gh) (hb : Gd es ns R0 r dk st ds i b) (hi : i ≤ 100) : GW b.S (lwG K r sv sc es sa R0 dk b.p b.f none none none none none none) (LI K sa es R0 r sv dk st ds b.S b.p b.f b.prev b.fut) (tPhase2 K) (fun v _ => v = .bl true) N := by
  obtain ⟨h, hst, hz⟩ := hb
  have hp := (steps_app.mp hst).1
  refine gw_seq (gs_par3 (ga_cons (ge_lstD (K := K) ga_nil .nil (by show 0 ≤ 1000; decide)) (ga_cons ge_last0 (ga_cons (ge_lstD (K := K) ga_nil .nil (by show 0 ≤ 1000; decide)) ga_nil)))) ?_
  refine gw_pre (Δ := lwG2 K r sv sc es sa R0 dk b.p b.f b.prev []) (J := LI K sa es R0 r sv dk st ds b.S b.p b.f b.prev b.fut) ?_ (Sub.refl _) (fun _ h => h)
  refine gw_exI (fun t => tSeq (tFor (iRng1 (tCons t tNil)) (gName 7) (tBody2 K)) (tTail K)) (fun _ _ _ _ => rfl) (ge_call (ga_cons (ge_var rfl) (ga_cons (ge_int (K := K)) ga_nil)) ⟨r, sv, sc, 8, law_row h, by decide, by decide, rfl, rfl, rfl⟩) fun n hn => ?_
  obtain ⟨m, rfl⟩ := Int.eq_ofNat_of_zero_le hn.1
  have hm : m < 8 := by omega
  exact gw_range (K := K) m (by omega) (fun _ : List (Op × Scn) => b.S) (fun xs => lwG2 K r sv sc es sa R0 dk b.p b.f b.prev xs) (fun _ => LI K sa es R0 r sv dk st ds b.S b.p b.f b.prev b.fut) (fun i xs => Steps es ns (lastS (sc0 R0) b.prev) xs ∧ xs.length ≤ i) [] ⟨trivial, Nat.le_refl _⟩
    (fun j xs hj hg => ⟨_, _, gg_name, gw_pre (gw_body2 he hns hR h hp hg.1 hg.2 (by omega)) (.s (.s (.s (.s (.s (.s (.s (.n (.s (.s (.s (.s (.s (.s (.s .nil))))))))))))))) (fun _ h => h)⟩)
    fun xs hg => gw_tail he hns hR h hst (by omega) hg.1 (by omega)
theorem gw_loops (b : Gh) (hb : Gd es ns R0 r dk st ds 0 b) : GW b.S (lwG K r sv sc es sa R0 dk b.p b.f none none none none none none) (LI K sa es R0 r sv dk st ds b.S b.p b.f b.prev b.fut) (tSeq (tFor (iRng1 (tCons (tCallR (spC (ct_taken K)) E0 (tCons (tVar 1) (tCons (tC (V.int 41)) tNil))) tNil)) (gName 7) (tTurn K)) (tPhase2 K)) (fun v _ => v = .bl true) N := by
  refine gw_exI (fun t => tSeq (tFor (iRng1 (tCons t tNil)) (gName 7) (tTurn K)) (tPhase2 K)) (fun _ _ _ _ => rfl) (ge_call (ga_cons (ge_var rfl) (ga_cons (ge_int (K := K)) ga_nil)) ⟨r, sv, sc, 41, law_row hb.1, by decide, by decide, rfl, rfl, rfl⟩) fun n hn => ?_
  obtain ⟨m, rfl⟩ := Int.eq_ofNat_of_zero_le hn.1
  have hm : m < 41 := by omega
  exact gw_range (K := K) m (by omega) (fun b : Gh => b.S) (fun b => lwG K r sv sc es sa R0 dk b.p b.f none none none none none none) (fun b => LI K sa es R0 r sv dk st ds b.S b.p b.f b.prev b.fut) (fun i b => Gd es ns R0 r dk st ds i b) b hb
    (fun j b hj hg => ⟨_, _, gg_name, gw_pre (gw_turn he hns hR b hg (by omega)) (.s (.s (.s (.s (.s (.s (.s (.n (.s (.s (.s (.s (.s (.s (.s .nil))))))))))))))) (fun _ h => h)⟩)
    fun b hg => gw_phase2 he hns hR b hg (by omega)
end
/-- System(store, states) -/
theorem ge_sys {I : IV S} {Γ : Ctx} (he : EsOk es ns) (hk : ∀ e ∈ es, EdOk e) (hI : RowI r sv I) (g1 : Γ[1]? = some (some (RowV K r sv sc))) (g2 : Γ[2]? = some (some (Is K (edsD es)))) : GE S Γ I (tSys K) (Exs (fun a : Addr × Rows => RowsOk es ns a.2) fun a => Sys K a.1 es a.2) I := by
  refine ge_makeX (fs := fun a : Addr × Rows => [("base", Sto K a.1 es), ("rows", Dct (rowsF K a.2))]) (ga_cons (ge_call (ga_cons (ge_var g2) ga_nil) ⟨es, ns, he, hk, rfl, rfl, rfl⟩) (ga_cons (ge_call (ga_cons (ge_var g1) (ga_cons (ge_var g2) ga_nil)) ⟨r, sv, sc, es, ns, hI, he, rfl, rfl, rfl⟩) ga_nil)) fun vs H hi p => ?_
  obtain ⟨v1, _, rfl, ⟨sa, _, p1⟩, v2, _, rfl, ⟨R, hR, p2⟩, rfl⟩ := p
  refine ⟨(sa, R), hR, [Sto K sa es, Dct (rowsF K R)], ⟨sa, es, ns, R, he, hR.nd he, Nat.le_trans (hR.few he) (by decide), fun q hq => ⟨by have := List.mem_map_of_mem (f := Prod.fst) hq; rw [hR.keys] at this; exact this, hR.ok q hq⟩, rfl, ?_⟩, v1, _, rfl, p1, v2, _, rfl, p2, rfl⟩
  rw [rows_norm he hR]
abbrev NLaw : List Str := ["_law_script", "_law_row", "_law_some_here", "_law_system", "_law_desk", "_law_past", "_law_future", "_law_turn", "_law_sort_of", "_law_operation", "_law_scene", "_law_due", "_law_operations", "_law_told", "_law_one"]
/-- the law: True -/
theorem law_reads {a : Addr} {H : Hp} (hs : ScrL (fun _ => False) K H a (sc.map V.int)) (D : Ends) (hD : ∀ H', D.rt (.bl true) H') : tLaw K D (L2.start NLaw [.ref a]) H := by
  have key : GW (fun _ => False) (ctx0 15 [ScrF K sc]) IV.none0 (tLaw K) (fun v _ => v = .bl true) (fun _ _ => False) := by
    refine gw_row (sc := sc) rfl fun r sv => ?_
    refine gw_seqX (gs_setX (ge_call (ga_cons (ge_var rfl) (ga_cons (ge_int (K := K)) (ga_cons (ge_int (K := K)) ga_nil))) ⟨r, sv, sc, row_rowI, rfl, rfl, rfl⟩)) fun es hes => ?_
    obtain ⟨ns, he, hn, hk⟩ := hes
    refine gw_seqX (gs_setX (ge_sys (K := K) (r := r) (sv := sv) (sc := sc) he hk row_rowI rfl rfl)) fun x hx => ?_
    refine gw_desk (sa := x.1) (es := es) (R0 := x.2) rfl fun S' dk st ds p f h => ?_
    exact gw_pre (gw_loops he (fun n hm => (hn.ok n hm).2.2) hx ⟨S', p, f, [], []⟩ ⟨h, trivial, Nat.le_refl _⟩) (.n (.s (.s (.s (.s (.s (.s (.s (.s (.s (.s (.s (.s (.s (.s .nil))))))))))))))) (fun _ h => h)
  refine key (L2.start NLaw [.ref a]) H (Env.start (φs := [ScrF K sc]) NLaw ⟨_, [], rfl, ⟨a, rfl, hs⟩, rfl⟩) trivial D (fun v H' e => ?_) fun _ _ z => z.elim
  rw [e]
  exact hD H'
end
end Hs
set_option Elab.async false
set_option linter.all false
set_option maxRecDepth 100000
set_option maxHeartbeats 4000000
namespace Hs
open PySem PySem.Spec PyProof.Rows L2 StX
section
variable {P : Program} {w : World} {K : PySem.W.Frag} {mg : Str → Option Value} {base : Heap}
abbrev N_law_some : List Str := ["_law_row", "_law_names_here", "_law_name"]
theorem sc_law_some : FnScope N_law_some ["_law_row", "_law_names_here"] (defScope s_law_some) := ⟨rfl, rfl, rfl, by decide +kernel, rfl, by decide +kernel, by decide +kernel⟩
theorem ok_law_some (T : Tx K mg) : FnR P w K mg base CX0 2 (a_law_some K) (spC (ct_law_some K)) := by
  obtain ⟨fd, F⟩ := T.f_law_some
  have nd := sc_law_some.nd
  refine ok_of (He5.fun_of F) sc_law_some (F.bindsN fun _ _ _ _ _ _ us hl => match us, hl with | [_, _], _ => rfl) ?_ fun cdv A outer s H E hr => have hu := hu_of hr; have hu0 := hr.units0; ⟨_, (pss_one (ps_ret (pe_callTy call_tuple_of (by rfl) T.n_tuple (by decide +kernel) (pa_cons (pe_lc (own := [("_law_name", 2)]) (g := gName 2) (tt := _) rfl nd (pi_listK K (pe_callB (cr_sortSq rfl) (by rfl) T.n_sorted (by decide +kernel) (pa_cons (pv 1) pa_nil))) (blkOk_by (own := [("_law_name", 2)]) (N := N_law_some) (sc := defScope s_law_some) (by decide +kernel)) (fun _ _ _ _ _ => pg_name (i := 2) nd rfl (Or.inl rfl)) (fun _ _ _ _ _ => pts_one (pt_cmpR op_eq (pe_callR (ok_taken T) (hr.mono (by decide)) rfl T.g__law_taken T.k__law_taken pass0 (pa_cons (pv 0) (pa_cons pe_int pa_nil))) pe_int (nomark _))) (fun _ _ _ _ _ => (pv 2))) pa_nil)))), ?_⟩
  · rintro S ⟨I, J, ins, out⟩ ⟨r, sv, sc, xs, hI, ha, hz, h1, h2, h3⟩
    dsimp only at h2 ⊢
    subst h2
    rfl
  · rintro S ⟨I, J, ins, out⟩ ⟨r, sv, sc, xs, hI, ha, hz, h1, h2, h3⟩
    dsimp only at h1 h2 h3
    subst h1 h2 h3
    refine gs_retF ((ge_cb (ga_cons (ge_lcX (K := K) xs (fun x => Is K (.str x)) (fun x d => d = .str x) (gi_listM (ge_cb (ga_cons (ge_var rfl) ga_nil) (gc_sortT hz ha))) (by omega) fun x S' I' ext hx => ⟨_, _, (fun _ h => h), gg_name, _, gt_someEq (ge_call (ga_cons (ge_var rfl) (ga_cons (ge_int (K := K)) ga_nil)) ⟨r, sv, sc, 2, hI.ext ext, by decide, by decide, rfl, rfl, rfl⟩), fun _ => (ge_var rfl).wk fun v H _ p => ⟨_, rfl, p⟩⟩) ga_nil) (gc_tupleLX)).wk fun v H _ ⟨ds, hp, p⟩ => ?_)
    obtain ⟨ts, h1, rfl⟩ := picks_self hp
    exact ⟨ts, h1, p⟩
    all_goals skip
-- slots: 0=_law_row 1=_law_names_here 2=_law_name  uses: ['_law_taken']

end
end Hs
set_option Elab.async false
set_option linter.all false
set_option maxRecDepth 100000
set_option maxHeartbeats 4000000
namespace Hs
open PySem PySem.Spec PyProof.Rows L2 StX
section
variable {P : Program} {w : World} {K : PySem.W.Frag} {mg : Str → Option Value} {base : Heap}
abbrev N_law_editions : List Str := ["_law_row", "_law_many", "_law_most", "_law_names_here", "_law_found", "_law_name", "_law_others", "_law_version", "_law_has", "_law_wants", "_law_asks", "_law_shuns", "_law_other", "_law_k"]
theorem sc_law_editions : FnScope N_law_editions ["_law_row", "_law_many", "_law_most"] (defScope s_law_editions) := ⟨rfl, rfl, rfl, by decide +kernel, rfl, by decide +kernel, by decide +kernel⟩
theorem ok_law_editions (T : Tx K mg) : FnR P w K mg base CX0 3 (a_law_editions K) (spC (ct_law_editions K)) := by
  obtain ⟨fd, F⟩ := T.f_law_editions
  have nd := sc_law_editions.nd
  refine ok_of (He5.fun_of F) sc_law_editions (F.bindsN fun _ _ _ _ _ _ us hl => match us, hl with | [_, _, _], _ => rfl) ?_ fun cdv A outer s H E hr => have hu := hu_of hr; have hu0 := hr.units0; ⟨_, (pss_cons (ps_par (by rfl) nd (i := 3) (j := 4) rfl rfl (by decide) rfl rfl (pa_cons (pe_slice (sl_listK K) (pe_lst (pa_cons pe_str (pa_cons pe_str (pa_cons pe_str pa_nil)))) po_none (po_some (pe_op op_add pe_int (pe_callR (ok_taken T) (hr.mono (by decide)) rfl T.g__law_taken T.k__law_taken pass0 (pa_cons (pv 0) (pa_cons (pv 1) pa_nil)))))) (pa_cons (pe_lst pa_nil) pa_nil)) (by rfl))
    (pss_cons (ps_for PassesOwn.never rfl (pi_listK K (pv 3)) (pg_name (i := 5) nd rfl (.inr rfl))
    (pss_cons (ps_setLc (i := 6) (own := [("_law_other", 12)]) (g := gName 12) (tt := _) rfl nd rfl rfl (sw_true rfl rfl rfl (by decide +kernel)) (pi_listK K (pv 3)) (blkOk_by (own := [("_law_other", 12)]) (N := N_law_editions) (sc := defScope s_law_editions) (by decide +kernel)) (fun _ _ _ _ _ => pg_name (i := 12) nd rfl (Or.inl rfl)) (fun _ _ _ _ _ => pts_one (pt_cmpR op_ne (pv 12) (pv 5) (nomark _))) (fun _ _ _ _ _ => (pv 12)))
    (pss_one (ps_for PassesOwn.never rfl (pi_listK K (pe_callB (cr_sortedSet rfl) (by rfl) T.n_sorted (by decide +kernel) (pa_cons (pe_callTy (cr_setLI rfl) (by rfl) T.n_set (by decide +kernel) (pa_cons (pe_lc (own := [("_law_k", 13)]) (g := gName 13) (tt := tYes) rfl nd (pi_range1 rfl T.n_range (pa_cons (pe_op op_add pe_int (pe_callR (ok_taken T) (hr.mono (by decide)) rfl T.g__law_taken T.k__law_taken pass0 (pa_cons (pv 0) (pa_cons (pv 2) pa_nil)))) pa_nil)) (blkOk_by (own := [("_law_k", 13)]) (N := N_law_editions) (sc := defScope s_law_editions) (by decide +kernel)) (fun _ _ _ _ _ => pg_name (i := 13) nd rfl (Or.inl rfl)) (fun _ _ _ _ _ => pts_nil) (fun _ _ _ _ _ => (pe_op op_add pe_int (pe_callR (ok_taken T) (hr.mono (by decide)) rfl T.g__law_taken T.k__law_taken pass0 (pa_cons (pv 0) (pa_cons pe_int pa_nil)))))) pa_nil)) pa_nil))) (pg_name (i := 7) nd rfl (.inl rfl))
    (pss_cons (ps_set (i := 8) nd rfl (.inl rfl) (pe_tup (pa_cons pe_str (pa_cons pe_str (pa_cons pe_str (pa_cons pe_str pa_nil))))))
    (pss_cons (ps_if (pt_cmpR op_eq (pe_callR (ok_taken T) (hr.mono (by decide)) rfl T.g__law_taken T.k__law_taken pass0 (pa_cons (pv 0) (pa_cons pe_int pa_nil))) pe_int (nomark _)) (pss_one (ps_set (i := 8) nd rfl (.inl rfl) (pe_callR (ok_law_some T) (hr.mono (by decide)) rfl T.g__law_some T.k__law_some pass0 (pa_cons (pv 0) (pa_cons (pv 8) pa_nil))))) pss_nil)
    (pss_cons (ps_set (i := 9) nd rfl (.inl rfl) (pe_callTy call_tuple_of (by rfl) T.n_tuple (by decide +kernel) (pa_cons (pe_lc (own := [("_law_other", 12)]) (g := gName 12) (tt := _) rfl nd (pi_listK K (pv 6)) (blkOk_by (own := [("_law_other", 12)]) (N := N_law_editions) (sc := defScope s_law_editions) (by decide +kernel)) (fun _ _ _ _ _ => pg_name (i := 12) nd rfl (Or.inl rfl)) (fun _ _ _ _ _ => pts_one (pt_cmpR op_eq (pe_callR (ok_taken T) (hr.mono (by decide)) rfl T.g__law_taken T.k__law_taken pass0 (pa_cons (pv 0) (pa_cons pe_int pa_nil))) pe_int (nomark _))) (fun _ _ _ _ _ => (pe_tup (pa_cons (pv 12) (pa_cons (pe_op op_add pe_int (pe_callR (ok_taken T) (hr.mono (by decide)) rfl T.g__law_taken T.k__law_taken pass0 (pa_cons (pv 0) (pa_cons pe_int pa_nil)))) pa_nil))))) pa_nil)))
    (pss_cons (ps_set (i := 10) nd rfl (.inl rfl) (pe_callTy call_tuple_of (by rfl) T.n_tuple (by decide +kernel) (pa_cons (pe_lc (own := [("_law_other", 12)]) (g := gName 12) (tt := _) rfl nd (pi_listK K (pv 6)) (blkOk_by (own := [("_law_other", 12)]) (N := N_law_editions) (sc := defScope s_law_editions) (by decide +kernel)) (fun _ _ _ _ _ => pg_name (i := 12) nd rfl (Or.inl rfl)) (fun _ _ _ _ _ => pts_one (pt_cmpR op_eq (pe_callR (ok_taken T) (hr.mono (by decide)) rfl T.g__law_taken T.k__law_taken pass0 (pa_cons (pv 0) (pa_cons pe_int pa_nil))) pe_int (nomark _))) (fun _ _ _ _ _ => (pe_tup (pa_cons (pv 12) (pa_cons (pe_op op_add pe_int (pe_callR (ok_taken T) (hr.mono (by decide)) rfl T.g__law_taken T.k__law_taken pass0 (pa_cons (pv 0) (pa_cons pe_int pa_nil)))) pa_nil))))) pa_nil)))
    (pss_cons (ps_set (i := 11) nd rfl (.inl rfl) (pe_callTy call_tuple_of (by rfl) T.n_tuple (by decide +kernel) (pa_cons (pe_lc (own := [("_law_other", 12)]) (g := gName 12) (tt := _) rfl nd (pi_listK K (pv 6)) (blkOk_by (own := [("_law_other", 12)]) (N := N_law_editions) (sc := defScope s_law_editions) (by decide +kernel)) (fun _ _ _ _ _ => pg_name (i := 12) nd rfl (Or.inl rfl)) (fun _ _ _ _ _ => pts_one (pt_cmpR op_eq (pe_callR (ok_taken T) (hr.mono (by decide)) rfl T.g__law_taken T.k__law_taken pass0 (pa_cons (pv 0) (pa_cons pe_int pa_nil))) pe_int (nomark _))) (fun _ _ _ _ _ => (pv 12))) pa_nil)))
    (pss_one (ps_expr (pe_bm PySem.F.plainAttrs_list PySem.F.slot_list_append PySem.F.type_list_append mt_append (pv 4) (pa_cons (pe_tup (pa_cons (pv 5) (pa_cons (pv 7) (pa_cons (pv 8) (pa_cons (pv 9) (pa_cons (pv 10) (pa_cons (pv 11) pa_nil))))))) pa_nil)))))))))))))
    (pss_one (ps_ret (pv 4))))), ?_⟩
  · rintro S ⟨I, J, ins, out⟩ ⟨r, sv, sc, hI, h1, h2, h3⟩
    dsimp only at h2 ⊢
    subst h2
    rfl
  · rintro S ⟨I, J, ins, out⟩ ⟨r, sv, sc, hI, h1, h2, h3⟩
    dsimp only at h1 h2 h3
    subst h1 h2 h3
    refine gs_parAccX (P := fun m : Int => 1 ≤ m ∧ m ≤ 2) (φ := fun m => Is K (.list (cutF [.str "db", .str "lib", .str "web"] none (some m)))) (ge_slLX (ge_lstD (K := K) (ga_cons (ge_str (K := K)) (ga_cons (ge_str (K := K)) (ga_cons (ge_str (K := K)) ga_nil))) (.cons (.cons (.cons .nil))) (by show 3 ≤ 1000; decide)) (ge_1p (ge_call (ga_cons (ge_var rfl) (ga_cons (ge_var rfl) ga_nil)) ⟨r, sv, sc, 2, hI, by decide, by decide, rfl, rfl, rfl⟩))) fun m hm p np => ?_
    obtain ⟨ns, hns, e0⟩ := names_cut hm
    rw [e0]
    have hI1 : ∀ fs, RowI r sv (J.acc p fs) := fun fs => hI.ext (acc_ext np)
    have hf := hns.few
    refine gs_forS (fun b : List Ed => [some (RowV K r sv sc), some (Is K (.int 2)), some (Is K (.int 2)), some (Is K (.list (ns.map .str))), some (Eqv (.ref p)), none, none, none, none, none, none, none, none, none]) (fun b => J.acc p (b.map fun e => Is K (edD e))) (fun i b => EsPre b (ns.take i) ∧ b.length ≤ 2 * i) [] (gi_listM (f := PyData.str) (ge_var rfl)) ⟨⟨(fun e he => nomatch he), List.nodup_nil, (fun n hn => nomatch hn), (fun e he => nomatch he)⟩, Nat.le_refl _⟩ (.s (.s (.s (.s (.s (.s (.s (.s (.s (.s (.s (.s (.s (.s .nil)))))))))))))) (fun _ h => h) (fun i ψ b hψ hb => ?_) fun b hb => ?_
    · rw [List.getElem?_map] at hψ
      cases hx : ns[i]? with
      | none => rw [hx] at hψ; cases hψ
      | some x =>
        rw [hx] at hψ
        cases hψ
        obtain ⟨g1, g2⟩ := hb
        have hi : i < ns.length := (List.getElem?_eq_some_iff.mp hx).1
        have hxn : x ∈ ns := List.mem_of_getElem? hx
        have e1 : ns.take (i + 1) = ns.take i ++ [x] := by rw [List.take_succ_eq_append_getElem hi, (List.getElem?_eq_some_iff.mp hx).2]
        have hnx : x ∉ ns.take i := fun z => by
          have := hns.asc.nodup.sublist (List.take_sublist (i + 1) ns)
          rw [e1, List.nodup_append] at this
          exact this.2.2 x z x (List.mem_singleton.mpr rfl) rfl
        have oz : (ns.filter fun y => !decide (y = x)).length ≤ 1000 := Nat.le_trans (List.length_filter_le _ _) (by omega)
        obtain ⟨w1, w2, w3⟩ := hns.ok x hxn
        refine ⟨_, _, gg_name, ?_⟩
        refine gs_seq (gs_set (ge_lcD (K := K) ns (fun y => Is K (.str y)) (fun y => !decide (y = x)) PyData.str (gi_listM (ge_var rfl)) (by omega) fun y S' I' ext hy => ⟨_, _, (fun _ h => h), gg_name, gt_val (K := K) (ge_op (ge_var rfl) (ge_var rfl) gr_neS), fun _ => ge_var rfl⟩)) ?_
        refine gs_forX1 (P := VsOk) (φ := fun vs => Is K (.list (vs.map .int))) (fun vs => vs.map fun v => Is K (.int v)) ?_ (fun vs v H _ p => ?_) (fun (_ : List Int) (_ : List Ed) => [some (RowV K r sv sc), some (Is K (.int 2)), some (Is K (.int 2)), some (Is K (.list (ns.map .str))), some (Eqv (.ref p)), some (Is K (.str x)), some (Is K (.list ((ns.filter fun y => !decide (y = x)).map .str))), none, none, none, none, none, none, none]) (fun _ c => J.acc p (c.map fun e => Is K (edD e))) (fun vs j c => ∃ d : List Ed, c = b ++ d ∧ d.map (fun e => e.ver) = vs.take j ∧ ∀ e ∈ d, e.nm = x ∧ EdOk e ∧ e.wants.length ≤ 10 ∧ e.asks.length ≤ 10) (fun _ => b) (fun vs _ => ⟨[], (List.append_nil b).symm, rfl, fun e he => nomatch he⟩) (fun _ => .s (.s (.s (.s (.s (.s (.s (.s (.s (.s (.s (.s (.s (.s .nil)))))))))))))) (fun _ _ h => h) (fun vs j ψ c hvs hψ hc => ?_) (fun vs c hvs hc σ H h => ?_)
        · refine ge_vers2 (ge_cb (ga_cons (ge_cb (ga_cons (ge_exI (fun t => tLc (iRng1 (tCons t tNil)) _ _ _ _) (fun _ _ _ _ => rfl) (ge_1p (ge_call (ga_cons (ge_var rfl) (ga_cons (ge_var rfl) ga_nil)) ⟨r, sv, sc, 2, (hI1 _), by decide, by decide, rfl, rfl, rfl⟩)) fun n hn => ?_) ga_nil) (gc_exs fun ns hns => gc_setLI (by have := hns.2.1; omega))) ga_nil) (gc_exs fun ns hns => gc_sortSI (by have := hns.2.1; omega)))
          obtain ⟨k, rfl⟩ : ∃ k : Nat, n = k := ⟨n.toNat, by omega⟩
          exact ge_vers (m := []) (k := k) (by omega) (ge_lcAll (K := K) (List.range k) (fun i => Is K (.int (i : Nat))) (fun _ d => ∃ v : Int, (1 ≤ v ∧ v ≤ 4) ∧ d = .int v) (gi_range (n := k) (by omega) (ga_cons (ge_int (K := K)) ga_nil)) (by rw [List.length_range]; omega) fun y S' I' ext hy => ⟨_, _, (fun _ h => h), gg_name, (ge_1p (ge_call (ga_cons (ge_var rfl) (ga_cons (ge_int (K := K)) ga_nil)) ⟨r, sv, sc, 4, (hI1 _).ext ext, by decide, by decide, rfl, rfl, rfl⟩)).wk fun v H _ ⟨n, hn, p⟩ => ⟨.int n, ⟨n, hn, rfl⟩, p⟩⟩)
        · have := is_lst p
          rw [List.map_map] at this
          exact this
        · rw [List.getElem?_map] at hψ
          cases hv : vs[j]? with
          | none => rw [hv] at hψ; cases hψ
          | some v =>
            rw [hv] at hψ
            cases hψ
            obtain ⟨d, rfl, hd, hm⟩ := hc
            have hj : j < vs.length := (List.getElem?_eq_some_iff.mp hv).1
            have hvf := hvs.few
            have hdl : d.length = j := by
              have := congrArg List.length hd
              rw [List.length_map, List.length_take] at this
              omega
            have e2 : vs.take (j + 1) = vs.take j ++ [v] := by rw [List.take_succ_eq_append_getElem hj, (List.getElem?_eq_some_iff.mp hv).2]
            obtain ⟨v1, v2⟩ := hvs.ok v (List.mem_of_getElem? hv)
            refine ⟨_, _, gg_name, ?_⟩
            refine gs_seq (gs_set (ge_tupS4 (K := K) (ga_cons (ge_str (K := K)) (ga_cons (ge_str (K := K)) (ga_cons (ge_str (K := K)) (ga_cons (ge_str (K := K)) ga_nil)))))) ?_
            refine gs_seqX (gs_if (gt_someEq (ge_call (ga_cons (ge_var rfl) (ga_cons (ge_int (K := K)) ga_nil)) ⟨r, sv, sc, 2, (hI1 _), by decide, by decide, rfl, rfl, rfl⟩)) (fun _ => gs_setX (P := fun hs : List Str => hs.Sublist allScr) (ge_call (ga_cons (ge_var rfl) (ga_cons (ge_var rfl) ga_nil)) ⟨r, sv, sc, allScr, hI1 _, scr_asc, by decide, rfl, rfl, rfl⟩)) (fun _ => gs_next.wk fun σ H h => ⟨allScr, List.Sublist.refl _, h⟩)) fun hs hhs => ?_
            refine gs_seqX (gs_setX ((ge_cb (ga_cons (ge_lcX (K := K) (ns.filter fun y => !decide (y = x)) (fun y => Is K (.str y)) (fun y d => ∃ v : Int, (1 ≤ v ∧ v ≤ 3) ∧ d = needD (y, v)) (gi_listM (ge_var rfl)) oz fun y S' I' ext hy => ⟨_, _, (fun _ h => h), gg_name, _, gt_someEq (ge_call (ga_cons (ge_var rfl) (ga_cons (ge_int (K := K)) ga_nil)) ⟨r, sv, sc, 3, (hI1 _).ext ext, by decide, by decide, rfl, rfl, rfl⟩), fun _ => ge_tupNeed (ga_cons (ge_var rfl) (ga_cons (ge_1p (ge_call (ga_cons (ge_var rfl) (ga_cons (ge_int (K := K)) ga_nil)) ⟨r, sv, sc, 3, (hI1 _).ext ext, by decide, by decide, rfl, rfl, rfl⟩)) ga_nil))⟩) ga_nil) gc_tupleLX).needs)) fun ws hws => ?_
            refine gs_seqX (gs_setX ((ge_cb (ga_cons (ge_lcX (K := K) (ns.filter fun y => !decide (y = x)) (fun y => Is K (.str y)) (fun y d => ∃ v : Int, (1 ≤ v ∧ v ≤ 3) ∧ d = needD (y, v)) (gi_listM (ge_var rfl)) oz fun y S' I' ext hy => ⟨_, _, (fun _ h => h), gg_name, _, gt_someEq (ge_call (ga_cons (ge_var rfl) (ga_cons (ge_int (K := K)) ga_nil)) ⟨r, sv, sc, 5, (hI1 _).ext ext, by decide, by decide, rfl, rfl, rfl⟩), fun _ => ge_tupNeed (ga_cons (ge_var rfl) (ga_cons (ge_1p (ge_call (ga_cons (ge_var rfl) (ga_cons (ge_int (K := K)) ga_nil)) ⟨r, sv, sc, 3, (hI1 _).ext ext, by decide, by decide, rfl, rfl, rfl⟩)) ga_nil))⟩) ga_nil) gc_tupleLX).needs)) fun as has => ?_
            refine gs_seqX (gs_setX ((ge_cb (ga_cons (ge_lcX (K := K) (ns.filter fun y => !decide (y = x)) (fun y => Is K (.str y)) (fun y d => d = .str y) (gi_listM (ge_var rfl)) oz fun y S' I' ext hy => ⟨_, _, (fun _ h => h), gg_name, _, gt_someEq (ge_call (ga_cons (ge_var rfl) (ga_cons (ge_int (K := K)) ga_nil)) ⟨r, sv, sc, 4, (hI1 _).ext ext, by decide, by decide, rfl, rfl, rfl⟩), fun _ => (ge_var rfl).wk fun v H _ p => ⟨_, rfl, p⟩⟩) ga_nil) gc_tupleLX).shuns)) fun ss hss => ?_
            obtain ⟨n1, n2⟩ := needs_ok hns hws.1 hws.2
            obtain ⟨a1, a2⟩ := needs_ok hns has.1 has.2
            obtain ⟨s1, s2, s3⟩ := shuns_ok hns hss
            have ho : EdOk ⟨x, v, hs, ws, as, ss⟩ := ⟨w1, w2, v1, by show v ≤ 99; omega, scr_asc.sub hhs, Nat.lt_of_le_of_lt hhs.length_le (by decide), fun y hy => ⟨hhs.subset hy, scr_str y (hhs.subset hy)⟩, n1, a1, s1, s2, s3⟩
            refine gs_turn (b ++ (d ++ [⟨x, v, hs, ws, as, ss⟩])) (gs_drop (ge_app (fun _ => ge_var rfl) (ge_tupD (K := K) (ga_cons (ge_var rfl) (ga_cons (ge_var rfl) (ga_cons (ge_var rfl) (ga_cons (ge_var rfl) (ga_cons (ge_var rfl) (ga_cons (ge_var rfl) ga_nil)))))) (.cons (.cons (.cons (.cons (.cons (.cons .nil)))))) (by show 6 ≤ 1000; decide)) (by rw [List.length_map, List.length_append]; omega))) ⟨d ++ [⟨x, v, hs, ws, as, ss⟩], rfl, by rw [List.map_append, hd, e2]; rfl, fun e he => ?_⟩ (.s (.s (.s (.s (.s (.s (.s (.n (.n (.n (.n (.n (.s (.s .nil)))))))))))))) fun H h => ?_
            · rcases List.mem_append.mp he with he | he
              · exact hm e he
              · obtain rfl := List.mem_singleton.mp he
                exact ⟨rfl, ho, n2, a2⟩
            · rw [← List.append_assoc, List.map_append]
              exact h
        · obtain ⟨d, rfl, hd, hm⟩ := hc
          rw [List.length_map, List.take_length] at hd
          obtain ⟨he, hj⟩ := h
          refine ⟨b ++ d, ⟨?_, ?_⟩, he.sub (.s (.s (.s (.s (.s (.n (.n (.s (.s (.s (.s (.s (.s (.s .nil)))))))))))))), hj⟩
          · rw [e1]
            exact g1.more hnx hvs hd hm
          · have := congrArg List.length hd
            rw [List.length_map] at this
            have := hvs.few
            rw [List.length_append]
            omega
    · obtain ⟨g1, g2⟩ := hb
      rw [List.length_map] at g1 g2
      rw [List.take_length] at g1
      have h1 : EsOk b ns := g1.ok2 hns g2
      refine gs_ret (ge_var rfl) fun v H hj hp => ⟨⟨b, ⟨ns, h1, hns, fun e he => (g1.ok e he).1⟩, ?_⟩, acc_wk hj⟩
      obtain rfl : v = .ref p := hp
      obtain ⟨a, xs, e2, k1, k2, k3⟩ := acc_out np hj
      cases e2
      have hd := Dl.map (K := K) (b.map edD)
      rw [List.map_map] at hd
      exact .lst k1 k2 (hd.all k3)
    all_goals skip
-- slots: 0=_law_row 1=_law_many 2=_law_most 3=_law_names_here 4=_law_found 5=_law_name 6=_law_others 7=_law_version 8=_law_has 9=_law_wants 10=_law_asks 11=_law_shuns 12=_law_other 13=_law_k  uses: ['_law_taken', '_law_some']

end
end Hs
set_option Elab.async false
set_option linter.all false
set_option maxRecDepth 100000
set_option maxHeartbeats 4000000
namespace Hs
open PySem PySem.Spec PyProof.Rows L2 StX
section
variable {P : Program} {w : World} {K : PySem.W.Frag} {mg : Str → Option Value} {base : Heap}
abbrev N_Store_contains : List Str := ["self", "key"]
theorem sc_Store_contains : FnScope N_Store_contains ["self", "key"] (defScope s_Store_contains) := ⟨rfl, rfl, rfl, by decide +kernel, rfl, by decide +kernel, by decide +kernel⟩
theorem ok_Store_contains (T : Tx K mg) : FnR P w K mg base CX0 1 (a_Store_contains K) (spC (ct_Store_contains K)) := by
  obtain ⟨fd, F⟩ := T.f_Store_contains
  have nd := sc_Store_contains.nd
  refine ok_of (He5.fun_of F) sc_Store_contains (F.bindsN fun _ _ _ _ _ _ us hl => match us, hl with | [_, _], _ => rfl) ?_ fun cdv A outer s H E hr => have hu := hu_of hr; have hu0 := hr.units0; ⟨_, (pss_one (ps_ret (pe_cmp (pc_din hu (pv 1) (pe_fldK K (pv 0) rfl))))), ?_⟩
  · rintro S ⟨I, J, ins, out⟩ ⟨sa, es, n, v, h1, h2, h3⟩
    dsimp only at h2 ⊢
    subst h2
    rfl
  · rintro S ⟨I, J, ins, out⟩ ⟨sa, es, n, v, h1, h2, h3⟩
    dsimp only at h1 h2 h3
    subst h1 h2 h3
    refine (gs_retD (ge_kin (ge_var rfl) (ge_fldA (ge_var rfl) T.c_Store T.na_Store_known rfl)) rfl ?_)
    all_goals rfl
-- slots: 0=self 1=key  uses: []

end
end Hs
set_option Elab.async false
set_option linter.all false
set_option maxRecDepth 100000
set_option maxHeartbeats 4000000
namespace Hs
open PySem PySem.Spec PyProof.Rows L2 StX
section
variable {P : Program} {w : World} {K : PySem.W.Frag} {mg : Str → Option Value} {base : Heap}
abbrev N_is_state : List Str := ["store", "name", "state", "status", "version", "done"]
theorem sc_is_state : FnScope N_is_state ["store", "name", "state"] (defScope s_is_state) := ⟨rfl, rfl, rfl, by decide +kernel, rfl, by decide +kernel, by decide +kernel⟩
theorem ok_is_state (T : Tx K mg) : FnR P w K mg base CX0 2 (a_is_state K) (spC (ct_is_state K)) := by
  obtain ⟨fd, F⟩ := T.f_is_state
  have nd := sc_is_state.nd
  refine ok_of (He5.fun_of F) sc_is_state (F.bindsN fun _ _ _ _ _ _ us hl => match us, hl with | [_, _, _], _ => rfl) ?_ fun cdv A outer s H E hr => have hu := hu_of hr; have hu0 := hr.units0; ⟨_, (pss_cons (ps_asg (pv 2) (pg_tupK K rfl (pgs_cons (pg_name (i := 3) nd rfl (.inl rfl)) (pgs_cons (pg_name (i := 4) nd rfl (.inl rfl)) (pgs_cons (pg_name (i := 5) nd rfl (.inl rfl)) pgs_nil)))))
    (pss_cons (ps_if (pt_cmpR op_eq (pv 3) (pe_gs rfl T.s_ABSENT) (nomark _)) (pss_one (ps_ret (pe_cmpR (op_eqDK K hr.units) (pv 2) (pe_glob (v := .ref _) rfl T.g_NOTHING rfl) (nomark _)))) pss_nil)
    (pss_cons (ps_if (PW.pt (pw_or (pt_cmpR (op_niK K) (pv 3) (pe_glob (v := .ref _) rfl T.g_STATUSES rfl) (by rfl)) (pw_or (pt_cmpR (op_notInO T.x_Store_contains T.x_Store_containsF (ok_Store_contains T) (hr.mono (by decide))) (pe_tup (pa_cons (pv 1) (pa_cons (pv 4) pa_nil))) (pv 0) (by rfl)) (pw_or1 (PW.pt (pw_and (pt_cmpR op_ne (pv 5) pe_int (nomark _)) (pw_and1 (pt_cmpR (op_notInO T.x_Store_contains T.x_Store_containsF (ok_Store_contains T) (hr.mono (by decide))) (pe_tup (pa_cons (pv 1) (pa_cons (pv 5) pa_nil))) (pv 0) (by rfl))))))))) (pss_one (ps_ret pe_bl)) pss_nil)
    (pss_one (ps_ret (pe_or (pe_cmpR op_ne (pv 3) (pe_gs rfl T.s_READY) (nomark _)) (pe_one (pe_cmpR op_eq (pv 5) (pv 4) (nomark _))))))))), ?_⟩
  · rintro S ⟨I, J, ins, out⟩ ⟨sa, es, n, s, h1, h2, h3⟩
    dsimp only at h2 ⊢
    subst h2
    rfl
  · rintro S ⟨I, J, ins, out⟩ ⟨sa, es, n, s, h1, h2, h3⟩
    dsimp only at h1 h2 h3
    subst h1 h2 h3
    refine (gs_seq (gs_asg (ge_var rfl) (gg_tupD (gg_cons gg_name (gg_cons gg_name (gg_cons gg_name gg_nil))) rfl)) (gs_ifs (gt_val (K := K) (ge_op (ge_var rfl) (ge_str (K := K)) (by first | exact gr_eqS | exact gr_eqI))) (fun b1 => (gs_retDS (ge_op (ge_var rfl) (ge_kt T.v_NOTHING fun _ => daN) (gr_eqD ?_ ?_)) rfl ?_)) (fun b1 => (gs_nextS (gs_ifs (gt_or (gt_val (K := K) (ge_op (ge_var rfl) (ge_kt T.v_STATUSES fun _ => da6) gr_niS)) fun _ => (gt_or (gt_val (K := K) (ge_op (ge_tupK2 (ga_cons (ge_var rfl) (ga_cons (ge_var rfl) ga_nil))) (ge_var rfl) (gr_notInO (oba_ins rfl) ⟨_, _, _, _, rfl, rfl, rfl⟩))) fun _ => (gt_and (gt_val (K := K) (ge_op (ge_var rfl) (ge_int (K := K)) (by first | exact gr_neS | exact gr_neI))) fun _ => (gt_val (K := K) (ge_op (ge_tupK2 (ga_cons (ge_var rfl) (ga_cons (ge_var rfl) ga_nil))) (ge_var rfl) (gr_notInO (oba_ins rfl) ⟨_, _, _, _, rfl, rfl, rfl⟩)))))) (fun b2 => (gs_retDS (ge_bl (K := K)) rfl ?_)) (fun b2 => (gs_nextS (gs_retD (ge_or (ge_op (ge_var rfl) (ge_str (K := K)) (by first | exact gr_neS | exact gr_neI)) fun _ => (ge_op (ge_var rfl) (ge_var rfl) (by first | exact gr_eqS | exact gr_eqI))) rfl ?_))))))))
    · rw [st_ab b1]; exact shaped_ab _ _
    · exact shaped_ab 0 0
    · rw [st_ab b1, isState_ab b1]; exact congrArg PyData.bool (eqv_st _ _)
    · have b1 : decide (s.st = sAb) = false := b1
      unfold isState; rw [if_neg (by rw [b1]; decide)]
      exact (congrArg PyData.bool (if_pos b2)).symm
    · have b1 : decide (s.st = sAb) = false := b1
      unfold isState; rw [if_neg (by rw [b1]; decide)]
      refine congrArg PyData.bool (Eq.symm (if_neg ?_))
      intro z
      exact Bool.noConfusion (b2.symm.trans z)
-- slots: 0=store 1=name 2=state 3=status 4=version 5=done  uses: []

end
end Hs
set_option Elab.async false
set_option linter.all false
set_option maxRecDepth 100000
set_option maxHeartbeats 4000000
namespace Hs
open PySem PySem.Spec PyProof.Rows L2 StX
section
variable {P : Program} {w : World} {K : PySem.W.Frag} {mg : Str → Option Value} {base : Heap}
abbrev N_Store_names : List Str := ["self", "name", "version"]
theorem sc_Store_names : FnScope N_Store_names ["self"] (defScope s_Store_names) := ⟨rfl, rfl, rfl, by decide +kernel, rfl, by decide +kernel, by decide +kernel⟩
theorem ok_Store_names (T : Tx K mg) : FnR P w K mg base CX0 1 (a_Store_names K) (spC (ct_Store_names K)) := by
  obtain ⟨fd, F⟩ := T.f_Store_names
  have nd := sc_Store_names.nd
  refine ok_of (He5.fun_of F) sc_Store_names (F.bindsN fun _ _ _ _ _ _ us hl => match us, hl with | [_], _ => rfl) ?_ fun cdv A outer s H E hr => have hu := hu_of hr; have hu0 := hr.units0; ⟨_, (pss_one (ps_ret (pe_callTy call_tuple_of (by rfl) T.n_tuple (by decide +kernel) (pa_cons (pe_callB (cr_sortTx rfl) (by rfl) T.n_sorted (by decide +kernel) (pa_cons (pe_callTy (cr_setTx rfl) (by rfl) T.n_set (by decide +kernel) (pa_cons (pe_or2 (pe_lock (pe_lc (own := [("name", 1), ("version", 2)]) (g := _) (tt := tYes) rfl nd (pi_keys (pe_fldK K (pv 0) rfl)) (blkOk_by (own := [("name", 1), ("version", 2)]) (N := N_Store_names) (sc := defScope s_Store_names) (by decide +kernel)) (fun _ _ _ _ _ => pg_tupK (n := 2) K rfl (pgs_cons (pg_name (i := 1) nd rfl (Or.inl rfl)) (pgs_cons (pg_name (i := 2) nd rfl (Or.inl rfl)) pgs_nil))) (fun _ _ _ _ _ => pts_nil) (fun _ _ _ _ _ => (pv 1)))) (pe_lc (own := [("name", 1), ("version", 2)]) (g := _) (tt := tYes) rfl nd (pi_keys (pe_fldK K (pv 0) rfl)) (blkOk_by (own := [("name", 1), ("version", 2)]) (N := N_Store_names) (sc := defScope s_Store_names) (by decide +kernel)) (fun _ _ _ _ _ => pg_tupK (n := 2) K rfl (pgs_cons (pg_name (i := 1) nd rfl (Or.inl rfl)) (pgs_cons (pg_name (i := 2) nd rfl (Or.inl rfl)) pgs_nil))) (fun _ _ _ _ _ => pts_nil) (fun _ _ _ _ _ => (pv 1)))) pa_nil)) pa_nil)) pa_nil)))), ?_⟩
  · rintro S ⟨I, J, ins, out⟩ ⟨sa, es, ns, he, h1, h2, h3⟩
    dsimp only at h2 ⊢
    subst h2
    rfl
  · rintro S ⟨I, J, ins, out⟩ ⟨sa, es, ns, he, h1, h2, h3⟩
    dsimp only at h1 h2 h3
    subst h1 h2 h3
    have hz : (es.map fun e => e.nm).length ≤ 1000 := by rw [List.length_map]; exact Nat.le_trans he.le (by decide)
    refine gs_retF (ge_cb (ga_cons (ge_cb (ga_cons (ge_cb (ga_cons (ge_lcKS1 (K := K) es (fun e => KeyT [.inr e.nm, .inl e.ver]) (fun e => e.nm) (dsrc_fldTA (rows := knownF K es) (sa := sa) (fs := [("known", DctT (knownF K es))]) rfl T.c_Store T.na_Store_known rfl) okT_le dit_known (Nat.le_trans he.le (by decide)) fun e S' I' ext _ => ⟨_, _, (fun j h => by simp at h; simp [h]), gg_keyT (gg_cons gg_name (gg_cons gg_name gg_nil)) rfl, gt_yes, fun _ => ge_var rfl⟩) ga_nil) (gc_setL hz)) ga_nil) (gc_sortTx hz he.asc (Nat.lt_of_le_of_lt he.few (by decide)) fun x => ?_)) ga_nil) gc_tupleL)
    constructor
    · intro hx
      obtain ⟨e, h1, h2⟩ := he.has x hx
      exact List.mem_map.mpr ⟨e, h1, h2⟩
    · intro hx
      obtain ⟨e, h1, h2⟩ := List.mem_map.mp hx
      rw [← h2]
      exact he.mem e h1
    all_goals skip
-- slots: 0=self 1=name 2=version  uses: []

end
end Hs
set_option Elab.async false
set_option linter.all false
set_option maxRecDepth 100000
set_option maxHeartbeats 4000000
namespace Hs
open PySem PySem.Spec PyProof.Rows L2 StX
section
variable {P : Program} {w : World} {K : PySem.W.Frag} {mg : Str → Option Value} {base : Heap}
abbrev N_System_init : List Str := ["self", "store", "states", "name"]
theorem sc_System_init : FnScope N_System_init ["self", "store", "states"] (defScope s_System_init) := ⟨rfl, rfl, rfl, by decide +kernel, rfl, by decide +kernel, by decide +kernel⟩
theorem ok_System_init (T : Tx K mg) : FnR P w K mg base CX0 3 (a_System_init K) (spIn (C_System K) (ci_System K)) := by
  obtain ⟨fd, F⟩ := T.f_System_init
  have nd := sc_System_init.nd
  refine ok_init (He5.fun_of F) sc_System_init (F.bindsN fun _ _ _ _ _ _ us hl => match us, hl with | [_, _, _], _ => rfl) ?_ fun cdv A outer s H E hr => have hu := hu_of hr; have hu0 := hr.units0; ⟨_, (pss_cons (ps_for PassesOwn.never rfl (pi_listK K (pe_callB (call_sortedD rfl) (by rfl) T.n_sorted (by decide +kernel) (pa_cons (pv 2) pa_nil))) (pg_name (i := 3) nd rfl (.inl rfl))
    (pss_one (ps_if (PW.pt (pw_or (pt_cmpR (op_niK K) (pv 3) (pe_propR (pv 1) T.c_Store T.p_Store_names (ok_Store_names T) (hr.mono (by decide)) pass0) (by rfl)) (pw_or1 (pt_not (pt_val (pe_callR (ok_is_state T) (hr.mono (by decide)) rfl T.g_is_state T.k_is_state pass0 (pa_cons (pv 1) (pa_cons (pv 3) (pa_cons (pe_dget hu (pv 2) (pv 3) (fun _ _ => rfl)) pa_nil))))))))) pss_never pss_nil)))
    (pss_cons (ps_fld (pv 0) (pv 1) rfl)
    (pss_one (ps_fld (pv 0) (pe_dc (own := [("name", 3)]) (g := gName 3) rfl nd (pi_tupK K (pe_propR (pv 1) T.c_Store T.p_Store_names (ok_Store_names T) (hr.mono (by decide)) pass0)) (blkOk_by (own := [("name", 3)]) (N := N_System_init) (sc := defScope s_System_init) (by decide +kernel)) (fun _ _ _ _ _ => pg_name (i := 3) nd rfl (Or.inl rfl)) (fun _ _ _ _ _ => pts_nil) (fun _ _ _ _ _ => (pv 3)) (fun _ _ _ _ _ => (pe_dget2 hu (pv 2) (pv 3) (pe_glob (v := .ref _) rfl T.g_NOTHING rfl) ⟨rfl, rfl, rfl, rfl⟩))) rfl)))), ?_⟩
  · rintro S I ins outs ⟨sa, es, ns, R, he, hnd, hz, hR, h2, h3⟩
    subst h2
    rfl
  · rintro S I ins outs x dx ⟨sa, es, ns, R, he, hnd, hz, hR, h2, h3⟩ nS
    subst h2 h3
    have hks : (rowsF K R).map Prod.fst = (R.map Prod.fst).map Sum.inr := by rw [List.map_map, List.map_map]; rfl
    refine gs_forX (fun ys : List Str => ys.map fun y => Is K (.str y)) (ge_cb (ga_cons (ge_var rfl) ga_nil) (gc_sortedD (K := K) hks (by rw [List.length_map]; omega))) (fun ys v H _ p => ?_) (fun (_ : List Str) (_ : Unit) => [some (Eqv (.ref x)), some (Sto K sa es), some (Dct (rowsF K R)), none]) (fun _ _ => I.obj x (C_System K) dx []) (fun _ _ _ => True) (fun _ => ()) (fun _ _ => trivial) (fun _ => .s (.s (.s (.s .nil)))) (fun _ _ h => h) (fun ys i ψ b hp hψ _ => ?_) (fun ys b hp _ => ?_)
    · have := is_lst p
      rw [List.map_map] at this
      exact this
    · rw [List.getElem?_map] at hψ
      cases hy : ys[i]? with
      | none => rw [hy] at hψ; cases hψ
      | some y =>
        rw [hy] at hψ
        cases hψ
        have hmem : y ∈ R.map Prod.fst := hp.1.mem_iff.mp (List.mem_of_getElem? hy)
        obtain ⟨r, hr2, e⟩ := List.mem_map.mp hmem
        have hin : y ∈ ns := by rw [← e]; exact (hR r hr2).1
        have hl : (lk R y).isSome = true := lk_isSome.mpr hmem
        have hst : isState es y (rowAt R y) = true := by
          unfold rowAt
          rw [← e, lk_mem hnd hr2]
          exact (hR r hr2).2
        refine ⟨_, _, gg_name, ?_⟩
        refine gs_if (gt_or (gt_val (K := K) (ge_op (ge_var rfl) (ge_prop (ge_var rfl) (oba_ins (m := "") rfl) ⟨_, _, _, he, rfl, rfl, rfl⟩) gr_niS)) fun _ => gt_notB (gt_valB (K := K) (ge_call (ga_cons (ge_var rfl) (ga_cons (ge_var rfl) (ga_cons (ge_rget (ge_var rfl) (ge_var rfl) hl) ga_nil))) ⟨_, _, _, _, rfl, rfl, rfl⟩))) (fun b1 => gs_never ?_) (fun b1 => gs_turn () gs_next trivial (.s (.s (.s (.n .nil)))) (fun _ h => h))
        rw [decide_eq_true hin, hst] at b1
        cases b1
    · refine gs_seq (gs_fld (ge_var rfl) (ge_var rfl) T.c_System T.na_System_base (fun q h => by cases h) (by decide)) ?_
      refine (gs_fld (fs := [("base", Sto K sa es)]) (ge_dc (K := K) ns (fun n => Is K (.str n)) (fun n => n) (fun n => Is K (stD ((lk R n).getD dS))) (gi_tupM (ge_prop (ge_var rfl) (oba_ins (m := "") rfl) ⟨_, _, _, he, rfl, rfl, rfl⟩)) (by rw [List.map_id']; exact he.asc.nodup) (Nat.le_trans he.few (by decide)) fun n S' I' ext hn => ⟨_, _, fun _ h => h, gg_name, gt_yes, ge_var rfl, ge_rget2 (ge_var rfl) (ge_var rfl) (ge_kt T.v_NOTHING fun _ => daN)⟩) (ge_var rfl) T.c_System T.na_System_rows (fun q h => by cases h with | head => (show ¬ (("base" : Str) = "rows"); decide) | tail _ h => cases h) (by show 1 ≤ 20; decide)).wk fun σ H ⟨_, j⟩ => ?_
      have e : (ns.map fun n => ((Sum.inr n : Key), Is K (stD ((lk R n).getD dS)))) = rowsF K (ns.map fun n => (n, (lk R n).getD dS)) := by
        show _ = List.map _ (List.map _ _)
        rw [List.map_map]
        rfl
      rw [e] at j
      exact j
-- slots: 0=self 1=store 2=states 3=name  uses: ['is_state', 'Store.names']

end
end Hs
set_option Elab.async false
set_option linter.all false
set_option maxRecDepth 100000
set_option maxHeartbeats 4000000
namespace Hs
open PySem PySem.Spec PyProof.Rows L2 StX
section
variable {P : Program} {w : World} {K : PySem.W.Frag} {mg : Str → Option Value} {base : Heap}
abbrev N_law_store : List Str := ["_law_some_here", "_law_found", "_law_one"]
theorem sc_law_store : FnScope N_law_store ["_law_some_here"] (defScope s_law_store) := ⟨rfl, rfl, rfl, by decide +kernel, rfl, by decide +kernel, by decide +kernel⟩
theorem ok_law_store (T : Tx K mg) : FnR P w K mg base CX0 5 (a_law_store K) (spC (ct_law_store K)) := by
  obtain ⟨fd, F⟩ := T.f_law_store
  have nd := sc_law_store.nd
  obtain ⟨fdE, FE, g, gV, hgV, KE⟩ := okk_Edition_init (P := P) (w := w) (base := base) T
  refine ok_of (He5.fun_of F) sc_law_store (F.bindsN fun _ _ _ _ _ _ us hl => match us, hl with | [_], _ => rfl) ?_ fun cdv A outer s H E hr => have hu := hu_of hr; have hu0 := hr.units0; ⟨_, (pss_cons (ps_set (i := 1) nd rfl (.inl rfl) (pe_lst pa_nil))
    (pss_cons (ps_for PassesOwn.never rfl (pi_listK K (pv 0)) (pg_name (i := 2) nd rfl (.inl rfl))
    (pss_one (ps_expr (pe_bm PySem.F.plainAttrs_list PySem.F.slot_list_append PySem.F.type_list_append mt_append (pv 1) (pa_cons (pe_makeK T.mk_Edition FE (hr.mono (by decide)) rfl T.g_Edition KE pass0 (pa_cons (pe_ix (ix_tupK K) (pv 2) pe_int (fun _ _ => rfl)) (pa_cons (pe_ix (ix_tupK K) (pv 2) pe_int (fun _ _ => rfl)) pa_nil)) (pk_cons (pe_ix (ix_tupK K) (pv 2) pe_int (fun _ _ => rfl)) (pk_cons (pe_ix (ix_tupK K) (pv 2) pe_int (fun _ _ => rfl)) (pk_cons (pe_ix (ix_tupK K) (pv 2) pe_int (fun _ _ => rfl)) (pk_cons (pe_ix (ix_tupK K) (pv 2) pe_int (fun _ _ => rfl)) pk_nil))))) pa_nil)))))
    (pss_one (ps_ret (pe_makeR T.mk_Store (ok_Store_init T) (hr.mono (by decide)) rfl T.g_Store pass0 (pa_cons (pe_callTy call_tuple_of (by rfl) T.n_tuple (by decide +kernel) (pa_cons (pv 1) pa_nil)) pa_nil)))))), ?_⟩
  · rintro S ⟨I, J, ins, out⟩ ⟨es, ns, he, hd, h1, h2, h3⟩
    dsimp only at h2 ⊢
    subst h2
    rfl
  · rintro S ⟨I, J, ins, out⟩ ⟨es, ns, he, hd, h1, h2, h3⟩
    dsimp only at h1 h2 h3
    subst h1 h2 h3
    have hz : es.length ≤ 1000 := Nat.le_trans he.le (by decide)
    refine gs_acc fun p np => gs_forS (fun _ : List Ed => [some (Is K (edsD es)), some (Eqv (.ref p)), none]) (fun b => J.acc p (b.map (Edn K))) (fun i b => b = es.take i) [] (gi_listM (ge_var rfl)) rfl (.s (.s (.s .nil))) (fun _ h => h) (fun i ψ b hψ hb => ?_) fun b hb => ?_
    · rw [List.getElem?_map] at hψ
      cases hx : es[i]? with
      | none => rw [hx] at hψ; cases hψ
      | some e =>
        rw [hx] at hψ
        cases hψ
        have hi : i < es.length := (List.getElem?_eq_some_iff.mp hx).1
        have e1 : es.take (i + 1) = b ++ [e] := by rw [List.take_succ_eq_append_getElem hi, (List.getElem?_eq_some_iff.mp hx).2, hb]
        refine ⟨_, _, gg_name, gs_turn (es.take (i + 1)) (gs_drop (ge_app (fun _ => ge_var rfl) (ge_makeK hgV (ga_cons (ge_op (ge_var rfl) (ge_int (K := K)) (gr_ixD (by decide) rfl)) (ga_cons (ge_op (ge_var rfl) (ge_int (K := K)) (gr_ixD (by decide) rfl)) ga_nil)) (ga_cons (ge_op (ge_var rfl) (ge_int (K := K)) (gr_ixD (by decide) rfl)) (ga_cons (ge_op (ge_var rfl) (ge_int (K := K)) (gr_ixD (by decide) rfl)) (ga_cons (ge_op (ge_var rfl) (ge_int (K := K)) (gr_ixD (by decide) rfl)) (ga_cons (ge_op (ge_var rfl) (ge_int (K := K)) (gr_ixD (by decide) rfl)) ga_nil)))) rfl rfl ⟨e, hd e (List.mem_of_getElem? hx), rfl, rfl⟩) (by rw [List.length_map, hb, List.length_take]; omega))) rfl (.s (.s (.n .nil))) fun H h => ?_⟩
        rw [e1, List.map_append]
        exact h
    · have hb2 : b = es := by rw [hb, List.length_map, List.take_length]
      subst hb2
      exact gs_retA (ge_make (c := ci_Store K) (ga_cons (ge_cb (ga_cons (ge_var rfl) ga_nil) gc_tupleAcc) ga_nil) ⟨_, ns, he, rfl, rfl⟩) rfl fun v H ⟨a, dx, ws, h1, h2, h3, h4⟩ => ⟨a, trivial, h1, h2, dx, ws, h3, h4⟩
-- slots: 0=_law_some_here 1=_law_found 2=_law_one  uses: ['Edition.__init__', 'Store.__init__']

end
end Hs
set_option Elab.async false
set_option linter.all false
set_option maxRecDepth 100000
set_option maxHeartbeats 4000000
namespace Hs
open PySem PySem.Spec PyProof.Rows L2 StX
section
variable {P : Program} {w : World} {K : PySem.W.Frag} {mg : Str → Option Value} {base : Heap}
abbrev N_law_names : List Str := ["_law_some_here", "_law_one"]
theorem sc_law_names : FnScope N_law_names ["_law_some_here"] (defScope s_law_names) := ⟨rfl, rfl, rfl, by decide +kernel, rfl, by decide +kernel, by decide +kernel⟩
theorem ok_law_names (T : Tx K mg) : FnR P w K mg base CX0 1 (a_law_names K) (spC (ct_law_names K)) := by
  obtain ⟨fd, F⟩ := T.f_law_names
  have nd := sc_law_names.nd
  refine ok_of (He5.fun_of F) sc_law_names (F.bindsN fun _ _ _ _ _ _ us hl => match us, hl with | [_], _ => rfl) ?_ fun cdv A outer s H E hr => have hu := hu_of hr; have hu0 := hr.units0; ⟨_, (pss_one (ps_ret (pe_callB (cr_sortTx rfl) (by rfl) T.n_sorted (by decide +kernel) (pa_cons (pe_callTy (cr_setTx rfl) (by rfl) T.n_set (by decide +kernel) (pa_cons (pe_lc (own := [("_law_one", 1)]) (g := gName 1) (tt := tYes) rfl nd (pi_listK K (pv 0)) (blkOk_by (own := [("_law_one", 1)]) (N := N_law_names) (sc := defScope s_law_names) (by decide +kernel)) (fun _ _ _ _ _ => pg_name (i := 1) nd rfl (Or.inl rfl)) (fun _ _ _ _ _ => pts_nil) (fun _ _ _ _ _ => (pe_ix (ix_tupK K) (pv 1) pe_int (fun _ _ => rfl)))) pa_nil)) pa_nil)))), ?_⟩
  · rintro S ⟨I, J, ins, out⟩ ⟨es, ns, he, h1, h2, h3⟩
    dsimp only at h2 ⊢
    subst h2
    rfl
  · rintro S ⟨I, J, ins, out⟩ ⟨es, ns, he, h1, h2, h3⟩
    dsimp only at h1 h2 h3
    subst h1 h2 h3
    have hz : (es.map fun e => e.nm).length ≤ 1000 := by rw [List.length_map]; exact Nat.le_trans he.le (by decide)
    refine gs_retF (ge_cb (ga_cons (ge_cb (ga_cons (ge_lcS1 (K := K) es (fun e => Is K (edD e)) (fun e => e.nm) (gi_listM (ge_var rfl)) (Nat.le_trans he.le (by decide)) fun e S' I' ext _ => ⟨_, _, (fun _ h => h), gg_name, gt_yes, fun _ => ge_op (ge_var rfl) (ge_int (K := K)) (gr_ixD (by decide) rfl)⟩) ga_nil) (gc_setL hz)) ga_nil) (gc_sortTx hz he.asc (Nat.lt_of_le_of_lt he.few (by decide)) fun x => ?_))
    constructor
    · intro hx
      obtain ⟨e, h1, h2⟩ := he.has x hx
      exact List.mem_map.mpr ⟨e, h1, h2⟩
    · intro hx
      obtain ⟨e, h1, h2⟩ := List.mem_map.mp hx
      rw [← h2]
      exact he.mem e h1
    all_goals skip
-- slots: 0=_law_some_here 1=_law_one  uses: []

end
end Hs
set_option Elab.async false
set_option linter.all false
set_option maxRecDepth 100000
set_option maxHeartbeats 4000000
namespace Hs
open PySem PySem.Spec PyProof.Rows L2 StX
section
variable {P : Program} {w : World} {K : PySem.W.Frag} {mg : Str → Option Value} {base : Heap}
abbrev N_law_pick : List Str := ["_law_row", "_law_some_here"]
theorem sc_law_pick : FnScope N_law_pick ["_law_row", "_law_some_here"] (defScope s_law_pick) := ⟨rfl, rfl, rfl, by decide +kernel, rfl, by decide +kernel, by decide +kernel⟩
theorem ok_law_pick (T : Tx K mg) : FnR P w K mg base CX0 2 (a_law_pick K) (spC (ct_law_pick K)) := by
  obtain ⟨fd, F⟩ := T.f_law_pick
  have nd := sc_law_pick.nd
  refine ok_of (He5.fun_of F) sc_law_pick (F.bindsN fun _ _ _ _ _ _ us hl => match us, hl with | [_, _], _ => rfl) ?_ fun cdv A outer s H E hr => have hu := hu_of hr; have hu0 := hr.units0; ⟨_, (pss_one (ps_ret (pe_ix (ix_listK K) (pv 1) (pe_callR (ok_taken T) (hr.mono (by decide)) rfl T.g__law_taken T.k__law_taken pass0 (pa_cons (pv 0) (pa_cons (pe_callB call_len_seq (by rfl) T.n_len PySem.boot_len (pa_cons (pv 1) pa_nil)) pa_nil))) (fun _ _ => rfl)))), ?_⟩
  · rintro S ⟨I, J, ins, out⟩ ⟨r, sv, sc, ds, hI, h0', hz, h1, h2, h3⟩
    dsimp only at h2 ⊢
    subst h2
    rfl
  · rintro S ⟨I, J, ins, out⟩ ⟨r, sv, sc, ds, hI, h0', hz, h1, h2, h3⟩
    dsimp only at h1 h2 h3
    subst h1 h2 h3
    exact gs_retF (ge_op (ge_var rfl) (ge_call (ga_cons (ge_var rfl) (ga_cons (ge_cb (ga_cons (ge_var rfl) ga_nil) gc_lenLD) ga_nil)) ⟨r, sv, sc, ds.length, hI, by omega, by omega, rfl, rfl, rfl⟩) gr_pick)
    all_goals skip
-- slots: 0=_law_row 1=_law_some_here  uses: ['_law_taken']

end
end Hs
set_option Elab.async false
set_option linter.all false
set_option maxRecDepth 100000
set_option maxHeartbeats 4000000
namespace Hs
open PySem PySem.Spec PyProof.Rows L2 StX
section
variable {P : Program} {w : World} {K : PySem.W.Frag} {mg : Str → Option Value} {base : Heap}
abbrev N_law_versions : List Str := ["_law_some_here", "_law_name", "_law_one"]
theorem sc_law_versions : FnScope N_law_versions ["_law_some_here", "_law_name"] (defScope s_law_versions) := ⟨rfl, rfl, rfl, by decide +kernel, rfl, by decide +kernel, by decide +kernel⟩
theorem ok_law_versions (T : Tx K mg) : FnR P w K mg base CX0 1 (a_law_versions K) (spC (ct_law_versions K)) := by
  obtain ⟨fd, F⟩ := T.f_law_versions
  have nd := sc_law_versions.nd
  refine ok_of (He5.fun_of F) sc_law_versions (F.bindsN fun _ _ _ _ _ _ us hl => match us, hl with | [_, _], _ => rfl) ?_ fun cdv A outer s H E hr => have hu := hu_of hr; have hu0 := hr.units0; ⟨_, (pss_one (ps_ret (pe_lc (own := [("_law_one", 2)]) (g := gName 2) (tt := _) rfl nd (pi_listK K (pv 0)) (blkOk_by (own := [("_law_one", 2)]) (N := N_law_versions) (sc := defScope s_law_versions) (by decide +kernel)) (fun _ _ _ _ _ => pg_name (i := 2) nd rfl (Or.inl rfl)) (fun _ _ _ _ _ => pts_one (pt_cmpR op_eq (pe_ix (ix_tupK K) (pv 2) pe_int (fun _ _ => rfl)) (pv 1) (nomark _))) (fun _ _ _ _ _ => (pe_ix (ix_tupK K) (pv 2) pe_int (fun _ _ => rfl)))))), ?_⟩
  · rintro S ⟨I, J, ins, out⟩ ⟨es, n, hz, h1, h2, h3⟩
    dsimp only at h2 ⊢
    subst h2
    rfl
  · rintro S ⟨I, J, ins, out⟩ ⟨es, n, hz, h1, h2, h3⟩
    dsimp only at h1 h2 h3
    subst h1 h2 h3
    refine (gs_retD (ge_lcD es (fun x => Is K (edD x)) (fun x => decide (x.nm = n)) (fun x => .int x.ver) (gi_listM (ge_var rfl)) hz fun x S' I' ext hx => ⟨_, _, (fun _ h => h), gg_name, (gt_val (K := K) (ge_op (ge_op (ge_var rfl) (ge_int (K := K)) (gr_ixD (by decide) rfl)) (ge_var rfl) (by first | exact gr_eqS | exact gr_eqI))), fun hp => (ge_op (ge_var rfl) (ge_int (K := K)) (gr_ixD (by decide) rfl))⟩) rfl ?_)
    all_goals rfl
-- slots: 0=_law_some_here 1=_law_name 2=_law_one  uses: []

end
end Hs
set_option Elab.async false
set_option linter.all false
set_option maxRecDepth 100000
set_option maxHeartbeats 4000000
namespace Hs
open PySem PySem.Spec PyProof.Rows L2 StX
section
variable {P : Program} {w : World} {K : PySem.W.Frag} {mg : Str → Option Value} {base : Heap}
abbrev N_law_state : List Str := ["_law_row", "_law_some_here", "_law_name", "_law_version", "_law_done", "_law_status"]
theorem sc_law_state : FnScope N_law_state ["_law_row", "_law_some_here", "_law_name"] (defScope s_law_state) := ⟨rfl, rfl, rfl, by decide +kernel, rfl, by decide +kernel, by decide +kernel⟩
theorem ok_law_state (T : Tx K mg) : FnR P w K mg base CX0 3 (a_law_state K) (spC (ct_law_state K)) := by
  obtain ⟨fd, F⟩ := T.f_law_state
  have nd := sc_law_state.nd
  refine ok_of (He5.fun_of F) sc_law_state (F.bindsN fun _ _ _ _ _ _ us hl => match us, hl with | [_, _, _], _ => rfl) ?_ fun cdv A outer s H E hr => have hu := hu_of hr; have hu0 := hr.units0; ⟨_, (pss_cons (ps_set (i := 3) nd rfl (.inl rfl) (pe_callR (ok_law_pick T) (hr.mono (by decide)) rfl T.g__law_pick T.k__law_pick pass0 (pa_cons (pv 0) (pa_cons (pe_callR (ok_law_versions T) (hr.mono (by decide)) rfl T.g__law_versions T.k__law_versions pass0 (pa_cons (pv 1) (pa_cons (pv 2) pa_nil))) pa_nil))))
    (pss_cons (ps_set (i := 4) nd rfl (.inl rfl) (pe_callR (ok_law_pick T) (hr.mono (by decide)) rfl T.g__law_pick T.k__law_pick pass0 (pa_cons (pv 0) (pa_cons (pe_op op_cat (pe_lst (pa_cons pe_int pa_nil)) (pe_callR (ok_law_versions T) (hr.mono (by decide)) rfl T.g__law_versions T.k__law_versions pass0 (pa_cons (pv 1) (pa_cons (pv 2) pa_nil)))) pa_nil))))
    (pss_cons (ps_set (i := 5) nd rfl (.inl rfl) (pe_callR (ok_law_pick T) (hr.mono (by decide)) rfl T.g__law_pick T.k__law_pick pass0 (pa_cons (pv 0) (pa_cons (pe_lst (pa_cons pe_str (pa_cons pe_str (pa_cons pe_str (pa_cons pe_str (pa_cons pe_str (pa_cons pe_str (pa_cons pe_str pa_nil)))))))) pa_nil))))
    (pss_cons (ps_if (pt_cmpR op_eq (pv 5) pe_str (nomark _)) (pss_one (ps_ret (pe_tup (pa_cons pe_str (pa_cons pe_int (pa_cons pe_int pa_nil)))))) pss_nil)
    (pss_one (ps_ret (pe_tup (pa_cons (pv 5) (pa_cons (pv 3) (pa_cons (pe_ifExp (pt_cmpR op_eq (pv 5) pe_str (nomark _)) (pv 3) (pv 4)) pa_nil)))))))))), ?_⟩
  · rintro S ⟨I, J, ins, out⟩ ⟨r, sv, sc, es, n, hI, hz, hn, h1, h2, h3⟩
    dsimp only at h2 ⊢
    subst h2
    rfl
  · rintro S ⟨I, J, ins, out⟩ ⟨r, sv, sc, es, n, hI, hz, hn, h1, h2, h3⟩
    dsimp only at h1 h2 h3
    subst h1 h2 h3
    obtain ⟨e0, he0, hen⟩ := hn
    have hmv : (es.filter fun e => decide (e.nm = n)).length ≤ 100 := Nat.le_trans (List.length_filter_le _ _) hz
    have hpos : 0 < (es.filter fun e => decide (e.nm = n)).length := List.length_pos_of_mem (List.mem_filter.mpr ⟨he0, decide_eq_true hen⟩)
    have hfind : ∀ v : Int, (∃ e ∈ es, e.nm = n ∧ e.ver = v) → (findE es n v).isSome = true := fun v ⟨e, h1, h2, h3⟩ => by
      unfold findE
      rw [List.find?_isSome]
      exact ⟨e, h1, by rw [decide_eq_true h2, decide_eq_true h3]; rfl⟩
    have ask : ∀ ds : List PyData, 0 < ds.length → ds.length < 1000 → ct_law_pick K S ⟨J, J, [RowV K r sv sc, Is K (.list ds)], Exs (fun d : PyData => d ∈ ds) fun d => Is K d⟩ := fun ds h1 h2 => ⟨r, sv, sc, ds, hI, h1, h2, rfl, rfl, rfl⟩
    refine gs_seqX (gs_setX (ge_call (ga_cons (ge_var rfl) (ga_cons (ge_call (ga_cons (ge_var rfl) (ga_cons (ge_var rfl) ga_nil)) ⟨es, n, by omega, rfl, rfl, rfl⟩) ga_nil)) (ask _ (by rw [List.length_map]; exact hpos) (by rw [List.length_map]; omega)))) fun d1 hd1 => ?_
    obtain ⟨e1, he1, rfl⟩ := List.mem_map.mp hd1
    obtain ⟨m1, m2⟩ := List.mem_filter.mp he1
    refine gs_seqX (gs_setX (ge_call (ga_cons (ge_var rfl) (ga_cons (ge_op (ge_lstD (K := K) (ga_cons (ge_int (K := K)) ga_nil) (.cons .nil) (by show 1 ≤ 1000; decide)) (ge_call (ga_cons (ge_var rfl) (ga_cons (ge_var rfl) ga_nil)) ⟨es, n, by omega, rfl, rfl, rfl⟩) (gr_cat (by rw [List.length_map]; show 1 + _ ≤ _; omega))) ga_nil)) (ask _ (by simp) (by rw [List.length_append, List.length_map]; show 1 + _ < _; omega)))) fun d2 hd2 => ?_
    obtain ⟨v2, hv2, rfl⟩ : ∃ v : Int, (v = 0 ∨ ∃ e ∈ es, e.nm = n ∧ e.ver = v) ∧ d2 = .int v := by
      rcases List.mem_append.mp hd2 with h | h
      · exact ⟨0, .inl rfl, List.mem_singleton.mp h⟩
      · obtain ⟨e, he, rfl⟩ := List.mem_map.mp h
        obtain ⟨h1, h2⟩ := List.mem_filter.mp he
        exact ⟨_, .inr ⟨e, h1, of_decide_eq_true h2, rfl⟩, rfl⟩
    refine gs_seqX (gs_setX (ge_call (ga_cons (ge_var rfl) (ga_cons (ge_lstD (K := K) (ga_cons (ge_str (K := K)) (ga_cons (ge_str (K := K)) (ga_cons (ge_str (K := K)) (ga_cons (ge_str (K := K)) (ga_cons (ge_str (K := K)) (ga_cons (ge_str (K := K)) (ga_cons (ge_str (K := K)) ga_nil))))))) (.cons (.cons (.cons (.cons (.cons (.cons (.cons .nil))))))) (by show 7 ≤ 1000; decide)) ga_nil)) (ask _ (by show 0 < 7; decide) (by show 7 < 1000; decide)))) fun d3 hd3 => ?_
    obtain ⟨st, hst, rfl⟩ : ∃ st : Str, st ∈ allSt ∧ d3 = .str st := by
      have hd3 : d3 ∈ [sAb, sFa, sHa, sLe, sRe, sUn, sRe].map PyData.str := hd3
      obtain ⟨st, h1, rfl⟩ := List.mem_map.mp hd3
      exact ⟨st, (by decide +kernel : ∀ x ∈ [sAb, sFa, sHa, sLe, sRe, sUn, sRe], x ∈ allSt) st h1, rfl⟩
    refine gs_ifs (gt_val (K := K) (ge_op (ge_var rfl) (ge_str (K := K)) gr_eqS)) (fun b1 => gs_retS (ge_tupD (K := K) (ga_cons (ge_str (K := K)) (ga_cons (ge_int (K := K)) (ga_cons (ge_int (K := K)) ga_nil))) (.cons (.cons (.cons .nil))) (by show 3 ≤ 1000; decide)) fun v H j p => ⟨⟨⟨sAb, 0, 0⟩, by show isState es n ⟨sAb, 0, 0⟩ = true; unfold isState; rw [if_pos (decide_eq_true rfl)]; rfl, p⟩, j⟩) (fun b1 => gs_nextS (gs_ret (ge_tupD (K := K) (ga_cons (ge_var rfl) (ga_cons (ge_var rfl) (ga_cons (ge_if (φ := Is K (.int (if st = sRe then e1.ver else v2))) (gt_val (K := K) (ge_op (ge_var rfl) (ge_str (K := K)) gr_eqS)) (fun b => by rw [if_pos (of_decide_eq_true b)]; exact ge_var rfl) (fun b => by rw [if_neg (of_decide_eq_false b)]; exact ge_var rfl)) ga_nil))) (.cons (.cons (.cons .nil))) (by show 3 ≤ 1000; decide)) fun v H j p => ⟨⟨⟨st, e1.ver, if st = sRe then e1.ver else v2⟩, ?_, p⟩, j⟩))
    have n1 : ¬ st = sAb := of_decide_eq_false b1
    have f1 := hfind e1.ver ⟨e1, m1, of_decide_eq_true m2, rfl⟩
    show isState es n ⟨st, e1.ver, if st = sRe then e1.ver else v2⟩ = true
    unfold isState
    rw [if_neg (by rw [decide_eq_false n1]; exact Bool.false_ne_true)]
    rw [decide_eq_true hst, f1]
    by_cases hr2 : st = sRe
    · simp [hr2, f1]
    · rcases hv2 with rfl | hv2
      · simp [hr2]
      · simp [hr2, hfind v2 hv2]
    all_goals skip
-- slots: 0=_law_row 1=_law_some_here 2=_law_name 3=_law_version 4=_law_done 5=_law_status  uses: ['_law_pick', '_law_versions']

end
end Hs
set_option Elab.async false
set_option linter.all false
set_option maxRecDepth 100000
set_option maxHeartbeats 4000000
namespace Hs
open PySem PySem.Spec PyProof.Rows L2 StX
section
variable {P : Program} {w : World} {K : PySem.W.Frag} {mg : Str → Option Value} {base : Heap}
abbrev N_law_states : List Str := ["_law_row", "_law_some_here", "_law_name"]
theorem sc_law_states : FnScope N_law_states ["_law_row", "_law_some_here"] (defScope s_law_states) := ⟨rfl, rfl, rfl, by decide +kernel, rfl, by decide +kernel, by decide +kernel⟩
theorem ok_law_states (T : Tx K mg) : FnR P w K mg base CX0 4 (a_law_states K) (spC (ct_law_states K)) := by
  obtain ⟨fd, F⟩ := T.f_law_states
  have nd := sc_law_states.nd
  refine ok_of (He5.fun_of F) sc_law_states (F.bindsN fun _ _ _ _ _ _ us hl => match us, hl with | [_, _], _ => rfl) ?_ fun cdv A outer s H E hr => have hu := hu_of hr; have hu0 := hr.units0; ⟨_, (pss_one (ps_ret (pe_callTy (call_dictP rfl) (by rfl) T.n_dict (by decide +kernel) (pa_cons (pe_lc (own := [("_law_name", 2)]) (g := gName 2) (tt := tYes) rfl nd (pi_listK K (pe_callR (ok_law_names T) (hr.mono (by decide)) rfl T.g__law_names T.k__law_names pass0 (pa_cons (pv 1) pa_nil))) (blkOk_by (own := [("_law_name", 2)]) (N := N_law_states) (sc := defScope s_law_states) (by decide +kernel)) (fun _ _ _ _ _ => pg_name (i := 2) nd rfl (Or.inl rfl)) (fun _ _ _ _ _ => pts_nil) (fun _ _ _ _ _ => (pe_tup (pa_cons (pv 2) (pa_cons (pe_callR (ok_law_state T) (hr.mono (by decide)) rfl T.g__law_state T.k__law_state pass0 (pa_cons (pv 0) (pa_cons (pv 1) (pa_cons (pv 2) pa_nil)))) pa_nil))))) pa_nil)))), ?_⟩
  · rintro S ⟨I, J, ins, out⟩ ⟨r, sv, sc, es, ns, hI, he, h1, h2, h3⟩
    dsimp only at h2 ⊢
    subst h2
    rfl
  · rintro S ⟨I, J, ins, out⟩ ⟨r, sv, sc, es, ns, hI, he, h1, h2, h3⟩
    dsimp only at h1 h2 h3
    subst h1 h2 h3
    refine gs_retF ((ge_cb (ga_cons (((ge_lcAll (K := K) ns (fun x => Is K (.str x)) (fun x d => ∃ s : S3, isState es x s = true ∧ d = pairD (x, s)) (gi_listM (ge_call (ga_cons (ge_var rfl) ga_nil) ⟨es, ns, he, rfl, rfl, rfl⟩)) (Nat.le_trans he.few (by decide)) fun x S' I' ext hx => ⟨_, _, (fun _ h => h), gg_name, (ge_tup (K := K) (ga_cons (ge_var rfl) (ga_cons (ge_call (ga_cons (ge_var rfl) (ga_cons (ge_var rfl) (ga_cons (ge_var rfl) ga_nil))) ⟨r, sv, sc, es, x, hI.ext ext, Nat.le_trans he.le (by decide), he.has x hx, rfl, rfl, rfl⟩) ga_nil)) (by show 2 ≤ 1000; decide)).wk fun v H _ p => ?_⟩).wk (ψ := Exs (fun R : Rows => RowsOk es ns R) fun R => Is K (.list (R.map pairD))) fun v H _ p => ?_)) ga_nil) (gc_exs fun R hR => gc_dictP (hR.nd he))))
    · obtain ⟨a, xs, rfl, h1, v1, ws, rfl, h2, v2, ws', rfl, ⟨s, hs, h3⟩, rfl⟩ := p
      obtain rfl := Da.str_of h2
      exact ⟨_, ⟨s, hs, rfl⟩, .tup h1 (.cons (.str _) (.cons h3 .nil))⟩
    · obtain ⟨ds, hd, p⟩ := p
      have key : ∀ {xs : List Str} {ds : List PyData}, All2 (fun x d => ∃ s : S3, isState es x s = true ∧ d = pairD (x, s)) xs ds → ∃ R : Rows, ds = R.map pairD ∧ R.map Prod.fst = xs ∧ ∀ r ∈ R, isState es r.1 r.2 = true := by
        intro xs ds h
        induction h with
        | nil => exact ⟨[], rfl, rfl, fun r hr => by cases hr⟩
        | cons e _ ih =>
          obtain ⟨s, h1, rfl⟩ := e
          obtain ⟨R, h2, h3, h4⟩ := ih
          exact ⟨(_, s) :: R, by rw [h2]; rfl, by rw [← h3]; rfl, fun r hr => (List.mem_cons.mp hr).elim (fun z => by rw [z]; exact h1) (h4 r)⟩
      obtain ⟨R, rfl, h3, h4⟩ := key hd
      exact ⟨R, ⟨h3, h4⟩, p⟩
    all_goals skip
-- slots: 0=_law_row 1=_law_some_here 2=_law_name  uses: ['_law_names', '_law_state']

end
end Hs
set_option Elab.async false
set_option linter.all false
set_option maxRecDepth 100000
set_option maxHeartbeats 4000000
namespace Hs
open PySem PySem.Spec PyProof.Rows L2 StX
section
variable {P : Program} {w : World} {K : PySem.W.Frag} {mg : Str → Option Value} {base : Heap}
abbrev N_State_init : List Str := ["self", "whole", "past", "undone"]
theorem sc_State_init : FnScope N_State_init ["self", "whole", "past", "undone"] (defScope s_State_init) := ⟨rfl, rfl, rfl, by decide +kernel, rfl, by decide +kernel, by decide +kernel⟩
theorem ok_State_init (T : Ty K mg) : FnR P w K mg base CX0 1 (a_State_init K) (spSt K) := by
  obtain ⟨fd, F⟩ := T.f_State_init
  have nd := sc_State_init.nd
  have h : FnOk P w K mg base CX0 1 (a_State_init K) fd ["self", "whole", "past", "undone"] (spSt K) := (He5.fun_of F).ok sc_State_init (fun vs H Q E hh => by obtain ⟨x, t, vp, vu, a, b, c, dx, rfl, hx, hne, ht, q⟩ := hh; rfl) fun cdv A outer s H vs Q E hr hsp => ⟨_, (pss_cons (ps_asg (pv 1) (pg_tupK K rfl (pgs_cons (pg_slotK K (pv 0)) (pgs_cons (pg_slotK K (pv 0)) (pgs_cons (pg_slotK K (pv 0)) pgs_nil)))))
    (pss_cons (ps_slK K (pv 0) (pv 2) rfl)
    (pss_one (ps_slK K (pv 0) (pv 3) rfl)))), by
    obtain ⟨x, t, vp, vu, a, b, c, dx, rfl, hx, hne, ht, q⟩ := hsp
    obtain ⟨p0, s0⟩ := T.sl_count
    obtain ⟨p1, s1⟩ := T.sl_past
    obtain ⟨p2, s2⟩ := T.sl_present
    obtain ⟨p3, s3⟩ := T.sl_shelf
    obtain ⟨p4, s4⟩ := T.sl_undone
    refine ⟨_, rfl, t, _, rfl, ht, rfl, a, _, rfl, _, rfl, x, _, dx, p2, _, 2, rfl, .inl ⟨hx, rfl⟩, T.S, s2, b, _, rfl, _, rfl, x, _, dx, p0, _, 0, rfl, SlX.slH_slt hne, T.S, s0, c, _, rfl, _, rfl, x, _, dx, p3, _, 3, rfl, SlX.slH_slt hne, T.S, s3, rfl, ?_⟩
    refine ⟨_, rfl, _, rfl, x, _, dx, p1, _, 1, rfl, SlX.slH_slt hne, T.S, s1, ?_⟩
    refine ⟨_, rfl, _, rfl, x, _, dx, p4, _, 4, rfl, SlX.slH_slt hne, T.S, s4, ?_⟩
    rw [puts0]
    refine q _ (fun y h1 h2 => ?_) ?_ ?_
    · rw [SlX.slH_ne h1 h2, SlX.slH_ne h1 h2, SlX.slH_ne h1 h2, SlX.slH_ne h1 h2, SlX.slH_ne h1 h2]
    · exact upd_same
    · exact (upd_ne hne).trans upd_same⟩
  exact (h.raw (F.bindsN fun _ _ _ _ _ _ us hl => match us, hl with | [_, _, _, _], _ => rfl) .nil).imp fun vs H Q E q => by rw [List.append_nil]; exact q
-- slots: 0=self 1=whole 2=past 3=undone  uses: []

end
end Hs
set_option Elab.async false
set_option linter.all false
set_option maxRecDepth 100000
set_option maxHeartbeats 4000000
namespace Hs
open PySem PySem.Spec PyProof.Rows L2 StX
section
variable {P : Program} {w : World} {K : PySem.W.Frag} {mg : Str → Option Value} {base : Heap}
abbrev N_Desk_init : List Str := ["self", "system"]
theorem sc_Desk_init : FnScope N_Desk_init ["self", "system"] (defScope s_Desk_init) := ⟨rfl, rfl, rfl, by decide +kernel, rfl, by decide +kernel, by decide +kernel⟩
theorem ok_Desk_init (T : Ty K mg) : FnR P w K mg base CX0 3 (a_Desk_init K) (spDesk K) := by
  obtain ⟨fd, F⟩ := T.f_Desk_init
  have nd := sc_Desk_init.nd
  have h : FnOk P w K mg base CX0 3 (a_Desk_init K) fd ["self", "system"] (spDesk K) := (He5.fun_of F).ok sc_Desk_init (fun vs H Q E hh => by obtain ⟨x, v, dx, rfl, hx, q⟩ := hh; rfl) fun cdv A outer s H vs Q E hr hsp => ⟨_, (pss_one (ps_fld (pv 0) (pe_makeR T.mk_State (ok_State_init T) (hr.mono (by decide)) rfl T.g_State pass0 (pa_cons (pe_tup (pa_cons (pv 1) (pa_cons pe_int (pa_cons pe_dnewK pa_nil)))) (pa_cons (pe_tup pa_nil) (pa_cons (pe_tup pa_nil) pa_nil)))) rfl)), by
    obtain ⟨x, v, dx, rfl, hx, q⟩ := hsp
    refine ⟨_, rfl, fun pd h5 => ⟨Nat.le_trans (by show 3 ≤ 1000; decide) (by decide), fun t ht => ⟨Nat.le_trans (by show 0 ≤ 1000; decide) (by decide), fun pt h3 => ⟨Nat.le_trans (by show 0 ≤ 1000; decide) (by decide), fun pu h4 => fun st ds h1 h2 hne => ?_⟩⟩⟩⟩
    obtain ⟨ht, t1⟩ := upd_none ht
    obtain ⟨h3, p1⟩ := upd_none h3
    obtain ⟨h3, p2⟩ := upd_none h3
    obtain ⟨h4, u1⟩ := upd_none h4
    obtain ⟨h4, u2⟩ := upd_none h4
    obtain ⟨h4, u3⟩ := upd_none h4
    obtain ⟨h1, s1⟩ := upd_none h1
    obtain ⟨h1, s2⟩ := upd_none h1
    obtain ⟨h1, s3⟩ := upd_none h1
    obtain ⟨h1, s4⟩ := upd_none h1
    obtain ⟨h2, d1⟩ := upd_none h2
    obtain ⟨h2, d2⟩ := upd_none h2
    obtain ⟨h2, d3⟩ := upd_none h2
    obtain ⟨h2, d4⟩ := upd_none h2
    refine ⟨st, t, .ref pt, .ref pu, v, .int 0, .ref pd, ds, rfl, upd_same, hne, .inl (.inl (by rw [upd_ne (Ne.symm s3), upd_ne (Ne.symm d3), upd_ne (Ne.symm u2), upd_ne (Ne.symm p1), upd_same])), fun H5 k1 k2 k3 => ⟨rfl, _, rfl, x, _, dx, [], rfl, ?_, T.c_Desk, T.na_Desk_state, by show 0 < 1000; decide, ?_⟩⟩
    · rw [k1 x (ne_of_none hx h1) (ne_of_none hx h2), upd_ne (ne_of_none hx h1), upd_ne (ne_of_none hx h2), upd_ne (ne_of_none hx h4), upd_ne (ne_of_none hx h3), upd_ne (ne_of_none hx ht), upd_ne (ne_of_none hx h5)]
      exact hx
    · refine q _ st ds pt pu pd h1 h2 h3 h4 h5 hne u1 (fun a o na ha => ?_) upd_same ?_ ?_ ?_ ?_ ?_
      · rw [upd_ne na, k1 a (ne_of_none ha h1) (ne_of_none ha h2), upd_ne (ne_of_none ha h1), upd_ne (ne_of_none ha h2), upd_ne (ne_of_none ha h4), upd_ne (ne_of_none ha h3), upd_ne (ne_of_none ha ht), upd_ne (ne_of_none ha h5)]
        exact ha
      · rw [upd_ne (Ne.symm (ne_of_none hx h1))]
        exact k2
      · rw [upd_ne (Ne.symm (ne_of_none hx h2)), k3]
      · rw [upd_ne (Ne.symm (ne_of_none hx h3)), k1 _ (Ne.symm s2) (Ne.symm d2), upd_ne (Ne.symm s2), upd_ne (Ne.symm d2), upd_ne (Ne.symm u1), upd_same]
      · rw [upd_ne (Ne.symm (ne_of_none hx h4)), k1 _ (Ne.symm s1) (Ne.symm d1), upd_ne (Ne.symm s1), upd_ne (Ne.symm d1), upd_same]
      · rw [upd_ne (Ne.symm (ne_of_none hx h5)), k1 _ (Ne.symm s4) (Ne.symm d4), upd_ne (Ne.symm s4), upd_ne (Ne.symm d4), upd_ne (Ne.symm u3), upd_ne (Ne.symm p2), upd_ne (Ne.symm t1), upd_same]⟩
  exact (h.raw (F.bindsN fun _ _ _ _ _ _ us hl => match us, hl with | [_, _], _ => rfl) .nil).imp fun vs H Q E q => by rw [List.append_nil]; exact q
-- slots: 0=self 1=system  uses: ['State.__init__']

end
end Hs
set_option Elab.async false
set_option linter.all false
set_option maxRecDepth 100000
set_option maxHeartbeats 4000000
namespace Hs
open PySem PySem.Spec PyProof.Rows L2 StX
section
variable {P : Program} {w : World} {K : PySem.W.Frag} {mg : Str → Option Value} {base : Heap}
abbrev N_State_all_three : List Str := ["self"]
theorem sc_State_all_three : FnScope N_State_all_three ["self"] (defScope s_State_all_three) := ⟨rfl, rfl, rfl, by decide +kernel, rfl, by decide +kernel, by decide +kernel⟩
theorem ok_State_all_three (T : Ty K mg) : FnR P w K mg base CX0 1 (a_State_all_three K) (spC (ct_State_all_three K)) := by
  obtain ⟨fd, F⟩ := T.f_State_all_three
  have nd := sc_State_all_three.nd
  refine ok_of (He5.fun_of F) sc_State_all_three (F.bindsN fun _ _ _ _ _ _ us hl => match us, hl with | [_], _ => rfl) ?_ fun cdv A outer s H E hr => have hu := hu_of hr; have hu0 := hr.units0; ⟨_, (pss_one (ps_ret (pe_tup (pa_cons (pe_slK K (pv 0) rfl) (pa_cons (pe_slK K (pv 0) rfl) (pa_cons (pe_slK K (pv 0) rfl) pa_nil)))))), ?_⟩
  · rintro S ⟨I, J, ins, out⟩ ⟨st, ds, F, a, b, c, u, v, hF, h0, h1, h2, h3⟩
    dsimp only at h2 ⊢
    subst h2
    rfl
  · rintro S ⟨I, J, ins, out⟩ ⟨st, ds, F, a, b, c, u, v, hF, h0, h1, h2, h3⟩
    dsimp only at h0
    subst h0
    dsimp only at h1 h2 h3
    subst h1 h2 h3
    exact gs_ret (ge_tup (K := K) (ga_cons (ge_slot hF (ge_var rfl) T.S T.sl_present rfl) (ga_cons (ge_slot hF (ge_var rfl) T.S T.sl_count rfl) (ga_cons (ge_slot hF (ge_var rfl) T.S T.sl_shelf rfl) ga_nil))) (by show 3 ≤ 1000; decide)) fun v H j p => ⟨p, j⟩
    all_goals skip
-- slots: 0=self  uses: []

end
end Hs
set_option Elab.async false
set_option linter.all false
set_option maxRecDepth 100000
set_option maxHeartbeats 4000000
namespace Hs
open PySem PySem.Spec PyProof.Rows L2 StX
section
variable {P : Program} {w : World} {K : PySem.W.Frag} {mg : Str → Option Value} {base : Heap}
abbrev N_State_go_back : List Str := ["self", "operation", "whole"]
theorem sc_State_go_back : FnScope N_State_go_back ["self"] (defScope s_State_go_back) := ⟨rfl, rfl, rfl, by decide +kernel, rfl, by decide +kernel, by decide +kernel⟩
theorem ok_State_go_back (T : Ty K mg) : FnR P w K mg base CX0 2 (a_State_go_back K) (spC (ct_State_go_back K)) := by
  obtain ⟨fd, F⟩ := T.f_State_go_back
  have nd := sc_State_go_back.nd
  refine ok_of (He5.fun_of F) sc_State_go_back (F.bindsN fun _ _ _ _ _ _ us hl => match us, hl with | [_], _ => rfl) ?_ fun cdv A outer s H E hr => have hu := hu_of hr; have hu0 := hr.units0; ⟨_, (pss_cons (ps_asg (pe_ix (ix_tupK K) (pe_slK K (pv 0) rfl) (pe_un un_neg pe_int) (fun _ _ => rfl)) (pg_tupK K rfl (pgs_cons (pg_name (i := 1) nd rfl (.inl rfl)) (pgs_cons (pg_name (i := 2) nd rfl (.inl rfl)) pgs_nil))))
    (pss_cons (ps_slK K (pv 0) (pe_tup (pa_starK K (pe_slK K (pv 0) rfl) (pa_cons (pe_tup (pa_cons (pv 1) (pa_cons (SlX.pe_methSl0 (pv 0) T.S T.m_State_all_three (ok_State_all_three T) (hr.mono (by decide)) pass0) pa_nil))) pa_nil))) rfl)
    (pss_cons (ps_slK K (pv 0) (pe_slice (sl_tupAK K) (pe_slK K (pv 0) rfl) po_none (po_some (pe_un un_neg pe_int))) rfl)
    (pss_one (ps_asg (pv 2) (pg_tupK K rfl (pgs_cons (pg_slotK K (pv 0)) (pgs_cons (pg_slotK K (pv 0)) (pgs_cons (pg_slotK K (pv 0)) pgs_nil))))))))), ?_⟩
  · rintro S ⟨I, J, ins, out⟩ ⟨st, ds, F, a, b, c, ps, us, op, a', b', c', hF, hz, hz2, h0, h1, h2, h3⟩
    dsimp only at h2 ⊢
    subst h2
    rfl
  · rintro S ⟨I, J, ins, out⟩ ⟨st, ds, F, a, b, c, ps, us, op, a', b', c', hF, hz, hz2, h0, h1, h2, h3⟩
    dsimp only at h0
    subst h0
    dsimp only at h1 h2 h3
    subst h1 h2 h3
    refine gs_seq (gs_asg (ge_op (ge_slot hF (ge_var rfl) T.S T.sl_past rfl) ge_neg1 gr_ixLast) (gg_tup (gg_cons gg_name (gg_cons gg_name gg_nil)) rfl)) ?_
    refine gs_seq (gs_slot hF (ge_tup (K := K) (ga_star (ge_slot hF (ge_var rfl) T.S T.sl_undone rfl) (ga_cons (ge_tup (K := K) (ga_cons (ge_var rfl) (ga_cons (ge_methZ hF (ge_var rfl) ga_nil ⟨st, ds, F, _, _, _, _, _, hF, rfl, rfl, rfl, rfl⟩) ga_nil)) (by show 2 ≤ 1000; decide)) ga_nil)) (by rw [List.length_append]; show _ + 1 ≤ 1000; omega)) (ge_var rfl) T.S T.sl_undone (by decide : 4 < 5)) ?_
    refine gs_seq (gs_slot hF (ge_slT (ge_slot hF (ge_var rfl) T.S T.sl_past rfl) po_n po_neg1) (ge_var rfl) T.S T.sl_past (by decide : 1 < 5)) ?_
    rw [cut_last]
    exact GS.wk (gs_slot3 hF (ge_var rfl) (fun _ => ge_var rfl) (fun _ => ge_var rfl) (fun _ => ge_var rfl) T.S T.sl_present T.sl_count T.sl_shelf (by decide : 2 < 5) (by decide : 0 < 5) (by decide : 3 < 5)) fun σ H h => ⟨.non, h.2⟩
    all_goals skip
-- slots: 0=self 1=operation 2=whole  uses: ['State.all_three']

end
end Hs
set_option Elab.async false
set_option linter.all false
set_option maxRecDepth 100000
set_option maxHeartbeats 4000000
namespace Hs
open PySem PySem.Spec PyProof.Rows L2 StX
section
variable {P : Program} {w : World} {K : PySem.W.Frag} {mg : Str → Option Value} {base : Heap}
abbrev N_Desk_undo : List Str := ["self"]
theorem sc_Desk_undo : FnScope N_Desk_undo ["self"] (defScope s_Desk_undo) := ⟨rfl, rfl, rfl, by decide +kernel, rfl, by decide +kernel, by decide +kernel⟩
theorem ok_Desk_undo (T : Ty K mg) : FnR P w K mg base CX0 3 (a_Desk_undo K) (spC (ct_Desk_undo K)) := by
  obtain ⟨fd, F⟩ := T.f_Desk_undo
  have nd := sc_Desk_undo.nd
  refine ok_of (He5.fun_of F) sc_Desk_undo (F.bindsN fun _ _ _ _ _ _ us hl => match us, hl with | [_], _ => rfl) ?_ fun cdv A outer s H E hr => have hu := hu_of hr; have hu0 := hr.units0; ⟨_, (pss_cons (ps_if (pt_cmpR (op_eqE hu0) (pe_slK K (pe_fldK K (pv 0) rfl) rfl) (pe_tup pa_nil) (nomark _)) (pss_one (ps_ret pe_bl)) pss_nil)
    (pss_cons (ps_expr (SlX.pe_methSl0 (pe_fldK K (pv 0) rfl) T.S T.m_State_go_back (ok_State_go_back T) (hr.mono (by decide)) pass0))
    (pss_one (ps_ret pe_bl)))), ?_⟩
  · rintro S ⟨I, J, ins, out⟩ ⟨dk, st, ds, F, sa, es, m, hF, hz, hz2, h0, h1, h2, h3⟩
    dsimp only at h2 ⊢
    subst h2
    rfl
  · rintro S ⟨I, J, ins, out⟩ ⟨dk, st, ds, F, sa, es, m, hF, hz, hz2, h0, h1, h2, h3⟩
    dsimp only at h0
    subst h0
    dsimp only at h1 h2 h3
    subst h1 h2 h3
    obtain ⟨now, past, und⟩ := m
    rcases List.eq_nil_or_concat past with rfl | ⟨ps, ⟨op, s'⟩, rfl⟩
    · refine gs_ifs (GT.to (gt_val (K := K) (ge_op (ge_slot hF.toStF (ge_state hF T.c_Desk T.na_Desk_state (ge_var rfl)) T.S T.sl_past rfl) (ge_tupD (K := K) ga_nil .nil (by show 0 ≤ 1000; decide)) gr_eqE)) rfl) (fun _ => gs_retFS (ge_bl (K := K))) (fun b1 => Bool.noConfusion b1)
    · rw [undoM_cat]
      have hz3 : ps.length ≤ 900 := by
        have h := hz
        rw [List.concat_eq_append, List.length_append] at h
        omega
      refine gs_ifs (GT.to (gt_val (K := K) (ge_op (ge_slot hF.toStF (ge_state hF T.c_Desk T.na_Desk_state (ge_var rfl)) T.S T.sl_past rfl) (ge_tupD (K := K) ga_nil .nil (by show 0 ≤ 1000; decide)) gr_eqE)) (cat_emp (f := OpF K sa es))) (fun b1 => Bool.noConfusion b1) (fun _ => gs_nextS ?_)
      rw [undoF_cat]
      refine gs_seq (gs_drop (ge_methZ hF.toStF (ge_state hF T.c_Desk T.na_Desk_state (ge_var rfl)) ga_nil ⟨st, ds, F, _, _, _, _, _, _, _, _, _, hF.toStF, by rw [List.length_map]; exact hz3, by rw [List.length_map]; exact hz2, rfl, rfl, rfl, rfl⟩)) ?_
      exact gs_ret (ge_bl (K := K)) fun v H j p => ⟨by rw [cat_pos]; exact p, by rw [undoF_to]; exact j⟩
    all_goals skip
-- slots: 0=self  uses: ['State.go_back']

end
end Hs
set_option Elab.async false
set_option linter.all false
set_option maxRecDepth 100000
set_option maxHeartbeats 4000000
namespace Hs
open PySem PySem.Spec PyProof.Rows L2 StX
section
variable {P : Program} {w : World} {K : PySem.W.Frag} {mg : Str → Option Value} {base : Heap}
abbrev N_State_go_again : List Str := ["self", "operation", "whole"]
theorem sc_State_go_again : FnScope N_State_go_again ["self"] (defScope s_State_go_again) := ⟨rfl, rfl, rfl, by decide +kernel, rfl, by decide +kernel, by decide +kernel⟩
theorem ok_State_go_again (T : Ty K mg) : FnR P w K mg base CX0 2 (a_State_go_again K) (spC (ct_State_go_again K)) := by
  obtain ⟨fd, F⟩ := T.f_State_go_again
  have nd := sc_State_go_again.nd
  refine ok_of (He5.fun_of F) sc_State_go_again (F.bindsN fun _ _ _ _ _ _ us hl => match us, hl with | [_], _ => rfl) ?_ fun cdv A outer s H E hr => have hu := hu_of hr; have hu0 := hr.units0; ⟨_, (pss_cons (ps_asg (pe_ix (ix_tupK K) (pe_slK K (pv 0) rfl) (pe_un un_neg pe_int) (fun _ _ => rfl)) (pg_tupK K rfl (pgs_cons (pg_name (i := 1) nd rfl (.inl rfl)) (pgs_cons (pg_name (i := 2) nd rfl (.inl rfl)) pgs_nil))))
    (pss_cons (ps_slK K (pv 0) (pe_tup (pa_starK K (pe_slK K (pv 0) rfl) (pa_cons (pe_tup (pa_cons (pv 1) (pa_cons (SlX.pe_methSl0 (pv 0) T.S T.m_State_all_three (ok_State_all_three T) (hr.mono (by decide)) pass0) pa_nil))) pa_nil))) rfl)
    (pss_cons (ps_slK K (pv 0) (pe_slice (sl_tupAK K) (pe_slK K (pv 0) rfl) po_none (po_some (pe_un un_neg pe_int))) rfl)
    (pss_one (ps_asg (pv 2) (pg_tupK K rfl (pgs_cons (pg_slotK K (pv 0)) (pgs_cons (pg_slotK K (pv 0)) (pgs_cons (pg_slotK K (pv 0)) pgs_nil))))))))), ?_⟩
  · rintro S ⟨I, J, ins, out⟩ ⟨st, ds, F, a, b, c, ps, us, op, a', b', c', hF, hz, hz2, h0, h1, h2, h3⟩
    dsimp only at h2 ⊢
    subst h2
    rfl
  · rintro S ⟨I, J, ins, out⟩ ⟨st, ds, F, a, b, c, ps, us, op, a', b', c', hF, hz, hz2, h0, h1, h2, h3⟩
    dsimp only at h0
    subst h0
    dsimp only at h1 h2 h3
    subst h1 h2 h3
    refine gs_seq (gs_asg (ge_op (ge_slot hF (ge_var rfl) T.S T.sl_undone rfl) ge_neg1 gr_ixLast) (gg_tup (gg_cons gg_name (gg_cons gg_name gg_nil)) rfl)) ?_
    refine gs_seq (gs_slot hF (ge_tup (K := K) (ga_star (ge_slot hF (ge_var rfl) T.S T.sl_past rfl) (ga_cons (ge_tup (K := K) (ga_cons (ge_var rfl) (ga_cons (ge_methZ hF (ge_var rfl) ga_nil ⟨st, ds, F, _, _, _, _, _, hF, rfl, rfl, rfl, rfl⟩) ga_nil)) (by show 2 ≤ 1000; decide)) ga_nil)) (by rw [List.length_append]; show _ + 1 ≤ 1000; omega)) (ge_var rfl) T.S T.sl_past (by decide : 1 < 5)) ?_
    refine gs_seq (gs_slot hF (ge_slT (ge_slot hF (ge_var rfl) T.S T.sl_undone rfl) po_n po_neg1) (ge_var rfl) T.S T.sl_undone (by decide : 4 < 5)) ?_
    rw [cut_last]
    exact GS.wk (gs_slot3 hF (ge_var rfl) (fun _ => ge_var rfl) (fun _ => ge_var rfl) (fun _ => ge_var rfl) T.S T.sl_present T.sl_count T.sl_shelf (by decide : 2 < 5) (by decide : 0 < 5) (by decide : 3 < 5)) fun σ H h => ⟨.non, h.2⟩
    all_goals skip
-- slots: 0=self 1=operation 2=whole  uses: ['State.all_three']

end
end Hs
set_option Elab.async false
set_option linter.all false
set_option maxRecDepth 100000
set_option maxHeartbeats 4000000
namespace Hs
open PySem PySem.Spec PyProof.Rows L2 StX
section
variable {P : Program} {w : World} {K : PySem.W.Frag} {mg : Str → Option Value} {base : Heap}
abbrev N_Desk_redo : List Str := ["self"]
theorem sc_Desk_redo : FnScope N_Desk_redo ["self"] (defScope s_Desk_redo) := ⟨rfl, rfl, rfl, by decide +kernel, rfl, by decide +kernel, by decide +kernel⟩
theorem ok_Desk_redo (T : Ty K mg) : FnR P w K mg base CX0 3 (a_Desk_redo K) (spC (ct_Desk_redo K)) := by
  obtain ⟨fd, F⟩ := T.f_Desk_redo
  have nd := sc_Desk_redo.nd
  refine ok_of (He5.fun_of F) sc_Desk_redo (F.bindsN fun _ _ _ _ _ _ us hl => match us, hl with | [_], _ => rfl) ?_ fun cdv A outer s H E hr => have hu := hu_of hr; have hu0 := hr.units0; ⟨_, (pss_cons (ps_if (pt_cmpR (op_eqE hu0) (pe_slK K (pe_fldK K (pv 0) rfl) rfl) (pe_tup pa_nil) (nomark _)) (pss_one (ps_ret pe_bl)) pss_nil)
    (pss_cons (ps_expr (SlX.pe_methSl0 (pe_fldK K (pv 0) rfl) T.S T.m_State_go_again (ok_State_go_again T) (hr.mono (by decide)) pass0))
    (pss_one (ps_ret pe_bl)))), ?_⟩
  · rintro S ⟨I, J, ins, out⟩ ⟨dk, st, ds, F, sa, es, m, hF, hz, hz2, h0, h1, h2, h3⟩
    dsimp only at h2 ⊢
    subst h2
    rfl
  · rintro S ⟨I, J, ins, out⟩ ⟨dk, st, ds, F, sa, es, m, hF, hz, hz2, h0, h1, h2, h3⟩
    dsimp only at h0
    subst h0
    dsimp only at h1 h2 h3
    subst h1 h2 h3
    obtain ⟨now, past, und⟩ := m
    rcases List.eq_nil_or_concat und with rfl | ⟨us, ⟨op, s'⟩, rfl⟩
    · refine gs_ifs (GT.to (gt_val (K := K) (ge_op (ge_slot hF.toStF (ge_state hF T.c_Desk T.na_Desk_state (ge_var rfl)) T.S T.sl_undone rfl) (ge_tupD (K := K) ga_nil .nil (by show 0 ≤ 1000; decide)) gr_eqE)) rfl) (fun _ => gs_retFS (ge_bl (K := K))) (fun b1 => Bool.noConfusion b1)
    · rw [redoM_cat]
      have hz3 : us.length ≤ 900 := by
        have h := hz2
        rw [List.concat_eq_append, List.length_append] at h
        omega
      refine gs_ifs (GT.to (gt_val (K := K) (ge_op (ge_slot hF.toStF (ge_state hF T.c_Desk T.na_Desk_state (ge_var rfl)) T.S T.sl_undone rfl) (ge_tupD (K := K) ga_nil .nil (by show 0 ≤ 1000; decide)) gr_eqE)) (cat_emp (f := OpF K sa es))) (fun b1 => Bool.noConfusion b1) (fun _ => gs_nextS ?_)
      rw [redoF_cat]
      refine gs_seq (gs_drop (ge_methZ hF.toStF (ge_state hF T.c_Desk T.na_Desk_state (ge_var rfl)) ga_nil ⟨st, ds, F, _, _, _, _, _, _, _, _, _, hF.toStF, by rw [List.length_map]; exact hz, by rw [List.length_map]; exact hz3, rfl, rfl, rfl, rfl⟩)) ?_
      exact gs_ret (ge_bl (K := K)) fun v H j p => ⟨by rw [cat_pos]; exact p, by rw [redoF_to]; exact j⟩
    all_goals skip
-- slots: 0=self  uses: ['State.go_again']

end
end Hs
set_option Elab.async false
set_option linter.all false
set_option maxRecDepth 100000
set_option maxHeartbeats 4000000
namespace Hs
open PySem PySem.Spec PyProof.Rows L2 StX
section
variable {P : Program} {w : World} {K : PySem.W.Frag} {mg : Str → Option Value} {base : Heap}
abbrev N_law_hostile : List Str := ["_law_some_here", "_law_states_here", "_law_edition_here", "_law_found", "_law_name", "_law_other"]
theorem sc_law_hostile : FnScope N_law_hostile ["_law_some_here", "_law_states_here", "_law_edition_here"] (defScope s_law_hostile) := ⟨rfl, rfl, rfl, by decide +kernel, rfl, by decide +kernel, by decide +kernel⟩
theorem ok_law_hostile (T : Tx K mg) : FnR P w K mg base CX0 2 (a_law_hostile K) (spC (ct_law_hostile K)) := by
  obtain ⟨fd, F⟩ := T.f_law_hostile
  have nd := sc_law_hostile.nd
  refine ok_of (He5.fun_of F) sc_law_hostile (F.bindsN fun _ _ _ _ _ _ us hl => match us, hl with | [_, _, _], _ => rfl) ?_ fun cdv A outer s H E hr => have hu := hu_of hr; have hu0 := hr.units0; ⟨_, (pss_cons (ps_set (i := 3) nd rfl (.inl rfl) (pe_lst pa_nil))
    (pss_cons (ps_for PassesOwn.never rfl (pi_listK K (pe_callB (call_sortedD rfl) (by rfl) T.n_sorted (by decide +kernel) (pa_cons (pv 1) pa_nil))) (pg_name (i := 4) nd rfl (.inl rfl))
    (pss_one (ps_if (PW.pt (pw_and (pt_cmpR op_ne (pv 4) (pe_ix (ix_tupK K) (pv 2) pe_int (fun _ _ => rfl)) (nomark _)) (pw_and1 (pt_val (pe_callR (ok_law_there T) (hr.mono (by decide)) rfl T.g__law_there T.k__law_there pass0 (pa_cons (pv 1) (pa_cons (pv 4) pa_nil))))))) (pss_cons (ps_set (i := 5) nd rfl (.inl rfl) (pe_callR (ok_law_edition T) (hr.mono (by decide)) rfl T.g__law_edition T.k__law_edition pass0 (pa_cons (pv 0) (pa_cons (pv 4) (pa_cons (pe_ix (ix_tupK K) (pe_dget hu (pv 1) (pv 4) (fun _ _ => rfl)) pe_int (fun _ _ => rfl)) pa_nil)))))
    (pss_one (ps_if (PW.pt (pw_or (pt_cmpR (op_inK K) (pv 4) (pe_ix (ix_tupK K) (pv 2) pe_int (fun _ _ => rfl)) (by rfl)) (pw_or1 (pt_cmpR (op_inK K) (pe_ix (ix_tupK K) (pv 2) pe_int (fun _ _ => rfl)) (pe_ix (ix_tupK K) (pv 5) pe_int (fun _ _ => rfl)) (by rfl))))) (pss_one (ps_expr (pe_bm PySem.F.plainAttrs_list PySem.F.slot_list_append PySem.F.type_list_append mt_append (pv 3) (pa_cons (pv 4) pa_nil)))) pss_nil))) pss_nil)))
    (pss_one (ps_ret (pv 3))))), ?_⟩
  · rintro S ⟨I, J, ins, out⟩ ⟨es, ns, R, e, he, hr', hs, h1, h2, h3⟩
    dsimp only at h2 ⊢
    subst h2
    rfl
  · rintro S ⟨I, J, ins, out⟩ ⟨es, ns, R, e, he, hr', hs, h1, h2, h3⟩
    dsimp only at h1 h2 h3
    subst h1 h2 h3
    refine gs_acc fun p np => gs_forS (fun _ : List Str => [some (Is K (edsD es)), some (Dct (rowsF K R)), some (Is K (edD e)), some (Eqv (.ref p)), none, none]) (fun b => J.acc p (b.map fun x => Is K (.str x))) (fun i b => b = (ns.take i).filter fun n => hostAt es R e n) [] (gi_listM (f := PyData.str) (ge_cb (ga_cons (ge_var rfl) ga_nil) (gc_sortedNs he hr'))) rfl (.s (.s (.s (.s (.s (.s .nil)))))) (fun _ h => h) (fun i ψ b hψ hb => ?_) fun b hb => ?_
    · rw [List.getElem?_map] at hψ
      cases hx : ns[i]? with
      | none => rw [hx] at hψ; cases hψ
      | some x =>
        rw [hx] at hψ
        cases hψ
        have hi : i < ns.length := (List.getElem?_eq_some_iff.mp hx).1
        have e1 : ns.take (i + 1) = ns.take i ++ [x] := by rw [List.take_succ_eq_append_getElem hi, (List.getElem?_eq_some_iff.mp hx).2]
        have hxn : x ∈ ns := List.mem_of_getElem? hx
        have hl : (lk R x).isSome = true := lk_isSome.mpr (by rw [hr'.keys]; exact hxn)
        have bl : (b.map fun x => Is K (.str x)).length ≤ 1000 := by
          rw [List.length_map, hb]
          refine Nat.le_trans (List.length_filter_le _ _) ?_
          rw [List.length_take]
          have := he.few
          omega
        have yes : hostAt es R e x = true → b ++ [x] = (ns.take (i + 1)).filter fun n => hostAt es R e n := fun h => by rw [e1, List.filter_append, List.filter_cons_of_pos h, List.filter_nil, hb]
        have no : hostAt es R e x = false → b = (ns.take (i + 1)).filter fun n => hostAt es R e n := fun h => by rw [e1, List.filter_append, List.filter_cons_of_neg (by rw [h]; decide), List.filter_nil, List.append_nil, hb]
        refine ⟨_, _, gg_name, gs_if (gt_and (gt_val (K := K) (ge_op (ge_var rfl) (ge_op (ge_var rfl) (ge_int (K := K)) (gr_ixD (by decide) rfl)) gr_neS)) fun _ => gt_valB (K := K) (ge_call (ga_cons (ge_var rfl) (ga_cons (ge_var rfl) ga_nil)) ⟨R, x, rfl, rfl, rfl⟩)) (fun b1 => ?_) (fun b1 => gs_turn b gs_next (no ?_) (.s (.s (.s (.s (.n (.s .nil)))))) fun _ h => h)⟩
        · have ht : isThere R x = true := (Bool.and_eq_true_iff.mp b1).2
          refine gs_seq (gs_set (ge_call (ga_cons (ge_var rfl) (ga_cons (ge_var rfl) (ga_cons (ge_op (ge_rget (ge_var rfl) (ge_var rfl) hl) (ge_int (K := K)) (gr_ixD (by decide) rfl)) ga_nil))) ⟨es, x, (rowAt R x).ver, Nat.le_trans he.le (by decide), fun q hq => hs _ (he.mem q hq), hs x hxn, ?_, rfl, rfl, rfl⟩)) (gs_if (gt_or (gt_val (K := K) (ge_op (ge_var rfl) (ge_op (ge_var rfl) (ge_int (K := K)) (gr_ixD (by decide) rfl)) gr_inS)) fun _ => gt_val (K := K) (ge_op (ge_op (ge_var rfl) (ge_int (K := K)) (gr_ixD (by decide) rfl)) (ge_op (ge_var rfl) (ge_int (K := K)) (gr_ixD (by decide) rfl)) gr_inS)) (fun b2 => gs_turn (b ++ [x]) (gs_drop (ge_app (fun _ => ge_var rfl) (ge_var rfl) bl)) (yes ?_) (.s (.s (.s (.s (.n (.n .nil)))))) fun H h => ?_) (fun b2 => gs_turn b gs_next (no ?_) (.s (.s (.s (.s (.n (.n .nil)))))) fun _ h => h))
          · exact (hr'.foundT ht).2
          · unfold hostAt
            rw [b1]
            exact b2
          · rw [List.map_append]
            exact h
          · unfold hostAt
            rw [b1]
            exact b2
        · unfold hostAt
          rw [b1]
          rfl
    · rw [List.length_map, List.take_length] at hb
      subst hb
      refine gs_ret (ge_var rfl) fun v H hj hp => ⟨?_, acc_wk hj⟩
      obtain rfl : v = .ref p := hp
      obtain ⟨a, xs, e2, k1, k2, k3⟩ := acc_out np hj
      cases e2
      have hd := Dl.map (K := K) ((ns.filter fun n => hostAt es R e n).map PyData.str)
      rw [List.map_map] at hd
      exact .lst k1 k2 (hd.all k3)
    all_goals skip
-- slots: 0=_law_some_here 1=_law_states_here 2=_law_edition_here 3=_law_found 4=_law_name 5=_law_other  uses: ['_law_there', '_law_edition']

end
end Hs
set_option Elab.async false
set_option linter.all false
set_option maxRecDepth 100000
set_option maxHeartbeats 4000000
namespace Hs
open PySem PySem.Spec PyProof.Rows L2 StX
section
variable {P : Program} {w : World} {K : PySem.W.Frag} {mg : Str → Option Value} {base : Heap}
abbrev N_law_why : List Str := ["_law_some_here", "_law_states_here", "_law_deed", "_law_word", "_law_name", "_law_edition_here", "_law_lacks", "_law_status", "_law_right", "_law_found", "_law_other", "_law_wants", "_law_one", "_law_need"]
theorem sc_law_why : FnScope N_law_why ["_law_some_here", "_law_states_here", "_law_deed"] (defScope s_law_why) := ⟨rfl, rfl, rfl, by decide +kernel, rfl, by decide +kernel, by decide +kernel⟩
theorem ok_law_why (T : Tx K mg) : FnR P w K mg base CX0 3 (a_law_why K) (spC (ct_law_why K)) := by
  obtain ⟨fd, F⟩ := T.f_law_why
  have nd := sc_law_why.nd
  refine ok_of (He5.fun_of F) sc_law_why (F.bindsN fun _ _ _ _ _ _ us hl => match us, hl with | [_, _, _], _ => rfl) ?_ fun cdv A outer s H E hr => have hu := hu_of hr; have hu0 := hr.units0; ⟨_, (pss_cons (ps_asg (pe_slice (sl_tupAK K) (pv 2) po_none (po_some pe_int)) (pg_tupK K rfl (pgs_cons (pg_name (i := 3) nd rfl (.inl rfl)) (pgs_cons (pg_name (i := 4) nd rfl (.inr rfl)) pgs_nil))))
    (pss_cons (ps_if (pt_cmpR op_eq (pv 3) pe_str (nomark _)) (pss_cons (ps_if (pt_cmpR (op_notInDK K (room65 hr)) (pe_slice (sl_tupAK K) (pv 2) (po_some pe_int) po_none) (pe_lc (own := [("_law_one", 12)]) (g := gName 12) (tt := tYes) rfl nd (pi_listK K (pv 0)) (blkOk_by (own := [("_law_one", 12)]) (N := N_law_why) (sc := defScope s_law_why) (by decide +kernel)) (fun _ _ _ _ _ => pg_name (i := 12) nd rfl (Or.inl rfl)) (fun _ _ _ _ _ => pts_nil) (fun _ _ _ _ _ => (pe_slice (sl_tupAK K) (pv 12) po_none (po_some pe_int)))) (by rfl)) (pss_one (ps_ret (pe_tup (pa_cons pe_str pa_nil)))) pss_nil)
    (pss_cons (ps_if (PW.pt (pw_and (pt_cmpR (op_inK K) (pe_ix (ix_tupK K) (pe_dget hu (pv 1) (pv 4) (fun _ _ => rfl)) pe_int (fun _ _ => rfl)) (pe_tup (pa_cons pe_str (pa_cons pe_str (pa_cons pe_str pa_nil)))) (by rfl)) (pw_and1 (pt_cmpR op_eq (pe_ix (ix_tupK K) (pe_dget hu (pv 1) (pv 4) (fun _ _ => rfl)) pe_int (fun _ _ => rfl)) (pe_ix (ix_tupK K) (pv 2) pe_int (fun _ _ => rfl)) (nomark _))))) (pss_one (ps_ret (pe_tup (pa_cons pe_str pa_nil)))) pss_nil)
    (pss_cons (ps_set (i := 5) nd rfl (.inl rfl) (pe_callR (ok_law_edition T) (hr.mono (by decide)) rfl T.g__law_edition T.k__law_edition pass0 (pa_cons (pv 0) (pa_cons (pv 4) (pa_cons (pe_ix (ix_tupK K) (pv 2) pe_int (fun _ _ => rfl)) pa_nil)))))
    (pss_cons (ps_set (i := 6) nd rfl (.inl rfl) (pe_callR (ok_law_least_of T) (hr.mono (by decide)) rfl T.g__law_least_of T.k__law_least_of pass0 (pa_cons pe_str (pa_cons (pe_lc (own := [("_law_need", 13)]) (g := gName 13) (tt := _) rfl nd (pi_tupK K (pe_ix (ix_tupK K) (pv 5) pe_int (fun _ _ => rfl))) (blkOk_by (own := [("_law_need", 13)]) (N := N_law_why) (sc := defScope s_law_why) (by decide +kernel)) (fun _ _ _ _ _ => pg_name (i := 13) nd rfl (Or.inl rfl)) (fun _ _ _ _ _ => pts_one (pt_not (pt_val (pe_callR (ok_law_met T) (hr.mono (by decide)) rfl T.g__law_met T.k__law_met pass0 (pa_cons (pv 1) (pa_cons (pv 13) pa_nil)))))) (fun _ _ _ _ _ => (pe_ix (ix_tupK K) (pv 13) pe_int (fun _ _ => rfl)))) pa_nil))))
    (pss_cons (ps_if (pt_cmp (pc_notN (pv 6))) (pss_one (ps_ret (pv 6))) pss_nil)
    (pss_one (ps_ret (pe_callR (ok_law_least_of T) (hr.mono (by decide)) rfl T.g__law_least_of T.k__law_least_of pass0 (pa_cons pe_str (pa_cons (pe_callR (ok_law_hostile T) (hr.mono (by decide)) rfl T.g__law_hostile T.k__law_hostile pass0 (pa_cons (pv 0) (pa_cons (pv 1) (pa_cons (pv 5) pa_nil)))) pa_nil)))))))))) pss_nil)
    (pss_cons (ps_if (pt_cmp (pc_dnotin hu (pv 4) (pv 1))) (pss_one (ps_ret (pe_tup (pa_cons pe_str pa_nil)))) pss_nil)
    (pss_cons (ps_set (i := 7) nd rfl (.inl rfl) (pe_ix (ix_tupK K) (pe_dget hu (pv 1) (pv 4) (fun _ _ => rfl)) pe_int (fun _ _ => rfl)))
    (pss_cons (ps_set (i := 8) nd rfl (.inl rfl) (pe_disp (pps_cons pe_str (pe_lst (pa_cons pe_str (pa_cons pe_str pa_nil))) (pps_cons pe_str (pe_lst (pa_cons pe_str (pa_cons pe_str (pa_cons pe_str (pa_cons pe_str pa_nil))))) (pps_cons pe_str (pe_lst (pa_cons pe_str pa_nil)) pps_nil))) (by rfl) (by rfl) (fun z => by cases z) (by decide)))
    (pss_cons (ps_if (pt_cmpR (op_niK K) (pv 7) (pe_dget hu (pv 8) (pv 3) (fun _ _ => rfl)) (by rfl)) (pss_one (ps_ret (pe_tup (pa_cons pe_str pa_nil)))) pss_nil)
    (pss_cons (ps_if (pt_cmpR op_eq (pv 3) pe_str (nomark _)) (pss_cons (ps_set (i := 5) nd rfl (.inl rfl) (pe_callR (ok_law_edition T) (hr.mono (by decide)) rfl T.g__law_edition T.k__law_edition pass0 (pa_cons (pv 0) (pa_cons (pv 4) (pa_cons (pe_ix (ix_tupK K) (pe_dget hu (pv 1) (pv 4) (fun _ _ => rfl)) pe_int (fun _ _ => rfl)) pa_nil)))))
    (pss_one (ps_ret (pe_callR (ok_law_least_of T) (hr.mono (by decide)) rfl T.g__law_least_of T.k__law_least_of pass0 (pa_cons pe_str (pa_cons (pe_lc (own := [("_law_need", 13)]) (g := gName 13) (tt := _) rfl nd (pi_tupK K (pe_ix (ix_tupK K) (pv 5) pe_int (fun _ _ => rfl))) (blkOk_by (own := [("_law_need", 13)]) (N := N_law_why) (sc := defScope s_law_why) (by decide +kernel)) (fun _ _ _ _ _ => pg_name (i := 13) nd rfl (Or.inl rfl)) (fun _ _ _ _ _ => pts_one (pt_not (pt_val (pe_callR (ok_law_met T) (hr.mono (by decide)) rfl T.g__law_met T.k__law_met pass0 (pa_cons (pv 1) (pa_cons (pv 13) pa_nil)))))) (fun _ _ _ _ _ => (pe_ix (ix_tupK K) (pv 13) pe_int (fun _ _ => rfl)))) pa_nil)))))) pss_nil)
    (pss_cons (ps_if (pt_cmpR op_eq (pv 3) pe_str (nomark _)) (pss_one (ps_ret pe_non)) pss_nil)
    (pss_cons (ps_set (i := 9) nd rfl (.inl rfl) (pe_lst pa_nil))
    (pss_cons (ps_or (ps_lock (ps_for PassesOwn.never rfl (pi_keys (pv 1)) (pg_name (i := 10) nd rfl (.inr rfl))
    (pss_one (ps_if (pt_cmpR op_eq (pe_ix (ix_tupK K) (pe_dget hu (pv 1) (pv 10) (fun _ _ => rfl)) pe_int (fun _ _ => rfl)) pe_str (nomark _)) (pss_cons (ps_set (i := 11) nd rfl (.inl rfl) (pe_ix (ix_tupK K) (pe_callR (ok_law_edition T) (hr.mono (by decide)) rfl T.g__law_edition T.k__law_edition pass0 (pa_cons (pv 0) (pa_cons (pv 10) (pa_cons (pe_ix (ix_tupK K) (pe_dget hu (pv 1) (pv 10) (fun _ _ => rfl)) pe_int (fun _ _ => rfl)) pa_nil)))) pe_int (fun _ _ => rfl)))
    (pss_one (ps_set (i := 9) nd rfl (.inl rfl) (pe_op op_cat (pv 9) (pe_lc (own := [("_law_need", 13)]) (g := gName 13) (tt := _) rfl nd (pi_tupK K (pv 11)) (blkOk_by (own := [("_law_need", 13)]) (N := N_law_why) (sc := defScope s_law_why) (by decide +kernel)) (fun _ _ _ _ _ => pg_name (i := 13) nd rfl (Or.inl rfl)) (fun _ _ _ _ _ => pts_one (pt_cmpR op_eq (pe_ix (ix_tupK K) (pv 13) pe_int (fun _ _ => rfl)) (pv 4) (nomark _))) (fun _ _ _ _ _ => (pv 10))))))) pss_nil)))) (ps_for PassesOwn.never rfl (pi_keys (pv 1)) (pg_name (i := 10) nd rfl (.inr rfl))
    (pss_one (ps_if (pt_cmpR op_eq (pe_ix (ix_tupK K) (pe_dget hu (pv 1) (pv 10) (fun _ _ => rfl)) pe_int (fun _ _ => rfl)) pe_str (nomark _)) (pss_cons (ps_set (i := 11) nd rfl (.inl rfl) (pe_ix (ix_tupK K) (pe_callR (ok_law_edition T) (hr.mono (by decide)) rfl T.g__law_edition T.k__law_edition pass0 (pa_cons (pv 0) (pa_cons (pv 10) (pa_cons (pe_ix (ix_tupK K) (pe_dget hu (pv 1) (pv 10) (fun _ _ => rfl)) pe_int (fun _ _ => rfl)) pa_nil)))) pe_int (fun _ _ => rfl)))
    (pss_one (ps_set (i := 9) nd rfl (.inl rfl) (pe_op op_cat (pv 9) (pe_lc (own := [("_law_need", 13)]) (g := gName 13) (tt := _) rfl nd (pi_tupK K (pv 11)) (blkOk_by (own := [("_law_need", 13)]) (N := N_law_why) (sc := defScope s_law_why) (by decide +kernel)) (fun _ _ _ _ _ => pg_name (i := 13) nd rfl (Or.inl rfl)) (fun _ _ _ _ _ => pts_one (pt_cmpR op_eq (pe_ix (ix_tupK K) (pv 13) pe_int (fun _ _ => rfl)) (pv 4) (nomark _))) (fun _ _ _ _ _ => (pv 10))))))) pss_nil))))
    (pss_one (ps_ret (pe_callR (ok_law_least_of T) (hr.mono (by decide)) rfl T.g__law_least_of T.k__law_least_of pass0 (pa_cons pe_str (pa_cons (pv 9) pa_nil))))))))))))))), ?_⟩
  · rintro S ⟨I, J, ins, out⟩ ⟨es, ns, R, d, he, hr', hs, hd, h1, h2, h3⟩
    dsimp only at h2 ⊢
    subst h2
    rfl
  · rintro S ⟨I, J, ins, out⟩ ⟨es, ns, R, d, he, hr', hs, hd, h1, h2, h3⟩
    dsimp only at h1 h2 h3
    subst h1 h2 h3
    have hes : ∀ e ∈ es, PyData.strOk e.nm = true := fun e hx => hs _ (he.mem e hx)
    have hzs : es.length ≤ 1000 := Nat.le_trans he.le (by decide)
    have hl : (lk R d.nm).isSome = true := lk_isSome.mpr (by rw [hr'.keys]; exact hd.1)
    cases d with
    | unpack n v =>
      obtain ⟨hn, hf⟩ := hd
      refine gs_seq (gs_asg (ge_slD (ge_var rfl) po_n po_i) (gg_tupD (gg_cons gg_name (gg_cons gg_name gg_nil)) rfl)) ?_
      have hany : (!(es.map fun e => PyData.tuple [.str e.nm, .int e.ver]).any fun z => PyData.eqv z (.tuple [.str n, .int v])) = false := why_in hf
      have sh1 := shaped_si (i := v) (hs n hn)
      have sh2 : SeqAt.shaped (.list (es.map fun e => PyData.tuple [.str e.nm, .int e.ver])) = true := shaped_sis hes
      refine gs_ifs (gt_val (K := K) (ge_op (ge_var rfl) (ge_str (K := K)) gr_eqS)) (fun b1 => gs_assoc ?_) (fun b1 => absurd b1 (by decide +kernel))
      refine gs_ifs (GT.to (gt_val (K := K) (ge_op (ge_slD (ds := [.str "unpack", .str n, .int v]) (ge_var rfl) po_i po_n) (ge_lcD1 (K := K) es (fun e => Is K (edD e)) (fun e => .tuple [.str e.nm, .int e.ver]) (gi_listM (ge_var rfl)) hzs fun e S' I' ext hx => ⟨_, _, (fun _ h => h), gg_name, gt_yes, fun _ => ge_slD (ds := [.str e.nm, .int e.ver, strsD e.has, needsD e.wants, needsD e.asks, strsD e.shuns]) (ge_var rfl) po_n po_i⟩) (gr_notInD sh1 sh2))) hany) (fun b => Bool.noConfusion b) (fun _ => gs_nextS (gs_assoc ?_))
      refine gs_ifs (gt_and (gt_val (K := K) (ge_op (ge_op (ge_rget (ge_var rfl) (ge_var rfl) hl) (ge_int (K := K)) (gr_ixD (by decide) rfl)) (ge_tupS3 (ga_cons (ge_str (K := K)) (ga_cons (ge_str (K := K)) (ga_cons (ge_str (K := K)) ga_nil)))) gr_inS)) fun _ => gt_val (K := K) (ge_op (ge_op (ge_rget (ge_var rfl) (ge_var rfl) hl) (ge_int (K := K)) (gr_ixD (by decide) rfl)) (ge_op (ge_var rfl) (ge_int (K := K)) (gr_ixD (by decide) rfl)) gr_eqI)) (fun b2 => gs_retNonS (ge_tup (K := K) (ga_cons (ge_str (K := K)) ga_nil) (by show 1 ≤ 1000; decide)) rfl (non_tup ?_)) (fun b2 => gs_nextS (gs_assoc ?_))
      · show unpackOk es R n v = false
        unfold unpackOk
        rw [show (decide ((rowAt R n).st ∈ [sFa, sRe, sUn]) && decide ((rowAt R n).ver = v)) = true from b2]
        simp
      refine gs_seq (gs_set (ge_call (ga_cons (ge_var rfl) (ga_cons (ge_var rfl) (ga_cons (ge_op (ge_var rfl) (ge_int (K := K)) (gr_ixD (by decide) rfl)) ga_nil))) ⟨es, n, v, hzs, hes, (hs n hn), hf, rfl, rfl, rfl⟩)) (gs_assoc ?_)
      have nz : (edAt es n v).asks.length ≤ 1000 := Nat.le_trans (he.few2 _ (findE_mem hf).1).2 (by decide)
      refine gs_seq (gs_set (ge_call (ga_cons (ge_str (K := K)) (ga_cons (ge_lcS (K := K) (edAt es n v).asks (fun x => Is K (needD x)) (fun x => !isMet R x.1 x.2) (fun x => x.1) (gi_tupM (ge_op (ge_var rfl) (ge_int (K := K)) (gr_ixD (by decide) rfl))) nz fun x S' I' ext hx => ⟨_, _, (fun _ h => h), gg_name, gt_notB (gt_valB (K := K) (ge_call (ga_cons (ge_var rfl) (ga_cons (ge_var rfl) ga_nil)) ⟨R, x.1, x.2, rfl, rfl, rfl⟩)), fun _ => (ge_op (ge_var rfl) (ge_int (K := K)) (gr_ixD (by decide) rfl))⟩) ga_nil)) ⟨_, _, rfl, rfl, rfl⟩)) (gs_assoc ?_)
      refine gs_ifs (gt_valB (K := K) (ge_notN (ge_var rfl) (fun _ _ _ p => p))) (fun b3 => gs_retNonS (ge_var rfl) rfl fun u H p => Eq.trans p ?_) (fun b3 => gs_nextS (gs_retNonS (ge_call (ga_cons (ge_str (K := K)) (ga_cons (ge_call (ga_cons (ge_var rfl) (ga_cons (ge_var rfl) (ga_cons (ge_var rfl) ga_nil))) ⟨es, ns, R, edAt es n v, he, hr', hs, rfl, rfl, rfl⟩) ga_nil)) ⟨_, _, rfl, rfl, rfl⟩) rfl fun u H p => Eq.trans p ?_))
      · rw [lack_e] at b3 ⊢
        show _ = unpackOk es R n v
        unfold unpackOk
        rw [show (!lacks R (edAt es n v).asks) = false from not_t b3]
        simp
      · rw [lack_e] at b3
        rw [host_e hr']
        show _ = unpackOk es R n v
        unfold unpackOk
        rw [hf, show (decide ((rowAt R n).st ∈ [sFa, sRe, sUn]) && decide ((rowAt R n).ver = v)) = false from b2, show (!lacks R (edAt es n v).asks) = true from not_f b3]
        simp
    | setup n =>
      obtain ⟨hn, _⟩ := hd
      have hs2 : allowed es R (.setup n) = setupOk es R n := by show ((lk R n).isSome && _) = _; rw [show (lk R n).isSome = true from hl]; rfl
      have hl : (lk R n).isSome = true := hl
      refine gs_seq (gs_asg (ge_slD (ge_var rfl) po_n po_i) (gg_tupD (gg_cons gg_name (gg_cons gg_name gg_nil)) rfl)) ?_
      refine gs_ifs (gt_val (K := K) (ge_op (ge_var rfl) (ge_str (K := K)) gr_eqS)) (fun b1 => absurd b1 (by decide +kernel)) (fun b1 => gs_nextS ?_)
      refine gs_ifs (GT.to (gt_valB (K := K) (ge_rnin (ge_var rfl) (ge_var rfl))) (show (!(lk R n).isSome) = false by rw [hl]; rfl)) (fun b => Bool.noConfusion b) (fun _ => gs_nextS ?_)
      refine gs_seq (gs_set (ge_op (ge_rget (ge_var rfl) (ge_var rfl) hl) (ge_int (K := K)) (gr_ixD (by decide) rfl))) ?_
      refine gs_seq (gs_set (ge_disp3 (K := K) (ψ1 := Is K (.list ([sFa, sUn].map .str))) (ψ2 := Is K (.list ([sFa, sHa, sRe, sUn].map .str))) (ψ3 := Is K (.list ([sLe].map .str))) (by decide +kernel) (by decide +kernel) (by decide +kernel) (fun _ _ => ge_str (K := K)) (fun _ _ => ge_lstD (K := K) (ga_cons (ge_str (K := K)) (ga_cons (ge_str (K := K)) ga_nil)) (.cons (.cons .nil)) (by show 2 ≤ 1000; decide)) (fun _ _ => ge_str (K := K)) (fun _ _ => ge_lstD (K := K) (ga_cons (ge_str (K := K)) (ga_cons (ge_str (K := K)) (ga_cons (ge_str (K := K)) (ga_cons (ge_str (K := K)) ga_nil)))) (.cons (.cons (.cons (.cons .nil)))) (by show 4 ≤ 1000; decide)) (fun _ _ => ge_str (K := K)) (fun _ _ => ge_lstD (K := K) (ga_cons (ge_str (K := K)) ga_nil) (.cons .nil) (by show 1 ≤ 1000; decide)))) ?_
      refine gs_ifs (gt_val (K := K) (ge_op (ge_var rfl) (ge_dget (k := .inr "setup") (ge_var rfl) (ge_var rfl) rfl) gr_niSL)) (fun b2 => gs_retNonS (ge_tup (K := K) (ga_cons (ge_str (K := K)) ga_nil) (by show 1 ≤ 1000; decide)) rfl (non_tup ?_)) (fun b2 => gs_nextS ?_)
      · rw [hs2]; unfold setupOk; rw [not_t b2]; rfl
      have hst : decide ((rowAt R n).st ∈ [sFa, sUn]) = true := not_f b2
      have hf : (findE es n (rowAt R n).ver).isSome = true := hr'.found hl fun e => by
        rw [e] at hst
        revert hst
        decide +kernel
      have nz : (edIn es R n).wants.length ≤ 1000 := Nat.le_trans (he.few2 _ (findE_mem hf).1).1 (by decide)
      refine gs_ifs (gt_val (K := K) (ge_op (ge_var rfl) (ge_str (K := K)) gr_eqS)) (fun b3 => gs_assoc (gs_seq (gs_set (ge_call (ga_cons (ge_var rfl) (ga_cons (ge_var rfl) (ga_cons (ge_op (ge_rget (ge_var rfl) (ge_var rfl) hl) (ge_int (K := K)) (gr_ixD (by decide) rfl)) ga_nil))) ⟨es, n, (rowAt R n).ver, hzs, hes, (hs n hn), hf, rfl, rfl, rfl⟩)) (gs_retNonS (ge_call (ga_cons (ge_str (K := K)) (ga_cons (ge_lcS (K := K) (edIn es R n).wants (fun x => Is K (needD x)) (fun x => !isMet R x.1 x.2) (fun x => x.1) (gi_tupM (ge_op (ge_var rfl) (ge_int (K := K)) (gr_ixD (by decide) rfl))) nz fun x S' I' ext hx => ⟨_, _, (fun _ h => h), gg_name, gt_notB (gt_valB (K := K) (ge_call (ga_cons (ge_var rfl) (ga_cons (ge_var rfl) ga_nil)) ⟨R, x.1, x.2, rfl, rfl, rfl⟩)), fun _ => (ge_op (ge_var rfl) (ge_int (K := K)) (gr_ixD (by decide) rfl))⟩) ga_nil)) ⟨_, _, rfl, rfl, rfl⟩) rfl fun v H p => Eq.trans p ?_))) (fun b3 => absurd b3 (by decide +kernel))
      rw [lack_e, hs2]; unfold setupOk; rw [hst]; rfl
    | remove n =>
      obtain ⟨hn, _⟩ := hd
      have hs2 : allowed es R (.remove n) = removeOk es R n := by show ((lk R n).isSome && _) = _; rw [show (lk R n).isSome = true from hl]; rfl
      have hl : (lk R n).isSome = true := hl
      refine gs_seq (gs_asg (ge_slD (ge_var rfl) po_n po_i) (gg_tupD (gg_cons gg_name (gg_cons gg_name gg_nil)) rfl)) ?_
      refine gs_ifs (gt_val (K := K) (ge_op (ge_var rfl) (ge_str (K := K)) gr_eqS)) (fun b1 => absurd b1 (by decide +kernel)) (fun b1 => gs_nextS ?_)
      refine gs_ifs (GT.to (gt_valB (K := K) (ge_rnin (ge_var rfl) (ge_var rfl))) (show (!(lk R n).isSome) = false by rw [hl]; rfl)) (fun b => Bool.noConfusion b) (fun _ => gs_nextS ?_)
      refine gs_seq (gs_set (ge_op (ge_rget (ge_var rfl) (ge_var rfl) hl) (ge_int (K := K)) (gr_ixD (by decide) rfl))) ?_
      refine gs_seq (gs_set (ge_disp3 (K := K) (ψ1 := Is K (.list ([sFa, sUn].map .str))) (ψ2 := Is K (.list ([sFa, sHa, sRe, sUn].map .str))) (ψ3 := Is K (.list ([sLe].map .str))) (by decide +kernel) (by decide +kernel) (by decide +kernel) (fun _ _ => ge_str (K := K)) (fun _ _ => ge_lstD (K := K) (ga_cons (ge_str (K := K)) (ga_cons (ge_str (K := K)) ga_nil)) (.cons (.cons .nil)) (by show 2 ≤ 1000; decide)) (fun _ _ => ge_str (K := K)) (fun _ _ => ge_lstD (K := K) (ga_cons (ge_str (K := K)) (ga_cons (ge_str (K := K)) (ga_cons (ge_str (K := K)) (ga_cons (ge_str (K := K)) ga_nil)))) (.cons (.cons (.cons (.cons .nil)))) (by show 4 ≤ 1000; decide)) (fun _ _ => ge_str (K := K)) (fun _ _ => ge_lstD (K := K) (ga_cons (ge_str (K := K)) ga_nil) (.cons .nil) (by show 1 ≤ 1000; decide)))) ?_
      refine gs_ifs (gt_val (K := K) (ge_op (ge_var rfl) (ge_dget (k := .inr "remove") (ge_var rfl) (ge_var rfl) rfl) gr_niSL)) (fun b2 => gs_retNonS (ge_tup (K := K) (ga_cons (ge_str (K := K)) ga_nil) (by show 1 ≤ 1000; decide)) rfl (non_tup ?_)) (fun b2 => gs_nextS ?_)
      · rw [hs2]; unfold removeOk isThere; rw [show decide ((rowAt R n).st ∈ thereSt) = false from not_t b2, Bool.and_false]; rfl
      have hst : decide ((rowAt R n).st ∈ thereSt) = true := not_f b2
      refine gs_ifs (gt_val (K := K) (ge_op (ge_var rfl) (ge_str (K := K)) gr_eqS)) (fun b3 => absurd b3 (by decide +kernel)) (fun b3 => gs_nextS ?_)
      refine gs_ifs (gt_val (K := K) (ge_op (ge_var rfl) (ge_str (K := K)) gr_eqS)) (fun b4 => absurd b4 (by decide +kernel)) (fun b4 => gs_nextS ?_)
      refine gs_seq (gs_set (ge_lstD (K := K) ga_nil .nil (by show 0 ≤ 1000; decide))) ?_
      refine gs_forKS (fun b : List Str => [some (Is K (edsD es)), some (Dct (rowsF K R)), none, none, some (Is K (.str n)), none, none, none, none, some (Is K (.list (b.map .str))), none, none, none, none]) (fun _ => J) (fun i b => b.length ≤ 10 * i ∧ b.isEmpty = (R.take i).all fun r => !(decide ((rowAt R r.1).st = sRe) && decide (n ∈ (edIn es R r.1).wants.map Prod.fst))) [] (dsrc_var rfl) okK_le (dit_keys (K := K)) ⟨Nat.le_refl _, rfl⟩ (.s (.s (.n (.n (.s (.n (.n (.n (.n (.s (.n (.n (.n (.n .nil)))))))))))))) (fun _ h => h) (Rk_le fun a z => z) (fun i ψ b hψ hg => ?_) fun b hg => ?_
      · obtain ⟨r, hr2, rfl⟩ := rows_at hψ
        obtain ⟨g1, g2⟩ := hg
        have hm := List.mem_of_getElem? hr2
        have hA := hr'.some hm
        have hi3 : i < 3 := Nat.lt_of_lt_of_le (List.getElem?_eq_some_iff.mp hr2).1 (hr'.few3 he)
        have e1 : R.take (i + 1) = R.take i ++ [r] := by
          rw [List.take_succ_eq_append_getElem (List.getElem?_eq_some_iff.mp hr2).1, (List.getElem?_eq_some_iff.mp hr2).2]
        have step : ∀ b' : List Str, b'.length ≤ 10 → b'.isEmpty = (!(decide ((rowAt R r.1).st = sRe) && decide (n ∈ (edIn es R r.1).wants.map Prod.fst))) → (b ++ b').length ≤ 10 * (i + 1) ∧ (b ++ b').isEmpty = (R.take (i + 1)).all fun r => !(decide ((rowAt R r.1).st = sRe) && decide (n ∈ (edIn es R r.1).wants.map Prod.fst)) := fun b' h1 h2 => by
          refine ⟨by rw [List.length_append]; omega, ?_⟩
          rw [emp_app, e1, List.all_append, ← g2, h2, List.all_cons, List.all_nil, Bool.and_true]
        refine ⟨_, _, gg_name, gs_if (gt_val (K := K) (ge_op (ge_op (ge_rget (ge_var rfl) (ge_var rfl) hA) (ge_int (K := K)) (gr_ixD (by decide) rfl)) (ge_str (K := K)) gr_eqS)) (fun b5 => ?_) (fun b5 => gs_turn b gs_next ?_ (.s (.s (.n (.n (.s (.n (.n (.n (.n (.s (.n (.n (.n (.n .nil)))))))))))))) (fun _ h => h))⟩
        · have hB : (findE es r.1 (rowAt R r.1).ver).isSome = true := hr'.found hA (by rw [of_decide_eq_true b5]; decide +kernel)
          have nz : (edIn es R r.1).wants.length ≤ 10 := (he.few2 _ (findE_mem hB).1).1
          have hrn : r.1 ∈ ns := by rw [← hr'.keys]; exact List.mem_map_of_mem hm
          have hb' : (((edIn es R r.1).wants.filter fun x => decide (x.1 = n)).map fun _ => r.1).length ≤ 10 := by rw [List.length_map]; exact Nat.le_trans (List.length_filter_le _ _) nz
          refine gs_seq (gs_set (ge_op (ge_call (ga_cons (ge_var rfl) (ga_cons (ge_var rfl) (ga_cons (ge_op (ge_rget (ge_var rfl) (ge_var rfl) hA) (ge_int (K := K)) (gr_ixD (by decide) rfl)) ga_nil))) ⟨es, r.1, (rowAt R r.1).ver, hzs, hes, (hs _ hrn), hB, rfl, rfl, rfl⟩) (ge_int (K := K)) (gr_ixD (by decide) rfl))) ?_
          refine gs_turn (b ++ (((edIn es R r.1).wants.filter fun x => decide (x.1 = n)).map fun _ => r.1)) (gs_set (ge_op (ge_var rfl) (ge_lcS (K := K) (edIn es R r.1).wants (fun x => Is K (needD x)) (fun x => decide (x.1 = n)) (fun _ => r.1) (gi_tupM (ge_var rfl)) (Nat.le_trans nz (by decide)) fun x S' I' ext hx => ⟨_, _, (fun _ h => h), gg_name, gt_val (K := K) (ge_op (ge_op (ge_var rfl) (ge_int (K := K)) (gr_ixD (by decide) rfl)) (ge_var rfl) gr_eqS), fun _ => ge_var rfl⟩) (gr_cat (by rw [List.length_map, List.length_map]; omega)))) (step _ hb' ?_) (.s (.s (.n (.n (.s (.n (.n (.n (.n (.w (fun S v H p => by rw [List.map_append]; exact p) (.n (.n (.n (.n .nil)))))))))))))) (fun _ h => h)
          rw [b5, Bool.true_and, emp_map]
          exact why_emp
        · have := step [] (Nat.zero_le _) (by rw [show decide ((rowAt R r.1).st = sRe) = false from b5]; rfl)
          rw [List.append_nil] at this
          exact this
      · refine gs_retNon (ge_call (ga_cons (ge_str (K := K)) (ga_cons (ge_var rfl) ga_nil)) ⟨_, _, rfl, rfl, rfl⟩) rfl fun v H p => Eq.trans p ?_
        rw [hg.2, hs2]
        unfold removeOk isThere
        rw [hst, show (lk R n).isSome = true from hl, List.length_map, List.length_map, List.take_length]
        rfl
    | purge n =>
      obtain ⟨hn, _⟩ := hd
      have hs2 : allowed es R (.purge n) = decide ((rowAt R n).st = sLe) := by show ((lk R n).isSome && _) = _; rw [show (lk R n).isSome = true from hl]; rfl
      have hl : (lk R n).isSome = true := hl
      refine gs_seq (gs_asg (ge_slD (ge_var rfl) po_n po_i) (gg_tupD (gg_cons gg_name (gg_cons gg_name gg_nil)) rfl)) ?_
      refine gs_ifs (gt_val (K := K) (ge_op (ge_var rfl) (ge_str (K := K)) gr_eqS)) (fun b1 => absurd b1 (by decide +kernel)) (fun b1 => gs_nextS ?_)
      refine gs_ifs (GT.to (gt_valB (K := K) (ge_rnin (ge_var rfl) (ge_var rfl))) (show (!(lk R n).isSome) = false by rw [hl]; rfl)) (fun b => Bool.noConfusion b) (fun _ => gs_nextS ?_)
      refine gs_seq (gs_set (ge_op (ge_rget (ge_var rfl) (ge_var rfl) hl) (ge_int (K := K)) (gr_ixD (by decide) rfl))) ?_
      refine gs_seq (gs_set (ge_disp3 (K := K) (ψ1 := Is K (.list ([sFa, sUn].map .str))) (ψ2 := Is K (.list ([sFa, sHa, sRe, sUn].map .str))) (ψ3 := Is K (.list ([sLe].map .str))) (by decide +kernel) (by decide +kernel) (by decide +kernel) (fun _ _ => ge_str (K := K)) (fun _ _ => ge_lstD (K := K) (ga_cons (ge_str (K := K)) (ga_cons (ge_str (K := K)) ga_nil)) (.cons (.cons .nil)) (by show 2 ≤ 1000; decide)) (fun _ _ => ge_str (K := K)) (fun _ _ => ge_lstD (K := K) (ga_cons (ge_str (K := K)) (ga_cons (ge_str (K := K)) (ga_cons (ge_str (K := K)) (ga_cons (ge_str (K := K)) ga_nil)))) (.cons (.cons (.cons (.cons .nil)))) (by show 4 ≤ 1000; decide)) (fun _ _ => ge_str (K := K)) (fun _ _ => ge_lstD (K := K) (ga_cons (ge_str (K := K)) ga_nil) (.cons .nil) (by show 1 ≤ 1000; decide)))) ?_
      refine gs_ifs (gt_val (K := K) (ge_op (ge_var rfl) (ge_dget (k := .inr "purge") (ge_var rfl) (ge_var rfl) rfl) gr_niSL)) (fun b2 => gs_retNonS (ge_tup (K := K) (ga_cons (ge_str (K := K)) ga_nil) (by show 1 ≤ 1000; decide)) rfl (non_tup ?_)) (fun b2 => gs_nextS ?_)
      · rw [hs2, ← why_one]; exact not_t b2
      refine gs_ifs (gt_val (K := K) (ge_op (ge_var rfl) (ge_str (K := K)) gr_eqS)) (fun b3 => absurd b3 (by decide +kernel)) (fun b3 => gs_nextS ?_)
      refine gs_ifs (gt_val (K := K) (ge_op (ge_var rfl) (ge_str (K := K)) gr_eqS)) (fun b4 => gs_retNonS (ge_non (K := K)) rfl (non_non ?_)) (fun b4 => absurd b4 (by decide +kernel))
      rw [hs2, ← why_one]; exact not_f b2
    all_goals skip
-- slots: 0=_law_some_here 1=_law_states_here 2=_law_deed 3=_law_word 4=_law_name 5=_law_edition_here 6=_law_lacks 7=_law_status 8=_law_right 9=_law_found 10=_law_other 11=_law_wants 12=_law_one 13=_law_need  uses: ['_law_edition', '_law_least_of', '_law_met', '_law_hostile']

end
end Hs
set_option Elab.async false
set_option linter.all false
set_option maxRecDepth 100000
set_option maxHeartbeats 4000000
namespace Hs
open PySem PySem.Spec PyProof.Rows L2 StX
section
variable {P : Program} {w : World} {K : PySem.W.Frag} {mg : Str → Option Value} {base : Heap}
abbrev N_law_deeds : List Str := ["_law_some_here", "_law_states_here", "_law_found", "_law_name", "_law_deed", "_law_version"]
theorem sc_law_deeds : FnScope N_law_deeds ["_law_some_here", "_law_states_here"] (defScope s_law_deeds) := ⟨rfl, rfl, rfl, by decide +kernel, rfl, by decide +kernel, by decide +kernel⟩
theorem ok_law_deeds (T : Tx K mg) : FnR P w K mg base CX0 4 (a_law_deeds K) (spC (ct_law_deeds K)) := by
  obtain ⟨fd, F⟩ := T.f_law_deeds
  have nd := sc_law_deeds.nd
  refine ok_of (He5.fun_of F) sc_law_deeds (F.bindsN fun _ _ _ _ _ _ us hl => match us, hl with | [_, _], _ => rfl) ?_ fun cdv A outer s H E hr => have hu := hu_of hr; have hu0 := hr.units0; ⟨_, (pss_cons (ps_set (i := 2) nd rfl (.inl rfl) (pe_lst pa_nil))
    (pss_cons (ps_for PassesOwn.never rfl (pi_listK K (pe_callB (call_sortedD rfl) (by rfl) T.n_sorted (by decide +kernel) (pa_cons (pv 1) pa_nil))) (pg_name (i := 3) nd rfl (.inr rfl))
    (pss_cons (ps_set (i := 2) nd rfl (.inl rfl) (pe_op op_cat (pv 2) (pe_lst (pa_cons (pe_tup (pa_cons pe_str (pa_cons (pv 3) pa_nil))) (pa_cons (pe_tup (pa_cons pe_str (pa_cons (pv 3) pa_nil))) (pa_cons (pe_tup (pa_cons pe_str (pa_cons (pv 3) pa_nil))) pa_nil))))))
    (pss_one (ps_set (i := 2) nd rfl (.inl rfl) (pe_op op_cat (pv 2) (pe_lc (own := [("_law_version", 5)]) (g := gName 5) (tt := tYes) rfl nd (pi_listK K (pe_callR (ok_law_versions T) (hr.mono (by decide)) rfl T.g__law_versions T.k__law_versions pass0 (pa_cons (pv 0) (pa_cons (pv 3) pa_nil)))) (blkOk_by (own := [("_law_version", 5)]) (N := N_law_deeds) (sc := defScope s_law_deeds) (by decide +kernel)) (fun _ _ _ _ _ => pg_name (i := 5) nd rfl (Or.inl rfl)) (fun _ _ _ _ _ => pts_nil) (fun _ _ _ _ _ => (pe_tup (pa_cons pe_str (pa_cons (pv 3) (pa_cons (pv 5) pa_nil)))))))))))
    (pss_one (ps_ret (pe_lc (own := [("_law_deed", 4)]) (g := gName 4) (tt := _) rfl nd (pi_listK K (pe_callB (cr_sortDK K) (by rfl) T.n_sorted (by decide +kernel) (pa_cons (pv 2) pa_nil))) (blkOk_by (own := [("_law_deed", 4)]) (N := N_law_deeds) (sc := defScope s_law_deeds) (by decide +kernel)) (fun _ _ _ _ _ => pg_name (i := 4) nd rfl (Or.inl rfl)) (fun _ _ _ _ _ => pts_one (pt_cmp (pc_isN (pe_callR (ok_law_why T) (hr.mono (by decide)) rfl T.g__law_why T.k__law_why pass0 (pa_cons (pv 0) (pa_cons (pv 1) (pa_cons (pv 4) pa_nil))))))) (fun _ _ _ _ _ => (pv 4))))))), ?_⟩
  · rintro S ⟨I, J, ins, out⟩ ⟨es, ns, R, he, hr', hs, h1, h2, h3⟩
    dsimp only at h2 ⊢
    subst h2
    rfl
  · rintro S ⟨I, J, ins, out⟩ ⟨es, ns, R, he, hr', hs, h1, h2, h3⟩
    dsimp only at h1 h2 h3
    subst h1 h2 h3
    have hzs : es.length ≤ 1000 := Nat.le_trans he.le (by decide)
    refine gs_seq (gs_set (ge_lstD (K := K) ga_nil .nil (by show 0 ≤ 1000; decide))) ?_
    refine gs_forS (fun b : List Deed => [some (Is K (edsD es)), some (Dct (rowsF K R)), some (Is K (.list (b.map Deed.d))), none, none, none]) (fun _ => J) (fun i b => b.length ≤ 20 * i ∧ ∀ d ∈ b, deedIn es ns d) [] (gi_listM (f := PyData.str) (ge_cb (ga_cons (ge_var rfl) ga_nil) (gc_sortedNs he hr'))) ⟨Nat.le_refl _, fun d hd => nomatch hd⟩ (.s (.s (.s (.s (.s (.s .nil)))))) (fun _ h => h) (fun i ψ b hψ hb => ?_) fun b hb => ?_
    · rw [List.getElem?_map] at hψ
      cases hx : ns[i]? with
      | none => rw [hx] at hψ; cases hψ
      | some x =>
        rw [hx] at hψ
        cases hψ
        obtain ⟨g1, g2⟩ := hb
        have hi : i < ns.length := (List.getElem?_eq_some_iff.mp hx).1
        have hf := he.few
        have hxn : x ∈ ns := List.mem_of_getElem? hx
        have hev : (es.filter fun e => decide (e.nm = x)).length ≤ 12 := Nat.le_trans (List.length_filter_le _ _) he.le
        refine ⟨_, _, gg_name, ?_⟩
        refine gs_seq (gs_set (ge_op (ge_var rfl) (ge_lstD (K := K) (ga_cons (ge_tupD (K := K) (ga_cons (ge_str (K := K)) (ga_cons (ge_var rfl) ga_nil)) (.cons (.cons .nil)) (by show 2 ≤ 1000; decide)) (ga_cons (ge_tupD (K := K) (ga_cons (ge_str (K := K)) (ga_cons (ge_var rfl) ga_nil)) (.cons (.cons .nil)) (by show 2 ≤ 1000; decide)) (ga_cons (ge_tupD (K := K) (ga_cons (ge_str (K := K)) (ga_cons (ge_var rfl) ga_nil)) (.cons (.cons .nil)) (by show 2 ≤ 1000; decide)) ga_nil))) (.cons (.cons (.cons .nil))) (by show 3 ≤ 1000; decide)) (gr_cat (by rw [List.length_map]; show _ + 3 ≤ _; omega)))) ?_
        refine gs_turn (b ++ ([Deed.purge x, Deed.remove x, Deed.setup x] ++ (es.filter fun e => decide (e.nm = x)).map fun e => Deed.unpack x e.ver)) (gs_set (ge_op (ge_var rfl) (ge_lcD1 (K := K) (es.filter fun e => decide (e.nm = x)) (fun e => Is K (.int e.ver)) (fun e => .tuple [.str "unpack", .str x, .int e.ver]) (gi_listM (ge_call (ga_cons (ge_var rfl) (ga_cons (ge_var rfl) ga_nil)) ⟨es, x, hzs, rfl, rfl, rfl⟩)) (by omega) fun e S' I' ext he => ⟨_, _, (fun _ h => h), gg_name, gt_yes, fun _ => ge_tupD (K := K) (ga_cons (ge_str (K := K)) (ga_cons (ge_var rfl) (ga_cons (ge_var rfl) ga_nil))) (.cons (.cons (.cons .nil))) (by show 3 ≤ 1000; decide)⟩) (gr_cat (by rw [List.length_append, List.length_map, List.length_map]; show _ + 3 + _ ≤ _; omega)))) ⟨?_, ?_⟩ (.s (.s (.w (fun S v H p => ?_) (.n (.s (.s .nil)))))) (fun _ h => h)
        · rw [List.length_append, List.length_append, List.length_map]
          show _ + (3 + _) ≤ _
          omega
        · intro d hd
          rcases List.mem_append.mp hd with h | h
          · exact g2 d h
          · rcases List.mem_append.mp h with h | h
            · rcases List.mem_cons.mp h with rfl | h
              · exact ⟨hxn, trivial⟩
              · rcases List.mem_cons.mp h with rfl | h
                · exact ⟨hxn, trivial⟩
                · obtain rfl := List.mem_singleton.mp h
                  exact ⟨hxn, trivial⟩
            · obtain ⟨e, h1, rfl⟩ := List.mem_map.mp h
              obtain ⟨h2, h3⟩ := List.mem_filter.mp h1
              refine ⟨hxn, ?_⟩
              show (findE es x e.ver).isSome = true
              unfold findE
              rw [List.find?_isSome]
              exact ⟨e, h2, by rw [h3, decide_eq_true rfl]; rfl⟩
        · rw [List.map_append, List.map_append, List.map_map, ← List.append_assoc]
          exact p
    · obtain ⟨g1, g2⟩ := hb
      rw [List.length_map] at g1
      have hf := he.few
      refine gs_ret (ge_lcDX (K := K) (P := fun ds' : List Deed => ds'.Perm b) (fun ds => ds) Deed.d (fun _ d => allowed es R d) (fun _ d => d.d) (ge_cb (ga_cons (ge_var rfl) ga_nil) gc_sortD) (fun b v H _ p => p) (fun b' hp => by rw [hp.length_eq]; omega) fun b' hp d S' I' ext hd => ⟨_, _, (fun _ h => h), gg_name, gt_valB (K := K) (ge_isN (ge_call (ga_cons (ge_var rfl) (ga_cons (ge_var rfl) (ga_cons (ge_var rfl) ga_nil))) ⟨es, ns, R, d, he, hr', hs, g2 d (hp.mem_iff.mp hd), rfl, rfl, rfl⟩) (fun _ _ _ p => p)), fun _ => ge_var rfl⟩) fun v H j ⟨b', hp, p⟩ => ⟨⟨b'.filter fun d => allowed es R d, ⟨?_, fun d hd => ?_⟩, p⟩, j⟩
      · refine Nat.le_trans (List.length_filter_le _ _) ?_
        rw [hp.length_eq]
        omega
      · obtain ⟨h1, h2⟩ := List.mem_filter.mp hd
        exact ⟨h2, (g2 d (hp.mem_iff.mp h1)).1⟩
    all_goals skip
-- slots: 0=_law_some_here 1=_law_states_here 2=_law_found 3=_law_name 4=_law_deed 5=_law_version  uses: ['_law_versions', '_law_why']

end
end Hs
set_option Elab.async false
set_option linter.all false
set_option maxRecDepth 100000
set_option maxHeartbeats 4000000
namespace Hs
open PySem PySem.Spec PyProof.Rows L2 StX
section
variable {P : Program} {w : World} {K : PySem.W.Frag} {mg : Str → Option Value} {base : Heap}
abbrev N_System_states : List Str := ["self"]
theorem sc_System_states : FnScope N_System_states ["self"] (defScope s_System_states) := ⟨rfl, rfl, rfl, by decide +kernel, rfl, by decide +kernel, by decide +kernel⟩
theorem ok_System_states (T : Tx K mg) : FnR P w K mg base CX0 1 (a_System_states K) (spC (ct_System_states K)) := by
  obtain ⟨fd, F⟩ := T.f_System_states
  have nd := sc_System_states.nd
  refine ok_of (He5.fun_of F) sc_System_states (F.bindsN fun _ _ _ _ _ _ us hl => match us, hl with | [_], _ => rfl) ?_ fun cdv A outer s H E hr => have hu := hu_of hr; have hu0 := hr.units0; ⟨_, (pss_one (ps_ret (pe_callTy call_dcopy (by rfl) T.n_dict (by decide +kernel) (pa_cons (pe_fldK K (pv 0) rfl) pa_nil)))), ?_⟩
  · rintro S ⟨I, J, ins, out⟩ ⟨sa, es, R, h1, h2, h3⟩
    dsimp only at h2 ⊢
    subst h2
    rfl
  · rintro S ⟨I, J, ins, out⟩ ⟨sa, es, R, h1, h2, h3⟩
    dsimp only at h1 h2 h3
    subst h1 h2 h3
    refine (gs_retF (ge_cb (ga_cons (ge_fld (ge_var rfl) T.c_System T.na_System_rows rfl) ga_nil) gc_dcopy))
    all_goals skip
-- slots: 0=self  uses: []

end
end Hs
set_option Elab.async false
set_option linter.all false
set_option maxRecDepth 100000
set_option maxHeartbeats 4000000
namespace Hs
open PySem PySem.Spec PyProof.Rows L2 StX
section
variable {P : Program} {w : World} {K : PySem.W.Frag} {mg : Str → Option Value} {base : Heap}
abbrev N_is_met : List Str := ["system", "need", "name", "least"]
theorem sc_is_met : FnScope N_is_met ["system", "need"] (defScope s_is_met) := ⟨rfl, rfl, rfl, by decide +kernel, rfl, by decide +kernel, by decide +kernel⟩
theorem ok_is_met (T : Tx K mg) : FnR P w K mg base CX0 1 (a_is_met K) (spC (ct_is_met K)) := by
  obtain ⟨fd, F⟩ := T.f_is_met
  have nd := sc_is_met.nd
  refine ok_of (He5.fun_of F) sc_is_met (F.bindsN fun _ _ _ _ _ _ us hl => match us, hl with | [_, _], _ => rfl) ?_ fun cdv A outer s H E hr => have hu := hu_of hr; have hu0 := hr.units0; ⟨_, (pss_cons (ps_asg (pv 1) (pg_tupK K rfl (pgs_cons (pg_name (i := 2) nd rfl (.inl rfl)) (pgs_cons (pg_name (i := 3) nd rfl (.inl rfl)) pgs_nil))))
    (pss_one (ps_ret (pe_and (pe_cmp (pc_din hu (pv 2) (pe_fldK K (pv 0) rfl))) (pe_and (pe_cmpR op_eq (pe_ix (ix_tupK K) (pe_dget hu (pe_fldK K (pv 0) rfl) (pv 2) (fun _ _ => rfl)) pe_int (fun _ _ => rfl)) (pe_gs rfl T.s_READY) (nomark _)) (pe_one (pe_cmpR op_ge (pe_ix (ix_tupK K) (pe_dget hu (pe_fldK K (pv 0) rfl) (pv 2) (fun _ _ => rfl)) pe_int (fun _ _ => rfl)) (pv 3) (nomark _)))))))), ?_⟩
  · rintro S ⟨I, J, ins, out⟩ ⟨sa, es, R, n, l, h1, h2, h3⟩
    dsimp only at h2 ⊢
    subst h2
    rfl
  · rintro S ⟨I, J, ins, out⟩ ⟨sa, es, R, n, l, h1, h2, h3⟩
    dsimp only at h1 h2 h3
    subst h1 h2 h3
    refine (gs_seq (gs_asg (ge_var rfl) (gg_tupD (gg_cons gg_name (gg_cons gg_name gg_nil)) rfl)) (gs_retD (ge_and (ge_rin (ge_var rfl) (ge_fld (ge_var rfl) T.c_System T.na_System_rows rfl)) fun _ => (ge_and (ge_op (ge_op (ge_rget (ge_fld (ge_var rfl) T.c_System T.na_System_rows rfl) (ge_var rfl) (by assumption)) (ge_int (K := K)) (gr_ixD (by decide) rfl)) (ge_str (K := K)) (by first | exact gr_eqS | exact gr_eqI)) fun _ => (ge_op (ge_op (ge_rget (ge_fld (ge_var rfl) T.c_System T.na_System_rows rfl) (ge_var rfl) (by assumption)) (ge_int (K := K)) (gr_ixD (by decide) rfl)) (ge_var rfl) gr_ge))) rfl ?_))
    all_goals rfl
-- slots: 0=system 1=need 2=name 3=least  uses: []

end
end Hs
set_option Elab.async false
set_option linter.all false
set_option maxRecDepth 100000
set_option maxHeartbeats 4000000
namespace Hs
open PySem PySem.Spec PyProof.Rows L2 StX
section
variable {P : Program} {w : World} {K : PySem.W.Frag} {mg : Str → Option Value} {base : Heap}
abbrev N_lacking : List Str := ["system", "needs", "some", "need"]
theorem sc_lacking : FnScope N_lacking ["system", "needs"] (defScope s_lacking) := ⟨rfl, rfl, rfl, by decide +kernel, rfl, by decide +kernel, by decide +kernel⟩
theorem ok_lacking (T : Tx K mg) : FnR P w K mg base CX0 2 (a_lacking K) (spC (ct_lacking K)) := by
  obtain ⟨fd, F⟩ := T.f_lacking
  have nd := sc_lacking.nd
  refine ok_of (He5.fun_of F) sc_lacking (F.bindsN fun _ _ _ _ _ _ us hl => match us, hl with | [_, _], _ => rfl) ?_ fun cdv A outer s H E hr => have hu := hu_of hr; have hu0 := hr.units0; ⟨_, (pss_cons (ps_setLc (i := 2) (own := [("need", 3)]) (g := gName 3) (tt := _) rfl nd rfl rfl (sw_true rfl rfl rfl (by decide +kernel)) (pi_tupK K (pv 1)) (blkOk_by (own := [("need", 3)]) (N := N_lacking) (sc := defScope s_lacking) (by decide +kernel)) (fun _ _ _ _ _ => pg_name (i := 3) nd rfl (Or.inl rfl)) (fun _ _ _ _ _ => pts_one (pt_not (pt_val (pe_callR (ok_is_met T) (hr.mono (by decide)) rfl T.g_is_met T.k_is_met pass0 (pa_cons (pv 0) (pa_cons (pv 3) pa_nil)))))) (fun _ _ _ _ _ => (pe_ix (ix_tupK K) (pv 3) pe_int (fun _ _ => rfl))))
    (pss_one (ps_ret (pe_ifExp (pt_cmpR (op_neE hu0) (pv 2) (pe_lst pa_nil) (nomark _)) (pe_callB (cr_minS rfl) (by rfl) T.n_min (by decide +kernel) (pa_cons (pv 2) pa_nil)) pe_non)))), ?_⟩
  · rintro S ⟨I, J, ins, out⟩ ⟨sa, es, R, needs, hz, h1, h2, h3⟩
    dsimp only at h2 ⊢
    subst h2
    rfl
  · rintro S ⟨I, J, ins, out⟩ ⟨sa, es, R, needs, hz, h1, h2, h3⟩
    dsimp only at h1 h2 h3
    subst h1 h2 h3
    refine (gs_seq (gs_set (ge_lcS needs (fun x => Is K (needD x)) (fun x => !isMet R x.1 x.2) (fun x => x.1) (gi_tupM (ge_var rfl)) (Nat.le_trans hz (by decide)) fun x S' I' ext hx => ⟨_, _, (fun _ h => h), gg_name, (gt_notB (gt_valB (K := K) (ge_call (ga_cons (ge_var rfl) (ga_cons (ge_var rfl) ga_nil)) ⟨_, _, _, _, _, rfl, rfl, rfl⟩))), fun hp => (ge_op (ge_var rfl) (ge_int (K := K)) (gr_ixD (by decide) rfl))⟩)) (gs_retIf (gt_val (K := K) (ge_op (ge_var rfl) (ge_lstD ga_nil (.nil) (by show 0 ≤ 1000; decide)) gr_neED)) (fun b1 => (gs_retNon (ge_cb (ga_cons (ge_var rfl) ga_nil) (gc_minS ?_)) rfl (non_strX ?_))) (fun b1 => (gs_retNon (ge_non (K := K)) rfl (non_non ?_)))))
    · exact emp_posM b1
    · rw [lack_b b1]; rfl
    · rw [lack_b b1]; rfl
-- slots: 0=system 1=needs 2=some 3=need  uses: ['is_met']

end
end Hs
set_option Elab.async false
set_option linter.all false
set_option maxRecDepth 100000
set_option maxHeartbeats 4000000
namespace Hs
open PySem PySem.Spec PyProof.Rows L2 StX
section
variable {P : Program} {w : World} {K : PySem.W.Frag} {mg : Str → Option Value} {base : Heap}
abbrev N_is_there : List Str := ["system", "name"]
theorem sc_is_there : FnScope N_is_there ["system", "name"] (defScope s_is_there) := ⟨rfl, rfl, rfl, by decide +kernel, rfl, by decide +kernel, by decide +kernel⟩
theorem ok_is_there (T : Tx K mg) : FnR P w K mg base CX0 1 (a_is_there K) (spC (ct_is_there K)) := by
  obtain ⟨fd, F⟩ := T.f_is_there
  have nd := sc_is_there.nd
  refine ok_of (He5.fun_of F) sc_is_there (F.bindsN fun _ _ _ _ _ _ us hl => match us, hl with | [_, _], _ => rfl) ?_ fun cdv A outer s H E hr => have hu := hu_of hr; have hu0 := hr.units0; ⟨_, (pss_one (ps_ret (pe_and (pe_cmp (pc_din hu (pv 1) (pe_fldK K (pv 0) rfl))) (pe_one (pe_cmpR (op_inK K) (pe_ix (ix_tupK K) (pe_dget hu (pe_fldK K (pv 0) rfl) (pv 1) (fun _ _ => rfl)) pe_int (fun _ _ => rfl)) (pe_glob (v := .ref _) rfl T.g_THERE rfl) (by rfl)))))), ?_⟩
  · rintro S ⟨I, J, ins, out⟩ ⟨sa, es, R, n, h1, h2, h3⟩
    dsimp only at h2 ⊢
    subst h2
    rfl
  · rintro S ⟨I, J, ins, out⟩ ⟨sa, es, R, n, h1, h2, h3⟩
    dsimp only at h1 h2 h3
    subst h1 h2 h3
    refine (gs_retD (ge_and (ge_rin (ge_var rfl) (ge_fld (ge_var rfl) T.c_System T.na_System_rows rfl)) fun _ => (ge_op (ge_op (ge_rget (ge_fld (ge_var rfl) T.c_System T.na_System_rows rfl) (ge_var rfl) (by assumption)) (ge_int (K := K)) (gr_ixD (by decide) rfl)) (ge_kt T.v_THERE fun _ => da4) gr_inS)) rfl ?_)
    all_goals rfl
-- slots: 0=system 1=name  uses: []

end
end Hs
set_option Elab.async false
set_option linter.all false
set_option maxRecDepth 100000
set_option maxHeartbeats 4000000
namespace Hs
open PySem PySem.Spec PyProof.Rows L2 StX
section
variable {P : Program} {w : World} {K : PySem.W.Frag} {mg : Str → Option Value} {base : Heap}
abbrev N_edition_in : List Str := ["system", "name"]
theorem sc_edition_in : FnScope N_edition_in ["system", "name"] (defScope s_edition_in) := ⟨rfl, rfl, rfl, by decide +kernel, rfl, by decide +kernel, by decide +kernel⟩
theorem ok_edition_in (T : Tx K mg) : FnR P w K mg base CX0 1 (a_edition_in K) (spC (ct_edition_in K)) := by
  obtain ⟨fd, F⟩ := T.f_edition_in
  have nd := sc_edition_in.nd
  refine ok_of (He5.fun_of F) sc_edition_in (F.bindsN fun _ _ _ _ _ _ us hl => match us, hl with | [_, _], _ => rfl) ?_ fun cdv A outer s H E hr => have hu := hu_of hr; have hu0 := hr.units0; ⟨_, (pss_one (ps_ret (pe_dget hu (pe_fldK K (pe_fldK K (pv 0) rfl) rfl) (pe_tup (pa_cons (pv 1) (pa_cons (pe_ix (ix_tupK K) (pe_dget hu (pe_fldK K (pv 0) rfl) (pv 1) (fun _ _ => rfl)) pe_int (fun _ _ => rfl)) pa_nil))) (fun _ _ => rfl)))), ?_⟩
  · rintro S ⟨I, J, ins, out⟩ ⟨sa, es, R, n, hR, hE, h1, h2, h3⟩
    dsimp only at h2 ⊢
    subst h2
    rfl
  · rintro S ⟨I, J, ins, out⟩ ⟨sa, es, R, n, hR, hE, h1, h2, h3⟩
    dsimp only at h1 h2 h3
    subst h1 h2 h3
    refine (gs_retF (ge_kget (ge_fldA (ge_fld (ge_var rfl) T.c_System T.na_System_base rfl) T.c_Store T.na_Store_known rfl) (ge_tupK2 (ga_cons (ge_var rfl) (ga_cons (ge_op (ge_rget (ge_fld (ge_var rfl) T.c_System T.na_System_rows rfl) (ge_var rfl) (by assumption)) (ge_int (K := K)) (gr_ixD (by decide) rfl)) ga_nil))) (by assumption)))
    skip
-- slots: 0=system 1=name  uses: []

end
end Hs
set_option Elab.async false
set_option linter.all false
set_option maxRecDepth 100000
set_option maxHeartbeats 4000000
namespace Hs
open PySem PySem.Spec PyProof.Rows L2 StX
section
variable {P : Program} {w : World} {K : PySem.W.Frag} {mg : Str → Option Value} {base : Heap}
abbrev N_hostile : List Str := ["system", "edition", "found", "name"]
theorem sc_hostile : FnScope N_hostile ["system", "edition"] (defScope s_hostile) := ⟨rfl, rfl, rfl, by decide +kernel, rfl, by decide +kernel, by decide +kernel⟩
theorem ok_hostile (T : Tx K mg) : FnR P w K mg base CX0 2 (a_hostile K) (spC (ct_hostile K)) := by
  obtain ⟨fd, F⟩ := T.f_hostile
  have nd := sc_hostile.nd
  refine ok_of (He5.fun_of F) sc_hostile (F.bindsN fun _ _ _ _ _ _ us hl => match us, hl with | [_, _], _ => rfl) ?_ fun cdv A outer s H E hr => have hu := hu_of hr; have hu0 := hr.units0; ⟨_, (pss_cons (ps_set (i := 2) nd rfl (.inl rfl) (pe_lst pa_nil))
    (pss_cons (ps_or (ps_lock (ps_for PassesOwn.never rfl (pi_keys (pe_fldK K (pv 0) rfl)) (pg_name (i := 3) nd rfl (.inl rfl))
    (pss_one (ps_if (PW.pt (pw_and (pt_cmpR op_ne (pv 3) (pe_fldK K (pv 1) rfl) (nomark _)) (pw_and1 (pt_val (pe_callR (ok_is_there T) (hr.mono (by decide)) rfl T.g_is_there T.k_is_there pass0 (pa_cons (pv 0) (pa_cons (pv 3) pa_nil))))))) (pss_one (ps_if (PW.pt (pw_or (pt_cmpR (op_inK K) (pv 3) (pe_fldK K (pv 1) rfl) (by rfl)) (pw_or1 (pt_cmpR (op_inK K) (pe_fldK K (pv 1) rfl) (pe_fldK K (pe_callR (ok_edition_in T) (hr.mono (by decide)) rfl T.g_edition_in T.k_edition_in pass0 (pa_cons (pv 0) (pa_cons (pv 3) pa_nil))) rfl) (by rfl))))) (pss_one (ps_expr (pe_bm PySem.F.plainAttrs_list PySem.F.slot_list_append PySem.F.type_list_append mt_append (pv 2) (pa_cons (pv 3) pa_nil)))) pss_nil)) pss_nil)))) (ps_for PassesOwn.never rfl (pi_keys (pe_fldK K (pv 0) rfl)) (pg_name (i := 3) nd rfl (.inl rfl))
    (pss_one (ps_if (PW.pt (pw_and (pt_cmpR op_ne (pv 3) (pe_fldK K (pv 1) rfl) (nomark _)) (pw_and1 (pt_val (pe_callR (ok_is_there T) (hr.mono (by decide)) rfl T.g_is_there T.k_is_there pass0 (pa_cons (pv 0) (pa_cons (pv 3) pa_nil))))))) (pss_one (ps_if (PW.pt (pw_or (pt_cmpR (op_inK K) (pv 3) (pe_fldK K (pv 1) rfl) (by rfl)) (pw_or1 (pt_cmpR (op_inK K) (pe_fldK K (pv 1) rfl) (pe_fldK K (pe_callR (ok_edition_in T) (hr.mono (by decide)) rfl T.g_edition_in T.k_edition_in pass0 (pa_cons (pv 0) (pa_cons (pv 3) pa_nil))) rfl) (by rfl))))) (pss_one (ps_expr (pe_bm PySem.F.plainAttrs_list PySem.F.slot_list_append PySem.F.type_list_append mt_append (pv 2) (pa_cons (pv 3) pa_nil)))) pss_nil)) pss_nil))))
    (pss_one (ps_ret (pe_ifExp (pt_cmpR (op_neE hu0) (pv 2) (pe_lst pa_nil) (nomark _)) (pe_callB (cr_minS rfl) (by rfl) T.n_min (by decide +kernel) (pa_cons (pv 2) pa_nil)) pe_non))))), ?_⟩
  · rintro S ⟨I, J, ins, out⟩ ⟨sa, es, ns, R, e, he, hr', h1, h2, h3⟩
    dsimp only at h2 ⊢
    subst h2
    rfl
  · rintro S ⟨I, J, ins, out⟩ ⟨sa, es, ns, R, e, he, hr', h1, h2, h3⟩
    dsimp only at h1 h2 h3
    subst h1 h2 h3
    refine (gs_acc fun p np => (gs_forKS (fun _ : List Fm => [some (Sys K sa es R), some (Edn K e), some (Eqv (.ref p)), none]) (fun fs => J.acc p fs) (fun i fs => fs = (((R.take i).filter fun r => hostAt es R e r.1).map Prod.fst).map fun x => Is K (.str x)) [] (dsrc_fld rfl T.c_System T.na_System_rows rfl) okK_le (dit_keys (K := K)) rfl (.s (.s (.s (.s .nil)))) (fun _ h => h) (Rk_le fun a z => .inl z) (fun i ψ fs hψ hg => ?_) fun fs hg => ?_))
    · obtain ⟨r, hr2, rfl⟩ := rows_at hψ
      subst hg
      have hz : ((((R.take i).filter fun r => hostAt es R e r.1).map Prod.fst).map fun x => Is K (.str x)).length ≤ 1000 := by
        rw [List.length_map, List.length_map]
        exact Nat.le_trans (filt_len (hr'.few he)) (by decide)
      refine ⟨_, _, gg_name, ?_⟩
      refine gs_if (gt_and (gt_val (K := K) (ge_op (ge_var rfl) (ge_fld (ge_var rfl) T.c_Edition T.na_Edition_label rfl) gr_neS)) fun _ => gt_valB (K := K) (ge_call (ga_cons (ge_var rfl) (ga_cons (ge_var rfl) ga_nil)) ⟨_, _, _, _, rfl, rfl, rfl⟩)) (fun b1 => ?_) (fun b1 => gs_turn _ gs_next ?_ (.s (.s (.s (.n .nil)))) (fun _ h => h))
      · have ht := (Bool.and_eq_true_iff.mp b1).2
        have h1 := (hr'.foundT ht).1
        have h2 := (hr'.foundT ht).2
        refine gs_if (gt_or (gt_val (K := K) (ge_op (ge_var rfl) (ge_fld (ge_var rfl) T.c_Edition T.na_Edition_shuns rfl) gr_inS)) fun _ => gt_val (K := K) (ge_op (ge_fld (ge_var rfl) T.c_Edition T.na_Edition_label rfl) (ge_fld (ge_call (ga_cons (ge_var rfl) (ga_cons (ge_var rfl) ga_nil)) ⟨_, _, _, _, by assumption, by assumption, rfl, rfl, rfl⟩) T.c_Edition T.na_Edition_shuns rfl) gr_inS)) (fun b2 => gs_turn _ (gs_drop (ge_app (fun _ => ge_var rfl) (ge_var rfl) hz)) ?_ (.s (.s (.s (.n .nil)))) (fun _ h => h)) (fun b2 => gs_turn _ gs_next ?_ (.s (.s (.s (.n .nil)))) (fun _ h => h))
        · have hp : hostAt es R e r.1 = true := by unfold hostAt; rw [b1, b2]; rfl
          rw [filt_yes (p := fun r => hostAt es R e r.1) hr2 hp, List.map_append, List.map_append]
          rfl
        · have hp : hostAt es R e r.1 = false := by unfold hostAt; rw [b2, Bool.and_false]
          rw [filt_no (p := fun r => hostAt es R e r.1) hr2 hp]
      · have hp : hostAt es R e r.1 = false := by unfold hostAt; rw [b1, Bool.false_and]
        rw [filt_no (p := fun r => hostAt es R e r.1) hr2 hp]
    · subst hg
      rw [List.length_map, List.length_map, List.take_length]
      refine gs_retIf (gt_val (K := K) (ge_op (ge_var rfl) (ge_lstD ga_nil .nil (by show 0 ≤ 1000; decide)) gr_neEacc)) (fun b1 => gs_retNonA (ge_cb (ga_cons (ge_var rfl) ga_nil) (gc_minAcc ?_)) rfl rfl (non_strX ?_)) (fun b1 => gs_retNonA (ge_non (K := K)) rfl rfl (non_non ?_))
      · exact emp_posM b1
      · rw [host_b b1]; rfl
      · rw [host_b b1]; rfl
-- slots: 0=system 1=edition 2=found 3=name  uses: ['is_there', 'edition_in']

end
end Hs
set_option Elab.async false
set_option linter.all false
set_option maxRecDepth 100000
set_option maxHeartbeats 4000000
namespace Hs
open PySem PySem.Spec PyProof.Rows L2 StX
section
variable {P : Program} {w : World} {K : PySem.W.Frag} {mg : Str → Option Value} {base : Heap}
abbrev N_unpack_refusal : List Str := ["system", "name", "version", "status", "old", "done", "edition", "other"]
theorem sc_unpack_refusal : FnScope N_unpack_refusal ["system", "name", "version"] (defScope s_unpack_refusal) := ⟨rfl, rfl, rfl, by decide +kernel, rfl, by decide +kernel, by decide +kernel⟩
theorem ok_unpack_refusal (T : Tx K mg) : FnR P w K mg base CX0 3 (a_unpack_refusal K) (spC (ct_unpack_refusal K)) := by
  obtain ⟨fd, F⟩ := T.f_unpack_refusal
  have nd := sc_unpack_refusal.nd
  refine ok_of (He5.fun_of F) sc_unpack_refusal (F.bindsN fun _ _ _ _ _ _ us hl => match us, hl with | [_, _, _], _ => rfl) ?_ fun cdv A outer s H E hr => have hu := hu_of hr; have hu0 := hr.units0; ⟨_, (pss_cons (ps_if (pt_cmpR (op_notInO T.x_Store_contains T.x_Store_containsF (ok_Store_contains T) (hr.mono (by decide))) (pe_tup (pa_cons (pv 1) (pa_cons (pv 2) pa_nil))) (pe_fldK K (pv 0) rfl) (by rfl)) (pss_one (ps_ret (pe_tup (pa_cons pe_str pa_nil)))) pss_nil)
    (pss_cons (ps_asg (pe_dget hu (pe_fldK K (pv 0) rfl) (pv 1) (fun _ _ => rfl)) (pg_tupK K rfl (pgs_cons (pg_name (i := 3) nd rfl (.inl rfl)) (pgs_cons (pg_name (i := 4) nd rfl (.inl rfl)) (pgs_cons (pg_name (i := 5) nd rfl (.inl rfl)) pgs_nil)))))
    (pss_cons (ps_if (PW.pt (pw_and (pt_cmpR (op_inK K) (pv 3) (pe_tup (pa_cons (pe_gs rfl T.s_FAILED) (pa_cons (pe_gs rfl T.s_READY) (pa_cons (pe_gs rfl T.s_UNPACKED) pa_nil)))) (by rfl)) (pw_and1 (pt_cmpR op_eq (pv 4) (pv 2) (nomark _))))) (pss_one (ps_ret (pe_tup (pa_cons pe_str pa_nil)))) pss_nil)
    (pss_cons (ps_set (i := 6) nd rfl (.inl rfl) (pe_dget hu (pe_fldK K (pe_fldK K (pv 0) rfl) rfl) (pe_tup (pa_cons (pv 1) (pa_cons (pv 2) pa_nil))) (fun _ _ => rfl)))
    (pss_cons (ps_if (pt_cmp (pc_notN (pe_callR (ok_lacking T) (hr.mono (by decide)) rfl T.g_lacking T.k_lacking pass0 (pa_cons (pv 0) (pa_cons (pe_fldK K (pv 6) rfl) pa_nil))))) (pss_one (ps_ret (pe_tup (pa_cons pe_str (pa_cons (pe_callR (ok_lacking T) (hr.mono (by decide)) rfl T.g_lacking T.k_lacking pass0 (pa_cons (pv 0) (pa_cons (pe_fldK K (pv 6) rfl) pa_nil))) pa_nil))))) pss_nil)
    (pss_cons (ps_set (i := 7) nd rfl (.inl rfl) (pe_callR (ok_hostile T) (hr.mono (by decide)) rfl T.g_hostile T.k_hostile pass0 (pa_cons (pv 0) (pa_cons (pv 6) pa_nil))))
    (pss_one (ps_ret (pe_ifExp (pt_cmp (pc_notN (pv 7))) (pe_tup (pa_cons pe_str (pa_cons (pv 7) pa_nil))) pe_non))))))))), ?_⟩
  · rintro S ⟨I, J, ins, out⟩ ⟨sa, es, ns, R, n, v, he, hr', h1, h2, h3⟩
    dsimp only at h2 ⊢
    subst h2
    rfl
  · rintro S ⟨I, J, ins, out⟩ ⟨sa, es, ns, R, n, v, he, hr', h1, h2, h3⟩
    dsimp only at h1 h2 h3
    subst h1 h2 h3
    have hA : ∀ z : (!(findE es n v).isSome) = false, (findE es n v).isSome = true := fun z => not_f z
    have hB := fun z => hr'.inNs he (hA z)
    have hC := fun z => (he.few2 _ (findE_mem (hA z)).1).2
    refine (gs_ifs (gt_val (K := K) (ge_op (ge_tupK2 (ga_cons (ge_var rfl) (ga_cons (ge_var rfl) ga_nil))) (ge_fld (ge_var rfl) T.c_System T.na_System_base rfl) (gr_notInO (oba_ins rfl) ⟨_, _, _, _, rfl, rfl, rfl⟩))) (fun b1 => (gs_retNonS (ge_tup (K := K) (ga_cons (ge_str (K := K)) ga_nil) (by show 1 ≤ 1000; decide)) rfl (non_tup ?_))) (fun b1 => (gs_nextS (gs_seq (gs_asg (ge_rget (ge_fld (ge_var rfl) T.c_System T.na_System_rows rfl) (ge_var rfl) (by first | assumption | exact hA b1 | exact hB b1 | exact hC b1)) (gg_tupD (gg_cons gg_name (gg_cons gg_name (gg_cons gg_name gg_nil))) rfl)) (gs_ifs (gt_and (gt_val (K := K) (ge_op (ge_var rfl) (ge_tupS3 (ga_cons (ge_str (K := K)) (ga_cons (ge_str (K := K)) (ga_cons (ge_str (K := K)) ga_nil)))) gr_inS)) fun _ => (gt_val (K := K) (ge_op (ge_var rfl) (ge_var rfl) (by first | exact gr_eqS | exact gr_eqI)))) (fun b2 => (gs_retNonS (ge_tup (K := K) (ga_cons (ge_str (K := K)) ga_nil) (by show 1 ≤ 1000; decide)) rfl (non_tup ?_))) (fun b2 => (gs_nextS (gs_seq (gs_set (ge_kget (ge_fldA (ge_fld (ge_var rfl) T.c_System T.na_System_base rfl) T.c_Store T.na_Store_known rfl) (ge_tupK2 (ga_cons (ge_var rfl) (ga_cons (ge_var rfl) ga_nil))) (by first | assumption | exact hA b1 | exact hB b1 | exact hC b1))) (gs_ifs (gt_valB (K := K) (ge_notN (ge_call (ga_cons (ge_var rfl) (ga_cons (ge_fld (ge_var rfl) T.c_Edition T.na_Edition_asks rfl) ga_nil)) ⟨_, _, _, _, by first | assumption | exact hA b1 | exact hB b1 | exact hC b1, rfl, rfl, rfl⟩) (fun _ _ _ p => p))) (fun b3 => (gs_retNonS (ge_tup (K := K) (ga_cons (ge_str (K := K)) (ga_cons (ge_call (ga_cons (ge_var rfl) (ga_cons (ge_fld (ge_var rfl) T.c_Edition T.na_Edition_asks rfl) ga_nil)) ⟨_, _, _, _, by first | assumption | exact hA b1 | exact hB b1 | exact hC b1, rfl, rfl, rfl⟩) ga_nil)) (by show 2 ≤ 1000; decide)) rfl (non_tup ?_))) (fun b3 => (gs_nextS (gs_seq (gs_set (ge_call (ga_cons (ge_var rfl) (ga_cons (ge_var rfl) ga_nil)) ⟨_, _, _, _, _, by first | assumption | exact hA b1 | exact hB b1 | exact hC b1, by first | assumption | exact hA b1 | exact hB b1 | exact hC b1, rfl, rfl, rfl⟩)) (gs_retIf (gt_valB (K := K) (ge_notN (ge_var rfl) (fun _ _ _ p => p))) (fun b4 => (gs_retNon (ge_tup (K := K) (ga_cons (ge_str (K := K)) (ga_cons (ge_var rfl) ga_nil)) (by show 2 ≤ 1000; decide)) rfl (non_tup ?_))) (fun b4 => (gs_retNon (ge_non (K := K)) rfl (non_non ?_))))))))))))))))
    · unfold unpackOk; rw [not_t b1]; rfl
    · unfold unpackOk; rw [not_f b1, show (decide ((rowAt R n).st ∈ [sFa, sRe, sUn]) && decide ((rowAt R n).ver = v)) = true from b2]; rfl
    · unfold unpackOk; rw [not_f b1, show (decide ((rowAt R n).st ∈ [sFa, sRe, sUn]) && decide ((rowAt R n).ver = v)) = false from b2, not_f (not_t b3)]; rfl
    · unfold unpackOk; rw [not_f b1, show (decide ((rowAt R n).st ∈ [sFa, sRe, sUn]) && decide ((rowAt R n).ver = v)) = false from b2, not_t (not_f b3), not_f (not_t b4)]; rfl
    · unfold unpackOk; rw [not_f b1, show (decide ((rowAt R n).st ∈ [sFa, sRe, sUn]) && decide ((rowAt R n).ver = v)) = false from b2, not_t (not_f b3), not_t (not_f b4)]; rfl
-- slots: 0=system 1=name 2=version 3=status 4=old 5=done 6=edition 7=other  uses: ['lacking', 'hostile']

end
end Hs
set_option Elab.async false
set_option linter.all false
set_option maxRecDepth 100000
set_option maxHeartbeats 4000000
namespace Hs
open PySem PySem.Spec PyProof.Rows L2 StX
section
variable {P : Program} {w : World} {K : PySem.W.Frag} {mg : Str → Option Value} {base : Heap}
abbrev N_setup_refusal : List Str := ["system", "name", "other"]
theorem sc_setup_refusal : FnScope N_setup_refusal ["system", "name"] (defScope s_setup_refusal) := ⟨rfl, rfl, rfl, by decide +kernel, rfl, by decide +kernel, by decide +kernel⟩
theorem ok_setup_refusal (T : Tx K mg) : FnR P w K mg base CX0 3 (a_setup_refusal K) (spC (ct_setup_refusal K)) := by
  obtain ⟨fd, F⟩ := T.f_setup_refusal
  have nd := sc_setup_refusal.nd
  refine ok_of (He5.fun_of F) sc_setup_refusal (F.bindsN fun _ _ _ _ _ _ us hl => match us, hl with | [_, _], _ => rfl) ?_ fun cdv A outer s H E hr => have hu := hu_of hr; have hu0 := hr.units0; ⟨_, (pss_cons (ps_if (pt_cmpR (op_niK K) (pe_ix (ix_tupK K) (pe_dget hu (pe_fldK K (pv 0) rfl) (pv 1) (fun _ _ => rfl)) pe_int (fun _ _ => rfl)) (pe_tup (pa_cons (pe_gs rfl T.s_FAILED) (pa_cons (pe_gs rfl T.s_UNPACKED) pa_nil))) (by rfl)) (pss_one (ps_ret (pe_tup (pa_cons pe_str pa_nil)))) pss_nil)
    (pss_cons (ps_set (i := 2) nd rfl (.inl rfl) (pe_callR (ok_lacking T) (hr.mono (by decide)) rfl T.g_lacking T.k_lacking pass0 (pa_cons (pv 0) (pa_cons (pe_fldK K (pe_callR (ok_edition_in T) (hr.mono (by decide)) rfl T.g_edition_in T.k_edition_in pass0 (pa_cons (pv 0) (pa_cons (pv 1) pa_nil))) rfl) pa_nil))))
    (pss_one (ps_ret (pe_ifExp (pt_cmp (pc_notN (pv 2))) (pe_tup (pa_cons pe_str (pa_cons (pv 2) pa_nil))) pe_non))))), ?_⟩
  · rintro S ⟨I, J, ins, out⟩ ⟨sa, es, ns, R, n, he, hr', hn, h1, h2, h3⟩
    dsimp only at h2 ⊢
    subst h2
    rfl
  · rintro S ⟨I, J, ins, out⟩ ⟨sa, es, ns, R, n, he, hr', hn, h1, h2, h3⟩
    dsimp only at h1 h2 h3
    subst h1 h2 h3
    have hA : (!decide ((rowAt R n).st ∈ [sFa, sUn])) = false → (findE es n (rowAt R n).ver).isSome = true := fun z => hr'.found hn fun e => by
      have z := of_decide_eq_true (not_f z)
      rw [e] at z
      revert z
      decide +kernel
    have hC := fun z => (he.few2 _ (findE_mem (hA z)).1).1
    refine (gs_ifs (gt_val (K := K) (ge_op (ge_op (ge_rget (ge_fld (ge_var rfl) T.c_System T.na_System_rows rfl) (ge_var rfl) (by first | assumption | exact hA b1 | exact hC b1)) (ge_int (K := K)) (gr_ixD (by decide) rfl)) (ge_tupS2 (ga_cons (ge_str (K := K)) (ga_cons (ge_str (K := K)) ga_nil))) gr_niS)) (fun b1 => (gs_retNonS (ge_tup (K := K) (ga_cons (ge_str (K := K)) ga_nil) (by show 1 ≤ 1000; decide)) rfl (non_tup ?_))) (fun b1 => (gs_nextS (gs_seq (gs_set (ge_call (ga_cons (ge_var rfl) (ga_cons (ge_fld (ge_call (ga_cons (ge_var rfl) (ga_cons (ge_var rfl) ga_nil)) ⟨_, _, _, _, by first | assumption | exact hA b1 | exact hC b1, by first | assumption | exact hA b1 | exact hC b1, rfl, rfl, rfl⟩) T.c_Edition T.na_Edition_wants rfl) ga_nil)) ⟨_, _, _, _, by first | assumption | exact hA b1 | exact hC b1, rfl, rfl, rfl⟩)) (gs_retIf (gt_valB (K := K) (ge_notN (ge_var rfl) (fun _ _ _ p => p))) (fun b2 => (gs_retNon (ge_tup (K := K) (ga_cons (ge_str (K := K)) (ga_cons (ge_var rfl) ga_nil)) (by show 2 ≤ 1000; decide)) rfl (non_tup ?_))) (fun b2 => (gs_retNon (ge_non (K := K)) rfl (non_non ?_))))))))
    · unfold setupOk; rw [show decide ((rowAt R n).st ∈ [sFa, sUn]) = false from not_t b1]; rfl
    · unfold setupOk; rw [show decide ((rowAt R n).st ∈ [sFa, sUn]) = true from not_f b1, show lacks R (edIn es R n).wants = true from not_f (not_t b2)]; rfl
    · unfold setupOk; rw [show decide ((rowAt R n).st ∈ [sFa, sUn]) = true from not_f b1, show lacks R (edIn es R n).wants = false from not_t (not_f b2)]; rfl
-- slots: 0=system 1=name 2=other  uses: ['lacking', 'edition_in']

end
end Hs
set_option Elab.async false
set_option linter.all false
set_option maxRecDepth 100000
set_option maxHeartbeats 4000000
namespace Hs
open PySem PySem.Spec PyProof.Rows L2 StX
section
variable {P : Program} {w : World} {K : PySem.W.Frag} {mg : Str → Option Value} {base : Heap}
abbrev N_remove_refusal : List Str := ["system", "name", "other", "need"]
theorem sc_remove_refusal : FnScope N_remove_refusal ["system", "name"] (defScope s_remove_refusal) := ⟨rfl, rfl, rfl, by decide +kernel, rfl, by decide +kernel, by decide +kernel⟩
theorem ok_remove_refusal (T : Tx K mg) : FnR P w K mg base CX0 2 (a_remove_refusal K) (spC (ct_remove_refusal K)) := by
  obtain ⟨fd, F⟩ := T.f_remove_refusal
  have nd := sc_remove_refusal.nd
  refine ok_of (He5.fun_of F) sc_remove_refusal (F.bindsN fun _ _ _ _ _ _ us hl => match us, hl with | [_, _], _ => rfl) ?_ fun cdv A outer s H E hr => have hu := hu_of hr; have hu0 := hr.units0; ⟨_, (pss_cons (ps_if (pt_not (pt_val (pe_callR (ok_is_there T) (hr.mono (by decide)) rfl T.g_is_there T.k_is_there pass0 (pa_cons (pv 0) (pa_cons (pv 1) pa_nil))))) (pss_one (ps_ret (pe_tup (pa_cons pe_str pa_nil)))) pss_nil)
    (pss_cons (ps_or (ps_lock (ps_for PassesOwn.never rfl (pi_keys (pe_fldK K (pv 0) rfl)) (pg_name (i := 2) nd rfl (.inl rfl))
    (pss_one (ps_if (PW.pt (pw_and (pt_cmpR op_eq (pe_ix (ix_tupK K) (pe_dget hu (pe_fldK K (pv 0) rfl) (pv 2) (fun _ _ => rfl)) pe_int (fun _ _ => rfl)) (pe_gs rfl T.s_READY) (nomark _)) (pw_and1 (pt_cmpR (op_inK K) (pv 1) (pe_lc (own := [("need", 3)]) (g := gName 3) (tt := tYes) rfl nd (pi_tupK K (pe_fldK K (pe_callR (ok_edition_in T) (hr.mono (by decide)) rfl T.g_edition_in T.k_edition_in pass0 (pa_cons (pv 0) (pa_cons (pv 2) pa_nil))) rfl)) (blkOk_by (own := [("need", 3)]) (N := N_remove_refusal) (sc := defScope s_remove_refusal) (by decide +kernel)) (fun _ _ _ _ _ => pg_name (i := 3) nd rfl (Or.inl rfl)) (fun _ _ _ _ _ => pts_nil) (fun _ _ _ _ _ => (pe_ix (ix_tupK K) (pv 3) pe_int (fun _ _ => rfl)))) (by rfl))))) (pss_one (ps_ret (pe_tup (pa_cons pe_str (pa_cons (pv 2) pa_nil))))) pss_nil)))) (ps_for PassesOwn.never rfl (pi_keys (pe_fldK K (pv 0) rfl)) (pg_name (i := 2) nd rfl (.inl rfl))
    (pss_one (ps_if (PW.pt (pw_and (pt_cmpR op_eq (pe_ix (ix_tupK K) (pe_dget hu (pe_fldK K (pv 0) rfl) (pv 2) (fun _ _ => rfl)) pe_int (fun _ _ => rfl)) (pe_gs rfl T.s_READY) (nomark _)) (pw_and1 (pt_cmpR (op_inK K) (pv 1) (pe_lc (own := [("need", 3)]) (g := gName 3) (tt := tYes) rfl nd (pi_tupK K (pe_fldK K (pe_callR (ok_edition_in T) (hr.mono (by decide)) rfl T.g_edition_in T.k_edition_in pass0 (pa_cons (pv 0) (pa_cons (pv 2) pa_nil))) rfl)) (blkOk_by (own := [("need", 3)]) (N := N_remove_refusal) (sc := defScope s_remove_refusal) (by decide +kernel)) (fun _ _ _ _ _ => pg_name (i := 3) nd rfl (Or.inl rfl)) (fun _ _ _ _ _ => pts_nil) (fun _ _ _ _ _ => (pe_ix (ix_tupK K) (pv 3) pe_int (fun _ _ => rfl)))) (by rfl))))) (pss_one (ps_ret (pe_tup (pa_cons pe_str (pa_cons (pv 2) pa_nil))))) pss_nil))))
    (pss_one (ps_ret pe_non)))), ?_⟩
  · rintro S ⟨I, J, ins, out⟩ ⟨sa, es, ns, R, n, he, hr', h1, h2, h3⟩
    dsimp only at h2 ⊢
    subst h2
    rfl
  · rintro S ⟨I, J, ins, out⟩ ⟨sa, es, ns, R, n, he, hr', h1, h2, h3⟩
    dsimp only at h1 h2 h3
    subst h1 h2 h3
    refine (gs_ifs (gt_notB (gt_valB (K := K) (ge_call (ga_cons (ge_var rfl) (ga_cons (ge_var rfl) ga_nil)) ⟨_, _, _, _, rfl, rfl, rfl⟩))) (fun b1 => (gs_retNonS (ge_tup (K := K) (ga_cons (ge_str (K := K)) ga_nil) (by show 1 ≤ 1000; decide)) rfl (non_tup ?_))) (fun b1 => (gs_nextS (gs_forKS (fun _ : Unit => [some (Sys K sa es R), some (Is K (.str n)), none, none]) (fun _ => J) (fun i _ => ∀ (j : Nat) (r : Str × S3), R[j]? = some r → j < i → (!(decide ((rowAt R r.1).st = sRe) && decide (n ∈ (edIn es R r.1).wants.map Prod.fst))) = true) () (dsrc_fld rfl T.c_System T.na_System_rows rfl) okK_le (dit_keys (K := K)) (fun j r _ h => absurd h (Nat.not_lt_zero j)) (.s (.s (.s (.s .nil)))) (fun _ h => h) (Rk_le fun a z => z) (fun i ψ b hψ hg => ?_) fun b hg => gs_retNon (ge_non (K := K)) rfl (non_non ?_)))))
    · unfold removeOk; rw [not_t b1]; rfl
    · obtain ⟨r, hr2, rfl⟩ := rows_at hψ
      refine ⟨_, _, gg_name, ?_⟩
      have hm := List.mem_of_getElem? hr2
      have hA := hr'.some hm
      have hB : decide ((rowAt R r.1).st = sRe) = true → (findE es r.1 (rowAt R r.1).ver).isSome = true := fun z => hr'.found hA (by rw [of_decide_eq_true z]; decide +kernel)
      have key : ∀ b : Bool, (decide ((rowAt R r.1).st = sRe) && decide (n ∈ (edIn es R r.1).wants.map Prod.fst)) = b → b = false → ∀ (j : Nat) (r : Str × S3), R[j]? = some r → j < i + 1 → (!(decide ((rowAt R r.1).st = sRe) && decide (n ∈ (edIn es R r.1).wants.map Prod.fst))) = true := fun b e1 e2 j q hq hj => by
        by_cases e : j = i
        · subst e
          rw [hr2] at hq
          cases hq
          rw [e1, e2]
          rfl
        · exact hg j q hq (by omega)
      refine gs_if (gt_and (gt_val (K := K) (ge_op (ge_op (ge_rget (ge_fld (ge_var rfl) T.c_System T.na_System_rows rfl) (ge_var rfl) (by assumption)) (ge_int (K := K)) (gr_ixD (by decide) rfl)) (ge_str (K := K)) gr_eqS)) fun b2 => gt_val (K := K) (ge_op (ge_var rfl) (ge_lcS1 (edIn es R r.1).wants (fun x => Is K (needD x)) (fun x => x.1) (gi_tupM (ge_fld (ge_call (ga_cons (ge_var rfl) (ga_cons (ge_var rfl) ga_nil)) ⟨_, _, _, _, hA, hB b2, rfl, rfl, rfl⟩) T.c_Edition T.na_Edition_wants rfl)) (Nat.le_trans (he.few2 _ (findE_mem (hB b2)).1).1 (by decide)) fun x S' I' ext hx => ⟨_, _, (fun _ h => h), gg_name, gt_yes, fun hp => (ge_op (ge_var rfl) (ge_int (K := K)) (gr_ixD (by decide) rfl))⟩) gr_inSL)) (fun b2 => gs_retNon (ge_tup (K := K) (ga_cons (ge_str (K := K)) (ga_cons (ge_var rfl) ga_nil)) (by show 2 ≤ 1000; decide)) rfl (non_tup ?_)) (fun b2 => gs_turn () gs_next (key _ b2 rfl) (.s (.s (.n (.n .nil)))) (fun _ h => h))
      unfold removeOk
      rw [all_not hr2 (by show (!(_)) = false; rw [show (decide ((rowAt R r.1).st = sRe) && decide (n ∈ (edIn es R r.1).wants.map Prod.fst)) = true from b2]; rfl), Bool.and_false]
    · unfold removeOk
      rw [not_f b1, Bool.true_and]
      refine all_take fun j r hj hl => hg j r hj ?_
      rw [List.length_map, List.length_map]
      exact hl
-- slots: 0=system 1=name 2=other 3=need  uses: ['is_there', 'edition_in']

end
end Hs
set_option Elab.async false
set_option linter.all false
set_option maxRecDepth 100000
set_option maxHeartbeats 4000000
namespace Hs
open PySem PySem.Spec PyProof.Rows L2 StX
section
variable {P : Program} {w : World} {K : PySem.W.Frag} {mg : Str → Option Value} {base : Heap}
abbrev N_refusal : List Str := ["system", "deed", "word", "name"]
theorem sc_refusal : FnScope N_refusal ["system", "deed"] (defScope s_refusal) := ⟨rfl, rfl, rfl, by decide +kernel, rfl, by decide +kernel, by decide +kernel⟩
theorem ok_refusal (T : Tx K mg) : FnR P w K mg base CX0 4 (a_refusal K) (spC (ct_refusal K)) := by
  obtain ⟨fd, F⟩ := T.f_refusal
  have nd := sc_refusal.nd
  refine ok_of (He5.fun_of F) sc_refusal (F.bindsN fun _ _ _ _ _ _ us hl => match us, hl with | [_, _], _ => rfl) ?_ fun cdv A outer s H E hr => have hu := hu_of hr; have hu0 := hr.units0; ⟨_, (pss_cons (ps_asg (pe_slice (sl_tupAK K) (pv 1) po_none (po_some pe_int)) (pg_tupK K rfl (pgs_cons (pg_name (i := 2) nd rfl (.inl rfl)) (pgs_cons (pg_name (i := 3) nd rfl (.inl rfl)) pgs_nil))))
    (pss_cons (ps_if (pt_cmpR op_eq (pv 2) (pe_gs rfl T.s_UNPACK) (nomark _)) (pss_one (ps_ret (pe_callR (ok_unpack_refusal T) (hr.mono (by decide)) rfl T.g_unpack_refusal T.k_unpack_refusal pass0 (pa_cons (pv 0) (pa_cons (pv 3) (pa_cons (pe_ix (ix_tupK K) (pv 1) pe_int (fun _ _ => rfl)) pa_nil)))))) pss_nil)
    (pss_cons (ps_if (pt_cmp (pc_dnotin hu (pv 3) (pe_fldK K (pv 0) rfl))) (pss_one (ps_ret (pe_tup (pa_cons pe_str pa_nil)))) pss_nil)
    (pss_cons (ps_if (pt_cmpR op_eq (pv 2) (pe_gs rfl T.s_SETUP) (nomark _)) (pss_one (ps_ret (pe_callR (ok_setup_refusal T) (hr.mono (by decide)) rfl T.g_setup_refusal T.k_setup_refusal pass0 (pa_cons (pv 0) (pa_cons (pv 3) pa_nil))))) pss_nil)
    (pss_cons (ps_if (pt_cmpR op_eq (pv 2) (pe_gs rfl T.s_REMOVE) (nomark _)) (pss_one (ps_ret (pe_callR (ok_remove_refusal T) (hr.mono (by decide)) rfl T.g_remove_refusal T.k_remove_refusal pass0 (pa_cons (pv 0) (pa_cons (pv 3) pa_nil))))) pss_nil)
    (pss_one (ps_ret (pe_ifExp (pt_cmpR op_ne (pe_ix (ix_tupK K) (pe_dget hu (pe_fldK K (pv 0) rfl) (pv 3) (fun _ _ => rfl)) pe_int (fun _ _ => rfl)) (pe_gs rfl T.s_LEFT) (nomark _)) (pe_tup (pa_cons pe_str pa_nil)) pe_non)))))))), ?_⟩
  · rintro S ⟨I, J, ins, out⟩ ⟨sa, es, ns, R, d, he, hr', h1, h2, h3⟩
    dsimp only at h2 ⊢
    subst h2
    rfl
  · rintro S ⟨I, J, ins, out⟩ ⟨sa, es, ns, R, d, he, hr', h1, h2, h3⟩
    dsimp only at h1 h2 h3
    subst h1 h2 h3
    cases d with
    | unpack n v =>
      refine gs_seq (gs_asg (ge_slD (ge_var rfl) po_n po_i) (gg_tupD (gg_cons gg_name (gg_cons gg_name gg_nil)) rfl)) ?_
      refine gs_ifs (gt_val (K := K) (ge_op (ge_var rfl) (ge_str (K := K)) gr_eqS)) (fun b1 => gs_retNonS (ge_call (ga_cons (ge_var rfl) (ga_cons (ge_var rfl) (ga_cons (ge_op (ge_var rfl) (ge_int (K := K)) (gr_ixD (by decide) rfl)) ga_nil))) ⟨_, _, _, _, _, _, he, hr', rfl, rfl, rfl⟩) rfl (fun v H p => Eq.trans p rfl)) (fun b1 => absurd b1 (by decide +kernel))
    | setup n =>
      refine gs_seq (gs_asg (ge_slD (ge_var rfl) po_n po_i) (gg_tupD (gg_cons gg_name (gg_cons gg_name gg_nil)) rfl)) ?_
      refine gs_ifs (gt_val (K := K) (ge_op (ge_var rfl) (ge_str (K := K)) gr_eqS)) (fun b1 => absurd b1 (by decide +kernel)) (fun b1 => gs_nextS (gs_ifs (gt_valB (K := K) (ge_rnin (ge_var rfl) (ge_fld (ge_var rfl) T.c_System T.na_System_rows rfl))) (fun b2 => gs_retNonS (ge_tup (K := K) (ga_cons (ge_str (K := K)) ga_nil) (by show 1 ≤ 1000; decide)) rfl (non_tup ?_)) (fun b2 => gs_nextS (gs_ifs (gt_val (K := K) (ge_op (ge_var rfl) (ge_str (K := K)) gr_eqS)) (fun b3 => gs_retNonS (ge_call (ga_cons (ge_var rfl) (ga_cons (ge_var rfl) ga_nil)) ⟨_, _, _, _, _, he, hr', not_f b2, rfl, rfl, rfl⟩) rfl (fun v H p => Eq.trans p ?_)) (fun b3 => absurd b3 (by decide +kernel))))))
      · show ((lk R n).isSome && setupOk es R n) = false; rw [not_t b2]; rfl
      · show setupOk es R n = ((lk R n).isSome && setupOk es R n); rw [not_f b2]; rfl
    | remove n =>
      refine gs_seq (gs_asg (ge_slD (ge_var rfl) po_n po_i) (gg_tupD (gg_cons gg_name (gg_cons gg_name gg_nil)) rfl)) ?_
      refine gs_ifs (gt_val (K := K) (ge_op (ge_var rfl) (ge_str (K := K)) gr_eqS)) (fun b1 => absurd b1 (by decide +kernel)) (fun b1 => gs_nextS (gs_ifs (gt_valB (K := K) (ge_rnin (ge_var rfl) (ge_fld (ge_var rfl) T.c_System T.na_System_rows rfl))) (fun b2 => gs_retNonS (ge_tup (K := K) (ga_cons (ge_str (K := K)) ga_nil) (by show 1 ≤ 1000; decide)) rfl (non_tup ?_)) (fun b2 => gs_nextS (gs_ifs (gt_val (K := K) (ge_op (ge_var rfl) (ge_str (K := K)) gr_eqS)) (fun b3 => absurd b3 (by decide +kernel)) (fun b3 => gs_nextS (gs_ifs (gt_val (K := K) (ge_op (ge_var rfl) (ge_str (K := K)) gr_eqS)) (fun b4 => gs_retNonS (ge_call (ga_cons (ge_var rfl) (ga_cons (ge_var rfl) ga_nil)) ⟨_, _, _, _, _, he, hr', rfl, rfl, rfl⟩) rfl (fun v H p => Eq.trans p ?_)) (fun b4 => absurd b4 (by decide +kernel))))))))
      · show ((lk R n).isSome && removeOk es R n) = false; rw [not_t b2]; rfl
      · show removeOk es R n = ((lk R n).isSome && removeOk es R n); rw [not_f b2]; rfl
    | purge n =>
      refine gs_seq (gs_asg (ge_slD (ge_var rfl) po_n po_i) (gg_tupD (gg_cons gg_name (gg_cons gg_name gg_nil)) rfl)) ?_
      refine gs_ifs (gt_val (K := K) (ge_op (ge_var rfl) (ge_str (K := K)) gr_eqS)) (fun b1 => absurd b1 (by decide +kernel)) (fun b1 => gs_nextS (gs_ifs (gt_valB (K := K) (ge_rnin (ge_var rfl) (ge_fld (ge_var rfl) T.c_System T.na_System_rows rfl))) (fun b2 => gs_retNonS (ge_tup (K := K) (ga_cons (ge_str (K := K)) ga_nil) (by show 1 ≤ 1000; decide)) rfl (non_tup ?_)) (fun b2 => gs_nextS (gs_ifs (gt_val (K := K) (ge_op (ge_var rfl) (ge_str (K := K)) gr_eqS)) (fun b3 => absurd b3 (by decide +kernel)) (fun b3 => gs_nextS (gs_ifs (gt_val (K := K) (ge_op (ge_var rfl) (ge_str (K := K)) gr_eqS)) (fun b4 => absurd b4 (by decide +kernel)) (fun b4 => gs_nextS (gs_retIf (gt_val (K := K) (ge_op (ge_op (ge_rget (ge_fld (ge_var rfl) T.c_System T.na_System_rows rfl) (ge_var rfl) (not_f b2)) (ge_int (K := K)) (gr_ixD (by decide) rfl)) (ge_str (K := K)) gr_neS)) (fun b5 => gs_retNon (ge_tup (K := K) (ga_cons (ge_str (K := K)) ga_nil) (by show 1 ≤ 1000; decide)) rfl (non_tup ?_)) (fun b5 => gs_retNon (ge_non (K := K)) rfl (non_non ?_)))))))))) 
      · show ((lk R n).isSome && decide ((rowAt R n).st = sLe)) = false; rw [not_t b2]; rfl
      · show ((lk R n).isSome && decide ((rowAt R n).st = sLe)) = false; rw [show decide ((rowAt R n).st = sLe) = false from not_t b5, Bool.and_false]
      · show ((lk R n).isSome && decide ((rowAt R n).st = sLe)) = true; rw [not_f b2, show decide ((rowAt R n).st = sLe) = true from not_f b5]; rfl
    all_goals skip
-- slots: 0=system 1=deed 2=word 3=name  uses: ['unpack_refusal', 'setup_refusal', 'remove_refusal']

end
end Hs
set_option Elab.async false
set_option linter.all false
set_option maxRecDepth 100000
set_option maxHeartbeats 4000000
namespace Hs
open PySem PySem.Spec PyProof.Rows L2 StX
section
variable {P : Program} {w : World} {K : PySem.W.Frag} {mg : Str → Option Value} {base : Heap}
abbrev N_need_begin : List Str := ["system", "deed", "why"]
theorem sc_need_begin : FnScope N_need_begin ["system", "deed"] (defScope s_need_begin) := ⟨rfl, rfl, rfl, by decide +kernel, rfl, by decide +kernel, by decide +kernel⟩
theorem ok_need_begin (T : Tx K mg) : FnR P w K mg base CX0 5 (a_need_begin K) (spC (ct_need_begin K)) := by
  obtain ⟨fd, F⟩ := T.f_need_begin
  have nd := sc_need_begin.nd
  refine ok_of (He5.fun_of F) sc_need_begin (F.bindsN fun _ _ _ _ _ _ us hl => match us, hl with | [_, _], _ => rfl) ?_ fun cdv A outer s H E hr => have hu := hu_of hr; have hu0 := hr.units0; ⟨_, (pss_cons (ps_set (i := 2) nd rfl (.inl rfl) (pe_callR (ok_refusal T) (hr.mono (by decide)) rfl T.g_refusal T.k_refusal pass0 (pa_cons (pv 0) (pa_cons (pv 1) pa_nil))))
    (pss_one (ps_if (pt_cmp (pc_notN (pv 2))) pss_never pss_nil))), ?_⟩
  · rintro S ⟨I, J, ins, out⟩ ⟨sa, es, ns, R, d, he, hr', ha, h1, h2, h3⟩
    dsimp only at h2 ⊢
    subst h2
    rfl
  · rintro S ⟨I, J, ins, out⟩ ⟨sa, es, ns, R, d, he, hr', ha, h1, h2, h3⟩
    dsimp only at h1 h2 h3
    subst h1 h2 h3
    refine gs_seq (gs_set (ge_call (ga_cons (ge_var rfl) (ga_cons (ge_var rfl) ga_nil)) ⟨sa, es, ns, R, d, he, hr', rfl, rfl, rfl⟩)) (gs_if (gt_valB (K := K) (ge_notN (ge_var rfl) (fun _ _ _ p => p))) (fun b1 => gs_never ?_) (fun b1 => gs_next.wk fun σ H ⟨_, j⟩ => ⟨.non, j⟩))
    rw [ha] at b1; cases b1
    all_goals skip
-- slots: 0=system 1=deed 2=why  uses: ['refusal']

end
end Hs
set_option Elab.async false
set_option linter.all false
set_option maxRecDepth 100000
set_option maxHeartbeats 4000000
namespace Hs
open PySem PySem.Spec PyProof.Rows L2 StX
section
variable {P : Program} {w : World} {K : PySem.W.Frag} {mg : Str → Option Value} {base : Heap}
abbrev N_Run_init : List Str := ["self", "system", "fails"]
theorem sc_Run_init : FnScope N_Run_init ["self", "system", "fails"] (defScope s_Run_init) := ⟨rfl, rfl, rfl, by decide +kernel, rfl, by decide +kernel, by decide +kernel⟩
theorem ok_Run_init (T : Tx K mg) : FnR P w K mg base CX0 1 (a_Run_init K) (spRun (C_Run K)) := by
  obtain ⟨fd, F⟩ := T.f_Run_init
  have nd := sc_Run_init.nd
  have h : FnOk P w K mg base CX0 1 (a_Run_init K) fd ["self", "system", "fails"] (spRun (C_Run K)) := (He5.fun_of F).ok sc_Run_init (fun vs H Q E ⟨x, v1, v2, dx, e, _⟩ => by rw [e]; rfl) fun cdv A outer s H vs Q E hr hsp => ⟨_, (pss_cons (ps_fld (pv 0) (pv 1) rfl)
    (pss_cons (ps_fld (pv 0) (pv 2) rfl)
    (pss_one (ps_fld (pv 0) (pe_lst pa_nil) rfl)))), by
    obtain ⟨x, v1, v2, dx, rfl, hx, q⟩ := hsp
    refine ⟨_, rfl, _, rfl, x, _, dx, _, rfl, hx, T.c_Run, T.na_Run_base, by show 0 < 1000; decide, ?_⟩
    refine ⟨_, rfl, _, rfl, x, _, dx, _, rfl, upd_same, T.c_Run, T.na_Run_fails, by show 1 < 1000; decide, ?_⟩
    rw [upd_upd]
    refine ⟨by decide, fun p hp => ⟨_, rfl, x, _, dx, _, rfl, by rw [upd_ne (fun z => by rw [← z, upd_same] at hp; cases hp)]; exact upd_same, T.c_Run, T.na_Run_made, by show 2 < 1000; decide, ?_⟩⟩
    have hpx : p ≠ x := fun z => by rw [z, upd_same] at hp; cases hp
    rw [upd_ne hpx] at hp
    exact q _ p hp (fun a o ha ho => by rw [upd_ne ha, upd_ne (ne_of_none ho hp), upd_ne ha]; exact ho) upd_same (by rw [upd_ne hpx, upd_same])⟩
  exact (h.raw (F.bindsN fun _ _ _ _ _ _ us hl => match us, hl with | [_, _, _], _ => rfl) .nil).imp fun vs H Q E q => by rw [List.append_nil]; exact q
-- slots: 0=self 1=system 2=fails  uses: []

end
end Hs
set_option Elab.async false
set_option linter.all false
set_option maxRecDepth 100000
set_option maxHeartbeats 4000000
namespace Hs
open PySem PySem.Spec PyProof.Rows L2 StX
section
variable {P : Program} {w : World} {K : PySem.W.Frag} {mg : Str → Option Value} {base : Heap}
abbrev N_Run_is_done : List Str := ["self", "name", "version", "call", "has_failed"]
theorem sc_Run_is_done : FnScope N_Run_is_done ["self", "name", "version", "call"] (defScope s_Run_is_done) := ⟨rfl, rfl, rfl, by decide +kernel, rfl, by decide +kernel, by decide +kernel⟩
theorem ok_Run_is_done (T : Tx K mg) : FnR P w K mg base CX0 1 (a_Run_is_done K) (spC (ct_Run_is_done K)) := by
  obtain ⟨fd, F⟩ := T.f_Run_is_done
  have nd := sc_Run_is_done.nd
  refine ok_of (He5.fun_of F) sc_Run_is_done (F.bindsN fun _ _ _ _ _ _ us hl => match us, hl with | [_, _, _, _], _ => rfl) ?_ fun cdv A outer s H E hr => have hu := hu_of hr; have hu0 := hr.units0; ⟨_, (pss_cons (ps_if (pt_cmpR (op_niK K) (pe_ix (ix_tupK K) (pv 3) pe_int (fun _ _ => rfl)) (pe_fldK K (pe_dget hu (pe_fldK K (pe_fldK K (pe_fldK K (pv 0) rfl) rfl) rfl) (pe_tup (pa_cons (pv 1) (pa_cons (pv 2) pa_nil))) (fun _ _ => rfl)) rfl) (by rfl)) (pss_one (ps_ret pe_bl)) pss_nil)
    (pss_cons (ps_set (i := 4) nd rfl (.inl rfl) (pe_cmpR (op_inK K) (pe_callB call_len_seq (by rfl) T.n_len PySem.boot_len (pa_cons (pe_fldK K (pv 0) rfl) pa_nil)) (pe_fldK K (pv 0) rfl) (by rfl)))
    (pss_cons (ps_expr (pe_bm PySem.F.plainAttrs_list PySem.F.slot_list_append PySem.F.type_list_append mt_append (pe_fldK K (pv 0) rfl) (pa_cons (pe_tup (pa_cons (pe_tup (pa_cons (pv 1) (pa_cons (pv 2) (pa_starK K (pv 3) pa_nil)))) (pa_cons (pv 4) pa_nil))) pa_nil)))
    (pss_one (ps_ret (pe_not (pv 4))))))), ?_⟩
  · rintro S ⟨I, J, ins, out⟩ ⟨sa, es, ns, R, fails, m, F, c, n, v, sc, w2, x, hF, he, hr', hE, hc, h0, h1, h2, h3⟩
    dsimp only at h2 ⊢
    subst h2
    rfl
  · rintro S ⟨I, J, ins, out⟩ ⟨sa, es, ns, R, fails, m, F, c, n, v, sc, w2, x, hF, he, hr', hE, hc, h0, h1, h2, h3⟩
    dsimp only at h0
    subst h0
    dsimp only at h1 h2 h3
    subst h1 h2 h3
    refine (gs_ifs (gt_val (K := K) (ge_op (ge_op (ge_var rfl) (ge_int (K := K)) (gr_ixD (by decide) rfl)) (ge_fld (ge_kget (ge_fldA (ge_fld (ge_fld (ge_var rfl) T.c_Run T.na_Run_base rfl) T.c_System T.na_System_base rfl) T.c_Store T.na_Store_known rfl) (ge_tupK2 (ga_cons (ge_var rfl) (ga_cons (ge_var rfl) ga_nil))) (by assumption)) T.c_Edition T.na_Edition_has rfl) gr_niS)) (fun b1 => (gs_retBS (ge_bl (K := K)) rfl rfl ?_)) (fun b1 => (gs_nextS (gs_seq (gs_set (ge_op (ge_cb (ga_cons (ge_fld (ge_var rfl) T.c_Run T.na_Run_made rfl) ga_nil) (gc_lenCnt hF)) (ge_fld (ge_var rfl) T.c_Run T.na_Run_fails rfl) gr_inI)) (gs_seq (gs_drop (ge_appCnt hF (Nat.le_trans hc (by decide)) (ge_fld (ge_var rfl) T.c_Run T.na_Run_made rfl) (ge_tup (K := K) (ga_cons (ge_tup (K := K) (ga_cons (ge_var rfl) (ga_cons (ge_var rfl) (ga_starD (ge_var rfl) ga_nil))) (by show 5 ≤ 1000; decide)) (ga_cons (ge_var rfl) ga_nil)) (by show 2 ≤ 1000; decide)))) (gs_retB (ge_not (ge_var rfl)) rfl rfl ?_))))))
    · unfold isDone; rw [if_neg (by have := not_t b1; exact of_decide_eq_false this)]
    · unfold isDone; rw [if_pos (of_decide_eq_true (not_f b1))]
-- slots: 0=self 1=name 2=version 3=call 4=has_failed  uses: []

end
end Hs
set_option Elab.async false
set_option linter.all false
set_option maxRecDepth 100000
set_option maxHeartbeats 4000000
namespace Hs
open PySem PySem.Spec PyProof.Rows L2 StX
section
variable {P : Program} {w : World} {K : PySem.W.Frag} {mg : Str → Option Value} {base : Heap}
abbrev N_Run_unpacked_new : List Str := ["self", "name", "new", "state", "old", "done"]
theorem sc_Run_unpacked_new : FnScope N_Run_unpacked_new ["self", "name", "new"] (defScope s_Run_unpacked_new) := ⟨rfl, rfl, rfl, by decide +kernel, rfl, by decide +kernel, by decide +kernel⟩
theorem ok_Run_unpacked_new (T : Tx K mg) : FnR P w K mg base CX0 2 (a_Run_unpacked_new K) (spC (ct_Run_unpacked_new K)) := by
  obtain ⟨fd, F⟩ := T.f_Run_unpacked_new
  have nd := sc_Run_unpacked_new.nd
  refine ok_of (He5.fun_of F) sc_Run_unpacked_new (F.bindsN fun _ _ _ _ _ _ us hl => match us, hl with | [_, _, _], _ => rfl) ?_ fun cdv A outer s H E hr => have hu := hu_of hr; have hu0 := hr.units0; ⟨_, (pss_cons (ps_set (i := 3) nd rfl (.inl rfl) (pe_dget hu (pe_fldK K (pe_fldK K (pv 0) rfl) rfl) (pv 1) (fun _ _ => rfl)))
    (pss_cons (ps_asg (pe_slice (sl_tupAK K) (pv 3) (po_some pe_int) po_none) (pg_tupK K rfl (pgs_cons (pg_name (i := 4) nd rfl (.inl rfl)) (pgs_cons (pg_name (i := 5) nd rfl (.inl rfl)) pgs_nil))))
    (pss_cons (ps_if (pt_val (pe_methR (pv 0) T.c_Run T.m_Run_is_done (ok_Run_is_done T) (hr.mono (by decide)) pass0 (pa_cons (pv 1) (pa_cons (pv 2) (pa_cons (pe_tup (pa_cons (pe_gs rfl T.s_ENTER) (pa_cons pe_str (pa_cons (pv 4) pa_nil)))) pa_nil))))) (pss_one (ps_ret (pe_tup (pa_cons (pe_gs rfl T.s_UNPACKED) (pa_cons (pv 2) (pa_cons (pv 5) pa_nil)))))) pss_nil)
    (pss_one (ps_ret (pe_ifExp (pt_val (pe_methR (pv 0) T.c_Run T.m_Run_is_done (ok_Run_is_done T) (hr.mono (by decide)) pass0 (pa_cons (pv 1) (pa_cons (pv 2) (pa_cons (pe_tup (pa_cons (pe_gs rfl T.s_CLEAN) (pa_cons pe_str (pa_cons (pv 4) pa_nil)))) pa_nil))))) (pv 3) (pe_tup (pa_cons (pe_gs rfl T.s_HALF) (pa_cons (pv 2) (pa_cons (pv 5) pa_nil)))))))))), ?_⟩
  · rintro S ⟨I, J, ins, out⟩ ⟨sa, es, ns, R, fails, m, F, c, n, new, hF, he, hr', hn, hE2, hc, h0, h1, h2, h3⟩
    dsimp only at h2 ⊢
    subst h2
    rfl
  · rintro S ⟨I, J, ins, out⟩ ⟨sa, es, ns, R, fails, m, F, c, n, new, hF, he, hr', hn, hE2, hc, h0, h1, h2, h3⟩
    dsimp only at h0
    subst h0
    dsimp only at h1 h2 h3
    subst h1 h2 h3
    refine (gs_seq (gs_set (ge_rget (ge_fld (ge_fld (ge_var rfl) T.c_Run T.na_Run_base rfl) T.c_System T.na_System_rows rfl) (ge_var rfl) (by assumption))) (gs_seq (gs_asg (ge_slD (ge_var rfl) po_i po_n) (gg_tupD (gg_cons gg_name (gg_cons gg_name gg_nil)) rfl)) (gs_ifs (gt_valB (K := K) (ge_meth (ge_var rfl) (ob_ins rfl) (ga_cons (ge_var rfl) (ga_cons (ge_var rfl) (ga_cons (ge_tupD (ga_cons (ge_str (K := K)) (ga_cons (ge_str (K := K)) (ga_cons (ge_var rfl) ga_nil))) (.cons (.cons (.cons (.nil)))) (by show 3 ≤ 1000; decide)) ga_nil))) ⟨_, _, _, _, _, _, F, _, _, _, _, _, _, by first | assumption | omega | (repeat' first | omega | refine isDone_b ?_), by first | assumption | omega | (repeat' first | omega | refine isDone_b ?_), by first | assumption | omega | (repeat' first | omega | refine isDone_b ?_), by first | assumption | omega | (repeat' first | omega | refine isDone_b ?_), by first | assumption | omega | (repeat' first | omega | refine isDone_b ?_), rfl, rfl, rfl, rfl⟩)) (fun b1 => (gs_retTS (ge_tupD (ga_cons (ge_str (K := K)) (ga_cons (ge_var rfl) (ga_cons (ge_var rfl) ga_nil))) (.cons (.cons (.cons (.nil)))) (by show 3 ≤ 1000; decide)) rfl rfl ?_)) (fun b1 => (gs_nextS (gs_retIf (gt_valB (K := K) (ge_meth (ge_var rfl) (ob_ins rfl) (ga_cons (ge_var rfl) (ga_cons (ge_var rfl) (ga_cons (ge_tupD (ga_cons (ge_str (K := K)) (ga_cons (ge_str (K := K)) (ga_cons (ge_var rfl) ga_nil))) (.cons (.cons (.cons (.nil)))) (by show 3 ≤ 1000; decide)) ga_nil))) ⟨_, _, _, _, _, _, F, _, _, _, _, _, _, by first | assumption | omega | (repeat' first | omega | refine isDone_b ?_), by first | assumption | omega | (repeat' first | omega | refine isDone_b ?_), by first | assumption | omega | (repeat' first | omega | refine isDone_b ?_), by first | assumption | omega | (repeat' first | omega | refine isDone_b ?_), by first | assumption | omega | (repeat' first | omega | refine isDone_b ?_), rfl, rfl, rfl, rfl⟩)) (fun b2 => (gs_retZ (ge_var rfl) rfl rfl ?_)) (fun b2 => (gs_retT (ge_tupD (ga_cons (ge_str (K := K)) (ga_cons (ge_var rfl) (ga_cons (ge_var rfl) ga_nil))) (.cons (.cons (.cons (.nil)))) (by show 3 ≤ 1000; decide)) rfl rfl ?_))))))))
    · unfold unpackedNew; simp only [b1, if_true]
    · unfold unpackedNew; simp only [b1, b2, Bool.false_eq_true, if_false, if_true]
    · unfold unpackedNew; simp only [b1, b2, Bool.false_eq_true, if_false, if_true]
-- slots: 0=self 1=name 2=new 3=state 4=old 5=done  uses: ['Run.is_done']

end
end Hs
set_option Elab.async false
set_option linter.all false
set_option maxRecDepth 100000
set_option maxHeartbeats 4000000
namespace Hs
open PySem PySem.Spec PyProof.Rows L2 StX
section
variable {P : Program} {w : World} {K : PySem.W.Frag} {mg : Str → Option Value} {base : Heap}
abbrev N_Run_is_left : List Str := ["self", "name", "old", "new"]
theorem sc_Run_is_left : FnScope N_Run_is_left ["self", "name", "old", "new"] (defScope s_Run_is_left) := ⟨rfl, rfl, rfl, by decide +kernel, rfl, by decide +kernel, by decide +kernel⟩
theorem ok_Run_is_left (T : Tx K mg) : FnR P w K mg base CX0 2 (a_Run_is_left K) (spC (ct_Run_is_left K)) := by
  obtain ⟨fd, F⟩ := T.f_Run_is_left
  have nd := sc_Run_is_left.nd
  refine ok_of (He5.fun_of F) sc_Run_is_left (F.bindsN fun _ _ _ _ _ _ us hl => match us, hl with | [_, _, _, _], _ => rfl) ?_ fun cdv A outer s H E hr => have hu := hu_of hr; have hu0 := hr.units0; ⟨_, (pss_cons (ps_if (pt_val (pe_methR (pv 0) T.c_Run T.m_Run_is_done (ok_Run_is_done T) (hr.mono (by decide)) pass0 (pa_cons (pv 1) (pa_cons (pv 2) (pa_cons (pe_tup (pa_cons (pe_gs rfl T.s_LEAVE) (pa_cons pe_str (pa_cons (pv 3) pa_nil)))) pa_nil))))) (pss_one (ps_ret pe_bl)) pss_nil)
    (pss_one (ps_ret (pe_methR (pv 0) T.c_Run T.m_Run_is_done (ok_Run_is_done T) (hr.mono (by decide)) pass0 (pa_cons (pv 1) (pa_cons (pv 3) (pa_cons (pe_tup (pa_cons (pe_gs rfl T.s_LEAVE) (pa_cons pe_str (pa_cons (pv 2) pa_nil)))) pa_nil))))))), ?_⟩
  · rintro S ⟨I, J, ins, out⟩ ⟨sa, es, ns, R, fails, m, F, c, n, old, new, hF, he, hr', hE, hE2, hc, h0, h1, h2, h3⟩
    dsimp only at h2 ⊢
    subst h2
    rfl
  · rintro S ⟨I, J, ins, out⟩ ⟨sa, es, ns, R, fails, m, F, c, n, old, new, hF, he, hr', hE, hE2, hc, h0, h1, h2, h3⟩
    dsimp only at h0
    subst h0
    dsimp only at h1 h2 h3
    subst h1 h2 h3
    refine (gs_ifs (gt_valB (K := K) (ge_meth (ge_var rfl) (ob_ins rfl) (ga_cons (ge_var rfl) (ga_cons (ge_var rfl) (ga_cons (ge_tupD (ga_cons (ge_str (K := K)) (ga_cons (ge_str (K := K)) (ga_cons (ge_var rfl) ga_nil))) (.cons (.cons (.cons (.nil)))) (by show 3 ≤ 1000; decide)) ga_nil))) ⟨_, _, _, _, _, _, F, _, _, _, _, _, _, by first | assumption | omega | (repeat' first | omega | refine isDone_b ?_), by first | assumption | omega | (repeat' first | omega | refine isDone_b ?_), by first | assumption | omega | (repeat' first | omega | refine isDone_b ?_), by first | assumption | omega | (repeat' first | omega | refine isDone_b ?_), by first | assumption | omega | (repeat' first | omega | refine isDone_b ?_), rfl, rfl, rfl, rfl⟩)) (fun b1 => (gs_retBS (ge_bl (K := K)) rfl rfl ?_)) (fun b1 => (gs_nextS (gs_retB (ge_meth (ge_var rfl) (ob_ins rfl) (ga_cons (ge_var rfl) (ga_cons (ge_var rfl) (ga_cons (ge_tupD (ga_cons (ge_str (K := K)) (ga_cons (ge_str (K := K)) (ga_cons (ge_var rfl) ga_nil))) (.cons (.cons (.cons (.nil)))) (by show 3 ≤ 1000; decide)) ga_nil))) ⟨_, _, _, _, _, _, F, _, _, _, _, _, _, by first | assumption | omega | (repeat' first | omega | refine isDone_b ?_), by first | assumption | omega | (repeat' first | omega | refine isDone_b ?_), by first | assumption | omega | (repeat' first | omega | refine isDone_b ?_), by first | assumption | omega | (repeat' first | omega | refine isDone_b ?_), by first | assumption | omega | (repeat' first | omega | refine isDone_b ?_), rfl, rfl, rfl, rfl⟩) rfl rfl ?_))))
    · unfold isLeft; simp only [b1, if_true]
    · unfold isLeft; simp only [b1, Bool.false_eq_true, if_false]
-- slots: 0=self 1=name 2=old 3=new  uses: ['Run.is_done']

end
end Hs
set_option Elab.async false
set_option linter.all false
set_option maxRecDepth 100000
set_option maxHeartbeats 4000000
namespace Hs
open PySem PySem.Spec PyProof.Rows L2 StX
section
variable {P : Program} {w : World} {K : PySem.W.Frag} {mg : Str → Option Value} {base : Heap}
abbrev N_Run_put_back : List Str := ["self", "name", "new", "status", "state"]
theorem sc_Run_put_back : FnScope N_Run_put_back ["self", "name", "new", "status"] (defScope s_Run_put_back) := ⟨rfl, rfl, rfl, by decide +kernel, rfl, by decide +kernel, by decide +kernel⟩
theorem ok_Run_put_back (T : Tx K mg) : FnR P w K mg base CX0 2 (a_Run_put_back K) (spC (ct_Run_put_back K)) := by
  obtain ⟨fd, F⟩ := T.f_Run_put_back
  have nd := sc_Run_put_back.nd
  refine ok_of (He5.fun_of F) sc_Run_put_back (F.bindsN fun _ _ _ _ _ _ us hl => match us, hl with | [_, _, _, _], _ => rfl) ?_ fun cdv A outer s H E hr => have hu := hu_of hr; have hu0 := hr.units0; ⟨_, (pss_cons (ps_set (i := 4) nd rfl (.inl rfl) (pe_dget hu (pe_fldK K (pe_fldK K (pv 0) rfl) rfl) (pv 1) (fun _ _ => rfl)))
    (pss_cons (ps_if (pt_val (pe_methR (pv 0) T.c_Run T.m_Run_is_done (ok_Run_is_done T) (hr.mono (by decide)) pass0 (pa_cons (pv 1) (pa_cons (pe_ix (ix_tupK K) (pv 4) pe_int (fun _ _ => rfl)) (pa_cons (pe_tup (pa_cons (pe_gs rfl T.s_SETUP) (pa_cons pe_str (pa_cons (pv 2) pa_nil)))) pa_nil))))) (pss_one (ps_ret (pv 4))) pss_nil)
    (pss_one (ps_ret (pe_tup (pa_cons (pv 3) (pa_cons (pe_ix (ix_tupK K) (pv 4) pe_int (fun _ _ => rfl)) (pa_cons (pe_ix (ix_tupK K) (pv 4) pe_int (fun _ _ => rfl)) pa_nil)))))))), ?_⟩
  · rintro S ⟨I, J, ins, out⟩ ⟨sa, es, ns, R, fails, m, F, c, n, new, st, hF, he, hr', hn, hE, hc, h0, h1, h2, h3⟩
    dsimp only at h2 ⊢
    subst h2
    rfl
  · rintro S ⟨I, J, ins, out⟩ ⟨sa, es, ns, R, fails, m, F, c, n, new, st, hF, he, hr', hn, hE, hc, h0, h1, h2, h3⟩
    dsimp only at h0
    subst h0
    dsimp only at h1 h2 h3
    subst h1 h2 h3
    refine (gs_seq (gs_set (ge_rget (ge_fld (ge_fld (ge_var rfl) T.c_Run T.na_Run_base rfl) T.c_System T.na_System_rows rfl) (ge_var rfl) (by assumption))) (gs_ifs (gt_valB (K := K) (ge_meth (ge_var rfl) (ob_ins rfl) (ga_cons (ge_var rfl) (ga_cons (ge_op (ge_var rfl) (ge_int (K := K)) (gr_ixD (by decide) rfl)) (ga_cons (ge_tupD (ga_cons (ge_str (K := K)) (ga_cons (ge_str (K := K)) (ga_cons (ge_var rfl) ga_nil))) (.cons (.cons (.cons (.nil)))) (by show 3 ≤ 1000; decide)) ga_nil))) ⟨_, _, _, _, _, _, F, _, _, _, _, _, _, by first | assumption | omega | (repeat' first | omega | refine isDone_b ?_), by first | assumption | omega | (repeat' first | omega | refine isDone_b ?_), by first | assumption | omega | (repeat' first | omega | refine isDone_b ?_), by first | assumption | omega | (repeat' first | omega | refine isDone_b ?_), by first | assumption | omega | (repeat' first | omega | refine isDone_b ?_), rfl, rfl, rfl, rfl⟩)) (fun b1 => (gs_retZS (ge_var rfl) rfl rfl ?_)) (fun b1 => (gs_nextS (gs_retT (ge_tupD (ga_cons (ge_var rfl) (ga_cons (ge_op (ge_var rfl) (ge_int (K := K)) (gr_ixD (by decide) rfl)) (ga_cons (ge_op (ge_var rfl) (ge_int (K := K)) (gr_ixD (by decide) rfl)) ga_nil))) (.cons (.cons (.cons (.nil)))) (by show 3 ≤ 1000; decide)) rfl rfl ?_)))))
    · unfold putBack; simp only [b1, if_true]
    · unfold putBack; simp only [b1, Bool.false_eq_true, if_false]
-- slots: 0=self 1=name 2=new 3=status 4=state  uses: ['Run.is_done']

end
end Hs
set_option Elab.async false
set_option linter.all false
set_option maxRecDepth 100000
set_option maxHeartbeats 4000000
namespace Hs
open PySem PySem.Spec PyProof.Rows L2 StX
section
variable {P : Program} {w : World} {K : PySem.W.Frag} {mg : Str → Option Value} {base : Heap}
abbrev N_Run_given_up : List Str := ["self", "name", "new", "status", "old", "done"]
theorem sc_Run_given_up : FnScope N_Run_given_up ["self", "name", "new"] (defScope s_Run_given_up) := ⟨rfl, rfl, rfl, by decide +kernel, rfl, by decide +kernel, by decide +kernel⟩
theorem ok_Run_given_up (T : Tx K mg) : FnR P w K mg base CX0 3 (a_Run_given_up K) (spC (ct_Run_given_up K)) := by
  obtain ⟨fd, F⟩ := T.f_Run_given_up
  have nd := sc_Run_given_up.nd
  refine ok_of (He5.fun_of F) sc_Run_given_up (F.bindsN fun _ _ _ _ _ _ us hl => match us, hl with | [_, _, _], _ => rfl) ?_ fun cdv A outer s H E hr => have hu := hu_of hr; have hu0 := hr.units0; ⟨_, (pss_cons (ps_asg (pe_dget hu (pe_fldK K (pe_fldK K (pv 0) rfl) rfl) (pv 1) (fun _ _ => rfl)) (pg_tupK K rfl (pgs_cons (pg_name (i := 3) nd rfl (.inl rfl)) (pgs_cons (pg_name (i := 4) nd rfl (.inl rfl)) (pgs_cons (pg_name (i := 5) nd rfl (.inl rfl)) pgs_nil)))))
    (pss_cons (ps_if (pt_not (pt_val (pe_methR (pv 0) T.c_Run T.m_Run_is_done (ok_Run_is_done T) (hr.mono (by decide)) pass0 (pa_cons (pv 1) (pa_cons (pv 2) (pa_cons (pe_tup (pa_cons (pe_gs rfl T.s_CLEAN) (pa_cons pe_str (pa_cons (pv 4) pa_nil)))) pa_nil)))))) (pss_one (ps_ret (pe_tup (pa_cons (pe_gs rfl T.s_HALF) (pa_cons (pv 4) (pa_cons (pv 5) pa_nil)))))) pss_nil)
    (pss_one (ps_ret (pe_ifExp (pt_cmpR (op_inK K) (pv 3) (pe_tup (pa_cons (pe_gs rfl T.s_FAILED) (pa_cons (pe_gs rfl T.s_READY) pa_nil))) (by rfl)) (pe_methR (pv 0) T.c_Run T.m_Run_put_back (ok_Run_put_back T) (hr.mono (by decide)) pass0 (pa_cons (pv 1) (pa_cons (pv 2) (pa_cons (pe_gs rfl T.s_UNPACKED) pa_nil)))) (pe_dget hu (pe_fldK K (pe_fldK K (pv 0) rfl) rfl) (pv 1) (fun _ _ => rfl))))))), ?_⟩
  · rintro S ⟨I, J, ins, out⟩ ⟨sa, es, ns, R, fails, m, F, c, n, new, hF, he, hr', hn, hE, hE2, hc, h0, h1, h2, h3⟩
    dsimp only at h2 ⊢
    subst h2
    rfl
  · rintro S ⟨I, J, ins, out⟩ ⟨sa, es, ns, R, fails, m, F, c, n, new, hF, he, hr', hn, hE, hE2, hc, h0, h1, h2, h3⟩
    dsimp only at h0
    subst h0
    dsimp only at h1 h2 h3
    subst h1 h2 h3
    refine (gs_seq (gs_asg (ge_rget (ge_fld (ge_fld (ge_var rfl) T.c_Run T.na_Run_base rfl) T.c_System T.na_System_rows rfl) (ge_var rfl) (by assumption)) (gg_tupD (gg_cons gg_name (gg_cons gg_name (gg_cons gg_name gg_nil))) rfl)) (gs_ifs (gt_notB (gt_valB (K := K) (ge_meth (ge_var rfl) (ob_ins rfl) (ga_cons (ge_var rfl) (ga_cons (ge_var rfl) (ga_cons (ge_tupD (ga_cons (ge_str (K := K)) (ga_cons (ge_str (K := K)) (ga_cons (ge_var rfl) ga_nil))) (.cons (.cons (.cons (.nil)))) (by show 3 ≤ 1000; decide)) ga_nil))) ⟨_, _, _, _, _, _, F, _, _, _, _, _, _, by first | assumption | omega | (repeat' first | omega | refine isDone_b ?_), by first | assumption | omega | (repeat' first | omega | refine isDone_b ?_), by first | assumption | omega | (repeat' first | omega | refine isDone_b ?_), by first | assumption | omega | (repeat' first | omega | refine isDone_b ?_), by first | assumption | omega | (repeat' first | omega | refine isDone_b ?_), rfl, rfl, rfl, rfl⟩))) (fun b1 => (gs_retTS (ge_tupD (ga_cons (ge_str (K := K)) (ga_cons (ge_var rfl) (ga_cons (ge_var rfl) ga_nil))) (.cons (.cons (.cons (.nil)))) (by show 3 ≤ 1000; decide)) rfl rfl ?_)) (fun b1 => (gs_nextS (gs_retIf (gt_val (K := K) (ge_op (ge_var rfl) (ge_tupS2 (ga_cons (ge_str (K := K)) (ga_cons (ge_str (K := K)) ga_nil))) gr_inS)) (fun b2 => (gs_retM (ge_meth (ge_var rfl) (ob_ins rfl) (ga_cons (ge_var rfl) (ga_cons (ge_var rfl) (ga_cons (ge_str (K := K)) ga_nil))) ⟨_, _, _, _, _, _, F, _, _, _, _, by first | assumption | omega | (repeat' first | omega | refine isDone_b ?_), by first | assumption | omega | (repeat' first | omega | refine isDone_b ?_), by first | assumption | omega | (repeat' first | omega | refine isDone_b ?_), by first | assumption | omega | (repeat' first | omega | refine isDone_b ?_), by first | assumption | omega | (repeat' first | omega | refine isDone_b ?_), by first | assumption | omega | (repeat' first | omega | refine isDone_b ?_), rfl, rfl, rfl, rfl⟩) rfl rfl ?_)) (fun b2 => (gs_retZ (ge_rget (ge_fld (ge_fld (ge_var rfl) T.c_Run T.na_Run_base rfl) T.c_System T.na_System_rows rfl) (ge_var rfl) (by assumption)) rfl rfl ?_)))))))
    · unfold givenUp; simp only [not_t b1, Bool.false_eq_true, if_false]
    · unfold givenUp; simp only [not_f b1, if_true, of_decide_eq_true b2]
    · unfold givenUp; simp only [not_f b1, if_true]
      rw [if_neg (of_decide_eq_false b2)]
-- slots: 0=self 1=name 2=new 3=status 4=old 5=done  uses: ['Run.is_done', 'Run.put_back']

end
end Hs
set_option Elab.async false
set_option linter.all false
set_option maxRecDepth 100000
set_option maxHeartbeats 4000000
namespace Hs
open PySem PySem.Spec PyProof.Rows L2 StX
section
variable {P : Program} {w : World} {K : PySem.W.Frag} {mg : Str → Option Value} {base : Heap}
abbrev N_Run_unpacked_over : List Str := ["self", "name", "new", "status", "old", "done"]
theorem sc_Run_unpacked_over : FnScope N_Run_unpacked_over ["self", "name", "new"] (defScope s_Run_unpacked_over) := ⟨rfl, rfl, rfl, by decide +kernel, rfl, by decide +kernel, by decide +kernel⟩
theorem ok_Run_unpacked_over (T : Tx K mg) : FnR P w K mg base CX0 4 (a_Run_unpacked_over K) (spC (ct_Run_unpacked_over K)) := by
  obtain ⟨fd, F⟩ := T.f_Run_unpacked_over
  have nd := sc_Run_unpacked_over.nd
  refine ok_of (He5.fun_of F) sc_Run_unpacked_over (F.bindsN fun _ _ _ _ _ _ us hl => match us, hl with | [_, _, _], _ => rfl) ?_ fun cdv A outer s H E hr => have hu := hu_of hr; have hu0 := hr.units0; ⟨_, (pss_cons (ps_asg (pe_dget hu (pe_fldK K (pe_fldK K (pv 0) rfl) rfl) (pv 1) (fun _ _ => rfl)) (pg_tupK K rfl (pgs_cons (pg_name (i := 3) nd rfl (.inl rfl)) (pgs_cons (pg_name (i := 4) nd rfl (.inl rfl)) (pgs_cons (pg_name (i := 5) nd rfl (.inl rfl)) pgs_nil)))))
    (pss_cons (ps_if (PW.pt (pw_and (pt_cmpR (op_inK K) (pv 3) (pe_tup (pa_cons (pe_gs rfl T.s_FAILED) (pa_cons (pe_gs rfl T.s_READY) pa_nil))) (by rfl)) (pw_and1 (pt_not (pt_val (pe_methR (pv 0) T.c_Run T.m_Run_is_left (ok_Run_is_left T) (hr.mono (by decide)) pass0 (pa_cons (pv 1) (pa_cons (pv 4) (pa_cons (pv 2) pa_nil))))))))) (pss_one (ps_ret (pe_methR (pv 0) T.c_Run T.m_Run_put_back (ok_Run_put_back T) (hr.mono (by decide)) pass0 (pa_cons (pv 1) (pa_cons (pv 2) (pa_cons (pe_gs rfl T.s_FAILED) pa_nil)))))) pss_nil)
    (pss_cons (ps_if (pt_not (pt_val (pe_methR (pv 0) T.c_Run T.m_Run_is_done (ok_Run_is_done T) (hr.mono (by decide)) pass0 (pa_cons (pv 1) (pa_cons (pv 2) (pa_cons (pe_tup (pa_cons (pe_gs rfl T.s_ENTER) (pa_cons pe_str (pa_cons (pv 4) pa_nil)))) pa_nil)))))) (pss_one (ps_ret (pe_methR (pv 0) T.c_Run T.m_Run_given_up (ok_Run_given_up T) (hr.mono (by decide)) pass0 (pa_cons (pv 1) (pa_cons (pv 2) pa_nil))))) pss_nil)
    (pss_cons (ps_if (pt_val (pe_methR (pv 0) T.c_Run T.m_Run_is_done (ok_Run_is_done T) (hr.mono (by decide)) pass0 (pa_cons (pv 1) (pa_cons (pv 4) (pa_cons (pe_tup (pa_cons (pe_gs rfl T.s_CLEAN) (pa_cons pe_str (pa_cons (pv 2) pa_nil)))) pa_nil))))) (pss_one (ps_ret (pe_tup (pa_cons (pe_gs rfl T.s_UNPACKED) (pa_cons (pv 2) (pa_cons (pv 5) pa_nil)))))) pss_nil)
    (pss_cons (ps_if (pt_val (pe_methR (pv 0) T.c_Run T.m_Run_is_done (ok_Run_is_done T) (hr.mono (by decide)) pass0 (pa_cons (pv 1) (pa_cons (pv 2) (pa_cons (pe_tup (pa_cons (pe_gs rfl T.s_CLEAN) (pa_cons pe_str (pa_cons (pv 4) pa_nil)))) pa_nil))))) (pss_one (ps_ret (pe_tup (pa_cons (pe_gs rfl T.s_UNPACKED) (pa_cons (pv 2) (pa_cons (pv 5) pa_nil)))))) pss_nil)
    (pss_cons (ps_if (pt_not (pt_val (pe_methR (pv 0) T.c_Run T.m_Run_is_done (ok_Run_is_done T) (hr.mono (by decide)) pass0 (pa_cons (pv 1) (pa_cons (pv 4) (pa_cons (pe_tup (pa_cons (pe_gs rfl T.s_ENTER) (pa_cons pe_str (pa_cons (pv 2) pa_nil)))) pa_nil)))))) (pss_one (ps_ret (pe_tup (pa_cons (pe_gs rfl T.s_HALF) (pa_cons (pv 4) (pa_cons (pv 5) pa_nil)))))) pss_nil)
    (pss_one (ps_ret (pe_methR (pv 0) T.c_Run T.m_Run_given_up (ok_Run_given_up T) (hr.mono (by decide)) pass0 (pa_cons (pv 1) (pa_cons (pv 2) pa_nil))))))))))), ?_⟩
  · rintro S ⟨I, J, ins, out⟩ ⟨sa, es, ns, R, fails, m, F, c, n, new, hF, he, hr', hn, hE, hE2, hc, h0, h1, h2, h3⟩
    dsimp only at h2 ⊢
    subst h2
    rfl
  · rintro S ⟨I, J, ins, out⟩ ⟨sa, es, ns, R, fails, m, F, c, n, new, hF, he, hr', hn, hE, hE2, hc, h0, h1, h2, h3⟩
    dsimp only at h0
    subst h0
    dsimp only at h1 h2 h3
    subst h1 h2 h3
    cases hb : decide ((rowAt R n).st ∈ [sFa, sRe]) with
    | true =>
      refine (gs_seq (gs_asg (ge_rget (ge_fld (ge_fld (ge_var rfl) T.c_Run T.na_Run_base rfl) T.c_System T.na_System_rows rfl) (ge_var rfl) (by first | assumption | omega | (repeat' first | omega | refine isDone_b ?_ | refine isLeft_b ?_))) (gg_tupD (gg_cons gg_name (gg_cons gg_name (gg_cons gg_name gg_nil))) rfl)) (gs_ifs (gt_andT (GT.to (gt_val (K := K) (ge_op (ge_var rfl) (ge_tupS2 (ga_cons (ge_str (K := K)) (ga_cons (ge_str (K := K)) ga_nil))) gr_inS)) hb) (gt_notB (gt_valB (K := K) (ge_meth (ge_var rfl) (ob_ins rfl) (ga_cons (ge_var rfl) (ga_cons (ge_var rfl) (ga_cons (ge_var rfl) ga_nil))) ⟨_, _, _, _, _, _, F, _, _, _, _, by first | assumption | omega | (repeat' first | omega | refine isDone_b ?_ | refine isLeft_b ?_), by first | assumption | omega | (repeat' first | omega | refine isDone_b ?_ | refine isLeft_b ?_), by first | assumption | omega | (repeat' first | omega | refine isDone_b ?_ | refine isLeft_b ?_), by first | assumption | omega | (repeat' first | omega | refine isDone_b ?_ | refine isLeft_b ?_), by first | assumption | omega | (repeat' first | omega | refine isDone_b ?_ | refine isLeft_b ?_), by first | assumption | omega | (repeat' first | omega | refine isDone_b ?_ | refine isLeft_b ?_), rfl, rfl, rfl, rfl⟩)))) (fun b1 => (gs_retMS (ge_meth (ge_var rfl) (ob_ins rfl) (ga_cons (ge_var rfl) (ga_cons (ge_var rfl) (ga_cons (ge_str (K := K)) ga_nil))) ⟨_, _, _, _, _, _, F, _, _, _, _, by first | assumption | omega | (repeat' first | omega | refine isDone_b ?_ | refine isLeft_b ?_), by first | assumption | omega | (repeat' first | omega | refine isDone_b ?_ | refine isLeft_b ?_), by first | assumption | omega | (repeat' first | omega | refine isDone_b ?_ | refine isLeft_b ?_), by first | assumption | omega | (repeat' first | omega | refine isDone_b ?_ | refine isLeft_b ?_), by first | assumption | omega | (repeat' first | omega | refine isDone_b ?_ | refine isLeft_b ?_), by first | assumption | omega | (repeat' first | omega | refine isDone_b ?_ | refine isLeft_b ?_), rfl, rfl, rfl, rfl⟩) rfl rfl ?_)) (fun b1 => (gs_nextS (gs_ifs (gt_notB (gt_valB (K := K) (ge_meth (ge_var rfl) (ob_ins rfl) (ga_cons (ge_var rfl) (ga_cons (ge_var rfl) (ga_cons (ge_tupD (ga_cons (ge_str (K := K)) (ga_cons (ge_str (K := K)) (ga_cons (ge_var rfl) ga_nil))) (.cons (.cons (.cons (.nil)))) (by show 3 ≤ 1000; decide)) ga_nil))) ⟨_, _, _, _, _, _, F, _, _, _, _, _, _, by first | assumption | omega | (repeat' first | omega | refine isDone_b ?_ | refine isLeft_b ?_), by first | assumption | omega | (repeat' first | omega | refine isDone_b ?_ | refine isLeft_b ?_), by first | assumption | omega | (repeat' first | omega | refine isDone_b ?_ | refine isLeft_b ?_), by first | assumption | omega | (repeat' first | omega | refine isDone_b ?_ | refine isLeft_b ?_), by first | assumption | omega | (repeat' first | omega | refine isDone_b ?_ | refine isLeft_b ?_), rfl, rfl, rfl, rfl⟩))) (fun b2 => (gs_retMS (ge_meth (ge_var rfl) (ob_ins rfl) (ga_cons (ge_var rfl) (ga_cons (ge_var rfl) ga_nil)) ⟨_, _, _, _, _, _, F, _, _, _, by first | assumption | omega | (repeat' first | omega | refine isDone_b ?_ | refine isLeft_b ?_), by first | assumption | omega | (repeat' first | omega | refine isDone_b ?_ | refine isLeft_b ?_), by first | assumption | omega | (repeat' first | omega | refine isDone_b ?_ | refine isLeft_b ?_), by first | assumption | omega | (repeat' first | omega | refine isDone_b ?_ | refine isLeft_b ?_), by first | assumption | omega | (repeat' first | omega | refine isDone_b ?_ | refine isLeft_b ?_), by first | assumption | omega | (repeat' first | omega | refine isDone_b ?_ | refine isLeft_b ?_), by first | assumption | omega | (repeat' first | omega | refine isDone_b ?_ | refine isLeft_b ?_), rfl, rfl, rfl, rfl⟩) rfl rfl ?_)) (fun b2 => (gs_nextS (gs_ifs (gt_valB (K := K) (ge_meth (ge_var rfl) (ob_ins rfl) (ga_cons (ge_var rfl) (ga_cons (ge_var rfl) (ga_cons (ge_tupD (ga_cons (ge_str (K := K)) (ga_cons (ge_str (K := K)) (ga_cons (ge_var rfl) ga_nil))) (.cons (.cons (.cons (.nil)))) (by show 3 ≤ 1000; decide)) ga_nil))) ⟨_, _, _, _, _, _, F, _, _, _, _, _, _, by first | assumption | omega | (repeat' first | omega | refine isDone_b ?_ | refine isLeft_b ?_), by first | assumption | omega | (repeat' first | omega | refine isDone_b ?_ | refine isLeft_b ?_), by first | assumption | omega | (repeat' first | omega | refine isDone_b ?_ | refine isLeft_b ?_), by first | assumption | omega | (repeat' first | omega | refine isDone_b ?_ | refine isLeft_b ?_), by first | assumption | omega | (repeat' first | omega | refine isDone_b ?_ | refine isLeft_b ?_), rfl, rfl, rfl, rfl⟩)) (fun b3 => (gs_retTS (ge_tupD (ga_cons (ge_str (K := K)) (ga_cons (ge_var rfl) (ga_cons (ge_var rfl) ga_nil))) (.cons (.cons (.cons (.nil)))) (by show 3 ≤ 1000; decide)) rfl rfl ?_)) (fun b3 => (gs_nextS (gs_ifs (gt_valB (K := K) (ge_meth (ge_var rfl) (ob_ins rfl) (ga_cons (ge_var rfl) (ga_cons (ge_var rfl) (ga_cons (ge_tupD (ga_cons (ge_str (K := K)) (ga_cons (ge_str (K := K)) (ga_cons (ge_var rfl) ga_nil))) (.cons (.cons (.cons (.nil)))) (by show 3 ≤ 1000; decide)) ga_nil))) ⟨_, _, _, _, _, _, F, _, _, _, _, _, _, by first | assumption | omega | (repeat' first | omega | refine isDone_b ?_ | refine isLeft_b ?_), by first | assumption | omega | (repeat' first | omega | refine isDone_b ?_ | refine isLeft_b ?_), by first | assumption | omega | (repeat' first | omega | refine isDone_b ?_ | refine isLeft_b ?_), by first | assumption | omega | (repeat' first | omega | refine isDone_b ?_ | refine isLeft_b ?_), by first | assumption | omega | (repeat' first | omega | refine isDone_b ?_ | refine isLeft_b ?_), rfl, rfl, rfl, rfl⟩)) (fun b4 => (gs_retTS (ge_tupD (ga_cons (ge_str (K := K)) (ga_cons (ge_var rfl) (ga_cons (ge_var rfl) ga_nil))) (.cons (.cons (.cons (.nil)))) (by show 3 ≤ 1000; decide)) rfl rfl ?_)) (fun b4 => (gs_nextS (gs_ifs (gt_notB (gt_valB (K := K) (ge_meth (ge_var rfl) (ob_ins rfl) (ga_cons (ge_var rfl) (ga_cons (ge_var rfl) (ga_cons (ge_tupD (ga_cons (ge_str (K := K)) (ga_cons (ge_str (K := K)) (ga_cons (ge_var rfl) ga_nil))) (.cons (.cons (.cons (.nil)))) (by show 3 ≤ 1000; decide)) ga_nil))) ⟨_, _, _, _, _, _, F, _, _, _, _, _, _, by first | assumption | omega | (repeat' first | omega | refine isDone_b ?_ | refine isLeft_b ?_), by first | assumption | omega | (repeat' first | omega | refine isDone_b ?_ | refine isLeft_b ?_), by first | assumption | omega | (repeat' first | omega | refine isDone_b ?_ | refine isLeft_b ?_), by first | assumption | omega | (repeat' first | omega | refine isDone_b ?_ | refine isLeft_b ?_), by first | assumption | omega | (repeat' first | omega | refine isDone_b ?_ | refine isLeft_b ?_), rfl, rfl, rfl, rfl⟩))) (fun b5 => (gs_retTS (ge_tupD (ga_cons (ge_str (K := K)) (ga_cons (ge_var rfl) (ga_cons (ge_var rfl) ga_nil))) (.cons (.cons (.cons (.nil)))) (by show 3 ≤ 1000; decide)) rfl rfl ?_)) (fun b5 => (gs_nextS (gs_retM (ge_meth (ge_var rfl) (ob_ins rfl) (ga_cons (ge_var rfl) (ga_cons (ge_var rfl) ga_nil)) ⟨_, _, _, _, _, _, F, _, _, _, by first | assumption | omega | (repeat' first | omega | refine isDone_b ?_ | refine isLeft_b ?_), by first | assumption | omega | (repeat' first | omega | refine isDone_b ?_ | refine isLeft_b ?_), by first | assumption | omega | (repeat' first | omega | refine isDone_b ?_ | refine isLeft_b ?_), by first | assumption | omega | (repeat' first | omega | refine isDone_b ?_ | refine isLeft_b ?_), by first | assumption | omega | (repeat' first | omega | refine isDone_b ?_ | refine isLeft_b ?_), by first | assumption | omega | (repeat' first | omega | refine isDone_b ?_ | refine isLeft_b ?_), by first | assumption | omega | (repeat' first | omega | refine isDone_b ?_ | refine isLeft_b ?_), rfl, rfl, rfl, rfl⟩) rfl rfl ?_)))))))))))))))))
      · unfold unpackedOver; rw [if_pos (of_decide_eq_true hb)]; simp only [not_t b1, Bool.false_eq_true, if_false, if_true]
      · unfold unpackedOver; rw [if_pos (of_decide_eq_true hb)]; simp only [not_f b1, Bool.false_eq_true, if_false, if_true]; unfold overGo; simp only [not_t b2, Bool.false_eq_true, if_false, if_true]
      · unfold unpackedOver; rw [if_pos (of_decide_eq_true hb)]; simp only [not_f b1, Bool.false_eq_true, if_false, if_true]; unfold overGo; simp only [not_f b2, b3, Bool.false_eq_true, if_false, if_true]
      · unfold unpackedOver; rw [if_pos (of_decide_eq_true hb)]; simp only [not_f b1, Bool.false_eq_true, if_false, if_true]; unfold overGo; simp only [not_f b2, b3, b4, Bool.false_eq_true, if_false, if_true]
      · unfold unpackedOver; rw [if_pos (of_decide_eq_true hb)]; simp only [not_f b1, Bool.false_eq_true, if_false, if_true]; unfold overGo; simp only [not_f b2, b3, b4, not_t b5, Bool.false_eq_true, if_false, if_true]
      · unfold unpackedOver; rw [if_pos (of_decide_eq_true hb)]; simp only [not_f b1, Bool.false_eq_true, if_false, if_true]; unfold overGo; simp only [not_f b2, b3, b4, not_f b5, Bool.false_eq_true, if_false, if_true]
    | false =>
      refine (gs_seq (gs_asg (ge_rget (ge_fld (ge_fld (ge_var rfl) T.c_Run T.na_Run_base rfl) T.c_System T.na_System_rows rfl) (ge_var rfl) (by first | assumption | omega | (repeat' first | omega | refine isDone_b ?_ | refine isLeft_b ?_))) (gg_tupD (gg_cons gg_name (gg_cons gg_name (gg_cons gg_name gg_nil))) rfl)) (gs_ifs (gt_andF (GT.to (gt_val (K := K) (ge_op (ge_var rfl) (ge_tupS2 (ga_cons (ge_str (K := K)) (ga_cons (ge_str (K := K)) ga_nil))) gr_inS)) hb)) (fun b1 => Bool.noConfusion b1) (fun b1 => (gs_nextS (gs_ifs (gt_notB (gt_valB (K := K) (ge_meth (ge_var rfl) (ob_ins rfl) (ga_cons (ge_var rfl) (ga_cons (ge_var rfl) (ga_cons (ge_tupD (ga_cons (ge_str (K := K)) (ga_cons (ge_str (K := K)) (ga_cons (ge_var rfl) ga_nil))) (.cons (.cons (.cons (.nil)))) (by show 3 ≤ 1000; decide)) ga_nil))) ⟨_, _, _, _, _, _, F, _, _, _, _, _, _, by first | assumption | omega | (repeat' first | omega | refine isDone_b ?_ | refine isLeft_b ?_), by first | assumption | omega | (repeat' first | omega | refine isDone_b ?_ | refine isLeft_b ?_), by first | assumption | omega | (repeat' first | omega | refine isDone_b ?_ | refine isLeft_b ?_), by first | assumption | omega | (repeat' first | omega | refine isDone_b ?_ | refine isLeft_b ?_), by first | assumption | omega | (repeat' first | omega | refine isDone_b ?_ | refine isLeft_b ?_), rfl, rfl, rfl, rfl⟩))) (fun b2 => (gs_retMS (ge_meth (ge_var rfl) (ob_ins rfl) (ga_cons (ge_var rfl) (ga_cons (ge_var rfl) ga_nil)) ⟨_, _, _, _, _, _, F, _, _, _, by first | assumption | omega | (repeat' first | omega | refine isDone_b ?_ | refine isLeft_b ?_), by first | assumption | omega | (repeat' first | omega | refine isDone_b ?_ | refine isLeft_b ?_), by first | assumption | omega | (repeat' first | omega | refine isDone_b ?_ | refine isLeft_b ?_), by first | assumption | omega | (repeat' first | omega | refine isDone_b ?_ | refine isLeft_b ?_), by first | assumption | omega | (repeat' first | omega | refine isDone_b ?_ | refine isLeft_b ?_), by first | assumption | omega | (repeat' first | omega | refine isDone_b ?_ | refine isLeft_b ?_), by first | assumption | omega | (repeat' first | omega | refine isDone_b ?_ | refine isLeft_b ?_), rfl, rfl, rfl, rfl⟩) rfl rfl ?_)) (fun b2 => (gs_nextS (gs_ifs (gt_valB (K := K) (ge_meth (ge_var rfl) (ob_ins rfl) (ga_cons (ge_var rfl) (ga_cons (ge_var rfl) (ga_cons (ge_tupD (ga_cons (ge_str (K := K)) (ga_cons (ge_str (K := K)) (ga_cons (ge_var rfl) ga_nil))) (.cons (.cons (.cons (.nil)))) (by show 3 ≤ 1000; decide)) ga_nil))) ⟨_, _, _, _, _, _, F, _, _, _, _, _, _, by first | assumption | omega | (repeat' first | omega | refine isDone_b ?_ | refine isLeft_b ?_), by first | assumption | omega | (repeat' first | omega | refine isDone_b ?_ | refine isLeft_b ?_), by first | assumption | omega | (repeat' first | omega | refine isDone_b ?_ | refine isLeft_b ?_), by first | assumption | omega | (repeat' first | omega | refine isDone_b ?_ | refine isLeft_b ?_), by first | assumption | omega | (repeat' first | omega | refine isDone_b ?_ | refine isLeft_b ?_), rfl, rfl, rfl, rfl⟩)) (fun b3 => (gs_retTS (ge_tupD (ga_cons (ge_str (K := K)) (ga_cons (ge_var rfl) (ga_cons (ge_var rfl) ga_nil))) (.cons (.cons (.cons (.nil)))) (by show 3 ≤ 1000; decide)) rfl rfl ?_)) (fun b3 => (gs_nextS (gs_ifs (gt_valB (K := K) (ge_meth (ge_var rfl) (ob_ins rfl) (ga_cons (ge_var rfl) (ga_cons (ge_var rfl) (ga_cons (ge_tupD (ga_cons (ge_str (K := K)) (ga_cons (ge_str (K := K)) (ga_cons (ge_var rfl) ga_nil))) (.cons (.cons (.cons (.nil)))) (by show 3 ≤ 1000; decide)) ga_nil))) ⟨_, _, _, _, _, _, F, _, _, _, _, _, _, by first | assumption | omega | (repeat' first | omega | refine isDone_b ?_ | refine isLeft_b ?_), by first | assumption | omega | (repeat' first | omega | refine isDone_b ?_ | refine isLeft_b ?_), by first | assumption | omega | (repeat' first | omega | refine isDone_b ?_ | refine isLeft_b ?_), by first | assumption | omega | (repeat' first | omega | refine isDone_b ?_ | refine isLeft_b ?_), by first | assumption | omega | (repeat' first | omega | refine isDone_b ?_ | refine isLeft_b ?_), rfl, rfl, rfl, rfl⟩)) (fun b4 => (gs_retTS (ge_tupD (ga_cons (ge_str (K := K)) (ga_cons (ge_var rfl) (ga_cons (ge_var rfl) ga_nil))) (.cons (.cons (.cons (.nil)))) (by show 3 ≤ 1000; decide)) rfl rfl ?_)) (fun b4 => (gs_nextS (gs_ifs (gt_notB (gt_valB (K := K) (ge_meth (ge_var rfl) (ob_ins rfl) (ga_cons (ge_var rfl) (ga_cons (ge_var rfl) (ga_cons (ge_tupD (ga_cons (ge_str (K := K)) (ga_cons (ge_str (K := K)) (ga_cons (ge_var rfl) ga_nil))) (.cons (.cons (.cons (.nil)))) (by show 3 ≤ 1000; decide)) ga_nil))) ⟨_, _, _, _, _, _, F, _, _, _, _, _, _, by first | assumption | omega | (repeat' first | omega | refine isDone_b ?_ | refine isLeft_b ?_), by first | assumption | omega | (repeat' first | omega | refine isDone_b ?_ | refine isLeft_b ?_), by first | assumption | omega | (repeat' first | omega | refine isDone_b ?_ | refine isLeft_b ?_), by first | assumption | omega | (repeat' first | omega | refine isDone_b ?_ | refine isLeft_b ?_), by first | assumption | omega | (repeat' first | omega | refine isDone_b ?_ | refine isLeft_b ?_), rfl, rfl, rfl, rfl⟩))) (fun b5 => (gs_retTS (ge_tupD (ga_cons (ge_str (K := K)) (ga_cons (ge_var rfl) (ga_cons (ge_var rfl) ga_nil))) (.cons (.cons (.cons (.nil)))) (by show 3 ≤ 1000; decide)) rfl rfl ?_)) (fun b5 => (gs_nextS (gs_retM (ge_meth (ge_var rfl) (ob_ins rfl) (ga_cons (ge_var rfl) (ga_cons (ge_var rfl) ga_nil)) ⟨_, _, _, _, _, _, F, _, _, _, by first | assumption | omega | (repeat' first | omega | refine isDone_b ?_ | refine isLeft_b ?_), by first | assumption | omega | (repeat' first | omega | refine isDone_b ?_ | refine isLeft_b ?_), by first | assumption | omega | (repeat' first | omega | refine isDone_b ?_ | refine isLeft_b ?_), by first | assumption | omega | (repeat' first | omega | refine isDone_b ?_ | refine isLeft_b ?_), by first | assumption | omega | (repeat' first | omega | refine isDone_b ?_ | refine isLeft_b ?_), by first | assumption | omega | (repeat' first | omega | refine isDone_b ?_ | refine isLeft_b ?_), by first | assumption | omega | (repeat' first | omega | refine isDone_b ?_ | refine isLeft_b ?_), rfl, rfl, rfl, rfl⟩) rfl rfl ?_)))))))))))))))))
      · unfold unpackedOver; rw [if_neg (of_decide_eq_false hb)]; unfold overGo; simp only [not_t b2, Bool.false_eq_true, if_false, if_true]
      · unfold unpackedOver; rw [if_neg (of_decide_eq_false hb)]; unfold overGo; simp only [not_f b2, b3, Bool.false_eq_true, if_false, if_true]
      · unfold unpackedOver; rw [if_neg (of_decide_eq_false hb)]; unfold overGo; simp only [not_f b2, b3, b4, Bool.false_eq_true, if_false, if_true]
      · unfold unpackedOver; rw [if_neg (of_decide_eq_false hb)]; unfold overGo; simp only [not_f b2, b3, b4, not_t b5, Bool.false_eq_true, if_false, if_true]
      · unfold unpackedOver; rw [if_neg (of_decide_eq_false hb)]; unfold overGo; simp only [not_f b2, b3, b4, not_f b5, Bool.false_eq_true, if_false, if_true]
-- slots: 0=self 1=name 2=new 3=status 4=old 5=done  uses: ['Run.is_left', 'Run.put_back', 'Run.is_done', 'Run.given_up']

end
end Hs
set_option Elab.async false
set_option linter.all false
set_option maxRecDepth 100000
set_option maxHeartbeats 4000000
namespace Hs
open PySem PySem.Spec PyProof.Rows L2 StX
section
variable {P : Program} {w : World} {K : PySem.W.Frag} {mg : Str → Option Value} {base : Heap}
abbrev N_Run_set_up : List Str := ["self", "name", "status", "version", "done"]
theorem sc_Run_set_up : FnScope N_Run_set_up ["self", "name"] (defScope s_Run_set_up) := ⟨rfl, rfl, rfl, by decide +kernel, rfl, by decide +kernel, by decide +kernel⟩
theorem ok_Run_set_up (T : Tx K mg) : FnR P w K mg base CX0 2 (a_Run_set_up K) (spC (ct_Run_set_up K)) := by
  obtain ⟨fd, F⟩ := T.f_Run_set_up
  have nd := sc_Run_set_up.nd
  refine ok_of (He5.fun_of F) sc_Run_set_up (F.bindsN fun _ _ _ _ _ _ us hl => match us, hl with | [_, _], _ => rfl) ?_ fun cdv A outer s H E hr => have hu := hu_of hr; have hu0 := hr.units0; ⟨_, (pss_cons (ps_asg (pe_dget hu (pe_fldK K (pe_fldK K (pv 0) rfl) rfl) (pv 1) (fun _ _ => rfl)) (pg_tupK K rfl (pgs_cons (pg_name (i := 2) nd rfl (.inl rfl)) (pgs_cons (pg_name (i := 3) nd rfl (.inl rfl)) (pgs_cons (pg_name (i := 4) nd rfl (.inl rfl)) pgs_nil)))))
    (pss_cons (ps_if (pt_val (pe_methR (pv 0) T.c_Run T.m_Run_is_done (ok_Run_is_done T) (hr.mono (by decide)) pass0 (pa_cons (pv 1) (pa_cons (pv 3) (pa_cons (pe_tup (pa_cons (pe_gs rfl T.s_SETUP) (pa_cons pe_str (pa_cons (pv 4) pa_nil)))) pa_nil))))) (pss_one (ps_ret (pe_tup (pa_cons (pe_gs rfl T.s_READY) (pa_cons (pv 3) (pa_cons (pv 3) pa_nil)))))) pss_nil)
    (pss_one (ps_ret (pe_tup (pa_cons (pe_gs rfl T.s_FAILED) (pa_cons (pv 3) (pa_cons (pv 4) pa_nil)))))))), ?_⟩
  · rintro S ⟨I, J, ins, out⟩ ⟨sa, es, ns, R, fails, m, F, c, n, hF, he, hr', hn, hE, hc, h0, h1, h2, h3⟩
    dsimp only at h2 ⊢
    subst h2
    rfl
  · rintro S ⟨I, J, ins, out⟩ ⟨sa, es, ns, R, fails, m, F, c, n, hF, he, hr', hn, hE, hc, h0, h1, h2, h3⟩
    dsimp only at h0
    subst h0
    dsimp only at h1 h2 h3
    subst h1 h2 h3
    refine (gs_seq (gs_asg (ge_rget (ge_fld (ge_fld (ge_var rfl) T.c_Run T.na_Run_base rfl) T.c_System T.na_System_rows rfl) (ge_var rfl) (by assumption)) (gg_tupD (gg_cons gg_name (gg_cons gg_name (gg_cons gg_name gg_nil))) rfl)) (gs_ifs (gt_valB (K := K) (ge_meth (ge_var rfl) (ob_ins rfl) (ga_cons (ge_var rfl) (ga_cons (ge_var rfl) (ga_cons (ge_tupD (ga_cons (ge_str (K := K)) (ga_cons (ge_str (K := K)) (ga_cons (ge_var rfl) ga_nil))) (.cons (.cons (.cons (.nil)))) (by show 3 ≤ 1000; decide)) ga_nil))) ⟨_, _, _, _, _, _, F, _, _, _, _, _, _, by first | assumption | omega | (repeat' first | omega | refine isDone_b ?_), by first | assumption | omega | (repeat' first | omega | refine isDone_b ?_), by first | assumption | omega | (repeat' first | omega | refine isDone_b ?_), by first | assumption | omega | (repeat' first | omega | refine isDone_b ?_), by first | assumption | omega | (repeat' first | omega | refine isDone_b ?_), rfl, rfl, rfl, rfl⟩)) (fun b1 => (gs_retTS (ge_tupD (ga_cons (ge_str (K := K)) (ga_cons (ge_var rfl) (ga_cons (ge_var rfl) ga_nil))) (.cons (.cons (.cons (.nil)))) (by show 3 ≤ 1000; decide)) rfl rfl ?_)) (fun b1 => (gs_nextS (gs_retT (ge_tupD (ga_cons (ge_str (K := K)) (ga_cons (ge_var rfl) (ga_cons (ge_var rfl) ga_nil))) (.cons (.cons (.cons (.nil)))) (by show 3 ≤ 1000; decide)) rfl rfl ?_)))))
    · unfold setUp; simp only [b1, if_true]
    · unfold setUp; simp only [b1, Bool.false_eq_true, if_false]
-- slots: 0=self 1=name 2=status 3=version 4=done  uses: ['Run.is_done']

end
end Hs
set_option Elab.async false
set_option linter.all false
set_option maxRecDepth 100000
set_option maxHeartbeats 4000000
namespace Hs
open PySem PySem.Spec PyProof.Rows L2 StX
section
variable {P : Program} {w : World} {K : PySem.W.Frag} {mg : Str → Option Value} {base : Heap}
abbrev N_Run_removed : List Str := ["self", "name", "status", "version", "done"]
theorem sc_Run_removed : FnScope N_Run_removed ["self", "name"] (defScope s_Run_removed) := ⟨rfl, rfl, rfl, by decide +kernel, rfl, by decide +kernel, by decide +kernel⟩
theorem ok_Run_removed (T : Tx K mg) : FnR P w K mg base CX0 2 (a_Run_removed K) (spC (ct_Run_removed K)) := by
  obtain ⟨fd, F⟩ := T.f_Run_removed
  have nd := sc_Run_removed.nd
  refine ok_of (He5.fun_of F) sc_Run_removed (F.bindsN fun _ _ _ _ _ _ us hl => match us, hl with | [_, _], _ => rfl) ?_ fun cdv A outer s H E hr => have hu := hu_of hr; have hu0 := hr.units0; ⟨_, (pss_cons (ps_asg (pe_dget hu (pe_fldK K (pe_fldK K (pv 0) rfl) rfl) (pv 1) (fun _ _ => rfl)) (pg_tupK K rfl (pgs_cons (pg_name (i := 2) nd rfl (.inl rfl)) (pgs_cons (pg_name (i := 3) nd rfl (.inl rfl)) (pgs_cons (pg_name (i := 4) nd rfl (.inl rfl)) pgs_nil)))))
    (pss_cons (ps_if (PW.pt (pw_and (pt_cmpR (op_inK K) (pv 2) (pe_tup (pa_cons (pe_gs rfl T.s_FAILED) (pa_cons (pe_gs rfl T.s_READY) pa_nil))) (by rfl)) (pw_and1 (pt_not (pt_val (pe_methR (pv 0) T.c_Run T.m_Run_is_done (ok_Run_is_done T) (hr.mono (by decide)) pass0 (pa_cons (pv 1) (pa_cons (pv 3) (pa_cons (pe_tup (pa_cons (pe_gs rfl T.s_LEAVE) (pa_cons pe_str (pa_cons pe_int pa_nil)))) pa_nil))))))))) (pss_cons (ps_if (pt_val (pe_methR (pv 0) T.c_Run T.m_Run_is_done (ok_Run_is_done T) (hr.mono (by decide)) pass0 (pa_cons (pv 1) (pa_cons (pv 3) (pa_cons (pe_tup (pa_cons (pe_gs rfl T.s_SETUP) (pa_cons pe_str (pa_cons pe_int pa_nil)))) pa_nil))))) (pss_one (ps_ret (pe_dget hu (pe_fldK K (pe_fldK K (pv 0) rfl) rfl) (pv 1) (fun _ _ => rfl)))) pss_nil)
    (pss_one (ps_ret (pe_tup (pa_cons (pe_gs rfl T.s_FAILED) (pa_cons (pv 3) (pa_cons (pv 4) pa_nil))))))) pss_nil)
    (pss_one (ps_ret (pe_tup (pa_cons (pe_ifExp (pt_val (pe_methR (pv 0) T.c_Run T.m_Run_is_done (ok_Run_is_done T) (hr.mono (by decide)) pass0 (pa_cons (pv 1) (pa_cons (pv 3) (pa_cons (pe_tup (pa_cons (pe_gs rfl T.s_CLEAN) (pa_cons pe_str (pa_cons pe_int pa_nil)))) pa_nil))))) (pe_gs rfl T.s_LEFT) (pe_gs rfl T.s_HALF)) (pa_cons (pv 3) (pa_cons (pv 4) pa_nil)))))))), ?_⟩
  · rintro S ⟨I, J, ins, out⟩ ⟨sa, es, ns, R, fails, m, F, c, n, hF, he, hr', hn, hE, hc, h0, h1, h2, h3⟩
    dsimp only at h2 ⊢
    subst h2
    rfl
  · rintro S ⟨I, J, ins, out⟩ ⟨sa, es, ns, R, fails, m, F, c, n, hF, he, hr', hn, hE, hc, h0, h1, h2, h3⟩
    dsimp only at h0
    subst h0
    dsimp only at h1 h2 h3
    subst h1 h2 h3
    cases hb : decide ((rowAt R n).st ∈ [sFa, sRe]) with
    | true =>
      refine (gs_seq (gs_asg (ge_rget (ge_fld (ge_fld (ge_var rfl) T.c_Run T.na_Run_base rfl) T.c_System T.na_System_rows rfl) (ge_var rfl) (by assumption)) (gg_tupD (gg_cons gg_name (gg_cons gg_name (gg_cons gg_name gg_nil))) rfl)) (gs_ifs (gt_andT (GT.to (gt_val (K := K) (ge_op (ge_var rfl) (ge_tupS2 (ga_cons (ge_str (K := K)) (ga_cons (ge_str (K := K)) ga_nil))) gr_inS)) hb) (gt_notB (gt_valB (K := K) (ge_meth (ge_var rfl) (ob_ins rfl) (ga_cons (ge_var rfl) (ga_cons (ge_var rfl) (ga_cons (ge_tupD (ga_cons (ge_str (K := K)) (ga_cons (ge_str (K := K)) (ga_cons (ge_int (K := K)) ga_nil))) (.cons (.cons (.cons (.nil)))) (by show 3 ≤ 1000; decide)) ga_nil))) ⟨_, _, _, _, _, _, F, _, _, _, _, _, _, by first | assumption | omega | (repeat' first | omega | refine isDone_b ?_), by first | assumption | omega | (repeat' first | omega | refine isDone_b ?_), by first | assumption | omega | (repeat' first | omega | refine isDone_b ?_), by first | assumption | omega | (repeat' first | omega | refine isDone_b ?_), by first | assumption | omega | (repeat' first | omega | refine isDone_b ?_), rfl, rfl, rfl, rfl⟩)))) (fun b1 => (gs_assoc (gs_ifs (gt_valB (K := K) (ge_meth (ge_var rfl) (ob_ins rfl) (ga_cons (ge_var rfl) (ga_cons (ge_var rfl) (ga_cons (ge_tupD (ga_cons (ge_str (K := K)) (ga_cons (ge_str (K := K)) (ga_cons (ge_int (K := K)) ga_nil))) (.cons (.cons (.cons (.nil)))) (by show 3 ≤ 1000; decide)) ga_nil))) ⟨_, _, _, _, _, _, F, _, _, _, _, _, _, by first | assumption | omega | (repeat' first | omega | refine isDone_b ?_), by first | assumption | omega | (repeat' first | omega | refine isDone_b ?_), by first | assumption | omega | (repeat' first | omega | refine isDone_b ?_), by first | assumption | omega | (repeat' first | omega | refine isDone_b ?_), by first | assumption | omega | (repeat' first | omega | refine isDone_b ?_), rfl, rfl, rfl, rfl⟩)) (fun b2 => (gs_retZS (ge_rget (ge_fld (ge_fld (ge_var rfl) T.c_Run T.na_Run_base rfl) T.c_System T.na_System_rows rfl) (ge_var rfl) (by assumption)) rfl rfl ?_)) (fun b2 => (gs_nextS (gs_retTS (ge_tupD (ga_cons (ge_str (K := K)) (ga_cons (ge_var rfl) (ga_cons (ge_var rfl) ga_nil))) (.cons (.cons (.cons (.nil)))) (by show 3 ≤ 1000; decide)) rfl rfl ?_)))))) (fun b1 => (gs_nextS (gs_retT (ge_tupD (ga_cons (ge_ifS (gt_valB (K := K) (ge_meth (ge_var rfl) (ob_ins rfl) (ga_cons (ge_var rfl) (ga_cons (ge_var rfl) (ga_cons (ge_tupD (ga_cons (ge_str (K := K)) (ga_cons (ge_str (K := K)) (ga_cons (ge_int (K := K)) ga_nil))) (.cons (.cons (.cons .nil))) (by show 3 ≤ 1000; decide)) ga_nil))) ⟨_, _, _, _, _, _, F, _, _, _, _, _, _, by assumption, by assumption, by assumption, by assumption, by first | assumption | omega | (repeat' first | omega | refine isDone_b ?_), rfl, rfl, rfl, rfl⟩))) (ga_cons (ge_var rfl) (ga_cons (ge_var rfl) ga_nil))) (.cons (.cons (.cons (.nil)))) (by show 3 ≤ 1000; decide)) rfl rfl ?_)))))
      · unfold removed; rw [if_pos (of_decide_eq_true hb)]; simp only [not_t b1, b2, Bool.false_eq_true, if_false, if_true]
      · unfold removed; rw [if_pos (of_decide_eq_true hb)]; simp only [not_t b1, b2, Bool.false_eq_true, if_false, if_true]
      · unfold removed; rw [if_pos (of_decide_eq_true hb)]; simp only [not_f b1, Bool.false_eq_true, if_false, if_true]
        unfold removedGo; rfl
    | false =>
      refine (gs_seq (gs_asg (ge_rget (ge_fld (ge_fld (ge_var rfl) T.c_Run T.na_Run_base rfl) T.c_System T.na_System_rows rfl) (ge_var rfl) (by assumption)) (gg_tupD (gg_cons gg_name (gg_cons gg_name (gg_cons gg_name gg_nil))) rfl)) (gs_ifs (gt_andF (GT.to (gt_val (K := K) (ge_op (ge_var rfl) (ge_tupS2 (ga_cons (ge_str (K := K)) (ga_cons (ge_str (K := K)) ga_nil))) gr_inS)) hb)) (fun b1 => Bool.noConfusion b1) (fun b1 => (gs_nextS (gs_retT (ge_tupD (ga_cons (ge_ifS (gt_valB (K := K) (ge_meth (ge_var rfl) (ob_ins rfl) (ga_cons (ge_var rfl) (ga_cons (ge_var rfl) (ga_cons (ge_tupD (ga_cons (ge_str (K := K)) (ga_cons (ge_str (K := K)) (ga_cons (ge_int (K := K)) ga_nil))) (.cons (.cons (.cons .nil))) (by show 3 ≤ 1000; decide)) ga_nil))) ⟨_, _, _, _, _, _, F, _, _, _, _, _, _, by assumption, by assumption, by assumption, by assumption, by first | assumption | omega | (repeat' first | omega | refine isDone_b ?_), rfl, rfl, rfl, rfl⟩))) (ga_cons (ge_var rfl) (ga_cons (ge_var rfl) ga_nil))) (.cons (.cons (.cons (.nil)))) (by show 3 ≤ 1000; decide)) rfl rfl ?_)))))
      unfold removed; rw [if_neg (of_decide_eq_false hb)]; unfold removedGo; rfl
-- slots: 0=self 1=name 2=status 3=version 4=done  uses: ['Run.is_done']

end
end Hs
set_option Elab.async false
set_option linter.all false
set_option maxRecDepth 100000
set_option maxHeartbeats 4000000
namespace Hs
open PySem PySem.Spec PyProof.Rows L2 StX
section
variable {P : Program} {w : World} {K : PySem.W.Frag} {mg : Str → Option Value} {base : Heap}
abbrev N_Run_purged : List Str := ["self", "name", "state"]
theorem sc_Run_purged : FnScope N_Run_purged ["self", "name"] (defScope s_Run_purged) := ⟨rfl, rfl, rfl, by decide +kernel, rfl, by decide +kernel, by decide +kernel⟩
theorem ok_Run_purged (T : Tx K mg) : FnR P w K mg base CX0 2 (a_Run_purged K) (spC (ct_Run_purged K)) := by
  obtain ⟨fd, F⟩ := T.f_Run_purged
  have nd := sc_Run_purged.nd
  refine ok_of (He5.fun_of F) sc_Run_purged (F.bindsN fun _ _ _ _ _ _ us hl => match us, hl with | [_, _], _ => rfl) ?_ fun cdv A outer s H E hr => have hu := hu_of hr; have hu0 := hr.units0; ⟨_, (pss_cons (ps_set (i := 2) nd rfl (.inl rfl) (pe_dget hu (pe_fldK K (pe_fldK K (pv 0) rfl) rfl) (pv 1) (fun _ _ => rfl)))
    (pss_one (ps_ret (pe_ifExp (pt_val (pe_methR (pv 0) T.c_Run T.m_Run_is_done (ok_Run_is_done T) (hr.mono (by decide)) pass0 (pa_cons (pv 1) (pa_cons (pe_ix (ix_tupK K) (pv 2) pe_int (fun _ _ => rfl)) (pa_cons (pe_tup (pa_cons (pe_gs rfl T.s_CLEAN) (pa_cons pe_str (pa_cons pe_int pa_nil)))) pa_nil))))) (pe_glob (v := .ref _) rfl T.g_NOTHING rfl) (pv 2))))), ?_⟩
  · rintro S ⟨I, J, ins, out⟩ ⟨sa, es, ns, R, fails, m, F, c, n, hF, he, hr', hn, hE, hc, h0, h1, h2, h3⟩
    dsimp only at h2 ⊢
    subst h2
    rfl
  · rintro S ⟨I, J, ins, out⟩ ⟨sa, es, ns, R, fails, m, F, c, n, hF, he, hr', hn, hE, hc, h0, h1, h2, h3⟩
    dsimp only at h0
    subst h0
    dsimp only at h1 h2 h3
    subst h1 h2 h3
    refine (gs_seq (gs_set (ge_rget (ge_fld (ge_fld (ge_var rfl) T.c_Run T.na_Run_base rfl) T.c_System T.na_System_rows rfl) (ge_var rfl) (by assumption))) (gs_retIf (gt_valB (K := K) (ge_meth (ge_var rfl) (ob_ins rfl) (ga_cons (ge_var rfl) (ga_cons (ge_op (ge_var rfl) (ge_int (K := K)) (gr_ixD (by decide) rfl)) (ga_cons (ge_tupD (ga_cons (ge_str (K := K)) (ga_cons (ge_str (K := K)) (ga_cons (ge_int (K := K)) ga_nil))) (.cons (.cons (.cons (.nil)))) (by show 3 ≤ 1000; decide)) ga_nil))) ⟨_, _, _, _, _, _, F, _, _, _, _, _, _, by first | assumption | omega | (repeat' first | omega | refine isDone_b ?_), by first | assumption | omega | (repeat' first | omega | refine isDone_b ?_), by first | assumption | omega | (repeat' first | omega | refine isDone_b ?_), by first | assumption | omega | (repeat' first | omega | refine isDone_b ?_), by first | assumption | omega | (repeat' first | omega | refine isDone_b ?_), rfl, rfl, rfl, rfl⟩)) (fun b1 => (gs_retT (ge_kt T.v_NOTHING fun _ => daN) rfl rfl ?_)) (fun b1 => (gs_retZ (ge_var rfl) rfl rfl ?_))))
    · unfold purged; simp only [b1, if_true]
    · unfold purged; simp only [b1, Bool.false_eq_true, if_false]
-- slots: 0=self 1=name 2=state  uses: ['Run.is_done']

end
end Hs
set_option Elab.async false
set_option linter.all false
set_option maxRecDepth 100000
set_option maxHeartbeats 4000000
namespace Hs
open PySem PySem.Spec PyProof.Rows L2 StX
section
variable {P : Program} {w : World} {K : PySem.W.Frag} {mg : Str → Option Value} {base : Heap}
abbrev N_Run_state_behind : List Str := ["self", "deed", "word", "name", "state", "is_fresh"]
theorem sc_Run_state_behind : FnScope N_Run_state_behind ["self", "deed"] (defScope s_Run_state_behind) := ⟨rfl, rfl, rfl, by decide +kernel, rfl, by decide +kernel, by decide +kernel⟩
theorem ok_Run_state_behind (T : Tx K mg) : FnR P w K mg base CX0 5 (a_Run_state_behind K) (spC (ct_Run_state_behind K)) := by
  obtain ⟨fd, F⟩ := T.f_Run_state_behind
  have nd := sc_Run_state_behind.nd
  refine ok_of (He5.fun_of F) sc_Run_state_behind (F.bindsN fun _ _ _ _ _ _ us hl => match us, hl with | [_, _], _ => rfl) ?_ fun cdv A outer s H E hr => have hu := hu_of hr; have hu0 := hr.units0; ⟨_, (pss_cons (ps_asg (pe_slice (sl_tupAK K) (pv 1) po_none (po_some pe_int)) (pg_tupK K rfl (pgs_cons (pg_name (i := 2) nd rfl (.inl rfl)) (pgs_cons (pg_name (i := 3) nd rfl (.inl rfl)) pgs_nil))))
    (pss_cons (ps_set (i := 4) nd rfl (.inl rfl) (pe_dget hu (pe_fldK K (pe_fldK K (pv 0) rfl) rfl) (pv 3) (fun _ _ => rfl)))
    (pss_cons (ps_if (pt_cmpR op_eq (pv 2) (pe_gs rfl T.s_UNPACK) (nomark _)) (pss_cons (ps_set (i := 5) nd rfl (.inl rfl) (pe_or (pe_cmpR (op_niK K) (pe_ix (ix_tupK K) (pv 4) pe_int (fun _ _ => rfl)) (pe_glob (v := .ref _) rfl T.g_THERE rfl) (by rfl)) (pe_one (pe_cmpR op_eq (pe_ix (ix_tupK K) (pv 4) pe_int (fun _ _ => rfl)) (pe_gs rfl T.s_HALF) (nomark _)))))
    (pss_one (ps_ret (pe_ifExp (pt_val (pv 5)) (pe_methR (pv 0) T.c_Run T.m_Run_unpacked_new (ok_Run_unpacked_new T) (hr.mono (by decide)) pass0 (pa_cons (pv 3) (pa_cons (pe_ix (ix_tupK K) (pv 1) pe_int (fun _ _ => rfl)) pa_nil))) (pe_methR (pv 0) T.c_Run T.m_Run_unpacked_over (ok_Run_unpacked_over T) (hr.mono (by decide)) pass0 (pa_cons (pv 3) (pa_cons (pe_ix (ix_tupK K) (pv 1) pe_int (fun _ _ => rfl)) pa_nil))))))) pss_nil)
    (pss_cons (ps_if (pt_cmpR op_eq (pv 2) (pe_gs rfl T.s_SETUP) (nomark _)) (pss_one (ps_ret (pe_methR (pv 0) T.c_Run T.m_Run_set_up (ok_Run_set_up T) (hr.mono (by decide)) pass0 (pa_cons (pv 3) pa_nil)))) pss_nil)
    (pss_one (ps_ret (pe_ifExp (pt_cmpR op_eq (pv 2) (pe_gs rfl T.s_REMOVE) (nomark _)) (pe_methR (pv 0) T.c_Run T.m_Run_removed (ok_Run_removed T) (hr.mono (by decide)) pass0 (pa_cons (pv 3) pa_nil)) (pe_methR (pv 0) T.c_Run T.m_Run_purged (ok_Run_purged T) (hr.mono (by decide)) pass0 (pa_cons (pv 3) pa_nil))))))))), ?_⟩
  · rintro S ⟨I, J, ins, out⟩ ⟨sa, es, ns, R, fails, m, F, c, d, hF, he, hr', hd, hc, h0, h1, h2, h3⟩
    dsimp only at h2 ⊢
    subst h2
    rfl
  · rintro S ⟨I, J, ins, out⟩ ⟨sa, es, ns, R, fails, m, F, c, d, hF, he, hr', hd, hc, h0, h1, h2, h3⟩
    dsimp only at h0
    subst h0
    dsimp only at h1 h2 h3
    subst h1 h2 h3
    cases d with
    | unpack n v =>
      obtain ⟨hn, hE2⟩ := hd
      refine gs_seq (gs_asg (ge_slD (ge_var rfl) po_n po_i) (gg_tupD (gg_cons gg_name (gg_cons gg_name gg_nil)) rfl)) ?_
      refine gs_seq (gs_set (ge_rget (ge_fld (ge_fld (ge_var rfl) T.c_Run T.na_Run_base rfl) T.c_System T.na_System_rows rfl) (ge_var rfl) hn)) (gs_ifs (gt_val (K := K) (ge_op (ge_var rfl) (ge_str (K := K)) gr_eqS)) (fun b1 => gs_assoc (gs_seq (gs_set (ge_or (ge_op (ge_op (ge_var rfl) (ge_int (K := K)) (gr_ixD (by decide) rfl)) (ge_kt T.v_THERE fun _ => da4) gr_niS) fun _ => (ge_op (ge_op (ge_var rfl) (ge_int (K := K)) (gr_ixD (by decide) rfl)) (ge_str (K := K)) gr_eqS))) (gs_retIfS (gt_valB (K := K) (ge_var rfl)) (fun b2 => gs_retMS (ge_meth (ge_var rfl) (ob_ins rfl) (ga_cons (ge_var rfl) (ga_cons (ge_op (ge_var rfl) (ge_int (K := K)) (gr_ixD (by decide) rfl)) ga_nil)) ⟨_, _, _, _, _, _, F, _, _, _, hF, he, hr', hn, hE2, hc, rfl, rfl, rfl, rfl⟩) rfl rfl ?_) (fun b2 => gs_retMS (ge_meth (ge_var rfl) (ob_ins rfl) (ga_cons (ge_var rfl) (ga_cons (ge_op (ge_var rfl) (ge_int (K := K)) (gr_ixD (by decide) rfl)) ga_nil)) ⟨_, _, _, _, _, _, F, _, _, _, hF, he, hr', hn, fresh_found hr' hn b2, hE2, hc, rfl, rfl, rfl, rfl⟩) rfl rfl ?_)))) (fun b1 => absurd b1 (by decide +kernel)))
      · exact if_pos b2
      · exact if_neg (by rw [show (!decide ((rowAt R n).st ∈ thereSt) || decide ((rowAt R n).st = sHa)) = false from b2]; decide)
    | setup n =>
      obtain ⟨hn, hs⟩ := hd
      have hE := hr'.found hn hs
      refine gs_seq (gs_asg (ge_slD (ge_var rfl) po_n po_i) (gg_tupD (gg_cons gg_name (gg_cons gg_name gg_nil)) rfl)) ?_
      refine gs_seq (gs_set (ge_rget (ge_fld (ge_fld (ge_var rfl) T.c_Run T.na_Run_base rfl) T.c_System T.na_System_rows rfl) (ge_var rfl) hn)) (gs_ifs (gt_val (K := K) (ge_op (ge_var rfl) (ge_str (K := K)) gr_eqS)) (fun b1 => absurd b1 (by decide +kernel)) (fun b1 => gs_nextS (gs_ifs (gt_val (K := K) (ge_op (ge_var rfl) (ge_str (K := K)) gr_eqS)) (fun b2 => gs_retMS (ge_meth (ge_var rfl) (ob_ins rfl) (ga_cons (ge_var rfl) ga_nil) ⟨_, _, _, _, _, _, F, _, _, hF, he, hr', hn, hE, hc, rfl, rfl, rfl, rfl⟩) rfl rfl ?_) (fun b2 => absurd b2 (by decide +kernel)))))
      rfl
    | remove n =>
      obtain ⟨hn, hs⟩ := hd
      have hE := hr'.found hn hs
      refine gs_seq (gs_asg (ge_slD (ge_var rfl) po_n po_i) (gg_tupD (gg_cons gg_name (gg_cons gg_name gg_nil)) rfl)) ?_
      refine gs_seq (gs_set (ge_rget (ge_fld (ge_fld (ge_var rfl) T.c_Run T.na_Run_base rfl) T.c_System T.na_System_rows rfl) (ge_var rfl) hn)) (gs_ifs (gt_val (K := K) (ge_op (ge_var rfl) (ge_str (K := K)) gr_eqS)) (fun b1 => absurd b1 (by decide +kernel)) (fun b1 => gs_nextS (gs_ifs (gt_val (K := K) (ge_op (ge_var rfl) (ge_str (K := K)) gr_eqS)) (fun b2 => absurd b2 (by decide +kernel)) (fun b2 => gs_nextS (gs_retIf (gt_val (K := K) (ge_op (ge_var rfl) (ge_str (K := K)) gr_eqS)) (fun b3 => gs_retM (ge_meth (ge_var rfl) (ob_ins rfl) (ga_cons (ge_var rfl) ga_nil) ⟨_, _, _, _, _, _, F, _, _, hF, he, hr', hn, hE, hc, rfl, rfl, rfl, rfl⟩) rfl rfl ?_) (fun b3 => absurd b3 (by decide +kernel))))))) 
      rfl
    | purge n =>
      obtain ⟨hn, hs⟩ := hd
      have hE := hr'.found hn hs
      refine gs_seq (gs_asg (ge_slD (ge_var rfl) po_n po_i) (gg_tupD (gg_cons gg_name (gg_cons gg_name gg_nil)) rfl)) ?_
      refine gs_seq (gs_set (ge_rget (ge_fld (ge_fld (ge_var rfl) T.c_Run T.na_Run_base rfl) T.c_System T.na_System_rows rfl) (ge_var rfl) hn)) (gs_ifs (gt_val (K := K) (ge_op (ge_var rfl) (ge_str (K := K)) gr_eqS)) (fun b1 => absurd b1 (by decide +kernel)) (fun b1 => gs_nextS (gs_ifs (gt_val (K := K) (ge_op (ge_var rfl) (ge_str (K := K)) gr_eqS)) (fun b2 => absurd b2 (by decide +kernel)) (fun b2 => gs_nextS (gs_retIf (gt_val (K := K) (ge_op (ge_var rfl) (ge_str (K := K)) gr_eqS)) (fun b3 => absurd b3 (by decide +kernel)) (fun b3 => gs_retM (ge_meth (ge_var rfl) (ob_ins rfl) (ga_cons (ge_var rfl) ga_nil) ⟨_, _, _, _, _, _, F, _, _, hF, he, hr', hn, hE, hc, rfl, rfl, rfl, rfl⟩) rfl rfl ?_))))))
      rfl
    all_goals skip
-- slots: 0=self 1=deed 2=word 3=name 4=state 5=is_fresh  uses: ['Run.unpacked_new', 'Run.unpacked_over', 'Run.set_up', 'Run.removed', 'Run.purged']

end
end Hs
set_option Elab.async false
set_option linter.all false
set_option maxRecDepth 100000
set_option maxHeartbeats 4000000
namespace Hs
open PySem PySem.Spec PyProof.Rows L2 StX
section
variable {P : Program} {w : World} {K : PySem.W.Frag} {mg : Str → Option Value} {base : Heap}
abbrev N_System_with_state : List Str := ["self", "name", "state"]
theorem sc_System_with_state : FnScope N_System_with_state ["self", "name", "state"] (defScope s_System_with_state) := ⟨rfl, rfl, rfl, by decide +kernel, rfl, by decide +kernel, by decide +kernel⟩
theorem ok_System_with_state (T : Tx K mg) : FnR P w K mg base CX0 5 (a_System_with_state K) (spC (ct_System_with_state K)) := by
  obtain ⟨fd, F⟩ := T.f_System_with_state
  have nd := sc_System_with_state.nd
  refine ok_of (He5.fun_of F) sc_System_with_state (F.bindsN fun _ _ _ _ _ _ us hl => match us, hl with | [_, _, _], _ => rfl) ?_ fun cdv A outer s H E hr => have hu := hu_of hr; have hu0 := hr.units0; ⟨_, (pss_cons (ps_if (pt_cmp (pc_dnotin hu (pv 1) (pe_fldK K (pv 0) rfl))) pss_never pss_nil)
    (pss_one (ps_ret (pe_makeR T.mk_System (ok_System_init T) (hr.mono (by decide)) rfl T.g_System pass0 (pa_cons (pe_fldK K (pv 0) rfl) (pa_cons (pe_op op_dor (pe_fldK K (pv 0) rfl) (pe_disp (pps_cons (pv 1) (pv 2) pps_nil) (by rfl) (by rfl) (fun z => by cases z) (by decide))) pa_nil)))))), ?_⟩
  · rintro S ⟨I, J, ins, out⟩ ⟨sa, es, ns, R, n, s, he, hr', hn, hs, h1, h2, h3⟩
    dsimp only at h2 ⊢
    subst h2
    rfl
  · rintro S ⟨I, J, ins, out⟩ ⟨sa, es, ns, R, n, s, he, hr', hn, hs, h1, h2, h3⟩
    dsimp only at h1 h2 h3
    subst h1 h2 h3
    have hmem : n ∈ R.map Prod.fst := lk_isSome.mp hn
    have hok := putR_ok hr' hs
    refine gs_ifs (gt_valB (K := K) (ge_rnin (ge_var rfl) (ge_fld (ge_var rfl) T.c_System T.na_System_rows rfl))) (fun b1 => gs_never ?_) (fun b1 => gs_nextS (gs_ret (ge_make (ga_cons (ge_fld (ge_var rfl) T.c_System T.na_System_base rfl) (ga_cons (ge_op (ge_fld (ge_var rfl) T.c_System T.na_System_rows rfl) (ge_disp1 (fun _ _ => ge_var rfl) (fun _ _ => ge_var rfl)) (gr_dor hmem (Nat.le_trans (hr'.few he) (by decide)))) ga_nil)) ⟨sa, es, ns, putR R n s, he, hok.nd he, Nat.le_trans (hok.few he) (by decide), fun r hm => ⟨by have := List.mem_map_of_mem (f := Prod.fst) hm; rw [hok.keys] at this; exact this, hok.ok r hm⟩, rfl, rfl⟩) fun v H hj hp => ⟨?_, hj⟩))
    · rw [hn] at b1; cases b1
    · rw [rows_norm he hok] at hp; exact hp
    all_goals skip
-- slots: 0=self 1=name 2=state  uses: ['System.__init__']

end
end Hs
set_option Elab.async false
set_option linter.all false
set_option maxRecDepth 100000
set_option maxHeartbeats 4000000
namespace Hs
open PySem PySem.Spec PyProof.Rows L2 StX
section
variable {P : Program} {w : World} {K : PySem.W.Frag} {mg : Str → Option Value} {base : Heap}
abbrev N_executed : List Str := ["system", "deed", "fails", "one", "state"]
theorem sc_executed : FnScope N_executed ["system", "deed", "fails"] (defScope s_executed) := ⟨rfl, rfl, rfl, by decide +kernel, rfl, by decide +kernel, by decide +kernel⟩
theorem ok_executed (T : Tx K mg) : FnR P w K mg base CX0 6 (a_executed K) (spC (ct_executed K)) := by
  obtain ⟨fd, F⟩ := T.f_executed
  have nd := sc_executed.nd
  refine ok_of (He5.fun_of F) sc_executed (F.bindsN fun _ _ _ _ _ _ us hl => match us, hl with | [_, _, _], _ => rfl) ?_ fun cdv A outer s H E hr => have hu := hu_of hr; have hu0 := hr.units0; ⟨_, (pss_cons (ps_set (i := 3) nd rfl (.inl rfl) (pe_makeR T.mk_Run (ok_Run_init T) (hr.mono (by decide)) rfl T.g_Run pass0 (pa_cons (pv 0) (pa_cons (pv 2) pa_nil))))
    (pss_cons (ps_set (i := 4) nd rfl (.inl rfl) (pe_methR (pv 3) T.c_Run T.m_Run_state_behind (ok_Run_state_behind T) (hr.mono (by decide)) pass0 (pa_cons (pv 1) pa_nil)))
    (pss_one (ps_ret (pe_tup (pa_cons (pe_methR (pv 0) T.c_System T.m_System_with_state (ok_System_with_state T) (hr.mono (by decide)) pass0 (pa_cons (pe_ix (ix_tupK K) (pv 1) pe_int (fun _ _ => rfl)) (pa_cons (pv 4) pa_nil))) (pa_cons (pe_fldK K (pv 3) rfl) pa_nil))))))), ?_⟩
  · rintro S ⟨I, J, ins, out⟩ ⟨sa, es, ns, R, d, fails, he, hr', hd, h1, h2, h3⟩
    dsimp only at h2 ⊢
    subst h2
    rfl
  · rintro S ⟨I, J, ins, out⟩ ⟨sa, es, ns, R, d, fails, he, hr', hd, h1, h2, h3⟩
    dsimp only at h1 h2 h3
    subst h1 h2 h3
    refine gs_run (ga_cons (ge_var rfl) (ga_cons (ge_var rfl) ga_nil)) fun m nm => gs_seq (gs_set (ge_meth (ge_var rfl) (ob_ins rfl) (ga_cons (ge_var rfl) ga_nil) ⟨sa, es, ns, R, fails, m, J.cnt m, 0, d, cnt_fam J m nm, he, hr', hd, by decide, rfl, rfl, rfl, rfl⟩)) (gs_ret (ge_tup (K := K) (ga_cons (ge_meth (ge_var rfl) (ob_ins rfl) (ga_cons (ge_op (ge_var rfl) (ge_int (K := K)) gr_deed1) (ga_cons (ge_var rfl) ga_nil)) ⟨sa, es, ns, R, d.nm, _, he, hr', runnable_in hd, behind_ok hr' hd 0, rfl, rfl, rfl⟩) (ga_cons (ge_fld (ge_var rfl) T.c_Run T.na_Run_made rfl) ga_nil)) (by show 2 ≤ 1000; decide)) fun v H hj hp => ⟨?_, cnt_wk hj⟩)
    obtain ⟨a, xs, rfl, h1, v1, ws, rfl, h2, v2, ws', rfl, h3, rfl⟩ := hp
    obtain ⟨_, ys, h4, h5⟩ := hj
    have down : ∀ a, S a → SU S m a ∨ H a = none := fun a z => .inl (.inl z)
    exact ⟨a, _, rfl, h1.lift down, v1, _, rfl, (Sys K sa es (putR R d.nm (stateBehind es fails R d 0).1)).lift down h2, v2, _, rfl, ⟨m, ys, h3, nm, h4, h5⟩, rfl⟩
    all_goals skip
-- slots: 0=system 1=deed 2=fails 3=one 4=state  uses: ['Run.__init__', 'Run.state_behind', 'System.with_state']

end
end Hs
set_option Elab.async false
set_option linter.all false
set_option maxRecDepth 100000
set_option maxHeartbeats 4000000
namespace Hs
open PySem PySem.Spec PyProof.Rows L2 StX
section
variable {P : Program} {w : World} {K : PySem.W.Frag} {mg : Str → Option Value} {base : Heap}
abbrev N_run : List Str := ["system", "deed", "fails"]
theorem sc_run : FnScope N_run ["system", "deed", "fails"] (defScope s_run) := ⟨rfl, rfl, rfl, by decide +kernel, rfl, by decide +kernel, by decide +kernel⟩
theorem ok_run (T : Tx K mg) : FnR P w K mg base CX0 7 (a_run K) (spC (ct_run K)) := by
  obtain ⟨fd, F⟩ := T.f_run
  have nd := sc_run.nd
  refine ok_of (He5.fun_of F) sc_run (F.bindsN fun _ _ _ _ _ _ us hl => match us, hl with | [_, _, _], _ => rfl) ?_ fun cdv A outer s H E hr => have hu := hu_of hr; have hu0 := hr.units0; ⟨_, (pss_cons (ps_expr (pe_callR (ok_need_begin T) (hr.mono (by decide)) rfl T.g_need_begin T.k_need_begin pass0 (pa_cons (pv 0) (pa_cons (pv 1) pa_nil))))
    (pss_one (ps_ret (pe_callR (ok_executed T) (hr.mono (by decide)) rfl T.g_executed T.k_executed pass0 (pa_cons (pv 0) (pa_cons (pv 1) (pa_cons (pv 2) pa_nil))))))), ?_⟩
  · rintro S ⟨I, J, ins, out⟩ ⟨sa, es, ns, R, d, fails, he, hr', ha, h1, h2, h3⟩
    dsimp only at h2 ⊢
    subst h2
    rfl
  · rintro S ⟨I, J, ins, out⟩ ⟨sa, es, ns, R, d, fails, he, hr', ha, h1, h2, h3⟩
    dsimp only at h1 h2 h3
    subst h1 h2 h3
    refine gs_seq (gs_drop (ge_call (ga_cons (ge_var rfl) (ga_cons (ge_var rfl) ga_nil)) ⟨sa, es, ns, R, d, he, hr', ha, rfl, rfl, rfl⟩)) (gs_retF (ge_call (ga_cons (ge_var rfl) (ga_cons (ge_var rfl) (ga_cons (ge_var rfl) ga_nil))) ⟨sa, es, ns, R, d, fails, he, hr', allowed_run he hr' ha, rfl, rfl, rfl⟩))
    all_goals skip
-- slots: 0=system 1=deed 2=fails  uses: ['need_begin', 'executed']

end
end Hs
set_option Elab.async false
set_option linter.all false
set_option maxRecDepth 100000
set_option maxHeartbeats 4000000
namespace Hs
open PySem PySem.Spec PyProof.Rows L2 StX
section
variable {P : Program} {w : World} {K : PySem.W.Frag} {mg : Str → Option Value} {base : Heap}
abbrev N_is_sound : List Str := ["system", "name", "status", "version", "done", "edition"]
theorem sc_is_sound : FnScope N_is_sound ["system"] (defScope s_is_sound) := ⟨rfl, rfl, rfl, by decide +kernel, rfl, by decide +kernel, by decide +kernel⟩
theorem ok_is_sound (T : Tx K mg) : FnR P w K mg base CX0 3 (a_is_sound K) (spC (ct_is_sound K)) := by
  obtain ⟨fd, F⟩ := T.f_is_sound
  have nd := sc_is_sound.nd
  refine ok_of (He5.fun_of F) sc_is_sound (F.bindsN fun _ _ _ _ _ _ us hl => match us, hl with | [_], _ => rfl) ?_ fun cdv A outer s H E hr => have hu := hu_of hr; have hu0 := hr.units0; ⟨_, (pss_cons (ps_or (ps_lock (ps_for PassesOwn.never rfl (pi_items (pe_fldK K (pv 0) rfl)) (pg_tupK K rfl (pgs_cons (pg_name (i := 1) nd rfl (.inl rfl)) (pgs_cons (pg_tupK K rfl (pgs_cons (pg_name (i := 2) nd rfl (.inl rfl)) (pgs_cons (pg_name (i := 3) nd rfl (.inl rfl)) (pgs_cons (pg_name (i := 4) nd rfl (.inl rfl)) pgs_nil)))) pgs_nil)))
    (pss_cons (ps_if (pt_cmpR (op_inK K) (pv 2) (pe_tup (pa_cons (pe_gs rfl T.s_FAILED) (pa_cons (pe_gs rfl T.s_HALF) (pa_cons (pe_gs rfl T.s_UNPACKED) pa_nil)))) (by rfl)) (pss_one (ps_ret pe_bl)) pss_nil)
    (pss_one (ps_if (pt_cmpR op_eq (pv 2) (pe_gs rfl T.s_READY) (nomark _)) (pss_cons (ps_set (i := 5) nd rfl (.inl rfl) (pe_callR (ok_edition_in T) (hr.mono (by decide)) rfl T.g_edition_in T.k_edition_in pass0 (pa_cons (pv 0) (pa_cons (pv 1) pa_nil))))
    (pss_one (ps_if (PW.pt (pw_or (pt_cmp (pc_notN (pe_callR (ok_lacking T) (hr.mono (by decide)) rfl T.g_lacking T.k_lacking pass0 (pa_cons (pv 0) (pa_cons (pe_fldK K (pv 5) rfl) pa_nil))))) (pw_or1 (pt_cmp (pc_notN (pe_callR (ok_hostile T) (hr.mono (by decide)) rfl T.g_hostile T.k_hostile pass0 (pa_cons (pv 0) (pa_cons (pv 5) pa_nil)))))))) (pss_one (ps_ret pe_bl)) pss_nil))) pss_nil))))) (ps_for PassesOwn.never rfl (pi_items (pe_fldK K (pv 0) rfl)) (pg_tupK K rfl (pgs_cons (pg_name (i := 1) nd rfl (.inl rfl)) (pgs_cons (pg_tupK K rfl (pgs_cons (pg_name (i := 2) nd rfl (.inl rfl)) (pgs_cons (pg_name (i := 3) nd rfl (.inl rfl)) (pgs_cons (pg_name (i := 4) nd rfl (.inl rfl)) pgs_nil)))) pgs_nil)))
    (pss_cons (ps_if (pt_cmpR (op_inK K) (pv 2) (pe_tup (pa_cons (pe_gs rfl T.s_FAILED) (pa_cons (pe_gs rfl T.s_HALF) (pa_cons (pe_gs rfl T.s_UNPACKED) pa_nil)))) (by rfl)) (pss_one (ps_ret pe_bl)) pss_nil)
    (pss_one (ps_if (pt_cmpR op_eq (pv 2) (pe_gs rfl T.s_READY) (nomark _)) (pss_cons (ps_set (i := 5) nd rfl (.inl rfl) (pe_callR (ok_edition_in T) (hr.mono (by decide)) rfl T.g_edition_in T.k_edition_in pass0 (pa_cons (pv 0) (pa_cons (pv 1) pa_nil))))
    (pss_one (ps_if (PW.pt (pw_or (pt_cmp (pc_notN (pe_callR (ok_lacking T) (hr.mono (by decide)) rfl T.g_lacking T.k_lacking pass0 (pa_cons (pv 0) (pa_cons (pe_fldK K (pv 5) rfl) pa_nil))))) (pw_or1 (pt_cmp (pc_notN (pe_callR (ok_hostile T) (hr.mono (by decide)) rfl T.g_hostile T.k_hostile pass0 (pa_cons (pv 0) (pa_cons (pv 5) pa_nil)))))))) (pss_one (ps_ret pe_bl)) pss_nil))) pss_nil)))))
    (pss_one (ps_ret pe_bl))), ?_⟩
  · rintro S ⟨I, J, ins, out⟩ ⟨sa, es, ns, R, he, hr', h1, h2, h3⟩
    dsimp only at h2 ⊢
    subst h2
    rfl
  · rintro S ⟨I, J, ins, out⟩ ⟨sa, es, ns, R, he, hr', h1, h2, h3⟩
    dsimp only at h1 h2 h3
    subst h1 h2 h3
    refine (gs_forKS (fun _ : Unit => [some (Sys K sa es R), none, none, none, none, none]) (fun _ => J) (fun i _ => ∀ (j : Nat) (r : Str × S3), R[j]? = some r → j < i → soundAt es R r.1 r.2 = true) () (dsrc_fld rfl T.c_System T.na_System_rows rfl) okK_le (dit_items (K := K)) (fun j r _ h => absurd h (Nat.not_lt_zero j)) (.s (.s (.s (.s (.s (.s .nil)))))) (fun _ h => h) (Rk_le fun a z => z) (fun i ψ b hψ hg => ?_) fun b hg => gs_retD (ge_bl (K := K)) rfl ?_)
    · obtain ⟨r, hr2, rfl⟩ := items_at hψ
      refine ⟨_, _, gg_tup (gg_cons gg_name (gg_cons (gg_tupD (gg_cons gg_name (gg_cons gg_name (gg_cons gg_name gg_nil))) rfl) gg_nil)) rfl, ?_⟩
      have hm := List.mem_of_getElem? hr2
      have hro := hr'.rowAt he hm
      have hA := hr'.some hm
      refine gs_ifs (gt_val (K := K) (ge_op (ge_var rfl) (ge_tupS3 (ga_cons (ge_str (K := K)) (ga_cons (ge_str (K := K)) (ga_cons (ge_str (K := K)) ga_nil)))) gr_inS)) (fun b1 => gs_retDS (ge_bl (K := K)) rfl ?_) (fun b1 => gs_nextS ?_)
      · exact congrArg PyData.bool (Eq.symm (all_not hr2 (by unfold soundAt; rw [b1]; rfl)))
      · refine gs_if (gt_val (K := K) (ge_op (ge_var rfl) (ge_str (K := K)) gr_eqS)) (fun b2 => ?_) (fun b2 => gs_turn () gs_next ?_ (.s (.n (.n (.n (.n (.n .nil)))))) (fun _ h => h))
        · have hB : (findE es r.1 (rowAt R r.1).ver).isSome = true := hr'.found hA (by rw [hro, of_decide_eq_true b2]; decide +kernel)
          have hC : (edIn es R r.1).wants.length ≤ 10 := (he.few2 _ (findE_mem hB).1).1
          refine gs_seq (gs_set (ge_call (ga_cons (ge_var rfl) (ga_cons (ge_var rfl) ga_nil)) ⟨_, _, _, _, by assumption, by assumption, rfl, rfl, rfl⟩)) ?_
          refine gs_if (gt_or (gt_valB (K := K) (ge_notN (ge_call (ga_cons (ge_var rfl) (ga_cons (ge_fld (ge_var rfl) T.c_Edition T.na_Edition_wants rfl) ga_nil)) ⟨_, _, _, _, by assumption, rfl, rfl, rfl⟩) (fun _ _ _ p => p))) fun _ => (gt_valB (K := K) (ge_notN (ge_call (ga_cons (ge_var rfl) (ga_cons (ge_var rfl) ga_nil)) ⟨_, _, _, _, _, by assumption, by assumption, rfl, rfl, rfl⟩) (fun _ _ _ p => p)))) (fun b3 => gs_retD (ge_bl (K := K)) rfl ?_) (fun b3 => gs_turn () gs_next ?_ (.s (.n (.n (.n (.n (.n .nil)))))) (fun _ h => h))
          · refine congrArg PyData.bool (Eq.symm (all_not hr2 ?_))
            rw [Bool.not_not, Bool.not_not] at b3
            unfold soundAt
            rw [b1, b3, show decide (r.2.st = sRe) = true from b2]
            rfl
          · intro j q hq hj
            by_cases e : j = i
            · subst e
              rw [hr2] at hq
              cases hq
              rw [Bool.not_not, Bool.not_not] at b3
              unfold soundAt
              rw [b1, b3]
              simp
            · exact hg j q hq (by omega)
        · intro j q hq hj
          by_cases e : j = i
          · subst e
            rw [hr2] at hq
            cases hq
            unfold soundAt
            rw [b1, show decide (r.2.st = sRe) = false from b2]
            rfl
          · exact hg j q hq (by omega)
    · refine congrArg PyData.bool (Eq.symm (all_take fun j r hj hl => hg j r hj ?_))
      rw [List.length_map, List.length_map]
      exact hl
-- slots: 0=system 1=name 2=status 3=version 4=done 5=edition  uses: ['edition_in', 'hostile', 'lacking']

end
end Hs
set_option Elab.async false
set_option linter.all false
set_option maxRecDepth 100000
set_option maxHeartbeats 4000000
namespace Hs
open PySem PySem.Spec PyProof.Rows L2 StX
section
variable {P : Program} {w : World} {K : PySem.W.Frag} {mg : Str → Option Value} {base : Heap}
abbrev N_law_step : List Str := ["_law_row", "_law_some_here", "_law_scene", "_law_here", "_law_count", "_law_kept", "_law_good", "_law_name", "_law_sort_of", "_law_deed", "_law_fails", "_law_later", "_law_calls", "_law_more", "_law_k"]
theorem sc_law_step : FnScope N_law_step ["_law_row", "_law_some_here", "_law_scene"] (defScope s_law_step) := ⟨rfl, rfl, rfl, by decide +kernel, rfl, by decide +kernel, by decide +kernel⟩
theorem ok_law_step (T : Tx K mg) : FnR P w K mg base CX0 9 (a_law_step K) (spC (ct_law_step K)) := by
  obtain ⟨fd, F⟩ := T.f_law_step
  have nd := sc_law_step.nd
  refine ok_of (He5.fun_of F) sc_law_step (F.bindsN fun _ _ _ _ _ _ us hl => match us, hl with | [_, _, _], _ => rfl) ?_ fun cdv A outer s H E hr => have hu := hu_of hr; have hu0 := hr.units0; ⟨_, (pss_cons (ps_asg (pv 2) (pg_tupK K rfl (pgs_cons (pg_name (i := 3) nd rfl (.inl rfl)) (pgs_cons (pg_name (i := 4) nd rfl (.inl rfl)) (pgs_cons (pg_name (i := 5) nd rfl (.inl rfl)) pgs_nil)))))
    (pss_cons (ps_par (by rfl) nd (i := 6) (j := 7) rfl rfl (by decide) rfl rfl (pa_cons (pe_callR (ok_law_deeds T) (hr.mono (by decide)) rfl T.g__law_deeds T.k__law_deeds pass0 (pa_cons (pv 1) (pa_cons (pe_propR (pv 3) T.c_System T.p_System_states (ok_System_states T) (hr.mono (by decide)) pass0) pa_nil))) (pa_cons (pe_callR (ok_law_pick T) (hr.mono (by decide)) rfl T.g__law_pick T.k__law_pick pass0 (pa_cons (pv 0) (pa_cons (pe_lst (pa_cons pe_str (pa_cons pe_str pa_nil))) pa_nil))) pa_nil)) (by rfl))
    (pss_cons (ps_set (i := 8) nd rfl (.inl rfl) (pe_callR (ok_taken T) (hr.mono (by decide)) rfl T.g__law_taken T.k__law_taken pass0 (pa_cons (pv 0) (pa_cons pe_int pa_nil))))
    (pss_cons (ps_if (PW.pt (pw_and (pt_cmpR op_lt (pv 8) pe_int (nomark _)) (pw_and1 (pt_cmpR (op_neE hu0) (pv 6) (pe_lst pa_nil) (nomark _))))) (pss_cons (ps_par (by rfl) nd (i := 9) (j := 10) rfl rfl (by decide) rfl rfl (pa_cons (pe_callR (ok_law_pick T) (hr.mono (by decide)) rfl T.g__law_pick T.k__law_pick pass0 (pa_cons (pv 0) (pa_cons (pv 6) pa_nil))) (pa_cons (pe_callTy call_tuple_of (by rfl) T.n_tuple (by decide +kernel) (pa_cons (pe_lc (own := [("_law_k", 14)]) (g := gName 14) (tt := _) rfl nd (pi_range1 rfl T.n_range (pa_cons pe_int pa_nil)) (blkOk_by (own := [("_law_k", 14)]) (N := N_law_step) (sc := defScope s_law_step) (by decide +kernel)) (fun _ _ _ _ _ => pg_name (i := 14) nd rfl (Or.inl rfl)) (fun _ _ _ _ _ => pts_one (pt_cmpR op_eq (pe_callR (ok_taken T) (hr.mono (by decide)) rfl T.g__law_taken T.k__law_taken pass0 (pa_cons (pv 0) (pa_cons pe_int pa_nil))) pe_int (nomark _))) (fun _ _ _ _ _ => (pv 14))) pa_nil)) pa_nil)) (by rfl))
    (pss_cons (ps_asg (pe_callR (ok_run T) (hr.mono (by decide)) rfl T.g_run T.k_run pass0 (pa_cons (pv 3) (pa_cons (pv 9) (pa_cons (pv 10) pa_nil)))) (pg_tupK K rfl (pgs_cons (pg_name (i := 11) nd rfl (.inl rfl)) (pgs_cons (pg_name (i := 12) nd rfl (.inl rfl)) pgs_nil))))
    (pss_one (ps_ret (pe_tup (pa_cons (pe_tup (pa_cons pe_str (pa_cons (pv 9) (pa_cons (pv 10) pa_nil)))) (pa_cons (pe_tup (pa_cons (pv 11) (pa_cons (pe_op op_add (pv 4) (pe_callB call_len_seq (by rfl) T.n_len PySem.boot_len (pa_cons (pv 12) pa_nil))) (pa_cons (pv 5) pa_nil)))) (pa_cons (pe_callB call_len_seq (by rfl) T.n_len PySem.boot_len (pa_cons (pv 12) pa_nil)) pa_nil)))))))) pss_nil)
    (pss_cons (ps_if (PW.pt (pw_and (pt_cmpR op_eq (pv 8) pe_int (nomark _)) (pw_and1 (pt_cmp (pc_din hu (pv 7) (pv 5)))))) (pss_one (ps_ret (pe_tup (pa_cons (pe_tup (pa_cons pe_str (pa_cons (pv 7) pa_nil))) (pa_cons (pe_tup (pa_cons (pe_dget hu (pv 5) (pv 7) (fun _ _ => rfl)) (pa_cons (pv 4) (pa_cons (pv 5) pa_nil)))) (pa_cons (pe_callR (ok_is_sound T) (hr.mono (by decide)) rfl T.g_is_sound T.k_is_sound pass0 (pa_cons (pe_dget hu (pv 5) (pv 7) (fun _ _ => rfl)) pa_nil)) pa_nil)))))) pss_nil)
    (pss_cons (ps_set (i := 13) nd rfl (.inl rfl) (pe_callTy call_dcopy (by rfl) T.n_dict (by decide +kernel) (pa_cons (pv 5) pa_nil)))
    (pss_cons (ps_dput hu (pv 13) (pv 7) (pv 3) rfl)
    (pss_one (ps_ret (pe_tup (pa_cons (pe_tup (pa_cons pe_str (pa_cons (pv 7) pa_nil))) (pa_cons (pe_tup (pa_cons (pv 3) (pa_cons (pv 4) (pa_cons (pv 13) pa_nil)))) (pa_cons (pe_cmp (pc_din hu (pv 7) (pv 5))) pa_nil))))))))))))), ?_⟩
  · rintro S ⟨I, J, ins, out⟩ ⟨r, sv, sc, sa, es, ns, s, hI, he, hns, hs, h1, h2, h3⟩
    dsimp only at h2 ⊢
    subst h2
    rfl
  · rintro S ⟨I, J, ins, out⟩ ⟨r, sv, sc, sa, es, ns, s, hI, he, hns, hs, h1, h2, h3⟩
    dsimp only at h1 h2 h3
    subst h1 h2 h3
    refine gs_seq (gs_asg (ge_var rfl) (gg_tup (gg_cons gg_name (gg_cons gg_name (gg_cons gg_name gg_nil))) rfl)) ?_
    refine gs_seq (gs_par (ga_cons (ge_call (ga_cons (ge_var rfl) (ga_cons (ge_prop (ge_var rfl) (ob_ins (m := "") rfl) ⟨sa, es, s.rows, rfl, rfl, rfl⟩) ga_nil)) ⟨es, ns, s.rows, he, hs.rows, hns, rfl, rfl, rfl⟩) (ga_cons (ge_call (ga_cons (ge_var rfl) (ga_cons (ge_lstD (K := K) (ga_cons (ge_str (K := K)) (ga_cons (ge_str (K := K)) ga_nil)) (.cons (.cons .nil)) (by show 2 ≤ 1000; decide)) ga_nil)) ⟨r, sv, sc, _, hI, by decide, by decide, rfl, rfl, rfl⟩) ga_nil))) ?_
    refine gs_opn 6 rfl fun ds hds => gs_opn 7 rfl fun d hd => ?_
    obtain ⟨n, hn, rfl⟩ : ∃ n : Str, n ∈ xyS ∧ d = .str n := by
      have hd : d ∈ xyS.map PyData.str := hd
      obtain ⟨n, h1, h2⟩ := List.mem_map.mp hd
      exact ⟨n, h1, h2.symm⟩
    refine GS.pre (Δ := [some (RowV K r sv sc), none, none, some (Sys K sa es s.rows), some (Is K (.int s.cnt)), some (Dct (shelfF K sa es s.shelf)), some (Is K (.list (ds.map Deed.d))), some (Is K (.str n)), none, none, none, none, none, none, none]) (J := J) ?_ (.s (.n (.n (.s (.s (.s (.s (.s (.n (.n (.n (.n (.n (.n (.n .nil))))))))))))))) (fun _ h => h)
    refine gs_seqX (gs_setX (ge_call (ga_cons (ge_var rfl) (ga_cons (ge_int (K := K)) ga_nil)) ⟨r, sv, sc, 5, hI, by decide, by decide, rfl, rfl, rfl⟩)) fun k hk => ?_
    refine gs_ifs (gt_and (gt_val (K := K) (ge_op (ge_var rfl) (ge_int (K := K)) gr_lt)) fun _ => gt_val (K := K) (ge_op (ge_var rfl) (ge_lstD (K := K) ga_nil .nil (by show 0 ≤ 1000; decide)) gr_neED)) (fun b1 => ?_) (fun b1 => gs_nextS ?_)
    · have hpos : 0 < ds.length := by
        cases ds with
        | nil => simp at b1
        | cons a b => exact Nat.succ_pos _
      refine gs_assoc (gs_seq (gs_par (ga_cons (ge_call (ga_cons (ge_var rfl) (ga_cons (ge_var rfl) ga_nil)) ⟨r, sv, sc, _, hI, by rw [List.length_map]; exact hpos, by rw [List.length_map]; have := hds.1; omega, rfl, rfl, rfl⟩) (ga_cons (ge_cb (ga_cons (ge_lcX (K := K) (List.range 4) (fun i => Is K (.int (i : Nat))) (fun (x : Nat) d => d = .int (x : Nat)) (gi_range (n := 4) (by omega) (ga_cons (ge_int (K := K)) ga_nil)) (by decide) fun y S' I' ext hy => ⟨_, _, (fun _ h => h), gg_name, _, gt_someEq (ge_call (ga_cons (ge_var rfl) (ga_cons (ge_int (K := K)) ga_nil)) ⟨r, sv, sc, 4, hI.ext ext, by decide, by decide, rfl, rfl, rfl⟩), fun _ => (ge_var rfl).wk fun v H _ p => ⟨_, rfl, p⟩⟩) ga_nil) gc_tupleLX) ga_nil))) ?_)
      refine gs_assoc (gs_opn 9 rfl fun d1 hd1 => gs_opn (P := Picks (fun (x : Nat) d => d = PyData.int (x : Nat)) (List.range 4)) (φ := fun ds => Is K (.tuple ds)) 10 rfl fun fs hfs => ?_)
      obtain ⟨d, hdm, rfl⟩ := List.mem_map.mp hd1
      obtain ⟨fails, rfl, hfl⟩ := picks_range hfs
      obtain ⟨ha, hdn⟩ := hds.2 d hdm
      refine GS.pre (Δ := [none, none, none, some (Sys K sa es s.rows), some (Is K (.int s.cnt)), some (Dct (shelfF K sa es s.shelf)), none, none, none, some (Is K d.d), some (Is K (.tuple (fails.map .int))), none, none, none, none]) (J := J) ?_ (.n (.n (.n (.s (.s (.s (.n (.n (.n (.s (.s (.n (.n (.n (.n .nil))))))))))))))) (fun _ h => h)
      refine gs_seq (gs_asg (ge_call (ga_cons (ge_var rfl) (ga_cons (ge_var rfl) (ga_cons (ge_var rfl) ga_nil))) ⟨sa, es, ns, _, d, fails, he, hs.rows, ha, rfl, rfl, rfl⟩) (gg_tup (gg_cons gg_name (gg_cons gg_name gg_nil)) rfl)) ?_
      exact gs_retS (ge_tup (K := K) (ga_cons (ge_tupD (K := K) (ga_cons (ge_str (K := K)) (ga_cons (ge_var rfl) (ga_cons (ge_var rfl) ga_nil))) (.cons (.cons (.cons .nil))) (by show 3 ≤ 1000; decide)) (ga_cons (ge_tup (K := K) (ga_cons (ge_var rfl) (ga_cons (ge_op (ge_var rfl) (ge_cb (ga_cons (ge_var rfl) ga_nil) gc_lenLN) gr_add) (ga_cons (ge_var rfl) ga_nil))) (by show 3 ≤ 1000; decide)) (ga_cons (ge_cb (ga_cons (ge_var rfl) ga_nil) gc_lenLN) ga_nil))) (by show 3 ≤ 1000; decide)) fun v H j p => ⟨⟨.act d fails, ⟨ha, hdn, by omega⟩, p⟩, j⟩
    refine gs_ifs (gt_and (gt_val (K := K) (ge_op (ge_var rfl) (ge_int (K := K)) gr_eqI)) fun _ => gt_valB (K := K) (ge_sin (ge_var rfl) (ge_var rfl))) (fun b2 => ?_) (fun b2 => gs_nextS ?_)
    · have hl : (lk s.shelf n).isSome = true := (Bool.and_eq_true _ _ ▸ b2 : _ ∧ _).2
      exact gs_retS (ge_tup (K := K) (ga_cons (ge_tupD (K := K) (ga_cons (ge_str (K := K)) (ga_cons (ge_var rfl) ga_nil)) (.cons (.cons .nil)) (by show 2 ≤ 1000; decide)) (ga_cons (ge_tup (K := K) (ga_cons (ge_sget (ge_var rfl) (ge_var rfl) hl) (ga_cons (ge_var rfl) (ga_cons (ge_var rfl) ga_nil))) (by show 3 ≤ 1000; decide)) (ga_cons (ge_call (ga_cons (ge_sget (ge_var rfl) (ge_var rfl) hl) ga_nil) ⟨sa, es, ns, _, he, shelf_ok hs hl, rfl, rfl, rfl⟩) ga_nil))) (by show 3 ≤ 1000; decide)) fun v H j p => ⟨⟨.fetch n, ⟨hn, hl⟩, p⟩, j⟩
    refine gs_dcopy (ga_cons (ge_var rfl) ga_nil) fun q nq => ?_
    refine gs_seq (gs_dkPut (K := K) (k := n) (ge_var rfl) (ge_var rfl) (ge_var rfl) (by rw [List.length_map]; have := hs.few; omega)) ?_
    refine gs_ret (ge_tup (K := K) (ga_cons (ge_tupD (K := K) (ga_cons (ge_str (K := K)) (ga_cons (ge_var rfl) ga_nil)) (.cons (.cons .nil)) (by show 2 ≤ 1000; decide)) (ga_cons (ge_tup (K := K) (ga_cons (ge_var rfl) (ga_cons (ge_var rfl) (ga_cons (ge_var rfl) ga_nil))) (by show 3 ≤ 1000; decide)) (ga_cons (ge_sin (ge_var rfl) (ge_var rfl)) ga_nil))) (by show 3 ≤ 1000; decide)) fun v H j p => ⟨⟨.store n, hn, ?_⟩, dk_wk j⟩
    obtain ⟨x, xs, rfl, h1, v1, _, rfl, k1, v2, _, rfl, k2, v3, _, rfl, k3, rfl⟩ := p
    have sub : ∀ p, S p → SU S q p ∨ H p = none := fun p z => .inl (.inl z)
    have k4 := scn_out nq k2 j
    rw [shelf_put] at k4
    exact ⟨x, _, rfl, h1.lift sub, v1, _, rfl, (Is K _).lift sub k1, v2, _, rfl, k4, v3, _, rfl, (Is K _).lift sub k3, rfl⟩
    all_goals skip
-- slots: 0=_law_row 1=_law_some_here 2=_law_scene 3=_law_here 4=_law_count 5=_law_kept 6=_law_good 7=_law_name 8=_law_sort_of 9=_law_deed 10=_law_fails 11=_law_later 12=_law_calls 13=_law_more 14=_law_k  uses: ['_law_deeds', 'System.states', '_law_pick', '_law_taken', 'run', 'is_sound']

end
end Hs
set_option Elab.async false
set_option linter.all false
set_option maxRecDepth 100000
set_option maxHeartbeats 4000000
namespace Hs
open PySem PySem.Spec PyProof.Rows L2 StX
section
variable {P : Program} {w : World} {K : PySem.W.Frag} {mg : Str → Option Value} {base : Heap}
abbrev N_is_operation : List Str := ["value"]
theorem sc_is_operation : FnScope N_is_operation ["value"] (defScope s_is_operation) := ⟨rfl, rfl, rfl, by decide +kernel, rfl, by decide +kernel, by decide +kernel⟩
theorem ok_is_operation (T : Tz w K mg) : FnR P w K mg base CX0 1 (a_is_operation K) (spC (ct_is_operation K)) := by
  obtain ⟨fd, F⟩ := T.f_is_operation
  have nd := sc_is_operation.nd
  refine ok_of (He5.fun_of F) sc_is_operation (F.bindsN fun _ _ _ _ _ _ us hl => match us, hl with | [_], _ => rfl) ?_ fun cdv A outer s H E hr => have hu := hu_of hr; have hu0 := hr.units0; ⟨_, (pss_cons (ps_if (PW.pt (pw_or (pt_not (pt_val (pe_callB call_isi (by rfl) T.n_isinstance (by decide +kernel) (pa_cons (pv 0) (pa_cons (pe_bltn (v := .ty "tuple") rfl T.n_tuple (by decide +kernel) rfl) pa_nil))))) (pw_or (pt_cmpR (op_eqE hu0) (pv 0) (pe_tup pa_nil) (nomark _)) (pw_or1 (pt_not (pt_val (pe_callB call_isi (by rfl) T.n_isinstance (by decide +kernel) (pa_cons (pe_ix (ix_tupK K) (pv 0) pe_int (fun _ _ => rfl)) (pa_cons (pe_bltn (v := .ty "str") rfl T.n_str (by decide +kernel) rfl) pa_nil))))))))) (pss_one (ps_ret pe_bl)) pss_nil)
    (pss_one (ps_ret (pe_cmpR op_eq (pe_kget2K K (pe_glob (v := .ref _) rfl T.g_SIZES rfl) (pe_ix (ix_tupK K) (pv 0) pe_int (fun _ _ => rfl)) pe_int ⟨rfl, rfl, rfl, rfl⟩) (pe_callB call_len_seq (by rfl) T.n_len PySem.boot_len (pa_cons (pv 0) pa_nil)) (nomark _))))), ?_⟩
  · rintro S ⟨I, J, ins, out⟩ ⟨op, h1, h2, h3⟩
    dsimp only at h2 ⊢
    subst h2
    rfl
  · rintro S ⟨I, J, ins, out⟩ ⟨op, h1, h2, h3⟩
    dsimp only at h1 h2 h3
    subst h1 h2 h3
    cases op with
    | act d fails =>
      refine gs_ifs (GT.to (gt_or (gt_notB (gt_valB (K := K) (ge_cb (ga_cons (ge_var rfl) (ga_cons ge_ty ga_nil)) gc_isiTD))) fun _ => gt_or (gt_val (K := K) (ge_op (ge_var rfl) (ge_tupD (K := K) ga_nil .nil (by show 0 ≤ 1000; decide)) gr_eqED)) fun _ => gt_notB (gt_valB (K := K) (ge_cb (ga_cons (ge_op (ge_var rfl) (ge_int (K := K)) (gr_ixD (by decide) rfl)) (ga_cons ge_ty ga_nil)) gc_isiStr))) rfl) (fun b1 => Bool.noConfusion b1) (fun _ => gs_nextS ?_)
      exact gs_retD (ge_op (ge_kget2 T.sz_act T.sz_low (ge_c (φ := Eqv (.ref (He.ga K "SIZES"))) fun _ => rfl) (ge_op (ge_var rfl) (ge_int (K := K)) (gr_ixD (by decide) rfl)) (ge_int (K := K))) (ge_cb (ga_cons (ge_var rfl) ga_nil) gc_lenTD) gr_eqI) rfl rfl
    | store n =>
      refine gs_ifs (GT.to (gt_or (gt_notB (gt_valB (K := K) (ge_cb (ga_cons (ge_var rfl) (ga_cons ge_ty ga_nil)) gc_isiTD))) fun _ => gt_or (gt_val (K := K) (ge_op (ge_var rfl) (ge_tupD (K := K) ga_nil .nil (by show 0 ≤ 1000; decide)) gr_eqED)) fun _ => gt_notB (gt_valB (K := K) (ge_cb (ga_cons (ge_op (ge_var rfl) (ge_int (K := K)) (gr_ixD (by decide) rfl)) (ga_cons ge_ty ga_nil)) gc_isiStr))) rfl) (fun b1 => Bool.noConfusion b1) (fun _ => gs_nextS ?_)
      exact gs_retD (ge_op (ge_kget2 T.sz_store T.sz_low (ge_c (φ := Eqv (.ref (He.ga K "SIZES"))) fun _ => rfl) (ge_op (ge_var rfl) (ge_int (K := K)) (gr_ixD (by decide) rfl)) (ge_int (K := K))) (ge_cb (ga_cons (ge_var rfl) ga_nil) gc_lenTD) gr_eqI) rfl rfl
    | fetch n =>
      refine gs_ifs (GT.to (gt_or (gt_notB (gt_valB (K := K) (ge_cb (ga_cons (ge_var rfl) (ga_cons ge_ty ga_nil)) gc_isiTD))) fun _ => gt_or (gt_val (K := K) (ge_op (ge_var rfl) (ge_tupD (K := K) ga_nil .nil (by show 0 ≤ 1000; decide)) gr_eqED)) fun _ => gt_notB (gt_valB (K := K) (ge_cb (ga_cons (ge_op (ge_var rfl) (ge_int (K := K)) (gr_ixD (by decide) rfl)) (ga_cons ge_ty ga_nil)) gc_isiStr))) rfl) (fun b1 => Bool.noConfusion b1) (fun _ => gs_nextS ?_)
      exact gs_retD (ge_op (ge_kget2 T.sz_fetch T.sz_low (ge_c (φ := Eqv (.ref (He.ga K "SIZES"))) fun _ => rfl) (ge_op (ge_var rfl) (ge_int (K := K)) (gr_ixD (by decide) rfl)) (ge_int (K := K))) (ge_cb (ga_cons (ge_var rfl) ga_nil) gc_lenTD) gr_eqI) rfl rfl
    all_goals skip
-- slots: 0=value  uses: []

end
end Hs
set_option Elab.async false
set_option linter.all false
set_option maxRecDepth 100000
set_option maxHeartbeats 4000000
namespace Hs
open PySem PySem.Spec PyProof.Rows L2 StX
section
variable {P : Program} {w : World} {K : PySem.W.Frag} {mg : Str → Option Value} {base : Heap}
abbrev N_State_copied : List Str := ["self"]
theorem sc_State_copied : FnScope N_State_copied ["self"] (defScope s_State_copied) := ⟨rfl, rfl, rfl, by decide +kernel, rfl, by decide +kernel, by decide +kernel⟩
theorem ok_State_copied (T : Ty K mg) : FnR P w K mg base CX0 3 (a_State_copied K) (spCop K) := by
  obtain ⟨fd, F⟩ := T.f_State_copied
  have nd := sc_State_copied.nd
  have h : FnOk P w K mg base CX0 3 (a_State_copied K) fd ["self"] (spCop K) := (He5.fun_of F).ok sc_State_copied (fun vs H Q E hh => by obtain ⟨st, ds, v0, v1, v2, v3, v4, rfl, h1, h2, q⟩ := hh; rfl) fun cdv A outer s H vs Q E hr hsp => ⟨_, (pss_one (ps_ret (pe_makeR T.mk_State (ok_State_init T) (hr.mono (by decide)) rfl T.g_State pass0 (pa_cons (SlX.pe_methSl0 (pv 0) T.S T.m_State_all_three (ok_State_all_three T) (hr.mono (by decide)) pass0) (pa_cons (pe_slK K (pv 0) rfl) (pa_cons (pe_slK K (pv 0) rfl) pa_nil)))))), by
    obtain ⟨st, ds, v0, v1, v2, v3, v4, rfl, h1, h2, q⟩ := hsp
    obtain ⟨p1, s1⟩ := T.sl_past
    obtain ⟨p4, s4⟩ := T.sl_undone
    refine ⟨_, rfl, st, ds, _, rfl, sl_none h1 h2, st_all (E := E0) h1 h2 fun p H1 e1 ht => ?_⟩
    have k1 := e1 _ _ h1
    have k2 := e1 _ _ h2
    refine ⟨_, rfl, st, _, ds, p1, _, 1, v1, rfl, sl_none k1 k2, T.S, s1, rfl, _, rfl, st, _, ds, p4, _, 4, v4, rfl, sl_none k1 k2, T.S, s4, rfl, fun x dx hx hdx hne => ?_⟩
    have e2 : Same H1 (upd (upd H1 dx (.own x)) x (.ins (C_State K) dx [])) := fun a o ha => by rw [upd_ne (ne_of_none ha hx), upd_ne (ne_of_none ha hdx)]; exact ha
    refine ⟨x, p, v1, v4, v2, v0, v3, dx, rfl, upd_same, hne, sqt_same e2 ht, fun H' hk hx' hdx' => ⟨rfl, q H' x dx (none_same e1 hx) (none_same e1 hdx) hne (fun a o ha => ?_) hx' hdx'⟩⟩
    rw [hk a (ne_of_none (e1 a o ha) hx) (ne_of_none (e1 a o ha) hdx)]
    exact e2 a o (e1 a o ha)⟩
  exact (h.raw (F.bindsN fun _ _ _ _ _ _ us hl => match us, hl with | [_], _ => rfl) .nil).imp fun vs H Q E q => by rw [List.append_nil]; exact q
-- slots: 0=self  uses: ['State.__init__', 'State.all_three']

end
end Hs
set_option Elab.async false
set_option linter.all false
set_option maxRecDepth 100000
set_option maxHeartbeats 4000000
namespace Hs
open PySem PySem.Spec PyProof.Rows L2 StX
section
variable {P : Program} {w : World} {K : PySem.W.Frag} {mg : Str → Option Value} {base : Heap}
abbrev N_Trial_enter : List Str := ["self"]
theorem sc_Trial_enter : FnScope N_Trial_enter ["self"] (defScope s_Trial_enter) := ⟨rfl, rfl, rfl, by decide +kernel, rfl, by decide +kernel, by decide +kernel⟩
theorem ok_Trial_enter (T : Ty K mg) : FnR P w K mg base CX0 4 (a_Trial_enter K) (spTrE K) := by
  obtain ⟨fd, F⟩ := T.f_Trial_enter
  have nd := sc_Trial_enter.nd
  have h : FnOk P w K mg base CX0 4 (a_Trial_enter K) fd ["self"] (spTrE K) := (He5.fun_of F).ok sc_Trial_enter (fun vs H Q E hh => by obtain ⟨x, dx, dk, dxd, st, ds, b, c, d, v0, v1, v2, v3, v4, rfl, hx, hd, hxd, h1, h2, q⟩ := hh; rfl) fun cdv A outer s H vs Q E hr hsp => ⟨_, (pss_cons (ps_fld (pv 0) (pe_fldK K (pe_fldK K (pv 0) rfl) rfl) rfl)
    (pss_cons (ps_fld (pv 0) (SlX.pe_methSl0 (pe_fldK K (pv 0) rfl) T.S T.m_State_copied (ok_State_copied T) (hr.mono (by decide)) pass0) rfl)
    (pss_cons (ps_fld (pv 0) (SlX.pe_methSl0 (pe_fldK K (pv 0) rfl) T.S T.m_State_copied (ok_State_copied T) (hr.mono (by decide)) pass0) rfl)
    (pss_cons (ps_fld (pe_fldK K (pv 0) rfl) (pe_fldK K (pv 0) rfl) rfl)
    (pss_one (ps_ret (pv 0))))))), by
    obtain ⟨x, dx, dk, dxd, st, ds, b, c, d, v0, v1, v2, v3, v4, rfl, hx, hd, hxd, h1, h2, q⟩ := hsp
    have nx : st ≠ x := fun z => by
      rw [z, hx] at h1
      exact ins_slO (Option.some.inj h1)
    have nx2 : ds ≠ x := fun z => by
      rw [z, hx] at h2
      cases h2
    have nd1 : st ≠ dk := fun z => by
      rw [z, hd] at h1
      exact ins_slO (Option.some.inj h1)
    have nd2 : ds ≠ dk := fun z => by
      rw [z, hd] at h2
      cases h2
    refine ⟨_, rfl, x, _, dx, _, _, rfl, hx, T.c_Trial, T.na_Trial_tested_desk, rfl, dk, _, dxd, _, .ref st, rfl, hd, T.c_Desk, T.na_Desk_state, rfl, _, rfl, x, _, dx, _, rfl, hx, T.c_Trial, T.na_Trial_origin, by show 4 < 1000; decide, ?_⟩
    rw [show putF "origin" (V.ref st) (trF (.ref dk) b c d) = trF (.ref dk) (.ref st) c d from rfl]
    refine ⟨_, rfl, x, _, dx, _, .ref st, rfl, upd_same, T.c_Trial, T.na_Trial_origin, rfl, st, ds, _, rfl, sl_none (by rw [upd_ne nx]; exact h1) (by rw [upd_ne nx2]; exact h2), st, ds, v0, v1, v2, v3, v4, rfl, by rw [upd_ne nx]; exact h1, by rw [upd_ne nx2]; exact h2, fun H1 s1 d1 m1 m2 m3 e1 k1 k2 => ?_⟩
    have hx1 := e1 _ _ (upd_same (H := H) (a := x) (o := .ins (C_Trial K) dx (trF (.ref dk) (.ref st) c d)))
    refine ⟨_, rfl, x, _, dx, _, rfl, hx1, T.c_Trial, T.na_Trial_chosen, by show 4 < 1000; decide, ?_⟩
    rw [show putF "chosen" (V.ref s1) (trF (.ref dk) (.ref st) c d) = trF (.ref dk) (.ref st) c (.ref s1) from rfl]
    have g1 : H1 st = some (slO K st ds [v0, v1, v2, v3, v4]) := e1 _ _ (by rw [upd_ne nx]; exact h1)
    have g2 : H1 ds = some (.xd []) := e1 _ _ (by rw [upd_ne nx2]; exact h2)
    refine ⟨_, rfl, x, _, dx, _, .ref st, rfl, upd_same, T.c_Trial, T.na_Trial_origin, rfl, st, ds, _, rfl, sl_none (by rw [upd_ne nx]; exact g1) (by rw [upd_ne nx2]; exact g2), st, ds, v0, v1, v2, v3, v4, rfl, by rw [upd_ne nx]; exact g1, by rw [upd_ne nx2]; exact g2, fun H2 s2 d2 n1 n2 n3 e2 k3 k4 => ?_⟩
    have hx2 := e2 _ _ (upd_same (H := H1) (a := x) (o := .ins (C_Trial K) dx (trF (.ref dk) (.ref st) c (.ref s1))))
    refine ⟨_, rfl, x, _, dx, _, rfl, hx2, T.c_Trial, T.na_Trial_fresh, by show 4 < 1000; decide, ?_⟩
    rw [show putF "fresh" (V.ref s2) (trF (.ref dk) (.ref st) c (.ref s1)) = trF (.ref dk) (.ref st) (.ref s2) (.ref s1) from rfl]
    have up : ∀ a o, a ≠ x → H a = some o → H2 a = some o := fun a o na ha => e2 a o (by rw [upd_ne na]; exact e1 a o (by rw [upd_ne na]; exact ha))
    have hdx : dk ≠ x := Ne.symm hxd
    refine ⟨_, rfl, x, _, dx, _, .ref s2, rfl, upd_same, T.c_Trial, T.na_Trial_fresh, rfl, _, rfl, x, _, dx, _, .ref dk, rfl, upd_same, T.c_Trial, T.na_Trial_tested_desk, rfl, dk, _, dxd, _, rfl, by rw [upd_ne hdx]; exact up dk _ hdx hd, T.c_Desk, T.na_Desk_state, by show 1 < 1000; decide, ?_⟩
    obtain ⟨z1, x1⟩ := upd_none m1
    obtain ⟨z2, x2⟩ := upd_none m2
    obtain ⟨y3, x3⟩ := upd_none n1
    obtain ⟨y4, x4⟩ := upd_none n2
    obtain ⟨z3, _⟩ := upd_none (none_same e1 y3)
    obtain ⟨z4, _⟩ := upd_none (none_same e1 y4)
    have b1 : (upd H1 x (.ins (C_Trial K) dx (trF (.ref dk) (.ref st) c (.ref s1)))) s1 = some (slO K s1 d1 [v0, v1, v2, v3, v4]) := by rw [upd_ne x1]; exact k1
    have b2 : (upd H1 x (.ins (C_Trial K) dx (trF (.ref dk) (.ref st) c (.ref s1)))) d1 = some (.xd []) := by rw [upd_ne x2]; exact k2
    refine ⟨_, rfl, q _ s1 d1 s2 d2 z1 z2 z3 z4 m3 n3 (ne_of_none b1 n1) (ne_of_none b1 n2) (ne_of_none b2 n1) (ne_of_none b2 n2) (fun a o na nd ha => ?_) ?_ upd_same ?_ ?_ ?_ ?_⟩
    · rw [upd_ne nd, upd_ne na]
      exact up a o na ha
    · rw [upd_ne hxd, upd_same]
    · rw [upd_ne (Ne.symm (ne_of_none hd z1)), upd_ne x1]
      exact e2 _ _ b1
    · rw [upd_ne (Ne.symm (ne_of_none hd z2)), upd_ne x2]
      exact e2 _ _ b2
    · rw [upd_ne (Ne.symm (ne_of_none hd z3)), upd_ne x3]
      exact k3
    · rw [upd_ne (Ne.symm (ne_of_none hd z4)), upd_ne x4]
      exact k4⟩
  exact (h.raw (F.bindsN fun _ _ _ _ _ _ us hl => match us, hl with | [_], _ => rfl) .nil).imp fun vs H Q E q => by rw [List.append_nil]; exact q
-- slots: 0=self  uses: ['State.copied']

end
end Hs
set_option Elab.async false
set_option linter.all false
set_option maxRecDepth 100000
set_option maxHeartbeats 4000000
namespace Hs
open PySem PySem.Spec PyProof.Rows L2 StX
section
variable {P : Program} {w : World} {K : PySem.W.Frag} {mg : Str → Option Value} {base : Heap}
abbrev N_Trial_exit : List Str := ["self", "kind", "error", "trace"]
theorem sc_Trial_exit : FnScope N_Trial_exit ["self", "kind", "error", "trace"] (defScope s_Trial_exit) := ⟨rfl, rfl, rfl, by decide +kernel, rfl, by decide +kernel, by decide +kernel⟩
theorem ok_Trial_exit (T : Ty K mg) : FnR P w K mg base CX0 1 (a_Trial_exit K) (spTrX K) := by
  obtain ⟨fd, F⟩ := T.f_Trial_exit
  have nd := sc_Trial_exit.nd
  have h : FnOk P w K mg base CX0 1 (a_Trial_exit K) fd ["self", "kind", "error", "trace"] (spTrX K) := (He5.fun_of F).ok sc_Trial_exit (fun vs H Q E hh => by obtain ⟨x, dx, dk, dxd, st, ds, ch, dc, c, s', v0, v1, v2, v3, v4, u0, u1, u2, u3, u4, rfl, hx, hd, hxd, h1, h2, h3, h4, n1, n2, q⟩ := hh; rfl) fun cdv A outer s H vs Q E hr hsp => ⟨_, (pss_cons (ps_slK K (pe_fldK K (pv 0) rfl) (pe_slK K (pe_fldK K (pv 0) rfl) rfl) rfl)
    (pss_cons (ps_slK K (pe_fldK K (pv 0) rfl) (pe_slK K (pe_fldK K (pv 0) rfl) rfl) rfl)
    (pss_cons (ps_slK K (pe_fldK K (pv 0) rfl) (pe_slK K (pe_fldK K (pv 0) rfl) rfl) rfl)
    (pss_cons (ps_slK K (pe_fldK K (pv 0) rfl) (pe_slK K (pe_fldK K (pv 0) rfl) rfl) rfl)
    (pss_cons (ps_slK K (pe_fldK K (pv 0) rfl) (pe_slK K (pe_fldK K (pv 0) rfl) rfl) rfl)
    (pss_one (ps_fld (pe_fldK K (pv 0) rfl) (pe_fldK K (pv 0) rfl) rfl))))))), by
    obtain ⟨x, dx, dk, dxd, st, ds, ch, dc, c, s', v0, v1, v2, v3, v4, u0, u1, u2, u3, u4, rfl, hx, hd, hxd, h1, h2, h3, h4, n1, n2, q⟩ := hsp
    obtain ⟨p0, s0⟩ := T.sl_count
    obtain ⟨p1, s1⟩ := T.sl_past
    obtain ⟨p2, s2⟩ := T.sl_present
    obtain ⟨p3, s3⟩ := T.sl_shelf
    obtain ⟨p4, s4⟩ := T.sl_undone
    have hne : ds ≠ st := fun z => by
      rw [z, h1] at h2
      exact slO_xd (Option.some.inj h2)
    have nx : x ≠ st := fun z => by
      rw [← z, hx] at h1
      exact ins_slO (Option.some.inj h1)
    have nx2 : x ≠ ds := fun z => by
      rw [← z, hx] at h2
      cases h2
    have nd1 : dk ≠ st := fun z => by
      rw [← z, hd] at h1
      exact ins_slO (Option.some.inj h1)
    have nd2 : dk ≠ ds := fun z => by
      rw [← z, hd] at h2
      cases h2
    have nc2 : ch ≠ ds := fun z => by
      rw [z, h2] at h3
      exact slO_xd (Option.some.inj h3).symm
    have nc3 : dc ≠ st := fun z => by
      rw [z, h1] at h4
      exact slO_xd (Option.some.inj h4)
    have gx : ∀ vs, SlX.slH H st (C_State K) ds vs x = some (.ins (C_Trial K) dx (trF (.ref dk) (.ref st) c (.ref ch))) := fun vs => by rw [SlX.slH_ne nx nx2]; exact hx
    have gc : ∀ vs, SlX.slH H st (C_State K) ds vs ch = some (slO K ch dc [u0, u1, u2, u3, u4]) := fun vs => by rw [SlX.slH_ne n1 nc2]; exact h3
    have gd : ∀ vs, SlX.slH H st (C_State K) ds vs dc = some (.xd []) := fun vs => by rw [SlX.slH_ne nc3 n2]; exact h4
    refine ⟨_, rfl, x, _, dx, _, .ref ch, rfl, hx, T.c_Trial, T.na_Trial_chosen, rfl, ch, _, dc, p2, _, 2, u2, rfl, sl_none h3 h4, T.S, s2, rfl, _, rfl, x, _, dx, _, .ref st, rfl, hx, T.c_Trial, T.na_Trial_origin, rfl, st, _, ds, p2, _, 2, rfl, (sl_none h1 h2), T.S, s2, ?_⟩
    refine ⟨_, rfl, x, _, dx, _, .ref ch, rfl, (gx _), T.c_Trial, T.na_Trial_chosen, rfl, ch, _, dc, p0, _, 0, u0, rfl, sl_none (gc _) (gd _), T.S, s0, rfl, _, rfl, x, _, dx, _, .ref st, rfl, (gx _), T.c_Trial, T.na_Trial_origin, rfl, st, _, ds, p0, _, 0, rfl, (SlX.slH_slt hne), T.S, s0, ?_⟩
    rw [SlX.slH_twice hne]
    refine ⟨_, rfl, x, _, dx, _, .ref ch, rfl, (gx _), T.c_Trial, T.na_Trial_chosen, rfl, ch, _, dc, p3, _, 3, u3, rfl, sl_none (gc _) (gd _), T.S, s3, rfl, _, rfl, x, _, dx, _, .ref st, rfl, (gx _), T.c_Trial, T.na_Trial_origin, rfl, st, _, ds, p3, _, 3, rfl, (SlX.slH_slt hne), T.S, s3, ?_⟩
    rw [SlX.slH_twice hne]
    refine ⟨_, rfl, x, _, dx, _, .ref ch, rfl, (gx _), T.c_Trial, T.na_Trial_chosen, rfl, ch, _, dc, p1, _, 1, u1, rfl, sl_none (gc _) (gd _), T.S, s1, rfl, _, rfl, x, _, dx, _, .ref st, rfl, (gx _), T.c_Trial, T.na_Trial_origin, rfl, st, _, ds, p1, _, 1, rfl, (SlX.slH_slt hne), T.S, s1, ?_⟩
    rw [SlX.slH_twice hne]
    refine ⟨_, rfl, x, _, dx, _, .ref ch, rfl, (gx _), T.c_Trial, T.na_Trial_chosen, rfl, ch, _, dc, p4, _, 4, u4, rfl, sl_none (gc _) (gd _), T.S, s4, rfl, _, rfl, x, _, dx, _, .ref st, rfl, (gx _), T.c_Trial, T.na_Trial_origin, rfl, st, _, ds, p4, _, 4, rfl, (SlX.slH_slt hne), T.S, s4, ?_⟩
    rw [SlX.slH_twice hne]
    rw [puts5]
    refine ⟨_, rfl, x, _, dx, _, .ref st, rfl, gx _, T.c_Trial, T.na_Trial_origin, rfl, _, rfl, x, _, dx, _, .ref dk, rfl, gx _, T.c_Trial, T.na_Trial_tested_desk, rfl, dk, _, dxd, _, rfl, by rw [SlX.slH_ne nd1 nd2]; exact hd, T.c_Desk, T.na_Desk_state, by show 1 < 1000; decide, ?_⟩
    refine q _ (fun a h1 h2 h3 => ?_) ?_ ?_ upd_same
    · rw [upd_ne h3, SlX.slH_ne h1 h2]
    · exact (upd_ne (Ne.symm nd1)).trans upd_same
    · exact (upd_ne (Ne.symm nd2)).trans ((upd_ne hne).trans upd_same)⟩
  exact (h.raw (F.bindsN fun _ _ _ _ _ _ us hl => match us, hl with | [_, _, _, _], _ => rfl) .nil).imp fun vs H Q E q => by rw [List.append_nil]; exact q
-- slots: 0=self 1=kind 2=error 3=trace  uses: []

end
end Hs
set_option Elab.async false
set_option linter.all false
set_option maxRecDepth 100000
set_option maxHeartbeats 4000000
namespace Hs
open PySem PySem.Spec PyProof.Rows L2 StX
section
variable {P : Program} {w : World} {K : PySem.W.Frag} {mg : Str → Option Value} {base : Heap}
abbrev N_Trial_init : List Str := ["self", "desk"]
theorem sc_Trial_init : FnScope N_Trial_init ["self", "desk"] (defScope s_Trial_init) := ⟨rfl, rfl, rfl, by decide +kernel, rfl, by decide +kernel, by decide +kernel⟩
theorem ok_Trial_init (T : Ty K mg) : FnR P w K mg base CX0 1 (a_Trial_init K) (spTrI K) := by
  obtain ⟨fd, F⟩ := T.f_Trial_init
  have nd := sc_Trial_init.nd
  have h : FnOk P w K mg base CX0 1 (a_Trial_init K) fd ["self", "desk"] (spTrI K) := (He5.fun_of F).ok sc_Trial_init (fun vs H Q E hh => by obtain ⟨x, dx, dk, dxd, st, rfl, hx, hd, q⟩ := hh; rfl) fun cdv A outer s H vs Q E hr hsp => ⟨_, (pss_cons (ps_fld (pv 0) (pv 1) rfl)
    (pss_cons (ps_fld (pv 0) (pe_fldK K (pv 1) rfl) rfl)
    (pss_cons (ps_fld (pv 0) (pe_fldK K (pv 1) rfl) rfl)
    (pss_one (ps_fld (pv 0) (pe_fldK K (pv 1) rfl) rfl))))), by
    obtain ⟨x, dx, dk, dxd, st, rfl, hx, hd, q⟩ := hsp
    have hxd : dk ≠ x := fun z => by
      rw [z, hx] at hd
      exact nomatch (HO.ins.inj (Option.some.inj hd)).2.2
    have rd : ∀ fs, (upd H x (.ins (C_Trial K) dx fs)) dk = some (.ins (C_Desk K) dxd (dkF st)) := fun fs => by rw [upd_ne hxd]; exact hd
    refine ⟨_, rfl, _, rfl, x, _, dx, _, rfl, hx, T.c_Trial, T.na_Trial_tested_desk, by show 0 < 1000; decide, ?_⟩
    refine ⟨_, rfl, dk, _, dxd, _, .ref st, rfl, rd _, T.c_Desk, T.na_Desk_state, rfl, _, rfl, x, _, dx, _, rfl, upd_same, T.c_Trial, T.na_Trial_origin, by show 1 < 1000; decide, ?_⟩
    rw [upd_upd]
    refine ⟨_, rfl, dk, _, dxd, _, .ref st, rfl, rd _, T.c_Desk, T.na_Desk_state, rfl, _, rfl, x, _, dx, _, rfl, upd_same, T.c_Trial, T.na_Trial_fresh, by show 2 < 1000; decide, ?_⟩
    rw [upd_upd]
    refine ⟨_, rfl, dk, _, dxd, _, .ref st, rfl, rd _, T.c_Desk, T.na_Desk_state, rfl, _, rfl, x, _, dx, _, rfl, upd_same, T.c_Trial, T.na_Trial_chosen, by show 3 < 1000; decide, ?_⟩
    rw [upd_upd]
    exact q⟩
  exact (h.raw (F.bindsN fun _ _ _ _ _ _ us hl => match us, hl with | [_, _], _ => rfl) .nil).imp fun vs H Q E q => by rw [List.append_nil]; exact q
-- slots: 0=self 1=desk  uses: []

end
end Hs
set_option Elab.async false
set_option linter.all false
set_option maxRecDepth 100000
set_option maxHeartbeats 4000000
namespace Hs
open PySem PySem.Spec PyProof.Rows L2 StX
section
variable {P : Program} {w : World} {K : PySem.W.Frag} {mg : Str → Option Value} {base : Heap}
abbrev N_State_go_on : List Str := ["self", "operation", "whole"]
theorem sc_State_go_on : FnScope N_State_go_on ["self", "operation", "whole"] (defScope s_State_go_on) := ⟨rfl, rfl, rfl, by decide +kernel, rfl, by decide +kernel, by decide +kernel⟩
theorem ok_State_go_on (T : Ty K mg) : FnR P w K mg base CX0 2 (a_State_go_on K) (spC (ct_State_go_on K)) := by
  obtain ⟨fd, F⟩ := T.f_State_go_on
  have nd := sc_State_go_on.nd
  refine ok_of (He5.fun_of F) sc_State_go_on (F.bindsN fun _ _ _ _ _ _ us hl => match us, hl with | [_, _, _], _ => rfl) ?_ fun cdv A outer s H E hr => have hu := hu_of hr; have hu0 := hr.units0; ⟨_, (pss_cons (ps_slK K (pv 0) (pe_tup (pa_starK K (pe_slK K (pv 0) rfl) (pa_cons (pe_tup (pa_cons (pv 1) (pa_cons (SlX.pe_methSl0 (pv 0) T.S T.m_State_all_three (ok_State_all_three T) (hr.mono (by decide)) pass0) pa_nil))) pa_nil))) rfl)
    (pss_cons (ps_slK K (pv 0) (pe_tup pa_nil) rfl)
    (pss_one (ps_asg (pv 2) (pg_tupK K rfl (pgs_cons (pg_slotK K (pv 0)) (pgs_cons (pg_slotK K (pv 0)) (pgs_cons (pg_slotK K (pv 0)) pgs_nil)))))))), ?_⟩
  · rintro S ⟨I, J, ins, out⟩ ⟨st, ds, F, a, b, c, ps, v, op, a', b', c', hF, hz, h0, h1, h2, h3⟩
    dsimp only at h2 ⊢
    subst h2
    rfl
  · rintro S ⟨I, J, ins, out⟩ ⟨st, ds, F, a, b, c, ps, v, op, a', b', c', hF, hz, h0, h1, h2, h3⟩
    dsimp only at h0
    subst h0
    dsimp only at h1 h2 h3
    subst h1 h2 h3
    refine gs_seq (gs_slot hF (ge_tup (K := K) (ga_star (ge_slot hF (ge_var rfl) T.S T.sl_past rfl) (ga_cons (ge_tup (K := K) (ga_cons (ge_var rfl) (ga_cons (ge_methZ hF (ge_var rfl) ga_nil ⟨st, ds, F, _, _, _, _, _, hF, rfl, rfl, rfl, rfl⟩) ga_nil)) (by show 2 ≤ 1000; decide)) ga_nil)) (by rw [List.length_append]; show _ + 1 ≤ 1000; omega)) (ge_var rfl) T.S T.sl_past (by decide : 1 < 5)) ?_
    refine gs_seq (gs_slot hF (ge_tup (K := K) ga_nil (by show 0 ≤ 1000; decide)) (ge_var rfl) T.S T.sl_undone (by decide : 4 < 5)) ?_
    exact GS.wk (gs_slot3 hF (ge_var rfl) (fun _ => ge_var rfl) (fun _ => ge_var rfl) (fun _ => ge_var rfl) T.S T.sl_present T.sl_count T.sl_shelf (by decide : 2 < 5) (by decide : 0 < 5) (by decide : 3 < 5)) fun σ H h => ⟨.non, h.2⟩
    all_goals skip
-- slots: 0=self 1=operation 2=whole  uses: ['State.all_three']

end
end Hs
set_option Elab.async false
set_option linter.all false
set_option maxRecDepth 100000
set_option maxHeartbeats 4000000
namespace Hs
open PySem PySem.Spec PyProof.Rows L2 StX
section
variable {P : Program} {w : World} {K : PySem.W.Frag} {mg : Str → Option Value} {base : Heap}
abbrev N_Desk_act : List Str := ["self", "deed", "fails", "present", "count", "shelf", "later", "calls"]
theorem sc_Desk_act : FnScope N_Desk_act ["self", "deed", "fails"] (defScope s_Desk_act) := ⟨rfl, rfl, rfl, by decide +kernel, rfl, by decide +kernel, by decide +kernel⟩
theorem ok_Desk_act (T : Ty K mg) : FnR P w K mg base CX0 8 (a_Desk_act K) (spC (ct_Desk_act K)) := by
  obtain ⟨fd, F⟩ := T.f_Desk_act
  have nd := sc_Desk_act.nd
  refine ok_of (He5.fun_of F) sc_Desk_act (F.bindsN fun _ _ _ _ _ _ us hl => match us, hl with | [_, _, _], _ => rfl) ?_ fun cdv A outer s H E hr => have hu := hu_of hr; have hu0 := hr.units0; ⟨_, (pss_cons (ps_asg (SlX.pe_methSl0 (pe_fldK K (pv 0) rfl) T.S T.m_State_all_three (ok_State_all_three T) (hr.mono (by decide)) pass0) (pg_tupK K rfl (pgs_cons (pg_name (i := 3) nd rfl (.inl rfl)) (pgs_cons (pg_name (i := 4) nd rfl (.inl rfl)) (pgs_cons (pg_name (i := 5) nd rfl (.inl rfl)) pgs_nil)))))
    (pss_cons (ps_asg (pe_callR (ok_run T.toTx) (hr.mono (by decide)) rfl T.g_run T.k_run pass0 (pa_cons (pv 3) (pa_cons (pv 1) (pa_cons (pv 2) pa_nil)))) (pg_tupK K rfl (pgs_cons (pg_name (i := 6) nd rfl (.inl rfl)) (pgs_cons (pg_name (i := 7) nd rfl (.inl rfl)) pgs_nil))))
    (pss_cons (ps_expr (SlX.pe_methSl (pe_fldK K (pv 0) rfl) T.S T.m_State_go_on (ok_State_go_on T) (hr.mono (by decide)) pass0 (pa_cons (pe_tup (pa_cons pe_str (pa_cons (pv 1) (pa_cons (pv 2) pa_nil)))) (pa_cons (pe_tup (pa_cons (pv 6) (pa_cons (pe_op op_add (pv 4) (pe_callB call_len_seq (by rfl) T.n_len PySem.boot_len (pa_cons (pv 7) pa_nil))) (pa_cons (pv 5) pa_nil)))) pa_nil))))
    (pss_one (ps_ret (pe_callB call_len_seq (by rfl) T.n_len PySem.boot_len (pa_cons (pv 7) pa_nil))))))), ?_⟩
  · rintro S ⟨I, J, ins, out⟩ ⟨dk, st, ds, F, sa, es, ns, m, d, fails, hF, he, hr', ha, hz, h0, h1, h2, h3⟩
    dsimp only at h2 ⊢
    subst h2
    rfl
  · rintro S ⟨I, J, ins, out⟩ ⟨dk, st, ds, F, sa, es, ns, m, d, fails, hF, he, hr', ha, hz, h0, h1, h2, h3⟩
    dsimp only at h0
    subst h0
    dsimp only at h1 h2 h3
    subst h1 h2 h3
    refine gs_seq (gs_asg (ge_methZ hF.toStF (ge_state hF T.c_Desk T.na_Desk_state (ge_var rfl)) ga_nil ⟨st, ds, F, _, _, _, _, _, hF.toStF, rfl, rfl, rfl, rfl⟩) (gg_tup (gg_cons gg_name (gg_cons gg_name (gg_cons gg_name gg_nil))) rfl)) ?_
    refine gs_seq (gs_asg (ge_call (ga_cons (ge_var rfl) (ga_cons (ge_var rfl) (ga_cons (ge_var rfl) ga_nil))) ⟨sa, es, ns, _, d, fails, he, hr', ha, rfl, rfl, rfl⟩) (gg_tup (gg_cons gg_name (gg_cons gg_name gg_nil)) rfl)) ?_
    refine gs_seq (gs_drop (ge_methZ hF.toStF (ge_state hF T.c_Desk T.na_Desk_state (ge_var rfl)) (ga_cons (ge_tupD (K := K) (ga_cons (ge_str (K := K)) (ga_cons (ge_var rfl) (ga_cons (ge_var rfl) ga_nil))) (.cons (.cons (.cons .nil))) (by show 3 ≤ 1000; decide)) (ga_cons (ge_tup (K := K) (ga_cons (ge_var rfl) (ga_cons (ge_op (ge_var rfl) (ge_cb (ga_cons (ge_var rfl) ga_nil) gc_lenLN) gr_add) (ga_cons (ge_var rfl) ga_nil))) (by show 3 ≤ 1000; decide)) ga_nil)) ⟨st, ds, F, _, _, _, _, _, _, _, _, _, hF.toStF, by rw [List.length_map]; exact hz, rfl, rfl, rfl, rfl⟩)) ?_
    exact gs_ret (ge_cb (ga_cons (ge_var rfl) ga_nil) gc_lenLN) fun v H j p => ⟨p, by rw [stF_on]; exact j⟩
    all_goals skip
-- slots: 0=self 1=deed 2=fails 3=present 4=count 5=shelf 6=later 7=calls  uses: ['State.all_three', 'run', 'State.go_on']

end
end Hs
set_option Elab.async false
set_option linter.all false
set_option maxRecDepth 100000
set_option maxHeartbeats 4000000
namespace Hs
open PySem PySem.Spec PyProof.Rows L2 StX
section
variable {P : Program} {w : World} {K : PySem.W.Frag} {mg : Str → Option Value} {base : Heap}
abbrev N_Desk_store_as : List Str := ["self", "name", "present", "count", "shelf"]
theorem sc_Desk_store_as : FnScope N_Desk_store_as ["self", "name"] (defScope s_Desk_store_as) := ⟨rfl, rfl, rfl, by decide +kernel, rfl, by decide +kernel, by decide +kernel⟩
theorem ok_Desk_store_as (T : Ty K mg) : FnR P w K mg base CX0 3 (a_Desk_store_as K) (spC (ct_Desk_store_as K)) := by
  obtain ⟨fd, F⟩ := T.f_Desk_store_as
  have nd := sc_Desk_store_as.nd
  refine ok_of (He5.fun_of F) sc_Desk_store_as (F.bindsN fun _ _ _ _ _ _ us hl => match us, hl with | [_, _], _ => rfl) ?_ fun cdv A outer s H E hr => have hu := hu_of hr; have hu0 := hr.units0; ⟨_, (pss_cons (ps_if (pt_not (pt_val (pe_callR (ok_is_word T.toTx) (hr.mono (by decide)) rfl T.g_is_word T.k_is_word pass0 (pa_cons (pv 1) pa_nil)))) pss_never pss_nil)
    (pss_cons (ps_asg (SlX.pe_methSl0 (pe_fldK K (pv 0) rfl) T.S T.m_State_all_three (ok_State_all_three T) (hr.mono (by decide)) pass0) (pg_tupK K rfl (pgs_cons (pg_name (i := 2) nd rfl (.inl rfl)) (pgs_cons (pg_name (i := 3) nd rfl (.inl rfl)) (pgs_cons (pg_name (i := 4) nd rfl (.inl rfl)) pgs_nil)))))
    (pss_cons (ps_expr (SlX.pe_methSl (pe_fldK K (pv 0) rfl) T.S T.m_State_go_on (ok_State_go_on T) (hr.mono (by decide)) pass0 (pa_cons (pe_tup (pa_cons pe_str (pa_cons (pv 1) pa_nil))) (pa_cons (pe_tup (pa_cons (pv 2) (pa_cons (pv 3) (pa_cons (pe_op op_dor (pv 4) (pe_disp (pps_cons (pv 1) (pv 2) pps_nil) (by rfl) (by rfl) (fun z => by cases z) (by decide))) pa_nil)))) pa_nil))))
    (pss_one (ps_ret (pe_cmp (pc_din hu (pv 1) (pv 4)))))))), ?_⟩
  · rintro S ⟨I, J, ins, out⟩ ⟨dk, st, ds, F, sa, es, m, n, hF, hn, hs, hz, h0, h1, h2, h3⟩
    dsimp only at h2 ⊢
    subst h2
    rfl
  · rintro S ⟨I, J, ins, out⟩ ⟨dk, st, ds, F, sa, es, m, n, hF, hn, hs, hz, h0, h1, h2, h3⟩
    dsimp only at h0
    subst h0
    dsimp only at h1 h2 h3
    subst h1 h2 h3
    obtain ⟨w1, w2, w3⟩ := xy_word n hn
    refine gs_ifs (gt_notB (gt_valB (K := K) (ge_call (ga_cons (ge_var rfl) ga_nil) ⟨n, w2, rfl, rfl, rfl⟩))) (fun b1 => gs_never (by rw [w1] at b1; cases b1)) (fun _ => gs_nextS ?_)
    refine gs_seq (gs_asg (ge_methZ hF.toStF (ge_state hF T.c_Desk T.na_Desk_state (ge_var rfl)) ga_nil ⟨st, ds, F, _, _, _, _, _, hF.toStF, rfl, rfl, rfl, rfl⟩) (gg_tup (gg_cons gg_name (gg_cons gg_name (gg_cons gg_name gg_nil))) rfl)) ?_
    refine gs_seq (gs_drop (ge_methZ hF.toStF (ge_state hF T.c_Desk T.na_Desk_state (ge_var rfl)) (ga_cons (ge_tupD (K := K) (ga_cons (ge_str (K := K)) (ga_cons (ge_var rfl) ga_nil)) (.cons (.cons .nil)) (by show 2 ≤ 1000; decide)) (ga_cons (ge_tup (K := K) (ga_cons (ge_var rfl) (ga_cons (ge_var rfl) (ga_cons (ge_op (ge_var rfl) (ge_disp1 (K := K) (n := n) (ψ := Sys K sa es m.now.rows) (fun _ _ => ge_var rfl) (fun _ _ => ge_var rfl)) (gr_dorG (by rw [List.length_map]; omega))) ga_nil))) (by show 3 ≤ 1000; decide)) ga_nil)) ⟨st, ds, F, _, _, _, _, _, _, _, _, _, hF.toStF, by rw [List.length_map]; exact hz, rfl, rfl, rfl, rfl⟩)) ?_
    refine gs_ret (ge_sin (ge_var rfl) (ge_var rfl)) fun v H j p => ⟨p, ?_⟩
    rw [stF_on]
    show (F [_, _, _, Dct (shelfF K sa es (putG m.now.shelf n m.now.rows)), _]).p H
    rw [← shelf_put]
    exact j
    all_goals skip
-- slots: 0=self 1=name 2=present 3=count 4=shelf  uses: ['is_word', 'State.all_three', 'State.go_on']

end
end Hs
set_option Elab.async false
set_option linter.all false
set_option maxRecDepth 100000
set_option maxHeartbeats 4000000
namespace Hs
open PySem PySem.Spec PyProof.Rows L2 StX
section
variable {P : Program} {w : World} {K : PySem.W.Frag} {mg : Str → Option Value} {base : Heap}
abbrev N_Desk_fetch : List Str := ["self", "name", "present", "count", "shelf"]
theorem sc_Desk_fetch : FnScope N_Desk_fetch ["self", "name"] (defScope s_Desk_fetch) := ⟨rfl, rfl, rfl, by decide +kernel, rfl, by decide +kernel, by decide +kernel⟩
theorem ok_Desk_fetch (T : Ty K mg) : FnR P w K mg base CX0 4 (a_Desk_fetch K) (spC (ct_Desk_fetch K)) := by
  obtain ⟨fd, F⟩ := T.f_Desk_fetch
  have nd := sc_Desk_fetch.nd
  refine ok_of (He5.fun_of F) sc_Desk_fetch (F.bindsN fun _ _ _ _ _ _ us hl => match us, hl with | [_, _], _ => rfl) ?_ fun cdv A outer s H E hr => have hu := hu_of hr; have hu0 := hr.units0; ⟨_, (pss_cons (ps_asg (SlX.pe_methSl0 (pe_fldK K (pv 0) rfl) T.S T.m_State_all_three (ok_State_all_three T) (hr.mono (by decide)) pass0) (pg_tupK K rfl (pgs_cons (pg_name (i := 2) nd rfl (.inl rfl)) (pgs_cons (pg_name (i := 3) nd rfl (.inl rfl)) (pgs_cons (pg_name (i := 4) nd rfl (.inl rfl)) pgs_nil)))))
    (pss_cons (ps_if (pt_cmp (pc_dnotin hu (pv 1) (pv 4))) pss_never pss_nil)
    (pss_cons (ps_expr (SlX.pe_methSl (pe_fldK K (pv 0) rfl) T.S T.m_State_go_on (ok_State_go_on T) (hr.mono (by decide)) pass0 (pa_cons (pe_tup (pa_cons pe_str (pa_cons (pv 1) pa_nil))) (pa_cons (pe_tup (pa_cons (pe_dget hu (pv 4) (pv 1) (fun _ _ => rfl)) (pa_cons (pv 3) (pa_cons (pv 4) pa_nil)))) pa_nil))))
    (pss_one (ps_ret (pe_callR (ok_is_sound T.toTx) (hr.mono (by decide)) rfl T.g_is_sound T.k_is_sound pass0 (pa_cons (pe_dget hu (pv 4) (pv 1) (fun _ _ => rfl)) pa_nil))))))), ?_⟩
  · rintro S ⟨I, J, ins, out⟩ ⟨dk, st, ds, F, sa, es, ns, m, n, hF, he, hs, hn, hz, h0, h1, h2, h3⟩
    dsimp only at h2 ⊢
    subst h2
    rfl
  · rintro S ⟨I, J, ins, out⟩ ⟨dk, st, ds, F, sa, es, ns, m, n, hF, he, hs, hn, hz, h0, h1, h2, h3⟩
    dsimp only at h0
    subst h0
    dsimp only at h1 h2 h3
    subst h1 h2 h3
    refine gs_seq (gs_asg (ge_methZ hF.toStF (ge_state hF T.c_Desk T.na_Desk_state (ge_var rfl)) ga_nil ⟨st, ds, F, _, _, _, _, _, hF.toStF, rfl, rfl, rfl, rfl⟩) (gg_tup (gg_cons gg_name (gg_cons gg_name (gg_cons gg_name gg_nil))) rfl)) ?_
    refine gs_ifs (GT.to (gt_valB (K := K) (ge_snin (ge_var rfl) (ge_var rfl))) (show (!(lk m.now.shelf n).isSome) = false by rw [hn]; rfl)) (fun b1 => Bool.noConfusion b1) (fun _ => gs_nextS ?_)
    refine gs_seq (gs_drop (ge_methZ hF.toStF (ge_state hF T.c_Desk T.na_Desk_state (ge_var rfl)) (ga_cons (ge_tupD (K := K) (ga_cons (ge_str (K := K)) (ga_cons (ge_var rfl) ga_nil)) (.cons (.cons .nil)) (by show 2 ≤ 1000; decide)) (ga_cons (ge_tup (K := K) (ga_cons (ge_sget (ge_var rfl) (ge_var rfl) hn) (ga_cons (ge_var rfl) (ga_cons (ge_var rfl) ga_nil))) (by show 3 ≤ 1000; decide)) ga_nil)) ⟨st, ds, F, _, _, _, _, _, _, _, _, _, hF.toStF, by rw [List.length_map]; exact hz, rfl, rfl, rfl, rfl⟩)) ?_
    exact gs_ret (ge_call (ga_cons (ge_sget (ge_var rfl) (ge_var rfl) hn) ga_nil) ⟨sa, es, ns, _, he, shelf_ok hs hn, rfl, rfl, rfl⟩) fun v H j p => ⟨p, by rw [stF_on]; exact j⟩
    all_goals skip
-- slots: 0=self 1=name 2=present 3=count 4=shelf  uses: ['State.all_three', 'State.go_on', 'is_sound']

end
end Hs
set_option Elab.async false
set_option linter.all false
set_option maxRecDepth 100000
set_option maxHeartbeats 4000000
namespace Hs
open PySem PySem.Spec PyProof.Rows L2 StX
section
variable {P : Program} {w : World} {K : PySem.W.Frag} {mg : Str → Option Value} {base : Heap}
abbrev N_Desk_execute : List Str := ["self", "operation", "word", "rest"]
theorem sc_Desk_execute : FnScope N_Desk_execute ["self", "operation"] (defScope s_Desk_execute) := ⟨rfl, rfl, rfl, by decide +kernel, rfl, by decide +kernel, by decide +kernel⟩
theorem ok_Desk_execute (T : Ty K mg) : FnR P w K mg base CX0 9 (a_Desk_execute K) (spC (ct_Desk_execute K)) := by
  obtain ⟨fd, F⟩ := T.f_Desk_execute
  have nd := sc_Desk_execute.nd
  refine ok_of (He5.fun_of F) sc_Desk_execute (F.bindsN fun _ _ _ _ _ _ us hl => match us, hl with | [_, _], _ => rfl) ?_ fun cdv A outer s H E hr => have hu := hu_of hr; have hu0 := hr.units0; ⟨_, (pss_cons (ps_par (by rfl) nd (i := 2) (j := 3) rfl rfl (by decide) rfl rfl (pa_cons (pe_ix (ix_tupK K) (pv 1) pe_int (fun _ _ => rfl)) (pa_cons (pe_slice (sl_tupAK K) (pv 1) (po_some pe_int) po_none) pa_nil)) (by rfl))
    (pss_cons (ps_if (pt_cmpR op_eq (pv 2) pe_str (nomark _)) (pss_one (ps_ret (pe_methR (pv 0) T.c_Desk T.m_Desk_act (ok_Desk_act T) (hr.mono (by decide)) pass0 (pa_cons (pe_ix (ix_tupK K) (pv 3) pe_int (fun _ _ => rfl)) (pa_cons (pe_ix (ix_tupK K) (pv 3) pe_int (fun _ _ => rfl)) pa_nil))))) pss_nil)
    (pss_cons (ps_if (pt_cmpR op_eq (pv 2) pe_str (nomark _)) pss_never pss_nil)
    (pss_cons (ps_if (pt_cmpR op_eq (pv 2) pe_str (nomark _)) (pss_one (ps_ret (pe_methR (pv 0) T.c_Desk T.m_Desk_store_as (ok_Desk_store_as T) (hr.mono (by decide)) pass0 (pa_cons (pe_ix (ix_tupK K) (pv 3) pe_int (fun _ _ => rfl)) pa_nil)))) pss_nil)
    (pss_cons (ps_if (pt_cmpR op_eq (pv 2) pe_str (nomark _)) (pss_one (ps_ret (pe_methR (pv 0) T.c_Desk T.m_Desk_fetch (ok_Desk_fetch T) (hr.mono (by decide)) pass0 (pa_cons (pe_ix (ix_tupK K) (pv 3) pe_int (fun _ _ => rfl)) pa_nil)))) pss_nil)
    (pss_one (ps_ret (pe_ifExp (pt_cmpR op_eq (pv 2) pe_str (nomark _)) (pe_methR0 (pv 0) T.c_Desk T.m_Desk_undo (ok_Desk_undo T) (hr.mono (by decide)) pass0) (pe_methR0 (pv 0) T.c_Desk T.m_Desk_redo (ok_Desk_redo T) (hr.mono (by decide)) pass0))))))))), ?_⟩
  · rintro S ⟨I, J, ins, out⟩ ⟨dk, st, ds, F, sa, es, ns, m, op, hF, he, hs, ho, hz, h0, h1, h2, h3⟩
    dsimp only at h2 ⊢
    subst h2
    rfl
  · rintro S ⟨I, J, ins, out⟩ ⟨dk, st, ds, F, sa, es, ns, m, op, hF, he, hs, ho, hz, h0, h1, h2, h3⟩
    dsimp only at h0
    subst h0
    dsimp only at h1 h2 h3
    subst h1 h2 h3
    cases op with
    | act d fails =>
      refine gs_seq (gs_par (ga_cons (ge_op (ge_var rfl) (ge_int (K := K)) (gr_ixD (by decide) rfl)) (ga_cons (ge_slD (ge_var rfl) po_i po_n) ga_nil))) ?_
      exact gs_ifs (gt_val (K := K) (ge_op (ge_var rfl) (ge_str (K := K)) gr_eqS)) (fun b1 => gs_retFS (ge_methD hF rfl (ge_var rfl) (ga_cons (ge_op (ge_var rfl) (ge_int (K := K)) (gr_ixD (by decide) rfl)) (ga_cons (ge_op (ge_var rfl) (ge_int (K := K)) (gr_ixD (by decide) rfl)) ga_nil)) ⟨dk, st, ds, F, sa, es, ns, m, d, fails, hF, he, hs.rows, ho.1, hz, rfl, rfl, rfl, rfl⟩)) (fun b1 => absurd b1 (by decide +kernel))
    | store n =>
      refine gs_seq (gs_par (ga_cons (ge_op (ge_var rfl) (ge_int (K := K)) (gr_ixD (by decide) rfl)) (ga_cons (ge_slD (ge_var rfl) po_i po_n) ga_nil))) ?_
      refine gs_ifs (gt_val (K := K) (ge_op (ge_var rfl) (ge_str (K := K)) gr_eqS)) (fun b1 => absurd b1 (by decide +kernel)) (fun b1 => gs_nextS ?_)
      refine gs_ifs (gt_val (K := K) (ge_op (ge_var rfl) (ge_str (K := K)) gr_eqS)) (fun b1 => absurd b1 (by decide +kernel)) (fun b1 => gs_nextS ?_)
      exact gs_ifs (gt_val (K := K) (ge_op (ge_var rfl) (ge_str (K := K)) gr_eqS)) (fun b1 => gs_retFS (ge_methD hF rfl (ge_var rfl) (ga_cons (ge_op (ge_var rfl) (ge_int (K := K)) (gr_ixD (by decide) rfl)) ga_nil) ⟨dk, st, ds, F, sa, es, m, n, hF, ho, hs.few, hz, rfl, rfl, rfl, rfl⟩)) (fun b1 => absurd b1 (by decide +kernel))
    | fetch n =>
      refine gs_seq (gs_par (ga_cons (ge_op (ge_var rfl) (ge_int (K := K)) (gr_ixD (by decide) rfl)) (ga_cons (ge_slD (ge_var rfl) po_i po_n) ga_nil))) ?_
      refine gs_ifs (gt_val (K := K) (ge_op (ge_var rfl) (ge_str (K := K)) gr_eqS)) (fun b1 => absurd b1 (by decide +kernel)) (fun b1 => gs_nextS ?_)
      refine gs_ifs (gt_val (K := K) (ge_op (ge_var rfl) (ge_str (K := K)) gr_eqS)) (fun b1 => absurd b1 (by decide +kernel)) (fun b1 => gs_nextS ?_)
      refine gs_ifs (gt_val (K := K) (ge_op (ge_var rfl) (ge_str (K := K)) gr_eqS)) (fun b1 => absurd b1 (by decide +kernel)) (fun b1 => gs_nextS ?_)
      exact gs_ifs (gt_val (K := K) (ge_op (ge_var rfl) (ge_str (K := K)) gr_eqS)) (fun b1 => gs_retFS (ge_methD hF rfl (ge_var rfl) (ga_cons (ge_op (ge_var rfl) (ge_int (K := K)) (gr_ixD (by decide) rfl)) ga_nil) ⟨dk, st, ds, F, sa, es, ns, m, n, hF, he, hs, ho.2, hz, rfl, rfl, rfl, rfl⟩)) (fun b1 => absurd b1 (by decide +kernel))
    all_goals skip
-- slots: 0=self 1=operation 2=word 3=rest  uses: ['Desk.act', 'Desk.store_as', 'Desk.fetch', 'Desk.undo', 'Desk.redo']

end
end Hs
set_option Elab.async false
set_option linter.all false
set_option maxRecDepth 100000
set_option maxHeartbeats 4000000
namespace Hs
open PySem PySem.Spec PyProof.Rows L2 StX
section
variable {P : Program} {w : World} {K : PySem.W.Frag} {mg : Str → Option Value} {base : Heap}
abbrev N_Trial_hold : List Str := ["self"]
theorem sc_Trial_hold : FnScope N_Trial_hold ["self"] (defScope s_Trial_hold) := ⟨rfl, rfl, rfl, by decide +kernel, rfl, by decide +kernel, by decide +kernel⟩
theorem ok_Trial_hold (T : Ty K mg) : FnR P w K mg base CX0 1 (a_Trial_hold K) (spTrH K) := by
  obtain ⟨fd, F⟩ := T.f_Trial_hold
  have nd := sc_Trial_hold.nd
  have h : FnOk P w K mg base CX0 1 (a_Trial_hold K) fd ["self"] (spTrH K) := (He5.fun_of F).ok sc_Trial_hold (fun vs H Q E hh => by obtain ⟨x, dx, a, b, c, d, rfl, hx, q⟩ := hh; rfl) fun cdv A outer s H vs Q E hr hsp => ⟨_, (pss_one (ps_fld (pv 0) (pe_fldK K (pv 0) rfl) rfl)), by
    obtain ⟨x, dx, a, b, c, d, rfl, hx, q⟩ := hsp
    exact ⟨_, rfl, x, _, dx, _, c, rfl, hx, T.c_Trial, T.na_Trial_fresh, rfl, _, rfl, x, _, dx, _, rfl, hx, T.c_Trial, T.na_Trial_chosen, by show 4 < 1000; decide, q⟩⟩
  exact (h.raw (F.bindsN fun _ _ _ _ _ _ us hl => match us, hl with | [_], _ => rfl) .nil).imp fun vs H Q E q => by rw [List.append_nil]; exact q
-- slots: 0=self  uses: []

end
end Hs
set_option Elab.async false
set_option linter.all false
set_option maxRecDepth 100000
set_option maxHeartbeats 4000000
namespace Hs
open PySem PySem.Spec PyProof.Rows L2 StX
section
variable {P : Program} {w : World} {K : PySem.W.Frag} {mg : Str → Option Value} {base : Heap}
abbrev N_Desk_apply_all : List Str := ["self", "operations", "index", "operation", "trial", "found"]
theorem sc_Desk_apply_all : FnScope N_Desk_apply_all ["self", "operations"] (defScope s_Desk_apply_all) := ⟨rfl, rfl, rfl, by decide +kernel, rfl, by decide +kernel, by decide +kernel⟩
theorem ok_Desk_apply_all (T : Tz w K mg) : FnR P w K mg base CX0 10 (a_Desk_apply_all K) (spC (ct_Desk_apply_all K)) := by
  obtain ⟨fd, F⟩ := T.f_Desk_apply_all
  have nd := sc_Desk_apply_all.nd
  refine ok_of (He5.fun_of F) sc_Desk_apply_all (F.bindsN fun _ _ _ _ _ _ us hl => match us, hl with | [_, _], _ => rfl) ?_ fun cdv A outer s H E hr => have hu := hu_of hr; have hu0 := hr.units0; ⟨_, (pss_cons (ps_for PassesOwn.never rfl (pi_enum (by rfl) T.n_enumerate (pa_cons (pv 1) pa_nil)) (pg_tupK K rfl (pgs_cons (pg_name (i := 2) nd rfl (.inl rfl)) (pgs_cons (pg_name (i := 3) nd rfl (.inl rfl)) pgs_nil)))
    (pss_one (ps_if (pt_not (pt_val (pe_callR (ok_is_operation T) (hr.mono (by decide)) rfl T.g_is_operation T.k_is_operation pass0 (pa_cons (pv 3) pa_nil)))) pss_never pss_nil)))
    (pss_cons (ps_with T.w_Trial (ok_Trial_enter T.toTy) (ok_Trial_exit T.toTy) (hr.mono (by decide)) (hr.mono (by decide)) (i := 4) nd rfl (.inl rfl) (pe_makeR T.mk_Trial (ok_Trial_init T.toTy) (hr.mono (by decide)) rfl T.g_Trial pass0 (pa_cons (pv 0) pa_nil))
    (pss_cons (ps_setLc (i := 5) (own := [("operation", 3)]) (g := gName 3) (tt := tYes) rfl nd rfl rfl (sw_true rfl rfl rfl (by decide +kernel)) (pi_listK K (pv 1)) (blkOk_by (own := [("operation", 3)]) (N := N_Desk_apply_all) (sc := defScope s_Desk_apply_all) (by decide +kernel)) (fun _ _ _ _ _ => pg_name (i := 3) nd rfl (Or.inl rfl)) (fun _ _ _ _ _ => pts_nil) (fun _ _ _ _ _ => (pe_methR (pv 0) T.c_Desk T.m_Desk_execute (ok_Desk_execute T.toTy) (hr.mono (by decide)) pass0 (pa_cons (pv 3) pa_nil))))
    (pss_one (ps_expr (pe_methR0 (pv 4) T.c_Trial T.m_Trial_hold (ok_Trial_hold T.toTy) (hr.mono (by decide)) pass0)))))
    (pss_one (ps_ret (pv 5))))), ?_⟩
  · rintro S ⟨I, J, ins, out⟩ ⟨dk, st, ds, F, sa, es, ns, m, ops, hF, he, hs, hc, hz, h0, h1, h2, h3⟩
    dsimp only at h2 ⊢
    subst h2
    rfl
  · rintro S ⟨I, J, ins, out⟩ ⟨dk, st, ds, F, sa, es, ns, m, ops, hF, he, hs, hc, hz, h0, h1, h2, h3⟩
    dsimp only at h0
    subst h0
    dsimp only at h1 h2 h3
    subst h1 h2 h3
    refine gs_forS (fun _ : Unit => [some (Eqv (.ref dk)), some (ListD K (ops.map Op.d)), none, none, none, none]) (fun _ => F (stF K sa es m)) (fun _ _ => True) () (gi_enum (ga_cons ((ge_var (φ := ListD K (ops.map Op.d)) rfl).wk fun v H _ p => is_lst p) ga_nil)) trivial (.s (.s (.n (.n (.n (.n .nil)))))) (fun _ h => h) (fun i ψ b hψ _ => ?_) fun _ _ => ?_
    · rw [List.getElem?_zipWith, List.length_map, List.length_map] at hψ
      cases hx : ops[i]? with
      | none => rw [List.getElem?_map, List.getElem?_map, hx] at hψ; cases h9 : (List.range ops.length)[i]? <;> rw [h9] at hψ <;> cases hψ
      | some op =>
        have hi : i < ops.length := (List.getElem?_eq_some_iff.mp hx).1
        rw [List.getElem?_map, List.getElem?_map, hx, List.getElem?_range hi] at hψ
        cases hψ
        exact ⟨_, _, gg_tup (gg_cons gg_name (gg_cons gg_name gg_nil)) rfl, gs_if (gt_notB (gt_valB (K := K) (ge_call (ga_cons (ge_var rfl) ga_nil) ⟨op, rfl, rfl, rfl⟩))) (fun b1 => gs_never (by cases b1)) (fun _ => gs_turn () gs_next trivial (.s (.s (.n (.n (.s (.s .nil)))))) fun _ h => h)⟩
    · refine gs_seqX (gs_with (β := Unit) (P := fun _ => True) (Δ := fun _ => [some (Eqv (.ref dk)), some (ListD K (ops.map Op.d)), none, none, none, some (ListD K (duesS es m.now ops))]) (hb := fun _ => true) (φb := fun _ => stF K sa es (goAll es m ops)) hF (ga_cons (ge_var rfl) ga_nil) (fun _ _ => stF_five) fun T' x s2 d2 G sT hG hT => ?_) fun _ _ => gs_retF (ge_var rfl)
      refine gs_seq (gs_set (ge_lcDk (hG false) (fun i => stF K sa es (goAll es m (ops.take i))) (duesS es m.now ops) (gi_listM (ge_var rfl)) (by rw [List.length_map, dues_len]) (by rw [dues_len]; omega) fun i ψ d S' F' hF' hψ hd => ?_)) ?_
      · rw [List.getElem?_map] at hψ
        cases hx : ops[i]? with
        | none => rw [hx] at hψ; cases hψ
        | some op =>
          rw [hx] at hψ
          cases hψ
          have hi : i < ops.length := (List.getElem?_eq_some_iff.mp hx).1
          obtain ⟨c1, c2, c3, c4, c5⟩ := chain_at he hs hc hx
          rw [c4] at hd
          cases hd
          exact ⟨_, _, (fun _ h => h), gg_name, ge_methD hF' rfl (ge_var rfl) (ga_cons (ge_var rfl) ga_nil) ⟨dk, s2, d2, F', sa, es, ns, goAll es m (ops.take i), op, hF', he, c1, c2, by omega, rfl, by rw [c3], rfl, rfl⟩⟩
      · rw [dues_len, List.take_length]
        exact (gs_drop (ge_hold hT (ge_var rfl))).wk fun σ H ⟨e, j⟩ => ⟨(), trivial, e.sub (.s (.s (.n (.n (.n (.s .nil)))))), j⟩
    all_goals skip
-- slots: 0=self 1=operations 2=index 3=operation 4=trial 5=found  uses: ['is_operation', 'Trial.__enter__', 'Trial.__exit__', 'Trial.__init__', 'Desk.execute', 'Trial.hold']

end
end Hs
set_option Elab.async false
set_option linter.all false
set_option maxRecDepth 100000
set_option maxHeartbeats 4000000
namespace Hs
open PySem PySem.Spec PyProof.Rows L2 StX
section
variable {P : Program} {w : World} {K : PySem.W.Frag} {mg : Str → Option Value} {base : Heap}
abbrev N_Desk_system : List Str := ["self"]
theorem sc_Desk_system : FnScope N_Desk_system ["self"] (defScope s_Desk_system) := ⟨rfl, rfl, rfl, by decide +kernel, rfl, by decide +kernel, by decide +kernel⟩
theorem ok_Desk_system (T : Ty K mg) : FnR P w K mg base CX0 1 (a_Desk_system K) (spC (ct_Desk_system K)) := by
  obtain ⟨fd, F⟩ := T.f_Desk_system
  have nd := sc_Desk_system.nd
  refine ok_of (He5.fun_of F) sc_Desk_system (F.bindsN fun _ _ _ _ _ _ us hl => match us, hl with | [_], _ => rfl) ?_ fun cdv A outer s H E hr => have hu := hu_of hr; have hu0 := hr.units0; ⟨_, (pss_one (ps_ret (pe_slK K (pe_fldK K (pv 0) rfl) rfl))), ?_⟩
  · rintro S ⟨I, J, ins, out⟩ ⟨dk, st, ds, F, sa, es, m, hF, h0, h1, h2, h3⟩
    dsimp only at h2 ⊢
    subst h2
    rfl
  · rintro S ⟨I, J, ins, out⟩ ⟨dk, st, ds, F, sa, es, m, hF, h0, h1, h2, h3⟩
    dsimp only at h0
    subst h0
    dsimp only at h1 h2 h3
    subst h1 h2 h3
    exact gs_retF (ge_slot hF.toStF (ge_state hF T.c_Desk T.na_Desk_state (ge_var rfl)) T.S T.sl_present rfl)
    all_goals skip
-- slots: 0=self  uses: []

end
end Hs
set_option Elab.async false
set_option linter.all false
set_option maxRecDepth 100000
set_option maxHeartbeats 4000000
namespace Hs
open PySem PySem.Spec PyProof.Rows L2 StX
section
variable {P : Program} {w : World} {K : PySem.W.Frag} {mg : Str → Option Value} {base : Heap}
abbrev N_Desk_call_count : List Str := ["self"]
theorem sc_Desk_call_count : FnScope N_Desk_call_count ["self"] (defScope s_Desk_call_count) := ⟨rfl, rfl, rfl, by decide +kernel, rfl, by decide +kernel, by decide +kernel⟩
theorem ok_Desk_call_count (T : Ty K mg) : FnR P w K mg base CX0 1 (a_Desk_call_count K) (spC (ct_Desk_call_count K)) := by
  obtain ⟨fd, F⟩ := T.f_Desk_call_count
  have nd := sc_Desk_call_count.nd
  refine ok_of (He5.fun_of F) sc_Desk_call_count (F.bindsN fun _ _ _ _ _ _ us hl => match us, hl with | [_], _ => rfl) ?_ fun cdv A outer s H E hr => have hu := hu_of hr; have hu0 := hr.units0; ⟨_, (pss_one (ps_ret (pe_slK K (pe_fldK K (pv 0) rfl) rfl))), ?_⟩
  · rintro S ⟨I, J, ins, out⟩ ⟨dk, st, ds, F, sa, es, m, hF, h0, h1, h2, h3⟩
    dsimp only at h2 ⊢
    subst h2
    rfl
  · rintro S ⟨I, J, ins, out⟩ ⟨dk, st, ds, F, sa, es, m, hF, h0, h1, h2, h3⟩
    dsimp only at h0
    subst h0
    dsimp only at h1 h2 h3
    subst h1 h2 h3
    exact gs_retF (ge_slot hF.toStF (ge_state hF T.c_Desk T.na_Desk_state (ge_var rfl)) T.S T.sl_count rfl)
    all_goals skip
-- slots: 0=self  uses: []

end
end Hs
set_option Elab.async false
set_option linter.all false
set_option maxRecDepth 100000
set_option maxHeartbeats 4000000
namespace Hs
open PySem PySem.Spec PyProof.Rows L2 StX
section
variable {P : Program} {w : World} {K : PySem.W.Frag} {mg : Str → Option Value} {base : Heap}
abbrev N_Desk_kept : List Str := ["self"]
theorem sc_Desk_kept : FnScope N_Desk_kept ["self"] (defScope s_Desk_kept) := ⟨rfl, rfl, rfl, by decide +kernel, rfl, by decide +kernel, by decide +kernel⟩
theorem ok_Desk_kept (T : Ty K mg) : FnR P w K mg base CX0 1 (a_Desk_kept K) (spC (ct_Desk_kept K)) := by
  obtain ⟨fd, F⟩ := T.f_Desk_kept
  have nd := sc_Desk_kept.nd
  refine ok_of (He5.fun_of F) sc_Desk_kept (F.bindsN fun _ _ _ _ _ _ us hl => match us, hl with | [_], _ => rfl) ?_ fun cdv A outer s H E hr => have hu := hu_of hr; have hu0 := hr.units0; ⟨_, (pss_one (ps_ret (pe_callB (call_sortedD rfl) (by rfl) T.n_sorted (by decide +kernel) (pa_cons (pe_slK K (pe_fldK K (pv 0) rfl) rfl) pa_nil)))), ?_⟩
  · rintro S ⟨I, J, ins, out⟩ ⟨dk, st, ds, F, sa, es, m, hF, hz, h0, h1, h2, h3⟩
    dsimp only at h2 ⊢
    subst h2
    rfl
  · rintro S ⟨I, J, ins, out⟩ ⟨dk, st, ds, F, sa, es, m, hF, hz, h0, h1, h2, h3⟩
    dsimp only at h0
    subst h0
    dsimp only at h1 h2 h3
    subst h1 h2 h3
    exact gs_retF (ge_cb (ga_cons (ge_slot hF.toStF (ge_state hF T.c_Desk T.na_Desk_state (ge_var rfl)) T.S T.sl_shelf rfl) ga_nil) (gc_sortedD (K := K) (ks := m.now.shelf.map Prod.fst) (by rw [List.map_map, List.map_map]; rfl) (by rw [List.length_map]; exact hz)))
    all_goals skip
-- slots: 0=self  uses: []

end
end Hs
set_option Elab.async false
set_option linter.all false
set_option maxRecDepth 100000
set_option maxHeartbeats 4000000
namespace Hs
open PySem PySem.Spec PyProof.Rows L2 StX
section
variable {P : Program} {w : World} {K : PySem.W.Frag} {mg : Str → Option Value} {base : Heap}
abbrev N_Desk_history : List Str := ["self", "operation", "whole"]
theorem sc_Desk_history : FnScope N_Desk_history ["self"] (defScope s_Desk_history) := ⟨rfl, rfl, rfl, by decide +kernel, rfl, by decide +kernel, by decide +kernel⟩
theorem ok_Desk_history (T : Ty K mg) : FnR P w K mg base CX0 1 (a_Desk_history K) (spC (ct_Desk_history K)) := by
  obtain ⟨fd, F⟩ := T.f_Desk_history
  have nd := sc_Desk_history.nd
  refine ok_of (He5.fun_of F) sc_Desk_history (F.bindsN fun _ _ _ _ _ _ us hl => match us, hl with | [_], _ => rfl) ?_ fun cdv A outer s H E hr => have hu := hu_of hr; have hu0 := hr.units0; ⟨_, (pss_one (ps_ret (pe_lc (own := [("operation", 1), ("whole", 2)]) (g := _) (tt := tYes) rfl nd (pi_tupK K (pe_slK K (pe_fldK K (pv 0) rfl) rfl)) (blkOk_by (own := [("operation", 1), ("whole", 2)]) (N := N_Desk_history) (sc := defScope s_Desk_history) (by decide +kernel)) (fun _ _ _ _ _ => pg_tupK (n := 2) K rfl (pgs_cons (pg_name (i := 1) nd rfl (Or.inl rfl)) (pgs_cons (pg_name (i := 2) nd rfl (Or.inl rfl)) pgs_nil))) (fun _ _ _ _ _ => pts_nil) (fun _ _ _ _ _ => (pv 1))))), ?_⟩
  · rintro S ⟨I, J, ins, out⟩ ⟨dk, st, ds, F, sa, es, m, hF, hz, h0, h1, h2, h3⟩
    dsimp only at h2 ⊢
    subst h2
    rfl
  · rintro S ⟨I, J, ins, out⟩ ⟨dk, st, ds, F, sa, es, m, hF, hz, h0, h1, h2, h3⟩
    dsimp only at h0
    subst h0
    dsimp only at h1 h2 h3
    subst h1 h2 h3
    exact gs_retF (ge_lcD1 (K := K) m.past (fun p => OpF K sa es p) (fun p => p.1.d) (gi_tup (ge_slot hF.toStF (ge_state hF T.c_Desk T.na_Desk_state (ge_var rfl)) T.S T.sl_past rfl)) (by omega) fun p S' I' ext hp => ⟨_, _, (fun j h => by simp at h; simp [h]), gg_tup (gg_cons gg_name (gg_cons gg_name gg_nil)) rfl, gt_yes, fun _ => ge_var rfl⟩)
    all_goals skip
-- slots: 0=self 1=operation 2=whole  uses: []

end
end Hs
set_option Elab.async false
set_option linter.all false
set_option maxRecDepth 100000
set_option maxHeartbeats 4000000
namespace Hs
open PySem PySem.Spec PyProof.Rows L2 StX
section
variable {P : Program} {w : World} {K : PySem.W.Frag} {mg : Str → Option Value} {base : Heap}
abbrev N_Store_eq : List Str := ["self", "other"]
theorem sc_Store_eq : FnScope N_Store_eq ["self", "other"] (defScope s_Store_eq) := ⟨rfl, rfl, rfl, by decide +kernel, rfl, by decide +kernel, by decide +kernel⟩
theorem ok_Store_eq (T : Ty K mg) : FnR P w K mg base CX0 1 (a_Store_eq K) (spC (ct_Store_eq K)) := by
  obtain ⟨fd, F⟩ := T.f_Store_eq
  have nd := sc_Store_eq.nd
  refine ok_of (He5.fun_of F) sc_Store_eq (F.bindsN fun _ _ _ _ _ _ us hl => match us, hl with | [_, _], _ => rfl) ?_ fun cdv A outer s H E hr => have hu := hu_of hr; have hu0 := hr.units0; ⟨_, (pss_one (ps_ret (pe_and (pe_callB (C8.call_isC T.ic_Store) (by rfl) T.n_isinstance (by decide +kernel) (pa_cons (pv 1) (pa_cons (pe_glob (v := .ref _) rfl T.g_Store rfl) pa_nil))) (pe_one (pe_cmpR (op_eqT hu) (pe_fldK K (pv 0) rfl) (pe_fldK K (pv 1) rfl) (nomark _)))))), ?_⟩
  · rintro S ⟨I, J, ins, out⟩ ⟨sa, es, h1, h2, h3⟩
    dsimp only at h2 ⊢
    subst h2
    rfl
  · rintro S ⟨I, J, ins, out⟩ ⟨sa, es, h1, h2, h3⟩
    dsimp only at h1 h2 h3
    subst h1 h2 h3
    refine gs_retD (ge_and (K := K) (ge_cb (ga_cons (ge_var rfl) (ga_cons (ge_c (φ := Eqv (.ref (C_Store K))) fun _ => rfl) ga_nil)) (gc_isC (oba_ins (m := "") rfl))) fun _ => ge_knSame (rows := knownF K es) (sa := sa) (i := 0) (j := 1) rfl rfl T.c_Store T.na_Store_known) rfl rfl
    all_goals skip
-- slots: 0=self 1=other  uses: []

end
end Hs
set_option Elab.async false
set_option linter.all false
set_option maxRecDepth 100000
set_option maxHeartbeats 4000000
namespace Hs
open PySem PySem.Spec PyProof.Rows L2 StX
section
variable {P : Program} {w : World} {K : PySem.W.Frag} {mg : Str → Option Value} {base : Heap}
abbrev N_System_eq : List Str := ["self", "other"]
theorem sc_System_eq : FnScope N_System_eq ["self", "other"] (defScope s_System_eq) := ⟨rfl, rfl, rfl, by decide +kernel, rfl, by decide +kernel, by decide +kernel⟩
theorem ok_System_eq (T : Ty K mg) : FnR P w K mg base CX0 2 (a_System_eq K) (spC (ct_System_eq K)) := by
  obtain ⟨fd, F⟩ := T.f_System_eq
  have nd := sc_System_eq.nd
  refine ok_of (He5.fun_of F) sc_System_eq (F.bindsN fun _ _ _ _ _ _ us hl => match us, hl with | [_, _], _ => rfl) ?_ fun cdv A outer s H E hr => have hu := hu_of hr; have hu0 := hr.units0; ⟨_, (pss_one (ps_ret (pe_and (pe_callB (C8.call_isC T.ic_System) (by rfl) T.n_isinstance (by decide +kernel) (pa_cons (pv 1) (pa_cons (pe_glob (v := .ref _) rfl T.g_System rfl) pa_nil))) (pe_and (pe_cmpR (op_eqO T.x_Store_eq T.x_Store_eqF (ok_Store_eq T) (hr.mono (by decide))) (pe_fldK K (pv 0) rfl) (pe_fldK K (pv 1) rfl) (nomark _)) (pe_one (pe_cmpR (op_eqKD hr.in1.units hu0) (pe_fldK K (pv 0) rfl) (pe_fldK K (pv 1) rfl) (nomark _))))))), ?_⟩
  · rintro S ⟨I, J, ins, out⟩ ⟨sa, es, R, hs, hnd, h1, h2, h3⟩
    dsimp only at h2 ⊢
    subst h2
    rfl
  · rintro S ⟨I, J, ins, out⟩ ⟨sa, es, R, hs, hnd, h1, h2, h3⟩
    dsimp only at h1 h2 h3
    subst h1 h2 h3
    refine gs_retD (ge_and (K := K) (ge_cb (ga_cons (ge_var rfl) (ga_cons (ge_c (φ := Eqv (.ref (C_System K))) fun _ => rfl) ga_nil)) (gc_isC (ob_ins (m := "") rfl))) fun _ => ge_and (K := K) (ge_op (ge_fld (ge_var rfl) T.c_System T.na_System_base rfl) (ge_fld (ge_var rfl) T.c_System T.na_System_base rfl) (gr_eqO (oba_ins (m := "") rfl) (oba_ins (m := "") rfl) ⟨_, _, rfl, rfl, rfl⟩)) fun _ => ge_op (ge_fld (ge_var rfl) T.c_System T.na_System_rows rfl) (ge_fld (ge_var rfl) T.c_System T.na_System_rows rfl) (gr_eqRows hs hnd)) rfl rfl
    all_goals skip
-- slots: 0=self 1=other  uses: []

end
end Hs
set_option Elab.async false
set_option linter.all false
set_option maxRecDepth 100000
set_option maxHeartbeats 4000000
namespace Hs
open PySem PySem.Spec PyProof.Rows L2 StX
section
variable {P : Program} {w : World} {K : PySem.W.Frag} {mg : Str → Option Value} {base : Heap}
abbrev N_law_shows : List Str := ["_law_desk", "_law_scene", "_law_operations"]
theorem sc_law_shows : FnScope N_law_shows ["_law_desk", "_law_scene", "_law_operations"] (defScope s_law_shows) := ⟨rfl, rfl, rfl, by decide +kernel, rfl, by decide +kernel, by decide +kernel⟩
theorem ok_law_shows (T : Ty K mg) : FnR P w K mg base CX0 4 (a_law_shows K) (spC (ct_law_shows K)) := by
  obtain ⟨fd, F⟩ := T.f_law_shows
  have nd := sc_law_shows.nd
  refine ok_of (He5.fun_of F) sc_law_shows (F.bindsN fun _ _ _ _ _ _ us hl => match us, hl with | [_, _, _], _ => rfl) ?_ fun cdv A outer s H E hr => have hu := hu_of hr; have hu0 := hr.units0; ⟨_, (pss_cons (ps_if (pt_cmpR (op_neO T.x_System_eq T.x_System_eqF T.x_System_ne T.x_System_mro (ok_System_eq T) (hr.mono (by decide))) (pe_propR (pv 0) T.c_Desk T.p_Desk_system (ok_Desk_system T) (hr.mono (by decide)) pass0) (pe_ix (ix_tupK K) (pv 1) pe_int (fun _ _ => rfl)) (nomark _)) (pss_one (ps_ret pe_bl)) pss_nil)
    (pss_cons (ps_if (pt_cmpR op_ne (pe_propR (pv 0) T.c_Desk T.p_Desk_call_count (ok_Desk_call_count T) (hr.mono (by decide)) pass0) (pe_ix (ix_tupK K) (pv 1) pe_int (fun _ _ => rfl)) (nomark _)) (pss_one (ps_ret pe_bl)) pss_nil)
    (pss_cons (ps_if (pt_cmpR (op_neDK K hr.units) (pe_propR (pv 0) T.c_Desk T.p_Desk_kept (ok_Desk_kept T) (hr.mono (by decide)) pass0) (pe_callB (call_sortedD rfl) (by rfl) T.n_sorted (by decide +kernel) (pa_cons (pe_ix (ix_tupK K) (pv 1) pe_int (fun _ _ => rfl)) pa_nil)) (nomark _)) (pss_one (ps_ret pe_bl)) pss_nil)
    (pss_one (ps_ret (pe_cmpR (op_eqDK K hr.units) (pe_propR (pv 0) T.c_Desk T.p_Desk_history (ok_Desk_history T) (hr.mono (by decide)) pass0) (pv 2) (nomark _))))))), ?_⟩
  · rintro S ⟨I, J, ins, out⟩ ⟨dk, st, ds, F, sa, es, ns, m, hF, he, hs, hz, hl, h0, h1, h2, h3⟩
    dsimp only at h2 ⊢
    subst h2
    rfl
  · rintro S ⟨I, J, ins, out⟩ ⟨dk, st, ds, F, sa, es, ns, m, hF, he, hs, hz, hl, h0, h1, h2, h3⟩
    dsimp only at h0
    subst h0
    dsimp only at h1 h2 h3
    subst h1 h2 h3
    have hk : (shelfF K sa es m.now.shelf).map Prod.fst = (m.now.shelf.map Prod.fst).map Sum.inr := by rw [List.map_map, List.map_map]; rfl
    have hlen : (m.now.shelf.map Prod.fst).length < 64 := by rw [List.length_map]; have := hs.few; omega
    refine gs_ifs (GT.to (gt_val (K := K) (ge_op (ge_propD hF (ge_var rfl) ⟨dk, st, ds, F, sa, es, m, hF, rfl, rfl, rfl, rfl⟩) (ge_op (ge_var rfl) (ge_int (K := K)) (gr_ixT (by decide) rfl)) (gr_neO (ob_ins (m := "") rfl) (ob_ins (m := "") rfl) ⟨sa, es, m.now.rows, (fun r hr => st_all' (hs.rows.ok r hr)), hs.rows.nd he, rfl, rfl, rfl⟩))) rfl) (fun b1 => Bool.noConfusion b1) (fun _ => gs_nextS ?_)
    refine gs_ifs (gt_val (K := K) (ge_op (ge_propD hF (ge_var rfl) ⟨dk, st, ds, F, sa, es, m, hF, rfl, rfl, rfl, rfl⟩) (ge_op (ge_var rfl) (ge_int (K := K)) (gr_ixT (by decide) rfl)) gr_neI)) (fun b1 => gs_never (by rw [decide_eq_true rfl] at b1; cases b1)) (fun _ => gs_nextS ?_)
    refine gs_ifs (gt_val (K := K) (ge_op (ge_propD hF (ge_var rfl) ⟨dk, st, ds, F, sa, es, m, hF, by have := hs.few; omega, rfl, rfl, rfl, rfl⟩) (ge_cb (ga_cons (ge_op (ge_var rfl) (ge_int (K := K)) (gr_ixT (by decide) rfl)) ga_nil) (gc_sortedD (K := K) (ks := m.now.shelf.map Prod.fst) hk hlen)) (gr_exs2 (χ := Is K (.bool false)) fun ys zs h1 h2 => by
      have e := sorted_same hs.nd h1 h2
      subst e
      have sh : SeqAt.shaped (.list (ys.map .str)) = true := shaped_strs fun x hx => by
        obtain ⟨q, hq, e⟩ := List.mem_map.mp (h1.1.mem_iff.mp hx)
        rw [← e]
        exact (xy_word _ (hs.ok q hq).1).2.2
      have g := gr_neD (S := S) (K := K) (I := F (stF K sa es m)) sh sh
      rw [PyData.eqv, eqv_strs] at g
      exact g))) (fun b1 => Bool.noConfusion b1) (fun _ => gs_nextS ?_)
    have sh : SeqAt.shaped (.list (m.past.map fun p => p.1.d)) = true := by
      have := shaped_ops (ops := m.past.map Prod.fst) fun op hop => by
        obtain ⟨p, h1, h2⟩ := List.mem_map.mp hop
        rw [← h2]
        exact hl p h1
      rwa [List.map_map] at this
    exact gs_ret (ge_op (ge_propD hF (ge_var rfl) ⟨dk, st, ds, F, sa, es, m, hF, hz, rfl, rfl, rfl, rfl⟩) (ge_var rfl) (gr_eqD sh sh)) fun v H j p => ⟨by rw [eqv_all (fun p => eqv_op p.1)] at p; exact p, j⟩
    all_goals skip
-- slots: 0=_law_desk 1=_law_scene 2=_law_operations  uses: ['Desk.system', 'Desk.call_count', 'Desk.kept', 'Desk.history']

end
end Hs
set_option Elab.async false
set_option linter.all false
set_option maxRecDepth 100000
set_option maxHeartbeats 4000000
namespace Hs
open PySem PySem.Spec PyProof.Rows L2 StX
section
variable {P : Program} {w : World} {K : PySem.W.Frag} {mg : Str → Option Value} {base : Heap}
abbrev N_Desk_tried : List Str := ["self", "operations", "keep", "trial", "found"]
theorem sc_Desk_tried : FnScope N_Desk_tried ["self", "operations", "keep"] (defScope s_Desk_tried) := ⟨rfl, rfl, rfl, by decide +kernel, rfl, by decide +kernel, by decide +kernel⟩
theorem ok_Desk_tried (T : Tz w K mg) : FnR P w K mg base CX0 11 (a_Desk_tried K) (spC (ct_Desk_tried K)) := by
  obtain ⟨fd, F⟩ := T.f_Desk_tried
  have nd := sc_Desk_tried.nd
  refine ok_of (He5.fun_of F) sc_Desk_tried (F.bindsN fun _ _ _ _ _ _ us hl => match us, hl with | [_, _, _], _ => rfl) ?_ fun cdv A outer s H E hr => have hu := hu_of hr; have hu0 := hr.units0; ⟨_, (pss_cons (ps_with T.w_Trial (ok_Trial_enter T.toTy) (ok_Trial_exit T.toTy) (hr.mono (by decide)) (hr.mono (by decide)) (i := 3) nd rfl (.inl rfl) (pe_makeR T.mk_Trial (ok_Trial_init T.toTy) (hr.mono (by decide)) rfl T.g_Trial pass0 (pa_cons (pv 0) pa_nil))
    (pss_cons (ps_set (i := 4) nd rfl (.inl rfl) (pe_methR (pv 0) T.c_Desk T.m_Desk_apply_all (ok_Desk_apply_all T) (hr.mono (by decide)) pass0 (pa_cons (pv 1) pa_nil)))
    (pss_one (ps_if (pt_val (pv 2)) (pss_one (ps_expr (pe_methR0 (pv 3) T.c_Trial T.m_Trial_hold (ok_Trial_hold T.toTy) (hr.mono (by decide)) pass0))) pss_nil))))
    (pss_one (ps_ret (pv 4)))), ?_⟩
  · rintro S ⟨I, J, ins, out⟩ ⟨dk, st, ds, F, sa, es, ns, m, ops, keep, hF, he, hs, hc, hz, h0, h1, h2, h3⟩
    dsimp only at h2 ⊢
    subst h2
    rfl
  · rintro S ⟨I, J, ins, out⟩ ⟨dk, st, ds, F, sa, es, ns, m, ops, keep, hF, he, hs, hc, hz, h0, h1, h2, h3⟩
    dsimp only at h0
    subst h0
    dsimp only at h1 h2 h3
    subst h1 h2 h3
    refine gs_seqX (gs_with (β := Unit) (P := fun _ => True) (Δ := fun _ => [some (Eqv (.ref dk)), some (ListD K (ops.map Op.d)), some (Is K (.bool keep)), none, some (ListD K (duesS es m.now ops))]) (hb := fun _ => keep) (φb := fun _ => stF K sa es (goAll es m ops)) hF (ga_cons (ge_var rfl) ga_nil) (fun _ _ => stF_five) fun T' x s2 d2 G sT hG hT => ?_) fun _ _ => gs_ret (ge_var rfl) fun v H hj hp => ⟨hp, ?_⟩
    · refine gs_seq (gs_set (ge_methD (hG false) rfl (ge_var rfl) (ga_cons (ge_var rfl) ga_nil) ⟨dk, s2, d2, G false, sa, es, ns, m, ops, hG false, he, hs, hc, hz, rfl, rfl, rfl, rfl⟩)) ?_
      refine gs_if (gt_valB (K := K) (ge_var rfl)) (fun b1 => ?_) (fun b1 => ?_)
      · subst b1
        exact (gs_drop (ge_hold hT (ge_var rfl))).wk fun σ H ⟨e, j⟩ => ⟨(), trivial, e.sub (.s (.s (.s (.n (.s .nil))))), j⟩
      · subst b1
        exact gs_next.wk fun σ H ⟨e, j⟩ => ⟨(), trivial, e.sub (.s (.s (.s (.n (.s .nil))))), j⟩
    · cases keep <;> exact hj
    all_goals skip
-- slots: 0=self 1=operations 2=keep 3=trial 4=found  uses: ['Trial.__enter__', 'Trial.__exit__', 'Trial.__init__', 'Desk.apply_all', 'Trial.hold']

end
end Hs
set_option Elab.async false
set_option linter.all false
set_option maxRecDepth 100000
set_option maxHeartbeats 4000000
namespace Hs
open PySem PySem.Spec PyProof.Rows L2 StX
section
variable {P : Program} {w : World} {K : PySem.W.Frag} {mg : Str → Option Value} {base : Heap}
abbrev N_Desk_replay : List Str := ["cls", "system", "operations", "desk"]
theorem sc_Desk_replay : FnScope N_Desk_replay ["cls", "system", "operations"] (defScope s_Desk_replay) := ⟨rfl, rfl, rfl, by decide +kernel, rfl, by decide +kernel, by decide +kernel⟩
theorem ok_Desk_replay (T : Tz w K mg) : FnR P w K mg base CX0 11 (a_Desk_replay K) (spRepl K) := by
  obtain ⟨fd, F⟩ := T.f_Desk_replay
  have nd := sc_Desk_replay.nd
  have h : FnOk P w K mg base CX0 11 (a_Desk_replay K) fd ["cls", "system", "operations"] (spRepl K) := (He5.fun_of F).ok sc_Desk_replay (fun vs H Q E hh => by obtain ⟨S, I, sa, es, ns, R, ops, v, u, rfl, hi, hv, hu2, he, hR, hc, hz, q⟩ := hh; rfl) fun cdv A outer s H vs Q E hr hsp => ⟨_, (pss_cons (ps_set (i := 3) nd rfl (.inl rfl) (pe_makeV T.mk_Desk (ok_Desk_init T.toTy) (hr.mono (by decide)) (i := 0) rfl pass0 (pa_cons (pv 1) pa_nil)))
    (pss_cons (ps_expr (pe_methR (pv 3) T.c_Desk T.m_Desk_apply_all (ok_Desk_apply_all T) (hr.mono (by decide)) pass0 (pa_cons (pv 2) pa_nil)))
    (pss_one (ps_ret (pv 3))))), by
    obtain ⟨S, I, sa, es, ns, R, ops, v, u, rfl, hi, hv, hu2, he, hR, hc, hz, q⟩ := hsp
    refine ⟨rfl, _, rfl, fun x dx hx hdx hne => ⟨x, v, dx, rfl, upd_same, fun H' st ds pt pu pd h1 h2 h3 h4 h5 n1 n2 e k0 k1 k2 k3 k4 k5 => ⟨rfl, ?_⟩⟩⟩
    have g := fun {p : Addr} (h : (upd (upd H dx (.own x)) x (.ins (C_Desk K) dx [])) p = none) => (upd_none (upd_none h).1).1
    have sm : Same H H' := fun a o ha => e a o (ne_of_none ha hx) (by rw [upd_ne (ne_of_none ha hx), upd_ne (ne_of_none ha hdx)]; exact ha)
    have sub : ∀ a, NdS S x st ds a → S a ∨ H a = none := fun a z => z.elim .inl fun z => .inr (z.elim (fun z => by rw [z]; exact hx) fun z => z.elim (fun z => by rw [z]; exact g h1) fun z => by rw [z]; exact g h2)
    refine ⟨_, rfl, x, dx, _, rfl, k0, rfl, _, rfl, NdS S x st ds, ⟨_, _, [Eqv (.ref x), ListD K (ops.map Op.d)], _⟩, ⟨x, st, ds, IV.dsk K I x dx st ds, sa, es, ns, dm0 R, ops, dsk_dk, he, ⟨hR, List.nodup_nil, fun r hr => nomatch hr⟩, hc, by show 0 + ops.length ≤ 900; omega, rfl, rfl, rfl, rfl⟩, dsk_new hi hv hx (g h1) (g h2) (g h3) (g h4) (g h5) sm k0 k1 k2 k3 k4 k5, ⟨_, _, rfl, rfl, _, _, rfl, (ListD K (ops.map Op.d)).xe (XE.of sm) ((ListD K (ops.map Op.d)).lift sub hu2), rfl⟩, fun v2 H2 l2 j2 p2 => ?_⟩
    refine ⟨_, rfl, q H2 x dx st ds hx (g h1) (g h2) (fun a o hn ha => l2 a o (fun z => ?_) (sm a o ha)) j2⟩
    rcases sub a z with z | z
    · exact hn z
    · rw [z] at ha
      cases ha⟩
  exact (h.raw (F.bindsN fun _ _ _ _ _ _ us hl => match us, hl with | [_, _, _], _ => rfl) .nil).imp fun vs H Q E q => by rw [List.append_nil]; exact q
-- slots: 0=cls 1=system 2=operations 3=desk  uses: ['Desk.__init__', 'Desk.apply_all']

end
end Hs
set_option Elab.async false
set_option linter.all false
set_option maxRecDepth 100000
set_option maxHeartbeats 4000000
namespace Hs
open PySem PySem.Spec PyProof.Rows L2 StX
section
variable {P : Program} {w : World} {K : PySem.W.Frag} {mg : Str → Option Value} {base : Heap}
abbrev N_law : List Str := ["_law_script", "_law_row", "_law_some_here", "_law_system", "_law_desk", "_law_past", "_law_future", "_law_turn", "_law_sort_of", "_law_operation", "_law_scene", "_law_due", "_law_operations", "_law_told", "_law_one"]
theorem sc_law : FnScope N_law ["_law_script"] (defScope s_law) := ⟨rfl, rfl, rfl, by decide +kernel, rfl, by decide +kernel, by decide +kernel⟩
/-- the law, by its script -/
def spLaw (K : PySem.W.Frag) : Sp := fun vs H Q _ => ∃ (a : Addr) (sc : List Int), vs = [.ref a] ∧ SqL K H a (sc.map V.int) ∧ ∀ H', Q (.bl true) H'
theorem ok_law (T : Tz w K mg) {fd : FuncData} (F : FunD K "law" "law" (defArgs s_law) (defBody s_law) (defScope s_law) [] [] (a_law K) fd) : FnOk P w K mg base CX0 13 (a_law K) fd ["_law_script"] (spLaw K) := by
  have nd := sc_law.nd
  obtain ⟨mc, pr, cR, cM⟩ := T.cr_Desk
  exact (He5.fun_of F).ok sc_law (fun vs H Q E hh => by obtain ⟨a, sc, rfl, _⟩ := hh; rfl) fun cdv A outer s H vs Q E hr hsp => have hu := hu_of hr; have hu0 := hr.units0; ⟨_, (pss_cons (ps_set (i := 1) nd rfl (.inl rfl) (pe_lst (pa_cons (pv 0) (pa_cons pe_int (pa_cons pe_int (pa_cons pe_int pa_nil))))))
    (pss_cons (ps_set (i := 2) nd rfl (.inl rfl) (pe_callR (ok_law_editions T.toTy.toTx) (hr.mono (by decide)) rfl T.g__law_editions T.k__law_editions pass0 (pa_cons (pv 1) (pa_cons pe_int (pa_cons pe_int pa_nil)))))
    (pss_cons (ps_set (i := 3) nd rfl (.inl rfl) (pe_makeR T.mk_System (ok_System_init T.toTy.toTx) (hr.mono (by decide)) rfl T.g_System pass0 (pa_cons (pe_callR (ok_law_store T.toTy.toTx) (hr.mono (by decide)) rfl T.g__law_store T.k__law_store pass0 (pa_cons (pv 2) pa_nil)) (pa_cons (pe_callR (ok_law_states T.toTy.toTx) (hr.mono (by decide)) rfl T.g__law_states T.k__law_states pass0 (pa_cons (pv 1) (pa_cons (pv 2) pa_nil))) pa_nil))))
    (pss_cons (ps_par3 (by rfl) nd (i := 4) (j := 5) (l := 6) rfl rfl rfl (by decide) (by decide) (by decide) rfl rfl rfl (pa_cons (pe_makeR T.mk_Desk (ok_Desk_init T.toTy) (hr.mono (by decide)) rfl T.g_Desk pass0 (pa_cons (pv 3) pa_nil)) (pa_cons (pe_lst (pa_cons (pe_tup (pa_cons (pe_tup (pa_cons (pv 3) (pa_cons pe_int (pa_cons pe_dnewK pa_nil)))) (pa_cons pe_non pa_nil))) pa_nil)) (pa_cons (pe_lst pa_nil) pa_nil))) (by rfl))
    (pss_cons (ps_for PassesOwn.never rfl (pi_range1 rfl T.n_range (pa_cons (pe_callR (ok_taken T.toTy.toTx) (hr.mono (by decide)) rfl T.g__law_taken T.k__law_taken pass0 (pa_cons (pv 1) (pa_cons pe_int pa_nil))) pa_nil)) (pg_name (i := 7) nd rfl (.inl rfl))
    (pss_cons (ps_set (i := 8) nd rfl (.inl rfl) (pe_callR (ok_taken T.toTy.toTx) (hr.mono (by decide)) rfl T.g__law_taken T.k__law_taken pass0 (pa_cons (pv 1) (pa_cons pe_int pa_nil))))
    (pss_cons (ps_if (pt_cmpR op_eq (pv 8) pe_int (nomark _)) (pss_cons (ps_if (pt_cmpR op_ne (pe_methR0 (pv 4) T.c_Desk T.m_Desk_undo (ok_Desk_undo T.toTy) (hr.mono (by decide)) pass0) (pe_cmpR op_gt (pe_callB call_len_seq (by rfl) T.n_len PySem.boot_len (pa_cons (pv 5) pa_nil)) pe_int (nomark _)) (nomark _)) (pss_one (ps_ret pe_bl)) pss_nil)
    (pss_one (ps_set (i := 6) nd rfl (.inl rfl) (pe_op op_cat (pv 6) (pe_ifExp (pt_cmpR op_gt (pe_callB call_len_seq (by rfl) T.n_len PySem.boot_len (pa_cons (pv 5) pa_nil)) pe_int (nomark _)) (pe_lst (pa_cons (pe_bm0 PySem.F.plainAttrs_list PySem.F.slot_list_pop PySem.F.type_list_pop mt_pop (pv 5)) pa_nil)) (pe_lst pa_nil)))))) (pss_one (ps_if (pt_cmpR op_eq (pv 8) pe_int (nomark _)) (pss_cons (ps_if (pt_cmpR op_ne (pe_methR0 (pv 4) T.c_Desk T.m_Desk_redo (ok_Desk_redo T.toTy) (hr.mono (by decide)) pass0) (pe_cmpR (op_neE hu0) (pv 6) (pe_lst pa_nil) (nomark _)) (nomark _)) (pss_one (ps_ret pe_bl)) pss_nil)
    (pss_one (ps_set (i := 5) nd rfl (.inl rfl) (pe_op op_cat (pv 5) (pe_ifExp (pt_cmpR (op_neE hu0) (pv 6) (pe_lst pa_nil) (nomark _)) (pe_lst (pa_cons (pe_bm0 PySem.F.plainAttrs_list PySem.F.slot_list_pop PySem.F.type_list_pop mt_pop (pv 6)) pa_nil)) (pe_lst pa_nil)))))) (pss_cons (ps_asg (pe_callR (ok_law_step T.toTy.toTx) (hr.mono (by decide)) rfl T.g__law_step T.k__law_step pass0 (pa_cons (pv 1) (pa_cons (pv 2) (pa_cons (pe_ix (ix_tupK K) (pe_ix (ix_listK K) (pv 5) (pe_un un_neg pe_int) (fun _ _ => rfl)) pe_int (fun _ _ => rfl)) pa_nil)))) (pg_tupK K rfl (pgs_cons (pg_name (i := 9) nd rfl (.inl rfl)) (pgs_cons (pg_name (i := 10) nd rfl (.inl rfl)) (pgs_cons (pg_name (i := 11) nd rfl (.inl rfl)) pgs_nil)))))
    (pss_cons (ps_if (pt_cmpR (op_neDK K hr.units) (pe_methR (pv 4) T.c_Desk T.m_Desk_apply_all (ok_Desk_apply_all T) (hr.mono (by decide)) pass0 (pa_cons (pe_lst (pa_cons (pv 9) pa_nil)) pa_nil)) (pe_lst (pa_cons (pv 11) pa_nil)) (nomark _)) (pss_one (ps_ret pe_bl)) pss_nil)
    (pss_one (ps_par (by rfl) nd (i := 5) (j := 6) rfl rfl (by decide) rfl rfl (pa_cons (pe_op op_cat (pv 5) (pe_lst (pa_cons (pe_tup (pa_cons (pv 10) (pa_cons (pv 9) pa_nil))) pa_nil))) (pa_cons (pe_lst pa_nil) pa_nil)) (by rfl))))))))
    (pss_one (ps_if (pt_not (pt_val (pe_callR (ok_law_shows T.toTy) (hr.mono (by decide)) rfl T.g__law_shows T.k__law_shows pass0 (pa_cons (pv 4) (pa_cons (pe_ix (ix_tupK K) (pe_ix (ix_listK K) (pv 5) (pe_un un_neg pe_int) (fun _ _ => rfl)) pe_int (fun _ _ => rfl)) (pa_cons (pe_lc (own := [("_law_one", 14)]) (g := gName 14) (tt := tYes) rfl nd (pi_listK K (pe_slice (sl_listK K) (pv 5) (po_some pe_int) po_none)) (blkOk_by (own := [("_law_one", 14)]) (N := N_law) (sc := defScope s_law) (by decide +kernel)) (fun _ _ _ _ _ => pg_name (i := 14) nd rfl (Or.inl rfl)) (fun _ _ _ _ _ => pts_nil) (fun _ _ _ _ _ => (pe_ix (ix_tupK K) (pv 14) pe_int (fun _ _ => rfl)))) pa_nil)))))) (pss_one (ps_ret pe_bl)) pss_nil)))))
    (pss_cons (ps_par3 (by rfl) nd (i := 12) (j := 10) (l := 13) rfl rfl rfl (by decide) (by decide) (by decide) rfl rfl rfl (pa_cons (pe_lst pa_nil) (pa_cons (pe_ix (ix_tupK K) (pe_ix (ix_listK K) (pv 5) (pe_un un_neg pe_int) (fun _ _ => rfl)) pe_int (fun _ _ => rfl)) (pa_cons (pe_lst pa_nil) pa_nil))) (by rfl))
    (pss_cons (ps_for PassesOwn.never rfl (pi_range1 rfl T.n_range (pa_cons (pe_callR (ok_taken T.toTy.toTx) (hr.mono (by decide)) rfl T.g__law_taken T.k__law_taken pass0 (pa_cons (pv 1) (pa_cons pe_int pa_nil))) pa_nil)) (pg_name (i := 7) nd rfl (.inl rfl))
    (pss_cons (ps_asg (pe_callR (ok_law_step T.toTy.toTx) (hr.mono (by decide)) rfl T.g__law_step T.k__law_step pass0 (pa_cons (pv 1) (pa_cons (pv 2) (pa_cons (pv 10) pa_nil)))) (pg_tupK K rfl (pgs_cons (pg_name (i := 9) nd rfl (.inl rfl)) (pgs_cons (pg_name (i := 10) nd rfl (.inl rfl)) (pgs_cons (pg_name (i := 11) nd rfl (.inl rfl)) pgs_nil)))))
    (pss_one (ps_par (by rfl) nd (i := 12) (j := 13) rfl rfl (by decide) rfl rfl (pa_cons (pe_op op_cat (pv 12) (pe_lst (pa_cons (pv 9) pa_nil))) (pa_cons (pe_op op_cat (pv 13) (pe_lst (pa_cons (pv 11) pa_nil))) pa_nil)) (by rfl)))))
    (pss_cons (ps_if (pt_cmpR (op_neDK K hr.units) (pe_methR (pv 4) T.c_Desk T.m_Desk_tried (ok_Desk_tried T) (hr.mono (by decide)) pass0 (pa_cons (pv 12) (pa_cons pe_bl pa_nil))) (pv 13) (nomark _)) (pss_one (ps_ret pe_bl)) pss_nil)
    (pss_cons (ps_if (pt_not (pt_val (pe_callR (ok_law_shows T.toTy) (hr.mono (by decide)) rfl T.g__law_shows T.k__law_shows pass0 (pa_cons (pv 4) (pa_cons (pe_ix (ix_tupK K) (pe_ix (ix_listK K) (pv 5) (pe_un un_neg pe_int) (fun _ _ => rfl)) pe_int (fun _ _ => rfl)) (pa_cons (pe_lc (own := [("_law_one", 14)]) (g := gName 14) (tt := tYes) rfl nd (pi_listK K (pe_slice (sl_listK K) (pv 5) (po_some pe_int) po_none)) (blkOk_by (own := [("_law_one", 14)]) (N := N_law) (sc := defScope s_law) (by decide +kernel)) (fun _ _ _ _ _ => pg_name (i := 14) nd rfl (Or.inl rfl)) (fun _ _ _ _ _ => pts_nil) (fun _ _ _ _ _ => (pe_ix (ix_tupK K) (pv 14) pe_int (fun _ _ => rfl)))) pa_nil)))))) (pss_one (ps_ret pe_bl)) pss_nil)
    (pss_cons (ps_if (PW.pt (pw_or (pt_cmpR op_ne (pe_methR0 (pv 4) T.c_Desk T.m_Desk_redo (ok_Desk_redo T.toTy) (hr.mono (by decide)) pass0) (pe_cmpR (op_neE hu0) (pv 6) (pe_lst pa_nil) (nomark _)) (nomark _)) (pw_or1 (PW.pt (pw_and (pt_cmpR (op_neE hu0) (pv 6) (pe_lst pa_nil) (nomark _)) (pw_and1 (pt_cmpR op_notBl (pe_methR0 (pv 4) T.c_Desk T.m_Desk_undo (ok_Desk_undo T.toTy) (hr.mono (by decide)) pass0) pe_bl (nomark _)))))))) (pss_one (ps_ret pe_bl)) pss_nil)
    (pss_cons (ps_if (pt_cmpR (op_neDK K hr.units) (pe_methR (pv 4) T.c_Desk T.m_Desk_tried (ok_Desk_tried T) (hr.mono (by decide)) pass0 (pa_cons (pv 12) (pa_cons pe_bl pa_nil))) (pv 13) (nomark _)) (pss_one (ps_ret pe_bl)) pss_nil)
    (pss_cons (ps_if (pt_not (pt_val (pe_callR (ok_law_shows T.toTy) (hr.mono (by decide)) rfl T.g__law_shows T.k__law_shows pass0 (pa_cons (pv 4) (pa_cons (pv 10) (pa_cons (pe_op op_cat (pe_lc (own := [("_law_one", 14)]) (g := gName 14) (tt := tYes) rfl nd (pi_listK K (pe_slice (sl_listK K) (pv 5) (po_some pe_int) po_none)) (blkOk_by (own := [("_law_one", 14)]) (N := N_law) (sc := defScope s_law) (by decide +kernel)) (fun _ _ _ _ _ => pg_name (i := 14) nd rfl (Or.inl rfl)) (fun _ _ _ _ _ => pts_nil) (fun _ _ _ _ _ => (pe_ix (ix_tupK K) (pv 14) pe_int (fun _ _ => rfl)))) (pv 12)) pa_nil)))))) (pss_one (ps_ret pe_bl)) pss_nil)
    (pss_one (ps_ret (pe_callR (ok_law_shows T.toTy) (hr.mono (by decide)) rfl T.g__law_shows T.k__law_shows pass0 (pa_cons (ClX.pe_cmeth (pe_glob (v := .ref _) rfl T.g_Desk rfl) cR cM (ok_Desk_replay T) (hr.mono (by decide)) pass0 (pa_cons (pv 3) (pa_cons (pe_propR (pv 4) T.c_Desk T.p_Desk_history (ok_Desk_history T.toTy) (hr.mono (by decide)) pass0) pa_nil))) (pa_cons (pv 10) (pa_cons (pe_propR (pv 4) T.c_Desk T.p_Desk_history (ok_Desk_history T.toTy) (hr.mono (by decide)) pass0) pa_nil)))))))))))))))))), by
    obtain ⟨a, sc, rfl, hs, q⟩ := hsp
    exact law_reads (K := K) (sc := sc) (hs.elim (fun z => .inl ⟨id, z⟩) .inr) { nx := fun x H' => Q V.non H', rt := Q } q⟩
-- slots: 0=_law_script 1=_law_row 2=_law_some_here 3=_law_system 4=_law_desk 5=_law_past 6=_law_future 7=_law_turn 8=_law_sort_of 9=_law_operation 10=_law_scene 11=_law_due 12=_law_operations 13=_law_told 14=_law_one  uses: ['_law_editions', 'System.__init__', '_law_store', '_law_states', 'Desk.__init__', '_law_taken', 'Desk.undo', 'Desk.redo', '_law_step', 'Desk.apply_all', '_law_shows', 'Desk.tried', 'Desk.replay', 'Desk.history']

end
end Hs
set_option Elab.async false
set_option linter.all false
set_option maxRecDepth 100000
set_option maxHeartbeats 0
namespace Hs
open PySem PySem.Spec PyProof.Rows L2
theorem runW (w : World) : HandSHeadRun.RunEq RW (PySem.W.view RW.prog [90]) hookW obW 12000 lo w :=
  PySem.W.byRow2 "special-get-raises" (P := fun w => HandSHeadRun.RunEq RW (PySem.W.view RW.prog [90]) hookW obW 12000 lo w) runA runB w
end Hs
open PySem PySem.W PySem.Calls PyProof.Rows
theorem PySem.Challenge.cw_halfsetup_k76_whole_desks_of_long_histor_holds : PySem.Challenge.rw_halfsetup_k76_whole_desks_of_long_histor.Holds := by
  w_on; o_law
  refine HandSHeadRun.head_any (r := OpenLaw.row PySem.Challenge.rw_halfsetup_k76_whole_desks_of_long_histor) (q := view (OpenLaw.row PySem.Challenge.rw_halfsetup_k76_whole_desks_of_long_histor).prog [90]) (H := Hs.hookW) (ob := Hs.obW) (M := 12000) (loose := Hs.lo) (d := HandSHeadRun.topDef (OpenLaw.row PySem.Challenge.rw_halfsetup_k76_whole_desks_of_long_histor).prog 90) (kwd := []) Hs.obW_eq
    (by kernel_rfl) (fun s => by kernel_rfl) Hs.runW (by kernel_rfl) (by kernel_rfl) (by kernel_rfl) (by rfl) (by first | assumption | decide +kernel) (by decide +kernel) ⟨rfl, rfl, rfl, rfl, rfl, by decide +kernel⟩ ?hw ?hc
  case hw => w_witness2
  case hc =>
    refine L2.walk_ofE (l := PySem.Challenge.rw_halfsetup_k76_whole_desks_of_long_histor) (n := 63) (k := 13) (x := "_law_script") (CX := L2.CX0) rfl (by decide) (by kernel_rfl) ⟨rfl, by decide, by decide⟩ ?F (fun _ _ _ _ z => z)
    intro w mg fa h Y G hmg0
    obtain ⟨K, KX, c⟩ := Y
    have hmg : mg ("law" : PySem.Str) = some (.ref fa) := by
      have e : (HandSHeadRun.topDef (OpenLaw.row PySem.Challenge.rw_halfsetup_k76_whole_desks_of_long_histor).prog 90).name = ("law" : PySem.Str) := by kernel_rfl
      rw [← e]
      exact hmg0
    have T : Hs.Tz w K mg := Hs.tz_of KX G c
    have e := hmg.symm.trans T.g_law
    cases e
    obtain ⟨fd, F⟩ := T.f_law
    have b := L2.FunD.bindsA (ps := ["_law_script"]) F fun _ _ _ _ _ _ us hl => match us, hl with | [_], _ => rfl
    refine ⟨K, fd, Hs.spLaw K, KX, fun s v => b s [v] rfl, fun H a ns hl _ hS => ⟨a, ns, rfl, hS, fun _ => rfl⟩, fun base _ _ => ?_⟩
    exact Hs.ok_law T F
