import PyProof.Rows.All
import Wide.All
import OpenK.AllK
import Wide.FinOn
import HandS.ForMost
import HandS.Exc
import HandS.Evl
import HandS.Wide
import HandS.TupAny
import HandS.Flow
import HandS.IsInst
import HandS.Deep
import HandS.RaiseMore
import HandS.Walk
import HandS.Dict
import HandS.More
import HandS.SortInts
import HandS.TupMul
import HandS.DictComp
import HandS.Small
import HandS.Style
import KE.KTupSum
import KE.DataFind
import PyProof.ReprRoads
import HandS.Defaults
import HandS.Head0
import HandS.Head1
import HandS.Head2
import HandS.HeadEnd
import HandS.HeadHook1
import HandS.HeadHook2
import PyProof.ReprBulk
import PyProof.FitsInt
import KE.DataEq
import HandS.Conv
import PyProof.P3In
import KE.KExcSuper
import KE.KSuper
import HandS.ExcInit
import PyProof.AssignAttr
import KE.KExcIs
import HandS.HotCalls
import HandS.ExcField
import PyProof.Rows.CountFlat
import KE.GoesMore
import KE.DataMinMax
import KE.GoesZip
import KE.GoesEnum
import PySem.Challenge.RW_hoardsread_k19_units
import KE.SortData
set_option Elab.async false
set_option linter.all false
set_option autoImplicit false
set_option maxRecDepth 100000
namespace Mini
open PySem PySem.Spec PyProof.Rows L2 Evl

/-! ### data -/
inductive D where
  | non | bl (b : Bool) | int (i : Int) | str (s : Str) | tup (ds : List D) | tpx (ds : List D) | lst (ds : List D) | dic (es : List (Key × D)) | dit (es : List (List Key × D)) | fn (n : Nat) | st | scr (ns : List Int)
abbrev DS := Option (List D)
inductive Res (α : Type) where
  | ok (a : α) (S : DS) | er (n : Nat) (p : D) (S : DS) | no
abbrev M (α : Type) := DS → Res α
def rt {α : Type} (a : α) : M α := fun S => .ok a S
def no {α : Type} : M α := fun _ => .no
def bd {α β : Type} (m : M α) (f : α → M β) : M β := fun S => match m S with
  | .ok a S' => f a S'
  | .er n p S' => .er n p S'
  | .no => .no
def lift {α : Type} (o : Option α) : M α := match o with
  | some a => rt a
  | none => no
inductive Slot where
  | no | vl (d : D) | ow (d : D)
abbrev En := List Slot
abbrev FE := En → M D
abbrev FB := En → M Bool
abbrev FA := En → M (List D)
inductive Fl where
  | nx (ρ : En) | rt (d : D) | bk (ρ : En) | ct (ρ : En)
abbrev FS := En → M Fl

/-! ### which value stands for which data -/
structure Wd where
  H0 : Hp
  sa : Option Addr
structure Cn where
  fa : Nat → Option Addr
  ca : Nat → Addr
  fld : Nat → Str
def kD : Key → D
  | .inl i => .int i
  | .inr x => .str x
/-- a text within the model's bounds -/
abbrev SOk (s : Str) : Prop := s.length ≤ 16777216 ∧ PyData.strOk s = true
section
variable (K : PySem.W.Frag) (c : Cn) (W : Wd)
mutual
def Rep : D → V → Prop
  | .non, v => v = .non
  | .bl b, v => v = .bl b
  | .int i, v => v = .int i
  | .str s, v => v = .str s ∧ SOk s
  | .tup ds, v => ∃ a vs, v = .ref a ∧ W.H0 a = some (.tup vs) ∧ RepL ds vs
  | .tpx ds, v => ∃ a vs o, v = .ref a ∧ W.H0 a = some (.frz o (.tup vs)) ∧ o.dict = none ∧ RepL ds vs
  | .lst ds, v => ∃ a vs, v = .ref a ∧ W.H0 a = some (.lst vs) ∧ RepL ds vs
  | .dic es, v => ∃ a kvs, v = .ref a ∧ W.H0 a = some (.dK kvs) ∧ RepE es kvs
  | .dit es, v => ∃ a kvs, v = .ref a ∧ W.H0 a = some (.dT kvs) ∧ RepT es kvs
  | .fn n, v => ∃ a, v = .ref a ∧ c.fa n = some a
  | .st, v => ∃ a, v = .ref a ∧ W.sa = some a
  | .scr ns, v => ∃ a, v = .ref a ∧ SqL K W.H0 a (ns.map V.int)
def RepL : List D → List V → Prop
  | [], vs => vs = []
  | d :: ds, vs => ∃ v r, vs = v :: r ∧ Rep d v ∧ RepL ds r
def RepE : List (Key × D) → List (Key × V) → Prop
  | [], vs => vs = []
  | e :: es, vs => ∃ v r, vs = (e.1, v) :: r ∧ RepP e v ∧ RepE es r
def RepP : Key × D → V → Prop
  | (_, d), v => Rep d v
def RepT : List (List Key × D) → List (List Key × V) → Prop
  | [], vs => vs = []
  | e :: es, vs => ∃ v r, vs = (e.1, v) :: r ∧ RepQ e v ∧ RepT es r
def RepQ : List Key × D → V → Prop
  | (_, d), v => Rep d v
end
end
def WEx (W W' : Wd) : Prop := Ex W.H0 W'.H0 ∧ ∀ a, W.sa = some a → W'.sa = some a
theorem WEx.refl (W : Wd) : WEx W W := ⟨Ex.refl _, fun _ h => h⟩
theorem WEx.trans {W W1 W2 : Wd} (h : WEx W W1) (k : WEx W1 W2) : WEx W W2 := ⟨h.1.trans k.1, fun a e => k.2 a (h.2 a e)⟩
section
variable {K : PySem.W.Frag} {c : Cn} {W W' : Wd}
mutual
theorem Rep.ext (e : WEx W W') : ∀ (d : D) (v : V), Rep K c W d v → Rep K c W' d v
  | .non, v, h => h
  | .bl b, v, h => h
  | .int i, v, h => h
  | .str s, v, h => h
  | .tup ds, v, h => by
    obtain ⟨a, vs, h1, h2, h3⟩ := h
    exact ⟨a, vs, h1, e.1 _ _ h2, RepL.ext e ds vs h3⟩
  | .tpx ds, v, h => by
    obtain ⟨a, vs, o, h1, h2, h3, h4⟩ := h
    exact ⟨a, vs, o, h1, e.1 _ _ h2, h3, RepL.ext e ds vs h4⟩
  | .lst ds, v, h => by
    obtain ⟨a, vs, h1, h2, h3⟩ := h
    exact ⟨a, vs, h1, e.1 _ _ h2, RepL.ext e ds vs h3⟩
  | .dic es, v, h => by
    obtain ⟨a, kvs, h1, h2, h3⟩ := h
    exact ⟨a, kvs, h1, e.1 _ _ h2, RepE.ext e es _ h3⟩
  | .dit es, v, h => by
    obtain ⟨a, kvs, h1, h2, h3⟩ := h
    exact ⟨a, kvs, h1, e.1 _ _ h2, RepT.ext e es _ h3⟩
  | .fn n, v, h => h
  | .st, v, h => by
    obtain ⟨a, h1, h2⟩ := h
    exact ⟨a, h1, e.2 a h2⟩
  | .scr ns, v, h => by
    obtain ⟨a, h1, h2⟩ := h
    exact ⟨a, h1, ex_l e.1 h2⟩
theorem RepL.ext (e : WEx W W') : ∀ (ds : List D) (vs : List V), RepL K c W ds vs → RepL K c W' ds vs
  | [], vs, h => h
  | d :: ds, vs, h => by
    obtain ⟨v, r, h1, h2, h3⟩ := h
    exact ⟨v, r, h1, Rep.ext e d v h2, RepL.ext e ds r h3⟩
theorem RepE.ext (e : WEx W W') : ∀ (es : List (Key × D)) (vs : List (Key × V)), RepE K c W es vs → RepE K c W' es vs
  | [], vs, h => h
  | p :: es, vs, h => by
    obtain ⟨v, r, h1, h2, h3⟩ := h
    exact ⟨v, r, h1, RepP.ext e p v h2, RepE.ext e es r h3⟩
theorem RepP.ext (e : WEx W W') : ∀ (p : Key × D) (v : V), RepP K c W p v → RepP K c W' p v
  | (_, d), v, h => Rep.ext e d v h
theorem RepT.ext (e : WEx W W') : ∀ (es : List (List Key × D)) (vs : List (List Key × V)), RepT K c W es vs → RepT K c W' es vs
  | [], vs, h => h
  | p :: es, vs, h => by
    obtain ⟨v, r, h1, h2, h3⟩ := h
    exact ⟨v, r, h1, RepQ.ext e p v h2, RepT.ext e es r h3⟩
theorem RepQ.ext (e : WEx W W') : ∀ (p : List Key × D) (v : V), RepQ K c W p v → RepQ K c W' p v
  | (_, d), v, h => Rep.ext e d v h
end
end
end Mini
namespace Mini
open PySem PySem.Spec PyProof.Rows L2 Evl

/-! ### the state's relation -/
section
variable (K : PySem.W.Frag) (c : Cn)
/-- an object of our own: its content is known, it is not in the frozen part -/
def Own (W : Wd) (H : Hp) (a : Addr) : D → Prop
  | .lst ds => ∃ vs, H a = some (.lst vs) ∧ RepL K c W ds vs
  | .dic es => ∃ kvs, H a = some (.dK kvs) ∧ RepE K c W es kvs
  | .dit es => ∃ kvs, H a = some (.dT kvs) ∧ RepT K c W es kvs
  | _ => False
/-- the draws' state -/
def DsOk (W : Wd) (H : Hp) : DS → Prop
  | none => W.sa = none
  | some ds => ∃ a vs, W.sa = some a ∧ W.H0 a = none ∧ H a = some (.lst vs) ∧ RepL K c W ds vs
structure StOk (W : Wd) (H : Hp) (S : DS) : Prop where
  sub : Ex W.H0 H
  ds : DsOk K c W H S
structure EnvOk (W : Wd) (H : Hp) (σ : L2.St) (ρ : En) : Prop where
  len : ρ.length = σ.length
  vl : ∀ (i : Nat) (d : D), ρ[i]? = some (.vl d) → ∃ v, σ[i]? = some (some v) ∧ Rep K c W d v
  ow : ∀ (i : Nat) (d : D), ρ[i]? = some (.ow d) → ∃ a, σ[i]? = some (some (.ref a)) ∧ W.H0 a = none ∧ W.sa ≠ some a ∧ Own K c W H a d
  sep : ∀ (i j : Nat) (d e : D) (a : Addr), ρ[i]? = some (.ow d) → ρ[j]? = some (.ow e) → σ[i]? = some (some (.ref a)) → σ[j]? = some (some (.ref a)) → i = j
end
/-- what an evaluation leaves: all but the draws' state stands; what was not frozen and stood is not frozen behind it -/
structure Keep (W : Wd) (H : Hp) (W' : Wd) (H' : Hp) : Prop where
  wex : WEx W W'
  old : ∀ b o, H b = some o → W.sa ≠ some b → H' b = some o
  fr : ∀ b o, H b = some o → W.H0 b = none → W'.H0 b = none
  sa : ∀ b o, H b = some o → W'.sa = some b → W.sa = some b
theorem Keep.refl (W : Wd) (H : Hp) : Keep W H W H := ⟨WEx.refl W, fun _ _ h _ => h, fun _ _ _ h => h, fun _ _ _ h => h⟩
section
variable {K : PySem.W.Frag} {c : Cn} {W W1 W2 W' : Wd} {H H1 H2 H' : Hp} {S S1 : DS} {σ : L2.St} {ρ : En}
theorem DsOk.at (h : DsOk K c W H S) {a : Addr} (e : W.sa = some a) : ∃ o, H a = some o := by
  cases S with
  | none => rw [show W.sa = none from h] at e; cases e
  | some ds =>
    obtain ⟨b, vs, h1, h2, h3, h4⟩ := h
    rw [h1] at e
    cases e
    exact ⟨_, h3⟩
theorem Keep.trans (st : StOk K c W1 H1 S1) (k1 : Keep W H W1 H1) (k2 : Keep W1 H1 W2 H2) (hd : ∀ b, W.sa = some b → ∃ o, H1 b = some o) : Keep W H W2 H2 where
  wex := k1.wex.trans k2.wex
  old := fun b o h n => by
    have h1 := k1.old b o h n
    refine k2.old b o h1 fun e => n ?_
    exact k1.sa b o h e
  fr := fun b o h n => by
    by_cases hs : W.sa = some b
    · obtain ⟨o1, ho1⟩ := hd b hs
      exact k2.fr b o1 ho1 (k1.fr b o h n)
    · exact k2.fr b o (k1.old b o h hs) (k1.fr b o h n)
  sa := fun b o h e => by
    by_cases hs : W.sa = some b
    · exact hs
    · exact k1.sa b o h (k2.sa b o (k1.old b o h hs) e)
theorem Keep.tr (k1 : Keep W H W1 H1) (st : StOk K c W1 H1 S1) (k2 : Keep W1 H1 W2 H2) : Keep W H W2 H2 :=
  Keep.trans st k1 k2 fun b e => st.ds.at (k1.wex.2 b e)
theorem Own.ext (e : WEx W W') {a : Addr} (hH : ∀ o, H a = some o → H' a = some o) : ∀ {d : D}, Own K c W H a d → Own K c W' H' a d
  | .lst ds, h => by
    obtain ⟨vs, h1, h2⟩ := h
    exact ⟨vs, hH _ h1, RepL.ext e ds vs h2⟩
  | .dic es, h => by
    obtain ⟨vs, h1, h2⟩ := h
    exact ⟨vs, hH _ h1, RepE.ext e es vs h2⟩
  | .dit es, h => by
    obtain ⟨vs, h1, h2⟩ := h
    exact ⟨vs, hH _ h1, RepT.ext e es vs h2⟩
theorem Own.some : ∀ {d : D} {a : Addr}, Own K c W H a d → ∃ o, H a = some o
  | .lst ds, a, h => by obtain ⟨vs, h1, _⟩ := h; exact ⟨_, h1⟩
  | .dic es, a, h => by obtain ⟨vs, h1, _⟩ := h; exact ⟨_, h1⟩
  | .dit es, a, h => by obtain ⟨vs, h1, _⟩ := h; exact ⟨_, h1⟩
theorem EnvOk.ext (e : EnvOk K c W H σ ρ) (k : Keep W H W' H') : EnvOk K c W' H' σ ρ where
  len := e.len
  vl := fun i d h => by
    obtain ⟨v, h1, h2⟩ := e.vl i d h
    exact ⟨v, h1, Rep.ext k.wex d v h2⟩
  ow := fun i d h => by
    obtain ⟨a, h1, h2, h3, h4⟩ := e.ow i d h
    obtain ⟨o, ho⟩ := h4.some
    exact ⟨a, h1, k.fr a o ho h2, fun q => h3 (k.sa a o ho q), h4.ext k.wex fun o q => k.old a o q h3⟩
  sep := e.sep
/-- content view: frozen, or an object that stands -/
def RepB (K : PySem.W.Frag) (c : Cn) (W : Wd) (H : Hp) (d : D) (v : V) : Prop := Rep K c W d v ∨ ∃ a, v = .ref a ∧ W.sa ≠ some a ∧ Own K c W H a d
theorem RepB.ext (k : Keep W H W' H') {d : D} {v : V} (h : RepB K c W H d v) : RepB K c W' H' d v := by
  rcases h with h | ⟨a, h1, h2, h3⟩
  · exact .inl (Rep.ext k.wex d v h)
  · obtain ⟨o, ho⟩ := h3.some
    exact .inr ⟨a, h1, fun q => h2 (k.sa a o ho q), h3.ext k.wex fun o q => k.old a o q h2⟩
/-- a fresh object -/
def RepO (K : PySem.W.Frag) (c : Cn) (H0 : Hp) (W : Wd) (H : Hp) (d : D) (v : V) : Prop := ∃ a, v = .ref a ∧ H0 a = none ∧ W.H0 a = none ∧ W.sa ≠ some a ∧ Own K c W H a d
/-- freeze it -/
def Wd.frz (W : Wd) (a : Addr) (o : HO) : Wd := ⟨upd W.H0 a o, W.sa⟩
theorem frz_ex {a : Addr} {o : HO} (h : W.H0 a = none) : WEx W (W.frz a o) := ⟨Ex.new h, fun _ e => e⟩
theorem frz_st {a : Addr} {o : HO} (st : StOk K c W H S) (h : W.H0 a = none) (hs : W.sa ≠ some a) (ho : H a = some o) : StOk K c (W.frz a o) H S where
  sub := fun b u e => by
    by_cases hb : b = a
    · subst hb
      have e' : upd W.H0 b o b = some u := e
      rw [upd_same] at e'
      cases e'
      exact ho
    · have e' : upd W.H0 a o b = some u := e
      rw [upd_ne hb] at e'
      exact st.sub b u e'
  ds := by
    have d := st.ds
    cases S with
    | none => exact d
    | some ds =>
      obtain ⟨b, vs, h1, h2, h3, h4⟩ := d
      refine ⟨b, vs, h1, ?_, h3, RepL.ext (frz_ex h) ds vs h4⟩
      show upd W.H0 a o b = none
      rw [upd_ne (fun z => hs (by rw [← z]; exact h1))]
      exact h2
theorem frz_rep {a : Addr} {o : HO} (h : W.H0 a = none) (ho : H a = some o) : ∀ {d : D}, Own K c W H a d → Rep K c (W.frz a o) d (.ref a)
  | .lst ds, q => by
    obtain ⟨vs, h1, h2⟩ := q
    rw [ho] at h1
    cases h1
    exact ⟨a, vs, rfl, upd_same, RepL.ext (frz_ex h) ds vs h2⟩
  | .dic es, q => by
    obtain ⟨vs, h1, h2⟩ := q
    rw [ho] at h1
    cases h1
    exact ⟨a, vs, rfl, upd_same, RepE.ext (frz_ex h) es vs h2⟩
  | .dit es, q => by
    obtain ⟨vs, h1, h2⟩ := q
    rw [ho] at h1
    cases h1
    exact ⟨a, vs, rfl, upd_same, RepT.ext (frz_ex h) es vs h2⟩
theorem Keep.frz {a : Addr} {o : HO} (k : Keep W H W' H') (hn : H a = none) (h : W'.H0 a = none) : Keep W H (W'.frz a o) H' where
  wex := k.wex.trans (frz_ex h)
  old := k.old
  fr := fun b u hb e => by
    show upd W'.H0 a o b = none
    rw [upd_ne (ne_of_none hb hn)]
    exact k.fr b u hb e
  sa := k.sa
end

/-! ### readings that say: as the function says -/
/-- what is wanted of an error: class n, what it was given p -/
def ErQ (K : PySem.W.Frag) (c : Cn) (W : Wd) (H : Hp) (E : XK) (n : Nat) (p : D) (S : DS) : Prop :=
  ∀ W' H' dd v, StOk K c W' H' S → Keep W H W' H' → H' dd = some (.xd [(c.fld n, v)]) → Rep K c W' p v → E (.ref (c.ca n)) (some dd) H'
section
variable (K : PySem.W.Frag) (c : Cn) (E : XK)
def tM (f : FE) : TE := fun σ H Q => ∃ W ρ S, StOk K c W H S ∧ EnvOk K c W H σ ρ ∧ match f ρ S with
  | .ok d S' => ∀ W' H' v, StOk K c W' H' S' → Keep W H W' H' → Rep K c W' d v → Q v H'
  | .er n p S' => ErQ K c W H E n p S'
  | .no => False
def tB (f : FE) : TE := fun σ H Q => ∃ W ρ S, StOk K c W H S ∧ EnvOk K c W H σ ρ ∧ match f ρ S with
  | .ok d S' => ∀ W' H' v, StOk K c W' H' S' → Keep W H W' H' → RepB K c W' H' d v → Q v H'
  | .er n p S' => ErQ K c W H E n p S'
  | .no => False
def tO (f : FE) : TE := fun σ H Q => ∃ W ρ S, StOk K c W H S ∧ EnvOk K c W H σ ρ ∧ match f ρ S with
  | .ok d S' => ∀ W' H' v, StOk K c W' H' S' → Keep W H W' H' → RepO K c H W' H' d v → Q v H'
  | .er n p S' => ErQ K c W H E n p S'
  | .no => False
def tT (f : FB) : TT := fun σ H Q => ∃ W ρ S, StOk K c W H S ∧ EnvOk K c W H σ ρ ∧ match f ρ S with
  | .ok d S' => ∀ W' H', StOk K c W' H' S' → Keep W H W' H' → Q d H'
  | .er n p S' => ErQ K c W H E n p S'
  | .no => False
def tA (f : FA) : TA := fun σ H Q => ∃ W ρ S, StOk K c W H S ∧ EnvOk K c W H σ ρ ∧ match f ρ S with
  | .ok ds S' => ∀ W' H' vs, StOk K c W' H' S' → Keep W H W' H' → RepL K c W' ds vs → Q vs H'
  | .er n p S' => ErQ K c W H E n p S'
  | .no => False
end
section
variable {X : Cx} {c : Cn} {E : XK} {e a b : Expr} {f g : FE} {pos : Pos}
/-- a reading that is implied -/
theorem pe_imp {e : Expr} {t t' : TE} (h : PE X e t) (i : ∀ σ H Q, t' σ H Q → t σ H Q) : PE X e t' := ⟨fun pins s σ H Q I q => h.run pins s σ H Q I (i σ H Q q)⟩
theorem pt_imp {e : Expr} {t t' : TT} (h : PT X e t) (i : ∀ σ H Q, t' σ H Q → t σ H Q) : PT X e t' := ⟨fun pins s σ H Q I q => h.run pins s σ H Q I (i σ H Q q)⟩
theorem pa_imp {e : List Expr} {t t' : TA} (h : PA X e t) (i : ∀ σ H Q, t' σ H Q → t σ H Q) : PA X e t' := ⟨fun pos pins s σ H Q I q => h.run pos pins s σ H Q I (i σ H Q q)⟩
theorem ps_imp {e : Stmt} {t t' : TS} (h : PS X e t) (i : ∀ D σ H, t' D σ H → t D σ H) : PS X e t' := ⟨fun pins s σ H D I q => h.run pins s σ H D I (i D σ H q)⟩
/-- frozen is a content -/
theorem b_of (h : PE X e (tM X.K c E f)) : PE X e (tB X.K c E f) := pe_imp h fun σ H Q ⟨W, ρ, S, st, en, q⟩ => ⟨W, ρ, S, st, en, by
  cases hf : f ρ S with
  | ok d S' =>
    rw [hf] at q
    exact fun W' H' v st' k r => q W' H' v st' k (.inl r)
  | er n p S' =>
    rw [hf] at q
    exact q
  | no =>
    rw [hf] at q
    exact q⟩
/-- a fresh object, frozen -/
theorem m_imp : ∀ σ H Q, tM X.K c E f σ H Q → tO X.K c E f σ H Q := fun σ H Q ⟨W, ρ, S, st, en, q⟩ => ⟨W, ρ, S, st, en, by
  cases hf : f ρ S with
  | ok d S' =>
    rw [hf] at q
    rintro W' H' v st' k ⟨a, rfl, h1, h2, h3, h4⟩
    obtain ⟨o, ho⟩ := h4.some
    exact q (W'.frz a o) H' _ (frz_st st' h2 h3 ho) (k.frz h1 h2) (frz_rep h2 ho h4)
  | er n p S' =>
    rw [hf] at q
    exact q
  | no =>
    rw [hf] at q
    exact q⟩
theorem m_of (h : PE X e (tO X.K c E f)) : PE X e (tM X.K c E f) := pe_imp h m_imp
/-- .. or read as it is -/
theorem b_ofO (h : PE X e (tO X.K c E f)) : PE X e (tB X.K c E f) := pe_imp h fun σ H Q ⟨W, ρ, S, st, en, q⟩ => ⟨W, ρ, S, st, en, by
  cases hf : f ρ S with
  | ok d S' =>
    rw [hf] at q
    rintro W' H' v st' k ⟨a, rfl, h1, h2, h3, h4⟩
    exact q W' H' _ st' k (.inr ⟨a, rfl, h3, h4⟩)
  | er n p S' =>
    rw [hf] at q
    exact q
  | no =>
    rw [hf] at q
    exact q⟩
end
end Mini
namespace Mini
open PySem PySem.Spec PyProof.Rows L2 Evl

/-! ### defs that run where no repr runs: FnG -/
structure FnG (P : Program) (w : World) (K : PySem.W.Frag) (mg : Str → Option Value) (base : Heap) (T : CXT) (n : Nat) (f : Addr) (fd : FuncData) (ps : List Str) (sp : Sp) : Prop where
  len : ∀ vs H Q E, sp vs H Q E → vs.length = ps.length
  run : ∀ (A : Around) (fr : List Env) (s : Shared) (H : Hp) (args : Args) (us : List Value) (vs : List V) (Q : VK) (E : XK), Room n A → A.guards = some [] →
    Env0 P w K mg base A fr s H → BindsTo s fd args (ps.zip us) → Vals vs us → sp vs H Q E → codeAny (model P w) A (.call (.ref f) args) (CR T fr P w H s Q E) s
section
variable {P : Program} {w : World} {K : PySem.W.Frag} {mg : Str → Option Value} {base : Heap} {T : CXT} {m n : Nat} {f : Addr} {fd : FuncData} {ps : List Str} {sp sp' : Sp}
theorem FnG.mono (F : FnG P w K mg base T m f fd ps sp) (h : m ≤ n) : FnG P w K mg base T n f fd ps sp where
  len := F.len
  run := fun A fr s H args us vs Q E r => F.run A fr s H args us vs Q E (r.mono h)
theorem FnG.imp (F : FnG P w K mg base T m f fd ps sp) (h : ∀ vs H Q E, sp' vs H Q E → sp vs H Q E) : FnG P w K mg base T m f fd ps sp' where
  len := fun vs H Q E q => F.len vs H Q E (h vs H Q E q)
  run := fun A fr s H args us vs Q E r g e b v q => F.run A fr s H args us vs Q E r g e b v (h vs H Q E q)
theorem FnG.ofOk (F : FnOk P w K mg base T m f fd ps sp) : FnG P w K mg base T m f fd ps sp where
  len := F.len
  run := fun A fr s H args us vs Q E r _ e b v q => F.run A fr s H args us vs Q E r e b v q
end
/-- a def by its body -/
theorem fnG_of {T : CXT} {P : Program} {w : World} {K : PySem.W.Frag} {mg : Str → Option Value} {base : Heap} {n : Nat} {f : Addr} {nm qual : Str} {params : Arguments} {body : List Stmt} {sc : Scope}
    {dV kV doc pm cdv ct oc : Value} {an od : Option Addr} {osl : Array (Option Value)} {N ps : List Str} {sp : Sp}
    (look : K.lookup f = some ⟨oc, od, .func (PySem.W.fnOf nm qual params body sc dV kV doc pm an cdv ct), osl⟩) (code : PySem.W.codeIn K cdv qual = true) (scope : FnScope N ps sc)
    (len : ∀ vs H Q E, sp vs H Q E → vs.length = ps.length)
    (step : ∀ (A : Around) (fr : List Env) (s : Shared) (H : Hp) (vs : List V) (Q : VK) (E : XK), Room n (A.deeper (envOfC qual sc s.heap.objs.size f cdv)) → A.guards = some [] → sp vs H Q E →
      ∃ t, PSs (cxOf T P w K mg base N qual sc f cdv A fr s H E) body t ∧ t { nx := fun _ H2 => Q .non H2, rt := Q } (start N vs) H) :
    FnG P w K mg base T (n + 1) f (PySem.W.fnOf nm qual params body sc dV kV doc pm an cdv ct) ps sp where
  len := len
  run := by
    intro A fr s H args us vs Q E room gd e0 bind rel want
    have size := len _ _ _ _ want
    have stays : ∀ b o, base.get? b = some o → s.heap.get? b = some o := fun b o q => (e0.bs b o q).1
    have kin : K.In s.heap := e0.mod.kin.keeps stays
    have nol : s.heap.NoLimit := e0.mod.nolimit.keeps stays
    refine codeAny_call_function room.depth (kin _ _ look) rfl scope.co scope.gen rfl (PySem.W.codeRec_of kin code) (bind _ _ _ _ ?_)
    refine wpAny_newFunctionEnv_cells scope.kind (fun p hp => ?_) fun en he s1 inCall => ?_
    · obtain ⟨x, v⟩ := p
      have hx : x ∈ ps := (List.of_mem_zip hp).1
      cases scope.par x hx with
      | inl h => exact Or.inl h
      | inr h => exact Or.inr ⟨h, PySem.W.cellsFrom_some _ _ _ (Or.inl h)⟩
    · subst he
      refine ⟨nol.keeps inCall.toInCall.keep, codeAny_func ?_⟩
      obtain ⟨t, der, rd⟩ := step A fr s H vs Q E (room.deeper _) gd want
      have I0 := inv_start (CX := T) (mg := mg) (base := base) (E := E) scope room.hd e0 size rel inCall
      refine wpAny_mono (der.run [] s1 (start N vs) H _ I0 rd) (fun fl s2 out => ?_) fun e s2 out => out
      cases fl with
      | next =>
        obtain ⟨σ2, H2, J, q⟩ := out
        exact ⟨V.non, H2, J.os, J.bare, J.base, J.hok, rfl, q⟩
      | ret u =>
        obtain ⟨v, σ2, H2, J, rv, q⟩ := out
        exact ⟨v, H2, J.os, J.bare, J.base, J.hok, rv, q⟩
      | brk =>
        obtain ⟨_, _, _, q⟩ := out
        exact q.elim
      | cont =>
        obtain ⟨_, _, _, q⟩ := out
        exact q.elim
section
variable {X : Cx} {T : CXT} {n : Nat} {f : Addr} {fd : FuncData} {ps : List Str} {sp : Sp} {dvs : List V} {ds : List Value} {E : XK} {x : Str} {p pos : Pos} {e : Expr} {es : List Expr} {t : TA}
/-- the call of a value that is such a def -/
theorem runG {pins : List (Addr × Obj)} {σ : L2.St} {H : Hp} {s : Shared} {Q : VK} {us : List Value} {vs : List V} (F : FnG X.prog X.w X.K X.mg X.base T n f fd ps sp) (room : Room n X.A) (gd : X.A.guards = some [])
    (hb : Binds X.K fd ps ds) (hd : Vals dvs ds) (hx : Passes T X E) (I : Inv X pins σ H s) (r : Vals vs us) (want : sp (vs ++ dvs) H Q E) : wpAny (model X.prog X.w) X.A (call (.ref f) us) (EP X pins σ Q) X.xe s := by
  have all := r.append hd
  have size : (us ++ ds).length = ps.length := all.length.symm.trans (F.len _ _ _ _ want)
  refine wpAny_call (codeAny_mono (F.run X.A X.stack s H ⟨us, []⟩ (us ++ ds) (vs ++ dvs) Q E room gd I.env0 (hb s us I.kIn size) all want) fun res s2 out => ?_)
  match res, out with
  | .error e, out => exact hx pins σ H s e s2 I out
  | .ok (.ret u), out => exact I.after out
theorem pe_callG (F : FnG X.prog X.w X.K X.mg X.base T n f fd ps sp) (room : Room n X.A) (gd : X.A.guards = some []) (hg : Gl X x) (hm : X.mg x = some (.ref f)) (hk : PySem.W.keepIn X.K (.ref f) = true)
    (hb : Binds X.K fd ps ds) (hd : Vals dvs ds) (hx : Passes T X E) (ha : PA X (e :: es) t) (hdb : (x == ("__debug__" : Str)) = false := by decide)
    (he : starEach (e :: es) X.env = (false, eval e X.env) :: starEach es X.env := by rfl) (hpl : (backTo pos (starEach es X.env)).any (·.1) = false := by rfl) : PE X (.Call (.Name x p) (e :: es) [] pos) (tCall sp dvs E t) where
  run := fun pins s σ H Q I h => by
    refine wpAny_Call_Name_kw (ld_glob I hg hm (PySem.W.callWith_K (h₀ := X.base) I.ok.mod.kin hk (thn (ha.run pos pins s σ H _ I h) ?_) he hpl) hdb)
    rintro us s1 ⟨vs, H1, I1, r, q⟩
    exact ⟨I1.kIn, runG F room gd hb hd hx I1 r q⟩
end
end Mini
namespace Mini
open PySem PySem.Spec PyProof.Rows L2 Evl

/-! ### the combinators: names, constants, operators -/
def slot (ρ : En) (i : Nat) : Option D := match ρ[i]? with
  | some (.vl d) => some d
  | _ => none
def slotB (ρ : En) (i : Nat) : Option D := match ρ[i]? with
  | some (.vl d) => some d
  | some (.ow d) => some d
  | _ => none
def var (i : Nat) : FE := fun ρ => lift (slot ρ i)
def varB (i : Nat) : FE := fun ρ => lift (slotB ρ i)
def cst (d : D) : FE := fun _ => rt d
def op1 (f : D → Option D) (a : FE) : FE := fun ρ => bd (a ρ) fun x => lift (f x)
def op2 (f : D → D → Option D) (a b : FE) : FE := fun ρ => bd (a ρ) fun x => bd (b ρ) fun y => lift (f x y)
def nilA : FA := fun _ => rt []
def consA (a : FE) (r : FA) : FA := fun ρ => bd (a ρ) fun x => bd (r ρ) fun xs => rt (x :: xs)
def tupE (a : FA) : FE := fun ρ => bd (a ρ) fun xs => if xs.length ≤ 16777216 then rt (.tup xs) else no
def lstE (a : FA) : FE := fun ρ => bd (a ρ) fun xs => if xs.length ≤ 16777216 then rt (.lst xs) else no
def iteE (t : FB) (a b : FE) : FE := fun ρ => bd (t ρ) fun k => if k then a ρ else b ρ
def notB (t : FB) : FB := fun ρ => bd (t ρ) fun k => rt (!k)
def andB (t u : FB) : FB := fun ρ => bd (t ρ) fun k => if k then u ρ else rt false
def orB (t u : FB) : FB := fun ρ => bd (t ρ) fun k => if k then rt true else u ρ
def isBl : D → Option Bool
  | .bl b => some b
  | _ => none
def valB (a : FE) : FB := fun ρ => bd (a ρ) fun x => lift (isBl x)
def truth : D → Option Bool
  | .non => some false
  | .bl b => some b
  | .int i => some (i != 0)
  | .str s => some ((s.length : Int) != 0)
  | .tup ds => some (!ds.isEmpty)
  | .tpx ds => some (!ds.isEmpty)
  | .lst ds => some (!ds.isEmpty)
  | _ => none
def truB (a : FE) : FB := fun ρ => bd (a ρ) fun x => lift (truth x)
def fnE (n : Nat) : FE := cst (.fn n)

section
variable {K : PySem.W.Frag} {c : Cn} {W W1 W' : Wd} {H H1 H' : Hp} {S S1 : DS} {σ : L2.St} {ρ : En} {E : XK}
theorem ErQ.pre {n : Nat} {p : D} {S' : DS} (h : ErQ K c W H E n p S') (k : Keep W H W1 H1) (st : StOk K c W1 H1 S1) : ErQ K c W1 H1 E n p S' :=
  fun W' H' dd v st' k' e r => h W' H' dd v st' (k.tr st k') e r
theorem slot_some {i : Nat} {d : D} (h : slot ρ i = some d) : ρ[i]? = some (.vl d) := by
  unfold slot at h
  split at h
  · cases h
    assumption
  · cases h
theorem slotB_some {i : Nat} {d : D} (h : slotB ρ i = some d) : ρ[i]? = some (.vl d) ∨ ρ[i]? = some (.ow d) := by
  unfold slotB at h
  split at h
  · cases h
    exact Or.inl (by assumption)
  · cases h
    exact Or.inr (by assumption)
  · cases h
/-- what a reading must do for a result -/
def OutM (K : PySem.W.Frag) (c : Cn) (W : Wd) (H : Hp) (E : XK) (Q : VK) : Res D → Prop
  | .ok d S' => ∀ W' H' v, StOk K c W' H' S' → Keep W H W' H' → Rep K c W' d v → Q v H'
  | .er n p S' => ErQ K c W H E n p S'
  | .no => False
def OutB (K : PySem.W.Frag) (c : Cn) (W : Wd) (H : Hp) (E : XK) (Q : VK) : Res D → Prop
  | .ok d S' => ∀ W' H' v, StOk K c W' H' S' → Keep W H W' H' → RepB K c W' H' d v → Q v H'
  | .er n p S' => ErQ K c W H E n p S'
  | .no => False
def OutO (K : PySem.W.Frag) (c : Cn) (W : Wd) (H : Hp) (E : XK) (Q : VK) : Res D → Prop
  | .ok d S' => ∀ W' H' v, StOk K c W' H' S' → Keep W H W' H' → RepO K c H W' H' d v → Q v H'
  | .er n p S' => ErQ K c W H E n p S'
  | .no => False
def OutT (K : PySem.W.Frag) (c : Cn) (W : Wd) (H : Hp) (E : XK) (Q : Bool → Hp → Prop) : Res Bool → Prop
  | .ok d S' => ∀ W' H', StOk K c W' H' S' → Keep W H W' H' → Q d H'
  | .er n p S' => ErQ K c W H E n p S'
  | .no => False
def OutA (K : PySem.W.Frag) (c : Cn) (W : Wd) (H : Hp) (E : XK) (Q : List V → Hp → Prop) : Res (List D) → Prop
  | .ok ds S' => ∀ W' H' vs, StOk K c W' H' S' → Keep W H W' H' → RepL K c W' ds vs → Q vs H'
  | .er n p S' => ErQ K c W H E n p S'
  | .no => False
theorem tM_mk {f : FE} {Q : VK} (st : StOk K c W H S) (en : EnvOk K c W H σ ρ) (h : OutM K c W H E Q (f ρ S)) : tM K c E f σ H Q := ⟨W, ρ, S, st, en, by
  cases e : f ρ S <;> rw [e] at h <;> exact h⟩
theorem tB_mk {f : FE} {Q : VK} (st : StOk K c W H S) (en : EnvOk K c W H σ ρ) (h : OutB K c W H E Q (f ρ S)) : tB K c E f σ H Q := ⟨W, ρ, S, st, en, by
  cases e : f ρ S <;> rw [e] at h <;> exact h⟩
theorem tO_mk {f : FE} {Q : VK} (st : StOk K c W H S) (en : EnvOk K c W H σ ρ) (h : OutO K c W H E Q (f ρ S)) : tO K c E f σ H Q := ⟨W, ρ, S, st, en, by
  cases e : f ρ S <;> rw [e] at h <;> exact h⟩
theorem tT_mk {f : FB} {Q : Bool → Hp → Prop} (st : StOk K c W H S) (en : EnvOk K c W H σ ρ) (h : OutT K c W H E Q (f ρ S)) : tT K c E f σ H Q := ⟨W, ρ, S, st, en, by
  cases e : f ρ S <;> rw [e] at h <;> exact h⟩
theorem tA_mk {f : FA} {Q : List V → Hp → Prop} (st : StOk K c W H S) (en : EnvOk K c W H σ ρ) (h : OutA K c W H E Q (f ρ S)) : tA K c E f σ H Q := ⟨W, ρ, S, st, en, by
  cases e : f ρ S <;> rw [e] at h <;> exact h⟩
theorem tM_un {f : FE} {Q : VK} (h : tM K c E f σ H Q) : ∃ W ρ S, StOk K c W H S ∧ EnvOk K c W H σ ρ ∧ OutM K c W H E Q (f ρ S) := by
  obtain ⟨W, ρ, S, st, en, q⟩ := h
  exact ⟨W, ρ, S, st, en, by cases e : f ρ S <;> rw [e] at q <;> exact q⟩
theorem tB_un {f : FE} {Q : VK} (h : tB K c E f σ H Q) : ∃ W ρ S, StOk K c W H S ∧ EnvOk K c W H σ ρ ∧ OutB K c W H E Q (f ρ S) := by
  obtain ⟨W, ρ, S, st, en, q⟩ := h
  exact ⟨W, ρ, S, st, en, by cases e : f ρ S <;> rw [e] at q <;> exact q⟩
theorem tO_un {f : FE} {Q : VK} (h : tO K c E f σ H Q) : ∃ W ρ S, StOk K c W H S ∧ EnvOk K c W H σ ρ ∧ OutO K c W H E Q (f ρ S) := by
  obtain ⟨W, ρ, S, st, en, q⟩ := h
  exact ⟨W, ρ, S, st, en, by cases e : f ρ S <;> rw [e] at q <;> exact q⟩
theorem tT_un {f : FB} {Q : Bool → Hp → Prop} (h : tT K c E f σ H Q) : ∃ W ρ S, StOk K c W H S ∧ EnvOk K c W H σ ρ ∧ OutT K c W H E Q (f ρ S) := by
  obtain ⟨W, ρ, S, st, en, q⟩ := h
  exact ⟨W, ρ, S, st, en, by cases e : f ρ S <;> rw [e] at q <;> exact q⟩
theorem tA_un {f : FA} {Q : List V → Hp → Prop} (h : tA K c E f σ H Q) : ∃ W ρ S, StOk K c W H S ∧ EnvOk K c W H σ ρ ∧ OutA K c W H E Q (f ρ S) := by
  obtain ⟨W, ρ, S, st, en, q⟩ := h
  exact ⟨W, ρ, S, st, en, by cases e : f ρ S <;> rw [e] at q <;> exact q⟩
/-- one step, then the rest: for each kind of end (O: what the whole is to reach) -/
theorem then_M {f : FE} {β : Type} {g : D → M β} {Q : VK} {O : Res β → Prop} (st : StOk K c W H S) (en : EnvOk K c W H σ ρ) (hO : ∀ n p S', O (.er n p S') → ErQ K c W H E n p S') (hN : ¬ O .no)
    (h : O (bd (f ρ) g S)) (k : ∀ d S' W' H' v, StOk K c W' H' S' → Keep W H W' H' → Rep K c W' d v → O (g d S') → Q v H') : tM K c E f σ H Q := by
  refine tM_mk st en ?_
  unfold bd at h
  cases e : f ρ S with
  | ok d S' =>
    rw [e] at h
    exact fun W' H' v st' k' r => k d S' W' H' v st' k' r h
  | er n p S' =>
    rw [e] at h
    exact hO n p S' h
  | no =>
    rw [e] at h
    exact hN h
theorem then_B {f : FE} {β : Type} {g : D → M β} {Q : VK} {O : Res β → Prop} (st : StOk K c W H S) (en : EnvOk K c W H σ ρ) (hO : ∀ n p S', O (.er n p S') → ErQ K c W H E n p S') (hN : ¬ O .no)
    (h : O (bd (f ρ) g S)) (k : ∀ d S' W' H' v, StOk K c W' H' S' → Keep W H W' H' → RepB K c W' H' d v → O (g d S') → Q v H') : tB K c E f σ H Q := by
  refine tB_mk st en ?_
  unfold bd at h
  cases e : f ρ S with
  | ok d S' =>
    rw [e] at h
    exact fun W' H' v st' k' r => k d S' W' H' v st' k' r h
  | er n p S' =>
    rw [e] at h
    exact hO n p S' h
  | no =>
    rw [e] at h
    exact hN h
theorem then_T {f : FB} {β : Type} {g : Bool → M β} {Q : Bool → Hp → Prop} {O : Res β → Prop} (st : StOk K c W H S) (en : EnvOk K c W H σ ρ) (hO : ∀ n p S', O (.er n p S') → ErQ K c W H E n p S') (hN : ¬ O .no)
    (h : O (bd (f ρ) g S)) (k : ∀ d S' W' H', StOk K c W' H' S' → Keep W H W' H' → O (g d S') → Q d H') : tT K c E f σ H Q := by
  refine tT_mk st en ?_
  unfold bd at h
  cases e : f ρ S with
  | ok d S' =>
    rw [e] at h
    exact fun W' H' st' k' => k d S' W' H' st' k' h
  | er n p S' =>
    rw [e] at h
    exact hO n p S' h
  | no =>
    rw [e] at h
    exact hN h
theorem then_A {f : FA} {β : Type} {g : List D → M β} {Q : List V → Hp → Prop} {O : Res β → Prop} (st : StOk K c W H S) (en : EnvOk K c W H σ ρ) (hO : ∀ n p S', O (.er n p S') → ErQ K c W H E n p S') (hN : ¬ O .no)
    (h : O (bd (f ρ) g S)) (k : ∀ d S' W' H' v, StOk K c W' H' S' → Keep W H W' H' → RepL K c W' d v → O (g d S') → Q v H') : tA K c E f σ H Q := by
  refine tA_mk st en ?_
  unfold bd at h
  cases e : f ρ S with
  | ok d S' =>
    rw [e] at h
    exact fun W' H' v st' k' r => k d S' W' H' v st' k' r h
  | er n p S' =>
    rw [e] at h
    exact hO n p S' h
  | no =>
    rw [e] at h
    exact hN h
/-- a lifted end -/
theorem lift_ok {α β : Type} {o : Option α} {O : Res α → Prop} (hN : ¬ O .no) (h : O (lift o S)) : ∃ a, o = some a ∧ O (.ok a S) := by
  cases o with
  | none => exact absurd h hN
  | some a => exact ⟨a, rfl, h⟩
/-- the ends' errors behind a step -/
theorem OutM.pre {Q Q' : VK} {r : Res D} (h : OutM K c W H E Q r) (k : Keep W H W1 H1) (st : StOk K c W1 H1 S1) : OutM K c W1 H1 E Q r := by
  cases r with
  | ok d S' => exact fun W' H' v st' k' r => h W' H' v st' (k.tr st k') r
  | er n p S' => exact ErQ.pre h k st
  | no => exact h
theorem OutB.pre {Q : VK} {r : Res D} (h : OutB K c W H E Q r) (k : Keep W H W1 H1) (st : StOk K c W1 H1 S1) : OutB K c W1 H1 E Q r := by
  cases r with
  | ok d S' => exact fun W' H' v st' k' r => h W' H' v st' (k.tr st k') r
  | er n p S' => exact ErQ.pre h k st
  | no => exact h
theorem RepO.pre {H0 : Hp} {d : D} {v : V} (k : Keep W H W1 H1) (hs : ∀ b, W.sa = some b → ∃ o, H1 b = some o) (h : RepO K c H1 W' H' d v) : RepO K c H W' H' d v := by
  obtain ⟨a, e, h1, h2⟩ := h
  refine ⟨a, e, ?_, h2⟩
  cases q : H a with
  | none => rfl
  | some o =>
    by_cases z : W.sa = some a
    · obtain ⟨o', ho'⟩ := hs a z
      rw [h1] at ho'
      cases ho'
    · rw [k.old a o q z] at h1
      cases h1
theorem OutO.pre {Q : VK} {r : Res D} (h : OutO K c W H E Q r) (k : Keep W H W1 H1) (st : StOk K c W1 H1 S1) : OutO K c W1 H1 E Q r := by
  cases r with
  | ok d S' => exact fun W' H' v st' k' r => h W' H' v st' (k.tr st k') (RepO.pre (H0 := H) k (fun b e => st.ds.at (k.wex.2 b e)) r)
  | er n p S' => exact ErQ.pre h k st
  | no => exact h
theorem OutT.pre {Q : Bool → Hp → Prop} {r : Res Bool} (h : OutT K c W H E Q r) (k : Keep W H W1 H1) (st : StOk K c W1 H1 S1) : OutT K c W1 H1 E Q r := by
  cases r with
  | ok d S' => exact fun W' H' st' k' => h W' H' st' (k.tr st k')
  | er n p S' => exact ErQ.pre h k st
  | no => exact h
theorem OutA.pre {Q : List V → Hp → Prop} {r : Res (List D)} (h : OutA K c W H E Q r) (k : Keep W H W1 H1) (st : StOk K c W1 H1 S1) : OutA K c W1 H1 E Q r := by
  cases r with
  | ok d S' => exact fun W' H' v st' k' r => h W' H' v st' (k.tr st k') r
  | er n p S' => exact ErQ.pre h k st
  | no => exact h
end
/-! ### what an operator's rule gives, said of data -/
def OpM (K : PySem.W.Frag) (c : Cn) (r : R2) (f : D → D → Option D) : Prop := ∀ {W : Wd} {H : Hp} {S : DS} {d e d' : D} {v u : V} (Q : VK), StOk K c W H S → RepB K c W H d v → RepB K c W H e u → f d e = some d' →
  (∀ W' H' x, StOk K c W' H' S → Keep W H W' H' → Rep K c W' d' x → Q x H') → r v u H Q
def OpO (K : PySem.W.Frag) (c : Cn) (r : R2) (f : D → D → Option D) : Prop := ∀ {W : Wd} {H : Hp} {S : DS} {d e d' : D} {v u : V} (Q : VK), StOk K c W H S → RepB K c W H d v → RepB K c W H e u → f d e = some d' →
  (∀ W' H' x, StOk K c W' H' S → Keep W H W' H' → RepO K c H W' H' d' x → Q x H') → r v u H Q
section
variable {X : Cx} {c : Cn} {E : XK} {a b e : Expr} {fa fb : FE} {pos : Pos}
theorem op2_out {f : D → D → Option D} {r : R2} (hr : OpM X.K c r f) : ∀ σ H Q, tM X.K c E (op2 f fa fb) σ H Q → tOp r (tB X.K c E fa) (tB X.K c E fb) σ H Q := fun σ H Q h => by
  obtain ⟨W, ρ, S, st, en, q⟩ := tM_un h
  refine then_B (O := OutM X.K c W H E Q) st en (fun _ _ _ z => z) (fun z => z) q fun d S1 W1 H1 v st1 k1 r1 q1 => ?_
  refine then_B (O := OutM X.K c W1 H1 E Q) st1 (en.ext k1) (fun _ _ _ z => z) (fun z => z) (q1.pre (Q' := Q) k1 st1) fun d2 S2 W2 H2 u st2 k2 r2 q2 => ?_
  obtain ⟨d', e', q3⟩ := lift_ok (β := D) (O := OutM X.K c W1 H1 E Q) (fun z => z) q2
  exact hr Q st2 (r1.ext k2) r2 e' fun W' H' x st' k' rx => q3 W' H' x st' (k2.tr st2 k') rx
theorem op2_outO {f : D → D → Option D} {r : R2} (hr : OpO X.K c r f) : ∀ σ H Q, tO X.K c E (op2 f fa fb) σ H Q → tOp r (tB X.K c E fa) (tB X.K c E fb) σ H Q := fun σ H Q h => by
  obtain ⟨W, ρ, S, st, en, q⟩ := tO_un h
  refine then_B (O := OutO X.K c W H E Q) st en (fun _ _ _ z => z) (fun z => z) q fun d S1 W1 H1 v st1 k1 r1 q1 => ?_
  refine then_B (O := OutO X.K c W1 H1 E Q) st1 (en.ext k1) (fun _ _ _ z => z) (fun z => z) (q1.pre k1 st1) fun d2 S2 W2 H2 u st2 k2 r2 q2 => ?_
  obtain ⟨d', e', q3⟩ := lift_ok (β := D) (O := OutO X.K c W1 H1 E Q) (fun z => z) q2
  exact hr Q st2 (r1.ext k2) r2 e' fun W' H' x st' k' rx => q3 W' H' x st' (k2.tr st2 k') (RepO.pre (H0 := H1) k2 (fun b e => st2.ds.at (k2.wex.2 b e)) rx)
theorem me_bin {op : Operator} {f : D → D → Option D} {r : R2} (ho : OpR X (binaryOp op) r) (hr : OpM X.K c r f) (ha : PE X a (tB X.K c E fa)) (hb : PE X b (tB X.K c E fb)) : PE X (.BinOp a op b pos) (tM X.K c E (op2 f fa fb)) :=
  pe_imp (pe_op ho ha hb) (op2_out hr)
theorem me_binO {op : Operator} {f : D → D → Option D} {r : R2} (ho : OpR X (binaryOp op) r) (hr : OpO X.K c r f) (ha : PE X a (tB X.K c E fa)) (hb : PE X b (tB X.K c E fb)) : PE X (.BinOp a op b pos) (tO X.K c E (op2 f fa fb)) :=
  pe_imp (pe_op ho ha hb) (op2_outO hr)
theorem me_cmp {op : CmpOp} {f : D → D → Option D} {r : R2} (ho : OpR X (compareOp op) r) (hr : OpM X.K c r f) (ha : PE X a (tB X.K c E fa)) (hb : PE X b (tB X.K c E fb)) (hm : behindInMarks op b = false) : PE X (.Compare a [op] [b] pos) (tM X.K c E (op2 f fa fb)) :=
  pe_imp (pe_cmpR ho ha hb hm) (op2_out hr)
theorem me_ix {f : D → D → Option D} {r : R2} (ho : IxR X r) (hr : OpM X.K c r f) (ha : PE X a (tB X.K c E fa)) (hb : PE X b (tB X.K c E fb)) (hs : PlainIx b) : PE X (.Subscript a b pos) (tM X.K c E (op2 f fa fb)) :=
  pe_imp (pe_ix ho ha hb hs) (op2_out hr)
/-- a bool's value as a test -/
theorem val_out {te : TE} {f : FE} (h : ∀ σ H Q, tM X.K c E f σ H Q → te σ H Q) : ∀ σ H Q, tT X.K c E (valB f) σ H Q → tTest te σ H Q := fun σ H Q q => by
  obtain ⟨W, ρ, S, st, en, q⟩ := tT_un q
  refine h σ H _ (then_M (O := OutT X.K c W H E Q) st en (fun _ _ _ z => z) (fun z => z) q fun d S1 W1 H1 v st1 k1 r1 q1 => ?_)
  obtain ⟨k, e', q3⟩ := lift_ok (β := Bool) (O := OutT X.K c W H E Q) (fun z => z) q1
  cases d <;> first | (cases e'; done) | skip
  cases e'
  cases r1
  exact ⟨_, rfl, q3 W1 H1 st1 k1⟩
theorem mt_cmp {op : CmpOp} {f : D → D → Option D} {r : R2} (ho : OpR X (compareOp op) r) (hr : OpM X.K c r f) (ha : PE X a (tB X.K c E fa)) (hb : PE X b (tB X.K c E fb)) (hm : behindInMarks op b = false) : PT X (.Compare a [op] [b] pos) (tT X.K c E (valB (op2 f fa fb))) :=
  pt_imp (pt_cmpR ho ha hb hm) (val_out (op2_out hr))
/-! names, constants -/
theorem me_var {i : Nat} {x : Str} (hN : X.N[i]? = some x) (hv : Vis X.env.scope x) (hd : (x == ("__debug__" : Str)) = false := by decide) (hcd : (x == ("__classdict__" : Str)) = false := by decide) : PE X (.Name x pos) (tM X.K c E (var i)) :=
  pe_imp (pe_var hN hv hd hcd) fun σ H Q h => by
    obtain ⟨W, ρ, S, st, en, q⟩ := tM_un h
    obtain ⟨d, e', q1⟩ := lift_ok (β := D) (O := OutM X.K c W H E Q) (fun z => z) q
    obtain ⟨v, h1, h2⟩ := en.vl i d (slot_some e')
    exact ⟨v, h1, q1 W H v st (Keep.refl W H) h2⟩
theorem me_varB {i : Nat} {x : Str} (hN : X.N[i]? = some x) (hv : Vis X.env.scope x) (hd : (x == ("__debug__" : Str)) = false := by decide) (hcd : (x == ("__classdict__" : Str)) = false := by decide) : PE X (.Name x pos) (tB X.K c E (varB i)) :=
  pe_imp (pe_var hN hv hd hcd) fun σ H Q h => by
    obtain ⟨W, ρ, S, st, en, q⟩ := tB_un h
    obtain ⟨d, e', q1⟩ := lift_ok (β := D) (O := OutB X.K c W H E Q) (fun z => z) q
    rcases slotB_some e' with z | z
    · obtain ⟨v, h1, h2⟩ := en.vl i d z
      exact ⟨v, h1, q1 W H v st (Keep.refl W H) (Or.inl h2)⟩
    · obtain ⟨a, h1, _, h3, h4⟩ := en.ow i d z
      exact ⟨_, h1, q1 W H _ st (Keep.refl W H) (Or.inr ⟨a, rfl, h3, h4⟩)⟩
theorem me_cst {d : D} {v : V} (he : PE X e (tC v)) (hr : ∀ W, Rep X.K c W d v) : PE X e (tM X.K c E (cst d)) :=
  pe_imp he fun σ H Q h => by
    obtain ⟨W, ρ, S, st, en, q⟩ := tM_un h
    exact q W H v st (Keep.refl W H) (hr W)
theorem me_int {i : Int} {j : Nat} : PE X (.Constant (.int i) j pos) (tM X.K c E (cst (.int i))) := me_cst pe_int fun _ => rfl
theorem me_bl {i : Bool} {j : Nat} : PE X (.Constant (.bool i) j pos) (tM X.K c E (cst (.bl i))) := me_cst pe_bl fun _ => rfl
theorem me_non {j : Nat} : PE X (.Constant .none j pos) (tM X.K c E (cst .non)) := me_cst pe_non fun _ => rfl
theorem me_str {x : Str} {j : Nat} (h : SOk x := by decide +kernel) : PE X (.Constant (.str x) j pos) (tM X.K c E (cst (.str x))) := me_cst pe_str fun _ => ⟨rfl, h⟩
/-- a module's constant: an int, a text -/
theorem me_gint {x : Str} {i : Int} {u : Value} (hg : Gl X x) (hm : X.mg x = some u) (r : RelV (.int i) u) (hd : (x == ("__debug__" : Str)) = false := by decide) : PE X (.Name x pos) (tM X.K c E (cst (.int i))) := me_cst (pe_glob hg hm r hd) fun _ => rfl
theorem me_gstr {x y : Str} {u : Value} (hg : Gl X x) (hm : X.mg x = some u) (r : RelV (.str y) u) (h : SOk y := by decide +kernel) (hd : (x == ("__debug__" : Str)) = false := by decide) : PE X (.Name x pos) (tM X.K c E (cst (.str y))) := me_cst (pe_glob hg hm r hd) fun _ => ⟨rfl, h⟩
theorem me_gfn {x : Str} {n : Nat} {f : Addr} (hg : Gl X x) (hm : X.mg x = some (.ref f)) (r : c.fa n = some f) (hd : (x == ("__debug__" : Str)) = false := by decide) : PE X (.Name x pos) (tM X.K c E (fnE n)) :=
  me_cst (v := .ref f) (pe_glob hg hm rfl hd) fun _ => ⟨f, rfl, r⟩
/-! arguments, displays -/
theorem ma_nil : PA X [] (tA X.K c E nilA) := pa_imp pa_nil fun σ H Q h => by
  obtain ⟨W, ρ, S, st, en, q⟩ := tA_un h
  exact q W H [] st (Keep.refl W H) rfl
theorem ma_cons {es : List Expr} {r : FA} (ha : PE X e (tM X.K c E fa)) (hr : PA X es (tA X.K c E r)) (hs : starEach (e :: es) X.env = (false, eval e X.env) :: starEach es X.env := by rfl) : PA X (e :: es) (tA X.K c E (consA fa r)) :=
  pa_imp (pa_cons ha hr hs) fun σ H Q h => by
    obtain ⟨W, ρ, S, st, en, q⟩ := tA_un h
    refine then_M (O := OutA X.K c W H E Q) st en (fun _ _ _ z => z) (fun z => z) q fun d S1 W1 H1 v st1 k1 r1 q1 => ?_
    refine then_A (O := OutA X.K c W1 H1 E Q) st1 (en.ext k1) (fun _ _ _ z => z) (fun z => z) (q1.pre k1 st1) fun d2 S2 W2 H2 u st2 k2 r2 q2 => ?_
    exact q2 W2 H2 _ st2 k2 ⟨v, u, rfl, Rep.ext k2.wex d v r1, r2⟩
theorem RepL.length {K : PySem.W.Frag} {W : Wd} : ∀ {ds : List D} {vs : List V}, RepL K c W ds vs → vs.length = ds.length
  | [], vs, h => by cases h; rfl
  | d :: ds, vs, h => by
    obtain ⟨v, r, rfl, _, h3⟩ := h
    rw [List.length_cons, List.length_cons, RepL.length h3]
end
end Mini
namespace Mini
open PySem PySem.Spec PyProof.Rows L2 Evl
section
variable {K : PySem.W.Frag} {c : Cn} {W W1 W' : Wd} {H H1 H' : Hp} {S S1 : DS} {σ : L2.St} {ρ : En} {E : XK}
theorem line_le {n : Nat} (h : n ≤ 16777216) : n ≤ sizeLine := by rw [sizeLine_eq]; exact h
theorem line_lt {n : Nat} (h : n < 16777216) : n < sizeLine := by rw [sizeLine_eq]; exact h
theorem OutA.no_er {Q : List V → Hp → Prop} : ¬ OutA K c W H E Q .no := fun z => z
/-- a new tuple is laid: frozen -/
theorem lay_keep {p : Addr} {o : HO} (st : StOk K c W H S) (hp : H p = none) : Keep W H (W.frz p o) (upd H p o) where
  wex := ⟨Ex.new (fresh_back st.sub hp), fun _ e => e⟩
  old := fun b u h _ => by rw [upd_ne (ne_of_none h hp)]; exact h
  fr := fun b u h e => by
    show upd W.H0 p o b = none
    rw [upd_ne (ne_of_none h hp)]
    exact e
  sa := fun _ _ _ e => e
theorem DsOk.keep {W' : Wd} {H' : Hp} (d : DsOk K c W H S) (k : Keep W H W' H') (hs : W'.sa = W.sa) (hh : ∀ a, W.sa = some a → H' a = H a) : DsOk K c W' H' S := by
  cases S with
  | none => exact hs.trans d
  | some ds =>
    obtain ⟨a, vs, h1, h2, h3, h4⟩ := d
    exact ⟨a, vs, hs.trans h1, k.fr a _ h3 h2, (hh a h1).trans h3, RepL.ext k.wex ds vs h4⟩
theorem sa_ne {p : Addr} (st : StOk K c W H S) (hp : H p = none) : W.sa ≠ some p := fun e => by
  obtain ⟨o, ho⟩ := st.ds.at e
  rw [hp] at ho
  cases ho
theorem lay_st {p : Addr} {o : HO} (st : StOk K c W H S) (hp : H p = none) : StOk K c (W.frz p o) (upd H p o) S where
  sub := fun b u e => by
    have e' : upd W.H0 p o b = some u := e
    by_cases hb : b = p
    · subst hb
      rw [upd_same] at e' ⊢
      exact e'
    · rw [upd_ne hb] at e' ⊢
      exact st.sub b u e'
  ds := st.ds.keep (lay_keep st hp) rfl fun a e => upd_ne fun z => sa_ne st hp (by rw [← z]; exact e)
/-- a new object is laid: our own -/
theorem new_keep {p : Addr} {o : HO} (st : StOk K c W H S) (hp : H p = none) : Keep W H W (upd H p o) where
  wex := WEx.refl W
  old := fun b u h _ => by rw [upd_ne (ne_of_none h hp)]; exact h
  fr := fun _ _ _ e => e
  sa := fun _ _ _ e => e
theorem new_st {p : Addr} {o : HO} (st : StOk K c W H S) (hp : H p = none) : StOk K c W (upd H p o) S where
  sub := fun b u e => by
    have q := st.sub b u e
    rw [upd_ne (ne_of_none q hp)]
    exact q
  ds := st.ds.keep (new_keep st hp) rfl fun a e => upd_ne fun z => sa_ne st hp (by rw [← z]; exact e)
theorem new_own {p : Addr} {ds : List D} {vs : List V} (st : StOk K c W H S) (hp : H p = none) (r : RepL K c W ds vs) : RepO K c H W (upd H p (.lst vs)) (.lst ds) (.ref p) :=
  ⟨p, rfl, hp, fresh_back st.sub hp, sa_ne st hp, vs, upd_same, r⟩
theorem new_tup {p : Addr} {ds : List D} {vs : List V} (st : StOk K c W H S) (hp : H p = none) (r : RepL K c W ds vs) : Rep K c (W.frz p (.tup vs)) (.tup ds) (.ref p) :=
  ⟨p, vs, rfl, upd_same, RepL.ext (frz_ex (fresh_back st.sub hp)) ds vs r⟩
theorem repL_nil {ds : List D} {vs : List V} (r : RepL K c W ds vs) : vs.isEmpty = ds.isEmpty := by
  cases ds with
  | nil => cases r; rfl
  | cons d ds => obtain ⟨v, r', rfl, _⟩ := r; rfl
/-- a list's or a tuple's content -/
theorem RepB.lst {ds : List D} {v : V} (st : StOk K c W H S) (r : RepB K c W H (.lst ds) v) : ∃ a vs, v = .ref a ∧ H a = some (.lst vs) ∧ RepL K c W ds vs := by
  rcases r with ⟨a, vs, h1, h2, h3⟩ | ⟨a, h1, _, vs, h2, h3⟩
  · exact ⟨a, vs, h1, st.sub _ _ h2, h3⟩
  · exact ⟨a, vs, h1, h2, h3⟩
theorem RepB.tup {ds : List D} {v : V} (st : StOk K c W H S) (r : RepB K c W H (.tup ds) v) : ∃ a vs, v = .ref a ∧ H a = some (.tup vs) ∧ W.H0 a = some (.tup vs) ∧ RepL K c W ds vs := by
  rcases r with ⟨a, vs, h1, h2, h3⟩ | ⟨a, h1, _, h2⟩
  · exact ⟨a, vs, h1, st.sub _ _ h2, h2, h3⟩
  · cases h2
theorem RepB.tpx {ds : List D} {v : V} (st : StOk K c W H S) (r : RepB K c W H (.tpx ds) v) : ∃ a vs, v = .ref a ∧ SqT K H a vs ∧ RepL K c W ds vs := by
  rcases r with ⟨a, vs, o, h1, h2, h3, h4⟩ | ⟨a, h1, _, h2⟩
  · exact ⟨a, vs, h1, .inl (.inr ⟨o, st.sub _ _ h2⟩), h4⟩
  · cases h2
theorem RepB.tpo {ds : List D} {v : V} (st : StOk K c W H S) (r : RepB K c W H (.tpx ds) v) : ∃ a vs o, v = .ref a ∧ H a = some (.frz o (.tup vs)) ∧ o.dict = none ∧ RepL K c W ds vs := by
  rcases r with ⟨a, vs, o, h1, h2, h3, h4⟩ | ⟨a, h1, _, h2⟩
  · exact ⟨a, vs, o, h1, st.sub _ _ h2, h3, h4⟩
  · cases h2
theorem RepB.int {i : Int} {v : V} (r : RepB K c W H (.int i) v) : v = .int i := by
  rcases r with h | ⟨a, h1, _, h2⟩
  · exact h
  · cases h2
theorem RepB.bl {i : Bool} {v : V} (r : RepB K c W H (.bl i) v) : v = .bl i := by
  rcases r with h | ⟨a, h1, _, h2⟩
  · exact h
  · cases h2
theorem RepB.str {i : Str} {v : V} (r : RepB K c W H (.str i) v) : v = .str i ∧ SOk i := by
  rcases r with h | ⟨a, h1, _, h2⟩
  · exact h
  · cases h2
theorem RepB.non {v : V} (r : RepB K c W H .non v) : v = .non := by
  rcases r with h | ⟨a, h1, _, h2⟩
  · exact h
  · cases h2
/-- truth -/
theorem tru_of {d : D} {v : V} {b : Bool} (st : StOk K c W H S) (r : RepB K c W H d v) (h : truth d = some b) : TruV K v H b := by
  cases d with
  | non => rw [r.non]; cases h; rfl
  | bl k => rw [r.bl]; cases h; rfl
  | int i => rw [r.int]; cases h; rfl
  | str s =>
    obtain ⟨rfl, hs, _⟩ := r.str
    cases h
    exact ⟨line_le hs, rfl⟩
  | tpx ds =>
    obtain ⟨a, vs, rfl, h1, h2⟩ := r.tpx st
    cases h
    exact Or.inr (Or.inl ⟨vs, h1, by rw [repL_nil h2]⟩)
  | tup ds =>
    obtain ⟨a, vs, rfl, h1, _, h2⟩ := r.tup st
    cases h
    exact Or.inr (Or.inl ⟨vs, SqT.of h1, by rw [repL_nil h2]⟩)
  | lst ds =>
    obtain ⟨a, vs, rfl, h1, h2⟩ := r.lst st
    cases h
    exact Or.inl ⟨vs, SqL.of h1, by rw [repL_nil h2]⟩
  | dic es => cases h
  | dit es => cases h
  | fn n => cases h
  | st => cases h
  | scr ns => cases h
end
section
variable {X : Cx} {c : Cn} {E : XK} {a b e : Expr} {es rest : List Expr} {fa fb : FE} {ga : FA} {ta tb : FB} {pos : Pos}
theorem me_tup {x1} (h : PA X es (tA X.K c E ga)) : PE X (.Tuple es x1 pos) (tM X.K c E (tupE ga)) :=
  pe_imp (pe_tup h) fun σ H Q h => by
    obtain ⟨W, ρ, S, st, en, q⟩ := tM_un h
    refine then_A (O := OutM X.K c W H E Q) st en (fun _ _ _ z => z) (fun z => z) q fun ds S1 W1 H1 vs st1 k1 r1 q1 => ?_
    split at q1
    · refine ⟨line_le (by rw [RepL.length r1]; assumption), fun p hp => ?_⟩
      exact q1 _ _ _ (lay_st st1 hp) (k1.tr st1 (lay_keep st1 hp)) (new_tup st1 hp r1)
    · exact q1.elim
theorem me_lst (h : PA X es (tA X.K c E ga)) : PE X (.List es pos) (tO X.K c E (lstE ga)) :=
  pe_imp (pe_lst h) fun σ H Q h => by
    obtain ⟨W, ρ, S, st, en, q⟩ := tO_un h
    refine then_A (O := OutO X.K c W H E Q) st en (fun _ _ _ z => z) (fun z => z) q fun ds S1 W1 H1 vs st1 k1 r1 q1 => ?_
    split at q1
    · refine ⟨line_le (by rw [RepL.length r1]; assumption), fun p hp => ?_⟩
      exact q1 _ _ _ (new_st st1 hp) (k1.tr st1 (new_keep st1 hp)) (RepO.pre (H0 := H1) k1 (fun b e => st1.ds.at (k1.wex.2 b e)) (new_own st1 hp r1))
    · exact q1.elim
/-! tests -/
theorem mt_tru (ha : PE X e (tB X.K c E fa)) (he : ∀ whole, isTrue e X.env whole = (do let v ← whole; standAt e.pos; holding [v] (truthy v)) := by intro _; rfl) : PT X e (tT X.K c E (truB fa)) :=
  pt_imp (pt_truth ha he) fun σ H Q h => by
    obtain ⟨W, ρ, S, st, en, q⟩ := tT_un h
    refine then_B (O := OutT X.K c W H E Q) st en (fun _ _ _ z => z) (fun z => z) q fun d S1 W1 H1 v st1 k1 r1 q1 => ?_
    obtain ⟨k, e', q3⟩ := lift_ok (β := Bool) (O := OutT X.K c W H E Q) (fun z => z) q1
    exact ⟨k, tru_of st1 r1 e', q3 W1 H1 st1 k1⟩
theorem mt_not (ha : PT X e (tT X.K c E ta)) : PT X (.UnaryOp .Not e pos) (tT X.K c E (notB ta)) :=
  pt_imp (pt_not ha) fun σ H Q h => by
    obtain ⟨W, ρ, S, st, en, q⟩ := tT_un h
    exact then_T (O := OutT X.K c W H E Q) st en (fun _ _ _ z => z) (fun z => z) q fun d S1 W1 H1 st1 k1 q1 => q1 W1 H1 st1 k1
theorem mw_and1 (ha : PT X e (tT X.K c E ta)) : PW X (.BoolOp .And [e] pos) (tT X.K c E ta) := pw_and1 ha
theorem mw_or1 (ha : PT X e (tT X.K c E ta)) : PW X (.BoolOp .Or [e] pos) (tT X.K c E ta) := pw_or1 ha
theorem pw_imp {e : Expr} {t t' : TT} (h : PW X e t) (i : ∀ σ H Q, t' σ H Q → t σ H Q) : PW X e t' := ⟨fun wh pins s σ H Q I q => h.run wh pins s σ H Q I (i σ H Q q)⟩
theorem mw_and (ha : PT X a (tT X.K c E ta)) (hb : PW X (.BoolOp .And (b :: rest) pos) (tT X.K c E tb)) : PW X (.BoolOp .And (a :: b :: rest) pos) (tT X.K c E (andB ta tb)) :=
  pw_imp (pw_and ha hb) fun σ H Q h => by
    obtain ⟨W, ρ, S, st, en, q⟩ := tT_un h
    refine then_T (O := OutT X.K c W H E Q) st en (fun _ _ _ z => z) (fun z => z) q fun d S1 W1 H1 st1 k1 q1 => ?_
    cases d with
    | true => exact tT_mk st1 (en.ext k1) (OutT.pre q1 k1 st1)
    | false => exact q1 W1 H1 st1 k1
theorem mw_or (ha : PT X a (tT X.K c E ta)) (hb : PW X (.BoolOp .Or (b :: rest) pos) (tT X.K c E tb)) : PW X (.BoolOp .Or (a :: b :: rest) pos) (tT X.K c E (orB ta tb)) :=
  pw_imp (pw_or ha hb) fun σ H Q h => by
    obtain ⟨W, ρ, S, st, en, q⟩ := tT_un h
    refine then_T (O := OutT X.K c W H E Q) st en (fun _ _ _ z => z) (fun z => z) q fun d S1 W1 H1 st1 k1 q1 => ?_
    cases d with
    | false => exact tT_mk st1 (en.ext k1) (OutT.pre q1 k1 st1)
    | true => exact q1 W1 H1 st1 k1
theorem me_ite {t : Expr} (ht : PT X t (tT X.K c E ta)) (ha : PE X a (tM X.K c E fa)) (hb : PE X b (tM X.K c E fb)) : PE X (.IfExp t a b pos) (tM X.K c E (iteE ta fa fb)) :=
  pe_imp (pe_ifExp ht ha hb) fun σ H Q h => by
    obtain ⟨W, ρ, S, st, en, q⟩ := tM_un h
    refine then_T (O := OutM X.K c W H E Q) st en (fun _ _ _ z => z) (fun z => z) q fun d S1 W1 H1 st1 k1 q1 => ?_
    cases d with
    | true => exact tM_mk st1 (en.ext k1) (OutM.pre (Q' := Q) q1 k1 st1)
    | false => exact tM_mk st1 (en.ext k1) (OutM.pre (Q' := Q) q1 k1 st1)
theorem me_iteO {t : Expr} (ht : PT X t (tT X.K c E ta)) (ha : PE X a (tO X.K c E fa)) (hb : PE X b (tO X.K c E fb)) : PE X (.IfExp t a b pos) (tO X.K c E (iteE ta fa fb)) :=
  pe_imp (pe_ifExp ht ha hb) fun σ H Q h => by
    obtain ⟨W, ρ, S, st, en, q⟩ := tO_un h
    refine then_T (O := OutO X.K c W H E Q) st en (fun _ _ _ z => z) (fun z => z) q fun d S1 W1 H1 st1 k1 q1 => ?_
    cases d with
    | true => exact tO_mk st1 (en.ext k1) (OutO.pre q1 k1 st1)
    | false => exact tO_mk st1 (en.ext k1) (OutO.pre q1 k1 st1)
/-! and, or, not as values (of bools) -/
def blE (t : FB) : FE := fun ρ => bd (t ρ) fun k => rt (.bl k)
theorem me_one {op : BoolOp} {f : FE} (h : PE X a (tM X.K c E f)) : PE X (.BoolOp op [a] pos) (tM X.K c E f) := pe_one h
def andE (a b : FE) : FE := fun ρ => bd (a ρ) fun x => match x with
  | .bl true => b ρ
  | .bl false => rt (.bl false)
  | _ => no
def orE (a b : FE) : FE := fun ρ => bd (a ρ) fun x => match x with
  | .bl true => rt (.bl true)
  | .bl false => b ρ
  | _ => no
def notE (a : FE) : FE := fun ρ => bd (a ρ) fun x => lift ((truth x).map fun k => .bl (!k))
theorem me_and (ha : PE X a (tM X.K c E fa)) (hb : PE X (.BoolOp .And (b :: rest) pos) (tM X.K c E fb)) : PE X (.BoolOp .And (a :: b :: rest) pos) (tM X.K c E (andE fa fb)) :=
  pe_imp (pe_and ha hb) fun σ H Q h => by
    obtain ⟨W, ρ, S, st, en, q⟩ := tM_un h
    refine then_M (O := OutM X.K c W H E Q) st en (fun _ _ _ z => z) (fun z => z) q fun d S1 W1 H1 v st1 k1 r1 q1 => ?_
    cases d <;> first | exact (show False from q1).elim | skip
    rename_i k
    cases r1
    refine ⟨k, rfl, ?_⟩
    cases k with
    | true => exact tM_mk st1 (en.ext k1) (OutM.pre (Q' := Q) q1 k1 st1)
    | false => exact q1 W1 H1 _ st1 k1 rfl
theorem me_or (ha : PE X a (tM X.K c E fa)) (hb : PE X (.BoolOp .Or (b :: rest) pos) (tM X.K c E fb)) : PE X (.BoolOp .Or (a :: b :: rest) pos) (tM X.K c E (orE fa fb)) :=
  pe_imp (pe_or ha hb) fun σ H Q h => by
    obtain ⟨W, ρ, S, st, en, q⟩ := tM_un h
    refine then_M (O := OutM X.K c W H E Q) st en (fun _ _ _ z => z) (fun z => z) q fun d S1 W1 H1 v st1 k1 r1 q1 => ?_
    cases d <;> first | exact (show False from q1).elim | skip
    rename_i k
    cases r1
    refine ⟨k, rfl, ?_⟩
    cases k with
    | false => exact tM_mk st1 (en.ext k1) (OutM.pre (Q' := Q) q1 k1 st1)
    | true => exact q1 W1 H1 _ st1 k1 rfl
theorem me_not (ha : PE X e (tB X.K c E fa)) : PE X (.UnaryOp .Not e pos) (tM X.K c E (notE fa)) :=
  pe_imp (pe_notT ha) fun σ H Q h => by
    obtain ⟨W, ρ, S, st, en, q⟩ := tM_un h
    refine then_B (O := OutM X.K c W H E Q) st en (fun _ _ _ z => z) (fun z => z) q fun d S1 W1 H1 v st1 k1 r1 q1 => ?_
    obtain ⟨x, e', q3⟩ := lift_ok (β := D) (O := OutM X.K c W H E Q) (fun z => z) q1
    cases ht : truth d with
    | none => rw [ht] at e'; cases e'
    | some k =>
      rw [ht] at e'
      cases e'
      exact ⟨k, tru_of st1 r1 ht, q3 W1 H1 _ st1 k1 rfl⟩
end
end Mini
namespace Mini
open PySem PySem.Spec PyProof.Rows L2 Evl

/-! ### data for == -/
mutual
def D.pure : D → Bool
  | .non => true
  | .bl _ => true
  | .int _ => true
  | .str _ => true
  | .tup ds => pureL ds
  | .tpx ds => pureL ds
  | .lst ds => pureL ds
  | .dic _ => false
  | .dit _ => false
  | .fn _ => false
  | .st => false
  | .scr _ => false
def pureL : List D → Bool
  | [] => true
  | d :: ds => d.pure && pureL ds
end
mutual
def D.py : D → PyData
  | .non => .none
  | .bl b => .bool b
  | .int i => .int i
  | .str s => .str s
  | .tup ds => .tuple (pyL ds)
  | .tpx ds => .tuple (pyL ds)
  | .lst ds => .list (pyL ds)
  | .dic _ => .none
  | .dit _ => .none
  | .fn _ => .none
  | .st => .none
  | .scr _ => .none
def pyL : List D → List PyData
  | [] => []
  | d :: ds => d.py :: pyL ds
end
section
variable {K : PySem.W.Frag} {c : Cn} {W W' : Wd} {H H' : Hp} {S : DS}
mutual
theorem rep_dp (e : Ex W.H0 H) : ∀ (d : D) (v : V), Rep K c W d v → d.pure = true → Dp K H v d.py ∧ d.py.canLay0 = true
  | .non, v, h, _ => by
    cases h
    exact ⟨by simp only [D.py]; exact .non, by simp only [D.py, PyData.canLay0]⟩
  | .bl b, v, h, _ => by
    cases h
    exact ⟨by simp only [D.py]; exact .bl b, by simp only [D.py, PyData.canLay0]⟩
  | .int i, v, h, _ => by
    cases h
    exact ⟨by simp only [D.py]; exact .int i, by simp only [D.py, PyData.canLay0]⟩
  | .str s, v, h, _ => by
    obtain ⟨rfl, h1, h2⟩ := h
    exact ⟨by simp only [D.py]; exact .str s, by simp only [D.py, PyData.canLay0]; exact h2⟩
  | .tup ds, v, h, p => by
    obtain ⟨a, vs, rfl, h1, h2⟩ := h
    obtain ⟨q1, q2⟩ := repL_dp e ds vs h2 (by simpa only [D.pure] using p)
    exact ⟨by simp only [D.py]; exact .tup (SqT.of (e _ _ h1)) q1, by simp only [D.py, PyData.canLay0]; exact q2⟩
  | .tpx ds, v, h, p => by
    obtain ⟨a, vs, o, rfl, h1, _, h2⟩ := h
    obtain ⟨q1, q2⟩ := repL_dp e ds vs h2 (by simpa only [D.pure] using p)
    exact ⟨by simp only [D.py]; exact .tup (.inl (.inr ⟨o, e _ _ h1⟩)) q1, by simp only [D.py, PyData.canLay0]; exact q2⟩
  | .lst ds, v, h, p => by
    obtain ⟨a, vs, rfl, h1, h2⟩ := h
    obtain ⟨q1, q2⟩ := repL_dp e ds vs h2 (by simpa only [D.pure] using p)
    exact ⟨by simp only [D.py]; exact .lst (SqL.of (e _ _ h1)) q1, by simp only [D.py, PyData.canLay0]; exact q2⟩
  | .dic es, v, h, p => by simp [D.pure] at p
  | .dit es, v, h, p => by simp [D.pure] at p
  | .fn n, v, h, p => by simp [D.pure] at p
  | .st, v, h, p => by simp [D.pure] at p
  | .scr ns, v, h, p => by simp [D.pure] at p
theorem repL_dp (e : Ex W.H0 H) : ∀ (ds : List D) (vs : List V), RepL K c W ds vs → pureL ds = true → DpAll K H vs (pyL ds) ∧ PyData.canLayAll0 (pyL ds) = true
  | [], vs, h, _ => by
    cases h
    exact ⟨by simp only [pyL]; exact .nil, by simp only [pyL, PyData.canLayAll0]⟩
  | d :: ds, vs, h, p => by
    obtain ⟨v, r, rfl, h1, h2⟩ := h
    simp only [pureL, Bool.and_eq_true] at p
    obtain ⟨q1, q2⟩ := rep_dp e d v h1 p.1
    obtain ⟨q3, q4⟩ := repL_dp e ds r h2 p.2
    exact ⟨by simp only [pyL]; exact .cons q1 q3, by simp only [pyL, PyData.canLayAll0, q2, q4, Bool.and_self]⟩
end
theorem repB_dp (st : StOk K c W H S) {d : D} {v : V} (r : RepB K c W H d v) (p : d.pure = true) : Dp K H v d.py ∧ d.py.canLay0 = true := by
  rcases r with r | ⟨a, rfl, _, h⟩
  · exact rep_dp st.sub d v r p
  · cases d with
    | lst ds =>
      obtain ⟨vs, h1, h2⟩ := h
      obtain ⟨q1, q2⟩ := repL_dp st.sub ds vs h2 (by simpa only [D.pure] using p)
      exact ⟨by simp only [D.py]; exact .lst (SqL.of h1) q1, by simp only [D.py, PyData.canLay0]; exact q2⟩
    | dic es => simp [D.pure] at p
    | dit es => simp [D.pure] at p
    | _ => cases h
end
/-- may be compared: data, not too deep -/
def okEq (d : D) : Bool := d.pure && decide (d.py.depth ≤ 64)
theorem okEq_shaped {K : PySem.W.Frag} {c : Cn} {W : Wd} {H : Hp} {S : DS} (st : StOk K c W H S) {d : D} {v : V} (r : RepB K c W H d v) (h : okEq d = true) : Dp K H v d.py ∧ SeqAt.shaped d.py = true := by
  unfold okEq at h
  rw [Bool.and_eq_true] at h
  obtain ⟨q1, q2⟩ := repB_dp st r h.1
  refine ⟨q1, ?_⟩
  show (d.py.canLay0 && decide (d.py.depth ≤ 64)) = true
  rw [q2, h.2]
  rfl
def dEqv (x y : D) : Bool := PyData.eqv x.py y.py
def dEq (x y : D) : Option D := if okEq x && okEq y then some (.bl (dEqv x y)) else none
def dNe (x y : D) : Option D := if okEq x && okEq y then some (.bl (!dEqv x y)) else none
def intsOf : List D → Option (List Int)
  | [] => some []
  | .int i :: ds => (intsOf ds).map (i :: ·)
  | _ :: _ => none
def blsOf : List D → Option (List Bool)
  | [] => some []
  | .bl i :: ds => (blsOf ds).map (i :: ·)
  | _ :: _ => none
def strsOf : List D → Option (List Str)
  | [] => some []
  | .str i :: ds => (strsOf ds).map (i :: ·)
  | _ :: _ => none
def dAdd : D → D → Option D
  | .int i, .int j => some (.int (i + j))
  | .str a, .str b => if a.length + b.length ≤ 16777216 then some (.str (a ++ b)) else none
  | .tup a, .tup b => if a.length + b.length ≤ 16777216 then some (.tup (a ++ b)) else none
  | .lst a, .lst b => if a.length + b.length ≤ 16777216 then some (.lst (a ++ b)) else none
  | _, _ => none
def dSub : D → D → Option D
  | .int i, .int j => some (.int (i - j))
  | _, _ => none
def dMul : D → D → Option D
  | .int i, .int j => if i.natAbs.log2 + j.natAbs.log2 < 1000000 then some (.int (i * j)) else none
  | _, _ => none
def dDiv : D → D → Option D
  | .int i, .int j => if 0 < j ∧ j.natAbs.log2 < 9000 then some (.int (i / j)) else none
  | _, _ => none
def dMod : D → D → Option D
  | .int i, .int j => if 0 < j then some (.int (i % j)) else none
  | _, _ => none
def dPow : D → D → Option D
  | .int i, .int j => if 0 ≤ j ∧ j ≤ 1000000 ∧ i.natAbs < 2 ^ 64 then some (.int (i ^ j.toNat)) else none
  | _, _ => none
def dLt : D → D → Option D
  | .int i, .int j => some (.bl (decide (i < j)))
  | _, _ => none
def dLe : D → D → Option D
  | .int i, .int j => some (.bl (decide (i ≤ j)))
  | _, _ => none
def dGt : D → D → Option D
  | .int i, .int j => some (.bl (decide (j < i)))
  | _, _ => none
def dGe : D → D → Option D
  | .int i, .int j => some (.bl (decide (j ≤ i)))
  | _, _ => none
def isNon : D → Bool
  | .non => true
  | _ => false
def dIs : D → D → Option D
  | x, .non => some (.bl (isNon x))
  | _, _ => none
def dIsNot : D → D → Option D
  | x, .non => some (.bl (!isNon x))
  | _, _ => none
/-- x[i] of a list, a tuple, a text -/
def dIx : D → D → Option D
  | .lst ds, .int i => atI ds i
  | .tup ds, .int i => atI ds i
  | .tpx ds, .int i => atI ds i
  | .str s, .int i => (atI s.cps.toList i).map fun c => .str ⟨#[c]⟩
  | _, _ => none
section
variable {K : PySem.W.Frag} {c : Cn} {W W' : Wd} {H H' : Hp} {S : DS}
theorem ints_rep : ∀ {ds : List D} {ns : List Int} {vs : List V}, intsOf ds = some ns → RepL K c W ds vs → vs = ns.map V.int
  | [], ns, vs, h, r => by cases h; cases r; rfl
  | d :: ds, ns, vs, h, r => by
    obtain ⟨v, r', rfl, h1, h2⟩ := r
    cases d <;> first | (simp [intsOf] at h; done) | skip
    simp only [intsOf, Option.map_eq_some_iff] at h
    obtain ⟨ms, e1, rfl⟩ := h
    cases h1
    rw [List.map_cons, ints_rep e1 h2]
theorem bls_rep : ∀ {ds : List D} {ns : List Bool} {vs : List V}, blsOf ds = some ns → RepL K c W ds vs → vs = ns.map V.bl
  | [], ns, vs, h, r => by cases h; cases r; rfl
  | d :: ds, ns, vs, h, r => by
    obtain ⟨v, r', rfl, h1, h2⟩ := r
    cases d <;> first | (simp [blsOf] at h; done) | skip
    simp only [blsOf, Option.map_eq_some_iff] at h
    obtain ⟨ms, e1, rfl⟩ := h
    cases h1
    rw [List.map_cons, bls_rep e1 h2]
theorem strs_rep : ∀ {ds : List D} {ns : List Str} {vs : List V}, strsOf ds = some ns → RepL K c W ds vs → vs = ns.map V.str ∧ ∀ s ∈ ns, SOk s
  | [], ns, vs, h, r => by cases h; cases r; exact ⟨rfl, fun _ z => nomatch z⟩
  | d :: ds, ns, vs, h, r => by
    obtain ⟨v, r', rfl, h1, h2⟩ := r
    cases d <;> first | (simp [strsOf] at h; done) | skip
    simp only [strsOf, Option.map_eq_some_iff] at h
    obtain ⟨ms, e1, rfl⟩ := h
    obtain ⟨rfl, hs⟩ := h1
    obtain ⟨q1, q2⟩ := strs_rep e1 h2
    refine ⟨by rw [List.map_cons, q1], fun s hm => ?_⟩
    rcases List.mem_cons.mp hm with rfl | hm
    · exact hs
    · exact q2 s hm
theorem repL_get : ∀ {ds : List D} {vs : List V} {j : Nat} {d : D}, RepL K c W ds vs → ds[j]? = some d → ∃ v, vs[j]? = some v ∧ Rep K c W d v
  | [], _, _, _, _, h => by simp at h
  | d :: ds, vs, j, d', r, h => by
    obtain ⟨v, r', rfl, h1, h2⟩ := r
    cases j with
    | zero =>
      simp only [List.getElem?_cons_zero, Option.some.injEq] at h
      subst h
      exact ⟨v, rfl, h1⟩
    | succ j =>
      rw [List.getElem?_cons_succ] at h ⊢
      exact repL_get h2 h
theorem repL_at {ds : List D} {vs : List V} {i : Int} {d : D} (r : RepL K c W ds vs) (h : atI ds i = some d) : ∃ v, atI vs i = some v ∧ Rep K c W d v := by
  unfold atI at h ⊢
  rw [RepL.length r]
  cases e : ixN ds.length i with
  | none => rw [e] at h; cases h
  | some j =>
    rw [e] at h
    exact repL_get r h
theorem repL_append : ∀ {ds es : List D} {vs us : List V}, RepL K c W ds vs → RepL K c W es us → RepL K c W (ds ++ es) (vs ++ us)
  | [], _, vs, _, r, r2 => by cases r; exact r2
  | d :: ds, es, vs, us, r, r2 => by
    obtain ⟨v, r', rfl, h1, h2⟩ := r
    exact ⟨v, _, rfl, h1, repL_append h2 r2⟩
theorem repL_take : ∀ {ds : List D} {vs : List V} (n : Nat), RepL K c W ds vs → RepL K c W (ds.take n) (vs.take n)
  | [], vs, n, r => by cases r; simp only [List.take_nil]; rfl
  | d :: ds, vs, n, r => by
    obtain ⟨v, r', rfl, h1, h2⟩ := r
    cases n with
    | zero => exact (rfl : RepL K c W [] [])
    | succ n => exact ⟨v, _, rfl, h1, repL_take n h2⟩
theorem repL_drop : ∀ {ds : List D} {vs : List V} (n : Nat), RepL K c W ds vs → RepL K c W (ds.drop n) (vs.drop n)
  | [], vs, n, r => by cases r; simp only [List.drop_nil]; rfl
  | d :: ds, vs, n, r => by
    obtain ⟨v, r', rfl, h1, h2⟩ := r
    cases n with
    | zero => exact ⟨v, _, rfl, h1, h2⟩
    | succ n => exact repL_drop n h2
end
/-! ### the operators' rules -/
section
variable {X : Cx} {c : Cn} {r r' : R2} {f : D → D → Option D}
theorem OpM.or1 (h : OpM X.K c r f) : OpM X.K c (fun x y H Q => r x y H Q ∨ r' x y H Q) f := fun Q st a b e k => .inl (h Q st a b e k)
theorem opm_int2 {C : Int → Int → Prop} {g : Int → Int → V} (h : ∀ {d e d' : D}, f d e = some d' → ∃ i j, d = .int i ∧ e = .int j ∧ C i j ∧ ∀ W, Rep X.K c W d' (g i j)) : OpM X.K c (rI C g) f := fun {W H S d e d' v u} Q st a b q k => by
  obtain ⟨i, j, rfl, rfl, hc, hr⟩ := h q
  exact ⟨i, j, a.int, b.int, hc, k W H _ st (Keep.refl W H) (hr W)⟩
theorem opm_int0 {g : Int → Int → V} (h : ∀ {d e d' : D}, f d e = some d' → ∃ i j, d = .int i ∧ e = .int j ∧ ∀ W, Rep X.K c W d' (g i j)) : OpM X.K c (rI0 g) f := fun {W H S d e d' v u} Q st a b q k => by
  obtain ⟨i, j, rfl, rfl, hr⟩ := h q
  exact ⟨i, j, a.int, b.int, k W H _ st (Keep.refl W H) (hr W)⟩
theorem m_sub : OpM X.K c (rI0 fun i j => .int (i - j)) dSub := opm_int0 fun {d e d'} h => by
  cases d <;> cases e <;> first | (cases h; done) | skip
  cases h
  exact ⟨_, _, rfl, rfl, fun _ => rfl⟩
theorem m_mul : OpM X.K c (rI CMulW fun i j => .int (i * j)) dMul := opm_int2 fun {d e d'} h => by
  cases d <;> cases e <;> first | (cases h; done) | skip
  simp only [dMul] at h
  split at h
  · cases h
    exact ⟨_, _, rfl, rfl, by assumption, fun _ => rfl⟩
  · cases h
theorem m_div : OpM X.K c (rI CDivW fun i j => .int (i / j)) dDiv := opm_int2 fun {d e d'} h => by
  cases d <;> cases e <;> first | (cases h; done) | skip
  simp only [dDiv] at h
  split at h
  · cases h
    exact ⟨_, _, rfl, rfl, by assumption, fun _ => rfl⟩
  · cases h
theorem m_mod : OpM X.K c (rI (fun _ j => 0 < j) fun i j => .int (i % j)) dMod := opm_int2 fun {d e d'} h => by
  cases d <;> cases e <;> first | (cases h; done) | skip
  simp only [dMod] at h
  split at h
  · cases h
    exact ⟨_, _, rfl, rfl, by assumption, fun _ => rfl⟩
  · cases h
theorem m_pow : OpM X.K c (rI CPow fun i j => .int (i ^ j.toNat)) dPow := opm_int2 fun {d e d'} h => by
  cases d <;> cases e <;> first | (cases h; done) | skip
  simp only [dPow] at h
  split at h
  · cases h
    exact ⟨_, _, rfl, rfl, by assumption, fun _ => rfl⟩
  · cases h
theorem m_lt : OpM X.K c (rI0 fun i j => .bl (decide (i < j))) dLt := opm_int0 fun {d e d'} h => by
  cases d <;> cases e <;> first | (cases h; done) | skip
  cases h
  exact ⟨_, _, rfl, rfl, fun _ => rfl⟩
theorem m_le : OpM X.K c (rI0 fun i j => .bl (decide (i ≤ j))) dLe := opm_int0 fun {d e d'} h => by
  cases d <;> cases e <;> first | (cases h; done) | skip
  cases h
  exact ⟨_, _, rfl, rfl, fun _ => rfl⟩
theorem m_gt : OpM X.K c (rI0 fun i j => .bl (decide (j < i))) dGt := opm_int0 fun {d e d'} h => by
  cases d <;> cases e <;> first | (cases h; done) | skip
  cases h
  exact ⟨_, _, rfl, rfl, fun _ => rfl⟩
theorem m_ge : OpM X.K c (rI0 fun i j => .bl (decide (j ≤ i))) dGe := opm_int0 fun {d e d'} h => by
  cases d <;> cases e <;> first | (cases h; done) | skip
  cases h
  exact ⟨_, _, rfl, rfl, fun _ => rfl⟩
theorem m_eq : OpM X.K c (rEqD X.K) dEq := fun {W H S d e d' v u} Q st a b q k => by
  unfold dEq at q
  split at q
  · rename_i ho
    rw [Bool.and_eq_true] at ho
    cases q
    obtain ⟨q1, q2⟩ := okEq_shaped st a ho.1
    obtain ⟨q3, q4⟩ := okEq_shaped st b ho.2
    exact ⟨_, _, q1, q3, q2, q4, k W H _ st (Keep.refl W H) rfl⟩
  · cases q
theorem m_ne : OpM X.K c (rNeD X.K) dNe := fun {W H S d e d' v u} Q st a b q k => by
  unfold dNe at q
  split at q
  · rename_i ho
    rw [Bool.and_eq_true] at ho
    cases q
    obtain ⟨q1, q2⟩ := okEq_shaped st a ho.1
    obtain ⟨q3, q4⟩ := okEq_shaped st b ho.2
    exact ⟨_, _, q1, q3, q2, q4, k W H _ st (Keep.refl W H) rfl⟩
  · cases q
theorem repB_non {K : PySem.W.Frag} {W : Wd} {H : Hp} {d : D} {v : V} (r : RepB K c W H d v) : decide (v = .non) = isNon d := by
  rcases r with r | ⟨a, rfl, _, h⟩
  · cases d with
    | non => cases r; rfl
    | bl b => cases r; rfl
    | int i => cases r; rfl
    | str s => obtain ⟨rfl, _⟩ := r; rfl
    | tup ds => obtain ⟨_, _, rfl, _⟩ := r; rfl
    | tpx ds => obtain ⟨_, _, _, rfl, _⟩ := r; rfl
    | lst ds => obtain ⟨_, _, rfl, _⟩ := r; rfl
    | dic ds => obtain ⟨_, _, rfl, _⟩ := r; rfl
    | dit ds => obtain ⟨_, _, rfl, _⟩ := r; rfl
    | fn n => obtain ⟨_, rfl, _⟩ := r; rfl
    | st => obtain ⟨_, rfl, _⟩ := r; rfl
    | scr ns => obtain ⟨_, rfl, _⟩ := r; rfl
  · cases d with
    | lst ds => rfl
    | dic ds => rfl
    | dit ds => rfl
    | _ => cases h
theorem m_is : OpM X.K c (fun x y H Q => y = .non ∧ Q (.bl (decide (x = .non))) H) dIs := fun {W H S d e d' v u} Q st a b q k => by
  cases e <;> first | (cases q; done) | skip
  cases q
  exact ⟨b.non, k W H _ st (Keep.refl W H) (by rw [repB_non a]; rfl)⟩
theorem m_isnot : OpM X.K c (fun x y H Q => y = .non ∧ Q (.bl (!decide (x = .non))) H) dIsNot := fun {W H S d e d' v u} Q st a b q k => by
  cases e <;> first | (cases q; done) | skip
  cases q
  exact ⟨b.non, k W H _ st (Keep.refl W H) (by rw [repB_non a]; rfl)⟩
theorem sok_add {a b : Str} (ha : SOk a) (hb : SOk b) (h : a.length + b.length ≤ 16777216) : SOk (a ++ b) := by
  have e : (a ++ b).cps = a.cps ++ b.cps := rfl
  refine ⟨?_, ?_⟩
  · show (a ++ b).cps.size ≤ _
    rw [e, Array.size_append]
    exact h
  · show (a ++ b).cps.all _ = true
    have h1 : a.cps.all (· < 0x110000) = true := ha.2
    have h2 : b.cps.all (· < 0x110000) = true := hb.2
    rw [e, Array.all_append, h1, h2]
    rfl
/-- a + b -/
def rAddAll (K : PySem.W.Frag) : R2 := fun x y H Q => (rI0 (fun i j => .int (i + j))) x y H Q ∨ ((fun x y H Q => ∃ i j, x = .str i ∧ y = .str j ∧ i.length + j.length ≤ sizeLine ∧ Q (.str (i ++ j)) H) x y H Q ∨ (rCatA K x y H Q ∨ rCat x y H Q))
theorem op_addAll : OpR X (binaryOp .Add) (rAddAll X.K) := op_add.or (op_add_str.or (op_catA.or op_cat))
theorem repL_isNil {K : PySem.W.Frag} {W : Wd} {ds : List D} {vs : List V} (r : RepL K c W ds vs) : vs = [] ↔ ds = [] := by
  have h := RepL.length r
  constructor
  · intro e
    subst e
    exact List.eq_nil_of_length_eq_zero h.symm
  · intro e
    subst e
    exact List.eq_nil_of_length_eq_zero h
theorem cat_own {K : PySem.W.Frag} {W : Wd} {H : Hp} {S : DS} {a b : List D} {v u : V} {Q : VK} (st : StOk K c W H S) (ra : RepB K c W H (.lst a) v) (rb : RepB K c W H (.lst b) u) (hl : a.length + b.length ≤ 16777216)
    (k : ∀ p vs, H p = none → RepL K c W (a ++ b) vs → Q (.ref p) (upd H p (.lst vs))) : rCat v u H Q := by
  obtain ⟨p, vs, rfl, h1, r1⟩ := ra.lst st
  obtain ⟨q, us, rfl, h2, r2⟩ := rb.lst st
  exact ⟨p, q, vs, us, rfl, rfl, h1, h2, line_le (by rw [RepL.length r1, RepL.length r2]; exact hl), fun l hl' => k l _ hl' (repL_append r1 r2)⟩
theorem new_lst {K : PySem.W.Frag} {W : Wd} {H : Hp} {S : DS} {p : Addr} {ds : List D} {vs : List V} (st : StOk K c W H S) (hp : H p = none) (r : RepL K c W ds vs) : Rep K c (W.frz p (.lst vs)) (.lst ds) (.ref p) :=
  ⟨p, vs, rfl, upd_same, RepL.ext (frz_ex (fresh_back st.sub hp)) ds vs r⟩
theorem m_add : OpM X.K c (rAddAll X.K) dAdd := fun {W H S d e d' v u} Q st a b q k => by
  cases d <;> cases e <;> first | (cases q; done) | skip
  · cases q
    exact .inl ⟨_, _, a.int, b.int, k W H _ st (Keep.refl W H) rfl⟩
  · simp only [dAdd] at q
    split at q
    · rename_i hl
      cases q
      obtain ⟨rfl, h1⟩ := a.str
      obtain ⟨rfl, h2⟩ := b.str
      exact .inr (.inl ⟨_, _, rfl, rfl, line_le hl, k W H _ st (Keep.refl W H) ⟨rfl, sok_add h1 h2 hl⟩⟩)
    · cases q
  · simp only [dAdd] at q
    split at q
    · rename_i xs ys hl
      cases q
      obtain ⟨p, vs, rfl, h1, h1', r1⟩ := a.tup st
      obtain ⟨p2, us, rfl, h2, h2', r2⟩ := b.tup st
      refine .inr (.inr (.inl ⟨p, p2, vs, us, rfl, rfl, SqT.of h1, SqT.of h2, line_le (by rw [RepL.length r1, RepL.length r2]; exact hl), fun z => ?_, fun _ z => ?_, fun _ _ l hn => ?_⟩))
      · have z' := (repL_isNil r1).mp z
        subst z'
        exact k W H _ st (Keep.refl W H) ⟨p2, us, rfl, h2', r2⟩
      · have z' := (repL_isNil r2).mp z
        subst z'
        rw [List.append_nil] at k
        exact k W H _ st (Keep.refl W H) ⟨p, vs, rfl, h1', r1⟩
      · exact k _ _ _ (lay_st st hn) (lay_keep st hn) (new_tup st hn (repL_append r1 r2))
    · cases q
  · simp only [dAdd] at q
    split at q
    · rename_i xs ys hl
      cases q
      exact .inr (.inr (.inr (cat_own st a b hl fun p vs hn r => k _ _ _ (lay_st st hn) (lay_keep st hn) (new_lst st hn r))))
    · cases q
def dCat : D → D → Option D
  | .lst a, .lst b => if a.length + b.length ≤ 16777216 then some (.lst (a ++ b)) else none
  | _, _ => none
theorem o_cat : OpO X.K c rCat dCat := fun {W H S d e d' v u} Q st a b q k => by
  cases d <;> cases e <;> first | (cases q; done) | skip
  simp only [dCat] at q
  split at q
  · rename_i xs ys hl
    cases q
    exact cat_own st a b hl fun p vs hn r => k _ _ _ (new_st st hn) (new_keep st hn) (new_own st hn r)
  · cases q
theorem m_ix : OpM X.K c (rIx X.K) dIx := fun {W H S d e d' v u} Q st a b q k => by
  cases d <;> cases e <;> first | (cases q; done) | skip
  · rename_i s i
    simp only [dIx, Option.map_eq_some_iff] at q
    obtain ⟨x, h1, rfl⟩ := q
    obtain ⟨rfl, h2⟩ := a.str
    refine .inr (.inr ⟨s, i, x, rfl, b.int, line_le h2.1, h1, k W H _ st (Keep.refl W H) ⟨rfl, ?_⟩⟩)
    obtain ⟨j, _, hj, hlt, _⟩ := atI_get h1
    refine ⟨by show 1 ≤ 16777216; decide, ?_⟩
    have h3 : s.cps.all (· < 0x110000) = true := h2.2
    show (#[x] : Array Nat).all (· < 0x110000) = true
    rw [Array.all_eq_true'] at h3 ⊢
    intro y hy
    have hy' : y = x := by simpa using hy
    subst hy'
    exact h3 y (by simpa using List.mem_of_getElem? hj)
  · rename_i ds i
    obtain ⟨p, vs, rfl, h1, h1', r1⟩ := a.tup st
    obtain ⟨v, h2, h3⟩ := repL_at r1 q
    exact .inr (.inl ⟨p, vs, i, v, rfl, b.int, SqT.of h1, h2, k W H _ st (Keep.refl W H) h3⟩)
  · rename_i ds i
    obtain ⟨p, vs, rfl, h1, r1⟩ := a.tpx st
    obtain ⟨v, h2, h3⟩ := repL_at r1 q
    exact .inr (.inl ⟨p, vs, i, v, rfl, b.int, h1, h2, k W H _ st (Keep.refl W H) h3⟩)
  · rename_i ds i
    obtain ⟨p, vs, rfl, h1, r1⟩ := a.lst st
    obtain ⟨v, h2, h3⟩ := repL_at r1 q
    exact .inl ⟨p, vs, i, v, rfl, b.int, SqL.of h1, h2, k W H _ st (Keep.refl W H) h3⟩
end
end Mini
namespace Mini
open PySem PySem.Spec PyProof.Rows L2 Evl

/-! ### slices -/
abbrev FP := En → M (Option Int)
def noP : FP := fun _ => rt none
def isInt : D → Option Int
  | .int i => some i
  | _ => none
def partP (a : FE) : FP := fun ρ => bd (a ρ) fun x => lift ((isInt x).map some)
def cutG {α : Type} (xs : List α) (lo hi : Option Int) : List α := (xs.drop (HT.sIx xs.length 0 lo)).take (HT.sIx xs.length xs.length hi - HT.sIx xs.length 0 lo)
def dCut (lo hi : Option Int) : D → Option D
  | .lst ds => some (.lst (cutG ds lo hi))
  | .tup ds => some (.tup (cutG ds lo hi))
  | .str s => some (.str (cutS s lo hi))
  | _ => none
def dCutL (lo hi : Option Int) : D → Option D
  | .lst ds => some (.lst (cutG ds lo hi))
  | _ => none
def slcE (a : FE) (lo hi : FP) : FE := fun ρ => bd (a ρ) fun x => bd (lo ρ) fun l => bd (hi ρ) fun h => lift (dCut l h x)
def slcO (a : FE) (lo hi : FP) : FE := fun ρ => bd (a ρ) fun x => bd (lo ρ) fun l => bd (hi ρ) fun h => lift (dCutL l h x)
section
variable {K : PySem.W.Frag} {c : Cn} {W W1 W' : Wd} {H H1 H' : Hp} {S S1 : DS} {σ : L2.St} {ρ : En} {E : XK}
def OutP (K : PySem.W.Frag) (c : Cn) (W : Wd) (H : Hp) (E : XK) (Q : Option Int → Hp → Prop) : Res (Option Int) → Prop
  | .ok d S' => ∀ W' H', StOk K c W' H' S' → Keep W H W' H' → Q d H'
  | .er n p S' => ErQ K c W H E n p S'
  | .no => False
def tP (K : PySem.W.Frag) (c : Cn) (E : XK) (f : FP) : TO := fun σ H Q => ∃ W ρ S, StOk K c W H S ∧ EnvOk K c W H σ ρ ∧ OutP K c W H E Q (f ρ S)
theorem then_P {f : FP} {β : Type} {g : Option Int → M β} {Q : Option Int → Hp → Prop} {O : Res β → Prop} (st : StOk K c W H S) (en : EnvOk K c W H σ ρ) (hO : ∀ n p S', O (.er n p S') → ErQ K c W H E n p S') (hN : ¬ O .no)
    (h : O (bd (f ρ) g S)) (k : ∀ d S' W' H', StOk K c W' H' S' → Keep W H W' H' → O (g d S') → Q d H') : tP K c E f σ H Q := by
  refine ⟨W, ρ, S, st, en, ?_⟩
  unfold bd at h
  cases e : f ρ S with
  | ok d S' =>
    rw [e] at h
    exact fun W' H' st' k' => k d S' W' H' st' k' h
  | er n p S' =>
    rw [e] at h
    exact hO n p S' h
  | no =>
    rw [e] at h
    exact hN h
theorem cutG_length {α : Type} (xs : List α) (lo hi : Option Int) : (cutG xs lo hi).length ≤ xs.length := by
  unfold cutG
  rw [List.length_take, List.length_drop]
  omega
theorem repL_cut {ds : List D} {vs : List V} (lo hi : Option Int) (r : RepL K c W ds vs) : RepL K c W (cutG ds lo hi) (cutV vs lo hi) := by
  unfold cutG cutV
  rw [RepL.length r]
  exact repL_take _ (repL_drop _ r)
theorem all_drop_take {s : Array Nat} {p : Nat → Bool} (h : s.all p = true) (l : List Nat) (hl : ∀ x ∈ l, x ∈ s.toList) : (l.toArray).all p = true := by
  rw [Array.all_eq_true'] at h ⊢
  intro x hx
  exact h x (by simpa using hl x (by simpa using hx))
theorem sok_cut {s : Str} (h : SOk s) (lo hi : Option Int) : SOk (cutS s lo hi) := by
  refine ⟨Nat.le_trans (cutS_length s lo hi) h.1, ?_⟩
  have h2 : s.cps.all (· < 0x110000) = true := h.2
  refine all_drop_take (s := s.cps) (p := fun x => decide (x < 0x110000)) h2 _ fun x hx => ?_
  exact List.mem_of_mem_drop (List.mem_of_mem_take hx)
end
section
variable {X : Cx} {c : Cn} {E : XK} {a e : Expr} {lo hi : Option Expr} {fa : FE} {fl fh : FP} {pos p2 : Pos}
theorem mp_no : PO X none (tP X.K c E noP) := ⟨fun pins s σ H Q I h => by
  obtain ⟨W, ρ, S, st, en, q⟩ := h
  exact po_none.run pins s σ H Q I (q W H st (Keep.refl W H))⟩
theorem mp_some (h : PE X e (tB X.K c E fa)) : PO X (some e) (tP X.K c E (partP fa)) := ⟨fun pins s σ H Q I h' => by
  obtain ⟨W, ρ, S, st, en, q⟩ := h'
  refine (po_some h).run pins s σ H Q I ?_
  refine then_B (O := OutP X.K c W H E Q) st en (fun _ _ _ z => z) (fun z => z) q fun d S1 W1 H1 v st1 k1 r1 q1 => ?_
  obtain ⟨o, e', q3⟩ := lift_ok (β := Option Int) (O := OutP X.K c W H E Q) (fun z => z) q1
  cases d <;> first | (cases e'; done) | skip
  cases e'
  exact ⟨_, r1.int, q3 W1 H1 st1 k1⟩⟩
def rSlAll (K : PySem.W.Frag) : V → Option Int → Option Int → Hp → VK → Prop := fun x lo hi H Q => rSlL K x lo hi H Q ∨ (rSlA K x lo hi H Q ∨ rSlS x lo hi H Q)
theorem sl_all : SlR X (rSlAll X.K) := sl_list.or (sl_tupA.or sl_str)
theorem OutP.toB {W W1 : Wd} {H H1 : Hp} {S1 : DS} {Q : Option Int → Hp → Prop} {r : Res (Option Int)} (h : OutP X.K c W H E Q r) (k : Keep W H W1 H1) (st : StOk X.K c W1 H1 S1) : OutP X.K c W1 H1 E Q r := by
  cases r with
  | ok d S' => exact fun W' H' st' k' => h W' H' st' (k.tr st k')
  | er n p S' => exact ErQ.pre h k st
  | no => exact h
theorem slc_run {f : Option Int → Option Int → D → Option D} {r : V → Option Int → Option Int → Hp → VK → Prop} {O : Wd → Hp → VK → Res D → Prop} {σ : L2.St} {H : Hp} {Q : VK} {W : Wd} {ρ : En} {S : DS} (st : StOk X.K c W H S) (en : EnvOk X.K c W H σ ρ)
    (hO : ∀ W H n p S', O W H Q (.er n p S') → ErQ X.K c W H E n p S') (hN : ∀ W H, ¬ O W H Q .no) (pre : ∀ W H W1 H1 S1 r, O W H Q r → Keep W H W1 H1 → StOk X.K c W1 H1 S1 → O W1 H1 Q r)
    (q : O W H Q (bd (fa ρ) (fun x => bd (fl ρ) fun l => bd (fh ρ) fun h => lift (f l h x)) S))
    (hr : ∀ W H S v d d' l h, StOk X.K c W H S → RepB X.K c W H d v → f l h d = some d' → O W H Q (.ok d' S) → r v l h H Q) : tSl r (tB X.K c E fa) (tP X.K c E fl) (tP X.K c E fh) σ H Q := by
  refine then_B (O := O W H Q) st en (hO W H) (hN W H) q fun d S1 W1 H1 v st1 k1 r1 q1 => ?_
  refine then_P (O := O W1 H1 Q) st1 (en.ext k1) (hO W1 H1) (hN W1 H1) (pre _ _ _ _ _ _ q1 k1 st1) fun l S2 W2 H2 st2 k2 q2 => ?_
  refine then_P (O := O W2 H2 Q) st2 ((en.ext k1).ext k2) (hO W2 H2) (hN W2 H2) (pre _ _ _ _ _ _ q2 k2 st2) fun h S3 W3 H3 st3 k3 q3 => ?_
  obtain ⟨d', e', q4⟩ := lift_ok (β := D) (O := O W3 H3 Q) (hN W3 H3) (pre _ _ _ _ _ _ q3 k3 st3)
  exact hr W3 H3 S3 v d d' l h st3 ((r1.ext k2).ext k3) e' q4
theorem me_slc (ha : PE X e (tB X.K c E fa)) (hl : PO X lo (tP X.K c E fl)) (hh : PO X hi (tP X.K c E fh)) : PE X (.Subscript e (.Slice lo hi none p2) pos) (tM X.K c E (slcE fa fl fh)) :=
  pe_imp (pe_slice sl_all ha hl hh) fun σ H Q h => by
    obtain ⟨W, ρ, S, st, en, q⟩ := tM_un h
    refine slc_run (O := fun W H Q r => OutM X.K c W H E Q r) st en (fun _ _ _ _ _ z => z) (fun _ _ z => z) (fun _ _ _ _ _ _ z k s => OutM.pre (Q' := Q) z k s) q fun W H S v d d' l h st r e' k => ?_
    cases d <;> first | (cases e'; done) | skip
    · rename_i s
      cases e'
      obtain ⟨rfl, h1⟩ := r.str
      exact .inr (.inr ⟨s, rfl, line_le h1.1, k W H _ st (Keep.refl W H) ⟨rfl, sok_cut h1 l h⟩⟩)
    · rename_i ds
      cases e'
      obtain ⟨p, vs, rfl, h1, h1', r1⟩ := r.tup st
      refine .inr (.inl ⟨p, vs, rfl, SqT.of h1, fun hw => ?_, fun _ l' hn => ?_⟩)
      · have e2 : cutG ds l h = ds := by
          unfold cutG
          rw [← RepL.length r1, hw.1, hw.2, List.drop_zero, Nat.sub_zero, RepL.length r1, List.take_length]
        rw [e2] at k
        exact k W H _ st (Keep.refl W H) ⟨p, vs, rfl, h1', r1⟩
      · exact k _ _ _ (lay_st st hn) (lay_keep st hn) (new_tup st hn (repL_cut l h r1))
    · rename_i ds
      cases e'
      obtain ⟨p, vs, rfl, h1, r1⟩ := r.lst st
      exact .inl ⟨p, vs, rfl, SqL.of h1, fun l' hn => k _ _ _ (lay_st st hn) (lay_keep st hn) (new_lst st hn (repL_cut l h r1))⟩
theorem me_slcO (ha : PE X e (tB X.K c E fa)) (hl : PO X lo (tP X.K c E fl)) (hh : PO X hi (tP X.K c E fh)) : PE X (.Subscript e (.Slice lo hi none p2) pos) (tO X.K c E (slcO fa fl fh)) :=
  pe_imp (pe_slice sl_list ha hl hh) fun σ H Q h => by
    obtain ⟨W, ρ, S, st, en, q⟩ := tO_un h
    refine slc_run (O := fun W H Q r => OutO X.K c W H E Q r) st en (fun _ _ _ _ _ z => z) (fun _ _ z => z) (fun _ _ _ _ _ _ z k s => OutO.pre z k s) q fun W H S v d d' l h st r e' k => ?_
    cases d <;> first | (cases e'; done) | skip
    rename_i ds
    cases e'
    obtain ⟨p, vs, rfl, h1, r1⟩ := r.lst st
    exact ⟨p, vs, rfl, SqL.of h1, fun l' hn => k _ _ _ (new_st st hn) (new_keep st hn) (new_own st hn (repL_cut l h r1))⟩
end
/-! ### calls of built-ins with one value -/
abbrev R1 := List V → Hp → VK → Prop
def UnM (K : PySem.W.Frag) (c : Cn) (r : R1) (f : D → Option D) : Prop := ∀ {W : Wd} {H : Hp} {S : DS} {d d' : D} {v : V} (Q : VK), StOk K c W H S → RepB K c W H d v → f d = some d' →
  (∀ W' H' x, StOk K c W' H' S → Keep W H W' H' → Rep K c W' d' x → Q x H') → r [v] H Q
def UnO (K : PySem.W.Frag) (c : Cn) (r : R1) (f : D → Option D) : Prop := ∀ {W : Wd} {H : Hp} {S : DS} {d d' : D} {v : V} (Q : VK), StOk K c W H S → RepB K c W H d v → f d = some d' →
  (∀ W' H' x, StOk K c W' H' S → Keep W H W' H' → RepO K c H W' H' d' x → Q x H') → r [v] H Q
section
variable {X : Cx} {c : Cn} {E : XK} {a b e : Expr} {fa fb : FE} {x : Str} {p pos : Pos} {id T : String} {r : R1} {f : D → Option D}
theorem op1_out (hr : UnM X.K c r f) : ∀ σ H Q, tM X.K c E (op1 f fa) σ H Q → tCB r (tCons (tB X.K c E fa) tNil) σ H Q := fun σ H Q h => by
  obtain ⟨W, ρ, S, st, en, q⟩ := tM_un h
  refine then_B (O := OutM X.K c W H E Q) st en (fun _ _ _ z => z) (fun z => z) q fun d S1 W1 H1 v st1 k1 r1 q1 => ?_
  obtain ⟨d', e', q3⟩ := lift_ok (β := D) (O := OutM X.K c W H E Q) (fun z => z) q1
  exact hr Q st1 r1 e' fun W' H' x st' k' rx => q3 W' H' x st' (k1.tr st1 k') rx
theorem op1_outO (hr : UnO X.K c r f) : ∀ σ H Q, tO X.K c E (op1 f fa) σ H Q → tCB r (tCons (tB X.K c E fa) tNil) σ H Q := fun σ H Q h => by
  obtain ⟨W, ρ, S, st, en, q⟩ := tO_un h
  refine then_B (O := OutO X.K c W H E Q) st en (fun _ _ _ z => z) (fun z => z) q fun d S1 W1 H1 v st1 k1 r1 q1 => ?_
  obtain ⟨d', e', q3⟩ := lift_ok (β := D) (O := OutO X.K c W H E Q) (fun z => z) q1
  exact hr Q st1 r1 e' fun W' H' x st' k' rx => q3 W' H' x st' (k1.tr st1 k') (RepO.pre (H0 := H1) k1 (fun b e => st1.ds.at (k1.wex.2 b e)) rx)
theorem me_bl1 (hc : CallR X (.builtin id) r) (hr : UnM X.K c r f) (hg : Gl X x) (hm : X.mg x = none) (hv : bootBuiltins x = some (.builtin id)) (ha : PE X a (tB X.K c E fa)) (hn : x ≠ "__name__" := by decide) (hdb : (x == ("__debug__" : Str)) = false := by decide)
    (he : starEach [a] X.env = (false, eval a X.env) :: starEach [] X.env := by rfl) (hpl : (backTo pos (starEach [] X.env)).any (·.1) = false := by rfl) : PE X (.Call (.Name x p) [a] [] pos) (tM X.K c E (op1 f fa)) :=
  pe_imp (pe_callB hc hg hm hv (pa_cons ha pa_nil he) hn hdb he hpl) (op1_out hr)
theorem me_ty1 (hc : CallR X (.type T) r) (hr : UnM X.K c r f) (hg : Gl X x) (hm : X.mg x = none) (hv : bootBuiltins x = some (.type T)) (ha : PE X a (tB X.K c E fa)) (hn : x ≠ "__name__" := by decide) (hdb : (x == ("__debug__" : Str)) = false := by decide)
    (he : starEach [a] X.env = (false, eval a X.env) :: starEach [] X.env := by rfl) (hpl : (backTo pos (starEach [] X.env)).any (·.1) = false := by rfl) : PE X (.Call (.Name x p) [a] [] pos) (tM X.K c E (op1 f fa)) :=
  pe_imp (pe_callTy hc hg hm hv (pa_cons ha pa_nil he) hn hdb he hpl) (op1_out hr)
theorem me_bl1O (hc : CallR X (.builtin id) r) (hr : UnO X.K c r f) (hg : Gl X x) (hm : X.mg x = none) (hv : bootBuiltins x = some (.builtin id)) (ha : PE X a (tB X.K c E fa)) (hn : x ≠ "__name__" := by decide) (hdb : (x == ("__debug__" : Str)) = false := by decide)
    (he : starEach [a] X.env = (false, eval a X.env) :: starEach [] X.env := by rfl) (hpl : (backTo pos (starEach [] X.env)).any (·.1) = false := by rfl) : PE X (.Call (.Name x p) [a] [] pos) (tO X.K c E (op1 f fa)) :=
  pe_imp (pe_callB hc hg hm hv (pa_cons ha pa_nil he) hn hdb he hpl) (op1_outO hr)
theorem me_ty1O (hc : CallR X (.type T) r) (hr : UnO X.K c r f) (hg : Gl X x) (hm : X.mg x = none) (hv : bootBuiltins x = some (.type T)) (ha : PE X a (tB X.K c E fa)) (hn : x ≠ "__name__" := by decide) (hdb : (x == ("__debug__" : Str)) = false := by decide)
    (he : starEach [a] X.env = (false, eval a X.env) :: starEach [] X.env := by rfl) (hpl : (backTo pos (starEach [] X.env)).any (·.1) = false := by rfl) : PE X (.Call (.Name x p) [a] [] pos) (tO X.K c E (op1 f fa)) :=
  pe_imp (pe_callTy hc hg hm hv (pa_cons ha pa_nil he) hn hdb he hpl) (op1_outO hr)
/-- two values -/
def r2of (r : R1) : R2 := fun v u H Q => r [v, u] H Q
theorem me_bl2 {g : D → D → Option D} (hc : CallR X (.builtin id) r) (hr : OpM X.K c (r2of r) g) (hg : Gl X x) (hm : X.mg x = none) (hv : bootBuiltins x = some (.builtin id)) (ha : PE X a (tB X.K c E fa)) (hb : PE X b (tB X.K c E fb)) (hn : x ≠ "__name__" := by decide) (hdb : (x == ("__debug__" : Str)) = false := by decide)
    (he : starEach [a, b] X.env = (false, eval a X.env) :: starEach [b] X.env := by rfl) (he2 : starEach [b] X.env = (false, eval b X.env) :: starEach [] X.env := by rfl) (hpl : (backTo pos (starEach [b] X.env)).any (·.1) = false := by rfl) : PE X (.Call (.Name x p) [a, b] [] pos) (tM X.K c E (op2 g fa fb)) :=
  pe_imp (pe_callB hc hg hm hv (pa_cons ha (pa_cons hb pa_nil he2) he) hn hdb he hpl) fun σ H Q h => op2_out hr σ H Q h
/-- isinstance(e, T) -/
def isiD (T : String) : D → Option D
  | .non => (kitB "NoneType" T).map .bl
  | .bl _ => (kitB "bool" T).map .bl
  | .int _ => (kitB "int" T).map .bl
  | .str _ => (kitB "str" T).map .bl
  | .tup _ => (kitB "tuple" T).map .bl
  | .tpx _ => (kitB "tuple" T).map .bl
  | .lst _ => (kitB "list" T).map .bl
  | _ => none
theorem tyx_of {K : PySem.W.Frag} {W : Wd} {H : Hp} {S : DS} {d d' : D} {v : V} (st : StOk K c W H S) (r : RepB K c W H d v) (h : isiD T d = some d') : ∃ t k, TyX K H v (.type t) ∧ kitB t T = some k ∧ d' = .bl k := by
  cases d <;> first | (cases h; done) | skip
  all_goals (simp only [isiD, Option.map_eq_some_iff] at h; obtain ⟨k, h1, h2⟩ := h)
  · cases r.non; exact ⟨_, k, .base .non, h1, h2.symm⟩
  · cases r.bl; exact ⟨_, k, .base (.bl _), h1, h2.symm⟩
  · cases r.int; exact ⟨_, k, .base (.int _), h1, h2.symm⟩
  · obtain ⟨rfl, _⟩ := r.str; exact ⟨_, k, .base (.str _), h1, h2.symm⟩
  · obtain ⟨a, vs, rfl, q, _⟩ := r.tup st; exact ⟨_, k, .base (.tup q), h1, h2.symm⟩
  · obtain ⟨a, vs, o, rfl, q, _⟩ := r.tpo st; exact ⟨_, k, .fTuple q, h1, h2.symm⟩
  · obtain ⟨a, vs, rfl, q, _⟩ := r.lst st; exact ⟨_, k, .base (.lst q), h1, h2.symm⟩
theorem me_isi {y : Str} {p2 : Pos} (hg : Gl X "isinstance") (hm : X.mg "isinstance" = none) (hg2 : Gl X y) (hm2 : X.mg y = none) (hv2 : bootBuiltins y = some (.type T)) (ha : PE X a (tB X.K c E fa)) (hn2 : y ≠ "__name__" := by decide) (hdb2 : (y == ("__debug__" : Str)) = false := by decide)
    (he : starEach [a, .Name y p2] X.env = (false, eval a X.env) :: starEach [.Name y p2] X.env := by rfl) (he2 : starEach [.Name y p2] X.env = (false, eval (.Name y p2) X.env) :: starEach [] X.env := by rfl) (hpl : (backTo pos (starEach [.Name y p2] X.env)).any (·.1) = false := by rfl) :
    PE X (.Call (.Name "isinstance" p) [a, .Name y p2] [] pos) (tM X.K c E (op1 (isiD T) fa)) :=
  pe_imp (pe_callB call_isi hg hm boot_isinstance (pa_cons ha (pa_cons (pe_bltn (v := .ty T) hg2 hm2 hv2 rfl hn2 hdb2) pa_nil he2) he) (by decide) (by decide) he hpl) fun σ H Q h => by
    obtain ⟨W, ρ, S, st, en, q⟩ := tM_un h
    refine then_B (O := OutM X.K c W H E Q) st en (fun _ _ _ z => z) (fun z => z) q fun d S1 W1 H1 v st1 k1 r1 q1 => ?_
    obtain ⟨d', e', q3⟩ := lift_ok (β := D) (O := OutM X.K c W H E Q) (fun z => z) q1
    obtain ⟨t, k, h1, h2, rfl⟩ := tyx_of st1 r1 e'
    exact ⟨v, .ty T, _, _, k, rfl, .ty T, h1, kit_ty h2, q3 W1 H1 _ st1 k1 rfl⟩
end
/-! ### what the built-ins give -/
def dLen : D → Option D
  | .str s => some (.int s.length)
  | .tup ds => some (.int ds.length)
  | .tpx ds => some (.int ds.length)
  | .lst ds => some (.int ds.length)
  | _ => none
def dAbs : D → Option D
  | .int i => some (.int (if i < 0 then -i else i))
  | _ => none
def dInt : D → Option D
  | .int i => some (.int i)
  | .bl k => some (.int (if k then 1 else 0))
  | _ => none
def dTuple : D → Option D
  | .lst ds => some (.tup ds)
  | .tup ds => some (.tup ds)
  | _ => none
def dList : D → Option D
  | .lst ds => some (.lst ds)
  | .tup ds => some (.lst ds)
  | .scr ns => some (.lst (ns.map .int))
  | _ => none
def seqOf : D → Option (List D)
  | .lst ds => some ds
  | _ => none
def dSum (d : D) : Option D := (seqOf d).bind fun ds => (intsOf ds).map fun ns => .int ns.sum
def dAll (d : D) : Option D := (seqOf d).bind fun ds => (blsOf ds).map fun ns => .bl (ns.all id)
def dAny (d : D) : Option D := (seqOf d).bind fun ds => (blsOf ds).map fun ns => .bl (ns.any id)
def maxI : List Int → Option Int
  | [] => none
  | n :: ns => some (ns.foldl (fun a b => if b > a then b else a) n)
def minI : List Int → Option Int
  | [] => none
  | n :: ns => some (ns.foldl (fun a b => if b < a then b else a) n)
def dMax (d : D) : Option D := (seqOf d).bind fun ds => (intsOf ds).bind fun ns => (maxI ns).map .int
def dMin (d : D) : Option D := (seqOf d).bind fun ds => (intsOf ds).bind fun ns => (minI ns).map .int
def dMax2 : D → D → Option D
  | .int i, .int j => some (.int (if j > i then j else i))
  | _, _ => none
def dMin2 : D → D → Option D
  | .int i, .int j => some (.int (if j < i then j else i))
  | _, _ => none
theorem foldmax_spec (ns : List Int) : ∀ a : Int, (ns.foldl (fun a b => if b > a then b else a) a ∈ a :: ns) ∧ ∀ y ∈ a :: ns, y ≤ ns.foldl (fun a b => if b > a then b else a) a := by
  induction ns with
  | nil => intro a; exact ⟨List.mem_cons_self, fun y hy => by simp at hy; subst hy; exact Int.le_refl _⟩
  | cons n ns ih =>
    intro a
    simp only [List.foldl_cons]
    obtain ⟨h1, h2⟩ := ih (if n > a then n else a)
    refine ⟨?_, fun y hy => ?_⟩
    · rcases List.mem_cons.mp h1 with e | e
      · rw [e]
        split
        · exact List.mem_cons_of_mem _ List.mem_cons_self
        · exact List.mem_cons_self
      · exact List.mem_cons_of_mem _ (List.mem_cons_of_mem _ e)
    · have h3 := h2 _ List.mem_cons_self
      rcases List.mem_cons.mp hy with e | hy
      · subst e
        refine Int.le_trans ?_ h3
        split <;> omega
      · rcases List.mem_cons.mp hy with e | hy
        · subst e
          refine Int.le_trans ?_ h3
          split <;> omega
        · exact h2 y (List.mem_cons_of_mem _ hy)
theorem foldmin_spec (ns : List Int) : ∀ a : Int, (ns.foldl (fun a b => if b < a then b else a) a ∈ a :: ns) ∧ ∀ y ∈ a :: ns, ns.foldl (fun a b => if b < a then b else a) a ≤ y := by
  induction ns with
  | nil => intro a; exact ⟨List.mem_cons_self, fun y hy => by simp at hy; subst hy; exact Int.le_refl _⟩
  | cons n ns ih =>
    intro a
    simp only [List.foldl_cons]
    obtain ⟨h1, h2⟩ := ih (if n < a then n else a)
    refine ⟨?_, fun y hy => ?_⟩
    · rcases List.mem_cons.mp h1 with e | e
      · rw [e]
        split
        · exact List.mem_cons_of_mem _ List.mem_cons_self
        · exact List.mem_cons_self
      · exact List.mem_cons_of_mem _ (List.mem_cons_of_mem _ e)
    · have h3 := h2 _ List.mem_cons_self
      rcases List.mem_cons.mp hy with e | hy
      · subst e
        refine Int.le_trans h3 ?_
        split <;> omega
      · rcases List.mem_cons.mp hy with e | hy
        · subst e
          refine Int.le_trans h3 ?_
          split <;> omega
        · exact h2 y (List.mem_cons_of_mem _ hy)
section
variable {X : Cx} {c : Cn}
def rLenAll (K : PySem.W.Frag) : R1 := fun xs H Q => (∃ p ys, xs = [.ref p] ∧ (SqL K H p ys ∨ SqT K H p ys) ∧ Q (.int ys.length) H) ∨ (∃ z, xs = [.str z] ∧ z.length ≤ sizeLine ∧ Q (.int z.length) H)
theorem cr_lenAll : CallR X (.builtin "len") (rLenAll X.K) := call_len_seq.or call_len_str
theorem u_len : UnM X.K c (rLenAll X.K) dLen := fun {W H S d d' v} Q st a q k => by
  cases d <;> first | (cases q; done) | skip
  · cases q
    obtain ⟨rfl, h⟩ := a.str
    exact .inr ⟨_, rfl, line_le h.1, k W H _ st (Keep.refl W H) rfl⟩
  · cases q
    obtain ⟨p, vs, rfl, h1, _, r1⟩ := a.tup st
    exact .inl ⟨p, vs, rfl, .inr (SqT.of h1), k W H _ st (Keep.refl W H) (by rw [RepL.length r1]; rfl)⟩
  · cases q
    obtain ⟨p, vs, rfl, h1, r1⟩ := a.tpx st
    exact .inl ⟨p, vs, rfl, .inr h1, k W H _ st (Keep.refl W H) (by rw [RepL.length r1]; rfl)⟩
  · cases q
    obtain ⟨p, vs, rfl, h1, r1⟩ := a.lst st
    exact .inl ⟨p, vs, rfl, .inl (SqL.of h1), k W H _ st (Keep.refl W H) (by rw [RepL.length r1]; rfl)⟩
theorem u_abs : UnM X.K c (fun xs H Q => ∃ i, xs = [.int i] ∧ Q (.int (if i < 0 then -i else i)) H) dAbs := fun {W H S d d' v} Q st a q k => by
  cases d <;> first | (cases q; done) | skip
  cases q
  exact ⟨_, by rw [a.int], k W H _ st (Keep.refl W H) rfl⟩
theorem u_int : UnM X.K c (fun xs H Q => (∃ i, xs = [.int i] ∧ Q (.int i) H) ∨ ∃ k, xs = [.bl k] ∧ Q (.int (if k then 1 else 0)) H) dInt := fun {W H S d d' v} Q st a q k => by
  cases d <;> first | (cases q; done) | skip
  · cases q
    exact .inr ⟨_, by rw [a.bl], k W H _ st (Keep.refl W H) rfl⟩
  · cases q
    exact .inl ⟨_, by rw [a.int], k W H _ st (Keep.refl W H) rfl⟩
theorem u_tuple : UnM X.K c (fun xs H Q => ∃ p ys, xs = [.ref p] ∧ ((SqL X.K H p ys ∧ ∀ l, H l = none → Q (.ref l) (upd H l (.tup ys))) ∨ (SqT X.K H p ys ∧ Q (.ref p) H))) dTuple := fun {W H S d d' v} Q st a q k => by
  cases d <;> first | (cases q; done) | skip
  · cases q
    obtain ⟨p, vs, rfl, h1, h1', r1⟩ := a.tup st
    exact ⟨p, vs, rfl, .inr ⟨SqT.of h1, k W H _ st (Keep.refl W H) ⟨p, vs, rfl, h1', r1⟩⟩⟩
  · cases q
    obtain ⟨p, vs, rfl, h1, r1⟩ := a.lst st
    exact ⟨p, vs, rfl, .inl ⟨SqL.of h1, fun l hl => k _ _ _ (lay_st st hl) (lay_keep st hl) (new_tup st hl r1)⟩⟩
theorem repL_ints {K : PySem.W.Frag} {W : Wd} : ∀ ns : List Int, RepL K c W (ns.map D.int) (ns.map V.int)
  | [] => rfl
  | n :: ns => ⟨.int n, _, rfl, rfl, repL_ints ns⟩
theorem u_list : UnO X.K c (fun xs H Q => ∃ p ys, xs = [.ref p] ∧ (SqL X.K H p ys ∨ SqT X.K H p ys) ∧ ∀ l, H l = none → Q (.ref l) (upd H l (.lst ys))) dList := fun {W H S d d' v} Q st a q k => by
  cases d <;> first | (cases q; done) | skip
  · cases q
    obtain ⟨p, vs, rfl, h1, h1', r1⟩ := a.tup st
    exact ⟨p, vs, rfl, .inr (SqT.of h1), fun l hl => k _ _ _ (new_st st hl) (new_keep st hl) (new_own st hl r1)⟩
  · cases q
    obtain ⟨p, vs, rfl, h1, r1⟩ := a.lst st
    exact ⟨p, vs, rfl, .inl (SqL.of h1), fun l hl => k _ _ _ (new_st st hl) (new_keep st hl) (new_own st hl r1)⟩
  · cases q
    rename_i ns
    rcases a with ⟨p, rfl, h1⟩ | ⟨p, _, _, h⟩
    · exact ⟨p, _, rfl, .inl (ex_l st.sub h1), fun l hl => k _ _ _ (new_st st hl) (new_keep st hl) (new_own st hl (repL_ints ns))⟩
    · cases h
theorem lst_seq {K : PySem.W.Frag} {W : Wd} {H : Hp} {S : DS} {d : D} {ds : List D} {v : V} (st : StOk K c W H S) (a : RepB K c W H d v) (h : seqOf d = some ds) : ∃ p vs, v = .ref p ∧ H p = some (.lst vs) ∧ RepL K c W ds vs := by
  cases d <;> first | (cases h; done) | skip
  cases h
  exact a.lst st
theorem u_sum : UnM X.K c (rSum X.K) dSum := fun {W H S d d' v} Q st a q k => by
  unfold dSum at q
  obtain ⟨ds, e1, q⟩ := Option.bind_eq_some_iff.mp q
  obtain ⟨ns, e2, rfl⟩ := Option.map_eq_some_iff.mp q
  obtain ⟨p, vs, rfl, h1, r1⟩ := lst_seq st a e1
  have e3 := ints_rep e2 r1
  subst e3
  exact ⟨p, ns, rfl, SqL.of h1, k W H _ st (Keep.refl W H) rfl⟩
theorem u_all : UnM X.K c (rAll X.K) dAll := fun {W H S d d' v} Q st a q k => by
  unfold dAll at q
  obtain ⟨ds, e1, q⟩ := Option.bind_eq_some_iff.mp q
  obtain ⟨ns, e2, rfl⟩ := Option.map_eq_some_iff.mp q
  obtain ⟨p, vs, rfl, h1, r1⟩ := lst_seq st a e1
  have e3 := bls_rep e2 r1
  subst e3
  exact ⟨p, ns, rfl, SqL.of h1, k W H _ st (Keep.refl W H) rfl⟩
theorem u_any : UnM X.K c (rAny X.K) dAny := fun {W H S d d' v} Q st a q k => by
  unfold dAny at q
  obtain ⟨ds, e1, q⟩ := Option.bind_eq_some_iff.mp q
  obtain ⟨ns, e2, rfl⟩ := Option.map_eq_some_iff.mp q
  obtain ⟨p, vs, rfl, h1, r1⟩ := lst_seq st a e1
  have e3 := bls_rep e2 r1
  subst e3
  exact ⟨p, ns, rfl, SqL.of h1, k W H _ st (Keep.refl W H) rfl⟩
theorem u_max : UnM X.K c (rMax X.K) dMax := fun {W H S d d' v} Q st a q k => by
  unfold dMax at q
  obtain ⟨ds, e1, q⟩ := Option.bind_eq_some_iff.mp q
  obtain ⟨ns, e2, q⟩ := Option.bind_eq_some_iff.mp q
  obtain ⟨m, e4, rfl⟩ := Option.map_eq_some_iff.mp q
  obtain ⟨p, vs, rfl, h1, r1⟩ := lst_seq st a e1
  have e3 := ints_rep e2 r1
  subst e3
  cases ns with
  | nil => cases e4
  | cons n ns =>
    cases e4
    obtain ⟨s1, s2⟩ := foldmax_spec ns n
    refine ⟨p, n :: ns, rfl, SqL.of h1, by simp, fun z hz hle => ?_⟩
    have e : z = ns.foldl (fun a b => if b > a then b else a) n := Int.le_antisymm (s2 z hz) (hle _ s1)
    rw [e]
    exact k W H _ st (Keep.refl W H) rfl
theorem u_min : UnM X.K c (rMin X.K) dMin := fun {W H S d d' v} Q st a q k => by
  unfold dMin at q
  obtain ⟨ds, e1, q⟩ := Option.bind_eq_some_iff.mp q
  obtain ⟨ns, e2, q⟩ := Option.bind_eq_some_iff.mp q
  obtain ⟨m, e4, rfl⟩ := Option.map_eq_some_iff.mp q
  obtain ⟨p, vs, rfl, h1, r1⟩ := lst_seq st a e1
  have e3 := ints_rep e2 r1
  subst e3
  cases ns with
  | nil => cases e4
  | cons n ns =>
    cases e4
    obtain ⟨s1, s2⟩ := foldmin_spec ns n
    refine ⟨p, n :: ns, rfl, SqL.of h1, by simp, fun z hz hle => ?_⟩
    have e : z = ns.foldl (fun a b => if b < a then b else a) n := Int.le_antisymm (hle _ s1) (s2 z hz)
    rw [e]
    exact k W H _ st (Keep.refl W H) rfl
theorem m_max2 : OpM X.K c (r2of fun xs H Q => ∃ i j, xs = [.int i, .int j] ∧ Q (.int (if j > i then j else i)) H) dMax2 := fun {W H S d e d' v u} Q st a b q k => by
  cases d <;> cases e <;> first | (cases q; done) | skip
  cases q
  exact ⟨_, _, by rw [a.int, b.int], k W H _ st (Keep.refl W H) rfl⟩
theorem m_min2 : OpM X.K c (r2of fun xs H Q => ∃ i j, xs = [.int i, .int j] ∧ Q (.int (if j < i then j else i)) H) dMin2 := fun {W H S d e d' v u} Q st a b q k => by
  cases d <;> cases e <;> first | (cases q; done) | skip
  cases q
  exact ⟨_, _, by rw [a.int, b.int], k W H _ st (Keep.refl W H) rfl⟩
end
end Mini
namespace Mini
open PySem PySem.Spec PyProof.Rows L2 Evl

/-! ### statements -/
def skipS : FS := fun ρ => rt (.nx ρ)
def seqS (a b : FS) : FS := fun ρ => bd (a ρ) fun f => match f with
  | .nx ρ' => b ρ'
  | f => rt f
def setV (i : Nat) (d : D) (ρ : En) : En := ρ.set i (.vl d)
def setO (i : Nat) (d : D) (ρ : En) : En := ρ.set i (.ow d)
def asgS (i : Nat) (f : FE) : FS := fun ρ => bd (f ρ) fun d => rt (.nx (setV i d ρ))
def asgOS (i : Nat) (f : FE) : FS := fun ρ => bd (f ρ) fun d => rt (.nx (setO i d ρ))
def exprS (f : FE) : FS := fun ρ => bd (f ρ) fun _ => rt (.nx ρ)
def retS (f : FE) : FS := fun ρ => bd (f ρ) fun d => rt (.rt d)
def retNS : FS := fun _ => rt (.rt .non)
def ifS (t : FB) (a b : FS) : FS := fun ρ => bd (t ρ) fun k => if k then a ρ else b ρ
def brkS : FS := fun ρ => rt (.bk ρ)
def cntS : FS := fun ρ => rt (.ct ρ)
def whileS (t : FB) (b : FS) : Nat → FS
  | 0 => fun _ => no
  | w + 1 => fun ρ => bd (t ρ) fun k => if k then bd (b ρ) fun f => match f with
      | .nx ρ' => whileS t b w ρ'
      | .ct ρ' => whileS t b w ρ'
      | .bk ρ' => rt (.nx ρ')
      | .rt d => rt (.rt d)
    else rt (.nx ρ)
abbrev TGd := D → En → Option En
def tgN (i : Nat) : TGd := fun d ρ => some (setV i d ρ)
def tgs : List TGd → List D → En → Option En
  | [], [], ρ => some ρ
  | t :: ts, d :: ds, ρ => (t d ρ).bind (tgs ts ds)
  | _, _, _ => none
def tgT (ts : List TGd) : TGd := fun d ρ => match d with
  | .tup ds => tgs ts ds ρ
  | _ => none
def asgT (t : TGd) (f : FE) : FS := fun ρ => bd (f ρ) fun d => bd (lift (t d ρ)) fun ρ' => rt (.nx ρ')
def forL (t : TGd) (b : FS) : List D → FS
  | [] => fun ρ => rt (.nx ρ)
  | d :: ds => fun ρ => bd (lift (t d ρ)) fun ρ1 => bd (b ρ1) fun f => match f with
      | .nx ρ' => forL t b ds ρ'
      | .ct ρ' => forL t b ds ρ'
      | .bk ρ' => rt (.nx ρ')
      | .rt d => rt (.rt d)
abbrev FI := En → M (List D)
def forS (it : FI) (t : TGd) (b : FS) : FS := fun ρ => bd (it ρ) fun ds => forL t b ds ρ
def parS (i j : Nat) (a b : FE) : FS := fun ρ => bd (a ρ) fun x => bd (b ρ) fun y => rt (.nx (setV j y (setV i x ρ)))
def augS (f : D → D → Option D) (i : Nat) (a : FE) : FS := fun ρ => bd (lift (slot ρ i)) fun x => bd (a ρ) fun y => bd (lift (f x y)) fun z => rt (.nx (setV i z ρ))
def raiseS (n : Nat) (a : FE) : FS := fun ρ => bd (a ρ) fun d => fun S => .er n d S
/-- a ghost: what the name holds is frozen -/
def frzS (i : Nat) (b : FS) : FS := fun ρ => b (match ρ[i]? with
  | some (.ow d) => setV i d ρ
  | _ => ρ)
def enter (n : Nat) (ds : List D) : En := ds.map Slot.vl ++ List.replicate (n - ds.length) Slot.no
def leave : Fl → M D
  | .nx _ => rt .non
  | .rt d => rt d
  | _ => no
def body (n : Nat) (b : FS) (ds : List D) : M D := bd (b (enter n ds)) leave
def callE (F : List D → M D) (a : FA) : FE := fun ρ => bd (a ρ) F

def Owned (σ : L2.St) (ρ : En) (b : Addr) : Prop := ∃ (i : Nat) (d : D), ρ[i]? = some (.ow d) ∧ σ[i]? = some (some (.ref b))
structure KeepS (W : Wd) (H : Hp) (σ : L2.St) (ρ : En) (W' : Wd) (H' : Hp) : Prop where
  wex : WEx W W'
  old : ∀ b o, H b = some o → W.sa ≠ some b → ¬ Owned σ ρ b → H' b = some o
  fr : ∀ b o, H b = some o → ¬ Owned σ ρ b → W.H0 b = none → W'.H0 b = none
  sa : ∀ b o, H b = some o → W'.sa = some b → W.sa = some b
  there : ∀ b o, H b = some o → ∃ o', H' b = some o'
structure Step (W : Wd) (H : Hp) (σ : L2.St) (ρ : En) (W' : Wd) (H' : Hp) (σ' : L2.St) (ρ' : En) : Prop extends KeepS W H σ ρ W' H' where
  own : ∀ b, Owned σ' ρ' b → H b = none ∨ Owned σ ρ b
section
variable {K : PySem.W.Frag} {c : Cn} {W W1 W2 W' : Wd} {H H1 H2 H' : Hp} {S S1 S2 S' : DS} {σ σ1 σ2 σ' : L2.St} {ρ ρ1 ρ2 ρ' : En} {E : XK}
theorem Keep.toS (k : Keep W H W' H') (st : StOk K c W' H' S') : KeepS W H σ ρ W' H' := ⟨k.wex, fun b o h n _ => k.old b o h n, fun b o h _ n => k.fr b o h n, k.sa, fun b o h => by
  by_cases hs : W.sa = some b
  · exact st.ds.at (k.wex.2 b hs)
  · exact ⟨o, k.old b o h hs⟩⟩
theorem Keep.toStep (k : Keep W H W' H') (st : StOk K c W' H' S') : Step W H σ ρ W' H' σ ρ := ⟨k.toS st, fun _ h => .inr h⟩
theorem Step.refl (W : Wd) (H : Hp) (σ : L2.St) (ρ : En) : Step W H σ ρ W H σ ρ := ⟨⟨WEx.refl W, fun _ _ h _ _ => h, fun _ _ _ _ h => h, fun _ _ _ h => h, fun _ o h => ⟨o, h⟩⟩, fun _ h => .inr h⟩
theorem Step.keepS (k1 : Step W H σ ρ W1 H1 σ1 ρ1) (k2 : KeepS W1 H1 σ1 ρ1 W2 H2) : KeepS W H σ ρ W2 H2 where
  wex := k1.wex.trans k2.wex
  old := fun b o h n no => by
    refine k2.old b o (k1.old b o h n no) (fun e => n (k1.sa b o h e)) fun z => ?_
    rcases k1.own b z with q | q
    · rw [h] at q; cases q
    · exact no q
  fr := fun b o h no n => by
    have no1 : ¬ Owned σ1 ρ1 b := fun z => by
      rcases k1.own b z with q | q
      · rw [h] at q; cases q
      · exact no q
    obtain ⟨o1, ho1⟩ := k1.there b o h
    exact k2.fr b o1 ho1 no1 (k1.fr b o h no n)
  sa := fun b o h e => by
    obtain ⟨o1, ho1⟩ := k1.there b o h
    exact k1.sa b o h (k2.sa b o1 ho1 e)
  there := fun b o h => by
    obtain ⟨o1, ho1⟩ := k1.there b o h
    exact k2.there b o1 ho1
theorem Step.trans (k1 : Step W H σ ρ W1 H1 σ1 ρ1) (k2 : Step W1 H1 σ1 ρ1 W2 H2 σ2 ρ2) : Step W H σ ρ W2 H2 σ2 ρ2 where
  toKeepS := k1.keepS k2.toKeepS
  own := fun b h => by
    rcases k2.own b h with q | q
    · cases e : H b with
      | none => exact .inl rfl
      | some o =>
        obtain ⟨o1, ho1⟩ := k1.there b o e
        rw [q] at ho1
        cases ho1
    · exact k1.own b q
/-- what is wanted of an error behind statements -/
def ErS (K : PySem.W.Frag) (c : Cn) (W : Wd) (H : Hp) (σ : L2.St) (ρ : En) (E : XK) (n : Nat) (p : D) (S : DS) : Prop :=
  ∀ W' H' dd v, StOk K c W' H' S → KeepS W H σ ρ W' H' → H' dd = some (.xd [(c.fld n, v)]) → Rep K c W' p v → E (.ref (c.ca n)) (some dd) H'
def OutS (K : PySem.W.Frag) (c : Cn) (W : Wd) (H : Hp) (σ : L2.St) (ρ : En) (E : XK) (D : Ends) : Res Fl → Prop
  | .ok (.nx ρ') S' => ∀ W' H' σ', StOk K c W' H' S' → EnvOk K c W' H' σ' ρ' → Step W H σ ρ W' H' σ' ρ' → D.nx σ' H'
  | .ok (.bk ρ') S' => ∀ W' H' σ', StOk K c W' H' S' → EnvOk K c W' H' σ' ρ' → Step W H σ ρ W' H' σ' ρ' → D.bk σ' H'
  | .ok (.ct ρ') S' => ∀ W' H' σ', StOk K c W' H' S' → EnvOk K c W' H' σ' ρ' → Step W H σ ρ W' H' σ' ρ' → D.ct σ' H'
  | .ok (.rt d) S' => ∀ W' H' v, StOk K c W' H' S' → KeepS W H σ ρ W' H' → Rep K c W' d v → D.rt v H'
  | .er n p S' => ErS K c W H σ ρ E n p S'
  | .no => False
def tS (K : PySem.W.Frag) (c : Cn) (E : XK) (g : FS) : TS := fun D σ H => ∃ W ρ S, StOk K c W H S ∧ EnvOk K c W H σ ρ ∧ OutS K c W H σ ρ E D (g ρ S)
theorem ErS.pre {n : Nat} {p : D} (h : ErS K c W H σ ρ E n p S) (k : Step W H σ ρ W1 H1 σ1 ρ1) : ErS K c W1 H1 σ1 ρ1 E n p S :=
  fun W' H' dd v st' k' e r => h W' H' dd v st' (k.keepS k') e r
theorem ErS.q {n : Nat} {p : D} (h : ErS K c W H σ ρ E n p S) : ErQ K c W H E n p S := fun W' H' dd v st' k' e r => h W' H' dd v st' (k'.toS st') e r
theorem OutS.pre {D : Ends} {r : Res Fl} (h : OutS K c W H σ ρ E D r) (k : Step W H σ ρ W1 H1 σ1 ρ1) : OutS K c W1 H1 σ1 ρ1 E D r := by
  cases r with
  | ok f S' =>
    cases f with
    | nx ρ' => exact fun W' H' σ' st' en' k' => h W' H' σ' st' en' (k.trans k')
    | bk ρ' => exact fun W' H' σ' st' en' k' => h W' H' σ' st' en' (k.trans k')
    | ct ρ' => exact fun W' H' σ' st' en' k' => h W' H' σ' st' en' (k.trans k')
    | rt d => exact fun W' H' v st' k' r => h W' H' v st' (k.keepS k') r
  | er n p S' => exact ErS.pre h k
  | no => exact h
/-! ### storing -/
theorem EnvOk.setV (en : EnvOk K c W H σ ρ) {d : D} {v : V} (r : Rep K c W d v) (i : Nat) : EnvOk K c W H (σ.set i (some v)) (setV i d ρ) := by
  have hl := en.len
  refine ⟨by unfold Mini.setV; rw [List.length_set, List.length_set]; exact hl, fun j e h => ?_, fun j e h => ?_, fun j k d1 d2 a h1 h2 h3 h4 => ?_⟩
  · unfold Mini.setV at h
    by_cases hj : i = j
    · subst hj
      have hi : i < ρ.length := by
        have := (List.getElem?_eq_some_iff.mp h).1
        rwa [List.length_set] at this
      rw [List.getElem?_set_self hi] at h
      cases h
      exact ⟨v, List.getElem?_set_self (by rw [← hl]; exact hi), r⟩
    · rw [List.getElem?_set_ne hj] at h ⊢
      exact en.vl j e h
  · unfold Mini.setV at h
    by_cases hj : i = j
    · subst hj
      have hi : i < ρ.length := by
        have := (List.getElem?_eq_some_iff.mp h).1
        rwa [List.length_set] at this
      rw [List.getElem?_set_self hi] at h
      cases h
    · rw [List.getElem?_set_ne hj] at h ⊢
      exact en.ow j e h
  · unfold Mini.setV at h1 h2
    have n1 : i ≠ j := fun e => by
      subst e
      have hi : i < ρ.length := by
        have := (List.getElem?_eq_some_iff.mp h1).1
        rwa [List.length_set] at this
      rw [List.getElem?_set_self hi] at h1
      cases h1
    have n2 : i ≠ k := fun e => by
      subst e
      have hi : i < ρ.length := by
        have := (List.getElem?_eq_some_iff.mp h2).1
        rwa [List.length_set] at this
      rw [List.getElem?_set_self hi] at h2
      cases h2
    rw [List.getElem?_set_ne n1] at h1 h3
    rw [List.getElem?_set_ne n2] at h2 h4
    exact en.sep j k d1 d2 a h1 h2 h3 h4
theorem owned_setV {d : D} {v : Option V} {i : Nat} {b : Addr} (h : Owned (σ.set i v) (setV i d ρ) b) : Owned σ ρ b := by
  obtain ⟨j, e, h1, h2⟩ := h
  unfold setV at h1
  have n1 : i ≠ j := fun z => by
    subst z
    have hi : i < ρ.length := by
      have := (List.getElem?_eq_some_iff.mp h1).1
      rwa [List.length_set] at this
    rw [List.getElem?_set_self hi] at h1
    cases h1
  rw [List.getElem?_set_ne n1] at h1 h2
  exact ⟨j, e, h1, h2⟩
theorem EnvOk.own_some (en : EnvOk K c W H σ ρ) {b : Addr} (h : Owned σ ρ b) : ∃ o, H b = some o := by
  obtain ⟨i, d, h1, h2⟩ := h
  obtain ⟨a, h3, _, _, h4⟩ := en.ow i d h1
  rw [h2] at h3
  cases h3
  exact h4.some
theorem EnvOk.setO (en : EnvOk K c W H σ ρ) {d : D} {a : Addr} (hn : ¬ Owned σ ρ a) (h0 : W.H0 a = none) (hs : W.sa ≠ some a) (ho : Own K c W H a d) (i : Nat) : EnvOk K c W H (σ.set i (some (.ref a))) (setO i d ρ) := by
  have hl := en.len
  refine ⟨by unfold Mini.setO; rw [List.length_set, List.length_set]; exact hl, fun j e h => ?_, fun j e h => ?_, fun j k d1 d2 b h1 h2 h3 h4 => ?_⟩
  · unfold Mini.setO at h
    by_cases hj : i = j
    · subst hj
      have hi : i < ρ.length := by
        have := (List.getElem?_eq_some_iff.mp h).1
        rwa [List.length_set] at this
      rw [List.getElem?_set_self hi] at h
      cases h
    · rw [List.getElem?_set_ne hj] at h ⊢
      exact en.vl j e h
  · unfold Mini.setO at h
    by_cases hj : i = j
    · subst hj
      have hi : i < ρ.length := by
        have := (List.getElem?_eq_some_iff.mp h).1
        rwa [List.length_set] at this
      rw [List.getElem?_set_self hi] at h
      cases h
      exact ⟨a, List.getElem?_set_self (by rw [← hl]; exact hi), h0, hs, ho⟩
    · rw [List.getElem?_set_ne hj] at h ⊢
      exact en.ow j e h
  · unfold Mini.setO at h1 h2
    by_cases hj : i = j
    · by_cases hk : i = k
      · exact hj.symm.trans hk
      · subst hj
        have hi : i < σ.length := by
          have := (List.getElem?_eq_some_iff.mp h3).1
          rwa [List.length_set] at this
        rw [List.getElem?_set_self hi] at h3
        cases h3
        rw [List.getElem?_set_ne hk] at h2 h4
        exact absurd ⟨k, d2, h2, h4⟩ hn
    · by_cases hk : i = k
      · subst hk
        have hi : i < σ.length := by
          have := (List.getElem?_eq_some_iff.mp h4).1
          rwa [List.length_set] at this
        rw [List.getElem?_set_self hi] at h4
        cases h4
        rw [List.getElem?_set_ne hj] at h1 h3
        exact absurd ⟨j, d1, h1, h3⟩ hn
      · rw [List.getElem?_set_ne hj] at h1 h3
        rw [List.getElem?_set_ne hk] at h2 h4
        exact en.sep j k d1 d2 b h1 h2 h3 h4
theorem owned_setO {d : D} {a : Addr} {i : Nat} {b : Addr} (h : Owned (σ.set i (some (.ref a))) (setO i d ρ) b) : b = a ∨ Owned σ ρ b := by
  obtain ⟨j, e, h1, h2⟩ := h
  unfold setO at h1
  by_cases hj : i = j
  · subst hj
    have hi : i < σ.length := by
      have := (List.getElem?_eq_some_iff.mp h2).1
      rwa [List.length_set] at this
    rw [List.getElem?_set_self hi] at h2
    cases h2
    exact .inl rfl
  · rw [List.getElem?_set_ne hj] at h1 h2
    exact .inr ⟨j, e, h1, h2⟩
/-! ### expressions ahead of statements -/
theorem thenS_M {f : FE} {g : D → M Fl} {Q : VK} {D : Ends} (st : StOk K c W H S) (en : EnvOk K c W H σ ρ) (h : OutS K c W H σ ρ E D (bd (f ρ) g S))
    (k : ∀ d S' W' H' v, StOk K c W' H' S' → EnvOk K c W' H' σ ρ → Step W H σ ρ W' H' σ ρ → Rep K c W' d v → OutS K c W' H' σ ρ E D (g d S') → Q v H') : tM K c E f σ H Q :=
  then_M (O := OutS K c W H σ ρ E D) st en (fun _ _ _ z => ErS.q z) (fun z => z) h fun d S1 W1 H1 v st1 k1 r1 q1 =>
    k d S1 W1 H1 v st1 (en.ext k1) (k1.toStep st1) r1 (OutS.pre q1 (k1.toStep st1))
theorem thenS_T {f : FB} {g : Bool → M Fl} {Q : Bool → Hp → Prop} {D : Ends} (st : StOk K c W H S) (en : EnvOk K c W H σ ρ) (h : OutS K c W H σ ρ E D (bd (f ρ) g S))
    (k : ∀ d S' W' H', StOk K c W' H' S' → EnvOk K c W' H' σ ρ → Step W H σ ρ W' H' σ ρ → OutS K c W' H' σ ρ E D (g d S') → Q d H') : tT K c E f σ H Q :=
  then_T (O := OutS K c W H σ ρ E D) st en (fun _ _ _ z => ErS.q z) (fun z => z) h fun d S1 W1 H1 st1 k1 q1 =>
    k d S1 W1 H1 st1 (en.ext k1) (k1.toStep st1) (OutS.pre q1 (k1.toStep st1))
end
section
variable {X : Cx} {c : Cn} {E : XK} {st : Stmt} {rest : List Stmt} {a b e tg : Expr} {fa fb : FE} {ta : FB} {g h : FS} {pos : Pos} {td : TGd}
theorem ms_nil : PSs X [] (tS X.K c E skipS) := ⟨fun pins s σ H D I q => by
  obtain ⟨W, ρ, S, st, en, q⟩ := q
  exact pss_nil.run pins s σ H D I (q W H σ st en (Step.refl W H σ ρ))⟩
theorem ms_cons (h1 : PS X st (tS X.K c E g)) (h2 : PSs X rest (tS X.K c E h)) : PSs X (st :: rest) (tS X.K c E (seqS g h)) := ⟨fun pins s σ H D I q => by
  refine (pss_cons h1 h2).run pins s σ H D I ?_
  obtain ⟨W, ρ, S, st, en, q⟩ := q
  refine ⟨W, ρ, S, st, en, ?_⟩
  unfold seqS bd at q
  cases e : g ρ S with
  | ok f S' =>
    rw [e] at q
    cases f with
    | nx ρ' => exact fun W' H' σ' st' en' k' => ⟨W', ρ', S', st', en', OutS.pre q k'⟩
    | bk ρ' => exact q
    | ct ρ' => exact q
    | rt d => exact q
  | er n p S' =>
    rw [e] at q
    exact q
  | no =>
    rw [e] at q
    exact q⟩
theorem ms_one (h1 : PS X st (tS X.K c E g)) : PSs X [st] (tS X.K c E g) := pss_one h1
theorem ms_pass : PS X (.Pass pos) (tS X.K c E skipS) := ps_imp ps_pass fun D σ H q => by
  obtain ⟨W, ρ, S, st, en, q⟩ := q
  exact q W H σ st en (Step.refl W H σ ρ)
theorem ms_break : PS X (.Break pos) (tS X.K c E brkS) := ps_imp ps_break fun D σ H q => by
  obtain ⟨W, ρ, S, st, en, q⟩ := q
  exact q W H σ st en (Step.refl W H σ ρ)
theorem ms_continue : PS X (.Continue pos) (tS X.K c E cntS) := ps_imp ps_continue fun D σ H q => by
  obtain ⟨W, ρ, S, st, en, q⟩ := q
  exact q W H σ st en (Step.refl W H σ ρ)
theorem ms_expr (he : PE X e (tM X.K c E fa)) (hs : swapsWith e none pos.line X.env = pure false := by rfl) : PS X (.Expr e pos) (tS X.K c E (exprS fa)) := ps_imp (ps_expr he hs) fun D σ H q => by
  obtain ⟨W, ρ, S, st, en, q⟩ := q
  exact thenS_M st en q fun d S' W' H' v st' en' k r q' => q' W' H' σ st' en' (Step.refl W' H' σ ρ)
theorem ms_ret (he : PE X e (tM X.K c E fa)) : PS X (.Return (some e) pos) (tS X.K c E (retS fa)) := ps_imp (ps_ret he) fun D σ H q => by
  obtain ⟨W, ρ, S, st, en, q⟩ := q
  exact thenS_M st en q fun d S' W' H' v st' en' k r q' => q' W' H' v st' (Step.refl W' H' σ ρ).toKeepS r
theorem ms_retN : PS X (.Return none pos) (tS X.K c E retNS) := ps_imp ps_retN fun D σ H q => by
  obtain ⟨W, ρ, S, st, en, q⟩ := q
  exact q W H .non st (Step.refl W H σ ρ).toKeepS rfl
theorem ms_if {t : Expr} {x y : List Stmt} (ht : PT X t (tT X.K c E ta)) (hx : PSs X x (tS X.K c E g)) (hy : PSs X y (tS X.K c E h)) : PS X (.If t x y pos) (tS X.K c E (ifS ta g h)) := ps_imp (ps_if ht hx hy) fun D σ H q => by
  obtain ⟨W, ρ, S, st, en, q⟩ := q
  refine thenS_T st en q fun d S' W' H' st' en' k q' => ?_
  cases d with
  | true => exact ⟨W', ρ, S', st', en', q'⟩
  | false => exact ⟨W', ρ, S', st', en', q'⟩
theorem asg_out {i : Nat} {te : TE} (ht : ∀ σ H Q, tM X.K c E fa σ H Q → te σ H Q) : ∀ D σ H, tS X.K c E (asgS i fa) D σ H → tAsg te (gName i) D σ H := fun D σ H q => by
  obtain ⟨W, ρ, S, st, en, q⟩ := q
  exact ht σ H _ (thenS_M st en q fun d S' W' H' v st' en' k r q' => q' W' H' _ st' (en'.setV r i) ⟨(Step.refl W' H' σ ρ).toKeepS, fun b z => .inr (owned_setV z)⟩)
theorem ms_set {i : Nat} {x : Str} {pos' : Pos} (hN : X.N.Nodup) (hi : X.N[i]? = some x) (hx : Loc X.env.scope x) (he : PE X e (tM X.K c E fa)) (hs : swapsWith e (some (.Name x pos')) pos.line X.env = pure false := by rfl)
    (hf : X.fn x = true ∨ X.env.scope.names.lookup x = some .local := by first | exact .inl rfl | exact .inr rfl | assumption) : PS X (.Assign [.Name x pos'] e pos) (tS X.K c E (asgS i fa)) := ps_imp (ps_set hN hi hx he hs hf) (asg_out fun _ _ _ z => z)
theorem asgO_out {i : Nat} {te : TE} (ht : ∀ σ H Q, tO X.K c E fa σ H Q → te σ H Q) : ∀ D σ H, tS X.K c E (asgOS i fa) D σ H → tAsg te (gName i) D σ H := fun D σ H q => by
  obtain ⟨W, ρ, S, st, en, q⟩ := q
  refine ht σ H _ (tO_mk st en ?_)
  unfold asgOS bd at q
  cases e : fa ρ S with
  | ok d S' =>
    rw [e] at q
    rintro W' H' v st' k' ⟨p, rfl, n1, n2, n3, own⟩
    have en' := en.ext k'
    have no : ¬ Owned σ ρ p := fun z => by
      obtain ⟨o, ho⟩ := en.own_some z
      rw [n1] at ho
      cases ho
    refine q W' H' _ st' (en'.setO no n2 n3 own i) ⟨k'.toS st', fun b z => ?_⟩
    rcases owned_setO z with rfl | z
    · exact .inl n1
    · exact .inr z
  | er n p S' =>
    rw [e] at q
    exact ErS.q q
  | no =>
    rw [e] at q
    exact q
theorem ms_setO {i : Nat} {x : Str} {pos' : Pos} (hN : X.N.Nodup) (hi : X.N[i]? = some x) (hx : Loc X.env.scope x) (he : PE X e (tO X.K c E fa)) (hs : swapsWith e (some (.Name x pos')) pos.line X.env = pure false := by rfl)
    (hf : X.fn x = true ∨ X.env.scope.names.lookup x = some .local := by first | exact .inl rfl | exact .inr rfl | assumption) : PS X (.Assign [.Name x pos'] e pos) (tS X.K c E (asgOS i fa)) := ps_imp (ps_set hN hi hx he hs hf) (asgO_out fun _ _ _ z => z)
/-- a ghost ahead of a statement -/
theorem frz_out {i : Nat} {t : TS} (hg : ∀ D σ H, tS X.K c E g D σ H → t D σ H) : ∀ D σ H, tS X.K c E (frzS i g) D σ H → t D σ H := fun D σ H q => by
  refine hg D σ H ?_
  obtain ⟨W, ρ, S, st, en, q⟩ := q
  unfold frzS at q
  split at q
  · rename_i d hi
    obtain ⟨a, h1, h2, h3, h4⟩ := en.ow i d hi
    obtain ⟨o, ho⟩ := h4.some
    have st' := frz_st st h2 h3 ho
    have eσ : σ.set i (some (.ref a)) = σ := by
      obtain ⟨hl, hv⟩ := List.getElem?_eq_some_iff.mp h1
      rw [← hv]
      exact List.set_getElem_self hl
    have hil : i < ρ.length := (List.getElem?_eq_some_iff.mp hi).1
    -- the others stay ours
    have en' : EnvOk X.K c (W.frz a o) H σ (setV i d ρ) := by
      refine ⟨by unfold setV; rw [List.length_set]; exact en.len, fun j e hj => ?_, fun j e hj => ?_, fun j k d1 d2 b j1 j2 j3 j4 => ?_⟩
      · unfold setV at hj
        by_cases hji : i = j
        · subst hji
          rw [List.getElem?_set_self hil] at hj
          cases hj
          exact ⟨_, h1, frz_rep h2 ho h4⟩
        · rw [List.getElem?_set_ne hji] at hj
          obtain ⟨v, q1, q2⟩ := en.vl j e hj
          exact ⟨v, q1, Rep.ext (frz_ex h2) e v q2⟩
      · unfold setV at hj
        by_cases hji : i = j
        · subst hji
          rw [List.getElem?_set_self hil] at hj
          cases hj
        · rw [List.getElem?_set_ne hji] at hj
          obtain ⟨a2, q1, q2, q3, q4⟩ := en.ow j e hj
          have hne : a2 ≠ a := fun z => hji (en.sep i j d e a hi hj h1 (by rw [q1, z]))
          exact ⟨a2, q1, (show upd W.H0 a o a2 = none by rw [upd_ne hne]; exact q2), q3, q4.ext (frz_ex h2) fun _ z => z⟩
      · unfold setV at j1 j2
        have n1 : i ≠ j := fun z => by
          subst z
          rw [List.getElem?_set_self hil] at j1
          cases j1
        have n2 : i ≠ k := fun z => by
          subst z
          rw [List.getElem?_set_self hil] at j2
          cases j2
        rw [List.getElem?_set_ne n1] at j1
        rw [List.getElem?_set_ne n2] at j2
        exact en.sep j k d1 d2 b j1 j2 j3 j4
    refine ⟨W.frz a o, setV i d ρ, S, st', en', OutS.pre q ⟨⟨frz_ex h2, fun _ _ z _ _ => z, fun b u hb no e => ?_, fun _ _ _ z => z, fun _ u z => ⟨u, z⟩⟩, fun b z => .inr ?_⟩⟩
    · show upd W.H0 a o b = none
      rw [upd_ne fun z => no ⟨i, d, hi, by rw [h1, z]⟩]
      exact e
    · rw [← eσ] at z
      exact owned_setV z
  · exact ⟨W, ρ, S, st, en, q⟩
theorem ms_frz {i : Nat} (h1 : PS X st (tS X.K c E g)) : PS X st (tS X.K c E (frzS i g)) := ps_imp h1 (frz_out fun _ _ _ z => z)
/-! targets -/
theorem wipe_set {σ : L2.St} {i : Nat} {x : Option V} : ∀ {vs : List Nat}, i ∈ vs → L2.wipe (σ.set i x) vs = L2.wipe σ vs
  | [], h => by simp at h
  | v :: vs, h => by
    show (L2.wipe (σ.set i x) vs).set v none = (L2.wipe σ vs).set v none
    by_cases hm : i ∈ vs
    · rw [wipe_set hm]
    · rcases List.mem_cons.mp h with rfl | h
      · have comm : ∀ (us : List Nat), i ∉ us → L2.wipe (σ.set i x) us = (L2.wipe σ us).set i x := fun us => by
          induction us with
          | nil => intro _; rfl
          | cons u us ih =>
            intro hu
            have h1 : i ≠ u := fun e => hu (by simp [e])
            have h2 : i ∉ us := fun e => hu (List.mem_cons_of_mem _ e)
            show (L2.wipe (σ.set i x) us).set u none = ((L2.wipe σ us).set u none).set i x
            rw [ih h2, List.set_comm _ _ h1]
        rw [comm vs hm, List.set_set]
      · exact absurd h hm
def tGd (K : PySem.W.Frag) (c : Cn) (us : List Nat) (t : TGd) : TG := fun v σ H Q => ∃ W ρ S d ρ', StOk K c W H S ∧ EnvOk K c W H σ ρ ∧ Rep K c W d v ∧ t d ρ = some ρ' ∧ ∀ σ', EnvOk K c W H σ' ρ' → (∀ b, Owned σ' ρ' b → Owned σ ρ b) → L2.wipe σ' us = L2.wipe σ us → Q σ' H
def tGds (K : PySem.W.Frag) (c : Cn) (us : List Nat) (ts : List TGd) : TGs := fun vs σ H Q => ∃ W ρ S ds ρ', StOk K c W H S ∧ EnvOk K c W H σ ρ ∧ RepL K c W ds vs ∧ tgs ts ds ρ = some ρ' ∧ ∀ σ', EnvOk K c W H σ' ρ' → (∀ b, Owned σ' ρ' b → Owned σ ρ b) → L2.wipe σ' us = L2.wipe σ us → Q σ' H
theorem pg_imp {t t' : TG} (h : PG X tg t) (i : ∀ v σ H Q, t' v σ H Q → t v σ H Q) : PG X tg t' := ⟨fun pins s σ H v u Q I r q => h.run pins s σ H v u Q I r (i v σ H Q q)⟩
theorem pgs_imp {es : List Expr} {t t' : TGs} (h : PGs X es t) (i : ∀ v σ H Q, t' v σ H Q → t v σ H Q) : PGs X es t' := ⟨fun pins s σ H v u Q I r q => h.run pins s σ H v u Q I r (i v σ H Q q)⟩
theorem mg_name {i : Nat} {x : Str} {us : List Nat} (hN : X.N.Nodup) (hi : X.N[i]? = some x) (hx : Loc X.env.scope x) (hu : i ∈ us := by decide) (hf : X.fn x = true ∨ X.env.scope.names.lookup x = some .local := by first | exact .inl rfl | exact .inr rfl | assumption) : PG X (.Name x pos) (tGd X.K c us (tgN i)) :=
  pg_imp (pg_name hN hi hx hf) fun v σ H Q h => by
    obtain ⟨W, ρ, S, d, ρ', st, en, r, e, q⟩ := h
    cases e
    exact q _ (en.setV r i) (fun b z => owned_setV z) (wipe_set hu)
theorem mgs_nil {us : List Nat} : PGs X [] (tGds X.K c us []) := pgs_imp pgs_nil fun vs σ H Q h => by
  obtain ⟨W, ρ, S, ds, ρ', st, en, r, e, q⟩ := h
  cases ds with
  | nil =>
    cases r
    cases e
    exact ⟨rfl, q σ en (fun _ z => z) rfl⟩
  | cons d ds => cases e
theorem mgs_cons {us : List Nat} {es : List Expr} {t : TGd} {ts : List TGd} (h1 : PG X e (tGd X.K c us t)) (h2 : PGs X es (tGds X.K c us ts)) (hs : (assignEach (e :: es) X.env).map (·.2) = assign e X.env :: (assignEach es X.env).map (·.2) := by rfl) : PGs X (e :: es) (tGds X.K c us (t :: ts)) :=
  pgs_imp (pgs_cons h1 h2 hs) fun vs σ H Q h => by
    obtain ⟨W, ρ, S, ds, ρ', st, en, r, e, q⟩ := h
    cases ds with
    | nil => cases e
    | cons d ds =>
      obtain ⟨v, r', rfl, r1, r2⟩ := r
      obtain ⟨ρ1, e1, e2⟩ := Option.bind_eq_some_iff.mp e
      exact ⟨v, r', rfl, W, ρ, S, d, ρ1, st, en, r1, e1, fun σ1 en1 o1 w1 => ⟨W, ρ1, S, ds, ρ', st, en1, r2, e2, fun σ2 en2 o2 w2 => q σ2 en2 (fun b z => o1 b (o2 b z)) (w2.trans w1)⟩⟩
theorem tgs_len {ts : List TGd} {ds : List D} {ρ ρ' : En} (h : tgs ts ds ρ = some ρ') : ds.length = ts.length := by
  induction ts generalizing ds ρ with
  | nil =>
    cases ds with
    | nil => rfl
    | cons d ds => cases h
  | cons t ts ih =>
    cases ds with
    | nil => cases h
    | cons d ds =>
      obtain ⟨ρ1, e1, e2⟩ := Option.bind_eq_some_iff.mp h
      rw [List.length_cons, List.length_cons, ih e2]
theorem mg_tup {us : List Nat} {es : List Expr} {k : Nat} {ts : List TGd} (hc : X.calm = true) (h : PGs X es (tGds X.K c us ts)) (hn : (assignEach es X.env).length = ts.length := by rfl) (hst : (assignEach es X.env).findIdx? (·.1) = none := by rfl) : PG X (.Tuple es k pos) (tGd X.K c us (tgT ts)) :=
  pg_imp (pg_tup hc h hn hst) fun v σ H Q h => by
    obtain ⟨W, ρ, S, d, ρ', st, en, r, e, q⟩ := h
    cases d <;> first | (cases e; done) | skip
    obtain ⟨a, vs, rfl, h1, h2⟩ := r
    exact ⟨a, vs, rfl, SqT.of (st.sub _ _ h1), by rw [RepL.length h2]; exact tgs_len e, W, ρ, S, _, ρ', st, en, h2, e, q⟩
theorem ms_asg {us : List Nat} (he : PE X e (tM X.K c E fa)) (hg : PG X tg (tGd X.K c us td)) (hs : swapsWithSole [tg] e pos.line X.env = pure false := by rfl) (hw : swappedStores [tg] e X.env = pure none := by rfl)
    (h1 : (assignEach [tg] X.env).map (·.2) = [assign tg X.env] := by rfl) : PS X (.Assign [tg] e pos) (tS X.K c E (asgT td fa)) := ps_imp (ps_asg he hg hs hw h1) fun D σ H q => by
  obtain ⟨W, ρ, S, st, en, q⟩ := q
  refine thenS_M st en q fun d S' W' H' v st' en' k r q' => ?_
  unfold bd at q'
  cases e : td d ρ with
  | none => rw [e] at q'; exact q'.elim
  | some ρ' =>
    rw [e] at q'
    exact ⟨W', ρ, S', d, ρ', st', en', r, e, fun σ' en2 o2 _ => q' W' H' σ' st' en2 ⟨(Step.refl W' H' σ ρ).toKeepS, fun b z => .inr (o2 b z)⟩⟩
theorem ms_par {i j : Nat} {x y : Str} {px py pt : Pos} {kt k2 pt2} (hc : X.calm = true) (hN : X.N.Nodup) (hi : X.N[i]? = some x) (hj : X.N[j]? = some y) (hij : i ≠ j)
    (hx : X.env.scope.names.lookup x = some .local) (hy : X.env.scope.names.lookup y = some .local) (ha : PE X a (tM X.K c E fa)) (hb : PE X b (tM X.K c E fb)) 
    (hw : swappedStores [.Tuple [.Name x px, .Name y py] kt pt] (.Tuple [a, b] k2 pt2) X.env = pure (some [x, y]))
    (hs : swapsWithSole [.Tuple [.Name x px, .Name y py] kt pt] (.Tuple [a, b] k2 pt2) pos.line X.env = pure false := by rfl)
    (s1 : starEach [a, b] X.env = (false, eval a X.env) :: starEach [b] X.env := by rfl) (s2 : starEach [b] X.env = (false, eval b X.env) :: starEach [] X.env := by rfl) :
    PS X (.Assign [.Tuple [.Name x px, .Name y py] kt pt] (.Tuple [a, b] k2 pt2) pos) (tS X.K c E (parS i j fa fb)) :=
  ps_imp (ps_par hc hN hi hj hij hx hy (pa_cons ha (pa_cons hb pa_nil s2) s1) hw hs) fun D σ H q => by
    obtain ⟨W, ρ, S, st, en, q⟩ := q
    refine thenS_M st en q fun d S1 W1 H1 v st1 en1 k1 r1 q1 => ?_
    refine thenS_M st1 en1 q1 fun d2 S2 W2 H2 u st2 en2 k2 r2 q2 => ?_
    exact ⟨v, u, rfl, q2 W2 H2 _ st2 ((en2.setV (Rep.ext k2.wex d v r1) i).setV r2 j) ⟨(Step.refl W2 H2 σ ρ).toKeepS, fun b z => .inr (owned_setV (owned_setV z))⟩⟩
end
end Mini
namespace Mini
open PySem PySem.Spec PyProof.Rows L2 Evl

/-! ### what is walked -/
/-- the item x at the heap H', H the heap ahead: as it stood, or a new tuple of two -/
def Yld (K : PySem.W.Frag) (c : Cn) (W : Wd) (d : D) (H : Hp) (x : V) (H' : Hp) : Prop :=
  (H' = H ∧ Rep K c W d x) ∨ ∃ T x1 x2 d1 d2, x = .ref T ∧ H T = none ∧ H' = upd H T (.tup [x1, x2]) ∧ d = .tup [d1, d2] ∧ Rep K c W d1 x1 ∧ Rep K c W d2 x2
structure Itr2 (K : PySem.W.Frag) (c : Cn) (W : Wd) (J : It) (ds : List D) : Prop where
  go : ∀ i H, i < ds.length → Ex W.H0 H → J.go i H
  stop : ∀ H, Ex W.H0 H → J.stop ds.length H
  yld : ∀ i H x H' d, ds[i]? = some d → Ex W.H0 H → J.yld i H x H' → Yld K c W d H x H'
def OutI (K : PySem.W.Frag) (c : Cn) (W : Wd) (H : Hp) (E : XK) (R : It → Hp → Prop) : Res (List D) → Prop
  | .ok ds S' => ∀ W' H' J, StOk K c W' H' S' → Keep W H W' H' → Itr2 K c W' J ds → R J H'
  | .er n p S' => ErQ K c W H E n p S'
  | .no => False
def tI (K : PySem.W.Frag) (c : Cn) (E : XK) (g : FI) : TI := fun σ H R => ∃ W ρ S, StOk K c W H S ∧ EnvOk K c W H σ ρ ∧ OutI K c W H E R (g ρ S)
section
variable {K : PySem.W.Frag} {c : Cn} {W W1 W2 W' : Wd} {H H1 H2 H' : Hp} {S S1 S2 S' : DS} {σ σ1 σ2 σ' : L2.St} {ρ ρ1 ρ2 ρ' : En} {E : XK}
theorem repL_get' {ds : List D} {vs : List V} {j : Nat} {d : D} {v : V} (r : RepL K c W ds vs) (h : ds[j]? = some d) (hv : vs[j]? = some v) : Rep K c W d v := by
  obtain ⟨u, h1, h2⟩ := repL_get r h
  rw [hv] at h1
  cases h1
  exact h2
theorem itr_list {a : Addr} {vs : List V} {ds : List D} (h : W.H0 a = some (.lst vs)) (r : RepL K c W ds vs) : Itr2 K c W (Itl K a) ds where
  go := fun i H hi e => walk_list.goes i H (by rw [RepL.length r]; exact hi) (SqL.of (e _ _ h))
  stop := fun H e => by
    rw [← RepL.length r]
    exact walk_list.stops H (SqL.of (e _ _ h))
  yld := fun i H x H' d hd e y => by
    have hi : i < vs.length := by rw [RepL.length r]; exact (List.getElem?_eq_some_iff.mp hd).1
    obtain ⟨e1, e2⟩ := walk_list.yields i H x H' hi (SqL.of (e _ _ h)) y
    exact .inl ⟨e1, repL_get' r hd e2⟩
theorem itr_tup {a : Addr} {vs : List V} {ds : List D} (h : W.H0 a = some (.tup vs)) (r : RepL K c W ds vs) : Itr2 K c W (Itt K a) ds where
  go := fun i H hi e => walk_tup.goes i H (by rw [RepL.length r]; exact hi) (SqT.of (e _ _ h))
  stop := fun H e => by
    rw [← RepL.length r]
    exact walk_tup.stops H (SqT.of (e _ _ h))
  yld := fun i H x H' d hd e y => by
    have hi : i < vs.length := by rw [RepL.length r]; exact (List.getElem?_eq_some_iff.mp hd).1
    obtain ⟨e1, e2⟩ := walk_tup.yields i H x H' hi (SqT.of (e _ _ h)) y
    exact .inl ⟨e1, repL_get' r hd e2⟩
theorem itr_scr {a : Addr} {ns : List Int} (h : SqL K W.H0 a (ns.map V.int)) : Itr2 K c W (Itl K a) (ns.map D.int) where
  go := fun i H hi e => walk_list.goes i H (by rw [List.length_map] at hi ⊢; exact hi) (ex_l e h)
  stop := fun H e => by
    have q := walk_list.stops H (ex_l e h)
    rw [List.length_map] at q ⊢
    exact q
  yld := fun i H x H' d hd e y => by
    have hi : i < (ns.map V.int).length := by
      have := (List.getElem?_eq_some_iff.mp hd).1
      rw [List.length_map] at this ⊢
      exact this
    obtain ⟨e1, e2⟩ := walk_list.yields i H x H' hi (ex_l e h) y
    rw [List.getElem?_map] at hd e2
    cases q : ns[i]? with
    | none => rw [q] at hd; cases hd
    | some n =>
      rw [q] at hd e2
      cases hd
      cases e2
      exact .inl ⟨e1, rfl⟩
theorem itr_tpx {a : Addr} {o : Obj} {vs : List V} {ds : List D} (h : W.H0 a = some (.frz o (.tup vs))) (r : RepL K c W ds vs) : Itr2 K c W (Itt K a) ds where
  go := fun i H hi e => walk_tup.goes i H (by rw [RepL.length r]; exact hi) (.inl (.inr ⟨o, e _ _ h⟩))
  stop := fun H e => by
    rw [← RepL.length r]
    exact walk_tup.stops H (.inl (.inr ⟨o, e _ _ h⟩))
  yld := fun i H x H' d hd e y => by
    have hi : i < vs.length := by rw [RepL.length r]; exact (List.getElem?_eq_some_iff.mp hd).1
    obtain ⟨e1, e2⟩ := walk_tup.yields i H x H' hi (.inl (.inr ⟨o, e _ _ h⟩)) y
    exact .inl ⟨e1, repL_get' r hd e2⟩
def rngD (lo : Int) (n : Nat) : List D := (List.range n).map fun i => .int (lo + (i : Nat))
theorem rngD_length (lo : Int) (n : Nat) : (rngD lo n).length = n := by unfold rngD; rw [List.length_map, List.length_range]
theorem rngD_get {lo : Int} {n i : Nat} {d : D} (h : (rngD lo n)[i]? = some d) : i < n ∧ d = .int (lo + (i : Nat)) := by
  have hi := (List.getElem?_eq_some_iff.mp h).1
  rw [rngD_length] at hi
  unfold rngD at h
  rw [List.getElem?_map, List.getElem?_range hi] at h
  cases h
  exact ⟨hi, rfl⟩
theorem itr_rng {lo : Int} {n : Nat} : Itr2 K c W (L2.Itr lo n) (rngD lo n) where
  go := fun i H hi _ => by rw [rngD_length] at hi; exact hi
  stop := fun H _ => by rw [rngD_length]; exact Nat.le_refl _
  yld := fun i H x H' d hd _ y => by
    obtain ⟨_, rfl⟩ := rngD_get hd
    obtain ⟨e1, e2⟩ := y
    exact .inl ⟨e1, e2⟩
def rngC (lo k : Int) (n : Nat) : List D := (List.range n).map fun i => .int (lo + (i : Nat) * k)
theorem rngC_length (lo k : Int) (n : Nat) : (rngC lo k n).length = n := by unfold rngC; rw [List.length_map, List.length_range]
theorem itr_rngC {lo k : Int} {n : Nat} : Itr2 K c W (Itc lo k n) (rngC lo k n) where
  go := fun i H hi _ => by rw [rngC_length] at hi; exact hi
  stop := fun H _ => by rw [rngC_length]; exact Nat.le_refl _
  yld := fun i H x H' d hd _ y => by
    have hi := (List.getElem?_eq_some_iff.mp hd).1
    rw [rngC_length] at hi
    unfold rngC at hd
    rw [List.getElem?_map, List.getElem?_range hi] at hd
    cases hd
    obtain ⟨e1, e2⟩ := y
    exact .inl ⟨e1, e2⟩
def signsD (s : Str) : List D := s.cps.toList.map fun c => .str ⟨#[c]⟩
theorem sok_sign {s : Str} (h : SOk s) {x : Nat} (hx : x ∈ s.cps.toList) : SOk ⟨#[x]⟩ := by
  refine ⟨by show 1 ≤ 16777216; decide, ?_⟩
  have h3 : s.cps.all (· < 0x110000) = true := h.2
  exact all_drop_take (s := s.cps) (p := fun x => decide (x < 0x110000)) h3 [x] fun y hy => by
    have : y = x := by simpa using hy
    rw [this]; exact hx
theorem itr_str {s : Str} (h : SOk s) : Itr2 K c W (Its s) (signsD s) where
  go := fun i H hi _ => by
    refine walk_str.goes i H ?_ trivial
    unfold signsD at hi
    rw [List.length_map, Array.length_toList] at hi
    exact hi
  stop := fun H _ => by
    unfold signsD
    rw [List.length_map, Array.length_toList]
    exact walk_str.stops H trivial
  yld := fun i H x H' d hd _ y => by
    unfold signsD at hd
    have hi := (List.getElem?_eq_some_iff.mp hd).1
    rw [List.length_map, Array.length_toList] at hi
    obtain ⟨e1, c1, e2, rfl⟩ := walk_str.yields i H x H' hi trivial y
    rw [List.getElem?_map, Array.getElem?_toList, e2] at hd
    cases hd
    exact .inl ⟨e1, rfl, sok_sign h (List.mem_of_getElem? (by rw [Array.getElem?_toList]; exact e2))⟩
def enumD (ds : List D) : List D := (List.range ds.length).filterMap fun i => (ds[i]?).map fun d => .tup [.int (i : Nat), d]
def enumF : Nat → List D → List D
  | _, [] => []
  | n, d :: ds => .tup [.int (n : Nat), d] :: enumF (n + 1) ds
theorem enumF_get : ∀ {ds : List D} {n i : Nat} {e : D}, (enumF n ds)[i]? = some e → ∃ d, ds[i]? = some d ∧ e = .tup [.int ((n + i : Nat) : Int), d]
  | [], n, i, e, h => by simp [enumF] at h
  | d :: ds, n, 0, e, h => by
    simp only [enumF, List.getElem?_cons_zero, Option.some.injEq] at h
    exact ⟨d, rfl, h.symm⟩
  | d :: ds, n, i + 1, e, h => by
    simp only [enumF, List.getElem?_cons_succ] at h
    obtain ⟨d', h1, h2⟩ := enumF_get h
    exact ⟨d', by simpa using h1, by rw [h2]; congr 3; omega⟩
theorem enumF_length : ∀ (n : Nat) (ds : List D), (enumF n ds).length = ds.length
  | _, [] => rfl
  | n, d :: ds => by simp [enumF, enumF_length]
theorem itr_enum {a : Addr} {vs : List V} {ds : List D} (h : W.H0 a = some (.lst vs)) (r : RepL K c W ds vs) : Itr2 K c W (Ite K a) (enumF 0 ds) where
  go := fun i H hi e => walk_enum.goes i H (by rw [RepL.length r]; rwa [enumF_length] at hi) (SqL.of (e _ _ h))
  stop := fun H e => by
    rw [enumF_length, ← RepL.length r]
    exact walk_enum.stops H (SqL.of (e _ _ h))
  yld := fun i H x H' d hd e y => by
    obtain ⟨d2, h1, rfl⟩ := enumF_get hd
    have hi : i < vs.length := by rw [RepL.length r]; exact (List.getElem?_eq_some_iff.mp h1).1
    obtain ⟨T, x1, x2, q1, q2, q3, q4, q5⟩ := walk_enum.yields i H x H' hi (SqL.of (e _ _ h)) y
    cases q4
    exact .inr ⟨T, _, x2, _, _, q1, q2, q3, rfl, by rw [Nat.zero_add]; exact (rfl : Rep K c W (.int i) (.int i)), repL_get' r h1 q5⟩
def zipD : List D → List D → List D
  | d :: ds, e :: es => .tup [d, e] :: zipD ds es
  | _, _ => []
theorem zipD_get : ∀ {ds es : List D} {i : Nat} {x : D}, (zipD ds es)[i]? = some x → ∃ d e, ds[i]? = some d ∧ es[i]? = some e ∧ x = .tup [d, e]
  | [], es, i, x, h => by simp [zipD] at h
  | d :: ds, [], i, x, h => by simp [zipD] at h
  | d :: ds, e :: es, 0, x, h => by
    simp only [zipD, List.getElem?_cons_zero, Option.some.injEq] at h
    exact ⟨d, e, rfl, rfl, h.symm⟩
  | d :: ds, e :: es, i + 1, x, h => by
    simp only [zipD, List.getElem?_cons_succ] at h
    obtain ⟨d', e', h1, h2, h3⟩ := zipD_get h
    exact ⟨d', e', by simpa using h1, by simpa using h2, h3⟩
theorem zipD_length : ∀ (ds es : List D), (zipD ds es).length = min ds.length es.length
  | [], es => by simp [zipD]
  | d :: ds, [] => by simp [zipD]
  | d :: ds, e :: es => by simp [zipD, zipD_length, Nat.succ_min_succ]
theorem itr_zip {a b : Addr} {vs us : List V} {ds es : List D} (h : W.H0 a = some (.lst vs)) (h2 : W.H0 b = some (.lst us)) (r : RepL K c W ds vs) (r2 : RepL K c W es us) : Itr2 K c W (Itz K a b) (zipD ds es) where
  go := fun i H hi e => (walk_zip (xs := vs) (ys := us) rfl).goes i H (by rw [RepL.length r, RepL.length r2, ← zipD_length]; exact hi) ⟨SqL.of (e _ _ h), SqL.of (e _ _ h2)⟩
  stop := fun H e => by
    rw [zipD_length, ← RepL.length r, ← RepL.length r2]
    exact (walk_zip (xs := vs) (ys := us) rfl).stops H ⟨SqL.of (e _ _ h), SqL.of (e _ _ h2)⟩
  yld := fun i H x H' d hd e y => by
    have hi := (List.getElem?_eq_some_iff.mp hd).1
    rw [zipD_length, ← RepL.length r, ← RepL.length r2] at hi
    obtain ⟨d1, d2, h3, h4, rfl⟩ := zipD_get hd
    obtain ⟨T, x1, x2, q1, q2, q3, q4, q5⟩ := (walk_zip (xs := vs) (ys := us) rfl).yields i H x H' hi ⟨SqL.of (e _ _ h), SqL.of (e _ _ h2)⟩ y
    exact .inr ⟨T, x1, x2, _, _, q1, q2, q3, rfl, repL_get' r h3 q4, repL_get' r2 h4 q5⟩
/-- behind an item -/
theorem Yld.lay (st : StOk K c W1 H S) (e : WEx W W1) {d : D} {x : V} (y : Yld K c W d H x H') : ∃ W2, StOk K c W2 H' S ∧ Keep W1 H W2 H' ∧ Rep K c W2 d x := by
  rcases y with ⟨rfl, r⟩ | ⟨T, x1, x2, d1, d2, rfl, h1, rfl, rfl, r1, r2⟩
  · exact ⟨W1, st, Keep.refl _ _, Rep.ext e d x r⟩
  · exact ⟨_, lay_st st h1, lay_keep st h1, new_tup st h1 ⟨x1, _, rfl, Rep.ext e d1 x1 r1, x2, _, rfl, Rep.ext e d2 x2 r2, rfl⟩⟩
/-- the same where the step tells nothing is frozen anew -/
theorem KeepS.of_owned (k : KeepS W H σ1 ρ1 W' H') (h : ∀ b, Owned σ1 ρ1 b → Owned σ ρ b) : KeepS W H σ ρ W' H' := ⟨k.wex, fun b o q n no => k.old b o q n fun z => no (h b z), fun b o q no => k.fr b o q fun z => no (h b z), k.sa, k.there⟩
theorem Step.of_owned (k : Step W H σ1 ρ1 W' H' σ' ρ') (h : ∀ b, Owned σ1 ρ1 b → Owned σ ρ b) : Step W H σ ρ W' H' σ' ρ' := ⟨k.toKeepS.of_owned h, fun b z => (k.own b z).imp id (h b)⟩
end
section
variable {X : Cx} {c : Cn} {E : XK} {a b e tg iter : Expr} {fa fb : FE} {it : FI} {td : TGd} {g : FS} {bodyS : List Stmt} {pos : Pos}
theorem ms_for {us : List Nat} (hp : PassesOwn (model X.prog X.w) X.A X.env X.xe) (hc : X.calm = true) (hi : PI X tg iter (tI X.K c E it)) (hg : PG X tg (tGd X.K c us td)) (hb : PSs X bodyS (tS X.K c E g))
    (hs : ∀ x, foldedSetIterable iter X.env x = pure x := by intro _; rfl) : PS X (.For tg iter bodyS [] pos) (tS X.K c E (forS it td g)) := ps_imp (ps_for hp hc hi hg hb hs) fun D σ H q => by
  obtain ⟨W, ρ, S, st, en, q⟩ := q
  refine ⟨W, ρ, S, st, en, ?_⟩
  unfold forS bd at q
  cases e : it ρ S with
  | er n p S' =>
    rw [e] at q
    exact ErS.q q
  | no =>
    rw [e] at q
    exact q
  | ok ds S' =>
    rw [e] at q
    intro W' H' J st' k' wk
    have q0 : OutS X.K c W' H' σ ρ E D (forL td g ds ρ S') := OutS.pre q (k'.toStep st')
    have en' := en.ext k'
    refine ⟨fun i m σ1 H1 => m = ds.length - i ∧ i ≤ ds.length ∧ ∃ W1 ρ1 S1, StOk X.K c W1 H1 S1 ∧ EnvOk X.K c W1 H1 σ1 ρ1 ∧ Step W' H' σ ρ W1 H1 σ1 ρ1 ∧ OutS X.K c W' H' σ ρ E D (forL td g (ds.drop i) ρ1 S1),
      ⟨ds.length, rfl, Nat.zero_le _, W', ρ, S', st', en', Step.refl _ _ _ _, q0⟩, ?_⟩
    rintro i m σ1 H1 ⟨rfl, hi, W1, ρ1, S1, st1, en1, k1, q1⟩
    have ex1 : Ex W'.H0 H1 := k1.wex.1.trans st1.sub
    by_cases hlt : i < ds.length
    · refine .inr ⟨wk.go i H1 hlt ex1, fun σ2 H2 => ∃ W2 ρ2 S2, StOk X.K c W2 H2 S2 ∧ EnvOk X.K c W2 H2 σ2 ρ2 ∧ Step W' H' σ ρ W2 H2 σ2 ρ2 ∧ OutS X.K c W' H' σ ρ E D (forL td g (ds.drop (i + 1)) ρ2 S2), fun σ2 H2 n2 => ⟨ds.length - (i + 1), by omega, rfl, hlt, n2⟩, fun x H2 y => ?_⟩
      have hd : ds[i]? = some ds[i] := List.getElem?_eq_getElem hlt
      rw [List.drop_eq_getElem_cons hlt] at q1
      unfold forL bd at q1
      cases e1 : td ds[i] ρ1 with
      | none => rw [e1] at q1; exact q1.elim
      | some ρ2 =>
        rw [e1] at q1
        obtain ⟨W2, st2, kk2, r2⟩ := (wk.yld i H1 x H2 _ hd ex1 y).lay st1 k1.wex
        have en2 := en1.ext kk2
        refine ⟨W2, ρ1, S1, ds[i], ρ2, st2, en2, r2, e1, fun σ3 en3 o3 _ => ⟨W2, ρ2, S1, st2, en3, ?_⟩⟩
        have k2 : Step W' H' σ ρ W2 H2 σ3 ρ2 := k1.trans ((kk2.toStep st2).trans ⟨(Step.refl W2 H2 σ1 ρ1).toKeepS, fun b z => .inr (o3 b z)⟩)
        change OutS X.K c W' H' σ ρ E D (bd (g ρ2) _ S1) at q1
        unfold bd at q1
        cases e2 : g ρ2 S1 with
        | no => rw [e2] at q1; exact q1
        | er n p S2 => rw [e2] at q1; exact ErS.pre q1 k2
        | ok f S2 =>
          rw [e2] at q1
          cases f with
          | nx ρ4 => exact fun W4 H4 σ4 st4 en4 k4 => ⟨W4, ρ4, S2, st4, en4, k2.trans k4, q1⟩
          | ct ρ4 => exact fun W4 H4 σ4 st4 en4 k4 => ⟨W4, ρ4, S2, st4, en4, k2.trans k4, q1⟩
          | bk ρ4 => exact fun W4 H4 σ4 st4 en4 k4 => q1 W4 H4 σ4 st4 en4 (k2.trans k4)
          | rt d => exact fun W4 H4 v st4 k4 r4 => q1 W4 H4 v st4 (k2.keepS k4) r4
    · have ei : i = ds.length := by omega
      subst ei
      refine .inl ⟨wk.stop H1 ex1, ?_⟩
      rw [List.drop_length] at q1
      exact q1 W1 H1 σ1 st1 en1 k1
theorem ms_while {t : Expr} {ta : FB} {w : Nat} (hp : PassesOwn (model X.prog X.w) X.A X.env X.xe) (hc : PT X t (tT X.K c E ta)) (hb : PSs X bodyS (tS X.K c E g)) : PS X (.While t bodyS [] pos) (tS X.K c E (whileS ta g w)) := ps_imp (ps_while hp hc hb) fun D σ H q => by
  obtain ⟨W, ρ, S, st, en, q⟩ := q
  refine ⟨fun m σ1 H1 => ∃ W1 ρ1 S1, StOk X.K c W1 H1 S1 ∧ EnvOk X.K c W1 H1 σ1 ρ1 ∧ Step W H σ ρ W1 H1 σ1 ρ1 ∧ OutS X.K c W H σ ρ E D (whileS ta g m ρ1 S1), ⟨w, W, ρ, S, st, en, Step.refl _ _ _ _, q⟩, ?_⟩
  rintro m σ1 H1 ⟨W1, ρ1, S1, st1, en1, k1, q1⟩
  cases m with
  | zero => exact q1.elim
  | succ m =>
    unfold whileS at q1
    refine then_T (O := OutS X.K c W H σ ρ E D) st1 en1 (fun _ _ _ z => (ErS.pre z k1).q) (fun z => z) q1 fun d S2 W2 H2 st2 k2 q2 => ?_
    have k3 := k1.trans (k2.toStep st2)
    have en2 := en1.ext k2
    cases d with
    | false => exact q2 W2 H2 σ1 st2 en2 k3
    | true =>
      refine ⟨fun σ3 H3 => ∃ W3 ρ3 S3, StOk X.K c W3 H3 S3 ∧ EnvOk X.K c W3 H3 σ3 ρ3 ∧ Step W H σ ρ W3 H3 σ3 ρ3 ∧ OutS X.K c W H σ ρ E D (whileS ta g m ρ3 S3), fun σ3 H3 z => ⟨m, Nat.lt_succ_self m, z⟩, W2, ρ1, S2, st2, en2, ?_⟩
      change OutS X.K c W H σ ρ E D (bd (g ρ1) _ S2) at q2
      unfold bd at q2
      cases e2 : g ρ1 S2 with
      | no => rw [e2] at q2; exact q2
      | er n p S3 => rw [e2] at q2; exact ErS.pre q2 k3
      | ok f S3 =>
        rw [e2] at q2
        cases f with
        | nx ρ4 => exact fun W4 H4 σ4 st4 en4 k4 => ⟨W4, ρ4, S3, st4, en4, k3.trans k4, q2⟩
        | ct ρ4 => exact fun W4 H4 σ4 st4 en4 k4 => ⟨W4, ρ4, S3, st4, en4, k3.trans k4, q2⟩
        | bk ρ4 => exact fun W4 H4 σ4 st4 en4 k4 => q2 W4 H4 σ4 st4 en4 (k3.trans k4)
        | rt d => exact fun W4 H4 v st4 k4 r4 => q2 W4 H4 v st4 (k3.keepS k4) r4
/-! ### the iterators' rules -/
def seqAny : D → Option (List D)
  | .lst ds => some ds
  | .tup ds => some ds
  | .tpx ds => some ds
  | .str s => some (signsD s)
  | .scr ns => some (ns.map .int)
  | _ => none
def itS (a : FE) : FI := fun ρ => bd (a ρ) fun d => lift (seqAny d)
/-- a list, a tuple, a text -/
theorem mi_seq (he : PE X e (tM X.K c E fa)) : PI X tg e (tI X.K c E (itS fa)) := ⟨fun pins s σ H R I h => by
  obtain ⟨W, ρ, S, st, en, q⟩ := h
  -- which of them it is
  unfold itS bd at q
  cases e1 : fa ρ S with
  | no => rw [e1] at q; exact q.elim
  | er n p S' =>
    rw [e1] at q
    exact (pi_list he).run pins s σ H R I ⟨W, ρ, S, st, en, by rw [e1]; exact q⟩
  | ok d S' =>
    rw [e1] at q
    obtain ⟨ds, e2, q2⟩ := lift_ok (β := List D) (O := OutI X.K c W H E R) (fun z => z) q
    cases d <;> first | (cases e2; done) | skip
    · cases e2
      refine (pi_str he).run pins s σ H R I ⟨W, ρ, S, st, en, ?_⟩
      rw [e1]
      rintro W' H' v st' k' ⟨rfl, hs⟩
      exact ⟨_, rfl, q2 W' H' _ st' k' (itr_str hs)⟩
    · cases e2
      refine (pi_tup he).run pins s σ H R I ⟨W, ρ, S, st, en, ?_⟩
      rw [e1]
      rintro W' H' v st' k' ⟨a, vs, rfl, h1, r⟩
      exact ⟨a, rfl, ⟨vs, SqT.of (st'.sub _ _ h1)⟩, q2 W' H' _ st' k' (itr_tup h1 r)⟩
    · cases e2
      refine (pi_tup he).run pins s σ H R I ⟨W, ρ, S, st, en, ?_⟩
      rw [e1]
      rintro W' H' v st' k' ⟨a, vs, o, rfl, h1, _, r⟩
      exact ⟨a, rfl, ⟨vs, .inl (.inr ⟨o, st'.sub _ _ h1⟩)⟩, q2 W' H' _ st' k' (itr_tpx h1 r)⟩
    · cases e2
      refine (pi_list he).run pins s σ H R I ⟨W, ρ, S, st, en, ?_⟩
      rw [e1]
      rintro W' H' v st' k' ⟨a, vs, rfl, h1, r⟩
      exact ⟨a, rfl, ⟨vs, SqL.of (st'.sub _ _ h1)⟩, q2 W' H' _ st' k' (itr_list h1 r)⟩
    · cases e2
      refine (pi_list he).run pins s σ H R I ⟨W, ρ, S, st, en, ?_⟩
      rw [e1]
      rintro W' H' v st' k' ⟨a, rfl, h1⟩
      exact ⟨a, rfl, ⟨_, ex_l st'.sub h1⟩, q2 W' H' _ st' k' (itr_scr h1)⟩⟩
def big62 (i : Int) : Bool := decide (-(2 ^ 62) ≤ i ∧ i < 2 ^ 62)
def itR1 (a : FE) : FI := fun ρ => bd (a ρ) fun d => match d with
  | .int j => if big62 j then rt (rngD 0 j.toNat) else no
  | _ => no
def itR2 (a b : FE) : FI := fun ρ => bd (a ρ) fun d => bd (b ρ) fun e => match d, e with
  | .int i, .int j => if big62 i && big62 j then rt (rngD i (j - i).toNat) else no
  | _, _ => no
theorem mi_rng1 {p : Pos} (hg : Gl X "range") (hm : X.mg "range" = none) (ha : PE X a (tM X.K c E fa)) (hs : starEach [a] X.env = [(false, eval a X.env)] := by rfl) : PI X tg (.Call (.Name "range" p) [a] [] pos) (tI X.K c E (itR1 fa)) := ⟨fun pins s σ H R I h => by
  obtain ⟨W, ρ, S, st, en, q⟩ := h
  refine (pi_range1 hg hm (pa_cons ha pa_nil (by rw [hs]; rfl)) hs).run pins s σ H R I ?_
  refine then_M (O := OutI X.K c W H E R) st en (fun _ _ _ z => z) (fun z => z) q fun d S1 W1 H1 v st1 k1 r1 q1 => ?_
  cases d <;> first | exact (show False from q1).elim | skip
  rename_i j
  cases r1
  dsimp only at q1
  split at q1
  · rename_i hb
    unfold big62 at hb
    obtain ⟨h1, h2⟩ := of_decide_eq_true hb
    exact ⟨j, rfl, h1, h2, q1 W1 H1 _ st1 k1 itr_rng⟩
  · exact q1.elim⟩
theorem mi_rng2 {p : Pos} (hg : Gl X "range") (hm : X.mg "range" = none) (ha : PE X a (tM X.K c E fa)) (hb : PE X b (tM X.K c E fb)) (hs : starEach [a, b] X.env = [(false, eval a X.env), (false, eval b X.env)] := by rfl) (hs2 : starEach [b] X.env = [(false, eval b X.env)] := by rfl) : PI X tg (.Call (.Name "range" p) [a, b] [] pos) (tI X.K c E (itR2 fa fb)) := ⟨fun pins s σ H R I h => by
  obtain ⟨W, ρ, S, st, en, q⟩ := h
  refine (pi_range2 hg hm (pa_cons ha (pa_cons hb pa_nil (by rw [hs2]; rfl)) (by rw [hs, hs2])) hs hs2).run pins s σ H R I ?_
  refine then_M (O := OutI X.K c W H E R) st en (fun _ _ _ z => z) (fun z => z) q fun d S1 W1 H1 v st1 k1 r1 q1 => ?_
  refine then_M (O := OutI X.K c W H E R) st1 (en.ext k1) (fun _ _ _ z => ErQ.pre z k1 st1) (fun z => z) q1 fun d2 S2 W2 H2 u st2 k2 r2 q2 => ?_
  cases d <;> cases d2 <;> first | exact (show False from q2).elim | skip
  rename_i i j
  cases r1
  cases r2
  dsimp only at q2
  split at q2
  · rename_i hb
    unfold big62 at hb
    rw [Bool.and_eq_true] at hb
    obtain ⟨h1, h2⟩ := of_decide_eq_true hb.1
    obtain ⟨h3, h4⟩ := of_decide_eq_true hb.2
    exact ⟨i, j, rfl, ⟨h1, h2, h3, h4⟩, q2 W2 H2 _ st2 (k1.tr st1 k2) itr_rng⟩
  · exact q2.elim⟩
def lstOf : D → Option (List D)
  | .lst ds => some ds
  | _ => none
def itEn (a : FE) : FI := fun ρ => bd (a ρ) fun d => lift ((lstOf d).map (enumF 0))
theorem mi_enum {p tpos : Pos} {elts : List Expr} {kk : Nat} (hg : Gl X "enumerate") (hm : X.mg "enumerate" = none) (ha : PE X a (tM X.K c E fa)) (hs : starEach [a] X.env = [(false, eval a X.env)] := by rfl) : PI X (.Tuple elts kk tpos) (.Call (.Name "enumerate" p) [a] [] pos) (tI X.K c E (itEn fa)) := ⟨fun pins s σ H R I h => by
  obtain ⟨W, ρ, S, st, en, q⟩ := h
  refine (pi_enum hg hm (pa_cons ha pa_nil (by rw [hs]; rfl)) hs).run pins s σ H R I ?_
  refine then_M (O := OutI X.K c W H E R) st en (fun _ _ _ z => z) (fun z => z) q fun d S1 W1 H1 v st1 k1 r1 q1 => ?_
  cases d <;> first | exact (show False from q1).elim | skip
  obtain ⟨p, vs, rfl, h1, r⟩ := r1
  exact ⟨p, vs, rfl, SqL.of (st1.sub _ _ h1), q1 W1 H1 _ st1 k1 (itr_enum h1 r)⟩⟩
def itZp (a b : FE) : FI := fun ρ => bd (a ρ) fun d => bd (b ρ) fun e => match d, e with
  | .lst ds, .lst es => rt (zipD ds es)
  | _, _ => no
theorem mi_zip {p tpos : Pos} {elts : List Expr} {kk : Nat} (hg : Gl X "zip") (hm : X.mg "zip" = none) (ha : PE X a (tM X.K c E fa)) (hb : PE X b (tM X.K c E fb)) (hs : starEach [a, b] X.env = (false, eval a X.env) :: starEach [b] X.env := by rfl) (hs2 : starEach [b] X.env = (false, eval b X.env) :: starEach [] X.env := by rfl)
    (hpl : (backTo pos (starEach [b] X.env)).any (·.1) = false := by rfl) : PI X (.Tuple elts kk tpos) (.Call (.Name "zip" p) [a, b] [] pos) (tI X.K c E (itZp fa fb)) := ⟨fun pins s σ H R I h => by
  obtain ⟨W, ρ, S, st, en, q⟩ := h
  refine (pi_zip hg hm (pa_cons ha (pa_cons hb pa_nil hs2) hs) hs hpl).run pins s σ H R I ?_
  refine then_M (O := OutI X.K c W H E R) st en (fun _ _ _ z => z) (fun z => z) q fun d S1 W1 H1 v st1 k1 r1 q1 => ?_
  refine then_M (O := OutI X.K c W H E R) st1 (en.ext k1) (fun _ _ _ z => ErQ.pre z k1 st1) (fun z => z) q1 fun d2 S2 W2 H2 u st2 k2 r2 q2 => ?_
  cases d <;> cases d2 <;> first | exact (show False from q2).elim | skip
  obtain ⟨p, vs, rfl, h1, r⟩ := r1
  obtain ⟨p2, us, rfl, h2, r2⟩ := r2
  exact ⟨p, p2, vs, us, rfl, SqL.of (st2.sub _ _ (k2.wex.1 _ _ h1)), SqL.of (st2.sub _ _ h2), q2 W2 H2 _ st2 (k1.tr st1 k2) (itr_zip (k2.wex.1 _ _ h1) h2 (RepL.ext k2.wex _ _ r) r2)⟩⟩
end
end Mini
namespace Mini
open PySem PySem.Spec PyProof.Rows L2 Evl

/-! ### comprehensions -/
/-- the block's own names are put aside -/
def wipeR (ρ : En) : List Nat → En
  | [] => ρ
  | v :: vs => (wipeR ρ vs).set v .no
/-- an end without errors -/
def noEr {α : Type} (m : M α) : M α := fun S => match m S with
  | .er _ _ _ => .no
  | r => r
def lcL (t : TGd) (test : FB) (elt : FE) : List D → List D → En → M (List D)
  | [], acc, _ => rt acc
  | d :: ds, acc, ρ => bd (lift (t d ρ)) fun ρ1 => bd (noEr (test ρ1)) fun k =>
      if k then bd (noEr (elt ρ1)) fun x => if acc.length < 16777216 then lcL t test elt ds (acc ++ [x]) ρ else no
      else lcL t test elt ds acc ρ
def yesB : FB := fun _ => rt true
def lcE (it : FI) (t : TGd) (test : FB) (elt : FE) (vs : List Nat) : FE := fun ρ => bd (it ρ) fun ds => bd (lcL t test elt ds [] (wipeR ρ vs)) fun r => rt (.lst r)
abbrev EF : XK := fun _ _ _ => False
section
variable {K : PySem.W.Frag} {c : Cn} {W W1 W2 W' : Wd} {H H1 H2 H' : Hp} {S S1 S2 S' : DS} {σ σ1 σ2 σ' : L2.St} {ρ ρ1 ρ2 ρ' : En} {E : XK}
theorem EnvOk.setN (en : EnvOk K c W H σ ρ) (i : Nat) : EnvOk K c W H (σ.set i none) (ρ.set i .no) := by
  have hl := en.len
  have ne : ∀ {j : Nat} {s : Slot}, (ρ.set i .no)[j]? = some s → s ≠ .no → i ≠ j := fun {j s} h hs e => by
    subst e
    have hi : i < ρ.length := by
      have := (List.getElem?_eq_some_iff.mp h).1
      rwa [List.length_set] at this
    rw [List.getElem?_set_self hi] at h
    cases h
    exact hs rfl
  refine ⟨by rw [List.length_set, List.length_set]; exact hl, fun j e h => ?_, fun j e h => ?_, fun j k d1 d2 a h1 h2 h3 h4 => ?_⟩
  · have n := ne h (by intro z; cases z)
    rw [List.getElem?_set_ne n] at h ⊢
    exact en.vl j e h
  · have n := ne h (by intro z; cases z)
    rw [List.getElem?_set_ne n] at h ⊢
    exact en.ow j e h
  · have n1 := ne h1 (by intro z; cases z)
    have n2 := ne h2 (by intro z; cases z)
    rw [List.getElem?_set_ne n1] at h1 h3
    rw [List.getElem?_set_ne n2] at h2 h4
    exact en.sep j k d1 d2 a h1 h2 h3 h4
theorem EnvOk.wipe (en : EnvOk K c W H σ ρ) : ∀ vs : List Nat, EnvOk K c W H (L2.wipe σ vs) (wipeR ρ vs)
  | [] => en
  | v :: vs => (EnvOk.wipe en vs).setN v
/-- D holds the list so far, not frozen -/
def AccOk (K : PySem.W.Frag) (c : Cn) (W : Wd) (H : Hp) (D : Addr) (acc : List Mini.D) : Prop := W.H0 D = none ∧ W.sa ≠ some D ∧ ∃ vs, H D = some (.lst vs) ∧ RepL K c W acc vs
theorem AccOk.ext {D : Addr} {acc : List Mini.D} (a : AccOk K c W H D acc) (k : Keep W H W' H') : AccOk K c W' H' D acc := by
  obtain ⟨h1, h2, vs, h3, h4⟩ := a
  exact ⟨k.fr D _ h3 h1, fun e => h2 (k.sa D _ h3 e), vs, k.old D _ h3 h2, RepL.ext k.wex _ _ h4⟩
/-- a write to what we own alone -/
structure KeepD (W : Wd) (H : Hp) (D : Addr) (W' : Wd) (H' : Hp) : Prop where
  wex : WEx W W'
  old : ∀ b o, H b = some o → W.sa ≠ some b → b ≠ D → H' b = some o
  fr : ∀ b o, H b = some o → W.H0 b = none → W'.H0 b = none
  sa : ∀ b o, H b = some o → W'.sa = some b → W.sa = some b
  there : ∀ b o, H b = some o → ∃ o', H' b = some o'
theorem Keep.toD {D : Addr} (k : Keep W H W' H') (st : StOk K c W' H' S') : KeepD W H D W' H' := ⟨k.wex, fun b o h n _ => k.old b o h n, k.fr, k.sa, (k.toS (σ := []) (ρ := []) st).there⟩
theorem KeepD.trans {D : Addr} (k1 : KeepD W H D W1 H1) (k2 : KeepD W1 H1 D W2 H2) : KeepD W H D W2 H2 where
  wex := k1.wex.trans k2.wex
  old := fun b o h n nd => k2.old b o (k1.old b o h n nd) (fun e => n (k1.sa b o h e)) nd
  fr := fun b o h n => by
    obtain ⟨o1, ho1⟩ := k1.there b o h
    exact k2.fr b o1 ho1 (k1.fr b o h n)
  sa := fun b o h e => by
    obtain ⟨o1, ho1⟩ := k1.there b o h
    exact k1.sa b o h (k2.sa b o1 ho1 e)
  there := fun b o h => by
    obtain ⟨o1, ho1⟩ := k1.there b o h
    exact k2.there b o1 ho1
theorem upd_D {D : Addr} {o : HO} (st : StOk K c W H S) (h0 : W.H0 D = none) (hs : W.sa ≠ some D) (hD : ∃ u, H D = some u) : StOk K c W (upd H D o) S ∧ KeepD W H D W (upd H D o) := by
  have kd : KeepD W H D W (upd H D o) := ⟨WEx.refl W, fun b u h _ nd => by rw [upd_ne nd]; exact h, fun _ _ _ e => e, fun _ _ _ e => e, fun b u h => by
    by_cases hb : b = D
    · subst hb; exact ⟨o, upd_same⟩
    · exact ⟨u, by rw [upd_ne hb]; exact h⟩⟩
  refine ⟨⟨fun b u e => ?_, ?_⟩, kd⟩
  · rw [upd_ne fun z => by rw [z, h0] at e; cases e]
    exact st.sub b u e
  · have d := st.ds
    cases S with
    | none => exact d
    | some ds =>
      obtain ⟨a, vs, h1, h2, h3, h4⟩ := d
      exact ⟨a, vs, h1, h2, by rw [upd_ne fun z => hs (by rw [← z]; exact h1)]; exact h3, h4⟩
/-- the frame's slots behind writes to D, D none of theirs -/
theorem EnvOk.extD {D : Addr} (e : EnvOk K c W H σ ρ) (k : KeepD W H D W' H') (hD : ∀ (i : Nat) (d : Mini.D), ρ[i]? = some (.ow d) → σ[i]? ≠ some (some (.ref D))) : EnvOk K c W' H' σ ρ where
  len := e.len
  vl := fun i d h => by
    obtain ⟨v, h1, h2⟩ := e.vl i d h
    exact ⟨v, h1, Rep.ext k.wex d v h2⟩
  ow := fun i d h => by
    obtain ⟨a, h1, h2, h3, h4⟩ := e.ow i d h
    obtain ⟨o, ho⟩ := h4.some
    have nd : a ≠ D := fun z => hD i d h (by rw [h1, z])
    exact ⟨a, h1, k.fr a o ho h2, fun q => h3 (k.sa a o ho q), h4.ext k.wex fun o q => k.old a o q h3 nd⟩
  sep := e.sep
theorem noEr_ok {α : Type} {m : M α} {a : α} (h : noEr m S = .ok a S') : m S = .ok a S' := by
  unfold noEr at h
  split at h
  · cases h
  · exact h
/-- one reading within the block: no errors -/
theorem thenC_M {f : FE} {β : Type} {g : D → M β} {Q : VK} {O : Res β → Prop} (st : StOk K c W H S) (en : EnvOk K c W H σ ρ) (hN : ¬ O .no) (h : O (bd (noEr (f ρ)) g S))
    (k : ∀ d S' W' H' v, StOk K c W' H' S' → Keep W H W' H' → Rep K c W' d v → O (g d S') → Q v H') : tM K c E f σ H Q := by
  refine tM_mk st en ?_
  unfold bd noEr at h
  cases e : f ρ S with
  | ok d S' =>
    rw [e] at h
    exact fun W' H' v st' k' r => k d S' W' H' v st' k' r h
  | er n p S' =>
    rw [e] at h
    exact (hN h).elim
  | no =>
    rw [e] at h
    exact (hN h).elim
theorem thenC_T {f : FB} {β : Type} {g : Bool → M β} {Q : Bool → Hp → Prop} {O : Res β → Prop} (st : StOk K c W H S) (en : EnvOk K c W H σ ρ) (hN : ¬ O .no) (h : O (bd (noEr (f ρ)) g S))
    (k : ∀ d S' W' H', StOk K c W' H' S' → Keep W H W' H' → O (g d S') → Q d H') : tT K c E f σ H Q := by
  refine tT_mk st en ?_
  unfold bd noEr at h
  cases e : f ρ S with
  | ok d S' =>
    rw [e] at h
    exact fun W' H' st' k' => k d S' W' H' st' k' h
  | er n p S' =>
    rw [e] at h
    exact (hN h).elim
  | no =>
    rw [e] at h
    exact (hN h).elim
theorem lcL_noEr (t : TGd) (test : FB) (elt : FE) : ∀ (ds acc : List D) (ρ : En) (S : DS) (n : Nat) (p : D) (S' : DS), lcL t test elt ds acc ρ S ≠ .er n p S'
  | [], acc, ρ, S, n, p, S' => by intro h; cases h
  | d :: ds, acc, ρ, S, n, p, S' => by
    intro h
    unfold lcL bd at h
    cases e : t d ρ with
    | none => rw [e] at h; cases h
    | some ρ1 =>
      rw [e] at h
      change bd (noEr (test ρ1)) _ S = _ at h
      unfold bd noEr at h
      cases e1 : test ρ1 S with
      | no => rw [e1] at h; cases h
      | er n p S' => rw [e1] at h; cases h
      | ok k S1 =>
        rw [e1] at h
        cases k with
        | false => exact lcL_noEr t test elt ds acc ρ S1 n p S' h
        | true =>
          change bd (noEr (elt ρ1)) _ S1 = _ at h
          unfold bd noEr at h
          cases e2 : elt ρ1 S1 with
          | no => rw [e2] at h; cases h
          | er n p S' => rw [e2] at h; cases h
          | ok x S2 =>
            rw [e2] at h
            dsimp only at h
            split at h
            · exact lcL_noEr t test elt ds _ ρ S2 n p S' h
            · cases h
def OutL (K : PySem.W.Frag) (c : Cn) (W : Wd) (H : Hp) (D : Addr) (Qd : Hp → Prop) : Res (List Mini.D) → Prop
  | .ok r S' => ∀ W' H', StOk K c W' H' S' → KeepD W H D W' H' → AccOk K c W' H' D r → Qd H'
  | .er _ _ _ => False
  | .no => False
end
section
variable {X : Cx} {c : Cn} {E : XK} {elt tg iter : Expr} {ifs : List Expr} {scope : Scope} {own : List (Str × Nat)} {pos : Pos} {it : FI} {td : TGd} {test : FB} {fe : FE}
theorem mts_nil : PTs X [] (tT X.K c E yesB) := ⟨fun pins s σ H Q I h => by
  obtain ⟨W, ρ, S, st, en, q⟩ := tT_un h
  exact pts_nil.run pins s σ H Q I (q W H st (Keep.refl W H))⟩
theorem wipe_wipe {σ : L2.St} : ∀ (vs us : List Nat), (∀ v ∈ vs, v ∈ us) → L2.wipe (L2.wipe σ vs) us = L2.wipe σ us
  | [], _, _ => rfl
  | v :: vs, us, h => by
    show L2.wipe ((L2.wipe σ vs).set v none) us = _
    rw [wipe_set (h v List.mem_cons_self)]
    exact wipe_wipe vs us fun u hu => h u (List.mem_cons_of_mem _ hu)
theorem lc_out {own : List Nat} : ∀ σ H Q, tO X.K c E (lcE it td test fe own) σ H Q → tLc (tI X.K c E it) (tGd X.K c own td) (tT X.K c EF test) (tM X.K c EF fe) own σ H Q := fun σ H Q h => by
  obtain ⟨W, ρ, S, st, en, q⟩ := tO_un h
  refine ⟨W, ρ, S, st, en, ?_⟩
  unfold lcE bd at q
  cases e0 : it ρ S with
  | er n p S' => rw [e0] at q; exact q
  | no => rw [e0] at q; exact q
  | ok ds S0 =>
    rw [e0] at q
    intro W0 H0 J st0 k0 wk Dl hD
    have en0 := (en.ext k0).wipe own
    -- the new list
    have st1 := new_st (o := .lst []) st0 hD
    have kD : Keep W0 H0 W0 (upd H0 Dl (.lst [])) := new_keep st0 hD
    have noOwn : ∀ (i : Nat) (d : Mini.D), (wipeR ρ own)[i]? = some (.ow d) → (L2.wipe σ own)[i]? ≠ some (some (.ref Dl)) := fun i d h1 h2 => by
      obtain ⟨a, h3, _, _, h4⟩ := en0.ow i d h1
      rw [h2] at h3
      cases h3
      obtain ⟨o, ho⟩ := h4.some
      rw [hD] at ho
      cases ho
    have q0 : OutL X.K c W0 (upd H0 Dl (.lst [])) Dl (fun H1 => Q (.ref Dl) H1) (lcL td test fe ds [] (wipeR ρ own) S0) := by
      change OutO X.K c W H E Q (bd (lcL td test fe ds [] (wipeR ρ own)) (fun r => rt (.lst r)) S0) at q
      unfold bd at q
      cases e1 : lcL td test fe ds [] (wipeR ρ own) S0 with
      | no => rw [e1] at q; exact q
      | er n p S' => exact absurd e1 (lcL_noEr _ _ _ _ _ _ _ _ _ _)
      | ok r S' =>
        rw [e1] at q
        rintro W' H' st' k' ⟨a1, a2, vs, a3, a4⟩
        have there := (kD.toS (σ := []) (ρ := []) st1).there
        have kk : Keep W0 H0 W' H' := by
          refine ⟨k'.wex, fun b o h n => k'.old b o (kD.old b o h n) n fun z => ?_, fun b o h n => ?_, fun b o h e => ?_⟩
          · rw [z, hD] at h
            cases h
          · obtain ⟨o', ho'⟩ := there b o h
            exact k'.fr b o' ho' n
          · obtain ⟨o', ho'⟩ := there b o h
            exact k'.sa b o' ho' e
        refine q W' H' _ st' (k0.tr st0 kk) (RepO.pre (H0 := H) k0 (fun b e => st0.ds.at (k0.wex.2 b e)) ⟨Dl, rfl, hD, a1, a2, vs, a3, a4⟩)
    refine ⟨fun i m H1 => m = ds.length - i ∧ i ≤ ds.length ∧ ∃ W1 S1 acc, StOk X.K c W1 H1 S1 ∧ KeepD W0 (upd H0 Dl (.lst [])) Dl W1 H1 ∧ AccOk X.K c W1 H1 Dl acc ∧ OutL X.K c W0 (upd H0 Dl (.lst [])) Dl (fun H1 => Q (.ref Dl) H1) (lcL td test fe (ds.drop i) acc (wipeR ρ own) S1),
      ⟨ds.length, rfl, Nat.zero_le _, W0, S0, [], st1, (Keep.refl _ _).toD st1, ⟨fresh_back st0.sub hD, sa_ne st0 hD, [], upd_same, rfl⟩, q0⟩, ?_⟩
    rintro i m H1 ⟨rfl, hi, W1, S1, acc, st1, k1, ac1, q1⟩
    have ex1 : Ex W0.H0 H1 := k1.wex.1.trans st1.sub
    by_cases hlt : i < ds.length
    · refine .inr ⟨wk.go i H1 hlt ex1, fun H2 => ∃ W2 S2 acc2, StOk X.K c W2 H2 S2 ∧ KeepD W0 (upd H0 Dl (.lst [])) Dl W2 H2 ∧ AccOk X.K c W2 H2 Dl acc2 ∧ OutL X.K c W0 (upd H0 Dl (.lst [])) Dl (fun H1 => Q (.ref Dl) H1) (lcL td test fe (ds.drop (i + 1)) acc2 (wipeR ρ own) S2), fun H2 n2 => ⟨ds.length - (i + 1), by omega, rfl, hlt, n2⟩, fun x H2 y => ?_⟩
      have hd : ds[i]? = some ds[i] := List.getElem?_eq_getElem hlt
      rw [List.drop_eq_getElem_cons hlt] at q1
      unfold lcL bd at q1
      cases e1 : td ds[i] (wipeR ρ own) with
      | none => rw [e1] at q1; exact q1.elim
      | some ρ2 =>
        rw [e1] at q1
        obtain ⟨W2, st2, kk2, r2⟩ := (wk.yld i H1 x H2 _ hd ex1 y).lay st1 k1.wex
        have en1 : EnvOk X.K c W1 H1 (L2.wipe σ own) (wipeR ρ own) := (en0.ext kD).extD k1 noOwn
        refine ⟨W2, wipeR ρ own, S1, ds[i], ρ2, st2, en1.ext kk2, r2, e1, fun σ3 en3 o3 w3 => ⟨w3.trans (wipe_wipe own own fun _ z => z), ?_⟩⟩
        change OutL X.K c W0 (upd H0 Dl (.lst [])) Dl (fun H1 => Q (.ref Dl) H1) (bd (noEr (test ρ2)) _ S1) at q1
        refine thenC_T (O := OutL X.K c W0 (upd H0 Dl (.lst [])) Dl fun H1 => Q (.ref Dl) H1) st2 en3 (fun z => z) q1 fun k S3 W3 H3 st3 k3 q3 => ?_
        have ac3 := (ac1.ext kk2).ext k3
        have kk3 := (k1.trans (kk2.toD st2)).trans (k3.toD st3)
        cases k with
        | false => exact ⟨W3, S3, acc, st3, kk3, ac3, q3⟩
        | true =>
          refine thenC_M (O := OutL X.K c W0 (upd H0 Dl (.lst [])) Dl fun H1 => Q (.ref Dl) H1) st3 (en3.ext k3) (fun z => z) q3 fun d4 S4 W4 H4 v4 st4 k4 r4 q4 => ?_
          obtain ⟨a1, a2, vs, a3, a4⟩ := ac3.ext k4
          split at q4
          · rename_i hlen
            obtain ⟨s5, k5⟩ := upd_D (o := .lst (vs ++ [v4])) st4 a1 a2 ⟨_, a3⟩
            refine ⟨vs, a3, line_lt (by rw [RepL.length a4]; exact hlen), W4, S4, acc ++ [d4], s5, (kk3.trans (k4.toD st4)).trans k5, ⟨a1, a2, _, upd_same, repL_append a4 ⟨v4, [], rfl, r4, rfl⟩⟩, q4⟩
          · exact q4.elim
    · have ei : i = ds.length := by omega
      subst ei
      refine .inl ⟨wk.stop H1 ex1, ?_⟩
      rw [List.drop_length] at q1
      exact q1 W1 H1 st1 k1 ac1
theorem me_lc (hc : X.calm = true) (hN : X.N.Nodup) (hi : PI X tg iter (tI X.K c E it)) (ok : BlkOk X.N X.env.scope scope own)
    (hg : ∀ (s : Shared) (H : Hp) (C : Addr) (cl : List (Str × Addr)) (fp : List Addr), PG (X.blk s H scope (compEnvC scope cl C X.env) fp) tg (tGd X.K c (own.map (·.2)) td))
    (ht : ∀ (s : Shared) (H : Hp) (C : Addr) (cl : List (Str × Addr)) (fp : List Addr), PTs (X.blk s H scope (compEnvC scope cl C X.env) fp) ifs (tT X.K c EF test))
    (he : ∀ (s : Shared) (H : Hp) (C : Addr) (cl : List (Str × Addr)) (fp : List Addr), PE (X.blk s H scope (compEnvC scope cl C X.env) fp) elt (tM X.K c EF fe)) (hs : ∀ x, foldedSetIterable iter X.env x = pure x := by intro _; rfl) :
    PE X (.ListComp elt [⟨tg, iter, ifs, 0⟩] scope pos) (tO X.K c E (lcE it td test fe (own.map (·.2)))) := pe_imp (pe_lc hc hN hi ok hg ht he hs) lc_out
theorem ms_setLc {i : Nat} {y : Str} {py spos : Pos} (hc : X.calm = true) (hN : X.N.Nodup) (hy : X.N[i]? = some y) (hyl : X.env.scope.names.lookup y = some .local)
    (hsw : swapsWith (.ListComp elt [⟨tg, iter, ifs, 0⟩] scope pos) (some (.Name y py)) spos.line X.env = pure true) (hi : PI X tg iter (tI X.K c E it)) (ok : BlkOk X.N X.env.scope scope own)
    (hg : ∀ (s : Shared) (H : Hp) (C : Addr) (cl : List (Str × Addr)) (fp : List Addr), PG (X.blk s H scope (compEnvC scope cl C X.env) fp) tg (tGd X.K c (own.map (·.2)) td))
    (ht : ∀ (s : Shared) (H : Hp) (C : Addr) (cl : List (Str × Addr)) (fp : List Addr), PTs (X.blk s H scope (compEnvC scope cl C X.env) fp) ifs (tT X.K c EF test))
    (he : ∀ (s : Shared) (H : Hp) (C : Addr) (cl : List (Str × Addr)) (fp : List Addr), PE (X.blk s H scope (compEnvC scope cl C X.env) fp) elt (tM X.K c EF fe)) (hs : ∀ x, foldedSetIterable iter X.env x = pure x := by intro _; rfl) :
    PS X (.Assign [.Name y py] (.ListComp elt [⟨tg, iter, ifs, 0⟩] scope pos) spos) (tS X.K c E (asgS i (lcE it td test fe (own.map (·.2))))) :=
  ps_imp (L2.ps_setLc hc hN hy hyl hsw hi ok hg ht he hs) (asg_out fun σ H Q z => lc_out σ H Q (m_imp σ H Q z))
theorem ms_setLcO {i : Nat} {y : Str} {py spos : Pos} (hc : X.calm = true) (hN : X.N.Nodup) (hy : X.N[i]? = some y) (hyl : X.env.scope.names.lookup y = some .local)
    (hsw : swapsWith (.ListComp elt [⟨tg, iter, ifs, 0⟩] scope pos) (some (.Name y py)) spos.line X.env = pure true) (hi : PI X tg iter (tI X.K c E it)) (ok : BlkOk X.N X.env.scope scope own)
    (hg : ∀ (s : Shared) (H : Hp) (C : Addr) (cl : List (Str × Addr)) (fp : List Addr), PG (X.blk s H scope (compEnvC scope cl C X.env) fp) tg (tGd X.K c (own.map (·.2)) td))
    (ht : ∀ (s : Shared) (H : Hp) (C : Addr) (cl : List (Str × Addr)) (fp : List Addr), PTs (X.blk s H scope (compEnvC scope cl C X.env) fp) ifs (tT X.K c EF test))
    (he : ∀ (s : Shared) (H : Hp) (C : Addr) (cl : List (Str × Addr)) (fp : List Addr), PE (X.blk s H scope (compEnvC scope cl C X.env) fp) elt (tM X.K c EF fe)) (hs : ∀ x, foldedSetIterable iter X.env x = pure x := by intro _; rfl) :
    PS X (.Assign [.Name y py] (.ListComp elt [⟨tg, iter, ifs, 0⟩] scope pos) spos) (tS X.K c E (asgOS i (lcE it td test fe (own.map (·.2))))) :=
  ps_imp (L2.ps_setLc hc hN hy hyl hsw hi ok hg ht he hs) (asgO_out fun σ H Q z => lc_out σ H Q z)
theorem mts_one {e : Expr} {f : FB} (h : PT X e (tT X.K c E f)) : PTs X [e] (tT X.K c E f) := pts_one h
end
end Mini
namespace Mini
open PySem PySem.Spec PyProof.Rows L2 Evl

/-! ### defs -/
def fnD (np ns : Nat) (b : FS) : List D → M D := fun ds => if ds.length = np then body ns b ds else no
/-- the promise: as F says -/
def spM (K : PySem.W.Frag) (c : Cn) (F : List D → M D) : Sp := fun vs H Q E => ∃ W ds S, StOk K c W H S ∧ RepL K c W ds vs ∧ OutM K c W H E Q (F ds S)
/-- .. a fresh object -/
def spO (K : PySem.W.Frag) (c : Cn) (F : List D → M D) : Sp := fun vs H Q E => ∃ W ds S, StOk K c W H S ∧ RepL K c W ds vs ∧ OutO K c W H E Q (F ds S)
section
variable {K : PySem.W.Frag} {c : Cn} {W W1 W2 W' : Wd} {H H1 H2 H' : Hp} {S S1 S2 S' : DS} {σ σ1 σ2 σ' : L2.St} {ρ ρ1 ρ2 ρ' : En} {E : XK}
theorem enter_ok {N : List Str} {ds : List D} {vs : List V} (r : RepL K c W ds vs) (hl : vs.length ≤ N.length) : EnvOk K c W H (L2.start N vs) (enter N.length ds) := by
  have hlen := RepL.length r
  refine ⟨?_, fun i d h => ?_, fun i d h => ?_, fun i j d e a h1 h2 h3 h4 => ?_⟩
  · unfold L2.start enter
    simp only [List.length_append, List.length_map, List.length_replicate]
    omega
  · unfold enter at h
    by_cases hi : i < ds.length
    · rw [List.getElem?_append_left (by simpa using hi), List.getElem?_map] at h
      cases q : ds[i]? with
      | none => rw [q] at h; cases h
      | some e =>
        rw [q] at h
        cases h
        obtain ⟨v, h1, h2⟩ := repL_get r q
        refine ⟨v, ?_, h2⟩
        unfold L2.start
        rw [List.getElem?_append_left (by rw [List.length_map, hlen]; exact hi), List.getElem?_map, h1]
        rfl
    · rw [List.getElem?_append_right (by simpa using hi), List.getElem?_replicate] at h
      split at h <;> cases h
  · unfold enter at h
    by_cases hi : i < ds.length
    · rw [List.getElem?_append_left (by simpa using hi), List.getElem?_map] at h
      cases q : ds[i]? <;> rw [q] at h <;> cases h
    · rw [List.getElem?_append_right (by simpa using hi), List.getElem?_replicate] at h
      split at h <;> cases h
  · unfold enter at h1
    by_cases hi : i < ds.length
    · rw [List.getElem?_append_left (by simpa using hi), List.getElem?_map] at h1
      cases q : ds[i]? <;> rw [q] at h1 <;> cases h1
    · rw [List.getElem?_append_right (by simpa using hi), List.getElem?_replicate] at h1
      split at h1 <;> cases h1
theorem enter_owned {n : Nat} {ds : List D} {σ : L2.St} {b : Addr} : ¬ Owned σ (enter n ds) b := fun ⟨i, d, h, _⟩ => by
  unfold enter at h
  by_cases hi : i < ds.length
  · rw [List.getElem?_append_left (by simpa using hi), List.getElem?_map] at h
    cases q : ds[i]? <;> rw [q] at h <;> cases h
  · rw [List.getElem?_append_right (by simpa using hi), List.getElem?_replicate] at h
    split at h <;> cases h
theorem KeepS.toKeep (k : KeepS W H σ ρ W' H') (h : ∀ b, ¬ Owned σ ρ b) : Keep W H W' H' := ⟨k.wex, fun b o q n => k.old b o q n (h b), fun b o q => k.fr b o q (h b), k.sa⟩
theorem body_out {N : List Str} {g : FS} {ds : List D} {vs : List V} {Q : VK} (st : StOk K c W H S) (r : RepL K c W ds vs) (hl : vs.length ≤ N.length) (h : OutM K c W H E Q (body N.length g ds S)) :
    tS K c E g { nx := fun _ H2 => Q .non H2, rt := Q } (L2.start N vs) H := by
  refine ⟨W, enter N.length ds, S, st, enter_ok r hl, ?_⟩
  unfold body bd at h
  cases e : g (enter N.length ds) S with
  | no => rw [e] at h; exact h
  | er n p S' =>
    rw [e] at h
    exact fun W' H' dd v st' k' => h W' H' dd v st' (k'.toKeep fun b => enter_owned)
  | ok f S' =>
    rw [e] at h
    cases f with
    | nx ρ' => exact fun W' H' σ' st' en' k' => h W' H' .non st' (k'.toKeepS.toKeep fun b => enter_owned) rfl
    | rt d => exact fun W' H' v st' k' r' => h W' H' v st' (k'.toKeep fun b => enter_owned) r'
    | bk ρ' => exact h.elim
    | ct ρ' => exact h.elim
theorem spM_len {np ns : Nat} {b : FS} {vs : List V} {Q : VK} (h : spM K c (fnD np ns b) vs H Q E) : vs.length = np := by
  obtain ⟨W, ds, S, st, r, q⟩ := h
  unfold fnD at q
  split at q
  · rw [RepL.length r]; assumption
  · exact q.elim
theorem spO_len {np ns : Nat} {b : FS} {vs : List V} {Q : VK} (h : spO K c (fnD np ns b) vs H Q E) : vs.length = np := by
  obtain ⟨W, ds, S, st, r, q⟩ := h
  unfold fnD at q
  split at q
  · rw [RepL.length r]; assumption
  · exact q.elim
end
/-- a def of the text keeps its mirror's promise -/
theorem fn_mini {P : Program} {w : World} {K : PySem.W.Frag} {mg : Str → Option Value} {base : Heap} {c : Cn} {x qual : Str} {st : Stmt} {f : Addr} {fd : FuncData} {N ps : List Str} {k : Nat} {b : FS} (F : Fun K x qual st f fd) (S : FnScope N ps (defScope st))
    (hbody : ∀ (cdv : Value) (A : Around) (outer : List Env) (s : Shared) (H : Hp) (E : XK), Room k (A.deeper (envOfC qual (defScope st) s.heap.objs.size f cdv)) → A.guards = some [] →
      PSs (cxOf (L2.CX P w) P w K mg base N qual (defScope st) f cdv A outer s H E) (defBody st) (tS K c E b)) : FnG P w K mg base (L2.CX P w) (k + 1) f fd ps (spM K c (fnD ps.length N.length b)) := by
  obtain ⟨oc, od, kV, doc, pm, an, cdv, ct, osl, rfl, lk, hcd⟩ := F.ex
  have hpl : ps.length ≤ N.length := by
    have := congrArg List.length S.pre
    rw [List.length_take] at this
    omega
  refine fnG_of lk hcd S (fun vs H Q E h => spM_len h) fun A outer s H vs Q E hr hg h => ⟨_, hbody cdv A outer s H E hr hg, ?_⟩
  have hl := spM_len h
  obtain ⟨W, ds, S', st', r, q⟩ := h
  unfold fnD at q
  rw [if_pos (by rw [← RepL.length r]; exact hl)] at q
  exact body_out st' r (by omega) q
/-- the same for one with defaults -/
theorem fn_miniD {P : Program} {w : World} {K : PySem.W.Frag} {mg : Str → Option Value} {base : Heap} {c : Cn} {nm qual : Str} {params : Arguments} {bodyS : List Stmt} {sc : Scope} {dV kV doc pm cdv ct oc : Value} {an od : Option Addr} {osl : Array (Option Value)} {f : Addr} {N ps : List Str} {k : Nat} {b : FS}
    (lk : K.lookup f = some ⟨oc, od, .func (PySem.W.fnOf nm qual params bodyS sc dV kV doc pm an cdv ct), osl⟩) (hcd : PySem.W.codeIn K cdv qual = true) (S : FnScope N ps sc)
    (hbody : ∀ (A : Around) (outer : List Env) (s : Shared) (H : Hp) (E : XK), Room k (A.deeper (envOfC qual sc s.heap.objs.size f cdv)) → A.guards = some [] →
      PSs (cxOf (L2.CX P w) P w K mg base N qual sc f cdv A outer s H E) bodyS (tS K c E b)) : FnG P w K mg base (L2.CX P w) (k + 1) f (PySem.W.fnOf nm qual params bodyS sc dV kV doc pm an cdv ct) ps (spM K c (fnD ps.length N.length b)) := by
  have hpl : ps.length ≤ N.length := by
    have := congrArg List.length S.pre
    rw [List.length_take] at this
    omega
  refine fnG_of lk hcd S (fun vs H Q E h => spM_len h) fun A outer s H vs Q E hr hg h => ⟨_, hbody A outer s H E hr hg, ?_⟩
  have hl := spM_len h
  obtain ⟨W, ds, S', st', r, q⟩ := h
  unfold fnD at q
  rw [if_pos (by rw [← RepL.length r]; exact hl)] at q
  exact body_out st' r (by omega) q
section
variable {X : Cx} {c : Cn} {E : XK} {T : CXT} {k : Nat} {f : Addr} {fd : FuncData} {ps : List Str} {F : List D → M D} {x : Str} {p pos : Pos} {e a : Expr} {es : List Expr} {ga : FA} {fa fb : FE}
/-- f(e, ..) -/
theorem me_call (G : FnG X.prog X.w X.K X.mg X.base T k f fd ps (spM X.K c F)) (hr : Room k X.A) (gd : X.A.guards = some []) (hg : Gl X x) (hm : X.mg x = some (.ref f)) (hk : PySem.W.keepIn X.K (.ref f) = true) (hb : Binds X.K fd ps []) (hx : Passes T X E)
    (ha : PA X (e :: es) (tA X.K c E ga)) (hdb : (x == ("__debug__" : Str)) = false := by decide) (he : starEach (e :: es) X.env = (false, eval e X.env) :: starEach es X.env := by rfl) (hpl : (backTo pos (starEach es X.env)).any (·.1) = false := by rfl) :
    PE X (.Call (.Name x p) (e :: es) [] pos) (tM X.K c E (callE F ga)) :=
  pe_imp (pe_callG G hr gd hg hm hk hb .nil hx ha hdb he hpl) fun σ H Q h => by
    obtain ⟨W, ρ, S, st, en, q⟩ := tM_un h
    refine then_A (O := OutM X.K c W H E Q) st en (fun _ _ _ z => z) (fun z => z) q fun ds S1 W1 H1 vs st1 k1 r1 q1 => ?_
    rw [List.append_nil]
    exact ⟨W1, ds, S1, st1, r1, OutM.pre (Q' := Q) q1 k1 st1⟩
def appA (ga : FA) (ds : List D) : FA := fun ρ => bd (ga ρ) fun xs => rt (xs ++ ds)
/-- .. with a default text -/
theorem me_callS {y : Str} {t : Tok} (hy : SOk y) (G : FnG X.prog X.w X.K X.mg X.base T k f fd ps (spM X.K c F)) (hr : Room k X.A) (gd : X.A.guards = some []) (hg : Gl X x) (hm : X.mg x = some (.ref f)) (hk : PySem.W.keepIn X.K (.ref f) = true) (hb : Binds X.K fd ps [.str y t]) (hx : Passes T X E)
    (ha : PA X (e :: es) (tA X.K c E ga)) (hdb : (x == ("__debug__" : Str)) = false := by decide) (he : starEach (e :: es) X.env = (false, eval e X.env) :: starEach es X.env := by rfl) (hpl : (backTo pos (starEach es X.env)).any (·.1) = false := by rfl) :
    PE X (.Call (.Name x p) (e :: es) [] pos) (tM X.K c E (callE F (appA ga [.str y]))) :=
  pe_imp (pe_callG (dvs := [.str y]) G hr gd hg hm hk hb (.cons ⟨t, rfl⟩ .nil) hx ha hdb he hpl) fun σ H Q h => by
    obtain ⟨W, ρ, S, st, en, q⟩ := tM_un h
    have q' : OutM X.K c W H E Q (bd (ga ρ) (fun xs => F (xs ++ [.str y])) S) := by
      have e1 : callE F (appA ga [.str y]) ρ S = bd (ga ρ) (fun xs => F (xs ++ [.str y])) S := by
        unfold callE appA bd
        cases ga ρ S <;> rfl
      rw [← e1]
      exact q
    refine then_A (O := OutM X.K c W H E Q) st en (fun _ _ _ z => z) (fun z => z) q' fun ds S1 W1 H1 vs st1 k1 r1 q1 => ?_
    exact ⟨W1, ds ++ [.str y], S1, st1, repL_append (es := [.str y]) (us := [.str y]) r1 ⟨_, _, rfl, (⟨rfl, hy⟩ : Rep X.K c W1 (.str y) (.str y)), rfl⟩, OutM.pre (Q' := Q) q1 k1 st1⟩
/-- what is not come to -/
def neverS : FS := fun _ => no
theorem ms_never {st : Stmt} : PS X st (tS X.K c E neverS) := ps_imp ps_never fun D σ H q => by
  obtain ⟨W, ρ, S, st, en, q⟩ := q
  exact q.elim
/-! ### our own lists -/
section
variable {K : PySem.W.Frag} {W W1 W2 W' : Wd} {H H1 H2 H' : Hp} {S S1 S2 S' : DS} {σ σ1 σ2 σ' : L2.St} {ρ ρ1 ρ2 ρ' : En}
/-- the object of slot i is written -/
theorem own_write {i : Nat} {d d' : D} {ad : Addr} {o : HO} (st : StOk K c W H S) (en : EnvOk K c W H σ ρ) (hi : ρ[i]? = some (.ow d)) (ha : σ[i]? = some (some (.ref ad))) (ho : Own K c W (upd H ad o) ad d') :
    StOk K c W (upd H ad o) S ∧ EnvOk K c W (upd H ad o) σ (setO i d' ρ) ∧ Step W H σ ρ W (upd H ad o) σ (setO i d' ρ) := by
  obtain ⟨a2, q1, h0, hs, q4⟩ := en.ow i d hi
  rw [ha] at q1
  cases q1
  obtain ⟨s5, k5⟩ := upd_D (o := o) st h0 hs q4.some
  have hil : i < ρ.length := (List.getElem?_eq_some_iff.mp hi).1
  have eσ : σ.set i (some (.ref ad)) = σ := by
    obtain ⟨hl, hv⟩ := List.getElem?_eq_some_iff.mp ha
    rw [← hv]
    exact List.set_getElem_self hl
  -- the others
  have get : ∀ {j : Nat} {s : Slot}, (setO i d' ρ)[j]? = some s → i ≠ j → ρ[j]? = some s := fun {j s} h n => by
    unfold setO at h
    rwa [List.getElem?_set_ne n] at h
  have self : ∀ {s : Slot}, (setO i d' ρ)[i]? = some s → s = .ow d' := fun {s} h => by
    unfold setO at h
    rw [List.getElem?_set_self hil] at h
    exact (Option.some.inj h).symm
  refine ⟨s5, ⟨by unfold setO; rw [List.length_set]; exact en.len, fun j e h => ?_, fun j e h => ?_, fun j k d1 d2 b h1 h2 h3 h4 => ?_⟩, ⟨⟨k5.wex, fun b u q n no => k5.old b u q n fun z => no ⟨i, d, hi, by rw [ha, z]⟩, fun b u q _ => k5.fr b u q, k5.sa, k5.there⟩, fun b z => ?_⟩⟩
  · by_cases hj : i = j
    · subst hj
      cases self h
    · obtain ⟨v, z1, z2⟩ := en.vl j e (get h hj)
      exact ⟨v, z1, z2⟩
  · by_cases hj : i = j
    · subst hj
      cases self h
      exact ⟨ad, ha, h0, hs, ho⟩
    · obtain ⟨b, z1, z2, z3, z4⟩ := en.ow j e (get h hj)
      have nb : b ≠ ad := fun z => hj (en.sep i j d e ad hi (get h hj) ha (by rw [z1, z]))
      exact ⟨b, z1, z2, z3, z4.ext (WEx.refl W) fun u q => by rw [upd_ne nb]; exact q⟩
  · have own' : ∀ {m : Nat} {x : D}, (setO i d' ρ)[m]? = some (.ow x) → ∃ y, ρ[m]? = some (.ow y) := fun {m x} h => by
      by_cases hm : i = m
      · subst hm; exact ⟨d, hi⟩
      · exact ⟨x, get h hm⟩
    obtain ⟨y1, z1⟩ := own' h1
    obtain ⟨y2, z2⟩ := own' h2
    exact en.sep j k y1 y2 b z1 z2 h3 h4
  · rw [← eσ] at z
    rcases owned_setO z with z | z
    · exact .inr ⟨i, d, hi, by rw [ha, z]⟩
    · exact .inr z
end
def ownL (ρ : En) (i : Nat) : Option (List D) := match ρ[i]? with
  | some (.ow (.lst ds)) => some ds
  | _ => none
theorem ownL_some {ρ : En} {i : Nat} {ds : List D} (h : ownL ρ i = some ds) : ρ[i]? = some (.ow (.lst ds)) := by
  unfold ownL at h
  split at h
  · cases h; assumption
  · cases h
/-- x.append(e) -/
def appS (i : Nat) (f : FE) : FS := fun ρ => bd (lift (ownL ρ i)) fun ds => bd (f ρ) fun d => if ds.length < 16777216 then rt (.nx (setO i (.lst (ds ++ [d])) ρ)) else no
theorem ms_app {i : Nat} {y : Str} {py apos : Pos} (hN : X.N[i]? = some y) (hv : Vis X.env.scope y) (ha : PE X a (tM X.K c E fa))
    (pe : ∀ te : TE, PE X a te → PE X (.Call (.Attribute (.Name y py) "append" apos) [a] [] p) (tBM X.K "list" rAppend (tVar i) (tCons te tNil)))
    (hs : swapsWith (.Call (.Attribute (.Name y py) "append" apos) [a] [] p) none pos.line X.env = pure false := by rfl) :
    PS X (.Expr (.Call (.Attribute (.Name y py) "append" apos) [a] [] p) pos) (tS X.K c E (appS i fa)) := ps_imp (ps_expr (pe _ ha) hs) fun D σ H q => by
  obtain ⟨W, ρ, S, st, en, q⟩ := q
  unfold appS bd at q
  cases e1 : ownL ρ i with
  | none => rw [e1] at q; exact q.elim
  | some ds =>
    rw [e1] at q
    have hi := ownL_some e1
    obtain ⟨ad, h1, h2, h3, vs, h4, h5⟩ := en.ow i _ hi
    refine ⟨_, h1, .inl ⟨rfl, _, .inl (.inl h4)⟩, ?_⟩
    refine thenS_M st en q fun d S' W' H' v st' en' k r q' => ?_
    obtain ⟨ad2, h1', h2', h3', vs', h4', h5'⟩ := en'.ow i _ hi
    rw [h1] at h1'
    cases h1'
    split at q'
    · rename_i hlen
      obtain ⟨s5, e5, p5⟩ := own_write (o := .lst (vs' ++ [v])) (d' := .lst (ds ++ [d])) st' en' hi h1 ⟨_, upd_same, repL_append h5' ⟨v, [], rfl, r, rfl⟩⟩
      exact ⟨ad, vs', v, rfl, rfl, h4', line_lt (by rw [RepL.length h5']; exact hlen), q' W' _ σ s5 e5 p5⟩
    · exact q'.elim
end
end Mini
namespace Mini
open PySem PySem.Spec PyProof.Rows L2 Evl

/-! ### the end: a law's def keeps its mirror's promise, and the mirror gives True at every script -/
def atScript (a : Addr) (vs : List Value) (ns : List Int) : Hp := fun b => if b = a then some (.frz { cls := .type "list", data := .seq vs.toArray } (.lst (ns.map V.int))) else none
section
variable {P : Program} {w : World} {K : PySem.W.Frag} {mg mb : Str → Option Value} {c : Cn} {k : Nat} {fa a : Addr} {fd : FuncData} {x : Str} {F : List D → M D} {s₁ : Shared} {vs : List Value} {ns : List Int}
/-- from an abstract heap that tracks the script at most -/
theorem run_at {H : Hp} (KX : K.In s₁.heap) (hns : s₁.heap.Ns mainGlobals mg) (hb : s₁.heap.Ns builtinsNs mb) (hbb : ∀ x : Str, x ≠ "__name__" → mb x = bootBuiltins x) (hlim : s₁.heap.NoLimit) (hg : s₁.gens = #[])
    (hr : Room k callerA) (G : ∀ base : Heap, K.In base → base.Ns mainGlobals mg → FnG P w K mg base (L2.CX P w) k fa fd [x] (spM K c F)) (bind : ∀ (s : Shared) (u : Value), BindsTo s fd ⟨[u], []⟩ [(x, u)])
    (val : ∃ S', F [.scr ns] none = .ok (.bl true) S') (ok : HOk P w H s₁.heap) (sq : SqL K H a (ns.map V.int)) (only : ∀ b u, H b = some u → ∃ o xs, u = .frz o (.lst xs) ∧ s₁.heap.get? b = some { cls := .type "list", data := .seq vs.toArray } ∧ K.lookup b = none) :
    codeAny (model P w) callerA (.call (.ref fa) ⟨[.ref a], []⟩) (fun r s' => r = .ok (.ret (.bool true)) ∧ OldK s₁.heap s'.heap ∧ s'.os = s₁.os ∧ AllBare s'.gens) s₁ := by
  have into : ∀ {b : Addr} {o : Obj}, s₁.heap.get? b = some o → H b = none → (hidT s₁.heap H).get? b = some o := fun q n => hidT_get q n
  have dictFree : ∀ {b : Addr} {o : Obj} {es : Array DictEntry} {ep : Nat}, s₁.heap.get? b = some o → o.data = .dict es ep → H b = none := by
    intro b o es ep q d
    cases z : H b with
    | none => rfl
    | some u =>
      obtain ⟨_, _, _, q2, _⟩ := only b u z
      rw [q] at q2
      cases q2
      cases d
  have lift : ∀ {b : Addr} {m : Str → Option Value}, s₁.heap.Ns b m → (hidT s₁.heap H).Ns b m := by
    rintro b m ⟨o, es, ep, q, d, r⟩
    exact ⟨o, es, ep, into q (dictFree q d), d, r⟩
  have kin : K.In (hidT s₁.heap H) := fun b o q => by
    refine into (KX b o q) ?_
    cases z : H b with
    | none => rfl
    | some u =>
      obtain ⟨_, _, _, _, q2⟩ := only b u z
      rw [q] at q2
      cases q2
  have e0 : Env0 P w K mg (hidT s₁.heap H) callerA [] s₁ H := by
    refine { frames := rfl, mod := { kin := kin, glob := lift hns, blt := ⟨mb, lift hb, hbb⟩, nolimit := ?_ }, bs := fun b o q => of_hidT q, bsz := Nat.le_of_eq (hidT_size _ _), funs := trivial, frf := ?_, hok := ok, bare := .of_eq hg }
    · obtain ⟨mc, q1, q2⟩ := hlim
      exact ⟨mc, lift q1, q2⟩
    · intro b z
      exact absurd z (by simp [frs])
  obtain ⟨S', hF⟩ := val
  have want : spM K c F [.ref a] H (fun v _ => v = .bl true) EF := by
    refine ⟨⟨H, none⟩, [.scr ns], none, ⟨Ex.refl H, rfl⟩, ⟨_, [], rfl, ⟨a, rfl, sq⟩, rfl⟩, ?_⟩
    rw [hF]
    exact fun W' H' v _ _ r => r
  refine codeAny_mono ((G _ kin (lift hns)).run callerA [] s₁ H ⟨[.ref a], []⟩ [.ref a] [.ref a] _ _ hr rfl e0 (bind s₁ (.ref a)) (.cons rfl .nil) want) fun r s' out => ?_
  match r, out with
  | .error e, out =>
    obtain ⟨_, _, _, _, _, _, _, _, _, _, _, _, z⟩ := out
    exact z.elim
  | .ok (.ret u), out =>
    obtain ⟨v, H', os, bare, un, ok', rv, q⟩ := out
    subst q
    have eu : u = Value.bool true := rv
    subst eu
    refine ⟨rfl, OldK.of_keep fun b o q => ?_, os, bare⟩
    cases z : H b with
    | none => exact un.keep b o q z (by simp [frs]) (by simp)
    | some t =>
      obtain ⟨ob, xs, rfl, _⟩ := only b t z
      have h1 := ok b _ z
      have h2 := ok' b _ (un.frzs b ob _ z)
      have e1 : o = ob := by
        have := h1.1
        rw [q] at this
        exact Option.some.inj this
      rw [e1]
      exact h2.1
theorem run_law (KX : K.In s₁.heap) (hns : s₁.heap.Ns mainGlobals mg) (hb : s₁.heap.Ns builtinsNs mb) (hbb : ∀ x : Str, x ≠ "__name__" → mb x = bootBuiltins x) (hlim : s₁.heap.NoLimit) (hg : s₁.gens = #[])
    (ha : s₁.heap.get? a = some { cls := .type "list", data := .seq vs.toArray }) (hi : IntsAre vs ns) (hl : ns.length ≤ sizeLine) (hr : Room k callerA)
    (G : ∀ base : Heap, K.In base → base.Ns mainGlobals mg → FnG P w K mg base (L2.CX P w) k fa fd [x] (spM K c F)) (bind : ∀ (s : Shared) (u : Value), BindsTo s fd ⟨[u], []⟩ [(x, u)])
    (val : ∃ S', F [.scr ns] none = .ok (.bl true) S') :
    codeAny (model P w) callerA (.call (.ref fa) ⟨[.ref a], []⟩) (fun r s' => r = .ok (.ret (.bool true)) ∧ OldK s₁.heap s'.heap ∧ s'.os = s₁.os ∧ AllBare s'.gens) s₁ := by
  have rv := vals_ints hi
  have len := hi.length
  cases look : K.lookup a with
  | some o =>
    have q := KX a o look
    rw [ha] at q
    cases q
    refine run_at (vs := vs) (H := fun _ => none) KX hns hb hbb hlim hg hr G bind val (fun b u z => nomatch z) (.inr ⟨_, vs.toArray, _, look, rfl, rfl, rfl, ?_, ?_⟩) fun b u z => nomatch z
    · rw [List.size_toArray, len]
      exact hl
    · simpa using rv
  | none =>
    refine run_at (H := atScript a vs ns) (vs := vs) KX hns hb hbb hlim hg hr G bind val (fun b u z => ?_) (.inl (.inr ⟨_, if_pos rfl⟩)) fun b u z => ?_
    · unfold atScript at z
      split at z
      · rename_i eb
        subst eb
        cases z
        exact ⟨ha, by rw [List.length_map]; exact hl, vs, _, rv, ha⟩
      · cases z
    · unfold atScript at z
      split at z
      · rename_i eb
        subst eb
        cases z
        exact ⟨_, _, rfl, ha, look⟩
      · cases z
end
/-- what is left of the row behind its head -/
theorem mini_walk {l : PySem.W.OpenLaw} {n k : Nat} {q : Program} {loose : List Str} {XP : (Str → Option Value) → Heap → Prop} {YP : World → Heap → Prop} {d : DefRec} {K : Params → PySem.W.Frag} {x : Str} {F : List D → M D}
    (hn : l.most = some n) (hn2 : n ≤ sizeLine) (hdf : d.params.defaults = []) (hr : Room k callerA) (hY : ∀ (w : World) (h : Heap), YP w h → (K w.params).In h)
    (G : ∀ (w : World) (mg : Str → Option Value) (fa : Addr) (h : Heap), (K w.params).In h → h.Ns mainGlobals mg → mg d.name = some (.ref fa) →
      ∃ (c : Cn) (fd : FuncData), (∀ (s : Shared) (u : Value), BindsTo s fd ⟨[u], []⟩ [(x, u)]) ∧ ∀ base : Heap, (K w.params).In base → base.Ns mainGlobals mg → FnG l.prog w (K w.params) mg base (L2.CX l.prog w) k fa fd [x] (spM (K w.params) c F))
    (val : ∀ ns : List Int, ns.length ≤ n → ∃ S', F [.scr ns] none = .ok (.bl true) S') :
    PySem.W.WalkO q loose XP YP l.row.toRowW d [] (fun f vs => PySem.call f vs) := by
  refine Att.attach_call hn hdf fun w s₀ s₁ mg mb fa o pm cd doc a vs ns Gr Y ho hd hcd hmg hobj hints hlen hg => ?_
  have KX := hY w _ Y
  obtain ⟨c, fd, hb, hG⟩ := G w mg fa _ KX Gr.T.g hmg
  exact run_law KX Gr.T.g Gr.T.b Gr.T.builtins Gr.T.nolimit hg hobj hints (Nat.le_trans hlen hn2) hr hG hb (val ns hlen)
end Mini
namespace Mini
open PySem PySem.Spec PyProof.Rows L2 Evl

/-! ### the rules with their sides shown by the kernel -/
theorem ps_body {P : Program} {w : World} {K : PySem.W.Frag} {mg : Str → Option Value} {base : Heap} {N : List Str} {qual : Str} {sc : Scope} {f : Addr} {cd : Value} {A : Around} {outer : List Env} {s : Shared} {H : Hp} {E : XK} :
    Passes (L2.CX P w) (cxOf (L2.CX P w) P w K mg base N qual sc f cd A outer s H E) E := passes_call (takes_of rfl rfl rfl rfl) fun _ _ _ _ h => h
theorem ps_own {P : Program} {w : World} {K : PySem.W.Frag} {mg : Str → Option Value} {base : Heap} {N : List Str} {qual : Str} {sc : Scope} {f : Addr} {cd : Value} {A : Around} {outer : List Env} {s : Shared} {H : Hp} {E : XK} :
    PassesOwn (model P w) (cxOf (L2.CX P w) P w K mg base N qual sc f cd A outer s H E).A (cxOf (L2.CX P w) P w K mg base N qual sc f cd A outer s H E).env (cxOf (L2.CX P w) P w K mg base N qual sc f cd A outer s H E).xe := passes_of rfl
section
variable {X : Cx} {c : Cn} {E : XK} {a b e tg : Expr} {es : List Expr} {fa fb : FE} {ga : FA} {x y : Str} {p pos : Pos} {i : Nat}
theorem me_varL (hN : X.N[i]? = some x := by kernel_rfl) (hv : X.env.scope.names.lookup x = some .local := by kernel_rfl) (hd : (x == ("__debug__" : Str)) = false := by kernel_rfl) (hcd : (x == ("__classdict__" : Str)) = false := by kernel_rfl) : PE X (.Name x pos) (tM X.K c E (var i)) := me_var hN (.inl hv) hd hcd
theorem me_varC (hN : X.N[i]? = some x := by kernel_rfl) (hv : X.env.scope.names.lookup x = some .cell := by kernel_rfl) (hd : (x == ("__debug__" : Str)) = false := by kernel_rfl) (hcd : (x == ("__classdict__" : Str)) = false := by kernel_rfl) : PE X (.Name x pos) (tM X.K c E (var i)) := me_var hN (.inr (.inl hv)) hd hcd
theorem me_varF (hN : X.N[i]? = some x := by kernel_rfl) (hv : X.env.scope.names.lookup x = some .free := by kernel_rfl) (hd : (x == ("__debug__" : Str)) = false := by kernel_rfl) (hcd : (x == ("__classdict__" : Str)) = false := by kernel_rfl) : PE X (.Name x pos) (tM X.K c E (var i)) := me_var hN (.inr (.inr hv)) hd hcd
theorem me_varBL (hN : X.N[i]? = some x := by kernel_rfl) (hv : X.env.scope.names.lookup x = some .local := by kernel_rfl) (hd : (x == ("__debug__" : Str)) = false := by kernel_rfl) (hcd : (x == ("__classdict__" : Str)) = false := by kernel_rfl) : PE X (.Name x pos) (tB X.K c E (varB i)) := me_varB hN (.inl hv) hd hcd
theorem me_varBC (hN : X.N[i]? = some x := by kernel_rfl) (hv : X.env.scope.names.lookup x = some .cell := by kernel_rfl) (hd : (x == ("__debug__" : Str)) = false := by kernel_rfl) (hcd : (x == ("__classdict__" : Str)) = false := by kernel_rfl) : PE X (.Name x pos) (tB X.K c E (varB i)) := me_varB hN (.inr (.inl hv)) hd hcd
theorem me_varBF (hN : X.N[i]? = some x := by kernel_rfl) (hv : X.env.scope.names.lookup x = some .free := by kernel_rfl) (hd : (x == ("__debug__" : Str)) = false := by kernel_rfl) (hcd : (x == ("__classdict__" : Str)) = false := by kernel_rfl) : PE X (.Name x pos) (tB X.K c E (varB i)) := me_varB hN (.inr (.inr hv)) hd hcd
theorem gl_of (h : X.env.kindOf x = some .globalImplicit) : Gl X x := h
theorem me_gint' {n : Int} (hm : ∃ t, X.mg x = some (.int n t)) (hg : X.env.kindOf x = some .globalImplicit := by kernel_rfl) (hd : (x == ("__debug__" : Str)) = false := by kernel_rfl) : PE X (.Name x pos) (tM X.K c E (cst (.int n))) := by
  obtain ⟨t, hm⟩ := hm
  exact me_gint hg hm ⟨t, rfl⟩ hd
theorem me_gstr' {n : Str} (hm : ∃ t, X.mg x = some (.str n t)) (h : SOk n := by decide +kernel) (hg : X.env.kindOf x = some .globalImplicit := by kernel_rfl) (hd : (x == ("__debug__" : Str)) = false := by kernel_rfl) : PE X (.Name x pos) (tM X.K c E (cst (.str n))) := by
  obtain ⟨t, hm⟩ := hm
  exact me_gstr hg hm ⟨t, rfl⟩ h hd
theorem me_gfn' {n : Nat} {f : Addr} (hm : X.mg x = some (.ref f)) (r : c.fa n = some f) (hg : X.env.kindOf x = some .globalImplicit := by kernel_rfl) (hd : (x == ("__debug__" : Str)) = false := by kernel_rfl) : PE X (.Name x pos) (tM X.K c E (fnE n)) := me_gfn hg hm r hd
theorem ma_cons' {r : FA} (ha : PE X e (tM X.K c E fa)) (hr : PA X es (tA X.K c E r)) (hs : starEach (e :: es) X.env = (false, eval e X.env) :: starEach es X.env := by kernel_rfl) : PA X (e :: es) (tA X.K c E (consA fa r)) := ma_cons ha hr hs
theorem me_un {op : UnaryOp} {f : D → Option D} {r : V → Hp → VK → Prop} (ho : UnR X (unaryOp op) r) (hr : ∀ {W : Wd} {H : Hp} {S : DS} {d d' : D} {v : V} (Q : VK), StOk X.K c W H S → RepB X.K c W H d v → f d = some d' → (∀ W' H' x, StOk X.K c W' H' S → Keep W H W' H' → Rep X.K c W' d' x → Q x H') → r v H Q)
    (ha : PE X a (tB X.K c E fa)) : PE X (.UnaryOp op a pos) (tM X.K c E (op1 f fa)) := pe_imp (pe_un ho ha) fun σ H Q h => by
  obtain ⟨W, ρ, S, st, en, q⟩ := tM_un h
  refine then_B (O := OutM X.K c W H E Q) st en (fun _ _ _ z => z) (fun z => z) q fun d S1 W1 H1 v st1 k1 r1 q1 => ?_
  obtain ⟨d', e', q3⟩ := lift_ok (β := D) (O := OutM X.K c W H E Q) (fun z => z) q1
  exact hr Q st1 r1 e' fun W' H' x st' k' rx => q3 W' H' x st' (k1.tr st1 k') rx
def dNeg : D → Option D
  | .int i => some (.int (-i))
  | _ => none
theorem un_negM {W : Wd} {H : Hp} {S : DS} {d d' : D} {v : V} (Q : VK) (st : StOk X.K c W H S) (a : RepB X.K c W H d v) (q : dNeg d = some d') (k : ∀ W' H' x, StOk X.K c W' H' S → Keep W H W' H' → Rep X.K c W' d' x → Q x H') : (rU fun i => .int (-i)) v H Q := by
  cases d <;> first | (cases q; done) | skip
  cases q
  exact ⟨_, a.int, k W H _ st (Keep.refl W H) rfl⟩
theorem me_bl1' {id : String} {r : R1} {f : D → Option D} (hc : CallR X (.builtin id) r) (hr : UnM X.K c r f) (hm : X.mg x = none) (ha : PE X a (tB X.K c E fa)) (hv : bootBuiltins x = some (.builtin id) := by kernel_rfl) (hg : X.env.kindOf x = some .globalImplicit := by kernel_rfl) (hn : x ≠ "__name__" := by decide +kernel)
    (hdb : (x == ("__debug__" : Str)) = false := by kernel_rfl) (he : starEach [a] X.env = (false, eval a X.env) :: starEach [] X.env := by kernel_rfl) (hpl : (backTo pos (starEach [] X.env)).any (·.1) = false := by kernel_rfl) : PE X (.Call (.Name x p) [a] [] pos) (tM X.K c E (op1 f fa)) := me_bl1 hc hr hg hm hv ha hn hdb he hpl
theorem me_ty1' {T : String} {r : R1} {f : D → Option D} (hc : CallR X (.type T) r) (hr : UnM X.K c r f) (hm : X.mg x = none) (ha : PE X a (tB X.K c E fa)) (hv : bootBuiltins x = some (.type T) := by kernel_rfl) (hg : X.env.kindOf x = some .globalImplicit := by kernel_rfl) (hn : x ≠ "__name__" := by decide +kernel)
    (hdb : (x == ("__debug__" : Str)) = false := by kernel_rfl) (he : starEach [a] X.env = (false, eval a X.env) :: starEach [] X.env := by kernel_rfl) (hpl : (backTo pos (starEach [] X.env)).any (·.1) = false := by kernel_rfl) : PE X (.Call (.Name x p) [a] [] pos) (tM X.K c E (op1 f fa)) := me_ty1 hc hr hg hm hv ha hn hdb he hpl
theorem me_bl1O' {id : String} {r : R1} {f : D → Option D} (hc : CallR X (.builtin id) r) (hr : UnO X.K c r f) (hm : X.mg x = none) (ha : PE X a (tB X.K c E fa)) (hv : bootBuiltins x = some (.builtin id) := by kernel_rfl) (hg : X.env.kindOf x = some .globalImplicit := by kernel_rfl) (hn : x ≠ "__name__" := by decide +kernel)
    (hdb : (x == ("__debug__" : Str)) = false := by kernel_rfl) (he : starEach [a] X.env = (false, eval a X.env) :: starEach [] X.env := by kernel_rfl) (hpl : (backTo pos (starEach [] X.env)).any (·.1) = false := by kernel_rfl) : PE X (.Call (.Name x p) [a] [] pos) (tO X.K c E (op1 f fa)) := me_bl1O hc hr hg hm hv ha hn hdb he hpl
theorem me_ty1O' {T : String} {r : R1} {f : D → Option D} (hc : CallR X (.type T) r) (hr : UnO X.K c r f) (hm : X.mg x = none) (ha : PE X a (tB X.K c E fa)) (hv : bootBuiltins x = some (.type T) := by kernel_rfl) (hg : X.env.kindOf x = some .globalImplicit := by kernel_rfl) (hn : x ≠ "__name__" := by decide +kernel)
    (hdb : (x == ("__debug__" : Str)) = false := by kernel_rfl) (he : starEach [a] X.env = (false, eval a X.env) :: starEach [] X.env := by kernel_rfl) (hpl : (backTo pos (starEach [] X.env)).any (·.1) = false := by kernel_rfl) : PE X (.Call (.Name x p) [a] [] pos) (tO X.K c E (op1 f fa)) := me_ty1O hc hr hg hm hv ha hn hdb he hpl
theorem me_bl2' {id : String} {r : R1} {g : D → D → Option D} (hc : CallR X (.builtin id) r) (hr : OpM X.K c (r2of r) g) (hm : X.mg x = none) (ha : PE X a (tB X.K c E fa)) (hb : PE X b (tB X.K c E fb)) (hv : bootBuiltins x = some (.builtin id) := by kernel_rfl) (hg : X.env.kindOf x = some .globalImplicit := by kernel_rfl) (hn : x ≠ "__name__" := by decide +kernel)
    (hdb : (x == ("__debug__" : Str)) = false := by kernel_rfl) (he : starEach [a, b] X.env = (false, eval a X.env) :: starEach [b] X.env := by kernel_rfl) (he2 : starEach [b] X.env = (false, eval b X.env) :: starEach [] X.env := by kernel_rfl) (hpl : (backTo pos (starEach [b] X.env)).any (·.1) = false := by kernel_rfl) : PE X (.Call (.Name x p) [a, b] [] pos) (tM X.K c E (op2 g fa fb)) := me_bl2 hc hr hg hm hv ha hb hn hdb he he2 hpl
theorem me_isi' {T : String} {p2 : Pos} (hm : X.mg "isinstance" = none) (hm2 : X.mg y = none) (ha : PE X a (tB X.K c E fa)) (hv2 : bootBuiltins y = some (.type T) := by kernel_rfl) (hg : X.env.kindOf "isinstance" = some .globalImplicit := by kernel_rfl) (hg2 : X.env.kindOf y = some .globalImplicit := by kernel_rfl) (hn2 : y ≠ "__name__" := by decide +kernel)
    (hdb2 : (y == ("__debug__" : Str)) = false := by kernel_rfl) (he : starEach [a, .Name y p2] X.env = (false, eval a X.env) :: starEach [.Name y p2] X.env := by kernel_rfl) (he2 : starEach [.Name y p2] X.env = (false, eval (.Name y p2) X.env) :: starEach [] X.env := by kernel_rfl) (hpl : (backTo pos (starEach [.Name y p2] X.env)).any (·.1) = false := by kernel_rfl) :
    PE X (.Call (.Name "isinstance" p) [a, .Name y p2] [] pos) (tM X.K c E (op1 (isiD T) fa)) := me_isi hg hm hg2 hm2 hv2 ha hn2 hdb2 he he2 hpl
theorem me_call' {T : CXT} {k : Nat} {f : Addr} {fd : FuncData} {ps : List Str} {F : List D → M D} (G : FnG X.prog X.w X.K X.mg X.base T k f fd ps (spM X.K c F)) (hr : Room k X.A) (gd : X.A.guards = some []) (hm : X.mg x = some (.ref f)) (hk : PySem.W.keepIn X.K (.ref f) = true) (hb : Binds X.K fd ps []) (hx : Passes T X E)
    (ha : PA X (e :: es) (tA X.K c E ga)) (hg : X.env.kindOf x = some .globalImplicit := by kernel_rfl) (hdb : (x == ("__debug__" : Str)) = false := by kernel_rfl) (he : starEach (e :: es) X.env = (false, eval e X.env) :: starEach es X.env := by kernel_rfl) (hpl : (backTo pos (starEach es X.env)).any (·.1) = false := by kernel_rfl) :
    PE X (.Call (.Name x p) (e :: es) [] pos) (tM X.K c E (callE F ga)) := me_call G hr gd hg hm hk hb hx ha hdb he hpl
theorem me_callS' {T : CXT} {k : Nat} {f : Addr} {fd : FuncData} {ps : List Str} {F : List D → M D} {z : Str} (hz : SOk z) (G : FnG X.prog X.w X.K X.mg X.base T k f fd ps (spM X.K c F)) (hr : Room k X.A) (gd : X.A.guards = some []) (hm : X.mg x = some (.ref f)) (hk : PySem.W.keepIn X.K (.ref f) = true) (hb : ∃ t, Binds X.K fd ps [.str z t]) (hx : Passes T X E)
    (ha : PA X (e :: es) (tA X.K c E ga)) (hg : X.env.kindOf x = some .globalImplicit := by kernel_rfl) (hdb : (x == ("__debug__" : Str)) = false := by kernel_rfl) (he : starEach (e :: es) X.env = (false, eval e X.env) :: starEach es X.env := by kernel_rfl) (hpl : (backTo pos (starEach es X.env)).any (·.1) = false := by kernel_rfl) :
    PE X (.Call (.Name x p) (e :: es) [] pos) (tM X.K c E (callE F (appA ga [.str z]))) := by
  obtain ⟨t, hb⟩ := hb
  exact me_callS hz G hr gd hg hm hk hb hx ha hdb he hpl
theorem mt_tru' (ha : PE X e (tB X.K c E fa)) (he : ∀ whole, isTrue e X.env whole = (do let v ← whole; standAt e.pos; holding [v] (truthy v)) := by intro _; kernel_rfl) : PT X e (tT X.K c E (truB fa)) := mt_tru ha he
theorem mi_rng1' (hm : X.mg "range" = none) (ha : PE X a (tM X.K c E fa)) (hg : X.env.kindOf "range" = some .globalImplicit := by kernel_rfl) (hs : starEach [a] X.env = [(false, eval a X.env)] := by kernel_rfl) : PI X tg (.Call (.Name "range" p) [a] [] pos) (tI X.K c E (itR1 fa)) := mi_rng1 hg hm ha hs
theorem mi_rng2' (hm : X.mg "range" = none) (ha : PE X a (tM X.K c E fa)) (hb : PE X b (tM X.K c E fb)) (hg : X.env.kindOf "range" = some .globalImplicit := by kernel_rfl) (hs : starEach [a, b] X.env = [(false, eval a X.env), (false, eval b X.env)] := by kernel_rfl) (hs2 : starEach [b] X.env = [(false, eval b X.env)] := by kernel_rfl) : PI X tg (.Call (.Name "range" p) [a, b] [] pos) (tI X.K c E (itR2 fa fb)) := mi_rng2 hg hm ha hb hs hs2
theorem mi_enum' {tpos : Pos} {elts : List Expr} {kk : Nat} (hm : X.mg "enumerate" = none) (ha : PE X a (tM X.K c E fa)) (hg : X.env.kindOf "enumerate" = some .globalImplicit := by kernel_rfl) (hs : starEach [a] X.env = [(false, eval a X.env)] := by kernel_rfl) : PI X (.Tuple elts kk tpos) (.Call (.Name "enumerate" p) [a] [] pos) (tI X.K c E (itEn fa)) := mi_enum hg hm ha hs
theorem mi_zip' {tpos : Pos} {elts : List Expr} {kk : Nat} (hm : X.mg "zip" = none) (ha : PE X a (tM X.K c E fa)) (hb : PE X b (tM X.K c E fb)) (hg : X.env.kindOf "zip" = some .globalImplicit := by kernel_rfl) (hs : starEach [a, b] X.env = (false, eval a X.env) :: starEach [b] X.env := by kernel_rfl) (hs2 : starEach [b] X.env = (false, eval b X.env) :: starEach [] X.env := by kernel_rfl)
    (hpl : (backTo pos (starEach [b] X.env)).any (·.1) = false := by kernel_rfl) : PI X (.Tuple elts kk tpos) (.Call (.Name "zip" p) [a, b] [] pos) (tI X.K c E (itZp fa fb)) := mi_zip hg hm ha hb hs hs2 hpl
theorem mg_nameL {us : List Nat} (hN : X.N.Nodup) (hi : X.N[i]? = some x := by kernel_rfl) (hx : X.env.scope.names.lookup x = some .local := by kernel_rfl) (hu : i ∈ us := by decide) : PG X (.Name x pos) (tGd X.K c us (tgN i)) := mg_name hN hi (.inl hx) hu (.inr hx)
theorem mg_nameC {us : List Nat} (hN : X.N.Nodup) (hi : X.N[i]? = some x := by kernel_rfl) (hx : X.env.scope.names.lookup x = some .cell := by kernel_rfl) (hu : i ∈ us := by decide) (hf : X.fn x = true := by kernel_rfl) : PG X (.Name x pos) (tGd X.K c us (tgN i)) := mg_name hN hi (.inr hx) hu (.inl hf)
theorem mgs_cons' {us : List Nat} {t : TGd} {ts : List TGd} (h1 : PG X e (tGd X.K c us t)) (h2 : PGs X es (tGds X.K c us ts)) (hs : (assignEach (e :: es) X.env).map (·.2) = assign e X.env :: (assignEach es X.env).map (·.2) := by kernel_rfl) : PGs X (e :: es) (tGds X.K c us (t :: ts)) := mgs_cons h1 h2 hs
theorem ms_setL {pos' : Pos} (hN : X.N.Nodup) (he : PE X e (tM X.K c E fa)) (hi : X.N[i]? = some x := by kernel_rfl) (hx : X.env.scope.names.lookup x = some .local := by kernel_rfl) (hs : swapsWith e (some (.Name x pos')) pos.line X.env = pure false := by kernel_rfl) : PS X (.Assign [.Name x pos'] e pos) (tS X.K c E (asgS i fa)) := ms_set hN hi (.inl hx) he hs (.inr hx)
theorem ms_setC {pos' : Pos} (hN : X.N.Nodup) (he : PE X e (tM X.K c E fa)) (hi : X.N[i]? = some x := by kernel_rfl) (hx : X.env.scope.names.lookup x = some .cell := by kernel_rfl) (hs : swapsWith e (some (.Name x pos')) pos.line X.env = pure false := by kernel_rfl) (hf : X.fn x = true := by kernel_rfl) : PS X (.Assign [.Name x pos'] e pos) (tS X.K c E (asgS i fa)) := ms_set hN hi (.inr hx) he hs (.inl hf)
theorem ms_setOL {pos' : Pos} (hN : X.N.Nodup) (he : PE X e (tO X.K c E fa)) (hi : X.N[i]? = some x := by kernel_rfl) (hx : X.env.scope.names.lookup x = some .local := by kernel_rfl) (hs : swapsWith e (some (.Name x pos')) pos.line X.env = pure false := by kernel_rfl) : PS X (.Assign [.Name x pos'] e pos) (tS X.K c E (asgOS i fa)) := ms_setO hN hi (.inl hx) he hs (.inr hx)
theorem ms_setOC {pos' : Pos} (hN : X.N.Nodup) (he : PE X e (tO X.K c E fa)) (hi : X.N[i]? = some x := by kernel_rfl) (hx : X.env.scope.names.lookup x = some .cell := by kernel_rfl) (hs : swapsWith e (some (.Name x pos')) pos.line X.env = pure false := by kernel_rfl) (hf : X.fn x = true := by kernel_rfl) : PS X (.Assign [.Name x pos'] e pos) (tS X.K c E (asgOS i fa)) := ms_setO hN hi (.inr hx) he hs (.inl hf)
theorem sw_t {elt : Expr} {gs : List Comprehension} {scope : Scope} {pos py : Pos} {y : Str} {l : Nat} {env : Env} (hk : env.scope.kind = .function) (hy : env.scope.names.lookup y = some .local) (hl : (py.line == pos.line) = true)
    (ha : (scope.names.any fun (n, k) => n == y && (k == .local || k == .cell)) = false) : swapsWith (.ListComp elt gs scope pos) (some (.Name y py)) l env = pure true := sw_true hk hy hl ha
theorem blk_ok {N : List Str} {sc scope : Scope} {own : List (Str × Nat)} (h : blkC N sc scope own = true) : BlkOk N sc scope own := blkOk_by h
end
/-! ### chains of comparisons -/
def chn2 (f g : D → D → Option D) (a b c : FE) : FE := fun ρ => bd (a ρ) fun x => bd (b ρ) fun y => bd (lift (f x y)) fun z => match z with
  | .bl true => bd (c ρ) fun u => lift (g y u)
  | .bl false => rt (.bl false)
  | _ => no
section
variable {X : Cx} {cn : Cn} {E : XK} {a b c e : Expr} {fa fb fc : FE} {pos : Pos} {op op' : CmpOp} {f g : D → D → Option D} {r r' : R2}
theorem chn_out (h1 : OpM X.K cn r f) (h2 : OpM X.K cn r' g) : ∀ σ H Q, tM X.K cn E (chn2 f g fa fb fc) σ H Q → tChain r r' (tB X.K cn E fa) (tB X.K cn E fb) (tB X.K cn E fc) σ H Q := fun σ H Q h => by
  obtain ⟨W, ρ, S, st, en, q⟩ := tM_un h
  refine then_B (O := OutM X.K cn W H E Q) st en (fun _ _ _ z => z) (fun z => z) q fun d S1 W1 H1 v st1 k1 r1 q1 => ?_
  refine then_B (O := OutM X.K cn W H E Q) st1 (en.ext k1) (fun _ _ _ z => ErQ.pre z k1 st1) (fun z => z) q1 fun d2 S2 W2 H2 u st2 k2 r2 q2 => ?_
  change OutM X.K cn W H E Q (bd (lift (f d d2)) _ S2) at q2
  unfold bd at q2
  cases e1 : f d d2 with
  | none => rw [e1] at q2; exact q2.elim
  | some z =>
    rw [e1] at q2
    have k12 := k1.tr st1 k2
    refine h1 _ st2 (r1.ext k2) r2 e1 fun W3 H3 x st3 k3 rx => ?_
    cases z <;> first | exact (show False from q2).elim | skip
    rename_i kb
    cases rx
    refine ⟨kb, rfl, ?_⟩
    have k13 := k12.tr st2 k3
    cases kb with
    | false => exact q2 W3 H3 _ st3 k13 rfl
    | true =>
      refine then_B (O := OutM X.K cn W H E Q) st3 ((((en.ext k1).ext k2)).ext k3) (fun _ _ _ z => ErQ.pre z k13 st3) (fun z => z) q2 fun d4 S4 W4 H4 u4 st4 k4 r4 q4 => ?_
      obtain ⟨d', e', q5⟩ := lift_ok (β := D) (O := OutM X.K cn W H E Q) (fun z => z) q4
      exact h2 Q st4 ((r2.ext k3).ext k4) r4 e' fun W' H' x st' k' rx => q5 W' H' x st' ((k13.tr st3 k4).tr st4 k') rx
theorem me_chain (ho : OpR X (compareOp op) r) (ho' : OpR X (compareOp op') r') (h1 : OpM X.K cn r f) (h2 : OpM X.K cn r' g) (ha : PE X a (tB X.K cn E fa)) (hb : PE X b (tB X.K cn E fb)) (hc : PE X c (tB X.K cn E fc)) (hm : lastMarks [op, op'] [b, c] = false := by kernel_rfl) :
    PE X (.Compare a [op, op'] [b, c] pos) (tM X.K cn E (chn2 f g fa fb fc)) := pe_imp (pe_chain ho ho' ha hb hc hm) (chn_out h1 h2)
theorem mt_chain (ho : OpR X (compareOp op) r) (ho' : OpR X (compareOp op') r') (h1 : OpM X.K cn r f) (h2 : OpM X.K cn r' g) (ha : PE X a (tB X.K cn E fa)) (hb : PE X b (tB X.K cn E fb)) (hc : PE X c (tB X.K cn E fc)) (hm : lastMarks [op, op'] [b, c] = false := by kernel_rfl) :
    PT X (.Compare a [op, op'] [b, c] pos) (tT X.K cn E (valB (chn2 f g fa fb fc))) := pt_imp (pt_chain ho ho' ha hb hc hm) (val_out (chn_out h1 h2))
end
/-! ### names used by the printed texts (to be widened) -/
section
variable {X : Cx} {c : Cn}
theorem op_ltAll : OpR X (compareOp .Lt) (rI0 fun i j => .bl (decide (i < j))) := op_lt
theorem op_leAll : OpR X (compareOp .LtE) (rI0 fun i j => .bl (decide (i ≤ j))) := op_le
theorem op_gtAll : OpR X (compareOp .Gt) (rI0 fun i j => .bl (decide (j < i))) := op_gt
theorem op_geAll : OpR X (compareOp .GtE) (rI0 fun i j => .bl (decide (j ≤ i))) := op_ge
theorem m_ltAll : OpM X.K c (rI0 fun i j => .bl (decide (i < j))) dLt := m_lt
theorem m_leAll : OpM X.K c (rI0 fun i j => .bl (decide (i ≤ j))) dLe := m_le
theorem m_gtAll : OpM X.K c (rI0 fun i j => .bl (decide (j < i))) dGt := m_gt
theorem m_geAll : OpM X.K c (rI0 fun i j => .bl (decide (j ≤ i))) dGe := m_ge
end
def W0 : Nat := 2 ^ 4000
end Mini
namespace Mini
open PySem PySem.Spec PyProof.Rows L2 Evl

/-! ### small pieces -/
theorem passL {P : Program} {w : World} {X : Cx} (hP : P = X.prog := by rfl) (hw : w = X.w := by rfl) : Passes (L2.CX P w) X EF := fun pins σ H s e s' _ h => by
  obtain ⟨_, _, _, _, _, _, _, _, _, _, _, _, z⟩ := h
  exact z.elim
theorem Room.small {k : Nat} {A : Around} (r : Room k A) : A.units + 1 < cLine := by have := r.un; omega
theorem Room.u64 {k : Nat} {A : Around} (r : Room k A) : A.units + 66 < cLine := by have := r.un; omega
section
variable {X : Cx} {c : Cn} {E : XK} {a b e o tg : Expr} {es : List Expr} {fa fb fc : FE} {ga : FA} {x y : Str} {p pos apos cpos : Pos} {i : Nat}

/-! ### * -/
def dMulX : D → D → Option D
  | .int i, .int j => if i.natAbs.log2 + j.natAbs.log2 < 1000000 then some (.int (i * j)) else none
  | .lst xs, .int k => if k < 16777216 ∧ -16777216 < k ∧ xs.length * k.toNat ≤ 16777216 then some (.lst (List.replicate k.toNat xs).flatten) else none
  | _, _ => none
def dRep : D → D → Option D
  | .lst xs, .int k => if k < 16777216 ∧ -16777216 < k ∧ xs.length * k.toNat ≤ 16777216 then some (.lst (List.replicate k.toNat xs).flatten) else none
  | _, _ => none
theorem repL_rep {K : PySem.W.Frag} {W : Wd} {xs : List D} {vs : List V} (r : RepL K c W xs vs) : ∀ n : Nat, RepL K c W (List.replicate n xs).flatten (List.replicate n vs).flatten
  | 0 => rfl
  | n + 1 => by
    rw [List.replicate_succ, List.replicate_succ, List.flatten_cons, List.flatten_cons]
    exact repL_append r (repL_rep r n)
theorem op_mulAll : OpR X (binaryOp .Mult) (fun x y H Q => rI CMulW (fun i j => .int (i * j)) x y H Q ∨ rRep x y H Q) := op_mulW.or op_rep
theorem m_mulAll : OpM X.K c (fun x y H Q => rI CMulW (fun i j => .int (i * j)) x y H Q ∨ rRep x y H Q) dMulX := fun {W H S d e d' v u} Q st a b q k => by
  cases d <;> cases e <;> first | (cases q; done) | skip
  · exact .inl (m_mul (X := X) (c := c) Q st a b q k)
  · simp only [dMulX] at q
    split at q
    · rename_i xs i hl
      cases q
      obtain ⟨p, vs, rfl, h1, r1⟩ := a.lst st
      exact .inr ⟨p, i, vs, rfl, b.int, h1, by omega, by omega, line_le (by rw [RepL.length r1]; exact hl.2.2), fun l hn => k _ _ _ (lay_st st hn) (lay_keep st hn) (new_lst st hn (repL_rep r1 _))⟩
    · cases q
theorem o_rep : OpO X.K c rRep dRep := fun {W H S d e d' v u} Q st a b q k => by
  cases d <;> cases e <;> first | (cases q; done) | skip
  simp only [dRep] at q
  split at q
  · rename_i xs i hl
    cases q
    obtain ⟨p, vs, rfl, h1, r1⟩ := a.lst st
    exact ⟨p, i, vs, rfl, b.int, h1, by omega, by omega, line_le (by rw [RepL.length r1]; exact hl.2.2), fun l hn => k _ _ _ (new_st st hn) (new_keep st hn) (new_own st hn (repL_rep r1 _))⟩
  · cases q

/-! ### shifts, bits -/
def dShl : D → D → Option D
  | .int i, .int j => if 0 ≤ j ∧ j < 1000 ∧ i.natAbs.log2 < 900000 then some (.int (i * 2 ^ j.toNat)) else none
  | _, _ => none
def dShr : D → D → Option D
  | .int i, .int j => if 0 ≤ j then some (.int (i / 2 ^ j.toNat)) else none
  | _, _ => none
def dBand : D → D → Option D
  | .int i, .int j => some (.int (Builtin.bitAnd i j))
  | _, _ => none
def dBor : D → D → Option D
  | .int i, .int j => some (.int (Builtin.bitOr i j))
  | _, _ => none

/-! ### keys -/
def keyD : D → Option Key
  | .int i => some (.inl i)
  | .str s => some (.inr s)
  | _ => none
def keysL : List D → Option (List Key)
  | [] => some []
  | d :: ds => (keyD d).bind fun k => (keysL ds).map fun ks => k :: ks
theorem key_rep {K : PySem.W.Frag} {W : Wd} {H : Hp} {d : D} {k : Key} {v : V} (r : RepB K c W H d v) (h : keyD d = some k) : v = kV k := by
  cases d <;> first | (cases h; done) | skip
  · cases h; exact r.int
  · cases h; exact r.str.1
theorem key_rep' {K : PySem.W.Frag} {W : Wd} {d : D} {k : Key} {v : V} (r : Rep K c W d v) (h : keyD d = some k) : v = kV k := by
  cases d <;> first | (cases h; done) | skip
  · cases h; exact r
  · cases h; exact r.1
theorem keys_rep {K : PySem.W.Frag} {W : Wd} : ∀ {ds : List D} {ks : List Key} {vs : List V}, RepL K c W ds vs → keysL ds = some ks → vs = ks.map kV
  | [], ks, vs, r, h => by cases h; exact r
  | d :: ds, ks, vs, r, h => by
    obtain ⟨v, r', rfl, r1, r2⟩ := r
    simp only [keysL, Option.bind_eq_some_iff, Option.map_eq_some_iff] at h
    obtain ⟨k, h1, ks', h2, rfl⟩ := h
    rw [List.map_cons, key_rep' r1 h1, keys_rep r2 h2]
section
variable {κ : Type} [DecidableEq κ]
def valD (es : List (κ × D)) (k : κ) : Option D := (es.find? fun e => decide (e.1 = k)).map (·.2)
def putD (es : List (κ × D)) (k : κ) (d : D) : List (κ × D) := if (es.any fun e => decide (e.1 = k)) = true then es.map (fun e => if e.1 = k then (e.1, d) else e) else es ++ [(k, d)]
end
section
variable {K : PySem.W.Frag} {W : Wd} {H : Hp} {S : DS}
theorem RepB.dic {es : List (Key × D)} {v : V} (st : StOk K c W H S) (r : RepB K c W H (.dic es) v) : ∃ a kvs, v = .ref a ∧ H a = some (.dK kvs) ∧ RepE K c W es kvs := by
  rcases r with ⟨a, vs, h1, h2, h3⟩ | ⟨a, h1, _, vs, h2, h3⟩
  · exact ⟨a, vs, h1, st.sub _ _ h2, h3⟩
  · exact ⟨a, vs, h1, h2, h3⟩
theorem RepB.dit {es : List (List Key × D)} {v : V} (st : StOk K c W H S) (r : RepB K c W H (.dit es) v) : ∃ a kvs, v = .ref a ∧ H a = some (.dT kvs) ∧ RepT K c W es kvs := by
  rcases r with ⟨a, vs, h1, h2, h3⟩ | ⟨a, h1, _, vs, h2, h3⟩
  · exact ⟨a, vs, h1, st.sub _ _ h2, h3⟩
  · exact ⟨a, vs, h1, h2, h3⟩
theorem repP {p : Key × D} {v : V} (h : RepP K c W p v) : Rep K c W p.2 v := by cases p; exact h
theorem repQ {p : List Key × D} {v : V} (h : RepQ K c W p v) : Rep K c W p.2 v := by cases p; exact h
theorem repP' {k : Key} {d : D} {v : V} (h : Rep K c W d v) : RepP K c W (k, d) v := h
/-- both looks go alike -/
def RepOp (K : PySem.W.Frag) (c : Cn) (W : Wd) : Option D → Option V → Prop
  | none, none => True
  | some d, some v => Rep K c W d v
  | _, _ => False
theorem valD_rep : ∀ {es : List (Key × D)} {kvs : List (Key × V)} (k : Key), RepE K c W es kvs → RepOp K c W (valD es k) (valV kvs k)
  | [], kvs, k, r => by cases r; exact True.intro
  | p :: es, kvs, k, r => by
    obtain ⟨v, r', rfl, r1, r2⟩ := r
    by_cases e : p.1 = k
    · have e1 : valD (p :: es) k = some p.2 := by simp [valD, List.find?_cons, e]
      rw [e1, valV_pos (p := (p.1, v)) e]
      exact repP r1
    · have e1 : valD (p :: es) k = valD es k := by simp [valD, List.find?_cons, e]
      rw [e1, valV_neg (p := (p.1, v)) e]
      exact valD_rep k r2
theorem valT_rep : ∀ {es : List (List Key × D)} {kvs : List (List Key × V)} (k : List Key), RepT K c W es kvs → RepOp K c W (valD es k) (valV kvs k)
  | [], kvs, k, r => by cases r; exact True.intro
  | p :: es, kvs, k, r => by
    obtain ⟨v, r', rfl, r1, r2⟩ := r
    by_cases e : p.1 = k
    · have e1 : valD (p :: es) k = some p.2 := by simp [valD, List.find?_cons, e]
      rw [e1, valV_pos (p := (p.1, v)) e]
      exact repQ r1
    · have e1 : valD (p :: es) k = valD es k := by simp [valD, List.find?_cons, e]
      rw [e1, valV_neg (p := (p.1, v)) e]
      exact valT_rep k r2
theorem anyD_rep : ∀ {es : List (Key × D)} {kvs : List (Key × V)} (k : Key), RepE K c W es kvs → (es.any fun e => decide (e.1 = k)) = (kvs.any fun e => decide (e.1 = k))
  | [], kvs, k, r => by cases r; rfl
  | p :: es, kvs, k, r => by
    obtain ⟨v, r', rfl, r1, r2⟩ := r
    rw [List.any_cons, List.any_cons, anyD_rep k r2]
theorem anyT_rep : ∀ {es : List (List Key × D)} {kvs : List (List Key × V)} (k : List Key), RepT K c W es kvs → (es.any fun e => decide (e.1 = k)) = (kvs.any fun e => decide (e.1 = k))
  | [], kvs, k, r => by cases r; rfl
  | p :: es, kvs, k, r => by
    obtain ⟨v, r', rfl, r1, r2⟩ := r
    rw [List.any_cons, List.any_cons, anyT_rep k r2]
theorem repE_append : ∀ {es fs : List (Key × D)} {ks us : List (Key × V)}, RepE K c W es ks → RepE K c W fs us → RepE K c W (es ++ fs) (ks ++ us)
  | [], fs, ks, us, r, q => by cases r; exact q
  | p :: es, fs, ks, us, r, q => by
    obtain ⟨v, r', rfl, r1, r2⟩ := r
    exact ⟨v, _, rfl, r1, repE_append r2 q⟩
theorem repT_append : ∀ {es fs : List (List Key × D)} {ks us : List (List Key × V)}, RepT K c W es ks → RepT K c W fs us → RepT K c W (es ++ fs) (ks ++ us)
  | [], fs, ks, us, r, q => by cases r; exact q
  | p :: es, fs, ks, us, r, q => by
    obtain ⟨v, r', rfl, r1, r2⟩ := r
    exact ⟨v, _, rfl, r1, repT_append r2 q⟩
theorem repE_map {k : Key} {d : D} {v : V} (h : Rep K c W d v) : ∀ {es : List (Key × D)} {ks : List (Key × V)}, RepE K c W es ks → RepE K c W (es.map fun e => if e.1 = k then (e.1, d) else e) (ks.map fun e => if e.1 = k then (e.1, v) else e)
  | [], ks, r => by cases r; rfl
  | p :: es, ks, r => by
    obtain ⟨u, r', rfl, r1, r2⟩ := r
    rw [List.map_cons, List.map_cons]
    by_cases e : p.1 = k
    · rw [if_pos e, if_pos e]
      exact ⟨v, _, rfl, h, repE_map h r2⟩
    · rw [if_neg e, if_neg e]
      exact ⟨u, _, rfl, r1, repE_map h r2⟩
theorem repT_map {k : List Key} {d : D} {v : V} (h : Rep K c W d v) : ∀ {es : List (List Key × D)} {ks : List (List Key × V)}, RepT K c W es ks → RepT K c W (es.map fun e => if e.1 = k then (e.1, d) else e) (ks.map fun e => if e.1 = k then (e.1, v) else e)
  | [], ks, r => by cases r; rfl
  | p :: es, ks, r => by
    obtain ⟨u, r', rfl, r1, r2⟩ := r
    rw [List.map_cons, List.map_cons]
    by_cases e : p.1 = k
    · rw [if_pos e, if_pos e]
      exact ⟨v, _, rfl, h, repT_map h r2⟩
    · rw [if_neg e, if_neg e]
      exact ⟨u, _, rfl, r1, repT_map h r2⟩
theorem putE_rep {es : List (Key × D)} {kvs : List (Key × V)} {k : Key} {d : D} {v : V} (r : RepE K c W es kvs) (h : Rep K c W d v) : RepE K c W (putD es k d) (putK kvs k v) := by
  unfold putD putK
  rw [anyD_rep k r]
  split
  · exact repE_map h r
  · exact repE_append r ⟨v, [], rfl, h, rfl⟩
theorem putT_rep {es : List (List Key × D)} {kvs : List (List Key × V)} {k : List Key} {d : D} {v : V} (r : RepT K c W es kvs) (h : Rep K c W d v) : RepT K c W (putD es k d) (putK kvs k v) := by
  unfold putD putK
  rw [anyT_rep k r]
  split
  · exact repT_map h r
  · exact repT_append r ⟨v, [], rfl, h, rfl⟩
theorem repE_len : ∀ {es : List (Key × D)} {kvs : List (Key × V)}, RepE K c W es kvs → kvs.length = es.length
  | [], kvs, r => by cases r; rfl
  | p :: es, kvs, r => by
    obtain ⟨v, r', rfl, r1, r2⟩ := r
    rw [List.length_cons, List.length_cons, repE_len r2]
theorem repT_len : ∀ {es : List (List Key × D)} {kvs : List (List Key × V)}, RepT K c W es kvs → kvs.length = es.length
  | [], kvs, r => by cases r; rfl
  | p :: es, kvs, r => by
    obtain ⟨v, r', rfl, r1, r2⟩ := r
    rw [List.length_cons, List.length_cons, repT_len r2]
/-- what a dict holds at a key -/
def dGetO : D → D → Option (Option D)
  | .dic es, k => (keyD k).map fun k => valD es k
  | .dit es, .tup ds => (keysL ds).map fun ks => valD es ks
  | _, _ => none
theorem dget_rep {d k : D} {o : Option D} {v u : V} (st : StOk K c W H S) (r : RepB K c W H d v) (rk : RepB K c W H k u) (h : dGetO d k = some o) : ∃ a ov, v = .ref a ∧ IsD H a ∧ DGet H a u ov ∧ RepOp K c W o ov := by
  cases d <;> first | (cases h; done) | skip
  · simp only [dGetO, Option.map_eq_some_iff] at h
    obtain ⟨kk, h1, rfl⟩ := h
    obtain ⟨a, kvs, rfl, h2, h3⟩ := r.dic st
    have e := key_rep rk h1
    subst e
    exact ⟨a, _, rfl, .inl ⟨kvs, .inl h2⟩, DGet.k h2, valD_rep kk h3⟩
  · cases k <;> first | (cases h; done) | skip
    simp only [dGetO, Option.map_eq_some_iff] at h
    obtain ⟨kk, h1, rfl⟩ := h
    obtain ⟨a, kvs, rfl, h2, h3⟩ := r.dit st
    obtain ⟨b, vs, rfl, h4, _, h5⟩ := rk.tup st
    have e := keys_rep h5 h1
    subst e
    exact ⟨a, _, rfl, .inr ⟨kvs, .inl h2⟩, DGet.t h2 h4, valT_rep kk h3⟩
theorem RepOp.some_of {d : D} {ov : Option V} (h : RepOp K c W (some d) ov) : ∃ v, ov = some v ∧ Rep K c W d v := by
  cases ov with
  | none => exact h.elim
  | some v => exact ⟨v, rfl, h⟩
theorem RepOp.getD {o : Option D} {ov : Option V} {d : D} {v : V} (h : RepOp K c W o ov) (r : Rep K c W d v) : Rep K c W (o.getD d) (ov.getD v) := by
  cases o <;> cases ov <;> first | exact h.elim | skip
  · exact r
  · exact h
theorem RepOp.isSome {o : Option D} {ov : Option V} (h : RepOp K c W o ov) : ov.isSome = o.isSome := by
  cases o <;> cases ov <;> first | exact h.elim | rfl
end
/-! ### subscripts: sequences and dicts -/
def rIxG : R2 := fun x y H Q => ∃ a v, x = .ref a ∧ DGet H a y (some v) ∧ Q v H
theorem ix_dict {k : Nat} (hr : Room k X.A) : IxR X rIxG := by
  intro value slice pins s σ H x y v u Q I rx ry h hs
  obtain ⟨a, r, rfl, g, q⟩ := h
  obtain rfl : v = Value.ref a := rx
  exact tail_any (dict_typeIs I g) slot_dict_getitem.lookup (d_getItem (Room.small hr) I g ry fun w' s' I' rw' => ⟨r, H, I', rw', q⟩) hs
theorem ix_all {k : Nat} (hr : Room k X.A) : IxR X (fun x y H Q => rIx X.K x y H Q ∨ rIxG x y H Q) := ix_seq.or (ix_dict hr)
def dIxA : D → D → Option D
  | .dic es, k => (dGetO (.dic es) k).bind id
  | .dit es, k => (dGetO (.dit es) k).bind id
  | d, k => dIx d k
theorem m_ixD {W : Wd} {H : Hp} {S : DS} {d e d' : D} {v u : V} (Q : VK) (st : StOk X.K c W H S) (a : RepB X.K c W H d v) (b : RepB X.K c W H e u) (q : (dGetO d e).bind id = some d') (k : ∀ W' H' x, StOk X.K c W' H' S → Keep W H W' H' → Rep X.K c W' d' x → Q x H') : rIxG v u H Q := by
  cases h : dGetO d e with
  | none => rw [h] at q; cases q
  | some o =>
    rw [h] at q
    have q' : o = some d' := q
    subst q'
    obtain ⟨p, ov, rfl, _, g, r⟩ := dget_rep st a b h
    obtain ⟨w, rfl, rw'⟩ := r.some_of
    exact ⟨p, w, rfl, g, k W H w st (Keep.refl W H) rw'⟩
theorem m_ixAll : OpM X.K c (fun x y H Q => rIx X.K x y H Q ∨ rIxG x y H Q) dIxA := fun {W H S d e d' v u} Q st a b q k => by
  cases d
  case dic es => exact .inr (m_ixD Q st a b q k)
  case dit es => exact .inr (m_ixD Q st a b q k)
  all_goals exact .inl (m_ix (X := X) (c := c) Q st a b q k)

/-! ### name op= e -/
theorem ms_aug0 {f : D → D → Option D} {op : Operator} {r : R2} {pos' : Pos} (ho : OpR X (inplaceOp op) r) (hr : OpM X.K c r f) (hN : X.N.Nodup) (hi : X.N[i]? = some x) (hx : Loc X.env.scope x) (he : PE X e (tM X.K c E fa)) (hf : X.fn x = true ∨ X.env.scope.names.lookup x = some .local) :
    PS X (.AugAssign (.Name x pos') op e pos) (tS X.K c E (augS f i fa)) := ps_imp (ps_aug (ti := r) hN hi hx he ho hf) fun D σ H q => by
  obtain ⟨W, ρ, S, st, en, q⟩ := q
  unfold augS bd at q
  cases e1 : slot ρ i with
  | none => rw [e1] at q; exact q.elim
  | some d =>
    rw [e1] at q
    obtain ⟨v, h1, h2⟩ := en.vl i d (slot_some e1)
    refine ⟨v, h1, thenS_M st en q fun d2 S' W' H' u st' en' k r2 q' => ?_⟩
    unfold bd at q'
    cases e2 : f d d2 with
    | none => rw [e2] at q'; exact q'.elim
    | some d3 =>
      rw [e2] at q'
      refine hr _ st' (.inl (Rep.ext k.wex d v h2)) (.inl r2) e2 fun W2 H2 z st2 k2 r3 => ?_
      exact q' W2 H2 _ st2 ((en'.ext k2).setV r3 i) ⟨(k2.toS st2), fun b z => .inr (owned_setV z)⟩
theorem ms_augL {f : D → D → Option D} {op : Operator} {r : R2} {pos' : Pos} (ho : OpR X (inplaceOp op) r) (hr : OpM X.K c r f) (hN : X.N.Nodup) (he : PE X e (tM X.K c E fa)) (hi : X.N[i]? = some x := by kernel_rfl) (hx : X.env.scope.names.lookup x = some .local := by kernel_rfl) :
    PS X (.AugAssign (.Name x pos') op e pos) (tS X.K c E (augS f i fa)) := ms_aug0 ho hr hN hi (.inl hx) he (.inr hx)
theorem ms_augC {f : D → D → Option D} {op : Operator} {r : R2} {pos' : Pos} (ho : OpR X (inplaceOp op) r) (hr : OpM X.K c r f) (hN : X.N.Nodup) (he : PE X e (tM X.K c E fa)) (hi : X.N[i]? = some x := by kernel_rfl) (hx : X.env.scope.names.lookup x = some .cell := by kernel_rfl) (hf : X.fn x = true := by kernel_rfl) :
    PS X (.AugAssign (.Name x pos') op e pos) (tS X.K c E (augS f i fa)) := ms_aug0 ho hr hN hi (.inr hx) he (.inl hf)
theorem iop_mulW : OpR X (inplaceOp .Mult) (rI CMulW fun i j => .int (i * j)) := opI fun _ _ _ _ _ _ _ hc q => imul_int q hc.ok
def dAddI : D → D → Option D
  | .int i, .int j => some (.int (i + j))
  | .str a, .str b => if a.length + b.length ≤ 16777216 then some (.str (a ++ b)) else none
  | _, _ => none
theorem iop_addAll : OpR X (inplaceOp .Add) (fun x y H Q => rI0 (fun i j => .int (i + j)) x y H Q ∨ (fun x y H Q => ∃ i j, x = .str i ∧ y = .str j ∧ i.length + j.length ≤ sizeLine ∧ Q (.str (i ++ j)) H) x y H Q) := iop_add.or iop_add_str
theorem i_add : OpM X.K c (fun x y H Q => rI0 (fun i j => .int (i + j)) x y H Q ∨ (fun x y H Q => ∃ i j, x = .str i ∧ y = .str j ∧ i.length + j.length ≤ sizeLine ∧ Q (.str (i ++ j)) H) x y H Q) dAddI := fun {W H S d e d' v u} Q st a b q k => by
  cases d <;> cases e <;> first | (cases q; done) | skip
  · cases q
    exact .inl ⟨_, _, a.int, b.int, k W H _ st (Keep.refl W H) rfl⟩
  · simp only [dAddI] at q
    split at q
    · rename_i hl
      cases q
      obtain ⟨rfl, h1⟩ := a.str
      obtain ⟨rfl, h2⟩ := b.str
      exact .inr ⟨_, _, rfl, rfl, line_le hl, k W H _ st (Keep.refl W H) ⟨rfl, sok_add h1 h2 hl⟩⟩
    · cases q
end
end Mini
namespace Mini
open PySem PySem.Spec PyProof.Rows L2 Evl

/-! ### methods of built-ins -/
structure Mb (X : Cx) (o : Expr) (name : Str) (e : Expr) (es : List Expr) (apos cpos : Pos) : Prop where
  base : attributeBase o name X.env (eval o X.env) = eval o X.env
  few : ((backTo cpos (starEach (e :: es) X.env)).all (fun x => !x.1) && (backToKw cpos (keywordEach [] X.env)).all (fun x => x.1.isSome)
      && decide ((e :: es).length + ([] : List Keyword).length + (if ([] : List Keyword).isEmpty then 0 else 1) < 30)) = true
  line : (apos.endLine == cpos.line) = true
  st : starEach (e :: es) X.env = (false, eval e X.env) :: starEach es X.env
  pl : (backTo cpos (starEach es X.env)).any (·.1) = false
section
variable {X : Cx} {c : Cn} {E : XK} {a b e o tg : Expr} {es : List Expr} {fa fb fc : FE} {ga : FA} {x y : Str} {p pos apos cpos pa : Pos} {i : Nat}
theorem pe_bm' {T id : String} {name : Str} {r : V → List V → Hp → VK → Prop} {to : TE} {t : TA} (pt : PlainAttrs T) (slot : PySem.Slot T name id) (hty : typeOf (.builtin id) = pure (.type "method_descriptor")) (hm : MtR X id r) (ho : PE X o to) (ha : PA X (e :: es) t) (m : Mb X o name e es apos cpos) :
    PE X (.Call (.Attribute o name apos) (e :: es) [] cpos) (tBM X.K T r to t) := pe_bm pt slot hty hm ho ha m.base m.few m.line m.st m.pl
theorem Mb.one {name : Str} (m : Mb X o name e [] apos cpos) : starEach [e] X.env = (false, eval e X.env) :: starEach [] X.env := m.st
/-- x.append(e) -/
theorem ms_app1 (ha : PE X a (tM X.K c E fa)) (hN : X.N[i]? = some x) (hv : Vis X.env.scope x) (hd : (x == ("__debug__" : Str)) = false) (hcd : (x == ("__classdict__" : Str)) = false) (m : Mb X (.Name x pa) "append" a [] apos p)
    (hs : swapsWith (.Call (.Attribute (.Name x pa) "append" apos) [a] [] p) none pos.line X.env = pure false) : PS X (.Expr (.Call (.Attribute (.Name x pa) "append" apos) [a] [] p) pos) (tS X.K c E (appS i fa)) :=
  ms_app hN hv ha (fun te h => pe_bm' PySem.F.plainAttrs_list PySem.F.slot_list_append PySem.F.type_list_append mt_append (pe_var hN hv hd hcd) (pa_cons h pa_nil m.one) m) hs
theorem ms_appL (ha : PE X a (tM X.K c E fa)) (hN : X.N[i]? = some x := by kernel_rfl) (hv : X.env.scope.names.lookup x = some .local := by kernel_rfl) (hd : (x == ("__debug__" : Str)) = false := by kernel_rfl) (hcd : (x == ("__classdict__" : Str)) = false := by kernel_rfl)
    (m : Mb X (.Name x pa) "append" a [] apos p := by exact ⟨by kernel_rfl, by kernel_rfl, by kernel_rfl, by kernel_rfl, by kernel_rfl⟩) (hs : swapsWith (.Call (.Attribute (.Name x pa) "append" apos) [a] [] p) none pos.line X.env = pure false := by kernel_rfl) : PS X (.Expr (.Call (.Attribute (.Name x pa) "append" apos) [a] [] p) pos) (tS X.K c E (appS i fa)) := ms_app1 ha hN (.inl hv) hd hcd m hs
theorem ms_appC (ha : PE X a (tM X.K c E fa)) (hN : X.N[i]? = some x := by kernel_rfl) (hv : X.env.scope.names.lookup x = some .cell := by kernel_rfl) (hd : (x == ("__debug__" : Str)) = false := by kernel_rfl) (hcd : (x == ("__classdict__" : Str)) = false := by kernel_rfl)
    (m : Mb X (.Name x pa) "append" a [] apos p := by exact ⟨by kernel_rfl, by kernel_rfl, by kernel_rfl, by kernel_rfl, by kernel_rfl⟩) (hs : swapsWith (.Call (.Attribute (.Name x pa) "append" apos) [a] [] p) none pos.line X.env = pure false := by kernel_rfl) : PS X (.Expr (.Call (.Attribute (.Name x pa) "append" apos) [a] [] p) pos) (tS X.K c E (appS i fa)) := ms_app1 ha hN (.inr (.inl hv)) hd hcd m hs
/-- an expression whose content is read, ahead of a statement's end -/
theorem thenS_B {K : PySem.W.Frag} {W : Wd} {H : Hp} {S : DS} {σ : L2.St} {ρ : En} {f : FE} {g : D → M Fl} {Q : VK} {D' : Ends} (st : StOk K c W H S) (en : EnvOk K c W H σ ρ) (h : OutS K c W H σ ρ E D' (bd (f ρ) g S))
    (k : ∀ d S' W' H' v, StOk K c W' H' S' → EnvOk K c W' H' σ ρ → Step W H σ ρ W' H' σ ρ → RepB K c W' H' d v → OutS K c W' H' σ ρ E D' (g d S') → Q v H') : tB K c E f σ H Q :=
  then_B (O := OutS K c W H σ ρ E D') st en (fun _ _ _ z => ErS.q z) (fun z => z) h fun d S1 W1 H1 v st1 k1 r1 q1 =>
    k d S1 W1 H1 v st1 (en.ext k1) (k1.toStep st1) r1 (OutS.pre q1 (k1.toStep st1))
/-- x.extend(e), e a list -/
def extS (i : Nat) (f : FE) : FS := fun ρ => bd (lift (ownL ρ i)) fun ds => bd (f ρ) fun d => match d with
  | .lst es => if ds.length + es.length ≤ 16777216 then rt (.nx (setO i (.lst (ds ++ es)) ρ)) else no
  | _ => no
theorem ms_ext1 (ha : PE X a (tB X.K c E fa)) (hN : X.N[i]? = some x) (hv : Vis X.env.scope x) (hd : (x == ("__debug__" : Str)) = false) (hcd : (x == ("__classdict__" : Str)) = false) (m : Mb X (.Name x pa) "extend" a [] apos p)
    (hs : swapsWith (.Call (.Attribute (.Name x pa) "extend" apos) [a] [] p) none pos.line X.env = pure false) : PS X (.Expr (.Call (.Attribute (.Name x pa) "extend" apos) [a] [] p) pos) (tS X.K c E (extS i fa)) :=
  ps_imp (ps_expr (pe_bm' (T := "list") PySem.F.plainAttrs_list PySem.F.slot_list_extend PySem.F.type_list_extend mt_extend (pe_var hN hv hd hcd) (pa_cons ha pa_nil m.one) m) hs) fun D' σ H q => by
    obtain ⟨W, ρ, S, st, en, q⟩ := q
    unfold extS bd at q
    cases e1 : ownL ρ i with
    | none => rw [e1] at q; exact q.elim
    | some ds =>
      rw [e1] at q
      have hi := ownL_some e1
      obtain ⟨ad, h1, h2, h3, vs, h4, h5⟩ := en.ow i _ hi
      refine ⟨_, h1, .inl ⟨rfl, _, .inl (.inl h4)⟩, ?_⟩
      refine thenS_B st en q fun d S' W' H' v st' en' k r q' => ?_
      obtain ⟨ad2, h1', h2', h3', vs', h4', h5'⟩ := en'.ow i _ hi
      rw [h1] at h1'
      cases h1'
      cases d <;> first | exact (show False from q').elim | skip
      rename_i es'
      obtain ⟨b, us, rfl, hb, r2⟩ := r.lst st'
      dsimp only at q'
      split at q'
      · rename_i hlen
        obtain ⟨s5, e5, p5⟩ := own_write (o := .lst (vs' ++ us)) (d' := .lst (ds ++ es')) st' en' hi h1 ⟨_, upd_same, repL_append h5' r2⟩
        exact ⟨ad, b, vs', us, rfl, rfl, h4', hb, line_le (by rw [RepL.length h5', RepL.length r2]; exact hlen), q' W' _ σ s5 e5 p5⟩
      · exact q'.elim
theorem ms_extL (ha : PE X a (tB X.K c E fa)) (hN : X.N[i]? = some x := by kernel_rfl) (hv : X.env.scope.names.lookup x = some .local := by kernel_rfl) (hd : (x == ("__debug__" : Str)) = false := by kernel_rfl) (hcd : (x == ("__classdict__" : Str)) = false := by kernel_rfl)
    (m : Mb X (.Name x pa) "extend" a [] apos p := by exact ⟨by kernel_rfl, by kernel_rfl, by kernel_rfl, by kernel_rfl, by kernel_rfl⟩) (hs : swapsWith (.Call (.Attribute (.Name x pa) "extend" apos) [a] [] p) none pos.line X.env = pure false := by kernel_rfl) : PS X (.Expr (.Call (.Attribute (.Name x pa) "extend" apos) [a] [] p) pos) (tS X.K c E (extS i fa)) := ms_ext1 ha hN (.inl hv) hd hcd m hs
theorem ms_extC (ha : PE X a (tB X.K c E fa)) (hN : X.N[i]? = some x := by kernel_rfl) (hv : X.env.scope.names.lookup x = some .cell := by kernel_rfl) (hd : (x == ("__debug__" : Str)) = false := by kernel_rfl) (hcd : (x == ("__classdict__" : Str)) = false := by kernel_rfl)
    (m : Mb X (.Name x pa) "extend" a [] apos p := by exact ⟨by kernel_rfl, by kernel_rfl, by kernel_rfl, by kernel_rfl, by kernel_rfl⟩) (hs : swapsWith (.Call (.Attribute (.Name x pa) "extend" apos) [a] [] p) none pos.line X.env = pure false := by kernel_rfl) : PS X (.Expr (.Call (.Attribute (.Name x pa) "extend" apos) [a] [] p) pos) (tS X.K c E (extS i fa)) := ms_ext1 ha hN (.inr (.inl hv)) hd hcd m hs
/-! ### exact tuples: made by tuple(list) -/
def dTupX : D → Option D
  | .lst ds => some (.tpx ds)
  | _ => none
theorem call_tupX : CallR X (.type "tuple") (fun xs H Q => ∃ p ys, xs = [.ref p] ∧ SqL X.K H p ys ∧ ∀ l o, o.dict = none → H l = none → Q (.ref l) (upd H l (.frz o (.tup ys)))) := by
  intro pins s σ H xs us Q I r h
  obtain ⟨p, ys, rfl, hq, q⟩ := h
  obtain rfl := Vals.ref1 r
  obtain ⟨its, rv, pl, hz⟩ := I.list hq
  have hlen := rv.length
  refine call_tuple_list pl.isList (fun h2 kp => ?_) (by simp only [List.size_toArray] <;> omega)
  have J : Inv X pins σ H { s with heap := h2 } := I.kept (t' := s.toks) kp
  have hn := J.hok.fresh (Nat.le_refl _)
  exact ⟨.ref h2.objs.size, _, J.laid (o := .frz { cls := .type "tuple", data := .seq its.toArray } (.tup ys)) (t' := s.toks) (fun b o e => Heap.get?_push_of_some _ e) (Nat.le_refl _) ⟨Heap.get?_push_size _ rfl, hz, its, rv, IsTup.new _ _⟩, rfl, q _ _ rfl hn⟩
theorem u_tupX : UnM X.K c (fun xs H Q => ∃ p ys, xs = [.ref p] ∧ SqL X.K H p ys ∧ ∀ l o, o.dict = none → H l = none → Q (.ref l) (upd H l (.frz o (.tup ys)))) dTupX := fun {W H S d d' v} Q st a q k => by
  cases d <;> first | (cases q; done) | skip
  cases q
  obtain ⟨p, vs, rfl, h1, r1⟩ := a.lst st
  exact ⟨p, vs, rfl, SqL.of h1, fun l o ho hl => k _ _ _ (lay_st st hl) (lay_keep st hl) ⟨l, vs, o, rfl, upd_same, ho, RepL.ext (frz_ex (fresh_back st.sub hl)) _ vs r1⟩⟩
/-! ### sum -/
def rSumAll (K : PySem.W.Frag) : R1 := fun xs H Q => ∃ (a : Addr) (ns : List Int), xs = [V.ref a] ∧ (SqL K H a (ns.map V.int) ∨ SqT K H a (ns.map V.int)) ∧ Q (.int ns.sum) H
theorem cr_sumAll (hc : X.calm = true) : CallR X (.builtin "sum") (rSumAll X.K) := by
  intro pins s σ H vs us Q I r h
  obtain ⟨a, ns, rfl, hs, q⟩ := h
  rcases hs with hs | hs
  · exact cr_sum hc pins s σ H _ us Q I r ⟨a, ns, rfl, hs, q⟩
  · obtain ⟨its, rv, ht, hz⟩ := I.tuple hs
    rw [Vals.ref1 r]
    have hi := rv.ints
    obtain ⟨xs, e⟩ := hi.allInts.items
    have hn : numsOf (intItems xs).toList = ns := by rw [← e]; exact hi.numsOf
    rw [nums_intItems] at hn
    have ht' : s.heap.IsTuple a (intItems xs) := by rw [← e]; exact ht
    refine PySem.W.ktm_sumG (I.ok.hd hc) ht' fun h' tk t' hk => ?_
    refine ⟨.int ns.sum, H, I.kept hk, ⟨t', ?_⟩, q⟩
    rw [preSum_eq, List.take_of_length_le (by simp), hn]
def dSumA : D → Option D
  | .lst ds => (intsOf ds).map fun ns => .int ns.sum
  | .tup ds => (intsOf ds).map fun ns => .int ns.sum
  | .tpx ds => (intsOf ds).map fun ns => .int ns.sum
  | _ => none
theorem u_sumA : UnM X.K c (rSumAll X.K) dSumA := fun {W H S d d' v} Q st a q k => by
  cases d <;> first | (cases q; done) | skip
  all_goals
    obtain ⟨ns, e2, rfl⟩ := Option.map_eq_some_iff.mp q
  · obtain ⟨p, vs, rfl, h1, _, r1⟩ := a.tup st
    have e3 := ints_rep e2 r1
    subst e3
    exact ⟨p, ns, rfl, .inr (SqT.of h1), k W H _ st (Keep.refl W H) rfl⟩
  · obtain ⟨p, vs, rfl, h1, r1⟩ := a.tpx st
    have e3 := ints_rep e2 r1
    subst e3
    exact ⟨p, ns, rfl, .inr h1, k W H _ st (Keep.refl W H) rfl⟩
  · obtain ⟨p, vs, rfl, h1, r1⟩ := a.lst st
    have e3 := ints_rep e2 r1
    subst e3
    exact ⟨p, ns, rfl, .inl (SqL.of h1), k W H _ st (Keep.refl W H) rfl⟩
/-! ### repr -/
def rRepr (K : PySem.W.Frag) : R1 := fun xs H Q => ∃ v d, xs = [v] ∧ Dp K H v d ∧ d.showable = true ∧ d.depth ≤ 64 ∧ d.shown.length ≤ sizeLine ∧ Q (.str d.shown) H
theorem dp_noDict {K : PySem.W.Frag} {H : Hp} : ∀ {d : PyData} {v : V}, Dp K H v d → d.hasDict = false
  | .none, v, h => by simp only [PyData.hasDict]
  | .bool b, v, h => by simp only [PyData.hasDict]
  | .int i, v, h => by simp only [PyData.hasDict]
  | .str x, v, h => by simp only [PyData.hasDict]
  | .list ds, v, h => by
    cases h with
    | lst hs ha =>
      simp only [PyData.hasDict]
      exact dp_noDictL ha
  | .tuple ds, v, h => by
    cases h with
    | tup hs ha =>
      simp only [PyData.hasDict]
      exact dp_noDictL ha
  | .dict kvs, v, h => by cases h
where
  dp_noDictL {K : PySem.W.Frag} {H : Hp} : ∀ {ds : List PyData} {vs : List V}, DpAll K H vs ds → PyData.hasDictAll ds = false
  | [], vs, h => by simp only [PyData.hasDictAll]
  | d :: ds, vs, h => by
    cases h with
    | cons h1 h2 => simp only [PyData.hasDictAll, dp_noDict h1, dp_noDictL h2, Bool.or_self]
theorem cr_repr {k : Nat} (hr : Room k X.A) (gd : X.A.guards = some []) : CallR X (.builtin "repr") (rRepr X.K) := by
  intro pins s σ H xs us Q I r h
  obtain ⟨v, d, rfl, hd, hs, hdp, hz, q⟩ := h
  obtain ⟨u, rfl, ru⟩ := r.one
  obtain ⟨as, rr⟩ := Dp.reads I d v u hd ru
  have hu := Room.u64 hr
  cases rr with
  | none => exact PySem.P.repr_of_none ⟨.str _, H, I.tok _, ⟨_, by simp only [PyData.shown]; rfl⟩, q⟩
  | bool b => exact PySem.P.repr_of_bool ⟨.str _, H, I.tok _, ⟨_, by simp only [PyData.shown]; rfl⟩, q⟩
  | int i t => exact PySem.P.repr_of_int (by simpa [PyData.showable] using hs) ⟨.str _, H, I.tok _, ⟨_, by simp only [PyData.shown]; rfl⟩, q⟩
  | str x t => exact PySem.P.repr_of_str ⟨.str _, H, I.tok _, ⟨_, by simp only [PyData.shown]; rfl⟩, q⟩ (by simpa only [PyData.shown] using hz)
  | list h1 h2 h3 h4 =>
    exact repr_of_reads' (Reads.list h1 h2 h3 h4) hs (PyData.noDict_hsm (dp_noDict hd)) gd (by omega) (fun _ _ e => e) (fun h' u tk hk => ⟨.str _, H, I.kept hk, ⟨u, rfl⟩, q⟩) hz
  | tuple h1 h2 h3 h4 =>
    exact repr_of_reads' (Reads.tuple h1 h2 h3 h4) hs (PyData.noDict_hsm (dp_noDict hd)) gd (by omega) (fun _ _ e => e) (fun h' u tk hk => ⟨.str _, H, I.kept hk, ⟨u, rfl⟩, q⟩) hz
  | dict h1 h2 h3 h4 h5 => cases hd
/-- repr(a) == repr(b) -/
def okRepr (d : D) : Bool := okEq d && d.py.showable && decide (d.py.shown.length ≤ 16777216)
def reprEqE (fa fb : FE) : FE := fun ρ => bd (fa ρ) fun x => if okRepr x = true then bd (fb ρ) fun y => if okRepr y = true then rt (.bl (decide (x.py.shown = y.py.shown))) else no else no
theorem okRepr_of {d : D} (h : okRepr d = true) : okEq d = true ∧ d.py.showable = true ∧ d.py.depth ≤ 64 ∧ d.py.shown.length ≤ sizeLine := by
  unfold okRepr at h
  simp only [Bool.and_eq_true, decide_eq_true_eq] at h
  obtain ⟨⟨h1, h2⟩, h3⟩ := h
  refine ⟨h1, h2, ?_, line_le h3⟩
  unfold okEq at h1
  simp only [Bool.and_eq_true, decide_eq_true_eq] at h1
  exact h1.2
theorem me_reprEq {k : Nat} {p1 p2 pos1 pos2 : Pos} (hr : Room k X.A) (gd : X.A.guards = some []) (hm : X.mg "repr" = none) (ha : PE X a (tB X.K c E fa)) (hb : PE X b (tB X.K c E fb)) (hg : X.env.kindOf "repr" = some .globalImplicit := by kernel_rfl)
    (he : starEach [a] X.env = (false, eval a X.env) :: starEach [] X.env := by kernel_rfl) (hpl : (backTo pos1 (starEach [] X.env)).any (·.1) = false := by kernel_rfl) (he2 : starEach [b] X.env = (false, eval b X.env) :: starEach [] X.env := by kernel_rfl) (hpl2 : (backTo pos2 (starEach [] X.env)).any (·.1) = false := by kernel_rfl)
    (hmk : behindInMarks .Eq (.Call (.Name "repr" p2) [b] [] pos2) = false := by kernel_rfl) :
    PE X (.Compare (.Call (.Name "repr" p1) [a] [] pos1) [.Eq] [.Call (.Name "repr" p2) [b] [] pos2] pos) (tM X.K c E (reprEqE fa fb)) :=
  pe_imp (pe_cmpR op_eq (pe_callB (cr_repr hr gd) hg hm (by kernel_rfl) (pa_cons ha pa_nil he) (by decide +kernel) (by kernel_rfl) he hpl) (pe_callB (cr_repr hr gd) hg hm (by kernel_rfl) (pa_cons hb pa_nil he2) (by decide +kernel) (by kernel_rfl) he2 hpl2) hmk) fun σ H Q h => by
    obtain ⟨W, ρ, S, st, en, q⟩ := tM_un h
    refine then_B (O := OutM X.K c W H E Q) st en (fun _ _ _ z => z) (fun z => z) q fun d S1 W1 H1 v st1 k1 r1 q1 => ?_
    split at q1
    · rename_i ok1
      obtain ⟨z1, z2, z3, z4⟩ := okRepr_of ok1
      refine ⟨v, d.py, rfl, (okEq_shaped st1 r1 z1).1, z2, z3, z4, ?_⟩
      refine then_B (O := OutM X.K c W H E Q) st1 (en.ext k1) (fun _ _ _ z => ErQ.pre z k1 st1) (fun z => z) q1 fun d2 S2 W2 H2 u st2 k2 r2 q2 => ?_
      split at q2
      · rename_i ok2
        obtain ⟨y1, y2, y3, y4⟩ := okRepr_of ok2
        refine ⟨u, d2.py, rfl, (okEq_shaped st2 r2 y1).1, y2, y3, y4, rfl, ?_⟩
        have e : decide (V.str d.py.shown = V.str d2.py.shown) = decide (d.py.shown = d2.py.shown) := by
          rw [Bool.eq_iff_iff]
          simp
        rw [e]
        exact q2 W2 H2 _ st2 (k1.tr st1 k2) rfl
      · exact q2.elim
    · exact q1.elim
end
end Mini
namespace Mini
open PySem PySem.Spec PyProof.Rows L2 Evl
section
variable {X : Cx} {c : Cn} {E : XK} {a b e o tg : Expr} {es : List Expr} {fa fb fc fd : FE} {ga : FA} {x y : Str} {p pos apos cpos pa pos' : Pos} {i j : Nat}
/-! ### d.get(k, x) -/
def isDic : D → Bool
  | .dic _ => true
  | .dit _ => true
  | _ => false
def get2E (f g h : FE) : FE := fun ρ => bd (f ρ) fun d => if isDic d = true then bd (g ρ) fun k => bd (h ρ) fun z => lift ((dGetO d k).map fun o => o.getD z) else no
theorem isDic_at {K : PySem.W.Frag} {W : Wd} {H : Hp} {S : DS} {d : D} {v : V} (st : StOk K c W H S) (r : RepB K c W H d v) (h : isDic d = true) : ∃ a, v = .ref a ∧ IsD H a := by
  cases d <;> first | (cases h; done) | skip
  · obtain ⟨a, kvs, rfl, h1, _⟩ := r.dic st
    exact ⟨a, rfl, .inl ⟨kvs, .inl h1⟩⟩
  · obtain ⟨a, kvs, rfl, h1, _⟩ := r.dit st
    exact ⟨a, rfl, .inr ⟨kvs, .inl h1⟩⟩
theorem me_get2 {k : Nat} (hr : Room k X.A) (ho : PE X o (tB X.K c E fa)) (he : PE X e (tM X.K c E fb)) (hf : PE X b (tM X.K c E fc)) (m : M2 X o "get" apos e b cpos := by exact ⟨by kernel_rfl, by kernel_rfl, by kernel_rfl, by kernel_rfl⟩) :
    PE X (.Call (.Attribute o "get" apos) [e, b] [] cpos) (tM X.K c E (get2E fa fb fc)) := pe_imp (pe_dget2 (Room.small hr) ho he hf m) fun σ H Q h => by
  obtain ⟨W, ρ, S, st, en, q⟩ := tM_un h
  refine then_B (O := OutM X.K c W H E Q) st en (fun _ _ _ z => z) (fun z => z) q fun d S1 W1 H1 v st1 k1 r1 q1 => ?_
  split at q1
  · rename_i hd
    obtain ⟨ad, rfl, hI⟩ := isDic_at st1 r1 hd
    refine ⟨ad, rfl, hI, ?_⟩
    refine then_M (O := OutM X.K c W H E Q) st1 (en.ext k1) (fun _ _ _ z => ErQ.pre z k1 st1) (fun z => z) q1 fun kd S2 W2 H2 u st2 k2 r2 q2 => ?_
    have k12 := k1.tr st1 k2
    refine then_M (O := OutM X.K c W H E Q) st2 ((en.ext k1).ext k2) (fun _ _ _ z => ErQ.pre z k12 st2) (fun z => z) q2 fun zd S3 W3 H3 z st3 k3 r3 q3 => ?_
    have k13 := k12.tr st2 k3
    obtain ⟨d', e', q4⟩ := lift_ok (β := D) (O := OutM X.K c W H E Q) (fun z => z) q3
    obtain ⟨o, ho, rfl⟩ := Option.map_eq_some_iff.mp e'
    obtain ⟨a2, ov, ea, _, g, rr⟩ := dget_rep st3 ((r1.ext k2).ext k3) (.inl (Rep.ext k3.wex _ _ r2)) ho
    cases ea
    exact ⟨ov, g, q4 W3 H3 _ st3 k13 (rr.getD r3)⟩
  · exact q1.elim
/-! ### x[k] = v -/
def putO (o k d : D) : Option D := match o with
  | .lst ds => (match k with
    | .int n => (ixN ds.length n).map fun j => .lst (ds.set j d)
    | _ => none)
  | .dic es => (keyD k).bind fun kk => if es.length < 16777216 then some (.dic (putD es kk d)) else none
  | .dit es => (match k with
    | .tup ks => (keysL ks).bind fun kk => if es.length < 16777216 then some (.dit (putD es kk d)) else none
    | _ => none)
  | _ => none
def ownS (ρ : En) (i : Nat) : Option D := match ρ[i]? with
  | some (.ow d) => some d
  | _ => none
theorem ownS_some {ρ : En} {i : Nat} {d : D} (h : ownS ρ i = some d) : ρ[i]? = some (.ow d) := by
  unfold ownS at h
  split at h
  · cases h; assumption
  · cases h
def putS (i : Nat) (f fk : FE) : FS := fun ρ => bd (f ρ) fun d => bd (lift (ownS ρ i)) fun o => bd (fk ρ) fun k => bd (lift (putO o k d)) fun o' => rt (.nx (setO i o' ρ))
theorem repL_set {K : PySem.W.Frag} {W : Wd} : ∀ {ds : List D} {vs : List V} {d : D} {v : V} (j : Nat), RepL K c W ds vs → Rep K c W d v → RepL K c W (ds.set j d) (vs.set j v)
  | [], vs, d, v, j, r, h => by cases r; rfl
  | e :: ds, vs, d, v, 0, r, h => by
    obtain ⟨u, r', rfl, r1, r2⟩ := r
    exact ⟨v, r', rfl, h, r2⟩
  | e :: ds, vs, d, v, j + 1, r, h => by
    obtain ⟨u, r', rfl, r1, r2⟩ := r
    exact ⟨u, _, rfl, r1, repL_set j r2 h⟩
theorem set_all {k : Nat} (hr : Room k X.A) : PSet X (fun o i v H Q => rSetL o i v H Q ∨ rSetD o i v H Q) := by
  intro pins s σ H o i v ov iv u Q I r1 r2 r3 h
  rcases h with h | h
  · exact set_list pins s σ H o i v ov iv u Q I r1 r2 r3 h
  · exact set_dict (Room.small hr) pins s σ H o i v ov iv u Q I r1 r2 r3 h
theorem put_own {K : PySem.W.Frag} {W : Wd} {H : Hp} {S : DS} {ad : Addr} {o o' d k : D} {v u : V} (st : StOk K c W H S) (own : Own K c W H ad o) (rv : Rep K c W d v) (rk : Rep K c W k u) (h : putO o k d = some o') (Q : Hp → Prop) (q : ∀ ob, Own K c W (upd H ad ob) ad o' → Q (upd H ad ob)) :
    rSetL (.ref ad) u v H Q ∨ rSetD (.ref ad) u v H Q := by
  cases o <;> first | (cases h; done) | skip
  · cases k <;> first | (cases h; done) | skip
    obtain ⟨j, h1, rfl⟩ := Option.map_eq_some_iff.mp h
    obtain ⟨vs, h2, h3⟩ := own
    cases rk
    exact .inl ⟨ad, vs, _, j, rfl, rfl, h2, by rw [RepL.length h3]; exact h1, q _ ⟨_, upd_same, repL_set j h3 rv⟩⟩
  · obtain ⟨kk, h1, h2⟩ := Option.bind_eq_some_iff.mp h
    split at h2
    · rename_i hl
      cases h2
      obtain ⟨kvs, h3, h4⟩ := own
      have e := key_rep' rk h1
      subst e
      exact .inr ⟨ad, _, rfl, DPut.k h3 (line_lt (by rw [repE_len h4]; exact hl)), q _ ⟨_, upd_same, putE_rep h4 rv⟩⟩
    · cases h2
  · cases k <;> first | (cases h; done) | skip
    obtain ⟨kk, h1, h2⟩ := Option.bind_eq_some_iff.mp h
    split at h2
    · rename_i hl
      cases h2
      obtain ⟨kvs, h3, h4⟩ := own
      obtain ⟨b, vs, rfl, h5, h6⟩ := rk
      have e := keys_rep h6 h1
      subst e
      exact .inr ⟨ad, _, rfl, DPut.t h3 (st.sub _ _ h5) (line_lt (by rw [repT_len h4]; exact hl)), q _ ⟨_, upd_same, putT_rep h4 rv⟩⟩
    · cases h2
theorem ms_put1 {k : Nat} {kx : Expr} (hr : Room k X.A) (he : PE X e (tM X.K c E fa)) (hk : PE X kx (tM X.K c E fb)) (hN : X.N[i]? = some x) (hv : Vis X.env.scope x) (hd : (x == ("__debug__" : Str)) = false) (hcd : (x == ("__classdict__" : Str)) = false)
    (hA : ∀ v, assign (.Subscript (.Name x pa) kx pos') X.env v = (do
      let ov ← holding [v] (eval (.Name x pa) X.env)
      let iv ← holding [v, ov] (eval kx X.env)
      standAt pos'
      holding [v, ov, iv] (setItem ov iv v)
      release [v, ov, iv] []))
    (hs : swapsWithSole [.Subscript (.Name x pa) kx pos'] e pos.line X.env = pure false) (hw : swappedStores [.Subscript (.Name x pa) kx pos'] e X.env = pure none)
    (h1 : (assignEach [.Subscript (.Name x pa) kx pos'] X.env).map (·.2) = [assign (.Subscript (.Name x pa) kx pos') X.env]) : PS X (.Assign [.Subscript (.Name x pa) kx pos'] e pos) (tS X.K c E (putS i fa fb)) :=
  ps_imp (ps_asg he (pg_sub (pe_var hN hv hd hcd) hk (set_all hr) hA) hs hw h1) fun D' σ H q => by
    obtain ⟨W, ρ, S, st, en, q⟩ := q
    refine thenS_M st en q fun d S1 W1 H1 v st1 en1 k1 r1 q1 => ?_
    unfold bd at q1
    cases e1 : ownS ρ i with
    | none => rw [e1] at q1; exact q1.elim
    | some o =>
      rw [e1] at q1
      have hi := ownS_some e1
      obtain ⟨ad, a1, a2, a3, a4⟩ := en1.ow i _ hi
      refine ⟨_, a1, thenS_M st1 en1 q1 fun kd S2 W2 H2 u st2 en2 k2 r2 q2 => ?_⟩
      unfold bd at q2
      cases e2 : putO o kd d with
      | none => rw [e2] at q2; exact q2.elim
      | some o' =>
        rw [e2] at q2
        obtain ⟨ad2, b1, b2, b3, b4⟩ := en2.ow i _ hi
        rw [a1] at b1
        cases b1
        refine put_own st2 b4 (Rep.ext k2.wex d v r1) r2 e2 _ fun ob ow => ?_
        obtain ⟨s5, e5, p5⟩ := own_write (o := ob) (d' := o') st2 en2 hi a1 ow
        exact q2 W2 _ σ s5 e5 p5
theorem ms_putL {k : Nat} {kx : Expr} (hr : Room k X.A) (he : PE X e (tM X.K c E fa)) (hk : PE X kx (tM X.K c E fb)) (hN : X.N[i]? = some x := by kernel_rfl) (hv : X.env.scope.names.lookup x = some .local := by kernel_rfl) (hd : (x == ("__debug__" : Str)) = false := by kernel_rfl) (hcd : (x == ("__classdict__" : Str)) = false := by kernel_rfl)
    (hA : ∀ v, assign (.Subscript (.Name x pa) kx pos') X.env v = (do
      let ov ← holding [v] (eval (.Name x pa) X.env)
      let iv ← holding [v, ov] (eval kx X.env)
      standAt pos'
      holding [v, ov, iv] (setItem ov iv v)
      release [v, ov, iv] []) := by intro _; kernel_rfl)
    (hs : swapsWithSole [.Subscript (.Name x pa) kx pos'] e pos.line X.env = pure false := by kernel_rfl) (hw : swappedStores [.Subscript (.Name x pa) kx pos'] e X.env = pure none := by kernel_rfl)
    (h1 : (assignEach [.Subscript (.Name x pa) kx pos'] X.env).map (·.2) = [assign (.Subscript (.Name x pa) kx pos') X.env] := by kernel_rfl) : PS X (.Assign [.Subscript (.Name x pa) kx pos'] e pos) (tS X.K c E (putS i fa fb)) := ms_put1 hr he hk hN (.inl hv) hd hcd hA hs hw h1
theorem ms_putC {k : Nat} {kx : Expr} (hr : Room k X.A) (he : PE X e (tM X.K c E fa)) (hk : PE X kx (tM X.K c E fb)) (hN : X.N[i]? = some x := by kernel_rfl) (hv : X.env.scope.names.lookup x = some .cell := by kernel_rfl) (hd : (x == ("__debug__" : Str)) = false := by kernel_rfl) (hcd : (x == ("__classdict__" : Str)) = false := by kernel_rfl)
    (hA : ∀ v, assign (.Subscript (.Name x pa) kx pos') X.env v = (do
      let ov ← holding [v] (eval (.Name x pa) X.env)
      let iv ← holding [v, ov] (eval kx X.env)
      standAt pos'
      holding [v, ov, iv] (setItem ov iv v)
      release [v, ov, iv] []) := by intro _; kernel_rfl)
    (hs : swapsWithSole [.Subscript (.Name x pa) kx pos'] e pos.line X.env = pure false := by kernel_rfl) (hw : swappedStores [.Subscript (.Name x pa) kx pos'] e X.env = pure none := by kernel_rfl)
    (h1 : (assignEach [.Subscript (.Name x pa) kx pos'] X.env).map (·.2) = [assign (.Subscript (.Name x pa) kx pos') X.env] := by kernel_rfl) : PS X (.Assign [.Subscript (.Name x pa) kx pos'] e pos) (tS X.K c E (putS i fa fb)) := ms_put1 hr he hk hN (.inr (.inl hv)) hd hcd hA hs hw h1
/-! ### {} -/
def dicE : FE := fun _ => rt (.dic [])
def ditE : FE := fun _ => rt (.dit [])
theorem me_dicK : PE X (.Dict [] [] pos) (tO X.K c E dicE) := pe_imp pe_dnewK fun σ H Q h => by
  obtain ⟨W, ρ, S, st, en, q⟩ := tO_un h
  exact fun l hl => q W _ _ (new_st st hl) (new_keep st hl) ⟨l, rfl, hl, fresh_back st.sub hl, sa_ne st hl, [], upd_same, rfl⟩
theorem me_dicT : PE X (.Dict [] [] pos) (tO X.K c E ditE) := pe_imp pe_dnewT fun σ H Q h => by
  obtain ⟨W, ρ, S, st, en, q⟩ := tO_un h
  exact fun l hl => q W _ _ (new_st st hl) (new_keep st hl) ⟨l, rfl, hl, fresh_back st.sub hl, sa_ne st hl, [], upd_same, rfl⟩
/-! ### sorted: ints -/
def insI (n : Int) : List Int → List Int
  | [] => [n]
  | m :: ms => if n ≤ m then n :: m :: ms else m :: insI n ms
def sortI : List Int → List Int
  | [] => []
  | n :: ns => insI n (sortI ns)
theorem insI_perm (n : Int) : ∀ ms : List Int, (insI n ms).Perm (n :: ms)
  | [] => List.Perm.refl _
  | m :: ms => by
    unfold insI
    split
    · exact List.Perm.refl _
    · exact ((insI_perm n ms).cons m).trans (List.Perm.swap n m ms)
theorem insI_sorted (n : Int) : ∀ ms : List Int, ms.Pairwise (· ≤ ·) → (insI n ms).Pairwise (· ≤ ·)
  | [], _ => by simp [insI]
  | m :: ms, h => by
    rw [List.pairwise_cons] at h
    unfold insI
    split
    · rename_i hn
      refine List.pairwise_cons.mpr ⟨fun x hx => ?_, List.pairwise_cons.mpr h⟩
      rcases List.mem_cons.mp hx with rfl | hx
      · exact hn
      · exact Int.le_trans hn (h.1 x hx)
    · rename_i hn
      refine List.pairwise_cons.mpr ⟨fun x hx => ?_, insI_sorted n ms h.2⟩
      rcases List.mem_cons.mp ((insI_perm n ms).mem_iff.mp hx) with rfl | hx
      · omega
      · exact h.1 x hx
theorem sortI_perm : ∀ ns : List Int, (sortI ns).Perm ns
  | [] => List.Perm.refl _
  | n :: ns => (insI_perm n _).trans ((sortI_perm ns).cons n)
theorem sortI_sorted : ∀ ns : List Int, (sortI ns).Pairwise (· ≤ ·)
  | [] => List.Pairwise.nil
  | n :: ns => insI_sorted n _ (sortI_sorted ns)
theorem sortI_unique {ns ys : List Int} (h1 : ys.Perm ns) (h2 : ys.Pairwise (· ≤ ·)) : ys = sortI ns :=
  List.Perm.eq_of_pairwise (fun a b _ _ => Int.le_antisymm) h2 (sortI_sorted ns) (h1.trans (sortI_perm ns).symm)
def keyI : List (Key × D) → Option (List Int)
  | [] => some []
  | (.inl n, _) :: es => (keyI es).map fun ns => n :: ns
  | (.inr _, _) :: _ => none
def dSorted : D → Option D
  | .lst ds => (intsOf ds).map fun ns => .lst ((sortI ns).map .int)
  | .dic es => if es.length < 64 then (keyI es).map fun ns => .lst ((sortI ns).map .int) else none
  | _ => none
theorem keyI_rep {K : PySem.W.Frag} {W : Wd} : ∀ {es : List (Key × D)} {ns : List Int} {kvs : List (Key × V)}, RepE K c W es kvs → keyI es = some ns → kvs.map (·.1) = ns.map Sum.inl
  | [], ns, kvs, r, h => by cases r; cases h; rfl
  | (.inl n, d) :: es, ns, kvs, r, h => by
    obtain ⟨v, r', rfl, r1, r2⟩ := r
    obtain ⟨ms, h1, rfl⟩ := Option.map_eq_some_iff.mp h
    simp only [List.map_cons, keyI_rep r2 h1]
  | (.inr s, d) :: es, ns, kvs, r, h => by cases h
theorem keyI_len : ∀ {es : List (Key × D)} {ns : List Int}, keyI es = some ns → ns.length = es.length
  | [], ns, h => by cases h; rfl
  | (.inl n, d) :: es, ns, h => by
    obtain ⟨ms, h1, rfl⟩ := Option.map_eq_some_iff.mp h
    simp only [List.length_cons, keyI_len h1]
  | (.inr s, d) :: es, ns, h => by cases h
def rSortedAll (K : PySem.W.Frag) : R1 := fun vs H Q => rSortedI K vs H Q ∨ (∃ (a : Addr) (kvs : List (Key × V)) (ks : List Int), vs = [.ref a] ∧ Rd H a (.dK kvs) ∧ kvs.map (·.1) = ks.map Sum.inl ∧ ks.length < 64 ∧
    ∀ (ys : List Int) (p : Addr), ys.Perm ks → ys.Pairwise (· ≤ ·) → H p = none → Q (.ref p) (upd H p (.lst (ys.map V.int))))
theorem cr_sortedAll (hc : X.calm = true) : CallR X (.builtin "sorted") (rSortedAll X.K) := by
  intro pins s σ H xs us Q I r h
  rcases h with h | h
  · exact cr_sortedI pins s σ H xs us Q I r h
  · exact call_sortedD' pins s σ H xs us Q I r h
where call_sortedD' := @call_sortedDI X hc
theorem u_sorted : UnO X.K c (rSortedAll X.K) dSorted := fun {W H S d d' v} Q st a q k => by
  cases d <;> first | (cases q; done) | skip
  · obtain ⟨ns, e2, rfl⟩ := Option.map_eq_some_iff.mp q
    obtain ⟨p, vs, rfl, h1, r1⟩ := a.lst st
    have e3 := ints_rep e2 r1
    subst e3
    refine .inl ⟨p, ns, rfl, SqL.of h1, fun ys l hp hs hn => ?_⟩
    rw [sortI_unique hp hs]
    exact k _ _ _ (new_st st hn) (new_keep st hn) (new_own st hn (repL_ints _))
  · simp only [dSorted] at q
    split at q
    · rename_i hl
      obtain ⟨ns, e2, rfl⟩ := Option.map_eq_some_iff.mp q
      obtain ⟨p, kvs, rfl, h1, r1⟩ := a.dic st
      refine .inr ⟨p, kvs, ns, rfl, .inl h1, keyI_rep r1 e2, by rw [keyI_len e2]; exact hl, fun ys l hp hs hn => ?_⟩
      rw [sortI_unique hp hs]
      exact k _ _ _ (new_st st hn) (new_keep st hn) (new_own st hn (repL_ints _))
    · cases q
end
end Mini
namespace Mini
open PySem PySem.Spec PyProof.Rows L2 Evl
/-! ### dict comprehensions, keys ints or texts -/
def dcL (t : TGd) (test : FB) (kf vf : FE) : List D → List (Key × D) → En → M (List (Key × D))
  | [], acc, _ => rt acc
  | d :: ds, acc, ρ => bd (lift (t d ρ)) fun ρ1 => bd (noEr (test ρ1)) fun k =>
      if k = true then bd (noEr (kf ρ1)) fun kd => bd (noEr (vf ρ1)) fun x => match keyD kd with
        | some kk => if acc.length < 16777216 then dcL t test kf vf ds (putD acc kk x) ρ else no
        | none => no
      else dcL t test kf vf ds acc ρ
def dcE (it : FI) (t : TGd) (test : FB) (kf vf : FE) (vs : List Nat) : FE := fun ρ => bd (it ρ) fun ds => bd (noEr (dcL t test kf vf ds [] (wipeR ρ vs))) fun r => rt (.dic r)
section
variable {K : PySem.W.Frag} {c : Cn} {W W' : Wd} {H H' : Hp}
def AccE (K : PySem.W.Frag) (c : Cn) (W : Wd) (H : Hp) (D : Addr) (acc : List (Key × Mini.D)) : Prop := W.H0 D = none ∧ W.sa ≠ some D ∧ ∃ vs, H D = some (.dK vs) ∧ RepE K c W acc vs
theorem AccE.ext {D : Addr} {acc : List (Key × Mini.D)} (a : AccE K c W H D acc) (k : Keep W H W' H') : AccE K c W' H' D acc := by
  obtain ⟨h1, h2, vs, h3, h4⟩ := a
  exact ⟨k.fr D _ h3 h1, fun e => h2 (k.sa D _ h3 e), vs, k.old D _ h3 h2, RepE.ext k.wex acc vs h4⟩
def OutK (K : PySem.W.Frag) (c : Cn) (W : Wd) (H : Hp) (D : Addr) (Qd : Hp → Prop) : Res (List (Key × Mini.D)) → Prop
  | .ok r S' => ∀ W' H', StOk K c W' H' S' → KeepD W H D W' H' → AccE K c W' H' D r → Qd H'
  | .er _ _ _ => False
  | .no => False
end
section
variable {X : Cx} {c : Cn} {E : XK} {kx vx tg iter : Expr} {ifs : List Expr} {scope : Scope} {own : List (Str × Nat)} {pos : Pos} {it : FI} {td : TGd} {test : FB} {fk fv : FE}
theorem dc_out {own : List Nat} : ∀ σ H Q, tO X.K c E (dcE it td test fk fv own) σ H Q → tDc (tI X.K c E it) (tGd X.K c own td) (tT X.K c EF test) (tM X.K c EF fk) (tM X.K c EF fv) own σ H Q := fun σ H Q h => by
  obtain ⟨W, ρ, S, st, en, q⟩ := tO_un h
  refine ⟨W, ρ, S, st, en, ?_⟩
  unfold dcE bd at q
  cases e0 : it ρ S with
  | er n p S' => rw [e0] at q; exact q
  | no => rw [e0] at q; exact q
  | ok ds S0 =>
    rw [e0] at q
    intro W0 H0 J st0 k0 wk Dl hD
    have en0 := (en.ext k0).wipe own
    have st1 := new_st (o := .dK []) st0 hD
    have kD : Keep W0 H0 W0 (upd H0 Dl (.dK [])) := new_keep st0 hD
    have noOwn : ∀ (i : Nat) (d : Mini.D), (wipeR ρ own)[i]? = some (.ow d) → (L2.wipe σ own)[i]? ≠ some (some (.ref Dl)) := fun i d h1 h2 => by
      obtain ⟨a, h3, _, _, h4⟩ := en0.ow i d h1
      rw [h2] at h3
      cases h3
      obtain ⟨o, ho⟩ := h4.some
      rw [hD] at ho
      cases ho
    have q0 : OutK X.K c W0 (upd H0 Dl (.dK [])) Dl (fun H1 => Q (.ref Dl) H1) (dcL td test fk fv ds [] (wipeR ρ own) S0) := by
      change OutO X.K c W H E Q (bd (noEr (dcL td test fk fv ds [] (wipeR ρ own))) (fun r => rt (.dic r)) S0) at q
      unfold bd noEr at q
      cases e1 : dcL td test fk fv ds [] (wipeR ρ own) S0 with
      | no => rw [e1] at q; exact q
      | er n p S' => rw [e1] at q; exact q
      | ok r S' =>
        rw [e1] at q
        rintro W' H' st' k' ⟨a1, a2, vs, a3, a4⟩
        have there := (kD.toS (σ := []) (ρ := []) st1).there
        have kk : Keep W0 H0 W' H' := by
          refine ⟨k'.wex, fun b o h n => k'.old b o (kD.old b o h n) n fun z => ?_, fun b o h n => ?_, fun b o h e => ?_⟩
          · rw [z, hD] at h
            cases h
          · obtain ⟨o', ho'⟩ := there b o h
            exact k'.fr b o' ho' n
          · obtain ⟨o', ho'⟩ := there b o h
            exact k'.sa b o' ho' e
        refine q W' H' _ st' (k0.tr st0 kk) (RepO.pre (H0 := H) k0 (fun b e => st0.ds.at (k0.wex.2 b e)) ⟨Dl, rfl, hD, a1, a2, vs, a3, a4⟩)
    refine ⟨fun i m H1 => m = ds.length - i ∧ i ≤ ds.length ∧ ∃ W1 S1 acc, StOk X.K c W1 H1 S1 ∧ KeepD W0 (upd H0 Dl (.dK [])) Dl W1 H1 ∧ AccE X.K c W1 H1 Dl acc ∧ OutK X.K c W0 (upd H0 Dl (.dK [])) Dl (fun H1 => Q (.ref Dl) H1) (dcL td test fk fv (ds.drop i) acc (wipeR ρ own) S1),
      ⟨ds.length, rfl, Nat.zero_le _, W0, S0, [], st1, (Keep.refl _ _).toD st1, ⟨fresh_back st0.sub hD, sa_ne st0 hD, [], upd_same, rfl⟩, q0⟩, ?_⟩
    rintro i m H1 ⟨rfl, hi, W1, S1, acc, st1, k1, ac1, q1⟩
    have ex1 : Ex W0.H0 H1 := k1.wex.1.trans st1.sub
    by_cases hlt : i < ds.length
    · refine .inr ⟨wk.go i H1 hlt ex1, fun H2 => ∃ W2 S2 acc2, StOk X.K c W2 H2 S2 ∧ KeepD W0 (upd H0 Dl (.dK [])) Dl W2 H2 ∧ AccE X.K c W2 H2 Dl acc2 ∧ OutK X.K c W0 (upd H0 Dl (.dK [])) Dl (fun H1 => Q (.ref Dl) H1) (dcL td test fk fv (ds.drop (i + 1)) acc2 (wipeR ρ own) S2), fun H2 n2 => ⟨ds.length - (i + 1), by omega, rfl, hlt, n2⟩, fun x H2 y => ?_⟩
      have hd : ds[i]? = some ds[i] := List.getElem?_eq_getElem hlt
      rw [List.drop_eq_getElem_cons hlt] at q1
      unfold dcL bd at q1
      cases e1 : td ds[i] (wipeR ρ own) with
      | none => rw [e1] at q1; exact q1.elim
      | some ρ2 =>
        rw [e1] at q1
        obtain ⟨W2, st2, kk2, r2⟩ := (wk.yld i H1 x H2 _ hd ex1 y).lay st1 k1.wex
        have en1 : EnvOk X.K c W1 H1 (L2.wipe σ own) (wipeR ρ own) := (en0.ext kD).extD k1 noOwn
        refine ⟨W2, wipeR ρ own, S1, ds[i], ρ2, st2, en1.ext kk2, r2, e1, fun σ3 en3 o3 w3 => ⟨w3.trans (wipe_wipe own own fun _ z => z), ?_⟩⟩
        change OutK X.K c W0 (upd H0 Dl (.dK [])) Dl (fun H1 => Q (.ref Dl) H1) (bd (noEr (test ρ2)) _ S1) at q1
        refine thenC_T (O := OutK X.K c W0 (upd H0 Dl (.dK [])) Dl fun H1 => Q (.ref Dl) H1) st2 en3 (fun z => z) q1 fun k S3 W3 H3 st3 k3 q3 => ?_
        have ac3 := (ac1.ext kk2).ext k3
        have kk3 := (k1.trans (kk2.toD st2)).trans (k3.toD st3)
        cases k with
        | false => exact ⟨W3, S3, acc, st3, kk3, ac3, q3⟩
        | true =>
          refine thenC_M (O := OutK X.K c W0 (upd H0 Dl (.dK [])) Dl fun H1 => Q (.ref Dl) H1) st3 (en3.ext k3) (fun z => z) q3 fun d4 S4 W4 H4 v4 st4 k4 r4 q4 => ?_
          refine thenC_M (O := OutK X.K c W0 (upd H0 Dl (.dK [])) Dl fun H1 => Q (.ref Dl) H1) st4 ((en3.ext k3).ext k4) (fun z => z) q4 fun d5 S5 W5 H5 v5 st5 k5 r5 q5 => ?_
          obtain ⟨a1, a2, vs, a3, a4⟩ := (ac3.ext k4).ext k5
          cases ek : keyD d4 with
          | none => rw [ek] at q5; exact q5.elim
          | some kk =>
            rw [ek] at q5
            dsimp only at q5
            split at q5
            · rename_i hlen
              obtain ⟨s6, k6⟩ := upd_D (o := .dK (putK vs kk v5)) st5 a1 a2 ⟨_, a3⟩
              refine ⟨vs, kk, key_rep' r4 ek, a3, line_lt (by rw [repE_len a4]; exact hlen), W5, S5, putD acc kk d5, s6, ((kk3.trans (k4.toD st4)).trans (k5.toD st5)).trans k6, ⟨a1, a2, _, upd_same, putE_rep a4 r5⟩, q5⟩
            · exact q5.elim
    · have ei : i = ds.length := by omega
      subst ei
      refine .inl ⟨wk.stop H1 ex1, ?_⟩
      rw [List.drop_length] at q1
      exact q1 W1 H1 st1 k1 ac1
theorem me_dc (hc : X.calm = true) (hN : X.N.Nodup) (hi : PI X tg iter (tI X.K c E it)) (ok : BlkOk X.N X.env.scope scope own)
    (hg : ∀ (s : Shared) (H : Hp) (C : Addr) (cl : List (Str × Addr)) (fp : List Addr), PG (X.blk s H scope (compEnvC scope cl C X.env) fp) tg (tGd X.K c (own.map (·.2)) td))
    (ht : ∀ (s : Shared) (H : Hp) (C : Addr) (cl : List (Str × Addr)) (fp : List Addr), PTs (X.blk s H scope (compEnvC scope cl C X.env) fp) ifs (tT X.K c EF test))
    (hk : ∀ (s : Shared) (H : Hp) (C : Addr) (cl : List (Str × Addr)) (fp : List Addr), PE (X.blk s H scope (compEnvC scope cl C X.env) fp) kx (tM X.K c EF fk))
    (he : ∀ (s : Shared) (H : Hp) (C : Addr) (cl : List (Str × Addr)) (fp : List Addr), PE (X.blk s H scope (compEnvC scope cl C X.env) fp) vx (tM X.K c EF fv)) (hs : ∀ x, foldedSetIterable iter X.env x = pure x := by intro _; rfl) :
    PE X (.DictComp kx vx [⟨tg, iter, ifs, 0⟩] scope pos) (tO X.K c E (dcE it td test fk fv (own.map (·.2)))) := pe_imp (pe_dc hc hN hi ok hg ht hk he hs) dc_out
end
/-! ### three comparisons in a row -/
def cmpB (f : D → D → Option D) (x y : D) : Option Bool := (f x y).bind isBl
def chn3 (f g h : D → D → Option D) (a b c d : FE) : FB := fun ρ => bd (a ρ) fun x => bd (b ρ) fun y => bd (lift (cmpB f x y)) fun k =>
  if k = true then bd (c ρ) fun u => bd (lift (cmpB g y u)) fun k => if k = true then bd (d ρ) fun w => lift (cmpB h u w) else rt false else rt false
theorem cmpB_some {f : D → D → Option D} {x y : D} {k : Bool} (h : cmpB f x y = some k) : f x y = some (.bl k) := by
  unfold cmpB at h
  obtain ⟨z, h1, h2⟩ := Option.bind_eq_some_iff.mp h
  cases z <;> first | (cases h2; done) | skip
  cases h2
  exact h1
def tChn3 (r r' r'' : R2) (ta tb tc td : TE) : TT := fun σ H Q => ta σ H fun x H1 => tb σ H1 fun y H2 => r x y H2 fun z H3 => ∃ k, z = .bl k ∧
  (if k = true then tc σ H3 fun u H4 => r' y u H4 fun z H5 => ∃ k, z = .bl k ∧ (if k = true then td σ H5 fun w H6 => r'' u w H6 fun z H7 => ∃ k, z = .bl k ∧ Q k H7 else Q false H5) else Q false H3)
section
variable {X : Cx} {cn : Cn} {E : XK} {a b c d : Expr} {fa fb fc fd : FE} {ta tb tc td : TE} {pos : Pos} {op op' op'' : CmpOp} {f g h : D → D → Option D} {r r' r'' : R2}
theorem pt_chn3 (ho : OpR X (compareOp op) r) (ho' : OpR X (compareOp op') r') (ho'' : OpR X (compareOp op'') r'') (ha : PE X a ta) (hb : PE X b tb) (hc : PE X c tc) (hd : PE X d td) (hm : lastMarks [op, op', op''] [b, c, d] = false) :
    PT X (.Compare a [op, op', op''] [b, c, d] pos) (tChn3 r r' r'' ta tb tc td) := by
  refine ⟨fun pins s σ H Q I q => ?_⟩
  refine isTrue_chain (thn (ha.run pins s σ H _ I q) fun v s1 ⟨x, H1, I1, r1, q1⟩ => test_link (thn (hb.run pins s1 σ H1 _ I1 q1) fun u s2 ⟨y, H2, I2, r2, q2⟩ =>
    thn (ho pins s2 σ H2 x y v u _ I2 r1 r2 q2) fun _ s3 ⟨z, H3, I3, r3, k, e, q3⟩ => ?_)) hm
  subst e
  cases r3
  refine wpAny_truthy_bool ?_
  cases k with
  | false => exact ite_ff ⟨H3, I3, q3⟩
  | true =>
    refine ite_tt (test_link (thn (hc.run pins s3 σ H3 _ I3 q3) fun w s4 ⟨y', H4, I4, r4, q4⟩ => thn (ho' pins s4 σ H4 y y' u w _ I4 r2 r4 q4) fun _ s5 ⟨z2, H5, I5, r5, k2, e2, q5⟩ => ?_))
    subst e2
    cases r5
    refine wpAny_truthy_bool ?_
    cases k2 with
    | false => exact ite_ff ⟨H5, I5, q5⟩
    | true =>
      refine ite_tt (test_last (thn (hd.run pins s5 σ H5 _ I5 q5) fun w' s6 ⟨y3, H6, I6, r6, q6⟩ => thn (ho'' pins s6 σ H6 y' y3 w w' _ I6 r4 r6 q6) fun _ s7 ⟨z3, H7, I7, r7, k3, e3, q7⟩ => ?_))
      subst e3
      cases r7
      exact wpAny_truthy_bool ⟨H7, I7, q7⟩
theorem mt_chain3 (ho : OpR X (compareOp op) r) (ho' : OpR X (compareOp op') r') (ho'' : OpR X (compareOp op'') r'') (h1 : OpM X.K cn r f) (h2 : OpM X.K cn r' g) (h3 : OpM X.K cn r'' h) (ha : PE X a (tB X.K cn E fa)) (hb : PE X b (tB X.K cn E fb)) (hc : PE X c (tB X.K cn E fc)) (hd : PE X d (tB X.K cn E fd))
    (hm : lastMarks [op, op', op''] [b, c, d] = false := by kernel_rfl) : PT X (.Compare a [op, op', op''] [b, c, d] pos) (tT X.K cn E (chn3 f g h fa fb fc fd)) := pt_imp (pt_chn3 ho ho' ho'' ha hb hc hd hm) fun σ H Q z => by
  obtain ⟨W, ρ, S, st, en, q⟩ := tT_un z
  refine then_B (O := OutT X.K cn W H E Q) st en (fun _ _ _ z => z) (fun z => z) q fun d1 S1 W1 H1 v st1 k1 r1 q1 => ?_
  refine then_B (O := OutT X.K cn W H E Q) st1 (en.ext k1) (fun _ _ _ z => ErQ.pre z k1 st1) (fun z => z) q1 fun d2 S2 W2 H2 u st2 k2 r2 q2 => ?_
  have k12 := k1.tr st1 k2
  have en2 := (en.ext k1).ext k2
  change OutT X.K cn W H E Q (bd (lift (cmpB f d1 d2)) _ S2) at q2
  unfold bd at q2
  cases e1 : cmpB f d1 d2 with
  | none => rw [e1] at q2; exact q2.elim
  | some kb =>
    rw [e1] at q2
    refine h1 _ st2 (r1.ext k2) r2 (cmpB_some e1) fun W3 H3 x st3 k3 rx => ?_
    cases rx
    refine ⟨kb, rfl, ?_⟩
    have k13 := k12.tr st2 k3
    cases kb with
    | false => exact q2 W3 H3 st3 k13
    | true =>
      refine then_B (O := OutT X.K cn W H E Q) st3 (en2.ext k3) (fun _ _ _ z => ErQ.pre z k13 st3) (fun z => z) q2 fun d4 S4 W4 H4 u4 st4 k4 r4 q4 => ?_
      have k14 := k13.tr st3 k4
      change OutT X.K cn W H E Q (bd (lift (cmpB g d2 d4)) _ S4) at q4
      unfold bd at q4
      cases e2 : cmpB g d2 d4 with
      | none => rw [e2] at q4; exact q4.elim
      | some kb2 =>
        rw [e2] at q4
        refine h2 _ st4 ((r2.ext k3).ext k4) r4 (cmpB_some e2) fun W5 H5 x st5 k5 rx => ?_
        cases rx
        refine ⟨kb2, rfl, ?_⟩
        have k15 := k14.tr st4 k5
        cases kb2 with
        | false => exact q4 W5 H5 st5 k15
        | true =>
          refine then_B (O := OutT X.K cn W H E Q) st5 (((en2.ext k3).ext k4).ext k5) (fun _ _ _ z => ErQ.pre z k15 st5) (fun z => z) q4 fun d6 S6 W6 H6 u6 st6 k6 r6 q6 => ?_
          obtain ⟨kb3, e3, q7⟩ := lift_ok (β := Bool) (O := OutT X.K cn W H E Q) (fun z => z) q6
          refine h3 _ st6 ((r4.ext k5).ext k6) r6 (cmpB_some e3) fun W7 H7 x st7 k7 rx => ?_
          cases rx
          exact ⟨kb3, rfl, q7 W7 H7 st7 ((k15.tr st5 k6).tr st6 k7)⟩
end
end Mini
namespace Mini
open PySem PySem.Spec PyProof.Rows L2 Evl
section
variable {K : PySem.W.Frag} {c : Cn} {W W1 W2 W' : Wd} {H H1 H2 H' : Hp} {S S1 S2 S' : DS} {σ σ1 σ2 σ' : L2.St} {ρ ρ1 ρ2 ρ' : En} {E : XK}
theorem then_O {f : FE} {β : Type} {g : D → M β} {Q : VK} {O : Res β → Prop} (st : StOk K c W H S) (en : EnvOk K c W H σ ρ) (hO : ∀ n p S', O (.er n p S') → ErQ K c W H E n p S') (hN : ¬ O .no)
    (h : O (bd (f ρ) g S)) (k : ∀ d S' W' H' v, StOk K c W' H' S' → Keep W H W' H' → RepO K c H W' H' d v → O (g d S') → Q v H') : tO K c E f σ H Q := by
  refine tO_mk st en ?_
  unfold bd at h
  cases z : f ρ S with
  | no => rw [z] at h; exact hN h
  | er n p S' => rw [z] at h; exact hO n p S' h
  | ok d S' => rw [z] at h; exact fun W' H' v st' k' r => k d S' W' H' v st' k' r h
theorem RepO.ext {H0 : Hp} {d : D} {v : V} (k : Keep W H W' H') (r : RepO K c H0 W H d v) : RepO K c H0 W' H' d v := by
  obtain ⟨a, rfl, h1, h2, h3, h4⟩ := r
  obtain ⟨o, ho⟩ := h4.some
  exact ⟨a, rfl, h1, k.fr a o ho h2, fun z => h3 (k.sa a o ho z), h4.ext k.wex fun o q => k.old a o q h3⟩
theorem fresh_not {a : Addr} (en : EnvOk K c W H σ ρ) (h : H a = none) : ¬ Owned σ ρ a := fun z => by
  obtain ⟨o, ho⟩ := en.own_some z
  rw [h] at ho
  cases ho
end
/-! ### two names at once, some of them own objects -/
def parVO (i j : Nat) (a b : FE) : FS := fun ρ => bd (a ρ) fun x => bd (b ρ) fun y => rt (.nx (setO j y (setV i x ρ)))
def parOV (i j : Nat) (a b : FE) : FS := fun ρ => bd (a ρ) fun x => bd (b ρ) fun y => rt (.nx (setV j y (setO i x ρ)))
def parOO (i j : Nat) (a b : FE) : FS := fun ρ => bd (a ρ) fun x => bd (b ρ) fun y => rt (.nx (setO j y (setO i x ρ)))
section
variable {X : Cx} {c : Cn} {E : XK} {a b e o tg : Expr} {es : List Expr} {fa fb fc fd : FE} {ga : FA} {x y : Str} {p pos apos cpos pa pos' : Pos} {i j : Nat} {px py pt : Pos} {kt k2 : Nat} {pt2 : Pos}
structure Pr (X : Cx) (x y : Str) (i j : Nat) (a b : Expr) (px py pt pt2 pos : Pos) (kt k2 : Nat) : Prop where
  hi : X.N[i]? = some x
  hj : X.N[j]? = some y
  hij : i ≠ j
  hx : X.env.scope.names.lookup x = some .local
  hy : X.env.scope.names.lookup y = some .local
  hw : swappedStores [.Tuple [.Name x px, .Name y py] kt pt] (.Tuple [a, b] k2 pt2) X.env = pure (some [x, y])
  hs : swapsWithSole [.Tuple [.Name x px, .Name y py] kt pt] (.Tuple [a, b] k2 pt2) pos.line X.env = pure false
  s1 : starEach [a, b] X.env = (false, eval a X.env) :: starEach [b] X.env
  s2 : starEach [b] X.env = (false, eval b X.env) :: starEach [] X.env
theorem Pr.ps {ta tb : TE} (r : Pr X x y i j a b px py pt pt2 pos kt k2) (hc : X.calm = true) (hN : X.N.Nodup) (ha : PE X a ta) (hb : PE X b tb) : PS X (.Assign [.Tuple [.Name x px, .Name y py] kt pt] (.Tuple [a, b] k2 pt2) pos) (tPar i j (tCons ta (tCons tb tNil))) :=
  ps_par hc hN r.hi r.hj r.hij r.hx r.hy (pa_cons ha (pa_cons hb pa_nil r.s2) r.s1) r.hw r.hs
theorem ms_parVO (hc : X.calm = true) (hN : X.N.Nodup) (ha : PE X a (tM X.K c E fa)) (hb : PE X b (tO X.K c E fb)) (r : Pr X x y i j a b px py pt pt2 pos kt k2 := by exact ⟨by kernel_rfl, by kernel_rfl, by decide, by kernel_rfl, by kernel_rfl, by kernel_rfl, by kernel_rfl, by kernel_rfl, by kernel_rfl⟩) :
    PS X (.Assign [.Tuple [.Name x px, .Name y py] kt pt] (.Tuple [a, b] k2 pt2) pos) (tS X.K c E (parVO i j fa fb)) := ps_imp (r.ps hc hN ha hb) fun D' σ H q => by
  obtain ⟨W, ρ, S, st, en, q⟩ := q
  refine thenS_M st en q fun d S1 W1 H1 v st1 en1 k1 r1 q1 => ?_
  refine then_O (O := OutS X.K c W1 H1 σ ρ E D') st1 en1 (fun _ _ _ z => ErS.q z) (fun z => z) q1 fun d2 S2 W2 H2 u st2 k2 r2 q2 => ?_
  obtain ⟨ad, rfl, n1, n2, n3, own⟩ := r2
  have en2 := (en1.ext k2).setV (Rep.ext k2.wex d v r1) i
  refine ⟨v, _, rfl, q2 W2 H2 _ st2 (en2.setO (fun z => fresh_not en1 n1 (owned_setV z)) n2 n3 own j) ⟨k2.toS st2, fun b z => ?_⟩⟩
  rcases owned_setO z with rfl | z
  · exact .inl n1
  · exact .inr (owned_setV z)
theorem ms_parOV (hc : X.calm = true) (hN : X.N.Nodup) (ha : PE X a (tO X.K c E fa)) (hb : PE X b (tM X.K c E fb)) (r : Pr X x y i j a b px py pt pt2 pos kt k2 := by exact ⟨by kernel_rfl, by kernel_rfl, by decide, by kernel_rfl, by kernel_rfl, by kernel_rfl, by kernel_rfl, by kernel_rfl, by kernel_rfl⟩) :
    PS X (.Assign [.Tuple [.Name x px, .Name y py] kt pt] (.Tuple [a, b] k2 pt2) pos) (tS X.K c E (parOV i j fa fb)) := ps_imp (r.ps hc hN ha hb) fun D' σ H q => by
  obtain ⟨W, ρ, S, st, en, q⟩ := q
  refine then_O (O := OutS X.K c W H σ ρ E D') st en (fun _ _ _ z => ErS.q z) (fun z => z) q fun d S1 W1 H1 v st1 k1 r1 q1 => ?_
  refine then_M (O := OutS X.K c W H σ ρ E D') st1 (en.ext k1) (fun _ _ _ z => ErQ.pre (ErS.q z) k1 st1) (fun z => z) q1 fun d2 S2 W2 H2 u st2 k2 r2 q2 => ?_
  obtain ⟨ad, rfl, n1, n2, n3, own⟩ := RepO.ext k2 r1
  have k12 := k1.tr st1 k2
  have en2 := (en.ext k12).setO (fresh_not en n1) n2 n3 own i
  refine ⟨_, u, rfl, q2 W2 H2 _ st2 (en2.setV r2 j) ⟨k12.toS st2, fun b z => ?_⟩⟩
  rcases owned_setO (owned_setV z) with rfl | z
  · exact .inl n1
  · exact .inr z
theorem ms_parOO (hc : X.calm = true) (hN : X.N.Nodup) (ha : PE X a (tO X.K c E fa)) (hb : PE X b (tO X.K c E fb)) (r : Pr X x y i j a b px py pt pt2 pos kt k2 := by exact ⟨by kernel_rfl, by kernel_rfl, by decide, by kernel_rfl, by kernel_rfl, by kernel_rfl, by kernel_rfl, by kernel_rfl, by kernel_rfl⟩) :
    PS X (.Assign [.Tuple [.Name x px, .Name y py] kt pt] (.Tuple [a, b] k2 pt2) pos) (tS X.K c E (parOO i j fa fb)) := ps_imp (r.ps hc hN ha hb) fun D' σ H q => by
  obtain ⟨W, ρ, S, st, en, q⟩ := q
  refine then_O (O := OutS X.K c W H σ ρ E D') st en (fun _ _ _ z => ErS.q z) (fun z => z) q fun d S1 W1 H1 v st1 k1 r1 q1 => ?_
  refine then_O (O := OutS X.K c W H σ ρ E D') st1 (en.ext k1) (fun _ _ _ z => ErQ.pre (ErS.q z) k1 st1) (fun z => z) q1 fun d2 S2 W2 H2 u st2 k2 r2 q2 => ?_
  obtain ⟨ad, rfl, n1, n2, n3, own⟩ := RepO.ext k2 r1
  have r2' := RepO.pre (H0 := H1) k1 (fun b e => st1.ds.at (k1.wex.2 b e)) r2
  obtain ⟨ad2, rfl, m1, m2, m3, own2⟩ := id r2
  obtain ⟨ad3, e3, l1, _⟩ := r2'
  cases e3
  obtain ⟨_, e4, _, _, _, own0⟩ := r1
  cases e4
  obtain ⟨o, ho⟩ := own0.some
  have ne : ad2 ≠ ad := fun z => by rw [z, ho] at m1; cases m1
  have k12 := k1.tr st1 k2
  have en2 := (en.ext k12).setO (fresh_not en n1) n2 n3 own i
  have nn : ¬ Owned (σ.set i (some (.ref ad))) (setO i d ρ) ad2 := fun z => by
    rcases owned_setO z with z | z
    · exact ne z
    · exact fresh_not en l1 z
  refine ⟨_, _, rfl, q2 W2 H2 _ st2 (en2.setO nn m2 m3 own2 j) ⟨k12.toS st2, fun b z => ?_⟩⟩
  rcases owned_setO z with rfl | z
  · exact .inl l1
  · rcases owned_setO z with rfl | z
    · exact .inl n1
    · exact .inr z
/-! ### t.count(x), t exact; l.count(x) -/
def tyX (x : V) (H : Hp) : Prop := ∃ p o vs, x = .ref p ∧ H p = some (.frz o (.tup vs)) ∧ o.dict = none
def tBMX (r : V → List V → Hp → VK → Prop) (to : TE) (t : TA) : TE := fun σ H Q => to σ H fun x H1 => tyX x H1 ∧ t σ H1 fun xs H2 => r x xs H2 Q
theorem pe_bmX {id : String} {name : Str} {r : V → List V → Hp → VK → Prop} {to : TE} {t : TA} (sl : PySem.Slot "tuple" name id) (hty : typeOf (.builtin id) = pure (.type "method_descriptor")) (hm : MtR X id r) (ho : PE X o to) (ha : PA X (e :: es) t) (m : Mb X o name e es apos cpos) :
    PE X (.Call (.Attribute o name apos) (e :: es) [] cpos) (tBMX r to t) := ⟨fun pins s σ H Q I h => by
  refine wpAny_Call_method_late m.base m.few m.line rfl (thn (ho.run pins s σ H _ I h) fun v s1 ⟨xv, H1, I1, r1, ty, q1⟩ => ?_)
  obtain ⟨ad, ob, vs, rfl, hob, hd⟩ := ty
  cases r1
  obtain ⟨g, _, its, _, ot, hot, hcl, _⟩ := I1.hok ad _ hob
  rw [g] at hot
  cases hot
  refine ⟨"tuple", id, PySem.F.plainAttrs_tuple, sl, hty, ⟨_, g, hcl⟩, fun b e => ?_, ?_⟩
  · cases e
    exact ⟨_, g, hd⟩
  have hA := ha.run cpos pins s1 σ H1 _ I1 q1
  rw [m.st] at hA ⊢
  refine Calls.callWith_builtin (by show (false || (backTo cpos (starEach es X.env)).any (·.1)) = false; rw [m.pl, Bool.or_self]) (Calls.evalArgs_plain (thn hA fun us s2 ⟨ws, H2, I2, r2, q2⟩ => ?_))
  exact hm pins s2 σ H2 (.ref ad) ws (.ref ad) us Q I2 rfl r2 q2⟩
def rCntT (K : PySem.W.Frag) : V → List V → Hp → VK → Prop := fun x xs H Q => ∃ y d ds, xs = [y] ∧ Dp K H x (.tuple ds) ∧ Dp K H y d ∧ SeqAt.shaped d = true ∧ SeqAt.shaped (.tuple ds) = true ∧ Q (.int ((ds.countP fun z => PyData.eqv z d : Nat) : Int)) H
theorem mt_countT {k : Nat} (hr : Room k X.A) : MtR X "tuple.count" (rCntT X.K) := by
  intro pins s σ H x xs v us Q I rx rxs h
  obtain ⟨y, d, ds, rfl, hx, hy, sd, sl, q⟩ := h
  obtain ⟨u, rfl, ru⟩ := rxs.one
  obtain ⟨bs, r1⟩ := Dp.reads I d y u hy ru
  have hu := Room.u64 hr
  cases hx with
  | tup hs ha =>
    cases rx
    obtain ⟨its, rv, ht, hz⟩ := I.tuple hs
    obtain ⟨as, h4⟩ := Dp.readsAll I ds _ its ha rv
    have c1 : PyData.canLayAll0 ds = true := by
      have := SeqAt.canLay_of_shaped sl
      simpa only [PyData.canLay0] using this
    have c2 := SeqAt.canLay_of_shaped sd
    have c3 : d.depth ≤ 64 := by
      have z : (d.canLay0 && decide (d.depth ≤ 64)) = true := sd
      rw [Bool.and_eq_true] at z
      exact of_decide_eq_true z.2
    refine SeqAt.count_tuple_data (d := d) ht (show ReadsAll s.heap its.toArray.toList ds as from h4) r1 (plainAll_of c1) (PyData.plain_of_canLay0 d c2) (by omega) ?_
    exact ⟨.int _, H, I.tok _, ⟨_, rfl⟩, q⟩
where
  plainAll_of {ds : List PyData} (h : PyData.canLayAll0 ds = true) : PyData.plainAll ds = true := by
    have z := PyData.plain_of_canLay0 (.list ds) (by simpa only [PyData.canLay0] using h)
    simpa only [PyData.plain] using z
def dCount : D → D → Option D
  | .tpx ds, d => if okEq (.tpx ds) && okEq d then some (.int ((pyL ds).countP fun z => PyData.eqv z d.py : Nat)) else none
  | _, _ => none
def countE (fa fb : FE) : FE := fun ρ => bd (fa ρ) fun x => match x with
  | .tpx ds => bd (fb ρ) fun y => lift (dCount (.tpx ds) y)
  | _ => no
theorem me_count {k : Nat} (hr : Room k X.A) (ho : PE X o (tB X.K c E fa)) (he : PE X e (tB X.K c E fb)) (m : Mb X o "count" e [] apos cpos := by exact ⟨by kernel_rfl, by kernel_rfl, by kernel_rfl, by kernel_rfl, by kernel_rfl⟩) :
    PE X (.Call (.Attribute o "count" apos) [e] [] cpos) (tM X.K c E (countE fa fb)) :=
  pe_imp (pe_bmX PySem.F.slot_tuple_count PySem.F.type_tuple_count (mt_countT hr) ho (pa_cons he pa_nil m.one) m) fun σ H Q h => by
    obtain ⟨W, ρ, S, st, en, q⟩ := tM_un h
    refine then_B (O := OutM X.K c W H E Q) st en (fun _ _ _ z => z) (fun z => z) q fun d S1 W1 H1 v st1 k1 r1 q1 => ?_
    cases d <;> first | exact (show False from q1).elim | skip
    rename_i ds
    obtain ⟨ad, vs, ob, rfl, h1, h2, h3⟩ := r1.tpo st1
    refine ⟨⟨ad, ob, vs, rfl, h1, h2⟩, ?_⟩
    refine then_B (O := OutM X.K c W H E Q) st1 (en.ext k1) (fun _ _ _ z => ErQ.pre z k1 st1) (fun z => z) q1 fun d2 S2 W2 H2 u st2 k2 r2 q2 => ?_
    obtain ⟨d', e', q3⟩ := lift_ok (β := D) (O := OutM X.K c W H E Q) (fun z => z) q2
    simp only [dCount] at e'
    split at e'
    · rename_i z
      rw [Bool.and_eq_true] at z
      cases e'
      obtain ⟨y1, y2⟩ := okEq_shaped st2 (r1.ext k2) z.1
      obtain ⟨y3, y4⟩ := okEq_shaped st2 r2 z.2
      refine ⟨u, d2.py, pyL ds, rfl, ?_, y3, y4, ?_, q3 W2 H2 _ st2 (k1.tr st1 k2) rfl⟩
      · simpa only [D.py] using y1
      · simpa only [D.py] using y2
    · cases e'
end
end Mini
namespace Mini
open PySem PySem.Spec PyProof.Rows L2 Evl
/-! ### the draws' state -/
def stIx (i : Nat) (k : Int) : FE := fun ρ S => match slot ρ i, S with
  | some .st, some ds => (match atI ds k with
    | some d => .ok d S
    | none => .no)
  | _, _ => .no
def stSet (i : Nat) (k : Int) (f : FE) : FS := fun ρ => bd (f ρ) fun d S => match slot ρ i, S with
  | some .st, some ds => (match ixN ds.length k with
    | some j => .ok (.nx ρ) (some (ds.set j d))
    | none => .no)
  | _, _ => .no
section
variable {X : Cx} {c : Cn} {E : XK} {a b e o tg : Expr} {es : List Expr} {fa fb fc fd : FE} {ga : FA} {x y : Str} {p pos apos cpos pa pos' : Pos} {i j : Nat}
theorem st_at {K : PySem.W.Frag} {W : Wd} {H : Hp} {ds : List D} {v : V} (st : StOk K c W H (some ds)) (r : Rep K c W .st v) : ∃ ad vs, v = .ref ad ∧ W.sa = some ad ∧ W.H0 ad = none ∧ H ad = some (.lst vs) ∧ RepL K c W ds vs := by
  obtain ⟨ad, rfl, h1⟩ := r
  obtain ⟨ad2, vs, h2, h3, h4, h5⟩ := st.ds
  rw [h1] at h2
  cases h2
  exact ⟨ad, vs, rfl, h1, h3, h4, h5⟩
theorem me_stIx {k : Int} {jj : Nat} {p2 : Pos} (hN : X.N[i]? = some x := by kernel_rfl) (hv : X.env.scope.names.lookup x = some .local := by kernel_rfl) (hd : (x == ("__debug__" : Str)) = false := by kernel_rfl) (hcd : (x == ("__classdict__" : Str)) = false := by kernel_rfl) :
    PE X (.Subscript (.Name x pa) (.Constant (.int k) jj p2) pos) (tM X.K c E (stIx i k)) := pe_imp (pe_ix ix_seq (pe_var hN (.inl hv) hd hcd) pe_int (fun _ _ => rfl)) fun σ H Q h => by
  obtain ⟨W, ρ, S, st, en, q⟩ := tM_un h
  unfold stIx at q
  split at q
  · rename_i ds e1
    split at q
    · rename_i d e2
      obtain ⟨v, h1, h2⟩ := en.vl i _ (slot_some e1)
      obtain ⟨ad, vs, rfl, h3, h4, h5, h6⟩ := st_at st h2
      obtain ⟨u, g1, g2⟩ := repL_at h6 e2
      exact ⟨_, h1, .inl ⟨ad, vs, k, u, rfl, rfl, SqL.of h5, g1, q W H u st (Keep.refl W H) g2⟩⟩
    · exact q.elim
  · exact q.elim
theorem st_set {K : PySem.W.Frag} {W : Wd} {H : Hp} {ds : List D} {ad : Addr} {vs : List V} {d : D} {u : V} (n : Nat) (st : StOk K c W H (some ds)) (h1 : W.sa = some ad) (h2 : W.H0 ad = none) (h3 : H ad = some (.lst vs)) (h4 : RepL K c W ds vs) (r : Rep K c W d u) :
    StOk K c W (upd H ad (.lst (vs.set n u))) (some (ds.set n d)) ∧ Keep W H W (upd H ad (.lst (vs.set n u))) := by
  refine ⟨⟨fun b o q => ?_, ad, _, h1, h2, upd_same, repL_set n h4 r⟩, WEx.refl W, fun b o q ns => ?_, fun _ _ _ z => z, fun _ _ _ z => z⟩
  · rw [upd_ne fun z => by rw [z, h2] at q; cases q]
    exact st.sub b o q
  · rw [upd_ne fun z => ns (by rw [z]; exact h1)]
    exact q
theorem ms_stSet {k : Int} {jj : Nat} {p2 : Pos} (he : PE X e (tM X.K c E fa)) (hN : X.N[i]? = some x := by kernel_rfl) (hv : X.env.scope.names.lookup x = some .local := by kernel_rfl) (hd : (x == ("__debug__" : Str)) = false := by kernel_rfl) (hcd : (x == ("__classdict__" : Str)) = false := by kernel_rfl)
    (hA : ∀ v, assign (.Subscript (.Name x pa) (.Constant (.int k) jj p2) pos') X.env v = (do
      let ov ← holding [v] (eval (.Name x pa) X.env)
      let iv ← holding [v, ov] (eval (.Constant (.int k) jj p2) X.env)
      standAt pos'
      holding [v, ov, iv] (setItem ov iv v)
      release [v, ov, iv] []) := by intro _; kernel_rfl)
    (hs : swapsWithSole [.Subscript (.Name x pa) (.Constant (.int k) jj p2) pos'] e pos.line X.env = pure false := by kernel_rfl) (hw : swappedStores [.Subscript (.Name x pa) (.Constant (.int k) jj p2) pos'] e X.env = pure none := by kernel_rfl)
    (h1 : (assignEach [.Subscript (.Name x pa) (.Constant (.int k) jj p2) pos'] X.env).map (·.2) = [assign (.Subscript (.Name x pa) (.Constant (.int k) jj p2) pos') X.env] := by kernel_rfl) :
    PS X (.Assign [.Subscript (.Name x pa) (.Constant (.int k) jj p2) pos'] e pos) (tS X.K c E (stSet i k fa)) := ps_imp (ps_asg he (pg_sub (pe_var hN (.inl hv) hd hcd) pe_int set_list hA) hs hw h1) fun D' σ H q => by
  obtain ⟨W, ρ, S, st, en, q⟩ := q
  refine thenS_M st en q fun d S1 W1 H1 v st1 en1 k1 r1 q1 => ?_
  split at q1
  · rename_i ds e1
    split at q1
    · rename_i n e2
      obtain ⟨u, g1, g2⟩ := en1.vl i _ (slot_some e1)
      obtain ⟨ad, vs, rfl, h3, h4, h5, h6⟩ := st_at st1 g2
      obtain ⟨st2, k2⟩ := st_set n st1 h3 h4 h5 h6 r1
      exact ⟨_, g1, ad, vs, k, n, rfl, rfl, h5, by rw [RepL.length h6]; exact e2, q1 W1 _ σ st2 (en1.ext k2) (k2.toStep st2)⟩
    · exact q1.elim
  · exact q1.elim
end
/-! ### a def that hands on a fresh object -/
def OutSO (K : PySem.W.Frag) (c : Cn) (W : Wd) (H : Hp) (σ : L2.St) (ρ : En) (E : XK) (D : Ends) : Res Mini.D → Prop
  | .ok d S' => ∀ W' H' v, StOk K c W' H' S' → KeepS W H σ ρ W' H' → RepO K c H W' H' d v → D.rt v H'
  | .er n p S' => ErS K c W H σ ρ E n p S'
  | .no => False
def tSO (K : PySem.W.Frag) (c : Cn) (E : XK) (g : FE) : TS := fun D σ H => ∃ W ρ S, StOk K c W H S ∧ EnvOk K c W H σ ρ ∧ OutSO K c W H σ ρ E D (g ρ S)
def seqO (g : FS) (h : FE) : FE := fun ρ => bd (g ρ) fun f => match f with
  | .nx ρ' => h ρ'
  | _ => no
section
variable {K : PySem.W.Frag} {c : Cn} {W W1 W2 W' : Wd} {H H1 H2 H' : Hp} {S S1 S2 S' : DS} {σ σ1 σ2 σ' : L2.St} {ρ ρ1 ρ2 ρ' : En} {E : XK}
theorem OutSO.pre {D : Ends} {r : Res Mini.D} (h : OutSO K c W H σ ρ E D r) (k : Step W H σ ρ W1 H1 σ1 ρ1) : OutSO K c W1 H1 σ1 ρ1 E D r := by
  cases r with
  | no => exact h
  | er n p S' => exact ErS.pre h k
  | ok d S' =>
    rintro W' H' v st' k' ⟨a, rfl, n1, n2⟩
    refine h W' H' _ st' (k.keepS k') ⟨a, rfl, ?_, n2⟩
    cases z : H a with
    | none => rfl
    | some o =>
      obtain ⟨o', z'⟩ := k.there a o z
      rw [n1] at z'
      cases z'
end
section
variable {X : Cx} {c : Cn} {E : XK} {st : Stmt} {rest : List Stmt} {e : Expr} {g : FS} {h fa : FE} {pos : Pos}
theorem mo_cons (h1 : PS X st (tS X.K c E g)) (h2 : PSs X rest (tSO X.K c E h)) : PSs X (st :: rest) (tSO X.K c E (seqO g h)) := ⟨fun pins s σ H D I q => by
  refine (pss_cons h1 h2).run pins s σ H D I ?_
  obtain ⟨W, ρ, S, st, en, q⟩ := q
  refine ⟨W, ρ, S, st, en, ?_⟩
  unfold seqO bd at q
  cases e : g ρ S with
  | no => rw [e] at q; exact q
  | er n p S' => rw [e] at q; exact q
  | ok f S' =>
    rw [e] at q
    cases f with
    | nx ρ' => exact fun W' H' σ' st' en' k' => ⟨W', ρ', S', st', en', OutSO.pre q k'⟩
    | bk ρ' => exact (show False from q).elim
    | ct ρ' => exact (show False from q).elim
    | rt d => exact (show False from q).elim⟩
theorem mo_ret (he : PE X e (tO X.K c E fa)) : PSs X [.Return (some e) pos] (tSO X.K c E fa) := ⟨fun pins s σ H D I q => by
  refine (pss_one (ps_ret he)).run pins s σ H D I ?_
  obtain ⟨W, ρ, S, st, en, q⟩ := q
  refine tO_mk st en ?_
  cases e : fa ρ S with
  | no => rw [e] at q; exact q
  | er n p S' => rw [e] at q; exact ErS.q q
  | ok d S' => rw [e] at q; exact fun W' H' v st' k' r => q W' H' v st' (k'.toS st') r⟩
end
def fnO (np ns : Nat) (b : FE) : List D → M D := fun ds => if ds.length = np then b (enter ns ds) else no
theorem fn_miniO {P : Program} {w : World} {K : PySem.W.Frag} {mg : Str → Option Value} {base : Heap} {c : Cn} {x qual : Str} {st : Stmt} {f : Addr} {fd : FuncData} {N ps : List Str} {k : Nat} {b : FE} (F : Fun K x qual st f fd) (S : FnScope N ps (defScope st))
    (hbody : ∀ (cdv : Value) (A : Around) (outer : List Env) (s : Shared) (H : Hp) (E : XK), Room k (A.deeper (envOfC qual (defScope st) s.heap.objs.size f cdv)) → A.guards = some [] →
      PSs (cxOf (L2.CX P w) P w K mg base N qual (defScope st) f cdv A outer s H E) (defBody st) (tSO K c E b)) : FnG P w K mg base (L2.CX P w) (k + 1) f fd ps (spO K c (fnO ps.length N.length b)) := by
  obtain ⟨oc, od, kV, doc, pm, an, cdv, ct, osl, rfl, lk, hcd⟩ := F.ex
  have hpl : ps.length ≤ N.length := by
    have := congrArg List.length S.pre
    rw [List.length_take] at this
    omega
  have len : ∀ vs H Q E, spO K c (fnO ps.length N.length b) vs H Q E → vs.length = ps.length := fun vs H Q E h => by
    obtain ⟨W, ds, S', st', r, q⟩ := h
    unfold fnO at q
    split at q
    · rw [RepL.length r]; assumption
    · exact q.elim
  refine fnG_of lk hcd S len fun A outer s H vs Q E hr hg h => ⟨_, hbody cdv A outer s H E hr hg, ?_⟩
  have hl := len vs H Q E h
  obtain ⟨W, ds, S', st', r, q⟩ := h
  unfold fnO at q
  rw [if_pos (by rw [← RepL.length r]; exact hl)] at q
  refine ⟨W, enter N.length ds, S', st', enter_ok r (by omega), ?_⟩
  cases e : b (enter N.length ds) S' with
  | no => rw [e] at q; exact q
  | er n p S2 => rw [e] at q; exact fun W2 H2 dd v st2 k2 => q W2 H2 dd v st2 (k2.toKeep fun b => enter_owned)
  | ok d S2 => rw [e] at q; exact fun W2 H2 v st2 k2 r2 => q W2 H2 v st2 (k2.toKeep fun b => enter_owned) r2
/-- state = start(script) -/
def mkS (i : Nat) (F : List D → M D) (a : FA) : FS := fun ρ => bd (a ρ) fun xs S => match S with
  | none => (match F xs none with
    | .ok (.lst ds) none => .ok (.nx (setV i .st ρ)) (some ds)
    | _ => .no)
  | some _ => .no
section
variable {X : Cx} {c : Cn} {E : XK} {T : CXT} {k : Nat} {f : Addr} {fd : FuncData} {ps : List Str} {F : List D → M D} {x y : Str} {p pos pos' : Pos} {e : Expr} {es : List Expr} {ga : FA} {i : Nat}
theorem ms_mk (hN : X.N.Nodup) (G : FnG X.prog X.w X.K X.mg X.base T k f fd ps (spO X.K c F)) (hr : Room k X.A) (gd : X.A.guards = some []) (hm : X.mg x = some (.ref f)) (hk : PySem.W.keepIn X.K (.ref f) = true) (hb : Binds X.K fd ps []) (hx : Passes T X E)
    (ha : PA X (e :: es) (tA X.K c E ga)) (hi : X.N[i]? = some y := by kernel_rfl) (hy : X.env.scope.names.lookup y = some .local := by kernel_rfl) (hg : X.env.kindOf x = some .globalImplicit := by kernel_rfl) (hdb : (x == ("__debug__" : Str)) = false := by kernel_rfl) (he : starEach (e :: es) X.env = (false, eval e X.env) :: starEach es X.env := by kernel_rfl) (hpl : (backTo pos (starEach es X.env)).any (·.1) = false := by kernel_rfl)
    {spos : Pos} (hs' : swapsWith (.Call (.Name x p) (e :: es) [] pos) (some (.Name y pos')) spos.line X.env = pure false := by kernel_rfl) :
    PS X (.Assign [.Name y pos'] (.Call (.Name x p) (e :: es) [] pos) spos) (tS X.K c E (mkS i F ga)) :=
  ps_imp (ps_set hN hi (.inl hy) (pe_callG G hr gd hg hm hk hb .nil hx ha hdb he hpl) hs' (.inr hy)) fun D' σ H q => by
    obtain ⟨W, ρ, S, st, en, q⟩ := q
    refine then_A (O := OutS X.K c W H σ ρ E D') st en (fun _ _ _ z => ErS.q z) (fun z => z) q fun ds S1 W1 H1 vs st1 k1 r1 q1 => ?_
    rw [List.append_nil]
    cases S1 with
    | some _ => exact (show False from q1).elim
    | none =>
      dsimp only at q1
      refine ⟨W1, ds, none, st1, r1, ?_⟩
      cases e1 : F ds none with
      | no => rw [e1] at q1; exact (show False from q1).elim
      | er n pp S' => rw [e1] at q1; exact (show False from q1).elim
      | ok d S' =>
        rw [e1] at q1
        cases d <;> first | exact (show False from q1).elim | skip
        cases S' <;> first | exact (show False from q1).elim | skip
        rintro W2 H2 v st2 k2 ⟨ad, rfl, n1, n2, n3, us, n4, n5⟩
        have sn : W2.sa = none := st2.ds
        have wx : WEx W2 ⟨W2.H0, some ad⟩ := ⟨Ex.refl _, fun b z => by rw [sn] at z; cases z⟩
        have k12 := k1.tr st1 k2
        have s1n : W.sa = none := by
          cases z : W.sa with
          | none => rfl
          | some b => rw [k12.wex.2 b z] at sn; cases sn
        have n0 : H ad = none := by
          cases z : H ad with
          | none => rfl
          | some o => rw [k1.old ad o z (by rw [s1n]; intro q; cases q)] at n1; cases n1
        have st3 : StOk X.K c ⟨W2.H0, some ad⟩ H2 (some _) := ⟨st2.sub, ad, us, rfl, n2, n4, RepL.ext wx _ us n5⟩
        have k3 : Keep W H ⟨W2.H0, some ad⟩ H2 := ⟨k12.wex.trans wx, k12.old, k12.fr, fun b o z e => by cases e; rw [n0] at z; cases z⟩
        have rr : Rep X.K c ⟨W2.H0, some ad⟩ D.st (V.ref ad) := ⟨ad, rfl, rfl⟩
        exact q1 _ H2 _ st3 ((en.ext k3).setV rr i) ⟨k3.toS st3, fun b z => .inr (owned_setV z)⟩
end
end Mini
namespace Mini
open PySem PySem.Spec PyProof.Rows L2 Evl
/-! ### the end, by the head's facts -/
def fd0 : FuncData := PySem.W.fnOf "" "" ⟨[], [], none, [], [], none, []⟩ [] ⟨.function, [], false, false, []⟩ .none .none .none .none none .none .none
def fdA (K : PySem.W.Frag) (a : Addr) : FuncData := match K.lookup a with
  | some ⟨_, _, .func fd, _⟩ => fd
  | _ => fd0
theorem fdA_of {K : PySem.W.Frag} {x qual : Str} {params : Arguments} {bodyS : List Stmt} {sc : Scope} {dvs : List V} {kws : List (Str × V)} {f : Addr} (h : ∃ fd, FunD K x qual params bodyS sc dvs kws f fd) : FunD K x qual params bodyS sc dvs kws f (fdA K f) := by
  obtain ⟨fd, F⟩ := h
  have e : fdA K f = fd := by
    obtain ⟨oc, od, dV, kV, doc, pm, an, cdv, ct, osl, e1, lk, _⟩ := F.ex
    unfold fdA
    rw [lk]
  rw [e]
  exact F
theorem fn_miniDD {P : Program} {w : World} {K : PySem.W.Frag} {mg : Str → Option Value} {base : Heap} {c : Cn} {x qual : Str} {params : Arguments} {bodyS : List Stmt} {sc : Scope} {dvs : List V} {kws : List (Str × V)} {f : Addr} {fd : FuncData} {N ps : List Str} {k : Nat} {b : FS} (F : FunD K x qual params bodyS sc dvs kws f fd) (S : FnScope N ps sc)
    (hbody : ∀ (cdv : Value) (A : Around) (outer : List Env) (s : Shared) (H : Hp) (E : XK), Room k (A.deeper (envOfC qual sc s.heap.objs.size f cdv)) → A.guards = some [] →
      PSs (cxOf (L2.CX P w) P w K mg base N qual sc f cdv A outer s H E) bodyS (tS K c E b)) : FnG P w K mg base (L2.CX P w) (k + 1) f fd ps (spM K c (fnD ps.length N.length b)) := by
  obtain ⟨oc, od, dV, kV, doc, pm, an, cdv, ct, osl, rfl, lk, hcd, _⟩ := F.ex
  exact fn_miniD lk hcd S (hbody cdv)
theorem fn_miniOD {P : Program} {w : World} {K : PySem.W.Frag} {mg : Str → Option Value} {base : Heap} {c : Cn} {x qual : Str} {params : Arguments} {bodyS : List Stmt} {sc : Scope} {dvs : List V} {kws : List (Str × V)} {f : Addr} {fd : FuncData} {N ps : List Str} {k : Nat} {b : FE} (F : FunD K x qual params bodyS sc dvs kws f fd) (S : FnScope N ps sc)
    (hbody : ∀ (cdv : Value) (A : Around) (outer : List Env) (s : Shared) (H : Hp) (E : XK), Room k (A.deeper (envOfC qual sc s.heap.objs.size f cdv)) → A.guards = some [] →
      PSs (cxOf (L2.CX P w) P w K mg base N qual sc f cdv A outer s H E) bodyS (tSO K c E b)) : FnG P w K mg base (L2.CX P w) (k + 1) f fd ps (spO K c (fnO ps.length N.length b)) := by
  obtain ⟨oc, od, dV, kV, doc, pm, an, cdv, ct, osl, rfl, lk, hcd, _⟩ := F.ex
  have hpl : ps.length ≤ N.length := by
    have := congrArg List.length S.pre
    rw [List.length_take] at this
    omega
  have len : ∀ vs H Q E, spO K c (fnO ps.length N.length b) vs H Q E → vs.length = ps.length := fun vs H Q E h => by
    obtain ⟨W, ds, S', st', r, q⟩ := h
    unfold fnO at q
    split at q
    · rw [RepL.length r]; assumption
    · exact q.elim
  refine fnG_of lk hcd S len fun A outer s H vs Q E hr hg h => ⟨_, hbody cdv A outer s H E hr hg, ?_⟩
  have hl := len vs H Q E h
  obtain ⟨W, ds, S', st', r, q⟩ := h
  unfold fnO at q
  rw [if_pos (by rw [← RepL.length r]; exact hl)] at q
  refine ⟨W, enter N.length ds, S', st', enter_ok r (by omega), ?_⟩
  cases e : b (enter N.length ds) S' with
  | no => rw [e] at q; exact q
  | er n p S2 => rw [e] at q; exact fun W2 H2 dd v st2 k2 => q W2 H2 dd v st2 (k2.toKeep fun b => enter_owned)
  | ok d S2 => rw [e] at q; exact fun W2 H2 v st2 k2 r2 => q W2 H2 v st2 (k2.toKeep fun b => enter_owned) r2
theorem mini_walkE {l : PySem.W.OpenLaw} {n k : Nat} {q : Program} {loose : List Str} {XP : (Str → Option Value) → Heap → Prop} {YP : World → Heap → Prop} {d : DefRec} {x : Str} {F : List D → M D}
    (hn : l.most = some n) (hn2 : n ≤ sizeLine) (hdf : d.params.defaults = []) (hr : Room k callerA)
    (G : ∀ (w : World) (mg : Str → Option Value) (fa : Addr) (h : Heap), YP w h → h.Ns mainGlobals mg → mg d.name = some (.ref fa) →
      ∃ (K : PySem.W.Frag) (c : Cn) (fd : FuncData), K.In h ∧ (∀ (s : Shared) (u : Value), BindsTo s fd ⟨[u], []⟩ [(x, u)]) ∧ ∀ base : Heap, K.In base → base.Ns mainGlobals mg → FnG l.prog w K mg base (L2.CX l.prog w) k fa fd [x] (spM K c F))
    (val : ∀ ns : List Int, ns.length ≤ n → ∃ S', F [.scr ns] none = .ok (.bl true) S') :
    PySem.W.WalkO q loose XP YP l.row.toRowW d [] (fun f vs => PySem.call f vs) := by
  refine Att.attach_call hn hdf fun w s₀ s₁ mg mb fa o pm cd doc a vs ns Gr Y ho hd hcd hmg hobj hints hlen hg => ?_
  obtain ⟨K, c, fd, KX, hb, hG⟩ := G w mg fa _ Y Gr.T.g hmg
  exact run_law KX Gr.T.g Gr.T.b Gr.T.builtins Gr.T.nolimit hg hobj hints (Nat.le_trans hlen hn2) hr hG hb (val ns hlen)
end Mini
namespace Mini
open PySem PySem.Spec PyProof.Rows L2 Evl
/-! ### several names at once, own objects among them -/
def ownV : List Bool → List V → List V
  | true :: fs, v :: vs => v :: ownV fs vs
  | false :: fs, _ :: vs => ownV fs vs
  | _, _ => []
def RepF (K : PySem.W.Frag) (c : Cn) (H0 : Hp) (W : Wd) (H : Hp) : List Bool → List D → List V → Prop
  | [], [], [] => True
  | true :: fs, d :: ds, v :: vs => RepO K c H0 W H d v ∧ v ∉ ownV fs vs ∧ RepF K c H0 W H fs ds vs
  | false :: fs, d :: ds, v :: vs => Rep K c W d v ∧ RepF K c H0 W H fs ds vs
  | _, _, _ => False
def OutF (K : PySem.W.Frag) (c : Cn) (W : Wd) (H : Hp) (E : XK) (fs : List Bool) (Q : List V → Hp → Prop) : Res (List D) → Prop
  | .ok ds S' => ∀ W' H' vs, StOk K c W' H' S' → Keep W H W' H' → RepF K c H W' H' fs ds vs → Q vs H'
  | .er n p S' => ErQ K c W H E n p S'
  | .no => False
def tF (K : PySem.W.Frag) (c : Cn) (E : XK) (fs : List Bool) (g : FA) : TA := fun σ H Q => ∃ W ρ S, StOk K c W H S ∧ EnvOk K c W H σ ρ ∧ OutF K c W H E fs Q (g ρ S)
def stV : List Nat → List V → L2.St → L2.St
  | i :: is, v :: vs, σ => stV is vs (σ.set i (some v))
  | _, _, σ => σ
def stF : List Bool → List Nat → List D → En → En
  | true :: fs, i :: is, d :: ds, ρ => stF fs is ds (setO i d ρ)
  | false :: fs, i :: is, d :: ds, ρ => stF fs is ds (setV i d ρ)
  | _, _, _, ρ => ρ
def unpS (fs : List Bool) (is : List Nat) (a : FA) : FS := fun ρ => bd (a ρ) fun ds => if ds.length = is.length ∧ is.length ≤ 100 then rt (.nx (stF fs is ds ρ)) else no
section
variable {K : PySem.W.Frag} {c : Cn} {W W1 W2 W' : Wd} {H H1 H2 H' H0 : Hp} {S S1 S2 S' : DS} {σ σ1 σ2 σ' : L2.St} {ρ ρ1 ρ2 ρ' : En} {E : XK}
theorem RepF.ext (k : Keep W H W' H') : ∀ {fs : List Bool} {ds : List D} {vs : List V}, RepF K c H0 W H fs ds vs → RepF K c H0 W' H' fs ds vs
  | [], [], [], _ => True.intro
  | true :: fs, d :: ds, v :: vs, ⟨h1, h2, h3⟩ => ⟨RepO.ext k h1, h2, RepF.ext k h3⟩
  | false :: fs, d :: ds, v :: vs, ⟨h1, h2⟩ => ⟨Rep.ext k.wex d v h1, RepF.ext k h2⟩
  | [], d :: ds, vs, h => by cases h
  | [], [], v :: vs, h => by cases h
  | true :: fs, [], vs, h => by cases h
  | false :: fs, [], vs, h => by cases h
  | true :: fs, d :: ds, [], h => by cases h
  | false :: fs, d :: ds, [], h => by cases h
theorem RepF.pre (k : Keep W H W1 H1) (hs : ∀ b, W.sa = some b → ∃ o, H1 b = some o) : ∀ {fs : List Bool} {ds : List D} {vs : List V}, RepF K c H1 W' H' fs ds vs → RepF K c H W' H' fs ds vs
  | [], [], [], _ => True.intro
  | true :: fs, d :: ds, v :: vs, ⟨h1, h2, h3⟩ => ⟨RepO.pre (H0 := H) k hs h1, h2, RepF.pre k hs h3⟩
  | false :: fs, d :: ds, v :: vs, ⟨h1, h2⟩ => ⟨h1, RepF.pre k hs h2⟩
  | [], d :: ds, vs, h => by cases h
  | [], [], v :: vs, h => by cases h
  | true :: fs, [], vs, h => by cases h
  | false :: fs, [], vs, h => by cases h
  | true :: fs, d :: ds, [], h => by cases h
  | false :: fs, d :: ds, [], h => by cases h
theorem RepF.own : ∀ {fs : List Bool} {ds : List D} {vs : List V}, RepF K c H0 W H fs ds vs → ∀ v ∈ ownV fs vs, ∃ a, v = .ref a ∧ H0 a = none
  | [], [], [], _ => fun v h => by cases h
  | true :: fs, d :: ds, v :: vs, ⟨h1, h2, h3⟩ => fun u h => by
    rcases List.mem_cons.mp h with rfl | h
    · obtain ⟨a, e, n, _⟩ := h1
      exact ⟨a, e, n⟩
    · exact RepF.own h3 u h
  | false :: fs, d :: ds, v :: vs, ⟨h1, h2⟩ => fun u h => RepF.own h2 u h
  | [], d :: ds, vs, h => by cases h
  | [], [], v :: vs, h => by cases h
  | true :: fs, [], vs, h => by cases h
  | false :: fs, [], vs, h => by cases h
  | true :: fs, d :: ds, [], h => by cases h
  | false :: fs, d :: ds, [], h => by cases h
theorem RepF.length : ∀ {fs : List Bool} {ds : List D} {vs : List V}, RepF K c H0 W H fs ds vs → vs.length = ds.length
  | [], [], [], _ => rfl
  | true :: fs, d :: ds, v :: vs, ⟨h1, h2, h3⟩ => by rw [List.length_cons, List.length_cons, RepF.length h3]
  | false :: fs, d :: ds, v :: vs, ⟨h1, h2⟩ => by rw [List.length_cons, List.length_cons, RepF.length h2]
  | [], d :: ds, vs, h => by cases h
  | [], [], v :: vs, h => by cases h
  | true :: fs, [], vs, h => by cases h
  | false :: fs, [], vs, h => by cases h
  | true :: fs, d :: ds, [], h => by cases h
  | false :: fs, d :: ds, [], h => by cases h
theorem stF_ok : ∀ {fs : List Bool} {is : List Nat} {ds : List D} {vs : List V} {σ : L2.St} {ρ : En}, EnvOk K c W H σ ρ → RepF K c H0 W H fs ds vs → ds.length = is.length → (∀ a, V.ref a ∈ ownV fs vs → ¬ Owned σ ρ a) →
    EnvOk K c W H (stV is vs σ) (stF fs is ds ρ) ∧ ∀ b, Owned (stV is vs σ) (stF fs is ds ρ) b → H0 b = none ∨ Owned σ ρ b
  | [], is, [], [], σ, ρ, en, _, hl, _ => by
    cases is with
    | nil => exact ⟨en, fun b h => .inr h⟩
    | cons i is => cases hl
  | true :: fs, is, d :: ds, v :: vs, σ, ρ, en, ⟨h1, h2, h3⟩, hl, hn => by
    cases is with
    | nil => cases hl
    | cons i is =>
      obtain ⟨a, rfl, n1, n2, n3, ow⟩ := h1
      have na : ¬ Owned σ ρ a := hn a (List.mem_cons_self)
      obtain ⟨e1, e2⟩ := stF_ok (is := is) (en.setO na n2 n3 ow i) h3 (by simpa using hl) fun b hb z => by
        rcases owned_setO z with rfl | z
        · exact h2 hb
        · exact hn b (List.mem_cons_of_mem _ hb) z
      refine ⟨e1, fun b hb => ?_⟩
      rcases e2 b hb with z | z
      · exact .inl z
      · rcases owned_setO z with rfl | z
        · exact .inl n1
        · exact .inr z
  | false :: fs, is, d :: ds, v :: vs, σ, ρ, en, ⟨h1, h2⟩, hl, hn => by
    cases is with
    | nil => cases hl
    | cons i is =>
      obtain ⟨e1, e2⟩ := stF_ok (is := is) (en.setV h1 i) h2 (by simpa using hl) fun b hb z => hn b hb (owned_setV z)
      refine ⟨e1, fun b hb => ?_⟩
      rcases e2 b hb with z | z
      · exact .inl z
      · exact .inr (owned_setV z)
  | [], is, d :: ds, vs, σ, ρ, _, h, _, _ => by cases h
  | [], is, [], v :: vs, σ, ρ, _, h, _, _ => by cases h
  | true :: fs, is, [], vs, σ, ρ, _, h, _, _ => by cases h
  | false :: fs, is, [], vs, σ, ρ, _, h, _, _ => by cases h
  | true :: fs, is, d :: ds, [], σ, ρ, _, h, _, _ => by cases h
  | false :: fs, is, d :: ds, [], σ, ρ, _, h, _, _ => by cases h
theorem then_F {fs : List Bool} {f : FA} {β : Type} {g : List D → M β} {Q : List V → Hp → Prop} {O : Res β → Prop} (st : StOk K c W H S) (en : EnvOk K c W H σ ρ) (hO : ∀ n p S', O (.er n p S') → ErQ K c W H E n p S') (hN : ¬ O .no)
    (h : O (bd (f ρ) g S)) (k : ∀ d S' W' H' v, StOk K c W' H' S' → Keep W H W' H' → RepF K c H W' H' fs d v → O (g d S') → Q v H') : tF K c E fs f σ H Q := by
  refine ⟨W, ρ, S, st, en, ?_⟩
  unfold bd at h
  cases z : f ρ S with
  | no => rw [z] at h; exact hN h
  | er n p S' => rw [z] at h; exact hO n p S' h
  | ok d S' => rw [z] at h; exact fun W' H' v st' k' r => k d S' W' H' v st' k' r h
end
section
variable {X : Cx} {c : Cn} {E : XK} {a b e o tg : Expr} {es ts : List Expr} {fa fb fc fd : FE} {ga : FA} {x y z : Str} {p pos apos cpos pa pos' : Pos} {i j l : Nat} {fs : List Bool} {is : List Nat}
theorem mf_nil : PA X [] (tF X.K c E [] nilA) := pa_imp pa_nil fun σ H Q h => by
  obtain ⟨W, ρ, S, st, en, q⟩ := h
  exact q W H [] st (Keep.refl W H) True.intro
theorem mf_V (ha : PE X e (tM X.K c E fa)) (hr : PA X es (tF X.K c E fs ga)) (hs : starEach (e :: es) X.env = (false, eval e X.env) :: starEach es X.env := by kernel_rfl) : PA X (e :: es) (tF X.K c E (false :: fs) (consA fa ga)) :=
  pa_imp (pa_cons ha hr hs) fun σ H Q h => by
    obtain ⟨W, ρ, S, st, en, q⟩ := h
    refine then_M (O := OutF X.K c W H E (false :: fs) Q) st en (fun _ _ _ z => z) (fun z => z) q fun d S1 W1 H1 v st1 k1 r1 q1 => ?_
    refine then_F (O := OutF X.K c W H E (false :: fs) Q) st1 (en.ext k1) (fun _ _ _ z => ErQ.pre z k1 st1) (fun z => z) q1 fun ds S2 W2 H2 vs st2 k2 r2 q2 => ?_
    exact q2 W2 H2 _ st2 (k1.tr st1 k2) ⟨Rep.ext k2.wex d v r1, RepF.pre k1 (fun b e => st1.ds.at (k1.wex.2 b e)) r2⟩
theorem mf_O (ha : PE X e (tO X.K c E fa)) (hr : PA X es (tF X.K c E fs ga)) (hs : starEach (e :: es) X.env = (false, eval e X.env) :: starEach es X.env := by kernel_rfl) : PA X (e :: es) (tF X.K c E (true :: fs) (consA fa ga)) :=
  pa_imp (pa_cons ha hr hs) fun σ H Q h => by
    obtain ⟨W, ρ, S, st, en, q⟩ := h
    refine then_O (O := OutF X.K c W H E (true :: fs) Q) st en (fun _ _ _ z => z) (fun z => z) q fun d S1 W1 H1 v st1 k1 r1 q1 => ?_
    refine then_F (O := OutF X.K c W H E (true :: fs) Q) st1 (en.ext k1) (fun _ _ _ z => ErQ.pre z k1 st1) (fun z => z) q1 fun ds S2 W2 H2 vs st2 k2 r2 q2 => ?_
    refine q2 W2 H2 _ st2 (k1.tr st1 k2) ⟨RepO.ext k2 r1, fun hm => ?_, RepF.pre k1 (fun b e => st1.ds.at (k1.wex.2 b e)) r2⟩
    obtain ⟨ad, e1, n1⟩ := RepF.own r2 v hm
    obtain ⟨ad2, e2, _, _, _, ow⟩ := r1
    rw [e2] at e1
    cases e1
    obtain ⟨o, ho⟩ := ow.some
    rw [n1] at ho
    cases ho
def tNm (is : List Nat) : TGs := fun vs σ H Q => vs.length = is.length ∧ Q (stV is vs σ) H
theorem mn_nil : PGs X [] (tNm []) := pgs_imp pgs_nil fun vs σ H Q h => by
  obtain ⟨h1, h2⟩ := h
  cases vs with
  | nil => exact ⟨rfl, h2⟩
  | cons v vs => cases h1
theorem mn_cons0 (hN : X.N.Nodup) (hi : X.N[i]? = some x) (hx : Loc X.env.scope x) (hf : X.fn x = true ∨ X.env.scope.names.lookup x = some .local) (hr : PGs X es (tNm is)) (hs : (assignEach (.Name x p :: es) X.env).map (·.2) = assign (.Name x p) X.env :: (assignEach es X.env).map (·.2)) :
    PGs X (.Name x p :: es) (tNm (i :: is)) := pgs_imp (pgs_cons (pg_name hN hi hx hf) hr hs) fun vs σ H Q h => by
  obtain ⟨h1, h2⟩ := h
  cases vs with
  | nil => cases h1
  | cons v vs => exact ⟨v, vs, rfl, by simpa using h1, h2⟩
theorem mn_L (hN : X.N.Nodup) (hr : PGs X es (tNm is)) (hi : X.N[i]? = some x := by kernel_rfl) (hx : X.env.scope.names.lookup x = some .local := by kernel_rfl) (hs : (assignEach (.Name x p :: es) X.env).map (·.2) = assign (.Name x p) X.env :: (assignEach es X.env).map (·.2) := by kernel_rfl) :
    PGs X (.Name x p :: es) (tNm (i :: is)) := mn_cons0 hN hi (.inl hx) (.inr hx) hr hs
theorem mn_C (hN : X.N.Nodup) (hr : PGs X es (tNm is)) (hi : X.N[i]? = some x := by kernel_rfl) (hx : X.env.scope.names.lookup x = some .cell := by kernel_rfl) (hf : X.fn x = true := by kernel_rfl) (hs : (assignEach (.Name x p :: es) X.env).map (·.2) = assign (.Name x p) X.env :: (assignEach es X.env).map (·.2) := by kernel_rfl) :
    PGs X (.Name x p :: es) (tNm (i :: is)) := mn_cons0 hN hi (.inr hx) (.inl hf) hr hs
/-- by a tuple that is laid and taken apart -/
theorem ms_unp {kt k2 : Nat} {pt pt2 : Pos} (hc : X.calm = true) (ha : PA X es (tF X.K c E fs ga)) (hg : PGs X ts (tNm is)) (hn : (assignEach ts X.env).length = is.length := by kernel_rfl) (hst : (assignEach ts X.env).findIdx? (·.1) = none := by kernel_rfl)
    (hs : swapsWithSole [.Tuple ts kt pt] (.Tuple es k2 pt2) pos.line X.env = pure false := by kernel_rfl) (hw : swappedStores [.Tuple ts kt pt] (.Tuple es k2 pt2) X.env = pure none := by kernel_rfl)
    (h1 : (assignEach [.Tuple ts kt pt] X.env).map (·.2) = [assign (.Tuple ts kt pt) X.env] := by kernel_rfl) : PS X (.Assign [.Tuple ts kt pt] (.Tuple es k2 pt2) pos) (tS X.K c E (unpS fs is ga)) :=
  ps_imp (ps_asg (pe_tup ha) (pg_tup hc hg hn hst) hs hw h1) fun D' σ H q => by
    obtain ⟨W, ρ, S, st, en, q⟩ := q
    refine then_F (O := OutS X.K c W H σ ρ E D') st en (fun _ _ _ z => ErS.q z) (fun z => z) q fun ds S1 W1 H1 vs st1 k1 r1 q1 => ?_
    split at q1
    · rename_i hl
      have hv := RepF.length r1
      have few : vs.length ≤ sizeLine := by
        rw [hv, hl.1]
        exact line_le (Nat.le_trans hl.2 (by decide))
      refine ⟨few, fun t ht => ?_⟩
      have st2 := new_st (o := .tup vs) st1 ht
      have k2' : Keep W1 H1 W1 (upd H1 t (.tup vs)) := new_keep st1 ht
      have k12 := k1.tr st1 k2'
      obtain ⟨e1, e2⟩ := stF_ok (en.ext k12) (RepF.ext k2' r1) hl.1 fun ad hm => by
        obtain ⟨ad', e3, n3⟩ := RepF.own r1 _ hm
        cases e3
        exact fresh_not en n3
      refine ⟨t, vs, rfl, SqT.of upd_same, by rw [hv]; exact hl.1, by rw [hv]; exact hl.1, ?_⟩
      exact q1 W1 _ _ st2 e1 ⟨k12.toS st2, fun b z => e2 b z⟩
    · exact q1.elim
/-- three plain names, three values -/
theorem ms_par3 {kt k2 : Nat} {pt pt2 px py pz : Pos} {d : Expr} (hc : X.calm = true) (hN : X.N.Nodup) (ha : PA X [a, b, d] (tF X.K c E fs ga)) (hi : X.N[i]? = some x := by kernel_rfl) (hj : X.N[j]? = some y := by kernel_rfl) (hl : X.N[l]? = some z := by kernel_rfl) (hij : i ≠ j := by decide) (hil : i ≠ l := by decide) (hjl : j ≠ l := by decide)
    (hx : X.env.scope.names.lookup x = some .local := by kernel_rfl) (hy : X.env.scope.names.lookup y = some .local := by kernel_rfl) (hz : X.env.scope.names.lookup z = some .local := by kernel_rfl)
    (hw : swappedStores [.Tuple [.Name x px, .Name y py, .Name z pz] kt pt] (.Tuple [a, b, d] k2 pt2) X.env = pure (some [x, y, z]) := by kernel_rfl)
    (hs : swapsWithSole [.Tuple [.Name x px, .Name y py, .Name z pz] kt pt] (.Tuple [a, b, d] k2 pt2) pos.line X.env = pure false := by kernel_rfl) :
    PS X (.Assign [.Tuple [.Name x px, .Name y py, .Name z pz] kt pt] (.Tuple [a, b, d] k2 pt2) pos) (tS X.K c E (unpS fs [i, j, l] ga)) :=
  ps_imp (ps_par3 hc hN hi hj hl hij hil hjl hx hy hz ha hw hs) fun D' σ H q => by
    obtain ⟨W, ρ, S, st, en, q⟩ := q
    refine then_F (O := OutS X.K c W H σ ρ E D') st en (fun _ _ _ z => ErS.q z) (fun z => z) q fun ds S1 W1 H1 vs st1 k1 r1 q1 => ?_
    split at q1
    · rename_i hl
      have hv := (RepF.length r1).trans hl.1
      obtain ⟨e1, e2⟩ := stF_ok (en.ext k1) r1 hl.1 fun ad hm => by
        obtain ⟨ad', e3, n3⟩ := RepF.own r1 _ hm
        cases e3
        exact fresh_not en n3
      match vs, hv, e1, e2 with
      | [u, v, w], _, e1, e2 => exact ⟨u, v, w, rfl, q1 W1 H1 _ st1 e1 ⟨k1.toS st1, fun b z => e2 b z⟩⟩
    · exact q1.elim
end
end Mini
namespace Mini
open PySem PySem.Spec PyProof.Rows
open L2 (atI ixN atI_nat)
/-! ## plain part: loops -/
/-- a for loop by an invariant: no way out -/
theorem forL_inv {t : TGd} {b : FS} {ds : List D} (I : Nat → En → DS → Prop) (hs : ∀ i d ρ S, ds[i]? = some d → I i ρ S → ∃ ρ1 ρ' S', t d ρ = some ρ1 ∧ (b ρ1 S = .ok (.nx ρ') S' ∨ b ρ1 S = .ok (.ct ρ') S') ∧ I (i + 1) ρ' S') {ρ : En} {S : DS} (h0 : I 0 ρ S) :
    ∃ ρ' S', forL t b ds ρ S = .ok (.nx ρ') S' ∧ I ds.length ρ' S' := by
  have go : ∀ (es : List D) (k : Nat), (∀ j, es[j]? = ds[k + j]?) → k + es.length = ds.length → ∀ ρ S, I k ρ S → ∃ ρ' S', forL t b es ρ S = .ok (.nx ρ') S' ∧ I ds.length ρ' S' := by
    intro es
    induction es with
    | nil =>
      intro k _ hl ρ S h
      have e : k = ds.length := by simpa using hl
      subst e
      exact ⟨ρ, S, rfl, h⟩
    | cons d es ih =>
      intro k hk hl ρ S h
      have h1 := hk 0
      rw [List.getElem?_cons_zero, Nat.add_zero] at h1
      obtain ⟨ρ1, ρ', S', e1, e2, e3⟩ := hs k d ρ S h1.symm h
      obtain ⟨ρ2, S2, e4, e5⟩ := ih (k + 1) (fun j => by have := hk (j + 1); rw [List.getElem?_cons_succ] at this; rw [this]; congr 1; omega) (by rw [List.length_cons] at hl; omega) ρ' S' e3
      refine ⟨ρ2, S2, ?_, e5⟩
      rcases e2 with e2 | e2 <;> simp only [forL, bd, e1, lift, rt, e2, e4]
  exact go ds 0 (fun j => by rw [Nat.zero_add]) (by omega) ρ S h0
/-- .. or a way out by return -/
theorem forL_ret {t : TGd} {b : FS} {ds : List D} (I : Nat → En → DS → Prop) (R : D → DS → Prop) (hs : ∀ i d ρ S, ds[i]? = some d → I i ρ S → ∃ ρ1, t d ρ = some ρ1 ∧ ((∃ ρ' S', b ρ1 S = .ok (.nx ρ') S' ∧ I (i + 1) ρ' S') ∨ ∃ v S', b ρ1 S = .ok (.rt v) S' ∧ R v S')) {ρ : En} {S : DS} (h0 : I 0 ρ S) :
    (∃ ρ' S', forL t b ds ρ S = .ok (.nx ρ') S' ∧ I ds.length ρ' S') ∨ ∃ v S', forL t b ds ρ S = .ok (.rt v) S' ∧ R v S' := by
  have go : ∀ (es : List D) (k : Nat), (∀ j, es[j]? = ds[k + j]?) → k + es.length = ds.length → ∀ ρ S, I k ρ S → (∃ ρ' S', forL t b es ρ S = .ok (.nx ρ') S' ∧ I ds.length ρ' S') ∨ ∃ v S', forL t b es ρ S = .ok (.rt v) S' ∧ R v S' := by
    intro es
    induction es with
    | nil =>
      intro k _ hl ρ S h
      have e : k = ds.length := by simpa using hl
      subst e
      exact .inl ⟨ρ, S, rfl, h⟩
    | cons d es ih =>
      intro k hk hl ρ S h
      have h1 := hk 0
      rw [List.getElem?_cons_zero, Nat.add_zero] at h1
      obtain ⟨ρ1, e1, e2⟩ := hs k d ρ S h1.symm h
      rcases e2 with ⟨ρ', S', e2, e3⟩ | ⟨v, S', e2, e3⟩
      · have z := ih (k + 1) (fun j => by have := hk (j + 1); rw [List.getElem?_cons_succ] at this; rw [this]; congr 1; omega) (by rw [List.length_cons] at hl; omega) ρ' S' e3
        rcases z with ⟨ρ2, S2, e4, e5⟩ | ⟨v, S2, e4, e5⟩
        · exact .inl ⟨ρ2, S2, by simp only [forL, bd, e1, lift, rt, e2, e4], e5⟩
        · exact .inr ⟨v, S2, by simp only [forL, bd, e1, lift, rt, e2, e4], e5⟩
      · exact .inr ⟨v, S', by simp only [forL, bd, e1, lift, rt, e2], e3⟩
  exact go ds 0 (fun j => by rw [Nat.zero_add]) (by omega) ρ S h0
/-- a comprehension whose parts leave the draws alone -/
theorem lcL_map {t : TGd} {test : FB} {elt : FE} {ρ : En} {S : DS} (p : D → Bool) (g : D → D) : ∀ {ds acc : List D}, (∀ d ∈ ds, ∃ ρ1, t d ρ = some ρ1 ∧ test ρ1 S = .ok (p d) S ∧ (p d = true → elt ρ1 S = .ok (g d) S)) → acc.length + ds.length ≤ 16777216 →
    lcL t test elt ds acc ρ S = .ok (acc ++ (ds.filter p).map g) S
  | [], acc, _, _ => by simp [lcL, rt]
  | d :: ds, acc, h, hl => by
    obtain ⟨ρ1, e1, e2, e3⟩ := h d List.mem_cons_self
    rw [List.length_cons] at hl
    have h' : ∀ x ∈ ds, _ := fun x hx => h x (List.mem_cons_of_mem _ hx)
    cases hp : p d with
    | false =>
      rw [hp] at e2
      simp only [lcL, bd, e1, lift, rt, noEr, e2, Bool.false_eq_true, if_false, List.filter_cons, hp]
      exact lcL_map p g h' (by omega)
    | true =>
      rw [hp] at e2
      have l1 : acc.length < 16777216 := by omega
      have z := lcL_map (acc := acc ++ [g d]) p g h' (by rw [List.length_append, List.length_singleton]; omega)
      simp only [lcL, bd, e1, lift, rt, noEr, e2, e3 hp, if_true, List.filter_cons, hp, l1, List.map_cons]
      rw [z, List.append_assoc, List.singleton_append]
theorem lcL_all {t : TGd} {elt : FE} {ρ : En} {S : DS} (g : D → D) {ds : List D} (h : ∀ d ∈ ds, ∃ ρ1, t d ρ = some ρ1 ∧ elt ρ1 S = .ok (g d) S) (hl : ds.length ≤ 16777216) : lcL t yesB elt ds [] ρ S = .ok (ds.map g) S := by
  have z := lcL_map (t := t) (test := yesB) (elt := elt) (ρ := ρ) (S := S) (fun _ => true) g (ds := ds) (acc := []) (fun d hd => by
    obtain ⟨ρ1, e1, e2⟩ := h d hd
    exact ⟨ρ1, e1, rfl, fun _ => e2⟩) (by simpa using hl)
  rw [List.filter_eq_self.mpr (fun _ _ => rfl), List.nil_append] at z
  exact z
/-- a comprehension whose elements draw: each as wanted -/
theorem lcL_draw {t : TGd} {elt : FE} {ρ : En} (V : DS → Prop) (P : D → Prop) : ∀ {ds acc : List D} {S : DS}, (∀ d ∈ ds, ∀ S, V S → ∃ ρ1 x S', t d ρ = some ρ1 ∧ elt ρ1 S = .ok x S' ∧ P x ∧ V S') → acc.length + ds.length ≤ 16777216 → V S →
    ∃ r S', lcL t yesB elt ds acc ρ S = .ok (acc ++ r) S' ∧ r.length = ds.length ∧ (∀ x ∈ r, P x) ∧ V S'
  | [], acc, S, _, _, v => ⟨[], S, by simp [lcL, rt], rfl, (by simp), v⟩
  | d :: ds, acc, S, h, hl, v => by
    obtain ⟨ρ1, x, S', e1, e2, e3, v'⟩ := h d List.mem_cons_self S v
    rw [List.length_cons] at hl
    have l1 : acc.length < 16777216 := by omega
    obtain ⟨r, S2, z1, z2, z3, z4⟩ := lcL_draw V P (acc := acc ++ [x]) (fun y hy => h y (List.mem_cons_of_mem _ hy)) (by rw [List.length_append, List.length_singleton]; omega) v'
    refine ⟨x :: r, S2, ?_, by simp [z2], fun y hy => ?_, z4⟩
    · simp only [lcL, bd, e1, lift, rt, noEr, yesB, e2, if_true, l1]
      rw [z1, List.append_assoc, List.singleton_append]
    · rcases List.mem_cons.mp hy with rfl | hy
      · exact e3
      · exact z3 y hy
/-! ## plain part: data -/
theorem intsOf_map : ∀ ns : List Int, intsOf (ns.map D.int) = some ns
  | [] => rfl
  | n :: ns => by simp only [List.map_cons, intsOf, intsOf_map ns, Option.map_some]
theorem rngD_map (n : Nat) : rngD 0 n = (List.range n).map fun i => D.int ((i : Nat) : Int) := by
  unfold rngD
  simp
/-- data that may be compared and shown: h deep, n entries -/
structure Gd (h n : Nat) (d : D) : Prop where
  pu : d.pure = true
  de : d.py.depth ≤ h
  sh : d.py.showable = true
  lf : d.py.leavesShort 501 = true
  pl : d.py.plain = true
  bu : d.py.bulk ≤ n
theorem Gd.mono {h n h' n' : Nat} {d : D} (g : Gd h n d) (a : h ≤ h') (b : n ≤ n') : Gd h' n' d := ⟨g.pu, Nat.le_trans g.de a, g.sh, g.lf, g.pl, Nat.le_trans g.bu b⟩
theorem log2_small {n : Nat} (h : n < 10 ^ 500) : n.log2 < 1920 := by
  by_cases z : n = 0
  · subst z; decide
  · refine (Nat.log2_lt z).mpr (Nat.lt_trans h ?_)
    decide +kernel
theorem gd_int {i : Int} (h : i.natAbs < 10 ^ 500) : Gd 0 0 (.int i) where
  pu := rfl
  de := Nat.le_refl _
  sh := by
    simp only [D.py, PyData.showable, decide_eq_true_eq]
    exact log2_small h
  lf := by
    simp only [D.py, PyData.leavesShort, decide_eq_true_eq]
    have e := int_text_length_le10 (k := 500) (by decide) h
    show (Str.ofString (toString i)).length ≤ 501
    rw [PySem.ofString_length]
    exact e
  pl := rfl
  bu := Nat.le_refl _
theorem gd_non : Gd 0 0 .non := ⟨rfl, Nat.le_refl _, rfl, rfl, rfl, Nat.le_refl _⟩
theorem gd_bl (b : Bool) : Gd 0 0 (.bl b) := ⟨rfl, Nat.le_refl _, rfl, rfl, rfl, Nat.le_refl _⟩
theorem gd_str {s : Str} {n : Nat} (h1 : s.length ≤ n) (h2 : s.cps.toList.all (fun c => decide (c < 16 ^ 8)) = true) : Gd 0 n (.str s) := ⟨rfl, Nat.le_refl _, rfl, by simp only [D.py, PyData.leavesShort]; exact h2, rfl, h1⟩
theorem gdL {h n : Nat} : ∀ {ds : List D}, (∀ d ∈ ds, Gd h n d) → pureL ds = true ∧ PyData.depthAll (pyL ds) ≤ h ∧ PyData.showableAll (pyL ds) = true ∧ PyData.leavesShortAll 501 (pyL ds) = true ∧ PyData.plainAll (pyL ds) = true ∧ PyData.bulkAll (pyL ds) ≤ ds.length * (n + 1)
  | [], _ => ⟨rfl, Nat.zero_le _, rfl, rfl, rfl, Nat.zero_le _⟩
  | d :: ds, g => by
    obtain ⟨a1, a2, a3, a4, a5, a6⟩ := gdL (ds := ds) fun x hx => g x (List.mem_cons_of_mem _ hx)
    have b := g d List.mem_cons_self
    refine ⟨?_, ?_, ?_, ?_, ?_, ?_⟩
    · simp only [pureL, b.pu, a1, Bool.and_self]
    · simp only [pyL, PyData.depthAll]
      exact Nat.max_le.mpr ⟨b.de, a2⟩
    · simp only [pyL, PyData.showableAll, b.sh, a3, Bool.and_self]
    · simp only [pyL, PyData.leavesShortAll, b.lf, a4, Bool.and_self]
    · simp only [pyL, PyData.plainAll, b.pl, a5, Bool.and_self]
    · simp only [pyL, PyData.bulkAll, List.length_cons]
      have z := b.bu
      rw [Nat.succ_mul]
      omega
theorem gd_tup {h n : Nat} {ds : List D} (g : ∀ d ∈ ds, Gd h n d) : Gd (h + 1) (ds.length * (n + 1)) (.tup ds) := by
  obtain ⟨a1, a2, a3, a4, a5, a6⟩ := gdL g
  exact ⟨by simpa only [D.pure] using a1, by simpa only [D.py, PyData.depth, Nat.add_le_add_iff_right] using a2, by simpa only [D.py, PyData.showable] using a3, by simpa only [D.py, PyData.leavesShort] using a4, by simpa only [D.py, PyData.plain] using a5, by simpa only [D.py, PyData.bulk] using a6⟩
theorem gd_tpx {h n : Nat} {ds : List D} (g : ∀ d ∈ ds, Gd h n d) : Gd (h + 1) (ds.length * (n + 1)) (.tpx ds) := by
  obtain ⟨a1, a2, a3, a4, a5, a6⟩ := gdL g
  exact ⟨by simpa only [D.pure] using a1, by simpa only [D.py, PyData.depth, Nat.add_le_add_iff_right] using a2, by simpa only [D.py, PyData.showable] using a3, by simpa only [D.py, PyData.leavesShort] using a4, by simpa only [D.py, PyData.plain] using a5, by simpa only [D.py, PyData.bulk] using a6⟩
theorem gd_lst {h n : Nat} {ds : List D} (g : ∀ d ∈ ds, Gd h n d) : Gd (h + 1) (ds.length * (n + 1)) (.lst ds) := by
  obtain ⟨a1, a2, a3, a4, a5, a6⟩ := gdL g
  exact ⟨by simpa only [D.pure] using a1, by simpa only [D.py, PyData.depth, Nat.add_le_add_iff_right] using a2, by simpa only [D.py, PyData.showable] using a3, by simpa only [D.py, PyData.leavesShort] using a4, by simpa only [D.py, PyData.plain] using a5, by simpa only [D.py, PyData.bulk] using a6⟩
theorem gd_repr {h n : Nat} {d : D} (g : Gd h n d) (a : h ≤ 64) (b : n ≤ 30000) : okRepr d = true := by
  have e : d.py.shown.length ≤ 16777216 := by
    have z := PyData.shown_le_bulk 501 (by decide) d.py g.lf
    have y := g.bu
    omega
  unfold okRepr okEq
  simp only [g.pu, g.sh, Bool.true_and, Bool.and_true, Bool.and_eq_true, decide_eq_true_eq]
  exact ⟨Nat.le_trans g.de a, e⟩
theorem gd_eq {h n : Nat} {d : D} (g : Gd h n d) (a : h ≤ 64) : dEq d d = some (.bl true) := by
  have e : okEq d = true := by
    unfold okEq
    simp only [g.pu, Bool.true_and, decide_eq_true_eq]
    exact Nat.le_trans g.de a
  unfold dEq dEqv
  rw [e, SeqAt.eqv_refl_plain _ g.pl]
  rfl
theorem dEq_int (i j : Int) : dEq (.int i) (.int j) = some (.bl (decide (i = j))) := by
  have e : PyData.eqv (.int i) (.int j) = decide (i = j) := by
    rw [Bool.eq_iff_iff]
    simp [PyData.eqv]
  unfold dEq dEqv
  rw [show okEq (.int i) = true from rfl, show okEq (.int j) = true from rfl]
  simp only [D.py, e, Bool.and_self, if_true]
/-- _law_same -/
def sameB : FS := retS (andE (op2 dEq (var 0) (var 1)) (reprEqE (var 0) (var 1)))
theorem same_ok {h n : Nat} {d : D} (g : Gd h n d) (a : h ≤ 64) (b : n ≤ 30000) (S : DS) : fnD 2 2 sameB [d, d] S = .ok (.bl true) S := by
  have e1 := gd_eq g a
  have e2 := gd_repr g a b
  show bd (sameB [.vl d, .vl d]) leave S = _
  simp [sameB, retS, andE, op2, reprEqE, bd, var, slot, lift, rt, e1, e2, leave]
/-! ## plain part: the draws -/
def startB : FE := (seqO (asgS 1 (cst (.int 7)))
  (seqO (forS (itS (var 0)) (tgN 2) (asgS 1 (op2 dAdd (op2 dMod (op1 dInt (op2 dAdd (op2 dMulX (var 1) (cst (.int 48271))) (var 2))) (cst (.int 2147483629))) (cst (.int 1)))))
  (lstE (consA (op1 dList (var 0)) (consA (cst (.int 0)) (consA (cst (.int 0)) (consA (var 1) nilA)))))))
def drawB : FS := (seqS (ifS (andB (valB (op2 dEq (stIx 0 1) (cst (.int 0)))) (valB (op2 dGe (stIx 0 2) (op1 dLen (stIx 0 0))))) (seqS (stSet 0 3 (op2 dMod (op1 dInt (op2 dAdd (op2 dMulX (stIx 0 3) (cst (.int 48271))) (cst (.int 69621)))) (cst (.int 2147483629))))
  (retS (op2 dMod (op1 dInt (op2 dDiv (stIx 0 3) (cst (.int 13)))) (var 1)))) skipS)
  (seqS (ifS (valB (op2 dEq (stIx 0 1) (cst (.int 0)))) (seqS (stSet 0 1 (op1 dAbs (op2 dIxA (stIx 0 0) (stIx 0 2))))
  (stSet 0 2 (op2 dAdd (stIx 0 2) (cst (.int 1))))) skipS)
  (seqS (asgS 2 (op2 dMod (op1 dInt (stIx 0 1)) (var 1)))
  (seqS (stSet 0 1 (op2 dDiv (stIx 0 1) (var 1)))
  (retS (var 2))))))
/-- the state as it stands between draws -/
def Vs (S : DS) : Prop := ∃ (ls : List Int) (a : Int) (k : Nat) (sd : Int), S = some [.lst (ls.map .int), .int a, .int (k : Int), .int sd] ∧ 0 ≤ a ∧ 0 ≤ sd ∧ sd < 2 ^ 64
/-- a bound that no number of ours comes near -/
def Big : Nat := (2 ^ 250) ^ 16
theorem big_of {n : Nat} (h : n < 18446744073709551616) : n < Big := Nat.lt_trans h (by unfold Big; decide +kernel)
theorem big_pow {n a b : Nat} (h : n ≤ a ^ b) (h2 : a ^ b < Big) : n < Big := Nat.lt_of_le_of_lt h h2
theorem big_log {n : Nat} (h : n < Big) : n.log2 < 4000 := by
  by_cases z : n = 0
  · subst z; decide
  · exact (Nat.log2_lt z).mpr h
theorem mulX {i j : Int} (h1 : i.natAbs < Big) (h2 : j.natAbs < Big) : dMulX (.int i) (.int j) = some (.int (i * j)) := by
  have a := big_log h1
  have b := big_log h2
  unfold dMulX
  exact if_pos (by omega)
theorem mulI {i j : Int} (h1 : i.natAbs < Big) (h2 : j.natAbs < Big) : dMul (.int i) (.int j) = some (.int (i * j)) := by
  have a := big_log h1
  have b := big_log h2
  unfold dMul
  exact if_pos (by omega)
theorem divI {i j : Int} (h1 : 0 < j) (h2 : j.natAbs < Big) : dDiv (.int i) (.int j) = some (.int (i / j)) := by
  have b := big_log h2
  unfold dDiv
  exact if_pos ⟨h1, by omega⟩
theorem modI {i j : Int} (h1 : 0 < j) : dMod (.int i) (.int j) = some (.int (i % j)) := by
  unfold dMod
  exact if_pos h1
theorem addI (i j : Int) : dAdd (.int i) (.int j) = some (.int (i + j)) := rfl
theorem subI (i j : Int) : dSub (.int i) (.int j) = some (.int (i - j)) := rfl
theorem addI' (i j : Int) : dAddI (.int i) (.int j) = some (.int (i + j)) := rfl
theorem start_ok (ns : List Int) (hl : ns.length ≤ 16777216) : ∃ ds, fnO 1 3 startB [.scr ns] none = .ok (.lst ds) none ∧ Vs (some ds) := by
  obtain ⟨ρ', S', e1, sd, e2, h1, h2, z, e3⟩ := forL_inv (t := tgN 2) (b := (asgS 1 (op2 dAdd (op2 dMod (op1 dInt (op2 dAdd (op2 dMulX (var 1) (cst (.int 48271))) (var 2))) (cst (.int 2147483629))) (cst (.int 1))))) (ds := ns.map D.int)
    (fun _ ρ S => ∃ (sd : Int), S = none ∧ 0 ≤ sd ∧ sd < 2 ^ 63 ∧ ∃ z, ρ = [.vl (.scr ns), .vl (.int sd), z]) (fun i d ρ S hd ⟨sd, e1, h1, h2, z, e2⟩ => by
      subst e1 e2
      rw [List.getElem?_map] at hd
      obtain ⟨c, _, rfl⟩ := Option.map_eq_some_iff.mp hd
      have l1 := mulX (i := sd) (j := 48271) (big_of (by omega)) (big_of (by decide))
      refine ⟨[.vl (.scr ns), .vl (.int sd), .vl (.int c)], [.vl (.scr ns), .vl (.int ((sd * 48271 + c) % 2147483629 + 1)), .vl (.int c)], none, rfl, .inl ?_, _, rfl, by omega, by omega, _, rfl⟩
      simp [asgS, op2, op1, bd, var, slot, lift, rt, cst, l1, addI, modI, dInt, setV]) (ρ := [.vl (.scr ns), .vl (.int 7), .no]) (S := none) ⟨7, rfl, by decide, by decide, _, rfl⟩
  subst e2 e3
  refine ⟨[.lst (ns.map .int), .int 0, .int 0, .int sd], ?_, ns, 0, 0, sd, rfl, by decide, h1, by omega⟩
  show startB [.vl (.scr ns), .no, .no] none = _
  simp [startB, seqO, asgS, forS, itS, seqAny, bd, var, slot, lift, rt, cst, setV, e1, lstE, consA, nilA, op1, dList]
theorem ge_int (i j : Int) : dGe (.int i) (.int j) = some (.bl (decide (j ≤ i))) := rfl
theorem abs_nn (i : Int) : 0 ≤ (if i < 0 then -i else i) := by split <;> omega
theorem draw_ok {S : DS} (v : Vs S) {n : Int} (h : 0 < n) (hb : n < 2 ^ 63) : ∃ (r : Int) (S' : DS), fnD 2 3 drawB [.st, .int n] S = .ok (.int r) S' ∧ 0 ≤ r ∧ r < n ∧ Vs S' := by
  obtain ⟨ls, a, k, sd, rfl, h1, h2, h3⟩ := v
  have ix0 : ∀ {x0 x1 x2 x3 : D}, atI [x0, x1, x2, x3] 0 = some x0 := rfl
  have ix1 : ∀ {x0 x1 x2 x3 : D}, atI [x0, x1, x2, x3] 1 = some x1 := rfl
  have ix2 : ∀ {x0 x1 x2 x3 : D}, atI [x0, x1, x2, x3] 2 = some x2 := rfl
  have ix3 : ∀ {x0 x1 x2 x3 : D}, atI [x0, x1, x2, x3] 3 = some x3 := rfl
  have n1 : ixN 4 1 = some 1 := rfl
  have n2 : ixN 4 2 = some 2 := rfl
  have n3 : ixN 4 3 = some 3 := rfl
  have l1 := mulX (i := sd) (j := 48271) (big_of (by omega)) (big_of (by decide))
  have dv : ∀ i : Int, dDiv (.int i) (.int n) = some (.int (i / n)) := fun i => divI h (big_of (by omega))
  have md : ∀ i : Int, dMod (.int i) (.int n) = some (.int (i % n)) := fun i => modI h
  by_cases ha : a = 0
  · subst ha
    by_cases hk : ls.length ≤ k
    · have c1 : decide (((ls.length : Nat) : Int) ≤ (k : Int)) = true := decide_eq_true (by omega)
      refine ⟨((sd * 48271 + 69621) % 2147483629 / 13) % n, some [.lst (ls.map .int), .int 0, .int k, .int ((sd * 48271 + 69621) % 2147483629)], ?_, Int.emod_nonneg _ (by omega), Int.emod_lt_of_pos _ h, ls, 0, k, _, rfl, by omega, by omega, by omega⟩
      show bd (drawB [.vl .st, .vl (.int n), .no]) leave _ = _
      have d13 := fun i : Int => divI (i := i) (j := 13) (by decide) (big_of (by decide))
      simp [drawB, seqS, ifS, andB, valB, isBl, op2, op1, bd, var, slot, lift, rt, cst, stIx, stSet, ix0, ix1, ix2, ix3, n1, n2, n3, dEq_int, ge_int, dLen, c1, hk, l1, addI, modI, dInt, d13, md, retS, leave]
    · have hk' : k < ls.length := by omega
      have c1 : decide (((ls.length : Nat) : Int) ≤ (k : Int)) = false := decide_eq_false (by omega)
      have g1 : atI (ls.map D.int) (k : Int) = some (.int ls[k]) := atI_nat (by simp [hk'])
      refine ⟨(if ls[k] < 0 then -ls[k] else ls[k]) % n, some [.lst (ls.map .int), .int ((if ls[k] < 0 then -ls[k] else ls[k]) / n), .int ((k + 1 : Nat) : Int), .int sd], ?_, Int.emod_nonneg _ (by omega), Int.emod_lt_of_pos _ h, ls, _, k + 1, _, rfl, Int.ediv_nonneg (abs_nn _) (by omega), h2, h3⟩
      show bd (drawB [.vl .st, .vl (.int n), .no]) leave _ = _
      simp [drawB, seqS, ifS, andB, valB, isBl, op2, op1, bd, var, slot, lift, rt, cst, stIx, stSet, ix0, ix1, ix2, ix3, n1, n2, n3, dEq_int, ge_int, dLen, c1, Nat.not_le.mpr hk', addI, dInt, md, dv, retS, leave, dIxA, dIx, g1, dAbs, asgS, setV, skipS]
  · have c1 : decide (a = 0) = false := decide_eq_false ha
    refine ⟨a % n, some [.lst (ls.map .int), .int (a / n), .int k, .int sd], ?_, Int.emod_nonneg _ (by omega), Int.emod_lt_of_pos _ h, ls, _, k, _, rfl, Int.ediv_nonneg h1 (by omega), h2, h3⟩
    show bd (drawB [.vl .st, .vl (.int n), .no]) leave _ = _
    simp [drawB, seqS, ifS, andB, valB, isBl, op2, op1, bd, var, slot, lift, rt, cst, stIx, stSet, ix0, ix1, ix2, ix3, n1, n2, n3, dEq_int, c1, ha, dInt, md, dv, retS, leave, asgS, setV, skipS]
def pickB : FS := (retS (op2 dIxA (var 1) (callE (fnD 2 3 drawB) (consA (var 0) (consA (op1 dLen (var 1)) nilA)))))
theorem pick_ok {S : DS} (v : Vs S) {ds : List D} {d : D} (hd : d = .lst ds ∨ d = .tup ds) (h : ds ≠ []) (hl : ds.length ≤ 16777216) : ∃ (x : D) (S' : DS), fnD 2 2 pickB [.st, d] S = .ok x S' ∧ x ∈ ds ∧ Vs S' := by
  have h0 : 0 < ds.length := List.length_pos_iff.mpr h
  obtain ⟨r, S', e1, h1, h2, v'⟩ := draw_ok v (n := (ds.length : Int)) (by omega) (by omega)
  obtain ⟨j, rfl⟩ := Int.eq_ofNat_of_zero_le h1
  have hj : j < ds.length := by omega
  have g1 : atI ds (j : Int) = some ds[j] := atI_nat (by simp [hj])
  refine ⟨ds[j], S', ?_, List.getElem_mem hj, v'⟩
  show bd (pickB [.vl .st, .vl d]) leave S = _
  rcases hd with rfl | rfl
  · simp [pickB, retS, op2, op1, bd, var, slot, lift, rt, callE, consA, nilA, dLen, e1, dIxA, dIx, g1, leave]
  · simp [pickB, retS, op2, op1, bd, var, slot, lift, rt, callE, consA, nilA, dLen, e1, dIxA, dIx, g1, leave]
end Mini
namespace Mini
open PySem PySem.Spec PyProof.Rows L2 Evl

/-! ### list(range(..)) -/
section
variable {X : Cx} {c : Cn} {E : XK} {a b e tg : Expr} {fa fb : FE} {x y : Str} {p p2 pos pos2 : Pos}
theorem repL_map {K : PySem.W.Frag} {W : Wd} (f : Nat → Int) : ∀ ks : List Nat, RepL K c W (ks.map fun i => D.int (f i)) (ks.map fun i => V.int (f i))
  | [] => rfl
  | k :: ks => ⟨_, _, rfl, rfl, repL_map f ks⟩
theorem repL_rg {K : PySem.W.Frag} {W : Wd} (i j : Int) : RepL K c W (rngD i (j - i).toNat) (rgV i j) := repL_map (fun k => i + (k : Nat)) _
def rg24 (i j : Int) : Bool := decide (-(2 ^ 62) ≤ i ∧ i < 2 ^ 62 ∧ -(2 ^ 62) ≤ j ∧ j < 2 ^ 62 ∧ (j - i).toNat ≤ 2 ^ 24)
theorem rg24_ok {i j : Int} (h : rg24 i j = true) : RgOk i j := by
  unfold rg24 at h
  have z := of_decide_eq_true h
  exact z
def lsR1E (a : FE) : FE := fun ρ => bd (a ρ) fun d => match d with
  | .int j => if rg24 0 j then rt (.lst (rngD 0 (j - 0).toNat)) else no
  | _ => no
def lsR2E (a b : FE) : FE := fun ρ => bd (a ρ) fun d => bd (b ρ) fun e => match d, e with
  | .int i, .int j => if rg24 i j then rt (.lst (rngD i (j - i).toNat)) else no
  | _, _ => no
theorem me_lsR1 (hc : X.calm = true) (hm : X.mg "list" = none) (hm2 : X.mg "range" = none) (ha : PE X a (tM X.K c E fa)) (hg : X.env.kindOf "list" = some .globalImplicit := by kernel_rfl) (hg2 : X.env.kindOf "range" = some .globalImplicit := by kernel_rfl)
    (na : starEach [a] X.env = (false, eval a X.env) :: starEach [] X.env := by kernel_rfl) (na2 : starEach [.Call (.Name "range" p2) [a] [] pos2] X.env = (false, eval (.Call (.Name "range" p2) [a] [] pos2) X.env) :: starEach [] X.env := by kernel_rfl) :
    PE X (.Call (.Name "list" p) [.Call (.Name "range" p2) [a] [] pos2] [] pos) (tO X.K c E (lsR1E fa)) :=
  pe_imp (pe_listRg hc hg hm (prg_1 hg2 hm2 ha na) na2) fun σ H Q h => by
    obtain ⟨W, ρ, S, st, en, q⟩ := tO_un h
    refine then_M (O := OutO X.K c W H E Q) st en (fun _ _ _ z => z) (fun z => z) q fun d S1 W1 H1 v st1 k1 r1 q1 => ?_
    cases d <;> first | exact (show False from q1).elim | skip
    rename_i j
    cases r1
    dsimp only at q1
    split at q1
    · rename_i hb
      refine ⟨j, rfl, rg24_ok hb, fun p hp => ?_⟩
      exact q1 _ _ _ (new_st st1 hp) (k1.tr st1 (new_keep st1 hp)) (RepO.pre (H0 := H1) k1 (fun b e => st1.ds.at (k1.wex.2 b e)) (new_own st1 hp (repL_rg 0 j)))
    · exact q1.elim
theorem me_lsR2 (hc : X.calm = true) (hm : X.mg "list" = none) (hm2 : X.mg "range" = none) (ha : PE X a (tM X.K c E fa)) (hb : PE X b (tM X.K c E fb)) (hg : X.env.kindOf "list" = some .globalImplicit := by kernel_rfl) (hg2 : X.env.kindOf "range" = some .globalImplicit := by kernel_rfl)
    (na : starEach [a, b] X.env = (false, eval a X.env) :: starEach [b] X.env := by kernel_rfl) (nb : starEach [b] X.env = (false, eval b X.env) :: starEach [] X.env := by kernel_rfl) (hp : (backTo pos2 (starEach [b] X.env)).any (·.1) = false := by kernel_rfl)
    (na2 : starEach [.Call (.Name "range" p2) [a, b] [] pos2] X.env = (false, eval (.Call (.Name "range" p2) [a, b] [] pos2) X.env) :: starEach [] X.env := by kernel_rfl) :
    PE X (.Call (.Name "list" p) [.Call (.Name "range" p2) [a, b] [] pos2] [] pos) (tO X.K c E (lsR2E fa fb)) :=
  pe_imp (pe_listRg hc hg hm (prg_2 hg2 hm2 ha hb na nb hp) na2) fun σ H Q h => by
    obtain ⟨W, ρ, S, st, en, q⟩ := tO_un h
    refine then_M (O := OutO X.K c W H E Q) st en (fun _ _ _ z => z) (fun z => z) q fun d S1 W1 H1 v st1 k1 r1 q1 => ?_
    refine then_M (O := OutO X.K c W H E Q) st1 (en.ext k1) (fun _ _ _ z => ErQ.pre z k1 st1) (fun z => z) q1 fun d2 S2 W2 H2 u st2 k2 r2 q2 => ?_
    cases d <;> cases d2 <;> first | exact (show False from q2).elim | skip
    rename_i i j
    cases r1
    cases r2
    dsimp only at q2
    split at q2
    · rename_i hb
      refine ⟨i, j, rfl, rfl, rg24_ok hb, fun p hp => ?_⟩
      have k := k1.tr st1 k2
      exact q2 _ _ _ (new_st st2 hp) (k.tr st2 (new_keep st2 hp)) (RepO.pre (H0 := H2) k (fun b e => st2.ds.at (k.wex.2 b e)) (new_own st2 hp (repL_rg i j)))
    · exact q2.elim
end
end Mini
namespace Mini
open PySem PySem.Spec PyProof.Rows L2 Evl

/-! ### in, not in: a list or a tuple of data, a dict by its keys -/
section
variable {X : Cx} {c : Cn} {k : Nat}
def rInX (K : PySem.W.Frag) (f : Bool → Bool) : R2 := fun x y H Q =>
  (∃ d ds, Dp K H x d ∧ (Dp K H y (.list ds) ∨ Dp K H y (.tuple ds)) ∧ SeqAt.shaped d = true ∧ PyData.canLayAll0 ds = true ∧ Q (.bl (f (ds.any fun z => PyData.eqv z d))) H) ∨
  (∃ a o, y = .ref a ∧ DGet H a x o ∧ Q (.bl (f o.isSome)) H)
theorem op_inAll (hr : Room k X.A) : OpR X (compareOp .In) (rInX X.K fun b => b) := by
  intro pins s σ H x y v u Q I rx ry h
  rcases h with ⟨d, ds, hd, he, sd, se, q⟩ | ⟨a, o, rfl, g, q⟩
  · obtain ⟨as, r1⟩ := Dp.reads I d x v hd rx
    rcases he with he | he
    · obtain ⟨bs, r2⟩ := Dp.reads I (.list ds) y u he ry
      exact SeqAt.in_list_reads r2 r1 se (SeqAt.canLay_of_shaped sd) (room_in_shaped sd (by have := Room.u64 hr; omega)) ⟨.bl _, H, I, rfl, q⟩
    · obtain ⟨bs, r2⟩ := Dp.reads I (.tuple ds) y u he ry
      exact SeqAt.in_tuple_reads r2 r1 se (SeqAt.canLay_of_shaped sd) (room_in_shaped sd (by have := Room.u64 hr; omega)) ⟨.bl _, H, I, rfl, q⟩
  · obtain rfl : u = Value.ref a := ry
    exact d_in (Room.small hr) I g rx fun s' I' => ⟨.bl _, H, I', rfl, q⟩
theorem op_notinAll (hr : Room k X.A) : OpR X (compareOp .NotIn) (rInX X.K fun b => !b) := by
  intro pins s σ H x y v u Q I rx ry h
  rcases h with ⟨d, ds, hd, he, sd, se, q⟩ | ⟨a, o, rfl, g, q⟩
  · obtain ⟨as, r1⟩ := Dp.reads I d x v hd rx
    rcases he with he | he
    · obtain ⟨bs, r2⟩ := Dp.reads I (.list ds) y u he ry
      exact SeqAt.notIn_list_reads r2 r1 se (SeqAt.canLay_of_shaped sd) (room_in_shaped sd (by have := Room.u64 hr; omega)) ⟨.bl _, H, I, rfl, q⟩
    · obtain ⟨bs, r2⟩ := Dp.reads I (.tuple ds) y u he ry
      exact SeqAt.notIn_tuple_reads r2 r1 se (SeqAt.canLay_of_shaped sd) (room_in_shaped sd (by have := Room.u64 hr; omega)) ⟨.bl _, H, I, rfl, q⟩
  · obtain rfl : u = Value.ref a := ry
    exact d_notIn (Room.small hr) I g rx fun s' I' => ⟨.bl _, H, I', rfl, q⟩
def inB : D → D → Option Bool
  | d, .lst ds => if okEq d && okEq (.lst ds) then some ((pyL ds).any fun z => PyData.eqv z d.py) else none
  | d, .tup ds => if okEq d && okEq (.tup ds) then some ((pyL ds).any fun z => PyData.eqv z d.py) else none
  | d, .tpx ds => if okEq d && okEq (.tpx ds) then some ((pyL ds).any fun z => PyData.eqv z d.py) else none
  | d, .dic es => (keyD d).map fun k => (valD es k).isSome
  | _, _ => none
def dIn (d e : D) : Option D := (inB d e).map D.bl
def dNotIn (d e : D) : Option D := (inB d e).map fun b => D.bl (!b)
theorem isSome_rep {K : PySem.W.Frag} {W : Wd} : ∀ {o : Option D} {p : Option V}, RepOp K c W o p → p.isSome = o.isSome
  | none, none, _ => rfl
  | some _, some _, _ => rfl
theorem inB_ok {W : Wd} {H : Hp} {S : DS} {d e : D} {b : Bool} {v u : V} {f : Bool → Bool} {Q : VK} (st : StOk X.K c W H S) (ra : RepB X.K c W H d v) (rb : RepB X.K c W H e u) (h : inB d e = some b) (q : Q (.bl (f b)) H) : rInX X.K f v u H Q := by
  cases e <;> first | (cases h; done) | skip
  all_goals simp only [inB] at h
  case dic es =>
    obtain ⟨k, h1, rfl⟩ := Option.map_eq_some_iff.mp h
    obtain ⟨a, kvs, rfl, h2, r⟩ := rb.dic st
    have z := isSome_rep (valD_rep k r)
    refine .inr ⟨a, valV kvs k, rfl, .inl ⟨kvs, k, .inl h2, key_rep ra h1, rfl⟩, ?_⟩
    rw [z]
    exact q
  all_goals
    split at h
    · rename_i z
      rw [Bool.and_eq_true] at z
      cases h
      obtain ⟨y1, y2⟩ := okEq_shaped st ra z.1
      obtain ⟨y3, y4⟩ := okEq_shaped st rb z.2
      simp only [D.py] at y3 y4
      have y5 := SeqAt.canLay_of_shaped y4
      simp only [PyData.canLay0] at y5
      first
        | exact .inl ⟨_, _, y1, .inl y3, y2, y5, q⟩
        | exact .inl ⟨_, _, y1, .inr y3, y2, y5, q⟩
    · cases h
theorem m_in : OpM X.K c (rInX X.K fun b => b) dIn := fun {W H S d e d' v u} Q st a b q k => by
  obtain ⟨x, h, rfl⟩ := Option.map_eq_some_iff.mp q
  exact inB_ok st a b h (k W H _ st (Keep.refl W H) rfl)
theorem m_notin : OpM X.K c (rInX X.K fun b => !b) dNotIn := fun {W H S d e d' v u} Q st a b q k => by
  obtain ⟨x, h, rfl⟩ := Option.map_eq_some_iff.mp q
  exact inB_ok (f := fun b => !b) st a b h (k W H _ st (Keep.refl W H) rfl)
end
end Mini
namespace Mini
open PySem PySem.W PySem.Calls PyProof.Rows

/-! ### an exception's class whose own init says super().__init__(text) and stores what it was given -/
abbrev iSc (f : Str) : Scope := { kind := .function, names := [("self", .local), (f, .local), ("__class__", .free), ("super", .globalImplicit)], isGenerator := false, isCoroutine := false, more := [] }
structure InitAt (K : Frag) (main : Str) (C : Addr) (f : Str) (fI cc cda : Addr) (qual : Str) : Prop where
  find : findIn K (.ref C) "__init__" = some (some (.ref fI))
  typ : typeIn K (.ref fI) = some (.type "function")
  fn : ∃ (dV kV doc pm ct oc : Value) (an od : Option Addr) (osl : Array (Option Value)) (m : Str) (j : Nat) (p0 p1 p2 p3 p4 p5 p6 p7 p8 p9 pa pb : Pos), K.lookup fI = some ⟨oc, od, .func (ksFn "__init__" qual { posonlyargs := [], args := [⟨"self", none, pa⟩, ⟨f, none, pb⟩], vararg := none, kwonlyargs := [], kw_defaults := [], kwarg := none, defaults := [] }
    [.Expr (.Call (.Attribute (.Call (.Name "super" p0) [] [] p1) "__init__" p2) [.Constant (.str m) j p3] [] p4) p5, .Assign [.Attribute (.Name "self" p6) f p7] (.Name f p8) p9] (iSc f) dV kV doc pm an (.ref cda) ct cc), osl⟩ ∧
    (∀ a b : Value, bindArgs (ksFn "__init__" qual { posonlyargs := [], args := [⟨"self", none, pa⟩, ⟨f, none, pb⟩], vararg := none, kwonlyargs := [], kw_defaults := [], kwarg := none, defaults := [] }
    [.Expr (.Call (.Attribute (.Call (.Name "super" p0) [] [] p1) "__init__" p2) [.Constant (.str m) j p3] [] p4) p5, .Assign [.Attribute (.Name "self" p6) f p7] (.Name f p8) p9] (iSc f) dV kV doc pm an (.ref cda) ct cc) ⟨[a, b], []⟩ = (pure [(("self" : Str), a), (f, b)] : Sem (List (Str × Value)))) ∧ (p2.endLine == p4.line) = true
  code : codeIn K (.ref cda) qual = true
  file : ∃ (ccl : Value) (cdd : Option Addr) (vs : Array Value) (ccs : Array (Option Value)) (file : Str) (tf : Tok), K.lookup cda = some ⟨ccl, cdd, .fields vs, ccs⟩ ∧ vs[2]? = some (.str file tf) ∧ (main == file) = true
  cell : ∃ (cl : Value) (cld : Option Addr) (csl : Array (Option Value)), K.lookup cc = some ⟨cl, cld, .cell (some (.ref C)), csl⟩
structure ErrC (K : Frag) (main : Str) (C : Addr) (f : Str) : Prop where
  ox : L2.OexC K C
  ini : ∃ (fI cc cda : Addr) (qual : Str), InitAt K main C f fI cc cda qual
  ne : (f == ("self" : Str)) = false
  ne2 : (f == ("super" : Str)) = false
  ne4 : (f == ("__debug__" : Str)) = false
  ne3 : (f == ("__class__" : Str)) = false
  noat : findIn K (.ref C) f = some none
  sup : ks_superIn K C C "__init__" = some (some (.builtin "ValueError.__init__"))
  stat : nsIn K cStatics "thirdparty.any" = some none
  subV : subIn K (.ref C) (.type "ValueError") = some true
  subC : mroIn K C (.ref C) = some true

section
variable {prog : Program} {w : World} {A : Around} {E : Value → Shared → Prop} {K : Frag} {h : Heap} {g : Array GenState} {d : Drawn} {t : Nat} {os : OsState} {C : Addr} {f : Str} {mg mb : Str → Option Value}
theorem mc_eq {env : Env} {name : Str} {p0 p1 apos pos p3 : Pos} {m : Str} {j : Nat} (hp : (apos.endLine == pos.line) = true) :
    eval (.Call (.Attribute (.Call (.Name "super" p0) [] [] p1) name apos) [.Constant (.str m) j p3] [] pos) env = (do
      let ov ← attributeBase (.Call (.Name "super" p0) [] [] p1) name env (eval (.Call (.Name "super" p0) [] [] p1) env)
      standAt apos.atName
      let (f, first) ← holding [ov] (getMethod ov name (do return (← importBound (.Call (.Name "super" p0) [] [] p1) env).getD true))
      callWith pos f first (backTo pos (starEach [.Constant (.str m) j p3] env)) []) := by
  conv => lhs; unfold eval
  unfold methodCall methodCallPos
  have e : methodCallForm ([Expr.Constant (Const.str m) j p3].length + ([] : List Keyword).length) (backTo pos (starEach [Expr.Constant (Const.str m) j p3] env)) (backToKw pos (keywordEach [] env)) = true := rfl
  rw [e, hp]
  simp only [Bool.not_true, Bool.or_true, Bool.false_or, if_true, calleeOf, pure_bind]
  rfl
/-- the init bound to the exception, called -/
theorem mw_call {u e t0 : Addr} {rest : List Value} {Q : Value → Shared → Prop} (T : L2.OexC K C) (X : K.In h) (he : h.get? e = some (HandSPX.excO C t0)) (hu : h.get? u = some (kxs_mw "ValueError.__init__" e)) (hrest : rest.length ≤ sizeLine)
    (hq : ∀ h' t1, (∀ b o, b ≠ e → h.get? b = some o → h'.get? b = some o) → h'.get? e = some (HandSPX.excO C t1) → Q .none ⟨h', g, d, t, os⟩) :
    wpAny (model prog w) A (call (.ref u) rest) Q E ⟨h, g, d, t, os⟩ := by
  obtain ⟨nm, q, N, bs, bm, sn, sub, ab, col, dd, k0, k1, k2, k3, k5, hC, hbm⟩ := T.cls
  have hC' := X _ _ hC
  refine wpAny_call (codeAny_of_tree ?_)
  show wpAny _ A.in1 (callAny (.ref u) ⟨rest, []⟩) _ _ _
  simp only [callAny]
  refine wpAny_bind (wpAny_load hu ?_)
  simp only [kxs_mw, show (Value.type "method-wrapper" == Value.type "method" || Value.type "method-wrapper" == Value.type "builtin_function_or_method" || Value.type "method-wrapper" == Value.type "method-wrapper") = true by decide, if_true]
  refine KFB.if_so (by decide) ?_
  refine wpAny_bind (check_bound_init F.excBase_ValueError.toExcCallFacts hC' he rfl ?_)
  refine wpAny_bind (wpAny_pure (wpAny_pure ?_))
  refine ⟨plainId_quiet F.excBase_ValueError.init.plain _, codeAny_builtin F.excBase_ValueError.initEntry ?_⟩
  exact exc_init_tree (cls := .ref C) (t0 := t0) (dv := none) (c2 := .none) (c3 := .none) (b4 := .bool false) he hrest fun h' k e' _ => hq h' _ k e'

theorem raw_err {k : Nat} {u : Value} {Q : Value → Shared → Prop} (T : ErrC K prog.main.file C f) (X : K.In h) (hmg : h.Ns mainGlobals mg) (hms : mg "super" = none) (hmb : h.Ns builtinsNs mb) (hbs : mb "super" = some (.type "super")) (nl : h.NoLimit)
    (htop : (prog.main.scope.names.lookup ("super" : Str)).isSome = false) (hr : L2.Room (k + 1) A)
    (hq : ∀ h' t' e dx t1, (∀ b o, h.get? b = some o → h'.get? b = some o) → h.objs.size ≤ e → h.objs.size ≤ dx → dx ≠ e → h'.get? e = some ({ cls := .ref C, dict := some dx, data := .fields #[.ref t1, .none, .none, .none, .bool false, .none] } : Obj) →
      h'.Ns1 dx (fun y => if y = f then some u else none) → Q (.ref e) ⟨h', g, d, t', os⟩) :
    wpAny (model prog w) A (call (.ref C) [u]) Q E ⟨h, g, d, t, os⟩ := by
  obtain ⟨nm, q, N, bs, bm, sn, sub, ab, col, dd, k0, k1, k2, k3, k5, hC, hbm⟩ := T.ox.cls
  obtain ⟨fI, cc, cda, qual, J⟩ := T.ini
  obtain ⟨dV, kV, doc, pm, ct, oc, an, od, osl, m, j, p0, p1, p2, p3, p4, p5, p6, p7, p8, p9, pa, pb, hfn, hbd, hpl⟩ := J.fn
  obtain ⟨ccl, cdd, vs, ccs, file, tf, hcda, hvs, hfile⟩ := J.file
  obtain ⟨cl, cld, csl, hcc⟩ := J.cell
  have hcl : clsIn K C = some { name := nm, bases := bs, mro := .ref C :: bm, ns := N, qualname := q, hasDict := true, slotNames := sn, subclasses := sub, abstract := ab, collection := col, hasDel := false } := by unfold clsIn; rw [hC] <;> rfl
  have kk : ∀ b o, h.get? b = some o → ((h.push (kdv_tup [u])).push (HandSPX.excO C h.objs.size)).get? b = some o := fun b o e => Heap.get?_push_of_some _ (Heap.get?_push_of_some _ e)
  have X1 : K.In ((h.push (kdv_tup [u])).push (HandSPX.excO C h.objs.size)) := X.keeps kk
  have hget : ((h.push (kdv_tup [u])).push (HandSPX.excO C h.objs.size)).get? (h.objs.size + 1) = some (HandSPX.excO C h.objs.size) := by heap_get
  refine wpAny_call (HandSPX.call_own F.excBase_ValueError (fun Y => HandSPX.refsVE_contains Y bm hbm) (X _ _ hC) (looks_findIn X J.find) (fun self => bind_fn X self J.typ) (by rw [sizeLine_eq]; show 1 ≤ _; omega) ?_)
  have hself : (iSc f).names.lookup ("self" : Str) = some .local := rfl
  have eneq : ∀ {a b : Str}, (a == b) = false → (b == a) = false := fun {a b} e => by rw [beq_eq_false_iff_ne] at *; exact Ne.symm e
  have hkf : (iSc f).names.lookup f = some .local := by
    show (match f == ("self" : Str) with | true => some NameKind.local | false => List.lookup f [(f, .local), ("__class__", .free), ("super", .globalImplicit)]) = _
    rw [T.ne]
    show (match f == f with | true => some NameKind.local | false => _) = _
    rw [beq_self_eq_true]
  have hcls : (iSc f).names.lookup ("__class__" : Str) = some .free := by
    show (match ("__class__" : Str) == f with | true => some NameKind.local | false => some NameKind.free) = _
    rw [eneq T.ne3]
  have hsup : (iSc f).names.lookup ("super" : Str) = some .globalImplicit := by
    show (match ("super" : Str) == f with | true => some NameKind.local | false => some NameKind.globalImplicit) = _
    rw [eneq T.ne2]
  refine ks_codeAny_call_defAt (binds := [("self", .ref (h.objs.size + 1)), (f, u)]) (hr.make C [u] []).depth (X1 _ _ hfn) rfl (nl.keeps kk) (codeRec_of X1 J.code) rfl (BindsTo.of_eq (hbd _ _)) (fun y hy => ?_) (fun y hy => ?_) (fun h₀ hns hk => ?_) rfl rfl rfl
  · simp only [List.mem_cons, List.not_mem_nil, or_false] at hy
    rcases hy with rfl | rfl | rfl | rfl <;> exact fun z => by cases z
  · rcases List.mem_cons.mp hy with rfl | hy
    · exact hself
    · rcases List.mem_cons.mp hy with rfl | hy
      · exact hkf
      · cases hy
  have kk0 : ∀ b o, h.get? b = some o → h₀.get? b = some o := fun b o e => hk b o (kk b o e)
  have X0 : K.In h₀ := X.keeps kk0
  have he0 := hk _ _ hget
  have bs : List.lookup ("self" : Str) [(f, u), (("self" : Str), Value.ref (h.objs.size + 1))] = some (.ref (h.objs.size + 1)) := by
    show (match ("self" : Str) == f with | true => some u | false => some (Value.ref (h.objs.size + 1))) = _
    rw [eneq T.ne]
  have bf : List.lookup f [(f, u), (("self" : Str), Value.ref (h.objs.size + 1))] = some u := by
    show (match f == f with | true => some u | false => _) = _
    rw [beq_self_eq_true]
  show _root_.PySem.wpAt _ _ (.func _ (ksEnv qual (iSc f) ((h.push (kdv_tup [u])).push (HandSPX.excO C h.objs.size)).objs.size fI (.ref cda) cc)) _ _ _ _
  have hns : h₀.Ns ((h.push (kdv_tup [u])).push (HandSPX.excO C h.objs.size)).objs.size (fun y => List.lookup y [(f, u), (("self" : Str), Value.ref (h.objs.size + 1))]) := hns
  generalize hL : ((h.push (kdv_tup [u])).push (HandSPX.excO C h.objs.size)).objs.size = L at hns ⊢
  refine ks_wpAt_execs_cons (ks_wpAt_Expr_any (ks_wpAt_MethodCall ?_ (mc_eq hpl)) (by rfl) (by rfl))
  refine ks_wpAt_super_base (f := fI) (cc := cda) hsup hcls (by rfl) rfl (X0 _ _ hfn) rfl rfl rfl (X0 _ _ hcda) rfl hvs hfile htop ?_
  refine ks_loadName_global rfl hsup (loadGlobal_builtin (hmg.keeps kk0) hms (hmb.keeps kk0) hbs ⟨rfl, ?_⟩)
  refine wpAny_loadName_free rfl hcls rfl ⟨_, X0 _ _ hcc, rfl⟩ ?_
  refine wpAny_loadName_local rfl hself hns bs ?_
  refine ks_wpAny_isType_cls (X0 _ _ hC) rfl ⟨rfl, ?_⟩
  refine ks_wpAny_call_super (X0 _ _ hC) rfl he0 rfl (fun c e => by cases e) (looks_mroIn X0 T.subC) (fun h2 e2 k2 => ?_)
  have X2 : K.In h2 := X0.keeps k2
  have he2 := k2 _ _ he0
  have I2 : InstAt h2 (h.objs.size + 1) (HandSPX.excO C h.objs.size) C none := ⟨he2, rfl, rfl, trivial⟩
  have hf : alongIn K "__init__" (((Value.ref C :: bm).dropWhile (· != .ref C)).drop 1) = some (some (.builtin "ValueError.__init__")) := by
    have z := T.sup
    unfold ks_superIn at z
    rw [hcl] at z
    exact z
  refine kxs_getMethod kxs_ValueError e2 (looks_opaque X2 T.stat) (l₀ := .ref C :: bm) (fun A Q E s k q => wpAny_bind ((looks_clsIn X2 hcl) A _ E s k (wpAny_pure q))) rfl X2 hf (I2.type.andThen (looks_subIn X2 T.subV)) (ks_ne X2 I2 hcl) (by rfl) ?_
  refine kxs_callWith (i := "ValueError.__init__") (x := h.objs.size + 1) (by rfl) (evalArgs_plain (spliced_cons (Constant_str (x := m) (k := j) (pos := p3) (spliced_nil ?_))))
  have kp : ∀ b o, h2.get? b = some o → (h2.push (kxs_mw "ValueError.__init__" (h.objs.size + 1))).get? b = some o := fun b o e => Heap.get?_push_of_some _ e
  refine ⟨Heap.get?_push_size _ rfl, ?_⟩
  refine mw_call T.ox (X2.keeps kp) (kp _ _ he2) (Heap.get?_push_size _ rfl) (by rw [sizeLine_eq]; show 1 ≤ _; omega) fun h3 t1 k3 e3 => ?_
  have kk3 : ∀ b o, b ≠ h.objs.size + 1 → h₀.get? b = some o → h3.get? b = some o := fun b o n e => k3 b o n (kp _ _ (k2 _ _ e))
  have kh3 : ∀ b o, h.get? b = some o → h3.get? b = some o := fun b o e => kk3 b o (Nat.ne_of_lt (Nat.lt_succ_of_lt (Heap.lt_size e))) (kk0 b o e)
  have X3 : K.In h3 := X.keeps kh3
  have hLe : L ≠ h.objs.size + 1 := by
    rw [← hL, Heap.size_push, Heap.size_push]
    omega
  have hns3 : h3.Ns L (fun y => List.lookup y [(f, u), (("self" : Str), Value.ref (h.objs.size + 1))]) := by
    obtain ⟨oL, es, ep, hLo, r⟩ := hns
    exact ⟨oL, es, ep, kk3 _ _ hLe hLo, r⟩
  refine ks_wpAt_execs_cons (wpAt_of_wpAny (plainObj_wpAny_Assign_Attribute ?_ (by rfl)))
  refine wpAny_Name (wpAny_loadName_local rfl hkf hns3 bf ?_) T.ne4
  refine wpAny_Name (wpAny_loadName_local rfl hself hns3 bs ?_) (by decide)
  refine set_plain X3 (ox := HandSPX.excO C t1) (od := none) ⟨e3, rfl, rfl, trivial⟩ T.ox.sa ?_
  refine HandSPX.exc_osa X3 e3 hcl (show HandSPX.refsVE (.ref C :: bm) = true from hbm) rfl T.noat fun h4 tk' dx k4 dn dne hx hn => ?_
  have low : ∀ b o, h.get? b = some o → b ≠ h.objs.size + 1 := fun b o e => Nat.ne_of_lt (Nat.lt_succ_of_lt (Heap.lt_size e))
  refine wpAt_of_wpAny (wpAny_execs_nil ?_)
  have dge : h.objs.size ≤ dx := Nat.le_trans (Nat.le_succ _) (Nat.le_trans (Nat.le_of_lt (Heap.lt_size e3)) dn)
  exact ⟨rfl, hq h4 tk' _ dx t1 (fun b o e => k4 b o (low b o e) (kh3 b o e)) (Nat.le_succ _) dge dne hx hn⟩
end
end Mini
namespace Mini
open PySem PySem.Spec PyProof.Rows L2 Evl

/-! ### an exception of the program: made, raised -/
/-- C(e): its dict holds what was given -/
def tErr (C : Addr) (f : Str) (ta : TA) : L2.St → Hp → XK → Prop := fun σ H Q => ta σ H fun vs H1 => ∃ v, vs = [v] ∧ ∀ d, H1 d = none → Q (.ref C) (some d) (upd H1 d (.xd [(f, v)]))
theorem pmk_err {X : Cx} {x f : Str} {C : Addr} {k : Nat} {e : Expr} {ta : TA} {p pos : Pos} (T : ErrC X.K X.prog.main.file C f) (htop : (X.prog.main.scope.names.lookup ("super" : Str)).isSome = false) (hr : Room (k + 1) X.A) (hg : Gl X x) (hm : X.mg x = some (.ref C))
    (hms : X.mg "super" = none) (ha : PA X [e] ta) (hdb : (x == ("__debug__" : Str)) = false := by decide) (he : starEach [e] X.env = [(false, eval e X.env)] := by rfl) : PMk X (.Call (.Name x p) [e] [] pos) (tErr C f ta) := by
  intro pins s σ H Q I h
  refine wpAny_Call_Name_kw (ld_glob I hg hm ?_ hdb)
  refine PySem.W.callWith_K (h₀ := X.base) I.ok.mod.kin T.ox.kC (thn (ha.run pos pins s σ H _ I h) fun us s1 ⟨vs, H1, I1, r1, q⟩ => ⟨I1.kIn, ?_⟩) he (by rfl)
  show wpAny _ _ (call (.ref C) us) _ _ _
  obtain ⟨v, rfl, q1⟩ := q
  cases r1 with
  | cons rv rr =>
  cases rr
  rename_i u
  obtain ⟨hp, g, dr, tk, os⟩ := s1
  obtain ⟨mb, hb1, hb2⟩ := I1.mod.blt
  refine raw_err T I1.kIn (I1.mod.glob.keeps I1.bk) hms (hb1.keeps I1.bk) ((hb2 _ (by decide)).trans PyProof.Rows.Boot.«super») (I1.mod.nolimit.keeps I1.bk) htop hr fun h' t' e' dx t1 kk he' hdx hne hx hn => ?_
  have hnd : H1 dx = none := I1.hok.fresh hdx
  have hna : H1 e' = none := I1.hok.fresh he'
  obtain ⟨G, g1, g2⟩ := restrict h' fun b => decide (b ≠ e')
  have gk : ∀ b, b ≠ e' → G.get? b = h'.get? b := fun b hb => g1 b (decide_eq_true hb)
  have ge : G.get? e' = none := g2 e' (by simp)
  have nl : ∀ {b : Addr} {o : Obj}, hp.get? b = some o → b ≠ e' := fun {b o} z => Nat.ne_of_lt (Nat.lt_of_lt_of_le (Heap.lt_size z) he')
  have J : Inv X pins σ (upd H1 dx (.xd [(f, v)])) ⟨G, g, dr, t', os⟩ := I1.laid (t' := t') (a := dx) (o := .xd [(f, v)]) (h' := G) (fun b o z => (gk b (nl z)).trans (kk b o z)) hdx
    ⟨_, hn.at fun o z => (gk dx hne).trans z, relO_put (fs := []) rv fun y => True.intro⟩
  refine ⟨e', _, _, ⟨G, g, dr, t', os⟩, _, .ref C, some dx, rfl, J, fun b o z => ?_, ge, hx, ⟨rfl, rfl⟩, rfl, rfl, ?_, rfl, I1.bare, raises_own T.ox.exC T.ox.tyC, q1 dx hnd⟩
  · by_cases hb : b = e'
    · rw [hb, ge] at z
      cases z
    · exact (gk b hb).symm.trans z
  · rw [upd_ne (Ne.symm hne)]
    exact hna
section
variable {X : Cx} {c : Cn} {E : XK} {x f : Str} {k n : Nat} {e : Expr} {fa : FE} {p pos pos' : Pos}
/-- raise C(e) -/
theorem ms_raise (T : ErrC X.K X.prog.main.file (c.ca n) (c.fld n)) (htop : (X.prog.main.scope.names.lookup ("super" : Str)).isSome = false) (hr : Room (k + 1) X.A) (hc : X.calm = true) (tk : Takes X (fun cls d _ H => E cls d H)) (hg : Gl X x) (hm : X.mg x = some (.ref (c.ca n)))
    (hms : X.mg "super" = none) (ha : PE X e (tM X.K c E fa)) (hdb : (x == ("__debug__" : Str)) = false := by decide) (he : starEach [e] X.env = [(false, eval e X.env)] := by rfl) : PS X (.Raise (some (.Call (.Name x p) [e] [] pos)) none pos') (tS X.K c E (raiseS n fa)) :=
  ps_imp (ps_raise hc tk (pmk_err T htop hr hg hm hms (pa_cons ha pa_nil he) hdb he)) fun D σ H q => by
    obtain ⟨W, ρ, S, st, en, q⟩ := q
    refine thenS_M st en q fun d S' W' H' v st' en' k' r q' => ?_
    refine ⟨v, rfl, fun dd hdd => ?_⟩
    exact q' W' _ dd v (new_st st' hdd) ((new_keep st' hdd).toS (new_st st' hdd)) upd_same r
end
end Mini
namespace Mini
open PySem PySem.Spec PyProof.Rows L2 Evl

/-! ### a caught exception of the program: its class asked, its field read -/
structure ExQ (K : PySem.W.Frag) (C : Addr) : Prop where
  cl : (PySem.W.clsIn K C).isSome = true
  ga : PySem.W.findIn K (.ref C) "__getattribute__" = some (some (.builtin "BaseException.__getattribute__"))
  gg : PySem.W.findIn K (.ref C) "__getattr__" = some none
  sub : PySem.W.subIn K (.ref C) (.type "BaseException") = some true
  ha : PySem.W.findIn K (.ref C) "__class__" = some (some (.builtin "object.__class__"))
  hn : PySem.W.specialIn K (.builtin "object.__class__") "__get__" = some (some (.builtin "getset_descriptor.__get__"))
  ht : PySem.W.takesIn K (.builtin "object.__class__") = some true
  hm : PySem.W.mroIn K C (.type "object") = some true
  hd : PySem.W.hasDictIn K C = true
/-- the exception at a of the class D with its dict at dd is in hand -/
structure HasX (X : Cx) (a D dd : Addr) : Prop where
  q : ExQ X.K D
  pin : ∃ oe, (a, oe) ∈ X.pn ∧ Zc (.ref D) (some dd) oe ∧ ∃ vs, oe.data = .fields vs
theorem HasX.inst {X : Cx} {a D dd : Addr} {pins : List (Addr × Obj)} {σ : L2.St} {H : Hp} {s : Shared} {fs : List (Str × V)} (T : HasX X a D dd) (I : Inv X pins σ H s) (ed : H dd = some (.xd fs)) :
    ∃ (oe od : Obj) (mA : Str → Option Value), PySem.W.InstAt s.heap a oe D (some od) ∧ (∀ n : Str, PySem.W.lookIn n od = some (mA n)) ∧ ∀ f, RelO (fs.lookup f) (mA f) := by
  obtain ⟨oe, hp, hz, vs, hv⟩ := T.pin
  obtain ⟨hget, _⟩ := I.pin (a, oe) (List.mem_append.mpr (.inl hp))
  have hx : ObjOk X.prog X.w H s.heap dd (.xd fs) := I.hok dd _ ed
  obtain ⟨mA, hns, hr⟩ := hx
  obtain ⟨od, ho, hl⟩ := lookIn_ns hns
  exact ⟨oe, od, mA, ⟨hget, hz.1, by unfold PySem.W.notCls; rw [hv] <;> rfl, by rw [hz.2]; exact ho⟩, hl, hr⟩
def rIsX (K : PySem.W.Frag) (D a dd : Addr) : List V → Hp → VK → Prop := fun xs H Q => ∃ (c : V) (cv : Value) (b : Bool) (fs : List (Str × V)), xs = [.ref a, c] ∧ (∀ u, RelV c u → u = cv) ∧ PySem.W.kitOne K (.ref D) cv = some b ∧ H dd = some (.xd fs) ∧ Q (.bl b) H
theorem call_isX {X : Cx} {a D dd : Addr} (T : HasX X a D dd) : CallR X (.builtin "isinstance") (rIsX X.K D a dd) := by
  intro pins s σ H xs us Q I r h
  obtain ⟨c, cv, b, fs, rfl, hcv, e, ed, q⟩ := h
  cases r with
  | cons rx rr =>
    cases rr with
    | cons rt rr =>
      cases rr
      cases rx
      have ec := hcv _ rt
      subst ec
      obtain ⟨oe, od, mA, J, _, _⟩ := T.inst I ed
      exact PySem.W.kia_one (PySem.W.kitx_exc T.q.cl T.q.ga T.q.gg T.q.sub T.q.ha T.q.hn T.q.ht T.q.hm) I.kIn J e (fun z => nomatch z) fun tk => ⟨.bl b, H, I.kept (t' := tk) fun _ _ z => z, rfl, q⟩
def tXx (a dd : Addr) (f : Str) (te : TE) : TE := fun σ H Q => te σ H fun x H1 => x = .ref a ∧ ∃ (fs : List (Str × V)) (v : V), H1 dd = some (.xd fs) ∧ fs.lookup f = some v ∧ Q v H1
theorem pe_xx {X : Cx} {a D dd : Addr} {e : Expr} {te : TE} {pos : Pos} {n : Str} (T : HasX X a D dd) (hno : PySem.W.findIn X.K (.ref D) n = some none) (he : PE X e te) (hb : attributeBase e n X.env (eval e X.env) = eval e X.env := by rfl) : PE X (.Attribute e n pos) (tXx a dd n te) := by
  refine ⟨fun pins s σ H Q I h => ?_⟩
  refine attr_of hb (thn (he.run pins s σ H _ I h) fun u s1 hh => ?_)
  obtain ⟨x, H1, I1, rx, ex, fs, v, ed, l, q⟩ := hh
  subst ex
  obtain rfl : u = Value.ref a := rx
  obtain ⟨oe, od, mA, J, hl, hr⟩ := T.inst I1 ed
  obtain ⟨u, hu, ru⟩ := RelO.some_of (v := v) (o := mA n) (by rw [← l]; exact hr n)
  exact HandSPX.exc_get I1.kIn J T.q.ga T.q.gg T.q.sub (PySem.W.findObj_own T.q.hd hno rfl (by rw [hl, hu])) (handed_of ru) ⟨v, H1, I1.tok _, ru, q⟩
theorem ev_isX {K : PySem.W.Frag} {D ad dd : Addr} {σ : L2.St} {H : Hp} {te tc : TE} {c : V} {cv : Value} {k : Bool} {fs : List (Str × V)} (ed : H dd = some (.xd fs)) (he : Ev te σ H (.ref ad)) (hc : Ev tc σ H c) (hcv : ∀ u, RelV c u → u = cv) (hk : PySem.W.kitOne K (.ref D) cv = some k) :
    Ev (tCB (rIsX K D ad dd) (tCons te (tCons tc tNil))) σ H (.bl k) := ev_cb (ea_cons he (ea_cons hc ea_nil)) fun H1 ex Q q => ⟨c, cv, k, fs, rfl, hcv, hk, ex dd _ ed, q H1 (Ex.refl H1)⟩
theorem ev_xx {ad dd : Addr} {σ : L2.St} {H : Hp} {te : TE} {n : Str} {v : V} {fs : List (Str × V)} (ed : H dd = some (.xd fs)) (hl : fs.lookup n = some v) (he : Ev te σ H (.ref ad)) : Ev (tXx ad dd n te) σ H v :=
  fun H1 ex Q q => he H1 ex _ fun H2 e2 => ⟨rfl, fs, v, e2 dd _ (ex dd _ ed), hl, q H2 e2⟩
/-! ### l.count(b), l a list of bools -/
def rCntB (K : PySem.W.Frag) : V → List V → Hp → VK → Prop := fun x xs H Q => ∃ (a : Addr) (bs : List Bool) (k : Bool), x = .ref a ∧ xs = [.bl k] ∧ SqL K H a (bs.map V.bl) ∧ Q (.int (bs.count k : Nat)) H
theorem countIn_bl (k : Bool) : ∀ bs : List Bool, countIn (.bool k) (bs.map PyData.bool) = ((bs.count k : Nat) : Int)
  | [] => rfl
  | b :: bs => by
    rw [List.map_cons, countIn, countIn_bl k bs, List.count_cons]
    simp only [same]
    cases b <;> cases k <;> simp <;> omega
theorem dpAll_bl {K : PySem.W.Frag} {H : Hp} : ∀ bs : List Bool, DpAll K H (bs.map V.bl) (bs.map PyData.bool)
  | [] => .nil
  | b :: bs => .cons (.bl b) (dpAll_bl bs)
theorem mt_countB {X : Cx} : MtR X "list.count" (rCntB X.K) := by
  intro pins s σ H x xs v us Q I rx rxs h
  obtain ⟨a, bs, k, rfl, rfl, hs, q⟩ := h
  cases rx
  obtain ⟨u, rfl, ru⟩ := rxs.one
  cases ru
  obtain ⟨its, rv, hl, hlen⟩ := I.list hs
  obtain ⟨as, h4⟩ := Dp.readsAll I (bs.map PyData.bool) _ its (dpAll_bl bs) rv
  refine count_list_bools (hp := s.heap) (xs := bs.map PyData.bool) (as := as) hl.isList h4 ?_ ?_
  · rw [List.all_map]
    exact List.all_eq_true.mpr fun b _ => rfl
  · rw [countIn_bl]
    exact ⟨.int _, H, I.tok _, ⟨_, rfl⟩, q⟩
end Mini
namespace Mini
open PySem PySem.Spec PyProof.Rows L2 Evl

/-! ### a def that is called with the exception that is caught -/
structure FnW (P : Program) (w : World) (K : PySem.W.Frag) (mg : Str → Option Value) (base : Heap) (CX : CXT) (k : Nat) (f : Addr) (fd : FuncData) (ps : List Str) (sp : Addr → Value → Option Addr → Sp) : Prop where
  len : ∀ a cls d vs H Q E, sp a cls d vs H Q E → vs.length = ps.length
  run : ∀ (A : Around) (outer : List Env) (s : Shared) (H : Hp) (args : Args) (us : List Value) (vs : List V) (Q : VK) (E : XK) (a : Addr) (oe : Obj) (cls : Value) (d : Option Addr), L2H.RoomH k A → L2H.PinOk outer H s (a, oe) → Zc cls d oe → (∃ ws, oe.data = .fields ws) →
    Env0 P w K mg base A outer s H → BindsTo s fd args (ps.zip us) → Vals vs us → sp a cls d vs H Q E → codeAny (model P w) A (.call (.ref f) args) (CR CX outer P w H s Q E) s
theorem fn_ofW {CX : CXT} {P : Program} {w : World} {K : PySem.W.Frag} {mg : Str → Option Value} {base : Heap} {k : Nat} {f : Addr} {name qual : Str} {params : Arguments} {body : List Stmt} {scope : Scope} {dV kV doc pm cdv ct oc : Value} {an od : Option Addr}
    {osl : Array (Option Value)} {N ps : List Str} {sp : Addr → Value → Option Addr → Sp} (lk : K.lookup f = some ⟨oc, od, .func (PySem.W.fnOf name qual params body scope dV kV doc pm an cdv ct), osl⟩) (hcd : PySem.W.codeIn K cdv qual = true) (S : FnScope N ps scope)
    (len : ∀ a cls d vs H Q E, sp a cls d vs H Q E → vs.length = ps.length)
    (hbody : ∀ (A : Around) (outer : List Env) (s : Shared) (H : Hp) (vs : List V) (Q : VK) (E : XK) (a : Addr) (oe : Obj) (cls : Value) (d : Option Addr), Zc cls d oe → (∃ ws, oe.data = .fields ws) → sp a cls d vs H Q E →
      ∃ t, PSs (L2H.cxH CX P w K mg base N qual scope f cdv A outer s H E (a, oe)) body t ∧ t { nx := fun _ H' => Q .non H', rt := Q } (L2.start N vs) H) :
    FnW P w K mg base CX (k + 1) f (PySem.W.fnOf name qual params body scope dV kV doc pm an cdv ct) ps sp := by
  refine ⟨len, fun A outer s H args us vs Q E a oe cls d hr hpin hz hf e0 hb r hsp => ?_⟩
  have hl := len _ _ _ _ _ _ _ hsp
  have KX : K.In s.heap := e0.mod.kin.keeps fun b o e => (e0.bs b o e).1
  have lim : s.heap.NoLimit := e0.mod.nolimit.keeps fun b o e => (e0.bs b o e).1
  have hkind : ∀ y ∈ ps.zip us, scope.names.lookup y.1 = some .local ∨ (scope.names.lookup y.1 = some .cell ∧ ((cellsFrom (s.heap.objs.size + 1) scope.names []).lookup y.1).isSome = true) := fun ⟨n, v⟩ hy => by
    rcases S.par n (List.of_mem_zip hy).1 with q | q
    · exact .inl q
    · exact .inr ⟨q, PySem.W.cellsFrom_some _ _ _ (.inl q)⟩
  refine codeAny_call_function hr.depth (KX _ _ lk) rfl S.co S.gen rfl (PySem.W.codeRec_of KX hcd) (hb _ _ _ _ ?_)
  refine wpAny_newFunctionEnv_cells S.kind hkind fun env he s1 x => ?_
  subst he
  refine ⟨lim.keeps x.toInCall.keep, codeAny_func ?_⟩
  obtain ⟨t, ht, hq⟩ := hbody A outer s H vs Q E a oe cls d hz hf hsp
  have I : Inv (L2H.cxH CX P w K mg base N qual scope f cdv A outer s H E (a, oe)) [] (L2.start N vs) H s1 := L2H.inv_startH S hpin e0 hl r x
  refine wpAny_mono (ht.run [] s1 (L2.start N vs) H _ I hq) (fun fl s' hs => ?_) fun e s' hs => hs
  have fin : ∀ {σ' : L2.St} {H' : Hp} {v : V} {u : Value}, Inv (L2H.cxH CX P w K mg base N qual scope f cdv A outer s H E (a, oe)) [] σ' H' s' → RelV v u → Q v H' → CE outer P w H s Q u s' :=
    fun {σ' H' v u} J rv q => ⟨v, H', J.os, J.bare, J.base, J.hok, rv, q⟩
  cases fl with
  | ret u =>
    obtain ⟨v, σ', H', J, rv, q⟩ := hs
    exact fin J rv q
  | next =>
    obtain ⟨σ', H', J, q⟩ := hs
    exact fin (v := V.non) (u := Value.none) J rfl q
  | brk =>
    obtain ⟨_, _, _, q⟩ := hs
    exact False.elim q
  | cont =>
    obtain ⟨_, _, _, q⟩ := hs
    exact False.elim q
section
variable {X : Cx} {CX : CXT} {k : Nat} {f a : Addr} {oe : Obj} {cls : Value} {d : Option Addr} {fd : FuncData} {ps : List Str} {sp : Addr → Value → Option Addr → Sp} {x : Str} {q pos : Pos} {e : Expr} {es : List Expr} {t : TA}
theorem pe_callW (F : FnW X.prog X.w X.K X.mg X.base CX k f fd ps sp) (hr : L2H.RoomH k X.A) (hp : (a, oe) ∈ X.pn) (hz : Zc cls d oe) (hf : ∃ ws, oe.data = .fields ws) (hg : Gl X x) (hm : X.mg x = some (.ref f)) (hk : PySem.W.keepIn X.K (.ref f) = true) (hb : Binds X.K fd ps [])
    (hx : Passes CX X (fun _ _ _ => False)) (ha : PA X (e :: es) t) (hdb : (x == ("__debug__" : Str)) = false := by decide) (he : starEach (e :: es) X.env = (false, eval e X.env) :: starEach es X.env := by rfl) (hpl : (backTo pos (starEach es X.env)).any (·.1) = false := by rfl) :
    PE X (.Call (.Name x q) (e :: es) [] pos) (fun σ H Q => t σ H fun vs H1 => sp a cls d vs H1 Q (fun _ _ _ => False)) := by
  refine ⟨fun pins s σ H Q I h => ?_⟩
  refine wpAny_Call_Name_kw (ld_glob I hg hm ?_ hdb)
  refine PySem.W.callWith_K (h₀ := X.base) I.ok.mod.kin hk (thn (ha.run pos pins s σ H _ I h) fun us s1 ⟨vs, H1, I1, r, hsp⟩ => ⟨I1.kIn, ?_⟩) he hpl
  show wpAny _ _ (call (.ref f) us) _ _ _
  have hl : us.length = ps.length := by rw [← r.length]; exact F.len _ _ _ _ _ _ _ hsp
  have b := hb s1 us I1.kIn (by rw [List.append_nil]; exact hl)
  rw [List.append_nil] at b
  have P1 := I1.pin (a, oe) (List.mem_append_left _ hp)
  have hpin : L2H.PinOk X.stack H1 s1 (a, oe) := ⟨P1.1, P1.2.1, fun hm => (List.mem_cons.mp (I1.stkSub a hm)).elim P1.2.2.1 P1.2.2.2.1, P1.2.2.2.2⟩
  refine wpAny_call (codeAny_mono (F.run X.A X.stack s1 H1 ⟨us, []⟩ us vs Q _ a oe cls d hr hpin hz hf I1.env0 b r hsp) fun r s' hq => ?_)
  cases r with
  | error e => exact hx pins σ H1 s1 e s' I1 hq
  | ok fl =>
    cases fl with
    | ret u => exact I1.after hq
    | next => exact False.elim hq
    | brk => exact False.elim hq
    | cont => exact False.elim hq
end
end Mini
namespace Mini
open PySem PySem.Spec PyProof.Rows L2 Evl
/-- the word ahead of a reason -/
def hdW : Nat → Str
  | 0 => "find "
  | 1 => "argument "
  | 2 => "paper "
  | _ => "many "
/-- what the written part says of the classes of exceptions -/
structure WordK (K : PySem.W.Frag) (mg : Str → Option Value) (ca : Nat → Addr) : Prop where
  g0 : mg "FindError" = some (.ref (ca 0))
  g1 : mg "ArgumentError" = some (.ref (ca 1))
  g2 : mg "PaperError" = some (.ref (ca 2))
  g3 : mg "TooMany" = some (.ref (ca 3))
  g4 : mg "TextError" = some (.ref (ca 4))
  g5 : mg "CabinetError" = some (.ref (ca 5))
  q : ∀ j, j < 4 → ExQ K (ca j)
  kit : ∀ j, j < 4 → ∀ i, i < 5 → PySem.W.kitOne K (.ref (ca j)) (.ref (ca i)) = some (decide (j = i))
  kit5 : ∀ j, j < 4 → PySem.W.kitOne K (.ref (ca j)) (.ref (ca 5)) = some true
  kitV : ∀ j, j < 4 → PySem.W.kitOne K (.ref (ca j)) (.type "ValueError") = some true
  noat : ∀ j, j < 4 → PySem.W.findIn K (.ref (ca j)) "at" = some none
  noreason : ∀ j, j < 4 → PySem.W.findIn K (.ref (ca j)) "reason" = some none
  isi : mg "isinstance" = none
  str : mg "str" = none
def spW (ca : Nat → Addr) : Addr → Value → Option Addr → Sp := fun a cls d vs H Q E => ∃ (j : Nat) (dd : Addr) (s : Str), j < 4 ∧ cls = .ref (ca j) ∧ d = some dd ∧ vs = [.ref a] ∧ H dd = some (.xd [("reason", .str s)]) ∧ s.length ≤ 1000 ∧ ∀ H', Ex H H' → Q (.str (hdW j ++ s)) H'
section
variable {K : PySem.W.Frag} {σ : L2.St} {H : Hp} {ta te : TE} {p : Addr} {bs : List Bool}
theorem et_truB {k : Bool} (h : Ev te σ H (.bl k)) : EvT (fun σ H Q => te σ H fun x H' => ∃ k, TruV K x H' k ∧ Q k H') σ H k := fun H1 ex Q q => h H1 ex _ fun H2 e2 => ⟨k, rfl, q H2 e2⟩
theorem ev_cntB {k : Bool} (hl : SqL K H p (bs.map V.bl)) (ha : Ev ta σ H (.ref p)) : Ev (tBM K "list" (rCntB K) ta (tCons (tC (.bl k)) tNil)) σ H (.int (bs.count k : Nat)) := fun H1 ex Q q =>
  ha H1 ex _ fun H2 e2 => ⟨Or.inl ⟨rfl, _, ex_l (ex.trans e2) hl⟩, p, bs, k, rfl, rfl, ex_l (ex.trans e2) hl, q H2 e2⟩
theorem flat_bl : ∀ bs : List Bool, (bs.map V.bl).all flatV = true := fun bs => by rw [List.all_map]; exact List.all_eq_true.mpr fun b _ => rfl
theorem ev_idxB {k : Bool} {j : Nat} (hl : SqL K H p (bs.map V.bl)) (ha : Ev ta σ H (.ref p)) (hj : bs[j]? = some k) (hn : ∀ m : Nat, m < j → bs[m]? = some (!k)) : Ev (tBM K "list" (rIndex K) ta (tCons (tC (.bl k)) tNil)) σ H (.int (j : Nat)) := fun H1 ex Q q =>
  ha H1 ex _ fun H2 e2 => ⟨Or.inl ⟨rfl, _, ex_l (ex.trans e2) hl⟩, p, bs.map V.bl, .bl k, j, .bl k, rfl, rfl, ex_l (ex.trans e2) hl, rfl, flat_bl bs, by rw [List.getElem?_map, hj]; rfl, by cases k <;> rfl, fun m z' hm hz => by
    rw [List.getElem?_map, hn m hm] at hz
    cases hz
    cases k <;> rfl, q H2 e2⟩
theorem ev_addS {s1 s2 : Str} {t1 t2 : TE} (h1 : Ev t1 σ H (.str s1)) (h2 : Ev t2 σ H (.str s2)) (hl : s1.length + s2.length ≤ sizeLine) :
    Ev (tOp (fun x y H Q => ∃ i j, x = .str i ∧ y = .str j ∧ i.length + j.length ≤ sizeLine ∧ Q (.str (i ++ j)) H) t1 t2) σ H (.str (s1 ++ s2)) := ev_op h1 h2 fun H1 ex Q q => ⟨s1, s2, rfl, rfl, hl, q H1 (Ex.refl H1)⟩
theorem ev_strS {s1 : Str} {t1 : TE} (h1 : Ev t1 σ H (.str s1)) : Ev (tCB (fun xs H Q => ∃ a, xs = [V.str a] ∧ Q (V.str a) H) (tCons t1 tNil)) σ H (.str s1) := ev_cb (ea_cons h1 ea_nil) fun H1 ex Q q => ⟨s1, rfl, q H1 (Ex.refl H1)⟩
end
theorem hdW_len (j : Nat) : (hdW j).length ≤ 9 := by
  match j with
  | 0 => decide +kernel
  | 1 => decide +kernel
  | 2 => decide +kernel
  | _ + 3 => show ("many " : Str).length ≤ 9; decide +kernel
theorem sokW (j : Nat) : SOk (hdW j) := by
  match j with
  | 0 => decide +kernel
  | 1 => decide +kernel
  | 2 => decide +kernel
  | _ + 3 => show SOk ("many " : Str); decide +kernel
theorem ref_cv {a : Addr} : ∀ u, RelV (.ref a) u → u = .ref a := fun u h => h
def kindsW (j : Nat) : List Bool := [decide (j = 0), decide (j = 1), decide (j = 2), decide (j = 3), decide (j = 4)]
theorem four {P : Nat → Prop} (j : Nat) (hj : j < 4) (h0 : P 0) (h1 : P 1) (h2 : P 2) (h3 : P 3) : P j := by
  match j, hj with
  | 0, _ => exact h0
  | 1, _ => exact h1
  | 2, _ => exact h2
  | 3, _ => exact h3
theorem cntW (j : Nat) (hj : j < 4) : (kindsW j).count true = 1 := four (P := fun j => (kindsW j).count true = 1) j hj rfl rfl rfl rfl
theorem atW (j : Nat) (hj : j < 4) : (kindsW j)[j]? = some true := four (P := fun j => (kindsW j)[j]? = some true) j hj rfl rfl rfl rfl
theorem befW (j : Nat) (hj : j < 4) : ∀ m : Nat, m < j → (kindsW j)[m]? = some (!true) := four (P := fun j => ∀ m : Nat, m < j → (kindsW j)[m]? = some (!true)) j hj (by decide) (by decide) (by decide) (by decide)
theorem headW (j : Nat) (hj : j < 4) : atI [V.str "find ", V.str "argument ", V.str "paper ", V.str "many "] ((j : Nat) : Int) = some (.str (hdW j)) := four (P := fun j => atI [V.str "find ", V.str "argument ", V.str "paper ", V.str "many "] ((j : Nat) : Int) = some (.str (hdW j))) j hj rfl rfl rfl rfl
/-! ### try: .. except C as error: return word(error) -/
def tryWS (g : FS) (wd : Nat → D → Option D) : FS := fun ρ S => match g ρ S with
  | .er n p S' => (match wd n p with
    | some d => .ok (.rt d) S'
    | none => .no)
  | r => r
def wdW (n : Nat) : D → Option D
  | .str s => if n < 4 ∧ s.length ≤ 1000 then some (.str (hdW n ++ s)) else none
  | _ => none
theorem wdW_some {n : Nat} {p d : D} (h : wdW n p = some d) : ∃ s, p = .str s ∧ n < 4 ∧ s.length ≤ 1000 ∧ d = .str (hdW n ++ s) := by
  cases p <;> first | (cases h; done) | skip
  rename_i s
  have h' : (if n < 4 ∧ s.length ≤ 1000 then some (D.str (hdW n ++ s)) else none) = some d := h
  split at h'
  · rename_i z
    cases h'
    exact ⟨s, rfl, z.1, z.2, rfl⟩
  · cases h'
section
variable {K : PySem.W.Frag} {c : Cn} {W W' : Wd} {H H' H'' : Hp} {S : DS} {σ : L2.St} {ρ : En}
theorem StOk.ex (st : StOk K c W H S) (e : Ex H H') : StOk K c W H' S := ⟨fun b o h => e b o (st.sub b o h), by
  have d := st.ds
  cases S with
  | none => exact d
  | some ds =>
    obtain ⟨a, vs, h1, h2, h3, h4⟩ := d
    exact ⟨a, vs, h1, h2, e _ _ h3, h4⟩⟩
theorem KeepS.ex (k : KeepS W H σ ρ W' H') (e : Ex H' H'') : KeepS W H σ ρ W' H'' := ⟨k.wex, fun b o h n q => e b o (k.old b o h n q), k.fr, k.sa, fun b o h => by
  obtain ⟨o', h'⟩ := k.there b o h
  exact ⟨o', e b o' h'⟩⟩
end
theorem ms_tryW {X : Cx} {c : Cn} {E : XK} {x n : Str} {i k : Nat} {f : Addr} {fd : FuncData} {body : List Stmt} {g : FS} {np q q1 q2 q3 pos pos' : Pos} (hs : X.stack = X.env :: X.outer) (hf : X.env.frame = some X.env.locals) (hN : X.N.Nodup) (hi : X.N[i]? = some n) (hln : X.env.scope.names.lookup n = some .local) (hc : Names X x (.ref (c.ca 5)))
    (tk : Takes X (fun cls d _ H => E cls d H)) (hfld : ∀ j, j < 4 → c.fld j = "reason") (F : FnW X.prog X.w X.K X.mg X.base (L2.CX X.prog X.w) k f fd ["error"] (spW c.ca)) (hr : Room k X.A) (hg : Gl X "_law_word") (hm : X.mg "_law_word" = some (.ref f)) (hk : PySem.W.keepIn X.K (.ref f) = true) (hb : Binds X.K fd ["error"] [])
    (hex : ∀ j, j < 4 → PySem.W.exmOne X.K (.ref (c.ca j)) (.ref (c.ca 5)) = some true) (hd : (n == ("__debug__" : Str)) = false) (hcd : (n == ("__classdict__" : Str)) = false) (hst : starEach [Expr.Name n q1] X.env = (false, eval (Expr.Name n q1) X.env) :: starEach [] X.env)
    (hbody : ∀ (pn : List (Addr × Obj)) (xe : Value → Shared → Prop) (E' : XK), Passes (L2.CX X.prog X.w) (X.tr pn xe) E' → PSs (X.tr pn xe) body (tS X.K c E' g)) :
    PS X (.Try body [.ExceptHandler (some (.Name x np)) (some n) [.Return (some (.Call (.Name "_law_word" q) [.Name n q1] [] q2)) q3] pos'] [] [] pos) (tS X.K c E (tryWS g wdW)) := by
  refine ps_imp (ps_try_as (tb := fun W => tS X.K c (fun cls d H => ∀ σ : L2.St, σ.length = X.N.length → W cls d σ H) g)
    (ts := fun a cls d => tRet (fun σ H Q => tCons (tVar i) tNil σ H fun vs H1 => spW c.ca a cls d vs H1 Q (fun _ _ _ => False))) hs hf hN hi hln hc tk
    (fun W pn xe tk' _ => hbody pn xe _ fun pins σ H s e s' I cx => tk' e s' (XE.of_call I (fun cls d H' h => h σ I.len) cx))
    (fun a oe cls d pn hz hf => pss_one (ps_ret (pe_callW (X := X.suite a ((a, oe) :: pn)) F ⟨hr.dp, hr.un⟩ List.mem_cons_self hz hf hg hm hk hb (fun pins σ H s e s' I cx => ?_) (pa_cons (pe_var hi (.inl hln) hd hcd) pa_nil hst) (by decide) hst (by rfl))))) fun D σ H q => ?_
  · obtain ⟨_, _, _, _, _, _, _, _, _, _, _, _, h⟩ := cx
    exact h.elim
  obtain ⟨W, ρ, S, st, en, q⟩ := q
  refine ⟨W, ρ, S, st, en, ?_⟩
  unfold tryWS at q
  cases e : g ρ S with
  | no => rw [e] at q; exact q.elim
  | ok fl S' => rw [e] at q; cases fl <;> exact q
  | er n p S' =>
    rw [e] at q
    cases hw : wdW n p with
    | none => simp only [hw] at q; exact q.elim
    | some d =>
      simp only [hw] at q
      obtain ⟨s, rfl, hn, hl, rfl⟩ := wdW_some hw
      intro W' H' dd v st' k' hdd r σ'' hlen
      refine ⟨true, hex n hn, fun _ a ha => ?_, fun z => by cases z⟩
      have hil : i < σ''.length := by
        rw [hlen]
        exact (List.getElem?_eq_some_iff.mp hi).1
      refine ⟨.ref a, List.getElem?_set_self hil, ?_⟩
      obtain ⟨rfl, hso⟩ := r
      refine ⟨n, dd, s, hn, rfl, rfl, rfl, by rw [hdd, hfld n hn], hl, fun H'' ex => q W' H'' _ (st'.ex ex) (k'.ex ex) ⟨rfl, ?_⟩⟩
      exact sok_add (sokW n) hso (by have := hdW_len n; omega)
end Mini
namespace Mini
open PySem PySem.Spec PyProof.Rows L2 Evl

/-! ### the head's facts about the classes of exceptions -/
def oexB (K : PySem.W.Frag) (C : Addr) : Bool := match K.lookup C with
  | some ⟨.type "type", _, .cls cd, sl⟩ => (match cd.mro, sl.toList with
    | .ref C' :: bm, [_, _, _, _, some (.builtin n), _] => C' == C && n == "ValueError.__new__" && !cd.hasDel && cd.hasDict && HandSPX.refsVE bm
    | _, _ => false)
  | _ => false
theorem oexB_ok {K : PySem.W.Frag} {C : Addr} (q : oexB K C = true) : ∃ nm q N bs bm sn sub ab col dd k0 k1 k2 k3 k5, K.lookup C = some (excClassObj nm q C N bs bm true sn sub ab col dd k0 k1 k2 k3 k5 "ValueError.__new__") ∧ HandSPX.refsVE bm = true := by
  unfold oexB at q
  split at q
  · rename_i dd cd sl ho
    split at q
    · rename_i C' bm k0 k1 k2 k3 n k5 hm hs
      simp only [Bool.and_eq_true, beq_iff_eq, Bool.not_eq_true'] at q
      obtain ⟨⟨⟨⟨rfl, rfl⟩, hdel⟩, hdct⟩, ht⟩ := q
      obtain ⟨nm, bs, mro, ns, qn, hd, sn, sub, ab, col, del⟩ := cd
      dsimp only at hm hdel hdct
      subst hm hdel hdct
      have hsl : sl = #[k0, k1, k2, k3, some (.builtin "ValueError.__new__"), k5] := by
        obtain ⟨l⟩ := sl
        simp only at hs
        rw [hs]
      subst hsl
      exact ⟨nm, qn, ns, bs, bm, sn, sub, ab, col, dd, k0, k1, k2, k3, k5, ho, ht⟩
    · cases q
  · cases q
abbrev InitW : Type := Option (Str × Arguments × FuncBody × Scope × Addr × Addr)
def initW (K : PySem.W.Frag) (C : Addr) : InitW := match K.lookup (He.ma K C "__init__") with
  | some ⟨_, _, .func fd, _⟩ => some (fd.name, fd.params, fd.body, fd.scope, fd.globals, fd.builtins)
  | _ => none
def fileB (K : PySem.W.Frag) (main : Str) : Value → Bool
  | .ref cda => (match K.lookup cda with
    | some ⟨_, _, .fields vs, _⟩ => (match (vs[2]? : Option Value) with
      | some (.str file _) => main == file
      | _ => false)
    | _ => false)
  | _ => false
def cellB (K : PySem.W.Frag) (C : Addr) : List (Str × Addr) → Bool
  | [(n, cc)] => n == "__class__" && (match K.lookup cc with
    | some ⟨_, _, .cell (some (.ref C')), _⟩ => C' == C
    | _ => false)
  | _ => false
def fnB (K : PySem.W.Frag) (main : Str) (C : Addr) : Bool := match K.lookup (He.ma K C "__init__") with
  | some ⟨_, _, .func fd, _⟩ => PySem.W.codeIn K fd.code fd.qualname && (fileB K main fd.code && (cellB K C fd.closure && (decide (fd.defaults = .none) && decide (fd.kwdefaults = .none))))
  | _ => false
def errB (K : PySem.W.Frag) (main f : Str) (C : Addr) : Bool :=
  oexB K C && (He.eqO (PySem.W.findIn K (.ref C) "__setattr__") (some (some (.builtin "object.__setattr__"))) && (decide (PySem.W.subIn K (.ref C) (.type "BaseException") = some true) && (decide (PySem.W.typeIn K (.ref C) = some (.type "type")) && (PySem.W.keepIn K (.ref C) &&
  (He.eqO (PySem.W.findIn K (.ref C) f) (some none) && (He.eqO (PySem.W.ks_superIn K C C "__init__") (some (some (.builtin "ValueError.__init__"))) && (He.eqO (PySem.W.nsIn K cStatics "thirdparty.any") (some none) && (decide (PySem.W.subIn K (.ref C) (.type "ValueError") = some true) && (decide (PySem.W.mroIn K C (.ref C) = some true) &&
  (He.eqO (PySem.W.findIn K (.ref C) "__init__") (some (some (.ref (He.ma K C "__init__")))) && (decide (PySem.W.typeIn K (.ref (He.ma K C "__init__")) = some (.type "function")) && fnB K main C)))))))))))
/-- the class's init as the text has it -/
def initOf : Stmt → InitW
  | .ClassDef (body := .FunctionDef (name := n) (args := a) (body := b) (scope := sc) .. :: _) .. => some (n, a, .stmts b, sc, mainGlobals, builtinsNs)
  | _ => none
abbrev iAr (f : Str) (pa pb : Pos) : Arguments := { posonlyargs := [], args := [⟨"self", none, pa⟩, ⟨f, none, pb⟩], vararg := none, kwonlyargs := [], kw_defaults := [], kwarg := none, defaults := [] }
abbrev iBd (f m : Str) (j : Nat) (p0 p1 p2 p3 p4 p5 p6 p7 p8 p9 : Pos) : List Stmt := [.Expr (.Call (.Attribute (.Call (.Name "super" p0) [] [] p1) "__init__" p2) [.Constant (.str m) j p3] [] p4) p5, .Assign [.Attribute (.Name "self" p6) f p7] (.Name f p8) p9]
def InitPat (f : Str) (w : InitW) : Prop := ∃ (m : Str) (j : Nat) (p0 p1 p2 p3 p4 p5 p6 p7 p8 p9 pa pb : Pos), w = some (("__init__" : Str), iAr f pa pb, FuncBody.stmts (iBd f m j p0 p1 p2 p3 p4 p5 p6 p7 p8 p9), iSc f, mainGlobals, builtinsNs) ∧ (p2.endLine == p4.line) = true
def BdOk (f : Str) : Prop := ∀ (qual : Str) (body : List Stmt) (pa pb : Pos) (doc pm cdv ct a b : Value) (an : Option Addr) (cc : Addr),
  bindArgs (PySem.W.ksFn "__init__" qual (iAr f pa pb) body (iSc f) .none .none doc pm an cdv ct cc) ⟨[a, b], []⟩ = (pure [(("self" : Str), a), (f, b)] : Sem (List (Str × Value)))
theorem bd_reason : BdOk "reason" := fun _ _ _ _ _ _ _ _ _ _ _ _ => rfl
theorem bd_at : BdOk "at" := fun _ _ _ _ _ _ _ _ _ _ _ _ => rfl
theorem bd_line : BdOk "line" := fun _ _ _ _ _ _ _ _ _ _ _ _ => rfl
theorem ban {a b : Bool} (h : (a && b) = true) : a = true ∧ b = true := Bool.and_eq_true_iff.mp h
theorem fileB_ok {K : PySem.W.Frag} {main : Str} {v : Value} (h : fileB K main v = true) : ∃ cda, v = .ref cda ∧ ∃ (ccl : Value) (cdd : Option Addr) (vs : Array Value) (ccs : Array (Option Value)) (file : Str) (tf : Tok), K.lookup cda = some ⟨ccl, cdd, .fields vs, ccs⟩ ∧ vs[2]? = some (.str file tf) ∧ (main == file) = true := by
  unfold fileB at h
  split at h
  · rename_i cda
    split at h
    · rename_i ccl cdd vs ccs ho
      split at h
      · rename_i file tf hv
        exact ⟨cda, rfl, ccl, cdd, vs, ccs, file, tf, ho, hv, h⟩
      · cases h
    · cases h
  · cases h
theorem cellB_ok {K : PySem.W.Frag} {C : Addr} {cl : List (Str × Addr)} (h : cellB K C cl = true) : ∃ cc, cl = [(("__class__" : Str), cc)] ∧ ∃ (c1 : Value) (cld : Option Addr) (csl : Array (Option Value)), K.lookup cc = some ⟨c1, cld, .cell (some (.ref C)), csl⟩ := by
  unfold cellB at h
  split at h
  · rename_i n cc
    obtain ⟨h1, h2⟩ := ban h
    split at h2
    · rename_i c1 cld C' csl ho
      have e1 := beq_iff_eq.mp h1
      have e2 := beq_iff_eq.mp h2
      subst e1 e2
      exact ⟨cc, rfl, c1, cld, csl, ho⟩
    · cases h2
  · cases h
theorem errC_of {K : PySem.W.Frag} {main f : Str} {C : Addr} {st : Stmt} (h : errB K main f C = true) (hw : initW K C = initOf st) (hp : InitPat f (initOf st)) (hb : BdOk f) (n1 : (f == ("self" : Str)) = false) (n2 : (f == ("super" : Str)) = false) (n3 : (f == ("__class__" : Str)) = false) (n4 : (f == ("__debug__" : Str)) = false) : ErrC K main C f := by
  unfold errB at h
  obtain ⟨h1, h⟩ := ban h
  obtain ⟨h2, h⟩ := ban h
  obtain ⟨h3, h⟩ := ban h
  obtain ⟨h4, h⟩ := ban h
  obtain ⟨h5, h⟩ := ban h
  obtain ⟨h6, h⟩ := ban h
  obtain ⟨h7, h⟩ := ban h
  obtain ⟨h8, h⟩ := ban h
  obtain ⟨h9, h⟩ := ban h
  obtain ⟨h10, h⟩ := ban h
  obtain ⟨h11, h⟩ := ban h
  obtain ⟨h12, h⟩ := ban h
  refine ⟨⟨oexB_ok h1, He.eqO_ok h2, of_decide_eq_true h3, of_decide_eq_true h4, h5⟩, ?_, n1, n2, n4, n3, He.eqO_ok h6, He.eqO_ok h7, He.eqO_ok h8, of_decide_eq_true h9, of_decide_eq_true h10⟩
  rw [← hw] at hp
  obtain ⟨m, j, p0, p1, p2, p3, p4, p5, p6, p7, p8, p9, pa, pb, e, hpos⟩ := hp
  unfold fnB at h
  unfold initW at e
  split at h
  · rename_i oc od fd osl lk
    rw [lk] at e
    obtain ⟨k1, h⟩ := ban h
    obtain ⟨k2, h⟩ := ban h
    obtain ⟨k3, h⟩ := ban h
    obtain ⟨k4, k5⟩ := ban h
    have j4 := of_decide_eq_true k4
    have j5 := of_decide_eq_true k5
    obtain ⟨name, qual, params, body, scope, globals, closure, dV, kV, doc, pm, an, code, ct, blt⟩ := fd
    dsimp only at k1 k2 k3 j4 j5 e
    subst j4 j5
    obtain ⟨cda, rfl, hfile⟩ := fileB_ok k2
    obtain ⟨cc, rfl, hcell⟩ := cellB_ok k3
    simp only [Option.some.injEq, Prod.mk.injEq] at e
    obtain ⟨rfl, rfl, rfl, rfl, rfl, rfl⟩ := e
    exact ⟨_, cc, cda, qual, He.eqO_ok h11, of_decide_eq_true h12, ⟨.none, .none, doc, pm, ct, oc, an, od, osl, m, j, p0, p1, p2, p3, p4, p5, p6, p7, p8, p9, pa, pb, lk, fun a b => hb _ _ _ _ _ _ _ _ _ _ _ _, hpos⟩, k1, hfile, hcell⟩
  · cases h
/-! ### all classes of a law -/
def caN : Nat → Str
  | 0 => "FindError"
  | 1 => "ArgumentError"
  | 2 => "PaperError"
  | 3 => "TooMany"
  | 4 => "TextError"
  | 6 => "CommandError"
  | _ => "CabinetError"
def caK (K : PySem.W.Frag) (n : Nat) : Addr := He.ga K (caN n)
def fldN : Nat → Str
  | 4 => "at"
  | 6 => "line"
  | _ => "reason"
theorem fldN_lt (j : Nat) (hj : j < 4) : fldN j = "reason" := four (P := fun j => fldN j = "reason") j hj rfl rfl rfl rfl
def exqB (K : PySem.W.Frag) (C : Addr) : Bool := (PySem.W.clsIn K C).isSome && (He.eqO (PySem.W.findIn K (.ref C) "__getattribute__") (some (some (.builtin "BaseException.__getattribute__"))) && (He.eqO (PySem.W.findIn K (.ref C) "__getattr__") (some none) && (decide (PySem.W.subIn K (.ref C) (.type "BaseException") = some true) &&
  (He.eqO (PySem.W.findIn K (.ref C) "__class__") (some (some (.builtin "object.__class__"))) && (He.eqO (PySem.W.specialIn K (.builtin "object.__class__") "__get__") (some (some (.builtin "getset_descriptor.__get__"))) && (decide (PySem.W.takesIn K (.builtin "object.__class__") = some true) && (decide (PySem.W.mroIn K C (.type "object") = some true) && PySem.W.hasDictIn K C)))))))
theorem exqB_ok {K : PySem.W.Frag} {C : Addr} (h : exqB K C = true) : ExQ K C := by
  unfold exqB at h
  obtain ⟨h1, h⟩ := ban h
  obtain ⟨h2, h⟩ := ban h
  obtain ⟨h3, h⟩ := ban h
  obtain ⟨h4, h⟩ := ban h
  obtain ⟨h5, h⟩ := ban h
  obtain ⟨h6, h⟩ := ban h
  obtain ⟨h7, h⟩ := ban h
  obtain ⟨h8, h9⟩ := ban h
  exact ⟨h1, He.eqO_ok h2, He.eqO_ok h3, of_decide_eq_true h4, He.eqO_ok h5, He.eqO_ok h6, of_decide_eq_true h7, of_decide_eq_true h8, h9⟩
def wordJ (K : PySem.W.Frag) (j : Nat) : Bool := exqB K (caK K j) && ((List.range 5).all (fun i => decide (PySem.W.kitOne K (.ref (caK K j)) (.ref (caK K i)) = some (decide (j = i)))) && (decide (PySem.W.kitOne K (.ref (caK K j)) (.ref (caK K 5)) = some true) && (decide (PySem.W.kitOne K (.ref (caK K j)) (.type "ValueError") = some true) &&
  (He.eqO (PySem.W.findIn K (.ref (caK K j)) "at") (some none) && (He.eqO (PySem.W.findIn K (.ref (caK K j)) "reason") (some none) && decide (PySem.W.exmOne K (.ref (caK K j)) (.ref (caK K 5)) = some true))))))
def wordB (K : PySem.W.Frag) : Bool := (List.range 4).all (wordJ K)
theorem wordB_ok {K : PySem.W.Frag} {mg : Str → Option Value} (h : wordB K = true) (g0 : mg "FindError" = some (.ref (caK K 0))) (g1 : mg "ArgumentError" = some (.ref (caK K 1))) (g2 : mg "PaperError" = some (.ref (caK K 2))) (g3 : mg "TooMany" = some (.ref (caK K 3))) (g4 : mg "TextError" = some (.ref (caK K 4)))
    (g5 : mg "CabinetError" = some (.ref (caK K 5))) (gi : mg "isinstance" = none) (gs : mg "str" = none) : WordK K mg (caK K) ∧ ∀ j, j < 4 → PySem.W.exmOne K (.ref (caK K j)) (.ref (caK K 5)) = some true := by
  have all : ∀ j, j < 4 → wordJ K j = true := fun j hj => List.all_eq_true.mp h j (List.mem_range.mpr hj)
  have sp : ∀ j, j < 4 → ExQ K (caK K j) ∧ (∀ i, i < 5 → PySem.W.kitOne K (.ref (caK K j)) (.ref (caK K i)) = some (decide (j = i))) ∧ PySem.W.kitOne K (.ref (caK K j)) (.ref (caK K 5)) = some true ∧ PySem.W.kitOne K (.ref (caK K j)) (.type "ValueError") = some true ∧
      PySem.W.findIn K (.ref (caK K j)) "at" = some none ∧ PySem.W.findIn K (.ref (caK K j)) "reason" = some none ∧ PySem.W.exmOne K (.ref (caK K j)) (.ref (caK K 5)) = some true := fun j hj => by
    have h := all j hj
    unfold wordJ at h
    obtain ⟨h1, h⟩ := ban h
    obtain ⟨h2, h⟩ := ban h
    obtain ⟨h3, h⟩ := ban h
    obtain ⟨h4, h⟩ := ban h
    obtain ⟨h5, h⟩ := ban h
    obtain ⟨h6, h7⟩ := ban h
    exact ⟨exqB_ok h1, fun i hi => of_decide_eq_true (List.all_eq_true.mp h2 i (List.mem_range.mpr hi)), of_decide_eq_true h3, of_decide_eq_true h4, He.eqO_ok h5, He.eqO_ok h6, of_decide_eq_true h7⟩
  exact ⟨⟨g0, g1, g2, g3, g4, g5, fun j hj => (sp j hj).1, fun j hj => (sp j hj).2.1, fun j hj => (sp j hj).2.2.1, fun j hj => (sp j hj).2.2.2.1, fun j hj => (sp j hj).2.2.2.2.1, fun j hj => (sp j hj).2.2.2.2.2.1, gi, gs⟩, fun j hj => (sp j hj).2.2.2.2.2.2⟩
/-! ### the Hook -/
abbrev AlE : Type := He.AlD × (Bool × List InitW)
def obsE (fa : List He.Fa) (fn : List He.DefD) (main : Str) (wd : Bool) (rs : List Nat) (K : PySem.W.Frag) : AlE := (He.obsD fa fn K, ((!wd || wordB K) && rs.all (fun n => errB K main (fldN n) (caK K n)), rs.map fun n => initW K (caK K n)))
def valE (fn : List He.DefD) (is : List InitW) : AlE := (He.valD fn, (true, is))
def obsEG (n : Nat) (fa : List He.Fa) (fn : List He.DefD) (main : Str) (wd : Bool) (rs : List Nat) (g : Addr → Option Obj) : AlE := obsE fa fn main wd rs (He.frG g (cStatics :: He.asD g n))
def hookE (n : Nat) (fa : List He.Fa) (fn : List He.DefD) (main : Str) (wd : Bool) (rs : List Nat) (is : List InitW) : PySem.W.Hook where
  α := AlE
  obs := fun s => obsEG n fa fn main wd rs s.heap.get?
  val := fun _ => valE fn is
  says := fun _ h => ∃ K : PySem.W.Frag, K.In h ∧ obsE fa fn main wd rs K = valE fn is
  of := fun _ _ e => ⟨_, He.frG_in, e⟩
  keeps := fun _ _ _ ⟨K, hK, c⟩ k => ⟨K, PySem.W.Frag.In.keeps hK k, c⟩
theorem obsEG_eq {n : Nat} {fa : List He.Fa} {fn : List He.DefD} {main : Str} {wd : Bool} {rs : List Nat} {is : List InitW} {g : Addr → Option Obj} {s : Shared} (h : ∀ a, g a = s.heap.get? a) : obsEG n fa fn main wd rs g = (hookE n fa fn main wd rs is).obs s := by
  have e : g = s.heap.get? := funext h
  rw [e] <;> rfl
section
variable {K : PySem.W.Frag} {fa : List He.Fa} {fn : List He.DefD} {main : Str} {wd : Bool} {rs : List Nat} {is : List InitW}
theorem saysE_D (c : obsE fa fn main wd rs K = valE fn is) : He.SaysD fa fn K := congrArg (fun z : AlE => z.1) c
theorem saysE_B (c : obsE fa fn main wd rs K = valE fn is) : ((!wd || wordB K) && rs.all (fun n => errB K main (fldN n) (caK K n))) = true := congrArg (fun z : AlE => z.2.1) c
theorem saysE_word (c : obsE fa fn main true rs K = valE fn is) : wordB K = true := (ban (saysE_B c)).1
theorem saysE_err (c : obsE fa fn main wd rs K = valE fn is) {n : Nat} (h : n ∈ rs) : errB K main (fldN n) (caK K n) = true := List.all_eq_true.mp (ban (saysE_B c)).2 n h
theorem saysE_init (c : obsE fa fn main wd rs K = valE fn is) (i : Nat) {n : Nat} (h : rs[i]? = some n) {w : InitW} (h2 : is[i]? = some w) : initW K (caK K n) = w := by
  have e : rs.map (fun n => initW K (caK K n)) = is := congrArg (fun z : AlE => z.2.2) c
  rw [← e, List.getElem?_map, h] at h2
  exact Option.some.inj h2
end
end Mini
namespace Mini
open PySem PySem.Spec PyProof.Rows L2 Evl
/-! ### a def in a slot, called -/
def callV (disp : Nat → Option (List D → M D)) (i : Nat) (ga : FA) : FE := fun ρ => match slot ρ i with
  | some (.fn n) => (match disp n with
    | some F => bd (ga ρ) F
    | none => no)
  | _ => no
def DispOk (P : Program) (w : World) (K : PySem.W.Frag) (mg : Str → Option Value) (base : Heap) (T : CXT) (k : Nat) (c : Cn) (disp : Nat → Option (List D → M D)) : Prop :=
  ∀ n F, disp n = some F → ∃ (f : Addr) (fd : FuncData) (ps : List Str), c.fa n = some f ∧ FnG P w K mg base T k f fd ps (spM K c F) ∧ PySem.W.keepIn K (.ref f) = true ∧ Binds K fd ps []
theorem disp_nil {P : Program} {w : World} {K : PySem.W.Frag} {mg : Str → Option Value} {base : Heap} {T : CXT} {k : Nat} {c : Cn} : DispOk P w K mg base T k c (fun _ => none) := fun _ _ h => by cases h
theorem disp_cons {P : Program} {w : World} {K : PySem.W.Frag} {mg : Str → Option Value} {base : Heap} {T : CXT} {k : Nat} {c : Cn} {disp : Nat → Option (List D → M D)} {m : Nat} {f : Addr} {fd : FuncData} {ps : List Str} {F : List D → M D} (hf : c.fa m = some f)
    (G : FnG P w K mg base T k f fd ps (spM K c F)) (hk : PySem.W.keepIn K (.ref f) = true) (hb : Binds K fd ps []) (r : DispOk P w K mg base T k c disp) : DispOk P w K mg base T k c (fun n => if n = m then some F else disp n) := fun n F' h => by
  have h : (if n = m then some F else disp n) = some F' := h
  by_cases e : n = m
  · rw [if_pos e] at h
    cases h
    exact ⟨f, fd, ps, by rw [e]; exact hf, G, hk, hb⟩
  · rw [if_neg e] at h
    exact r n F' h
section
variable {X : Cx} {c : Cn} {E : XK} {T : CXT} {k i : Nat} {disp : Nat → Option (List D → M D)} {x : Str} {p pos : Pos} {e : Expr} {es : List Expr} {ga : FA}
theorem me_callV (A : DispOk X.prog X.w X.K X.mg X.base T k c disp) (hr : Room k X.A) (gd : X.A.guards = some []) (hx : Passes T X E) (ha : PA X (e :: es) (tA X.K c E ga)) (hN : X.N[i]? = some x := by kernel_rfl) (hv : X.env.scope.names.lookup x = some .local := by kernel_rfl)
    (hdb : (x == ("__debug__" : Str)) = false := by kernel_rfl) (hcd : (x == ("__classdict__" : Str)) = false := by kernel_rfl) (he : starEach (e :: es) X.env = (false, eval e X.env) :: starEach es X.env := by rfl) (hpl : (backTo pos (starEach es X.env)).any (·.1) = false := by rfl) :
    PE X (.Call (.Name x p) (e :: es) [] pos) (tM X.K c E (callV disp i ga)) := by
  refine ⟨fun pins s σ H Q I h => ?_⟩
  obtain ⟨W, ρ, S, st, en, q⟩ := tM_un h
  unfold callV at q
  cases h1 : slot ρ i with
  | none => rw [h1] at q; exact q.elim
  | some d =>
    rw [h1] at q
    cases d <;> first | exact q.elim | skip
    rename_i n
    cases h2 : disp n with
    | none => simp only [h2] at q; exact q.elim
    | some F =>
      simp only [h2] at q
      obtain ⟨v, hs, hv2⟩ := en.vl i (.fn n) (slot_some h1)
      obtain ⟨f, fd, ps, hf, G, hk, hb⟩ := A n F h2
      obtain ⟨a, rfl, ha2⟩ := hv2
      rw [hf] at ha2
      cases ha2
      refine wpAny_Call_Name_kw (thn ((pe_var (pos := p) hN (.inl hv) hdb hcd).run pins s σ H (fun v H1 => v = .ref f ∧ H1 = H) I ⟨.ref f, hs, rfl, rfl⟩) fun u s1 ⟨v, H1, I1, r1, q1⟩ => ?_)
      obtain ⟨rfl, rfl⟩ := q1
      cases r1
      refine PySem.W.callWith_K (h₀ := X.base) I.ok.mod.kin hk (thn (ha.run pos pins s1 σ _ (fun vs H2 => spM X.K c F vs H2 Q E) I1 ?_) fun us s2 ⟨vs, H2, I2, r, q⟩ => ⟨I2.kIn, runG G hr gd hb .nil hx I2 r (by rw [List.append_nil]; exact q)⟩) he hpl
      exact then_A (O := OutM X.K c W H1 E Q) st en (fun _ _ _ z => z) (fun z => z) q fun ds S1 W1 H2 vs st1 k1 r1 q1 => ⟨W1, ds, S1, st1, r1, OutM.pre (Q' := Q) q1 k1 st1⟩
end
end Mini
/-! ### t[::-1], t a tuple -/
namespace Mini
open PySem PySem.Spec PyProof.Rows L2 HT Evl
section
variable {prog : Program} {w : World} {A : Around} {E : Value → Shared → Prop} {s : Shared}
theorem places_rev (n : Nat) : Builtin.Slice.slicePlaces ((n : Int) - 1) (-1) (-1) = n := by
  unfold Builtin.Slice.slicePlaces
  have h1 : ¬ ((-1 : Int) > 0) := by omega
  simp only [h1, if_false]
  rw [show (-(-1 : Int)) = 1 from rfl, Int.ediv_one]
  split <;> omega
theorem sliceApplied_rev {sl : Addr} {vs : Value} {n : Nat} {Q : Int × Int × Nat → Shared → Prop} (hs : s.heap.IsSliceOf sl .none .none vs) (ps : IsPart vs (some (-1)))
    (h : Q ((n : Int) - 1, -1, n) s) : wpAny (model prog w) A (Builtin.Slice.sliceApplied (.ref sl) (pure (n : Int))) Q E s := by
  obtain ⟨os, hos, hcs, hds⟩ := id hs
  unfold Builtin.Slice.sliceApplied Builtin.Slice.sliceFields
  refine wpAny_bind (wpAny_bind (wpAny_field hos hds (x := .none) rfl (wpAny_bind (wpAny_field hos hds (x := .none) rfl (wpAny_bind (wpAny_field hos hds (x := vs) rfl (wpAny_pure ?_)))))))
  refine wpAny_bind (slicePart_ ps ?_)
  show wpAny _ _ (if ((-1 : Int) == 0) = true then _ else _) _ _ s
  rw [if_neg (by decide)]
  refine wpAny_bind (slicePart_none (wpAny_bind (slicePart_none (wpAny_bind (wpAny_pure ?_)))))
  show wpAny _ _ (pure (((n : Int) - 1), (-1 : Int), Builtin.Slice.slicePlaces ((n : Int) - 1) (-1) (-1))) _ _ s
  rw [places_rev]
  exact wpAny_pure h
theorem pick_rev (xs : Array Value) : ((List.range xs.size).filterMap fun (m : Nat) => xs[(((xs.size : Nat) : Int) - 1 + (m : Int) * -1).toNat]?).toArray = xs.toList.reverse.toArray := by
  have e : (fun (m : Nat) => xs[(((xs.size : Nat) : Int) - 1 + (m : Int) * -1).toNat]?) = fun m => xs[(xs.size : Int).toNat - 1 - m]? := by
    funext m
    have : (((xs.size : Nat) : Int) - 1 + (m : Int) * -1).toNat = (xs.size : Int).toNat - 1 - m := by omega
    rw [this]
  rw [e]
  have r := PySem.W.krv_range xs.size
  have e3 : (List.range xs.size).filterMap (fun m => xs[(xs.size : Int).toNat - 1 - m]?) = ((List.range xs.size).map fun k => xs.size - 1 - k).filterMap (xs[·]?) := by
    rw [List.filterMap_map]
    rfl
  rw [e3, r, List.filterMap_reverse, PySem.W.krv_all]
theorem getItem_tuple_rev {t sl : Addr} {items : Array Value} {vs : Value} {Q : Value → Shared → Prop} (ht : IsTup s.heap t items) (hs : s.heap.IsSliceOf sl .none .none vs) (ps : IsPart vs (some (-1)))
    (h : Q (.ref s.heap.objs.size) { s with heap := s.heap.push { cls := .type "tuple", data := .seq items.toList.reverse.toArray } }) (hsz : items.size ≤ sizeLine) : wpAny (model prog w) A (getItem (.ref t) (.ref sl)) Q E s := by
  have htake : sizeOk (.seq items.toList.reverse.toArray) := by
    show items.toList.reverse.toArray.size ≤ sizeLine
    rw [List.size_toArray, List.length_reverse, Array.length_toList]
    omega
  obtain ⟨os, hos, hcs, hds⟩ := id hs
  have hTs : s.TypeIs (.ref sl) "slice" := ⟨os, hos, hcs⟩
  unfold getItem
  try with_reducible refine wpAny_holding ?_
  first | refine wpAny_bind (wpAny_pure ?_) | skip
  refine wpAny_bind (wpAny_sequenceKey ht.typeIs (by decide) ?_)
  refine wpAny_bind (wpAny_callSpecial?_slot (name := Str.ofString "__getitem__") ht.typeIs PyProof.Rows.slot_tuple_getitem
    (wpAny_call_entry PyProof.Rows.slot_tuple_getitem ht.typeIs entry_tuple_getitem ?_ (args_tuple_getitem _ _)))
  show wpAny _ _ (Builtin.Tuple.tupleItemsOf (.ref t) >>= _) _ _ s
  refine wpAny_bind (tupleItemsOf_ ht ?_)
  refine wpAny_bind (wpAny_typeOf hTs ?_)
  rw [if_pos (by decide)]
  refine wpAny_bind (sliceApplied_rev hs ps ?_)
  have hno : ¬ ((((items.size : Nat) : Int) - 1 == 0 && (-1 : Int) == 1 && items.size == items.size) = true) := by
    intro q
    rw [Bool.and_eq_true, Bool.and_eq_true] at q
    exact absurd q.1.2 (by decide)
  show wpAny _ _ (if (((items.size : Nat) : Int) - 1 == 0 && (-1 : Int) == 1 && items.size == items.size) = true then _ else _) _ _ s
  rw [if_neg hno, pick_rev]
  first
    | exact wpAny_bind (m := Builtin.Tuple.tupleExact _) (wpAny_newObj_type (wpAny_pure ⟨_, rfl, wpAny_pure h⟩) htake)
    | exact wpAny_bind (m := Builtin.Tuple.tupleExact _) (wpAny_newObj_type (wpAny_bind (wpAny_pure (wpAny_pure ⟨_, rfl, wpAny_pure h⟩))) htake)
    | exact wpAny_bind (wpAny_bind (m := Builtin.Tuple.tupleExact _) (wpAny_newObj_type (wpAny_pure (wpAny_pure ⟨_, rfl, wpAny_pure h⟩)) htake))
    | exact wpAny_bind (wpAny_bind (m := Builtin.Tuple.tupleExact _) (wpAny_newObj_type (wpAny_pure ⟨_, rfl, wpAny_pure h⟩) htake))
end
def tRevT (K : PySem.W.Frag) (te : TE) : TE := fun σ H Q => te σ H fun x H1 => ∃ a xs, x = .ref a ∧ SqT K H1 a xs ∧ ∀ p, H1 p = none → Q (.ref p) (upd H1 p (.tup xs.reverse))
theorem pe_revT {X : Cx} {e : Expr} {te : TE} {k : Nat} {p1 p2 p3 pos : Pos} (he : PE X e te) : PE X (.Subscript e (.Slice none none (some (.UnaryOp .USub (.Constant (.int 1) k p1) p2)) p3) pos) (tRevT X.K te) := by
  refine ⟨fun pins s σ H Q I h => ?_⟩
  refine Subscript_ (thn (he.run pins s σ H _ I h) fun v s1 ⟨x, H1, I1, r1, q1⟩ => ?_)
  obtain ⟨a, xs, ex, hx, q⟩ := q1
  subst ex
  cases r1
  have hst : PO X (some (.UnaryOp .USub (.Constant (.int 1) k p1) p2)) (tPart (tUn (rU fun i => .int (-i)) (tC (.int 1)))) := po_some (pe_un un_neg pe_int)
  refine wpAny_Slice (thn (po_none.run pins s1 σ H1 (fun o H2 => o = none ∧ H2 = H1) I1 ⟨rfl, rfl⟩) fun vl s2 ⟨l, H2, I2, pl, el, e2⟩ => ?_)
  subst el e2
  refine thn (po_none.run pins s2 σ H2 (fun o H3 => o = none ∧ H3 = H2) I2 ⟨rfl, rfl⟩) fun vu s3 ⟨u, H3, I3, pu, eu, e3⟩ => ?_
  subst eu e3
  refine thn (hst.run pins s3 σ H3 (fun o H4 => o = some (-1) ∧ H4 = H3) I3 ⟨1, rfl, -1, rfl, rfl, rfl⟩) fun vs s4 ⟨o, H4, I4, ps, eo, e4⟩ => ?_
  subst eo e4
  cases pl
  cases pu
  have I5 : Inv X pins σ H4 { s4 with heap := s4.heap.push { cls := .type "slice", data := .fields #[.none, .none, vs] } } := I4.kept (t' := s4.toks) fun b ob q => Heap.get?_push_of_some _ q
  obtain ⟨its, r, ht, hz⟩ := I5.tuple hx
  have hlen := r.length
  refine tail_any (ops := [.ref a, .ref s4.heap.objs.size]) ht.typeIs (PyProof.Rows.slot_tuple_getitem.lookup) ?_ (by with_unfolding_all rfl)
  refine getItem_tuple_rev ht (Heap.IsSliceOf.new _ .none .none vs) ps ?_ (by rw [List.size_toArray]; omega)
  refine ⟨.ref _, _, I5.laid (t' := s4.toks) (o := .tup xs.reverse) (fun b ob q => Heap.get?_push_of_some _ q) (Nat.le_refl _) ?_, rfl, q _ (I5.hok.fresh (Nat.le_refl _))⟩
  exact ⟨by rw [List.length_reverse]; exact hz, _, r.reverse, IsTup.new _ _⟩
def dRevT : D → Option D
  | .tup ds => some (.tup ds.reverse)
  | _ => none
section
variable {X : Cx} {c : Cn} {E : XK} {e : Expr} {fa : FE}
theorem repL_rev {K : PySem.W.Frag} {W : Wd} : ∀ {ds : List D} {vs : List V}, RepL K c W ds vs → RepL K c W ds.reverse vs.reverse
  | [], vs, r => by cases r; rfl
  | d :: ds, vs, r => by
    obtain ⟨v, us, rfl, r1, r2⟩ := r
    rw [List.reverse_cons, List.reverse_cons]
    exact repL_append (repL_rev r2) ⟨v, [], rfl, r1, rfl⟩
theorem me_revT {k : Nat} {p1 p2 p3 pos : Pos} (he : PE X e (tB X.K c E fa)) : PE X (.Subscript e (.Slice none none (some (.UnaryOp .USub (.Constant (.int 1) k p1) p2)) p3) pos) (tM X.K c E (op1 dRevT fa)) :=
  pe_imp (pe_revT he) fun σ H Q h => by
    obtain ⟨W, ρ, S, st, en, q⟩ := tM_un h
    refine then_B (O := OutM X.K c W H E Q) st en (fun _ _ _ z => z) (fun z => z) q fun d S1 W1 H1 v st1 k1 r1 q1 => ?_
    cases d <;> first | exact q1.elim | skip
    obtain ⟨p, vs, rfl, h1, h1', r2⟩ := r1.tup st1
    exact ⟨p, vs, rfl, SqT.of h1, fun l hl => q1 _ _ _ (lay_st st1 hl) (k1.tr st1 (lay_keep st1 hl)) (new_tup st1 hl (repL_rev r2))⟩
end
end Mini
namespace Mini
open PySem PySem.Spec PyProof.Rows L2 Evl
theorem tk_body {P : Program} {w : World} {K : PySem.W.Frag} {mg : Str → Option Value} {base : Heap} {N : List Str} {qual : Str} {sc : Scope} {f : Addr} {cd : Value} {A : Around} {outer : List Env} {s : Shared} {H : Hp} {E : XK} :
    Takes (cxOf (L2.CX P w) P w K mg base N qual sc f cd A outer s H E) (fun cls d _ H => E cls d H) := takes_of rfl rfl rfl rfl
/-- what is not come to -/
def noE : FE := fun _ => no
theorem me_noE {X : Cx} {c : Cn} {E : XK} {e : Expr} : PE X e (tM X.K c E noE) := ⟨fun pins s σ H Q I h => by
  obtain ⟨W, ρ, S, st, en, q⟩ := h
  exact q.elim⟩
theorem ms_raise' {X : Cx} {c : Cn} {E : XK} {x : Str} {n : Nat} {e : Expr} {fa : FE} {p pos pos' : Pos} (T : ErrC X.K X.prog.main.file (c.ca n) (c.fld n)) (htop : (X.prog.main.scope.names.lookup ("super" : Str)).isSome = false) (hr : Room 1 X.A) (hc : X.calm = true) (tk : Takes X (fun cls d _ H => E cls d H)) (hm : X.mg x = some (.ref (c.ca n)))
    (hms : X.mg "super" = none) (ha : PE X e (tM X.K c E fa)) (hg : X.env.kindOf x = some .globalImplicit := by kernel_rfl) (hdb : (x == ("__debug__" : Str)) = false := by kernel_rfl) (he : starEach [e] X.env = [(false, eval e X.env)] := by rfl) : PS X (.Raise (some (.Call (.Name x p) [e] [] pos)) none pos') (tS X.K c E (raiseS n fa)) :=
  ms_raise (k := 0) T htop hr hc tk hg hm hms ha hdb he
theorem ms_tryW' {X : Cx} {c : Cn} {E : XK} {x n : Str} {i k : Nat} {f : Addr} {fd : FuncData} {body : List Stmt} {g : FS} {np q q1 q2 q3 pos pos' : Pos} (hs : X.stack = X.env :: X.outer) (hf : X.env.frame = some X.env.locals) (hN : X.N.Nodup) (hm5 : X.mg x = some (.ref (c.ca 5)))
    (tk : Takes X (fun cls d _ H => E cls d H)) (hfld : ∀ j, j < 4 → c.fld j = "reason") (F : FnW X.prog X.w X.K X.mg X.base (L2.CX X.prog X.w) k f fd ["error"] (spW c.ca)) (hr : Room k X.A) (hm : X.mg "_law_word" = some (.ref f)) (hk : PySem.W.keepIn X.K (.ref f) = true) (hb : Binds X.K fd ["error"] [])
    (hex : ∀ j, j < 4 → PySem.W.exmOne X.K (.ref (c.ca j)) (.ref (c.ca 5)) = some true)
    (hbody : ∀ (pn : List (Addr × Obj)) (xe : Value → Shared → Prop) (E' : XK), Passes (L2.CX X.prog X.w) (X.tr pn xe) E' → PSs (X.tr pn xe) body (tS X.K c E' g))
    (hi : X.N[i]? = some n := by kernel_rfl) (hln : X.env.scope.names.lookup n = some .local := by kernel_rfl) (hg5 : X.env.kindOf x = some .globalImplicit := by kernel_rfl) (hd5 : (x == ("__debug__" : Str)) = false := by kernel_rfl) (hg : X.env.kindOf "_law_word" = some .globalImplicit := by kernel_rfl)
    (hd : (n == ("__debug__" : Str)) = false := by kernel_rfl) (hcd : (n == ("__classdict__" : Str)) = false := by kernel_rfl) (hst : starEach [Expr.Name n q1] X.env = (false, eval (Expr.Name n q1) X.env) :: starEach [] X.env := by rfl) :
    PS X (.Try body [.ExceptHandler (some (.Name x np)) (some n) [.Return (some (.Call (.Name "_law_word" q) [.Name n q1] [] q2)) q3] pos'] [] [] pos) (tS X.K c E (tryWS g wdW)) :=
  ms_tryW hs hf hN hi hln ⟨hg5, hd5, .inl hm5⟩ tk hfld F hr hg hm hk hb hex hd hcd hst hbody
end Mini
namespace Mini
open PySem PySem.Spec PyProof.Rows L2 Evl
/-! ### exact tuples: displays, +, slices, [::-1], * -/
def exO (us : List Value) : Obj := { cls := .type "tuple", data := .seq us.toArray }
theorem exO_ok {P : Program} {w : World} {H : Hp} {h : Heap} {xs : List V} {us : List Value} (hz : xs.length ≤ sizeLine) (r : Vals xs us) : ObjOk P w H (h.push (exO us)) h.objs.size (.frz (exO us) (.tup xs)) := ⟨Heap.get?_push_size _ rfl, hz, us, r, IsTup.new _ _⟩
/-- a new exact tuple -/
theorem inv_ex {X : Cx} {pins : List (Addr × Obj)} {σ : L2.St} {H : Hp} {s : Shared} {xs : List V} {us : List Value} (I : Inv X pins σ H s) (hz : xs.length ≤ sizeLine) (r : Vals xs us) :
    Inv X pins σ (upd H s.heap.objs.size (.frz (exO us) (.tup xs))) { s with heap := s.heap.push (exO us) } := I.laid (t' := s.toks) (o := .frz (exO us) (.tup xs)) (fun b ob q => Heap.get?_push_of_some _ q) (Nat.le_refl _) (exO_ok hz r)
def NewX (H : Hp) (xs : List V) (Q : VK) : Prop := ∀ p o, o.dict = none → H p = none → Q (.ref p) (upd H p (.frz o (.tup xs)))
theorem NewX.ep {X : Cx} {pins : List (Addr × Obj)} {σ : L2.St} {H : Hp} {s : Shared} {xs : List V} {us : List Value} {Q : VK} (q : NewX H xs Q) (I : Inv X pins σ H s) (hz : xs.length ≤ sizeLine) (r : Vals xs us) : EP X pins σ Q (.ref s.heap.objs.size) { s with heap := s.heap.push (exO us) } :=
  ⟨.ref s.heap.objs.size, _, inv_ex I hz r, rfl, q _ _ rfl (I.hok.fresh (Nat.le_refl _))⟩
def tTupX (t : TA) : TE := fun σ H Q => t σ H fun xs H1 => xs.length ≤ sizeLine ∧ NewX H1 xs Q
theorem pe_tupX {X : Cx} {es : List Expr} {t : TA} {x1 : Nat} {pos : Pos} (h : PA X es t) : PE X (.Tuple es x1 pos) (tTupX t) := by
  refine ⟨fun pins s σ H Q I hq => ?_⟩
  refine wpAny_Tuple_spliced (thn (h.run pos pins s σ H _ I hq) fun us s1 ⟨xs, H1, I1, r, z, q⟩ => ⟨by rw [← r.length]; exact z, q.ep I1 z r⟩)
def IsX (H : Hp) (a : Addr) (xs : List V) : Prop := ∃ o, H a = some (.frz o (.tup xs))
theorem IsX.sq {K : PySem.W.Frag} {H : Hp} {a : Addr} {xs : List V} (h : IsX H a xs) : SqT K H a xs := by
  obtain ⟨o, h⟩ := h
  exact .inl (.inr ⟨o, h⟩)
def rCatX (K : PySem.W.Frag) : R2 := fun x y H Q => ∃ a b xs ys, x = .ref a ∧ y = .ref b ∧ SqT K H a xs ∧ SqT K H b ys ∧ xs.length + ys.length ≤ sizeLine ∧ (xs = [] → Q (.ref b) H) ∧ (xs ≠ [] → ys = [] → Q (.ref a) H) ∧ NewX H (xs ++ ys) Q
theorem op_catX {X : Cx} : OpR X (binaryOp .Add) (rCatX X.K) := by
  intro pins s σ H x y v u Q I rx ry h
  obtain ⟨a, b, xs, ys, rfl, rfl, ha, hb, hz, q0, q1, q2⟩ := h
  cases rx
  cases ry
  obtain ⟨its, r1, p1, _⟩ := I.tuple ha
  obtain ⟨its2, r2, p2, _⟩ := I.tuple hb
  by_cases hx : xs = []
  · subst hx
    cases r1
    exact cat_tup0 p1 p2 ⟨.ref b, H, I, rfl, q0 rfl⟩
  · refine HT.cat_tup p1 p2 (fun z => hx (r1.nil_iff.mp z)) (fun z => ⟨.ref a, H, I, rfl, q1 hx (r2.nil_iff.mp z)⟩) (fun z => ?_) (by rw [← r1.length, ← r2.length]; exact hz)
    exact q2.ep I (by rw [List.length_append]; exact hz) (r1.append r2)
def rSlX (K : PySem.W.Frag) : V → Option Int → Option Int → Hp → VK → Prop := fun x lo hi H Q => ∃ a xs, x = .ref a ∧ SqT K H a xs ∧
  (HT.sIx xs.length 0 lo = 0 ∧ HT.sIx xs.length xs.length hi = xs.length → Q (.ref a) H) ∧ NewX H (cutV xs lo hi) Q
theorem sl_tupX {X : Cx} : SlR X (rSlX X.K) := by
  intro pins s σ H x v vl vu lo hi sl Q I rx hs pl pu h
  obtain ⟨a, xs, rfl, hx, q1, q2⟩ := h
  cases rx
  obtain ⟨its, r, ht, hz⟩ := I.tuple hx
  have hlen : its.toArray.size = xs.length := by rw [List.size_toArray]; exact r.length.symm
  refine ⟨"tuple", _, PyProof.Rows.slot_tuple_getitem.lookup, ht.typeIs, ?_⟩
  by_cases hw : HT.sIx xs.length 0 lo = 0 ∧ HT.sIx xs.length xs.length hi = xs.length
  · exact getItem_tuple_whole ht hs pl pu (by rw [hlen]; exact hw) ⟨.ref a, H, I, rfl, q1 hw⟩
  · refine HT.getItem_tuple_cut ht hs pl pu (by rw [hlen]; exact hw) ?_ (by rw [hlen]; exact hz)
    rw [hlen]
    exact q2.ep I (Nat.le_trans (cutV_length xs lo hi) hz) ((r.drop (HT.sIx xs.length 0 lo)).take (HT.sIx xs.length xs.length hi - HT.sIx xs.length 0 lo))
/-- t * k -/
def rRepX (K : PySem.W.Frag) : R2 := fun x y H Q => ∃ l k xs, x = .ref l ∧ y = .int k ∧ SqT K H l xs ∧ xs ≠ [] ∧ 2 ≤ k ∧ k ≤ 1000 ∧ xs.length ≤ 1000 ∧ NewX H (List.replicate k.toNat xs).flatten Q
theorem op_repX {X : Cx} : OpR X (binaryOp .Mult) (rRepX X.K) := fun pins s σ H x y v u Q I rx ry h => by
  obtain ⟨l, k, xs, rfl, rfl, hT, hne, h1, h2, hz, q⟩ := h
  obtain rfl : v = Value.ref l := rx
  obtain ⟨tk, rfl⟩ := ry
  obtain ⟨us, r, it, hs⟩ := I.tuple hT
  obtain ⟨ob, ho, hc, n, hd⟩ := id it
  obtain ⟨c1, dd, dt, sl⟩ := ob
  cases (show c1 = .type "tuple" from hc)
  cases (show dt = .seq us.toArray n from hd)
  have len : us.length = xs.length := r.length.symm
  have ne : us.toArray.isEmpty = false := by
    match us, len with
    | [], e => exact absurd (List.eq_nil_of_length_eq_zero e.symm) hne
    | _ :: _, _ => rfl
  have sz : us.toArray.size = xs.length := by simpa using len
  have m1 : ((xs.length : Nat) : Int) * k ≤ 1000 * 1000 := Int.le_trans (Int.mul_le_mul_of_nonneg_right (show ((xs.length : Nat) : Int) ≤ 1000 by omega) (by omega)) (Int.mul_le_mul_of_nonneg_left h2 (by decide))
  have total : (List.replicate k.toNat us).flatten.length ≤ sizeLine := by
    have m2 : k.toNat * us.length ≤ 1000 * 1000 := Nat.mul_le_mul (by omega) (by omega)
    rw [PyProof.Rows.lm_len_rep_flat, sizeLine_eq]
    omega
  have totalX : (List.replicate k.toNat xs).flatten.length ≤ sizeLine := by
    rw [PyProof.Rows.lm_len_rep_flat, ← len, ← PyProof.Rows.lm_len_rep_flat]
    exact total
  have few : Builtin.Tuple.tupleTooMany (((us.toArray.size : Nat) : Int) * k) = false := decide_eq_false (by rw [sz, sizeLine_eq]; omega)
  have W := tuple_mulW l us.toArray n dd sl k tk (by simp only [Bool.or_eq_false_iff, decide_eq_false_iff_not]; exact ⟨by omega, by omega⟩) (by rw [ne, Bool.false_or, beq_eq_false_iff_ne]; omega) (by rw [ne, Bool.or_false, decide_eq_false_iff_not]; omega) (by rw [sz]; omega) few (by rw [size_rep, List.size_toArray]; exact total)
  refine wpAny_binaryOp_repeat_ref (T := "tuple") (U := "int") (by decide) ⟨_, ho, rfl⟩ (fun s' => typeIs_int s' k tk) noFill_tuple_mul F.fills_int_mul F.slot_int_rmul repeat_tuple F.slot_int_index.lookup (call_meets F.slot_int_rmul (typeIs_int s k tk) F.entry_int_rmul (F.args_int_rmul_2 _ _) (int_rmul_tuple k tk l us.toArray n dd sl) ⟨ho, ?_⟩)
  refine ⟨rfl, ⟨_, ho, rfl⟩, call_meets F.slot_tuple_mul ⟨_, ho, rfl⟩ F.entry_tuple_mul (F.args_tuple_mul_2 _ _) W ⟨ho, ?_⟩⟩
  rw [size_rep]
  exact q.ep I totalX (r.rep k.toNat)
end Mini
namespace Mini
open PySem PySem.Spec PyProof.Rows L2 Evl
/-! ### the mirrors of exact tuples -/
section
variable {K : PySem.W.Frag} {c : Cn} {W : Wd} {H : Hp} {S : DS} {Q : VK}
theorem RepB.x {ds : List D} {v : V} (r : RepB K c W H (.tpx ds) v) : Rep K c W (.tpx ds) v := by
  rcases r with r | ⟨_, _, _, r⟩
  · exact r
  · exact r.elim
/-- a new exact tuple, frozen -/
theorem newX_of {ds : List D} {vs : List V} (st : StOk K c W H S) (r : RepL K c W ds vs) (k : ∀ W' H' x, StOk K c W' H' S → Keep W H W' H' → Rep K c W' (.tpx ds) x → Q x H') : NewX H vs Q :=
  fun l o ho hl => k _ _ _ (lay_st st hl) (lay_keep st hl) ⟨l, vs, o, rfl, upd_same, ho, RepL.ext (frz_ex (fresh_back st.sub hl)) _ vs r⟩
end
def tpxE (a : FA) : FE := fun ρ => bd (a ρ) fun xs => if xs.length ≤ 16777216 then rt (.tpx xs) else no
def dAddP : D → D → Option D
  | .tpx a, .tpx b => if a.length + b.length ≤ 16777216 then some (.tpx (a ++ b)) else none
  | d, e => dAdd d e
def dMulP : D → D → Option D
  | .tpx xs, .int k => if xs ≠ [] ∧ 2 ≤ k ∧ k ≤ 1000 ∧ xs.length ≤ 1000 then some (.tpx (List.replicate k.toNat xs).flatten) else none
  | d, e => dMulX d e
def dRevX : D → Option D
  | .tpx ds => some (.tpx ds.reverse)
  | _ => none
def dCutP (lo hi : Option Int) : D → Option D
  | .tpx ds => some (.tpx (cutG ds lo hi))
  | _ => none
def slcP (a : FE) (lo hi : FP) : FE := fun ρ => bd (a ρ) fun x => bd (lo ρ) fun l => bd (hi ρ) fun h => lift (dCutP l h x)
section
variable {X : Cx} {c : Cn} {E : XK} {e : Expr} {es : List Expr} {fa : FE} {ga : FA} {fl fh : FP} {lo hi : Option Expr} {pos p2 : Pos} {x1 : Nat}
theorem me_tupX (h : PA X es (tA X.K c E ga)) : PE X (.Tuple es x1 pos) (tM X.K c E (tpxE ga)) :=
  pe_imp (pe_tupX h) fun σ H Q h => by
    obtain ⟨W, ρ, S, st, en, q⟩ := tM_un h
    refine then_A (O := OutM X.K c W H E Q) st en (fun _ _ _ z => z) (fun z => z) q fun ds S1 W1 H1 vs st1 k1 r1 q1 => ?_
    split at q1
    · rename_i hl
      exact ⟨line_le (by rw [RepL.length r1]; exact hl), newX_of st1 r1 fun W' H' x st' k' r' => q1 W' H' x st' (k1.tr st1 k') r'⟩
    · exact q1.elim
def rAddP (K : PySem.W.Frag) : R2 := fun x y H Q => rCatX K x y H Q ∨ rAddAll K x y H Q
theorem op_addP : OpR X (binaryOp .Add) (rAddP X.K) := op_catX.or op_addAll
theorem m_addP : OpM X.K c (rAddP X.K) dAddP := fun {W H S d e d' v u} Q st a b q k => by
  by_cases hx : (∃ ds, d = .tpx ds) ∧ ∃ es, e = .tpx es
  · obtain ⟨⟨ds, rfl⟩, es, rfl⟩ := hx
    have q : (if ds.length + es.length ≤ 16777216 then some (D.tpx (ds ++ es)) else none) = some d' := q
    split at q
    · rename_i hl
      cases q
      obtain ⟨p1, vs, rfl, h1, r1⟩ := a.tpx st
      obtain ⟨p2, us, rfl, h2, r2⟩ := b.tpx st
      refine .inl ⟨p1, p2, vs, us, rfl, rfl, h1, h2, line_le (by rw [RepL.length r1, RepL.length r2]; exact hl), fun z => ?_, fun _ z => ?_, newX_of st (repL_append r1 r2) k⟩
      · have z' := (repL_isNil r1).mp z
        subst z'
        exact k W H _ st (Keep.refl W H) b.x
      · have z' := (repL_isNil r2).mp z
        subst z'
        rw [List.append_nil] at k
        exact k W H _ st (Keep.refl W H) a.x
    · cases q
  · refine .inr (m_add (X := X) Q st a b ?_ k)
    cases d <;> cases e <;> first | exact q | exact absurd ⟨⟨_, rfl⟩, _, rfl⟩ hx
def rMulP (K : PySem.W.Frag) : R2 := fun x y H Q => rRepX K x y H Q ∨ (rI CMulW (fun i j => .int (i * j)) x y H Q ∨ rRep x y H Q)
theorem op_mulP : OpR X (binaryOp .Mult) (rMulP X.K) := op_repX.or op_mulAll
theorem m_mulP : OpM X.K c (rMulP X.K) dMulP := fun {W H S d e d' v u} Q st a b q k => by
  by_cases hx : (∃ ds, d = .tpx ds) ∧ ∃ i, e = .int i
  · obtain ⟨⟨ds, rfl⟩, i, rfl⟩ := hx
    have q : (if ds ≠ [] ∧ 2 ≤ i ∧ i ≤ 1000 ∧ ds.length ≤ 1000 then some (D.tpx (List.replicate i.toNat ds).flatten) else none) = some d' := q
    split at q
    · rename_i hl
      cases q
      obtain ⟨p1, vs, rfl, h1, r1⟩ := a.tpx st
      exact .inl ⟨p1, i, vs, rfl, b.int, h1, fun z => hl.1 ((repL_isNil r1).mp z), hl.2.1, hl.2.2.1, by rw [RepL.length r1]; exact hl.2.2.2, newX_of st (repL_rep r1 _) k⟩
    · cases q
  · refine .inr (m_mulAll (X := X) Q st a b ?_ k)
    cases d <;> cases e <;> first | exact q | exact absurd ⟨⟨_, rfl⟩, _, rfl⟩ hx
theorem me_slcP (ha : PE X e (tB X.K c E fa)) (hl : PO X lo (tP X.K c E fl)) (hh : PO X hi (tP X.K c E fh)) : PE X (.Subscript e (.Slice lo hi none p2) pos) (tM X.K c E (slcP fa fl fh)) :=
  pe_imp (pe_slice sl_tupX ha hl hh) fun σ H Q h => by
    obtain ⟨W, ρ, S, st, en, q⟩ := tM_un h
    refine slc_run (O := fun W H Q r => OutM X.K c W H E Q r) st en (fun _ _ _ _ _ z => z) (fun _ _ z => z) (fun _ _ _ _ _ _ z k s => OutM.pre (Q' := Q) z k s) q fun W H S v d d' l h st r e' k => ?_
    cases d <;> first | (cases e'; done) | skip
    rename_i ds
    cases e'
    obtain ⟨p, vs, rfl, h1, r1⟩ := r.tpx st
    refine ⟨p, vs, rfl, h1, fun hw => ?_, newX_of st (repL_cut l h r1) k⟩
    have e2 : cutG ds l h = ds := by
      unfold cutG
      rw [← RepL.length r1, hw.1, hw.2, List.drop_zero, Nat.sub_zero, RepL.length r1, List.take_length]
    rw [e2] at k
    exact k W H _ st (Keep.refl W H) r.x
def tRevX (K : PySem.W.Frag) (te : TE) : TE := fun σ H Q => te σ H fun x H1 => ∃ a xs, x = .ref a ∧ SqT K H1 a xs ∧ NewX H1 xs.reverse Q
theorem pe_revX {te : TE} {k : Nat} {p1 p2 p3 pos : Pos} (he : PE X e te) : PE X (.Subscript e (.Slice none none (some (.UnaryOp .USub (.Constant (.int 1) k p1) p2)) p3) pos) (tRevX X.K te) := ⟨fun pins s σ H Q I h => by
  refine Subscript_ (thn (he.run pins s σ H _ I h) fun v s1 ⟨x, H1, I1, r1, a, xs, ex, hx, q⟩ => ?_)
  subst ex
  obtain rfl : v = Value.ref a := r1
  have step : PO X (some (.UnaryOp .USub (.Constant (.int 1) k p1) p2)) (tPart (tUn (rU fun i => .int (-i)) (tC (.int 1)))) := po_some (pe_un un_neg pe_int)
  refine wpAny_Slice (thn (po_none.run pins s1 σ H1 (fun o H2 => o = none ∧ H2 = H1) I1 ⟨rfl, rfl⟩) fun vl s2 ⟨l, H2, I2, pl, el, e2⟩ => thn (po_none.run pins s2 σ H2 (fun o H3 => o = none ∧ H3 = H2) I2 ⟨rfl, rfl⟩) fun vu s3 ⟨u, H3, I3, pu, eu, e3⟩ =>
    thn (step.run pins s3 σ H3 (fun o H4 => o = some (-1) ∧ H4 = H3) I3 ⟨1, rfl, -1, rfl, rfl, rfl⟩) fun vs s4 ⟨o, H4, I4, ps, eo, e4⟩ => ?_)
  subst el e2 eu e3 eo e4
  cases pl
  cases pu
  have I5 : Inv X pins σ H4 { s4 with heap := s4.heap.push { cls := .type "slice", data := .fields #[.none, .none, vs] } } := I4.kept (t' := s4.toks) fun b ob w => Heap.get?_push_of_some _ w
  obtain ⟨us, r, it, hz⟩ := I5.tuple hx
  refine tail_any (ops := [.ref a, .ref s4.heap.objs.size]) it.typeIs (PyProof.Rows.slot_tuple_getitem.lookup) (getItem_tuple_rev it (Heap.IsSliceOf.new _ .none .none vs) ps ?_ (by rw [List.size_toArray, ← r.length]; exact hz)) (by with_unfolding_all rfl)
  exact q.ep I5 (by rw [List.length_reverse]; exact hz) r.reverse⟩
theorem me_revX {k : Nat} {p1 p2 p3 pos : Pos} (he : PE X e (tB X.K c E fa)) : PE X (.Subscript e (.Slice none none (some (.UnaryOp .USub (.Constant (.int 1) k p1) p2)) p3) pos) (tM X.K c E (op1 dRevX fa)) :=
  pe_imp (pe_revX he) fun σ H Q h => by
    obtain ⟨W, ρ, S, st, en, q⟩ := tM_un h
    refine then_B (O := OutM X.K c W H E Q) st en (fun _ _ _ z => z) (fun z => z) q fun d S1 W1 H1 v st1 k1 r1 q1 => ?_
    cases d <;> first | exact q1.elim | skip
    obtain ⟨p, vs, rfl, h1, r2⟩ := r1.tpx st1
    exact ⟨p, vs, rfl, h1, newX_of st1 (repL_rev r2) fun W' H' x st' k' r' => q1 W' H' x st' (k1.tr st1 k') r'⟩
end
end Mini
namespace Mini
open PySem PySem.Spec PyProof.Rows L2 Evl
/-! ### comprehensions with two clauses -/
def lcL2 (t : TGd) (test : FB) (it1 : FI) (t1 : TGd) (test1 : FB) (elt : FE) (vs1 : List Nat) : List D → List D → En → M (List D)
  | [], acc, _ => rt acc
  | d :: ds, acc, ρ => bd (lift (t d ρ)) fun ρ1 => bd (noEr (test ρ1)) fun k =>
      if k then bd (noEr (it1 ρ1)) fun ds1 => bd (lcL t1 test1 elt ds1 acc (wipeR ρ1 vs1)) fun acc' => lcL2 t test it1 t1 test1 elt vs1 ds acc' ρ
      else lcL2 t test it1 t1 test1 elt vs1 ds acc ρ
def lc2E (it : FI) (t : TGd) (test : FB) (it1 : FI) (t1 : TGd) (test1 : FB) (elt : FE) (vs vs1 : List Nat) : FE := fun ρ => bd (it ρ) fun ds => bd (lcL2 t test it1 t1 test1 elt vs1 ds [] (wipeR ρ vs)) fun r => rt (.lst r)
theorem lcL_bd {β : Type} (t : TGd) (test : FB) (elt : FE) (d : D) (ds acc : List D) (ρ : En) (f : List D → M β) (S : DS) : bd (lcL t test elt (d :: ds) acc ρ) f S = bd (lift (t d ρ)) (fun ρ1 => bd (noEr (test ρ1)) fun k =>
      if k then bd (noEr (elt ρ1)) fun x => if acc.length < 16777216 then bd (lcL t test elt ds (acc ++ [x]) ρ) f else no
      else bd (lcL t test elt ds acc ρ) f) S := by
  rw [lcL]
  cases e : t d ρ with
  | none => rfl
  | some ρ1 =>
    show bd (bd (noEr (test ρ1)) _) f S = bd (noEr (test ρ1)) _ S
    cases e1 : noEr (test ρ1) S with
    | no => simp only [bd, e1]
    | er n p S' => simp only [bd, e1]
    | ok k S1 =>
      simp only [bd, e1]
      cases k with
      | false =>
        simp only [Bool.false_eq_true, if_false]
        rfl
      | true =>
        simp only [if_true]
        cases e2 : noEr (elt ρ1) S1 with
        | no => simp only [bd, e2]
        | er n p S' => simp only [bd, e2]
        | ok x S2 =>
          simp only [bd, e2]
          by_cases hl : acc.length < 16777216
          · simp only [if_pos hl]
            rfl
          · simp only [if_neg hl]
            rfl
theorem noEr_er {α : Type} {m : M α} {S S' : DS} {n : Nat} {p : D} : noEr m S ≠ .er n p S' := fun h => by
  unfold noEr at h
  cases e : m S with
  | ok a s => rw [e] at h; cases h
  | er a b s => rw [e] at h; cases h
  | no => rw [e] at h; cases h
theorem lcL2_noEr (t : TGd) (test : FB) (it1 : FI) (t1 : TGd) (test1 : FB) (elt : FE) (vs1 : List Nat) : ∀ (ds acc : List D) (ρ : En) (S : DS) (n : Nat) (p : D) (S' : DS), lcL2 t test it1 t1 test1 elt vs1 ds acc ρ S ≠ .er n p S'
  | [], acc, ρ, S, n, p, S' => by intro h; cases h
  | d :: ds, acc, ρ, S, n, p, S' => by
    intro h
    unfold lcL2 bd at h
    cases e : t d ρ with
    | none => rw [e] at h; cases h
    | some ρ1 =>
      rw [e] at h
      change bd (noEr (test ρ1)) _ S = _ at h
      unfold bd at h
      cases e1 : noEr (test ρ1) S with
      | no => rw [e1] at h; cases h
      | er n p S' => exact noEr_er e1
      | ok k S1 =>
        rw [e1] at h
        cases k with
        | false => exact lcL2_noEr t test it1 t1 test1 elt vs1 ds acc ρ S1 n p S' h
        | true =>
          change bd (noEr (it1 ρ1)) _ S1 = _ at h
          unfold bd at h
          cases e2 : noEr (it1 ρ1) S1 with
          | no => rw [e2] at h; cases h
          | er n p S' => exact noEr_er e2
          | ok ds1 S2 =>
            rw [e2] at h
            change bd (lcL t1 test1 elt ds1 acc (wipeR ρ1 vs1)) _ S2 = _ at h
            unfold bd at h
            cases e3 : lcL t1 test1 elt ds1 acc (wipeR ρ1 vs1) S2 with
            | no => rw [e3] at h; cases h
            | er n p S' => exact lcL_noEr _ _ _ _ _ _ _ _ _ _ e3
            | ok acc' S3 =>
              rw [e3] at h
              exact lcL2_noEr t test it1 t1 test1 elt vs1 ds acc' ρ S3 n p S' h
section
variable {K : PySem.W.Frag} {c : Cn} {W W1 W2 W' : Wd} {H H1 H2 H' : Hp} {S S1 S2 S' : DS} {σ σ1 σ2 σ' : L2.St} {ρ ρ1 ρ2 ρ' : En} {E : XK}
theorem owned_wipe {b : Addr} : ∀ vs : List Nat, Owned (L2.wipe σ vs) (wipeR ρ vs) b → Owned σ ρ b
  | [], h => h
  | v :: vs, ⟨i, d, h1, h2⟩ => by
    have h1' : ((wipeR ρ vs).set v .no)[i]? = some (.ow d) := h1
    have h2' : ((L2.wipe σ vs).set v none)[i]? = some (some (.ref b)) := h2
    have ne : v ≠ i := fun e => by
      subst e
      have hi := (List.getElem?_eq_some_iff.mp h1').1
      rw [List.length_set] at hi
      rw [List.getElem?_set_self hi] at h1'
      cases h1'
    rw [List.getElem?_set_ne ne] at h1' h2'
    exact owned_wipe vs ⟨i, d, h1', h2'⟩
theorem thenC_I {f : FI} {β : Type} {g : List D → M β} {R : It → Hp → Prop} {O : Res β → Prop} (st : StOk K c W H S) (en : EnvOk K c W H σ ρ) (hN : ¬ O .no) (h : O (bd (noEr (f ρ)) g S))
    (k : ∀ ds S' W' H' J, StOk K c W' H' S' → Keep W H W' H' → Itr2 K c W' J ds → O (g ds S') → R J H') : tI K c E f σ H R := by
  refine ⟨W, ρ, S, st, en, ?_⟩
  unfold bd noEr at h
  cases e : f ρ S with
  | ok d S' =>
    rw [e] at h
    exact fun W' H' J st' k' r => k d S' W' H' J st' k' r h
  | er n p S' =>
    rw [e] at h
    exact (hN h).elim
  | no =>
    rw [e] at h
    exact (hN h).elim
end
section
variable {X : Cx} {c : Cn} {E : XK} {elt tg iter tg1 iter1 : Expr} {ifs ifs1 : List Expr} {scope : Scope} {own : List (Str × Nat)} {vs1 : List Nat} {pos : Pos} {it it1 : FI} {td td1 : TGd} {test test1 : FB} {fe : FE}
theorem lc2_out {own : List Nat} : ∀ σ H Q, tO X.K c E (lc2E it td test it1 td1 test1 fe own vs1) σ H Q → tLc2 (tI X.K c E it) (tGd X.K c own td) (tT X.K c EF test) (tI X.K c EF it1) (tGd X.K c vs1 td1) (tT X.K c EF test1) (tM X.K c EF fe) own vs1 σ H Q := fun σ H Q h => by
  obtain ⟨W, ρ, S, st, en, q⟩ := tO_un h
  refine ⟨W, ρ, S, st, en, ?_⟩
  unfold lc2E bd at q
  cases e0 : it ρ S with
  | er n p S' => rw [e0] at q; exact q
  | no => rw [e0] at q; exact q
  | ok ds S0 =>
    rw [e0] at q
    intro W0 H0 J st0 k0 wk Dl hD
    have en0 := (en.ext k0).wipe own
    have st1 := new_st (o := .lst []) st0 hD
    have kD : Keep W0 H0 W0 (upd H0 Dl (.lst [])) := new_keep st0 hD
    have noOwn : ∀ (i : Nat) (d : Mini.D), (wipeR ρ own)[i]? = some (.ow d) → (L2.wipe σ own)[i]? ≠ some (some (.ref Dl)) := fun i d h1 h2 => by
      obtain ⟨a, h3, _, _, h4⟩ := en0.ow i d h1
      rw [h2] at h3
      cases h3
      obtain ⟨o, ho⟩ := h4.some
      rw [hD] at ho
      cases ho
    have q0 : OutL X.K c W0 (upd H0 Dl (.lst [])) Dl (fun H1 => Q (.ref Dl) H1) (lcL2 td test it1 td1 test1 fe vs1 ds [] (wipeR ρ own) S0) := by
      change OutO X.K c W H E Q (bd (lcL2 td test it1 td1 test1 fe vs1 ds [] (wipeR ρ own)) (fun r => rt (.lst r)) S0) at q
      unfold bd at q
      cases e1 : lcL2 td test it1 td1 test1 fe vs1 ds [] (wipeR ρ own) S0 with
      | no => rw [e1] at q; exact q
      | er n p S' => exact absurd e1 (lcL2_noEr _ _ _ _ _ _ _ _ _ _ _ _ _ _)
      | ok r S' =>
        rw [e1] at q
        rintro W' H' st' k' ⟨a1, a2, vs, a3, a4⟩
        have there := (kD.toS (σ := []) (ρ := []) st1).there
        have kk : Keep W0 H0 W' H' := by
          refine ⟨k'.wex, fun b o h n => k'.old b o (kD.old b o h n) n fun z => ?_, fun b o h n => ?_, fun b o h e => ?_⟩
          · rw [z, hD] at h
            cases h
          · obtain ⟨o', ho'⟩ := there b o h
            exact k'.fr b o' ho' n
          · obtain ⟨o', ho'⟩ := there b o h
            exact k'.sa b o' ho' e
        refine q W' H' _ st' (k0.tr st0 kk) (RepO.pre (H0 := H) k0 (fun b e => st0.ds.at (k0.wex.2 b e)) ⟨Dl, rfl, hD, a1, a2, vs, a3, a4⟩)
    refine ⟨fun i m H1 => m = ds.length - i ∧ i ≤ ds.length ∧ ∃ W1 S1 acc, StOk X.K c W1 H1 S1 ∧ KeepD W0 (upd H0 Dl (.lst [])) Dl W1 H1 ∧ AccOk X.K c W1 H1 Dl acc ∧ OutL X.K c W0 (upd H0 Dl (.lst [])) Dl (fun H1 => Q (.ref Dl) H1) (lcL2 td test it1 td1 test1 fe vs1 (ds.drop i) acc (wipeR ρ own) S1),
      ⟨ds.length, rfl, Nat.zero_le _, W0, S0, [], st1, (Keep.refl _ _).toD st1, ⟨fresh_back st0.sub hD, sa_ne st0 hD, [], upd_same, rfl⟩, q0⟩, ?_⟩
    rintro i m H1 ⟨rfl, hi, W1, S1, acc, st1, k1, ac1, q1⟩
    have ex1 : Ex W0.H0 H1 := k1.wex.1.trans st1.sub
    by_cases hlt : i < ds.length
    · refine .inr ⟨wk.go i H1 hlt ex1, fun H2 => ∃ W2 S2 acc2, StOk X.K c W2 H2 S2 ∧ KeepD W0 (upd H0 Dl (.lst [])) Dl W2 H2 ∧ AccOk X.K c W2 H2 Dl acc2 ∧ OutL X.K c W0 (upd H0 Dl (.lst [])) Dl (fun H1 => Q (.ref Dl) H1) (lcL2 td test it1 td1 test1 fe vs1 (ds.drop (i + 1)) acc2 (wipeR ρ own) S2), fun H2 n2 => ⟨ds.length - (i + 1), by omega, rfl, hlt, n2⟩, fun x H2 y => ?_⟩
      have hd : ds[i]? = some ds[i] := List.getElem?_eq_getElem hlt
      rw [List.drop_eq_getElem_cons hlt] at q1
      unfold lcL2 bd at q1
      cases e1 : td ds[i] (wipeR ρ own) with
      | none => rw [e1] at q1; exact q1.elim
      | some ρ2 =>
        rw [e1] at q1
        obtain ⟨W2, st2, kk2, r2⟩ := (wk.yld i H1 x H2 _ hd ex1 y).lay st1 k1.wex
        have en1 : EnvOk X.K c W1 H1 (L2.wipe σ own) (wipeR ρ own) := (en0.ext kD).extD k1 noOwn
        refine ⟨W2, wipeR ρ own, S1, ds[i], ρ2, st2, en1.ext kk2, r2, e1, fun σ3 en3 o3 w3 => ⟨w3.trans (wipe_wipe own own fun _ z => z), ?_⟩⟩
        change OutL X.K c W0 (upd H0 Dl (.lst [])) Dl (fun H1 => Q (.ref Dl) H1) (bd (noEr (test ρ2)) _ S1) at q1
        refine thenC_T (O := OutL X.K c W0 (upd H0 Dl (.lst [])) Dl fun H1 => Q (.ref Dl) H1) st2 en3 (fun z => z) q1 fun k S3 W3 H3 st3 k3 q3 => ?_
        have ac3 := (ac1.ext kk2).ext k3
        have kk3 := (k1.trans (kk2.toD st2)).trans (k3.toD st3)
        cases k with
        | false => exact ⟨W3, S3, acc, st3, kk3, ac3, q3⟩
        | true =>
          refine thenC_I (O := OutL X.K c W0 (upd H0 Dl (.lst [])) Dl fun H1 => Q (.ref Dl) H1) st3 (en3.ext k3) (fun z => z) q3 fun ds1 S4 W4 H4 J1 st4 k4 wk1 q4 => ?_
          have enw := ((en3.ext k3).ext k4).wipe vs1
          have noOwn1 : ∀ (i : Nat) (d : Mini.D), (wipeR ρ2 vs1)[i]? = some (.ow d) → (L2.wipe σ3 vs1)[i]? ≠ some (some (.ref Dl)) := fun i d h1 h2 => by
            obtain ⟨i', d', h1', h2'⟩ := o3 Dl (owned_wipe vs1 ⟨i, d, h1, h2⟩)
            exact noOwn i' d' h1' h2'
          have kk4 := kk3.trans (k4.toD st4)
          have ac4 := ac3.ext k4
          refine ⟨fun j k H5 => k = ds1.length - j ∧ j ≤ ds1.length ∧ ∃ W5 S5 acc5, StOk X.K c W5 H5 S5 ∧ KeepD W4 H4 Dl W5 H5 ∧ AccOk X.K c W5 H5 Dl acc5 ∧ OutL X.K c W0 (upd H0 Dl (.lst [])) Dl (fun H1 => Q (.ref Dl) H1) (bd (lcL td1 test1 fe (ds1.drop j) acc5 (wipeR ρ2 vs1)) (fun acc' => lcL2 td test it1 td1 test1 fe vs1 (ds.drop (i + 1)) acc' (wipeR ρ own)) S5),
            ⟨ds1.length, rfl, Nat.zero_le _, W4, S4, acc, st4, (Keep.refl _ _).toD st4, ac4, q4⟩, ?_⟩
          rintro j k H5 ⟨rfl, hj, W5, S5, acc5, st5, k5, ac5, q5⟩
          have ex5 : Ex W4.H0 H5 := k5.wex.1.trans st5.sub
          by_cases hlt1 : j < ds1.length
          · refine .inr ⟨wk1.go j H5 hlt1 ex5, fun H6 => ∃ W6 S6 acc6, StOk X.K c W6 H6 S6 ∧ KeepD W4 H4 Dl W6 H6 ∧ AccOk X.K c W6 H6 Dl acc6 ∧ OutL X.K c W0 (upd H0 Dl (.lst [])) Dl (fun H1 => Q (.ref Dl) H1) (bd (lcL td1 test1 fe (ds1.drop (j + 1)) acc6 (wipeR ρ2 vs1)) (fun acc' => lcL2 td test it1 td1 test1 fe vs1 (ds.drop (i + 1)) acc' (wipeR ρ own)) S6), fun H6 n6 => ⟨ds1.length - (j + 1), by omega, rfl, hlt1, n6⟩, fun x H6 y => ?_⟩
            have hd1 : ds1[j]? = some ds1[j] := List.getElem?_eq_getElem hlt1
            rw [List.drop_eq_getElem_cons hlt1, lcL_bd] at q5
            cases e5 : td1 ds1[j] (wipeR ρ2 vs1) with
            | none =>
              rw [e5] at q5
              exact False.elim q5
            | some ρ6 =>
              rw [e5] at q5
              obtain ⟨W6, st6, kk6, r6⟩ := (wk1.yld j H5 x H6 _ hd1 ex5 y).lay st5 k5.wex
              have en5 : EnvOk X.K c W5 H5 (L2.wipe σ3 vs1) (wipeR ρ2 vs1) := enw.extD k5 noOwn1
              refine ⟨W6, wipeR ρ2 vs1, S5, ds1[j], ρ6, st6, en5.ext kk6, r6, e5, fun σ7 en7 o7 w7 => ⟨w7.trans (wipe_wipe vs1 vs1 fun _ z => z), ?_⟩⟩
              change OutL X.K c W0 (upd H0 Dl (.lst [])) Dl (fun H1 => Q (.ref Dl) H1) (bd (noEr (test1 ρ6)) _ S5) at q5
              refine thenC_T (O := OutL X.K c W0 (upd H0 Dl (.lst [])) Dl fun H1 => Q (.ref Dl) H1) st6 en7 (fun z => z) q5 fun k S7 W7 H7 st7 k7 q7 => ?_
              have ac7 := (ac5.ext kk6).ext k7
              have kk7 := (k5.trans (kk6.toD st6)).trans (k7.toD st7)
              cases k with
              | false => exact ⟨W7, S7, acc5, st7, kk7, ac7, q7⟩
              | true =>
                refine thenC_M (O := OutL X.K c W0 (upd H0 Dl (.lst [])) Dl fun H1 => Q (.ref Dl) H1) st7 (en7.ext k7) (fun z => z) q7 fun d8 S8 W8 H8 v8 st8 k8 r8 q8 => ?_
                obtain ⟨a1, a2, vs, a3, a4⟩ := ac7.ext k8
                split at q8
                · rename_i hlen
                  obtain ⟨s9, k9⟩ := upd_D (o := .lst (vs ++ [v8])) st8 a1 a2 ⟨_, a3⟩
                  refine ⟨vs, a3, line_lt (by rw [RepL.length a4]; exact hlen), W8, S8, acc5 ++ [d8], s9, (kk7.trans (k8.toD st8)).trans k9, ⟨a1, a2, _, upd_same, repL_append a4 ⟨v8, [], rfl, r8, rfl⟩⟩, q8⟩
                · exact False.elim q8
          · have ej : j = ds1.length := by omega
            subst ej
            refine .inl ⟨wk1.stop H5 ex5, ?_⟩
            rw [List.drop_length] at q5
            exact ⟨W5, S5, acc5, st5, kk4.trans k5, ac5, q5⟩
    · have ei : i = ds.length := by omega
      subst ei
      refine .inl ⟨wk.stop H1 ex1, ?_⟩
      rw [List.drop_length] at q1
      exact q1 W1 H1 st1 k1 ac1
theorem me_lc2 (hc : X.calm = true) (hN : X.N.Nodup) (hi : PI X tg iter (tI X.K c E it)) (ok : BlkOk X.N X.env.scope scope own) (hv : ∀ i ∈ vs1, i ∈ own.map (·.2))
    (hg : ∀ (s : Shared) (H : Hp) (C : Addr) (cl : List (Str × Addr)) (fp : List Addr), PG (X.blk s H scope (compEnvC scope cl C X.env) fp) tg (tGd X.K c (own.map (·.2)) td))
    (ht : ∀ (s : Shared) (H : Hp) (C : Addr) (cl : List (Str × Addr)) (fp : List Addr), PTs (X.blk s H scope (compEnvC scope cl C X.env) fp) ifs (tT X.K c EF test))
    (hi1 : ∀ (s : Shared) (H : Hp) (C : Addr) (cl : List (Str × Addr)) (fp : List Addr), PI (X.blk s H scope (compEnvC scope cl C X.env) fp) tg1 iter1 (tI X.K c EF it1))
    (hg1 : ∀ (s : Shared) (H : Hp) (C : Addr) (cl : List (Str × Addr)) (fp : List Addr), PG (X.blk s H scope (compEnvC scope cl C X.env) fp) tg1 (tGd X.K c vs1 td1))
    (ht1 : ∀ (s : Shared) (H : Hp) (C : Addr) (cl : List (Str × Addr)) (fp : List Addr), PTs (X.blk s H scope (compEnvC scope cl C X.env) fp) ifs1 (tT X.K c EF test1))
    (he : ∀ (s : Shared) (H : Hp) (C : Addr) (cl : List (Str × Addr)) (fp : List Addr), PE (X.blk s H scope (compEnvC scope cl C X.env) fp) elt (tM X.K c EF fe)) (hs : ∀ x, foldedSetIterable iter X.env x = pure x := by intro _; rfl) (hs1 : ∀ env x, foldedSetIterable iter1 env x = pure x := by intro _ _; rfl) :
    PE X (.ListComp elt [⟨tg, iter, ifs, 0⟩, ⟨tg1, iter1, ifs1, 0⟩] scope pos) (tO X.K c E (lc2E it td test it1 td1 test1 fe (own.map (·.2)) vs1)) :=
  pe_imp (pe_lc2 hc hN hi ok hv hg ht hi1 hg1 ht1 he hs hs1) lc2_out
end
end Mini
namespace Mini
open PySem PySem.Spec PyProof.Rows L2 Evl
/-! ### l.index(x): the first place of an equal one; it must be there -/
def dIndex : D → D → Option D
  | .lst ds, d => if okEq (.lst ds) && okEq d then ((pyL ds).findIdx? fun z => PyData.eqv z d.py).map fun j => .int (j : Nat) else none
  | _, _ => none
def indexE (fa fb : FE) : FE := fun ρ => bd (fa ρ) fun x => match x with
  | .lst ds => bd (fb ρ) fun y => lift (dIndex (.lst ds) y)
  | _ => no
section
variable {X : Cx} {c : Cn} {E : XK} {a b e o tg : Expr} {es : List Expr} {fa fb fc : FE} {ga : FA} {x y : Str} {p pos apos cpos pa : Pos} {i : Nat}
theorem me_index {k : Nat} (hr : Room k X.A) (ho : PE X o (tB X.K c E fa)) (he : PE X e (tB X.K c E fb)) (m : Mb X o "index" e [] apos cpos := by exact ⟨by kernel_rfl, by kernel_rfl, by kernel_rfl, by kernel_rfl, by kernel_rfl⟩) :
    PE X (.Call (.Attribute o "index" apos) [e] [] cpos) (tM X.K c E (indexE fa fb)) :=
  pe_imp (pe_bm' PySem.F.plainAttrs_list PySem.F.slot_list_index PySem.F.type_list_index (mt_indexD (by have := Room.u64 hr; omega)) ho (pa_cons he pa_nil m.one) m) fun σ H Q h => by
    obtain ⟨W, ρ, S, st, en, q⟩ := tM_un h
    refine then_B (O := OutM X.K c W H E Q) st en (fun _ _ _ z => z) (fun z => z) q fun d S1 W1 H1 v st1 k1 r1 q1 => ?_
    cases d <;> first | exact (show False from q1).elim | skip
    rename_i ds
    obtain ⟨ad, vs, rfl, h1, h2⟩ := r1.lst st1
    refine ⟨.inl ⟨rfl, vs, SqL.of h1⟩, ?_⟩
    refine then_B (O := OutM X.K c W H E Q) st1 (en.ext k1) (fun _ _ _ z => ErQ.pre z k1 st1) (fun z => z) q1 fun d2 S2 W2 H2 u st2 k2 r2 q2 => ?_
    obtain ⟨d', e', q3⟩ := lift_ok (β := D) (O := OutM X.K c W H E Q) (fun z => z) q2
    simp only [dIndex] at e'
    split at e'
    · rename_i z
      rw [Bool.and_eq_true] at z
      obtain ⟨j, hj, rfl⟩ := Option.map_eq_some_iff.mp e'
      obtain ⟨hl, hp, hn⟩ := List.findIdx?_eq_some_iff_getElem.mp hj
      obtain ⟨y1, y2⟩ := okEq_shaped st2 (r1.ext k2) z.1
      obtain ⟨y3, y4⟩ := okEq_shaped st2 r2 z.2
      refine ⟨ad, u, d2.py, pyL ds, j, (pyL ds)[j], rfl, rfl, ?_, y3, ?_, y4, List.getElem?_eq_getElem hl, hp, fun m z' hm hz' => ?_, q3 W2 H2 _ st2 (k1.tr st1 k2) rfl⟩
      · simpa only [D.py] using y1
      · simpa only [D.py] using y2
      · obtain ⟨hm2, rfl⟩ := List.getElem?_eq_some_iff.mp hz'
        simpa using hn m hm
    · cases e'
end
end Mini
namespace Mini
open PySem PySem.Spec PyProof.Rows L2 Evl
/-! ### enumerate(t), t a tuple -/
set_option maxHeartbeats 1000000 in
theorem enum_new1 {v : Value} {o : Obj} {H : Heap → Prop} (B : Begins v o H) :
    Meets (Builtin.«enumerate.__new__» ⟨[.type "enumerate", v], []⟩) (fun _ R s => H s.heap ∧
      R (.ok (.ret (.ref (s.heap.push o).objs.size))) { s with heap := (s.heap.push o).push { cls := .type "enumerate", data := .fields #[.none, .bool false, .ref s.heap.objs.size, rawInt 0, .none, .none] } }) :=
  .of_wp fun prog w A R s h => by
    obtain ⟨hp, g, d, tk, os⟩ := s
    obtain ⟨h1, h⟩ := h
    have hsub := sub_enumerate
    have q1 : ∀ {A' : Around} {E : Value → Shared → Prop} {Q : Value → Shared → Prop}, Q (.ref hp.objs.size) ⟨hp.push o, g, d, tk, os⟩ → wpAny (model prog w) A' (pyIter v) Q E ⟨hp, g, d, tk, os⟩ :=
      fun q => B.iter prog w _ _ ⟨hp, g, d, tk, os⟩ _ h1 q
    wp_walk using q1
    refine wpAny_stack_any fun st => wpAny_pure ?_
    split
    · rename_i c _ _ _ _ _
      cases (c == Value.type "enumerate") <;> (wp_walk using q1; exact ⟨_, rfl, h⟩)
    · wp_walk using q1
      exact ⟨_, rfl, h⟩
theorem enum_call1 {prog : Program} {w : World} {A : Around} {E : Value → Shared → Prop} {s : Shared} {v : Value} {o : Obj} {H : Heap → Prop} {Q : Value → Shared → Prop} (B : Begins v o H) (h1 : H s.heap)
    (h : ∀ h', IsEnum h' (s.heap.objs.size + 1) s.heap.objs.size 0 .none → h'.get? s.heap.objs.size = some o → (∀ b u, s.heap.get? b = some u → h'.get? b = some u) → Q (.ref (s.heap.objs.size + 1)) { s with heap := h' }) :
    wpAny (model prog w) A (call (.type "enumerate") [v]) Q E s := by
  refine callType_new F.called_enumerate (by decide) (F.typeCall_enumerate_1 _) (F.newCall_enumerate_1 _) (fun obj => F.args_object_init_2 obj _) F.entry_enumerate_new (enum_new1 B) ⟨h1, ?_⟩
  have hz : (s.heap.push o).objs.size = s.heap.objs.size + 1 := Heap.size_push ..
  show _ ∧ _
  rw [hz]
  have he := Heap.get?_push_size (s.heap.push o) (o := { cls := .type "enumerate", data := .fields #[.none, .bool false, .ref s.heap.objs.size, rawInt 0, .none, .none] }) rfl
  rw [hz] at he
  exact ⟨⟨_, he, rfl⟩, h _ he (Heap.get?_push_of_some _ (Heap.get?_push_size _ B.free)) fun b u x => Heap.get?_push_of_some _ (Heap.get?_push_of_some _ x)⟩
def IteT (K : PySem.W.Frag) (a : Addr) : It :=
  ⟨fun i H => ∃ (xs : List V) (x : V), SqT K H a xs ∧ xs[i]? = some x, fun i H v H' => ∃ T x, v = .ref T ∧ H T = none ∧ H' = upd H T (.tup [.int (i : Nat), x]) ∧ ∀ xs, SqT K H a xs → xs[i]? = some x, fun i H => ∃ xs : List V, SqT K H a xs ∧ xs.length ≤ i⟩
theorem turn_enumT {P : Program} {w : World} {K : PySem.W.Frag} {elts : List Expr} {kk : Nat} {tpos : Pos} (a e it : Addr) :
    Turn P w K (.Tuple elts kk tpos) (IteT K a) [e, it] e (fun i h => (∃ old, IsEnum h e it ((i : Nat) : Int) old) ∧ h.IsTupleIter it a i ∧ e ≠ it ∧ a ≠ it ∧ a ≠ e) where
  mem := by simp
  obj := fun i h st b hb => by
    obtain ⟨⟨old, he⟩, ⟨o, ho, hc, hd⟩, _⟩ := st
    have e' : b = e ∨ b = it := by simpa using hb
    rcases e' with z | z
    · rw [z]; exact ⟨_, he, fun v q => nomatch q⟩
    · rw [z]; exact ⟨o, ho, fun v q => by rw [hd] at q; cases q⟩
  keep := fun i h h' st k => let ⟨⟨old, he⟩, hi, hne⟩ := st; ⟨⟨old, k e (by simp) _ he⟩, hi.at fun o q => k it (by simp) o q, hne⟩
  item := by
    intro X hP hw hK hc i pins s σ H E I hf st hg
    subst hP hw hK
    obtain ⟨⟨old, he⟩, hit, hne, hai, hae⟩ := st
    obtain ⟨xs, x, hq, hx⟩ := hg
    obtain ⟨its, rv, p, hz⟩ := I.tuple hq
    obtain ⟨u, hu, ru⟩ := rv.get hx
    have hel : e < s.heap.objs.size := Heap.lt_size he
    have hil : it < s.heap.objs.size := by obtain ⟨_, q, _⟩ := hit; exact Heap.lt_size q
    have hlt : i < its.toArray.size := by
      have := (List.getElem?_eq_some_iff.mp hu).1
      simpa using this
    refine wpAny_pyNext_enum_itemD (Draws.tuple (A := X.A.in1) (I.ok.hd hc) it a hai its.toArray) he ⟨hit, p⟩ hlt hne (by simp [hne, Ne.symm hae]) fun x' h' tk hP' ho hst hT hsz hk => ?_
    have ex : x' = u := by
      have h1 : its.toArray[i]? = some x' := hP'
      have h2 : its.toArray[i]? = some u := by simpa using hu
      rw [h1] at h2
      exact Option.some.inj h2
    subst ex
    refine ⟨_, rfl, wpAny_letOwnedTupleGo_enum (s := { s with heap := h', toks := tk + 1 }) ho fun h'' he' sb => ?_⟩
    have hT2 : h''.get? s.heap.objs.size = some { cls := .type "tuple", data := .seq #[.int i tk, x'] } := (sb.2 _ (Nat.ne_of_gt hel)).trans hT
    have new : ObjOk X.prog X.w (upd H s.heap.objs.size (.tup [.int (i : Nat), x])) h'' s.heap.objs.size (.tup [.int (i : Nat), x]) :=
      ⟨by show 2 ≤ sizeLine; decide, [.int i tk, x'], .cons ⟨_, rfl⟩ (.cons ru .nil), ⟨_, hT2, rfl, _, rfl⟩⟩
    have I1 : Inv X pins σ (upd H s.heap.objs.size (.tup [.int (i : Nat), x])) { s with heap := h'', toks := tk + 1 } :=
      I.turnedNew (ch := [e, it]) (fun b ob hb q => (sb.2 b (fun z => hb (by simp [z]))).trans (hk b ob (fun z => hb (by simp [z])) (fun z => hb (by simp [z])) q)) hf (Nat.le_refl _) new
    refine ⟨.ref s.heap.objs.size, _, I1, rfl, ⟨_, x, rfl, I.hok.fresh (Nat.le_refl _), rfl, fun ys hy => by rw [I.tuple_inj hy hq]; exact hx⟩, ⟨⟨x', ?_⟩, hst.1.at fun o q => (sb.2 it (Ne.symm hne)).trans q, hne, hai, hae⟩, fun b hb => ?_⟩
    · have e1 : ((i + 1 : Nat) : Int) = (i : Int) + 1 := by omega
      rw [e1]; exact he'
    · have hb' : b < s.heap.objs.size := by
        have e' : b = e ∨ b = it := by simpa using hb
        rcases e' with z | z
        · rw [z]; exact hel
        · rw [z]; exact hil
      rw [upd_ne (Nat.ne_of_lt hb')]
      exact (hf b hb).1
  done := by
    intro X hP hw hK hc i pins s σ H E I hf st hg
    subst hP hw hK
    obtain ⟨⟨old, he⟩, hit, hne, hai, hae⟩ := st
    obtain ⟨xs, hq, hx⟩ := hg
    obtain ⟨its, rv, p, hz⟩ := I.tuple hq
    obtain ⟨f0, f1, f2, f3, f4, f5⟩ := hf it (by simp)
    have hl := rv.length
    have hen : its.toArray[i]? = none := by simp; omega
    have hT : s.TypeIs (.ref e) "enumerate" := ⟨_, he, rfl⟩
    unfold pyNext
    refine wpAny_bind (wpAny_attempt (wpAny_callSpecial?_slot (name := Str.ofString "__next__") hT F.slot_enumerate_next
      (wpAny_call_entry F.slot_enumerate_next hT F.entry_enumerate_next ?_ (F.args_enumerate_next_1 _))))
    show wpAny _ _ (field (.ref e) 2 >>= _) _ _ _
    refine wpAny_bind (wpAny_field he rfl (x := .ref it) rfl ?_)
    refine wpAny_bind (wpAny_nextOf_tuple_end (show X.A.in1.handled = none from I.ok.hd hc) hit p hen fun h' x he' hx' => ?_)
    obtain ⟨o, ho, hco⟩ := hx'
    refine wpAny_bind (wpAny_isInstance (T := "StopIteration") (b := true) ⟨o, ho, hco⟩ isSubtype_stop ?_)
    exact wpAny_pure ⟨rfl, I.turned (t' := s.toks) (fun b o hb q => he' b o hb q) f0 f1 f3 f4 f5⟩
  self := fun A i s Q E st h => let ⟨⟨_, he⟩, _⟩ := st; wpAny_pyIter_enum he h
/-- enumerate of a list or of a tuple -/
def iEnumX (K : PySem.W.Frag) (ta : TA) : TI := fun σ H R => ta σ H fun vs H1 => (∃ a xs, vs = [.ref a] ∧ SqL K H1 a xs ∧ R (Ite K a) H1) ∨ ∃ a xs, vs = [.ref a] ∧ SqT K H1 a xs ∧ R (IteT K a) H1
theorem pi_enumX {X : Cx} {e : Expr} {ta : TA} {p pos tpos : Pos} {elts : List Expr} {kk : Nat} (hg : Gl X "enumerate") (hm : X.mg "enumerate" = none) (ha : PA X [e] ta) (hs : starEach [e] X.env = [(false, eval e X.env)] := by rfl) :
    PI X (.Tuple elts kk tpos) (.Call (.Name "enumerate" p) [e] [] pos) (iEnumX X.K ta) := by
  refine ⟨fun pins s σ H R I h => ?_⟩
  refine Call_ (ld_blt I hg hm boot_enumerate (PyProof.Rows.callWith_type1 (thn (ha.run pos pins s σ H _ I h) fun us s1 ⟨vs, H1, I1, r1, q1⟩ => ?_) hs rfl))
  have two : ∀ (b : Addr), b = s1.heap.objs.size + 1 ∨ b = s1.heap.objs.size → FpOk X pins H1 b := fun b e' => by
    have hle : s1.heap.objs.size ≤ b := by
      rcases e' with z | z
      · rw [z]; exact Nat.le_add_right _ _
      · rw [z]; exact Nat.le_refl _
    exact I1.fpOk hle (I1.hok.fresh hle)
  rcases q1 with ⟨a, xs, ex, hq, q⟩ | ⟨a, xs, ex, hq, q⟩
  · subst ex
    cases r1 with
    | cons r rr =>
      cases rr
      cases r
      obtain ⟨its, rv, p', hz⟩ := I1.list hq
      refine call_enumerate_list p'.isList fun h' he hit hsz hk => wpAny_pyIter_enum he ?_
      have I2 : Inv X pins σ H1 { s1 with heap := h' } := I1.kept (t' := s1.toks) hk
      exact ⟨s1.heap.objs.size + 1, [s1.heap.objs.size + 1, s1.heap.objs.size], _, _, H1, rfl, I2, turn_enum a (s1.heap.objs.size + 1) s1.heap.objs.size, ⟨⟨.none, he⟩, hit, Nat.succ_ne_self _⟩, fun b hb => two b (by simpa using hb), q⟩
  · subst ex
    cases r1 with
    | cons r rr =>
      cases rr
      cases r
      obtain ⟨its, rv, p', hz⟩ := I1.tuple hq
      have hal : a < s1.heap.objs.size := by obtain ⟨o, e, _⟩ := p'; exact Heap.lt_size e
      refine enum_call1 (begins_tuple a its.toArray) p' fun h' he hit hk => wpAny_pyIter_enum he ?_
      have I2 : Inv X pins σ H1 { s1 with heap := h' } := I1.kept (t' := s1.toks) hk
      exact ⟨s1.heap.objs.size + 1, [s1.heap.objs.size + 1, s1.heap.objs.size], _, _, H1, rfl, I2, turn_enumT a (s1.heap.objs.size + 1) s1.heap.objs.size, ⟨⟨.none, he⟩, ⟨_, hit, rfl, rfl⟩, Nat.succ_ne_self _, Nat.ne_of_lt hal, Nat.ne_of_lt (Nat.lt_succ_of_lt hal)⟩, fun b hb => two b (by simpa using hb), q⟩
section
variable {K : PySem.W.Frag} {c : Cn} {W W1 W2 W' : Wd} {H H1 H2 H' : Hp} {S S1 S2 S' : DS} {σ σ1 σ2 σ' : L2.St} {ρ ρ1 ρ2 ρ' : En} {E : XK}
theorem itr_enumT {a : Addr} {vs : List V} {ds : List D} (h : ∀ H, Ex W.H0 H → SqT K H a vs) (r : RepL K c W ds vs) : Itr2 K c W (IteT K a) (enumF 0 ds) where
  go := fun i H hi e => by
    rw [enumF_length, ← RepL.length r] at hi
    exact ⟨vs, vs[i], h H e, by simp [hi]⟩
  stop := fun H e => ⟨vs, h H e, by rw [enumF_length, RepL.length r]; exact Nat.le_refl _⟩
  yld := fun i H x H' d hd e y => by
    obtain ⟨d2, h1, rfl⟩ := enumF_get hd
    obtain ⟨T, x2, q1, q2, q3, q4⟩ := y
    exact .inr ⟨T, _, x2, _, _, q1, q2, q3, rfl, by rw [Nat.zero_add]; exact (rfl : Rep K c W (.int i) (.int i)), repL_get' r h1 (q4 vs (h H e))⟩
end
def itEnX (a : FE) : FI := fun ρ => bd (a ρ) fun d => match d with
  | .lst ds => rt (enumF 0 ds)
  | .tup ds => rt (enumF 0 ds)
  | .tpx ds => rt (enumF 0 ds)
  | _ => no
section
variable {X : Cx} {c : Cn} {E : XK} {a : Expr} {fa : FE} {pos : Pos}
theorem mi_enumX {p tpos : Pos} {elts : List Expr} {kk : Nat} (hg : Gl X "enumerate") (hm : X.mg "enumerate" = none) (ha : PE X a (tM X.K c E fa)) (hs : starEach [a] X.env = [(false, eval a X.env)] := by rfl) : PI X (.Tuple elts kk tpos) (.Call (.Name "enumerate" p) [a] [] pos) (tI X.K c E (itEnX fa)) := ⟨fun pins s σ H R I h => by
  obtain ⟨W, ρ, S, st, en, q⟩ := h
  refine (pi_enumX hg hm (pa_cons ha pa_nil (by rw [hs]; rfl)) hs).run pins s σ H R I ?_
  refine then_M (O := OutI X.K c W H E R) st en (fun _ _ _ z => z) (fun z => z) q fun d S1 W1 H1 v st1 k1 r1 q1 => ?_
  cases d <;> first | exact (show False from q1).elim | skip
  · obtain ⟨p, vs, rfl, h1, r⟩ := r1
    exact .inr ⟨p, vs, rfl, SqT.of (st1.sub _ _ h1), q1 W1 H1 _ st1 k1 (itr_enumT (fun H e => SqT.of (e _ _ h1)) r)⟩
  · obtain ⟨p, vs, o, rfl, h1, h2, r⟩ := r1
    exact .inr ⟨p, vs, rfl, IsX.sq ⟨o, st1.sub _ _ h1⟩, q1 W1 H1 _ st1 k1 (itr_enumT (fun H e => IsX.sq ⟨o, e _ _ h1⟩) r)⟩
  · obtain ⟨p, vs, rfl, h1, r⟩ := r1
    exact .inl ⟨p, vs, rfl, SqL.of (st1.sub _ _ h1), q1 W1 H1 _ st1 k1 (itr_enum h1 r)⟩⟩
theorem mi_enumX' {p tpos : Pos} {elts : List Expr} {kk : Nat} (hm : X.mg "enumerate" = none) (ha : PE X a (tM X.K c E fa)) (hg : X.env.kindOf "enumerate" = some .globalImplicit := by kernel_rfl) (hs : starEach [a] X.env = [(false, eval a X.env)] := by kernel_rfl) : PI X (.Tuple elts kk tpos) (.Call (.Name "enumerate" p) [a] [] pos) (tI X.K c E (itEnX fa)) := mi_enumX hg hm ha hs
end
end Mini
namespace Mini
open PySem PySem.Spec PyProof.Rows L2 Evl
/-! ### the second form of the word -/
def kinds4 (j : Nat) : List Bool := [decide (j = 0), decide (j = 1), decide (j = 2), decide (j = 3)]
theorem cnt4 (j : Nat) (hj : j < 4) : (kinds4 j).count true = 1 := four (P := fun j => (kinds4 j).count true = 1) j hj rfl rfl rfl rfl
theorem at4 (j : Nat) (hj : j < 4) : (kinds4 j)[j]? = some true := four (P := fun j => (kinds4 j)[j]? = some true) j hj rfl rfl rfl rfl
theorem bef4 (j : Nat) (hj : j < 4) : ∀ m : Nat, m < j → (kinds4 j)[m]? = some (!true) := four (P := fun j => ∀ m : Nat, m < j → (kinds4 j)[m]? = some (!true)) j hj (by decide) (by decide) (by decide) (by decide)
end Mini
namespace Mini
open PySem PySem.Spec PyProof.Rows L2 Evl
open PySem.W (alike dataLt AlikeAll)
/-! ### min, max of a list of alike data: the first of the least, of the greatest -/
def notN : PyData → Bool
  | .none => false
  | _ => true
def alikeB (xs : List PyData) : Bool := xs.all fun x => notN x && xs.all fun y => alike x y
theorem alikeB_all {xs : List PyData} (h : alikeB xs = true) : AlikeAll xs := by
  unfold alikeB at h
  rw [List.all_eq_true] at h
  refine ⟨fun x hx y hy => ?_, fun x hx e => ?_⟩
  · have q := h x hx
    rw [Bool.and_eq_true, List.all_eq_true] at q
    exact q.2 y hy
  · have q := h x hx
    subst e
    cases q
def bMin (xs : List PyData) (i j : Nat) : Bool := dataLt (xs.getD i .none) (xs.getD j .none)
def bMax (xs : List PyData) (i j : Nat) : Bool := dataLt (xs.getD j .none) (xs.getD i .none)
def rBest (K : PySem.W.Frag) (b : List PyData → Nat → Nat → Bool) : List V → Hp → VK → Prop := fun vs H Q => ∃ a xs ds, vs = [.ref a] ∧ SqL K H a xs ∧ Dp K H (.ref a) (.list ds) ∧ AlikeAll ds ∧ PyData.depthAll ds ≤ 63 ∧ 0 < ds.length ∧ ∀ v, xs[argBest (b ds) (ds.length - 1)]? = some v → Q v H
section
variable {X : Cx}
theorem cr_minA {k : Nat} (hr : Room k X.A) (hc : X.calm = true) : CallR X (.builtin "min") (rBest X.K bMin) := by
  intro pins s σ H vs us Q I r h
  obtain ⟨a, xs, ds, rfl, hs, hd, hal, hdep, hpos, q⟩ := h
  cases hd with
  | lst hs' ha =>
    have e := I.list_inj hs' hs
    subst e
    obtain ⟨its, rv, hl, _⟩ := I.list hs
    rw [Vals.ref1 r]
    obtain ⟨as, h4⟩ := Dp.readsAll I ds _ its ha rv
    have hr' : ReadsAll s.heap its.toArray.toList ds as := by simpa using h4
    have hn : its.toArray.size = ds.length := PySem.W.readsAll_len hr'
    have hu := Room.u64 hr
    refine call_min_walkH (PySem.W.iter_listW (A := X.A.in1) (show X.A.in1.handled = none from I.ok.hd hc) hl.isList fun s₂ e W st hfp hw hk => ?_)
    refine ⟨_, _, _, _, _, _, _, s.heap, _, rfl, W, st, hfp, by omega, hw, hk, PySem.W.cmpIn_lt (A := X.A.in1) hr' hal (by show X.A.units + 1 + _ < _; omega), fun v s' hP m => ?_⟩
    obtain ⟨h', tk, rfl, hk'⟩ := PySem.W.moved_old e rfl m
    rw [hn] at hP
    have hP' : its.toArray[argBest (bMin ds) (ds.length - 1)]? = some v := hP
    have hPl : its[argBest (bMin ds) (ds.length - 1)]? = some v := by simpa using hP'
    have hlt := (List.getElem?_eq_some_iff.mp hPl).1
    have hlen := rv.length
    have hy := List.getElem?_eq_getElem (l := _) (show argBest (bMin ds) (ds.length - 1) < _ from hlen ▸ hlt)
    obtain ⟨u, hu', ru⟩ := rv.get hy
    rw [hPl] at hu'
    cases hu'
    exact ⟨_, H, I.kept hk', ru, q _ hy⟩
theorem cr_maxA {k : Nat} (hr : Room k X.A) (hc : X.calm = true) : CallR X (.builtin "max") (rBest X.K bMax) := by
  intro pins s σ H vs us Q I r h
  obtain ⟨a, xs, ds, rfl, hs, hd, hal, hdep, hpos, q⟩ := h
  cases hd with
  | lst hs' ha =>
    have e := I.list_inj hs' hs
    subst e
    obtain ⟨its, rv, hl, _⟩ := I.list hs
    rw [Vals.ref1 r]
    obtain ⟨as, h4⟩ := Dp.readsAll I ds _ its ha rv
    have hr' : ReadsAll s.heap its.toArray.toList ds as := by simpa using h4
    have hn : its.toArray.size = ds.length := PySem.W.readsAll_len hr'
    have hu := Room.u64 hr
    refine call_max_walkH (PySem.W.iter_listW (A := X.A.in1) (show X.A.in1.handled = none from I.ok.hd hc) hl.isList fun s₂ e W st hfp hw hk => ?_)
    refine ⟨_, _, _, _, _, _, _, s.heap, _, rfl, W, st, hfp, by omega, hw, hk, PySem.W.cmpIn_gt (A := X.A.in1) hr' hal (by show X.A.units + 1 + _ < _; omega), fun v s' hP m => ?_⟩
    obtain ⟨h', tk, rfl, hk'⟩ := PySem.W.moved_old e rfl m
    rw [hn] at hP
    have hP' : its.toArray[argBest (bMax ds) (ds.length - 1)]? = some v := hP
    have hPl : its[argBest (bMax ds) (ds.length - 1)]? = some v := by simpa using hP'
    have hlt := (List.getElem?_eq_some_iff.mp hPl).1
    have hlen := rv.length
    have hy := List.getElem?_eq_getElem (l := _) (show argBest (bMax ds) (ds.length - 1) < _ from hlen ▸ hlt)
    obtain ⟨u, hu', ru⟩ := rv.get hy
    rw [hPl] at hu'
    cases hu'
    exact ⟨_, H, I.kept hk', ru, q _ hy⟩
end
def dBest (b : List PyData → Nat → Nat → Bool) (d : D) : Option D := (seqOf d).bind fun ds => if okEq d && (decide (PyData.depthAll (pyL ds) ≤ 63) && (alikeB (pyL ds) && decide (0 < ds.length))) then ds[argBest (b (pyL ds)) (ds.length - 1)]? else none
theorem pyL_len : ∀ ds : List D, (pyL ds).length = ds.length
  | [] => rfl
  | d :: ds => by
    show (pyL ds).length + 1 = _
    rw [pyL_len ds]
    rfl
theorem u_best {K : PySem.W.Frag} {c : Cn} (b : List PyData → Nat → Nat → Bool) : UnM K c (rBest K b) (dBest b) := fun {W H S d d' v} Q st a q k => by
  unfold dBest at q
  obtain ⟨ds, e1, q2⟩ := Option.bind_eq_some_iff.mp q
  have ed : d = .lst ds := by
    cases d <;> first | (cases e1; done) | skip
    cases e1
    rfl
  subst ed
  by_cases z : (okEq (.lst ds) && (decide (PyData.depthAll (pyL ds) ≤ 63) && (alikeB (pyL ds) && decide (0 < ds.length)))) = true
  · rw [if_pos z] at q2
    rw [Bool.and_eq_true, Bool.and_eq_true, Bool.and_eq_true, decide_eq_true_eq, decide_eq_true_eq] at z
    obtain ⟨z1, z2, z3, z4⟩ := z
    obtain ⟨p, vs, rfl, h1, r1⟩ := a.lst st
    obtain ⟨y1, _⟩ := okEq_shaped st a z1
    refine ⟨p, vs, pyL ds, rfl, SqL.of h1, by simpa only [D.py] using y1, alikeB_all z3, z2, by rw [pyL_len]; exact z4, fun v hv => ?_⟩
    rw [pyL_len] at hv
    exact k W H _ st (Keep.refl W H) (repL_get' r1 q2 hv)
  · rw [if_neg z] at q2
    cases q2
/-- numbers as before; other data by their order -/
def dMinX (d : D) : Option D := match dMin d with
  | some r => some r
  | none => dBest bMin d
def dMaxX (d : D) : Option D := match dMax d with
  | some r => some r
  | none => dBest bMax d
def rMinX (K : PySem.W.Frag) : R1 := fun vs H Q => rMin K vs H Q ∨ rBest K bMin vs H Q
def rMaxX (K : PySem.W.Frag) : R1 := fun vs H Q => rMax K vs H Q ∨ rBest K bMax vs H Q
theorem cr_minX {X : Cx} {k : Nat} (hr : Room k X.A) (hc : X.calm = true) : CallR X (.builtin "min") (rMinX X.K) := by
  intro pins s σ H vs us Q I r h
  rcases h with h | h
  · exact cr_min hc pins s σ H vs us Q I r h
  · exact cr_minA hr hc pins s σ H vs us Q I r h
theorem cr_maxX {X : Cx} {k : Nat} (hr : Room k X.A) (hc : X.calm = true) : CallR X (.builtin "max") (rMaxX X.K) := by
  intro pins s σ H vs us Q I r h
  rcases h with h | h
  · exact cr_max hc pins s σ H vs us Q I r h
  · exact cr_maxA hr hc pins s σ H vs us Q I r h
theorem u_minX {X : Cx} {c : Cn} : UnM X.K c (rMinX X.K) dMinX := fun {W H S d d' v} Q st a q k => by
  unfold dMinX at q
  split at q
  · rename_i r e
    cases q
    exact .inl (u_min (X := X) Q st a e k)
  · exact .inr (u_best bMin Q st a q k)
theorem u_maxX {X : Cx} {c : Cn} : UnM X.K c (rMaxX X.K) dMaxX := fun {W H S d d' v} Q st a q k => by
  unfold dMaxX at q
  split at q
  · rename_i r e
    cases q
    exact .inl (u_max (X := X) Q st a e k)
  · exact .inr (u_best bMax Q st a q k)
end Mini
namespace Mini
open PySem PySem.Spec PyProof.Rows L2 Evl
/-! ### zip(t, u), both tuples -/
def ItzT (K : PySem.W.Frag) (a b : Addr) : It :=
  ⟨fun i H => ∃ (xs ys : List V) (x y : V), SqT K H a xs ∧ SqT K H b ys ∧ xs[i]? = some x ∧ ys[i]? = some y,
    fun i H v H' => ∃ T x y, v = .ref T ∧ H T = none ∧ H' = upd H T (.tup [x, y]) ∧ (∀ xs, SqT K H a xs → xs[i]? = some x) ∧ ∀ ys, SqT K H b ys → ys[i]? = some y,
    fun i H => ∃ xs ys : List V, SqT K H a xs ∧ SqT K H b ys ∧ i ≤ xs.length ∧ i ≤ ys.length ∧ (xs.length = i ∨ ys.length = i)⟩
theorem turn_zipT {P : Program} {w : World} {K : PySem.W.Frag} {elts : List Expr} {kk : Nat} {tpos : Pos} {a b z TI TO i1 i2 : Addr} (D : ZipSep2 z TI TO i1 i2 [i1, a] [i2, b]) (n1 : a ≠ i1) (n2 : b ≠ i2) :
    Turn P w K (.Tuple elts kk tpos) (ItzT K a b) [z, TI, TO, i1, i2] z (fun i h => IsZip h z TI TO .none ∧ IsTupOf2 h TI (.ref i1) (.ref i2) ∧ (∃ x y, IsTupOf2 h TO x y) ∧ h.IsTupleIter i1 a i ∧ h.IsTupleIter i2 b i) where
  mem := by simp
  obj := fun i h st c hc => by
    obtain ⟨hz, hTI, ⟨x, y, hTO⟩, ⟨o1, e1, _, d1⟩, ⟨o2, e2, _, d2⟩⟩ := st
    have e' : c = z ∨ c = TI ∨ c = TO ∨ c = i1 ∨ c = i2 := by simpa using hc
    rcases e' with q | q | q | q | q
    · rw [q]; exact ⟨_, hz, fun v q => nomatch q⟩
    · rw [q]; exact ⟨_, hTI, fun v q => nomatch q⟩
    · rw [q]; exact ⟨_, hTO, fun v q => nomatch q⟩
    · rw [q]; exact ⟨o1, e1, fun v q => by rw [d1] at q; cases q⟩
    · rw [q]; exact ⟨o2, e2, fun v q => by rw [d2] at q; cases q⟩
  keep := fun i h h' st k => by
    obtain ⟨hz, hTI, ⟨x, y, hTO⟩, h1, h2⟩ := st
    exact ⟨k z (by simp) _ hz, k TI (by simp) _ hTI, ⟨x, y, k TO (by simp) _ hTO⟩, h1.at fun o q => k i1 (by simp) o q, h2.at fun o q => k i2 (by simp) o q⟩
  item := by
    intro X hP hw hK hc i pins s σ H E I hf st hg
    subst hP hw hK
    obtain ⟨hz, hTI, ⟨x0, y0, hTO⟩, h1, h2⟩ := st
    obtain ⟨xs, ys, x, y, hqx, hqy, hx, hy⟩ := hg
    obtain ⟨its, rv, p, _⟩ := I.tuple hqx
    obtain ⟨its2, rv2, p2, _⟩ := I.tuple hqy
    obtain ⟨u, hu, ru⟩ := rv.get hx
    obtain ⟨u2, hu2, ru2⟩ := rv2.get hy
    have hzl : z < s.heap.objs.size := Heap.lt_size hz
    have hh : X.A.in1.handled = none := I.ok.hd hc
    have l1 : i < its.toArray.size := by
      have := (List.getElem?_eq_some_iff.mp hu).1
      simpa using this
    have l2 : i < its2.toArray.size := by
      have := (List.getElem?_eq_some_iff.mp hu2).1
      simpa using this
    refine wpAny_pyNext_zipD2_item D (Draws.tuple hh i1 a n1 its.toArray) (Draws.tuple hh i2 b n2 its2.toArray) hz hTI hTO ⟨h1, p⟩ ⟨h2, p2⟩ l1 l2 fun v1 v2 h' tk hv1 hv2 z' TO' st1' st2' hT hsz hk => ?_
    have ev1 : v1 = u := by
      have q1 : its.toArray[i]? = some v1 := hv1
      have q2 : its.toArray[i]? = some u := by simpa using hu
      rw [q1] at q2
      exact Option.some.inj q2
    have ev2 : v2 = u2 := by
      have q1 : its2.toArray[i]? = some v2 := hv2
      have q2 : its2.toArray[i]? = some u2 := by simpa using hu2
      rw [q1] at q2
      exact Option.some.inj q2
    subst ev1 ev2
    have ai1 : i1 ≠ z := fun e => D.zf1 (by rw [← e]; simp)
    have ai2 : i2 ≠ z := fun e => D.zf2 (by rw [← e]; simp)
    refine ⟨_, rfl, wpAny_letOwnedTupleGo_zip (s := { s with heap := h', toks := tk }) z' fun h'' z'' sb => ?_⟩
    have hT2 : h''.get? s.heap.objs.size = some { cls := .type "tuple", data := .seq #[v1, v2] } := (sb.2 _ (Nat.ne_of_gt hzl)).trans hT
    have new : ObjOk X.prog X.w (upd H s.heap.objs.size (.tup [x, y])) h'' s.heap.objs.size (.tup [x, y]) :=
      ⟨by show 2 ≤ sizeLine; decide, [v1, v2], .cons ru (.cons ru2 .nil), ⟨_, hT2, rfl, _, rfl⟩⟩
    have I1 : Inv X pins σ (upd H s.heap.objs.size (.tup [x, y])) { s with heap := h'', toks := tk } :=
      I.turnedNew (t' := tk) (ch := [z, TI, TO, i1, i2]) (fun c o hb q => (sb.2 c (fun q' => hb (by simp [q']))).trans (hk c o (fun q' => hb (by simp [q'])) (fun q' => hb (by simp [q'])) (fun q' => hb (by simp [q'])) (fun q' => hb (by simp [q'])) q)) hf (Nat.le_refl _) new
    refine ⟨.ref s.heap.objs.size, _, I1, rfl, ⟨_, x, y, rfl, I.hok.fresh (Nat.le_refl _), rfl, fun l hl => by rw [I.tuple_inj hl hqx]; exact hx, fun l hl => by rw [I.tuple_inj hl hqy]; exact hy⟩, ⟨z'', ?_, ⟨v1, v2, ?_⟩, ?_, ?_⟩, fun c hcm => ?_⟩
    · exact (sb.2 _ D.TIz).trans (hk _ _ D.TIz D.TITO D.TIi1 D.TIi2 hTI)
    · exact (sb.2 _ D.TOz).trans TO'
    · exact st1'.1.at fun o q => (sb.2 _ ai1).trans q
    · exact st2'.1.at fun o q => (sb.2 _ ai2).trans q
    · have hlt : c < s.heap.objs.size := by
        have e' : c = z ∨ c = TI ∨ c = TO ∨ c = i1 ∨ c = i2 := by simpa using hcm
        rcases e' with q | q | q | q | q
        · rw [q]; exact hzl
        · rw [q]; exact Heap.lt_size hTI
        · rw [q]; exact Heap.lt_size hTO
        · rw [q]; obtain ⟨_, e1, _⟩ := h1; exact Heap.lt_size e1
        · rw [q]; obtain ⟨_, e2, _⟩ := h2; exact Heap.lt_size e2
      rw [upd_ne (Nat.ne_of_lt hlt)]
      exact (hf c hcm).1
  done := by
    intro X hP hw hK hc i pins s σ H E I hf st hg
    subst hP hw hK
    obtain ⟨hz, hTI, ⟨x0, y0, hTO⟩, h1, h2⟩ := st
    obtain ⟨xs, ys, hqx, hqy, b1, b2, hend⟩ := hg
    obtain ⟨its, rv, p, _⟩ := I.tuple hqx
    obtain ⟨its2, rv2, p2, _⟩ := I.tuple hqy
    have l1 := rv.length
    have l2 := rv2.length
    have hh : X.A.in1.handled = none := I.ok.hd hc
    have s1 : its.toArray.size = its.length := by simp
    have s2 : its2.toArray.size = its2.length := by simp
    refine wpAny_pyNext_zipD2_end D (Draws.tuple hh i1 a n1 its.toArray) (Draws.tuple hh i2 b n2 its2.toArray) hz hTI hTO (i := i) ⟨h1, p⟩ ⟨h2, p2⟩ (by omega) (by omega) (by omega) fun h' tk hk => ⟨rfl, I.turnedL (t' := tk) (ch := [z, TI, TO, i1, i2]) (fun c o hb q =>
      hk c o (fun q' => hb (by simp [q'])) (fun q' => hb (by simp [q'])) (fun q' => hb (by simp [q'])) (fun q' => hb (by simp [q'])) q) hf⟩
  self := fun A i s Q E st h => wpAny_pyIter_zip st.1 h
def iZipX (K : PySem.W.Frag) (ta : TA) : TI := fun σ H R => ta σ H fun vs H1 => (∃ a b xs ys, vs = [.ref a, .ref b] ∧ SqL K H1 a xs ∧ SqL K H1 b ys ∧ R (Itz K a b) H1) ∨ ∃ a b xs ys, vs = [.ref a, .ref b] ∧ SqT K H1 a xs ∧ SqT K H1 b ys ∧ R (ItzT K a b) H1
theorem pi_zipX {X : Cx} {e e2 : Expr} {ta : TA} {p pos tpos : Pos} {elts : List Expr} {kk : Nat} (hg : Gl X "zip") (hm : X.mg "zip" = none) (ha : PA X [e, e2] ta)
    (hs : starEach [e, e2] X.env = (false, eval e X.env) :: starEach [e2] X.env := by rfl) (hpl : (backTo pos (starEach [e2] X.env)).any (·.1) = false := by rfl) :
    PI X (.Tuple elts kk tpos) (.Call (.Name "zip" p) [e, e2] [] pos) (iZipX X.K ta) := by
  refine ⟨fun pins s σ H R I h => ?_⟩
  refine Call_ (ld_blt I hg hm PyProof.Rows.boot_zip (PyProof.Rows.callWith_type1 (thn (ha.run pos pins s σ H _ I h) fun us s1 ⟨vs, H1, I1, r1, q1⟩ => ?_) hs hpl))
  have five : ∀ c : Addr, c ∈ [s1.heap.objs.size + 4, s1.heap.objs.size + 2, s1.heap.objs.size + 3, s1.heap.objs.size, s1.heap.objs.size + 1] → FpOk X pins H1 c := fun c hcm => by
    have e' : c = s1.heap.objs.size + 4 ∨ c = s1.heap.objs.size + 2 ∨ c = s1.heap.objs.size + 3 ∨ c = s1.heap.objs.size ∨ c = s1.heap.objs.size + 1 := by simpa using hcm
    have hle : s1.heap.objs.size ≤ c := by
      rcases e' with z | z | z | z | z
      · rw [z]; exact Nat.le_add_right _ _
      · rw [z]; exact Nat.le_add_right _ _
      · rw [z]; exact Nat.le_add_right _ _
      · rw [z]; exact Nat.le_refl _
      · rw [z]; exact Nat.le_add_right _ _
    exact I1.fpOk hle (I1.hok.fresh hle)
  rcases q1 with ⟨a, b, xs, ys, ex, hqx, hqy, q⟩ | ⟨a, b, xs, ys, ex, hqx, hqy, q⟩
  · subst ex
    cases r1 with
    | cons r rr =>
      cases rr with
      | cons r' rr =>
        cases rr
        cases r
        cases r'
        obtain ⟨its, rv, p1, _⟩ := I1.list hqx
        obtain ⟨its2, rv2, p2, _⟩ := I1.list hqy
        have la : a < s1.heap.objs.size := p1.lt
        have lb : b < s1.heap.objs.size := p2.lt
        refine call_zip_2 p1.isList p2.isList fun h' hz hTI hTO h1 h2 hsz hk => wpAny_pyIter_zip hz ?_
        have I2 : Inv X pins σ H1 { s1 with heap := h' } := I1.kept (t' := s1.toks) hk
        exact ⟨s1.heap.objs.size + 4, [s1.heap.objs.size + 4, s1.heap.objs.size + 2, s1.heap.objs.size + 3, s1.heap.objs.size, s1.heap.objs.size + 1], _, _, H1, rfl, I2, turn_zip (PySem.W.ktu_apart s1.heap.objs.size a b la lb), ⟨hz, hTI, ⟨_, _, hTO⟩, h1, h2⟩, five, q⟩
  · subst ex
    cases r1 with
    | cons r rr =>
      cases rr with
      | cons r' rr =>
        cases rr
        cases r
        cases r'
        obtain ⟨its, rv, p1, _⟩ := I1.tuple hqx
        obtain ⟨its2, rv2, p2, _⟩ := I1.tuple hqy
        have la : a < s1.heap.objs.size := by obtain ⟨o, e, _⟩ := p1; exact Heap.lt_size e
        have lb : b < s1.heap.objs.size := by obtain ⟨o, e, _⟩ := p2; exact Heap.lt_size e
        refine zip_begins2 (begins_tuple a its.toArray) (begins_tuple b its2.toArray) p1 p2 fun h' hz hTI hTO g1 g2 hsz hk => wpAny_pyIter_zip hz ?_
        have I2 : Inv X pins σ H1 { s1 with heap := h' } := I1.kept (t' := s1.toks) hk
        exact ⟨s1.heap.objs.size + 4, [s1.heap.objs.size + 4, s1.heap.objs.size + 2, s1.heap.objs.size + 3, s1.heap.objs.size, s1.heap.objs.size + 1], _, _, H1, rfl, I2, turn_zipT (zip_sep2 (fp1 := [a]) (fp2 := [b]) (by simpa using la) (by simpa using lb)) (Nat.ne_of_lt la) (Nat.ne_of_lt (Nat.lt_succ_of_lt lb)), ⟨hz, hTI, ⟨_, _, hTO⟩, ⟨_, g1, rfl, rfl⟩, ⟨_, g2, rfl, rfl⟩⟩, five, q⟩
section
variable {K : PySem.W.Frag} {c : Cn} {W W1 W2 W' : Wd} {H H1 H2 H' : Hp} {S S1 S2 S' : DS} {σ σ1 σ2 σ' : L2.St} {ρ ρ1 ρ2 ρ' : En} {E : XK}
theorem zipD_len : ∀ ds es : List D, (zipD ds es).length = min ds.length es.length
  | [], es => by simp [zipD]
  | d :: ds, [] => by simp [zipD]
  | d :: ds, e :: es => by
    rw [zipD, List.length_cons, List.length_cons, List.length_cons, zipD_len ds es]
    omega
theorem itr_zipT {a b : Addr} {vs us : List V} {ds es : List D} (h1 : ∀ H, Ex W.H0 H → SqT K H a vs) (h2 : ∀ H, Ex W.H0 H → SqT K H b us) (r1 : RepL K c W ds vs) (r2 : RepL K c W es us) : Itr2 K c W (ItzT K a b) (zipD ds es) where
  go := fun i H hi e => by
    rw [zipD_len, ← RepL.length r1, ← RepL.length r2] at hi
    have l1 : i < vs.length := by omega
    have l2 : i < us.length := by omega
    exact ⟨vs, us, vs[i], us[i], h1 H e, h2 H e, by simp [l1], by simp [l2]⟩
  stop := fun H e => ⟨vs, us, h1 H e, h2 H e, by rw [zipD_len, RepL.length r1]; omega, by rw [zipD_len, RepL.length r2]; omega, by rw [zipD_len, RepL.length r1, RepL.length r2]; omega⟩
  yld := fun i H x H' d hd e y => by
    obtain ⟨d2, e2, g1, g2, rfl⟩ := zipD_get hd
    obtain ⟨T, x1, x2, q1, q2, q3, q4, q5⟩ := y
    exact .inr ⟨T, x1, x2, _, _, q1, q2, q3, rfl, repL_get' r1 g1 (q4 vs (h1 H e)), repL_get' r2 g2 (q5 us (h2 H e))⟩
end
def itZpX (a b : FE) : FI := fun ρ => bd (a ρ) fun d => bd (b ρ) fun e => match d, e with
  | .lst ds, .lst es => rt (zipD ds es)
  | .tup ds, .tup es => rt (zipD ds es)
  | _, _ => no
section
variable {X : Cx} {c : Cn} {E : XK} {a b : Expr} {fa fb : FE} {pos : Pos}
theorem mi_zipX {p tpos : Pos} {elts : List Expr} {kk : Nat} (hg : Gl X "zip") (hm : X.mg "zip" = none) (ha : PE X a (tM X.K c E fa)) (hb : PE X b (tM X.K c E fb)) (hs : starEach [a, b] X.env = (false, eval a X.env) :: starEach [b] X.env := by rfl) (hs2 : starEach [b] X.env = (false, eval b X.env) :: starEach [] X.env := by rfl)
    (hpl : (backTo pos (starEach [b] X.env)).any (·.1) = false := by rfl) : PI X (.Tuple elts kk tpos) (.Call (.Name "zip" p) [a, b] [] pos) (tI X.K c E (itZpX fa fb)) := ⟨fun pins s σ H R I h => by
  obtain ⟨W, ρ, S, st, en, q⟩ := h
  refine (pi_zipX hg hm (pa_cons ha (pa_cons hb pa_nil hs2) hs) hs hpl).run pins s σ H R I ?_
  refine then_M (O := OutI X.K c W H E R) st en (fun _ _ _ z => z) (fun z => z) q fun d S1 W1 H1 v st1 k1 r1 q1 => ?_
  refine then_M (O := OutI X.K c W H E R) st1 (en.ext k1) (fun _ _ _ z => ErQ.pre z k1 st1) (fun z => z) q1 fun d2 S2 W2 H2 u st2 k2 r2 q2 => ?_
  cases d <;> cases d2 <;> first | exact (show False from q2).elim | skip
  · obtain ⟨p, vs, rfl, h1, r⟩ := r1
    obtain ⟨p2, us, rfl, h2, r2⟩ := r2
    exact .inr ⟨p, p2, vs, us, rfl, SqT.of (st2.sub _ _ (k2.wex.1 _ _ h1)), SqT.of (st2.sub _ _ h2), q2 W2 H2 _ st2 (k1.tr st1 k2) (itr_zipT (fun H e => SqT.of (e _ _ (k2.wex.1 _ _ h1))) (fun H e => SqT.of (e _ _ h2)) (RepL.ext k2.wex _ _ r) r2)⟩
  · obtain ⟨p, vs, rfl, h1, r⟩ := r1
    obtain ⟨p2, us, rfl, h2, r2⟩ := r2
    exact .inl ⟨p, p2, vs, us, rfl, SqL.of (st2.sub _ _ (k2.wex.1 _ _ h1)), SqL.of (st2.sub _ _ h2), q2 W2 H2 _ st2 (k1.tr st1 k2) (itr_zip (k2.wex.1 _ _ h1) h2 (RepL.ext k2.wex _ _ r) r2)⟩⟩
theorem mi_zipX' {p tpos : Pos} {elts : List Expr} {kk : Nat} (hm : X.mg "zip" = none) (ha : PE X a (tM X.K c E fa)) (hb : PE X b (tM X.K c E fb)) (hg : X.env.kindOf "zip" = some .globalImplicit := by kernel_rfl) (hs : starEach [a, b] X.env = (false, eval a X.env) :: starEach [b] X.env := by kernel_rfl) (hs2 : starEach [b] X.env = (false, eval b X.env) :: starEach [] X.env := by kernel_rfl)
    (hpl : (backTo pos (starEach [b] X.env)).any (·.1) = false := by kernel_rfl) : PI X (.Tuple elts kk tpos) (.Call (.Name "zip" p) [a, b] [] pos) (tI X.K c E (itZpX fa fb)) := mi_zipX hg hm ha hb hs hs2 hpl
end
end Mini
namespace Mini
open PySem PySem.Spec PyProof.Rows L2 Evl
/-! ### slices of exact tuples, too -/
def dCutX (lo hi : Option Int) : D → Option D
  | .tpx ds => some (.tpx (cutG ds lo hi))
  | d => dCut lo hi d
def slcX (a : FE) (lo hi : FP) : FE := fun ρ => bd (a ρ) fun x => bd (lo ρ) fun l => bd (hi ρ) fun h => lift (dCutX l h x)
section
variable {X : Cx} {c : Cn} {E : XK} {e : Expr} {fa : FE} {fl fh : FP} {lo hi : Option Expr} {pos p2 : Pos}
theorem me_slcX (ha : PE X e (tB X.K c E fa)) (hl : PO X lo (tP X.K c E fl)) (hh : PO X hi (tP X.K c E fh)) : PE X (.Subscript e (.Slice lo hi none p2) pos) (tM X.K c E (slcX fa fl fh)) :=
  pe_imp (pe_slice (sl_tupX.or sl_all) ha hl hh) fun σ H Q h => by
    obtain ⟨W, ρ, S, st, en, q⟩ := tM_un h
    refine slc_run (O := fun W H Q r => OutM X.K c W H E Q r) st en (fun _ _ _ _ _ z => z) (fun _ _ z => z) (fun _ _ _ _ _ _ z k s => OutM.pre (Q' := Q) z k s) q fun W H S v d d' l h st r e' k => ?_
    cases d <;> first | (cases e'; done) | skip
    case str s =>
      cases e'
      obtain ⟨rfl, h1⟩ := r.str
      exact .inr (.inr (.inr ⟨s, rfl, line_le h1.1, k W H _ st (Keep.refl W H) ⟨rfl, sok_cut h1 l h⟩⟩))
    case tup ds =>
      cases e'
      obtain ⟨p, vs, rfl, h1, h1', r1⟩ := r.tup st
      refine .inr (.inr (.inl ⟨p, vs, rfl, SqT.of h1, fun hw => ?_, fun _ l' hn => ?_⟩))
      · have e2 : cutG ds l h = ds := by
          unfold cutG
          rw [← RepL.length r1, hw.1, hw.2, List.drop_zero, Nat.sub_zero, RepL.length r1, List.take_length]
        rw [e2] at k
        exact k W H _ st (Keep.refl W H) ⟨p, vs, rfl, h1', r1⟩
      · exact k _ _ _ (lay_st st hn) (lay_keep st hn) (new_tup st hn (repL_cut l h r1))
    case tpx ds =>
      cases e'
      obtain ⟨p, vs, rfl, h1, r1⟩ := r.tpx st
      refine .inl ⟨p, vs, rfl, h1, fun hw => ?_, newX_of st (repL_cut l h r1) k⟩
      have e2 : cutG ds l h = ds := by
        unfold cutG
        rw [← RepL.length r1, hw.1, hw.2, List.drop_zero, Nat.sub_zero, RepL.length r1, List.take_length]
      rw [e2] at k
      exact k W H _ st (Keep.refl W H) r.x
    case lst ds =>
      cases e'
      obtain ⟨p, vs, rfl, h1, r1⟩ := r.lst st
      exact .inr (.inl ⟨p, vs, rfl, SqL.of h1, fun l' hn => k _ _ _ (lay_st st hn) (lay_keep st hn) (new_lst st hn (repL_cut l h r1))⟩)
end
/-! ### exact tuple + tuple -/
def dAddT : D → D → Option D
  | .tpx a, .tup b => if b ≠ [] ∧ a.length + b.length ≤ 16777216 then some (if a = [] then .tup b else .tpx (a ++ b)) else none
  | d, e => dAddP d e
section
variable {X : Cx} {c : Cn}
theorem m_addT : OpM X.K c (rAddP X.K) dAddT := fun {W H S d e d' v u} Q st a b q k => by
  by_cases hx : (∃ ds, d = .tpx ds) ∧ ∃ es, e = .tup es
  · obtain ⟨⟨ds, rfl⟩, es, rfl⟩ := hx
    have q : (if es ≠ [] ∧ ds.length + es.length ≤ 16777216 then some (if ds = [] then D.tup es else .tpx (ds ++ es)) else none) = some d' := q
    split at q
    · rename_i hl
      cases q
      obtain ⟨p1, vs, rfl, h1, r1⟩ := a.tpx st
      obtain ⟨p2, us, rfl, h2, h2', r2⟩ := b.tup st
      by_cases hd : ds = []
      · subst hd
        rw [if_pos rfl] at k
        have hv : vs = [] := (repL_isNil r1).mpr rfl
        subst hv
        exact .inr (.inr (.inr (.inl ⟨p1, p2, [], us, rfl, rfl, h1, SqT.of h2, line_le (by have := hl.2; rw [RepL.length r2]; simpa using this), fun _ => k W H _ st (Keep.refl W H) ⟨p2, us, rfl, h2', r2⟩, fun z => absurd rfl z, fun z => absurd rfl z⟩)))
      · rw [if_neg hd] at k
        have hv : vs ≠ [] := fun z => hd ((repL_isNil r1).mp z)
        refine .inl ⟨p1, p2, vs, us, rfl, rfl, h1, SqT.of h2, line_le (by rw [RepL.length r1, RepL.length r2]; exact hl.2), fun z => absurd z hv, fun _ z => absurd ((repL_isNil r2).mp z) hl.1, newX_of st (repL_append r1 r2) k⟩
    · cases q
  · refine m_addP (X := X) Q st a b ?_ k
    cases d <;> cases e <;> first | exact q | exact absurd ⟨⟨_, rfl⟩, _, rfl⟩ hx
end
/-! ### min of a tuple of alike data -/
def rBestT (K : PySem.W.Frag) (b : List PyData → Nat → Nat → Bool) : List V → Hp → VK → Prop := fun vs H Q => ∃ a xs ds, vs = [.ref a] ∧ SqT K H a xs ∧ Dp K H (.ref a) (.tuple ds) ∧ PySem.W.AlikeAll ds ∧ PyData.depthAll ds ≤ 63 ∧ 0 < ds.length ∧ ∀ v, xs[argBest (b ds) (ds.length - 1)]? = some v → Q v H
section
variable {X : Cx}
theorem cr_minT {k : Nat} (hr : Room k X.A) (hc : X.calm = true) : CallR X (.builtin "min") (rBestT X.K bMin) := by
  intro pins s σ H vs us Q I r h
  obtain ⟨a, xs, ds, rfl, hs, hd, hal, hdep, hpos, q⟩ := h
  cases hd with
  | tup hs' ha =>
    have e := I.tuple_inj hs' hs
    subst e
    obtain ⟨its, rv, hl, _⟩ := I.tuple hs
    rw [Vals.ref1 r]
    obtain ⟨as, h4⟩ := Dp.readsAll I ds _ its ha rv
    have hr' : ReadsAll s.heap its.toArray.toList ds as := by simpa using h4
    have hn : its.toArray.size = ds.length := PySem.W.readsAll_len hr'
    have hu := Room.u64 hr
    refine call_min_walkH (PySem.W.iter_tupleW (A := X.A.in1) (show X.A.in1.handled = none from I.ok.hd hc) hl fun s₂ e W st hfp hw hk => ?_)
    refine ⟨_, _, _, _, _, _, _, s.heap, _, rfl, W, st, hfp, by omega, hw, hk, PySem.W.cmpIn_lt (A := X.A.in1) hr' hal (by show X.A.units + 1 + _ < _; omega), fun v s' hP m => ?_⟩
    obtain ⟨h', tk, rfl, hk'⟩ := PySem.W.moved_old e rfl m
    rw [hn] at hP
    have hP' : its.toArray[argBest (bMin ds) (ds.length - 1)]? = some v := hP
    have hPl : its[argBest (bMin ds) (ds.length - 1)]? = some v := by simpa using hP'
    have hlt := (List.getElem?_eq_some_iff.mp hPl).1
    have hlen := rv.length
    have hy := List.getElem?_eq_getElem (l := _) (show argBest (bMin ds) (ds.length - 1) < _ from hlen ▸ hlt)
    obtain ⟨u, hu', ru⟩ := rv.get hy
    rw [hPl] at hu'
    cases hu'
    exact ⟨_, H, I.kept hk', ru, q _ hy⟩
end
def dBestT (b : List PyData → Nat → Nat → Bool) : D → Option D
  | .tup ds => if okEq (.tup ds) && (decide (PyData.depthAll (pyL ds) ≤ 63) && (alikeB (pyL ds) && decide (0 < ds.length))) then ds[argBest (b (pyL ds)) (ds.length - 1)]? else none
  | _ => none
theorem u_bestT {K : PySem.W.Frag} {c : Cn} (b : List PyData → Nat → Nat → Bool) : UnM K c (rBestT K b) (dBestT b) := fun {W H S d d' v} Q st a q k => by
  cases d <;> first | (cases q; done) | skip
  rename_i ds
  have q2 : (if okEq (.tup ds) && (decide (PyData.depthAll (pyL ds) ≤ 63) && (alikeB (pyL ds) && decide (0 < ds.length))) then ds[argBest (b (pyL ds)) (ds.length - 1)]? else none) = some d' := q
  by_cases z : (okEq (.tup ds) && (decide (PyData.depthAll (pyL ds) ≤ 63) && (alikeB (pyL ds) && decide (0 < ds.length)))) = true
  · rw [if_pos z] at q2
    rw [Bool.and_eq_true, Bool.and_eq_true, Bool.and_eq_true, decide_eq_true_eq, decide_eq_true_eq] at z
    obtain ⟨z1, z2, z3, z4⟩ := z
    obtain ⟨p, vs, rfl, h1, h1', r1⟩ := a.tup st
    obtain ⟨y1, _⟩ := okEq_shaped st a z1
    refine ⟨p, vs, pyL ds, rfl, SqT.of h1, by simpa only [D.py] using y1, alikeB_all z3, z2, by rw [pyL_len]; exact z4, fun v hv => ?_⟩
    rw [pyL_len] at hv
    exact k W H _ st (Keep.refl W H) (repL_get' r1 q2 hv)
  · rw [if_neg z] at q2
    cases q2
def dMinY (d : D) : Option D := match d with
  | .tup ds => dBestT bMin (.tup ds)
  | d => dMinX d
def rMinY (K : PySem.W.Frag) : R1 := fun vs H Q => rBestT K bMin vs H Q ∨ rMinX K vs H Q
theorem cr_minY {X : Cx} {k : Nat} (hr : Room k X.A) (hc : X.calm = true) : CallR X (.builtin "min") (rMinY X.K) := by
  intro pins s σ H vs us Q I r h
  rcases h with h | h
  · exact cr_minT hr hc pins s σ H vs us Q I r h
  · exact cr_minX hr hc pins s σ H vs us Q I r h
theorem u_minY {X : Cx} {c : Cn} : UnM X.K c (rMinY X.K) dMinY := fun {W H S d d' v} Q st a q k => by
  by_cases h : ∃ ds, d = .tup ds
  · obtain ⟨ds, rfl⟩ := h
    exact .inl (u_bestT bMin Q st a q k)
  · refine .inr (u_minX (X := X) Q st a ?_ k)
    cases d <;> first | exact q | exact absurd ⟨_, rfl⟩ h
end Mini
namespace Mini
open PySem
open L2 (atI ixN atI_nat kitB)
open L2 (Key)
theorem while_go {t : FB} {b : FS} {w : Nat} {ρ ρ' : En} {S S1 S2 : DS} (h1 : t ρ S = .ok true S1) (h2 : b ρ S1 = .ok (.nx ρ') S2) : whileS t b (w + 1) ρ S = whileS t b w ρ' S2 := by
  simp only [whileS, bd, h1, h2, if_true]
theorem while_end {t : FB} {b : FS} {w : Nat} {ρ : En} {S S1 : DS} (h1 : t ρ S = .ok false S1) : whileS t b (w + 1) ρ S = .ok (.nx ρ) S1 := by
  simp only [whileS, bd, h1, Bool.false_eq_true, if_false, rt]
theorem for_of {it : FI} {t : TGd} {b : FS} {ρ : En} {S S1 : DS} {ds : List D} (h : it ρ S = .ok ds S1) : forS it t b ρ S = forL t b ds ρ S1 := by
  simp only [forS, bd, h]
theorem seq_nx {a b : FS} {ρ ρ' : En} {S S' : DS} (h : a ρ S = .ok (.nx ρ') S') : seqS a b ρ S = b ρ' S' := by
  simp only [seqS, bd, h]
theorem lc_of {it : FI} {t : TGd} {test : FB} {elt : FE} {vs : List Nat} {ρ : En} {S S1 S2 : DS} {ds r : List D} (h1 : it ρ S = .ok ds S1) (h2 : lcL t test elt ds [] (wipeR ρ vs) S1 = .ok r S2) : lcE it t test elt vs ρ S = .ok (.lst r) S2 := by
  unfold lcE bd
  rw [h1]
  show bd (lcL t test elt ds [] (wipeR ρ vs)) (fun r => rt (D.lst r)) S1 = _
  unfold bd
  rw [h2]
  rfl
theorem asg_of {i : Nat} {f : FE} {ρ : En} {S S' : DS} {d : D} (h : f ρ S = .ok d S') : asgS i f ρ S = .ok (.nx (setV i d ρ)) S' := by
  unfold asgS bd
  rw [h]
  rfl
theorem asgO_of {i : Nat} {f : FE} {ρ : En} {S S' : DS} {d : D} (h : f ρ S = .ok d S') : asgOS i f ρ S = .ok (.nx (setO i d ρ)) S' := by
  unfold asgOS bd
  rw [h]
  rfl
theorem ret_of {f : FE} {ρ : En} {S S' : DS} {d : D} (h : f ρ S = .ok d S') : retS f ρ S = .ok (.rt d) S' := by
  unfold retS bd
  rw [h]
  rfl
theorem app_of {i : Nat} {f : FE} {ρ : En} {S S' : DS} {d : D} {ds : List D} (h0 : ownL ρ i = some ds) (h : f ρ S = .ok d S') (hl : ds.length < 16777216) : appS i f ρ S = .ok (.nx (setO i (.lst (ds ++ [d])) ρ)) S' := by
  unfold appS bd
  rw [h0]
  simp only [lift, rt, h]
  rw [if_pos hl]
  rfl
theorem ext_of {i : Nat} {f : FE} {ρ : En} {S S' : DS} {es ds : List D} (h0 : ownL ρ i = some ds) (h : f ρ S = .ok (.lst es) S') (hl : ds.length + es.length ≤ 16777216) : extS i f ρ S = .ok (.nx (setO i (.lst (ds ++ es)) ρ)) S' := by
  unfold extS bd
  rw [h0]
  simp only [lift, rt, h]
  exact congrFun (if_pos hl) S'
theorem expr_of {f : FE} {ρ : En} {S S' : DS} {d : D} (h : f ρ S = .ok d S') : exprS f ρ S = .ok (.nx ρ) S' := by
  unfold exprS bd
  rw [h]
  rfl
theorem op1_of {g : D → Option D} {f : FE} {ρ : En} {S S' : DS} {d e : D} (h : f ρ S = .ok d S') (hg : g d = some e) : op1 g f ρ S = .ok e S' := by
  unfold op1 bd
  rw [h]
  show lift (g d) S' = _
  rw [hg]
  rfl
theorem op2_of {g : D → D → Option D} {f1 f2 : FE} {ρ : En} {S S1 S2 : DS} {d1 d2 e : D} (h1 : f1 ρ S = .ok d1 S1) (h2 : f2 ρ S1 = .ok d2 S2) (hg : g d1 d2 = some e) : op2 g f1 f2 ρ S = .ok e S2 := by
  unfold op2 bd
  rw [h1]
  show bd (f2 ρ) (fun y => lift (g d1 y)) S1 = _
  unfold bd
  rw [h2]
  show lift (g d1 d2) S2 = _
  rw [hg]
  rfl
theorem call1_of {F : List D → M D} {f : FE} {ρ : En} {S S1 S2 : DS} {d e : D} (h : f ρ S = .ok d S1) (hF : F [d] S1 = .ok e S2) : callE F (consA f nilA) ρ S = .ok e S2 := by
  simp only [callE, consA, nilA, bd, rt, h, hF]
theorem call2_of {F : List D → M D} {f g : FE} {ρ : En} {S S1 S2 S3 : DS} {d d2 e : D} (h : f ρ S = .ok d S1) (h2 : g ρ S1 = .ok d2 S2) (hF : F [d, d2] S2 = .ok e S3) : callE F (consA f (consA g nilA)) ρ S = .ok e S3 := by
  simp only [callE, consA, nilA, bd, rt, h, h2, hF]
theorem call3_of {F : List D → M D} {f g k : FE} {ρ : En} {S S1 S2 S3 S4 : DS} {d d2 d3 e : D} (h : f ρ S = .ok d S1) (h2 : g ρ S1 = .ok d2 S2) (h3 : k ρ S2 = .ok d3 S3) (hF : F [d, d2, d3] S3 = .ok e S4) : callE F (consA f (consA g (consA k nilA))) ρ S = .ok e S4 := by
  simp only [callE, consA, nilA, bd, rt, h, h2, h3, hF]
theorem call4_of {F : List D → M D} {f g k l : FE} {ρ : En} {S S1 S2 S3 S4 S5 : DS} {d d2 d3 d4 e : D} (h : f ρ S = .ok d S1) (h2 : g ρ S1 = .ok d2 S2) (h3 : k ρ S2 = .ok d3 S3) (h4 : l ρ S3 = .ok d4 S4) (hF : F [d, d2, d3, d4] S4 = .ok e S5) : callE F (consA f (consA g (consA k (consA l nilA)))) ρ S = .ok e S5 := by
  simp only [callE, consA, nilA, bd, rt, h, h2, h3, h4, hF]
theorem callD1_of {F : List D → M D} {f : FE} {ρ : En} {S S1 S2 : DS} {d x e : D} (h : f ρ S = .ok d S1) (hF : F [d, x] S1 = .ok e S2) : callE F (appA (consA f nilA) [x]) ρ S = .ok e S2 := by
  simp only [callE, appA, consA, nilA, bd, rt, h, List.cons_append, List.nil_append, hF]
theorem cons_of {f : FE} {r : FA} {ρ : En} {S S1 S2 : DS} {d : D} {ds : List D} (h1 : f ρ S = .ok d S1) (h2 : r ρ S1 = .ok ds S2) : consA f r ρ S = .ok (d :: ds) S2 := by
  simp only [consA, bd, rt, h1, h2]
theorem nil_of {ρ : En} {S : DS} : nilA ρ S = .ok [] S := rfl
theorem lstE_of {a : FA} {ρ : En} {S S1 : DS} {ds : List D} (h : a ρ S = .ok ds S1) (hl : ds.length ≤ 16777216) : lstE a ρ S = .ok (.lst ds) S1 := by
  unfold lstE bd
  rw [h]
  simp only []
  rw [if_pos hl]
  rfl
theorem tupE_of {a : FA} {ρ : En} {S S1 : DS} {ds : List D} (h : a ρ S = .ok ds S1) (hl : ds.length ≤ 16777216) : tupE a ρ S = .ok (.tup ds) S1 := by
  unfold tupE bd
  rw [h]
  simp only []
  rw [if_pos hl]
  rfl
theorem lst0 {ρ : En} {S : DS} : lstE nilA ρ S = .ok (.lst []) S := lstE_of nil_of (Nat.zero_le _)
theorem lst1 {f : FE} {ρ : En} {S S1 : DS} {d : D} (h : f ρ S = .ok d S1) : lstE (consA f nilA) ρ S = .ok (.lst [d]) S1 := lstE_of (cons_of h nil_of) (by show 1 ≤ 16777216; decide)
theorem lst2 {f g : FE} {ρ : En} {S S1 S2 : DS} {d e : D} (h : f ρ S = .ok d S1) (h2 : g ρ S1 = .ok e S2) : lstE (consA f (consA g nilA)) ρ S = .ok (.lst [d, e]) S2 := lstE_of (cons_of h (cons_of h2 nil_of)) (by show 2 ≤ 16777216; decide)
theorem lst3 {f g k : FE} {ρ : En} {S S1 S2 S3 : DS} {d e i : D} (h : f ρ S = .ok d S1) (h2 : g ρ S1 = .ok e S2) (h3 : k ρ S2 = .ok i S3) : lstE (consA f (consA g (consA k nilA))) ρ S = .ok (.lst [d, e, i]) S3 := lstE_of (cons_of h (cons_of h2 (cons_of h3 nil_of))) (by show 3 ≤ 16777216; decide)
theorem lst4 {f g k l : FE} {ρ : En} {S S1 S2 S3 S4 : DS} {d e i j : D} (h : f ρ S = .ok d S1) (h2 : g ρ S1 = .ok e S2) (h3 : k ρ S2 = .ok i S3) (h4 : l ρ S3 = .ok j S4) : lstE (consA f (consA g (consA k (consA l nilA)))) ρ S = .ok (.lst [d, e, i, j]) S4 := lstE_of (cons_of h (cons_of h2 (cons_of h3 (cons_of h4 nil_of)))) (by show 4 ≤ 16777216; decide)
theorem lst5 {f g k l m : FE} {ρ : En} {S S1 S2 S3 S4 S5 : DS} {d e i j o : D} (h : f ρ S = .ok d S1) (h2 : g ρ S1 = .ok e S2) (h3 : k ρ S2 = .ok i S3) (h4 : l ρ S3 = .ok j S4) (h5 : m ρ S4 = .ok o S5) : lstE (consA f (consA g (consA k (consA l (consA m nilA))))) ρ S = .ok (.lst [d, e, i, j, o]) S5 := lstE_of (cons_of h (cons_of h2 (cons_of h3 (cons_of h4 (cons_of h5 nil_of))))) (by show 5 ≤ 16777216; decide)
theorem lst6 {f g k l m n : FE} {ρ : En} {S S1 S2 S3 S4 S5 S6 : DS} {d e i j o q : D} (h : f ρ S = .ok d S1) (h2 : g ρ S1 = .ok e S2) (h3 : k ρ S2 = .ok i S3) (h4 : l ρ S3 = .ok j S4) (h5 : m ρ S4 = .ok o S5) (h6 : n ρ S5 = .ok q S6) : lstE (consA f (consA g (consA k (consA l (consA m (consA n nilA)))))) ρ S = .ok (.lst [d, e, i, j, o, q]) S6 := lstE_of (cons_of h (cons_of h2 (cons_of h3 (cons_of h4 (cons_of h5 (cons_of h6 nil_of)))))) (by show 6 ≤ 16777216; decide)
theorem tup1 {f : FE} {ρ : En} {S S1 : DS} {d : D} (h : f ρ S = .ok d S1) : tupE (consA f nilA) ρ S = .ok (.tup [d]) S1 := tupE_of (cons_of h nil_of) (by show 1 ≤ 16777216; decide)
theorem tup2 {f g : FE} {ρ : En} {S S1 S2 : DS} {d e : D} (h : f ρ S = .ok d S1) (h2 : g ρ S1 = .ok e S2) : tupE (consA f (consA g nilA)) ρ S = .ok (.tup [d, e]) S2 := tupE_of (cons_of h (cons_of h2 nil_of)) (by show 2 ≤ 16777216; decide)
theorem tup3 {f g k : FE} {ρ : En} {S S1 S2 S3 : DS} {d e i : D} (h : f ρ S = .ok d S1) (h2 : g ρ S1 = .ok e S2) (h3 : k ρ S2 = .ok i S3) : tupE (consA f (consA g (consA k nilA))) ρ S = .ok (.tup [d, e, i]) S3 := tupE_of (cons_of h (cons_of h2 (cons_of h3 nil_of))) (by show 3 ≤ 16777216; decide)
theorem asgT_of {t : TGd} {f : FE} {ρ ρ' : En} {S S' : DS} {d : D} (h : f ρ S = .ok d S') (ht : t d ρ = some ρ') : asgT t f ρ S = .ok (.nx ρ') S' := by
  unfold asgT bd
  rw [h]
  show bd (lift (t d ρ)) (fun ρ' => rt (Fl.nx ρ')) S' = _
  rw [ht]
  rfl
theorem if_t {t : FB} {a b : FS} {ρ : En} {S S1 : DS} (h : t ρ S = .ok true S1) : ifS t a b ρ S = a ρ S1 := by
  unfold ifS bd
  rw [h]
  rfl
theorem if_f {t : FB} {a b : FS} {ρ : En} {S S1 : DS} (h : t ρ S = .ok false S1) : ifS t a b ρ S = b ρ S1 := by
  unfold ifS bd
  rw [h]
  rfl
theorem body_rt {b : FS} {ρ : En} {S S' : DS} {d : D} (h : b ρ S = .ok (.rt d) S') : bd (b ρ) leave S = .ok d S' := by
  unfold bd
  rw [h]
  rfl
theorem body_nx {b : FS} {ρ ρ' : En} {S S' : DS} (h : b ρ S = .ok (.nx ρ') S') : bd (b ρ) leave S = .ok .non S' := by
  unfold bd
  rw [h]
  rfl
theorem mulL {xs : List D} {n : Nat} (h : xs.length * n ≤ 16777216) (hn : n < 16777216) : dMulX (.lst xs) (.int (n : Int)) = some (.lst (List.replicate n xs).flatten) := by
  show (if (n : Int) < 16777216 ∧ -16777216 < (n : Int) ∧ xs.length * (n : Int).toNat ≤ 16777216 then some (D.lst (List.replicate (n : Int).toNat xs).flatten) else none) = _
  rw [Int.toNat_natCast, if_pos ⟨by omega, by omega, h⟩]
theorem catL {a b : List D} (h : a.length + b.length ≤ 16777216) : dAdd (.lst a) (.lst b) = some (.lst (a ++ b)) := if_pos h
/-! ## what each def gives -/
theorem kit_int_int : kitB "int" "int" = some true := by decide +kernel
theorem kit_int_bool : kitB "int" "bool" = some false := by decide +kernel
theorem kit_tup_tup : kitB "tuple" "tuple" = some true := by decide +kernel
theorem big_nat {n : Nat} (h : n < Big) : ((n : Nat) : Int).natAbs < Big := by simpa using h
theorem big62_nat {n : Nat} (h : n ≤ 1000) : big62 ((n : Nat) : Int) = true := by
  unfold big62
  exact decide_eq_true ⟨by omega, by omega⟩
theorem rng_nat {a : FE} {ρ : En} {S S1 : DS} {n : Nat} (hn : n ≤ 1000) (h : a ρ S = .ok (.int (n : Int)) S1) : itR1 a ρ S = .ok (rngD 0 n) S1 := by
  unfold itR1 bd
  rw [h]
  show (if big62 (n : Int) = true then rt (rngD 0 (n : Int).toNat) else no) S1 = _
  rw [if_pos (big62_nat hn), Int.toNat_natCast]
  rfl
theorem par_of {i j : Nat} {f g : FE} {ρ : En} {S S1 S2 : DS} {d e : D} (h1 : f ρ S = .ok d S1) (h2 : g ρ S1 = .ok e S2) : parS i j f g ρ S = .ok (.nx (setV j e (setV i d ρ))) S2 := by
  simp only [parS, bd, h1, h2, rt]
theorem or_t {a b : FB} {ρ : En} {S S1 : DS} (h : a ρ S = .ok true S1) : orB a b ρ S = .ok true S1 := by
  simp only [orB, bd, h, rt, if_true]
theorem or_f {a b : FB} {ρ : En} {S S1 : DS} (h : a ρ S = .ok false S1) : orB a b ρ S = b ρ S1 := by
  simp only [orB, bd, h, Bool.false_eq_true, if_false]
theorem val_of {f : FE} {ρ : En} {S S1 : DS} {k : Bool} (h : f ρ S = .ok (.bl k) S1) : valB f ρ S = .ok k S1 := by
  simp only [valB, bd, h, isBl, lift, rt]
theorem tru_ofE {f : FE} {ρ : En} {S S1 : DS} {d : D} {k : Bool} (h : f ρ S = .ok d S1) (ht : truth d = some k) : truB f ρ S = .ok k S1 := by
  simp only [truB, bd, h, ht, lift, rt]
theorem not_of {t : FB} {ρ : En} {S S1 : DS} {k : Bool} (h : t ρ S = .ok k S1) : notB t ρ S = .ok (!k) S1 := by
  simp only [notB, bd, h, rt]
theorem frz_vl {i : Nat} {b : FS} {ρ : En} {S : DS} {d : D} (h : ρ[i]? = some (.vl d)) : frzS i b ρ S = b ρ S := by
  unfold frzS
  rw [h]
theorem frz_ow {i : Nat} {b : FS} {ρ : En} {S : DS} {d : D} (h : ρ[i]? = some (.ow d)) : frzS i b ρ S = b (setV i d ρ) S := by
  unfold frzS
  rw [h]
theorem nat3 {a b c lo hi : Nat} {y : D} (h : y ∈ [D.int (a : Int), .int (b : Int), .int (c : Int)]) (ha : lo ≤ a ∧ a ≤ hi) (hb : lo ≤ b ∧ b ≤ hi) (hc : lo ≤ c ∧ c ≤ hi) : ∃ n : Nat, y = .int (n : Int) ∧ lo ≤ n ∧ n ≤ hi := by
  simp only [List.mem_cons, List.not_mem_nil, or_false] at h
  rcases h with rfl | rfl | rfl
  · exact ⟨a, rfl, ha⟩
  · exact ⟨b, rfl, hb⟩
  · exact ⟨c, rfl, hc⟩
theorem nat2 {a b lo hi : Nat} {y : D} (h : y ∈ [D.int (a : Int), .int (b : Int)]) (ha : lo ≤ a ∧ a ≤ hi) (hb : lo ≤ b ∧ b ≤ hi) : ∃ n : Nat, y = .int (n : Int) ∧ lo ≤ n ∧ n ≤ hi := by
  simp only [List.mem_cons, List.not_mem_nil, or_false] at h
  rcases h with rfl | rfl
  · exact ⟨a, rfl, ha⟩
  · exact ⟨b, rfl, hb⟩
theorem one_add (r : Nat) : dAdd (.int 1) (.int (r : Int)) = some (.int ((1 + r : Nat) : Int)) := (addI _ _).trans (by rw [Int.natCast_add]; rfl)
theorem add_one' (r : Nat) : dAdd (.int (r : Int)) (.int 1) = some (.int ((r + 1 : Nat) : Int)) := (addI _ _).trans (by rw [Int.natCast_add]; rfl)
theorem drawN {S : DS} (v : Vs S) {n : Nat} (h : 0 < n) (hb : n < 2 ^ 63) : ∃ (r : Nat) (S' : DS), fnD 2 3 drawB [.st, .int (n : Int)] S = .ok (.int (r : Int)) S' ∧ r < n ∧ Vs S' := by
  obtain ⟨r, S', e, h1, h2, v'⟩ := draw_ok v (n := (n : Int)) (by omega) (by omega)
  obtain ⟨k, rfl⟩ := Int.eq_ofNat_of_zero_le h1
  exact ⟨k, S', e, by omega, v'⟩
end Mini
namespace Mini
open PySem
open L2 (atI ixN atI_nat kitB Key)
theorem q_loop (S : DS) (u d : D) : ∀ (w a b : Nat), b < w → whileS (truB (var 3)) (parS 2 3 (var 3) (op2 dMod (var 2) (var 3))) w [.vl u, .vl d, .vl (.int (a : Int)), .vl (.int (b : Int))] S = .ok (.nx [.vl u, .vl d, .vl (.int (Nat.gcd a b : Nat)), .vl (.int 0)]) S
  | 0, a, b, h => by omega
  | w + 1, a, b, h => by
    by_cases hb : b = 0
    · subst hb
      rw [while_end (S1 := S) (by simp [bd, lift, rt, var, varB, slot, slotB, truB, valB, isBl, truth, cst, op1, op2, parS, asgS, asgOS, asgT, seqS, retS, retNS, ifS, iteE, notB, notE, andB, orB, andE, orE, exprS, setV, setO, tgN, tgT, tgs, consA, nilA, leave, callE, frzS, augS, skipS, addI, subI, addI', appA, chn2, chn3, cmpB, dLe, dLt, dGe, dGt]), Nat.gcd_zero_right]
      rfl
    · have e := q_loop S u d w b (a % b) (by have := Nat.mod_lt a (Nat.pos_of_ne_zero hb); omega)
      have h1 : (0 : Int) < b := by omega
      rw [while_go (S1 := S) (S2 := S) (ρ' := [.vl u, .vl d, .vl (.int (b : Int)), .vl (.int ((a % b : Nat) : Int))]) (by simp [bd, lift, rt, var, varB, slot, slotB, truB, valB, isBl, truth, cst, op1, op2, parS, asgS, asgOS, asgT, seqS, retS, retNS, ifS, iteE, notB, notE, andB, orB, andE, orE, exprS, setV, setO, tgN, tgT, tgs, consA, nilA, leave, callE, frzS, augS, skipS, addI, subI, addI', appA, chn2, chn3, cmpB, dLe, dLt, dGe, dGt, hb]) (by simp [bd, lift, rt, var, varB, slot, slotB, truB, valB, isBl, truth, cst, op1, op2, parS, asgS, asgOS, asgT, seqS, retS, retNS, ifS, iteE, notB, notE, andB, orB, andE, orE, exprS, setV, setO, tgN, tgT, tgs, consA, nilA, leave, callE, frzS, augS, skipS, addI, subI, addI', appA, chn2, chn3, cmpB, dLe, dLt, dGe, dGt, modI h1]), e]
      rw [Nat.gcd_comm a b, Nat.gcd_rec b a, Nat.gcd_comm]
def low (u d : Nat) : D := .tup [.int ((u / Nat.gcd u d : Nat) : Int), .int ((d / Nat.gcd u d : Nat) : Int)]
theorem big_W0 {n : Nat} (h : n < Big) : n < W0 := h
theorem at_range {f : Nat → D} {n k : Nat} (h : k < n) : atI ((List.range n).map f) ((k : Nat) : Int) = some (f k) := atI_nat (by simp [h])
theorem flat_one (d : Nat) (x : D) : (List.replicate d [x]).flatten = List.replicate d x := by
  induction d with
  | zero => rfl
  | succ n ih => rw [List.replicate_succ, List.flatten_cons, ih]; rfl
def gInt (f : Nat → Int) : D → D
  | .int s => .int (f s.toNat)
  | x => x
theorem gInt_map (f : Nat → Int) (n : Nat) : (rngD 0 n).map (gInt f) = (List.range n).map fun s => .int (f s) := by
  rw [rngD_map, List.map_map]
  refine List.map_congr_left fun i _ => ?_
  show D.int (f (Int.toNat (i : Int))) = _
  rw [Int.toNat_natCast]
theorem enumF_at : ∀ (ds : List D) (k i : Nat), (enumF k ds)[i]? = (ds[i]?).map fun d => .tup [.int ((k + i : Nat) : Int), d]
  | [], k, i => by simp [enumF]
  | d :: ds, k, 0 => by simp [enumF]
  | d :: ds, k, i + 1 => by
    rw [enumF, List.getElem?_cons_succ, List.getElem?_cons_succ, enumF_at ds (k + 1) i]
    have e : k + 1 + i = k + (i + 1) := by omega
    rw [e]
theorem enumF_len : ∀ (ds : List D) (k : Nat), (enumF k ds).length = ds.length
  | [], k => rfl
  | d :: ds, k => by rw [enumF, List.length_cons, List.length_cons, enumF_len ds (k + 1)]
theorem and_f {a b : FB} {ρ : En} {S S1 : DS} (h : a ρ S = .ok false S1) : andB a b ρ S = .ok false S1 := by
  simp only [andB, bd, h, rt, Bool.false_eq_true, if_false]
theorem and_t {a b : FB} {ρ : En} {S S1 : DS} (h : a ρ S = .ok true S1) : andB a b ρ S = b ρ S1 := by
  simp only [andB, bd, h, if_true]
theorem rng2_nat {a b : FE} {ρ : En} {S S1 S2 : DS} {lo hi : Nat} (h1 : lo ≤ 1000) (h2 : hi ≤ 1000) (ha : a ρ S = .ok (.int (lo : Int)) S1) (hb : b ρ S1 = .ok (.int (hi : Int)) S2) : itR2 a b ρ S = .ok (rngD (lo : Int) (hi - lo)) S2 := by
  have e : ((hi : Int) - (lo : Int)).toNat = hi - lo := by omega
  unfold itR2 bd
  rw [ha]
  simp only [hb]
  rw [big62_nat h1, big62_nat h2]
  simp only [Bool.and_self, if_true]
  rw [e]
  rfl
theorem cut_map {α β : Type} (f : α → β) (l : List α) (lo hi : Option Int) : cutG (l.map f) lo hi = (cutG l lo hi).map f := by
  unfold cutG
  rw [List.length_map, ← List.map_drop, ← List.map_take]
theorem slc_hi {a b : FE} {ρ : En} {S S1 S2 : DS} {d r : D} {h : Int} (h1 : a ρ S = .ok d S1) (h2 : b ρ S1 = .ok (.int h) S2) (hr : dCut none (some h) d = some r) : slcE a noP (partP b) ρ S = .ok r S2 := by
  simp only [slcE, noP, partP, bd, rt, h1, h2, isInt, Option.map_some, lift, hr]
theorem slc_lo {a b : FE} {ρ : En} {S S1 S2 : DS} {d r : D} {h : Int} (h1 : a ρ S = .ok d S1) (h2 : b ρ S1 = .ok (.int h) S2) (hr : dCut (some h) none d = some r) : slcE a (partP b) noP ρ S = .ok r S2 := by
  simp only [slcE, noP, partP, bd, rt, h1, h2, isInt, Option.map_some, lift, hr]
def prt (p q : Nat) : D := .tpx [.int (p : Int), .int (q : Int)]
theorem low_self {p q : Nat} (hg : Nat.gcd p q = 1) : low p q = .tup [.int (p : Int), .int (q : Int)] := by
  unfold low
  rw [hg, Nat.div_one, Nat.div_one]
theorem prt_eq (p q : Nat) : dNe (.tup [.int (p : Int), .int (q : Int)]) (prt p q) = some (.bl false) := by
  have e1 : okEq (prt p q) = true := by
    unfold prt okEq
    rfl
  have e2 : PyData.eqv (prt p q).py (prt p q).py = true := SeqAt.eqv_refl_plain _ rfl
  have e3 : okEq (.tup [.int (p : Int), .int (q : Int)]) = true := e1
  have e4 : PyData.eqv (D.tup [.int (p : Int), .int (q : Int)]).py (prt p q).py = true := e2
  unfold dNe dEqv
  rw [e1, e3, e4]
  rfl
theorem ite_t {t : FB} {a b : FE} {ρ : En} {S S1 : DS} (h : t ρ S = .ok true S1) : iteE t a b ρ S = a ρ S1 := by
  simp only [iteE, bd, h, if_true]
theorem ite_f {t : FB} {a b : FE} {ρ : En} {S S1 : DS} (h : t ρ S = .ok false S1) : iteE t a b ρ S = b ρ S1 := by
  simp only [iteE, bd, h, Bool.false_eq_true, if_false]
theorem seq_rt {a b : FS} {ρ : En} {S S' : DS} {d : D} (h : a ρ S = .ok (.rt d) S') : seqS a b ρ S = .ok (.rt d) S' := by
  simp only [seqS, bd, h, rt]
theorem aug_of {f : D → D → Option D} {i : Nat} {a : FE} {ρ : En} {S S1 : DS} {x y z : D} (h0 : slot ρ i = some x) (h1 : a ρ S = .ok y S1) (h2 : f x y = some z) : augS f i a ρ S = .ok (.nx (setV i z ρ)) S1 := by
  simp only [augS, bd, h0, lift, rt, h1, h2]
theorem blsOf_true : ∀ l : List D, blsOf (l.map fun _ => D.bl true) = some (l.map fun _ => true)
  | [] => rfl
  | d :: ds => by
    rw [List.map_cons, List.map_cons, blsOf, blsOf_true ds]
    rfl
theorem all_true (l : List D) : dAll (.lst (l.map fun _ => D.bl true)) = some (.bl true) := by
  show (blsOf (l.map fun _ => D.bl true)).map (fun ns => D.bl (ns.all id)) = _
  rw [blsOf_true, Option.map_some]
  congr 2
  rw [List.all_eq_true]
  intro x hx
  obtain ⟨_, _, rfl⟩ := List.mem_map.mp hx
  rfl
theorem its_of {f : FE} {ρ : En} {S S1 : DS} {d : D} {ds : List D} (h : f ρ S = .ok d S1) (hs : seqAny d = some ds) : itS f ρ S = .ok ds S1 := by
  simp only [itS, bd, h, hs, lift, rt]
theorem pyL_int : ∀ l : List Int, pyL (l.map D.int) = l.map PyData.int
  | [] => rfl
  | n :: l => by rw [List.map_cons, List.map_cons, pyL, pyL_int l]; rfl
theorem gd_okEq {h n : Nat} {d : D} (g : Gd h n d) (a : h ≤ 64) : okEq d = true := by
  unfold okEq
  rw [g.pu, Bool.true_and]
  exact decide_eq_true (Nat.le_trans g.de a)
theorem seq_er {a b : FS} {ρ : En} {S S' : DS} {n : Nat} {p : D} (h : a ρ S = .er n p S') : seqS a b ρ S = .er n p S' := by
  simp only [seqS, bd, h]
theorem expr_er {f : FE} {ρ : En} {S S' : DS} {n : Nat} {p : D} (h : f ρ S = .er n p S') : exprS f ρ S = .er n p S' := by
  simp only [exprS, bd, h]
theorem body_er {b : FS} {ρ : En} {S S' : DS} {n : Nat} {p : D} (h : b ρ S = .er n p S') : bd (b ρ) leave S = .er n p S' := by
  simp only [bd, h]
theorem raise_of {f : FE} {ρ : En} {S S' : DS} {n : Nat} {d : D} (h : f ρ S = .ok d S') : raiseS n f ρ S = .er n d S' := by
  simp only [raiseS, bd, h]
theorem callA_of {F : List D → M D} {a : FA} {ρ : En} {S S1 : DS} {ds : List D} {r : Res D} (h : a ρ S = .ok ds S1) (hF : F ds S1 = r) : callE F a ρ S = r := by
  simp only [callE, bd, h, hF]
theorem appA_of {a : FA} {ρ : En} {S S1 : DS} {ds xs : List D} (h : a ρ S = .ok ds S1) : appA a xs ρ S = .ok (ds ++ xs) S1 := by
  simp only [appA, bd, h, rt]
theorem a1_of {f : FE} {ρ : En} {S S1 : DS} {d : D} (h : f ρ S = .ok d S1) : consA f nilA ρ S = .ok [d] S1 := cons_of h nil_of
theorem a2_of {f g : FE} {ρ : En} {S S1 S2 : DS} {d e : D} (h : f ρ S = .ok d S1) (h2 : g ρ S1 = .ok e S2) : consA f (consA g nilA) ρ S = .ok [d, e] S2 := cons_of h (a1_of h2)
theorem a3_of {f g k : FE} {ρ : En} {S S1 S2 S3 : DS} {d e i : D} (h : f ρ S = .ok d S1) (h2 : g ρ S1 = .ok e S2) (h3 : k ρ S2 = .ok i S3) : consA f (consA g (consA k nilA)) ρ S = .ok [d, e, i] S3 := cons_of h (a2_of h2 h3)
theorem a4_of {f g k l : FE} {ρ : En} {S S1 S2 S3 S4 : DS} {d e i j : D} (h : f ρ S = .ok d S1) (h2 : g ρ S1 = .ok e S2) (h3 : k ρ S2 = .ok i S3) (h4 : l ρ S3 = .ok j S4) : consA f (consA g (consA k (consA l nilA))) ρ S = .ok [d, e, i, j] S4 := cons_of h (a3_of h2 h3 h4)
def Arg : D → Prop
  | .non => True
  | .bl _ => True
  | .int _ => True
  | .str _ => True
  | .tup _ => True
  | .tpx _ => True
  | _ => False
def isI : D → Bool
  | .int _ => true
  | _ => false
def wh (d : D) (lo hi : Int) : Bool := match d with
  | .int i => decide (lo ≤ i) && decide (i ≤ hi)
  | _ => false
def isTp : D → Bool
  | .tup _ => true
  | .tpx _ => true
  | _ => false
theorem kits : kitB "NoneType" "int" = some false ∧ kitB "bool" "int" = some true ∧ kitB "str" "int" = some false ∧ kitB "tuple" "int" = some false ∧ kitB "NoneType" "bool" = some false ∧ kitB "bool" "bool" = some true ∧ kitB "str" "bool" = some false ∧ kitB "tuple" "bool" = some false ∧
    kitB "NoneType" "tuple" = some false ∧ kitB "bool" "tuple" = some false ∧ kitB "int" "tuple" = some false ∧ kitB "str" "tuple" = some false := by decide +kernel
def isNum (d : D) : Bool × Bool := match d with
  | .int _ => (true, false)
  | .bl _ => (true, true)
  | _ => (false, false)
theorem isi_int {d : D} (h : Arg d) : isiD "int" d = some (.bl (isNum d).1) := by
  obtain ⟨k1, k2, k3, k4, _⟩ := kits
  cases d <;> first | exact h.elim | skip
  · show (kitB "NoneType" "int").map D.bl = _; rw [k1]; rfl
  · show (kitB "bool" "int").map D.bl = _; rw [k2]; rfl
  · show (kitB "int" "int").map D.bl = _; rw [kit_int_int]; rfl
  · show (kitB "str" "int").map D.bl = _; rw [k3]; rfl
  · show (kitB "tuple" "int").map D.bl = _; rw [k4]; rfl
  · show (kitB "tuple" "int").map D.bl = _; rw [k4]; rfl
theorem isi_bool {d : D} (h : Arg d) : isiD "bool" d = some (.bl (isNum d).2) := by
  obtain ⟨_, _, _, _, k1, k2, k3, k4, _⟩ := kits
  cases d <;> first | exact h.elim | skip
  · show (kitB "NoneType" "bool").map D.bl = _; rw [k1]; rfl
  · show (kitB "bool" "bool").map D.bl = _; rw [k2]; rfl
  · show (kitB "int" "bool").map D.bl = _; rw [kit_int_bool]; rfl
  · show (kitB "str" "bool").map D.bl = _; rw [k3]; rfl
  · show (kitB "tuple" "bool").map D.bl = _; rw [k4]; rfl
  · show (kitB "tuple" "bool").map D.bl = _; rw [k4]; rfl
theorem isi_tup {d : D} (h : Arg d) : isiD "tuple" d = some (.bl (isTp d)) := by
  obtain ⟨_, _, _, _, _, _, _, _, k1, k2, k3, k4⟩ := kits
  cases d <;> first | exact h.elim | skip
  · show (kitB "NoneType" "tuple").map D.bl = _; rw [k1]; rfl
  · show (kitB "bool" "tuple").map D.bl = _; rw [k2]; rfl
  · show (kitB "int" "tuple").map D.bl = _; rw [k3]; rfl
  · show (kitB "str" "tuple").map D.bl = _; rw [k4]; rfl
  · show (kitB "tuple" "tuple").map D.bl = _; rw [kit_tup_tup]; rfl
  · show (kitB "tuple" "tuple").map D.bl = _; rw [kit_tup_tup]; rfl
theorem isI_num (d : D) : isI d = ((isNum d).1 && !(isNum d).2) := by cases d <;> rfl
def ck (b : Bool) (w : Str) (S : DS) : Res D := if b = true then .ok .non S else .er 1 (.str w) S
theorem ck_body {t : FB} {f : FE} {b : Bool} {w : Str} {ρ : En} {S : DS} (h : t ρ S = .ok (!b) S) (hf : f ρ S = .ok (.str w) S) : bd (ifS t (raiseS 1 f) skipS ρ) leave S = ck b w S := by
  cases b with
  | true => exact body_nx (ρ' := ρ) (if_f h)
  | false => exact body_er ((if_t h).trans (raise_of hf))
def due (w : Str) (b : Bool) : Str := if b = true then "" else "argument " ++ w
theorem ix_nat {xs : List D} {j : Nat} {x : D} (h : xs[j]? = some x) : dIxA (.lst xs) (.int ((j : Nat) : Int)) = some x := atI_nat h
def fst : List Str → Str
  | [] => ""
  | w :: ws => if w = "" then fst ws else w
theorem ne_str (a b : Str) : dNe (.str a) (.str b) = some (.bl (!decide (a = b))) := by
  unfold dNe dEqv
  have e : PyData.eqv (D.str a).py (D.str b).py = decide (a = b) := by
    simp only [D.py, PyData.eqv]
    by_cases h : a = b
    · subst h; simp
    · rw [decide_eq_false h]; simpa using h
  rw [e]
  rfl
theorem eq_str (a b : Str) : dEq (.str a) (.str b) = some (.bl (decide (a = b))) := by
  unfold dEq dEqv
  have e : PyData.eqv (D.str a).py (D.str b).py = decide (a = b) := by
    simp only [D.py, PyData.eqv]
    by_cases h : a = b
    · subst h; simp
    · rw [decide_eq_false h]; simpa using h
  rw [e]
  rfl
def sL (ws : List Str) : List D := ws.map D.str
theorem fst_filter : ∀ ws : List Str, (ws.filter fun w : Str => !decide (w = "")).head? = if fst ws = "" then none else some (fst ws)
  | [] => rfl
  | w :: ws => by
    unfold fst
    by_cases h : w = ""
    · rw [if_pos h, List.filter_cons, if_neg (by simp [h]), fst_filter ws]
    · rw [if_neg h, List.filter_cons, if_pos (by simp [h]), if_neg h]
      rfl
theorem len_lt {i : Nat} {ρ : En} {S : DS} {xs : List D} {n : Nat} (h : slot ρ i = some (.lst xs)) : valB (op2 dLt (op1 dLen (var i)) (cst (.int ((n : Nat) : Int)))) ρ S = .ok (decide (xs.length < n)) S := by
  have v : var i ρ S = .ok (.lst xs) S := by
    unfold var
    rw [h]
    rfl
  refine val_of (op2_of (d1 := .int (xs.length : Int)) (op1_of v rfl) rfl ?_)
  show some (D.bl (decide ((xs.length : Int) < (n : Int)))) = _
  congr 2
  exact decide_eq_decide.mpr (by omega)
theorem len_eq {i : Nat} {ρ : En} {S : DS} {xs : List D} {n : Nat} (h : slot ρ i = some (.lst xs)) : valB (op2 dEq (op1 dLen (var i)) (cst (.int ((n : Nat) : Int)))) ρ S = .ok (decide (xs.length = n)) S := by
  have v : var i ρ S = .ok (.lst xs) S := by
    unfold var
    rw [h]
    rfl
  refine val_of (op2_of (d1 := .int (xs.length : Int)) (op1_of v rfl) rfl ?_)
  rw [dEq_int]
  congr 2
  exact decide_eq_decide.mpr (by omega)
def inL : Res D → Res Fl
  | .ok d S => .ok (.rt (.lst [d])) S
  | .er n p S => .er n p S
  | .no => .no
theorem ret_lst {f : FE} {ρ : En} {S : DS} : retS (lstE (consA f nilA)) ρ S = inL (f ρ S) := by
  cases h : f ρ S with
  | ok d S' => exact ret_of (lst1 h)
  | er n p S' => simp only [retS, lstE, consA, bd, h, inL]
  | no => simp only [retS, lstE, consA, bd, h, inL]
theorem ret_ite_t {t : FB} {a b : FE} {ρ : En} {S : DS} (h : t ρ S = .ok true S) : retS (iteE t a b) ρ S = retS a ρ S := by
  simp only [retS, bd, ite_t h]
theorem ret_ite_f {t : FB} {a b : FE} {ρ : En} {S : DS} (h : t ρ S = .ok false S) : retS (iteE t a b) ρ S = retS b ρ S := by
  simp only [retS, bd, ite_f h]
theorem seq_inL {a b : FS} {ρ : En} {S : DS} {r : Res D} (h : a ρ S = inL r) : seqS a b ρ S = inL r := by
  simp only [seqS, bd, h]
  cases r <;> rfl
theorem arg_ne (w : Str) : ("argument " : Str) ++ w ≠ "" := fun h => by
  have e := congrArg (fun s : Str => s.length) h
  have l9 : ("argument " : Str).length = 9 := by decide +kernel
  have l0 : ("" : Str).length = 0 := by decide +kernel
  have la : (("argument " : Str) ++ w).length = ("argument " : Str).length + w.length := by
    show ((("argument " : Str) ++ w).cps).size = _
    exact Array.size_append
  have e' : (("argument " : Str) ++ w).length = ("" : Str).length := e
  omega
theorem due_t (w : Str) : due w true = "" := rfl
theorem due_f (w : Str) : due w false = "argument " ++ w := rfl
theorem fst_t (w : Str) (ws : List Str) : fst (due w true :: ws) = fst ws := by
  rw [due_t, fst, if_pos rfl]
theorem fst_f (w : Str) (ws : List Str) : fst (due w false :: ws) = "argument " ++ w := by
  rw [due_f, fst, if_neg (arg_ne w)]
theorem wh_t {d : D} {lo hi : Int} (h : wh d lo hi = true) : ∃ i : Int, d = .int i ∧ lo ≤ i ∧ i ≤ hi := by
  cases d <;> first | (cases h; done) | skip
  rename_i i
  have h' : (decide (lo ≤ i) && decide (i ≤ hi)) = true := h
  rw [Bool.and_eq_true, decide_eq_true_eq, decide_eq_true_eq] at h'
  exact ⟨i, rfl, h'.1, h'.2⟩
theorem wh_n {d : D} {lo hi : Nat} (h : wh d (lo : Int) (hi : Int) = true) : ∃ n : Nat, d = .int (n : Int) ∧ lo ≤ n ∧ n ≤ hi := by
  obtain ⟨i, rfl, h1, h2⟩ := wh_t h
  obtain ⟨n, rfl⟩ := Int.eq_ofNat_of_zero_le (show 0 ≤ i by omega)
  exact ⟨n, rfl, by omega, by omega⟩
theorem ck_t {f : FE} {r : FS} {ρ : En} {S : DS} {w : Str} {b : Bool} (h : f ρ S = ck b w S) (hb : b = true) : seqS (exprS f) r ρ S = r ρ S := by
  rw [hb] at h
  exact seq_nx (expr_of (d := .non) h)
theorem ck_f {f : FE} {r : FS} {ρ : En} {S : DS} {w : Str} {b : Bool} (h : f ρ S = ck b w S) (hb : b = false) : seqS (exprS f) r ρ S = .er 1 (.str w) S := by
  rw [hb] at h
  exact seq_er (expr_er h)
def elts : D → List D
  | .tup ds => ds
  | .tpx ds => ds
  | _ => []
def ArgX (d : D) : Prop := Arg d ∧ (∀ ds, d ≠ .tup ds) ∧ ∀ x ∈ elts d, Arg x
theorem ArgX.cases {d : D} (h : ArgX d) : (isTp d = false ∧ Arg d) ∨ ∃ ds, d = .tpx ds ∧ ∀ x ∈ ds, Arg x := by
  obtain ⟨h1, h2, h3⟩ := h
  cases d <;> first | exact h1.elim | exact .inl ⟨rfl, h1⟩ | skip
  · exact absurd rfl (h2 _)
  · exact .inr ⟨_, rfl, h3⟩
theorem blsOf_bl : ∀ bs : List Bool, blsOf (bs.map D.bl) = some bs
  | [] => rfl
  | b :: bs => by rw [List.map_cons, blsOf, blsOf_bl bs]; rfl
theorem ne_nat (a b : Nat) : dNe (.int (a : Int)) (.int (b : Int)) = some (.bl (!decide (a = b))) := by
  have e := dEq_int (a : Int) (b : Int)
  unfold dEq at e
  unfold dNe
  have e1 : (okEq (.int (a : Int)) && okEq (.int (b : Int))) = true := rfl
  rw [e1, if_pos rfl] at e ⊢
  have e2 : dEqv (.int (a : Int)) (.int (b : Int)) = decide ((a : Int) = (b : Int)) := D.bl.inj (Option.some.inj e)
  rw [e2]
  congr 3
  exact decide_eq_decide.mpr (by omega)
theorem chn_of {f : FE} {ρ : En} {S : DS} {x lo hi : Int} (v : f ρ S = .ok (.int x) S) : chn2 dLe dLe (cst (.int lo)) f (cst (.int hi)) ρ S = .ok (.bl (decide (lo ≤ x) && decide (x ≤ hi))) S := by
  by_cases h1 : lo ≤ x
  · simp only [chn2, bd, cst, rt, v, dLe, decide_eq_true h1, lift, Bool.true_and]
  · simp only [chn2, bd, cst, rt, v, dLe, decide_eq_false h1, lift, Bool.false_and]
theorem tupT {d : D} {i : Nat} {ρ : En} {S : DS} (h : Arg d) (hs : slot ρ i = some d) : notB (truB (op1 (isiD "tuple") (var i))) ρ S = .ok (!isTp d) S :=
  not_of (tru_ofE (op1_of (d := d) (show var i ρ S = .ok d S by unfold var; rw [hs]; rfl) (isi_tup h)) rfl)
theorem big62_nt {n : Nat} (h : n ≤ 2000) : big62 ((n : Nat) : Int) = true := by
  unfold big62
  exact decide_eq_true ⟨by omega, by omega⟩
theorem rng2_nt {a b : FE} {ρ : En} {S S1 S2 : DS} {lo hi : Nat} (h1 : lo ≤ 2000) (h2 : hi ≤ 2000) (ha : a ρ S = .ok (.int (lo : Int)) S1) (hb : b ρ S1 = .ok (.int (hi : Int)) S2) : itR2 a b ρ S = .ok (rngD (lo : Int) (hi - lo)) S2 := by
  have e : ((hi : Int) - (lo : Int)).toNat = hi - lo := by omega
  unfold itR2 bd
  rw [ha]
  simp only [hb]
  rw [big62_nt h1, big62_nt h2]
  simp only [Bool.and_self, if_true]
  rw [e]
  rfl
theorem andB_t {a b : FB} {ρ : En} {S S1 : DS} (h : a ρ S = .ok true S1) : andB a b ρ S = b ρ S1 := by
  simp only [andB, bd, h, if_true]
theorem andB_f {a b : FB} {ρ : En} {S S1 : DS} (h : a ρ S = .ok false S1) : andB a b ρ S = .ok false S1 := by
  simp only [andB, bd, h, Bool.false_eq_true, if_false, rt]
theorem pow10 {k : Nat} (h : k ≤ 1000000) : dPow (.int 10) (.int ((k : Nat) : Int)) = some (.int (10 ^ k)) := by
  show (if (0 : Int) ≤ (k : Int) ∧ (k : Int) ≤ 1000000 ∧ (10 : Int).natAbs < 2 ^ 64 then some (D.int (10 ^ (k : Int).toNat)) else none) = _
  rw [if_pos ⟨by omega, by omega, by decide⟩, Int.toNat_natCast]
def TT (n : Nat) (d : D) : Prop := ∃ ds, d = .tpx ds ∧ ds.length ≤ n ∧ ∀ x ∈ ds, Arg x
theorem TT.x {n : Nat} {d : D} (h : TT n d) : ArgX d := by
  obtain ⟨ds, rfl, _, h3⟩ := h
  exact ⟨trivial, (fun _ z => by cases z), h3⟩
theorem argX_of {d : D} (h : Arg d) (h2 : isTp d = false) : ArgX d := ⟨h, (fun _ z => by rw [z] at h2; cases h2), fun x hx => by cases d <;> first | (cases h2; done) | (cases hx; done)⟩
theorem addT {f g : FE} {ρ : En} {S S1 S2 : DS} {d e : D} {n m : Nat} (h1 : f ρ S = .ok d S1) (t1 : TT n d) (h2 : g ρ S1 = .ok e S2) (t2 : TT m e) (hl : n + m ≤ 1000) : ∃ r, op2 dAddP f g ρ S = .ok r S2 ∧ TT (n + m) r := by
  obtain ⟨xs, rfl, x1, x2⟩ := t1
  obtain ⟨ys, rfl, y1, y2⟩ := t2
  refine ⟨.tpx (xs ++ ys), op2_of h1 h2 ?_, xs ++ ys, rfl, by rw [List.length_append]; omega, fun z hz => ?_⟩
  · show (if xs.length + ys.length ≤ 16777216 then some (D.tpx (xs ++ ys)) else none) = _
    rw [if_pos (by omega)]
  · rcases List.mem_append.mp hz with h | h
    · exact x2 z h
    · exact y2 z h
theorem tpx_of {a : FA} {ρ : En} {S S1 : DS} {ds : List D} (h : a ρ S = .ok ds S1) (hl : ds.length ≤ 1000) : tpxE a ρ S = .ok (.tpx ds) S1 := by
  unfold tpxE bd
  rw [h]
  show (if ds.length ≤ 16777216 then rt (D.tpx ds) else no) S1 = _
  rw [if_pos (by omega)]
  rfl
theorem cut_mem {α : Type} {x : α} {xs : List α} {lo hi : Option Int} (h : x ∈ cutG xs lo hi) : x ∈ xs := List.mem_of_mem_drop (List.mem_of_mem_take h)
theorem cutT {ds : List D} {n : Nat} (h : ∀ x ∈ ds, Arg x) (hn : ds.length ≤ n) (lo hi : Option Int) : TT n (.tpx (cutG ds lo hi)) := ⟨_, rfl, Nat.le_trans (cutG_length ds lo hi) hn, fun x hx => h x (cut_mem hx)⟩
theorem cut_hi {a b : FE} {ρ : En} {S S1 S2 : DS} {ds : List D} {h : Int} (h1 : a ρ S = .ok (.tpx ds) S1) (h2 : b ρ S1 = .ok (.int h) S2) : slcP a noP (partP b) ρ S = .ok (.tpx (cutG ds none (some h))) S2 := by
  simp only [slcP, noP, partP, bd, h1, h2, rt, lift, dCutP, isInt, Option.map_some]
theorem cut_lo {a b : FE} {ρ : En} {S S1 S2 : DS} {ds : List D} {h : Int} (h1 : a ρ S = .ok (.tpx ds) S1) (h2 : b ρ S1 = .ok (.int h) S2) : slcP a (partP b) noP ρ S = .ok (.tpx (cutG ds (some h) none)) S2 := by
  simp only [slcP, noP, partP, bd, h1, h2, rt, lift, dCutP, isInt, Option.map_some]
theorem cut_md {a b c : FE} {ρ : En} {S S1 S2 S3 : DS} {ds : List D} {h k : Int} (h1 : a ρ S = .ok (.tpx ds) S1) (h2 : b ρ S1 = .ok (.int h) S2) (h3 : c ρ S2 = .ok (.int k) S3) : slcP a (partP b) (partP c) ρ S = .ok (.tpx (cutG ds (some h) (some k))) S3 := by
  simp only [slcP, partP, bd, h1, h2, h3, rt, lift, dCutP, isInt, Option.map_some]
theorem sL_ok : ∀ ws : List Str, pureL (sL ws) = true ∧ PyData.depthAll (pyL (sL ws)) ≤ 0 ∧ PyData.plainAll (pyL (sL ws)) = true
  | [] => ⟨rfl, Nat.le_refl _, rfl⟩
  | w :: ws => by
    obtain ⟨a, b, c⟩ := sL_ok ws
    refine ⟨?_, ?_, ?_⟩
    · show ((D.str w).pure && pureL (sL ws)) = true
      rw [a]; rfl
    · show PyData.depthAll ((D.str w).py :: pyL (sL ws)) ≤ 0
      simp only [PyData.depthAll]
      exact Nat.max_le.mpr ⟨Nat.le_refl _, b⟩
    · show PyData.plainAll ((D.str w).py :: pyL (sL ws)) = true
      simp only [PyData.plainAll]
      rw [c]; rfl
theorem ne_sL (ws : List Str) : dNe (.lst (sL ws)) (.lst (sL ws)) = some (.bl false) := by
  obtain ⟨a, b, c⟩ := sL_ok ws
  have e : okEq (.lst (sL ws)) = true := by
    unfold okEq
    simp only [D.pure, a, Bool.true_and, decide_eq_true_eq, D.py, PyData.depth]
    omega
  have q : PyData.eqv (D.lst (sL ws)).py (D.lst (sL ws)).py = true := SeqAt.eqv_refl_plain _ (by simpa only [D.py, PyData.plain] using c)
  unfold dNe dEqv
  rw [e, q]
  rfl
theorem eq_same (w : Str) : dEq (.str w) (.str w) = some (.bl true) := by rw [eq_str, decide_eq_true rfl]
theorem ne_same (w : Str) : dNe (.str w) (.str w) = some (.bl false) := by rw [ne_str, decide_eq_true rfl]; rfl
theorem fst_one (w : Str) : fst [w] = w := by
  unfold fst
  by_cases h : w = ""
  · rw [if_pos h, h]; rfl
  · rw [if_neg h]
theorem mulP1 (i : Int) {k : Nat} (h1 : 2 ≤ k) (h2 : k ≤ 1000) : dMulP (.tpx [.int i]) (.int (k : Int)) = some (.tpx ((List.replicate k i).map D.int)) := by
  show (if [D.int i] ≠ [] ∧ 2 ≤ (k : Int) ∧ (k : Int) ≤ 1000 ∧ [D.int i].length ≤ 1000 then some (D.tpx (List.replicate (k : Int).toNat [D.int i]).flatten) else none) = _
  rw [if_pos ⟨by simp, by omega, by omega, by simp⟩, Int.toNat_natCast, flat_one, List.map_replicate]
theorem rep_TT (i : Int) (k : Nat) : TT k (.tpx ((List.replicate k i).map D.int)) := ⟨_, rfl, by simp, fun x hx => by
  obtain ⟨j, _, rfl⟩ := List.mem_map.mp hx
  trivial⟩
theorem due_emp {w : Str} {b : Bool} (h : due w b = "") : b = true := by
  cases b with
  | true => rfl
  | false =>
    rw [due_f] at h
    exact absurd h (arg_ne w)
theorem fst_skip (ws : List Str) : fst ("" :: ws) = fst ws := by rw [fst, if_pos rfl]
theorem fst_hit {w : Str} (h : w ≠ "") (ws : List Str) : fst (w :: ws) = w := by rw [fst, if_neg h]
theorem slc_of {a : FE} {ρ : En} {S : DS} {ds : List D} {n : Int} (h : a ρ S = .ok (.lst ds) S) : slcE a noP (partP (cst (.int n))) ρ S = .ok (.lst (cutG ds none (some n))) S := slc_hi h rfl rfl
theorem slc_of2 {a : FE} {ρ : En} {S : DS} {ds : List D} {n : Int} (h : a ρ S = .ok (.lst ds) S) : slcE a (partP (cst (.int n))) noP ρ S = .ok (.lst (cutG ds (some n) none)) S := slc_lo h rfl rfl
theorem slc_of3 {a : FE} {ρ : En} {S : DS} {ds : List D} {n m : Int} (h : a ρ S = .ok (.lst ds) S) : slcE a (partP (cst (.int n))) (partP (cst (.int m))) ρ S = .ok (.lst (cutG ds (some n) (some m))) S := by
  simp only [slcE, partP, cst, bd, h, rt, lift, dCut, isInt, Option.map_some]
end Mini
namespace Hk19
open PySem PySem.Spec PyProof.Rows L2 Evl Mini
def top (i : Nat) : Stmt := PySem.Challenge.pw_hoardsread_k19_units.main.body.getD i (.Pass ⟨0, 0, 0, 0⟩)
abbrev s_is_integer : Stmt := top 8
def b_is_integer : FS := (retS (andE (op1 (isiD "int") (var 0)) (notE (op1 (isiD "bool") (var 0)))))
def m_is_integer : List D → M D := fnD 1 1 b_is_integer
theorem sc_is_integer : FnScope ["value"] ["value"] (defScope s_is_integer) := ⟨rfl, rfl, rfl, by decide +kernel, rfl, by decide +kernel, by decide +kernel⟩
def d_is_integer : He.DefD := ⟨("is_integer", none), "is_integer", "is_integer", defArgs s_is_integer, defBody s_is_integer, defScope s_is_integer, [], []⟩
abbrev s_check_weights : Stmt := top 13
def b_check_weights : FS := (seqS (ifS (orB (notB (truB (op1 (isiD "tuple") (var 0)))) (notB (valB (chn2 dLe dLe (cst (.int 1)) (op1 dLen (var 0)) (cst (.int 60)))))) (raiseS 1 (cst (.str "weights"))) skipS)
  (ifS (notB (truB (op1 dAll (lcE (itS (var 0)) (tgN 1) yesB (andE (callE m_is_integer (consA (var 1) nilA)) (chn2 dLe dLe (cst (.int 1)) (var 1) (cst (.int 100000)))) [1])))) (raiseS 1 (cst (.str "weights"))) skipS))
def m_check_weights : List D → M D := fnD 1 2 b_check_weights
theorem sc_check_weights : FnScope ["weights", "own"] ["weights"] (defScope s_check_weights) := ⟨rfl, rfl, rfl, by decide +kernel, rfl, by decide +kernel, by decide +kernel⟩
def d_check_weights : He.DefD := ⟨("check_weights", none), "check_weights", "check_weights", defArgs s_check_weights, defBody s_check_weights, defScope s_check_weights, [], []⟩
abbrev s_check_slack : Stmt := top 14
def b_check_slack : FS := (ifS (orB (notB (truB (callE m_is_integer (consA (var 0) nilA)))) (notB (valB (chn2 dLe dLe (cst (.int 0)) (var 0) (cst (.int 100000)))))) (raiseS 1 (cst (.str "slack"))) skipS)
def m_check_slack : List D → M D := fnD 1 1 b_check_slack
theorem sc_check_slack : FnScope ["slack"] ["slack"] (defScope s_check_slack) := ⟨rfl, rfl, rfl, by decide +kernel, rfl, by decide +kernel, by decide +kernel⟩
def d_check_slack : He.DefD := ⟨("check_slack", none), "check_slack", "check_slack", defArgs s_check_slack, defBody s_check_slack, defScope s_check_slack, [], []⟩
abbrev s_check_unit : Stmt := top 15
def b_check_unit : FS := (ifS (orB (notB (truB (callE m_is_integer (consA (var 0) nilA)))) (notB (valB (chn2 dLe dLe (cst (.int 1)) (var 0) (cst (.int 100000)))))) (raiseS 1 (var 1)) skipS)
def m_check_unit : List D → M D := fnD 2 2 b_check_unit
theorem sc_check_unit : FnScope ["unit", "reason"] ["unit", "reason"] (defScope s_check_unit) := ⟨rfl, rfl, rfl, by decide +kernel, rfl, by decide +kernel, by decide +kernel⟩
def d_check_unit : He.DefD := ⟨("check_unit", none), "check_unit", "check_unit", defArgs s_check_unit, defBody s_check_unit, defScope s_check_unit, [.str "unit"], []⟩
abbrev s_nearest : Stmt := top 16
def b_nearest : FS := (seqS (asgS 2 (op2 dMax2 (cst (.int 1)) (op2 dDiv (var 0) (var 1))))
  (retS (iteE (valB (op2 dLe (op1 dAbs (op2 dSub (var 0) (op2 dMulX (var 2) (var 1)))) (op1 dAbs (op2 dSub (var 0) (op2 dMulX (op2 dAdd (var 2) (cst (.int 1))) (var 1)))))) (var 2) (op2 dAdd (var 2) (cst (.int 1))))))
def m_nearest : List D → M D := fnD 2 3 b_nearest
theorem sc_nearest : FnScope ["weight", "unit", "times"] ["weight", "unit"] (defScope s_nearest) := ⟨rfl, rfl, rfl, by decide +kernel, rfl, by decide +kernel, by decide +kernel⟩
def d_nearest : He.DefD := ⟨("nearest", none), "nearest", "nearest", defArgs s_nearest, defBody s_nearest, defScope s_nearest, [], []⟩
abbrev s_judge_unit : Stmt := top 17
def b_judge_unit : FS := (seqS (exprS (callE m_check_weights (consA (var 0) nilA)))
  (seqS (exprS (callE m_check_slack (consA (var 1) nilA)))
  (seqS (exprS (callE m_check_unit (appA (consA (var 2) nilA) [.str "unit"])))
  (seqS (asgS 3 (lcE (itS (var 0)) (tgN 5) yesB (callE m_nearest (consA (var 5) (consA (var 2) nilA))) [5]))
  (seqS (forS (itEnX (var 0)) (tgT [(tgN 4), (tgN 5)]) (ifS (valB (op2 dGt (op1 dAbs (op2 dSub (var 5) (op2 dMulX (op2 dIxA (var 3) (var 4)) (var 2)))) (var 1))) (retS (tupE (consA (cst (.str "off")) (consA (var 4) (consA (op2 dSub (var 5) (op2 dMulX (op2 dIxA (var 3) (var 4)) (var 2))) nilA))))) skipS))
  (retS (tupE (consA (cst (.str "fits")) (consA (op1 dTuple (var 3)) nilA)))))))))
def m_judge_unit : List D → M D := fnD 3 6 b_judge_unit
theorem sc_judge_unit : FnScope ["weights", "slack", "unit", "times", "at", "own"] ["weights", "slack", "unit"] (defScope s_judge_unit) := ⟨rfl, rfl, rfl, by decide +kernel, rfl, by decide +kernel, by decide +kernel⟩
def d_judge_unit : He.DefD := ⟨("judge_unit", none), "judge_unit", "judge_unit", defArgs s_judge_unit, defBody s_judge_unit, defScope s_judge_unit, [], []⟩
abbrev s_check_range : Stmt := top 18
def b_check_range : FS := (seqS (exprS (callE m_check_weights (consA (var 0) nilA)))
  (seqS (exprS (callE m_check_slack (consA (var 1) nilA)))
  (seqS (exprS (callE m_check_unit (consA (var 2) (consA (cst (.str "low")) nilA))))
  (seqS (exprS (callE m_check_unit (consA (var 3) (consA (cst (.str "high")) nilA))))
  (seqS (ifS (valB (op2 dGt (var 2) (var 3))) (raiseS 1 (cst (.str "high"))) skipS)
  (ifS (valB (op2 dGt (op2 dMulX (op2 dAdd (op2 dSub (var 3) (var 2)) (cst (.int 1))) (op1 dLen (var 0))) (cst (.int 20000)))) (raiseS 3 (cst (.str "units"))) skipS))))))
def m_check_range : List D → M D := fnD 4 4 b_check_range
theorem sc_check_range : FnScope ["weights", "slack", "low", "high"] ["weights", "slack", "low", "high"] (defScope s_check_range) := ⟨rfl, rfl, rfl, by decide +kernel, rfl, by decide +kernel, by decide +kernel⟩
def d_check_range : He.DefD := ⟨("check_range", none), "check_range", "check_range", defArgs s_check_range, defBody s_check_range, defScope s_check_range, [], []⟩
abbrev s_is_good : Stmt := top 19
def b_is_good : FS := (retS (notE (lcE (itS (var 0)) (tgN 3) (valB (op2 dGt (op1 dAbs (op2 dSub (var 3) (op2 dMulX (callE m_nearest (consA (var 3) (consA (var 2) nilA))) (var 2)))) (var 1))) (var 3) [3])))
def m_is_good : List D → M D := fnD 3 4 b_is_good
theorem sc_is_good : FnScope ["weights", "slack", "unit", "own"] ["weights", "slack", "unit"] (defScope s_is_good) := ⟨rfl, rfl, rfl, by decide +kernel, rfl, by decide +kernel, by decide +kernel⟩
def d_is_good : He.DefD := ⟨("is_good", none), "is_good", "is_good", defArgs s_is_good, defBody s_is_good, defScope s_is_good, [], []⟩
abbrev s_good_units : Stmt := top 20
def b_good_units : FS := (seqS (exprS (callE m_check_range (consA (var 0) (consA (var 1) (consA (var 2) (consA (var 3) nilA))))))
  (retS (op1 dTuple (lcE (itR2 (var 2) (op2 dAdd (var 3) (cst (.int 1)))) (tgN 4) (truB (callE m_is_good (consA (var 0) (consA (var 1) (consA (var 4) nilA))))) (var 4) [4]))))
def m_good_units : List D → M D := fnD 4 5 b_good_units
theorem sc_good_units : FnScope ["weights", "slack", "low", "high", "unit"] ["weights", "slack", "low", "high"] (defScope s_good_units) := ⟨rfl, rfl, rfl, by decide +kernel, rfl, by decide +kernel, by decide +kernel⟩
def d_good_units : He.DefD := ⟨("good_units", none), "good_units", "good_units", defArgs s_good_units, defBody s_good_units, defScope s_good_units, [], []⟩
abbrev s_greatest_unit : Stmt := top 21
def b_greatest_unit : FS := (seqS (asgS 4 (callE m_good_units (consA (var 0) (consA (var 1) (consA (var 2) (consA (var 3) nilA))))))
  (retS (iteE (truB (var 4)) (op2 dIxA (var 4) (op1 dNeg (cst (.int 1)))) (cst .non))))
def m_greatest_unit : List D → M D := fnD 4 5 b_greatest_unit
theorem sc_greatest_unit : FnScope ["weights", "slack", "low", "high", "units"] ["weights", "slack", "low", "high"] (defScope s_greatest_unit) := ⟨rfl, rfl, rfl, by decide +kernel, rfl, by decide +kernel, by decide +kernel⟩
def d_greatest_unit : He.DefD := ⟨("greatest_unit", none), "greatest_unit", "greatest_unit", defArgs s_greatest_unit, defBody s_greatest_unit, defScope s_greatest_unit, [], []⟩
abbrev s_closest_unit : Stmt := top 22
def b_closest_unit : FS := (seqS (exprS (callE m_check_range (consA (var 0) (consA (cst (.int 0)) (consA (var 1) (consA (var 2) nilA))))))
  (seqS (asgS 3 (lcE (itR2 (var 1) (op2 dAdd (var 2) (cst (.int 1)))) (tgN 5) yesB (tupE (consA (op1 dMaxX (lcE (itS (var 0)) (tgN 6) yesB (op1 dAbs (op2 dSub (var 6) (op2 dMulX (callE m_nearest (consA (var 6) (consA (var 5) nilA))) (var 5)))) [6])) (consA (op1 dNeg (var 5)) nilA))) [5]))
  (seqS (asgT (tgT [(tgN 4), (tgN 5)]) (op1 dMinY (var 3)))
  (retS (tupE (consA (var 4) (consA (op1 dNeg (var 5)) nilA)))))))
def m_closest_unit : List D → M D := fnD 3 7 b_closest_unit
theorem sc_closest_unit : FnScope ["weights", "low", "high", "rows", "gap", "unit", "own"] ["weights", "low", "high"] (defScope s_closest_unit) := ⟨rfl, rfl, rfl, by decide +kernel, rfl, by decide +kernel, by decide +kernel⟩
def d_closest_unit : He.DefD := ⟨("closest_unit", none), "closest_unit", "closest_unit", defArgs s_closest_unit, defBody s_closest_unit, defScope s_closest_unit, [], []⟩
abbrev s_accept_times : Stmt := top 23
def b_accept_times : FS := (seqS (exprS (callE m_check_weights (consA (var 0) nilA)))
  (seqS (exprS (callE m_check_slack (consA (var 1) nilA)))
  (seqS (exprS (callE m_check_unit (appA (consA (var 2) nilA) [.str "unit"])))
  (seqS (ifS (orB (notB (truB (op1 (isiD "tuple") (var 3)))) (valB (op2 dNe (op1 dLen (var 3)) (op1 dLen (var 0))))) (raiseS 2 (cst (.str "form"))) skipS)
  (seqS (ifS (notB (truB (op1 dAll (lcE (itS (var 3)) (tgN 4) yesB (andE (callE m_is_integer (consA (var 4) nilA)) (op2 dGe (var 4) (cst (.int 1)))) [4])))) (raiseS 2 (cst (.str "form"))) skipS)
  (ifS (truB (lcE (itZpX (var 0) (var 3)) (tgT [(tgN 4), (tgN 5)]) (valB (op2 dGt (op1 dAbs (op2 dSub (var 4) (op2 dMulX (var 5) (var 2)))) (var 1))) (cst (.int 1)) [4, 5])) (raiseS 2 (cst (.str "weight"))) skipS))))))
def m_accept_times : List D → M D := fnD 4 6 b_accept_times
theorem sc_accept_times : FnScope ["weights", "slack", "unit", "times", "own", "many"] ["weights", "slack", "unit", "times"] (defScope s_accept_times) := ⟨rfl, rfl, rfl, by decide +kernel, rfl, by decide +kernel, by decide +kernel⟩
def d_accept_times : He.DefD := ⟨("accept_times", none), "accept_times", "accept_times", defArgs s_accept_times, defBody s_accept_times, defScope s_accept_times, [], []⟩
abbrev s_accept_none : Stmt := top 24
def b_accept_none : FS := (seqS (exprS (callE m_check_range (consA (var 0) (consA (var 1) (consA (var 2) (consA (var 3) nilA))))))
  (seqS (ifS (orB (notB (truB (op1 (isiD "tuple") (var 4)))) (notB (truB (op1 dAll (lcE (itS (var 4)) (tgN 11) yesB (andE (op1 (isiD "tuple") (var 11)) (op2 dEq (op1 dLen (var 11)) (cst (.int 3)))) [11]))))) (raiseS 2 (cst (.str "form"))) skipS)
  (seqS (ifS (notB (truB (op1 dAll (lc2E (itS (var 4)) (tgN 11) yesB (itS (var 11)) (tgN 9) yesB (callE m_is_integer (consA (var 9) nilA)) [11, 9] [9])))) (raiseS 2 (cst (.str "form"))) skipS)
  (seqS (ifS (truB (lcE (itS (var 4)) (tgT [(tgN 6), (tgN 7), (tgN 8)]) (notB (valB (chn2 dLe dLt (cst (.int 0)) (var 6) (op1 dLen (var 0))))) (var 6) [6, 7, 8])) (raiseS 2 (cst (.str "form"))) skipS)
  (seqS (asgS 5 (var 2))
  (seqS (forS (itS (var 4)) (tgT [(tgN 6), (tgN 7), (tgN 8)]) (seqS (ifS (orB (valB (op2 dNe (var 7) (var 5))) (valB (op2 dLt (var 8) (var 7)))) (raiseS 2 (cst (.str "run"))) skipS)
  (asgS 5 (op2 dAdd (var 8) (cst (.int 1))))))
  (seqS (ifS (valB (op2 dNe (var 5) (op2 dAdd (var 3) (cst (.int 1))))) (raiseS 2 (cst (.str "run"))) skipS)
  (forS (itS (var 4)) (tgT [(tgN 6), (tgN 7), (tgN 8)]) (seqS (asgS 9 (op2 dIxA (var 0) (var 6)))
  (seqS (asgS 10 (op2 dDiv (var 9) (var 8)))
  (ifS (orB (andB (valB (op2 dGt (var 10) (cst (.int 0)))) (valB (op2 dLe (op2 dSub (var 9) (op2 dMulX (var 10) (var 8))) (var 1)))) (valB (op2 dLe (op2 dSub (op2 dMulX (op2 dAdd (var 10) (cst (.int 1))) (var 7)) (var 9)) (var 1)))) (raiseS 2 (cst (.str "off"))) skipS)))))))))))
def m_accept_none : List D → M D := fnD 5 12 b_accept_none
theorem sc_accept_none : FnScope ["weights", "slack", "low", "high", "rows", "begin", "at", "first", "last", "own", "times", "row"] ["weights", "slack", "low", "high", "rows"] (defScope s_accept_none) := ⟨rfl, rfl, rfl, by decide +kernel, rfl, by decide +kernel, by decide +kernel⟩
def d_accept_none : He.DefD := ⟨("accept_none", none), "accept_none", "accept_none", defArgs s_accept_none, defBody s_accept_none, defScope s_accept_none, [], []⟩
abbrev s_far : Stmt := top 26
def b_far : FS := (seqS (ifS (valB (op2 dLe (op1 dAbs (op2 dSub (var 0) (op2 dMulX (callE m_nearest (consA (var 0) (consA (var 2) nilA))) (var 2)))) (var 1))) (retS (op2 dSub (var 2) (cst (.int 1)))) skipS)
  (seqS (asgS 3 (op2 dDiv (var 0) (var 2)))
  (seqS (ifS (valB (op2 dEq (var 3) (cst (.int 0)))) (retS (cst (.int 100000))) skipS)
  (retS (op2 dDiv (op2 dSub (op2 dSub (var 0) (var 1)) (cst (.int 1))) (var 3))))))
def m_far : List D → M D := fnD 3 4 b_far
theorem sc_far : FnScope ["weight", "slack", "unit", "times"] ["weight", "slack", "unit"] (defScope s_far) := ⟨rfl, rfl, rfl, by decide +kernel, rfl, by decide +kernel, by decide +kernel⟩
def d_far : He.DefD := ⟨("far", none), "far", "far", defArgs s_far, defBody s_far, defScope s_far, [], []⟩
abbrev s_rows_against : Stmt := top 25
def b_rows_against : FS := (seqS (exprS (callE m_check_range (consA (var 0) (consA (var 1) (consA (var 2) (consA (var 3) nilA))))))
  (seqS (asgOS 4 (lstE nilA))
  (seqS (asgS 5 (var 2))
  (seqS (whileS (valB (op2 dLe (var 5) (var 3))) (seqS (asgS 6 (lcE (itS (var 0)) (tgN 7) yesB (op2 dMin2 (callE m_far (consA (var 7) (consA (var 1) (consA (var 5) nilA)))) (var 3)) [7]))
  (seqS (ifS (valB (op2 dLt (op1 dMaxX (var 6)) (var 5))) (retS (cst .non)) skipS)
  (seqS (appS 4 (tupE (consA (indexE (var 6) (op1 dMaxX (var 6))) (consA (var 5) (consA (op1 dMaxX (var 6)) nilA)))))
  (asgS 5 (op2 dAdd (op1 dMaxX (var 6)) (cst (.int 1))))))) W0)
  (retS (op1 dTuple (varB 4)))))))
def m_rows_against : List D → M D := fnD 4 8 b_rows_against
theorem sc_rows_against : FnScope ["weights", "slack", "low", "high", "rows", "unit", "ends", "own"] ["weights", "slack", "low", "high"] (defScope s_rows_against) := ⟨rfl, rfl, rfl, by decide +kernel, rfl, by decide +kernel, by decide +kernel⟩
def d_rows_against : He.DefD := ⟨("rows_against", none), "rows_against", "rows_against", defArgs s_rows_against, defBody s_rows_against, defScope s_rows_against, [], []⟩
abbrev s_common_unit : Stmt := top 27
def b_common_unit : FS := (seqS (exprS (callE m_check_weights (consA (var 0) nilA)))
  (seqS (asgS 1 (op2 dIxA (var 0) (cst (.int 0))))
  (seqS (forS (itS (slcX (var 0) (partP (cst (.int 1))) noP)) (tgN 2) (whileS (truB (var 2)) (parS 1 2 (var 2) (op2 dMod (var 1) (var 2))) W0))
  (retS (var 1)))))
def m_common_unit : List D → M D := fnD 1 3 b_common_unit
theorem sc_common_unit : FnScope ["weights", "found", "own"] ["weights"] (defScope s_common_unit) := ⟨rfl, rfl, rfl, by decide +kernel, rfl, by decide +kernel, by decide +kernel⟩
def d_common_unit : He.DefD := ⟨("common_unit", none), "common_unit", "common_unit", defArgs s_common_unit, defBody s_common_unit, defScope s_common_unit, [], []⟩
abbrev s_off_weights : Stmt := top 28
def b_off_weights : FS := (seqS (exprS (callE m_check_weights (consA (var 0) nilA)))
  (seqS (exprS (callE m_check_slack (consA (var 1) nilA)))
  (seqS (exprS (callE m_check_unit (appA (consA (var 2) nilA) [.str "unit"])))
  (retS (op1 dTuple (lcE (itEnX (var 0)) (tgT [(tgN 3), (tgN 4)]) (valB (op2 dGt (op1 dAbs (op2 dSub (var 4) (op2 dMulX (callE m_nearest (consA (var 4) (consA (var 2) nilA))) (var 2)))) (var 1))) (var 3) [3, 4]))))))
def m_off_weights : List D → M D := fnD 3 5 b_off_weights
theorem sc_off_weights : FnScope ["weights", "slack", "unit", "at", "own"] ["weights", "slack", "unit"] (defScope s_off_weights) := ⟨rfl, rfl, rfl, by decide +kernel, rfl, by decide +kernel, by decide +kernel⟩
def d_off_weights : He.DefD := ⟨("off_weights", none), "off_weights", "off_weights", defArgs s_off_weights, defBody s_off_weights, defScope s_off_weights, [], []⟩
abbrev s__law_start : Stmt := top 30
def b__law_start : FE := (seqO (asgS 1 (cst (.int 7)))
  (seqO (forS (itS (var 0)) (tgN 2) (asgS 1 (op2 dAdd (op2 dMod (op1 dInt (op2 dAdd (op2 dMulX (var 1) (cst (.int 48271))) (var 2))) (cst (.int 2147483629))) (cst (.int 1)))))
  (lstE (consA (op1 dList (var 0)) (consA (cst (.int 0)) (consA (cst (.int 0)) (consA (var 1) nilA)))))))
def m__law_start : List D → M D := fnO 1 3 b__law_start
theorem sc__law_start : FnScope ["script", "seed", "cell"] ["script"] (defScope s__law_start) := ⟨rfl, rfl, rfl, by decide +kernel, rfl, by decide +kernel, by decide +kernel⟩
def d__law_start : He.DefD := ⟨("_law_start", none), "_law_start", "_law_start", defArgs s__law_start, defBody s__law_start, defScope s__law_start, [], []⟩
abbrev s__law_draw : Stmt := top 31
def b__law_draw : FS := (seqS (ifS (andB (valB (op2 dEq (stIx 0 1) (cst (.int 0)))) (valB (op2 dGe (stIx 0 2) (op1 dLen (stIx 0 0))))) (seqS (stSet 0 3 (op2 dMod (op1 dInt (op2 dAdd (op2 dMulX (stIx 0 3) (cst (.int 48271))) (cst (.int 69621)))) (cst (.int 2147483629))))
  (retS (op2 dMod (op1 dInt (op2 dDiv (stIx 0 3) (cst (.int 13)))) (var 1)))) skipS)
  (seqS (ifS (valB (op2 dEq (stIx 0 1) (cst (.int 0)))) (seqS (stSet 0 1 (op1 dAbs (op2 dIxA (stIx 0 0) (stIx 0 2))))
  (stSet 0 2 (op2 dAdd (stIx 0 2) (cst (.int 1))))) skipS)
  (seqS (asgS 2 (op2 dMod (op1 dInt (stIx 0 1)) (var 1)))
  (seqS (stSet 0 1 (op2 dDiv (stIx 0 1) (var 1)))
  (retS (var 2))))))
def m__law_draw : List D → M D := fnD 2 3 b__law_draw
theorem sc__law_draw : FnScope ["state", "many", "taken"] ["state", "many"] (defScope s__law_draw) := ⟨rfl, rfl, rfl, by decide +kernel, rfl, by decide +kernel, by decide +kernel⟩
def d__law_draw : He.DefD := ⟨("_law_draw", none), "_law_draw", "_law_draw", defArgs s__law_draw, defBody s__law_draw, defScope s__law_draw, [], []⟩
abbrev s__law_pick : Stmt := top 32
def b__law_pick : FS := (retS (op2 dIxA (var 1) (callE m__law_draw (consA (var 0) (consA (op1 dLen (var 1)) nilA)))))
def m__law_pick : List D → M D := fnD 2 2 b__law_pick
theorem sc__law_pick : FnScope ["state", "some"] ["state", "some"] (defScope s__law_pick) := ⟨rfl, rfl, rfl, by decide +kernel, rfl, by decide +kernel, by decide +kernel⟩
def d__law_pick : He.DefD := ⟨("_law_pick", none), "_law_pick", "_law_pick", defArgs s__law_pick, defBody s__law_pick, defScope s__law_pick, [], []⟩
abbrev s__law_same : Stmt := top 33
def b__law_same : FS := (retS (andE (op2 dEq (var 0) (var 1)) (reprEqE (var 0) (var 1))))
def m__law_same : List D → M D := fnD 2 2 b__law_same
theorem sc__law_same : FnScope ["actual", "due"] ["actual", "due"] (defScope s__law_same) := ⟨rfl, rfl, rfl, by decide +kernel, rfl, by decide +kernel, by decide +kernel⟩
def d__law_same : He.DefD := ⟨("_law_same", none), "_law_same", "_law_same", defArgs s__law_same, defBody s__law_same, defScope s__law_same, [], []⟩
abbrev s__law_word : Stmt := top 34
theorem sc__law_word : FnScope ["error", "kinds"] ["error"] (defScope s__law_word) := ⟨rfl, rfl, rfl, by decide +kernel, rfl, by decide +kernel, by decide +kernel⟩
def d__law_word : He.DefD := ⟨("_law_word", none), "_law_word", "_law_word", defArgs s__law_word, defBody s__law_word, defScope s__law_word, [], []⟩
def disp : Nat → Option (List D → M D) := fun n => if n = 8 then some m_good_units else (fun n => if n = 10 then some m_closest_unit else (fun n => if n = 11 then some m_accept_times else (fun n => if n = 12 then some m_accept_none else (fun _ => none) n) n) n) n
abbrev s__law_asked : Stmt := top 35
def b__law_asked : FS := (tryWS (seqS (ifS (valB (op2 dLt (op1 dLen (var 1)) (cst (.int 3)))) (retS (iteE (valB (op2 dEq (op1 dLen (var 1)) (cst (.int 1)))) (lstE (consA (callV disp 0 (consA (op2 dIxA (var 1) (cst (.int 0))) nilA)) nilA)) (lstE (consA (callV disp 0 (consA (op2 dIxA (var 1) (cst (.int 0))) (consA (op2 dIxA (var 1) (cst (.int 1))) nilA))) nilA)))) skipS)
  (seqS (ifS (valB (op2 dLt (op1 dLen (var 1)) (cst (.int 5)))) (retS (iteE (valB (op2 dEq (op1 dLen (var 1)) (cst (.int 3)))) (lstE (consA (callV disp 0 (consA (op2 dIxA (var 1) (cst (.int 0))) (consA (op2 dIxA (var 1) (cst (.int 1))) (consA (op2 dIxA (var 1) (cst (.int 2))) nilA)))) nilA)) (lstE (consA (callV disp 0 (consA (op2 dIxA (var 1) (cst (.int 0))) (consA (op2 dIxA (var 1) (cst (.int 1))) (consA (op2 dIxA (var 1) (cst (.int 2))) (consA (op2 dIxA (var 1) (cst (.int 3))) nilA))))) nilA)))) skipS)
  (seqS (ifS (valB (op2 dLt (op1 dLen (var 1)) (cst (.int 7)))) (retS (iteE (valB (op2 dEq (op1 dLen (var 1)) (cst (.int 5)))) (lstE (consA (callV disp 0 (consA (op2 dIxA (var 1) (cst (.int 0))) (consA (op2 dIxA (var 1) (cst (.int 1))) (consA (op2 dIxA (var 1) (cst (.int 2))) (consA (op2 dIxA (var 1) (cst (.int 3))) (consA (op2 dIxA (var 1) (cst (.int 4))) nilA)))))) nilA)) (lstE (consA (callV disp 0 (consA (op2 dIxA (var 1) (cst (.int 0))) (consA (op2 dIxA (var 1) (cst (.int 1))) (consA (op2 dIxA (var 1) (cst (.int 2))) (consA (op2 dIxA (var 1) (cst (.int 3))) (consA (op2 dIxA (var 1) (cst (.int 4))) (consA (op2 dIxA (var 1) (cst (.int 5))) nilA))))))) nilA)))) skipS)
  (retS (lstE (consA (callV disp 0 (consA (op2 dIxA (var 1) (cst (.int 0))) (consA (op2 dIxA (var 1) (cst (.int 1))) (consA (op2 dIxA (var 1) (cst (.int 2))) (consA (op2 dIxA (var 1) (cst (.int 3))) (consA (op2 dIxA (var 1) (cst (.int 4))) (consA (op2 dIxA (var 1) (cst (.int 5))) (consA (op2 dIxA (var 1) (cst (.int 6))) nilA)))))))) nilA)))))) wdW)
def m__law_asked : List D → M D := fnD 2 3 b__law_asked
theorem sc__law_asked : FnScope ["way", "some", "error"] ["way", "some"] (defScope s__law_asked) := ⟨rfl, rfl, rfl, by decide +kernel, rfl, by decide +kernel, by decide +kernel⟩
def d__law_asked : He.DefD := ⟨("_law_asked", none), "_law_asked", "_law_asked", defArgs s__law_asked, defBody s__law_asked, defScope s__law_asked, [], []⟩
abbrev s__law_shown : Stmt := top 36
def b__law_shown : FS := (seqS (asgS 3 (lcE (itS (var 2)) (tgT [(tgN 4), (tgN 5)]) yesB (callE m__law_asked (consA (var 0) (consA (op2 dAdd (var 1) (var 4)) nilA))) [4, 5]))
  (retS (callE m__law_same (consA (var 3) (consA (lcE (itS (var 2)) (tgT [(tgN 4), (tgN 5)]) yesB (iteE (valB (op2 dIs (var 5) (cst .non))) (lstE (consA (cst .non) nilA)) (var 5)) [4, 5]) nilA)))))
def m__law_shown : List D → M D := fnD 3 6 b__law_shown
theorem sc__law_shown : FnScope ["way", "ahead", "papers", "heard", "paper", "word"] ["way", "ahead", "papers"] (defScope s__law_shown) := ⟨rfl, rfl, rfl, by decide +kernel, rfl, by decide +kernel, by decide +kernel⟩
def d__law_shown : He.DefD := ⟨("_law_shown", none), "_law_shown", "_law_shown", defArgs s__law_shown, defBody s__law_shown, defScope s__law_shown, [], []⟩
abbrev s__law_near : Stmt := top 37
def b__law_near : FS := (seqS (asgS 2 (op1 dMaxX (lstE (consA (cst (.int 1)) (consA (op2 dSub (op2 dDiv (var 0) (var 1)) (cst (.int 1))) nilA)))))
  (retS (op2 dIxA (op1 dMinY (lcE (itR2 (var 2) (op2 dAdd (var 2) (cst (.int 4)))) (tgN 3) yesB (tupE (consA (op1 dAbs (op2 dSub (var 0) (op2 dMulX (var 3) (var 1)))) (consA (var 3) nilA))) [3])) (cst (.int 1)))))
def m__law_near : List D → M D := fnD 2 4 b__law_near
theorem sc__law_near : FnScope ["weight", "unit", "low", "times"] ["weight", "unit"] (defScope s__law_near) := ⟨rfl, rfl, rfl, by decide +kernel, rfl, by decide +kernel, by decide +kernel⟩
def d__law_near : He.DefD := ⟨("_law_near", none), "_law_near", "_law_near", defArgs s__law_near, defBody s__law_near, defScope s__law_near, [], []⟩
abbrev s__law_gap : Stmt := top 38
def b__law_gap : FS := (retS (op1 dAbs (op2 dSub (var 0) (op2 dMulX (callE m__law_near (consA (var 0) (consA (var 1) nilA))) (var 1)))))
def m__law_gap : List D → M D := fnD 2 2 b__law_gap
theorem sc__law_gap : FnScope ["weight", "unit"] ["weight", "unit"] (defScope s__law_gap) := ⟨rfl, rfl, rfl, by decide +kernel, rfl, by decide +kernel, by decide +kernel⟩
def d__law_gap : He.DefD := ⟨("_law_gap", none), "_law_gap", "_law_gap", defArgs s__law_gap, defBody s__law_gap, defScope s__law_gap, [], []⟩
abbrev s__law_weights : Stmt := top 39
def b__law_weights : FS := (seqS (parS 3 4 (op2 dAdd (cst (.int 1)) (callE m__law_draw (consA (var 0) (consA (callE m__law_pick (consA (var 0) (consA (lstE (consA (cst (.int 9)) (consA (cst (.int 60)) (consA (cst (.int 900)) nilA)))) nilA))) nilA)))) (callE m__law_draw (consA (var 0) (consA (callE m__law_pick (consA (var 0) (consA (lstE (consA (cst (.int 2)) (consA (cst (.int 6)) nilA))) nilA))) nilA))))
  (seqS (asgOS 1 (lstE nilA))
  (seqS (forS (itR1 (op2 dAdd (cst (.int 1)) (callE m__law_draw (consA (var 0) (consA (cst (.int 6)) nilA))))) (tgN 2) (seqS (asgS 5 (op2 dSub (op2 dAdd (op2 dMulX (op2 dAdd (cst (.int 1)) (callE m__law_draw (consA (var 0) (consA (cst (.int 9)) nilA)))) (var 3)) (callE m__law_draw (consA (var 0) (consA (op2 dAdd (op2 dMulX (cst (.int 2)) (var 4)) (cst (.int 1))) nilA)))) (var 4)))
  (appS 1 (iteE (valB (op2 dGt (callE m__law_draw (consA (var 0) (consA (cst (.int 8)) nilA))) (cst (.int 0)))) (op1 dMinY (lstE (consA (cst (.int 100000)) (consA (op1 dMaxX (lstE (consA (cst (.int 1)) (consA (var 5) nilA)))) nilA)))) (op2 dAdd (cst (.int 1)) (callE m__law_draw (consA (var 0) (consA (cst (.int 400)) nilA))))))))
  (retS (tupE (consA (op1 dTuple (varB 1)) (consA (var 3) (consA (var 4) nilA))))))))
def m__law_weights : List D → M D := fnD 1 6 b__law_weights
theorem sc__law_weights : FnScope ["state", "rows", "k", "unit", "slack", "own"] ["state"] (defScope s__law_weights) := ⟨rfl, rfl, rfl, by decide +kernel, rfl, by decide +kernel, by decide +kernel⟩
def d__law_weights : He.DefD := ⟨("_law_weights", none), "_law_weights", "_law_weights", defArgs s__law_weights, defBody s__law_weights, defScope s__law_weights, [], []⟩
abbrev s__law_is_off : Stmt := top 40
def b__law_is_off : FS := (seqS (asgS 4 (op2 dDiv (var 0) (var 3)))
  (retS (andE (orE (op2 dEq (var 4) (cst (.int 0))) (op2 dGt (op2 dSub (var 0) (op2 dMulX (var 4) (var 3))) (var 1))) (op2 dGt (op2 dSub (op2 dMulX (op2 dAdd (var 4) (cst (.int 1))) (var 2)) (var 0)) (var 1)))))
def m__law_is_off : List D → M D := fnD 4 5 b__law_is_off
theorem sc__law_is_off : FnScope ["weight", "slack", "first", "last", "times"] ["weight", "slack", "first", "last"] (defScope s__law_is_off) := ⟨rfl, rfl, rfl, by decide +kernel, rfl, by decide +kernel, by decide +kernel⟩
def d__law_is_off : He.DefD := ⟨("_law_is_off", none), "_law_is_off", "_law_is_off", defArgs s__law_is_off, defBody s__law_is_off, defScope s__law_is_off, [], []⟩
abbrev s__law_rows : Stmt := top 41
def b__law_rows : FS := (seqS (parOV 4 5 (lstE nilA) (var 2))
  (seqS (whileS (valB (op2 dLe (var 5) (var 3))) (seqS (asgOS 6 (lstE nilA))
  (seqS (forS (itR1 (op1 dLen (var 0))) (tgN 7) (seqS (asgS 8 (op2 dSub (var 5) (cst (.int 1))))
  (seqS (whileS (andB (valB (op2 dLt (var 8) (var 3))) (truB (callE m__law_is_off (consA (op2 dIxA (var 0) (var 7)) (consA (var 1) (consA (var 5) (consA (op2 dAdd (var 8) (cst (.int 1))) nilA))))))) (asgS 8 (op2 dAdd (var 8) (cst (.int 1)))) W0)
  (appS 6 (tupE (consA (op2 dSub (cst (.int 0)) (var 8)) (consA (var 7) nilA)))))))
  (seqS (parS 8 7 (op2 dSub (cst (.int 0)) (op2 dIxA (op1 dMinY (varB 6)) (cst (.int 0)))) (op2 dIxA (op1 dMinY (varB 6)) (cst (.int 1))))
  (seqS (ifS (valB (op2 dLt (var 8) (var 5))) (retS (cst .non)) skipS)
  (seqS (appS 4 (tupE (consA (var 7) (consA (var 5) (consA (var 8) nilA)))))
  (asgS 5 (op2 dAdd (var 8) (cst (.int 1))))))))) W0)
  (retS (op1 dTuple (varB 4)))))
def m__law_rows : List D → M D := fnD 4 9 b__law_rows
theorem sc__law_rows : FnScope ["weights", "slack", "low", "high", "rows", "first", "ends", "at", "last"] ["weights", "slack", "low", "high"] (defScope s__law_rows) := ⟨rfl, rfl, rfl, by decide +kernel, rfl, by decide +kernel, by decide +kernel⟩
def d__law_rows : He.DefD := ⟨("_law_rows", none), "_law_rows", "_law_rows", defArgs s__law_rows, defBody s__law_rows, defScope s__law_rows, [], []⟩
abbrev s__law_papers_hold : Stmt := top 43
def b__law_papers_hold : FS := (seqS (asgS 8 (notE (lcE (itR1 (op1 dLen (var 1))) (tgN 12) (valB (op2 dGt (op1 dAbs (op2 dSub (op2 dIxA (var 1) (var 12)) (op2 dMulX (op2 dIxA (var 4) (var 12)) (var 3)))) (var 2))) (var 12) [12])))
  (seqS (asgS 9 (op2 dAdd (slcX (var 4) noP (partP (op1 dNeg (cst (.int 1))))) (tupE (consA (op2 dAdd (op2 dIxA (var 4) (op1 dNeg (cst (.int 1)))) (cst (.int 1))) nilA))))
  (seqS (asgS 10 (iteE (truB (lcE (itR1 (op1 dLen (var 1))) (tgN 12) (valB (op2 dGt (op1 dAbs (op2 dSub (op2 dIxA (var 1) (var 12)) (op2 dMulX (op2 dIxA (var 9) (var 12)) (var 3)))) (var 2))) (var 12) [12])) (cst (.str "paper weight")) (cst .non)))
  (seqS (asgOS 11 (lstE (consA (tupE (consA (lstE (consA (var 4) nilA)) (consA (iteE (truB (var 8)) (cst .non) (cst (.str "paper weight"))) nilA))) (consA (tupE (consA (lstE (consA (slcX (var 4) noP (partP (op1 dNeg (cst (.int 1))))) nilA)) (consA (cst (.str "paper form")) nilA))) (consA (tupE (consA (lstE (consA (op2 dAdd (slcX (var 4) noP (partP (op1 dNeg (cst (.int 1))))) (tupE (consA (cst (.int 0)) nilA))) nilA)) (consA (cst (.str "paper form")) nilA))) (consA (tupE (consA (lstE (consA (op2 dAdd (slcX (var 4) noP (partP (op1 dNeg (cst (.int 1))))) (tupE (consA (cst (.bl true)) nilA))) nilA)) (consA (cst (.str "paper form")) nilA))) (consA (tupE (consA (lstE (consA (var 9) nilA)) (consA (var 10) nilA))) nilA)))))))
  (seqS (frzS 11 (ifS (notB (truB (callE m__law_shown (consA (fnE 11) (consA (lstE (consA (var 1) (consA (var 2) (consA (var 3) nilA)))) (consA (var 11) nilA)))))) (retS (cst (.bl false))) skipS))
  (seqS (ifS (valB (op2 dIs (var 7) (cst .non))) (seqS (asgS 13 (tupE (consA (tupE (consA (cst (.int 0)) (consA (var 5) (consA (var 6) nilA)))) nilA)))
  (retS (callE m__law_shown (consA (fnE 12) (consA (lstE (consA (var 1) (consA (var 2) (consA (var 5) (consA (var 6) nilA))))) (consA (lstE (consA (tupE (consA (lstE (consA (var 13) nilA)) (consA (cst (.str "paper off")) nilA))) (consA (tupE (consA (lstE (consA (tupE (consA (tupE (consA (cst (.int 0)) (consA (var 5) (consA (op2 dAdd (var 6) (cst (.int 1))) nilA)))) nilA)) nilA)) (consA (cst (.str "paper run")) nilA))) (consA (tupE (consA (lstE (consA (tupE (consA (tupE (consA (op1 dLen (var 1)) (consA (var 5) (consA (var 6) nilA)))) nilA)) nilA)) (consA (cst (.str "paper form")) nilA))) nilA)))) nilA)))))) skipS)
  (seqS (asgT (tgT [(tgN 14), (tgN 15), (tgN 16)]) (op2 dIxA (var 7) (op1 dNeg (cst (.int 1)))))
  (seqS (asgOS 11 (lstE (consA (tupE (consA (lstE (consA (var 7) nilA)) (consA (cst .non) nilA))) (consA (tupE (consA (lstE (consA (slcX (var 7) noP (partP (op1 dNeg (cst (.int 1))))) nilA)) (consA (cst (.str "paper run")) nilA))) (consA (tupE (consA (lstE (consA (op2 dAdd (slcX (var 7) noP (partP (op1 dNeg (cst (.int 1))))) (tupE (consA (tupE (consA (var 14) (consA (var 15) (consA (op2 dAdd (var 16) (cst (.int 1))) nilA)))) nilA))) nilA)) (consA (cst (.str "paper run")) nilA))) (consA (tupE (consA (lstE (consA (op2 dAdd (slcX (var 7) noP (partP (op1 dNeg (cst (.int 1))))) (tupE (consA (tupE (consA (var 14) (consA (var 15) (consA (cst (.bl true)) nilA)))) nilA))) nilA)) (consA (cst (.str "paper form")) nilA))) nilA))))))
  (seqS (asgOS 11 (op2 dCat (varB 11) (lstE (consA (tupE (consA (lstE (consA (op2 dAdd (slcX (var 7) noP (partP (op1 dNeg (cst (.int 1))))) (tupE (consA (tupE (consA (op1 dLen (var 1)) (consA (var 15) (consA (var 16) nilA)))) nilA))) nilA)) (consA (cst (.str "paper form")) nilA))) nilA))))
  (seqS (forS (itR1 (op1 dLen (var 1))) (tgN 12) (appS 11 (tupE (consA (lstE (consA (op2 dAdd (slcX (var 7) noP (partP (op1 dNeg (cst (.int 1))))) (tupE (consA (tupE (consA (var 12) (consA (var 15) (consA (var 16) nilA)))) nilA))) nilA)) (consA (iteE (truB (callE m__law_is_off (consA (op2 dIxA (var 1) (var 12)) (consA (var 2) (consA (var 15) (consA (var 16) nilA)))))) (cst .non) (cst (.str "paper off"))) nilA)))))
  (seqS (ifS (valB (op2 dGt (op1 dLen (var 7)) (cst (.int 1)))) (appS 11 (tupE (consA (lstE (consA (op2 dAdd (slcX (var 7) noP (partP (op1 dNeg (cst (.int 2))))) (tupE (consA (tupE (consA (op2 dIxA (op2 dIxA (var 7) (op1 dNeg (cst (.int 2)))) (cst (.int 0))) (consA (op2 dIxA (op2 dIxA (var 7) (op1 dNeg (cst (.int 2)))) (cst (.int 1))) (consA (var 16) nilA)))) nilA))) nilA)) (consA (iteE (truB (callE m__law_is_off (consA (op2 dIxA (var 1) (op2 dIxA (op2 dIxA (var 7) (op1 dNeg (cst (.int 2)))) (cst (.int 0)))) (consA (var 2) (consA (op2 dIxA (op2 dIxA (var 7) (op1 dNeg (cst (.int 2)))) (cst (.int 1))) (consA (var 16) nilA)))))) (cst .non) (cst (.str "paper off"))) nilA)))) skipS)
  (frzS 11 (retS (callE m__law_shown (consA (fnE 12) (consA (lstE (consA (var 1) (consA (var 2) (consA (var 5) (consA (var 6) nilA))))) (consA (var 11) nilA)))))))))))))))))
def m__law_papers_hold : List D → M D := fnD 8 17 b__law_papers_hold
theorem sc__law_papers_hold : FnScope ["state", "weights", "slack", "unit", "times", "low", "high", "rows", "right", "last", "word", "papers", "k", "lone", "at", "first", "end"] ["state", "weights", "slack", "unit", "times", "low", "high", "rows"] (defScope s__law_papers_hold) := ⟨rfl, rfl, rfl, by decide +kernel, rfl, by decide +kernel, by decide +kernel⟩
def d__law_papers_hold : He.DefD := ⟨("_law_papers_hold", none), "_law_papers_hold", "_law_papers_hold", defArgs s__law_papers_hold, defBody s__law_papers_hold, defScope s__law_papers_hold, [], []⟩
abbrev s__law_units_hold : Stmt := top 42
def b__law_units_hold : FS := (seqS (asgT (tgT [(tgN 13), (tgN 14), (tgN 2)]) (callE m__law_weights (consA (var 0) nilA)))
  (seqS (asgS 1 (callE m__law_pick (consA (var 0) (consA (lstE (consA (var 14) (consA (op1 dMaxX (lstE (consA (cst (.int 1)) (consA (op2 dSub (var 14) (cst (.int 1))) nilA)))) (consA (op2 dAdd (cst (.int 1)) (callE m__law_draw (consA (var 0) (consA (cst (.int 100)) nilA)))) nilA)))) nilA))))
  (seqS (asgS 2 (callE m__law_pick (consA (var 0) (consA (lstE (consA (var 2) (consA (var 2) (consA (callE m__law_draw (consA (var 0) (consA (cst (.int 20)) nilA))) (consA (cst (.int 0)) nilA))))) nilA))))
  (seqS (asgS 3 (op1 dTuple (lcE (itS (var 13)) (tgN 16) yesB (callE m__law_near (consA (var 16) (consA (var 1) nilA))) [16])))
  (seqS (asgS 4 (lcE (itR1 (op1 dLen (var 13))) (tgN 15) (valB (op2 dGt (op1 dAbs (op2 dSub (op2 dIxA (var 13) (var 15)) (op2 dMulX (op2 dIxA (var 3) (var 15)) (var 1)))) (var 2))) (var 15) [15]))
  (seqS (asgS 5 (iteE (truB (var 4)) (tupE (consA (cst (.str "off")) (consA (op2 dIxA (var 4) (cst (.int 0))) (consA (op2 dSub (op2 dIxA (var 13) (op2 dIxA (var 4) (cst (.int 0)))) (op2 dMulX (op2 dIxA (var 3) (op2 dIxA (var 4) (cst (.int 0)))) (var 1))) nilA)))) (tupE (consA (cst (.str "fits")) (consA (var 3) nilA)))))
  (seqS (asgS 6 (op2 dAdd (cst (.int 1)) (callE m__law_draw (consA (var 0) (consA (callE m__law_pick (consA (var 0) (consA (lstE (consA (cst (.int 5)) (consA (cst (.int 60)) nilA))) nilA))) nilA)))))
  (seqS (asgS 7 (op2 dAdd (var 6) (callE m__law_draw (consA (var 0) (consA (callE m__law_pick (consA (var 0) (consA (lstE (consA (cst (.int 4)) (consA (cst (.int 60)) nilA))) nilA))) nilA)))))
  (seqS (asgS 8 (op1 dTuple (lcE (itR2 (var 6) (op2 dAdd (var 7) (cst (.int 1)))) (tgN 15) (notB (truB (lcE (itS (var 13)) (tgN 16) (valB (op2 dGt (callE m__law_gap (consA (var 16) (consA (var 15) nilA))) (var 2))) (var 16) [16]))) (var 15) [15])))
  (seqS (asgS 9 (op1 dMinY (lcE (itR2 (var 6) (op2 dAdd (var 7) (cst (.int 1)))) (tgN 15) yesB (tupE (consA (op1 dMaxX (lcE (itS (var 13)) (tgN 16) yesB (callE m__law_gap (consA (var 16) (consA (var 15) nilA))) [16])) (consA (op2 dSub (cst (.int 0)) (var 15)) nilA))) [15])))
  (seqS (asgS 10 (iteE (valB (op2 dLt (op1 dMinY (var 13)) (cst (.int 3000)))) (op1 dMaxX (lcE (itR2 (cst (.int 1)) (op2 dAdd (op1 dMinY (var 13)) (cst (.int 1)))) (tgN 15) (notB (truB (lcE (itS (var 13)) (tgN 16) (valB (op2 dGt (op2 dMod (op1 dInt (var 16)) (var 15)) (cst (.int 0)))) (var 16) [16]))) (var 15) [15])) (callE m_common_unit (consA (var 13) nilA))))
  (seqS (asgS 11 (lstE (consA (callE m_judge_unit (consA (var 13) (consA (var 2) (consA (var 1) nilA)))) (consA (callE m_off_weights (consA (var 13) (consA (var 2) (consA (var 1) nilA)))) (consA (callE m_good_units (consA (var 13) (consA (var 2) (consA (var 6) (consA (var 7) nilA))))) (consA (callE m_greatest_unit (consA (var 13) (consA (var 2) (consA (var 6) (consA (var 7) nilA))))) nilA))))))
  (seqS (asgS 11 (op2 dAdd (var 11) (lstE (consA (callE m_closest_unit (consA (var 13) (consA (var 6) (consA (var 7) nilA)))) (consA (callE m_common_unit (consA (var 13) nilA)) nilA)))))
  (seqS (ifS (notB (truB (callE m__law_same (consA (var 11) (consA (lstE (consA (var 5) (consA (op1 dTuple (var 4)) (consA (var 8) (consA (iteE (truB (var 8)) (op2 dIxA (var 8) (op1 dNeg (cst (.int 1)))) (cst .non)) (consA (tupE (consA (op2 dIxA (var 9) (cst (.int 0))) (consA (op2 dSub (cst (.int 0)) (op2 dIxA (var 9) (cst (.int 1)))) nilA))) (consA (var 10) nilA))))))) nilA))))) (retS (cst (.bl false))) skipS)
  (seqS (asgS 12 (callE m__law_rows (consA (var 13) (consA (var 2) (consA (var 6) (consA (var 7) nilA))))))
  (seqS (ifS (orB (valB (op2 dNe (op2 dIs (var 12) (cst .non)) (op2 dNe (var 8) (tupE nilA)))) (notB (truB (callE m__law_same (consA (callE m_rows_against (consA (var 13) (consA (var 2) (consA (var 6) (consA (var 7) nilA))))) (consA (var 12) nilA)))))) (retS (cst (.bl false))) skipS)
  (retS (callE m__law_papers_hold (consA (var 0) (consA (var 13) (consA (var 2) (consA (var 1) (consA (var 3) (consA (var 6) (consA (var 7) (consA (var 12) nilA))))))))))))))))))))))))))
def m__law_units_hold : List D → M D := fnD 1 17 b__law_units_hold
theorem sc__law_units_hold : FnScope ["state", "own", "slack", "times", "off", "due", "low", "high", "good", "close", "common", "told", "rows", "weights", "unit", "k", "weight"] ["state"] (defScope s__law_units_hold) := ⟨rfl, rfl, rfl, by decide +kernel, rfl, by decide +kernel, by decide +kernel⟩
def d__law_units_hold : He.DefD := ⟨("_law_units_hold", none), "_law_units_hold", "_law_units_hold", defArgs s__law_units_hold, defBody s__law_units_hold, defScope s__law_units_hold, [], []⟩
abbrev s__law_great_holds : Stmt := top 44
def b__law_great_holds : FS := (seqS (asgS 1 (op2 dAddP (cst (.int 50001)) (callE m__law_draw (consA (var 0) (consA (cst (.int 49999)) nilA)))))
  (seqS (asgS 2 (op2 dAddP (op2 dMulP (tpxE (consA (cst (.int 100000)) nilA)) (cst (.int 59))) (tpxE (consA (var 1) nilA))))
  (seqS (asgS 3 (op1 dMinY (lstE (consA (op2 dSub (cst (.int 100000)) (var 1)) (consA (op1 dAbs (op2 dSub (cst (.int 100000)) (op2 dMulP (cst (.int 2)) (var 1)))) nilA)))))
  (seqS (asgS 4 (lstE (consA (callE m_judge_unit (consA (var 2) (consA (var 3) (consA (var 1) nilA)))) (consA (callE m_common_unit (consA (tpxE (consA (cst (.int 100000)) (consA (cst (.int 99999)) nilA))) nilA)) (consA (callE m_common_unit (consA (op2 dMulP (tpxE (consA (cst (.int 100000)) nilA)) (cst (.int 60))) nilA)) (consA (callE m_judge_unit (consA (tpxE (consA (cst (.int 1)) nilA)) (consA (cst (.int 99999)) (consA (cst (.int 100000)) nilA)))) (consA (callE m_judge_unit (consA (tpxE (consA (cst (.int 1)) nilA)) (consA (cst (.int 99998)) (consA (cst (.int 100000)) nilA)))) nilA)))))))
  (seqS (asgS 5 (iteE (valB (op2 dLe (op2 dSub (cst (.int 100000)) (var 1)) (op2 dSub (op2 dMulP (cst (.int 2)) (var 1)) (cst (.int 100000))))) (cst (.int 1)) (cst (.int 2))))
  (seqS (ifS (notB (truB (callE m__law_same (consA (var 4) (consA (lstE (consA (tpxE (consA (cst (.str "fits")) (consA (op2 dAddP (op2 dMulP (tpxE (consA (var 5) nilA)) (cst (.int 59))) (tpxE (consA (cst (.int 1)) nilA))) nilA))) (consA (cst (.int 1)) (consA (cst (.int 100000)) (consA (tpxE (consA (cst (.str "fits")) (consA (tpxE (consA (cst (.int 1)) nilA)) nilA))) (consA (tpxE (consA (cst (.str "off")) (consA (cst (.int 0)) (consA (op1 dNeg (cst (.int 99999))) nilA)))) nilA)))))) nilA))))) (retS (cst (.bl false))) skipS)
  (seqS (asgS 6 (op2 dAddP (cst (.int 1)) (callE m__law_draw (consA (var 0) (consA (cst (.int 80000)) nilA)))))
  (seqS (asgS 4 (lstE (consA (callE m__law_asked (consA (fnE 8) (consA (lstE (consA (tpxE (consA (cst (.int 100000)) nilA)) (consA (cst (.int 0)) (consA (var 6) (consA (op2 dAddP (var 6) (cst (.int 19999))) nilA))))) nilA))) (consA (callE m__law_asked (consA (fnE 8) (consA (lstE (consA (tpxE (consA (cst (.int 100000)) nilA)) (consA (cst (.int 0)) (consA (var 6) (consA (op2 dAddP (var 6) (cst (.int 20000))) nilA))))) nilA))) (consA (callE m__law_asked (consA (fnE 10) (consA (lstE (consA (tpxE (consA (cst (.int 5)) (consA (cst (.int 6)) nilA))) (consA (var 6) (consA (op2 dAddP (var 6) (cst (.int 10000))) nilA)))) nilA))) nilA)))))
  (seqS (asgS 7 (op1 dTuple (lcE (itS (lstE (consA (cst (.int 1)) (consA (cst (.int 2)) (consA (cst (.int 4)) (consA (cst (.int 5)) (consA (cst (.int 8)) (consA (cst (.int 10)) (consA (cst (.int 16)) (consA (cst (.int 20)) (consA (cst (.int 25)) (consA (cst (.int 32)) (consA (cst (.int 40)) (consA (cst (.int 50)) (consA (cst (.int 80)) (consA (cst (.int 100)) (consA (cst (.int 125)) (consA (cst (.int 160)) (consA (cst (.int 200)) (consA (cst (.int 250)) (consA (cst (.int 400)) (consA (cst (.int 500)) (consA (cst (.int 625)) (consA (cst (.int 800)) (consA (cst (.int 1000)) (consA (cst (.int 1250)) (consA (cst (.int 2000)) (consA (cst (.int 2500)) (consA (cst (.int 3125)) (consA (cst (.int 4000)) nilA)))))))))))))))))))))))))))))) (tgN 8) (valB (chn2 dLe dLe (var 6) (var 8) (op2 dAddP (var 6) (cst (.int 19999))))) (var 8) [8])))
  (seqS (asgS 7 (op2 dAddP (var 7) (op1 dTuple (lcE (itS (lstE (consA (cst (.int 5000)) (consA (cst (.int 6250)) (consA (cst (.int 10000)) (consA (cst (.int 12500)) (consA (cst (.int 20000)) (consA (cst (.int 25000)) (consA (cst (.int 50000)) (consA (cst (.int 100000)) nilA)))))))))) (tgN 8) (valB (chn2 dLe dLe (var 6) (var 8) (op2 dAddP (var 6) (cst (.int 19999))))) (var 8) [8]))))
  (retS (callE m__law_same (consA (var 4) (consA (lstE (consA (lstE (consA (var 7) nilA)) (consA (cst (.str "many units")) (consA (cst (.str "many units")) nilA)))) nilA))))))))))))))
def m__law_great_holds : List D → M D := fnD 1 9 b__law_great_holds
theorem sc__law_great_holds : FnScope ["state", "unit", "weights", "gap", "told", "times", "low", "due", "k"] ["state"] (defScope s__law_great_holds) := ⟨rfl, rfl, rfl, by decide +kernel, rfl, by decide +kernel, by decide +kernel⟩
def d__law_great_holds : He.DefD := ⟨("_law_great_holds", none), "_law_great_holds", "_law_great_holds", defArgs s__law_great_holds, defBody s__law_great_holds, defScope s__law_great_holds, [], []⟩
abbrev s_law : Stmt := top 45
def b_law : FS := (seqS (mkS 1 m__law_start (consA (var 0) nilA))
  (seqS (ifS (valB (op2 dEq (callE m__law_draw (consA (var 1) (consA (cst (.int 8)) nilA))) (cst (.int 0)))) (retS (callE m__law_great_holds (consA (var 1) nilA))) skipS)
  (seqS (forS (itR1 (cst (.int 3))) (tgN 2) (ifS (notB (truB (callE m__law_units_hold (consA (var 1) nilA)))) (retS (cst (.bl false))) skipS))
  (retS (cst (.bl true))))))
def m_law : List D → M D := fnD 1 3 b_law
theorem sc_law : FnScope ["script", "state", "turn"] ["script"] (defScope s_law) := ⟨rfl, rfl, rfl, by decide +kernel, rfl, by decide +kernel, by decide +kernel⟩
def d_law : He.DefD := ⟨("law", none), "law", "law", defArgs s_law, defBody s_law, defScope s_law, [], []⟩
def nm : Nat → Str
  | 0 => "is_integer"
  | 1 => "check_weights"
  | 2 => "check_slack"
  | 3 => "check_unit"
  | 4 => "nearest"
  | 5 => "judge_unit"
  | 6 => "check_range"
  | 7 => "is_good"
  | 8 => "good_units"
  | 9 => "greatest_unit"
  | 10 => "closest_unit"
  | 11 => "accept_times"
  | 12 => "accept_none"
  | 14 => "far"
  | 13 => "rows_against"
  | 15 => "common_unit"
  | 16 => "off_weights"
  | 17 => "_law_start"
  | 18 => "_law_draw"
  | 19 => "_law_pick"
  | 20 => "_law_same"
  | 21 => "_law_word"
  | 22 => "_law_asked"
  | 23 => "_law_shown"
  | 24 => "_law_near"
  | 25 => "_law_gap"
  | 26 => "_law_weights"
  | 27 => "_law_is_off"
  | 28 => "_law_rows"
  | 30 => "_law_papers_hold"
  | 29 => "_law_units_hold"
  | 31 => "_law_great_holds"
  | 32 => "law"
  | _ => ""
abbrev ad (K : PySem.W.Frag) (n : Nat) : Addr := He.ga K (nm n)
abbrev fd (K : PySem.W.Frag) (n : Nat) : FuncData := fdA K (ad K n)
structure Tx (P : Program) (K : PySem.W.Frag) (mg : Str → Option Value) : Prop where
  F_is_integer : FunD K "is_integer" "is_integer" (defArgs s_is_integer) (defBody s_is_integer) (defScope s_is_integer) [] [] (ad K 0) (fd K 0)
  b_is_integer : Binds K (fd K 0) ["value"] []
  g_is_integer : mg "is_integer" = some (.ref (ad K 0))
  F_check_weights : FunD K "check_weights" "check_weights" (defArgs s_check_weights) (defBody s_check_weights) (defScope s_check_weights) [] [] (ad K 1) (fd K 1)
  b_check_weights : Binds K (fd K 1) ["weights"] []
  g_check_weights : mg "check_weights" = some (.ref (ad K 1))
  F_check_slack : FunD K "check_slack" "check_slack" (defArgs s_check_slack) (defBody s_check_slack) (defScope s_check_slack) [] [] (ad K 2) (fd K 2)
  b_check_slack : Binds K (fd K 2) ["slack"] []
  g_check_slack : mg "check_slack" = some (.ref (ad K 2))
  F_check_unit : FunD K "check_unit" "check_unit" (defArgs s_check_unit) (defBody s_check_unit) (defScope s_check_unit) [.str "unit"] [] (ad K 3) (fd K 3)
  b_check_unit : Binds K (fd K 3) ["unit", "reason"] []
  bd_check_unit : ∃ t, Binds K (fd K 3) ["unit", "reason"] [.str "unit" t]
  g_check_unit : mg "check_unit" = some (.ref (ad K 3))
  F_nearest : FunD K "nearest" "nearest" (defArgs s_nearest) (defBody s_nearest) (defScope s_nearest) [] [] (ad K 4) (fd K 4)
  b_nearest : Binds K (fd K 4) ["weight", "unit"] []
  g_nearest : mg "nearest" = some (.ref (ad K 4))
  F_judge_unit : FunD K "judge_unit" "judge_unit" (defArgs s_judge_unit) (defBody s_judge_unit) (defScope s_judge_unit) [] [] (ad K 5) (fd K 5)
  b_judge_unit : Binds K (fd K 5) ["weights", "slack", "unit"] []
  g_judge_unit : mg "judge_unit" = some (.ref (ad K 5))
  F_check_range : FunD K "check_range" "check_range" (defArgs s_check_range) (defBody s_check_range) (defScope s_check_range) [] [] (ad K 6) (fd K 6)
  b_check_range : Binds K (fd K 6) ["weights", "slack", "low", "high"] []
  g_check_range : mg "check_range" = some (.ref (ad K 6))
  F_is_good : FunD K "is_good" "is_good" (defArgs s_is_good) (defBody s_is_good) (defScope s_is_good) [] [] (ad K 7) (fd K 7)
  b_is_good : Binds K (fd K 7) ["weights", "slack", "unit"] []
  g_is_good : mg "is_good" = some (.ref (ad K 7))
  F_good_units : FunD K "good_units" "good_units" (defArgs s_good_units) (defBody s_good_units) (defScope s_good_units) [] [] (ad K 8) (fd K 8)
  b_good_units : Binds K (fd K 8) ["weights", "slack", "low", "high"] []
  g_good_units : mg "good_units" = some (.ref (ad K 8))
  F_greatest_unit : FunD K "greatest_unit" "greatest_unit" (defArgs s_greatest_unit) (defBody s_greatest_unit) (defScope s_greatest_unit) [] [] (ad K 9) (fd K 9)
  b_greatest_unit : Binds K (fd K 9) ["weights", "slack", "low", "high"] []
  g_greatest_unit : mg "greatest_unit" = some (.ref (ad K 9))
  F_closest_unit : FunD K "closest_unit" "closest_unit" (defArgs s_closest_unit) (defBody s_closest_unit) (defScope s_closest_unit) [] [] (ad K 10) (fd K 10)
  b_closest_unit : Binds K (fd K 10) ["weights", "low", "high"] []
  g_closest_unit : mg "closest_unit" = some (.ref (ad K 10))
  F_accept_times : FunD K "accept_times" "accept_times" (defArgs s_accept_times) (defBody s_accept_times) (defScope s_accept_times) [] [] (ad K 11) (fd K 11)
  b_accept_times : Binds K (fd K 11) ["weights", "slack", "unit", "times"] []
  g_accept_times : mg "accept_times" = some (.ref (ad K 11))
  F_accept_none : FunD K "accept_none" "accept_none" (defArgs s_accept_none) (defBody s_accept_none) (defScope s_accept_none) [] [] (ad K 12) (fd K 12)
  b_accept_none : Binds K (fd K 12) ["weights", "slack", "low", "high", "rows"] []
  g_accept_none : mg "accept_none" = some (.ref (ad K 12))
  F_far : FunD K "far" "far" (defArgs s_far) (defBody s_far) (defScope s_far) [] [] (ad K 14) (fd K 14)
  b_far : Binds K (fd K 14) ["weight", "slack", "unit"] []
  g_far : mg "far" = some (.ref (ad K 14))
  F_rows_against : FunD K "rows_against" "rows_against" (defArgs s_rows_against) (defBody s_rows_against) (defScope s_rows_against) [] [] (ad K 13) (fd K 13)
  b_rows_against : Binds K (fd K 13) ["weights", "slack", "low", "high"] []
  g_rows_against : mg "rows_against" = some (.ref (ad K 13))
  F_common_unit : FunD K "common_unit" "common_unit" (defArgs s_common_unit) (defBody s_common_unit) (defScope s_common_unit) [] [] (ad K 15) (fd K 15)
  b_common_unit : Binds K (fd K 15) ["weights"] []
  g_common_unit : mg "common_unit" = some (.ref (ad K 15))
  F_off_weights : FunD K "off_weights" "off_weights" (defArgs s_off_weights) (defBody s_off_weights) (defScope s_off_weights) [] [] (ad K 16) (fd K 16)
  b_off_weights : Binds K (fd K 16) ["weights", "slack", "unit"] []
  g_off_weights : mg "off_weights" = some (.ref (ad K 16))
  F__law_start : FunD K "_law_start" "_law_start" (defArgs s__law_start) (defBody s__law_start) (defScope s__law_start) [] [] (ad K 17) (fd K 17)
  b__law_start : Binds K (fd K 17) ["script"] []
  g__law_start : mg "_law_start" = some (.ref (ad K 17))
  F__law_draw : FunD K "_law_draw" "_law_draw" (defArgs s__law_draw) (defBody s__law_draw) (defScope s__law_draw) [] [] (ad K 18) (fd K 18)
  b__law_draw : Binds K (fd K 18) ["state", "many"] []
  g__law_draw : mg "_law_draw" = some (.ref (ad K 18))
  F__law_pick : FunD K "_law_pick" "_law_pick" (defArgs s__law_pick) (defBody s__law_pick) (defScope s__law_pick) [] [] (ad K 19) (fd K 19)
  b__law_pick : Binds K (fd K 19) ["state", "some"] []
  g__law_pick : mg "_law_pick" = some (.ref (ad K 19))
  F__law_same : FunD K "_law_same" "_law_same" (defArgs s__law_same) (defBody s__law_same) (defScope s__law_same) [] [] (ad K 20) (fd K 20)
  b__law_same : Binds K (fd K 20) ["actual", "due"] []
  g__law_same : mg "_law_same" = some (.ref (ad K 20))
  F__law_word : FunD K "_law_word" "_law_word" (defArgs s__law_word) (defBody s__law_word) (defScope s__law_word) [] [] (ad K 21) (fd K 21)
  b__law_word : Binds K (fd K 21) ["error"] []
  g__law_word : mg "_law_word" = some (.ref (ad K 21))
  F__law_asked : FunD K "_law_asked" "_law_asked" (defArgs s__law_asked) (defBody s__law_asked) (defScope s__law_asked) [] [] (ad K 22) (fd K 22)
  b__law_asked : Binds K (fd K 22) ["way", "some"] []
  g__law_asked : mg "_law_asked" = some (.ref (ad K 22))
  F__law_shown : FunD K "_law_shown" "_law_shown" (defArgs s__law_shown) (defBody s__law_shown) (defScope s__law_shown) [] [] (ad K 23) (fd K 23)
  b__law_shown : Binds K (fd K 23) ["way", "ahead", "papers"] []
  g__law_shown : mg "_law_shown" = some (.ref (ad K 23))
  F__law_near : FunD K "_law_near" "_law_near" (defArgs s__law_near) (defBody s__law_near) (defScope s__law_near) [] [] (ad K 24) (fd K 24)
  b__law_near : Binds K (fd K 24) ["weight", "unit"] []
  g__law_near : mg "_law_near" = some (.ref (ad K 24))
  F__law_gap : FunD K "_law_gap" "_law_gap" (defArgs s__law_gap) (defBody s__law_gap) (defScope s__law_gap) [] [] (ad K 25) (fd K 25)
  b__law_gap : Binds K (fd K 25) ["weight", "unit"] []
  g__law_gap : mg "_law_gap" = some (.ref (ad K 25))
  F__law_weights : FunD K "_law_weights" "_law_weights" (defArgs s__law_weights) (defBody s__law_weights) (defScope s__law_weights) [] [] (ad K 26) (fd K 26)
  b__law_weights : Binds K (fd K 26) ["state"] []
  g__law_weights : mg "_law_weights" = some (.ref (ad K 26))
  F__law_is_off : FunD K "_law_is_off" "_law_is_off" (defArgs s__law_is_off) (defBody s__law_is_off) (defScope s__law_is_off) [] [] (ad K 27) (fd K 27)
  b__law_is_off : Binds K (fd K 27) ["weight", "slack", "first", "last"] []
  g__law_is_off : mg "_law_is_off" = some (.ref (ad K 27))
  F__law_rows : FunD K "_law_rows" "_law_rows" (defArgs s__law_rows) (defBody s__law_rows) (defScope s__law_rows) [] [] (ad K 28) (fd K 28)
  b__law_rows : Binds K (fd K 28) ["weights", "slack", "low", "high"] []
  g__law_rows : mg "_law_rows" = some (.ref (ad K 28))
  F__law_papers_hold : FunD K "_law_papers_hold" "_law_papers_hold" (defArgs s__law_papers_hold) (defBody s__law_papers_hold) (defScope s__law_papers_hold) [] [] (ad K 30) (fd K 30)
  b__law_papers_hold : Binds K (fd K 30) ["state", "weights", "slack", "unit", "times", "low", "high", "rows"] []
  g__law_papers_hold : mg "_law_papers_hold" = some (.ref (ad K 30))
  F__law_units_hold : FunD K "_law_units_hold" "_law_units_hold" (defArgs s__law_units_hold) (defBody s__law_units_hold) (defScope s__law_units_hold) [] [] (ad K 29) (fd K 29)
  b__law_units_hold : Binds K (fd K 29) ["state"] []
  g__law_units_hold : mg "_law_units_hold" = some (.ref (ad K 29))
  F__law_great_holds : FunD K "_law_great_holds" "_law_great_holds" (defArgs s__law_great_holds) (defBody s__law_great_holds) (defScope s__law_great_holds) [] [] (ad K 31) (fd K 31)
  b__law_great_holds : Binds K (fd K 31) ["state"] []
  g__law_great_holds : mg "_law_great_holds" = some (.ref (ad K 31))
  F_law : FunD K "law" "law" (defArgs s_law) (defBody s_law) (defScope s_law) [] [] (ad K 32) (fd K 32)
  b_law : Binds K (fd K 32) ["script"] []
  g_law : mg "law" = some (.ref (ad K 32))
  c_MAX_COINS : ∃ t, mg "MAX_COINS" = some (.int 60 t)
  c_MAX_UNIT : ∃ t, mg "MAX_UNIT" = some (.int 100000 t)
  c_MAX_LOOKED : ∃ t, mg "MAX_LOOKED" = some (.int 20000 t)
  z_isinstance : mg "isinstance" = none
  z_bool : mg "bool" = none
  z_int : mg "int" = none
  z_len : mg "len" = none
  z_tuple : mg "tuple" = none
  z_super : mg "super" = none
  z_all : mg "all" = none
  z_max : mg "max" = none
  z_abs : mg "abs" = none
  z_enumerate : mg "enumerate" = none
  z_range : mg "range" = none
  z_min : mg "min" = none
  z_zip : mg "zip" = none
  z_list : mg "list" = none
  z_repr : mg "repr" = none
  z_str : mg "str" = none
  htop : (P.main.scope.names.lookup ("super" : Str)).isSome = false
  x_FindError : mg "FindError" = some (.ref (caK K 0))
  x_ArgumentError : mg "ArgumentError" = some (.ref (caK K 1))
  x_PaperError : mg "PaperError" = some (.ref (caK K 2))
  x_TooMany : mg "TooMany" = some (.ref (caK K 3))
  x_TextError : mg "TextError" = some (.ref (caK K 4))
  x_CabinetError : mg "CabinetError" = some (.ref (caK K 5))
  e_ArgumentError : ErrC K P.main.file (caK K 1) (fldN 1)
  e_TooMany : ErrC K P.main.file (caK K 3) (fldN 3)
  e_PaperError : ErrC K P.main.file (caK K 2) (fldN 2)
  wd : WordK K mg (caK K)
  exm : ∀ j, j < 4 → PySem.W.exmOne K (.ref (caK K j)) (.ref (caK K 5)) = some true
section
variable {P : Program} {w : World} {K : PySem.W.Frag} {mg : Str → Option Value} {base : Heap}
abbrev cn (K : PySem.W.Frag) : Cn := ⟨fun n => some (ad K n), caK K, fldN⟩
theorem ok_is_integer (T : Tx P K mg) : FnG P w K mg base (L2.CX P w) 2 (ad K 0) (fd K 0) ["value"] (spM K (cn K) m_is_integer) :=
  fn_miniDD T.F_is_integer sc_is_integer fun cdv A outer s H E hr gd => (ms_one (ms_ret (me_and (me_isi' (T := "int") T.z_isinstance T.z_int (b_of (me_varL (i := 0)))) (me_one (me_not (b_of (me_isi' (T := "bool") T.z_isinstance T.z_bool (b_of (me_varL (i := 0))))))))))
theorem ok_check_weights (T : Tx P K mg) : FnG P w K mg base (L2.CX P w) 3 (ad K 1) (fd K 1) ["weights"] (spM K (cn K) m_check_weights) :=
  fn_miniDD T.F_check_weights sc_check_weights fun cdv A outer s H E hr gd => (ms_cons (ms_if (PW.pt (mw_or (mt_not (mt_tru' (b_of (me_isi' (T := "tuple") T.z_isinstance T.z_tuple (b_of (me_varL (i := 0))))))) (mw_or1 (mt_not (mt_chain op_leAll op_leAll m_leAll m_leAll (b_of me_int) (b_of (me_bl1' cr_lenAll u_len T.z_len (b_of (me_varL (i := 0))))) (b_of (me_gint' T.c_MAX_COINS))))))) (ms_one (ms_raise' T.e_ArgumentError T.htop (hr.mono (by decide)) rfl tk_body T.x_ArgumentError T.z_super me_str)) ms_nil)
  (ms_one (ms_if (mt_not (mt_tru' (b_of (me_bl1' (cr_all rfl) u_all T.z_all (b_ofO (me_lc rfl sc_check_weights.nd (mi_seq (me_varL (i := 0))) (blk_ok (own := [("own", 1)]) (by kernel_rfl)) (fun _ _ _ _ _ => (mg_nameL (i := 1) sc_check_weights.nd)) (fun _ _ _ _ _ => mts_nil) (fun _ _ _ _ _ => (me_and (me_call' (ok_is_integer T) (hr.mono (by decide)) gd T.g_is_integer T.F_is_integer.kp T.b_is_integer passL (ma_cons' (me_varL (i := 1)) ma_nil)) (me_one (me_chain op_leAll op_leAll m_leAll m_leAll (b_of me_int) (b_of (me_varL (i := 1))) (b_of (me_gint' T.c_MAX_UNIT)))))))))))) (ms_one (ms_raise' T.e_ArgumentError T.htop (hr.mono (by decide)) rfl tk_body T.x_ArgumentError T.z_super me_str)) ms_nil)))
theorem ok_check_slack (T : Tx P K mg) : FnG P w K mg base (L2.CX P w) 3 (ad K 2) (fd K 2) ["slack"] (spM K (cn K) m_check_slack) :=
  fn_miniDD T.F_check_slack sc_check_slack fun cdv A outer s H E hr gd => (ms_one (ms_if (PW.pt (mw_or (mt_not (mt_tru' (b_of (me_call' (ok_is_integer T) (hr.mono (by decide)) gd T.g_is_integer T.F_is_integer.kp T.b_is_integer ps_body (ma_cons' (me_varL (i := 0)) ma_nil))))) (mw_or1 (mt_not (mt_chain op_leAll op_leAll m_leAll m_leAll (b_of me_int) (b_of (me_varL (i := 0))) (b_of (me_gint' T.c_MAX_UNIT))))))) (ms_one (ms_raise' T.e_ArgumentError T.htop (hr.mono (by decide)) rfl tk_body T.x_ArgumentError T.z_super me_str)) ms_nil))
theorem ok_check_unit (T : Tx P K mg) : FnG P w K mg base (L2.CX P w) 3 (ad K 3) (fd K 3) ["unit", "reason"] (spM K (cn K) m_check_unit) :=
  fn_miniDD T.F_check_unit sc_check_unit fun cdv A outer s H E hr gd => (ms_one (ms_if (PW.pt (mw_or (mt_not (mt_tru' (b_of (me_call' (ok_is_integer T) (hr.mono (by decide)) gd T.g_is_integer T.F_is_integer.kp T.b_is_integer ps_body (ma_cons' (me_varL (i := 0)) ma_nil))))) (mw_or1 (mt_not (mt_chain op_leAll op_leAll m_leAll m_leAll (b_of me_int) (b_of (me_varL (i := 0))) (b_of (me_gint' T.c_MAX_UNIT))))))) (ms_one (ms_raise' T.e_ArgumentError T.htop (hr.mono (by decide)) rfl tk_body T.x_ArgumentError T.z_super (me_varL (i := 1)))) ms_nil))
theorem ok_nearest (T : Tx P K mg) : FnG P w K mg base (L2.CX P w) 2 (ad K 4) (fd K 4) ["weight", "unit"] (spM K (cn K) m_nearest) :=
  fn_miniDD T.F_nearest sc_nearest fun cdv A outer s H E hr gd => (ms_cons (ms_setL (i := 2) sc_nearest.nd (me_bl2' (call_max2 rfl) m_max2 T.z_max (b_of me_int) (b_of (me_bin op_fdivW m_div (b_of (me_varL (i := 0))) (b_of (me_varL (i := 1)))))))
  (ms_one (ms_ret (me_ite (mt_cmp op_leAll m_leAll (b_of (me_bl1' call_abs u_abs T.z_abs (b_of (me_bin op_sub m_sub (b_of (me_varL (i := 0))) (b_of (me_bin op_mulAll m_mulAll (b_of (me_varL (i := 2))) (b_of (me_varL (i := 1))))))))) (b_of (me_bl1' call_abs u_abs T.z_abs (b_of (me_bin op_sub m_sub (b_of (me_varL (i := 0))) (b_of (me_bin op_mulAll m_mulAll (b_of (me_bin op_addAll m_add (b_of (me_varL (i := 2))) (b_of me_int))) (b_of (me_varL (i := 1))))))))) (nomark _)) (me_varL (i := 2)) (me_bin op_addAll m_add (b_of (me_varL (i := 2))) (b_of me_int))))))
theorem ok_judge_unit (T : Tx P K mg) : FnG P w K mg base (L2.CX P w) 4 (ad K 5) (fd K 5) ["weights", "slack", "unit"] (spM K (cn K) m_judge_unit) :=
  fn_miniDD T.F_judge_unit sc_judge_unit fun cdv A outer s H E hr gd => (ms_cons (ms_expr (me_call' (ok_check_weights T) (hr.mono (by decide)) gd T.g_check_weights T.F_check_weights.kp T.b_check_weights ps_body (ma_cons' (me_varL (i := 0)) ma_nil)))
  (ms_cons (ms_expr (me_call' (ok_check_slack T) (hr.mono (by decide)) gd T.g_check_slack T.F_check_slack.kp T.b_check_slack ps_body (ma_cons' (me_varL (i := 1)) ma_nil)))
  (ms_cons (ms_expr (me_callS' (by decide +kernel) (ok_check_unit T) (hr.mono (by decide)) gd T.g_check_unit T.F_check_unit.kp T.bd_check_unit ps_body (ma_cons' (me_varC (i := 2)) ma_nil)))
  (ms_cons (ms_setLc (i := 3) rfl sc_judge_unit.nd rfl (by kernel_rfl) (sw_t rfl (by kernel_rfl) rfl (by kernel_rfl)) (mi_seq (me_varL (i := 0))) (blk_ok (own := [("own", 5)]) (by kernel_rfl)) (fun _ _ _ _ _ => (mg_nameL (i := 5) sc_judge_unit.nd)) (fun _ _ _ _ _ => mts_nil) (fun _ _ _ _ _ => (me_call' (ok_nearest T) (hr.mono (by decide)) gd T.g_nearest T.F_nearest.kp T.b_nearest passL (ma_cons' (me_varL (i := 5)) (ma_cons' (me_varC (i := 2)) ma_nil)))))
  (ms_cons (ms_for (us := [4, 5]) ps_own rfl (mi_enumX' T.z_enumerate (me_varL (i := 0))) (mg_tup rfl (mgs_cons' (mg_nameL (i := 4) sc_judge_unit.nd) (mgs_cons' (mg_nameL (i := 5) sc_judge_unit.nd) mgs_nil))) (ms_one (ms_if (mt_cmp op_gtAll m_gtAll (b_of (me_bl1' call_abs u_abs T.z_abs (b_of (me_bin op_sub m_sub (b_of (me_varL (i := 5))) (b_of (me_bin op_mulAll m_mulAll (b_of (me_ix (ix_all hr) m_ixAll (b_of (me_varL (i := 3))) (b_of (me_varL (i := 4))) (fun _ _ => rfl))) (b_of (me_varC (i := 2))))))))) (b_of (me_varL (i := 1))) (nomark _)) (ms_one (ms_ret (me_tup (ma_cons' me_str (ma_cons' (me_varL (i := 4)) (ma_cons' (me_bin op_sub m_sub (b_of (me_varL (i := 5))) (b_of (me_bin op_mulAll m_mulAll (b_of (me_ix (ix_all hr) m_ixAll (b_of (me_varL (i := 3))) (b_of (me_varL (i := 4))) (fun _ _ => rfl))) (b_of (me_varC (i := 2)))))) ma_nil)))))) ms_nil)))
  (ms_one (ms_ret (me_tup (ma_cons' me_str (ma_cons' (me_ty1' call_tuple_of u_tuple T.z_tuple (b_of (me_varL (i := 3)))) ma_nil))))))))))
theorem ok_check_range (T : Tx P K mg) : FnG P w K mg base (L2.CX P w) 4 (ad K 6) (fd K 6) ["weights", "slack", "low", "high"] (spM K (cn K) m_check_range) :=
  fn_miniDD T.F_check_range sc_check_range fun cdv A outer s H E hr gd => (ms_cons (ms_expr (me_call' (ok_check_weights T) (hr.mono (by decide)) gd T.g_check_weights T.F_check_weights.kp T.b_check_weights ps_body (ma_cons' (me_varL (i := 0)) ma_nil)))
  (ms_cons (ms_expr (me_call' (ok_check_slack T) (hr.mono (by decide)) gd T.g_check_slack T.F_check_slack.kp T.b_check_slack ps_body (ma_cons' (me_varL (i := 1)) ma_nil)))
  (ms_cons (ms_expr (me_call' (ok_check_unit T) (hr.mono (by decide)) gd T.g_check_unit T.F_check_unit.kp T.b_check_unit ps_body (ma_cons' (me_varL (i := 2)) (ma_cons' me_str ma_nil))))
  (ms_cons (ms_expr (me_call' (ok_check_unit T) (hr.mono (by decide)) gd T.g_check_unit T.F_check_unit.kp T.b_check_unit ps_body (ma_cons' (me_varL (i := 3)) (ma_cons' me_str ma_nil))))
  (ms_cons (ms_if (mt_cmp op_gtAll m_gtAll (b_of (me_varL (i := 2))) (b_of (me_varL (i := 3))) (nomark _)) (ms_one (ms_raise' T.e_ArgumentError T.htop (hr.mono (by decide)) rfl tk_body T.x_ArgumentError T.z_super me_str)) ms_nil)
  (ms_one (ms_if (mt_cmp op_gtAll m_gtAll (b_of (me_bin op_mulAll m_mulAll (b_of (me_bin op_addAll m_add (b_of (me_bin op_sub m_sub (b_of (me_varL (i := 3))) (b_of (me_varL (i := 2))))) (b_of me_int))) (b_of (me_bl1' cr_lenAll u_len T.z_len (b_of (me_varL (i := 0))))))) (b_of (me_gint' T.c_MAX_LOOKED)) (nomark _)) (ms_one (ms_raise' T.e_TooMany T.htop (hr.mono (by decide)) rfl tk_body T.x_TooMany T.z_super me_str)) ms_nil)))))))
theorem ok_is_good (T : Tx P K mg) : FnG P w K mg base (L2.CX P w) 3 (ad K 7) (fd K 7) ["weights", "slack", "unit"] (spM K (cn K) m_is_good) :=
  fn_miniDD T.F_is_good sc_is_good fun cdv A outer s H E hr gd => (ms_one (ms_ret (me_not (b_ofO (me_lc rfl sc_is_good.nd (mi_seq (me_varL (i := 0))) (blk_ok (own := [("own", 3)]) (by kernel_rfl)) (fun _ _ _ _ _ => (mg_nameL (i := 3) sc_is_good.nd)) (fun _ _ _ _ _ => (mts_one (mt_cmp op_gtAll m_gtAll (b_of (me_bl1' call_abs u_abs T.z_abs (b_of (me_bin op_sub m_sub (b_of (me_varL (i := 3))) (b_of (me_bin op_mulAll m_mulAll (b_of (me_call' (ok_nearest T) (hr.mono (by decide)) gd T.g_nearest T.F_nearest.kp T.b_nearest passL (ma_cons' (me_varL (i := 3)) (ma_cons' (me_varC (i := 2)) ma_nil)))) (b_of (me_varC (i := 2))))))))) (b_of (me_varC (i := 1))) (nomark _)))) (fun _ _ _ _ _ => (me_varL (i := 3))))))))
theorem ok_good_units (T : Tx P K mg) : FnG P w K mg base (L2.CX P w) 5 (ad K 8) (fd K 8) ["weights", "slack", "low", "high"] (spM K (cn K) m_good_units) :=
  fn_miniDD T.F_good_units sc_good_units fun cdv A outer s H E hr gd => (ms_cons (ms_expr (me_call' (ok_check_range T) (hr.mono (by decide)) gd T.g_check_range T.F_check_range.kp T.b_check_range ps_body (ma_cons' (me_varC (i := 0)) (ma_cons' (me_varC (i := 1)) (ma_cons' (me_varL (i := 2)) (ma_cons' (me_varL (i := 3)) ma_nil))))))
  (ms_one (ms_ret (me_ty1' call_tuple_of u_tuple T.z_tuple (b_ofO (me_lc rfl sc_good_units.nd (mi_rng2' T.z_range (me_varL (i := 2)) (me_bin op_addAll m_add (b_of (me_varL (i := 3))) (b_of me_int))) (blk_ok (own := [("unit", 4)]) (by kernel_rfl)) (fun _ _ _ _ _ => (mg_nameL (i := 4) sc_good_units.nd)) (fun _ _ _ _ _ => (mts_one (mt_tru' (b_of (me_call' (ok_is_good T) (hr.mono (by decide)) gd T.g_is_good T.F_is_good.kp T.b_is_good passL (ma_cons' (me_varC (i := 0)) (ma_cons' (me_varC (i := 1)) (ma_cons' (me_varL (i := 4)) ma_nil)))))))) (fun _ _ _ _ _ => (me_varL (i := 4)))))))))
theorem ok_greatest_unit (T : Tx P K mg) : FnG P w K mg base (L2.CX P w) 6 (ad K 9) (fd K 9) ["weights", "slack", "low", "high"] (spM K (cn K) m_greatest_unit) :=
  fn_miniDD T.F_greatest_unit sc_greatest_unit fun cdv A outer s H E hr gd => (ms_cons (ms_setL (i := 4) sc_greatest_unit.nd (me_call' (ok_good_units T) (hr.mono (by decide)) gd T.g_good_units T.F_good_units.kp T.b_good_units ps_body (ma_cons' (me_varL (i := 0)) (ma_cons' (me_varL (i := 1)) (ma_cons' (me_varL (i := 2)) (ma_cons' (me_varL (i := 3)) ma_nil))))))
  (ms_one (ms_ret (me_ite (mt_tru' (b_of (me_varL (i := 4)))) (me_ix (ix_all hr) m_ixAll (b_of (me_varL (i := 4))) (b_of (me_un un_neg un_negM (b_of me_int))) (fun _ _ => rfl)) me_non))))
theorem ok_closest_unit (T : Tx P K mg) : FnG P w K mg base (L2.CX P w) 5 (ad K 10) (fd K 10) ["weights", "low", "high"] (spM K (cn K) m_closest_unit) :=
  fn_miniDD T.F_closest_unit sc_closest_unit fun cdv A outer s H E hr gd => (ms_cons (ms_expr (me_call' (ok_check_range T) (hr.mono (by decide)) gd T.g_check_range T.F_check_range.kp T.b_check_range ps_body (ma_cons' (me_varC (i := 0)) (ma_cons' me_int (ma_cons' (me_varL (i := 1)) (ma_cons' (me_varL (i := 2)) ma_nil))))))
  (ms_cons (ms_setLc (i := 3) rfl sc_closest_unit.nd rfl (by kernel_rfl) (sw_t rfl (by kernel_rfl) rfl (by kernel_rfl)) (mi_rng2' T.z_range (me_varL (i := 1)) (me_bin op_addAll m_add (b_of (me_varL (i := 2))) (b_of me_int))) (blk_ok (own := [("unit", 5)]) (by kernel_rfl)) (fun _ _ _ _ _ => (mg_nameC (i := 5) sc_closest_unit.nd)) (fun _ _ _ _ _ => mts_nil) (fun _ _ _ _ _ => (me_tup (ma_cons' (me_bl1' (cr_maxX hr rfl) u_maxX T.z_max (b_ofO (me_lc rfl sc_closest_unit.nd (mi_seq (me_varC (i := 0))) (blk_ok (own := [("own", 6)]) (by kernel_rfl)) (fun _ _ _ _ _ => (mg_nameL (i := 6) sc_closest_unit.nd)) (fun _ _ _ _ _ => mts_nil) (fun _ _ _ _ _ => (me_bl1' call_abs u_abs T.z_abs (b_of (me_bin op_sub m_sub (b_of (me_varL (i := 6))) (b_of (me_bin op_mulAll m_mulAll (b_of (me_call' (ok_nearest T) (hr.mono (by decide)) gd T.g_nearest T.F_nearest.kp T.b_nearest passL (ma_cons' (me_varL (i := 6)) (ma_cons' (me_varC (i := 5)) ma_nil)))) (b_of (me_varC (i := 5)))))))))))) (ma_cons' (me_un un_neg un_negM (b_of (me_varC (i := 5)))) ma_nil)))))
  (ms_cons (ms_asg (us := [4, 5]) (me_bl1' (cr_minY hr rfl) u_minY T.z_min (b_of (me_varL (i := 3)))) (mg_tup rfl (mgs_cons' (mg_nameL (i := 4) sc_closest_unit.nd) (mgs_cons' (mg_nameL (i := 5) sc_closest_unit.nd) mgs_nil))))
  (ms_one (ms_ret (me_tup (ma_cons' (me_varL (i := 4)) (ma_cons' (me_un un_neg un_negM (b_of (me_varL (i := 5)))) ma_nil))))))))
theorem ok_accept_times (T : Tx P K mg) : FnG P w K mg base (L2.CX P w) 4 (ad K 11) (fd K 11) ["weights", "slack", "unit", "times"] (spM K (cn K) m_accept_times) :=
  fn_miniDD T.F_accept_times sc_accept_times fun cdv A outer s H E hr gd => (ms_cons (ms_expr (me_call' (ok_check_weights T) (hr.mono (by decide)) gd T.g_check_weights T.F_check_weights.kp T.b_check_weights ps_body (ma_cons' (me_varL (i := 0)) ma_nil)))
  (ms_cons (ms_expr (me_call' (ok_check_slack T) (hr.mono (by decide)) gd T.g_check_slack T.F_check_slack.kp T.b_check_slack ps_body (ma_cons' (me_varC (i := 1)) ma_nil)))
  (ms_cons (ms_expr (me_callS' (by decide +kernel) (ok_check_unit T) (hr.mono (by decide)) gd T.g_check_unit T.F_check_unit.kp T.bd_check_unit ps_body (ma_cons' (me_varC (i := 2)) ma_nil)))
  (ms_cons (ms_if (PW.pt (mw_or (mt_not (mt_tru' (b_of (me_isi' (T := "tuple") T.z_isinstance T.z_tuple (b_of (me_varL (i := 3))))))) (mw_or1 (mt_cmp (op_neD hr.units) m_ne (b_of (me_bl1' cr_lenAll u_len T.z_len (b_of (me_varL (i := 3))))) (b_of (me_bl1' cr_lenAll u_len T.z_len (b_of (me_varL (i := 0))))) (nomark _))))) (ms_one (ms_raise' T.e_PaperError T.htop (hr.mono (by decide)) rfl tk_body T.x_PaperError T.z_super me_str)) ms_nil)
  (ms_cons (ms_if (mt_not (mt_tru' (b_of (me_bl1' (cr_all rfl) u_all T.z_all (b_ofO (me_lc rfl sc_accept_times.nd (mi_seq (me_varL (i := 3))) (blk_ok (own := [("own", 4)]) (by kernel_rfl)) (fun _ _ _ _ _ => (mg_nameL (i := 4) sc_accept_times.nd)) (fun _ _ _ _ _ => mts_nil) (fun _ _ _ _ _ => (me_and (me_call' (ok_is_integer T) (hr.mono (by decide)) gd T.g_is_integer T.F_is_integer.kp T.b_is_integer passL (ma_cons' (me_varL (i := 4)) ma_nil)) (me_one (me_cmp op_geAll m_geAll (b_of (me_varL (i := 4))) (b_of me_int) (nomark _))))))))))) (ms_one (ms_raise' T.e_PaperError T.htop (hr.mono (by decide)) rfl tk_body T.x_PaperError T.z_super me_str)) ms_nil)
  (ms_one (ms_if (mt_tru' (b_ofO (me_lc rfl sc_accept_times.nd (mi_zipX' T.z_zip (me_varL (i := 0)) (me_varL (i := 3))) (blk_ok (own := [("own", 4), ("many", 5)]) (by kernel_rfl)) (fun _ _ _ _ _ => (mg_tup rfl (mgs_cons' (mg_nameL (i := 4) sc_accept_times.nd) (mgs_cons' (mg_nameL (i := 5) sc_accept_times.nd) mgs_nil)))) (fun _ _ _ _ _ => (mts_one (mt_cmp op_gtAll m_gtAll (b_of (me_bl1' call_abs u_abs T.z_abs (b_of (me_bin op_sub m_sub (b_of (me_varL (i := 4))) (b_of (me_bin op_mulAll m_mulAll (b_of (me_varL (i := 5))) (b_of (me_varC (i := 2))))))))) (b_of (me_varC (i := 1))) (nomark _)))) (fun _ _ _ _ _ => me_int)))) (ms_one (ms_raise' T.e_PaperError T.htop (hr.mono (by decide)) rfl tk_body T.x_PaperError T.z_super me_str)) ms_nil)))))))
theorem ok_accept_none (T : Tx P K mg) : FnG P w K mg base (L2.CX P w) 5 (ad K 12) (fd K 12) ["weights", "slack", "low", "high", "rows"] (spM K (cn K) m_accept_none) :=
  fn_miniDD T.F_accept_none sc_accept_none fun cdv A outer s H E hr gd => (ms_cons (ms_expr (me_call' (ok_check_range T) (hr.mono (by decide)) gd T.g_check_range T.F_check_range.kp T.b_check_range ps_body (ma_cons' (me_varC (i := 0)) (ma_cons' (me_varL (i := 1)) (ma_cons' (me_varL (i := 2)) (ma_cons' (me_varL (i := 3)) ma_nil))))))
  (ms_cons (ms_if (PW.pt (mw_or (mt_not (mt_tru' (b_of (me_isi' (T := "tuple") T.z_isinstance T.z_tuple (b_of (me_varL (i := 4))))))) (mw_or1 (mt_not (mt_tru' (b_of (me_bl1' (cr_all rfl) u_all T.z_all (b_ofO (me_lc rfl sc_accept_none.nd (mi_seq (me_varL (i := 4))) (blk_ok (own := [("row", 11)]) (by kernel_rfl)) (fun _ _ _ _ _ => (mg_nameL (i := 11) sc_accept_none.nd)) (fun _ _ _ _ _ => mts_nil) (fun _ _ _ _ _ => (me_and (me_isi' (T := "tuple") T.z_isinstance T.z_tuple (b_of (me_varL (i := 11)))) (me_one (me_cmp (op_eqD hr.units) m_eq (b_of (me_bl1' cr_lenAll u_len T.z_len (b_of (me_varL (i := 11))))) (b_of me_int) (nomark _)))))))))))))) (ms_one (ms_raise' T.e_PaperError T.htop (hr.mono (by decide)) rfl tk_body T.x_PaperError T.z_super me_str)) ms_nil)
  (ms_cons (ms_if (mt_not (mt_tru' (b_of (me_bl1' (cr_all rfl) u_all T.z_all (b_ofO (me_lc2 rfl sc_accept_none.nd (mi_seq (me_varL (i := 4))) (blk_ok (own := [("row", 11), ("own", 9)]) (by kernel_rfl)) (by decide) (fun _ _ _ _ _ => (mg_nameL (i := 11) sc_accept_none.nd)) (fun _ _ _ _ _ => mts_nil) (fun _ _ _ _ _ => (mi_seq (me_varL (i := 11)))) (fun _ _ _ _ _ => (mg_nameL (i := 9) sc_accept_none.nd)) (fun _ _ _ _ _ => mts_nil) (fun _ _ _ _ _ => (me_call' (ok_is_integer T) (hr.mono (by decide)) gd T.g_is_integer T.F_is_integer.kp T.b_is_integer passL (ma_cons' (me_varL (i := 9)) ma_nil))))))))) (ms_one (ms_raise' T.e_PaperError T.htop (hr.mono (by decide)) rfl tk_body T.x_PaperError T.z_super me_str)) ms_nil)
  (ms_cons (ms_if (mt_tru' (b_ofO (me_lc rfl sc_accept_none.nd (mi_seq (me_varL (i := 4))) (blk_ok (own := [("at", 6), ("first", 7), ("last", 8)]) (by kernel_rfl)) (fun _ _ _ _ _ => (mg_tup rfl (mgs_cons' (mg_nameL (i := 6) sc_accept_none.nd) (mgs_cons' (mg_nameL (i := 7) sc_accept_none.nd) (mgs_cons' (mg_nameL (i := 8) sc_accept_none.nd) mgs_nil))))) (fun _ _ _ _ _ => (mts_one (mt_not (mt_chain op_leAll op_ltAll m_leAll m_ltAll (b_of me_int) (b_of (me_varL (i := 6))) (b_of (me_bl1' cr_lenAll u_len T.z_len (b_of (me_varC (i := 0))))))))) (fun _ _ _ _ _ => (me_varL (i := 6)))))) (ms_one (ms_raise' T.e_PaperError T.htop (hr.mono (by decide)) rfl tk_body T.x_PaperError T.z_super me_str)) ms_nil)
  (ms_cons (ms_setL (i := 5) sc_accept_none.nd (me_varL (i := 2)))
  (ms_cons (ms_for (us := [6, 7, 8]) ps_own rfl (mi_seq (me_varL (i := 4))) (mg_tup rfl (mgs_cons' (mg_nameL (i := 6) sc_accept_none.nd) (mgs_cons' (mg_nameL (i := 7) sc_accept_none.nd) (mgs_cons' (mg_nameL (i := 8) sc_accept_none.nd) mgs_nil)))) (ms_cons (ms_if (PW.pt (mw_or (mt_cmp (op_neD hr.units) m_ne (b_of (me_varL (i := 7))) (b_of (me_varL (i := 5))) (nomark _)) (mw_or1 (mt_cmp op_ltAll m_ltAll (b_of (me_varL (i := 8))) (b_of (me_varL (i := 7))) (nomark _))))) (ms_one (ms_raise' T.e_PaperError T.htop (hr.mono (by decide)) rfl tk_body T.x_PaperError T.z_super me_str)) ms_nil)
  (ms_one (ms_setL (i := 5) sc_accept_none.nd (me_bin op_addAll m_add (b_of (me_varL (i := 8))) (b_of me_int))))))
  (ms_cons (ms_if (mt_cmp (op_neD hr.units) m_ne (b_of (me_varL (i := 5))) (b_of (me_bin op_addAll m_add (b_of (me_varL (i := 3))) (b_of me_int))) (nomark _)) (ms_one (ms_raise' T.e_PaperError T.htop (hr.mono (by decide)) rfl tk_body T.x_PaperError T.z_super me_str)) ms_nil)
  (ms_one (ms_for (us := [6, 7, 8]) ps_own rfl (mi_seq (me_varL (i := 4))) (mg_tup rfl (mgs_cons' (mg_nameL (i := 6) sc_accept_none.nd) (mgs_cons' (mg_nameL (i := 7) sc_accept_none.nd) (mgs_cons' (mg_nameL (i := 8) sc_accept_none.nd) mgs_nil)))) (ms_cons (ms_setL (i := 9) sc_accept_none.nd (me_ix (ix_all hr) m_ixAll (b_of (me_varC (i := 0))) (b_of (me_varL (i := 6))) (fun _ _ => rfl)))
  (ms_cons (ms_setL (i := 10) sc_accept_none.nd (me_bin op_fdivW m_div (b_of (me_varL (i := 9))) (b_of (me_varL (i := 8)))))
  (ms_one (ms_if (PW.pt (mw_or (PW.pt (mw_and (mt_cmp op_gtAll m_gtAll (b_of (me_varL (i := 10))) (b_of me_int) (nomark _)) (mw_and1 (mt_cmp op_leAll m_leAll (b_of (me_bin op_sub m_sub (b_of (me_varL (i := 9))) (b_of (me_bin op_mulAll m_mulAll (b_of (me_varL (i := 10))) (b_of (me_varL (i := 8))))))) (b_of (me_varL (i := 1))) (nomark _))))) (mw_or1 (mt_cmp op_leAll m_leAll (b_of (me_bin op_sub m_sub (b_of (me_bin op_mulAll m_mulAll (b_of (me_bin op_addAll m_add (b_of (me_varL (i := 10))) (b_of me_int))) (b_of (me_varL (i := 7))))) (b_of (me_varL (i := 9))))) (b_of (me_varL (i := 1))) (nomark _))))) (ms_one (ms_raise' T.e_PaperError T.htop (hr.mono (by decide)) rfl tk_body T.x_PaperError T.z_super me_str)) ms_nil)))))))))))))
theorem ok_far (T : Tx P K mg) : FnG P w K mg base (L2.CX P w) 3 (ad K 14) (fd K 14) ["weight", "slack", "unit"] (spM K (cn K) m_far) :=
  fn_miniDD T.F_far sc_far fun cdv A outer s H E hr gd => (ms_cons (ms_if (mt_cmp op_leAll m_leAll (b_of (me_bl1' call_abs u_abs T.z_abs (b_of (me_bin op_sub m_sub (b_of (me_varL (i := 0))) (b_of (me_bin op_mulAll m_mulAll (b_of (me_call' (ok_nearest T) (hr.mono (by decide)) gd T.g_nearest T.F_nearest.kp T.b_nearest ps_body (ma_cons' (me_varL (i := 0)) (ma_cons' (me_varL (i := 2)) ma_nil)))) (b_of (me_varL (i := 2))))))))) (b_of (me_varL (i := 1))) (nomark _)) (ms_one (ms_ret (me_bin op_sub m_sub (b_of (me_varL (i := 2))) (b_of me_int)))) ms_nil)
  (ms_cons (ms_setL (i := 3) sc_far.nd (me_bin op_fdivW m_div (b_of (me_varL (i := 0))) (b_of (me_varL (i := 2)))))
  (ms_cons (ms_if (mt_cmp (op_eqD hr.units) m_eq (b_of (me_varL (i := 3))) (b_of me_int) (nomark _)) (ms_one (ms_ret (me_gint' T.c_MAX_UNIT))) ms_nil)
  (ms_one (ms_ret (me_bin op_fdivW m_div (b_of (me_bin op_sub m_sub (b_of (me_bin op_sub m_sub (b_of (me_varL (i := 0))) (b_of (me_varL (i := 1))))) (b_of me_int))) (b_of (me_varL (i := 3)))))))))
theorem ok_rows_against (T : Tx P K mg) : FnG P w K mg base (L2.CX P w) 5 (ad K 13) (fd K 13) ["weights", "slack", "low", "high"] (spM K (cn K) m_rows_against) :=
  fn_miniDD T.F_rows_against sc_rows_against fun cdv A outer s H E hr gd => (ms_cons (ms_expr (me_call' (ok_check_range T) (hr.mono (by decide)) gd T.g_check_range T.F_check_range.kp T.b_check_range ps_body (ma_cons' (me_varL (i := 0)) (ma_cons' (me_varC (i := 1)) (ma_cons' (me_varL (i := 2)) (ma_cons' (me_varC (i := 3)) ma_nil))))))
  (ms_cons (ms_setOL (i := 4) sc_rows_against.nd (me_lst ma_nil))
  (ms_cons (ms_setC (i := 5) sc_rows_against.nd (me_varL (i := 2)))
  (ms_cons (ms_while ps_own (mt_cmp op_leAll m_leAll (b_of (me_varC (i := 5))) (b_of (me_varC (i := 3))) (nomark _)) (ms_cons (ms_setLc (i := 6) rfl sc_rows_against.nd rfl (by kernel_rfl) (sw_t rfl (by kernel_rfl) rfl (by kernel_rfl)) (mi_seq (me_varL (i := 0))) (blk_ok (own := [("own", 7)]) (by kernel_rfl)) (fun _ _ _ _ _ => (mg_nameL (i := 7) sc_rows_against.nd)) (fun _ _ _ _ _ => mts_nil) (fun _ _ _ _ _ => (me_bl2' (call_min2 rfl) m_min2 T.z_min (b_of (me_call' (ok_far T) (hr.mono (by decide)) gd T.g_far T.F_far.kp T.b_far passL (ma_cons' (me_varL (i := 7)) (ma_cons' (me_varC (i := 1)) (ma_cons' (me_varC (i := 5)) ma_nil))))) (b_of (me_varC (i := 3))))))
  (ms_cons (ms_if (mt_cmp op_ltAll m_ltAll (b_of (me_bl1' (cr_maxX hr rfl) u_maxX T.z_max (b_of (me_varL (i := 6))))) (b_of (me_varC (i := 5))) (nomark _)) (ms_one (ms_ret me_non)) ms_nil)
  (ms_cons (ms_appL (i := 4) (me_tup (ma_cons' (me_index hr (b_of (me_varL (i := 6))) (b_of (me_bl1' (cr_maxX hr rfl) u_maxX T.z_max (b_of (me_varL (i := 6)))))) (ma_cons' (me_varC (i := 5)) (ma_cons' (me_bl1' (cr_maxX hr rfl) u_maxX T.z_max (b_of (me_varL (i := 6)))) ma_nil)))))
  (ms_one (ms_setC (i := 5) sc_rows_against.nd (me_bin op_addAll m_add (b_of (me_bl1' (cr_maxX hr rfl) u_maxX T.z_max (b_of (me_varL (i := 6))))) (b_of me_int))))))))
  (ms_one (ms_ret (me_ty1' call_tuple_of u_tuple T.z_tuple (me_varBL (i := 4)))))))))
theorem ok_common_unit (T : Tx P K mg) : FnG P w K mg base (L2.CX P w) 4 (ad K 15) (fd K 15) ["weights"] (spM K (cn K) m_common_unit) :=
  fn_miniDD T.F_common_unit sc_common_unit fun cdv A outer s H E hr gd => (ms_cons (ms_expr (me_call' (ok_check_weights T) (hr.mono (by decide)) gd T.g_check_weights T.F_check_weights.kp T.b_check_weights ps_body (ma_cons' (me_varL (i := 0)) ma_nil)))
  (ms_cons (ms_setL (i := 1) sc_common_unit.nd (me_ix (ix_all hr) m_ixAll (b_of (me_varL (i := 0))) (b_of me_int) (fun _ _ => rfl)))
  (ms_cons (ms_for (us := [2]) ps_own rfl (mi_seq (me_slcX (b_of (me_varL (i := 0))) (mp_some (b_of me_int)) mp_no)) (mg_nameL (i := 2) sc_common_unit.nd) (ms_one (ms_while ps_own (mt_tru' (b_of (me_varL (i := 2)))) (ms_one (ms_par (i := 1) (j := 2) rfl sc_common_unit.nd rfl rfl (by decide) (by kernel_rfl) (by kernel_rfl) (me_varL (i := 2)) (me_bin op_mod m_mod (b_of (me_varL (i := 1))) (b_of (me_varL (i := 2)))) (by kernel_rfl))))))
  (ms_one (ms_ret (me_varL (i := 1)))))))
theorem ok_off_weights (T : Tx P K mg) : FnG P w K mg base (L2.CX P w) 4 (ad K 16) (fd K 16) ["weights", "slack", "unit"] (spM K (cn K) m_off_weights) :=
  fn_miniDD T.F_off_weights sc_off_weights fun cdv A outer s H E hr gd => (ms_cons (ms_expr (me_call' (ok_check_weights T) (hr.mono (by decide)) gd T.g_check_weights T.F_check_weights.kp T.b_check_weights ps_body (ma_cons' (me_varL (i := 0)) ma_nil)))
  (ms_cons (ms_expr (me_call' (ok_check_slack T) (hr.mono (by decide)) gd T.g_check_slack T.F_check_slack.kp T.b_check_slack ps_body (ma_cons' (me_varC (i := 1)) ma_nil)))
  (ms_cons (ms_expr (me_callS' (by decide +kernel) (ok_check_unit T) (hr.mono (by decide)) gd T.g_check_unit T.F_check_unit.kp T.bd_check_unit ps_body (ma_cons' (me_varC (i := 2)) ma_nil)))
  (ms_one (ms_ret (me_ty1' call_tuple_of u_tuple T.z_tuple (b_ofO (me_lc rfl sc_off_weights.nd (mi_enumX' T.z_enumerate (me_varL (i := 0))) (blk_ok (own := [("at", 3), ("own", 4)]) (by kernel_rfl)) (fun _ _ _ _ _ => (mg_tup rfl (mgs_cons' (mg_nameL (i := 3) sc_off_weights.nd) (mgs_cons' (mg_nameL (i := 4) sc_off_weights.nd) mgs_nil)))) (fun _ _ _ _ _ => (mts_one (mt_cmp op_gtAll m_gtAll (b_of (me_bl1' call_abs u_abs T.z_abs (b_of (me_bin op_sub m_sub (b_of (me_varL (i := 4))) (b_of (me_bin op_mulAll m_mulAll (b_of (me_call' (ok_nearest T) (hr.mono (by decide)) gd T.g_nearest T.F_nearest.kp T.b_nearest passL (ma_cons' (me_varL (i := 4)) (ma_cons' (me_varC (i := 2)) ma_nil)))) (b_of (me_varC (i := 2))))))))) (b_of (me_varC (i := 1))) (nomark _)))) (fun _ _ _ _ _ => (me_varL (i := 3)))))))))))
theorem ok__law_start (T : Tx P K mg) : FnG P w K mg base (L2.CX P w) 2 (ad K 17) (fd K 17) ["script"] (spO K (cn K) m__law_start) :=
  fn_miniOD T.F__law_start sc__law_start fun cdv A outer s H E hr gd => (mo_cons (ms_setL (i := 1) sc__law_start.nd me_int)
  (mo_cons (ms_for (us := [2]) ps_own rfl (mi_seq (me_varL (i := 0))) (mg_nameL (i := 2) sc__law_start.nd) (ms_one (ms_setL (i := 1) sc__law_start.nd (me_bin op_addAll m_add (b_of (me_bin op_mod m_mod (b_of (me_ty1' call_int1 u_int T.z_int (b_of (me_bin op_addAll m_add (b_of (me_bin op_mulAll m_mulAll (b_of (me_varL (i := 1))) (b_of me_int))) (b_of (me_varL (i := 2))))))) (b_of me_int))) (b_of me_int)))))
  (mo_ret (me_lst (ma_cons' (m_of (me_ty1O' call_list_of u_list T.z_list (b_of (me_varL (i := 0))))) (ma_cons' me_int (ma_cons' me_int (ma_cons' (me_varL (i := 1)) ma_nil))))))))
theorem ok__law_draw (T : Tx P K mg) : FnG P w K mg base (L2.CX P w) 2 (ad K 18) (fd K 18) ["state", "many"] (spM K (cn K) m__law_draw) :=
  fn_miniDD T.F__law_draw sc__law_draw fun cdv A outer s H E hr gd => (ms_cons (ms_if (PW.pt (mw_and (mt_cmp (op_eqD hr.units) m_eq (b_of (me_stIx (i := 0) (k := 1))) (b_of me_int) (nomark _)) (mw_and1 (mt_cmp op_geAll m_geAll (b_of (me_stIx (i := 0) (k := 2))) (b_of (me_bl1' cr_lenAll u_len T.z_len (b_of (me_stIx (i := 0) (k := 0))))) (nomark _))))) (ms_cons (ms_stSet (i := 0) (k := 3) (me_bin op_mod m_mod (b_of (me_ty1' call_int1 u_int T.z_int (b_of (me_bin op_addAll m_add (b_of (me_bin op_mulAll m_mulAll (b_of (me_stIx (i := 0) (k := 3))) (b_of me_int))) (b_of me_int))))) (b_of me_int)))
  (ms_one (ms_ret (me_bin op_mod m_mod (b_of (me_ty1' call_int1 u_int T.z_int (b_of (me_bin op_fdivW m_div (b_of (me_stIx (i := 0) (k := 3))) (b_of me_int))))) (b_of (me_varL (i := 1))))))) ms_nil)
  (ms_cons (ms_if (mt_cmp (op_eqD hr.units) m_eq (b_of (me_stIx (i := 0) (k := 1))) (b_of me_int) (nomark _)) (ms_cons (ms_stSet (i := 0) (k := 1) (me_bl1' call_abs u_abs T.z_abs (b_of (me_ix (ix_all hr) m_ixAll (b_of (me_stIx (i := 0) (k := 0))) (b_of (me_stIx (i := 0) (k := 2))) (fun _ _ => rfl)))))
  (ms_one (ms_stSet (i := 0) (k := 2) (me_bin op_addAll m_add (b_of (me_stIx (i := 0) (k := 2))) (b_of me_int))))) ms_nil)
  (ms_cons (ms_setL (i := 2) sc__law_draw.nd (me_bin op_mod m_mod (b_of (me_ty1' call_int1 u_int T.z_int (b_of (me_stIx (i := 0) (k := 1))))) (b_of (me_varL (i := 1)))))
  (ms_cons (ms_stSet (i := 0) (k := 1) (me_bin op_fdivW m_div (b_of (me_stIx (i := 0) (k := 1))) (b_of (me_varL (i := 1)))))
  (ms_one (ms_ret (me_varL (i := 2))))))))
theorem ok__law_pick (T : Tx P K mg) : FnG P w K mg base (L2.CX P w) 3 (ad K 19) (fd K 19) ["state", "some"] (spM K (cn K) m__law_pick) :=
  fn_miniDD T.F__law_pick sc__law_pick fun cdv A outer s H E hr gd => (ms_one (ms_ret (me_ix (ix_all hr) m_ixAll (b_of (me_varL (i := 1))) (b_of (me_call' (ok__law_draw T) (hr.mono (by decide)) gd T.g__law_draw T.F__law_draw.kp T.b__law_draw ps_body (ma_cons' (me_varL (i := 0)) (ma_cons' (me_bl1' cr_lenAll u_len T.z_len (b_of (me_varL (i := 1)))) ma_nil)))) (fun _ _ => rfl))))
theorem ok__law_same (T : Tx P K mg) : FnG P w K mg base (L2.CX P w) 2 (ad K 20) (fd K 20) ["actual", "due"] (spM K (cn K) m__law_same) :=
  fn_miniDD T.F__law_same sc__law_same fun cdv A outer s H E hr gd => (ms_one (ms_ret (me_and (me_cmp (op_eqD hr.units) m_eq (b_of (me_varL (i := 0))) (b_of (me_varL (i := 1))) (nomark _)) (me_one (me_reprEq hr gd T.z_repr (b_of (me_varL (i := 0))) (b_of (me_varL (i := 1))))))))
theorem ok__law_word (T : Tx P K mg) : FnW P w K mg base (L2.CX P w) 1 (ad K 21) (fd K 21) ["error"] (spW (caK K)) := by
  obtain ⟨oc, od, dV, kV, doc, pm, an, cdv, ct, osl, e1, lk, hcd, _⟩ := T.F__law_word.ex
  rw [e1] at lk ⊢
  refine fn_ofW lk hcd sc__law_word (fun a cls d vs H Q E ⟨j, dd, s, _, _, _, e, _⟩ => by rw [e]; rfl) fun A outer s H vs Q E a oe cls d hz hf hsp => ?_
  obtain ⟨j, dd, z, hj, rfl, rfl, rfl, hdd, hlen, hQ⟩ := hsp
  have hx : HasX (L2H.cxH (L2.CX P w) P w K mg base ["error", "kinds"] "_law_word" (defScope s__law_word) (ad K 21) cdv A outer s H E (a, oe)) a (caK K j) dd := ⟨T.wd.q j hj, oe, List.mem_cons_self, hz, hf⟩
  have isi : ∀ {x : Str} {u : Addr} {p p1 p2 p3 : Pos}, mg x = some (.ref u) → Gl (L2H.cxH (L2.CX P w) P w K mg base ["error", "kinds"] "_law_word" (defScope s__law_word) (ad K 21) cdv A outer s H E (a, oe)) x → (x == ("__debug__" : Str)) = false →
      PE (L2H.cxH (L2.CX P w) P w K mg base ["error", "kinds"] "_law_word" (defScope s__law_word) (ad K 21) cdv A outer s H E (a, oe)) (.Call (.Name "isinstance" p) [.Name "error" p1, .Name x p2] [] p3) (tCB (rIsX K (caK K j) a dd) (tCons (tVar 0) (tCons (tC (.ref u)) tNil))) := fun hm hg hdb =>
    pe_callB (call_isX hx) (by rfl) T.wd.isi PyProof.Rows.Boot.«isinstance» (pa_cons (pe_var (i := 0) (by rfl) (.inl (by kernel_rfl))) (pa_cons (pe_glob hg hm rfl hdb) pa_nil (by rfl)) (by rfl)) (by decide) (by decide) (by rfl) (by rfl)
  refine ⟨_, pss_cons (ps_if (pt_truth (isi T.wd.g4 (by rfl) (by decide)) (fun _ => rfl)) (pss_one (ps_ret (pe_op op_add_str pe_str (pe_callTy SkE.call_str_str (by rfl) T.wd.str PyProof.Rows.Boot.«str» (pa_cons (pe_xx hx (T.wd.noat j hj) (pe_var (i := 0) (by rfl) (.inl (by kernel_rfl)))) pa_nil))))) pss_nil)
    (pss_cons (ps_set (i := 1) sc__law_word.nd rfl (.inl (by kernel_rfl)) (pe_lst (pa_cons (isi T.wd.g0 (by rfl) (by decide)) (pa_cons (isi T.wd.g1 (by rfl) (by decide)) (pa_cons (isi T.wd.g2 (by rfl) (by decide)) (pa_cons (isi T.wd.g3 (by rfl) (by decide)) pa_nil))))))
    (pss_cons (ps_if (PW.pt (pw_or (pt_not (pt_truth (isi T.wd.g5 (by rfl) (by decide)) (fun _ => rfl))) (pw_or1 (pt_cmpR op_ne (pe_bm PySem.F.plainAttrs_list PySem.F.slot_list_count PySem.F.type_list_count mt_countB (pe_var (i := 1) (by rfl) (.inl (by kernel_rfl))) (pa_cons pe_bl pa_nil)) pe_int (by rfl))))) (pss_one (ps_ret pe_str)) pss_nil)
    (pss_one (ps_ret (pe_op op_add_str (pe_ix ix_list (pe_lst (pa_cons pe_str (pa_cons pe_str (pa_cons pe_str (pa_cons pe_str pa_nil))))) (pe_bm PySem.F.plainAttrs_list PySem.F.slot_list_index PySem.F.type_list_index mt_index (pe_var (i := 1) (by rfl) (.inl (by kernel_rfl))) (pa_cons pe_bl pa_nil)) (fun _ _ => rfl)) (pe_callTy SkE.call_str_str (by rfl) T.wd.str PyProof.Rows.Boot.«str» (pa_cons (pe_xx hx (T.wd.noreason j hj) (pe_var (i := 0) (by rfl) (.inl (by kernel_rfl)))) pa_nil))))))), ?_⟩
  have dd0 : ∀ {H1 : Hp}, Ex H H1 → H1 dd = some (.xd [(("reason" : Str), V.str z)]) := fun e => e dd _ hdd
  refine s_if (b := false) (et_is (et_truB (ev_isX (dd0 (Ex.refl H)) (ev_var rfl) ev_c ref_cv (T.wd.kit j hj 4 (by decide)))) (decide_eq_false (by omega))) (fun z => by cases z) fun _ H1 e1 => ?_
  refine s_asgL (xs := (kinds4 j).map V.bl) (el_lst (ea_cons (ev_isX (dd0 e1) (ev_var rfl) ev_c ref_cv (T.wd.kit j hj 0 (by decide))) (ea_cons (ev_isX (dd0 e1) (ev_var rfl) ev_c ref_cv (T.wd.kit j hj 1 (by decide))) (ea_cons (ev_isX (dd0 e1) (ev_var rfl) ev_c ref_cv (T.wd.kit j hj 2 (by decide))) (ea_cons (ev_isX (dd0 e1) (ev_var rfl) ev_c ref_cv (T.wd.kit j hj 3 (by decide))) ea_nil)))) (by show 4 ≤ _; decide)) fun p2 H2 _ e2 h2 => ?_
  have e12 := e1.trans e2
  refine s_if (b := false) (et_is (et_or (et_not (et_truB (ev_isX (dd0 e12) (ev_var rfl) ev_c ref_cv (T.wd.kit5 j hj)))) fun _ => et_test (ev_op (ev_cntB (k := true) (bs := kinds4 j) (sq_of h2) (ev_var rfl)) ev_c (rv_ne rfl))) ?_) (fun z => by cases z) fun _ H3 e3 => ?_
  · rw [cnt4 j hj]; rfl
  refine s_ret (v := .str (hdW j ++ z)) (ev_addS (ev_opL1 (el_lst (ea_cons ev_c (ea_cons ev_c (ea_cons ev_c (ea_cons ev_c ea_nil)))) (by show 4 ≤ _; decide)) (fun H5 e5 => ev_idxB (k := true) (bs := kinds4 j) (sq_of (e5 _ _ (e3 _ _ h2))) (ev_var rfl) (at4 j hj) (bef4 j hj)) (fun p5 H5 h5 e5 => rv_ixL (sq_of h5) (headW j hj))) (ev_strS (ev_xx (dd0 (e12.trans e3)) rfl (ev_var rfl))) ?_) fun H4 e4 => hQ H4 ((e12.trans e3).trans e4)
  have := hdW_len j
  rw [sizeLine_eq]
  omega
theorem disp_ok (T : Tx P K mg) : DispOk P w K mg base (L2.CX P w) 5 (cn K) disp := (disp_cons rfl ((ok_good_units T).mono (by decide)) T.F_good_units.kp T.b_good_units
  (disp_cons rfl ((ok_closest_unit T).mono (by decide)) T.F_closest_unit.kp T.b_closest_unit
  (disp_cons rfl ((ok_accept_times T).mono (by decide)) T.F_accept_times.kp T.b_accept_times
  (disp_cons rfl ((ok_accept_none T).mono (by decide)) T.F_accept_none.kp T.b_accept_none
  disp_nil))))
theorem ok__law_asked (T : Tx P K mg) : FnG P w K mg base (L2.CX P w) 6 (ad K 22) (fd K 22) ["way", "some"] (spM K (cn K) m__law_asked) :=
  fn_miniDD T.F__law_asked sc__law_asked fun cdv A outer s H E hr gd => (ms_one (ms_tryW' (i := 2) rfl rfl sc__law_asked.nd T.x_CabinetError tk_body fldN_lt (ok__law_word T) (hr.mono (by decide)) T.g__law_word T.F__law_word.kp T.b__law_word T.exm (fun pn xe E' ps => (ms_cons (ms_if (mt_cmp op_ltAll m_ltAll (b_of (me_bl1' cr_lenAll u_len T.z_len (b_of (me_varL (i := 1))))) (b_of me_int) (nomark _)) (ms_one (ms_ret (me_ite (mt_cmp (op_eqD hr.units) m_eq (b_of (me_bl1' cr_lenAll u_len T.z_len (b_of (me_varL (i := 1))))) (b_of me_int) (nomark _)) (m_of (me_lst (ma_cons' (me_callV (i := 0) (disp_ok T) (hr.mono (by decide)) gd ps (ma_cons' (me_ix (ix_all hr) m_ixAll (b_of (me_varL (i := 1))) (b_of me_int) (fun _ _ => rfl)) ma_nil)) ma_nil))) (m_of (me_lst (ma_cons' (me_callV (i := 0) (disp_ok T) (hr.mono (by decide)) gd ps (ma_cons' (me_ix (ix_all hr) m_ixAll (b_of (me_varL (i := 1))) (b_of me_int) (fun _ _ => rfl)) (ma_cons' (me_ix (ix_all hr) m_ixAll (b_of (me_varL (i := 1))) (b_of me_int) (fun _ _ => rfl)) ma_nil))) ma_nil)))))) ms_nil)
  (ms_cons (ms_if (mt_cmp op_ltAll m_ltAll (b_of (me_bl1' cr_lenAll u_len T.z_len (b_of (me_varL (i := 1))))) (b_of me_int) (nomark _)) (ms_one (ms_ret (me_ite (mt_cmp (op_eqD hr.units) m_eq (b_of (me_bl1' cr_lenAll u_len T.z_len (b_of (me_varL (i := 1))))) (b_of me_int) (nomark _)) (m_of (me_lst (ma_cons' (me_callV (i := 0) (disp_ok T) (hr.mono (by decide)) gd ps (ma_cons' (me_ix (ix_all hr) m_ixAll (b_of (me_varL (i := 1))) (b_of me_int) (fun _ _ => rfl)) (ma_cons' (me_ix (ix_all hr) m_ixAll (b_of (me_varL (i := 1))) (b_of me_int) (fun _ _ => rfl)) (ma_cons' (me_ix (ix_all hr) m_ixAll (b_of (me_varL (i := 1))) (b_of me_int) (fun _ _ => rfl)) ma_nil)))) ma_nil))) (m_of (me_lst (ma_cons' (me_callV (i := 0) (disp_ok T) (hr.mono (by decide)) gd ps (ma_cons' (me_ix (ix_all hr) m_ixAll (b_of (me_varL (i := 1))) (b_of me_int) (fun _ _ => rfl)) (ma_cons' (me_ix (ix_all hr) m_ixAll (b_of (me_varL (i := 1))) (b_of me_int) (fun _ _ => rfl)) (ma_cons' (me_ix (ix_all hr) m_ixAll (b_of (me_varL (i := 1))) (b_of me_int) (fun _ _ => rfl)) (ma_cons' (me_ix (ix_all hr) m_ixAll (b_of (me_varL (i := 1))) (b_of me_int) (fun _ _ => rfl)) ma_nil))))) ma_nil)))))) ms_nil)
  (ms_cons (ms_if (mt_cmp op_ltAll m_ltAll (b_of (me_bl1' cr_lenAll u_len T.z_len (b_of (me_varL (i := 1))))) (b_of me_int) (nomark _)) (ms_one (ms_ret (me_ite (mt_cmp (op_eqD hr.units) m_eq (b_of (me_bl1' cr_lenAll u_len T.z_len (b_of (me_varL (i := 1))))) (b_of me_int) (nomark _)) (m_of (me_lst (ma_cons' (me_callV (i := 0) (disp_ok T) (hr.mono (by decide)) gd ps (ma_cons' (me_ix (ix_all hr) m_ixAll (b_of (me_varL (i := 1))) (b_of me_int) (fun _ _ => rfl)) (ma_cons' (me_ix (ix_all hr) m_ixAll (b_of (me_varL (i := 1))) (b_of me_int) (fun _ _ => rfl)) (ma_cons' (me_ix (ix_all hr) m_ixAll (b_of (me_varL (i := 1))) (b_of me_int) (fun _ _ => rfl)) (ma_cons' (me_ix (ix_all hr) m_ixAll (b_of (me_varL (i := 1))) (b_of me_int) (fun _ _ => rfl)) (ma_cons' (me_ix (ix_all hr) m_ixAll (b_of (me_varL (i := 1))) (b_of me_int) (fun _ _ => rfl)) ma_nil)))))) ma_nil))) (m_of (me_lst (ma_cons' (me_callV (i := 0) (disp_ok T) (hr.mono (by decide)) gd ps (ma_cons' (me_ix (ix_all hr) m_ixAll (b_of (me_varL (i := 1))) (b_of me_int) (fun _ _ => rfl)) (ma_cons' (me_ix (ix_all hr) m_ixAll (b_of (me_varL (i := 1))) (b_of me_int) (fun _ _ => rfl)) (ma_cons' (me_ix (ix_all hr) m_ixAll (b_of (me_varL (i := 1))) (b_of me_int) (fun _ _ => rfl)) (ma_cons' (me_ix (ix_all hr) m_ixAll (b_of (me_varL (i := 1))) (b_of me_int) (fun _ _ => rfl)) (ma_cons' (me_ix (ix_all hr) m_ixAll (b_of (me_varL (i := 1))) (b_of me_int) (fun _ _ => rfl)) (ma_cons' (me_ix (ix_all hr) m_ixAll (b_of (me_varL (i := 1))) (b_of me_int) (fun _ _ => rfl)) ma_nil))))))) ma_nil)))))) ms_nil)
  (ms_one (ms_ret (m_of (me_lst (ma_cons' (me_callV (i := 0) (disp_ok T) (hr.mono (by decide)) gd ps (ma_cons' (me_ix (ix_all hr) m_ixAll (b_of (me_varL (i := 1))) (b_of me_int) (fun _ _ => rfl)) (ma_cons' (me_ix (ix_all hr) m_ixAll (b_of (me_varL (i := 1))) (b_of me_int) (fun _ _ => rfl)) (ma_cons' (me_ix (ix_all hr) m_ixAll (b_of (me_varL (i := 1))) (b_of me_int) (fun _ _ => rfl)) (ma_cons' (me_ix (ix_all hr) m_ixAll (b_of (me_varL (i := 1))) (b_of me_int) (fun _ _ => rfl)) (ma_cons' (me_ix (ix_all hr) m_ixAll (b_of (me_varL (i := 1))) (b_of me_int) (fun _ _ => rfl)) (ma_cons' (me_ix (ix_all hr) m_ixAll (b_of (me_varL (i := 1))) (b_of me_int) (fun _ _ => rfl)) (ma_cons' (me_ix (ix_all hr) m_ixAll (b_of (me_varL (i := 1))) (b_of me_int) (fun _ _ => rfl)) ma_nil)))))))) ma_nil)))))))))))
theorem ok__law_shown (T : Tx P K mg) : FnG P w K mg base (L2.CX P w) 7 (ad K 23) (fd K 23) ["way", "ahead", "papers"] (spM K (cn K) m__law_shown) :=
  fn_miniDD T.F__law_shown sc__law_shown fun cdv A outer s H E hr gd => (ms_cons (ms_setLc (i := 3) rfl sc__law_shown.nd rfl (by kernel_rfl) (sw_t rfl (by kernel_rfl) rfl (by kernel_rfl)) (mi_seq (me_varL (i := 2))) (blk_ok (own := [("paper", 4), ("word", 5)]) (by kernel_rfl)) (fun _ _ _ _ _ => (mg_tup rfl (mgs_cons' (mg_nameL (i := 4) sc__law_shown.nd) (mgs_cons' (mg_nameL (i := 5) sc__law_shown.nd) mgs_nil)))) (fun _ _ _ _ _ => mts_nil) (fun _ _ _ _ _ => (me_call' (ok__law_asked T) (hr.mono (by decide)) gd T.g__law_asked T.F__law_asked.kp T.b__law_asked passL (ma_cons' (me_varC (i := 0)) (ma_cons' (me_bin op_addAll m_add (b_of (me_varC (i := 1))) (b_of (me_varL (i := 4)))) ma_nil)))))
  (ms_one (ms_ret (me_call' (ok__law_same T) (hr.mono (by decide)) gd T.g__law_same T.F__law_same.kp T.b__law_same ps_body (ma_cons' (me_varL (i := 3)) (ma_cons' (m_of (me_lc rfl sc__law_shown.nd (mi_seq (me_varL (i := 2))) (blk_ok (own := [("paper", 4), ("word", 5)]) (by kernel_rfl)) (fun _ _ _ _ _ => (mg_tup rfl (mgs_cons' (mg_nameL (i := 4) sc__law_shown.nd) (mgs_cons' (mg_nameL (i := 5) sc__law_shown.nd) mgs_nil)))) (fun _ _ _ _ _ => mts_nil) (fun _ _ _ _ _ => (me_ite (mt_cmp op_isN m_is (b_of (me_varL (i := 5))) (b_of me_non) (nomark _)) (m_of (me_lst (ma_cons' me_non ma_nil))) (me_varL (i := 5)))))) ma_nil))))))
theorem ok__law_near (T : Tx P K mg) : FnG P w K mg base (L2.CX P w) 2 (ad K 24) (fd K 24) ["weight", "unit"] (spM K (cn K) m__law_near) :=
  fn_miniDD T.F__law_near sc__law_near fun cdv A outer s H E hr gd => (ms_cons (ms_setL (i := 2) sc__law_near.nd (me_bl1' (cr_maxX hr rfl) u_maxX T.z_max (b_ofO (me_lst (ma_cons' me_int (ma_cons' (me_bin op_sub m_sub (b_of (me_bin op_fdivW m_div (b_of (me_varC (i := 0))) (b_of (me_varC (i := 1))))) (b_of me_int)) ma_nil))))))
  (ms_one (ms_ret (me_ix (ix_all hr) m_ixAll (b_of (me_bl1' (cr_minY hr rfl) u_minY T.z_min (b_ofO (me_lc rfl sc__law_near.nd (mi_rng2' T.z_range (me_varL (i := 2)) (me_bin op_addAll m_add (b_of (me_varL (i := 2))) (b_of me_int))) (blk_ok (own := [("times", 3)]) (by kernel_rfl)) (fun _ _ _ _ _ => (mg_nameL (i := 3) sc__law_near.nd)) (fun _ _ _ _ _ => mts_nil) (fun _ _ _ _ _ => (me_tup (ma_cons' (me_bl1' call_abs u_abs T.z_abs (b_of (me_bin op_sub m_sub (b_of (me_varC (i := 0))) (b_of (me_bin op_mulAll m_mulAll (b_of (me_varL (i := 3))) (b_of (me_varC (i := 1)))))))) (ma_cons' (me_varL (i := 3)) ma_nil)))))))) (b_of me_int) (fun _ _ => rfl)))))
theorem ok__law_gap (T : Tx P K mg) : FnG P w K mg base (L2.CX P w) 3 (ad K 25) (fd K 25) ["weight", "unit"] (spM K (cn K) m__law_gap) :=
  fn_miniDD T.F__law_gap sc__law_gap fun cdv A outer s H E hr gd => (ms_one (ms_ret (me_bl1' call_abs u_abs T.z_abs (b_of (me_bin op_sub m_sub (b_of (me_varL (i := 0))) (b_of (me_bin op_mulAll m_mulAll (b_of (me_call' (ok__law_near T) (hr.mono (by decide)) gd T.g__law_near T.F__law_near.kp T.b__law_near ps_body (ma_cons' (me_varL (i := 0)) (ma_cons' (me_varL (i := 1)) ma_nil)))) (b_of (me_varL (i := 1))))))))))
theorem ok__law_weights (T : Tx P K mg) : FnG P w K mg base (L2.CX P w) 4 (ad K 26) (fd K 26) ["state"] (spM K (cn K) m__law_weights) :=
  fn_miniDD T.F__law_weights sc__law_weights fun cdv A outer s H E hr gd => (ms_cons (ms_par (i := 3) (j := 4) rfl sc__law_weights.nd rfl rfl (by decide) (by kernel_rfl) (by kernel_rfl) (me_bin op_addAll m_add (b_of me_int) (b_of (me_call' (ok__law_draw T) (hr.mono (by decide)) gd T.g__law_draw T.F__law_draw.kp T.b__law_draw ps_body (ma_cons' (me_varL (i := 0)) (ma_cons' (me_call' (ok__law_pick T) (hr.mono (by decide)) gd T.g__law_pick T.F__law_pick.kp T.b__law_pick ps_body (ma_cons' (me_varL (i := 0)) (ma_cons' (m_of (me_lst (ma_cons' me_int (ma_cons' me_int (ma_cons' me_int ma_nil))))) ma_nil))) ma_nil))))) (me_call' (ok__law_draw T) (hr.mono (by decide)) gd T.g__law_draw T.F__law_draw.kp T.b__law_draw ps_body (ma_cons' (me_varL (i := 0)) (ma_cons' (me_call' (ok__law_pick T) (hr.mono (by decide)) gd T.g__law_pick T.F__law_pick.kp T.b__law_pick ps_body (ma_cons' (me_varL (i := 0)) (ma_cons' (m_of (me_lst (ma_cons' me_int (ma_cons' me_int ma_nil)))) ma_nil))) ma_nil))) (by kernel_rfl))
  (ms_cons (ms_setOL (i := 1) sc__law_weights.nd (me_lst ma_nil))
  (ms_cons (ms_for (us := [2]) ps_own rfl (mi_rng1' T.z_range (me_bin op_addAll m_add (b_of me_int) (b_of (me_call' (ok__law_draw T) (hr.mono (by decide)) gd T.g__law_draw T.F__law_draw.kp T.b__law_draw ps_body (ma_cons' (me_varL (i := 0)) (ma_cons' me_int ma_nil)))))) (mg_nameL (i := 2) sc__law_weights.nd) (ms_cons (ms_setL (i := 5) sc__law_weights.nd (me_bin op_sub m_sub (b_of (me_bin op_addAll m_add (b_of (me_bin op_mulAll m_mulAll (b_of (me_bin op_addAll m_add (b_of me_int) (b_of (me_call' (ok__law_draw T) (hr.mono (by decide)) gd T.g__law_draw T.F__law_draw.kp T.b__law_draw ps_body (ma_cons' (me_varL (i := 0)) (ma_cons' me_int ma_nil)))))) (b_of (me_varL (i := 3))))) (b_of (me_call' (ok__law_draw T) (hr.mono (by decide)) gd T.g__law_draw T.F__law_draw.kp T.b__law_draw ps_body (ma_cons' (me_varL (i := 0)) (ma_cons' (me_bin op_addAll m_add (b_of (me_bin op_mulAll m_mulAll (b_of me_int) (b_of (me_varL (i := 4))))) (b_of me_int)) ma_nil)))))) (b_of (me_varL (i := 4)))))
  (ms_one (ms_appL (i := 1) (me_ite (mt_cmp op_gtAll m_gtAll (b_of (me_call' (ok__law_draw T) (hr.mono (by decide)) gd T.g__law_draw T.F__law_draw.kp T.b__law_draw ps_body (ma_cons' (me_varL (i := 0)) (ma_cons' me_int ma_nil)))) (b_of me_int) (nomark _)) (me_bl1' (cr_minY hr rfl) u_minY T.z_min (b_ofO (me_lst (ma_cons' me_int (ma_cons' (me_bl1' (cr_maxX hr rfl) u_maxX T.z_max (b_ofO (me_lst (ma_cons' me_int (ma_cons' (me_varL (i := 5)) ma_nil))))) ma_nil))))) (me_bin op_addAll m_add (b_of me_int) (b_of (me_call' (ok__law_draw T) (hr.mono (by decide)) gd T.g__law_draw T.F__law_draw.kp T.b__law_draw ps_body (ma_cons' (me_varL (i := 0)) (ma_cons' me_int ma_nil))))))))))
  (ms_one (ms_ret (me_tup (ma_cons' (me_ty1' call_tuple_of u_tuple T.z_tuple (me_varBL (i := 1))) (ma_cons' (me_varL (i := 3)) (ma_cons' (me_varL (i := 4)) ma_nil)))))))))
theorem ok__law_is_off (T : Tx P K mg) : FnG P w K mg base (L2.CX P w) 2 (ad K 27) (fd K 27) ["weight", "slack", "first", "last"] (spM K (cn K) m__law_is_off) :=
  fn_miniDD T.F__law_is_off sc__law_is_off fun cdv A outer s H E hr gd => (ms_cons (ms_setL (i := 4) sc__law_is_off.nd (me_bin op_fdivW m_div (b_of (me_varL (i := 0))) (b_of (me_varL (i := 3)))))
  (ms_one (ms_ret (me_and (me_or (me_cmp (op_eqD hr.units) m_eq (b_of (me_varL (i := 4))) (b_of me_int) (nomark _)) (me_one (me_cmp op_gtAll m_gtAll (b_of (me_bin op_sub m_sub (b_of (me_varL (i := 0))) (b_of (me_bin op_mulAll m_mulAll (b_of (me_varL (i := 4))) (b_of (me_varL (i := 3))))))) (b_of (me_varL (i := 1))) (nomark _)))) (me_one (me_cmp op_gtAll m_gtAll (b_of (me_bin op_sub m_sub (b_of (me_bin op_mulAll m_mulAll (b_of (me_bin op_addAll m_add (b_of (me_varL (i := 4))) (b_of me_int))) (b_of (me_varL (i := 2))))) (b_of (me_varL (i := 0))))) (b_of (me_varL (i := 1))) (nomark _)))))))
theorem ok__law_rows (T : Tx P K mg) : FnG P w K mg base (L2.CX P w) 3 (ad K 28) (fd K 28) ["weights", "slack", "low", "high"] (spM K (cn K) m__law_rows) :=
  fn_miniDD T.F__law_rows sc__law_rows fun cdv A outer s H E hr gd => (ms_cons (ms_parOV (i := 4) (j := 5) rfl sc__law_rows.nd (me_lst ma_nil) (me_varL (i := 2)))
  (ms_cons (ms_while ps_own (mt_cmp op_leAll m_leAll (b_of (me_varL (i := 5))) (b_of (me_varL (i := 3))) (nomark _)) (ms_cons (ms_setOL (i := 6) sc__law_rows.nd (me_lst ma_nil))
  (ms_cons (ms_for (us := [7]) ps_own rfl (mi_rng1' T.z_range (me_bl1' cr_lenAll u_len T.z_len (b_of (me_varL (i := 0))))) (mg_nameL (i := 7) sc__law_rows.nd) (ms_cons (ms_setL (i := 8) sc__law_rows.nd (me_bin op_sub m_sub (b_of (me_varL (i := 5))) (b_of me_int)))
  (ms_cons (ms_while ps_own (PW.pt (mw_and (mt_cmp op_ltAll m_ltAll (b_of (me_varL (i := 8))) (b_of (me_varL (i := 3))) (nomark _)) (mw_and1 (mt_tru' (b_of (me_call' (ok__law_is_off T) (hr.mono (by decide)) gd T.g__law_is_off T.F__law_is_off.kp T.b__law_is_off ps_body (ma_cons' (me_ix (ix_all hr) m_ixAll (b_of (me_varL (i := 0))) (b_of (me_varL (i := 7))) (fun _ _ => rfl)) (ma_cons' (me_varL (i := 1)) (ma_cons' (me_varL (i := 5)) (ma_cons' (me_bin op_addAll m_add (b_of (me_varL (i := 8))) (b_of me_int)) ma_nil)))))))))) (ms_one (ms_setL (i := 8) sc__law_rows.nd (me_bin op_addAll m_add (b_of (me_varL (i := 8))) (b_of me_int)))))
  (ms_one (ms_appL (i := 6) (me_tup (ma_cons' (me_bin op_sub m_sub (b_of me_int) (b_of (me_varL (i := 8)))) (ma_cons' (me_varL (i := 7)) ma_nil))))))))
  (ms_cons (ms_par (i := 8) (j := 7) rfl sc__law_rows.nd rfl rfl (by decide) (by kernel_rfl) (by kernel_rfl) (me_bin op_sub m_sub (b_of me_int) (b_of (me_ix (ix_all hr) m_ixAll (b_of (me_bl1' (cr_minY hr rfl) u_minY T.z_min (me_varBL (i := 6)))) (b_of me_int) (fun _ _ => rfl)))) (me_ix (ix_all hr) m_ixAll (b_of (me_bl1' (cr_minY hr rfl) u_minY T.z_min (me_varBL (i := 6)))) (b_of me_int) (fun _ _ => rfl)) (by kernel_rfl))
  (ms_cons (ms_if (mt_cmp op_ltAll m_ltAll (b_of (me_varL (i := 8))) (b_of (me_varL (i := 5))) (nomark _)) (ms_one (ms_ret me_non)) ms_nil)
  (ms_cons (ms_appL (i := 4) (me_tup (ma_cons' (me_varL (i := 7)) (ma_cons' (me_varL (i := 5)) (ma_cons' (me_varL (i := 8)) ma_nil)))))
  (ms_one (ms_setL (i := 5) sc__law_rows.nd (me_bin op_addAll m_add (b_of (me_varL (i := 8))) (b_of me_int))))))))))
  (ms_one (ms_ret (me_ty1' call_tuple_of u_tuple T.z_tuple (me_varBL (i := 4)))))))
theorem ok__law_papers_hold (T : Tx P K mg) : FnG P w K mg base (L2.CX P w) 8 (ad K 30) (fd K 30) ["state", "weights", "slack", "unit", "times", "low", "high", "rows"] (spM K (cn K) m__law_papers_hold) :=
  fn_miniDD T.F__law_papers_hold sc__law_papers_hold fun cdv A outer s H E hr gd => (ms_cons (ms_setL (i := 8) sc__law_papers_hold.nd (me_not (b_ofO (me_lc rfl sc__law_papers_hold.nd (mi_rng1' T.z_range (me_bl1' cr_lenAll u_len T.z_len (b_of (me_varC (i := 1))))) (blk_ok (own := [("k", 12)]) (by kernel_rfl)) (fun _ _ _ _ _ => (mg_nameL (i := 12) sc__law_papers_hold.nd)) (fun _ _ _ _ _ => (mts_one (mt_cmp op_gtAll m_gtAll (b_of (me_bl1' call_abs u_abs T.z_abs (b_of (me_bin op_sub m_sub (b_of (me_ix (ix_all hr) m_ixAll (b_of (me_varC (i := 1))) (b_of (me_varL (i := 12))) (fun _ _ => rfl))) (b_of (me_bin op_mulAll m_mulAll (b_of (me_ix (ix_all hr) m_ixAll (b_of (me_varC (i := 4))) (b_of (me_varL (i := 12))) (fun _ _ => rfl))) (b_of (me_varC (i := 3))))))))) (b_of (me_varC (i := 2))) (nomark _)))) (fun _ _ _ _ _ => (me_varL (i := 12)))))))
  (ms_cons (ms_setC (i := 9) sc__law_papers_hold.nd (me_bin op_addAll m_add (b_of (me_slcX (b_of (me_varC (i := 4))) mp_no (mp_some (b_of (me_un un_neg un_negM (b_of me_int)))))) (b_of (me_tup (ma_cons' (me_bin op_addAll m_add (b_of (me_ix (ix_all hr) m_ixAll (b_of (me_varC (i := 4))) (b_of (me_un un_neg un_negM (b_of me_int))) (fun _ _ => rfl))) (b_of me_int)) ma_nil)))))
  (ms_cons (ms_setL (i := 10) sc__law_papers_hold.nd (me_ite (mt_tru' (b_ofO (me_lc rfl sc__law_papers_hold.nd (mi_rng1' T.z_range (me_bl1' cr_lenAll u_len T.z_len (b_of (me_varC (i := 1))))) (blk_ok (own := [("k", 12)]) (by kernel_rfl)) (fun _ _ _ _ _ => (mg_nameL (i := 12) sc__law_papers_hold.nd)) (fun _ _ _ _ _ => (mts_one (mt_cmp op_gtAll m_gtAll (b_of (me_bl1' call_abs u_abs T.z_abs (b_of (me_bin op_sub m_sub (b_of (me_ix (ix_all hr) m_ixAll (b_of (me_varC (i := 1))) (b_of (me_varL (i := 12))) (fun _ _ => rfl))) (b_of (me_bin op_mulAll m_mulAll (b_of (me_ix (ix_all hr) m_ixAll (b_of (me_varC (i := 9))) (b_of (me_varL (i := 12))) (fun _ _ => rfl))) (b_of (me_varC (i := 3))))))))) (b_of (me_varC (i := 2))) (nomark _)))) (fun _ _ _ _ _ => (me_varL (i := 12)))))) me_str me_non))
  (ms_cons (ms_setOL (i := 11) sc__law_papers_hold.nd (me_lst (ma_cons' (me_tup (ma_cons' (m_of (me_lst (ma_cons' (me_varC (i := 4)) ma_nil))) (ma_cons' (me_ite (mt_tru' (b_of (me_varL (i := 8)))) me_non me_str) ma_nil))) (ma_cons' (me_tup (ma_cons' (m_of (me_lst (ma_cons' (me_slcX (b_of (me_varC (i := 4))) mp_no (mp_some (b_of (me_un un_neg un_negM (b_of me_int))))) ma_nil))) (ma_cons' me_str ma_nil))) (ma_cons' (me_tup (ma_cons' (m_of (me_lst (ma_cons' (me_bin op_addAll m_add (b_of (me_slcX (b_of (me_varC (i := 4))) mp_no (mp_some (b_of (me_un un_neg un_negM (b_of me_int)))))) (b_of (me_tup (ma_cons' me_int ma_nil)))) ma_nil))) (ma_cons' me_str ma_nil))) (ma_cons' (me_tup (ma_cons' (m_of (me_lst (ma_cons' (me_bin op_addAll m_add (b_of (me_slcX (b_of (me_varC (i := 4))) mp_no (mp_some (b_of (me_un un_neg un_negM (b_of me_int)))))) (b_of (me_tup (ma_cons' me_bl ma_nil)))) ma_nil))) (ma_cons' me_str ma_nil))) (ma_cons' (me_tup (ma_cons' (m_of (me_lst (ma_cons' (me_varC (i := 9)) ma_nil))) (ma_cons' (me_varL (i := 10)) ma_nil))) ma_nil)))))))
  (ms_cons (ms_frz (i := 11) (ms_if (mt_not (mt_tru' (b_of (me_call' (ok__law_shown T) (hr.mono (by decide)) gd T.g__law_shown T.F__law_shown.kp T.b__law_shown ps_body (ma_cons' (me_gfn' T.g_accept_times rfl) (ma_cons' (m_of (me_lst (ma_cons' (me_varC (i := 1)) (ma_cons' (me_varC (i := 2)) (ma_cons' (me_varC (i := 3)) ma_nil))))) (ma_cons' (me_varL (i := 11)) ma_nil))))))) (ms_one (ms_ret me_bl)) ms_nil))
  (ms_cons (ms_if (mt_cmp op_isN m_is (b_of (me_varL (i := 7))) (b_of me_non) (nomark _)) (ms_cons (ms_setL (i := 13) sc__law_papers_hold.nd (me_tup (ma_cons' (me_tup (ma_cons' me_int (ma_cons' (me_varL (i := 5)) (ma_cons' (me_varL (i := 6)) ma_nil)))) ma_nil)))
  (ms_one (ms_ret (me_call' (ok__law_shown T) (hr.mono (by decide)) gd T.g__law_shown T.F__law_shown.kp T.b__law_shown ps_body (ma_cons' (me_gfn' T.g_accept_none rfl) (ma_cons' (m_of (me_lst (ma_cons' (me_varC (i := 1)) (ma_cons' (me_varC (i := 2)) (ma_cons' (me_varL (i := 5)) (ma_cons' (me_varL (i := 6)) ma_nil)))))) (ma_cons' (m_of (me_lst (ma_cons' (me_tup (ma_cons' (m_of (me_lst (ma_cons' (me_varL (i := 13)) ma_nil))) (ma_cons' me_str ma_nil))) (ma_cons' (me_tup (ma_cons' (m_of (me_lst (ma_cons' (me_tup (ma_cons' (me_tup (ma_cons' me_int (ma_cons' (me_varL (i := 5)) (ma_cons' (me_bin op_addAll m_add (b_of (me_varL (i := 6))) (b_of me_int)) ma_nil)))) ma_nil)) ma_nil))) (ma_cons' me_str ma_nil))) (ma_cons' (me_tup (ma_cons' (m_of (me_lst (ma_cons' (me_tup (ma_cons' (me_tup (ma_cons' (me_bl1' cr_lenAll u_len T.z_len (b_of (me_varC (i := 1)))) (ma_cons' (me_varL (i := 5)) (ma_cons' (me_varL (i := 6)) ma_nil)))) ma_nil)) ma_nil))) (ma_cons' me_str ma_nil))) ma_nil))))) ma_nil))))))) ms_nil)
  (ms_cons (ms_asg (us := [14, 15, 16]) (me_ix (ix_all hr) m_ixAll (b_of (me_varL (i := 7))) (b_of (me_un un_neg un_negM (b_of me_int))) (fun _ _ => rfl)) (mg_tup rfl (mgs_cons' (mg_nameL (i := 14) sc__law_papers_hold.nd) (mgs_cons' (mg_nameL (i := 15) sc__law_papers_hold.nd) (mgs_cons' (mg_nameL (i := 16) sc__law_papers_hold.nd) mgs_nil)))))
  (ms_cons (ms_setOL (i := 11) sc__law_papers_hold.nd (me_lst (ma_cons' (me_tup (ma_cons' (m_of (me_lst (ma_cons' (me_varL (i := 7)) ma_nil))) (ma_cons' me_non ma_nil))) (ma_cons' (me_tup (ma_cons' (m_of (me_lst (ma_cons' (me_slcX (b_of (me_varL (i := 7))) mp_no (mp_some (b_of (me_un un_neg un_negM (b_of me_int))))) ma_nil))) (ma_cons' me_str ma_nil))) (ma_cons' (me_tup (ma_cons' (m_of (me_lst (ma_cons' (me_bin op_addAll m_add (b_of (me_slcX (b_of (me_varL (i := 7))) mp_no (mp_some (b_of (me_un un_neg un_negM (b_of me_int)))))) (b_of (me_tup (ma_cons' (me_tup (ma_cons' (me_varL (i := 14)) (ma_cons' (me_varL (i := 15)) (ma_cons' (me_bin op_addAll m_add (b_of (me_varL (i := 16))) (b_of me_int)) ma_nil)))) ma_nil)))) ma_nil))) (ma_cons' me_str ma_nil))) (ma_cons' (me_tup (ma_cons' (m_of (me_lst (ma_cons' (me_bin op_addAll m_add (b_of (me_slcX (b_of (me_varL (i := 7))) mp_no (mp_some (b_of (me_un un_neg un_negM (b_of me_int)))))) (b_of (me_tup (ma_cons' (me_tup (ma_cons' (me_varL (i := 14)) (ma_cons' (me_varL (i := 15)) (ma_cons' me_bl ma_nil)))) ma_nil)))) ma_nil))) (ma_cons' me_str ma_nil))) ma_nil))))))
  (ms_cons (ms_setOL (i := 11) sc__law_papers_hold.nd (me_binO op_cat o_cat (me_varBL (i := 11)) (b_ofO (me_lst (ma_cons' (me_tup (ma_cons' (m_of (me_lst (ma_cons' (me_bin op_addAll m_add (b_of (me_slcX (b_of (me_varL (i := 7))) mp_no (mp_some (b_of (me_un un_neg un_negM (b_of me_int)))))) (b_of (me_tup (ma_cons' (me_tup (ma_cons' (me_bl1' cr_lenAll u_len T.z_len (b_of (me_varC (i := 1)))) (ma_cons' (me_varL (i := 15)) (ma_cons' (me_varL (i := 16)) ma_nil)))) ma_nil)))) ma_nil))) (ma_cons' me_str ma_nil))) ma_nil)))))
  (ms_cons (ms_for (us := [12]) ps_own rfl (mi_rng1' T.z_range (me_bl1' cr_lenAll u_len T.z_len (b_of (me_varC (i := 1))))) (mg_nameL (i := 12) sc__law_papers_hold.nd) (ms_one (ms_appL (i := 11) (me_tup (ma_cons' (m_of (me_lst (ma_cons' (me_bin op_addAll m_add (b_of (me_slcX (b_of (me_varL (i := 7))) mp_no (mp_some (b_of (me_un un_neg un_negM (b_of me_int)))))) (b_of (me_tup (ma_cons' (me_tup (ma_cons' (me_varL (i := 12)) (ma_cons' (me_varL (i := 15)) (ma_cons' (me_varL (i := 16)) ma_nil)))) ma_nil)))) ma_nil))) (ma_cons' (me_ite (mt_tru' (b_of (me_call' (ok__law_is_off T) (hr.mono (by decide)) gd T.g__law_is_off T.F__law_is_off.kp T.b__law_is_off ps_body (ma_cons' (me_ix (ix_all hr) m_ixAll (b_of (me_varC (i := 1))) (b_of (me_varL (i := 12))) (fun _ _ => rfl)) (ma_cons' (me_varC (i := 2)) (ma_cons' (me_varL (i := 15)) (ma_cons' (me_varL (i := 16)) ma_nil))))))) me_non me_str) ma_nil))))))
  (ms_cons (ms_if (mt_cmp op_gtAll m_gtAll (b_of (me_bl1' cr_lenAll u_len T.z_len (b_of (me_varL (i := 7))))) (b_of me_int) (nomark _)) (ms_one (ms_appL (i := 11) (me_tup (ma_cons' (m_of (me_lst (ma_cons' (me_bin op_addAll m_add (b_of (me_slcX (b_of (me_varL (i := 7))) mp_no (mp_some (b_of (me_un un_neg un_negM (b_of me_int)))))) (b_of (me_tup (ma_cons' (me_tup (ma_cons' (me_ix (ix_all hr) m_ixAll (b_of (me_ix (ix_all hr) m_ixAll (b_of (me_varL (i := 7))) (b_of (me_un un_neg un_negM (b_of me_int))) (fun _ _ => rfl))) (b_of me_int) (fun _ _ => rfl)) (ma_cons' (me_ix (ix_all hr) m_ixAll (b_of (me_ix (ix_all hr) m_ixAll (b_of (me_varL (i := 7))) (b_of (me_un un_neg un_negM (b_of me_int))) (fun _ _ => rfl))) (b_of me_int) (fun _ _ => rfl)) (ma_cons' (me_varL (i := 16)) ma_nil)))) ma_nil)))) ma_nil))) (ma_cons' (me_ite (mt_tru' (b_of (me_call' (ok__law_is_off T) (hr.mono (by decide)) gd T.g__law_is_off T.F__law_is_off.kp T.b__law_is_off ps_body (ma_cons' (me_ix (ix_all hr) m_ixAll (b_of (me_varC (i := 1))) (b_of (me_ix (ix_all hr) m_ixAll (b_of (me_ix (ix_all hr) m_ixAll (b_of (me_varL (i := 7))) (b_of (me_un un_neg un_negM (b_of me_int))) (fun _ _ => rfl))) (b_of me_int) (fun _ _ => rfl))) (fun _ _ => rfl)) (ma_cons' (me_varC (i := 2)) (ma_cons' (me_ix (ix_all hr) m_ixAll (b_of (me_ix (ix_all hr) m_ixAll (b_of (me_varL (i := 7))) (b_of (me_un un_neg un_negM (b_of me_int))) (fun _ _ => rfl))) (b_of me_int) (fun _ _ => rfl)) (ma_cons' (me_varL (i := 16)) ma_nil))))))) me_non me_str) ma_nil))))) ms_nil)
  (ms_one (ms_frz (i := 11) (ms_ret (me_call' (ok__law_shown T) (hr.mono (by decide)) gd T.g__law_shown T.F__law_shown.kp T.b__law_shown ps_body (ma_cons' (me_gfn' T.g_accept_none rfl) (ma_cons' (m_of (me_lst (ma_cons' (me_varC (i := 1)) (ma_cons' (me_varC (i := 2)) (ma_cons' (me_varL (i := 5)) (ma_cons' (me_varL (i := 6)) ma_nil)))))) (ma_cons' (me_varL (i := 11)) ma_nil))))))))))))))))))
theorem ok__law_units_hold (T : Tx P K mg) : FnG P w K mg base (L2.CX P w) 9 (ad K 29) (fd K 29) ["state"] (spM K (cn K) m__law_units_hold) :=
  fn_miniDD T.F__law_units_hold sc__law_units_hold fun cdv A outer s H E hr gd => (ms_cons (ms_asg (us := [13, 14, 2]) (me_call' (ok__law_weights T) (hr.mono (by decide)) gd T.g__law_weights T.F__law_weights.kp T.b__law_weights ps_body (ma_cons' (me_varL (i := 0)) ma_nil)) (mg_tup rfl (mgs_cons' (mg_nameC (i := 13) sc__law_units_hold.nd) (mgs_cons' (mg_nameL (i := 14) sc__law_units_hold.nd) (mgs_cons' (mg_nameC (i := 2) sc__law_units_hold.nd) mgs_nil)))))
  (ms_cons (ms_setC (i := 1) sc__law_units_hold.nd (me_call' (ok__law_pick T) (hr.mono (by decide)) gd T.g__law_pick T.F__law_pick.kp T.b__law_pick ps_body (ma_cons' (me_varL (i := 0)) (ma_cons' (m_of (me_lst (ma_cons' (me_varL (i := 14)) (ma_cons' (me_bl1' (cr_maxX hr rfl) u_maxX T.z_max (b_ofO (me_lst (ma_cons' me_int (ma_cons' (me_bin op_sub m_sub (b_of (me_varL (i := 14))) (b_of me_int)) ma_nil))))) (ma_cons' (me_bin op_addAll m_add (b_of me_int) (b_of (me_call' (ok__law_draw T) (hr.mono (by decide)) gd T.g__law_draw T.F__law_draw.kp T.b__law_draw ps_body (ma_cons' (me_varL (i := 0)) (ma_cons' me_int ma_nil))))) ma_nil))))) ma_nil))))
  (ms_cons (ms_setC (i := 2) sc__law_units_hold.nd (me_call' (ok__law_pick T) (hr.mono (by decide)) gd T.g__law_pick T.F__law_pick.kp T.b__law_pick ps_body (ma_cons' (me_varL (i := 0)) (ma_cons' (m_of (me_lst (ma_cons' (me_varC (i := 2)) (ma_cons' (me_varC (i := 2)) (ma_cons' (me_call' (ok__law_draw T) (hr.mono (by decide)) gd T.g__law_draw T.F__law_draw.kp T.b__law_draw ps_body (ma_cons' (me_varL (i := 0)) (ma_cons' me_int ma_nil))) (ma_cons' me_int ma_nil)))))) ma_nil))))
  (ms_cons (ms_setC (i := 3) sc__law_units_hold.nd (me_ty1' call_tuple_of u_tuple T.z_tuple (b_ofO (me_lc rfl sc__law_units_hold.nd (mi_seq (me_varC (i := 13))) (blk_ok (own := [("weight", 16)]) (by kernel_rfl)) (fun _ _ _ _ _ => (mg_nameL (i := 16) sc__law_units_hold.nd)) (fun _ _ _ _ _ => mts_nil) (fun _ _ _ _ _ => (me_call' (ok__law_near T) (hr.mono (by decide)) gd T.g__law_near T.F__law_near.kp T.b__law_near passL (ma_cons' (me_varL (i := 16)) (ma_cons' (me_varC (i := 1)) ma_nil))))))))
  (ms_cons (ms_setLc (i := 4) rfl sc__law_units_hold.nd rfl (by kernel_rfl) (sw_t rfl (by kernel_rfl) rfl (by kernel_rfl)) (mi_rng1' T.z_range (me_bl1' cr_lenAll u_len T.z_len (b_of (me_varC (i := 13))))) (blk_ok (own := [("k", 15)]) (by kernel_rfl)) (fun _ _ _ _ _ => (mg_nameL (i := 15) sc__law_units_hold.nd)) (fun _ _ _ _ _ => (mts_one (mt_cmp op_gtAll m_gtAll (b_of (me_bl1' call_abs u_abs T.z_abs (b_of (me_bin op_sub m_sub (b_of (me_ix (ix_all hr) m_ixAll (b_of (me_varC (i := 13))) (b_of (me_varL (i := 15))) (fun _ _ => rfl))) (b_of (me_bin op_mulAll m_mulAll (b_of (me_ix (ix_all hr) m_ixAll (b_of (me_varC (i := 3))) (b_of (me_varL (i := 15))) (fun _ _ => rfl))) (b_of (me_varC (i := 1))))))))) (b_of (me_varC (i := 2))) (nomark _)))) (fun _ _ _ _ _ => (me_varL (i := 15))))
  (ms_cons (ms_setL (i := 5) sc__law_units_hold.nd (me_ite (mt_tru' (b_of (me_varL (i := 4)))) (me_tup (ma_cons' me_str (ma_cons' (me_ix (ix_all hr) m_ixAll (b_of (me_varL (i := 4))) (b_of me_int) (fun _ _ => rfl)) (ma_cons' (me_bin op_sub m_sub (b_of (me_ix (ix_all hr) m_ixAll (b_of (me_varC (i := 13))) (b_of (me_ix (ix_all hr) m_ixAll (b_of (me_varL (i := 4))) (b_of me_int) (fun _ _ => rfl))) (fun _ _ => rfl))) (b_of (me_bin op_mulAll m_mulAll (b_of (me_ix (ix_all hr) m_ixAll (b_of (me_varC (i := 3))) (b_of (me_ix (ix_all hr) m_ixAll (b_of (me_varL (i := 4))) (b_of me_int) (fun _ _ => rfl))) (fun _ _ => rfl))) (b_of (me_varC (i := 1)))))) ma_nil)))) (me_tup (ma_cons' me_str (ma_cons' (me_varC (i := 3)) ma_nil)))))
  (ms_cons (ms_setL (i := 6) sc__law_units_hold.nd (me_bin op_addAll m_add (b_of me_int) (b_of (me_call' (ok__law_draw T) (hr.mono (by decide)) gd T.g__law_draw T.F__law_draw.kp T.b__law_draw ps_body (ma_cons' (me_varL (i := 0)) (ma_cons' (me_call' (ok__law_pick T) (hr.mono (by decide)) gd T.g__law_pick T.F__law_pick.kp T.b__law_pick ps_body (ma_cons' (me_varL (i := 0)) (ma_cons' (m_of (me_lst (ma_cons' me_int (ma_cons' me_int ma_nil)))) ma_nil))) ma_nil))))))
  (ms_cons (ms_setL (i := 7) sc__law_units_hold.nd (me_bin op_addAll m_add (b_of (me_varL (i := 6))) (b_of (me_call' (ok__law_draw T) (hr.mono (by decide)) gd T.g__law_draw T.F__law_draw.kp T.b__law_draw ps_body (ma_cons' (me_varL (i := 0)) (ma_cons' (me_call' (ok__law_pick T) (hr.mono (by decide)) gd T.g__law_pick T.F__law_pick.kp T.b__law_pick ps_body (ma_cons' (me_varL (i := 0)) (ma_cons' (m_of (me_lst (ma_cons' me_int (ma_cons' me_int ma_nil)))) ma_nil))) ma_nil))))))
  (ms_cons (ms_setL (i := 8) sc__law_units_hold.nd (me_ty1' call_tuple_of u_tuple T.z_tuple (b_ofO (me_lc rfl sc__law_units_hold.nd (mi_rng2' T.z_range (me_varL (i := 6)) (me_bin op_addAll m_add (b_of (me_varL (i := 7))) (b_of me_int))) (blk_ok (own := [("k", 15)]) (by kernel_rfl)) (fun _ _ _ _ _ => (mg_nameC (i := 15) sc__law_units_hold.nd)) (fun _ _ _ _ _ => (mts_one (mt_not (mt_tru' (b_ofO (me_lc rfl sc__law_units_hold.nd (mi_seq (me_varC (i := 13))) (blk_ok (own := [("weight", 16)]) (by kernel_rfl)) (fun _ _ _ _ _ => (mg_nameL (i := 16) sc__law_units_hold.nd)) (fun _ _ _ _ _ => (mts_one (mt_cmp op_gtAll m_gtAll (b_of (me_call' (ok__law_gap T) (hr.mono (by decide)) gd T.g__law_gap T.F__law_gap.kp T.b__law_gap passL (ma_cons' (me_varL (i := 16)) (ma_cons' (me_varC (i := 15)) ma_nil)))) (b_of (me_varC (i := 2))) (nomark _)))) (fun _ _ _ _ _ => (me_varL (i := 16))))))))) (fun _ _ _ _ _ => (me_varC (i := 15)))))))
  (ms_cons (ms_setL (i := 9) sc__law_units_hold.nd (me_bl1' (cr_minY hr rfl) u_minY T.z_min (b_ofO (me_lc rfl sc__law_units_hold.nd (mi_rng2' T.z_range (me_varL (i := 6)) (me_bin op_addAll m_add (b_of (me_varL (i := 7))) (b_of me_int))) (blk_ok (own := [("k", 15)]) (by kernel_rfl)) (fun _ _ _ _ _ => (mg_nameC (i := 15) sc__law_units_hold.nd)) (fun _ _ _ _ _ => mts_nil) (fun _ _ _ _ _ => (me_tup (ma_cons' (me_bl1' (cr_maxX hr rfl) u_maxX T.z_max (b_ofO (me_lc rfl sc__law_units_hold.nd (mi_seq (me_varC (i := 13))) (blk_ok (own := [("weight", 16)]) (by kernel_rfl)) (fun _ _ _ _ _ => (mg_nameL (i := 16) sc__law_units_hold.nd)) (fun _ _ _ _ _ => mts_nil) (fun _ _ _ _ _ => (me_call' (ok__law_gap T) (hr.mono (by decide)) gd T.g__law_gap T.F__law_gap.kp T.b__law_gap passL (ma_cons' (me_varL (i := 16)) (ma_cons' (me_varC (i := 15)) ma_nil))))))) (ma_cons' (me_bin op_sub m_sub (b_of me_int) (b_of (me_varC (i := 15)))) ma_nil))))))))
  (ms_cons (ms_setL (i := 10) sc__law_units_hold.nd (me_ite (mt_cmp op_ltAll m_ltAll (b_of (me_bl1' (cr_minY hr rfl) u_minY T.z_min (b_of (me_varC (i := 13))))) (b_of me_int) (nomark _)) (me_bl1' (cr_maxX hr rfl) u_maxX T.z_max (b_ofO (me_lc rfl sc__law_units_hold.nd (mi_rng2' T.z_range me_int (me_bin op_addAll m_add (b_of (me_bl1' (cr_minY hr rfl) u_minY T.z_min (b_of (me_varC (i := 13))))) (b_of me_int))) (blk_ok (own := [("k", 15)]) (by kernel_rfl)) (fun _ _ _ _ _ => (mg_nameC (i := 15) sc__law_units_hold.nd)) (fun _ _ _ _ _ => (mts_one (mt_not (mt_tru' (b_ofO (me_lc rfl sc__law_units_hold.nd (mi_seq (me_varC (i := 13))) (blk_ok (own := [("weight", 16)]) (by kernel_rfl)) (fun _ _ _ _ _ => (mg_nameL (i := 16) sc__law_units_hold.nd)) (fun _ _ _ _ _ => (mts_one (mt_cmp op_gtAll m_gtAll (b_of (me_bin op_mod m_mod (b_of (me_ty1' call_int1 u_int T.z_int (b_of (me_varL (i := 16))))) (b_of (me_varC (i := 15))))) (b_of me_int) (nomark _)))) (fun _ _ _ _ _ => (me_varL (i := 16))))))))) (fun _ _ _ _ _ => (me_varC (i := 15)))))) (me_call' (ok_common_unit T) (hr.mono (by decide)) gd T.g_common_unit T.F_common_unit.kp T.b_common_unit ps_body (ma_cons' (me_varC (i := 13)) ma_nil))))
  (ms_cons (ms_setL (i := 11) sc__law_units_hold.nd (m_of (me_lst (ma_cons' (me_call' (ok_judge_unit T) (hr.mono (by decide)) gd T.g_judge_unit T.F_judge_unit.kp T.b_judge_unit ps_body (ma_cons' (me_varC (i := 13)) (ma_cons' (me_varC (i := 2)) (ma_cons' (me_varC (i := 1)) ma_nil)))) (ma_cons' (me_call' (ok_off_weights T) (hr.mono (by decide)) gd T.g_off_weights T.F_off_weights.kp T.b_off_weights ps_body (ma_cons' (me_varC (i := 13)) (ma_cons' (me_varC (i := 2)) (ma_cons' (me_varC (i := 1)) ma_nil)))) (ma_cons' (me_call' (ok_good_units T) (hr.mono (by decide)) gd T.g_good_units T.F_good_units.kp T.b_good_units ps_body (ma_cons' (me_varC (i := 13)) (ma_cons' (me_varC (i := 2)) (ma_cons' (me_varL (i := 6)) (ma_cons' (me_varL (i := 7)) ma_nil))))) (ma_cons' (me_call' (ok_greatest_unit T) (hr.mono (by decide)) gd T.g_greatest_unit T.F_greatest_unit.kp T.b_greatest_unit ps_body (ma_cons' (me_varC (i := 13)) (ma_cons' (me_varC (i := 2)) (ma_cons' (me_varL (i := 6)) (ma_cons' (me_varL (i := 7)) ma_nil))))) ma_nil)))))))
  (ms_cons (ms_setL (i := 11) sc__law_units_hold.nd (me_bin op_addAll m_add (b_of (me_varL (i := 11))) (b_ofO (me_lst (ma_cons' (me_call' (ok_closest_unit T) (hr.mono (by decide)) gd T.g_closest_unit T.F_closest_unit.kp T.b_closest_unit ps_body (ma_cons' (me_varC (i := 13)) (ma_cons' (me_varL (i := 6)) (ma_cons' (me_varL (i := 7)) ma_nil)))) (ma_cons' (me_call' (ok_common_unit T) (hr.mono (by decide)) gd T.g_common_unit T.F_common_unit.kp T.b_common_unit ps_body (ma_cons' (me_varC (i := 13)) ma_nil)) ma_nil))))))
  (ms_cons (ms_if (mt_not (mt_tru' (b_of (me_call' (ok__law_same T) (hr.mono (by decide)) gd T.g__law_same T.F__law_same.kp T.b__law_same ps_body (ma_cons' (me_varL (i := 11)) (ma_cons' (m_of (me_lst (ma_cons' (me_varL (i := 5)) (ma_cons' (me_ty1' call_tuple_of u_tuple T.z_tuple (b_of (me_varL (i := 4)))) (ma_cons' (me_varL (i := 8)) (ma_cons' (me_ite (mt_tru' (b_of (me_varL (i := 8)))) (me_ix (ix_all hr) m_ixAll (b_of (me_varL (i := 8))) (b_of (me_un un_neg un_negM (b_of me_int))) (fun _ _ => rfl)) me_non) (ma_cons' (me_tup (ma_cons' (me_ix (ix_all hr) m_ixAll (b_of (me_varL (i := 9))) (b_of me_int) (fun _ _ => rfl)) (ma_cons' (me_bin op_sub m_sub (b_of me_int) (b_of (me_ix (ix_all hr) m_ixAll (b_of (me_varL (i := 9))) (b_of me_int) (fun _ _ => rfl)))) ma_nil))) (ma_cons' (me_varL (i := 10)) ma_nil)))))))) ma_nil)))))) (ms_one (ms_ret me_bl)) ms_nil)
  (ms_cons (ms_setL (i := 12) sc__law_units_hold.nd (me_call' (ok__law_rows T) (hr.mono (by decide)) gd T.g__law_rows T.F__law_rows.kp T.b__law_rows ps_body (ma_cons' (me_varC (i := 13)) (ma_cons' (me_varC (i := 2)) (ma_cons' (me_varL (i := 6)) (ma_cons' (me_varL (i := 7)) ma_nil))))))
  (ms_cons (ms_if (PW.pt (mw_or (mt_cmp (op_neD hr.units) m_ne (b_of (me_cmp op_isN m_is (b_of (me_varL (i := 12))) (b_of me_non) (nomark _))) (b_of (me_cmp (op_neD hr.units) m_ne (b_of (me_varL (i := 8))) (b_of (me_tup ma_nil)) (nomark _))) (nomark _)) (mw_or1 (mt_not (mt_tru' (b_of (me_call' (ok__law_same T) (hr.mono (by decide)) gd T.g__law_same T.F__law_same.kp T.b__law_same ps_body (ma_cons' (me_call' (ok_rows_against T) (hr.mono (by decide)) gd T.g_rows_against T.F_rows_against.kp T.b_rows_against ps_body (ma_cons' (me_varC (i := 13)) (ma_cons' (me_varC (i := 2)) (ma_cons' (me_varL (i := 6)) (ma_cons' (me_varL (i := 7)) ma_nil))))) (ma_cons' (me_varL (i := 12)) ma_nil))))))))) (ms_one (ms_ret me_bl)) ms_nil)
  (ms_one (ms_ret (me_call' (ok__law_papers_hold T) (hr.mono (by decide)) gd T.g__law_papers_hold T.F__law_papers_hold.kp T.b__law_papers_hold ps_body (ma_cons' (me_varL (i := 0)) (ma_cons' (me_varC (i := 13)) (ma_cons' (me_varC (i := 2)) (ma_cons' (me_varC (i := 1)) (ma_cons' (me_varC (i := 3)) (ma_cons' (me_varL (i := 6)) (ma_cons' (me_varL (i := 7)) (ma_cons' (me_varL (i := 12)) ma_nil)))))))))))))))))))))))))))
theorem ok__law_great_holds (T : Tx P K mg) : FnG P w K mg base (L2.CX P w) 7 (ad K 31) (fd K 31) ["state"] (spM K (cn K) m__law_great_holds) :=
  fn_miniDD T.F__law_great_holds sc__law_great_holds fun cdv A outer s H E hr gd => (ms_cons (ms_setL (i := 1) sc__law_great_holds.nd (me_bin op_addP m_addP (b_of me_int) (b_of (me_call' (ok__law_draw T) (hr.mono (by decide)) gd T.g__law_draw T.F__law_draw.kp T.b__law_draw ps_body (ma_cons' (me_varL (i := 0)) (ma_cons' me_int ma_nil))))))
  (ms_cons (ms_setL (i := 2) sc__law_great_holds.nd (me_bin op_addP m_addP (b_of (me_bin op_mulP m_mulP (b_of (me_tupX (ma_cons' me_int ma_nil))) (b_of me_int))) (b_of (me_tupX (ma_cons' (me_varL (i := 1)) ma_nil)))))
  (ms_cons (ms_setL (i := 3) sc__law_great_holds.nd (me_bl1' (cr_minY hr rfl) u_minY T.z_min (b_ofO (me_lst (ma_cons' (me_bin op_sub m_sub (b_of me_int) (b_of (me_varL (i := 1)))) (ma_cons' (me_bl1' call_abs u_abs T.z_abs (b_of (me_bin op_sub m_sub (b_of me_int) (b_of (me_bin op_mulP m_mulP (b_of me_int) (b_of (me_varL (i := 1)))))))) ma_nil))))))
  (ms_cons (ms_setL (i := 4) sc__law_great_holds.nd (m_of (me_lst (ma_cons' (me_call' (ok_judge_unit T) (hr.mono (by decide)) gd T.g_judge_unit T.F_judge_unit.kp T.b_judge_unit ps_body (ma_cons' (me_varL (i := 2)) (ma_cons' (me_varL (i := 3)) (ma_cons' (me_varL (i := 1)) ma_nil)))) (ma_cons' (me_call' (ok_common_unit T) (hr.mono (by decide)) gd T.g_common_unit T.F_common_unit.kp T.b_common_unit ps_body (ma_cons' (me_tupX (ma_cons' me_int (ma_cons' me_int ma_nil))) ma_nil)) (ma_cons' (me_call' (ok_common_unit T) (hr.mono (by decide)) gd T.g_common_unit T.F_common_unit.kp T.b_common_unit ps_body (ma_cons' (me_bin op_mulP m_mulP (b_of (me_tupX (ma_cons' me_int ma_nil))) (b_of me_int)) ma_nil)) (ma_cons' (me_call' (ok_judge_unit T) (hr.mono (by decide)) gd T.g_judge_unit T.F_judge_unit.kp T.b_judge_unit ps_body (ma_cons' (me_tupX (ma_cons' me_int ma_nil)) (ma_cons' me_int (ma_cons' me_int ma_nil)))) (ma_cons' (me_call' (ok_judge_unit T) (hr.mono (by decide)) gd T.g_judge_unit T.F_judge_unit.kp T.b_judge_unit ps_body (ma_cons' (me_tupX (ma_cons' me_int ma_nil)) (ma_cons' me_int (ma_cons' me_int ma_nil)))) ma_nil))))))))
  (ms_cons (ms_setL (i := 5) sc__law_great_holds.nd (me_ite (mt_cmp op_leAll m_leAll (b_of (me_bin op_sub m_sub (b_of me_int) (b_of (me_varL (i := 1))))) (b_of (me_bin op_sub m_sub (b_of (me_bin op_mulP m_mulP (b_of me_int) (b_of (me_varL (i := 1))))) (b_of me_int))) (nomark _)) me_int me_int))
  (ms_cons (ms_if (mt_not (mt_tru' (b_of (me_call' (ok__law_same T) (hr.mono (by decide)) gd T.g__law_same T.F__law_same.kp T.b__law_same ps_body (ma_cons' (me_varL (i := 4)) (ma_cons' (m_of (me_lst (ma_cons' (me_tupX (ma_cons' me_str (ma_cons' (me_bin op_addP m_addP (b_of (me_bin op_mulP m_mulP (b_of (me_tupX (ma_cons' (me_varL (i := 5)) ma_nil))) (b_of me_int))) (b_of (me_tupX (ma_cons' me_int ma_nil)))) ma_nil))) (ma_cons' me_int (ma_cons' me_int (ma_cons' (me_tupX (ma_cons' me_str (ma_cons' (me_tupX (ma_cons' me_int ma_nil)) ma_nil))) (ma_cons' (me_tupX (ma_cons' me_str (ma_cons' me_int (ma_cons' (me_un un_neg un_negM (b_of me_int)) ma_nil)))) ma_nil))))))) ma_nil)))))) (ms_one (ms_ret me_bl)) ms_nil)
  (ms_cons (ms_setC (i := 6) sc__law_great_holds.nd (me_bin op_addP m_addP (b_of me_int) (b_of (me_call' (ok__law_draw T) (hr.mono (by decide)) gd T.g__law_draw T.F__law_draw.kp T.b__law_draw ps_body (ma_cons' (me_varL (i := 0)) (ma_cons' me_int ma_nil))))))
  (ms_cons (ms_setL (i := 4) sc__law_great_holds.nd (m_of (me_lst (ma_cons' (me_call' (ok__law_asked T) (hr.mono (by decide)) gd T.g__law_asked T.F__law_asked.kp T.b__law_asked ps_body (ma_cons' (me_gfn' T.g_good_units rfl) (ma_cons' (m_of (me_lst (ma_cons' (me_tupX (ma_cons' me_int ma_nil)) (ma_cons' me_int (ma_cons' (me_varC (i := 6)) (ma_cons' (me_bin op_addP m_addP (b_of (me_varC (i := 6))) (b_of me_int)) ma_nil)))))) ma_nil))) (ma_cons' (me_call' (ok__law_asked T) (hr.mono (by decide)) gd T.g__law_asked T.F__law_asked.kp T.b__law_asked ps_body (ma_cons' (me_gfn' T.g_good_units rfl) (ma_cons' (m_of (me_lst (ma_cons' (me_tupX (ma_cons' me_int ma_nil)) (ma_cons' me_int (ma_cons' (me_varC (i := 6)) (ma_cons' (me_bin op_addP m_addP (b_of (me_varC (i := 6))) (b_of me_int)) ma_nil)))))) ma_nil))) (ma_cons' (me_call' (ok__law_asked T) (hr.mono (by decide)) gd T.g__law_asked T.F__law_asked.kp T.b__law_asked ps_body (ma_cons' (me_gfn' T.g_closest_unit rfl) (ma_cons' (m_of (me_lst (ma_cons' (me_tupX (ma_cons' me_int (ma_cons' me_int ma_nil))) (ma_cons' (me_varC (i := 6)) (ma_cons' (me_bin op_addP m_addP (b_of (me_varC (i := 6))) (b_of me_int)) ma_nil))))) ma_nil))) ma_nil))))))
  (ms_cons (ms_setL (i := 7) sc__law_great_holds.nd (me_ty1' call_tuple_of u_tuple T.z_tuple (b_ofO (me_lc rfl sc__law_great_holds.nd (mi_seq (m_of (me_lst (ma_cons' me_int (ma_cons' me_int (ma_cons' me_int (ma_cons' me_int (ma_cons' me_int (ma_cons' me_int (ma_cons' me_int (ma_cons' me_int (ma_cons' me_int (ma_cons' me_int (ma_cons' me_int (ma_cons' me_int (ma_cons' me_int (ma_cons' me_int (ma_cons' me_int (ma_cons' me_int (ma_cons' me_int (ma_cons' me_int (ma_cons' me_int (ma_cons' me_int (ma_cons' me_int (ma_cons' me_int (ma_cons' me_int (ma_cons' me_int (ma_cons' me_int (ma_cons' me_int (ma_cons' me_int (ma_cons' me_int ma_nil))))))))))))))))))))))))))))))) (blk_ok (own := [("k", 8)]) (by kernel_rfl)) (fun _ _ _ _ _ => (mg_nameL (i := 8) sc__law_great_holds.nd)) (fun _ _ _ _ _ => (mts_one (mt_chain op_leAll op_leAll m_leAll m_leAll (b_of (me_varC (i := 6))) (b_of (me_varL (i := 8))) (b_of (me_bin op_addP m_addP (b_of (me_varC (i := 6))) (b_of me_int)))))) (fun _ _ _ _ _ => (me_varL (i := 8)))))))
  (ms_cons (ms_setL (i := 7) sc__law_great_holds.nd (me_bin op_addP m_addP (b_of (me_varL (i := 7))) (b_of (me_ty1' call_tuple_of u_tuple T.z_tuple (b_ofO (me_lc rfl sc__law_great_holds.nd (mi_seq (m_of (me_lst (ma_cons' me_int (ma_cons' me_int (ma_cons' me_int (ma_cons' me_int (ma_cons' me_int (ma_cons' me_int (ma_cons' me_int (ma_cons' me_int ma_nil))))))))))) (blk_ok (own := [("k", 8)]) (by kernel_rfl)) (fun _ _ _ _ _ => (mg_nameL (i := 8) sc__law_great_holds.nd)) (fun _ _ _ _ _ => (mts_one (mt_chain op_leAll op_leAll m_leAll m_leAll (b_of (me_varC (i := 6))) (b_of (me_varL (i := 8))) (b_of (me_bin op_addP m_addP (b_of (me_varC (i := 6))) (b_of me_int)))))) (fun _ _ _ _ _ => (me_varL (i := 8)))))))))
  (ms_one (ms_ret (me_call' (ok__law_same T) (hr.mono (by decide)) gd T.g__law_same T.F__law_same.kp T.b__law_same ps_body (ma_cons' (me_varL (i := 4)) (ma_cons' (m_of (me_lst (ma_cons' (m_of (me_lst (ma_cons' (me_varL (i := 7)) ma_nil))) (ma_cons' me_str (ma_cons' me_str ma_nil))))) ma_nil)))))))))))))))
theorem ok_law (T : Tx P K mg) : FnG P w K mg base (L2.CX P w) 10 (ad K 32) (fd K 32) ["script"] (spM K (cn K) m_law) :=
  fn_miniDD T.F_law sc_law fun cdv A outer s H E hr gd => (ms_cons (ms_mk (i := 1) sc_law.nd (ok__law_start T) (hr.mono (by decide)) gd T.g__law_start T.F__law_start.kp T.b__law_start ps_body (ma_cons' (me_varL (i := 0)) ma_nil))
  (ms_cons (ms_if (mt_cmp (op_eqD hr.units) m_eq (b_of (me_call' (ok__law_draw T) (hr.mono (by decide)) gd T.g__law_draw T.F__law_draw.kp T.b__law_draw ps_body (ma_cons' (me_varL (i := 1)) (ma_cons' me_int ma_nil)))) (b_of me_int) (nomark _)) (ms_one (ms_ret (me_call' (ok__law_great_holds T) (hr.mono (by decide)) gd T.g__law_great_holds T.F__law_great_holds.kp T.b__law_great_holds ps_body (ma_cons' (me_varL (i := 1)) ma_nil)))) ms_nil)
  (ms_cons (ms_for (us := [2]) ps_own rfl (mi_rng1' T.z_range me_int) (mg_nameL (i := 2) sc_law.nd) (ms_one (ms_if (mt_not (mt_tru' (b_of (me_call' (ok__law_units_hold T) (hr.mono (by decide)) gd T.g__law_units_hold T.F__law_units_hold.kp T.b__law_units_hold ps_body (ma_cons' (me_varL (i := 1)) ma_nil))))) (ms_one (ms_ret me_bl)) ms_nil)))
  (ms_one (ms_ret me_bl)))))
end
def fn : List He.DefD := [d_is_integer, d_check_weights, d_check_slack, d_check_unit, d_nearest, d_judge_unit, d_check_range, d_is_good, d_good_units, d_greatest_unit, d_closest_unit, d_accept_times, d_accept_none, d_far, d_rows_against, d_common_unit, d_off_weights, d__law_start, d__law_draw, d__law_pick, d__law_same, d__law_word, d__law_asked, d__law_shown, d__law_near, d__law_gap, d__law_weights, d__law_is_off, d__law_rows, d__law_papers_hold, d__law_units_hold, d__law_great_holds, d_law]
def fa : List He.Fa := ([.glo "is_integer", .glo "check_weights", .glo "check_slack", .glo "check_unit", .glo "nearest", .glo "judge_unit", .glo "check_range", .glo "is_good", .glo "good_units", .glo "greatest_unit", .glo "closest_unit", .glo "accept_times", .glo "accept_none", .glo "far", .glo "rows_against", .glo "common_unit", .glo "off_weights", .glo "_law_start", .glo "_law_draw", .glo "_law_pick", .glo "_law_same", .glo "_law_word", .glo "_law_asked", .glo "_law_shown", .glo "_law_near", .glo "_law_gap", .glo "_law_weights", .glo "_law_is_off", .glo "_law_rows", .glo "_law_papers_hold"] : List He.Fa) ++ ([.glo "_law_units_hold", .glo "_law_great_holds", .glo "law", .int "MAX_COINS" 60, .int "MAX_UNIT" 100000, .int "MAX_LOOKED" 20000, .free "isinstance", .free "bool", .free "int", .free "len", .free "tuple", .free "super", .free "all", .free "max", .free "abs", .free "enumerate", .free "range", .free "min", .free "zip", .free "list", .free "repr", .free "str", .glo "FindError", .glo "ArgumentError", .glo "PaperError", .glo "TooMany", .glo "TextError", .glo "CabinetError"] : List He.Fa)
abbrev R : PySem.W.OpenRow := PySem.W.OpenLaw.row PySem.Challenge.rw_hoardsread_k19_units
def rs : List Nat := [1, 3, 2]
def is : List InitW := [initOf (top 4), initOf (top 6), initOf (top 5)]
abbrev hk : PySem.W.Hook := hookE 4 fa fn "/claim/cut.py" true rs is
def ob (s : PySem.W.SharedT) : AlE := obsEG 4 fa fn "/claim/cut.py" true rs (HandSHeadRun.getT s)
theorem ob_eq (s : PySem.W.SharedT) : ob s = hk.obs s.abs := obsEG_eq (HandSHeadRun.getT_eq s)
theorem pat_ArgumentError : InitPat (fldN 1) (initOf (top 4)) := ⟨_, _, _, _, _, _, _, _, _, _, _, _, _, _, rfl, rfl⟩
theorem pat_TooMany : InitPat (fldN 3) (initOf (top 6)) := ⟨_, _, _, _, _, _, _, _, _, _, _, _, _, _, rfl, rfl⟩
theorem pat_PaperError : InitPat (fldN 2) (initOf (top 5)) := ⟨_, _, _, _, _, _, _, _, _, _, _, _, _, _, rfl, rfl⟩
def loose : List Str := (["__name__", "CabinetError", "TextError", "FindError", "ArgumentError", "PaperError", "TooMany", "is_integer", "MAX_COINS", "MAX_LOOKED", "MAX_UNIT", "check_weights", "check_slack", "check_unit", "nearest", "judge_unit", "check_range", "is_good", "good_units", "greatest_unit", "closest_unit", "accept_times", "accept_none", "rows_against", "far", "common_unit", "off_weights", "_law_start", "_law_draw", "_law_pick"] : List Str) ++ (["_law_same", "_law_word", "_law_asked", "_law_shown", "_law_near", "_law_gap", "_law_weights", "_law_is_off", "_law_rows", "_law_units_hold", "_law_papers_hold", "_law_great_holds"] : List Str)
theorem run (w : World) : HandSHeadRun.RunEq R (PySem.W.view R.prog [45]) hk ob 4000 loose w := by
  intro os
  kernel_rfl
set_option maxHeartbeats 0 in
theorem tx {K : PySem.W.Frag} {h : Heap} {mg : Str → Option Value} (X : K.In h) (G : h.Ns mainGlobals mg) (c0 : obsE fa fn "/claim/cut.py" true rs K = valE fn is) (c : He.SaysD fa fn K) : Tx PySem.Challenge.rw_hoardsread_k19_units.prog K mg where
  F_is_integer := fdA_of (c.def_ 0 (d := d_is_integer) rfl)
  b_is_integer := FunD.bindsN (ps := ["value"]) (fdA_of (c.def_ 0 (d := d_is_integer) rfl)) fun _ _ _ _ _ _ us hl => match us, hl with | [_], _ => rfl
  g_is_integer := He.glo_ok X G (c.fact 0 (f := .glo "is_integer") rfl)
  F_check_weights := fdA_of (c.def_ 1 (d := d_check_weights) rfl)
  b_check_weights := FunD.bindsN (ps := ["weights"]) (fdA_of (c.def_ 1 (d := d_check_weights) rfl)) fun _ _ _ _ _ _ us hl => match us, hl with | [_], _ => rfl
  g_check_weights := He.glo_ok X G (c.fact 1 (f := .glo "check_weights") rfl)
  F_check_slack := fdA_of (c.def_ 2 (d := d_check_slack) rfl)
  b_check_slack := FunD.bindsN (ps := ["slack"]) (fdA_of (c.def_ 2 (d := d_check_slack) rfl)) fun _ _ _ _ _ _ us hl => match us, hl with | [_], _ => rfl
  g_check_slack := He.glo_ok X G (c.fact 2 (f := .glo "check_slack") rfl)
  F_check_unit := fdA_of (c.def_ 3 (d := d_check_unit) rfl)
  b_check_unit := by
    obtain ⟨ds, h1, h2⟩ := FunD.binds1 (ps := ["unit", "reason"]) (fdA_of (c.def_ 3 (d := d_check_unit) rfl)) 2 1 (by intro z; cases z) rfl fun _ _ _ _ _ _ _ us its hl hi => match us, hl, its, hi with | [_, _], _, [_], _ => ⟨_, rfl, rfl⟩
    cases h1; exact h2
  bd_check_unit := by
    obtain ⟨ds, h1, h2⟩ := FunD.binds1 (ps := ["unit", "reason"]) (fdA_of (c.def_ 3 (d := d_check_unit) rfl)) 1 0 (by intro z; cases z) rfl fun _ _ _ _ _ _ _ us its hl hi => match us, hl, its, hi with | [_], _, [_], _ => ⟨_, rfl, rfl⟩
    obtain ⟨u, rfl, t, rfl⟩ := vals1 h1
    exact ⟨t, h2⟩
  g_check_unit := He.glo_ok X G (c.fact 3 (f := .glo "check_unit") rfl)
  F_nearest := fdA_of (c.def_ 4 (d := d_nearest) rfl)
  b_nearest := FunD.bindsN (ps := ["weight", "unit"]) (fdA_of (c.def_ 4 (d := d_nearest) rfl)) fun _ _ _ _ _ _ us hl => match us, hl with | [_, _], _ => rfl
  g_nearest := He.glo_ok X G (c.fact 4 (f := .glo "nearest") rfl)
  F_judge_unit := fdA_of (c.def_ 5 (d := d_judge_unit) rfl)
  b_judge_unit := FunD.bindsN (ps := ["weights", "slack", "unit"]) (fdA_of (c.def_ 5 (d := d_judge_unit) rfl)) fun _ _ _ _ _ _ us hl => match us, hl with | [_, _, _], _ => rfl
  g_judge_unit := He.glo_ok X G (c.fact 5 (f := .glo "judge_unit") rfl)
  F_check_range := fdA_of (c.def_ 6 (d := d_check_range) rfl)
  b_check_range := FunD.bindsN (ps := ["weights", "slack", "low", "high"]) (fdA_of (c.def_ 6 (d := d_check_range) rfl)) fun _ _ _ _ _ _ us hl => match us, hl with | [_, _, _, _], _ => rfl
  g_check_range := He.glo_ok X G (c.fact 6 (f := .glo "check_range") rfl)
  F_is_good := fdA_of (c.def_ 7 (d := d_is_good) rfl)
  b_is_good := FunD.bindsN (ps := ["weights", "slack", "unit"]) (fdA_of (c.def_ 7 (d := d_is_good) rfl)) fun _ _ _ _ _ _ us hl => match us, hl with | [_, _, _], _ => rfl
  g_is_good := He.glo_ok X G (c.fact 7 (f := .glo "is_good") rfl)
  F_good_units := fdA_of (c.def_ 8 (d := d_good_units) rfl)
  b_good_units := FunD.bindsN (ps := ["weights", "slack", "low", "high"]) (fdA_of (c.def_ 8 (d := d_good_units) rfl)) fun _ _ _ _ _ _ us hl => match us, hl with | [_, _, _, _], _ => rfl
  g_good_units := He.glo_ok X G (c.fact 8 (f := .glo "good_units") rfl)
  F_greatest_unit := fdA_of (c.def_ 9 (d := d_greatest_unit) rfl)
  b_greatest_unit := FunD.bindsN (ps := ["weights", "slack", "low", "high"]) (fdA_of (c.def_ 9 (d := d_greatest_unit) rfl)) fun _ _ _ _ _ _ us hl => match us, hl with | [_, _, _, _], _ => rfl
  g_greatest_unit := He.glo_ok X G (c.fact 9 (f := .glo "greatest_unit") rfl)
  F_closest_unit := fdA_of (c.def_ 10 (d := d_closest_unit) rfl)
  b_closest_unit := FunD.bindsN (ps := ["weights", "low", "high"]) (fdA_of (c.def_ 10 (d := d_closest_unit) rfl)) fun _ _ _ _ _ _ us hl => match us, hl with | [_, _, _], _ => rfl
  g_closest_unit := He.glo_ok X G (c.fact 10 (f := .glo "closest_unit") rfl)
  F_accept_times := fdA_of (c.def_ 11 (d := d_accept_times) rfl)
  b_accept_times := FunD.bindsN (ps := ["weights", "slack", "unit", "times"]) (fdA_of (c.def_ 11 (d := d_accept_times) rfl)) fun _ _ _ _ _ _ us hl => match us, hl with | [_, _, _, _], _ => rfl
  g_accept_times := He.glo_ok X G (c.fact 11 (f := .glo "accept_times") rfl)
  F_accept_none := fdA_of (c.def_ 12 (d := d_accept_none) rfl)
  b_accept_none := FunD.bindsN (ps := ["weights", "slack", "low", "high", "rows"]) (fdA_of (c.def_ 12 (d := d_accept_none) rfl)) fun _ _ _ _ _ _ us hl => match us, hl with | [_, _, _, _, _], _ => rfl
  g_accept_none := He.glo_ok X G (c.fact 12 (f := .glo "accept_none") rfl)
  F_far := fdA_of (c.def_ 13 (d := d_far) rfl)
  b_far := FunD.bindsN (ps := ["weight", "slack", "unit"]) (fdA_of (c.def_ 13 (d := d_far) rfl)) fun _ _ _ _ _ _ us hl => match us, hl with | [_, _, _], _ => rfl
  g_far := He.glo_ok X G (c.fact 13 (f := .glo "far") rfl)
  F_rows_against := fdA_of (c.def_ 14 (d := d_rows_against) rfl)
  b_rows_against := FunD.bindsN (ps := ["weights", "slack", "low", "high"]) (fdA_of (c.def_ 14 (d := d_rows_against) rfl)) fun _ _ _ _ _ _ us hl => match us, hl with | [_, _, _, _], _ => rfl
  g_rows_against := He.glo_ok X G (c.fact 14 (f := .glo "rows_against") rfl)
  F_common_unit := fdA_of (c.def_ 15 (d := d_common_unit) rfl)
  b_common_unit := FunD.bindsN (ps := ["weights"]) (fdA_of (c.def_ 15 (d := d_common_unit) rfl)) fun _ _ _ _ _ _ us hl => match us, hl with | [_], _ => rfl
  g_common_unit := He.glo_ok X G (c.fact 15 (f := .glo "common_unit") rfl)
  F_off_weights := fdA_of (c.def_ 16 (d := d_off_weights) rfl)
  b_off_weights := FunD.bindsN (ps := ["weights", "slack", "unit"]) (fdA_of (c.def_ 16 (d := d_off_weights) rfl)) fun _ _ _ _ _ _ us hl => match us, hl with | [_, _, _], _ => rfl
  g_off_weights := He.glo_ok X G (c.fact 16 (f := .glo "off_weights") rfl)
  F__law_start := fdA_of (c.def_ 17 (d := d__law_start) rfl)
  b__law_start := FunD.bindsN (ps := ["script"]) (fdA_of (c.def_ 17 (d := d__law_start) rfl)) fun _ _ _ _ _ _ us hl => match us, hl with | [_], _ => rfl
  g__law_start := He.glo_ok X G (c.fact 17 (f := .glo "_law_start") rfl)
  F__law_draw := fdA_of (c.def_ 18 (d := d__law_draw) rfl)
  b__law_draw := FunD.bindsN (ps := ["state", "many"]) (fdA_of (c.def_ 18 (d := d__law_draw) rfl)) fun _ _ _ _ _ _ us hl => match us, hl with | [_, _], _ => rfl
  g__law_draw := He.glo_ok X G (c.fact 18 (f := .glo "_law_draw") rfl)
  F__law_pick := fdA_of (c.def_ 19 (d := d__law_pick) rfl)
  b__law_pick := FunD.bindsN (ps := ["state", "some"]) (fdA_of (c.def_ 19 (d := d__law_pick) rfl)) fun _ _ _ _ _ _ us hl => match us, hl with | [_, _], _ => rfl
  g__law_pick := He.glo_ok X G (c.fact 19 (f := .glo "_law_pick") rfl)
  F__law_same := fdA_of (c.def_ 20 (d := d__law_same) rfl)
  b__law_same := FunD.bindsN (ps := ["actual", "due"]) (fdA_of (c.def_ 20 (d := d__law_same) rfl)) fun _ _ _ _ _ _ us hl => match us, hl with | [_, _], _ => rfl
  g__law_same := He.glo_ok X G (c.fact 20 (f := .glo "_law_same") rfl)
  F__law_word := fdA_of (c.def_ 21 (d := d__law_word) rfl)
  b__law_word := FunD.bindsN (ps := ["error"]) (fdA_of (c.def_ 21 (d := d__law_word) rfl)) fun _ _ _ _ _ _ us hl => match us, hl with | [_], _ => rfl
  g__law_word := He.glo_ok X G (c.fact 21 (f := .glo "_law_word") rfl)
  F__law_asked := fdA_of (c.def_ 22 (d := d__law_asked) rfl)
  b__law_asked := FunD.bindsN (ps := ["way", "some"]) (fdA_of (c.def_ 22 (d := d__law_asked) rfl)) fun _ _ _ _ _ _ us hl => match us, hl with | [_, _], _ => rfl
  g__law_asked := He.glo_ok X G (c.fact 22 (f := .glo "_law_asked") rfl)
  F__law_shown := fdA_of (c.def_ 23 (d := d__law_shown) rfl)
  b__law_shown := FunD.bindsN (ps := ["way", "ahead", "papers"]) (fdA_of (c.def_ 23 (d := d__law_shown) rfl)) fun _ _ _ _ _ _ us hl => match us, hl with | [_, _, _], _ => rfl
  g__law_shown := He.glo_ok X G (c.fact 23 (f := .glo "_law_shown") rfl)
  F__law_near := fdA_of (c.def_ 24 (d := d__law_near) rfl)
  b__law_near := FunD.bindsN (ps := ["weight", "unit"]) (fdA_of (c.def_ 24 (d := d__law_near) rfl)) fun _ _ _ _ _ _ us hl => match us, hl with | [_, _], _ => rfl
  g__law_near := He.glo_ok X G (c.fact 24 (f := .glo "_law_near") rfl)
  F__law_gap := fdA_of (c.def_ 25 (d := d__law_gap) rfl)
  b__law_gap := FunD.bindsN (ps := ["weight", "unit"]) (fdA_of (c.def_ 25 (d := d__law_gap) rfl)) fun _ _ _ _ _ _ us hl => match us, hl with | [_, _], _ => rfl
  g__law_gap := He.glo_ok X G (c.fact 25 (f := .glo "_law_gap") rfl)
  F__law_weights := fdA_of (c.def_ 26 (d := d__law_weights) rfl)
  b__law_weights := FunD.bindsN (ps := ["state"]) (fdA_of (c.def_ 26 (d := d__law_weights) rfl)) fun _ _ _ _ _ _ us hl => match us, hl with | [_], _ => rfl
  g__law_weights := He.glo_ok X G (c.fact 26 (f := .glo "_law_weights") rfl)
  F__law_is_off := fdA_of (c.def_ 27 (d := d__law_is_off) rfl)
  b__law_is_off := FunD.bindsN (ps := ["weight", "slack", "first", "last"]) (fdA_of (c.def_ 27 (d := d__law_is_off) rfl)) fun _ _ _ _ _ _ us hl => match us, hl with | [_, _, _, _], _ => rfl
  g__law_is_off := He.glo_ok X G (c.fact 27 (f := .glo "_law_is_off") rfl)
  F__law_rows := fdA_of (c.def_ 28 (d := d__law_rows) rfl)
  b__law_rows := FunD.bindsN (ps := ["weights", "slack", "low", "high"]) (fdA_of (c.def_ 28 (d := d__law_rows) rfl)) fun _ _ _ _ _ _ us hl => match us, hl with | [_, _, _, _], _ => rfl
  g__law_rows := He.glo_ok X G (c.fact 28 (f := .glo "_law_rows") rfl)
  F__law_papers_hold := fdA_of (c.def_ 29 (d := d__law_papers_hold) rfl)
  b__law_papers_hold := FunD.bindsN (ps := ["state", "weights", "slack", "unit", "times", "low", "high", "rows"]) (fdA_of (c.def_ 29 (d := d__law_papers_hold) rfl)) fun _ _ _ _ _ _ us hl => match us, hl with | [_, _, _, _, _, _, _, _], _ => rfl
  g__law_papers_hold := He.glo_ok X G (c.fact 29 (f := .glo "_law_papers_hold") rfl)
  F__law_units_hold := fdA_of (c.def_ 30 (d := d__law_units_hold) rfl)
  b__law_units_hold := FunD.bindsN (ps := ["state"]) (fdA_of (c.def_ 30 (d := d__law_units_hold) rfl)) fun _ _ _ _ _ _ us hl => match us, hl with | [_], _ => rfl
  g__law_units_hold := He.glo_ok X G (c.fact 30 (f := .glo "_law_units_hold") rfl)
  F__law_great_holds := fdA_of (c.def_ 31 (d := d__law_great_holds) rfl)
  b__law_great_holds := FunD.bindsN (ps := ["state"]) (fdA_of (c.def_ 31 (d := d__law_great_holds) rfl)) fun _ _ _ _ _ _ us hl => match us, hl with | [_], _ => rfl
  g__law_great_holds := He.glo_ok X G (c.fact 31 (f := .glo "_law_great_holds") rfl)
  F_law := fdA_of (c.def_ 32 (d := d_law) rfl)
  b_law := FunD.bindsN (ps := ["script"]) (fdA_of (c.def_ 32 (d := d_law) rfl)) fun _ _ _ _ _ _ us hl => match us, hl with | [_], _ => rfl
  g_law := He.glo_ok X G (c.fact 32 (f := .glo "law") rfl)
  c_MAX_COINS := He.int_ok X G (c.fact 33 (f := .int "MAX_COINS" 60) rfl)
  c_MAX_UNIT := He.int_ok X G (c.fact 34 (f := .int "MAX_UNIT" 100000) rfl)
  c_MAX_LOOKED := He.int_ok X G (c.fact 35 (f := .int "MAX_LOOKED" 20000) rfl)
  z_isinstance := He.free_ok X G (c.fact 36 (f := .free "isinstance") rfl)
  z_bool := He.free_ok X G (c.fact 37 (f := .free "bool") rfl)
  z_int := He.free_ok X G (c.fact 38 (f := .free "int") rfl)
  z_len := He.free_ok X G (c.fact 39 (f := .free "len") rfl)
  z_tuple := He.free_ok X G (c.fact 40 (f := .free "tuple") rfl)
  z_super := He.free_ok X G (c.fact 41 (f := .free "super") rfl)
  z_all := He.free_ok X G (c.fact 42 (f := .free "all") rfl)
  z_max := He.free_ok X G (c.fact 43 (f := .free "max") rfl)
  z_abs := He.free_ok X G (c.fact 44 (f := .free "abs") rfl)
  z_enumerate := He.free_ok X G (c.fact 45 (f := .free "enumerate") rfl)
  z_range := He.free_ok X G (c.fact 46 (f := .free "range") rfl)
  z_min := He.free_ok X G (c.fact 47 (f := .free "min") rfl)
  z_zip := He.free_ok X G (c.fact 48 (f := .free "zip") rfl)
  z_list := He.free_ok X G (c.fact 49 (f := .free "list") rfl)
  z_repr := He.free_ok X G (c.fact 50 (f := .free "repr") rfl)
  z_str := He.free_ok X G (c.fact 51 (f := .free "str") rfl)
  htop := by kernel_rfl
  x_FindError := He.glo_ok X G (c.fact 52 (f := .glo "FindError") rfl)
  x_ArgumentError := He.glo_ok X G (c.fact 53 (f := .glo "ArgumentError") rfl)
  x_PaperError := He.glo_ok X G (c.fact 54 (f := .glo "PaperError") rfl)
  x_TooMany := He.glo_ok X G (c.fact 55 (f := .glo "TooMany") rfl)
  x_TextError := He.glo_ok X G (c.fact 56 (f := .glo "TextError") rfl)
  x_CabinetError := He.glo_ok X G (c.fact 57 (f := .glo "CabinetError") rfl)
  e_ArgumentError := errC_of (saysE_err c0 (n := 1) (by decide)) (saysE_init c0 0 (n := 1) rfl rfl) pat_ArgumentError bd_reason (by decide) (by decide) (by decide) (by decide)
  e_TooMany := errC_of (saysE_err c0 (n := 3) (by decide)) (saysE_init c0 1 (n := 3) rfl rfl) pat_TooMany bd_reason (by decide) (by decide) (by decide) (by decide)
  e_PaperError := errC_of (saysE_err c0 (n := 2) (by decide)) (saysE_init c0 2 (n := 2) rfl rfl) pat_PaperError bd_reason (by decide) (by decide) (by decide) (by decide)
  wd := (wordB_ok (saysE_word c0) (He.glo_ok X G (c.fact 52 (f := .glo "FindError") rfl)) (He.glo_ok X G (c.fact 53 (f := .glo "ArgumentError") rfl)) (He.glo_ok X G (c.fact 54 (f := .glo "PaperError") rfl)) (He.glo_ok X G (c.fact 55 (f := .glo "TooMany") rfl)) (He.glo_ok X G (c.fact 56 (f := .glo "TextError") rfl)) (He.glo_ok X G (c.fact 57 (f := .glo "CabinetError") rfl)) (He.free_ok X G (c.fact 36 (f := .free "isinstance") rfl)) (He.free_ok X G (c.fact 51 (f := .free "str") rfl))).1
  exm := (wordB_ok (mg := mg) (saysE_word c0) (He.glo_ok X G (c.fact 52 (f := .glo "FindError") rfl)) (He.glo_ok X G (c.fact 53 (f := .glo "ArgumentError") rfl)) (He.glo_ok X G (c.fact 54 (f := .glo "PaperError") rfl)) (He.glo_ok X G (c.fact 55 (f := .glo "TooMany") rfl)) (He.glo_ok X G (c.fact 56 (f := .glo "TextError") rfl)) (He.glo_ok X G (c.fact 57 (f := .glo "CabinetError") rfl)) (He.free_ok X G (c.fact 36 (f := .free "isinstance") rfl)) (He.free_ok X G (c.fact 51 (f := .free "str") rfl))).2
def Val : Prop := ∀ ns : List Int, ns.length ≤ 63 → ∃ S', m_law [.scr ns] none = .ok (.bl true) S'
set_option maxHeartbeats 0 in
theorem holds (val : Val) : PySem.Challenge.rw_hoardsread_k19_units.Holds := by
  w_on; o_law
  refine HandSHeadRun.head_any (r := R) (q := PySem.W.view R.prog [45]) (H := hk) (ob := ob) (M := 4000) (loose := loose) (d := HandSHeadRun.topDef R.prog 45) (kwd := []) ob_eq
    (by kernel_rfl) (fun s => by kernel_rfl) run (by kernel_rfl) (by kernel_rfl) (by kernel_rfl) (by rfl) (by first | assumption | decide +kernel) (by decide +kernel) ⟨rfl, rfl, rfl, rfl, rfl, by decide +kernel⟩ ?hw ?hc
  case hw => w_witness2
  case hc =>
    refine Mini.mini_walkE (l := PySem.Challenge.rw_hoardsread_k19_units) (n := 63) (k := 10) (x := "script") (F := m_law) rfl (by decide) (by kernel_rfl) ⟨rfl, by decide, by decide⟩ ?F val
    intro w mg fa h Y G hmg0
    obtain ⟨K, KX, c0⟩ := Y
    have c := saysE_D c0
    have hmg : mg ("law" : PySem.Str) = some (.ref fa) := by
      have e : (HandSHeadRun.topDef R.prog 45).name = ("law" : PySem.Str) := by kernel_rfl
      rw [← e]
      exact hmg0
    have T := tx KX G c0 c
    have e2 : fa = ad K 32 := by
      have z := T.g_law
      rw [hmg] at z
      exact Value.ref.inj (Option.some.inj z)
    subst e2
    have bA := FunD.bindsA (ps := ["script"]) T.F_law fun _ _ _ _ _ _ us hl => match us, hl with | [_], _ => rfl
    exact ⟨K, cn K, fd K 32, KX, fun s v => bA s [v] rfl, fun base _ _ => ok_law T⟩
end Hk19
namespace Hk19
open PySem Mini
open PySem.W (alike dataLt)
open PyProof.Rows
open L2 (atI ixN atI_nat kitB Key)
/-! ## the least of pairs -/
def lexLe (p q : Int × Int) : Prop := p.1 < q.1 ∨ (p.1 = q.1 ∧ p.2 ≤ q.2)
theorem argBest_lex {bt : Nat → Nat → Bool} {f : Nat → Int × Int} {n : Nat} (hb : ∀ i j, i ≤ n → j ≤ n → bt i j = decide ((f i).1 < (f j).1 ∨ ((f i).1 = (f j).1 ∧ (f i).2 < (f j).2))) : ∀ k, k ≤ n → argBest bt k ≤ k ∧ ∀ j, j ≤ k → lexLe (f (argBest bt k)) (f j)
  | 0, _ => ⟨Nat.le_refl _, fun j hj => by
      have e : j = 0 := by omega
      subst e
      exact .inr ⟨rfl, Int.le_refl _⟩⟩
  | k + 1, hk => by
    obtain ⟨h1, h2⟩ := argBest_lex hb k (by omega)
    have hh := hb (k + 1) (argBest bt k) hk (by omega)
    show (if bt (k + 1) (argBest bt k) = true then k + 1 else argBest bt k) ≤ k + 1 ∧ ∀ j, j ≤ k + 1 → lexLe (f (if bt (k + 1) (argBest bt k) = true then k + 1 else argBest bt k)) (f j)
    by_cases hc : bt (k + 1) (argBest bt k) = true
    · rw [if_pos hc]
      rw [hc] at hh
      have hh := of_decide_eq_true hh.symm
      refine ⟨Nat.le_refl _, fun j hj => ?_⟩
      rcases Nat.lt_or_ge j (k + 1) with hlt | hge
      · have z := h2 j (by omega)
        unfold lexLe at z ⊢
        omega
      · have e : j = k + 1 := by omega
        subst e
        exact .inr ⟨rfl, Int.le_refl _⟩
    · rw [if_neg hc]
      have hc' : bt (k + 1) (argBest bt k) = false := by simpa using hc
      rw [hc'] at hh
      have hh := of_decide_eq_false hh.symm
      refine ⟨by omega, fun j hj => ?_⟩
      rcases Nat.lt_or_ge j (k + 1) with hlt | hge
      · exact h2 j (by omega)
      · have e : j = k + 1 := by omega
        subst e
        unfold lexLe
        omega
def pD (p : Int × Int) : D := .tup [.int p.1, .int p.2]
def pPy (p : Int × Int) : PyData := .tuple [.int p.1, .int p.2]
theorem pyL_pD : ∀ ps : List (Int × Int), pyL (ps.map pD) = ps.map pPy
  | [] => rfl
  | p :: ps => by rw [List.map_cons, List.map_cons, pyL, pyL_pD ps]; rfl
theorem pureL_pD : ∀ ps : List (Int × Int), pureL (ps.map pD) = true
  | [] => rfl
  | p :: ps => by
    rw [List.map_cons, pureL, pureL_pD ps]
    rfl
theorem depth_pPy : ∀ ps : List (Int × Int), PyData.depthAll (ps.map pPy) ≤ 1
  | [] => Nat.zero_le _
  | p :: ps => by
    rw [List.map_cons, PyData.depthAll]
    exact Nat.max_le.mpr ⟨Nat.le_refl _, depth_pPy ps⟩
theorem alike_pPy (ps : List (Int × Int)) : alikeB (ps.map pPy) = true := by
  unfold alikeB
  rw [List.all_eq_true]
  intro x hx
  obtain ⟨p, _, rfl⟩ := List.mem_map.mp hx
  rw [Bool.and_eq_true]
  refine ⟨rfl, ?_⟩
  rw [List.all_eq_true]
  intro y hy
  obtain ⟨q, _, rfl⟩ := List.mem_map.mp hy
  simp [pPy, alike, PySem.W.alikeAll]
theorem getD_map {α : Type} (f : α → PyData) (ps : List α) (d : α) {i : Nat} (h : i < ps.length) : (ps.map f).getD i .none = f (ps.getD i d) := by
  simp [List.getD, h]
theorem min_pairs {ps : List (Int × Int)} (h : ps ≠ []) : ∃ p ∈ ps, dMinX (.lst (ps.map pD)) = some (pD p) ∧ ∀ q ∈ ps, lexLe p q := by
  have hpos : 0 < ps.length := List.length_pos_iff.mpr h
  have e0 : dMin (.lst (ps.map pD)) = none := by
    cases ps with
    | nil => exact absurd rfl h
    | cons p ps => rfl
  have ok : (okEq (.lst (ps.map pD)) && (decide (PyData.depthAll (pyL (ps.map pD)) ≤ 63) && (alikeB (pyL (ps.map pD)) && decide (0 < (ps.map pD).length)))) = true := by
    have d := depth_pPy ps
    rw [pyL_pD, alike_pPy, List.length_map]
    simp only [Bool.and_eq_true, decide_eq_true_eq]
    refine ⟨?_, by omega, trivial, hpos⟩
    unfold okEq
    rw [Bool.and_eq_true, decide_eq_true_eq]
    refine ⟨pureL_pD ps, ?_⟩
    show (PyData.list (pyL (ps.map pD))).depth ≤ _
    rw [pyL_pD, PyData.depth]
    omega
  have hb := argBest_lex (bt := bMin (ps.map pPy)) (f := fun i => ps.getD i (0, 0)) (n := ps.length - 1) (fun i j hi hj => by
    show dataLt ((ps.map pPy).getD i .none) ((ps.map pPy).getD j .none) = _
    rw [getD_map pPy ps (0, 0) (by omega), getD_map pPy ps (0, 0) (by omega)]
    exact PySem.W.dataLt_ii _ _ _ _) (ps.length - 1) (Nat.le_refl _)
  obtain ⟨h1, h2⟩ := hb
  have hlt : argBest (bMin (ps.map pPy)) (ps.length - 1) < ps.length := by omega
  refine ⟨ps[argBest (bMin (ps.map pPy)) (ps.length - 1)], List.getElem_mem _, ?_, fun q hq => ?_⟩
  · unfold dMinX
    rw [e0]
    show (if (okEq (.lst (ps.map pD)) && (decide (PyData.depthAll (pyL (ps.map pD)) ≤ 63) && (alikeB (pyL (ps.map pD)) && decide (0 < (ps.map pD).length)))) = true then (ps.map pD)[argBest (bMin (pyL (ps.map pD))) ((ps.map pD).length - 1)]? else none) = _
    rw [if_pos ok, pyL_pD, List.length_map, List.getElem?_map, List.getElem?_eq_getElem hlt]
    rfl
  · obtain ⟨j, hj, rfl⟩ := List.mem_iff_getElem.mp hq
    have z := h2 j (by omega)
    simp only [List.getD_eq_getElem?_getD, List.getElem?_eq_getElem hlt, List.getElem?_eq_getElem hj, Option.getD_some] at z
    exact z
def nD (n : Nat) : D := .int (n : Int)
theorem pyL_nD : ∀ ps : List Nat, pyL (ps.map nD) = ps.map fun n : Nat => PyData.int (n : Int)
  | [] => rfl
  | p :: ps => by rw [List.map_cons, List.map_cons, pyL, pyL_nD ps]; rfl
theorem pureL_nD : ∀ ps : List Nat, pureL (ps.map nD) = true
  | [] => rfl
  | p :: ps => by
    rw [List.map_cons, pureL, pureL_nD ps]
    rfl
theorem depth_nD : ∀ ps : List Nat, PyData.depthAll (ps.map fun n : Nat => PyData.int (n : Int)) ≤ 0
  | [] => Nat.zero_le _
  | p :: ps => by
    rw [List.map_cons, PyData.depthAll]
    exact Nat.max_le.mpr ⟨Nat.le_refl _, depth_nD ps⟩
/-- min of a tuple of numbers -/
theorem min_tupN {ps : List Nat} (h : ps ≠ []) : ∃ m ∈ ps, dMinY (.tup (ps.map nD)) = some (.int (m : Int)) ∧ ∀ q ∈ ps, m ≤ q := by
  have hpos : 0 < ps.length := List.length_pos_iff.mpr h
  have al : alikeB (ps.map fun n : Nat => PyData.int (n : Int)) = true := by
    unfold alikeB
    rw [List.all_eq_true]
    intro x hx
    obtain ⟨p, _, rfl⟩ := List.mem_map.mp hx
    rw [Bool.and_eq_true]
    refine ⟨rfl, ?_⟩
    rw [List.all_eq_true]
    intro y hy
    obtain ⟨q, _, rfl⟩ := List.mem_map.mp hy
    simp [alike]
  have ok : (okEq (.tup (ps.map nD)) && (decide (PyData.depthAll (pyL (ps.map nD)) ≤ 63) && (alikeB (pyL (ps.map nD)) && decide (0 < (ps.map nD).length)))) = true := by
    have d := depth_nD ps
    rw [pyL_nD, al, List.length_map]
    simp only [Bool.and_eq_true, decide_eq_true_eq]
    refine ⟨?_, by omega, trivial, hpos⟩
    unfold okEq
    rw [Bool.and_eq_true, decide_eq_true_eq]
    refine ⟨pureL_nD ps, ?_⟩
    show (PyData.tuple (pyL (ps.map nD))).depth ≤ _
    rw [pyL_nD, PyData.depth]
    omega
  have hb := argBest_lex (bt := bMin (ps.map fun n : Nat => PyData.int (n : Int))) (f := fun i => ((ps.getD i 0 : Nat), 0)) (n := ps.length - 1) (fun i j hi hj => by
    show dataLt ((ps.map fun n : Nat => PyData.int (n : Int)).getD i .none) ((ps.map fun n : Nat => PyData.int (n : Int)).getD j .none) = _
    rw [getD_map _ ps 0 (by omega), getD_map _ ps 0 (by omega), PySem.W.dataLt_int]
    exact decide_eq_decide.mpr (by simp)) (ps.length - 1) (Nat.le_refl _)
  obtain ⟨h1, h2⟩ := hb
  have hlt : argBest (bMin (ps.map fun n : Nat => PyData.int (n : Int))) (ps.length - 1) < ps.length := by omega
  refine ⟨ps[argBest (bMin (ps.map fun n : Nat => PyData.int (n : Int))) (ps.length - 1)], List.getElem_mem _, ?_, fun q hq => ?_⟩
  · show (if (okEq (.tup (ps.map nD)) && (decide (PyData.depthAll (pyL (ps.map nD)) ≤ 63) && (alikeB (pyL (ps.map nD)) && decide (0 < (ps.map nD).length)))) = true then (ps.map nD)[argBest (bMin (pyL (ps.map nD))) ((ps.map nD).length - 1)]? else none) = _
    rw [if_pos ok, pyL_nD, List.length_map, List.getElem?_map, List.getElem?_eq_getElem hlt]
    rfl
  · obtain ⟨j, hj, rfl⟩ := List.mem_iff_getElem.mp hq
    have z := h2 j (by omega)
    simp only [List.getD_eq_getElem?_getD, List.getElem?_eq_getElem hlt, List.getElem?_eq_getElem hj, Option.getD_some] at z
    unfold lexLe at z
    omega
/-! ## multiples -/
def ab (a b : Nat) : Nat := (a - b) + (b - a)
theorem ab_abs (a b : Nat) : dAbs (.int ((a : Int) - (b : Int))) = some (.int ((ab a b : Nat) : Int)) := by
  show some (D.int (if (a : Int) - (b : Int) < 0 then -((a : Int) - (b : Int)) else (a : Int) - (b : Int))) = _
  unfold ab
  congr 2
  split <;> omega
def near (w u : Nat) : Nat := if ab w (max 1 (w / u) * u) ≤ ab w ((max 1 (w / u) + 1) * u) then max 1 (w / u) else max 1 (w / u) + 1
def gp (w u : Nat) : Nat := ab w (near w u * u)
theorem near_1 (w u : Nat) : 1 ≤ near w u := by
  unfold near
  split <;> omega
theorem near_bounds (w u : Nat) : max 1 (w / u) ≤ near w u ∧ near w u ≤ max 1 (w / u) + 1 := by
  unfold near
  split <;> omega
/-- w = t u + r, t at least 1 -/
theorem near_t {w u t r : Nat} (hu : 1 ≤ u) (ht : 1 ≤ t) (hr : r < u) (e : w = t * u + r) : w / u = t ∧ gp w u = min r (u - r) ∧ near w u = if r ≤ u - r then t else t + 1 := by
  have e1 : w / u = t := by
    rw [e, Nat.mul_comm t u, Nat.mul_add_div (by omega), Nat.div_eq_of_lt hr]
    omega
  have m : max 1 (w / u) = t := by rw [e1]; omega
  have s : (t + 1) * u = t * u + u := Nat.succ_mul t u
  have a1 : ab w (t * u) = r := by unfold ab; omega
  have a2 : ab w ((t + 1) * u) = u - r := by unfold ab; omega
  have n : near w u = if r ≤ u - r then t else t + 1 := by
    unfold near
    rw [m, a1, a2]
  refine ⟨e1, ?_, n⟩
  unfold gp
  rw [n]
  by_cases c : r ≤ u - r
  · rw [if_pos c, a1]; omega
  · rw [if_neg c, a2]; omega
theorem near_0 {w u : Nat} (h : w < u) : w / u = 0 ∧ gp w u = u - w ∧ near w u = 1 := by
  have e1 : w / u = 0 := Nat.div_eq_of_lt h
  have m : max 1 (w / u) = 1 := by rw [e1]; rfl
  have n : near w u = 1 := by
    unfold near
    rw [m, if_pos (by unfold ab; omega)]
  refine ⟨e1, ?_, n⟩
  unfold gp
  rw [n]
  unfold ab
  omega
theorem split_w {w u : Nat} (hu : 1 ≤ u) : w < u ∨ ∃ t r, 1 ≤ t ∧ r < u ∧ w = t * u + r := by
  by_cases h : w < u
  · exact .inl h
  · refine .inr ⟨w / u, w % u, (Nat.le_div_iff_mul_le hu).mpr (by omega), Nat.mod_lt _ hu, ?_⟩
    have := Nat.div_add_mod w u
    rw [Nat.mul_comm] at this
    omega
/-- the nearest one is nearest, and the least of the nearest -/
theorem near_min {w u k : Nat} (hu : 1 ≤ u) (hk : 1 ≤ k) : gp w u < ab w (k * u) ∨ (gp w u = ab w (k * u) ∧ near w u ≤ k) := by
  rcases split_w (w := w) hu with h | ⟨t, r, ht, hr, e⟩
  · obtain ⟨_, g, n⟩ := near_0 h
    have : 1 * u ≤ k * u := Nat.mul_le_mul_right u hk
    rw [g, n]
    unfold ab
    omega
  · obtain ⟨_, g, n⟩ := near_t hu ht hr e
    rw [g, n]
    have cmp : k < t ∨ k = t ∨ k = t + 1 ∨ t + 2 ≤ k := by omega
    have s : (t + 1) * u = t * u + u := Nat.succ_mul t u
    rcases cmp with c | c | c | c
    · have : (k + 1) * u ≤ t * u := Nat.mul_le_mul_right u c
      have s2 : (k + 1) * u = k * u + u := Nat.succ_mul k u
      unfold ab
      split <;> omega
    · subst c
      unfold ab
      split <;> omega
    · subst c
      unfold ab
      split <;> omega
    · have : (t + 2) * u ≤ k * u := Nat.mul_le_mul_right u c
      have s2 : (t + 2) * u = t * u + 2 * u := Nat.add_mul t 2 u
      unfold ab
      split <;> omega
end Hk19
namespace Hk19
open PySem Mini
open L2 (atI ixN atI_nat kitB Key)
/-! ## off for all units of a row -/
def isOff (w s a b : Nat) : Bool := (decide (w / b = 0) || decide (s < w - w / b * b)) && decide (s + w < (w / b + 1) * a)
def far (w s u : Nat) : Nat := if gp w u ≤ s then u - 1 else if w / u = 0 then 100000 else (w - s - 1) / (w / u)
theorem isOff_iff {w s a b : Nat} : isOff w s a b = true ↔ (w / b = 0 ∨ s < w - w / b * b) ∧ s + w < (w / b + 1) * a := by
  unfold isOff
  simp only [Bool.and_eq_true, Bool.or_eq_true, decide_eq_true_eq]
theorem mulS (a b : Nat) : (a + 1) * b = a * b + b := Nat.succ_mul a b
/-- what is off in one way over a row is off by more than the slack at each unit of it -/
theorem off_gap {w s a b v : Nat} (ha : 1 ≤ a) (h : isOff w s a b = true) (h1 : a ≤ v) (h2 : v ≤ b) : s < gp w v := by
  obtain ⟨q1, q2⟩ := isOff_iff.mp h
  have hb : 1 ≤ b := by omega
  have dm := Nat.div_add_mod w b
  generalize w / b = t at *
  have hm : b * t = t * b := Nat.mul_comm b t
  have e1 : t * v ≤ t * b := Nat.mul_le_mul_left t h2
  have e2 : (t + 1) * a ≤ (t + 1) * v := Nat.mul_le_mul_left (t + 1) h1
  have s1 := mulS t v
  by_cases z : t = 0
  · subst z
    have lt : w < v := by simp only [Nat.zero_add, Nat.one_mul] at q2 e2; omega
    obtain ⟨_, g, _⟩ := near_0 lt
    rw [g]
    simp only [Nat.zero_add, Nat.one_mul] at q2 e2
    omega
  · have q : s < w - t * b := by
      rcases q1 with q | q
      · exact absurd q z
      · exact q
    obtain ⟨_, g, _⟩ := near_t (w := w) (u := v) (t := t) (r := w - t * v) (by omega) (by omega) (by omega) (by omega)
    rw [g]
    omega
theorem far_le {w s u : Nat} (h : gp w u ≤ s) : far w s u = u - 1 := if_pos h
theorem far_ge {w s u : Nat} (hu : 1 ≤ u) (hT : u ≤ 100000) (h : s < gp w u) : u ≤ far w s u := by
  unfold far
  rw [if_neg (by omega)]
  rcases split_w (w := w) hu with c | ⟨t, r, ht, hr, e⟩
  · obtain ⟨z, _, _⟩ := near_0 c
    rw [if_pos z]
    exact hT
  · obtain ⟨z, g, _⟩ := near_t hu ht hr e
    rw [z, if_neg (by omega)]
    rw [g] at h
    refine (Nat.le_div_iff_mul_le (by omega)).mpr ?_
    have : u * t = t * u := Nat.mul_comm u t
    omega
theorem off_run {w s u b : Nat} (hu : 1 ≤ u) (h1 : u ≤ b) (h2 : b ≤ far w s u) : isOff w s u b = true := by
  by_cases h : gp w u ≤ s
  · rw [far_le h] at h2
    omega
  · unfold far at h2
    rw [if_neg h] at h2
    refine isOff_iff.mpr ?_
    rcases split_w (w := w) hu with c | ⟨t, r, ht, hr, e⟩
    · obtain ⟨z, g, _⟩ := near_0 c
      have zb : w / b = 0 := Nat.div_eq_of_lt (by omega)
      rw [zb]
      refine ⟨.inl rfl, ?_⟩
      rw [g] at h
      simp only [Nat.zero_add, Nat.one_mul]
      omega
    · obtain ⟨z, g, _⟩ := near_t hu ht hr e
      rw [z, if_neg (by omega)] at h2
      rw [g] at h
      have k1 : b * t ≤ w - s - 1 := (Nat.le_div_iff_mul_le (by omega)).mp h2
      have k2 : b * t = t * b := Nat.mul_comm b t
      have k3 : t * u ≤ t * b := Nat.mul_le_mul_left t h1
      have s1 := mulS t u
      have s2 := mulS t b
      have zb : w / b = t := by
        refine Nat.le_antisymm (Nat.lt_succ_iff.mp ((Nat.div_lt_iff_lt_mul (by omega)).mpr ?_)) ((Nat.le_div_iff_mul_le (by omega)).mpr (by omega))
        show w < (t + 1) * b
        omega
      rw [zb]
      refine ⟨.inr (by omega), by omega⟩
theorem off_stop {w s u : Nat} (hu : 1 ≤ u) (hT : u ≤ 100000) (hf : far w s u < 100000) : isOff w s u (far w s u + 1) = false := by
  cases hq : isOff w s u (far w s u + 1) with
  | false => rfl
  | true =>
    exfalso
    by_cases h : gp w u ≤ s
    · rw [far_le h] at hq
      have := off_gap hu hq (by omega) (Nat.le_refl _)
      have e : u - 1 + 1 = u := by omega
      rw [e] at this
      omega
    · have fg := far_ge hu hT (show s < gp w u by omega)
      obtain ⟨q1, q2⟩ := isOff_iff.mp hq
      unfold far at hf fg q1 q2
      rw [if_neg h] at hf fg q1 q2
      rcases split_w (w := w) hu with c | ⟨t, r, ht, hr, e⟩
      · obtain ⟨z, _, _⟩ := near_0 c
        rw [if_pos z] at hf
        omega
      · obtain ⟨z, g, _⟩ := near_t hu ht hr e
        rw [z, if_neg (by omega)] at hf fg q1 q2
        rw [g] at h
        have k0 : ¬ (w - s - 1) / t + 1 ≤ (w - s - 1) / t := by omega
        have k1 : ¬ ((w - s - 1) / t + 1) * t ≤ w - s - 1 := fun z => k0 ((Nat.le_div_iff_mul_le (by omega)).mpr z)
        generalize (w - s - 1) / t + 1 = b at *
        have k2 : b * t = t * b := Nat.mul_comm b t
        have dm := Nat.div_add_mod w b
        have hb : b * (w / b) = w / b * b := Nat.mul_comm _ _
        have le : w / b ≤ t := by
          rw [← z]
          exact Nat.div_le_div_left (by omega) (by omega)
        have s1 := mulS t u
        by_cases c : w / b = t
        · rw [c] at q1
          omega
        · have lt : w / b + 1 ≤ t := by omega
          have : (w / b + 1) * u ≤ t * u := Nat.mul_le_mul_right u lt
          omega
/-! ## rows -/
structure Best (l : List Nat) (m j : Nat) : Prop where
  at_ : l[j]? = some m
  top : ∀ y ∈ l, y ≤ m
  fst : ∀ i y, i < j → l[i]? = some y → y ≠ m
theorem Best.uniq {l : List Nat} {m j n k : Nat} (a : Best l m j) (b : Best l n k) : m = n ∧ j = k := by
  have e : m = n := Nat.le_antisymm (b.top m (List.mem_of_getElem? a.at_)) (a.top n (List.mem_of_getElem? b.at_))
  subst e
  refine ⟨rfl, ?_⟩
  rcases Nat.lt_trichotomy j k with h | h | h
  · exact absurd rfl (b.fst j m h a.at_)
  · exact h
  · exact absurd rfl (a.fst k m h b.at_)
open Classical in
noncomputable def bst (l : List Nat) : Nat × Nat := if h : ∃ p : Nat × Nat, Best l p.1 p.2 then Classical.choose h else (0, 0)
theorem bst_of {l : List Nat} {m j : Nat} (h : Best l m j) : bst l = (m, j) := by
  have hx : ∃ p : Nat × Nat, Best l p.1 p.2 := ⟨(m, j), h⟩
  unfold bst
  rw [dif_pos hx]
  obtain ⟨e1, e2⟩ := h.uniq (Classical.choose_spec hx)
  exact Prod.ext e1.symm e2.symm
theorem best_ex : ∀ {l : List Nat}, l ≠ [] → ∃ m j, Best l m j
  | [], h => absurd rfl h
  | [x], _ => ⟨x, 0, rfl, fun y hy => by rw [List.mem_singleton.mp hy]; exact Nat.le_refl _, fun i y hi => by omega⟩
  | x :: y :: l, _ => by
    obtain ⟨m, j, b⟩ := best_ex (l := y :: l) (by simp)
    by_cases c : m ≤ x
    · exact ⟨x, 0, rfl, fun z hz => by
        rcases List.mem_cons.mp hz with e | e
        · rw [e]; exact Nat.le_refl _
        · exact Nat.le_trans (b.top z e) c, fun i y hi => by omega⟩
    · refine ⟨m, j + 1, by rw [List.getElem?_cons_succ]; exact b.at_, fun z hz => ?_, fun i z hi hz => ?_⟩
      · rcases List.mem_cons.mp hz with e | e
        · rw [e]; omega
        · exact b.top z e
      · cases i with
        | zero =>
          rw [List.getElem?_cons_zero] at hz
          cases hz
          omega
        | succ i =>
          rw [List.getElem?_cons_succ] at hz
          exact b.fst i z (by omega) hz
def endL (ws : List Nat) (s u high : Nat) : List Nat := ws.map fun w => min (far w s u) high
abbrev Rw := Nat × Nat × Nat
noncomputable def rowsF (ws : List Nat) (s high : Nat) : Nat → Nat → Option (List Rw)
  | 0, _ => some []
  | n + 1, u => if high < u then some [] else if (bst (endL ws s u high)).1 < u then none else (rowsF ws s high n ((bst (endL ws s u high)).1 + 1)).map fun rs => ((bst (endL ws s u high)).2, u, (bst (endL ws s u high)).1) :: rs
def Chn (ws : List Nat) (s high : Nat) : Nat → List Rw → Prop
  | u, [] => u = high + 1
  | u, r :: rs => r.2.1 = u ∧ u ≤ r.2.2 ∧ r.2.2 ≤ high ∧ (∃ w, ws[r.1]? = some w ∧ isOff w s u r.2.2 = true) ∧ Chn ws s high (r.2.2 + 1) rs
theorem rowsF_spec {ws : List Nat} {s high : Nat} (hne : ws ≠ []) (hT : high ≤ 100000) : ∀ (n u : Nat), 1 ≤ u → u ≤ high + 1 → high + 1 - u ≤ n →
    (rowsF ws s high n u = none → ∃ v, u ≤ v ∧ v ≤ high ∧ ∀ w ∈ ws, gp w v ≤ s) ∧ ∀ rs, rowsF ws s high n u = some rs → Chn ws s high u rs
  | 0, u, h1, h2, h3 => ⟨fun z => (by cases z), fun rs z => by
      cases z
      exact (show u = high + 1 by omega)⟩
  | n + 1, u, h1, h2, h3 => by
    unfold rowsF
    by_cases c : high < u
    · rw [if_pos c]
      exact ⟨fun z => (by cases z), fun rs z => by
        cases z
        exact (show u = high + 1 by omega)⟩
    · rw [if_neg c]
      obtain ⟨m, j, b⟩ := best_ex (l := endL ws s u high) (by unfold endL; simpa using hne)
      rw [bst_of b]
      by_cases d : m < u
      · rw [if_pos d]
        refine ⟨fun _ => ⟨u, Nat.le_refl _, by omega, fun w hw => ?_⟩, fun rs z => by cases z⟩
        have z := b.top _ (List.mem_map.mpr ⟨w, hw, rfl⟩)
        by_cases g : gp w u ≤ s
        · exact g
        · have := far_ge h1 (by omega) (show s < gp w u by omega)
          omega
      · rw [if_neg d]
        have hm := b.at_
        unfold endL at hm
        rw [List.getElem?_map] at hm
        obtain ⟨w, hw, e⟩ := Option.map_eq_some_iff.mp hm
        have e : min (far w s u) high = m := e
        obtain ⟨i1, i2⟩ := rowsF_spec hne hT n (m + 1) (by omega) (by omega) (by omega)
        refine ⟨fun z => ?_, fun rs z => ?_⟩
        · obtain ⟨v, v1, v2, v3⟩ := i1 (Option.map_eq_none_iff.mp z)
          exact ⟨v, by omega, v2, v3⟩
        · obtain ⟨rs', hr, rfl⟩ := Option.map_eq_some_iff.mp z
          have k1 : u ≤ m := by omega
          have k2 : m ≤ high := by omega
          have k3 : m ≤ far w s u := by omega
          exact ⟨rfl, k1, k2, ⟨w, hw, off_run h1 k1 k3⟩, i2 rs' hr⟩
theorem chn_cover {ws : List Nat} {s high : Nat} : ∀ (rs : List Rw) (u v : Nat), 1 ≤ u → Chn ws s high u rs → u ≤ v → v ≤ high → ∃ w ∈ ws, s < gp w v
  | [], u, v, h1, h, h2, h3 => by
    have h : u = high + 1 := h
    omega
  | r :: rs, u, v, h1, h, h2, h3 => by
    obtain ⟨e1, e2, e3, ⟨w, hw, ho⟩, hc⟩ := h
    by_cases c : v ≤ r.2.2
    · exact ⟨w, List.mem_of_getElem? hw, off_gap h1 ho h2 c⟩
    · exact chn_cover rs (r.2.2 + 1) v (by omega) hc (by omega) h3
/-! ## what a paper of rows is worth -/
def runOk : Nat → List Rw → Option Nat
  | b, [] => some b
  | b, r :: rs => if r.2.1 = b ∧ b ≤ r.2.2 then runOk (r.2.2 + 1) rs else none
def rwOff (ws : List Nat) (s : Nat) (r : Rw) : Bool := isOff (ws.getD r.1 0) s r.2.1 r.2.2
inductive Wo where
  | ok | form | weight | run | off
  deriving DecidableEq
def accN (ws : List Nat) (s low high : Nat) (rs : List Rw) : Wo :=
  if ∀ r ∈ rs, r.1 < ws.length then (if runOk low rs = some (high + 1) then (if rs.all (rwOff ws s) = true then .ok else .off) else .run) else .form
theorem runOk_app : ∀ (rs qs : List Rw) (b : Nat), runOk b (rs ++ qs) = (runOk b rs).bind fun b' => runOk b' qs
  | [], qs, b => rfl
  | r :: rs, qs, b => by
    rw [List.cons_append, runOk, runOk]
    split
    · exact runOk_app rs qs _
    · rfl
/-- a chain and what stands ahead of its last row -/
theorem chn_run {ws : List Nat} {s high : Nat} : ∀ (rs : List Rw) (u : Nat), Chn ws s high u rs → runOk u rs = some (high + 1)
  | [], u, h => by
    have h : u = high + 1 := h
    rw [runOk, h]
  | r :: rs, u, h => by
    obtain ⟨e1, e2, e3, _, hc⟩ := h
    rw [runOk, if_pos ⟨e1, e2⟩]
    exact chn_run rs _ hc
theorem chn_mem {ws : List Nat} {s high : Nat} : ∀ (rs : List Rw) (u : Nat), 1 ≤ u → Chn ws s high u rs → ∀ r ∈ rs, r.1 < ws.length ∧ rwOff ws s r = true ∧ 1 ≤ r.2.1 ∧ r.2.1 ≤ r.2.2 ∧ r.2.2 ≤ high
  | [], u, _, _, r, hr => by cases hr
  | q :: rs, u, h1, h, r, hr => by
    obtain ⟨e1, e2, e3, ⟨w, hw, ho⟩, hc⟩ := h
    rcases List.mem_cons.mp hr with e | e
    · subst e
      have hl := (List.getElem?_eq_some_iff.mp hw).1
      refine ⟨hl, ?_, by omega, by omega, e3⟩
      unfold rwOff
      rw [e1, List.getD_eq_getElem?_getD, hw]
      exact ho
    · exact chn_mem rs _ (by omega) hc r e
theorem runOk_cut {b e : Nat} {rs : List Rw} {r : Rw} (h : runOk b (rs ++ [r]) = some e) : runOk b rs = some r.2.1 ∧ r.2.1 ≤ r.2.2 ∧ e = r.2.2 + 1 := by
  rw [runOk_app] at h
  obtain ⟨b', h1, h2⟩ := Option.bind_eq_some_iff.mp h
  rw [runOk] at h2
  split at h2
  · rename_i c
    rw [runOk] at h2
    cases h2
    exact ⟨by rw [h1, c.1], by omega, rfl⟩
  · cases h2
theorem runOk_one {b x : Nat} {rs : List Rw} (h : runOk b rs = some x) (j a e : Nat) : runOk b (rs ++ [(j, a, e)]) = if a = x ∧ x ≤ e then some (e + 1) else none := by
  rw [runOk_app, h]
  rfl
end Hk19
namespace Hk19
open PySem Mini
open L2 (atI ixN atI_nat kitB Key)
theorem e_is_integer (a0 : D) (S : DS) : m_is_integer [a0] S = bd (b_is_integer [.vl a0]) leave S := rfl
theorem e_check_weights (a0 : D) (S : DS) : m_check_weights [a0] S = bd (b_check_weights [.vl a0, .no]) leave S := rfl
theorem e_check_slack (a0 : D) (S : DS) : m_check_slack [a0] S = bd (b_check_slack [.vl a0]) leave S := rfl
theorem e_check_unit (a0 a1 : D) (S : DS) : m_check_unit [a0, a1] S = bd (b_check_unit [.vl a0, .vl a1]) leave S := rfl
theorem e_nearest (a0 a1 : D) (S : DS) : m_nearest [a0, a1] S = bd (b_nearest [.vl a0, .vl a1, .no]) leave S := rfl
theorem e_judge_unit (a0 a1 a2 : D) (S : DS) : m_judge_unit [a0, a1, a2] S = bd (b_judge_unit [.vl a0, .vl a1, .vl a2, .no, .no, .no]) leave S := rfl
theorem e_check_range (a0 a1 a2 a3 : D) (S : DS) : m_check_range [a0, a1, a2, a3] S = bd (b_check_range [.vl a0, .vl a1, .vl a2, .vl a3]) leave S := rfl
theorem e_is_good (a0 a1 a2 : D) (S : DS) : m_is_good [a0, a1, a2] S = bd (b_is_good [.vl a0, .vl a1, .vl a2, .no]) leave S := rfl
theorem e_good_units (a0 a1 a2 a3 : D) (S : DS) : m_good_units [a0, a1, a2, a3] S = bd (b_good_units [.vl a0, .vl a1, .vl a2, .vl a3, .no]) leave S := rfl
theorem e_greatest_unit (a0 a1 a2 a3 : D) (S : DS) : m_greatest_unit [a0, a1, a2, a3] S = bd (b_greatest_unit [.vl a0, .vl a1, .vl a2, .vl a3, .no]) leave S := rfl
theorem e_closest_unit (a0 a1 a2 : D) (S : DS) : m_closest_unit [a0, a1, a2] S = bd (b_closest_unit [.vl a0, .vl a1, .vl a2, .no, .no, .no, .no]) leave S := rfl
theorem e_accept_times (a0 a1 a2 a3 : D) (S : DS) : m_accept_times [a0, a1, a2, a3] S = bd (b_accept_times [.vl a0, .vl a1, .vl a2, .vl a3, .no, .no]) leave S := rfl
theorem e_accept_none (a0 a1 a2 a3 a4 : D) (S : DS) : m_accept_none [a0, a1, a2, a3, a4] S = bd (b_accept_none [.vl a0, .vl a1, .vl a2, .vl a3, .vl a4, .no, .no, .no, .no, .no, .no, .no]) leave S := rfl
theorem e_far (a0 a1 a2 : D) (S : DS) : m_far [a0, a1, a2] S = bd (b_far [.vl a0, .vl a1, .vl a2, .no]) leave S := rfl
theorem e_rows_against (a0 a1 a2 a3 : D) (S : DS) : m_rows_against [a0, a1, a2, a3] S = bd (b_rows_against [.vl a0, .vl a1, .vl a2, .vl a3, .no, .no, .no, .no]) leave S := rfl
theorem e_common_unit (a0 : D) (S : DS) : m_common_unit [a0] S = bd (b_common_unit [.vl a0, .no, .no]) leave S := rfl
theorem e_off_weights (a0 a1 a2 : D) (S : DS) : m_off_weights [a0, a1, a2] S = bd (b_off_weights [.vl a0, .vl a1, .vl a2, .no, .no]) leave S := rfl
theorem e__law_start (a0 : D) (S : DS) : m__law_start [a0] S = b__law_start [.vl a0, .no, .no] S := rfl
theorem e__law_draw (a0 a1 : D) (S : DS) : m__law_draw [a0, a1] S = bd (b__law_draw [.vl a0, .vl a1, .no]) leave S := rfl
theorem e__law_pick (a0 a1 : D) (S : DS) : m__law_pick [a0, a1] S = bd (b__law_pick [.vl a0, .vl a1]) leave S := rfl
theorem e__law_same (a0 a1 : D) (S : DS) : m__law_same [a0, a1] S = bd (b__law_same [.vl a0, .vl a1]) leave S := rfl
theorem e__law_asked (a0 a1 : D) (S : DS) : m__law_asked [a0, a1] S = bd (b__law_asked [.vl a0, .vl a1, .no]) leave S := rfl
theorem e__law_shown (a0 a1 a2 : D) (S : DS) : m__law_shown [a0, a1, a2] S = bd (b__law_shown [.vl a0, .vl a1, .vl a2, .no, .no, .no]) leave S := rfl
theorem e__law_near (a0 a1 : D) (S : DS) : m__law_near [a0, a1] S = bd (b__law_near [.vl a0, .vl a1, .no, .no]) leave S := rfl
theorem e__law_gap (a0 a1 : D) (S : DS) : m__law_gap [a0, a1] S = bd (b__law_gap [.vl a0, .vl a1]) leave S := rfl
theorem e__law_weights (a0 : D) (S : DS) : m__law_weights [a0] S = bd (b__law_weights [.vl a0, .no, .no, .no, .no, .no]) leave S := rfl
theorem e__law_is_off (a0 a1 a2 a3 : D) (S : DS) : m__law_is_off [a0, a1, a2, a3] S = bd (b__law_is_off [.vl a0, .vl a1, .vl a2, .vl a3, .no]) leave S := rfl
theorem e__law_rows (a0 a1 a2 a3 : D) (S : DS) : m__law_rows [a0, a1, a2, a3] S = bd (b__law_rows [.vl a0, .vl a1, .vl a2, .vl a3, .no, .no, .no, .no, .no]) leave S := rfl
theorem e__law_papers_hold (a0 a1 a2 a3 a4 a5 a6 a7 : D) (S : DS) : m__law_papers_hold [a0, a1, a2, a3, a4, a5, a6, a7] S = bd (b__law_papers_hold [.vl a0, .vl a1, .vl a2, .vl a3, .vl a4, .vl a5, .vl a6, .vl a7, .no, .no, .no, .no, .no, .no, .no, .no, .no]) leave S := rfl
theorem e__law_units_hold (a0 : D) (S : DS) : m__law_units_hold [a0] S = bd (b__law_units_hold [.vl a0, .no, .no, .no, .no, .no, .no, .no, .no, .no, .no, .no, .no, .no, .no, .no, .no]) leave S := rfl
theorem e__law_great_holds (a0 : D) (S : DS) : m__law_great_holds [a0] S = bd (b__law_great_holds [.vl a0, .no, .no, .no, .no, .no, .no, .no, .no]) leave S := rfl
theorem e_law (a0 : D) (S : DS) : m_law [a0] S = bd (b_law [.vl a0, .no, .no]) leave S := rfl
theorem v_draw {S : DS} (v : Vs S) {n : Nat} (h : 0 < n) (hb : n < 2 ^ 63) : ∃ (r : Nat) (S' : DS), m__law_draw [.st, .int (n : Int)] S = .ok (.int (r : Int)) S' ∧ r < n ∧ Vs S' := drawN v h hb
theorem v_pick {S : DS} (v : Vs S) {ds : List D} (h : ds ≠ []) (hl : ds.length ≤ 1000) : ∃ (x : D) (S' : DS), m__law_pick [.st, .lst ds] S = .ok x S' ∧ x ∈ ds ∧ Vs S' := pick_ok v (.inl rfl) h (by omega)
theorem var_of {i : Nat} {d : D} {ρ : En} {S : DS} (h : slot ρ i = some d) : var i ρ S = .ok d S := by
  unfold var
  rw [h]
  rfl
theorem draw_of {f : FE} {i k : Nat} {ρ : En} {S S1 S2 : DS} {r : Nat} (hs : slot ρ i = some .st) (hf : f ρ S = .ok (.int (k : Int)) S1) (e : m__law_draw [.st, .int (k : Int)] S1 = .ok (.int (r : Int)) S2) : callE m__law_draw (consA (var i) (consA f nilA)) ρ S = .ok (.int (r : Int)) S2 :=
  call2_of (var_of hs) hf e
theorem pick_of {a : FE} {i : Nat} {ρ : En} {S S1 S2 : DS} {ds : List D} {x : D} (hs : slot ρ i = some .st) (h : a ρ S = .ok (.lst ds) S1) (e : m__law_pick [.st, .lst ds] S1 = .ok x S2) : callE m__law_pick (consA (var i) (consA a nilA)) ρ S = .ok x S2 :=
  call2_of (var_of hs) h e
theorem v_same {h n : Nat} {d : D} (g : Gd h n d) (a : h ≤ 64) (b : n ≤ 30000) (S : DS) : m__law_same [d, d] S = .ok (.bl true) S := same_ok g a b S
theorem num_of {i : Nat} {d : D} {ρ : En} {S : DS} (h : Arg d) (hs : slot ρ i = some d) : andE (op1 (isiD "int") (var i)) (notE (op1 (isiD "bool") (var i))) ρ S = .ok (.bl (isI d)) S := by
  have v : var i ρ S = .ok d S := by
    unfold var
    rw [hs]
    rfl
  have a := op1_of v (isi_int h)
  have b := op1_of v (isi_bool h)
  have n : notE (op1 (isiD "bool") (var i)) ρ S = .ok (.bl (!(isNum d).2)) S := by
    simp only [notE, bd, b, truth, Option.map_some, lift, rt]
  rw [isI_num]
  cases e : (isNum d).1 with
  | true =>
    rw [e] at a
    simp only [andE, bd, a, n, Bool.true_and]
  | false =>
    rw [e] at a
    simp only [andE, bd, a, rt, Bool.false_and]
theorem g_is_integer {d : D} (h : Arg d) (S : DS) : m_is_integer [d] S = .ok (.bl (isI d)) S := by
  rw [e_is_integer]
  refine body_rt ?_
  rw [b_is_integer]
  exact ret_of (num_of h rfl)
/-! ## numbers -/
theorem log_le {n k : Nat} (h : n < 2 ^ k) (hk : 0 < k) : n.log2 < k := by
  by_cases z : n = 0
  · subst z
    exact hk
  · exact (Nat.log2_lt z).mpr h
theorem log_top {n : Nat} (h : n ≤ 1000000000000) : n.log2 < 9000 := by
  have : n.log2 < 40 := log_le (Nat.lt_of_le_of_lt h (by decide)) (by decide)
  omega
theorem div_n {i n : Nat} (h1 : 0 < n) (h2 : n ≤ 1000000000000) : dDiv (.int (i : Int)) (.int (n : Int)) = some (.int ((i / n : Nat) : Int)) := by
  show (if 0 < (n : Int) ∧ (n : Int).natAbs.log2 < 9000 then some (D.int ((i : Int) / (n : Int))) else none) = _
  rw [if_pos ⟨by omega, by simpa using log_top h2⟩]
  rfl
theorem mul_ok {m y : Nat} (h1 : m ≤ 1000000000000) (h2 : y ≤ 1000000000000) : dMulX (.int (m : Int)) (.int (y : Int)) = some (.int ((m * y : Nat) : Int)) := by
  show (if (m : Int).natAbs.log2 + (y : Int).natAbs.log2 < 1000000 then some (D.int ((m : Int) * (y : Int))) else none) = _
  have a := log_top h1
  have b := log_top h2
  rw [if_pos (by rw [Int.natAbs_natCast, Int.natAbs_natCast]; omega)]
  rfl
theorem addN (a b : Nat) : dAdd (.int (a : Int)) (.int (b : Int)) = some (.int ((a + b : Nat) : Int)) := rfl
theorem subN {a b : Nat} (h : b ≤ a) : dSub (.int (a : Int)) (.int (b : Int)) = some (.int ((a - b : Nat) : Int)) := by
  show some (D.int ((a : Int) - (b : Int))) = _
  congr 2
  omega
theorem leN (a b : Nat) : dLe (.int (a : Int)) (.int (b : Int)) = some (.bl (decide (a ≤ b))) := by
  show some (D.bl (decide ((a : Int) ≤ (b : Int)))) = _
  congr 2
  exact decide_eq_decide.mpr (by omega)
theorem ltN (a b : Nat) : dLt (.int (a : Int)) (.int (b : Int)) = some (.bl (decide (a < b))) := by
  show some (D.bl (decide ((a : Int) < (b : Int)))) = _
  congr 2
  exact decide_eq_decide.mpr (by omega)
theorem gtN (a b : Nat) : dGt (.int (a : Int)) (.int (b : Int)) = some (.bl (decide (b < a))) := by
  show some (D.bl (decide ((b : Int) < (a : Int)))) = _
  congr 2
  exact decide_eq_decide.mpr (by omega)
theorem eqN (a b : Nat) : dEq (.int (a : Int)) (.int (b : Int)) = some (.bl (decide (a = b))) := by
  rw [dEq_int]
  congr 2
  exact decide_eq_decide.mpr (by omega)
theorem max2N (a b : Nat) : dMax2 (.int (a : Int)) (.int (b : Int)) = some (.int ((max a b : Nat) : Int)) := by
  show some (D.int (if (b : Int) > (a : Int) then (b : Int) else (a : Int))) = _
  congr 2
  split <;> omega
theorem min2N (a b : Nat) : dMin2 (.int (a : Int)) (.int (b : Int)) = some (.int ((min a b : Nat) : Int)) := by
  show some (D.int (if (b : Int) < (a : Int) then (b : Int) else (a : Int))) = _
  congr 2
  split <;> omega
/-- |w - t u| -/
theorem gap_of {f g k : FE} {ρ : En} {S S1 S2 S3 : DS} {w t u : Nat} (h1 : f ρ S = .ok (.int (w : Int)) S1) (h2 : g ρ S1 = .ok (.int (t : Int)) S2) (h3 : k ρ S2 = .ok (.int (u : Int)) S3) (ht : t ≤ 1000000000000) (hu : u ≤ 1000000000000) :
    op1 dAbs (op2 dSub f (op2 dMulX g k)) ρ S = .ok (.int ((ab w (t * u) : Nat) : Int)) S3 := op1_of (op2_of h1 (op2_of h2 h3 (mul_ok ht hu)) rfl) (ab_abs w (t * u))
/-! ## lists of numbers -/
abbrev natL (l : List Nat) : List D := l.map nD
theorem ints_nat (l : List Nat) : intsOf (natL l) = some (l.map fun n : Nat => (n : Int)) := by
  induction l with
  | nil => rfl
  | cons a l ih =>
    show (intsOf (natL l)).map ((a : Int) :: ·) = _
    rw [ih]
    rfl
theorem natL_len (l : List Nat) : (natL l).length = l.length := List.length_map ..
theorem max_ex {l : List Nat} (h : l ≠ []) : ∃ m, m ∈ l ∧ dMax (.lst (natL l)) = some (.int (m : Int)) ∧ ∀ y ∈ l, y ≤ m := by
  cases l with
  | nil => exact absurd rfl h
  | cons a l =>
    obtain ⟨s1, s2⟩ := foldmax_spec (l.map fun n : Nat => (n : Int)) (a : Int)
    have e : dMax (.lst (natL (a :: l))) = some (.int ((l.map fun n : Nat => (n : Int)).foldl (fun a b => if b > a then b else a) (a : Int))) := by
      show ((intsOf (natL (a :: l))).bind fun ns => (maxI ns).map D.int) = _
      rw [ints_nat]
      rfl
    generalize (l.map fun n : Nat => (n : Int)).foldl (fun a b => if b > a then b else a) (a : Int) = M at *
    have s1' : M ∈ (a :: l).map fun n : Nat => (n : Int) := s1
    obtain ⟨m, hm, rfl⟩ := List.mem_map.mp s1'
    refine ⟨m, hm, e, fun y hy => ?_⟩
    have := s2 (y : Int) (List.mem_map.mpr ⟨y, hy, rfl⟩ : (y : Int) ∈ (a :: l).map fun n : Nat => (n : Int))
    omega
theorem min_ex {l : List Nat} (h : l ≠ []) : ∃ m, m ∈ l ∧ dMin (.lst (natL l)) = some (.int (m : Int)) ∧ ∀ y ∈ l, m ≤ y := by
  cases l with
  | nil => exact absurd rfl h
  | cons a l =>
    obtain ⟨s1, s2⟩ := foldmin_spec (l.map fun n : Nat => (n : Int)) (a : Int)
    have e : dMin (.lst (natL (a :: l))) = some (.int ((l.map fun n : Nat => (n : Int)).foldl (fun a b => if b < a then b else a) (a : Int))) := by
      show ((intsOf (natL (a :: l))).bind fun ns => (minI ns).map D.int) = _
      rw [ints_nat]
      rfl
    generalize (l.map fun n : Nat => (n : Int)).foldl (fun a b => if b < a then b else a) (a : Int) = M at *
    have s1' : M ∈ (a :: l).map fun n : Nat => (n : Int) := s1
    obtain ⟨m, hm, rfl⟩ := List.mem_map.mp s1'
    refine ⟨m, hm, e, fun y hy => ?_⟩
    have := s2 (y : Int) (List.mem_map.mpr ⟨y, hy, rfl⟩ : (y : Int) ∈ (a :: l).map fun n : Nat => (n : Int))
    omega
theorem pure_nat : ∀ l : List Nat, pureL (natL l) = true ∧ PyData.depthAll (pyL (natL l)) ≤ 0
  | [] => ⟨rfl, Nat.le_refl _⟩
  | a :: l => by
    obtain ⟨h1, h2⟩ := pure_nat l
    refine ⟨?_, ?_⟩
    · show ((D.int (a : Int)).pure && pureL (natL l)) = true
      rw [h1]; rfl
    · show PyData.depthAll ((D.int (a : Int)).py :: pyL (natL l)) ≤ 0
      simp only [PyData.depthAll]
      exact Nat.max_le.mpr ⟨Nat.le_refl _, h2⟩
theorem ok_natL (l : List Nat) : okEq (.lst (natL l)) = true := by
  obtain ⟨h1, h2⟩ := pure_nat l
  unfold okEq
  simp only [D.pure, h1, Bool.true_and, decide_eq_true_eq, D.py, PyData.depth]
  omega
theorem pyL_nat (l : List Nat) : pyL (natL l) = l.map fun n : Nat => PyData.int (n : Int) := by
  induction l with
  | nil => rfl
  | cons a l ih =>
    show PyData.int (a : Int) :: pyL (natL l) = _
    rw [ih]
    rfl
theorem idx_nat (l : List Nat) (m : Nat) : dIndex (.lst (natL l)) (.int (m : Int)) = (l.findIdx? fun y => decide (y = m)).map fun j : Nat => D.int (j : Int) := by
  show (if okEq (.lst (natL l)) && okEq (.int (m : Int)) then ((pyL (natL l)).findIdx? fun z => PyData.eqv z (D.int (m : Int)).py).map fun j : Nat => D.int (j : Int) else none) = _
  have e : okEq (.int (m : Int)) = true := rfl
  rw [ok_natL, e, pyL_nat]
  simp only [Bool.and_self, if_true]
  congr 1
  rw [List.findIdx?_map]
  congr 1
  funext y
  show PyData.eqv (PyData.int (y : Int)) (PyData.int (m : Int)) = decide (y = m)
  simp only [PyData.eqv]
  by_cases c : y = m
  · subst c; simp
  · rw [decide_eq_false c]
    exact beq_eq_false_iff_ne.mpr fun z => c (by omega)
theorem idx_ex {l : List Nat} {m : Nat} (h : m ∈ l) : ∃ j, j < l.length ∧ dIndex (.lst (natL l)) (.int (m : Int)) = some (.int (j : Int)) ∧ l[j]? = some m ∧ ∀ i y, i < j → l[i]? = some y → y ≠ m := by
  rw [idx_nat]
  cases e : l.findIdx? fun y => decide (y = m) with
  | none =>
    have := List.findIdx?_eq_none_iff.mp e m h
    simp at this
  | some j =>
    obtain ⟨hl, hp, hn⟩ := List.findIdx?_eq_some_iff_getElem.mp e
    refine ⟨j, hl, rfl, ?_, fun i y hi hy => ?_⟩
    · rw [List.getElem?_eq_getElem hl]
      simpa using hp
    · obtain ⟨hi2, rfl⟩ := List.getElem?_eq_some_iff.mp hy
      simpa using hn i hi
theorem lcL_nat {α : Type} {t : TGd} {test : FB} {elt : FE} {ρ : En} {S : DS} {f g : α → D} {p : α → Bool} : ∀ (l : List α) (acc : List D), (∀ k ∈ l, ∃ ρ1, t (f k) ρ = some ρ1 ∧ test ρ1 S = .ok (p k) S ∧ (p k = true → elt ρ1 S = .ok (g k) S)) → acc.length + l.length ≤ 16777216 →
    lcL t test elt (l.map f) acc ρ S = .ok (acc ++ (l.filter p).map g) S
  | [], acc, _, _ => by simp [lcL, rt]
  | d :: ds, acc, h, hl => by
    obtain ⟨ρ1, e1, e2, e3⟩ := h d List.mem_cons_self
    rw [List.length_cons] at hl
    have h' : ∀ x ∈ ds, _ := fun x hx => h x (List.mem_cons_of_mem _ hx)
    rw [List.map_cons, lcL]
    cases hp : p d with
    | true =>
      have ih := lcL_nat ds (acc ++ [g d]) h' (by rw [List.length_append, List.length_singleton]; omega)
      rw [hp] at e2
      simp only [bd, e1, lift, rt, noEr, e2, e3 hp, if_true]
      rw [if_pos (by omega), ih, List.filter_cons, hp, if_pos rfl, List.map_cons, List.append_assoc]
      rfl
    | false =>
      have ih := lcL_nat ds acc h' (by omega)
      rw [hp] at e2
      simp only [bd, e1, lift, rt, noEr, e2, Bool.false_eq_true, if_false]
      rw [ih, List.filter_cons, hp, if_neg Bool.false_ne_true]
theorem lcN {α : Type} {it : FI} {t : TGd} {test : FB} {elt : FE} {vs : List Nat} {ρ : En} {S : DS} {l : List α} (f g : α → D) (p : α → Bool) (hit : it ρ S = .ok (l.map f) S) (h : ∀ k ∈ l, ∃ ρ1, t (f k) (wipeR ρ vs) = some ρ1 ∧ test ρ1 S = .ok (p k) S ∧ (p k = true → elt ρ1 S = .ok (g k) S)) (hl : l.length ≤ 1000000) :
    lcE it t test elt vs ρ S = .ok (.lst ((l.filter p).map g)) S := by
  have z := lcL_nat l [] h (by simpa using (by omega : l.length ≤ 16777216))
  rw [List.nil_append] at z
  exact lc_of hit z
theorem lcA {α : Type} {it : FI} {t : TGd} {elt : FE} {vs : List Nat} {ρ : En} {S : DS} {l : List α} (f g : α → D) (hit : it ρ S = .ok (l.map f) S) (h : ∀ k ∈ l, ∃ ρ1, t (f k) (wipeR ρ vs) = some ρ1 ∧ elt ρ1 S = .ok (g k) S) (hl : l.length ≤ 1000000) :
    lcE it t yesB elt vs ρ S = .ok (.lst (l.map g)) S := by
  have z := lcN f g (fun _ => true) hit (fun k hk => by
    obtain ⟨ρ1, a, b⟩ := h k hk
    exact ⟨ρ1, a, rfl, fun _ => b⟩) hl
  rw [List.filter_eq_self.mpr (fun _ _ => rfl)] at z
  exact z
theorem forL_find {α : Type} {t : TGd} {b : FS} {S : DS} {f r : α → D} {p : α → Bool} (Inv : En → Prop) : ∀ (l : List α) (ρ : En), Inv ρ → (∀ k ∈ l, ∀ ρ, Inv ρ → ∃ ρ1, t (f k) ρ = some ρ1 ∧ (p k = true → b ρ1 S = .ok (.rt (r k)) S) ∧ (p k = false → ∃ ρ', b ρ1 S = .ok (.nx ρ') S ∧ Inv ρ')) →
    (l.filter p = [] → ∃ ρ', forL t b (l.map f) ρ S = .ok (.nx ρ') S ∧ Inv ρ') ∧ ∀ k ks, l.filter p = k :: ks → forL t b (l.map f) ρ S = .ok (.rt (r k)) S
  | [], ρ, i, _ => ⟨fun _ => ⟨ρ, rfl, i⟩, fun k ks z => by cases z⟩
  | d :: ds, ρ, i, h => by
    obtain ⟨ρ1, e1, e2, e3⟩ := h d List.mem_cons_self ρ i
    rw [List.map_cons, List.filter_cons]
    cases hp : p d with
    | true =>
      rw [if_pos rfl]
      refine ⟨fun z => (by cases z), fun k ks z => ?_⟩
      cases z
      simp only [forL, bd, e1, lift, rt, e2 hp]
    | false =>
      rw [if_neg Bool.false_ne_true]
      obtain ⟨ρ', q1, q2⟩ := e3 hp
      obtain ⟨j1, j2⟩ := forL_find Inv ds ρ' q2 (fun k hk => h k (List.mem_cons_of_mem _ hk))
      have st : forL t b (f d :: ds.map f) ρ S = forL t b (ds.map f) ρ' S := by simp only [forL, bd, e1, lift, rt, q1]
      rw [st]
      exact ⟨j1, j2⟩
theorem rngD_from (lo : Nat) : ∀ n : Nat, rngD (lo : Int) n = (List.range' lo n).map nD := fun n => by
  refine List.ext_getElem? fun i => ?_
  unfold rngD
  rw [List.getElem?_map, List.getElem?_map]
  by_cases h : i < n
  · simp [List.getElem?_range, h, nD]
  · rw [List.getElem?_eq_none (by simpa using h), List.getElem?_eq_none (by simpa using h)]
    rfl
theorem andE_t {a b : FE} {ρ : En} {S S1 : DS} (h : a ρ S = .ok (.bl true) S1) : andE a b ρ S = b ρ S1 := by
  simp only [andE, bd, h]
theorem andE_f {a b : FE} {ρ : En} {S S1 : DS} (h : a ρ S = .ok (.bl false) S1) : andE a b ρ S = .ok (.bl false) S1 := by
  simp only [andE, bd, h, rt]
theorem rng1 {a : FE} {ρ : En} {S S1 : DS} {n : Nat} (hn : n ≤ 1000) (h : a ρ S = .ok (.int (n : Int)) S1) : itR1 a ρ S = .ok ((List.range n).map nD) S1 := by
  rw [rng_nat hn h, rngD_map]
  rfl
theorem rng2 {a b : FE} {ρ : En} {S S1 S2 : DS} {lo hi : Nat} (h1 : lo ≤ 1000000) (h2 : hi ≤ 1000000) (ha : a ρ S = .ok (.int (lo : Int)) S1) (hb : b ρ S1 = .ok (.int (hi : Int)) S2) : itR2 a b ρ S = .ok ((List.range' lo (hi - lo)).map nD) S2 := by
  have e : ((hi : Int) - (lo : Int)).toNat = hi - lo := by omega
  have b62 : ∀ n : Nat, n ≤ 1000000 → big62 ((n : Nat) : Int) = true := fun n hn => by
    unfold big62
    exact decide_eq_true ⟨by omega, by omega⟩
  unfold itR2 bd
  rw [ha]
  simp only [hb]
  rw [b62 lo h1, b62 hi h2]
  simp only [Bool.and_self, if_true]
  rw [e]
  refine congrArg (fun l => Res.ok l S2) ?_
  exact rngD_from lo (hi - lo)
theorem enum_nat (ws : List Nat) : enumF 0 (natL ws) = (List.range ws.length).map fun k => .tup [nD k, nD (ws.getD k 0)] := by
  refine List.ext_getElem? fun i => ?_
  rw [enumF_at, List.getElem?_map, List.getElem?_map]
  by_cases h : i < ws.length
  · rw [List.getElem?_eq_getElem h, List.getElem?_eq_getElem (by simpa using h)]
    simp [nD, h]
  · rw [List.getElem?_eq_none (by omega), List.getElem?_eq_none (by simpa using h)]
    rfl
/-! ## weights -/
structure WD (d : D) (ws : List Nat) : Prop where
  sq : seqAny d = some (natL ws)
  tp : isiD "tuple" d = some (.bl true)
  ln : dLen d = some (.int (ws.length : Int))
  ix : ∀ j : Nat, j < ws.length → dIxA d (.int (j : Int)) = some (nD (ws.getD j 0))
  en : ∀ (f : FE) (ρ : En) (S : DS), f ρ S = .ok d S → itEnX f ρ S = .ok (enumF 0 (natL ws)) S
  cut : ∀ lo hi, ∃ d', dCutX lo hi d = some d' ∧ seqAny d' = some (natL (cutG ws lo hi))
theorem at_natL {ws : List Nat} {j : Nat} (h : j < ws.length) : atI (natL ws) (j : Int) = some (nD (ws.getD j 0)) := atI_nat (by simp [h])
theorem kit_tt : (kitB "tuple" "tuple").map D.bl = some (.bl true) := by rw [kit_tup_tup]; rfl
theorem wd_tup (ws : List Nat) : WD (.tup (natL ws)) ws where
  sq := rfl
  tp := kit_tt
  ln := by
    show some (D.int ((natL ws).length : Int)) = _
    rw [natL_len]
  ix := fun j h => at_natL h
  en := fun f ρ S h => by simp only [itEnX, bd, h]; rfl
  cut := fun lo hi => ⟨_, rfl, by show some (cutG (natL ws) lo hi) = _; rw [cut_map]⟩
theorem wd_tpx (ws : List Nat) : WD (.tpx (natL ws)) ws where
  sq := rfl
  tp := kit_tt
  ln := by
    show some (D.int ((natL ws).length : Int)) = _
    rw [natL_len]
  ix := fun j h => at_natL h
  en := fun f ρ S h => by simp only [itEnX, bd, h]; rfl
  cut := fun lo hi => ⟨_, rfl, by show some (cutG (natL ws) lo hi) = _; rw [cut_map]⟩
structure Wt (ws : List Nat) : Prop where
  n1 : 1 ≤ ws.length
  n2 : ws.length ≤ 60
  r : ∀ n ∈ ws, 1 ≤ n ∧ n ≤ 100000
theorem Wt.g {ws : List Nat} (w : Wt ws) {k : Nat} (h : k < ws.length) : 1 ≤ ws.getD k 0 ∧ ws.getD k 0 ≤ 100000 := by
  rw [List.getD_eq_getElem?_getD, List.getElem?_eq_getElem h]
  exact w.r _ (List.getElem_mem h)
theorem all_map_true (l : List Nat) : dAll (.lst (l.map fun _ => D.bl true)) = some (.bl true) := by
  have := all_true (natL l)
  rw [List.map_map] at this
  exact this
theorem v_check_weights {d : D} {ws : List Nat} (W : WD d ws) (w : Wt ws) (S : DS) : m_check_weights [d] S = .ok .non S := by
  have n1 := w.n1; have n2 := w.n2
  rw [e_check_weights, b_check_weights]
  have b0 : truB (op1 (isiD "tuple") (var 0)) [.vl d, .no] S = .ok true S := tru_ofE (op1_of (d := d) rfl W.tp) rfl
  have b1 : valB (chn2 dLe dLe (cst (.int 1)) (op1 dLen (var 0)) (cst (.int 60))) [.vl d, .no] S = .ok true S := by
    have c := chn_of (f := op1 dLen (var 0)) (ρ := [.vl d, .no]) (S := S) (x := (ws.length : Int)) (lo := 1) (hi := 60) (op1_of (d := d) rfl W.ln)
    rw [decide_eq_true (by omega), decide_eq_true (by omega)] at c
    exact val_of c
  have l : lcE (itS (var 0)) (tgN 1) yesB (andE (callE m_is_integer (consA (var 1) nilA)) (chn2 dLe dLe (cst (.int 1)) (var 1) (cst (.int 100000)))) [1] [.vl d, .no] S = .ok (.lst (ws.map fun _ => D.bl true)) S :=
    lcA nD _ (its_of (d := d) rfl W.sq) (fun k hk => ⟨_, rfl, by
      obtain ⟨k1, k2⟩ := w.r k hk
      have c := call1_of (f := var 1) (ρ := [.vl d, .vl (nD k)]) (S := S) rfl (g_is_integer (d := nD k) trivial S)
      have z := chn_of (f := var 1) (ρ := [.vl d, .vl (nD k)]) (S := S) (x := (k : Int)) (lo := 1) (hi := 100000) rfl
      rw [decide_eq_true (by omega), decide_eq_true (by omega)] at z
      show andE (callE m_is_integer (consA (var 1) nilA)) (chn2 dLe dLe (cst (.int 1)) (var 1) (cst (.int 100000))) [.vl d, .vl (nD k)] S = _
      exact (andE_t c).trans z⟩) (by omega)
  have c := tru_ofE (op1_of l (all_map_true ws)) (k := true) rfl
  exact body_nx ((seq_nx (if_f ((or_f (not_of b0)).trans (not_of b1)))).trans (if_f (not_of c)))
theorem int_of {i : Nat} {n : Nat} {ρ : En} {S : DS} (hs : slot ρ i = some (.int (n : Int))) : truB (callE m_is_integer (consA (var i) nilA)) ρ S = .ok true S := tru_ofE (call1_of (d := .int (n : Int)) (var_of hs) (g_is_integer (d := .int (n : Int)) trivial S)) rfl
theorem chnT {i : Nat} {n : Nat} {lo hi : Nat} {ρ : En} {S : DS} (hs : slot ρ i = some (.int (n : Int))) (h1 : lo ≤ n) (h2 : n ≤ hi) : valB (chn2 dLe dLe (cst (.int (lo : Int))) (var i) (cst (.int (hi : Int)))) ρ S = .ok true S := by
  have c := chn_of (f := var i) (ρ := ρ) (S := S) (x := (n : Int)) (lo := (lo : Int)) (hi := (hi : Int)) (var_of hs)
  rw [decide_eq_true (by omega), decide_eq_true (by omega)] at c
  exact val_of c
theorem v_check_slack {s : Nat} (h : s ≤ 100000) (S : DS) : m_check_slack [.int (s : Int)] S = .ok .non S := by
  rw [e_check_slack, b_check_slack]
  exact body_nx (if_f ((or_f (not_of (int_of rfl))).trans (not_of (chnT (lo := 0) (hi := 100000) rfl (by omega) h))))
theorem v_check_unit {u : Nat} (h1 : 1 ≤ u) (h2 : u ≤ 100000) (w : D) (S : DS) : m_check_unit [.int (u : Int), w] S = .ok .non S := by
  rw [e_check_unit, b_check_unit]
  exact body_nx (if_f ((or_f (not_of (int_of rfl))).trans (not_of (chnT (lo := 1) (hi := 100000) rfl h1 h2))))
theorem v_nearest {w u : Nat} (hw : w ≤ 100000) (h1 : 1 ≤ u) (h2 : u ≤ 100000) (S : DS) : m_nearest [.int (w : Int), .int (u : Int)] S = .ok (.int (near w u : Int)) S := by
  rw [e_nearest]
  refine body_rt ?_
  rw [b_nearest]
  have dl : w / u ≤ 100000 := Nat.le_trans (Nat.div_le_self _ _) hw
  refine (seq_nx (asg_of (d := .int ((max 1 (w / u) : Nat) : Int)) (op2_of (d1 := .int ((1 : Nat) : Int)) rfl (op2_of rfl rfl (div_n h1 (by omega))) (max2N 1 _)))).trans ?_
  have g1 : op1 dAbs (op2 dSub (var 0) (op2 dMulX (var 2) (var 1))) [.vl (.int (w : Int)), .vl (.int (u : Int)), .vl (.int ((max 1 (w / u) : Nat) : Int))] S = .ok (.int ((ab w (max 1 (w / u) * u) : Nat) : Int)) S := gap_of rfl rfl rfl (by omega) (by omega)
  have g2 : op1 dAbs (op2 dSub (var 0) (op2 dMulX (op2 dAdd (var 2) (cst (.int 1))) (var 1))) [.vl (.int (w : Int)), .vl (.int (u : Int)), .vl (.int ((max 1 (w / u) : Nat) : Int))] S = .ok (.int ((ab w ((max 1 (w / u) + 1) * u) : Nat) : Int)) S := gap_of rfl (op2_of rfl (d2 := .int ((1 : Nat) : Int)) rfl (addN _ 1)) rfl (by omega) (by omega)
  have t : valB (op2 dLe (op1 dAbs (op2 dSub (var 0) (op2 dMulX (var 2) (var 1)))) (op1 dAbs (op2 dSub (var 0) (op2 dMulX (op2 dAdd (var 2) (cst (.int 1))) (var 1))))) [.vl (.int (w : Int)), .vl (.int (u : Int)), .vl (.int ((max 1 (w / u) : Nat) : Int))] S = .ok (decide (ab w (max 1 (w / u) * u) ≤ ab w ((max 1 (w / u) + 1) * u))) S := val_of (op2_of g1 g2 (leN _ _))
  refine ret_of ?_
  unfold near
  by_cases c : ab w (max 1 (w / u) * u) ≤ ab w ((max 1 (w / u) + 1) * u)
  · rw [decide_eq_true c] at t
    rw [if_pos c]
    exact ite_t t
  · rw [decide_eq_false c] at t
    rw [if_neg c]
    exact (ite_f t).trans (op2_of rfl (d2 := .int ((1 : Nat) : Int)) rfl (addN _ 1))
theorem near_top {w u : Nat} (hw : w ≤ 100000) : near w u ≤ 100001 := by
  have := near_bounds w u
  have dl : w / u ≤ 100000 := Nat.le_trans (Nat.div_le_self _ _) hw
  omega
theorem nears_of {f g : FE} {ρ : En} {S : DS} {w u : Nat} (h1 : f ρ S = .ok (.int (w : Int)) S) (h2 : g ρ S = .ok (.int (u : Int)) S) (hw : w ≤ 100000) (u1 : 1 ≤ u) (u2 : u ≤ 100000) : callE m_nearest (consA f (consA g nilA)) ρ S = .ok (.int (near w u : Int)) S := call2_of h1 h2 (v_nearest hw u1 u2 S)
/-- abs(own - nearest(own, unit) * unit) -/
theorem ngap_of {i j : Nat} {ρ : En} {S : DS} {w u : Nat} (hi : slot ρ i = some (.int (w : Int))) (hj : slot ρ j = some (.int (u : Int))) (hw : w ≤ 100000) (u1 : 1 ≤ u) (u2 : u ≤ 100000) : op1 dAbs (op2 dSub (var i) (op2 dMulX (callE m_nearest (consA (var i) (consA (var j) nilA))) (var j))) ρ S = .ok (.int ((gp w u : Nat) : Int)) S :=
  gap_of (var_of hi) (nears_of (var_of hi) (var_of hj) hw u1 u2) (var_of hj) (by have := near_top (u := u) hw; omega) (by omega)
end Hk19
namespace Hk19
open PySem Mini
open L2 (atI ixN atI_nat kitB Key)
theorem notE_of {f : FE} {ρ : En} {S S1 : DS} {d : D} {k : Bool} (h : f ρ S = .ok d S1) (ht : truth d = some k) : notE f ρ S = .ok (.bl (!k)) S1 := by
  simp only [notE, bd, h, ht, Option.map_some, lift, rt]
def offG (ws : List Nat) (s u : Nat) : List Nat := (List.range ws.length).filter fun k => decide (s < gp (ws.getD k 0) u)
def tsN (ws : List Nat) (u : Nat) : List Nat := ws.map fun w => near w u
theorem ts_get {ws : List Nat} {u k : Nat} (h : k < ws.length) : (tsN ws u).getD k 0 = near (ws.getD k 0) u := by
  unfold tsN
  rw [List.getD_eq_getElem?_getD, List.getElem?_map, List.getD_eq_getElem?_getD, List.getElem?_eq_getElem h]
  rfl
theorem ts_len (ws : List Nat) (u : Nat) : (tsN ws u).length = ws.length := List.length_map ..
theorem ts_at {ws : List Nat} {u k : Nat} (h : k < ws.length) : atI (natL (tsN ws u)) (k : Int) = some (nD (near (ws.getD k 0) u)) := by
  rw [← ts_get (u := u) h]
  exact at_natL (by rw [ts_len]; exact h)
def dif (w u : Nat) : D := .int ((w : Int) - ((near w u * u : Nat) : Int))
def judD (ws : List Nat) (s u : Nat) : D := match offG ws s u with
  | [] => .tup [.str "fits", .tup (natL (tsN ws u))]
  | k :: _ => .tup [.str "off", nD k, dif (ws.getD k 0) u]
theorem checks_of {d : D} {ws : List Nat} (W : WD d ws) (w : Wt ws) {s u : Nat} (hs : s ≤ 100000) (u1 : 1 ≤ u) (u2 : u ≤ 100000) {r : FS} {ρ : En} {S : DS} (h0 : slot ρ 0 = some d) (h1 : slot ρ 1 = some (nD s)) (h2 : slot ρ 2 = some (nD u)) :
    seqS (exprS (callE m_check_weights (consA (var 0) nilA))) (seqS (exprS (callE m_check_slack (consA (var 1) nilA))) (seqS (exprS (callE m_check_unit (appA (consA (var 2) nilA) [.str "unit"]))) r)) ρ S = r ρ S :=
  (seq_nx (expr_of (call1_of (var_of h0) (v_check_weights W w S)))).trans ((seq_nx (expr_of (call1_of (var_of h1) (v_check_slack hs S)))).trans (seq_nx (expr_of (callD1_of (var_of h2) (v_check_unit u1 u2 _ S)))))
theorem v_judge_unit {d : D} {ws : List Nat} (W : WD d ws) (w : Wt ws) {s u : Nat} (hs : s ≤ 100000) (u1 : 1 ≤ u) (u2 : u ≤ 100000) (S : DS) : m_judge_unit [d, nD s, nD u] S = .ok (judD ws s u) S := by
  have n2 := w.n2
  rw [e_judge_unit]
  refine body_rt ?_
  rw [b_judge_unit]
  refine (checks_of W w hs u1 u2 rfl rfl rfl).trans ?_
  have l : lcE (itS (var 0)) (tgN 5) yesB (callE m_nearest (consA (var 5) (consA (var 2) nilA))) [5] [.vl d, .vl (nD s), .vl (nD u), .no, .no, .no] S = .ok (.lst (natL (tsN ws u))) S := by
    have z := lcA (elt := callE m_nearest (consA (var 5) (consA (var 2) nilA))) (t := tgN 5) (vs := [5]) (ρ := [.vl d, .vl (nD s), .vl (nD u), .no, .no, .no]) nD (fun w => nD (near w u)) (its_of (f := var 0) (S := S) (d := d) rfl W.sq) (fun k hk => ⟨_, rfl, nears_of (w := k) (u := u) rfl rfl (w.r k hk).2 u1 u2⟩) (by omega)
    rw [z]
    unfold tsN natL
    rw [List.map_map]
    rfl
  refine (seq_nx (asg_of l)).trans ?_
  have hit : itEnX (var 0) [.vl d, .vl (nD s), .vl (nD u), .vl (.lst (natL (tsN ws u))), .no, .no] S = .ok ((List.range ws.length).map fun k => .tup [nD k, nD (ws.getD k 0)]) S := by
    rw [← enum_nat]
    exact W.en _ _ _ rfl
  obtain ⟨f1, f2⟩ := forL_find (t := tgT [(tgN 4), (tgN 5)]) (b := (ifS (valB (op2 dGt (op1 dAbs (op2 dSub (var 5) (op2 dMulX (op2 dIxA (var 3) (var 4)) (var 2)))) (var 1))) (retS (tupE (consA (cst (.str "off")) (consA (var 4) (consA (op2 dSub (var 5) (op2 dMulX (op2 dIxA (var 3) (var 4)) (var 2))) nilA))))) skipS)) (S := S) (f := fun k => .tup [nD k, nD (ws.getD k 0)]) (r := fun k => .tup [.str "off", nD k, dif (ws.getD k 0) u]) (p := fun k => decide (s < gp (ws.getD k 0) u))
    (fun ρ => ∃ a b, ρ = [.vl d, .vl (nD s), .vl (nD u), .vl (.lst (natL (tsN ws u))), a, b]) (List.range ws.length) [.vl d, .vl (nD s), .vl (nD u), .vl (.lst (natL (tsN ws u))), .no, .no] ⟨_, _, rfl⟩ (fun k hk ρ ⟨a, b, e⟩ => by
      subst e
      have hk := List.mem_range.mp hk
      obtain ⟨g1, g2⟩ := w.g hk
      have nt := near_top (u := u) g2
      have ixt : op2 dIxA (var 3) (var 4) [.vl d, .vl (nD s), .vl (nD u), .vl (.lst (natL (tsN ws u))), .vl (nD k), .vl (nD (ws.getD k 0))] S = .ok (nD (near (ws.getD k 0) u)) S := op2_of (d1 := .lst (natL (tsN ws u))) (d2 := nD k) rfl rfl (ts_at hk)
      have t : valB (op2 dGt (op1 dAbs (op2 dSub (var 5) (op2 dMulX (op2 dIxA (var 3) (var 4)) (var 2)))) (var 1)) [.vl d, .vl (nD s), .vl (nD u), .vl (.lst (natL (tsN ws u))), .vl (nD k), .vl (nD (ws.getD k 0))] S = .ok (decide (s < gp (ws.getD k 0) u)) S := val_of (op2_of (gap_of (w := ws.getD k 0) (t := near (ws.getD k 0) u) (u := u) rfl ixt rfl (by omega) (by omega)) (d2 := nD s) rfl (gtN _ _))
      refine ⟨_, rfl, fun h => ?_, fun h => ⟨[.vl d, .vl (nD s), .vl (nD u), .vl (.lst (natL (tsN ws u))), .vl (nD k), .vl (nD (ws.getD k 0))], ?_, .vl (nD k), .vl (nD (ws.getD k 0)), rfl⟩⟩
      · rw [h] at t
        exact (if_t t).trans (ret_of (tup3 rfl rfl (op2_of (d1 := nD (ws.getD k 0)) rfl (op2_of ixt (d2 := nD u) rfl (mul_ok (by omega) (by omega))) rfl)))
      · rw [h] at t
        exact if_f t)
  unfold judD
  show _ = Res.ok (Fl.rt (match (List.range ws.length).filter (fun k => decide (s < gp (ws.getD k 0) u)) with
    | [] => D.tup [.str "fits", .tup (natL (tsN ws u))]
    | k :: _ => D.tup [.str "off", nD k, dif (ws.getD k 0) u])) S
  cases e : (List.range ws.length).filter (fun k => decide (s < gp (ws.getD k 0) u)) with
  | nil =>
    obtain ⟨ρ', q1, a, b, rfl⟩ := f1 e
    refine (seq_nx ((for_of hit).trans q1)).trans ?_
    exact ret_of (tup2 rfl (op1_of (d := .lst (natL (tsN ws u))) rfl rfl))
  | cons k ks => exact seq_rt ((for_of hit).trans (f2 k ks e))
theorem v_off_weights {d : D} {ws : List Nat} (W : WD d ws) (w : Wt ws) {s u : Nat} (hs : s ≤ 100000) (u1 : 1 ≤ u) (u2 : u ≤ 100000) (S : DS) : m_off_weights [d, nD s, nD u] S = .ok (.tup (natL (offG ws s u))) S := by
  have n2 := w.n2
  rw [e_off_weights]
  refine body_rt ?_
  rw [b_off_weights]
  refine (checks_of W w hs u1 u2 rfl rfl rfl).trans ?_
  have hit : itEnX (var 0) [.vl d, .vl (nD s), .vl (nD u), .no, .no] S = .ok ((List.range ws.length).map fun k => .tup [nD k, nD (ws.getD k 0)]) S := by
    rw [← enum_nat]
    exact W.en _ _ _ rfl
  have l : lcE (itEnX (var 0)) (tgT [(tgN 3), (tgN 4)]) (valB (op2 dGt (op1 dAbs (op2 dSub (var 4) (op2 dMulX (callE m_nearest (consA (var 4) (consA (var 2) nilA))) (var 2)))) (var 1))) (var 3) [3, 4] [.vl d, .vl (nD s), .vl (nD u), .no, .no] S = .ok (.lst (natL (offG ws s u))) S :=
    lcN (fun k => .tup [nD k, nD (ws.getD k 0)]) nD (fun k => decide (s < gp (ws.getD k 0) u)) hit (fun k hk => by
      obtain ⟨g1, g2⟩ := w.g (List.mem_range.mp hk)
      exact ⟨_, rfl, val_of (op2_of (ngap_of (i := 4) (j := 2) (w := ws.getD k 0) (u := u) rfl rfl g2 u1 u2) (d2 := nD s) rfl (gtN _ _)), fun _ => rfl⟩) (by rw [List.length_range]; omega)
  exact ret_of (op1_of l rfl)
/-! ## good units -/
def goodB (ws : List Nat) (s u : Nat) : Bool := (ws.filter fun w => decide (s < gp w u)).isEmpty
theorem goodB_iff {ws : List Nat} {s u : Nat} : goodB ws s u = true ↔ ∀ w ∈ ws, gp w u ≤ s := by
  unfold goodB
  rw [List.isEmpty_iff, List.filter_eq_nil_iff]
  constructor
  · intro h w hw
    have := h w hw
    simpa using this
  · intro h w hw
    have := h w hw
    simpa using this
theorem emp_map {α β : Type} (f : α → β) (l : List α) : (l.map f).isEmpty = l.isEmpty := by cases l <;> rfl
theorem v_is_good {d : D} {ws : List Nat} (W : WD d ws) (w : Wt ws) {s u : Nat} (u1 : 1 ≤ u) (u2 : u ≤ 100000) (S : DS) : m_is_good [d, nD s, nD u] S = .ok (.bl (goodB ws s u)) S := by
  have n2 := w.n2
  rw [e_is_good]
  refine body_rt ?_
  rw [b_is_good]
  have l : lcE (itS (var 0)) (tgN 3) (valB (op2 dGt (op1 dAbs (op2 dSub (var 3) (op2 dMulX (callE m_nearest (consA (var 3) (consA (var 2) nilA))) (var 2)))) (var 1))) (var 3) [3] [.vl d, .vl (nD s), .vl (nD u), .no] S = .ok (.lst (natL (ws.filter fun w => decide (s < gp w u)))) S :=
    lcN nD nD (fun w => decide (s < gp w u)) (its_of (d := d) rfl W.sq) (fun k hk => ⟨_, rfl, val_of (op2_of (ngap_of (i := 3) (j := 2) (w := k) (u := u) rfl rfl (w.r k hk).2 u1 u2) (d2 := nD s) rfl (gtN _ _)), fun _ => rfl⟩) (by omega)
  refine ret_of ((notE_of l rfl).trans ?_)
  unfold goodB
  rw [emp_map, Bool.not_not]
structure Rg (ws : List Nat) (low high : Nat) : Prop where
  l1 : 1 ≤ low
  lh : low ≤ high
  h2 : high ≤ 100000
theorem v_range {d : D} {ws : List Nat} (W : WD d ws) (w : Wt ws) {s low high : Nat} (hs : s ≤ 100000) (g : Rg ws low high) (S : DS) : m_check_range [d, nD s, nD low, nD high] S = if (high - low + 1) * ws.length ≤ 20000 then .ok .non S else .er 3 (.str "units") S := by
  have g1 := g.l1; have g2 := g.lh; have g3 := g.h2; have n2 := w.n2
  rw [e_check_range, b_check_range]
  have pre : ∀ {r : FS}, seqS (exprS (callE m_check_weights (consA (var 0) nilA))) (seqS (exprS (callE m_check_slack (consA (var 1) nilA))) (seqS (exprS (callE m_check_unit (consA (var 2) (consA (cst (.str "low")) nilA)))) (seqS (exprS (callE m_check_unit (consA (var 3) (consA (cst (.str "high")) nilA)))) r))) [.vl d, .vl (nD s), .vl (nD low), .vl (nD high)] S = r [.vl d, .vl (nD s), .vl (nD low), .vl (nD high)] S := fun {r} =>
    (seq_nx (expr_of (call1_of rfl (v_check_weights W w S)))).trans ((seq_nx (expr_of (call1_of rfl (v_check_slack hs S)))).trans ((seq_nx (expr_of (call2_of rfl rfl (v_check_unit g1 (by omega) _ S)))).trans (seq_nx (expr_of (call2_of rfl rfl (v_check_unit (by omega) g3 _ S))))))
  have t1 : valB (op2 dGt (var 2) (var 3)) [.vl d, .vl (nD s), .vl (nD low), .vl (nD high)] S = .ok (decide (high < low)) S := val_of (op2_of rfl rfl (gtN _ _))
  rw [decide_eq_false (by omega)] at t1
  have m : dMulX (.int ((high - low + 1 : Nat) : Int)) (.int (ws.length : Int)) = some (.int (((high - low + 1) * ws.length : Nat) : Int)) := mul_ok (by omega) (by omega)
  have t2 : valB (op2 dGt (op2 dMulX (op2 dAdd (op2 dSub (var 3) (var 2)) (cst (.int 1))) (op1 dLen (var 0))) (cst (.int 20000))) [.vl d, .vl (nD s), .vl (nD low), .vl (nD high)] S = .ok (decide (20000 < (high - low + 1) * ws.length)) S :=
    val_of (op2_of (op2_of (op2_of (op2_of (d1 := nD high) (d2 := nD low) rfl rfl (subN (by omega))) (d2 := nD 1) rfl (addN _ 1)) (op1_of (d := d) rfl W.ln) m) (d2 := nD 20000) rfl (gtN _ _))
  by_cases c : (high - low + 1) * ws.length ≤ 20000
  · rw [if_pos c]
    rw [decide_eq_false (by omega)] at t2
    exact body_nx (pre.trans ((seq_nx (if_f t1)).trans (if_f t2)))
  · rw [if_neg c]
    rw [decide_eq_true (by omega)] at t2
    exact body_er (pre.trans ((seq_nx (if_f t1)).trans ((if_t t2).trans (raise_of rfl))))
def gu (ws : List Nat) (s low high : Nat) : List Nat := (List.range' low (high + 1 - low)).filter (goodB ws s)
theorem v_good_units {d : D} {ws : List Nat} (W : WD d ws) (w : Wt ws) {s low high : Nat} (hs : s ≤ 100000) (g : Rg ws low high) (S : DS) : m_good_units [d, nD s, nD low, nD high] S = if (high - low + 1) * ws.length ≤ 20000 then .ok (.tup (natL (gu ws s low high))) S else .er 3 (.str "units") S := by
  have g1 := g.l1; have g2 := g.lh; have g3 := g.h2; have n2 := w.n2
  have z := v_range W w hs g S
  rw [e_good_units, b_good_units]
  by_cases c : (high - low + 1) * ws.length ≤ 20000
  · rw [if_pos c] at z ⊢
    refine body_rt ?_
    refine (seq_nx (expr_of (callA_of (a4_of rfl rfl rfl rfl) z))).trans ?_
    have l : lcE (itR2 (var 2) (op2 dAdd (var 3) (cst (.int 1)))) (tgN 4) (truB (callE m_is_good (consA (var 0) (consA (var 1) (consA (var 4) nilA))))) (var 4) [4] [.vl d, .vl (nD s), .vl (nD low), .vl (nD high), .no] S = .ok (.lst (natL (gu ws s low high))) S :=
      lcN nD nD (goodB ws s) (rng2 (lo := low) (hi := high + 1) (by omega) (by omega) rfl (op2_of (d1 := nD high) (d2 := nD 1) rfl rfl (addN _ 1))) (fun k hk => by
        obtain ⟨k1, k2⟩ := List.mem_range'_1.mp hk
        exact ⟨_, rfl, tru_ofE (call3_of rfl rfl rfl (v_is_good W w (by omega) (by omega) S)) rfl, fun _ => rfl⟩) (by rw [List.length_range']; omega)
    exact ret_of (op1_of l rfl)
  · rw [if_neg c] at z ⊢
    refine body_er ?_
    exact seq_er (expr_er (callA_of (a4_of rfl rfl rfl rfl) z))
def lastD (l : List Nat) : D := match l.getLast? with
  | some x => nD x
  | none => .non
theorem last_at {l : List Nat} {x : Nat} (h : l.getLast? = some x) : atI (natL l) (-1) = some (nD x) := by
  have hne : l ≠ [] := fun z => by rw [z] at h; cases h
  have hl : 0 < l.length := List.length_pos_iff.mpr hne
  have e : ixN (natL l).length (-1) = some (l.length - 1) := by
    rw [natL_len]
    unfold ixN
    rw [if_neg (by omega), if_pos (by omega)]
    congr 1
    omega
  unfold atI
  rw [e]
  show (natL l)[l.length - 1]? = _
  rw [List.getElem?_map, ← List.getLast?_eq_getElem?, h]
  rfl
theorem emp_last {l : List Nat} : (natL l).isEmpty = true ↔ l.getLast? = none := by
  rw [emp_map, List.isEmpty_iff, List.getLast?_eq_none_iff]
/-- x[-1] if x else None -/
theorem last_of {i : Nat} {l : List Nat} {d : D} {ρ : En} {S : DS} (hs : slot ρ i = some d) (ht : truth d = some !(natL l).isEmpty) (hx : ∀ n : Int, dIxA d (.int n) = atI (natL l) n) : iteE (truB (var i)) (op2 dIxA (var i) (op1 dNeg (cst (.int 1)))) (cst .non) ρ S = .ok (lastD l) S := by
  have t : truB (var i) ρ S = .ok (!(natL l).isEmpty) S := tru_ofE (var_of hs) ht
  unfold lastD
  cases e : l.getLast? with
  | none =>
    rw [emp_last.mpr e] at t
    exact (ite_f t).trans rfl
  | some x =>
    have z : (natL l).isEmpty = false := by
      cases y : (natL l).isEmpty with
      | false => rfl
      | true => rw [emp_last.mp y] at e; cases e
    rw [z] at t
    exact (ite_t t).trans (op2_of (var_of hs) (op1_of rfl rfl) ((hx (-1)).trans (last_at e)))
theorem v_greatest_unit {d : D} {ws : List Nat} (W : WD d ws) (w : Wt ws) {s low high : Nat} (hs : s ≤ 100000) (g : Rg ws low high) (c : (high - low + 1) * ws.length ≤ 20000) (S : DS) : m_greatest_unit [d, nD s, nD low, nD high] S = .ok (lastD (gu ws s low high)) S := by
  have z := v_good_units W w hs g S
  rw [if_pos c] at z
  rw [e_greatest_unit]
  refine body_rt ?_
  rw [b_greatest_unit]
  refine (seq_nx (asg_of (callA_of (a4_of rfl rfl rfl rfl) z))).trans ?_
  exact ret_of (last_of (d := .tup (natL (gu ws s low high))) rfl rfl (fun n => rfl))
end Hk19
namespace Hk19
open PySem Mini
open L2 (atI ixN atI_nat kitB Key)
/-! ## the closest unit -/
open Classical in
noncomputable def mxN (l : List Nat) : Nat := if h : l ≠ [] then Classical.choose (max_ex h) else 0
theorem dMaxX_of {d r : D} (h : dMax d = some r) : dMaxX d = some r := by
  unfold dMaxX
  rw [h]
theorem mx_of {l : List Nat} (h : l ≠ []) : dMaxX (.lst (natL l)) = some (nD (mxN l)) := by
  unfold mxN
  rw [dif_pos h]
  exact dMaxX_of (Classical.choose_spec (max_ex h)).2.1
noncomputable def clP (ws : List Nat) (low high : Nat) : List (Int × Int) := (List.range' low (high + 1 - low)).map fun v => (((mxN (ws.map fun w => gp w v) : Nat) : Int), -(v : Int))
theorem gaps_of {d : D} {ws : List Nat} (W : WD d ws) (w : Wt ws) {F : FE} {v i : Nat} {ρ : En} {S : DS} {vs : List Nat} (hs : slot ρ i = some d) (h : ∀ k ∈ ws, ∃ ρ1, tgN (ws.length * 0 + vs.headD 0) (nD k) (wipeR ρ vs) = some ρ1 ∧ F ρ1 S = .ok (nD (gp k v)) S) : op1 dMaxX (lcE (itS (var i)) (tgN (ws.length * 0 + vs.headD 0)) yesB F vs) ρ S = .ok (nD (mxN (ws.map fun w => gp w v))) S := by
  have n1 := w.n1; have n2 := w.n2
  have l := lcA (it := itS (var i)) (vs := vs) nD (fun k => nD (gp k v)) (its_of (var_of hs) W.sq) h (by omega)
  have e : (ws.map fun k => nD (gp k v)) = natL (ws.map fun w => gp w v) := by
    show _ = (ws.map fun w => gp w v).map nD
    rw [List.map_map]
    rfl
  rw [e] at l
  exact op1_of l (mx_of (fun z => by
    have := congrArg List.length z
    rw [List.length_map] at this
    have h0 : ([] : List Nat).length = 0 := rfl
    omega))
theorem v_closest_unit {d : D} {ws : List Nat} (W : WD d ws) (w : Wt ws) {low high : Nat} (g : Rg ws low high) (c : (high - low + 1) * ws.length ≤ 20000) {a v : Nat} (hm : dMinX (.lst ((clP ws low high).map pD)) = some (pD ((a : Int), -(v : Int)))) (S : DS) : m_closest_unit [d, nD low, nD high] S = .ok (.tup [nD a, nD v]) S := by
  have g1 := g.l1; have g2 := g.lh; have g3 := g.h2; have n2 := w.n2
  have z := v_range W w (s := 0) (by omega) g S
  rw [if_pos c] at z
  rw [e_closest_unit]
  refine body_rt ?_
  rw [b_closest_unit]
  refine (seq_nx (expr_of (callA_of (a4_of rfl rfl rfl rfl) z))).trans ?_
  have l : lcE (itR2 (var 1) (op2 dAdd (var 2) (cst (.int 1)))) (tgN 5) yesB (tupE (consA (op1 dMaxX (lcE (itS (var 0)) (tgN 6) yesB (op1 dAbs (op2 dSub (var 6) (op2 dMulX (callE m_nearest (consA (var 6) (consA (var 5) nilA))) (var 5)))) [6])) (consA (op1 dNeg (var 5)) nilA))) [5] [.vl d, .vl (nD low), .vl (nD high), .no, .no, .no, .no] S = .ok (.lst ((clP ws low high).map pD)) S := by
    have q := lcA (t := tgN 5) (vs := [5]) (ρ := [.vl d, .vl (nD low), .vl (nD high), .no, .no, .no, .no]) (elt := tupE (consA (op1 dMaxX (lcE (itS (var 0)) (tgN 6) yesB (op1 dAbs (op2 dSub (var 6) (op2 dMulX (callE m_nearest (consA (var 6) (consA (var 5) nilA))) (var 5)))) [6])) (consA (op1 dNeg (var 5)) nilA))) nD (fun v => pD (((mxN (ws.map fun w => gp w v) : Nat) : Int), -(v : Int))) (rng2 (S := S) (a := var 1) (b := op2 dAdd (var 2) (cst (.int 1))) (lo := low) (hi := high + 1) (by omega) (by omega) rfl (op2_of (d1 := nD high) (d2 := nD 1) rfl rfl (addN _ 1))) (fun k hk => by
      obtain ⟨k1, k2⟩ := List.mem_range'_1.mp hk
      refine ⟨_, rfl, tup2 (gaps_of W w (v := k) (i := 0) (vs := [6]) rfl (fun x hx => ⟨[.vl d, .vl (nD low), .vl (nD high), .no, .no, .vl (nD k), .vl (nD x)], ?_, ngap_of (i := 6) (j := 5) (w := x) (u := k) rfl rfl (w.r x hx).2 (by omega) (by omega)⟩)) (op1_of rfl rfl)⟩
      show tgN (ws.length * 0 + 6) (nD x) _ = _
      rw [Nat.mul_zero, Nat.zero_add]
      rfl) (by rw [List.length_range']; omega)
    rw [q]
    unfold clP
    rw [List.map_map]
    rfl
  refine (seq_nx (asg_of l)).trans ?_
  refine (seq_nx (asgT_of (t := tgT [(tgN 4), (tgN 5)]) (d := pD ((a : Int), -(v : Int))) (ρ := [.vl d, .vl (nD low), .vl (nD high), .vl (.lst ((clP ws low high).map pD)), .no, .no, .no]) (ρ' := [.vl d, .vl (nD low), .vl (nD high), .vl (.lst ((clP ws low high).map pD)), .vl (nD a), .vl (.int (-(v : Int))), .no]) (op1_of (f := var 3) (S := S) (d := .lst ((clP ws low high).map pD)) rfl hm) rfl)).trans ?_
  refine ret_of (tup2 rfl (op1_of (d := .int (-(v : Int))) rfl ?_))
  show some (D.int (- -(v : Int))) = _
  rw [Int.neg_neg]
  rfl
/-! ## rows -/
theorem v_far {w s u : Nat} (hw : w ≤ 100000) (u1 : 1 ≤ u) (u2 : u ≤ 100000) (S : DS) : m_far [nD w, nD s, nD u] S = .ok (nD (far w s u)) S := by
  rw [e_far]
  refine body_rt ?_
  rw [b_far]
  have t1 : valB (op2 dLe (op1 dAbs (op2 dSub (var 0) (op2 dMulX (callE m_nearest (consA (var 0) (consA (var 2) nilA))) (var 2)))) (var 1)) [.vl (nD w), .vl (nD s), .vl (nD u), .no] S = .ok (decide (gp w u ≤ s)) S := val_of (op2_of (ngap_of (i := 0) (j := 2) (w := w) (u := u) rfl rfl hw u1 u2) (d2 := nD s) rfl (leN _ _))
  unfold far
  by_cases c : gp w u ≤ s
  · rw [decide_eq_true c] at t1
    rw [if_pos c]
    exact seq_rt ((if_t t1).trans (ret_of (op2_of (d1 := nD u) (d2 := nD 1) rfl rfl (subN u1))))
  · rw [decide_eq_false c] at t1
    rw [if_neg c]
    refine (seq_nx (if_f t1)).trans ?_
    refine (seq_nx (asg_of (d := nD (w / u)) (op2_of rfl rfl (div_n u1 (by omega))))).trans ?_
    have t2 : valB (op2 dEq (var 3) (cst (.int 0))) [.vl (nD w), .vl (nD s), .vl (nD u), .vl (nD (w / u))] S = .ok (decide (w / u = 0)) S := val_of (op2_of (d2 := nD 0) rfl rfl (eqN _ _))
    by_cases c2 : w / u = 0
    · rw [decide_eq_true c2] at t2
      rw [if_pos c2]
      exact seq_rt ((if_t t2).trans (ret_of rfl))
    · rw [decide_eq_false c2] at t2
      rw [if_neg c2]
      refine (seq_nx (if_f t2)).trans (ret_of ?_)
      rcases split_w (w := w) u1 with h | ⟨t, r, ht, hr, e⟩
      · exact absurd (near_0 h).1 c2
      · obtain ⟨z, gg, _⟩ := near_t u1 ht hr e
        rw [gg] at c
        have dl : w / u ≤ 100000 := Nat.le_trans (Nat.div_le_self _ _) hw
        exact op2_of (d1 := nD (w - s - 1)) (d2 := nD (w / u)) (op2_of (d1 := nD (w - s)) (d2 := nD 1) (op2_of (d1 := nD w) (d2 := nD s) rfl rfl (subN (by omega))) rfl (subN (by omega))) rfl (div_n (by omega) (by omega))
def rD (r : Rw) : D := .tup [nD r.1, nD r.2.1, nD r.2.2]
theorem idx_of {f g : FE} {ρ : En} {S : DS} {l : List Nat} {m j : Nat} (b : Best l m j) (h1 : f ρ S = .ok (.lst (natL l)) S) (h2 : g ρ S = .ok (nD m) S) : indexE f g ρ S = .ok (nD j) S := by
  obtain ⟨k, k1, k2, k3, k4⟩ := idx_ex (List.mem_of_getElem? b.at_)
  have e : j = k := (b.uniq ⟨k3, b.top, k4⟩).2
  subst e
  simp only [indexE, bd, h1, h2]
  rw [show dIndex (.lst (natL l)) (nD m) = some (nD j) from k2]
  rfl
theorem max_of {l : List Nat} {m j : Nat} (b : Best l m j) : dMaxX (.lst (natL l)) = some (nD m) := by
  have hm := List.mem_of_getElem? b.at_
  have hne : l ≠ [] := fun z => by rw [z] at hm; cases hm
  obtain ⟨k, k1, k2, k3⟩ := max_ex hne
  have e : k = m := Nat.le_antisymm (b.top k k1) (k3 m hm)
  subst e
  unfold dMaxX
  rw [k2]
  rfl
abbrev rowB : FS := (seqS (asgS 6 (lcE (itS (var 0)) (tgN 7) yesB (op2 dMin2 (callE m_far (consA (var 7) (consA (var 1) (consA (var 5) nilA)))) (var 3)) [7]))
  (seqS (ifS (valB (op2 dLt (op1 dMaxX (var 6)) (var 5))) (retS (cst .non)) skipS)
  (seqS (appS 4 (tupE (consA (indexE (var 6) (op1 dMaxX (var 6))) (consA (var 5) (consA (op1 dMaxX (var 6)) nilA)))))
  (asgS 5 (op2 dAdd (op1 dMaxX (var 6)) (cst (.int 1)))))))
abbrev rEn (d : D) (s low high : Nat) (acc : List D) (u : Nat) (a b : Slot) : En := [.vl d, .vl (nD s), .vl (nD low), .vl (nD high), .ow (.lst acc), .vl (nD u), a, b]
theorem rows_go {d : D} {ws : List Nat} (W : WD d ws) (w : Wt ws) {s low high : Nat} (hT : high ≤ 100000) (S : DS) : ∀ (n k u : Nat) (acc : List D) (a b : Slot), n < k → 1 ≤ u → u ≤ high + 1 → high + 1 - u ≤ n → acc.length + n ≤ 1000000 →
    (rowsF ws s high n u = none → whileS (valB (op2 dLe (var 5) (var 3))) rowB k (rEn d s low high acc u a b) S = .ok (.rt .non) S) ∧
    ∀ rs, rowsF ws s high n u = some rs → ∃ a' b', whileS (valB (op2 dLe (var 5) (var 3))) rowB k (rEn d s low high acc u a b) S = .ok (.nx (rEn d s low high (acc ++ rs.map rD) (high + 1) a' b')) S := by
  have n1 := w.n1; have n2 := w.n2
  intro n
  induction n with
  | zero =>
    intro k u acc a b hk h1 h2 h3 h4
    have e : u = high + 1 := by omega
    subst e
    have t : valB (op2 dLe (var 5) (var 3)) (rEn d s low high acc (high + 1) a b) S = .ok (decide (high + 1 ≤ high)) S := val_of (op2_of (d1 := nD (high + 1)) (d2 := nD high) rfl rfl (leN _ _))
    rw [decide_eq_false (by omega)] at t
    obtain ⟨k', rfl⟩ : ∃ k', k = k' + 1 := ⟨k - 1, by omega⟩
    refine ⟨fun z => (by cases z), fun rs z => ⟨a, b, ?_⟩⟩
    cases z
    rw [while_end t, List.map_nil, List.append_nil]
  | succ n ih =>
    intro k u acc a b hk h1 h2 h3 h4
    obtain ⟨k', rfl⟩ : ∃ k', k = k' + 1 := ⟨k - 1, by omega⟩
    have t : valB (op2 dLe (var 5) (var 3)) (rEn d s low high acc u a b) S = .ok (decide (u ≤ high)) S := val_of (op2_of (d1 := nD u) (d2 := nD high) rfl rfl (leN _ _))
    unfold rowsF
    by_cases c : high < u
    · have e : u = high + 1 := by omega
      subst e
      rw [decide_eq_false (by omega)] at t
      rw [if_pos c]
      refine ⟨fun z => (by cases z), fun rs z => ⟨a, b, ?_⟩⟩
      cases z
      rw [while_end t, List.map_nil, List.append_nil]
    · rw [decide_eq_true (by omega)] at t
      rw [if_neg c]
      obtain ⟨m, j, B⟩ := best_ex (l := endL ws s u high) (by unfold endL; simpa using List.length_pos_iff.mp (show 0 < ws.length by omega))
      rw [bst_of B]
      have l : lcE (itS (var 0)) (tgN 7) yesB (op2 dMin2 (callE m_far (consA (var 7) (consA (var 1) (consA (var 5) nilA)))) (var 3)) [7] (rEn d s low high acc u a b) S = .ok (.lst (natL (endL ws s u high))) S := by
        have q := lcA (t := tgN 7) (vs := [7]) (ρ := rEn d s low high acc u a b) (elt := op2 dMin2 (callE m_far (consA (var 7) (consA (var 1) (consA (var 5) nilA)))) (var 3)) nD (fun w => nD (min (far w s u) high)) (its_of (f := var 0) (S := S) (d := d) rfl W.sq) (fun x hx => ⟨_, rfl, op2_of (call3_of (d := nD x) (d2 := nD s) (d3 := nD u) rfl rfl rfl (v_far (w.r x hx).2 h1 (by omega) S)) (d2 := nD high) rfl (min2N _ _)⟩) (by omega)
        rw [q]
        unfold endL natL
        rw [List.map_map]
        rfl
      have mxv : ∀ (acc : List D) (q r : Slot), op1 dMaxX (var 6) [.vl d, .vl (nD s), .vl (nD low), .vl (nD high), .ow (.lst acc), q, .vl (.lst (natL (endL ws s u high))), r] S = .ok (nD m) S := fun acc q r => op1_of (d := .lst (natL (endL ws s u high))) rfl (max_of B)
      have st1 : asgS 6 (lcE (itS (var 0)) (tgN 7) yesB (op2 dMin2 (callE m_far (consA (var 7) (consA (var 1) (consA (var 5) nilA)))) (var 3)) [7]) (rEn d s low high acc u a b) S = .ok (.nx (rEn d s low high acc u (.vl (.lst (natL (endL ws s u high)))) b)) S := asg_of l
      have t2 : valB (op2 dLt (op1 dMaxX (var 6)) (var 5)) (rEn d s low high acc u (.vl (.lst (natL (endL ws s u high)))) b) S = .ok (decide (m < u)) S := val_of (op2_of (mxv acc _ b) (d2 := nD u) rfl (ltN _ _))
      by_cases c2 : m < u
      · rw [if_pos c2]
        rw [decide_eq_true c2] at t2
        refine ⟨fun _ => ?_, fun rs z => (by cases z)⟩
        have bb : rowB (rEn d s low high acc u a b) S = .ok (.rt .non) S := (seq_nx st1).trans (seq_rt ((if_t t2).trans (ret_of rfl)))
        simp only [whileS, bd, t, if_true, bb, rt]
      · rw [if_neg c2]
        rw [decide_eq_false c2] at t2
        have hm : m ≤ high := by
          have z := B.at_
          unfold endL at z
          rw [List.getElem?_map] at z
          obtain ⟨x, _, e⟩ := Option.map_eq_some_iff.mp z
          have e : min (far x s u) high = m := e
          omega
        have row : tupE (consA (indexE (var 6) (op1 dMaxX (var 6))) (consA (var 5) (consA (op1 dMaxX (var 6)) nilA))) (rEn d s low high acc u (.vl (.lst (natL (endL ws s u high)))) b) S = .ok (rD (j, u, m)) S := tup3 (idx_of B (f := var 6) rfl (mxv acc _ b)) (e := nD u) rfl (mxv acc _ b)
        have bb : rowB (rEn d s low high acc u a b) S = .ok (.nx (rEn d s low high (acc ++ [rD (j, u, m)]) (m + 1) (.vl (.lst (natL (endL ws s u high)))) b)) S :=
          (seq_nx st1).trans ((seq_nx (if_f t2)).trans ((seq_nx (app_of (i := 4) (ds := acc) rfl row (by omega))).trans (asg_of (op2_of (mxv (acc ++ [rD (j, u, m)]) _ b) (d2 := nD 1) rfl (addN _ 1)))))
        obtain ⟨i1, i2⟩ := ih k' (m + 1) (acc ++ [rD (j, u, m)]) (.vl (.lst (natL (endL ws s u high)))) b (by omega) (by omega) (by omega) (by omega) (by rw [List.length_append, List.length_singleton]; omega)
        rw [while_go t bb]
        refine ⟨fun z => i1 (Option.map_eq_none_iff.mp z), fun rs z => ?_⟩
        obtain ⟨rs', hr, rfl⟩ := Option.map_eq_some_iff.mp z
        obtain ⟨a', b', q⟩ := i2 rs' hr
        refine ⟨a', b', ?_⟩
        rw [q, List.append_assoc]
        rfl
def rowsD : Option (List Rw) → D
  | none => .non
  | some rs => .tup (rs.map rD)
theorem W0_big {n : Nat} (h : n ≤ 1000000) : n < W0 := Nat.lt_of_le_of_lt h (by unfold W0; decide +kernel)
theorem v_rows_against {d : D} {ws : List Nat} (W : WD d ws) (w : Wt ws) {s low high : Nat} (hs : s ≤ 100000) (g : Rg ws low high) (c : (high - low + 1) * ws.length ≤ 20000) (S : DS) : m_rows_against [d, nD s, nD low, nD high] S = .ok (rowsD (rowsF ws s high (high + 1 - low) low)) S := by
  have g1 := g.l1; have g2 := g.lh; have g3 := g.h2; have n2 := w.n2
  have z := v_range W w hs g S
  rw [if_pos c] at z
  rw [e_rows_against]
  refine body_rt ?_
  rw [b_rows_against]
  refine (seq_nx (expr_of (callA_of (a4_of rfl rfl rfl rfl) z))).trans ?_
  refine (seq_nx (asgO_of (d := .lst []) lst0)).trans ?_
  refine (seq_nx (asg_of (d := nD low) rfl)).trans ?_
  obtain ⟨i1, i2⟩ := rows_go W w (s := s) (low := low) g3 S (high + 1 - low) W0 low [] .no .no (W0_big (by omega)) g1 (by omega) (Nat.le_refl _) (by simp only [List.length_nil]; omega)
  cases e : rowsF ws s high (high + 1 - low) low with
  | none => exact seq_rt (i1 e)
  | some rs =>
    obtain ⟨a', b', q⟩ := i2 rs e
    refine (seq_nx q).trans (ret_of ?_)
    exact op1_of (d := .lst ([] ++ rs.map rD)) rfl rfl
/-! ## the common unit -/
theorem c_loop (d : D) (S : DS) : ∀ (k a b : Nat), b < k → whileS (truB (var 2)) (parS 1 2 (var 2) (op2 dMod (var 1) (var 2))) k [.vl d, .vl (nD a), .vl (nD b)] S = .ok (.nx [.vl d, .vl (nD (Nat.gcd a b)), .vl (nD 0)]) S
  | 0, a, b, h => by omega
  | k + 1, a, b, h => by
    have t : truB (var 2) [.vl d, .vl (nD a), .vl (nD b)] S = .ok ((b : Int) != 0) S := tru_ofE (d := nD b) rfl rfl
    by_cases hb : b = 0
    · subst hb
      have e0 : (((0 : Nat) : Int) != 0) = false := rfl
      rw [e0] at t
      rw [while_end t, Nat.gcd_zero_right]
    · have e0 : ((b : Int) != 0) = true := bne_iff_ne.mpr (by omega)
      rw [e0] at t
      have md : dMod (nD a) (nD b) = some (nD (a % b)) := by
        show (if (0 : Int) < (b : Int) then some (D.int ((a : Int) % (b : Int))) else none) = _
        rw [if_pos (by omega)]
        rfl
      have bb : parS 1 2 (var 2) (op2 dMod (var 1) (var 2)) [.vl d, .vl (nD a), .vl (nD b)] S = .ok (.nx [.vl d, .vl (nD b), .vl (nD (a % b))]) S := par_of (d := nD b) (e := nD (a % b)) rfl (op2_of rfl rfl md)
      rw [while_go t bb, c_loop d S k b (a % b) (by have := Nat.mod_lt a (Nat.pos_of_ne_zero hb); omega)]
      rw [Nat.gcd_comm a b, Nat.gcd_rec b a, Nat.gcd_comm]
def gcdL : List Nat → Nat
  | [] => 0
  | w :: ws => ws.foldl Nat.gcd w
theorem c_for (d : D) (S : DS) : ∀ (l : List Nat) (a : Nat) (x : Slot), (∀ n ∈ l, n ≤ 100000) → ∃ y, forL (tgN 2) (whileS (truB (var 2)) (parS 1 2 (var 2) (op2 dMod (var 1) (var 2))) W0) (natL l) [.vl d, .vl (nD a), x] S = .ok (.nx [.vl d, .vl (nD (l.foldl Nat.gcd a)), y]) S
  | [], a, x, _ => ⟨x, rfl⟩
  | n :: l, a, x, h => by
    obtain ⟨y, q⟩ := c_for d S l (Nat.gcd a n) (.vl (nD 0)) (fun m hm => h m (List.mem_cons_of_mem _ hm))
    refine ⟨y, ?_⟩
    have w := c_loop d S W0 a n (W0_big (by have := h n List.mem_cons_self; omega))
    show forL (tgN 2) _ (nD n :: natL l) _ S = _
    rw [forL]
    have e : tgN 2 (nD n) [.vl d, .vl (nD a), x] = some [.vl d, .vl (nD a), .vl (nD n)] := rfl
    simp only [bd, e, lift, rt, w]
    exact q
theorem cut1 {w : Nat} {ws : List Nat} : cutG (w :: ws) (some 1) none = ws := by
  unfold cutG
  have e1 : HT.sIx (w :: ws).length 0 (some 1) = 1 := by
    show (if (1 : Int) < 0 then ((1 : Int) + ((ws.length + 1 : Nat) : Int)).toNat else min (Int.toNat 1) (ws.length + 1)) = 1
    rw [if_neg (by omega)]
    have : Int.toNat 1 = 1 := rfl
    omega
  rw [e1]
  show List.take (ws.length + 1 - 1) ws = ws
  rw [Nat.add_sub_cancel, List.take_length]
theorem v_common_unit {d : D} {ws : List Nat} (W : WD d ws) (w : Wt ws) (S : DS) : m_common_unit [d] S = .ok (nD (gcdL ws)) S := by
  have n1 := w.n1
  rw [e_common_unit]
  refine body_rt ?_
  rw [b_common_unit]
  refine (seq_nx (expr_of (call1_of rfl (v_check_weights W w S)))).trans ?_
  refine (seq_nx (asg_of (d := nD (ws.getD 0 0)) (op2_of (d1 := d) (d2 := nD 0) rfl rfl (W.ix 0 n1)))).trans ?_
  obtain ⟨d', c1, c2⟩ := W.cut (some 1) none
  have s : slcX (var 0) (partP (cst (.int 1))) noP [.vl d, .vl (nD (ws.getD 0 0)), .no] S = .ok d' S := by
    show (bd (var 0 [.vl d, .vl (nD (ws.getD 0 0)), .no]) fun x => bd (partP (cst (.int 1)) [.vl d, .vl (nD (ws.getD 0 0)), .no]) fun l => bd (noP [.vl d, .vl (nD (ws.getD 0 0)), .no]) fun h => lift (dCutX l h x)) S = _
    show lift (dCutX (some 1) none d) S = _
    rw [c1]
    rfl
  have hit := its_of s c2
  cases ws with
  | nil => exact absurd n1 (by simp)
  | cons a rest =>
    rw [cut1] at hit
    obtain ⟨y, q⟩ := c_for d S rest a .no (fun n hn => (w.r n (List.mem_cons_of_mem _ hn)).2)
    exact (seq_nx ((for_of hit).trans q)).trans (ret_of rfl)
end Hk19
namespace Hk19
open PySem Mini
open L2 (atI ixN atI_nat kitB Key)
/-! ## asked, and told a word -/
theorem callV_of {n : Nat} {F : List D → M D} {i : Nat} {ga : FA} {ρ : En} {S S1 : DS} {ds : List D} (hs : slot ρ i = some (.fn n)) (hd : disp n = some F) (ha : ga ρ S = .ok ds S1) : callV disp i ga ρ S = F ds S1 := by
  simp only [callV, hs, hd, bd, ha]
/-- the list that asking gives, or the word -/
def ask : Res D → Res D
  | .ok d S => .ok (.lst [d]) S
  | .er n p S => (match wdW n p with
    | some d => .ok d S
    | none => .no)
  | .no => .no
theorem try_ask {g : FS} {ρ : En} {S : DS} {r : Res D} (h : g ρ S = inL r) : bd (tryWS g wdW ρ) leave S = ask r := by
  have e : tryWS g wdW ρ S = (match inL r with
    | .er n p S' => (match wdW n p with
      | some d => .ok (.rt d) S'
      | none => .no)
    | r => r) := by
    unfold tryWS
    rw [h] <;> (cases r <;> rfl)
  simp only [bd, e]
  cases r with
  | ok d S' => rfl
  | no => rfl
  | er n p S' =>
    simp only [inL, ask]
    cases wdW n p <;> rfl
theorem a5_of {f g k l m : FE} {ρ : En} {S S1 S2 S3 S4 S5 : DS} {d e i j o : D} (h : f ρ S = .ok d S1) (h2 : g ρ S1 = .ok e S2) (h3 : k ρ S2 = .ok i S3) (h4 : l ρ S3 = .ok j S4) (h5 : m ρ S4 = .ok o S5) : consA f (consA g (consA k (consA l (consA m nilA)))) ρ S = .ok [d, e, i, j, o] S5 := cons_of h (a4_of h2 h3 h4 h5)
theorem g_asked {n : Nat} {F : List D → M D} (hd : disp n = some F) (xs : List D) (h1 : 1 ≤ xs.length) (h4 : xs.length ≤ 5) (S : DS) : m__law_asked [.fn n, .lst xs] S = ask (F xs S) := by
  rw [e__law_asked]
  refine try_ask ?_
  have s1 : ∀ {ρ : En}, ρ = [.vl (.fn n), .vl (.lst xs), .no] → slot ρ 1 = some (.lst xs) := fun e => by rw [e]; rfl
  have lt3 := len_lt (n := 3) (i := 1) (S := S) (s1 rfl)
  have lt5 := len_lt (n := 5) (i := 1) (S := S) (s1 rfl)
  have lt7 := len_lt (n := 7) (i := 1) (S := S) (s1 rfl)
  have eq1 := len_eq (n := 1) (i := 1) (S := S) (s1 rfl)
  have eq3 := len_eq (n := 3) (i := 1) (S := S) (s1 rfl)
  have eq5 := len_eq (n := 5) (i := 1) (S := S) (s1 rfl)
  match xs, h1, h4 with
  | [a], _, _ =>
    rw [decide_eq_true (by show 1 < 3; omega)] at lt3
    rw [decide_eq_true (by rfl)] at eq1
    refine (seq_inL ((if_t lt3).trans ((ret_ite_t eq1).trans ret_lst))).trans ?_
    rw [callV_of rfl hd (a1_of (op2_of rfl rfl rfl))]
  | [a, b], _, _ =>
    rw [decide_eq_true (by show 2 < 3; omega)] at lt3
    rw [decide_eq_false (by show ¬ 2 = 1; omega)] at eq1
    refine (seq_inL ((if_t lt3).trans ((ret_ite_f eq1).trans ret_lst))).trans ?_
    rw [callV_of rfl hd (a2_of (op2_of rfl rfl rfl) (op2_of rfl rfl rfl))]
  | [a, b, c], _, _ =>
    rw [decide_eq_false (by show ¬ 3 < 3; omega)] at lt3
    rw [decide_eq_true (by show 3 < 5; omega)] at lt5
    rw [decide_eq_true (by rfl)] at eq3
    refine (seq_nx (if_f lt3)).trans ((seq_inL ((if_t lt5).trans ((ret_ite_t eq3).trans ret_lst))).trans ?_)
    rw [callV_of rfl hd (a3_of (op2_of rfl rfl rfl) (op2_of rfl rfl rfl) (op2_of rfl rfl rfl))]
  | [a, b, c, d], _, _ =>
    rw [decide_eq_false (by show ¬ 4 < 3; omega)] at lt3
    rw [decide_eq_true (by show 4 < 5; omega)] at lt5
    rw [decide_eq_false (by show ¬ 4 = 3; omega)] at eq3
    refine (seq_nx (if_f lt3)).trans ((seq_inL ((if_t lt5).trans ((ret_ite_f eq3).trans ret_lst))).trans ?_)
    rw [callV_of rfl hd (a4_of (op2_of rfl rfl rfl) (op2_of rfl rfl rfl) (op2_of rfl rfl rfl) (op2_of rfl rfl rfl))]
  | [a, b, c, d, e], _, _ =>
    rw [decide_eq_false (by show ¬ 5 < 3; omega)] at lt3
    rw [decide_eq_false (by show ¬ 5 < 5; omega)] at lt5
    rw [decide_eq_true (by show 5 < 7; omega)] at lt7
    rw [decide_eq_true (by rfl)] at eq5
    refine (seq_nx (if_f lt3)).trans ((seq_nx (if_f lt5)).trans ((seq_inL ((if_t lt7).trans ((ret_ite_t eq5).trans ret_lst))).trans ?_))
    rw [callV_of rfl hd (a5_of (op2_of rfl rfl rfl) (op2_of rfl rfl rfl) (op2_of rfl rfl rfl) (op2_of rfl rfl rfl) (op2_of rfl rfl rfl))]
/-! ## papers -/
def Wo.rs : Wo → Str
  | .ok => "" | .form => "form" | .weight => "weight" | .run => "run" | .off => "off"
def Wo.fl : Wo → Str
  | .ok => "" | .form => "paper form" | .weight => "paper weight" | .run => "paper run" | .off => "paper off"
def Wo.wd : Wo → D
  | .ok => .non | .form => .str "paper form" | .weight => .str "paper weight" | .run => .str "paper run" | .off => .str "paper off"
def Wo.hd : Wo → D
  | .ok => .lst [.non] | .form => .str "paper form" | .weight => .str "paper weight" | .run => .str "paper run" | .off => .str "paper off"
def resW (w : Wo) (S : DS) : Res D := if w = .ok then .ok .non S else .er 2 (.str w.rs) S
theorem wd2 {v w : Str} (e : "paper " ++ v = w) (hl : v.length ≤ 1000) : wdW 2 (.str v) = some (.str w) := by
  show (if 2 < 4 ∧ v.length ≤ 1000 then some (D.str (hdW 2 ++ v)) else none) = _
  rw [if_pos ⟨by decide, hl⟩, ← e]
  rfl
theorem ask_er {v w : Str} {S : DS} (e : "paper " ++ v = w) (hl : v.length ≤ 1000) : ask (.er 2 (.str v) S) = .ok (.str w) S := by
  unfold ask
  simp only []
  rw [wd2 e hl]
theorem ask_res (w : Wo) (S : DS) : ask (resW w S) = .ok w.hd S := by
  cases w with
  | ok => rfl
  | form => exact ask_er (v := "form") (w := "paper form") (by decide +kernel) (by decide +kernel)
  | weight => exact ask_er (v := "weight") (w := "paper weight") (by decide +kernel) (by decide +kernel)
  | run => exact ask_er (v := "run") (w := "paper run") (by decide +kernel) (by decide +kernel)
  | off => exact ask_er (v := "off") (w := "paper off") (by decide +kernel) (by decide +kernel)
theorem gd_wo (w : Wo) : Gd 1 100 w.hd := by
  cases w with
  | ok =>
    have z := gd_lst (h := 0) (n := 0) (ds := [.non]) fun d hd => by
      rw [List.mem_singleton.mp hd]
      exact gd_non
    exact z.mono (by decide) (by decide)
  | form => exact (gd_str (n := 100) (s := "paper form") (by decide +kernel) (by decide +kernel)).mono (by decide) (by decide)
  | weight => exact (gd_str (n := 100) (s := "paper weight") (by decide +kernel) (by decide +kernel)).mono (by decide) (by decide)
  | run => exact (gd_str (n := 100) (s := "paper run") (by decide +kernel) (by decide +kernel)).mono (by decide) (by decide)
  | off => exact (gd_str (n := 100) (s := "paper off") (by decide +kernel) (by decide +kernel)).mono (by decide) (by decide)
def ppD (q : D × Wo) : D := .tup [.lst [q.1], q.2.wd]
theorem v_shown {n : Nat} {F : List D → M D} (hd : disp n = some F) {ah : List D} (h4 : ah.length ≤ 4) (ps : List (D × Wo)) (hl : ps.length ≤ 100) (h : ∀ q ∈ ps, ∀ S, F (ah ++ [q.1]) S = resW q.2 S) (S : DS) : m__law_shown [.fn n, .lst ah, .lst (ps.map ppD)] S = .ok (.bl true) S := by
  rw [e__law_shown]
  refine body_rt ?_
  rw [b__law_shown]
  have l1 : lcE (itS (var 2)) (tgT [(tgN 4), (tgN 5)]) yesB (callE m__law_asked (consA (var 0) (consA (op2 dAdd (var 1) (var 4)) nilA))) [4, 5] [.vl (.fn n), .vl (.lst ah), .vl (.lst (ps.map ppD)), .no, .no, .no] S = .ok (.lst (ps.map fun q => q.2.hd)) S :=
    lcA ppD (fun q => q.2.hd) (its_of (d := .lst (ps.map ppD)) rfl rfl) (fun q hq => ⟨_, rfl, call2_of (d := .fn n) (d2 := .lst (ah ++ [q.1])) rfl (op2_of (d1 := .lst ah) (d2 := .lst [q.1]) rfl rfl (catL (by show ah.length + 1 ≤ _; omega))) (by
      have z := g_asked hd (ah ++ [q.1]) (by rw [List.length_append]; exact Nat.le_add_left _ _) (by rw [List.length_append, List.length_singleton]; omega) S
      rw [z, h q hq S]
      exact ask_res q.2 S)⟩) (by omega)
  refine (seq_nx (asg_of l1)).trans (ret_of ?_)
  have l2 : lcE (itS (var 2)) (tgT [(tgN 4), (tgN 5)]) yesB (iteE (valB (op2 dIs (var 5) (cst .non))) (lstE (consA (cst .non) nilA)) (var 5)) [4, 5] [.vl (.fn n), .vl (.lst ah), .vl (.lst (ps.map ppD)), .vl (.lst (ps.map fun q => q.2.hd)), .no, .no] S = .ok (.lst (ps.map fun q => q.2.hd)) S :=
    lcA ppD (fun q => q.2.hd) (its_of (d := .lst (ps.map ppD)) rfl rfl) (fun q hq => ⟨[.vl (.fn n), .vl (.lst ah), .vl (.lst (ps.map ppD)), .vl (.lst (ps.map fun q => q.2.hd)), .vl (.lst [q.1]), .vl q.2.wd], rfl, by
      obtain ⟨x, w⟩ := q
      cases w with
      | ok => exact (ite_t (val_of (op2_of (d1 := .non) rfl rfl rfl))).trans (lst1 rfl)
      | form => exact (ite_f (val_of (op2_of (d1 := .str "paper form") rfl rfl rfl))).trans rfl
      | weight => exact (ite_f (val_of (op2_of (d1 := .str "paper weight") rfl rfl rfl))).trans rfl
      | run => exact (ite_f (val_of (op2_of (d1 := .str "paper run") rfl rfl rfl))).trans rfl
      | off => exact (ite_f (val_of (op2_of (d1 := .str "paper off") rfl rfl rfl))).trans rfl⟩) (by omega)
  have g : Gd 2 ((ps.map fun q => q.2.hd).length * 101) (.lst (ps.map fun q => q.2.hd)) := gd_lst (h := 1) (n := 100) fun d hd => by
    obtain ⟨q, _, rfl⟩ := List.mem_map.mp hd
    exact gd_wo q.2
  exact call2_of rfl l2 (v_same g (by decide) (by rw [List.length_map]; omega) S)
/-! ## all -/
theorem blsOf_map {α : Type} (p : α → Bool) : ∀ l : List α, blsOf (l.map fun x => D.bl (p x)) = some (l.map p)
  | [] => rfl
  | d :: ds => by
    rw [List.map_cons, List.map_cons, blsOf, blsOf_map p ds]
    rfl
theorem all_map {α : Type} (p : α → Bool) (l : List α) : dAll (.lst (l.map fun x => D.bl (p x))) = some (.bl (l.all p)) := by
  show (blsOf (l.map fun x => D.bl (p x))).map (fun ns => D.bl (ns.all id)) = _
  rw [blsOf_map, Option.map_some, List.all_map]
  rfl
theorem emp_filter {α : Type} (p : α → Bool) (l : List α) : (l.filter p).isEmpty = l.all fun x => !p x := by
  cases e : l.all fun x => !p x with
  | true =>
    rw [List.isEmpty_iff, List.filter_eq_nil_iff]
    intro a ha z
    have := List.all_eq_true.mp e a ha
    rw [z] at this
    cases this
  | false =>
    cases z : (l.filter p).isEmpty with
    | false => rfl
    | true =>
      rw [List.isEmpty_iff, List.filter_eq_nil_iff] at z
      have : (l.all fun x => !p x) = true := List.all_eq_true.mpr fun a ha => by
        have := z a ha
        simpa using this
      rw [this] at e
      cases e
/-! ## accept_times -/
def okT (d : D) : Bool := match d with
  | .int i => decide (1 ≤ i)
  | _ => false
def timN (ws : List Nat) (s u : Nat) (ts : List Nat) : Wo := if (List.range ws.length).all (fun k => !decide (s < ab (ws.getD k 0) (ts.getD k 0 * u))) = true then .ok else .weight
theorem okt_of {d : D} (h : Arg d) {a b c e f : Slot} (S : DS) : andE (callE m_is_integer (consA (var 4) nilA)) (op2 dGe (var 4) (cst (.int 1))) [a, b, c, e, .vl d, f] S = .ok (.bl (okT d)) S := by
  have c := call1_of (F := m_is_integer) (f := var 4) (ρ := [a, b, c, e, .vl d, f]) (S := S) rfl (g_is_integer h S)
  cases d <;> first | exact h.elim | exact andE_f c | skip
  exact (andE_t c).trans (op2_of rfl rfl rfl)
theorem zip_nat : ∀ (ws ts : List Nat), ts.length = ws.length → zipD (natL ws) (natL ts) = (List.range ws.length).map fun k => .tup [nD (ws.getD k 0), nD (ts.getD k 0)]
  | [], [], _ => rfl
  | [], t :: ts, h => by cases h
  | w :: ws, [], h => by cases h
  | w :: ws, t :: ts, h => by
    have ih := zip_nat ws ts (by simpa using h)
    show zipD (nD w :: natL ws) (nD t :: natL ts) = _
    rw [zipD, ih, List.length_cons, List.range_succ_eq_map, List.map_cons, List.map_map]
    rfl
section
variable {ws : List Nat} (w : Wt ws) {s u : Nat} (hs : s ≤ 100000) (u1 : 1 ≤ u) (u2 : u ≤ 100000)
include w hs u1 u2
theorem tim_pre {T : D} {r : FS} {S : DS} : seqS (exprS (callE m_check_weights (consA (var 0) nilA))) (seqS (exprS (callE m_check_slack (consA (var 1) nilA))) (seqS (exprS (callE m_check_unit (appA (consA (var 2) nilA) [.str "unit"]))) r)) [.vl (.tup (natL ws)), .vl (nD s), .vl (nD u), .vl T, .no, .no] S = r [.vl (.tup (natL ws)), .vl (nD s), .vl (nD u), .vl T, .no, .no] S := checks_of (wd_tup ws) w hs u1 u2 rfl rfl rfl
omit w hs u1 u2 in
theorem tim_len {xs : List D} {S : DS} : (orB (notB (truB (op1 (isiD "tuple") (var 3)))) (valB (op2 dNe (op1 dLen (var 3)) (op1 dLen (var 0))))) [.vl (.tup (natL ws)), .vl (nD s), .vl (nD u), .vl (.tup xs), .no, .no] S = .ok (!decide (xs.length = ws.length)) S := by
  have b0 : truB (op1 (isiD "tuple") (var 3)) [.vl (.tup (natL ws)), .vl (nD s), .vl (nD u), .vl (.tup xs), .no, .no] S = .ok true S := tru_ofE (op1_of (d := .tup xs) rfl kit_tt) rfl
  refine (or_f (not_of b0)).trans (val_of (op2_of (op1_of (d := .tup xs) rfl rfl) (op1_of (d := .tup (natL ws)) rfl (wd_tup ws).ln) ?_))
  exact ne_nat xs.length ws.length
theorem v_times_len {xs : List D} (h : xs.length ≠ ws.length) (S : DS) : m_accept_times [.tup (natL ws), nD s, nD u, .tup xs] S = resW .form S := by
  rw [e_accept_times, b_accept_times]
  have t := tim_len (ws := ws) (s := s) (u := u) (xs := xs) (S := S)
  rw [decide_eq_false h] at t
  exact body_er ((tim_pre w hs u1 u2).trans (seq_er ((if_t t).trans (raise_of rfl))))
omit w hs u1 u2 in
theorem tim_all {xs : List D} (hx : ∀ x ∈ xs, Arg x) (hl : xs.length ≤ 60) {S : DS} : notB (truB (op1 dAll (lcE (itS (var 3)) (tgN 4) yesB (andE (callE m_is_integer (consA (var 4) nilA)) (op2 dGe (var 4) (cst (.int 1)))) [4]))) [.vl (.tup (natL ws)), .vl (nD s), .vl (nD u), .vl (.tup xs), .no, .no] S = .ok (!xs.all okT) S := by
  have l : lcE (itS (var 3)) (tgN 4) yesB (andE (callE m_is_integer (consA (var 4) nilA)) (op2 dGe (var 4) (cst (.int 1)))) [4] [.vl (.tup (natL ws)), .vl (nD s), .vl (nD u), .vl (.tup xs), .no, .no] S = .ok (.lst (xs.map fun x => .bl (okT x))) S := by
    have z := lcA (l := xs) (it := itS (var 3)) (t := tgN 4) (vs := [4]) (ρ := [.vl (.tup (natL ws)), .vl (nD s), .vl (nD u), .vl (.tup xs), .no, .no]) (elt := andE (callE m_is_integer (consA (var 4) nilA)) (op2 dGe (var 4) (cst (.int 1)))) (fun d => d) (fun d => .bl (okT d)) (its_of (f := var 3) (S := S) (d := .tup xs) rfl (by rw [List.map_id']; rfl)) (fun d hd => ⟨_, rfl, okt_of (hx d hd) S⟩) (by omega)
    exact z
  exact not_of (tru_ofE (op1_of l (all_map okT xs)) rfl)
theorem v_times_bad {xs : List D} (hx : ∀ x ∈ xs, Arg x) (h : xs.length = ws.length) (ha : xs.all okT = false) (S : DS) : m_accept_times [.tup (natL ws), nD s, nD u, .tup xs] S = resW .form S := by
  rw [e_accept_times, b_accept_times]
  have t := tim_len (ws := ws) (s := s) (u := u) (xs := xs) (S := S)
  rw [decide_eq_true h] at t
  have a := tim_all (ws := ws) (s := s) (u := u) hx (by have := w.n2; omega) (S := S)
  rw [ha] at a
  exact body_er ((tim_pre w hs u1 u2).trans ((seq_nx (if_f t)).trans (seq_er ((if_t a).trans (raise_of rfl)))))
theorem v_times_nat {ts : List Nat} (hx : ∀ x ∈ ts, 1 ≤ x ∧ x ≤ 1000000) (h : ts.length = ws.length) (S : DS) : m_accept_times [.tup (natL ws), nD s, nD u, .tup (natL ts)] S = resW (timN ws s u ts) S := by
  have n2 := w.n2
  rw [e_accept_times, b_accept_times]
  have t := tim_len (ws := ws) (s := s) (u := u) (xs := natL ts) (S := S)
  rw [natL_len, decide_eq_true h] at t
  have a := tim_all (ws := ws) (s := s) (u := u) (xs := natL ts) (fun x hx => by
    obtain ⟨n, _, rfl⟩ := List.mem_map.mp hx
    exact trivial) (by rw [natL_len]; omega) (S := S)
  have al : (natL ts).all okT = true := List.all_eq_true.mpr fun x hx' => by
    obtain ⟨n, hn, rfl⟩ := List.mem_map.mp hx'
    show decide (1 ≤ (n : Int)) = true
    have := hx n hn
    exact decide_eq_true (by omega)
  rw [al] at a
  have l : lcE (itZpX (var 0) (var 3)) (tgT [(tgN 4), (tgN 5)]) (valB (op2 dGt (op1 dAbs (op2 dSub (var 4) (op2 dMulX (var 5) (var 2)))) (var 1))) (cst (.int 1)) [4, 5] [.vl (.tup (natL ws)), .vl (nD s), .vl (nD u), .vl (.tup (natL ts)), .no, .no] S = .ok (.lst (((List.range ws.length).filter fun k => decide (s < ab (ws.getD k 0) (ts.getD k 0 * u))).map fun _ => .int 1)) S :=
    lcN (fun k => .tup [nD (ws.getD k 0), nD (ts.getD k 0)]) (fun _ => .int 1) (fun k => decide (s < ab (ws.getD k 0) (ts.getD k 0 * u))) (by
      rw [← zip_nat ws ts h]
      rfl) (fun k hk => by
      have hk := List.mem_range.mp hk
      have tk : ts.getD k 0 ≤ 1000000 := by
        rw [List.getD_eq_getElem?_getD, List.getElem?_eq_getElem (by omega)]
        exact (hx _ (List.getElem_mem (by omega))).2
      exact ⟨_, rfl, val_of (op2_of (gap_of (w := ws.getD k 0) (t := ts.getD k 0) (u := u) rfl rfl rfl (by omega) (by omega)) (d2 := nD s) rfl (gtN _ _)), fun _ => rfl⟩) (by rw [List.length_range]; omega)
  have tb := tru_ofE (k := !((List.range ws.length).filter fun k => decide (s < ab (ws.getD k 0) (ts.getD k 0 * u))).isEmpty) l (by
    show some (!(((List.range ws.length).filter fun k => decide (s < ab (ws.getD k 0) (ts.getD k 0 * u))).map fun _ => D.int 1).isEmpty) = _
    rw [emp_map])
  rw [emp_filter] at tb
  unfold timN
  cases e : (List.range ws.length).all fun k => !decide (s < ab (ws.getD k 0) (ts.getD k 0 * u)) with
  | true =>
    rw [e] at tb
    rw [if_pos rfl]
    exact body_nx ((tim_pre w hs u1 u2).trans ((seq_nx (if_f t)).trans ((seq_nx (if_f a)).trans (if_f tb))))
  | false =>
    rw [e] at tb
    rw [if_neg Bool.false_ne_true]
    exact body_er ((tim_pre w hs u1 u2).trans ((seq_nx (if_f t)).trans ((seq_nx (if_f a)).trans ((if_t tb).trans (raise_of rfl)))))
end
end Hk19
namespace Hk19
open PySem Mini
open L2 (atI ixN atI_nat kitB Key)
/-! ## accept_none -/
def r3 (r : Rw) : List D := [nD r.1, nD r.2.1, nD r.2.2]
theorem lcL2_gen {α : Type} {t : TGd} {it1 : FI} {t1 : TGd} {test1 : FB} {elt : FE} {vs1 : List Nat} {ρ : En} {S : DS} (f : α → D) (G : α → List D) (M : Nat) : ∀ (ds : List α) (acc : List D), (∀ d ∈ ds, ∃ ρ1 ds1, t (f d) ρ = some ρ1 ∧ it1 ρ1 S = .ok ds1 S ∧ (G d).length ≤ M ∧ ∀ acc, acc.length ≤ 1000000 → lcL t1 test1 elt ds1 acc (wipeR ρ1 vs1) S = .ok (acc ++ G d) S) → acc.length + ds.length * M ≤ 1000000 →
    lcL2 t yesB it1 t1 test1 elt vs1 (ds.map f) acc ρ S = .ok (acc ++ ds.flatMap G) S
  | [], acc, _, _ => by simp [lcL2, rt]
  | d :: ds, acc, h, hl => by
    obtain ⟨ρ1, ds1, e1, e2, e3, e4⟩ := h d List.mem_cons_self
    rw [List.length_cons, Nat.succ_mul] at hl
    have ih := lcL2_gen f G M ds (acc ++ G d) (fun x hx => h x (List.mem_cons_of_mem _ hx)) (by rw [List.length_append]; omega)
    have q := e4 acc (by omega)
    rw [List.map_cons, lcL2]
    simp only [bd, e1, lift, rt, yesB, noEr, if_true, e2, q, ih]
    rw [List.flatMap_cons, List.append_assoc]
theorem lc2_of {it : FI} {t : TGd} {test : FB} {it1 : FI} {t1 : TGd} {test1 : FB} {elt : FE} {vs vs1 : List Nat} {ρ : En} {S S1 S2 : DS} {ds r : List D} (h1 : it ρ S = .ok ds S1) (h2 : lcL2 t test it1 t1 test1 elt vs1 ds [] (wipeR ρ vs) S1 = .ok r S2) : lc2E it t test it1 t1 test1 elt vs vs1 ρ S = .ok (.lst r) S2 := by
  unfold lc2E bd
  rw [h1]
  show bd (lcL2 t test it1 t1 test1 elt vs1 ds [] (wipeR ρ vs)) (fun r => rt (D.lst r)) S1 = _
  unfold bd
  rw [h2]
  rfl
theorem flat_map (g : D → D) : ∀ rows : List (List D), (rows.flatMap fun xs => xs.map g) = rows.flatten.map g
  | [] => rfl
  | x :: xs => by rw [List.flatMap_cons, flat_map g xs, List.flatten_cons, List.map_append]
theorem runOk_bnd : ∀ (rs : List Rw) (b e : Nat), runOk b rs = some e → b ≤ e ∧ ∀ r ∈ rs, b ≤ r.2.1 ∧ r.2.1 ≤ r.2.2 ∧ r.2.2 < e
  | [], b, e, h => by
    cases h
    exact ⟨Nat.le_refl _, fun r hr => by cases hr⟩
  | q :: rs, b, e, h => by
    rw [runOk] at h
    by_cases c : q.2.1 = b ∧ b ≤ q.2.2
    · rw [if_pos c] at h
      obtain ⟨i1, i2⟩ := runOk_bnd rs _ e h
      refine ⟨by omega, fun r hr => ?_⟩
      rcases List.mem_cons.mp hr with z | z
      · subst z
        omega
      · have := i2 r z
        omega
    · rw [if_neg c] at h
      cases h
abbrev aEn (d : D) (s low high : Nat) (T : D) (b x y z o t r : Slot) : En := [.vl d, .vl (nD s), .vl (nD low), .vl (nD high), .vl T, b, x, y, z, o, t, r]
section
variable {d : D} {ws : List Nat} (W : WD d ws) (w : Wt ws) {s low high : Nat} (hs : s ≤ 100000) (g : Rg ws low high) (c : (high - low + 1) * ws.length ≤ 20000)
include W w hs g c
theorem none_pre {rows : List (List D)} (h3 : ∀ x ∈ rows, x.length = 3) (hl : rows.length ≤ 1000) {r : FS} {S : DS} : seqS (exprS (callE m_check_range (consA (var 0) (consA (var 1) (consA (var 2) (consA (var 3) nilA)))))) (seqS (ifS (orB (notB (truB (op1 (isiD "tuple") (var 4)))) (notB (truB (op1 dAll (lcE (itS (var 4)) (tgN 11) yesB (andE (op1 (isiD "tuple") (var 11)) (op2 dEq (op1 dLen (var 11)) (cst (.int 3)))) [11]))))) (raiseS 2 (cst (.str "form"))) skipS) r) (aEn d s low high (.tup (rows.map .tup)) .no .no .no .no .no .no .no) S = r (aEn d s low high (.tup (rows.map .tup)) .no .no .no .no .no .no .no) S := by
  have z := v_range W w hs g S
  rw [if_pos c] at z
  refine (seq_nx (expr_of (callA_of (a4_of rfl rfl rfl rfl) z))).trans (seq_nx (if_f ?_))
  have b0 : truB (op1 (isiD "tuple") (var 4)) (aEn d s low high (.tup (rows.map .tup)) .no .no .no .no .no .no .no) S = .ok true S := tru_ofE (op1_of (d := .tup (rows.map .tup)) rfl kit_tt) rfl
  have l : lcE (itS (var 4)) (tgN 11) yesB (andE (op1 (isiD "tuple") (var 11)) (op2 dEq (op1 dLen (var 11)) (cst (.int 3)))) [11] (aEn d s low high (.tup (rows.map .tup)) .no .no .no .no .no .no .no) S = .ok (.lst (rows.map fun _ => .bl true)) S :=
    lcA D.tup (fun _ => .bl true) (its_of (d := .tup (rows.map .tup)) rfl rfl) (fun x hx => ⟨_, rfl, (andE_t (op1_of (d := .tup x) rfl kit_tt)).trans (op2_of (op1_of (d := .tup x) rfl rfl) rfl (by
      rw [h3 x hx]
      exact eqN 3 3))⟩) (by omega)
  have a := tru_ofE (op1_of l (all_map (fun _ => true) rows)) rfl
  have t : (rows.all fun _ => true) = true := List.all_eq_true.mpr fun _ _ => rfl
  rw [t] at a
  exact (or_f (not_of b0)).trans (not_of a)
omit W w hs g c in
theorem none_ints {rows : List (List D)} (h3 : ∀ x ∈ rows, x.length = 3) (ha : ∀ x ∈ rows, ∀ y ∈ x, Arg y) (hl : rows.length ≤ 1000) {S : DS} : notB (truB (op1 dAll (lc2E (itS (var 4)) (tgN 11) yesB (itS (var 11)) (tgN 9) yesB (callE m_is_integer (consA (var 9) nilA)) [11, 9] [9]))) (aEn d s low high (.tup (rows.map .tup)) .no .no .no .no .no .no .no) S = .ok (!rows.flatten.all isI) S := by
  have l2 := lcL2_gen (t := tgN 11) (it1 := itS (var 11)) (t1 := tgN 9) (test1 := yesB) (elt := callE m_is_integer (consA (var 9) nilA)) (vs1 := [9]) (ρ := aEn d s low high (.tup (rows.map .tup)) .no .no .no .no .no .no .no) (S := S) D.tup (fun xs => xs.map fun x => .bl (isI x)) 3 rows [] (fun xs hx => ⟨aEn d s low high (.tup (rows.map .tup)) .no .no .no .no .no .no (.vl (.tup xs)), xs, rfl, rfl, by
    rw [List.length_map, h3 xs hx]
    exact Nat.le_refl _, fun acc hacc => by
      have z := lcL_nat (t := tgN 9) (test := yesB) (elt := callE m_is_integer (consA (var 9) nilA)) (ρ := wipeR (aEn d s low high (.tup (rows.map .tup)) .no .no .no .no .no .no (.vl (.tup xs))) [9]) (S := S) (f := fun d => d) (g := fun x => .bl (isI x)) (p := fun _ => true) xs acc (fun y hy => ⟨_, rfl, rfl, fun _ => call1_of (d := y) rfl (g_is_integer (ha xs hx y hy) S)⟩) (by rw [h3 xs hx]; omega)
      rw [List.map_id', List.filter_eq_self.mpr (fun _ _ => rfl)] at z
      exact z⟩) (by show 0 + rows.length * 3 ≤ _; omega)
  rw [List.nil_append, flat_map] at l2
  have l := lc2_of (it := itS (var 4)) (vs := [11, 9]) (ρ := aEn d s low high (.tup (rows.map .tup)) .no .no .no .no .no .no .no) (S := S) (ds := rows.map .tup) rfl l2
  exact not_of (tru_ofE (op1_of l (all_map isI rows.flatten)) rfl)
theorem v_none_bad {rows : List (List D)} (h3 : ∀ x ∈ rows, x.length = 3) (ha : ∀ x ∈ rows, ∀ y ∈ x, Arg y) (hl : rows.length ≤ 1000) (hb : rows.flatten.all isI = false) (S : DS) : m_accept_none [d, nD s, nD low, nD high, .tup (rows.map .tup)] S = resW .form S := by
  rw [e_accept_none, b_accept_none]
  have t := none_ints (d := d) (s := s) (low := low) (high := high) h3 ha hl (S := S)
  rw [hb] at t
  exact body_er ((none_pre W w hs g c h3 hl).trans (seq_er ((if_t t).trans (raise_of rfl))))
omit w hs g c in
theorem none_at {rs : List Rw} (hl : rs.length ≤ 1000) {S : DS} : truB (lcE (itS (var 4)) (tgT [(tgN 6), (tgN 7), (tgN 8)]) (notB (valB (chn2 dLe dLt (cst (.int 0)) (var 6) (op1 dLen (var 0))))) (var 6) [6, 7, 8]) (aEn d s low high (.tup (rs.map rD)) .no .no .no .no .no .no .no) S = .ok (!(rs.all fun r => decide (r.1 < ws.length))) S := by
  have l : lcE (itS (var 4)) (tgT [(tgN 6), (tgN 7), (tgN 8)]) (notB (valB (chn2 dLe dLt (cst (.int 0)) (var 6) (op1 dLen (var 0))))) (var 6) [6, 7, 8] (aEn d s low high (.tup (rs.map rD)) .no .no .no .no .no .no .no) S = .ok (.lst ((rs.filter fun r => !decide (r.1 < ws.length)).map fun r => nD r.1)) S :=
    lcN rD (fun r => nD r.1) (fun r => !decide (r.1 < ws.length)) (its_of (d := .tup (rs.map rD)) rfl rfl) (fun r hr => ⟨aEn d s low high (.tup (rs.map rD)) .no (.vl (nD r.1)) (.vl (nD r.2.1)) (.vl (nD r.2.2)) .no .no .no, rfl, by
      refine not_of (val_of ?_)
      have h1 : (0 : Int) ≤ ((r.1 : Nat) : Int) := by omega
      have e : decide (((r.1 : Nat) : Int) < (ws.length : Int)) = decide (r.1 < ws.length) := decide_eq_decide.mpr (by omega)
      have vi : var 6 (aEn d s low high (.tup (rs.map rD)) .no (.vl (nD r.1)) (.vl (nD r.2.1)) (.vl (nD r.2.2)) .no .no .no) S = .ok (.int ((r.1 : Nat) : Int)) S := rfl
      have ln : op1 dLen (var 0) (aEn d s low high (.tup (rs.map rD)) .no (.vl (nD r.1)) (.vl (nD r.2.1)) (.vl (nD r.2.2)) .no .no .no) S = .ok (.int (ws.length : Int)) S := op1_of (d := d) rfl W.ln
      rw [← e]
      simp only [chn2, bd, cst, rt, vi, ln, dLe, dLt, decide_eq_true h1, lift, Bool.true_and], fun _ => rfl⟩) (by omega)
  have t := tru_ofE (k := !(rs.filter fun r => !decide (r.1 < ws.length)).isEmpty) l (by
    show some (!((rs.filter fun r => !decide (r.1 < ws.length)).map fun r => nD r.1).isEmpty) = _
    rw [emp_map])
  rw [emp_filter] at t
  simp only [Bool.not_not] at t
  exact t
omit W w hs g c in
theorem run_loop {T : D} {S : DS} : ∀ (rs : List Rw) (b : Nat) (x y z : Slot),
    (∀ e, runOk b rs = some e → ∃ x' y' z', forL (tgT [(tgN 6), (tgN 7), (tgN 8)]) (seqS (ifS (orB (valB (op2 dNe (var 7) (var 5))) (valB (op2 dLt (var 8) (var 7)))) (raiseS 2 (cst (.str "run"))) skipS) (asgS 5 (op2 dAdd (var 8) (cst (.int 1))))) (rs.map rD) (aEn d s low high T (.vl (nD b)) x y z .no .no .no) S = .ok (.nx (aEn d s low high T (.vl (nD e)) x' y' z' .no .no .no)) S) ∧
    (runOk b rs = none → forL (tgT [(tgN 6), (tgN 7), (tgN 8)]) (seqS (ifS (orB (valB (op2 dNe (var 7) (var 5))) (valB (op2 dLt (var 8) (var 7)))) (raiseS 2 (cst (.str "run"))) skipS) (asgS 5 (op2 dAdd (var 8) (cst (.int 1))))) (rs.map rD) (aEn d s low high T (.vl (nD b)) x y z .no .no .no) S = .er 2 (.str "run") S)
  | [], b, x, y, z => ⟨fun e h => by
      cases h
      exact ⟨x, y, z, rfl⟩, fun h => by cases h⟩
  | r :: rs, b, x, y, z => by
    have e1 : tgT [(tgN 6), (tgN 7), (tgN 8)] (rD r) (aEn d s low high T (.vl (nD b)) x y z .no .no .no) = some (aEn d s low high T (.vl (nD b)) (.vl (nD r.1)) (.vl (nD r.2.1)) (.vl (nD r.2.2)) .no .no .no) := rfl
    have t1 : valB (op2 dNe (var 7) (var 5)) (aEn d s low high T (.vl (nD b)) (.vl (nD r.1)) (.vl (nD r.2.1)) (.vl (nD r.2.2)) .no .no .no) S = .ok (!decide (r.2.1 = b)) S := val_of (op2_of (d1 := nD r.2.1) (d2 := nD b) rfl rfl (ne_nat _ _))
    have t2 : valB (op2 dLt (var 8) (var 7)) (aEn d s low high T (.vl (nD b)) (.vl (nD r.1)) (.vl (nD r.2.1)) (.vl (nD r.2.2)) .no .no .no) S = .ok (decide (r.2.2 < r.2.1)) S := val_of (op2_of (d1 := nD r.2.2) (d2 := nD r.2.1) rfl rfl (ltN _ _))
    rw [List.map_cons, runOk]
    by_cases cc : r.2.1 = b ∧ b ≤ r.2.2
    · rw [if_pos cc]
      rw [decide_eq_true cc.1] at t1
      rw [decide_eq_false (by omega)] at t2
      have bb : (seqS (ifS (orB (valB (op2 dNe (var 7) (var 5))) (valB (op2 dLt (var 8) (var 7)))) (raiseS 2 (cst (.str "run"))) skipS) (asgS 5 (op2 dAdd (var 8) (cst (.int 1))))) (aEn d s low high T (.vl (nD b)) (.vl (nD r.1)) (.vl (nD r.2.1)) (.vl (nD r.2.2)) .no .no .no) S = .ok (.nx (aEn d s low high T (.vl (nD (r.2.2 + 1))) (.vl (nD r.1)) (.vl (nD r.2.1)) (.vl (nD r.2.2)) .no .no .no)) S :=
        (seq_nx (if_f ((or_f t1).trans t2))).trans (asg_of (op2_of (d1 := nD r.2.2) (d2 := nD 1) rfl rfl (addN _ 1)))
      obtain ⟨i1, i2⟩ := run_loop rs (r.2.2 + 1) (.vl (nD r.1)) (.vl (nD r.2.1)) (.vl (nD r.2.2))
      have st : forL (tgT [(tgN 6), (tgN 7), (tgN 8)]) (seqS (ifS (orB (valB (op2 dNe (var 7) (var 5))) (valB (op2 dLt (var 8) (var 7)))) (raiseS 2 (cst (.str "run"))) skipS) (asgS 5 (op2 dAdd (var 8) (cst (.int 1))))) (rD r :: rs.map rD) (aEn d s low high T (.vl (nD b)) x y z .no .no .no) S = forL (tgT [(tgN 6), (tgN 7), (tgN 8)]) (seqS (ifS (orB (valB (op2 dNe (var 7) (var 5))) (valB (op2 dLt (var 8) (var 7)))) (raiseS 2 (cst (.str "run"))) skipS) (asgS 5 (op2 dAdd (var 8) (cst (.int 1))))) (rs.map rD) (aEn d s low high T (.vl (nD (r.2.2 + 1))) (.vl (nD r.1)) (.vl (nD r.2.1)) (.vl (nD r.2.2)) .no .no .no) S := by
        rw [forL]
        simp only [bd, e1, lift, rt, bb]
      rw [st]
      exact ⟨i1, i2⟩
    · rw [if_neg cc]
      have bb : (seqS (ifS (orB (valB (op2 dNe (var 7) (var 5))) (valB (op2 dLt (var 8) (var 7)))) (raiseS 2 (cst (.str "run"))) skipS) (asgS 5 (op2 dAdd (var 8) (cst (.int 1))))) (aEn d s low high T (.vl (nD b)) (.vl (nD r.1)) (.vl (nD r.2.1)) (.vl (nD r.2.2)) .no .no .no) S = .er 2 (.str "run") S := by
        by_cases c1 : r.2.1 = b
        · rw [decide_eq_true c1] at t1
          rw [decide_eq_true (by omega)] at t2
          exact seq_er ((if_t ((or_f t1).trans t2)).trans (raise_of rfl))
        · rw [decide_eq_false c1] at t1
          exact seq_er ((if_t (or_t t1)).trans (raise_of rfl))
      refine ⟨fun e h => (by cases h), fun _ => ?_⟩
      rw [forL]
      simp only [bd, e1, lift, rt, bb]
omit hs g c in
theorem off_loop {T : D} {b : Slot} {S : DS} : ∀ (rs : List Rw) (x y z o t : Slot), (∀ r ∈ rs, r.1 < ws.length ∧ 1 ≤ r.2.1 ∧ r.2.1 ≤ 1000000 ∧ 1 ≤ r.2.2 ∧ r.2.2 ≤ 1000000) →
    (rs.all (rwOff ws s) = true → ∃ ρ', forL (tgT [(tgN 6), (tgN 7), (tgN 8)]) (seqS (asgS 9 (op2 dIxA (var 0) (var 6))) (seqS (asgS 10 (op2 dDiv (var 9) (var 8))) (ifS (orB (andB (valB (op2 dGt (var 10) (cst (.int 0)))) (valB (op2 dLe (op2 dSub (var 9) (op2 dMulX (var 10) (var 8))) (var 1)))) (valB (op2 dLe (op2 dSub (op2 dMulX (op2 dAdd (var 10) (cst (.int 1))) (var 7)) (var 9)) (var 1)))) (raiseS 2 (cst (.str "off"))) skipS))) (rs.map rD) (aEn d s low high T b x y z o t .no) S = .ok (.nx ρ') S) ∧
    (rs.all (rwOff ws s) = false → forL (tgT [(tgN 6), (tgN 7), (tgN 8)]) (seqS (asgS 9 (op2 dIxA (var 0) (var 6))) (seqS (asgS 10 (op2 dDiv (var 9) (var 8))) (ifS (orB (andB (valB (op2 dGt (var 10) (cst (.int 0)))) (valB (op2 dLe (op2 dSub (var 9) (op2 dMulX (var 10) (var 8))) (var 1)))) (valB (op2 dLe (op2 dSub (op2 dMulX (op2 dAdd (var 10) (cst (.int 1))) (var 7)) (var 9)) (var 1)))) (raiseS 2 (cst (.str "off"))) skipS))) (rs.map rD) (aEn d s low high T b x y z o t .no) S = .er 2 (.str "off") S)
  | [], x, y, z, o, t, _ => ⟨fun _ => ⟨_, rfl⟩, fun h => by cases h⟩
  | r :: rs, x, y, z, o, t, h => by
    obtain ⟨h1, h2, h3, h4, h5⟩ := h r List.mem_cons_self
    obtain ⟨g1, g2⟩ := w.g h1
    have ih := fun o t => off_loop (T := T) (b := b) (S := S) rs (.vl (nD r.1)) (.vl (nD r.2.1)) (.vl (nD r.2.2)) o t (fun q hq => h q (List.mem_cons_of_mem _ hq))
    have e1 : tgT [(tgN 6), (tgN 7), (tgN 8)] (rD r) (aEn d s low high T b x y z o t .no) = some (aEn d s low high T b (.vl (nD r.1)) (.vl (nD r.2.1)) (.vl (nD r.2.2)) o t .no) := rfl
    have a1 : (asgS 9 (op2 dIxA (var 0) (var 6))) (aEn d s low high T b (.vl (nD r.1)) (.vl (nD r.2.1)) (.vl (nD r.2.2)) o t .no) S = .ok (.nx (aEn d s low high T b (.vl (nD r.1)) (.vl (nD r.2.1)) (.vl (nD r.2.2)) (.vl (nD (ws.getD r.1 0))) t .no)) S := asg_of (op2_of (d1 := d) (d2 := nD r.1) rfl rfl (W.ix _ h1))
    have ef : rwOff ws s r = isOff (ws.getD r.1 0) s r.2.1 r.2.2 := rfl
    generalize ws.getD r.1 0 = v at *
    have dl : v / r.2.2 ≤ 100000 := Nat.le_trans (Nat.div_le_self _ _) g2
    have dm := Nat.div_mul_le_self v r.2.2
    have a2 : (asgS 10 (op2 dDiv (var 9) (var 8))) (aEn d s low high T b (.vl (nD r.1)) (.vl (nD r.2.1)) (.vl (nD r.2.2)) (.vl (nD v)) t .no) S = .ok (.nx (aEn d s low high T b (.vl (nD r.1)) (.vl (nD r.2.1)) (.vl (nD r.2.2)) (.vl (nD v)) (.vl (nD (v / r.2.2))) .no)) S := asg_of (op2_of (d1 := nD v) (d2 := nD r.2.2) rfl rfl (div_n (by omega) (by omega)))
    have T1 : valB (op2 dGt (var 10) (cst (.int 0))) (aEn d s low high T b (.vl (nD r.1)) (.vl (nD r.2.1)) (.vl (nD r.2.2)) (.vl (nD v)) (.vl (nD (v / r.2.2))) .no) S = .ok (decide (0 < v / r.2.2)) S := val_of (op2_of (d1 := nD (v / r.2.2)) (d2 := nD 0) rfl rfl (gtN _ _))
    have T2 : valB (op2 dLe (op2 dSub (var 9) (op2 dMulX (var 10) (var 8))) (var 1)) (aEn d s low high T b (.vl (nD r.1)) (.vl (nD r.2.1)) (.vl (nD r.2.2)) (.vl (nD v)) (.vl (nD (v / r.2.2))) .no) S = .ok (decide (v - v / r.2.2 * r.2.2 ≤ s)) S := val_of (op2_of (op2_of (d1 := nD v) rfl (op2_of (d1 := nD (v / r.2.2)) (d2 := nD r.2.2) rfl rfl (mul_ok (by omega) (by omega))) (subN dm)) (d2 := nD s) rfl (leN _ _))
    have T3 : valB (op2 dLe (op2 dSub (op2 dMulX (op2 dAdd (var 10) (cst (.int 1))) (var 7)) (var 9)) (var 1)) (aEn d s low high T b (.vl (nD r.1)) (.vl (nD r.2.1)) (.vl (nD r.2.2)) (.vl (nD v)) (.vl (nD (v / r.2.2))) .no) S = .ok (decide ((v / r.2.2 + 1) * r.2.1 ≤ s + v)) S := by
      refine val_of (op2_of (d1 := .int ((((v / r.2.2 + 1) * r.2.1 : Nat) : Int) - (v : Int))) (d2 := nD s) (op2_of (op2_of (op2_of (d1 := nD (v / r.2.2)) (d2 := nD 1) rfl rfl (addN _ 1)) (d2 := nD r.2.1) rfl (mul_ok (by omega) (by omega))) (d2 := nD v) rfl rfl) rfl ?_)
      show some (D.bl (decide ((((v / r.2.2 + 1) * r.2.1 : Nat) : Int) - (v : Int) ≤ (s : Int)))) = _
      generalize (v / r.2.2 + 1) * r.2.1 = m
      congr 2
      exact decide_eq_decide.mpr (by omega)
    have TT : (orB (andB (valB (op2 dGt (var 10) (cst (.int 0)))) (valB (op2 dLe (op2 dSub (var 9) (op2 dMulX (var 10) (var 8))) (var 1)))) (valB (op2 dLe (op2 dSub (op2 dMulX (op2 dAdd (var 10) (cst (.int 1))) (var 7)) (var 9)) (var 1)))) (aEn d s low high T b (.vl (nD r.1)) (.vl (nD r.2.1)) (.vl (nD r.2.2)) (.vl (nD v)) (.vl (nD (v / r.2.2))) .no) S = .ok (!isOff v s r.2.1 r.2.2) S := by
      unfold isOff
      generalize v / r.2.2 * r.2.2 = m at *
      generalize (v / r.2.2 + 1) * r.2.1 = m2 at *
      generalize v / r.2.2 = k at *
      have L3 : decide (m2 ≤ s + v) = !decide (s + v < m2) := by
        rw [← decide_not]
        exact decide_eq_decide.mpr (by omega)
      rw [L3] at T3
      by_cases c0 : k = 0
      · rw [decide_eq_false (by omega)] at T1
        rw [decide_eq_true c0, Bool.true_or, Bool.true_and]
        exact (or_f (and_f T1)).trans T3
      · rw [decide_eq_true (by omega)] at T1
        rw [decide_eq_false c0, Bool.false_or]
        by_cases c1 : v - m ≤ s
        · rw [decide_eq_true c1] at T2
          rw [decide_eq_false (by omega), Bool.false_and]
          exact or_t ((and_t T1).trans T2)
        · rw [decide_eq_false c1] at T2
          rw [decide_eq_true (by omega), Bool.true_and]
          exact (or_f ((and_t T1).trans T2)).trans T3
    rw [List.map_cons, List.all_cons, ef]
    cases e : isOff v s r.2.1 r.2.2 with
    | true =>
      rw [e] at TT
      rw [Bool.true_and]
      have bb : (seqS (asgS 9 (op2 dIxA (var 0) (var 6))) (seqS (asgS 10 (op2 dDiv (var 9) (var 8))) (ifS (orB (andB (valB (op2 dGt (var 10) (cst (.int 0)))) (valB (op2 dLe (op2 dSub (var 9) (op2 dMulX (var 10) (var 8))) (var 1)))) (valB (op2 dLe (op2 dSub (op2 dMulX (op2 dAdd (var 10) (cst (.int 1))) (var 7)) (var 9)) (var 1)))) (raiseS 2 (cst (.str "off"))) skipS))) (aEn d s low high T b (.vl (nD r.1)) (.vl (nD r.2.1)) (.vl (nD r.2.2)) o t .no) S = .ok (.nx (aEn d s low high T b (.vl (nD r.1)) (.vl (nD r.2.1)) (.vl (nD r.2.2)) (.vl (nD v)) (.vl (nD (v / r.2.2))) .no)) S := (seq_nx a1).trans ((seq_nx a2).trans (if_f TT))
      obtain ⟨i1, i2⟩ := ih (.vl (nD v)) (.vl (nD (v / r.2.2)))
      have st : forL (tgT [(tgN 6), (tgN 7), (tgN 8)]) (seqS (asgS 9 (op2 dIxA (var 0) (var 6))) (seqS (asgS 10 (op2 dDiv (var 9) (var 8))) (ifS (orB (andB (valB (op2 dGt (var 10) (cst (.int 0)))) (valB (op2 dLe (op2 dSub (var 9) (op2 dMulX (var 10) (var 8))) (var 1)))) (valB (op2 dLe (op2 dSub (op2 dMulX (op2 dAdd (var 10) (cst (.int 1))) (var 7)) (var 9)) (var 1)))) (raiseS 2 (cst (.str "off"))) skipS))) (rD r :: rs.map rD) (aEn d s low high T b x y z o t .no) S = forL (tgT [(tgN 6), (tgN 7), (tgN 8)]) (seqS (asgS 9 (op2 dIxA (var 0) (var 6))) (seqS (asgS 10 (op2 dDiv (var 9) (var 8))) (ifS (orB (andB (valB (op2 dGt (var 10) (cst (.int 0)))) (valB (op2 dLe (op2 dSub (var 9) (op2 dMulX (var 10) (var 8))) (var 1)))) (valB (op2 dLe (op2 dSub (op2 dMulX (op2 dAdd (var 10) (cst (.int 1))) (var 7)) (var 9)) (var 1)))) (raiseS 2 (cst (.str "off"))) skipS))) (rs.map rD) (aEn d s low high T b (.vl (nD r.1)) (.vl (nD r.2.1)) (.vl (nD r.2.2)) (.vl (nD v)) (.vl (nD (v / r.2.2))) .no) S := by
        rw [forL]
        simp only [bd, e1, lift, rt, bb]
      rw [st]
      exact ⟨i1, i2⟩
    | false =>
      rw [e] at TT
      rw [Bool.false_and]
      have bb : (seqS (asgS 9 (op2 dIxA (var 0) (var 6))) (seqS (asgS 10 (op2 dDiv (var 9) (var 8))) (ifS (orB (andB (valB (op2 dGt (var 10) (cst (.int 0)))) (valB (op2 dLe (op2 dSub (var 9) (op2 dMulX (var 10) (var 8))) (var 1)))) (valB (op2 dLe (op2 dSub (op2 dMulX (op2 dAdd (var 10) (cst (.int 1))) (var 7)) (var 9)) (var 1)))) (raiseS 2 (cst (.str "off"))) skipS))) (aEn d s low high T b (.vl (nD r.1)) (.vl (nD r.2.1)) (.vl (nD r.2.2)) o t .no) S = .er 2 (.str "off") S := (seq_nx a1).trans ((seq_nx a2).trans ((if_t TT).trans (raise_of rfl)))
      refine ⟨fun z => (by cases z), fun _ => ?_⟩
      rw [forL]
      simp only [bd, e1, lift, rt, bb]
theorem v_none_nat {rs : List Rw} (hl : rs.length ≤ 1000) (S : DS) : m_accept_none [d, nD s, nD low, nD high, .tup (rs.map rD)] S = resW (accN ws s low high rs) S := by
  have g1 := g.l1; have g2 := g.lh; have g3 := g.h2
  rw [e_accept_none, b_accept_none]
  have em : (rs.map r3).map D.tup = rs.map rD := by
    rw [List.map_map]
    rfl
  have h3 : ∀ x ∈ rs.map r3, x.length = 3 := fun x hx => by
    obtain ⟨r, _, rfl⟩ := List.mem_map.mp hx
    rfl
  have pre := fun (r : FS) => none_pre W w hs g c (rows := rs.map r3) h3 (by rw [List.length_map]; exact hl) (r := r) (S := S)
  have ti := none_ints (d := d) (s := s) (low := low) (high := high) (rows := rs.map r3) h3 (fun x hx y hy => by
    obtain ⟨r, _, rfl⟩ := List.mem_map.mp hx
    simp only [r3, List.mem_cons, List.not_mem_nil, or_false] at hy
    rcases hy with rfl | rfl | rfl <;> exact trivial) (by rw [List.length_map]; exact hl) (S := S)
  have al : (rs.map r3).flatten.all isI = true := List.all_eq_true.mpr fun y hy => by
    obtain ⟨x, hx, hy⟩ := List.mem_flatten.mp hy
    obtain ⟨r, _, rfl⟩ := List.mem_map.mp hx
    simp only [r3, List.mem_cons, List.not_mem_nil, or_false] at hy
    rcases hy with rfl | rfl | rfl <;> rfl
  rw [al] at ti
  rw [em] at pre ti
  have a5 : asgS 5 (var 2) (aEn d s low high (.tup (rs.map rD)) .no .no .no .no .no .no .no) S = .ok (.nx (aEn d s low high (.tup (rs.map rD)) (.vl (nD low)) .no .no .no .no .no .no)) S := asg_of (d := nD low) rfl
  have ta := none_at W (s := s) (low := low) (high := high) hl (S := S)
  unfold accN
  by_cases ca : ∀ r ∈ rs, r.1 < ws.length
  · rw [if_pos ca]
    have ca' : (rs.all fun r => decide (r.1 < ws.length)) = true := List.all_eq_true.mpr fun r hr => decide_eq_true (ca r hr)
    rw [ca'] at ta
    obtain ⟨r1, r2⟩ := run_loop (d := d) (s := s) (low := low) (high := high) (T := .tup (rs.map rD)) (S := S) rs low .no .no .no
    cases er : runOk low rs with
    | none =>
      rw [if_neg (by simp)]
      exact body_er ((pre _).trans ((seq_nx (if_f ti)).trans ((seq_nx (if_f ta)).trans ((seq_nx a5).trans (seq_er ((for_of (S1 := S) (ds := rs.map rD) rfl).trans (r2 er)))))))
    | some e =>
      obtain ⟨x, y, z, q⟩ := r1 e er
      obtain ⟨_, bd1⟩ := runOk_bnd rs low e er
      have t7 : valB (op2 dNe (var 5) (op2 dAdd (var 3) (cst (.int 1)))) (aEn d s low high (.tup (rs.map rD)) (.vl (nD e)) x y z .no .no .no) S = .ok (!decide (e = high + 1)) S := val_of (op2_of (d1 := nD e) (d2 := nD (high + 1)) rfl (op2_of (d1 := nD high) (d2 := nD 1) rfl rfl (addN _ 1)) (ne_nat _ _))
      have go : ∀ {r : FS}, seqS (ifS (notB (truB (op1 dAll (lc2E (itS (var 4)) (tgN 11) yesB (itS (var 11)) (tgN 9) yesB (callE m_is_integer (consA (var 9) nilA)) [11, 9] [9])))) (raiseS 2 (cst (.str "form"))) skipS) (seqS (ifS (truB (lcE (itS (var 4)) (tgT [(tgN 6), (tgN 7), (tgN 8)]) (notB (valB (chn2 dLe dLt (cst (.int 0)) (var 6) (op1 dLen (var 0))))) (var 6) [6, 7, 8])) (raiseS 2 (cst (.str "form"))) skipS) (seqS (asgS 5 (var 2)) (seqS (forS (itS (var 4)) (tgT [(tgN 6), (tgN 7), (tgN 8)]) (seqS (ifS (orB (valB (op2 dNe (var 7) (var 5))) (valB (op2 dLt (var 8) (var 7)))) (raiseS 2 (cst (.str "run"))) skipS) (asgS 5 (op2 dAdd (var 8) (cst (.int 1)))))) r))) (aEn d s low high (.tup (rs.map rD)) .no .no .no .no .no .no .no) S = r (aEn d s low high (.tup (rs.map rD)) (.vl (nD e)) x y z .no .no .no) S := fun {r} =>
        (seq_nx (if_f ti)).trans ((seq_nx (if_f ta)).trans ((seq_nx a5).trans (seq_nx ((for_of (S1 := S) (ds := rs.map rD) rfl).trans q))))
      by_cases ce : e = high + 1
      · rw [if_pos (by rw [ce])]
        rw [decide_eq_true ce] at t7
        obtain ⟨o1, o2⟩ := off_loop W w (s := s) (low := low) (high := high) (T := .tup (rs.map rD)) (b := .vl (nD e)) (S := S) rs x y z .no .no (fun r hr => by
          obtain ⟨k1, k2, k3⟩ := bd1 r hr
          exact ⟨ca r hr, by omega, by omega, by omega, by omega⟩)
        cases eo : rs.all (rwOff ws s) with
        | true =>
          obtain ⟨ρ', q'⟩ := o1 eo
          rw [if_pos rfl]
          exact body_nx ((pre _).trans (go.trans ((seq_nx (if_f t7)).trans ((for_of (S1 := S) (ds := rs.map rD) rfl).trans q'))))
        | false =>
          rw [if_neg Bool.false_ne_true]
          exact body_er ((pre _).trans (go.trans ((seq_nx (if_f t7)).trans ((for_of (S1 := S) (ds := rs.map rD) rfl).trans (o2 eo)))))
      · rw [if_neg (by simpa using ce)]
        rw [decide_eq_false ce] at t7
        exact body_er ((pre _).trans (go.trans (seq_er ((if_t t7).trans (raise_of rfl)))))
  · rw [if_neg ca]
    have ca' : (rs.all fun r => decide (r.1 < ws.length)) = false := by
      cases z : rs.all fun r => decide (r.1 < ws.length) with
      | false => rfl
      | true => exact absurd (fun r hr => of_decide_eq_true (List.all_eq_true.mp z r hr)) ca
    rw [ca'] at ta
    exact body_er ((pre _).trans ((seq_nx (if_f ti)).trans (seq_er ((if_t ta).trans (raise_of rfl)))))
end
end Hk19
namespace Hk19
open PySem Mini
open L2 (atI ixN atI_nat kitB Key)
/-! ## the law's own nearest multiple, gap, and what is off -/
theorem orE_t {a b : FE} {ρ : En} {S S1 : DS} (h : a ρ S = .ok (.bl true) S1) : orE a b ρ S = .ok (.bl true) S1 := by
  simp only [orE, bd, h, rt]
theorem orE_f {a b : FE} {ρ : En} {S S1 : DS} (h : a ρ S = .ok (.bl false) S1) : orE a b ρ S = b ρ S1 := by
  simp only [orE, bd, h]
theorem mx_one (x : Int) : dMaxX (.lst [.int 1, .int x]) = some (.int (if x > 1 then x else 1)) := rfl
theorem v__law_near {w u : Nat} (hw : w ≤ 100000) (u1 : 1 ≤ u) (u2 : u ≤ 100000) (S : DS) : m__law_near [nD w, nD u] S = .ok (nD (near w u)) S := by
  rw [e__law_near]
  refine body_rt ?_
  rw [b__law_near]
  have dl : w / u ≤ 100000 := Nat.le_trans (Nat.div_le_self _ _) hw
  have nb := near_bounds w u
  have a2 : op1 dMaxX (lstE (consA (cst (.int 1)) (consA (op2 dSub (op2 dDiv (var 0) (var 1)) (cst (.int 1))) nilA))) [.vl (nD w), .vl (nD u), .no, .no] S = .ok (nD (max 1 (w / u - 1))) S := by
    have e2 : dSub (nD (w / u)) (nD 1) = some (.int (((w / u : Nat) : Int) - 1)) := rfl
    refine op1_of (lst2 rfl (op2_of (d1 := nD (w / u)) (d2 := nD 1) (op2_of rfl rfl (div_n u1 (by omega))) rfl e2)) ?_
    rw [mx_one]
    unfold nD
    congr 2
    split <;> omega
  refine (seq_nx (asg_of a2)).trans ?_
  generalize hl : max 1 (w / u - 1) = low at *
  have l : lcE (itR2 (var 2) (op2 dAdd (var 2) (cst (.int 4)))) (tgN 3) yesB (tupE (consA (op1 dAbs (op2 dSub (var 0) (op2 dMulX (var 3) (var 1)))) (consA (var 3) nilA))) [3] [.vl (nD w), .vl (nD u), .vl (nD low), .no] S = .ok (.lst (((List.range' low (low + 4 - low)).map fun k => (((ab w (k * u) : Nat) : Int), (k : Int))).map pD)) S := by
    have q := lcA (t := tgN 3) (vs := [3]) (ρ := [.vl (nD w), .vl (nD u), .vl (nD low), .no]) (elt := tupE (consA (op1 dAbs (op2 dSub (var 0) (op2 dMulX (var 3) (var 1)))) (consA (var 3) nilA))) nD (fun k => pD (((ab w (k * u) : Nat) : Int), (k : Int))) (rng2 (S := S) (a := var 2) (b := op2 dAdd (var 2) (cst (.int 4))) (lo := low) (hi := low + 4) (by omega) (by omega) rfl (op2_of (d1 := nD low) (d2 := nD 4) rfl rfl (addN _ 4))) (fun k hk => by
      obtain ⟨k1, k2⟩ := List.mem_range'_1.mp hk
      exact ⟨_, rfl, tup2 (gap_of (w := w) (t := k) (u := u) rfl rfl rfl (by omega) (by omega)) rfl⟩) (by rw [List.length_range']; omega)
    rw [q, List.map_map]
    rfl
  obtain ⟨p, hp, e1, e2⟩ := min_pairs (ps := (List.range' low (low + 4 - low)).map fun k => (((ab w (k * u) : Nat) : Int), (k : Int))) (fun z => by
    have := congrArg List.length z
    rw [List.length_map, List.length_range'] at this
    have h0 : ([] : List (Int × Int)).length = 0 := rfl
    omega)
  obtain ⟨k, hk, rfl⟩ := List.mem_map.mp hp
  have hk := List.mem_range'_1.mp hk
  have z := e2 (((ab w (near w u * u) : Nat) : Int), ((near w u : Nat) : Int)) (List.mem_map.mpr ⟨near w u, List.mem_range'_1.mpr ⟨by omega, by omega⟩, rfl⟩)
  have nm := near_min (w := w) u1 (k := k) (by omega)
  have kk : near w u = k := by
    unfold lexLe at z
    unfold gp at nm
    generalize ab w (near w u * u) = x at *
    generalize ab w (k * u) = y at *
    simp only [] at z
    omega
  rw [kk]
  exact ret_of (op2_of (d1 := pD (((ab w (k * u) : Nat) : Int), (k : Int))) (op1_of l e1) rfl rfl)
theorem v__law_gap {w u : Nat} (hw : w ≤ 100000) (u1 : 1 ≤ u) (u2 : u ≤ 100000) (S : DS) : m__law_gap [nD w, nD u] S = .ok (nD (gp w u)) S := by
  rw [e__law_gap]
  refine body_rt ?_
  rw [b__law_gap]
  exact ret_of (gap_of (w := w) (t := near w u) (u := u) rfl (call2_of rfl rfl (v__law_near hw u1 u2 S)) rfl (by have := near_top (u := u) hw; omega) (by omega))
theorem v__law_is_off {w s a b : Nat} (hw : w ≤ 100000) (ha : a ≤ 1000000) (b1 : 1 ≤ b) (b2 : b ≤ 1000000) (S : DS) : m__law_is_off [nD w, nD s, nD a, nD b] S = .ok (.bl (isOff w s a b)) S := by
  rw [e__law_is_off]
  refine body_rt ?_
  rw [b__law_is_off]
  have dl : w / b ≤ 100000 := Nat.le_trans (Nat.div_le_self _ _) hw
  have dm := Nat.div_mul_le_self w b
  refine (seq_nx (asg_of (d := nD (w / b)) (op2_of (d1 := nD w) (d2 := nD b) rfl rfl (div_n b1 (by omega))))).trans (ret_of ?_)
  have T1 : op2 dEq (var 4) (cst (.int 0)) [.vl (nD w), .vl (nD s), .vl (nD a), .vl (nD b), .vl (nD (w / b))] S = .ok (.bl (decide (w / b = 0))) S := op2_of (d1 := nD (w / b)) (d2 := nD 0) rfl rfl (eqN _ _)
  have T2 : op2 dGt (op2 dSub (var 0) (op2 dMulX (var 4) (var 3))) (var 1) [.vl (nD w), .vl (nD s), .vl (nD a), .vl (nD b), .vl (nD (w / b))] S = .ok (.bl (decide (s < w - w / b * b))) S := op2_of (op2_of (d1 := nD w) rfl (op2_of (d1 := nD (w / b)) (d2 := nD b) rfl rfl (mul_ok (by omega) (by omega))) (subN dm)) (d2 := nD s) rfl (gtN _ _)
  have T3 : op2 dGt (op2 dSub (op2 dMulX (op2 dAdd (var 4) (cst (.int 1))) (var 2)) (var 0)) (var 1) [.vl (nD w), .vl (nD s), .vl (nD a), .vl (nD b), .vl (nD (w / b))] S = .ok (.bl (decide (s + w < (w / b + 1) * a))) S := by
    refine op2_of (d1 := .int ((((w / b + 1) * a : Nat) : Int) - (w : Int))) (d2 := nD s) (op2_of (op2_of (op2_of (d1 := nD (w / b)) (d2 := nD 1) rfl rfl (addN _ 1)) (d2 := nD a) rfl (mul_ok (by omega) (by omega))) (d2 := nD w) rfl rfl) rfl ?_
    show some (D.bl (decide ((s : Int) < (((w / b + 1) * a : Nat) : Int) - (w : Int)))) = _
    generalize (w / b + 1) * a = m
    congr 2
    exact decide_eq_decide.mpr (by omega)
  unfold isOff
  cases c0 : decide (w / b = 0) with
  | true =>
    rw [c0] at T1
    rw [Bool.true_or, Bool.true_and]
    exact (andE_t (orE_t T1)).trans T3
  | false =>
    rw [c0] at T1
    rw [Bool.false_or]
    cases c1 : decide (s < w - w / b * b) with
    | true =>
      rw [c1] at T2
      rw [Bool.true_and]
      exact (andE_t ((orE_f T1).trans T2)).trans T3
    | false =>
      rw [c1] at T2
      rw [Bool.false_and]
      exact andE_f ((orE_f T1).trans T2)
/-! ## the law's own rows -/
abbrev lfT : FB := (andB (valB (op2 dLt (var 8) (var 3))) (truB (callE m__law_is_off (consA (op2 dIxA (var 0) (var 7)) (consA (var 1) (consA (var 5) (consA (op2 dAdd (var 8) (cst (.int 1))) nilA)))))))
abbrev lfW : FS := whileS lfT (asgS 8 (op2 dAdd (var 8) (cst (.int 1)))) W0
abbrev lfB : FS := (seqS (asgS 8 (op2 dSub (var 5) (cst (.int 1)))) (seqS (whileS (andB (valB (op2 dLt (var 8) (var 3))) (truB (callE m__law_is_off (consA (op2 dIxA (var 0) (var 7)) (consA (var 1) (consA (var 5) (consA (op2 dAdd (var 8) (cst (.int 1))) nilA))))))) (asgS 8 (op2 dAdd (var 8) (cst (.int 1)))) W0) (appS 6 (tupE (consA (op2 dSub (cst (.int 0)) (var 8)) (consA (var 7) nilA))))))
abbrev lrB : FS := (seqS (asgOS 6 (lstE nilA)) (seqS (forS (itR1 (op1 dLen (var 0))) (tgN 7) (seqS (asgS 8 (op2 dSub (var 5) (cst (.int 1)))) (seqS (whileS (andB (valB (op2 dLt (var 8) (var 3))) (truB (callE m__law_is_off (consA (op2 dIxA (var 0) (var 7)) (consA (var 1) (consA (var 5) (consA (op2 dAdd (var 8) (cst (.int 1))) nilA))))))) (asgS 8 (op2 dAdd (var 8) (cst (.int 1)))) W0) (appS 6 (tupE (consA (op2 dSub (cst (.int 0)) (var 8)) (consA (var 7) nilA))))))) (seqS (parS 8 7 (op2 dSub (cst (.int 0)) (op2 dIxA (op1 dMinY (varB 6)) (cst (.int 0)))) (op2 dIxA (op1 dMinY (varB 6)) (cst (.int 1)))) (seqS (ifS (valB (op2 dLt (var 8) (var 5))) (retS (cst .non)) skipS) (seqS (appS 4 (tupE (consA (var 7) (consA (var 5) (consA (var 8) nilA))))) (asgS 5 (op2 dAdd (var 8) (cst (.int 1)))))))))
abbrev lEn (d : D) (s low high : Nat) (acc : List D) (u : Nat) (a b c : Slot) : En := [.vl d, .vl (nD s), .vl (nD low), .vl (nD high), .ow (.lst acc), .vl (nD u), a, b, c]
def endN (ws : List Nat) (s u high k : Nat) : Nat := min (far (ws.getD k 0) s u) high
def endP (ws : List Nat) (s u high k : Nat) : Int × Int := (-((endN ws s u high k : Nat) : Int), (k : Int))
theorem far_lo {w s u : Nat} (u1 : 1 ≤ u) (u2 : u ≤ 100000) : u - 1 ≤ far w s u := by
  by_cases h : gp w u ≤ s
  · rw [far_le h]
    exact Nat.le_refl _
  · have := far_ge u1 u2 (show s < gp w u by omega)
    omega
section
variable {d : D} {ws : List Nat} (W : WD d ws) (w : Wt ws) {s low high : Nat} (hT : high ≤ 100000)
include W w hT
theorem in_loop {acc : List D} {u j : Nat} {a : Slot} (u1 : 1 ≤ u) (u2 : u ≤ high) (hj : j < ws.length) (S : DS) : ∀ (n k x : Nat), n < k → u - 1 ≤ x → x ≤ endN ws s u high j → endN ws s u high j - x ≤ n →
    whileS lfT (asgS 8 (op2 dAdd (var 8) (cst (.int 1)))) k (lEn d s low high acc u a (.vl (nD j)) (.vl (nD x))) S = .ok (.nx (lEn d s low high acc u a (.vl (nD j)) (.vl (nD (endN ws s u high j))))) S := by
  obtain ⟨g1, g2⟩ := w.g hj
  intro n
  induction n with
  | zero =>
    intro k x hk h1 h2 h3
    obtain ⟨k', rfl⟩ : ∃ k', k = k' + 1 := ⟨k - 1, by omega⟩
    have e : x = endN ws s u high j := by omega
    subst e
    refine while_end ?_
    have T1 : valB (op2 dLt (var 8) (var 3)) (lEn d s low high acc u a (.vl (nD j)) (.vl (nD (endN ws s u high j)))) S = .ok (decide (endN ws s u high j < high)) S := val_of (op2_of (d1 := nD (endN ws s u high j)) (d2 := nD high) rfl rfl (ltN _ _))
    by_cases c : endN ws s u high j < high
    · rw [decide_eq_true c] at T1
      refine (and_t T1).trans (tru_ofE (call4_of (d2 := nD s) (d3 := nD u) (op2_of (d1 := d) (d2 := nD j) rfl rfl (W.ix _ hj)) rfl rfl (op2_of (d1 := nD (endN ws s u high j)) (d2 := nD 1) rfl rfl (addN _ 1)) (v__law_is_off g2 (by omega) (by omega) (by omega) S)) ?_)
      have ef : endN ws s u high j = far (ws.getD j 0) s u := by
        unfold endN at c ⊢
        omega
      rw [ef] at c ⊢
      rw [off_stop u1 (by omega) (by omega)]
      rfl
    · rw [decide_eq_false c] at T1
      exact and_f T1
  | succ n ih =>
    intro k x hk h1 h2 h3
    obtain ⟨k', rfl⟩ : ∃ k', k = k' + 1 := ⟨k - 1, by omega⟩
    by_cases e : x = endN ws s u high j
    · exact ih (k' + 1) x (by omega) h1 h2 (by omega)
    · have lt : x < endN ws s u high j := by omega
      have le1 : endN ws s u high j ≤ high := by unfold endN; omega
      have le2 : endN ws s u high j ≤ far (ws.getD j 0) s u := by unfold endN; omega
      have T1 : valB (op2 dLt (var 8) (var 3)) (lEn d s low high acc u a (.vl (nD j)) (.vl (nD x))) S = .ok (decide (x < high)) S := val_of (op2_of (d1 := nD x) (d2 := nD high) rfl rfl (ltN _ _))
      rw [decide_eq_true (by omega)] at T1
      have T : lfT (lEn d s low high acc u a (.vl (nD j)) (.vl (nD x))) S = .ok true S := by
        refine (and_t T1).trans (tru_ofE (call4_of (d2 := nD s) (d3 := nD u) (op2_of (d1 := d) (d2 := nD j) rfl rfl (W.ix _ hj)) rfl rfl (op2_of (d1 := nD x) (d2 := nD 1) rfl rfl (addN _ 1)) (v__law_is_off g2 (by omega) (by omega) (by omega) S)) ?_)
        rw [off_run u1 (by omega) (by omega)]
        rfl
      rw [while_go T (asg_of (op2_of (d1 := nD x) (d2 := nD 1) rfl rfl (addN _ 1)))]
      exact ih k' (x + 1) (by omega) (by omega) (by omega) (by omega)
theorem for_ends {acc : List D} {u : Nat} {b c : Slot} (u1 : 1 ≤ u) (u2 : u ≤ high) (S : DS) : ∃ b' c', forL (tgN 7) lfB ((List.range ws.length).map nD) (lEn d s low high acc u (.ow (.lst [])) b c) S = .ok (.nx (lEn d s low high acc u (.ow (.lst (((List.range ws.length).map (endP ws s u high)).map pD))) b' c')) S := by
  have n2 := w.n2
  obtain ⟨ρ', S', q, ⟨b', c', rfl⟩, rfl⟩ := forL_inv (t := tgN 7) (b := lfB) (ds := (List.range ws.length).map nD) (fun i ρ S1 => (∃ b' c', ρ = lEn d s low high acc u (.ow (.lst (((List.range i).map (endP ws s u high)).map pD))) b' c') ∧ S1 = S) (fun i x ρ S1 hi ⟨⟨b', c', e⟩, es⟩ => by
    subst e
    subst es
    rw [List.getElem?_map] at hi
    obtain ⟨j, hj, rfl⟩ := Option.map_eq_some_iff.mp hi
    obtain ⟨hj1, hj2⟩ := List.getElem?_eq_some_iff.mp hj
    rw [List.length_range] at hj1
    have e : j = i := by rw [← hj2, List.getElem_range]
    subst e
    refine ⟨lEn d s low high acc u (.ow (.lst (((List.range j).map (endP ws s u high)).map pD))) (.vl (nD j)) c', lEn d s low high acc u (.ow (.lst (((List.range (j + 1)).map (endP ws s u high)).map pD))) (.vl (nD j)) (.vl (nD (endN ws s u high j))), S1, rfl, .inl ?_, ⟨_, _, rfl⟩, rfl⟩
    have lo : u - 1 ≤ endN ws s u high j := by
      have := far_lo (w := ws.getD j 0) (s := s) u1 (by omega)
      unfold endN
      omega
    have hi2 : endN ws s u high j ≤ high := by unfold endN; omega
    refine (seq_nx (asg_of (op2_of (d1 := nD u) (d2 := nD 1) rfl rfl (subN u1)))).trans ?_
    refine (seq_nx (in_loop W w hT (a := .ow (.lst (((List.range j).map (endP ws s u high)).map pD))) u1 u2 hj1 S1 (endN ws s u high j - (u - 1)) W0 (u - 1) (W0_big (by omega)) (Nat.le_refl _) lo (Nat.le_refl _))).trans ?_
    refine (app_of (i := 6) (ds := ((List.range j).map (endP ws s u high)).map pD) rfl (tup2 (op2_of (d1 := .int 0) (d2 := nD (endN ws s u high j)) rfl rfl rfl) (e := nD j) rfl) (by rw [List.length_map, List.length_map, List.length_range]; omega)).trans ?_
    rw [List.range_succ, List.map_append, List.map_append]
    show Res.ok (Fl.nx (lEn d s low high acc u (.ow (.lst (((List.range j).map (endP ws s u high)).map pD ++ [.tup [.int (0 - ((endN ws s u high j : Nat) : Int)), nD j]]))) (.vl (nD j)) (.vl (nD (endN ws s u high j))))) S1 = Res.ok (Fl.nx (lEn d s low high acc u (.ow (.lst (((List.range j).map (endP ws s u high)).map pD ++ [.tup [.int (-((endN ws s u high j : Nat) : Int)), nD j]]))) (.vl (nD j)) (.vl (nD (endN ws s u high j))))) S1
    rw [Int.zero_sub]) (ρ := lEn d s low high acc u (.ow (.lst [])) b c) (S := S) ⟨⟨b, c, rfl⟩, rfl⟩
  rw [List.length_map, List.length_range] at q
  exact ⟨b', c', q⟩
omit W hT in
theorem min_ends {u : Nat} : ∃ m j, Best (endL ws s u high) m j ∧ dMinX (.lst (((List.range ws.length).map (endP ws s u high)).map pD)) = some (pD (-(m : Int), (j : Int))) := by
  have n1 := w.n1
  obtain ⟨p, hp, e1, e2⟩ := min_pairs (ps := (List.range ws.length).map (endP ws s u high)) (fun z => by
    have := congrArg List.length z
    rw [List.length_map, List.length_range] at this
    have h0 : ([] : List (Int × Int)).length = 0 := rfl
    omega)
  obtain ⟨j, hj, rfl⟩ := List.mem_map.mp hp
  have hj := List.mem_range.mp hj
  have ge : ∀ i, i < ws.length → (endL ws s u high)[i]? = some (endN ws s u high i) := fun i hi => by
    unfold endL endN
    rw [List.getElem?_map, List.getElem?_eq_getElem hi, List.getD_eq_getElem?_getD, List.getElem?_eq_getElem hi]
    rfl
  have le : ∀ i, i < ws.length → endN ws s u high i < endN ws s u high j ∨ (endN ws s u high i = endN ws s u high j ∧ j ≤ i) := fun i hi => by
    have z := e2 _ (List.mem_map.mpr ⟨i, List.mem_range.mpr hi, rfl⟩)
    unfold lexLe endP at z
    simp only [] at z
    omega
  have ln : (endL ws s u high).length = ws.length := List.length_map ..
  refine ⟨endN ws s u high j, j, ⟨ge j hj, fun y hy => ?_, fun i y hi hy => ?_⟩, e1⟩
  · obtain ⟨i, hi⟩ := List.getElem?_of_mem hy
    have hl := (List.getElem?_eq_some_iff.mp hi).1
    rw [ln] at hl
    rw [ge i hl] at hi
    cases hi
    have := le i hl
    omega
  · rw [ge i (by omega)] at hy
    cases hy
    have := le i (by omega)
    omega
theorem lrows_go (S : DS) : ∀ (n k u : Nat) (acc : List D) (a b c : Slot), n < k → 1 ≤ u → u ≤ high + 1 → high + 1 - u ≤ n → acc.length + n ≤ 1000000 →
    (rowsF ws s high n u = none → whileS (valB (op2 dLe (var 5) (var 3))) lrB k (lEn d s low high acc u a b c) S = .ok (.rt .non) S) ∧
    ∀ rs, rowsF ws s high n u = some rs → ∃ a' b' c', whileS (valB (op2 dLe (var 5) (var 3))) lrB k (lEn d s low high acc u a b c) S = .ok (.nx (lEn d s low high (acc ++ rs.map rD) (high + 1) a' b' c')) S := by
  have n1 := w.n1; have n2 := w.n2
  intro n
  induction n with
  | zero =>
    intro k u acc a b c hk h1 h2 h3 h4
    have e : u = high + 1 := by omega
    subst e
    have t : valB (op2 dLe (var 5) (var 3)) (lEn d s low high acc (high + 1) a b c) S = .ok (decide (high + 1 ≤ high)) S := val_of (op2_of (d1 := nD (high + 1)) (d2 := nD high) rfl rfl (leN _ _))
    rw [decide_eq_false (by omega)] at t
    obtain ⟨k', rfl⟩ : ∃ k', k = k' + 1 := ⟨k - 1, by omega⟩
    refine ⟨fun z => (by cases z), fun rs z => ⟨a, b, c, ?_⟩⟩
    cases z
    rw [while_end t, List.map_nil, List.append_nil]
  | succ n ih =>
    intro k u acc a b c hk h1 h2 h3 h4
    obtain ⟨k', rfl⟩ : ∃ k', k = k' + 1 := ⟨k - 1, by omega⟩
    have t : valB (op2 dLe (var 5) (var 3)) (lEn d s low high acc u a b c) S = .ok (decide (u ≤ high)) S := val_of (op2_of (d1 := nD u) (d2 := nD high) rfl rfl (leN _ _))
    unfold rowsF
    by_cases cc : high < u
    · have e : u = high + 1 := by omega
      subst e
      rw [decide_eq_false (by omega)] at t
      rw [if_pos cc]
      refine ⟨fun z => (by cases z), fun rs z => ⟨a, b, c, ?_⟩⟩
      cases z
      rw [while_end t, List.map_nil, List.append_nil]
    · rw [decide_eq_true (by omega)] at t
      rw [if_neg cc]
      obtain ⟨m, j, B, hm⟩ := min_ends w (s := s) (high := high) (u := u)
      rw [bst_of B]
      have hmh : m ≤ high := by
        have z := B.at_
        unfold endL at z
        rw [List.getElem?_map] at z
        obtain ⟨x, _, e⟩ := Option.map_eq_some_iff.mp z
        have e : min (far x s u) high = m := e
        omega
      obtain ⟨b1, c1, qf⟩ := for_ends W w hT (s := s) (low := low) (acc := acc) (b := b) (c := c) h1 (show u ≤ high by omega) S
      have st1 : asgOS 6 (lstE nilA) (lEn d s low high acc u a b c) S = .ok (.nx (lEn d s low high acc u (.ow (.lst [])) b c)) S := asgO_of lst0
      have st2 : forS (itR1 (op1 dLen (var 0))) (tgN 7) lfB (lEn d s low high acc u (.ow (.lst [])) b c) S = .ok (.nx (lEn d s low high acc u (.ow (.lst (((List.range ws.length).map (endP ws s u high)).map pD))) b1 c1)) S := (for_of (rng1 (by omega) (op1_of (d := d) rfl W.ln))).trans qf
      generalize ((List.range ws.length).map (endP ws s u high)).map pD = L at *
      have st3 : parS 8 7 (op2 dSub (cst (.int 0)) (op2 dIxA (op1 dMinY (varB 6)) (cst (.int 0)))) (op2 dIxA (op1 dMinY (varB 6)) (cst (.int 1))) (lEn d s low high acc u (.ow (.lst L)) b1 c1) S = .ok (.nx (lEn d s low high acc u (.ow (.lst L)) (.vl (nD j)) (.vl (nD m)))) S := by
        have mv : op1 dMinY (varB 6) (lEn d s low high acc u (.ow (.lst L)) b1 c1) S = .ok (pD (-(m : Int), (j : Int))) S := op1_of (d := .lst L) rfl hm
        refine par_of (d := nD m) (e := nD j) (op2_of (d1 := .int 0) (d2 := .int (-(m : Int))) rfl (op2_of mv (d2 := .int 0) rfl rfl) ?_) (op2_of mv (d2 := .int 1) rfl rfl)
        show some (D.int (0 - -(m : Int))) = some (D.int (m : Int))
        congr 2
        omega
      have t2 : valB (op2 dLt (var 8) (var 5)) (lEn d s low high acc u (.ow (.lst L)) (.vl (nD j)) (.vl (nD m))) S = .ok (decide (m < u)) S := val_of (op2_of (d1 := nD m) (d2 := nD u) rfl rfl (ltN _ _))
      by_cases c2 : m < u
      · rw [if_pos c2]
        rw [decide_eq_true c2] at t2
        refine ⟨fun _ => ?_, fun rs z => (by cases z)⟩
        have bb : lrB (lEn d s low high acc u a b c) S = .ok (.rt .non) S := (seq_nx st1).trans ((seq_nx st2).trans ((seq_nx st3).trans (seq_rt ((if_t t2).trans (ret_of rfl)))))
        simp only [whileS, bd, t, if_true, bb, rt]
      · rw [if_neg c2]
        rw [decide_eq_false c2] at t2
        have bb : lrB (lEn d s low high acc u a b c) S = .ok (.nx (lEn d s low high (acc ++ [rD (j, u, m)]) (m + 1) (.ow (.lst L)) (.vl (nD j)) (.vl (nD m)))) S :=
          (seq_nx st1).trans ((seq_nx st2).trans ((seq_nx st3).trans ((seq_nx (if_f t2)).trans ((seq_nx (app_of (i := 4) (ds := acc) rfl (tup3 (d := nD j) (e := nD u) (i := nD m) rfl rfl rfl) (by omega))).trans (asg_of (op2_of (d1 := nD m) (d2 := nD 1) rfl rfl (addN _ 1)))))))
        obtain ⟨i1, i2⟩ := ih k' (m + 1) (acc ++ [rD (j, u, m)]) (.ow (.lst L)) (.vl (nD j)) (.vl (nD m)) (by omega) (by omega) (by omega) (by omega) (by rw [List.length_append, List.length_singleton]; omega)
        rw [while_go t bb]
        refine ⟨fun z => i1 (Option.map_eq_none_iff.mp z), fun rs z => ?_⟩
        obtain ⟨rs', hr, rfl⟩ := Option.map_eq_some_iff.mp z
        obtain ⟨a', b', c', q⟩ := i2 rs' hr
        refine ⟨a', b', c', ?_⟩
        rw [q, List.append_assoc]
        rfl
theorem v__law_rows (g : Rg ws low high) (S : DS) : m__law_rows [d, nD s, nD low, nD high] S = .ok (rowsD (rowsF ws s high (high + 1 - low) low)) S := by
  have g1 := g.l1; have g2 := g.lh; have g3 := g.h2
  rw [e__law_rows]
  refine body_rt ?_
  rw [b__law_rows]
  have p : parOV 4 5 (lstE nilA) (var 2) [.vl d, .vl (nD s), .vl (nD low), .vl (nD high), .no, .no, .no, .no, .no] S = .ok (.nx (lEn d s low high [] low .no .no .no)) S := by
    simp only [parOV, bd, lst0]
    rfl
  refine (seq_nx p).trans ?_
  obtain ⟨i1, i2⟩ := lrows_go W w hT (s := s) (low := low) S (high + 1 - low) W0 low [] .no .no .no (W0_big (by omega)) g1 (by omega) (Nat.le_refl _) (by simp only [List.length_nil]; omega)
  cases e : rowsF ws s high (high + 1 - low) low with
  | none => exact seq_rt (i1 e)
  | some rs =>
    obtain ⟨a', b', c', q⟩ := i2 rs e
    refine (seq_nx q).trans (ret_of ?_)
    exact op1_of (d := .lst ([] ++ rs.map rD)) rfl rfl
end
end Hk19
namespace Hk19
open PySem Mini
open L2 (atI ixN atI_nat kitB Key)
/-! ## the weights that are drawn -/
abbrev wEn (acc : List D) (un sl : Nat) (k own : Slot) : En := [.vl .st, .ow (.lst acc), k, .vl (nD un), .vl (nD sl), own]
theorem mn_big (y : Int) : dMinY (.lst [.int 100000, .int y]) = some (.int (if y < 100000 then y else 100000)) := rfl
theorem w_body {S : DS} (v : Vs S) {acc : List D} {un sl : Nat} {k own : Slot} (hu : un ≤ 900) (hs : sl ≤ 5) (ha : acc.length ≤ 1000) : ∃ (n : Nat) (own' : Slot) (S' : DS), (seqS (asgS 5 (op2 dSub (op2 dAdd (op2 dMulX (op2 dAdd (cst (.int 1)) (callE m__law_draw (consA (var 0) (consA (cst (.int 9)) nilA)))) (var 3)) (callE m__law_draw (consA (var 0) (consA (op2 dAdd (op2 dMulX (cst (.int 2)) (var 4)) (cst (.int 1))) nilA)))) (var 4))) (appS 1 (iteE (valB (op2 dGt (callE m__law_draw (consA (var 0) (consA (cst (.int 8)) nilA))) (cst (.int 0)))) (op1 dMinY (lstE (consA (cst (.int 100000)) (consA (op1 dMaxX (lstE (consA (cst (.int 1)) (consA (var 5) nilA)))) nilA)))) (op2 dAdd (cst (.int 1)) (callE m__law_draw (consA (var 0) (consA (cst (.int 400)) nilA))))))) (wEn acc un sl k own) S = .ok (.nx (wEn (acc ++ [nD n]) un sl k own')) S' ∧ 1 ≤ n ∧ n ≤ 100000 ∧ Vs S' := by
  obtain ⟨r, S1, e1, l1, v1⟩ := v_draw v (n := 9) (by decide) (by decide)
  have mb : 2 * sl + 1 < 2 ^ 63 := by omega
  obtain ⟨q, S2, e2, l2, v2⟩ := v_draw v1 (n := 2 * sl + 1) (by omega) mb
  obtain ⟨f, S3, e3, l3, v3⟩ := v_draw v2 (n := 8) (by decide) (by decide)
  have hm : (1 + r) * un ≤ 9 * 900 := Nat.mul_le_mul (by omega) hu
  have dO : (op2 dSub (op2 dAdd (op2 dMulX (op2 dAdd (cst (.int 1)) (callE m__law_draw (consA (var 0) (consA (cst (.int 9)) nilA)))) (var 3)) (callE m__law_draw (consA (var 0) (consA (op2 dAdd (op2 dMulX (cst (.int 2)) (var 4)) (cst (.int 1))) nilA)))) (var 4)) (wEn acc un sl k own) S = .ok (.int ((((1 + r) * un + q : Nat) : Int) - (sl : Int))) S2 :=
    op2_of (op2_of (op2_of (op2_of (d1 := nD 1) rfl (draw_of rfl rfl e1) (addN 1 r)) (d2 := nD un) rfl (mul_ok (by omega) (by omega))) (draw_of rfl (op2_of (op2_of (d1 := nD 2) (d2 := nD sl) rfl rfl (mul_ok (by omega) (by omega))) (d2 := nD 1) rfl (addN _ 1)) e2) (addN _ _)) (d2 := nD sl) rfl rfl
  generalize (((1 + r) * un + q : Nat) : Int) - (sl : Int) = x at dO
  have a1 : asgS 5 (op2 dSub (op2 dAdd (op2 dMulX (op2 dAdd (cst (.int 1)) (callE m__law_draw (consA (var 0) (consA (cst (.int 9)) nilA)))) (var 3)) (callE m__law_draw (consA (var 0) (consA (op2 dAdd (op2 dMulX (cst (.int 2)) (var 4)) (cst (.int 1))) nilA)))) (var 4)) (wEn acc un sl k own) S = .ok (.nx (wEn acc un sl k (.vl (.int x)))) S2 := asg_of dO
  have t : valB (op2 dGt (callE m__law_draw (consA (var 0) (consA (cst (.int 8)) nilA))) (cst (.int 0))) (wEn acc un sl k (.vl (.int x))) S2 = .ok (decide (0 < f)) S3 := val_of (op2_of (draw_of rfl rfl e3) (d2 := nD 0) rfl (gtN _ _))
  by_cases c : 0 < f
  · rw [decide_eq_true c] at t
    have y : ∃ n : Nat, (if (if x > 1 then x else 1) < 100000 then (if x > 1 then x else 1) else 100000) = (n : Int) ∧ 1 ≤ n ∧ n ≤ 100000 := by
      refine ⟨(if (if x > 1 then x else 1) < 100000 then (if x > 1 then x else 1) else 100000).toNat, ?_, ?_, ?_⟩ <;> (split <;> split <;> omega)
    obtain ⟨n, en, n1, n2⟩ := y
    refine ⟨n, .vl (.int x), S3, ?_, n1, n2, v3⟩
    refine (seq_nx a1).trans (app_of (i := 1) (ds := acc) rfl ((ite_t t).trans (op1_of (lst2 rfl (op1_of (lst2 rfl rfl) (mx_one x))) ?_)) (by omega))
    rw [mn_big, en]
    rfl
  · rw [decide_eq_false c] at t
    obtain ⟨g, S4, e4, l4, v4⟩ := v_draw v3 (n := 400) (by decide) (by decide)
    refine ⟨1 + g, .vl (.int x), S4, ?_, by omega, by omega, v4⟩
    exact (seq_nx a1).trans (app_of (i := 1) (ds := acc) rfl ((ite_f t).trans (op2_of (d1 := nD 1) rfl (draw_of rfl rfl e4) (addN 1 g))) (by omega))
theorem v__law_weights {S : DS} (v : Vs S) : ∃ (ws : List Nat) (un sl : Nat) (S' : DS), m__law_weights [.st] S = .ok (.tup [.tup (natL ws), nD un, nD sl]) S' ∧ Wt ws ∧ ws.length ≤ 6 ∧ 1 ≤ un ∧ un ≤ 900 ∧ sl ≤ 5 ∧ Vs S' := by
  obtain ⟨x1, S1, p1, m1, v1⟩ := v_pick v (ds := [.int 9, .int 60, .int 900]) (by simp) (by decide)
  obtain ⟨k1, rfl, a1, b1⟩ := nat3 (a := 9) (b := 60) (c := 900) (lo := 9) (hi := 900) m1 (by omega) (by omega) (by omega)
  obtain ⟨r1, S2, e1, l1, v2⟩ := v_draw v1 (n := k1) (by omega) (Nat.lt_of_le_of_lt b1 (by decide))
  obtain ⟨x2, S3, p2, m2, v3⟩ := v_pick v2 (ds := [.int 2, .int 6]) (by simp) (by decide)
  obtain ⟨k2, rfl, a2, b2⟩ := nat2 (a := 2) (b := 6) (lo := 2) (hi := 6) m2 (by omega) (by omega)
  obtain ⟨r2, S4, e2, l2, v4⟩ := v_draw v3 (n := k2) (by omega) (Nat.lt_of_le_of_lt b2 (by decide))
  obtain ⟨r3, S5, e3, l3, v5⟩ := v_draw v4 (n := 6) (by decide) (by decide)
  rw [e__law_weights]
  have st1 : (parS 3 4 (op2 dAdd (cst (.int 1)) (callE m__law_draw (consA (var 0) (consA (callE m__law_pick (consA (var 0) (consA (lstE (consA (cst (.int 9)) (consA (cst (.int 60)) (consA (cst (.int 900)) nilA)))) nilA))) nilA)))) (callE m__law_draw (consA (var 0) (consA (callE m__law_pick (consA (var 0) (consA (lstE (consA (cst (.int 2)) (consA (cst (.int 6)) nilA))) nilA))) nilA)))) [.vl .st, .no, .no, .no, .no, .no] S = .ok (.nx [.vl .st, .no, .no, .vl (nD (1 + r1)), .vl (nD r2), .no]) S4 :=
    par_of (d := nD (1 + r1)) (e := nD r2) (op2_of (d1 := nD 1) rfl (draw_of rfl (pick_of rfl (lst3 rfl rfl rfl) p1) e1) (addN 1 r1)) (draw_of rfl (pick_of rfl (lst2 rfl rfl) p2) e2)
  have st2 : asgOS 1 (lstE nilA) [.vl .st, .no, .no, .vl (nD (1 + r1)), .vl (nD r2), .no] S4 = .ok (.nx (wEn [] (1 + r1) r2 .no .no)) S4 := asgO_of lst0
  have it : itR1 (op2 dAdd (cst (.int 1)) (callE m__law_draw (consA (var 0) (consA (cst (.int 6)) nilA)))) (wEn [] (1 + r1) r2 .no .no) S4 = .ok ((List.range (1 + r3)).map nD) S5 := rng1 (by omega) (op2_of (d1 := nD 1) rfl (draw_of rfl rfl e3) (addN 1 r3))
  obtain ⟨ρ', S', q, vq, acc, ea, ra, k, own, rfl⟩ := forL_inv (t := tgN 2) (b := (seqS (asgS 5 (op2 dSub (op2 dAdd (op2 dMulX (op2 dAdd (cst (.int 1)) (callE m__law_draw (consA (var 0) (consA (cst (.int 9)) nilA)))) (var 3)) (callE m__law_draw (consA (var 0) (consA (op2 dAdd (op2 dMulX (cst (.int 2)) (var 4)) (cst (.int 1))) nilA)))) (var 4))) (appS 1 (iteE (valB (op2 dGt (callE m__law_draw (consA (var 0) (consA (cst (.int 8)) nilA))) (cst (.int 0)))) (op1 dMinY (lstE (consA (cst (.int 100000)) (consA (op1 dMaxX (lstE (consA (cst (.int 1)) (consA (var 5) nilA)))) nilA)))) (op2 dAdd (cst (.int 1)) (callE m__law_draw (consA (var 0) (consA (cst (.int 400)) nilA)))))))) (ds := (List.range (1 + r3)).map nD) (fun i ρ S => Vs S ∧ ∃ acc : List Nat, acc.length = i ∧ (∀ n ∈ acc, 1 ≤ n ∧ n ≤ 100000) ∧ ∃ k own, ρ = wEn (natL acc) (1 + r1) r2 k own) (fun i x ρ S hi ⟨vs, acc, ea, ra, k, own, e⟩ => by
    subst e
    have hl := (List.getElem?_eq_some_iff.mp hi).1
    rw [List.length_map, List.length_range] at hl
    obtain ⟨n, own', S', q, n1, n2, v'⟩ := w_body vs (acc := natL acc) (un := 1 + r1) (sl := r2) (k := .vl x) (own := own) (by omega) (by omega) (by rw [natL_len]; omega)
    refine ⟨wEn (natL acc) (1 + r1) r2 (.vl x) own, wEn (natL (acc ++ [n])) (1 + r1) r2 (.vl x) own', S', rfl, .inl ?_, v', acc ++ [n], by rw [List.length_append, List.length_singleton, ea], fun y hy => ?_, .vl x, own', rfl⟩
    · rw [q]
      unfold natL
      rw [List.map_append]
      rfl
    · rcases List.mem_append.mp hy with z | z
      · exact ra y z
      · rw [List.mem_singleton.mp z]
        exact ⟨n1, n2⟩) (ρ := wEn [] (1 + r1) r2 .no .no) (S := S5) ⟨v5, [], rfl, (fun n hn => by cases hn), .no, .no, rfl⟩
  rw [List.length_map, List.length_range] at ea
  refine ⟨acc, 1 + r1, r2, S', body_rt ?_, ⟨by omega, by omega, ra⟩, by omega, by omega, by omega, by omega, vq⟩
  rw [b__law_weights]
  refine (seq_nx st1).trans ((seq_nx st2).trans ((seq_nx ((for_of it).trans q)).trans (ret_of ?_)))
  exact tup3 (op1_of (d := .lst (natL acc)) rfl rfl) rfl rfl
end Hk19
namespace Hk19
open PySem Mini
open L2 (atI ixN atI_nat kitB Key)
/-! ## ends of lists -/
theorem snoc_ex {α : Type} : ∀ {l : List α}, l ≠ [] → ∃ a x, l = a ++ [x]
  | [], h => absurd rfl h
  | [x], _ => ⟨[], x, rfl⟩
  | x :: y :: l, _ => by
    obtain ⟨a, z, e⟩ := snoc_ex (l := y :: l) (by simp)
    exact ⟨x :: a, z, by rw [e]; rfl⟩
theorem cut_end {α : Type} (l t : List α) {n : Nat} (ht : t.length = n) (hn : 0 < n) : cutG (l ++ t) none (some (-(n : Int))) = l := by
  unfold cutG
  have e : HT.sIx (l ++ t).length (l ++ t).length (some (-(n : Int))) = l.length := by
    show (if (-(n : Int)) < 0 then ((-(n : Int)) + ((l ++ t).length : Int)).toNat else min (-(n : Int)).toNat (l ++ t).length) = _
    rw [if_pos (by omega), List.length_append]
    omega
  rw [e]
  show List.take (l.length - 0) (l ++ t) = l
  rw [Nat.sub_zero, List.take_left' rfl]
theorem at_end {α : Type} (l : List α) (x : α) (t : List α) {n : Nat} (ht : t.length + 1 = n) : atI (l ++ x :: t) (-(n : Int)) = some x := by
  unfold atI ixN
  rw [List.length_append, List.length_cons, if_neg (by omega), if_pos (by omega)]
  have e : (-(n : Int) + ((l.length + (t.length + 1) : Nat) : Int)).toNat = l.length := by omega
  rw [e]
  show (l ++ x :: t)[l.length]? = some x
  rw [List.getElem?_append_right (Nat.le_refl _), Nat.sub_self]
  rfl
theorem slc1 {i : Nat} {ρ : En} {S : DS} {l : List D} {x : D} (h : slot ρ i = some (.tup (l ++ [x]))) : slcX (var i) noP (partP (op1 dNeg (cst (.int 1)))) ρ S = .ok (.tup l) S := by
  unfold slcX bd
  rw [var_of h]
  show Res.ok (D.tup (cutG (l ++ [x]) none (some (-((1 : Nat) : Int))))) S = _
  rw [cut_end l [x] (n := 1) rfl (by omega)]
theorem slc2 {i : Nat} {ρ : En} {S : DS} {l : List D} {x y : D} (h : slot ρ i = some (.tup (l ++ [x, y]))) : slcX (var i) noP (partP (op1 dNeg (cst (.int 2)))) ρ S = .ok (.tup l) S := by
  unfold slcX bd
  rw [var_of h]
  show Res.ok (D.tup (cutG (l ++ [x, y]) none (some (-((2 : Nat) : Int))))) S = _
  rw [cut_end l [x, y] (n := 2) rfl (by omega)]
theorem ix1 {i : Nat} {ρ : En} {S : DS} {l : List D} {x : D} (h : slot ρ i = some (.tup (l ++ [x]))) : op2 dIxA (var i) (op1 dNeg (cst (.int 1))) ρ S = .ok x S :=
  op2_of (d1 := .tup (l ++ [x])) (d2 := .int (-1)) (var_of h) (op1_of rfl rfl) (at_end l x [] (n := 1) rfl)
theorem ix2 {i : Nat} {ρ : En} {S : DS} {l : List D} {x y : D} (h : slot ρ i = some (.tup (l ++ [x, y]))) : op2 dIxA (var i) (op1 dNeg (cst (.int 2))) ρ S = .ok x S :=
  op2_of (d1 := .tup (l ++ [x, y])) (d2 := .int (-2)) (var_of h) (op1_of rfl rfl) (at_end l x [y] (n := 2) rfl)
theorem catT {a b : List D} (h : a.length + b.length ≤ 16777216) : dAdd (.tup a) (.tup b) = some (.tup (a ++ b)) := if_pos h
theorem catC {a b : List D} (h : a.length + b.length ≤ 16777216) : dCat (.lst a) (.lst b) = some (.lst (a ++ b)) := if_pos h
/-- x[:-1] + (y,) -/
theorem put1 {i : Nat} {f : FE} {ρ : En} {S : DS} {l : List D} {x y : D} (h : slot ρ i = some (.tup (l ++ [x]))) (hl : l.length ≤ 1000) (hf : f ρ S = .ok y S) : op2 dAdd (slcX (var i) noP (partP (op1 dNeg (cst (.int 1))))) (tupE (consA f nilA)) ρ S = .ok (.tup (l ++ [y])) S :=
  op2_of (slc1 h) (tup1 hf) (catT (by show l.length + 1 ≤ _; omega))
theorem put2 {i : Nat} {f : FE} {ρ : En} {S : DS} {l : List D} {x z y : D} (h : slot ρ i = some (.tup (l ++ [x, z]))) (hl : l.length ≤ 1000) (hf : f ρ S = .ok y S) : op2 dAdd (slcX (var i) noP (partP (op1 dNeg (cst (.int 2))))) (tupE (consA f nilA)) ρ S = .ok (.tup (l ++ [y])) S :=
  op2_of (slc2 h) (tup1 hf) (catT (by show l.length + 1 ≤ _; omega))
/-- ([x], w) -/
theorem pap_of {f h : FE} {ρ : En} {S : DS} {x : D} {w : Wo} (hf : f ρ S = .ok x S) (hh : h ρ S = .ok w.wd S) : tupE (consA (lstE (consA f nilA)) (consA h nilA)) ρ S = .ok (ppD (x, w)) S := tup2 (lst1 hf) hh
theorem all_congr {α : Type} {f g : α → Bool} : ∀ {l : List α}, (∀ x ∈ l, f x = g x) → l.all f = l.all g
  | [], _ => rfl
  | x :: l, h => by rw [List.all_cons, List.all_cons, h x List.mem_cons_self, all_congr fun y hy => h y (List.mem_cons_of_mem _ hy)]
/-! ## the worth of the law's papers -/
theorem tim_ts (ws : List Nat) (s u : Nat) : timN ws s u (tsN ws u) = if (offG ws s u).isEmpty = true then .ok else .weight := by
  unfold timN offG
  rw [emp_filter]
  have e : ((List.range ws.length).all fun k => !decide (s < ab (ws.getD k 0) ((tsN ws u).getD k 0 * u))) = (List.range ws.length).all fun k => !decide (s < gp (ws.getD k 0) u) := all_congr fun k hk => by
    rw [ts_get (List.mem_range.mp hk)]
    rfl
  rw [e]
theorem tim_fl (ws : List Nat) (s u : Nat) (ts : List Nat) : timN ws s u ts = if ((List.range ws.length).filter fun k => decide (s < ab (ws.getD k 0) (ts.getD k 0 * u))).isEmpty = true then .ok else .weight := by
  unfold timN
  rw [emp_filter]
theorem acc_of {ws : List Nat} {s low high : Nat} {rs : List Rw} (h : ∀ r ∈ rs, r.1 < ws.length) : accN ws s low high rs = if runOk low rs = some (high + 1) then (if rs.all (rwOff ws s) = true then .ok else .off) else .run := if_pos h
theorem chn_len {ws : List Nat} {s high : Nat} : ∀ (rs : List Rw) (u : Nat), Chn ws s high u rs → rs.length + u ≤ high + 1
  | [], u, h => by
    have h : u = high + 1 := h
    rw [List.length_nil]
    omega
  | r :: rs, u, h => by
    obtain ⟨e1, e2, e3, _, hc⟩ := h
    have := chn_len rs _ hc
    rw [List.length_cons]
    omega
theorem mem_put {P : Rw → Prop} {I : List Rw} {x : Rw} (h : ∀ r ∈ I, P r) (hx : P x) : ∀ r ∈ I ++ [x], P r := fun r hr => by
  rcases List.mem_append.mp hr with z | z
  · exact h r z
  · rw [List.mem_singleton.mp z]
    exact hx
section
variable {ws : List Nat} {s low high : Nat} (g1 : 1 ≤ low)
include g1
theorem acc_full {rs : List Rw} (hc : Chn ws s high low rs) : accN ws s low high rs = .ok := by
  rw [acc_of fun r hr => (chn_mem rs low g1 hc r hr).1, if_pos (chn_run rs low hc), if_pos (List.all_eq_true.mpr fun r hr => (chn_mem rs low g1 hc r hr).2.1)]
variable {I : List Rw} {q : Rw} (hc : Chn ws s high low (I ++ [q]))
include hc
theorem acc_facts : (∀ r ∈ I, r.1 < ws.length) ∧ I.all (rwOff ws s) = true ∧ runOk low I = some q.2.1 ∧ q.2.1 ≤ q.2.2 ∧ high = q.2.2 ∧ 1 ≤ q.2.1 := by
  have m := chn_mem (I ++ [q]) low g1 hc
  obtain ⟨h1, h2, h3⟩ := runOk_cut (chn_run _ low hc)
  refine ⟨fun r hr => (m r (List.mem_append_left _ hr)).1, List.all_eq_true.mpr fun r hr => (m r (List.mem_append_left _ hr)).2.1, h1, h2, by omega, (m q (List.mem_append_right _ List.mem_cons_self)).2.2.1⟩
theorem acc_less : accN ws s low high I = .run := by
  obtain ⟨f1, f2, f3, f4, f5, f6⟩ := acc_facts g1 hc
  rw [acc_of f1, f3, if_neg (fun z => by
    have := Option.some.inj z
    omega)]
theorem acc_over (hq : q.1 < ws.length) : accN ws s low high (I ++ [(q.1, q.2.1, q.2.2 + 1)]) = .run := by
  obtain ⟨f1, f2, f3, f4, f5, f6⟩ := acc_facts g1 hc
  have ro : runOk low (I ++ [(q.1, q.2.1, q.2.2 + 1)]) = some (q.2.2 + 1 + 1) := by
    rw [runOk_one f3, if_pos ⟨rfl, by omega⟩]
  rw [acc_of (rs := I ++ [(q.1, q.2.1, q.2.2 + 1)]) (mem_put (P := fun r => r.1 < ws.length) f1 hq), ro, if_neg (fun z => by
    have := Option.some.inj z
    omega)]
omit g1 hc in
theorem acc_form {x : Rw} (hx : ¬ x.1 < ws.length) : accN ws s low high (I ++ [x]) = .form := if_neg fun z => hx (z x (List.mem_append_right _ List.mem_cons_self))
theorem acc_k {k : Nat} (hk : k < ws.length) : accN ws s low high (I ++ [(k, q.2.1, q.2.2)]) = if isOff (ws.getD k 0) s q.2.1 q.2.2 = true then .ok else .off := by
  obtain ⟨f1, f2, f3, f4, f5, f6⟩ := acc_facts g1 hc
  have ro : runOk low (I ++ [(k, q.2.1, q.2.2)]) = some (high + 1) := by
    rw [runOk_one f3, if_pos ⟨rfl, f4⟩, f5]
  rw [acc_of (rs := I ++ [(k, q.2.1, q.2.2)]) (mem_put (P := fun r => r.1 < ws.length) f1 hk), ro, if_pos rfl, List.all_append, f2]
  show (if (true && (rwOff ws s (k, q.2.1, q.2.2) && true)) = true then Wo.ok else Wo.off) = _
  rw [Bool.true_and, Bool.and_true]
  rfl
end
theorem acc_join {ws : List Nat} {s low high : Nat} (g1 : 1 ≤ low) {J : List Rw} {p q : Rw} (hc : Chn ws s high low (J ++ [p, q])) : accN ws s low high (J ++ [(p.1, p.2.1, q.2.2)]) = if isOff (ws.getD p.1 0) s p.2.1 q.2.2 = true then .ok else .off := by
  have e : J ++ [p, q] = (J ++ [p]) ++ [q] := by rw [List.append_assoc]; rfl
  rw [e] at hc
  obtain ⟨f1, f2, f3, f4, f5, f6⟩ := acc_facts g1 hc
  obtain ⟨h1, h2, h3⟩ := runOk_cut f3
  rw [List.all_append, Bool.and_eq_true] at f2
  have ro : runOk low (J ++ [(p.1, p.2.1, q.2.2)]) = some (high + 1) := by
    rw [runOk_one h1, if_pos ⟨rfl, by omega⟩, f5]
  rw [acc_of (rs := J ++ [(p.1, p.2.1, q.2.2)]) (mem_put (P := fun r => r.1 < ws.length) (fun r hr => f1 r (List.mem_append_left _ hr)) (f1 p (List.mem_append_right _ List.mem_cons_self))), ro, if_pos rfl, List.all_append, f2.1]
  show (if (true && (rwOff ws s (p.1, p.2.1, q.2.2) && true)) = true then Wo.ok else Wo.off) = _
  rw [Bool.true_and, Bool.and_true]
  rfl
/-- where a unit is good -/
theorem acc_lone {ws : List Nat} {s low high v : Nat} (g1 : 1 ≤ low) (hn : 0 < ws.length) (h1 : low ≤ v) (h2 : v ≤ high) (hv : ∀ w ∈ ws, gp w v ≤ s) : accN ws s low high [(0, low, high)] = .off := by
  rw [acc_of (fun r hr => by rw [List.mem_singleton.mp hr]; exact hn)]
  have r : runOk low [(0, low, high)] = some (high + 1) := by
    show (if low = low ∧ low ≤ high then some (high + 1) else none) = _
    rw [if_pos ⟨rfl, by omega⟩]
  rw [r, if_pos rfl, if_neg]
  intro z
  have z := (Bool.and_eq_true_iff.mp z).1
  have z : isOff (ws.getD 0 0) s low high = true := z
  have og := off_gap g1 z h1 h2
  have := hv (ws.getD 0 0) (by rw [List.getD_eq_getElem?_getD, List.getElem?_eq_getElem hn]; exact List.getElem_mem hn)
  omega
theorem acc_long {ws : List Nat} {s low high : Nat} (hn : 0 < ws.length) (h : low ≤ high) : accN ws s low high [(0, low, high + 1)] = .run := by
  rw [acc_of (fun r hr => by rw [List.mem_singleton.mp hr]; exact hn)]
  have r : runOk low [(0, low, high + 1)] = some (high + 1 + 1) := by
    show (if low = low ∧ low ≤ high + 1 then some (high + 1 + 1) else none) = _
    rw [if_pos ⟨rfl, by omega⟩]
  rw [r, if_neg (fun z => by
    have := Option.some.inj z
    omega)]
end Hk19
namespace Hk19
open PySem Mini
open L2 (atI ixN atI_nat kitB Key)
/-! ## the papers of times -/
abbrev pEn (ws : List Nat) (s u : Nat) (ts : List Nat) (low high : Nat) (R : D) (a b c d e f g h i : Slot) : En := [.vl .st, .vl (.tup (natL ws)), .vl (nD s), .vl (nD u), .vl (.tup (natL ts)), .vl (nD low), .vl (nD high), .vl R, a, b, c, d, e, f, g, h, i]
def tF (ws : List Nat) (s u : Nat) (ts : List Nat) : List Nat := (List.range ws.length).filter fun k => decide (s < ab (ws.getD k 0) (ts.getD k 0 * u))
theorem lc_times {ws ts : List Nat} (w : Wt ws) {s u : Nat} (u2 : u ≤ 100000) (hl : ts.length = ws.length) (ht : ∀ t ∈ ts, t ≤ 1000000) {j : Nat} {ρ : En} {S : DS} (h1 : slot ρ 1 = some (.tup (natL ws)))
    (h : ∀ k : Nat, slot (setV 12 (nD k) (wipeR ρ [12])) 1 = some (.tup (natL ws)) ∧ slot (setV 12 (nD k) (wipeR ρ [12])) 2 = some (nD s) ∧ slot (setV 12 (nD k) (wipeR ρ [12])) 3 = some (nD u) ∧ slot (setV 12 (nD k) (wipeR ρ [12])) j = some (.tup (natL ts)) ∧ slot (setV 12 (nD k) (wipeR ρ [12])) 12 = some (nD k)) :
    lcE (itR1 (op1 dLen (var 1))) (tgN 12) (valB (op2 dGt (op1 dAbs (op2 dSub (op2 dIxA (var 1) (var 12)) (op2 dMulX (op2 dIxA (var j) (var 12)) (var 3)))) (var 2))) (var 12) [12] ρ S = .ok (.lst (natL (tF ws s u ts))) S := by
  have n2 := w.n2
  refine lcN nD nD (fun k => decide (s < ab (ws.getD k 0) (ts.getD k 0 * u))) (rng1 (n := ws.length) (by omega) (op1_of (d := .tup (natL ws)) (var_of h1) (wd_tup ws).ln)) (fun k hk => ?_) (by rw [List.length_range]; omega)
  have hk := List.mem_range.mp hk
  obtain ⟨q1, q2, q3, q4, q5⟩ := h k
  have tk : ts.getD k 0 ≤ 1000000 := by
    rw [List.getD_eq_getElem?_getD, List.getElem?_eq_getElem (by omega)]
    exact ht _ (List.getElem_mem (by omega))
  exact ⟨_, rfl, val_of (op2_of (gap_of (w := ws.getD k 0) (t := ts.getD k 0) (u := u) (op2_of (var_of q1) (var_of q5) ((wd_tup ws).ix k hk)) (op2_of (d1 := .tup (natL ts)) (d2 := nD k) (var_of q4) (var_of q5) (at_natL (by omega))) (var_of q3) (by omega) (by omega)) (var_of q2) (gtN _ _)), fun _ => var_of q5⟩
theorem natL_snoc (l : List Nat) (x : Nat) : natL (l ++ [x]) = natL l ++ [nD x] := by
  unfold natL
  rw [List.map_append]
  rfl
section
variable {ws : List Nat} (w : Wt ws) {s u low high : Nat} (hs : s ≤ 100000) (u1 : 1 ≤ u) (u2 : u ≤ 100000)
include w hs u1 u2
theorem papers_times (R : D) {r : FS} {S : DS} : ∃ a b c d, seqS (asgS 8 (notE (lcE (itR1 (op1 dLen (var 1))) (tgN 12) (valB (op2 dGt (op1 dAbs (op2 dSub (op2 dIxA (var 1) (var 12)) (op2 dMulX (op2 dIxA (var 4) (var 12)) (var 3)))) (var 2))) (var 12) [12]))) (seqS (asgS 9 (op2 dAdd (slcX (var 4) noP (partP (op1 dNeg (cst (.int 1))))) (tupE (consA (op2 dAdd (op2 dIxA (var 4) (op1 dNeg (cst (.int 1)))) (cst (.int 1))) nilA)))) (seqS (asgS 10 (iteE (truB (lcE (itR1 (op1 dLen (var 1))) (tgN 12) (valB (op2 dGt (op1 dAbs (op2 dSub (op2 dIxA (var 1) (var 12)) (op2 dMulX (op2 dIxA (var 9) (var 12)) (var 3)))) (var 2))) (var 12) [12])) (cst (.str "paper weight")) (cst .non))) (seqS (asgOS 11 (lstE (consA (tupE (consA (lstE (consA (var 4) nilA)) (consA (iteE (truB (var 8)) (cst .non) (cst (.str "paper weight"))) nilA))) (consA (tupE (consA (lstE (consA (slcX (var 4) noP (partP (op1 dNeg (cst (.int 1))))) nilA)) (consA (cst (.str "paper form")) nilA))) (consA (tupE (consA (lstE (consA (op2 dAdd (slcX (var 4) noP (partP (op1 dNeg (cst (.int 1))))) (tupE (consA (cst (.int 0)) nilA))) nilA)) (consA (cst (.str "paper form")) nilA))) (consA (tupE (consA (lstE (consA (op2 dAdd (slcX (var 4) noP (partP (op1 dNeg (cst (.int 1))))) (tupE (consA (cst (.bl true)) nilA))) nilA)) (consA (cst (.str "paper form")) nilA))) (consA (tupE (consA (lstE (consA (var 9) nilA)) (consA (var 10) nilA))) nilA))))))) (seqS (frzS 11 (ifS (notB (truB (callE m__law_shown (consA (fnE 11) (consA (lstE (consA (var 1) (consA (var 2) (consA (var 3) nilA)))) (consA (var 11) nilA)))))) (retS (cst (.bl false))) skipS)) r)))) (pEn ws s u (tsN ws u) low high R .no .no .no .no .no .no .no .no .no) S = r (pEn ws s u (tsN ws u) low high R a b c d .no .no .no .no .no) S := by
  have n1 := w.n1; have n2 := w.n2
  have tl := ts_len ws u
  have tb : ∀ t ∈ tsN ws u, 1 ≤ t ∧ t ≤ 100001 := fun t ht => by
    obtain ⟨y, hy, rfl⟩ := List.mem_map.mp ht
    exact ⟨near_1 y u, near_top (w.r y hy).2⟩
  have tt := tim_fl ws s u (tsN ws u)
  obtain ⟨ini, x, hts⟩ := snoc_ex (l := tsN ws u) (fun z => by
    rw [z] at tl
    have h0 : ([] : List Nat).length = 0 := rfl
    omega)
  generalize tsN ws u = ts at *
  have il : ini.length + 1 = ws.length := by
    rw [← tl, hts, List.length_append]
    rfl
  have xb : 1 ≤ x ∧ x ≤ 100001 := tb x (by rw [hts]; exact List.mem_append_right _ List.mem_cons_self)
  have ib : ∀ t ∈ ini, 1 ≤ t ∧ t ≤ 100001 := fun t ht => tb t (by rw [hts]; exact List.mem_append_left _ ht)
  have hs4 : some (D.tup (natL ts)) = some (.tup (natL ini ++ [nD x])) := by rw [hts, natL_snoc]
  have e1 := lc_times w (s := s) u2 tl (fun t ht => by have := tb t ht; omega) (j := 4) (ρ := pEn ws s u ts low high R .no .no .no .no .no .no .no .no .no) (S := S) rfl (fun k => ⟨rfl, rfl, rfl, rfl, rfl⟩)
  have n1' := notE_of e1 (k := !(natL (tF ws s u ts)).isEmpty) rfl
  rw [Bool.not_not, emp_map] at n1'
  have e2 : op2 dAdd (slcX (var 4) noP (partP (op1 dNeg (cst (.int 1))))) (tupE (consA (op2 dAdd (op2 dIxA (var 4) (op1 dNeg (cst (.int 1)))) (cst (.int 1))) nilA)) (pEn ws s u ts low high R (.vl (.bl (tF ws s u ts).isEmpty)) .no .no .no .no .no .no .no .no) S = .ok (.tup (natL (ini ++ [x + 1]))) S := by
    rw [natL_snoc]
    exact put1 hs4 (by rw [natL_len]; omega) (op2_of (d2 := nD 1) (ix1 hs4) rfl (addN x 1))
  have lb : ∀ t ∈ ini ++ [x + 1], 1 ≤ t ∧ t ≤ 1000000 := fun t ht => by
    rcases List.mem_append.mp ht with z | z
    · have := ib t z
      omega
    · rw [List.mem_singleton.mp z]
      omega
  have ll : (ini ++ [x + 1]).length = ws.length := by
    rw [List.length_append]
    exact il
  have e3 := lc_times w (s := s) u2 ll (fun t ht => (lb t ht).2) (j := 9) (ρ := pEn ws s u ts low high R (.vl (.bl (tF ws s u ts).isEmpty)) (.vl (.tup (natL (ini ++ [x + 1])))) .no .no .no .no .no .no .no) (S := S) rfl (fun k => ⟨rfl, rfl, rfl, rfl, rfl⟩)
  have e3' : iteE (truB (lcE (itR1 (op1 dLen (var 1))) (tgN 12) (valB (op2 dGt (op1 dAbs (op2 dSub (op2 dIxA (var 1) (var 12)) (op2 dMulX (op2 dIxA (var 9) (var 12)) (var 3)))) (var 2))) (var 12) [12])) (cst (.str "paper weight")) (cst .non) (pEn ws s u ts low high R (.vl (.bl (tF ws s u ts).isEmpty)) (.vl (.tup (natL (ini ++ [x + 1])))) .no .no .no .no .no .no .no) S = .ok (timN ws s u (ini ++ [x + 1])).wd S := by
    have t := tru_ofE (k := !(natL (tF ws s u (ini ++ [x + 1]))).isEmpty) e3 rfl
    rw [emp_map] at t
    rw [tim_fl]
    show _ = Res.ok (Wo.wd (if (tF ws s u (ini ++ [x + 1])).isEmpty = true then .ok else .weight)) S
    cases z : (tF ws s u (ini ++ [x + 1])).isEmpty with
    | true =>
      rw [z] at t
      exact (ite_f t).trans rfl
    | false =>
      rw [z] at t
      exact (ite_t t).trans rfl
  have st : ∀ {r : FS}, seqS (asgS 8 (notE (lcE (itR1 (op1 dLen (var 1))) (tgN 12) (valB (op2 dGt (op1 dAbs (op2 dSub (op2 dIxA (var 1) (var 12)) (op2 dMulX (op2 dIxA (var 4) (var 12)) (var 3)))) (var 2))) (var 12) [12]))) (seqS (asgS 9 (op2 dAdd (slcX (var 4) noP (partP (op1 dNeg (cst (.int 1))))) (tupE (consA (op2 dAdd (op2 dIxA (var 4) (op1 dNeg (cst (.int 1)))) (cst (.int 1))) nilA)))) (seqS (asgS 10 (iteE (truB (lcE (itR1 (op1 dLen (var 1))) (tgN 12) (valB (op2 dGt (op1 dAbs (op2 dSub (op2 dIxA (var 1) (var 12)) (op2 dMulX (op2 dIxA (var 9) (var 12)) (var 3)))) (var 2))) (var 12) [12])) (cst (.str "paper weight")) (cst .non))) r)) (pEn ws s u ts low high R .no .no .no .no .no .no .no .no .no) S = r (pEn ws s u ts low high R (.vl (.bl (tF ws s u ts).isEmpty)) (.vl (.tup (natL (ini ++ [x + 1])))) (.vl (timN ws s u (ini ++ [x + 1])).wd) .no .no .no .no .no .no) S := fun {r} =>
    (seq_nx (asg_of n1')).trans ((seq_nx (asg_of e2)).trans (seq_nx (asg_of e3')))
  have wT : iteE (truB (var 8)) (cst .non) (cst (.str "paper weight")) (pEn ws s u ts low high R (.vl (.bl (tF ws s u ts).isEmpty)) (.vl (.tup (natL (ini ++ [x + 1])))) (.vl (timN ws s u (ini ++ [x + 1])).wd) .no .no .no .no .no .no) S = .ok (timN ws s u ts).wd S := by
    have t : truB (var 8) (pEn ws s u ts low high R (.vl (.bl (tF ws s u ts).isEmpty)) (.vl (.tup (natL (ini ++ [x + 1])))) (.vl (timN ws s u (ini ++ [x + 1])).wd) .no .no .no .no .no .no) S = .ok (tF ws s u ts).isEmpty S := tru_ofE (d := .bl (tF ws s u ts).isEmpty) rfl rfl
    rw [tt]
    show _ = Res.ok (Wo.wd (if (tF ws s u ts).isEmpty = true then .ok else .weight)) S
    cases z : (tF ws s u ts).isEmpty with
    | true =>
      rw [z] at t
      exact (ite_t t).trans rfl
    | false =>
      rw [z] at t
      exact (ite_f t).trans rfl
  generalize hP : [(D.tup (natL ts), timN ws s u ts), (.tup (natL ini), .form), (.tup (natL ini ++ [.int 0]), .form), (.tup (natL ini ++ [.bl true]), .form), (.tup (natL (ini ++ [x + 1])), timN ws s u (ini ++ [x + 1]))] = ps
  have e4 : (asgOS 11 (lstE (consA (tupE (consA (lstE (consA (var 4) nilA)) (consA (iteE (truB (var 8)) (cst .non) (cst (.str "paper weight"))) nilA))) (consA (tupE (consA (lstE (consA (slcX (var 4) noP (partP (op1 dNeg (cst (.int 1))))) nilA)) (consA (cst (.str "paper form")) nilA))) (consA (tupE (consA (lstE (consA (op2 dAdd (slcX (var 4) noP (partP (op1 dNeg (cst (.int 1))))) (tupE (consA (cst (.int 0)) nilA))) nilA)) (consA (cst (.str "paper form")) nilA))) (consA (tupE (consA (lstE (consA (op2 dAdd (slcX (var 4) noP (partP (op1 dNeg (cst (.int 1))))) (tupE (consA (cst (.bl true)) nilA))) nilA)) (consA (cst (.str "paper form")) nilA))) (consA (tupE (consA (lstE (consA (var 9) nilA)) (consA (var 10) nilA))) nilA))))))) (pEn ws s u ts low high R (.vl (.bl (tF ws s u ts).isEmpty)) (.vl (.tup (natL (ini ++ [x + 1])))) (.vl (timN ws s u (ini ++ [x + 1])).wd) .no .no .no .no .no .no) S = .ok (.nx (pEn ws s u ts low high R (.vl (.bl (tF ws s u ts).isEmpty)) (.vl (.tup (natL (ini ++ [x + 1])))) (.vl (timN ws s u (ini ++ [x + 1])).wd) (.ow (.lst (ps.map ppD))) .no .no .no .no .no)) S := by
    rw [← hP]
    exact asgO_of (lst5 (pap_of (w := timN ws s u ts) rfl wT) (pap_of (w := .form) (slc1 hs4) rfl) (pap_of (w := .form) (put1 hs4 (by rw [natL_len]; omega) rfl) rfl) (pap_of (w := .form) (put1 hs4 (by rw [natL_len]; omega) rfl) rfl) (pap_of (w := timN ws s u (ini ++ [x + 1])) rfl rfl))
  have ar : ∀ y, Arg y → ∀ z ∈ natL ini ++ [y], Arg z := fun y hy z hz => by
    rcases List.mem_append.mp hz with q | q
    · obtain ⟨n, _, rfl⟩ := List.mem_map.mp q
      exact trivial
    · rw [List.mem_singleton.mp q]
      exact hy
  have nf : ∀ y, okT y = false → (natL ini ++ [y]).all okT = false := fun y hy => by
    rw [List.all_append, List.all_cons, hy, Bool.false_and, Bool.and_false]
  have ln : ∀ y, (natL ini ++ [y]).length = ws.length := fun y => by
    rw [List.length_append, natL_len]
    exact il
  have sh := v_shown (n := 11) (F := m_accept_times) rfl (ah := [.tup (natL ws), nD s, nD u]) (by show 3 ≤ 4; omega) ps (by rw [← hP]; show 5 ≤ 100; omega) (fun q hq S => by
    rw [← hP] at hq
    simp only [List.mem_cons, List.not_mem_nil, or_false] at hq
    rcases hq with rfl | rfl | rfl | rfl | rfl
    · exact v_times_nat w hs u1 u2 (fun t ht => by have := tb t ht; omega) tl S
    · exact v_times_len w hs u1 u2 (by rw [natL_len]; omega) S
    · exact v_times_bad w hs u1 u2 (ar (.int 0) trivial) (ln _) (nf _ rfl) S
    · exact v_times_bad w hs u1 u2 (ar (.bl true) trivial) (ln _) (nf _ rfl) S
    · exact v_times_nat w hs u1 u2 lb ll S) S
  refine ⟨.vl (.bl (tF ws s u ts).isEmpty), .vl (.tup (natL (ini ++ [x + 1]))), .vl (timN ws s u (ini ++ [x + 1])).wd, .vl (.lst (ps.map ppD)), st.trans ((seq_nx e4).trans (seq_nx ?_))⟩
  refine (frz_ow (d := .lst (ps.map ppD)) rfl).trans ?_
  exact if_f (not_of (tru_ofE (call3_of (d := .fn 11) rfl (lst3 rfl rfl rfl) rfl sh) rfl))
end
end Hk19
namespace Hk19
open PySem Mini
open L2 (atI ixN atI_nat kitB Key)
/-! ## the papers of rows -/
def rT (rs : List Rw) : D := .tup (rs.map rD)
theorem rT_snoc (I : List Rw) (x : Rw) : rT (I ++ [x]) = .tup (I.map rD ++ [rD x]) := by
  unfold rT
  rw [List.map_append]
  rfl
theorem pp_snoc (ps : List (D × Wo)) (x : D × Wo) : ps.map ppD ++ [ppD x] = (ps ++ [x]).map ppD := by
  rw [List.map_append]
  rfl
def offW (b : Bool) : Wo := if b = true then .ok else .off
theorem offw_of {f : FB} {ρ : En} {S : DS} {b : Bool} (h : f ρ S = .ok b S) : iteE f (cst .non) (cst (.str "paper off")) ρ S = .ok (offW b).wd S := by
  cases b with
  | true => exact (ite_t h).trans rfl
  | false => exact (ite_f h).trans rfl
def kP (ws : List Nat) (s : Nat) (I : List Rw) (q : Rw) (k : Nat) : D × Wo := (rT (I ++ [(k, q.2.1, q.2.2)]), offW (isOff (ws.getD k 0) s q.2.1 q.2.2))
theorem call_off {f1 f2 f3 f4 : FE} {ρ : En} {S : DS} {w s a b : Nat} (h1 : f1 ρ S = .ok (nD w) S) (h2 : f2 ρ S = .ok (nD s) S) (h3 : f3 ρ S = .ok (nD a) S) (h4 : f4 ρ S = .ok (nD b) S) (hw : w ≤ 100000) (ha : a ≤ 1000000) (b1 : 1 ≤ b) (b2 : b ≤ 1000000) :
    truB (callE m__law_is_off (consA f1 (consA f2 (consA f3 (consA f4 nilA))))) ρ S = .ok (isOff w s a b) S := tru_ofE (call4_of h1 h2 h3 h4 (v__law_is_off hw ha b1 b2 S)) rfl
section
variable {ws : List Nat} (w : Wt ws) (l6 : ws.length ≤ 6) {s u low high : Nat} (hs : s ≤ 100000) (g : Rg ws low high) (hb : high ≤ low + 100)
include w l6 hs g hb
theorem none_law {rs : List Rw} {v : Wo} (hl : rs.length ≤ 1000) (h : accN ws s low high rs = v) (S : DS) : m_accept_none ([.tup (natL ws), nD s, nD low, nD high] ++ [rT rs]) S = resW v S := by
  have g2 := g.lh
  rw [← h]
  exact v_none_nat (wd_tup ws) w hs g (Nat.le_trans (Nat.mul_le_mul (show high - low + 1 ≤ 101 by omega) l6) (by decide)) hl S
theorem none_true {I : List Rw} {a b : Nat} (hl : I.length ≤ 900) (S : DS) : m_accept_none ([.tup (natL ws), nD s, nD low, nD high] ++ [.tup (I.map rD ++ [.tup [nD a, nD b, .bl true]])]) S = resW .form S := by
  have g2 := g.lh
  have e : (I.map r3 ++ [[nD a, nD b, .bl true]]).map D.tup = I.map rD ++ [.tup [nD a, nD b, .bl true]] := by
    rw [List.map_append, List.map_map]
    rfl
  have z := v_none_bad (wd_tup ws) w hs g (Nat.le_trans (Nat.mul_le_mul (show high - low + 1 ≤ 101 by omega) l6) (by decide)) (rows := I.map r3 ++ [[nD a, nD b, .bl true]]) (fun x hx => by
    rcases List.mem_append.mp hx with q | q
    · obtain ⟨r, _, rfl⟩ := List.mem_map.mp q
      rfl
    · rw [List.mem_singleton.mp q]
      rfl) (fun x hx y hy => by
    rcases List.mem_append.mp hx with q | q
    · obtain ⟨r, _, rfl⟩ := List.mem_map.mp q
      simp only [r3, List.mem_cons, List.not_mem_nil, or_false] at hy
      rcases hy with rfl | rfl | rfl <;> exact trivial
    · rw [List.mem_singleton.mp q] at hy
      simp only [List.mem_cons, List.not_mem_nil, or_false] at hy
      rcases hy with rfl | rfl | rfl <;> exact trivial) (by rw [List.length_append, List.length_map, List.length_singleton]; omega) (by
    rw [List.flatten_append, List.all_append]
    show (_ && (isI (nD a) && (isI (nD b) && (isI (.bl true) && true)))) = false
    show (_ && false) = false
    rw [Bool.and_false]) S
  rw [e] at z
  exact z
theorem papers_none {ts : List Nat} {v : Nat} (h1 : low ≤ v) (h2 : v ≤ high) (hv : ∀ x ∈ ws, gp x v ≤ s) {r : FS} {a b c d : Slot} {S : DS} : seqS (ifS (valB (op2 dIs (var 7) (cst .non))) (seqS (asgS 13 (tupE (consA (tupE (consA (cst (.int 0)) (consA (var 5) (consA (var 6) nilA)))) nilA))) (retS (callE m__law_shown (consA (fnE 12) (consA (lstE (consA (var 1) (consA (var 2) (consA (var 5) (consA (var 6) nilA))))) (consA (lstE (consA (tupE (consA (lstE (consA (var 13) nilA)) (consA (cst (.str "paper off")) nilA))) (consA (tupE (consA (lstE (consA (tupE (consA (tupE (consA (cst (.int 0)) (consA (var 5) (consA (op2 dAdd (var 6) (cst (.int 1))) nilA)))) nilA)) nilA)) (consA (cst (.str "paper run")) nilA))) (consA (tupE (consA (lstE (consA (tupE (consA (tupE (consA (op1 dLen (var 1)) (consA (var 5) (consA (var 6) nilA)))) nilA)) nilA)) (consA (cst (.str "paper form")) nilA))) nilA)))) nilA)))))) skipS) r (pEn ws s u ts low high .non a b c d .no .no .no .no .no) S = .ok (.rt (.bl true)) S := by
  have n1 := w.n1; have n2 := w.n2; have g1 := g.l1
  have t : valB (op2 dIs (var 7) (cst .non)) (pEn ws s u ts low high .non a b c d .no .no .no .no .no) S = .ok true S := val_of (op2_of (d1 := .non) rfl rfl rfl)
  refine seq_rt ((if_t t).trans ?_)
  have a1 : asgS 13 (tupE (consA (tupE (consA (cst (.int 0)) (consA (var 5) (consA (var 6) nilA)))) nilA)) (pEn ws s u ts low high .non a b c d .no .no .no .no .no) S = .ok (.nx (pEn ws s u ts low high .non a b c d .no (.vl (rT [(0, low, high)])) .no .no .no)) S := asg_of (tup1 (tup3 (d := nD 0) (e := nD low) (i := nD high) rfl rfl rfl))
  refine (seq_nx a1).trans (ret_of ?_)
  generalize hP : [(rT [(0, low, high)], Wo.off), (rT [(0, low, high + 1)], .run), (rT [(ws.length, low, high)], .form)] = ps
  have sh := v_shown (n := 12) (F := m_accept_none) rfl (ah := [.tup (natL ws), nD s, nD low, nD high]) (by show 4 ≤ 4; omega) ps (by rw [← hP]; show 3 ≤ 100; omega) (fun q hq S => by
    rw [← hP] at hq
    simp only [List.mem_cons, List.not_mem_nil, or_false] at hq
    rcases hq with rfl | rfl | rfl
    · exact none_law w l6 hs g hb (by show 1 ≤ 1000; omega) (acc_lone g1 (by omega) h1 h2 hv) S
    · exact none_law w l6 hs g hb (by show 1 ≤ 1000; omega) (acc_long (by omega) g.lh) S
    · exact none_law w l6 hs g hb (by show 1 ≤ 1000; omega) (acc_form (I := []) (x := (ws.length, low, high)) (Nat.lt_irrefl _)) S) S
  rw [← hP] at sh
  refine call3_of (d := .fn 12) rfl (lst4 rfl rfl rfl rfl) (lst3 (pap_of (w := .off) (x := rT [(0, low, high)]) rfl rfl) (pap_of (w := .run) (x := rT [(0, low, high + 1)]) (tup1 (tup3 (d := nD 0) (e := nD low) (i := nD (high + 1)) rfl rfl (op2_of (d1 := nD high) (d2 := nD 1) rfl rfl (addN _ 1)))) rfl) (pap_of (w := .form) (x := rT [(ws.length, low, high)]) (tup1 (tup3 (d := nD ws.length) (e := nD low) (i := nD high) (op1_of (d := .tup (natL ws)) rfl (wd_tup ws).ln) rfl rfl)) rfl)) sh
theorem papers_some {ts : List Nat} {rs : List Rw} (hc : Chn ws s high low rs) {a b c d : Slot} {S : DS} : (seqS (ifS (valB (op2 dIs (var 7) (cst .non))) (seqS (asgS 13 (tupE (consA (tupE (consA (cst (.int 0)) (consA (var 5) (consA (var 6) nilA)))) nilA))) (retS (callE m__law_shown (consA (fnE 12) (consA (lstE (consA (var 1) (consA (var 2) (consA (var 5) (consA (var 6) nilA))))) (consA (lstE (consA (tupE (consA (lstE (consA (var 13) nilA)) (consA (cst (.str "paper off")) nilA))) (consA (tupE (consA (lstE (consA (tupE (consA (tupE (consA (cst (.int 0)) (consA (var 5) (consA (op2 dAdd (var 6) (cst (.int 1))) nilA)))) nilA)) nilA)) (consA (cst (.str "paper run")) nilA))) (consA (tupE (consA (lstE (consA (tupE (consA (tupE (consA (op1 dLen (var 1)) (consA (var 5) (consA (var 6) nilA)))) nilA)) nilA)) (consA (cst (.str "paper form")) nilA))) nilA)))) nilA)))))) skipS) (seqS (asgT (tgT [(tgN 14), (tgN 15), (tgN 16)]) (op2 dIxA (var 7) (op1 dNeg (cst (.int 1))))) (seqS (asgOS 11 (lstE (consA (tupE (consA (lstE (consA (var 7) nilA)) (consA (cst .non) nilA))) (consA (tupE (consA (lstE (consA (slcX (var 7) noP (partP (op1 dNeg (cst (.int 1))))) nilA)) (consA (cst (.str "paper run")) nilA))) (consA (tupE (consA (lstE (consA (op2 dAdd (slcX (var 7) noP (partP (op1 dNeg (cst (.int 1))))) (tupE (consA (tupE (consA (var 14) (consA (var 15) (consA (op2 dAdd (var 16) (cst (.int 1))) nilA)))) nilA))) nilA)) (consA (cst (.str "paper run")) nilA))) (consA (tupE (consA (lstE (consA (op2 dAdd (slcX (var 7) noP (partP (op1 dNeg (cst (.int 1))))) (tupE (consA (tupE (consA (var 14) (consA (var 15) (consA (cst (.bl true)) nilA)))) nilA))) nilA)) (consA (cst (.str "paper form")) nilA))) nilA)))))) (seqS (asgOS 11 (op2 dCat (varB 11) (lstE (consA (tupE (consA (lstE (consA (op2 dAdd (slcX (var 7) noP (partP (op1 dNeg (cst (.int 1))))) (tupE (consA (tupE (consA (op1 dLen (var 1)) (consA (var 15) (consA (var 16) nilA)))) nilA))) nilA)) (consA (cst (.str "paper form")) nilA))) nilA)))) (seqS (forS (itR1 (op1 dLen (var 1))) (tgN 12) (appS 11 (tupE (consA (lstE (consA (op2 dAdd (slcX (var 7) noP (partP (op1 dNeg (cst (.int 1))))) (tupE (consA (tupE (consA (var 12) (consA (var 15) (consA (var 16) nilA)))) nilA))) nilA)) (consA (iteE (truB (callE m__law_is_off (consA (op2 dIxA (var 1) (var 12)) (consA (var 2) (consA (var 15) (consA (var 16) nilA)))))) (cst .non) (cst (.str "paper off"))) nilA))))) (seqS (ifS (valB (op2 dGt (op1 dLen (var 7)) (cst (.int 1)))) (appS 11 (tupE (consA (lstE (consA (op2 dAdd (slcX (var 7) noP (partP (op1 dNeg (cst (.int 2))))) (tupE (consA (tupE (consA (op2 dIxA (op2 dIxA (var 7) (op1 dNeg (cst (.int 2)))) (cst (.int 0))) (consA (op2 dIxA (op2 dIxA (var 7) (op1 dNeg (cst (.int 2)))) (cst (.int 1))) (consA (var 16) nilA)))) nilA))) nilA)) (consA (iteE (truB (callE m__law_is_off (consA (op2 dIxA (var 1) (op2 dIxA (op2 dIxA (var 7) (op1 dNeg (cst (.int 2)))) (cst (.int 0)))) (consA (var 2) (consA (op2 dIxA (op2 dIxA (var 7) (op1 dNeg (cst (.int 2)))) (cst (.int 1))) (consA (var 16) nilA)))))) (cst .non) (cst (.str "paper off"))) nilA)))) skipS) (frzS 11 (retS (callE m__law_shown (consA (fnE 12) (consA (lstE (consA (var 1) (consA (var 2) (consA (var 5) (consA (var 6) nilA))))) (consA (var 11) nilA)))))))))))) (pEn ws s u ts low high (rT rs) a b c d .no .no .no .no .no) S = .ok (.rt (.bl true)) S := by
  have n1 := w.n1; have n2 := w.n2; have g1 := g.l1; have g2 := g.lh; have g3 := g.h2
  have cl := chn_len rs low hc
  obtain ⟨I, q, hrs⟩ := snoc_ex (l := rs) (fun z => by
    rw [z] at hc
    have hc : low = high + 1 := hc
    omega)
  have hc' := hc
  rw [hrs] at hc'
  have lI : I.length + 1 = rs.length := by rw [hrs, List.length_append]; rfl
  obtain ⟨f1, f2, f3, f4, f5, f6⟩ := acc_facts g1 hc'
  have fq : q.1 < ws.length := (chn_mem rs low g1 hc q (by rw [hrs]; exact List.mem_append_right _ List.mem_cons_self)).1
  have hs7 : some (rT rs) = some (.tup (I.map rD ++ [rD q])) := by rw [hrs, rT_snoc]
  have mI : (I.map rD).length ≤ 1000 := by rw [List.length_map]; omega
  have t6 : valB (op2 dIs (var 7) (cst .non)) (pEn ws s u ts low high (rT rs) a b c d .no .no .no .no .no) S = .ok false S := val_of (op2_of (d1 := rT rs) rfl rfl rfl)
  have a7 : (asgT (tgT [(tgN 14), (tgN 15), (tgN 16)]) (op2 dIxA (var 7) (op1 dNeg (cst (.int 1))))) (pEn ws s u ts low high (rT rs) a b c d .no .no .no .no .no) S = .ok (.nx (pEn ws s u ts low high (rT rs) a b c d .no .no (.vl (nD q.1)) (.vl (nD q.2.1)) (.vl (nD q.2.2)))) S := asgT_of (ix1 hs7) rfl
  have q22 : ∀ x : Slot, op2 dAdd (var 16) (cst (.int 1)) (pEn ws s u ts low high (rT rs) a b c x .no .no (.vl (nD q.1)) (.vl (nD q.2.1)) (.vl (nD q.2.2))) S = .ok (nD (q.2.2 + 1)) S := fun x => op2_of (d1 := nD q.2.2) (d2 := nD 1) rfl rfl (addN _ 1)
  have a8 : (asgOS 11 (lstE (consA (tupE (consA (lstE (consA (var 7) nilA)) (consA (cst .non) nilA))) (consA (tupE (consA (lstE (consA (slcX (var 7) noP (partP (op1 dNeg (cst (.int 1))))) nilA)) (consA (cst (.str "paper run")) nilA))) (consA (tupE (consA (lstE (consA (op2 dAdd (slcX (var 7) noP (partP (op1 dNeg (cst (.int 1))))) (tupE (consA (tupE (consA (var 14) (consA (var 15) (consA (op2 dAdd (var 16) (cst (.int 1))) nilA)))) nilA))) nilA)) (consA (cst (.str "paper run")) nilA))) (consA (tupE (consA (lstE (consA (op2 dAdd (slcX (var 7) noP (partP (op1 dNeg (cst (.int 1))))) (tupE (consA (tupE (consA (var 14) (consA (var 15) (consA (cst (.bl true)) nilA)))) nilA))) nilA)) (consA (cst (.str "paper form")) nilA))) nilA)))))) (pEn ws s u ts low high (rT rs) a b c d .no .no (.vl (nD q.1)) (.vl (nD q.2.1)) (.vl (nD q.2.2))) S = .ok (.nx (pEn ws s u ts low high (rT rs) a b c (.ow (.lst ([(rT rs, Wo.ok), (rT I, .run), (rT (I ++ [(q.1, q.2.1, q.2.2 + 1)]), .run), (.tup (I.map rD ++ [.tup [nD q.1, nD q.2.1, .bl true]]), .form)].map ppD))) .no .no (.vl (nD q.1)) (.vl (nD q.2.1)) (.vl (nD q.2.2)))) S := by
    rw [rT_snoc]
    exact asgO_of (lst4 (pap_of (w := .ok) rfl rfl) (pap_of (w := .run) (x := rT I) (slc1 hs7) rfl) (pap_of (w := .run) (put1 hs7 mI (tup3 (d := nD q.1) (e := nD q.2.1) rfl rfl (q22 _))) rfl) (pap_of (w := .form) (put1 hs7 mI (tup3 (d := nD q.1) (e := nD q.2.1) (i := .bl true) rfl rfl rfl)) rfl))
  generalize hP1 : [(rT rs, Wo.ok), (rT I, Wo.run), (rT (I ++ [(q.1, q.2.1, q.2.2 + 1)]), Wo.run), (D.tup (I.map rD ++ [.tup [nD q.1, nD q.2.1, .bl true]]), Wo.form)] = ps1 at a8
  have L1 : ps1.length = 4 := by rw [← hP1]; rfl
  have a9 : (asgOS 11 (op2 dCat (varB 11) (lstE (consA (tupE (consA (lstE (consA (op2 dAdd (slcX (var 7) noP (partP (op1 dNeg (cst (.int 1))))) (tupE (consA (tupE (consA (op1 dLen (var 1)) (consA (var 15) (consA (var 16) nilA)))) nilA))) nilA)) (consA (cst (.str "paper form")) nilA))) nilA)))) (pEn ws s u ts low high (rT rs) a b c (.ow (.lst (ps1.map ppD))) .no .no (.vl (nD q.1)) (.vl (nD q.2.1)) (.vl (nD q.2.2))) S = .ok (.nx (pEn ws s u ts low high (rT rs) a b c (.ow (.lst ((ps1 ++ [(rT (I ++ [(ws.length, q.2.1, q.2.2)]), Wo.form)]).map ppD))) .no .no (.vl (nD q.1)) (.vl (nD q.2.1)) (.vl (nD q.2.2)))) S := by
    rw [← pp_snoc, rT_snoc]
    exact asgO_of (op2_of (d1 := .lst (ps1.map ppD)) rfl (lst1 (pap_of (w := .form) (put1 hs7 mI (tup3 (d := nD ws.length) (e := nD q.2.1) (i := nD q.2.2) (op1_of (d := .tup (natL ws)) rfl (wd_tup ws).ln) rfl rfl)) rfl)) (catC (by rw [List.length_map, List.length_singleton]; omega)))
  generalize hP2 : ps1 ++ [(rT (I ++ [(ws.length, q.2.1, q.2.2)]), Wo.form)] = ps2 at a9
  have L2 : ps2.length = 5 := by rw [← hP2, List.length_append, L1]; rfl
  have it : itR1 (op1 dLen (var 1)) (pEn ws s u ts low high (rT rs) a b c (.ow (.lst (ps2.map ppD))) .no .no (.vl (nD q.1)) (.vl (nD q.2.1)) (.vl (nD q.2.2))) S = .ok ((List.range ws.length).map nD) S := rng1 (by omega) (op1_of (d := .tup (natL ws)) rfl (wd_tup ws).ln)
  obtain ⟨ρ', S', qq, es, x12, rfl⟩ := forL_inv (t := tgN 12) (b := (appS 11 (tupE (consA (lstE (consA (op2 dAdd (slcX (var 7) noP (partP (op1 dNeg (cst (.int 1))))) (tupE (consA (tupE (consA (var 12) (consA (var 15) (consA (var 16) nilA)))) nilA))) nilA)) (consA (iteE (truB (callE m__law_is_off (consA (op2 dIxA (var 1) (var 12)) (consA (var 2) (consA (var 15) (consA (var 16) nilA)))))) (cst .non) (cst (.str "paper off"))) nilA))))) (ds := (List.range ws.length).map nD) (fun i ρ S1 => S1 = S ∧ ∃ x, ρ = pEn ws s u ts low high (rT rs) a b c (.ow (.lst ((ps2 ++ (List.range i).map (kP ws s I q)).map ppD))) x .no (.vl (nD q.1)) (.vl (nD q.2.1)) (.vl (nD q.2.2))) (fun i y ρ S1 hi ⟨es, x, e⟩ => by
    subst e
    subst es
    rw [List.getElem?_map] at hi
    obtain ⟨j, hj, rfl⟩ := Option.map_eq_some_iff.mp hi
    obtain ⟨hj1, hj2⟩ := List.getElem?_eq_some_iff.mp hj
    rw [List.length_range] at hj1
    have e : j = i := by rw [← hj2, List.getElem_range]
    subst e
    refine ⟨pEn ws s u ts low high (rT rs) a b c (.ow (.lst ((ps2 ++ (List.range j).map (kP ws s I q)).map ppD))) (.vl (nD j)) .no (.vl (nD q.1)) (.vl (nD q.2.1)) (.vl (nD q.2.2)), pEn ws s u ts low high (rT rs) a b c (.ow (.lst ((ps2 ++ (List.range (j + 1)).map (kP ws s I q)).map ppD))) (.vl (nD j)) .no (.vl (nD q.1)) (.vl (nD q.2.1)) (.vl (nD q.2.2)), S1, rfl, .inl ?_, rfl, _, rfl⟩
    have e2 : (ps2 ++ (List.range (j + 1)).map (kP ws s I q)).map ppD = (ps2 ++ (List.range j).map (kP ws s I q)).map ppD ++ [ppD (kP ws s I q j)] := by
      have e0 : (List.range (j + 1)).map (kP ws s I q) = (List.range j).map (kP ws s I q) ++ [kP ws s I q j] := by
        rw [List.range_succ, List.map_append]
        rfl
      rw [pp_snoc, e0, List.append_assoc]
    rw [e2]
    have ek : kP ws s I q j = (.tup (I.map rD ++ [rD (j, q.2.1, q.2.2)]), offW (isOff (ws.getD j 0) s q.2.1 q.2.2)) := by
      unfold kP
      rw [rT_snoc]
    rw [ek]
    refine app_of (i := 11) (ds := (ps2 ++ (List.range j).map (kP ws s I q)).map ppD) rfl (pap_of (put1 hs7 mI (tup3 (d := nD j) (e := nD q.2.1) (i := nD q.2.2) rfl rfl rfl)) (offw_of (call_off (w := ws.getD j 0) (s := s) (a := q.2.1) (b := q.2.2) (op2_of (d1 := .tup (natL ws)) (d2 := nD j) rfl rfl ((wd_tup ws).ix j hj1)) rfl rfl rfl (w.g hj1).2 (by omega) (by omega) (by omega)))) ?_
    rw [List.length_map, List.length_append, L2, List.length_map, List.length_range]
    omega) (ρ := pEn ws s u ts low high (rT rs) a b c (.ow (.lst (ps2.map ppD))) .no .no (.vl (nD q.1)) (.vl (nD q.2.1)) (.vl (nD q.2.2))) (S := S) ⟨rfl, .no, by rw [List.range_zero, List.map_nil, List.append_nil]⟩
  subst es
  rw [List.length_map, List.length_range] at qq
  generalize hP3 : ps2 ++ (List.range ws.length).map (kP ws s I q) = ps3 at qq
  have L3 : ps3.length ≤ 11 := by
    rw [← hP3, List.length_append, L2, List.length_map, List.length_range]
    omega
  have ok3 : ∀ p ∈ ps3, ∀ S, m_accept_none ([.tup (natL ws), nD s, nD low, nD high] ++ [p.1]) S = resW p.2 S := fun p hp S => by
    rw [← hP3] at hp
    rcases List.mem_append.mp hp with z | z
    · rw [← hP2] at z
      rcases List.mem_append.mp z with z | z
      · rw [← hP1] at z
        simp only [List.mem_cons, List.not_mem_nil, or_false] at z
        rcases z with rfl | rfl | rfl | rfl
        · exact none_law w l6 hs g hb (by omega) (acc_full g1 hc) S
        · exact none_law w l6 hs g hb (by omega) (acc_less g1 hc') S
        · exact none_law w l6 hs g hb (by rw [List.length_append, List.length_singleton]; omega) (acc_over g1 hc' fq) S
        · exact none_true w l6 hs g hb (by omega) S
      · rw [List.mem_singleton.mp z]
        exact none_law w l6 hs g hb (by rw [List.length_append, List.length_singleton]; omega) (acc_form (Nat.lt_irrefl _)) S
    · obtain ⟨k, hk, rfl⟩ := List.mem_map.mp z
      exact none_law w l6 hs g hb (by rw [List.length_append, List.length_singleton]; omega) (acc_k g1 hc' (List.mem_range.mp hk)) S
  have t11 : valB (op2 dGt (op1 dLen (var 7)) (cst (.int 1))) (pEn ws s u ts low high (rT rs) a b c (.ow (.lst (ps3.map ppD))) x12 .no (.vl (nD q.1)) (.vl (nD q.2.1)) (.vl (nD q.2.2))) S' = .ok (decide (1 < rs.length)) S' := val_of (op2_of (d1 := nD rs.length) (d2 := nD 1) (op1_of (d := rT rs) rfl (by
    show some (D.int ((rs.map rD).length : Int)) = _
    rw [List.length_map]
    rfl)) rfl (gtN _ _))
  have go : ∀ {r : FS}, (seqS (ifS (valB (op2 dIs (var 7) (cst .non))) (seqS (asgS 13 (tupE (consA (tupE (consA (cst (.int 0)) (consA (var 5) (consA (var 6) nilA)))) nilA))) (retS (callE m__law_shown (consA (fnE 12) (consA (lstE (consA (var 1) (consA (var 2) (consA (var 5) (consA (var 6) nilA))))) (consA (lstE (consA (tupE (consA (lstE (consA (var 13) nilA)) (consA (cst (.str "paper off")) nilA))) (consA (tupE (consA (lstE (consA (tupE (consA (tupE (consA (cst (.int 0)) (consA (var 5) (consA (op2 dAdd (var 6) (cst (.int 1))) nilA)))) nilA)) nilA)) (consA (cst (.str "paper run")) nilA))) (consA (tupE (consA (lstE (consA (tupE (consA (tupE (consA (op1 dLen (var 1)) (consA (var 5) (consA (var 6) nilA)))) nilA)) nilA)) (consA (cst (.str "paper form")) nilA))) nilA)))) nilA)))))) skipS) (seqS (asgT (tgT [(tgN 14), (tgN 15), (tgN 16)]) (op2 dIxA (var 7) (op1 dNeg (cst (.int 1))))) (seqS (asgOS 11 (lstE (consA (tupE (consA (lstE (consA (var 7) nilA)) (consA (cst .non) nilA))) (consA (tupE (consA (lstE (consA (slcX (var 7) noP (partP (op1 dNeg (cst (.int 1))))) nilA)) (consA (cst (.str "paper run")) nilA))) (consA (tupE (consA (lstE (consA (op2 dAdd (slcX (var 7) noP (partP (op1 dNeg (cst (.int 1))))) (tupE (consA (tupE (consA (var 14) (consA (var 15) (consA (op2 dAdd (var 16) (cst (.int 1))) nilA)))) nilA))) nilA)) (consA (cst (.str "paper run")) nilA))) (consA (tupE (consA (lstE (consA (op2 dAdd (slcX (var 7) noP (partP (op1 dNeg (cst (.int 1))))) (tupE (consA (tupE (consA (var 14) (consA (var 15) (consA (cst (.bl true)) nilA)))) nilA))) nilA)) (consA (cst (.str "paper form")) nilA))) nilA)))))) (seqS (asgOS 11 (op2 dCat (varB 11) (lstE (consA (tupE (consA (lstE (consA (op2 dAdd (slcX (var 7) noP (partP (op1 dNeg (cst (.int 1))))) (tupE (consA (tupE (consA (op1 dLen (var 1)) (consA (var 15) (consA (var 16) nilA)))) nilA))) nilA)) (consA (cst (.str "paper form")) nilA))) nilA)))) (seqS (forS (itR1 (op1 dLen (var 1))) (tgN 12) (appS 11 (tupE (consA (lstE (consA (op2 dAdd (slcX (var 7) noP (partP (op1 dNeg (cst (.int 1))))) (tupE (consA (tupE (consA (var 12) (consA (var 15) (consA (var 16) nilA)))) nilA))) nilA)) (consA (iteE (truB (callE m__law_is_off (consA (op2 dIxA (var 1) (var 12)) (consA (var 2) (consA (var 15) (consA (var 16) nilA)))))) (cst .non) (cst (.str "paper off"))) nilA))))) r))))) (pEn ws s u ts low high (rT rs) a b c d .no .no .no .no .no) S' = r (pEn ws s u ts low high (rT rs) a b c (.ow (.lst (ps3.map ppD))) x12 .no (.vl (nD q.1)) (.vl (nD q.2.1)) (.vl (nD q.2.2))) S' := fun {r} =>
    (seq_nx (if_f t6)).trans ((seq_nx a7).trans ((seq_nx a8).trans ((seq_nx a9).trans (seq_nx ((for_of it).trans qq)))))
  have fin : ∀ (ps : List (D × Wo)), ps.length ≤ 100 → (∀ p ∈ ps, ∀ S, m_accept_none ([.tup (natL ws), nD s, nD low, nD high] ++ [p.1]) S = resW p.2 S) → (frzS 11 (retS (callE m__law_shown (consA (fnE 12) (consA (lstE (consA (var 1) (consA (var 2) (consA (var 5) (consA (var 6) nilA))))) (consA (var 11) nilA)))))) (pEn ws s u ts low high (rT rs) a b c (.ow (.lst (ps.map ppD))) x12 .no (.vl (nD q.1)) (.vl (nD q.2.1)) (.vl (nD q.2.2))) S' = .ok (.rt (.bl true)) S' := fun ps hl hp => by
    refine (frz_ow (d := .lst (ps.map ppD)) rfl).trans (ret_of ?_)
    exact call3_of (d := .fn 12) rfl (lst4 rfl rfl rfl rfl) rfl (v_shown (n := 12) (F := m_accept_none) rfl (ah := [.tup (natL ws), nD s, nD low, nD high]) (by show 4 ≤ 4; omega) ps hl hp S')
  refine go.trans ?_
  by_cases c1 : 1 < rs.length
  · rw [decide_eq_true c1] at t11
    obtain ⟨J, p, hJ⟩ := snoc_ex (l := I) (fun z => by
      rw [z] at lI
      have h0 : ([] : List Rw).length = 0 := rfl
      omega)
    have e3 : rs = J ++ [p, q] := by
      rw [hrs, hJ, List.append_assoc]
      rfl
    have hs8 : some (rT rs) = some (.tup (J.map rD ++ [rD p, rD q])) := by
      rw [e3]
      unfold rT
      rw [List.map_append]
      rfl
    have lJ : J.length + 1 = I.length := by rw [hJ, List.length_append]; rfl
    have fp : p.1 < ws.length := f1 p (by rw [hJ]; exact List.mem_append_right _ List.mem_cons_self)
    have aj := acc_join g1 (p := p) (q := q) (J := J) (by rw [← e3]; exact hc)
    have cut2 := runOk_cut (b := low) (rs := J) (r := p) (by rw [← hJ]; exact f3)
    have i2 := ix2 (i := 7) (ρ := pEn ws s u ts low high (rT rs) a b c (.ow (.lst (ps3.map ppD))) x12 .no (.vl (nD q.1)) (.vl (nD q.2.1)) (.vl (nD q.2.2))) (S := S') hs8
    have i20 := op2_of (g := dIxA) (d2 := nD 0) (e := nD p.1) i2 (show cst (.int 0) _ _ = _ from rfl) rfl
    have i21 := op2_of (g := dIxA) (d2 := nD 1) (e := nD p.2.1) i2 (show cst (.int 1) _ _ = _ from rfl) rfl
    have ap : (ifS (valB (op2 dGt (op1 dLen (var 7)) (cst (.int 1)))) (appS 11 (tupE (consA (lstE (consA (op2 dAdd (slcX (var 7) noP (partP (op1 dNeg (cst (.int 2))))) (tupE (consA (tupE (consA (op2 dIxA (op2 dIxA (var 7) (op1 dNeg (cst (.int 2)))) (cst (.int 0))) (consA (op2 dIxA (op2 dIxA (var 7) (op1 dNeg (cst (.int 2)))) (cst (.int 1))) (consA (var 16) nilA)))) nilA))) nilA)) (consA (iteE (truB (callE m__law_is_off (consA (op2 dIxA (var 1) (op2 dIxA (op2 dIxA (var 7) (op1 dNeg (cst (.int 2)))) (cst (.int 0)))) (consA (var 2) (consA (op2 dIxA (op2 dIxA (var 7) (op1 dNeg (cst (.int 2)))) (cst (.int 1))) (consA (var 16) nilA)))))) (cst .non) (cst (.str "paper off"))) nilA)))) skipS) (pEn ws s u ts low high (rT rs) a b c (.ow (.lst (ps3.map ppD))) x12 .no (.vl (nD q.1)) (.vl (nD q.2.1)) (.vl (nD q.2.2))) S' = .ok (.nx (pEn ws s u ts low high (rT rs) a b c (.ow (.lst ((ps3 ++ [(rT (J ++ [(p.1, p.2.1, q.2.2)]), offW (isOff (ws.getD p.1 0) s p.2.1 q.2.2))]).map ppD))) x12 .no (.vl (nD q.1)) (.vl (nD q.2.1)) (.vl (nD q.2.2)))) S' := by
      rw [← pp_snoc, rT_snoc]
      refine (if_t t11).trans (app_of (i := 11) (ds := ps3.map ppD) rfl (pap_of (put2 hs8 (by rw [List.length_map]; omega) (tup3 (d := nD p.1) (e := nD p.2.1) (i := nD q.2.2) i20 i21 rfl)) (offw_of (call_off (w := ws.getD p.1 0) (s := s) (a := p.2.1) (b := q.2.2) (op2_of (d1 := .tup (natL ws)) (d2 := nD p.1) rfl i20 ((wd_tup ws).ix p.1 fp)) rfl i21 rfl (w.g fp).2 (by omega) (by omega) (by omega)))) (by rw [List.length_map]; omega))
    refine (seq_nx ap).trans (fin _ (by rw [List.length_append, List.length_singleton]; omega) fun x hx S => ?_)
    rcases List.mem_append.mp hx with z | z
    · exact ok3 x z S
    · rw [List.mem_singleton.mp z]
      exact none_law w l6 hs g hb (by rw [List.length_append, List.length_singleton]; omega) aj S
  · rw [decide_eq_false c1] at t11
    exact (seq_nx (if_f t11)).trans (fin ps3 (by omega) ok3)
theorem v__law_papers_hold (hu1 : 1 ≤ u) (hu2 : u ≤ 100000) (S : DS) : m__law_papers_hold [.st, .tup (natL ws), nD s, nD u, .tup (natL (tsN ws u)), nD low, nD high, rowsD (rowsF ws s high (high + 1 - low) low)] S = .ok (.bl true) S := by
  have n1 := w.n1; have g1 := g.l1; have g2 := g.lh; have g3 := g.h2
  rw [e__law_papers_hold]
  refine body_rt ?_
  rw [b__law_papers_hold]
  obtain ⟨i1, i2⟩ := rowsF_spec (ws := ws) (s := s) (high := high) (by intro z; rw [z] at n1; simp at n1) g3 (high + 1 - low) low g1 (by omega) (Nat.le_refl _)
  obtain ⟨a, b, c, d, q⟩ := papers_times w hs hu1 hu2 (low := low) (high := high) (rowsD (rowsF ws s high (high + 1 - low) low)) (r := (seqS (ifS (valB (op2 dIs (var 7) (cst .non))) (seqS (asgS 13 (tupE (consA (tupE (consA (cst (.int 0)) (consA (var 5) (consA (var 6) nilA)))) nilA))) (retS (callE m__law_shown (consA (fnE 12) (consA (lstE (consA (var 1) (consA (var 2) (consA (var 5) (consA (var 6) nilA))))) (consA (lstE (consA (tupE (consA (lstE (consA (var 13) nilA)) (consA (cst (.str "paper off")) nilA))) (consA (tupE (consA (lstE (consA (tupE (consA (tupE (consA (cst (.int 0)) (consA (var 5) (consA (op2 dAdd (var 6) (cst (.int 1))) nilA)))) nilA)) nilA)) (consA (cst (.str "paper run")) nilA))) (consA (tupE (consA (lstE (consA (tupE (consA (tupE (consA (op1 dLen (var 1)) (consA (var 5) (consA (var 6) nilA)))) nilA)) nilA)) (consA (cst (.str "paper form")) nilA))) nilA)))) nilA)))))) skipS) (seqS (asgT (tgT [(tgN 14), (tgN 15), (tgN 16)]) (op2 dIxA (var 7) (op1 dNeg (cst (.int 1))))) (seqS (asgOS 11 (lstE (consA (tupE (consA (lstE (consA (var 7) nilA)) (consA (cst .non) nilA))) (consA (tupE (consA (lstE (consA (slcX (var 7) noP (partP (op1 dNeg (cst (.int 1))))) nilA)) (consA (cst (.str "paper run")) nilA))) (consA (tupE (consA (lstE (consA (op2 dAdd (slcX (var 7) noP (partP (op1 dNeg (cst (.int 1))))) (tupE (consA (tupE (consA (var 14) (consA (var 15) (consA (op2 dAdd (var 16) (cst (.int 1))) nilA)))) nilA))) nilA)) (consA (cst (.str "paper run")) nilA))) (consA (tupE (consA (lstE (consA (op2 dAdd (slcX (var 7) noP (partP (op1 dNeg (cst (.int 1))))) (tupE (consA (tupE (consA (var 14) (consA (var 15) (consA (cst (.bl true)) nilA)))) nilA))) nilA)) (consA (cst (.str "paper form")) nilA))) nilA)))))) (seqS (asgOS 11 (op2 dCat (varB 11) (lstE (consA (tupE (consA (lstE (consA (op2 dAdd (slcX (var 7) noP (partP (op1 dNeg (cst (.int 1))))) (tupE (consA (tupE (consA (op1 dLen (var 1)) (consA (var 15) (consA (var 16) nilA)))) nilA))) nilA)) (consA (cst (.str "paper form")) nilA))) nilA)))) (seqS (forS (itR1 (op1 dLen (var 1))) (tgN 12) (appS 11 (tupE (consA (lstE (consA (op2 dAdd (slcX (var 7) noP (partP (op1 dNeg (cst (.int 1))))) (tupE (consA (tupE (consA (var 12) (consA (var 15) (consA (var 16) nilA)))) nilA))) nilA)) (consA (iteE (truB (callE m__law_is_off (consA (op2 dIxA (var 1) (var 12)) (consA (var 2) (consA (var 15) (consA (var 16) nilA)))))) (cst .non) (cst (.str "paper off"))) nilA))))) (seqS (ifS (valB (op2 dGt (op1 dLen (var 7)) (cst (.int 1)))) (appS 11 (tupE (consA (lstE (consA (op2 dAdd (slcX (var 7) noP (partP (op1 dNeg (cst (.int 2))))) (tupE (consA (tupE (consA (op2 dIxA (op2 dIxA (var 7) (op1 dNeg (cst (.int 2)))) (cst (.int 0))) (consA (op2 dIxA (op2 dIxA (var 7) (op1 dNeg (cst (.int 2)))) (cst (.int 1))) (consA (var 16) nilA)))) nilA))) nilA)) (consA (iteE (truB (callE m__law_is_off (consA (op2 dIxA (var 1) (op2 dIxA (op2 dIxA (var 7) (op1 dNeg (cst (.int 2)))) (cst (.int 0)))) (consA (var 2) (consA (op2 dIxA (op2 dIxA (var 7) (op1 dNeg (cst (.int 2)))) (cst (.int 1))) (consA (var 16) nilA)))))) (cst .non) (cst (.str "paper off"))) nilA)))) skipS) (frzS 11 (retS (callE m__law_shown (consA (fnE 12) (consA (lstE (consA (var 1) (consA (var 2) (consA (var 5) (consA (var 6) nilA))))) (consA (var 11) nilA))))))))))))) (S := S)
  refine q.trans ?_
  cases e : rowsF ws s high (high + 1 - low) low with
  | none =>
    obtain ⟨v, v1, v2, v3⟩ := i1 e
    exact papers_none w l6 hs g hb v1 v2 v3
  | some rs => exact papers_some w l6 hs g hb (i2 rs e)
end
end Hk19
namespace Hk19
open PySem Mini
open L2 (atI ixN atI_nat kitB Key)
/-! ## good for the one and for the other -/
theorem gu_mem {ws : List Nat} {s low high v : Nat} : v ∈ gu ws s low high ↔ (low ≤ v ∧ v < low + (high + 1 - low)) ∧ ∀ w ∈ ws, gp w v ≤ s := by
  unfold gu
  rw [List.mem_filter, List.mem_range'_1, goodB_iff]
theorem gu_none {ws : List Nat} {s low high : Nat} (hne : ws ≠ []) (g : Rg ws low high) (e : rowsF ws s high (high + 1 - low) low = none) : (gu ws s low high).isEmpty = false := by
  have g2 := g.lh
  obtain ⟨i1, _⟩ := rowsF_spec (s := s) hne g.h2 (high + 1 - low) low g.l1 (by omega) (Nat.le_refl _)
  obtain ⟨v, v1, v2, v3⟩ := i1 e
  have m : v ∈ gu ws s low high := gu_mem.mpr ⟨⟨v1, by omega⟩, v3⟩
  cases h : gu ws s low high with
  | nil => rw [h] at m; cases m
  | cons a l => rfl
theorem gu_some {ws : List Nat} {s low high : Nat} {rs : List Rw} (hne : ws ≠ []) (g : Rg ws low high) (e : rowsF ws s high (high + 1 - low) low = some rs) : (gu ws s low high).isEmpty = true := by
  have g2 := g.lh
  obtain ⟨_, i2⟩ := rowsF_spec (s := s) hne g.h2 (high + 1 - low) low g.l1 (by omega) (Nat.le_refl _)
  have c := i2 rs e
  cases h : gu ws s low high with
  | nil => rfl
  | cons v l =>
    exfalso
    have m : v ∈ gu ws s low high := by rw [h]; exact List.mem_cons_self
    obtain ⟨⟨v1, v2⟩, v3⟩ := gu_mem.mp m
    obtain ⟨w, hw, lt⟩ := chn_cover rs low v g.l1 c v1 (by omega)
    have := v3 w hw
    omega
/-! ## the common unit -/
theorem fold_dvd : ∀ (l : List Nat) (a : Nat), l.foldl Nat.gcd a ∣ a ∧ ∀ x ∈ l, l.foldl Nat.gcd a ∣ x
  | [], a => ⟨Nat.dvd_refl _, fun x hx => by cases hx⟩
  | y :: l, a => by
    obtain ⟨h1, h2⟩ := fold_dvd l (Nat.gcd a y)
    rw [List.foldl_cons]
    refine ⟨Nat.dvd_trans h1 (Nat.gcd_dvd_left _ _), fun x hx => ?_⟩
    rcases List.mem_cons.mp hx with rfl | z
    · exact Nat.dvd_trans h1 (Nat.gcd_dvd_right _ _)
    · exact h2 x z
theorem dvd_fold {d : Nat} : ∀ (l : List Nat) (a : Nat), d ∣ a → (∀ x ∈ l, d ∣ x) → d ∣ l.foldl Nat.gcd a
  | [], a, h, _ => h
  | y :: l, a, h, hl => by
    rw [List.foldl_cons]
    exact dvd_fold l _ (Nat.dvd_gcd h (hl y List.mem_cons_self)) fun x hx => hl x (List.mem_cons_of_mem _ hx)
theorem gcdL_dvd {ws : List Nat} : ∀ x ∈ ws, gcdL ws ∣ x := fun x hx => by
  cases ws with
  | nil => cases hx
  | cons a l =>
    obtain ⟨h1, h2⟩ := fold_dvd l a
    rcases List.mem_cons.mp hx with rfl | z
    · exact h1
    · exact h2 x z
theorem dvd_gcdL {ws : List Nat} {d : Nat} (hne : ws ≠ []) (h : ∀ x ∈ ws, d ∣ x) : d ∣ gcdL ws := by
  cases ws with
  | nil => exact absurd rfl hne
  | cons a l => exact dvd_fold l a (h a List.mem_cons_self) fun x hx => h x (List.mem_cons_of_mem _ hx)
def divB (ws : List Nat) (k : Nat) : Bool := (ws.filter fun w => decide (0 < w % k)).isEmpty
theorem divB_iff {ws : List Nat} {k : Nat} : divB ws k = true ↔ ∀ w ∈ ws, k ∣ w := by
  unfold divB
  rw [List.isEmpty_iff, List.filter_eq_nil_iff]
  constructor
  · intro h w hw
    have := h w hw
    rw [decide_eq_true_eq] at this
    exact Nat.dvd_of_mod_eq_zero (by omega)
  · intro h w hw
    rw [decide_eq_true_eq]
    have := Nat.mod_eq_zero_of_dvd (h w hw)
    omega
def cmL (ws : List Nat) (m : Nat) : List Nat := (List.range' 1 (m + 1 - 1)).filter (divB ws)
theorem cm_max {ws : List Nat} {m : Nat} (hm : m ∈ ws) (hp : ∀ x ∈ ws, 1 ≤ x) : dMaxX (.lst (natL (cmL ws m))) = some (nD (gcdL ws)) := by
  have hne : ws ≠ [] := fun z => by rw [z] at hm; cases hm
  have g1 := gcdL_dvd m hm
  have m1 := hp m hm
  have gp1 : 1 ≤ gcdL ws := Nat.pos_of_dvd_of_pos g1 m1
  have gm : gcdL ws ≤ m := Nat.le_of_dvd m1 g1
  have mem : gcdL ws ∈ cmL ws m := by
    unfold cmL
    exact List.mem_filter.mpr ⟨List.mem_range'_1.mpr ⟨gp1, by omega⟩, divB_iff.mpr gcdL_dvd⟩
  obtain ⟨k, k1, k2, k3⟩ := max_ex (l := cmL ws m) (fun z => by rw [z] at mem; cases mem)
  have h1 := k3 _ mem
  have h2 : k ≤ gcdL ws := by
    unfold cmL at k1
    exact Nat.le_of_dvd gp1 (dvd_gcdL hne (divB_iff.mp (List.mem_filter.mp k1).2))
  have e : k = gcdL ws := by omega
  rw [e] at k2
  exact dMaxX_of k2
/-! ## what is shown -/
theorem gd_nD {n : Nat} (h : n ≤ 1000000000) : Gd 0 0 (nD n) := gd_int (Nat.lt_of_le_of_lt (show (n : Int).natAbs ≤ 1000000000 by omega) (by decide +kernel))
theorem gd_natT {l : List Nat} (h : ∀ n ∈ l, n ≤ 1000000000) : Gd 1 l.length (.tup (natL l)) := by
  have z := gd_tup (h := 0) (n := 0) (ds := natL l) fun d hd => by
    obtain ⟨n, hn, rfl⟩ := List.mem_map.mp hd
    exact gd_nD (h n hn)
  exact z.mono (Nat.le_refl _) (by rw [natL_len]; omega)
theorem ne_emp (l : List Nat) : dNe (.tup (natL l)) (.tup []) = some (.bl (!l.isEmpty)) := by
  have e1 : okEq (.tup (natL l)) = true := ok_natL l
  have e2 : okEq (.tup []) = true := rfl
  unfold dNe
  rw [e1, e2]
  cases l with
  | nil => rfl
  | cons a l => rfl
theorem ne_bl (a b : Bool) : dNe (.bl a) (.bl b) = some (.bl (a != b)) := by
  cases a <;> cases b <;> rfl
theorem gd_jud {ws : List Nat} (w : Wt ws) (l6 : ws.length ≤ 60) {s u : Nat} (u2 : u ≤ 100000) : Gd 2 200 (judD ws s u) := by
  have ts : Gd 1 60 (.tup (natL (tsN ws u))) := (gd_natT (fun n hn => by
    obtain ⟨y, hy, rfl⟩ := List.mem_map.mp hn
    have := near_top (u := u) (w.r y hy).2
    omega)).mono (Nat.le_refl _) (by rw [ts_len]; exact l6)
  unfold judD
  cases e : offG ws s u with
  | nil =>
    have z := gd_tup (h := 1) (n := 60) (ds := [.str "fits", .tup (natL (tsN ws u))]) fun d hd => by
      simp only [List.mem_cons, List.not_mem_nil, or_false] at hd
      rcases hd with rfl | rfl
      · exact (gd_str (n := 60) (s := "fits") (by decide +kernel) (by decide +kernel)).mono (by decide) (Nat.le_refl _)
      · exact ts
    exact z.mono (Nat.le_refl _) (by show 2 * 61 ≤ 200; omega)
  | cons k ks =>
    have hk : k < ws.length := by
      have : k ∈ offG ws s u := by rw [e]; exact List.mem_cons_self
      unfold offG at this
      exact List.mem_range.mp (List.mem_filter.mp this).1
    have nt := near_top (u := u) (w.g hk).2
    have wg := (w.g hk).2
    have z := gd_tup (h := 0) (n := 60) (ds := [.str "off", nD k, dif (ws.getD k 0) u]) fun d hd => by
      simp only [List.mem_cons, List.not_mem_nil, or_false] at hd
      rcases hd with rfl | rfl | rfl
      · exact gd_str (n := 60) (s := "off") (by decide +kernel) (by decide +kernel)
      · exact (gd_nD (by omega)).mono (Nat.le_refl _) (by decide)
      · have m : near (ws.getD k 0) u * u ≤ 100001 * 100000 := Nat.mul_le_mul nt u2
        exact (gd_int (Nat.lt_of_le_of_lt (show ((ws.getD k 0 : Int) - ((near (ws.getD k 0) u * u : Nat) : Int)).natAbs ≤ 100001 * 100000 by
          generalize near (ws.getD k 0) u * u = q at *
          omega) (by decide +kernel))).mono (Nat.le_refl _) (by decide)
    exact z.mono (by decide) (by show 3 * 61 ≤ 200; omega)
theorem gu_len (ws : List Nat) (s low high : Nat) : (gu ws s low high).length ≤ high + 1 - low := by
  unfold gu
  refine Nat.le_trans (List.length_filter_le _ _) ?_
  rw [List.length_range']
  exact Nat.le_refl _
theorem gu_le {ws : List Nat} {s low high : Nat} (g : low ≤ high) : ∀ n ∈ gu ws s low high, n ≤ high := fun n hn => by
  have := (gu_mem.mp hn).1
  omega
theorem gd_rows {ws : List Nat} {s low high : Nat} (w : Wt ws) (g : Rg ws low high) (hb : high ≤ low + 100) : Gd 2 1000 (rowsD (rowsF ws s high (high + 1 - low) low)) := by
  have n1 := w.n1; have n2 := w.n2; have g2 := g.lh; have g3 := g.h2
  obtain ⟨_, i2⟩ := rowsF_spec (ws := ws) (s := s) (by intro z; rw [z] at n1; simp at n1) g.h2 (high + 1 - low) low g.l1 (by omega) (Nat.le_refl _)
  cases e : rowsF ws s high (high + 1 - low) low with
  | none => exact gd_non.mono (by decide) (by decide)
  | some rs =>
    have c := i2 rs e
    have cl := chn_len rs low c
    have m := chn_mem rs low g.l1 c
    have z := gd_tup (h := 1) (n := 3) (ds := rs.map rD) fun d hd => by
      obtain ⟨r, hr, rfl⟩ := List.mem_map.mp hd
      obtain ⟨m1, m2, m3, m4, m5⟩ := m r hr
      have z := gd_tup (h := 0) (n := 0) (ds := [nD r.1, nD r.2.1, nD r.2.2]) fun d hd => by
        simp only [List.mem_cons, List.not_mem_nil, or_false] at hd
        rcases hd with rfl | rfl | rfl
        · exact gd_nD (by omega)
        · exact gd_nD (by omega)
        · exact gd_nD (by omega)
      exact z.mono (Nat.le_refl _) (by show 3 * 1 ≤ 3; omega)
    have z2 : Gd 2 ((rs.map rD).length * (3 + 1)) (rowsD (some rs)) := z
    exact z2.mono (Nat.le_refl _) (by
      have g1 := g.l1
      rw [List.length_map]
      omega)
end Hk19
namespace Hk19
open PySem Mini
open L2 (atI ixN atI_nat kitB Key)
theorem nat4 {a b c e hi : Nat} {y : D} (h : y ∈ [nD a, nD b, nD c, nD e]) (ha : a ≤ hi) (hb : b ≤ hi) (hc : c ≤ hi) (he : e ≤ hi) : ∃ n : Nat, y = nD n ∧ n ≤ hi := by
  simp only [List.mem_cons, List.not_mem_nil, or_false] at h
  rcases h with rfl | rfl | rfl | rfl
  · exact ⟨a, rfl, ha⟩
  · exact ⟨b, rfl, hb⟩
  · exact ⟨c, rfl, hc⟩
  · exact ⟨e, rfl, he⟩
abbrev uEn (a1 a2 a3 a4 a5 a6 a7 a8 a9 a10 a11 a12 : Slot) (ws : List Nat) (un : Nat) : En := [.vl .st, a1, a2, a3, a4, a5, a6, a7, a8, a9, a10, a11, a12, .vl (.tup (natL ws)), .vl (nD un), .no, .no]
section
variable {ws : List Nat} (w : Wt ws) {s u low high : Nat} (hs : s ≤ 100000) (u1 : 1 ≤ u) (u2 : u ≤ 100000) (g : Rg ws low high) {un : Nat} {S : DS}
include w u1 u2 in
theorem u_times {a4 a5 a6 a7 a8 a9 a10 a11 a12 a2 a3 : Slot} : (op1 dTuple (lcE (itS (var 13)) (tgN 16) yesB (callE m__law_near (consA (var 16) (consA (var 1) nilA))) [16])) (uEn (.vl (nD u)) a2 a3 a4 a5 a6 a7 a8 a9 a10 a11 a12 ws un) S = .ok (.tup (natL (tsN ws u))) S := by
  have n2 := w.n2
  have z := lcA (t := tgN 16) (vs := [16]) (ρ := uEn (.vl (nD u)) a2 a3 a4 a5 a6 a7 a8 a9 a10 a11 a12 ws un) (elt := callE m__law_near (consA (var 16) (consA (var 1) nilA))) nD (fun x => nD (near x u)) (its_of (f := var 13) (S := S) (d := .tup (natL ws)) rfl rfl) (fun x hx => ⟨_, rfl, call2_of (d := nD x) (d2 := nD u) rfl rfl (v__law_near (w.r x hx).2 u1 u2 S)⟩) (by omega)
  have e : (ws.map fun x => nD (near x u)) = natL (tsN ws u) := by
    unfold natL tsN
    rw [List.map_map]
    rfl
  rw [e] at z
  exact op1_of z rfl
include w u2 in
theorem u_off {a4 a5 a6 a7 a8 a9 a10 a11 a12 : Slot} : (lcE (itR1 (op1 dLen (var 13))) (tgN 15) (valB (op2 dGt (op1 dAbs (op2 dSub (op2 dIxA (var 13) (var 15)) (op2 dMulX (op2 dIxA (var 3) (var 15)) (var 1)))) (var 2))) (var 15) [15]) (uEn (.vl (nD u)) (.vl (nD s)) (.vl (.tup (natL (tsN ws u)))) a4 a5 a6 a7 a8 a9 a10 a11 a12 ws un) S = .ok (.lst (natL (offG ws s u))) S := by
  have n2 := w.n2
  refine lcN nD nD (fun k => decide (s < gp (ws.getD k 0) u)) (rng1 (n := ws.length) (by omega) (op1_of (d := .tup (natL ws)) rfl (wd_tup ws).ln)) (fun k hk => ?_) (by rw [List.length_range]; omega)
  have hk := List.mem_range.mp hk
  have nt := near_top (u := u) (w.g hk).2
  exact ⟨uEn (.vl (nD u)) (.vl (nD s)) (.vl (.tup (natL (tsN ws u)))) a4 a5 a6 a7 a8 a9 a10 a11 a12 ws un |>.set 15 (.vl (nD k)), rfl, val_of (op2_of (gap_of (w := ws.getD k 0) (t := near (ws.getD k 0) u) (u := u) (op2_of (d1 := .tup (natL ws)) (d2 := nD k) rfl rfl ((wd_tup ws).ix k hk)) (op2_of (d1 := .tup (natL (tsN ws u))) (d2 := nD k) rfl rfl (ts_at hk)) rfl (by omega) (by omega)) (d2 := nD s) rfl (gtN _ _)), fun _ => rfl⟩
include w u2 in
theorem u_due {a5 a6 a7 a8 a9 a10 a11 a12 : Slot} : (iteE (truB (var 4)) (tupE (consA (cst (.str "off")) (consA (op2 dIxA (var 4) (cst (.int 0))) (consA (op2 dSub (op2 dIxA (var 13) (op2 dIxA (var 4) (cst (.int 0)))) (op2 dMulX (op2 dIxA (var 3) (op2 dIxA (var 4) (cst (.int 0)))) (var 1))) nilA)))) (tupE (consA (cst (.str "fits")) (consA (var 3) nilA)))) (uEn (.vl (nD u)) (.vl (nD s)) (.vl (.tup (natL (tsN ws u)))) (.vl (.lst (natL (offG ws s u)))) a5 a6 a7 a8 a9 a10 a11 a12 ws un) S = .ok (judD ws s u) S := by
  have t : truB (var 4) (uEn (.vl (nD u)) (.vl (nD s)) (.vl (.tup (natL (tsN ws u)))) (.vl (.lst (natL (offG ws s u)))) a5 a6 a7 a8 a9 a10 a11 a12 ws un) S = .ok (!(natL (offG ws s u)).isEmpty) S := tru_ofE (d := .lst (natL (offG ws s u))) rfl rfl
  rw [emp_map] at t
  unfold judD
  cases e : offG ws s u with
  | nil =>
    rw [e] at t
    exact (ite_f t).trans (tup2 rfl rfl)
  | cons k ks =>
    rw [e] at t
    have hk : k < ws.length := by
      have : k ∈ offG ws s u := by rw [e]; exact List.mem_cons_self
      unfold offG at this
      exact List.mem_range.mp (List.mem_filter.mp this).1
    have nt := near_top (u := u) (w.g hk).2
    have i0 : op2 dIxA (var 4) (cst (.int 0)) (uEn (.vl (nD u)) (.vl (nD s)) (.vl (.tup (natL (tsN ws u)))) (.vl (.lst (natL (k :: ks)))) a5 a6 a7 a8 a9 a10 a11 a12 ws un) S = .ok (nD k) S := op2_of (d1 := .lst (natL (k :: ks))) (d2 := nD 0) rfl rfl (atI_nat rfl)
    exact (ite_t t).trans (tup3 rfl i0 (op2_of (d1 := nD (ws.getD k 0)) (op2_of (d1 := .tup (natL ws)) (d2 := nD k) rfl i0 ((wd_tup ws).ix k hk)) (op2_of (d2 := nD u) (op2_of (d1 := .tup (natL (tsN ws u))) (d2 := nD k) rfl i0 (ts_at hk)) rfl (mul_ok (by omega) (by omega))) rfl))
include w g in
theorem u_good {a1 a3 a4 a5 a8 a9 a10 a11 a12 : Slot} : (op1 dTuple (lcE (itR2 (var 6) (op2 dAdd (var 7) (cst (.int 1)))) (tgN 15) (notB (truB (lcE (itS (var 13)) (tgN 16) (valB (op2 dGt (callE m__law_gap (consA (var 16) (consA (var 15) nilA))) (var 2))) (var 16) [16]))) (var 15) [15])) (uEn a1 (.vl (nD s)) a3 a4 a5 (.vl (nD low)) (.vl (nD high)) a8 a9 a10 a11 a12 ws un) S = .ok (.tup (natL (gu ws s low high))) S := by
  have n2 := w.n2
  have g1 := g.l1; have g2 := g.lh; have g3 := g.h2
  refine op1_of (d := .lst (natL (gu ws s low high))) ?_ rfl
  refine lcN nD nD (goodB ws s) (rng2 (lo := low) (hi := high + 1) (by omega) (by omega) rfl (op2_of (d1 := nD high) (d2 := nD 1) rfl rfl (addN _ 1))) (fun k hk => ?_) (by rw [List.length_range']; omega)
  obtain ⟨k1, k2⟩ := List.mem_range'_1.mp hk
  have l : lcE (itS (var 13)) (tgN 16) (valB (op2 dGt (callE m__law_gap (consA (var 16) (consA (var 15) nilA))) (var 2))) (var 16) [16] (uEn a1 (.vl (nD s)) a3 a4 a5 (.vl (nD low)) (.vl (nD high)) a8 a9 a10 a11 a12 ws un |>.set 15 (.vl (nD k))) S = .ok (.lst (natL (ws.filter fun w => decide (s < gp w k)))) S :=
    lcN nD nD (fun w => decide (s < gp w k)) (its_of (d := .tup (natL ws)) rfl rfl) (fun x hx => ⟨_, rfl, val_of (op2_of (call2_of (d := nD x) (d2 := nD k) rfl rfl (v__law_gap (w.r x hx).2 (by omega) (by omega) S)) (d2 := nD s) rfl (gtN _ _)), fun _ => rfl⟩) (by omega)
  have t := tru_ofE (k := !(natL (ws.filter fun w => decide (s < gp w k))).isEmpty) l rfl
  rw [emp_map] at t
  have t2 := not_of t
  rw [Bool.not_not] at t2
  exact ⟨_, rfl, t2, fun _ => rfl⟩
include w g in
theorem u_close {a1 a2 a3 a4 a5 a8 a9 a10 a11 a12 : Slot} : ∃ a v : Nat, (op1 dMinY (lcE (itR2 (var 6) (op2 dAdd (var 7) (cst (.int 1)))) (tgN 15) yesB (tupE (consA (op1 dMaxX (lcE (itS (var 13)) (tgN 16) yesB (callE m__law_gap (consA (var 16) (consA (var 15) nilA))) [16])) (consA (op2 dSub (cst (.int 0)) (var 15)) nilA))) [15])) (uEn a1 a2 a3 a4 a5 (.vl (nD low)) (.vl (nD high)) a8 a9 a10 a11 a12 ws un) S = .ok (pD ((a : Int), -(v : Int))) S ∧ dMinX (.lst ((clP ws low high).map pD)) = some (pD ((a : Int), -(v : Int))) ∧ v ≤ high ∧ a ≤ 1000000000 := by
  have n1 := w.n1; have n2 := w.n2
  have g1 := g.l1; have g2 := g.lh; have g3 := g.h2
  have l : lcE (itR2 (var 6) (op2 dAdd (var 7) (cst (.int 1)))) (tgN 15) yesB (tupE (consA (op1 dMaxX (lcE (itS (var 13)) (tgN 16) yesB (callE m__law_gap (consA (var 16) (consA (var 15) nilA))) [16])) (consA (op2 dSub (cst (.int 0)) (var 15)) nilA))) [15] (uEn a1 a2 a3 a4 a5 (.vl (nD low)) (.vl (nD high)) a8 a9 a10 a11 a12 ws un) S = .ok (.lst ((clP ws low high).map pD)) S := by
    have q := lcA (t := tgN 15) (vs := [15]) (ρ := uEn a1 a2 a3 a4 a5 (.vl (nD low)) (.vl (nD high)) a8 a9 a10 a11 a12 ws un) (elt := tupE (consA (op1 dMaxX (lcE (itS (var 13)) (tgN 16) yesB (callE m__law_gap (consA (var 16) (consA (var 15) nilA))) [16])) (consA (op2 dSub (cst (.int 0)) (var 15)) nilA))) nD (fun v => pD (((mxN (ws.map fun w => gp w v) : Nat) : Int), -(v : Int))) (rng2 (S := S) (a := var 6) (b := op2 dAdd (var 7) (cst (.int 1))) (lo := low) (hi := high + 1) (by omega) (by omega) rfl (op2_of (d1 := nD high) (d2 := nD 1) rfl rfl (addN _ 1))) (fun k hk => by
      obtain ⟨k1, k2⟩ := List.mem_range'_1.mp hk
      have l2 := lcA (t := tgN 16) (vs := [16]) (ρ := uEn a1 a2 a3 a4 a5 (.vl (nD low)) (.vl (nD high)) a8 a9 a10 a11 a12 ws un |>.set 15 (.vl (nD k))) (elt := callE m__law_gap (consA (var 16) (consA (var 15) nilA))) nD (fun x => nD (gp x k)) (its_of (f := var 13) (S := S) (d := .tup (natL ws)) rfl rfl) (fun x hx => ⟨_, rfl, call2_of (d := nD x) (d2 := nD k) rfl rfl (v__law_gap (w.r x hx).2 (by omega) (by omega) S)⟩) (by omega)
      have e : (ws.map fun x => nD (gp x k)) = natL (ws.map fun w => gp w k) := by
        unfold natL
        rw [List.map_map]
        rfl
      rw [e] at l2
      have mm := mx_of (l := ws.map fun w => gp w k) (fun z => by
        have := congrArg List.length z
        rw [List.length_map] at this
        have h0 : ([] : List Nat).length = 0 := rfl
        omega)
      refine ⟨_, rfl, tup2 (op1_of l2 mm) (op2_of (d1 := .int 0) (d2 := nD k) rfl rfl ?_)⟩
      show some (D.int (0 - (k : Int))) = _
      rw [Int.zero_sub]) (by rw [List.length_range']; omega)
    rw [q]
    unfold clP
    rw [List.map_map]
    rfl
  obtain ⟨p, hp, e1, _⟩ := min_pairs (ps := clP ws low high) (fun z => by
    have := congrArg List.length z
    unfold clP at this
    rw [List.length_map, List.length_range'] at this
    have h0 : ([] : List (Int × Int)).length = 0 := rfl
    omega)
  have hp' := hp
  unfold clP at hp'
  obtain ⟨v, hv, rfl⟩ := List.mem_map.mp hp'
  obtain ⟨v1, v2⟩ := List.mem_range'_1.mp hv
  refine ⟨mxN (ws.map fun w => gp w v), v, op1_of l e1, e1, by omega, ?_⟩
  have hne : (ws.map fun w => gp w v) ≠ [] := fun z => by
    have := congrArg List.length z
    rw [List.length_map] at this
    have h0 : ([] : List Nat).length = 0 := rfl
    omega
  unfold mxN
  rw [dif_pos hne]
  have mem := (Classical.choose_spec (max_ex hne)).1
  obtain ⟨x, hx, ex⟩ := List.mem_map.mp mem
  have := (w.r x hx).2
  have gl : gp x v ≤ 1000000000 := by
    rcases split_w (w := x) (u := v) (by omega) with h | ⟨t, r, ht, hr, e⟩
    · rw [(near_0 h).2.1]
      omega
    · rw [(near_t (by omega) ht hr e).2.1]
      omega
  have ex : gp x v = Classical.choose (max_ex hne) := ex
  omega
include w in
theorem u_common {a1 a2 a3 a4 a5 a6 a7 a8 a9 a10 a11 a12 : Slot} : (iteE (valB (op2 dLt (op1 dMinY (var 13)) (cst (.int 3000)))) (op1 dMaxX (lcE (itR2 (cst (.int 1)) (op2 dAdd (op1 dMinY (var 13)) (cst (.int 1)))) (tgN 15) (notB (truB (lcE (itS (var 13)) (tgN 16) (valB (op2 dGt (op2 dMod (op1 dInt (var 16)) (var 15)) (cst (.int 0)))) (var 16) [16]))) (var 15) [15])) (callE m_common_unit (consA (var 13) nilA))) (uEn a1 a2 a3 a4 a5 a6 a7 a8 a9 a10 a11 a12 ws un) S = .ok (nD (gcdL ws)) S := by
  have n1 := w.n1; have n2 := w.n2
  obtain ⟨m, hm, e1, _⟩ := min_tupN (ps := ws) (fun z => by
    rw [z] at n1
    have h0 : ([] : List Nat).length = 0 := rfl
    omega)
  obtain ⟨m1, m2⟩ := w.r m hm
  have mv : op1 dMinY (var 13) (uEn a1 a2 a3 a4 a5 a6 a7 a8 a9 a10 a11 a12 ws un) S = .ok (nD m) S := op1_of (d := .tup (natL ws)) rfl e1
  have t : valB (op2 dLt (op1 dMinY (var 13)) (cst (.int 3000))) (uEn a1 a2 a3 a4 a5 a6 a7 a8 a9 a10 a11 a12 ws un) S = .ok (decide (m < 3000)) S := val_of (op2_of mv (d2 := nD 3000) rfl (ltN _ _))
  cases c : decide (m < 3000) with
  | true =>
    rw [c] at t
    have c := of_decide_eq_true c
    refine (ite_t t).trans (op1_of (d := .lst (natL (cmL ws m))) ?_ (cm_max hm fun x hx => (w.r x hx).1))
    refine lcN nD nD (divB ws) (rng2 (lo := 1) (hi := m + 1) (by omega) (by omega) rfl (op2_of (d1 := nD m) (d2 := nD 1) mv rfl (addN _ 1))) (fun k hk => ?_) (by rw [List.length_range']; omega)
    obtain ⟨k1, k2⟩ := List.mem_range'_1.mp hk
    have l : lcE (itS (var 13)) (tgN 16) (valB (op2 dGt (op2 dMod (op1 dInt (var 16)) (var 15)) (cst (.int 0)))) (var 16) [16] (uEn a1 a2 a3 a4 a5 a6 a7 a8 a9 a10 a11 a12 ws un |>.set 15 (.vl (nD k))) S = .ok (.lst (natL (ws.filter fun w => decide (0 < w % k)))) S :=
      lcN nD nD (fun w => decide (0 < w % k)) (its_of (d := .tup (natL ws)) rfl rfl) (fun x hx => by
        have md : dMod (nD x) (nD k) = some (nD (x % k)) := by
          show (if (0 : Int) < (k : Int) then some (D.int ((x : Int) % (k : Int))) else none) = _
          rw [if_pos (by omega)]
          rfl
        exact ⟨_, rfl, val_of (op2_of (op2_of (d1 := nD x) (d2 := nD k) (op1_of (d := nD x) rfl rfl) rfl md) (d2 := nD 0) rfl (gtN _ _)), fun _ => rfl⟩) (by omega)
    have t := tru_ofE (k := !(natL (ws.filter fun w => decide (0 < w % k))).isEmpty) l rfl
    rw [emp_map] at t
    have t2 := not_of t
    rw [Bool.not_not] at t2
    exact ⟨_, rfl, t2, fun _ => rfl⟩
  | false =>
    rw [c] at t
    exact (ite_f t).trans (call1_of rfl (v_common_unit (wd_tup ws) w S))
end
theorem u_same {ws : List Nat} {un : Nat} {S : DS} {a1 a2 a3 a6 a7 a12 : Slot} {j : D} {of gl : List Nat} {a vv cm : Nat} (gd : Gd 3 (6 * 1001) (.lst [j, .tup (natL of), .tup (natL gl), lastD gl, .tup [nD a, nD vv], nD cm])) : (ifS (notB (truB (callE m__law_same (consA (var 11) (consA (lstE (consA (var 5) (consA (op1 dTuple (var 4)) (consA (var 8) (consA (iteE (truB (var 8)) (op2 dIxA (var 8) (op1 dNeg (cst (.int 1)))) (cst .non)) (consA (tupE (consA (op2 dIxA (var 9) (cst (.int 0))) (consA (op2 dSub (cst (.int 0)) (op2 dIxA (var 9) (cst (.int 1)))) nilA))) (consA (var 10) nilA))))))) nilA))))) (retS (cst (.bl false))) skipS) (uEn a1 a2 a3 (.vl (.lst (natL of))) (.vl j) a6 a7 (.vl (.tup (natL gl))) (.vl (pD ((a : Int), -(vv : Int)))) (.vl (nD cm)) (.vl (.lst [j, .tup (natL of), .tup (natL gl), lastD gl, .tup [nD a, nD vv], nD cm])) a12 ws un) S = .ok (.nx (uEn a1 a2 a3 (.vl (.lst (natL of))) (.vl j) a6 a7 (.vl (.tup (natL gl))) (.vl (pD ((a : Int), -(vv : Int)))) (.vl (nD cm)) (.vl (.lst [j, .tup (natL of), .tup (natL gl), lastD gl, .tup [nD a, nD vv], nD cm])) a12 ws un)) S := by
  have x2 : (op1 dTuple (var 4)) (uEn a1 a2 a3 (.vl (.lst (natL of))) (.vl j) a6 a7 (.vl (.tup (natL gl))) (.vl (pD ((a : Int), -(vv : Int)))) (.vl (nD cm)) (.vl (.lst [j, .tup (natL of), .tup (natL gl), lastD gl, .tup [nD a, nD vv], nD cm])) a12 ws un) S = .ok (.tup (natL of)) S := op1_of (d := .lst (natL of)) rfl rfl
  have x4 : (iteE (truB (var 8)) (op2 dIxA (var 8) (op1 dNeg (cst (.int 1)))) (cst .non)) (uEn a1 a2 a3 (.vl (.lst (natL of))) (.vl j) a6 a7 (.vl (.tup (natL gl))) (.vl (pD ((a : Int), -(vv : Int)))) (.vl (nD cm)) (.vl (.lst [j, .tup (natL of), .tup (natL gl), lastD gl, .tup [nD a, nD vv], nD cm])) a12 ws un) S = .ok (lastD gl) S := last_of (i := 8) (l := gl) (d := .tup (natL gl)) rfl rfl (fun n => rfl)
  have x5 : (tupE (consA (op2 dIxA (var 9) (cst (.int 0))) (consA (op2 dSub (cst (.int 0)) (op2 dIxA (var 9) (cst (.int 1)))) nilA))) (uEn a1 a2 a3 (.vl (.lst (natL of))) (.vl j) a6 a7 (.vl (.tup (natL gl))) (.vl (pD ((a : Int), -(vv : Int)))) (.vl (nD cm)) (.vl (.lst [j, .tup (natL of), .tup (natL gl), lastD gl, .tup [nD a, nD vv], nD cm])) a12 ws un) S = .ok (.tup [nD a, nD vv]) S := by
    have e : dSub (.int 0) (.int (-(vv : Int))) = some (nD vv) := by
      show some (D.int (0 - -(vv : Int))) = some (D.int (vv : Int))
      congr 2
      omega
    exact tup2 (op2_of (d1 := pD ((a : Int), -(vv : Int))) (d2 := nD 0) rfl rfl rfl) (op2_of (d1 := .int 0) (d2 := .int (-(vv : Int))) rfl (op2_of (d1 := pD ((a : Int), -(vv : Int))) (d2 := nD 1) rfl rfl rfl) e)
  have x : (lstE (consA (var 5) (consA (op1 dTuple (var 4)) (consA (var 8) (consA (iteE (truB (var 8)) (op2 dIxA (var 8) (op1 dNeg (cst (.int 1)))) (cst .non)) (consA (tupE (consA (op2 dIxA (var 9) (cst (.int 0))) (consA (op2 dSub (cst (.int 0)) (op2 dIxA (var 9) (cst (.int 1)))) nilA))) (consA (var 10) nilA))))))) (uEn a1 a2 a3 (.vl (.lst (natL of))) (.vl j) a6 a7 (.vl (.tup (natL gl))) (.vl (pD ((a : Int), -(vv : Int)))) (.vl (nD cm)) (.vl (.lst [j, .tup (natL of), .tup (natL gl), lastD gl, .tup [nD a, nD vv], nD cm])) a12 ws un) S = .ok (.lst [j, .tup (natL of), .tup (natL gl), lastD gl, .tup [nD a, nD vv], nD cm]) S := lst6 (d := j) (i := .tup (natL gl)) (q := nD cm) rfl x2 rfl x4 x5 rfl
  have y := v_same gd (by omega) (by omega) S
  have z : callE m__law_same (consA (var 11) (consA (lstE (consA (var 5) (consA (op1 dTuple (var 4)) (consA (var 8) (consA (iteE (truB (var 8)) (op2 dIxA (var 8) (op1 dNeg (cst (.int 1)))) (cst .non)) (consA (tupE (consA (op2 dIxA (var 9) (cst (.int 0))) (consA (op2 dSub (cst (.int 0)) (op2 dIxA (var 9) (cst (.int 1)))) nilA))) (consA (var 10) nilA))))))) nilA)) (uEn a1 a2 a3 (.vl (.lst (natL of))) (.vl j) a6 a7 (.vl (.tup (natL gl))) (.vl (pD ((a : Int), -(vv : Int)))) (.vl (nD cm)) (.vl (.lst [j, .tup (natL of), .tup (natL gl), lastD gl, .tup [nD a, nD vv], nD cm])) a12 ws un) S = .ok (.bl true) S := call2_of rfl x y
  exact if_f (not_of (tru_ofE z rfl))
theorem v__law_units_hold {S : DS} (v : Vs S) : ∃ S' : DS, m__law_units_hold [.st] S = .ok (.bl true) S' ∧ Vs S' := by
  obtain ⟨ws, un, sl, S1, e1, w, l6, un1, un2, sl5, v1⟩ := v__law_weights v
  have n1 := w.n1; have n2 := w.n2
  have hne : ws ≠ [] := fun z => by
    rw [z] at n1
    have h0 : ([] : List Nat).length = 0 := rfl
    omega
  obtain ⟨r1, S2, e2, l2, v2⟩ := v_draw v1 (n := 100) (by decide) (by decide)
  obtain ⟨x3, S3, e3, m3, v3⟩ := v_pick v2 (ds := [nD un, nD (max 1 (un - 1)), nD (1 + r1)]) (by simp) (by show 3 ≤ 1000; omega)
  obtain ⟨u, rfl, u1, u2⟩ := nat3 (a := un) (b := max 1 (un - 1)) (c := 1 + r1) (lo := 1) (hi := 900) m3 (by omega) (by omega) (by omega)
  obtain ⟨r4, S4, e4, l4, v4⟩ := v_draw v3 (n := 20) (by decide) (by decide)
  obtain ⟨x5, S5, e5, m5, v5⟩ := v_pick v4 (ds := [nD sl, nD sl, nD r4, nD 0]) (by simp) (by show 4 ≤ 1000; omega)
  obtain ⟨s, rfl, s20⟩ := nat4 (hi := 20) m5 (by omega) (by omega) (by omega) (by omega)
  obtain ⟨x6, S6, e6, m6, v6⟩ := v_pick v5 (ds := [nD 5, nD 60]) (by simp) (by show 2 ≤ 1000; omega)
  obtain ⟨k6, rfl, a6, b6⟩ := nat2 (a := 5) (b := 60) (lo := 5) (hi := 60) m6 (by omega) (by omega)
  obtain ⟨r7, S7, e7, l7, v7⟩ := v_draw v6 (n := k6) (by omega) (Nat.lt_of_le_of_lt b6 (by decide))
  obtain ⟨x8, S8, e8, m8, v8⟩ := v_pick v7 (ds := [nD 4, nD 60]) (by simp) (by show 2 ≤ 1000; omega)
  obtain ⟨k8, rfl, a8, b8⟩ := nat2 (a := 4) (b := 60) (lo := 4) (hi := 60) m8 (by omega) (by omega)
  obtain ⟨r9, S9, e9, l9, v9⟩ := v_draw v8 (n := k8) (by omega) (Nat.lt_of_le_of_lt b8 (by decide))
  refine ⟨S9, ?_, v9⟩
  rw [e__law_units_hold]
  refine body_rt ?_
  rw [b__law_units_hold]
  have st1 : (asgT (tgT [(tgN 13), (tgN 14), (tgN 2)]) (callE m__law_weights (consA (var 0) nilA))) [.vl .st, .no, .no, .no, .no, .no, .no, .no, .no, .no, .no, .no, .no, .no, .no, .no, .no] S = .ok (.nx (uEn .no (.vl (nD sl)) .no .no .no .no .no .no .no .no .no .no ws un)) S1 := asgT_of (call1_of rfl e1) rfl
  have st2 : (asgS 1 (callE m__law_pick (consA (var 0) (consA (lstE (consA (var 14) (consA (op1 dMaxX (lstE (consA (cst (.int 1)) (consA (op2 dSub (var 14) (cst (.int 1))) nilA)))) (consA (op2 dAdd (cst (.int 1)) (callE m__law_draw (consA (var 0) (consA (cst (.int 100)) nilA)))) nilA)))) nilA)))) (uEn .no (.vl (nD sl)) .no .no .no .no .no .no .no .no .no .no ws un) S1 = .ok (.nx (uEn (.vl (nD u)) (.vl (nD sl)) .no .no .no .no .no .no .no .no .no .no ws un)) S3 := by
    refine asg_of (pick_of rfl (lst3 (d := nD un) rfl (op1_of (e := nD (max 1 (un - 1))) (lst2 (d := .int 1) rfl (op2_of (d1 := nD un) (d2 := nD 1) rfl rfl (subN un1))) ?_) (op2_of (d1 := nD 1) rfl (draw_of rfl rfl e2) (addN 1 r1))) e3)
    rw [mx_one]
    unfold nD
    congr 2
    split <;> omega
  have st3 : (asgS 2 (callE m__law_pick (consA (var 0) (consA (lstE (consA (var 2) (consA (var 2) (consA (callE m__law_draw (consA (var 0) (consA (cst (.int 20)) nilA))) (consA (cst (.int 0)) nilA))))) nilA)))) (uEn (.vl (nD u)) (.vl (nD sl)) .no .no .no .no .no .no .no .no .no .no ws un) S3 = .ok (.nx (uEn (.vl (nD u)) (.vl (nD s)) .no .no .no .no .no .no .no .no .no .no ws un)) S5 := asg_of (pick_of rfl (lst4 (d := nD sl) (e := nD sl) rfl rfl (draw_of rfl rfl e4) (j := nD 0) rfl) e5)
  have st4 : (asgS 3 (op1 dTuple (lcE (itS (var 13)) (tgN 16) yesB (callE m__law_near (consA (var 16) (consA (var 1) nilA))) [16]))) (uEn (.vl (nD u)) (.vl (nD s)) .no .no .no .no .no .no .no .no .no .no ws un) S5 = .ok (.nx (uEn (.vl (nD u)) (.vl (nD s)) (.vl (.tup (natL (tsN ws u)))) .no .no .no .no .no .no .no .no .no ws un)) S5 := asg_of (u_times w u1 (by omega))
  have st5 : (asgS 4 (lcE (itR1 (op1 dLen (var 13))) (tgN 15) (valB (op2 dGt (op1 dAbs (op2 dSub (op2 dIxA (var 13) (var 15)) (op2 dMulX (op2 dIxA (var 3) (var 15)) (var 1)))) (var 2))) (var 15) [15])) (uEn (.vl (nD u)) (.vl (nD s)) (.vl (.tup (natL (tsN ws u)))) .no .no .no .no .no .no .no .no .no ws un) S5 = .ok (.nx (uEn (.vl (nD u)) (.vl (nD s)) (.vl (.tup (natL (tsN ws u)))) (.vl (.lst (natL (offG ws s u)))) .no .no .no .no .no .no .no .no ws un)) S5 := asg_of (u_off w (by omega))
  have st6 : (asgS 5 (iteE (truB (var 4)) (tupE (consA (cst (.str "off")) (consA (op2 dIxA (var 4) (cst (.int 0))) (consA (op2 dSub (op2 dIxA (var 13) (op2 dIxA (var 4) (cst (.int 0)))) (op2 dMulX (op2 dIxA (var 3) (op2 dIxA (var 4) (cst (.int 0)))) (var 1))) nilA)))) (tupE (consA (cst (.str "fits")) (consA (var 3) nilA))))) (uEn (.vl (nD u)) (.vl (nD s)) (.vl (.tup (natL (tsN ws u)))) (.vl (.lst (natL (offG ws s u)))) .no .no .no .no .no .no .no .no ws un) S5 = .ok (.nx (uEn (.vl (nD u)) (.vl (nD s)) (.vl (.tup (natL (tsN ws u)))) (.vl (.lst (natL (offG ws s u)))) (.vl (judD ws s u)) .no .no .no .no .no .no .no ws un)) S5 := asg_of (u_due w (by omega))
  have st7 : (asgS 6 (op2 dAdd (cst (.int 1)) (callE m__law_draw (consA (var 0) (consA (callE m__law_pick (consA (var 0) (consA (lstE (consA (cst (.int 5)) (consA (cst (.int 60)) nilA))) nilA))) nilA))))) (uEn (.vl (nD u)) (.vl (nD s)) (.vl (.tup (natL (tsN ws u)))) (.vl (.lst (natL (offG ws s u)))) (.vl (judD ws s u)) .no .no .no .no .no .no .no ws un) S5 = .ok (.nx (uEn (.vl (nD u)) (.vl (nD s)) (.vl (.tup (natL (tsN ws u)))) (.vl (.lst (natL (offG ws s u)))) (.vl (judD ws s u)) (.vl (nD (1 + r7))) .no .no .no .no .no .no ws un)) S7 := asg_of (op2_of (d1 := nD 1) rfl (draw_of rfl (pick_of rfl (lst2 (d := nD 5) (e := nD 60) rfl rfl) e6) e7) (addN 1 r7))
  have st8 : (asgS 7 (op2 dAdd (var 6) (callE m__law_draw (consA (var 0) (consA (callE m__law_pick (consA (var 0) (consA (lstE (consA (cst (.int 4)) (consA (cst (.int 60)) nilA))) nilA))) nilA))))) (uEn (.vl (nD u)) (.vl (nD s)) (.vl (.tup (natL (tsN ws u)))) (.vl (.lst (natL (offG ws s u)))) (.vl (judD ws s u)) (.vl (nD (1 + r7))) .no .no .no .no .no .no ws un) S7 = .ok (.nx (uEn (.vl (nD u)) (.vl (nD s)) (.vl (.tup (natL (tsN ws u)))) (.vl (.lst (natL (offG ws s u)))) (.vl (judD ws s u)) (.vl (nD (1 + r7))) (.vl (nD (1 + r7 + r9))) .no .no .no .no .no ws un)) S9 := asg_of (op2_of (d1 := nD (1 + r7)) rfl (draw_of rfl (pick_of rfl (lst2 (d := nD 4) (e := nD 60) rfl rfl) e8) e9) (addN (1 + r7) r9))
  have hlh : 1 + r7 ≤ 1 + r7 + r9 := by omega
  have hh : 1 + r7 + r9 ≤ 1 + r7 + 100 := by omega
  have g : Rg ws (1 + r7) (1 + r7 + r9) := ⟨by omega, by omega, by omega⟩
  have hlo : 1 + r7 ≤ 60 := by omega
  generalize 1 + r7 + r9 = high at *
  generalize 1 + r7 = low at *
  have c : (high - low + 1) * ws.length ≤ 20000 := Nat.le_trans (Nat.mul_le_mul (show high - low + 1 ≤ 101 by omega) l6) (by decide)
  have hs : s ≤ 100000 := by omega
  have u2' : u ≤ 100000 := by omega
  obtain ⟨a, vv, q1, q2, q3, q4⟩ := u_close w g (un := un) (S := S9) (a1 := .vl (nD u)) (a2 := .vl (nD s)) (a3 := .vl (.tup (natL (tsN ws u)))) (a4 := .vl (.lst (natL (offG ws s u)))) (a5 := .vl (judD ws s u)) (a8 := .vl (.tup (natL (gu ws s low high)))) (a9 := .no) (a10 := .no) (a11 := .no) (a12 := .no)
  have st9 : (asgS 8 (op1 dTuple (lcE (itR2 (var 6) (op2 dAdd (var 7) (cst (.int 1)))) (tgN 15) (notB (truB (lcE (itS (var 13)) (tgN 16) (valB (op2 dGt (callE m__law_gap (consA (var 16) (consA (var 15) nilA))) (var 2))) (var 16) [16]))) (var 15) [15]))) (uEn (.vl (nD u)) (.vl (nD s)) (.vl (.tup (natL (tsN ws u)))) (.vl (.lst (natL (offG ws s u)))) (.vl (judD ws s u)) (.vl (nD low)) (.vl (nD high)) .no .no .no .no .no ws un) S9 = .ok (.nx (uEn (.vl (nD u)) (.vl (nD s)) (.vl (.tup (natL (tsN ws u)))) (.vl (.lst (natL (offG ws s u)))) (.vl (judD ws s u)) (.vl (nD low)) (.vl (nD high)) (.vl (.tup (natL (gu ws s low high)))) .no .no .no .no ws un)) S9 := asg_of (u_good w g)
  have st10 : (asgS 9 (op1 dMinY (lcE (itR2 (var 6) (op2 dAdd (var 7) (cst (.int 1)))) (tgN 15) yesB (tupE (consA (op1 dMaxX (lcE (itS (var 13)) (tgN 16) yesB (callE m__law_gap (consA (var 16) (consA (var 15) nilA))) [16])) (consA (op2 dSub (cst (.int 0)) (var 15)) nilA))) [15]))) (uEn (.vl (nD u)) (.vl (nD s)) (.vl (.tup (natL (tsN ws u)))) (.vl (.lst (natL (offG ws s u)))) (.vl (judD ws s u)) (.vl (nD low)) (.vl (nD high)) (.vl (.tup (natL (gu ws s low high)))) .no .no .no .no ws un) S9 = .ok (.nx (uEn (.vl (nD u)) (.vl (nD s)) (.vl (.tup (natL (tsN ws u)))) (.vl (.lst (natL (offG ws s u)))) (.vl (judD ws s u)) (.vl (nD low)) (.vl (nD high)) (.vl (.tup (natL (gu ws s low high)))) (.vl (pD ((a : Int), -(vv : Int)))) .no .no .no ws un)) S9 := asg_of q1
  have st11 : (asgS 10 (iteE (valB (op2 dLt (op1 dMinY (var 13)) (cst (.int 3000)))) (op1 dMaxX (lcE (itR2 (cst (.int 1)) (op2 dAdd (op1 dMinY (var 13)) (cst (.int 1)))) (tgN 15) (notB (truB (lcE (itS (var 13)) (tgN 16) (valB (op2 dGt (op2 dMod (op1 dInt (var 16)) (var 15)) (cst (.int 0)))) (var 16) [16]))) (var 15) [15])) (callE m_common_unit (consA (var 13) nilA)))) (uEn (.vl (nD u)) (.vl (nD s)) (.vl (.tup (natL (tsN ws u)))) (.vl (.lst (natL (offG ws s u)))) (.vl (judD ws s u)) (.vl (nD low)) (.vl (nD high)) (.vl (.tup (natL (gu ws s low high)))) (.vl (pD ((a : Int), -(vv : Int)))) .no .no .no ws un) S9 = .ok (.nx (uEn (.vl (nD u)) (.vl (nD s)) (.vl (.tup (natL (tsN ws u)))) (.vl (.lst (natL (offG ws s u)))) (.vl (judD ws s u)) (.vl (nD low)) (.vl (nD high)) (.vl (.tup (natL (gu ws s low high)))) (.vl (pD ((a : Int), -(vv : Int)))) (.vl (nD (gcdL ws))) .no .no ws un)) S9 := asg_of (u_common w)
  have zg := v_good_units (wd_tup ws) w hs g S9
  rw [if_pos c] at zg
  have st12 : (asgS 11 (lstE (consA (callE m_judge_unit (consA (var 13) (consA (var 2) (consA (var 1) nilA)))) (consA (callE m_off_weights (consA (var 13) (consA (var 2) (consA (var 1) nilA)))) (consA (callE m_good_units (consA (var 13) (consA (var 2) (consA (var 6) (consA (var 7) nilA))))) (consA (callE m_greatest_unit (consA (var 13) (consA (var 2) (consA (var 6) (consA (var 7) nilA))))) nilA)))))) (uEn (.vl (nD u)) (.vl (nD s)) (.vl (.tup (natL (tsN ws u)))) (.vl (.lst (natL (offG ws s u)))) (.vl (judD ws s u)) (.vl (nD low)) (.vl (nD high)) (.vl (.tup (natL (gu ws s low high)))) (.vl (pD ((a : Int), -(vv : Int)))) (.vl (nD (gcdL ws))) .no .no ws un) S9 = .ok (.nx (uEn (.vl (nD u)) (.vl (nD s)) (.vl (.tup (natL (tsN ws u)))) (.vl (.lst (natL (offG ws s u)))) (.vl (judD ws s u)) (.vl (nD low)) (.vl (nD high)) (.vl (.tup (natL (gu ws s low high)))) (.vl (pD ((a : Int), -(vv : Int)))) (.vl (nD (gcdL ws))) (.vl (.lst [judD ws s u, .tup (natL (offG ws s u)), .tup (natL (gu ws s low high)), lastD (gu ws s low high)])) .no ws un)) S9 :=
    asg_of (lst4 (call3_of rfl rfl rfl (v_judge_unit (wd_tup ws) w hs u1 u2' S9)) (call3_of rfl rfl rfl (v_off_weights (wd_tup ws) w hs u1 u2' S9)) (callA_of (a4_of rfl rfl rfl rfl) zg) (callA_of (a4_of rfl rfl rfl rfl) (v_greatest_unit (wd_tup ws) w hs g c S9)))
  have st13 : (asgS 11 (op2 dAdd (var 11) (lstE (consA (callE m_closest_unit (consA (var 13) (consA (var 6) (consA (var 7) nilA)))) (consA (callE m_common_unit (consA (var 13) nilA)) nilA))))) (uEn (.vl (nD u)) (.vl (nD s)) (.vl (.tup (natL (tsN ws u)))) (.vl (.lst (natL (offG ws s u)))) (.vl (judD ws s u)) (.vl (nD low)) (.vl (nD high)) (.vl (.tup (natL (gu ws s low high)))) (.vl (pD ((a : Int), -(vv : Int)))) (.vl (nD (gcdL ws))) (.vl (.lst [judD ws s u, .tup (natL (offG ws s u)), .tup (natL (gu ws s low high)), lastD (gu ws s low high)])) .no ws un) S9 = .ok (.nx (uEn (.vl (nD u)) (.vl (nD s)) (.vl (.tup (natL (tsN ws u)))) (.vl (.lst (natL (offG ws s u)))) (.vl (judD ws s u)) (.vl (nD low)) (.vl (nD high)) (.vl (.tup (natL (gu ws s low high)))) (.vl (pD ((a : Int), -(vv : Int)))) (.vl (nD (gcdL ws))) (.vl (.lst [judD ws s u, .tup (natL (offG ws s u)), .tup (natL (gu ws s low high)), lastD (gu ws s low high), .tup [nD a, nD vv], nD (gcdL ws)])) .no ws un)) S9 :=
    asg_of (op2_of (d1 := .lst [judD ws s u, .tup (natL (offG ws s u)), .tup (natL (gu ws s low high)), lastD (gu ws s low high)]) rfl (lst2 (call3_of rfl rfl rfl (v_closest_unit (wd_tup ws) w g c q2 S9)) (call1_of rfl (v_common_unit (wd_tup ws) w S9))) (catL (by show 4 + 2 ≤ 16777216; omega)))
  have gd : Gd 3 (6 * 1001) (.lst [judD ws s u, .tup (natL (offG ws s u)), .tup (natL (gu ws s low high)), lastD (gu ws s low high), .tup [nD a, nD vv], nD (gcdL ws)]) := by
    have gx : ∀ x ∈ gu ws s low high, x ≤ 1000 := fun x hx => by
      have := gu_le g.lh x hx
      omega
    refine (gd_lst (h := 2) (n := 1000) (ds := [judD ws s u, .tup (natL (offG ws s u)), .tup (natL (gu ws s low high)), lastD (gu ws s low high), .tup [nD a, nD vv], nD (gcdL ws)]) fun d hd => ?_).mono (Nat.le_refl _) (by show 6 * 1001 ≤ 6 * 1001; omega)
    simp only [List.mem_cons, List.not_mem_nil, or_false] at hd
    rcases hd with rfl | rfl | rfl | rfl | rfl | rfl
    · exact (gd_jud w n2 u2').mono (Nat.le_refl _) (by omega)
    · refine (gd_natT fun n hn => ?_).mono (by omega) ?_
      · unfold offG at hn
        have := List.mem_range.mp (List.mem_filter.mp hn).1
        omega
      · unfold offG
        refine Nat.le_trans (List.length_filter_le _ _) ?_
        rw [List.length_range]
        omega
    · exact (gd_natT fun n hn => by have := gx n hn; omega).mono (by omega) (by have := gu_len ws s low high; have := g.l1; omega)
    · unfold lastD
      cases e : (gu ws s low high).getLast? with
      | none => exact gd_non.mono (by omega) (by omega)
      | some x => exact (gd_nD (by have := gx x (List.mem_of_getLast? e); omega)).mono (by omega) (by omega)
    · have z := gd_tup (h := 0) (n := 0) (ds := [nD a, nD vv]) fun d hd => by
        simp only [List.mem_cons, List.not_mem_nil, or_false] at hd
        rcases hd with rfl | rfl
        · exact gd_nD q4
        · exact gd_nD (by omega)
      exact z.mono (by omega) (by show 2 * 1 ≤ 1000; omega)
    · obtain ⟨x, hx⟩ := List.exists_mem_of_ne_nil ws hne
      have := Nat.le_of_dvd (w.r x hx).1 (gcdL_dvd x hx)
      have := (w.r x hx).2
      exact (gd_nD (by omega)).mono (by omega) (by omega)
  have st14 : (ifS (notB (truB (callE m__law_same (consA (var 11) (consA (lstE (consA (var 5) (consA (op1 dTuple (var 4)) (consA (var 8) (consA (iteE (truB (var 8)) (op2 dIxA (var 8) (op1 dNeg (cst (.int 1)))) (cst .non)) (consA (tupE (consA (op2 dIxA (var 9) (cst (.int 0))) (consA (op2 dSub (cst (.int 0)) (op2 dIxA (var 9) (cst (.int 1)))) nilA))) (consA (var 10) nilA))))))) nilA))))) (retS (cst (.bl false))) skipS) (uEn (.vl (nD u)) (.vl (nD s)) (.vl (.tup (natL (tsN ws u)))) (.vl (.lst (natL (offG ws s u)))) (.vl (judD ws s u)) (.vl (nD low)) (.vl (nD high)) (.vl (.tup (natL (gu ws s low high)))) (.vl (pD ((a : Int), -(vv : Int)))) (.vl (nD (gcdL ws))) (.vl (.lst [judD ws s u, .tup (natL (offG ws s u)), .tup (natL (gu ws s low high)), lastD (gu ws s low high), .tup [nD a, nD vv], nD (gcdL ws)])) .no ws un) S9 = .ok (.nx (uEn (.vl (nD u)) (.vl (nD s)) (.vl (.tup (natL (tsN ws u)))) (.vl (.lst (natL (offG ws s u)))) (.vl (judD ws s u)) (.vl (nD low)) (.vl (nD high)) (.vl (.tup (natL (gu ws s low high)))) (.vl (pD ((a : Int), -(vv : Int)))) (.vl (nD (gcdL ws))) (.vl (.lst [judD ws s u, .tup (natL (offG ws s u)), .tup (natL (gu ws s low high)), lastD (gu ws s low high), .tup [nD a, nD vv], nD (gcdL ws)])) .no ws un)) S9 := u_same gd
  refine (seq_nx st1).trans ((seq_nx st2).trans ((seq_nx st3).trans ((seq_nx st4).trans ((seq_nx st5).trans ((seq_nx st6).trans ((seq_nx st7).trans ((seq_nx st8).trans ((seq_nx st9).trans ((seq_nx st10).trans ((seq_nx st11).trans ((seq_nx st12).trans ((seq_nx st13).trans ((seq_nx st14).trans ?_)))))))))))))
  generalize hO : D.lst [judD ws s u, .tup (natL (offG ws s u)), .tup (natL (gu ws s low high)), lastD (gu ws s low high), .tup [nD a, nD vv], nD (gcdL ws)] = told
  have st15 : (asgS 12 (callE m__law_rows (consA (var 13) (consA (var 2) (consA (var 6) (consA (var 7) nilA)))))) (uEn (.vl (nD u)) (.vl (nD s)) (.vl (.tup (natL (tsN ws u)))) (.vl (.lst (natL (offG ws s u)))) (.vl (judD ws s u)) (.vl (nD low)) (.vl (nD high)) (.vl (.tup (natL (gu ws s low high)))) (.vl (pD ((a : Int), -(vv : Int)))) (.vl (nD (gcdL ws))) (.vl told) .no ws un) S9 = .ok (.nx (uEn (.vl (nD u)) (.vl (nD s)) (.vl (.tup (natL (tsN ws u)))) (.vl (.lst (natL (offG ws s u)))) (.vl (judD ws s u)) (.vl (nD low)) (.vl (nD high)) (.vl (.tup (natL (gu ws s low high)))) (.vl (pD ((a : Int), -(vv : Int)))) (.vl (nD (gcdL ws))) (.vl told) (.vl (rowsD (rowsF ws s high (high + 1 - low) low))) ws un)) S9 := asg_of (call4_of rfl rfl rfl rfl (v__law_rows (wd_tup ws) w g.h2 g S9))
  refine (seq_nx st15).trans ?_
  have gr := gd_rows (s := s) w g hh
  have ph := v__law_papers_hold w l6 hs g hh u1 u2' S9
  have ra := v_rows_against (wd_tup ws) w hs g c S9
  have tn : ∀ (b1 b2 : Bool), b1 = !b2 → dIs (rowsD (rowsF ws s high (high + 1 - low) low)) .non = some (.bl b1) → (gu ws s low high).isEmpty = b2 → valB (op2 dNe (op2 dIs (var 12) (cst .non)) (op2 dNe (var 8) (tupE nilA))) (uEn (.vl (nD u)) (.vl (nD s)) (.vl (.tup (natL (tsN ws u)))) (.vl (.lst (natL (offG ws s u)))) (.vl (judD ws s u)) (.vl (nD low)) (.vl (nD high)) (.vl (.tup (natL (gu ws s low high)))) (.vl (pD ((a : Int), -(vv : Int)))) (.vl (nD (gcdL ws))) (.vl told) (.vl (rowsD (rowsF ws s high (high + 1 - low) low))) ws un) S9 = .ok false S9 := fun b1 b2 e h1 h2 => by
    have nn := ne_emp (gu ws s low high)
    rw [h2] at nn
    have z := val_of (op2_of (ρ := uEn (.vl (nD u)) (.vl (nD s)) (.vl (.tup (natL (tsN ws u)))) (.vl (.lst (natL (offG ws s u)))) (.vl (judD ws s u)) (.vl (nD low)) (.vl (nD high)) (.vl (.tup (natL (gu ws s low high)))) (.vl (pD ((a : Int), -(vv : Int)))) (.vl (nD (gcdL ws))) (.vl told) (.vl (rowsD (rowsF ws s high (high + 1 - low) low))) ws un) (S := S9) (op2_of (f1 := var 12) (f2 := cst .non) rfl rfl h1) (op2_of (f1 := var 8) (f2 := tupE nilA) (d1 := .tup (natL (gu ws s low high))) rfl (tupE_of nil_of (Nat.zero_le _)) nn) (ne_bl _ _))
    rw [e] at z
    rw [z]
    cases b2 <;> rfl
  have t16 : valB (op2 dNe (op2 dIs (var 12) (cst .non)) (op2 dNe (var 8) (tupE nilA))) (uEn (.vl (nD u)) (.vl (nD s)) (.vl (.tup (natL (tsN ws u)))) (.vl (.lst (natL (offG ws s u)))) (.vl (judD ws s u)) (.vl (nD low)) (.vl (nD high)) (.vl (.tup (natL (gu ws s low high)))) (.vl (pD ((a : Int), -(vv : Int)))) (.vl (nD (gcdL ws))) (.vl told) (.vl (rowsD (rowsF ws s high (high + 1 - low) low))) ws un) S9 = .ok false S9 := by
    cases e : rowsF ws s high (high + 1 - low) low with
    | none =>
      rw [e] at tn
      exact tn true false rfl rfl (gu_none hne g e)
    | some rs =>
      rw [e] at tn
      exact tn false true rfl rfl (gu_some hne g e)
  refine (seq_nx (if_f ((or_f t16).trans (not_of (tru_ofE (call2_of (callA_of (a4_of rfl rfl rfl rfl) ra) rfl (v_same gr (by decide) (by decide) S9)) rfl))))).trans ?_
  refine ret_of (callA_of (ds := [.st, .tup (natL ws), nD s, nD u, .tup (natL (tsN ws u)), nD low, nD high, rowsD (rowsF ws s high (high + 1 - low) low)]) ?_ ph)
  exact cons_of rfl (cons_of rfl (cons_of rfl (cons_of rfl (a4_of rfl rfl rfl rfl))))
end Hk19
namespace Hk19
open PySem Mini
open L2 (atI ixN atI_nat kitB Key)
/-! ## the same, tuple or exact tuple -/
theorem same_py {h n : Nat} {d e : D} (g : Gd h n d) (a : h ≤ 64) (b : n ≤ 30000) (pe : e.pure = true) (hp : e.py = d.py) (S : DS) : m__law_same [d, e] S = .ok (.bl true) S := by
  have g' : Gd h n e := ⟨pe, by rw [hp]; exact g.de, by rw [hp]; exact g.sh, by rw [hp]; exact g.lf, by rw [hp]; exact g.pl, by rw [hp]; exact g.bu⟩
  have e1 : dEq d e = some (.bl true) := by
    have z := gd_eq g a
    unfold dEq dEqv at z ⊢
    rw [hp, gd_okEq g' a, Bool.and_true]
    rw [gd_okEq g a, Bool.and_true] at z
    rw [gd_okEq g a]
    exact z
  have e2 := gd_repr g a b
  have e3 := gd_repr g' a b
  show bd (sameB [.vl d, .vl e]) leave S = _
  simp [sameB, retS, andE, op2, reprEqE, bd, var, slot, lift, rt, e1, e2, e3, hp, leave]
/-! ## the divisors of 100000 -/
def D1 : List Nat := [1, 2, 4, 5, 8, 10, 16, 20, 25, 32, 40, 50, 80, 100, 125, 160, 200, 250, 400, 500, 625, 800, 1000, 1250, 2000, 2500, 3125, 4000]
def D2 : List Nat := [5000, 6250, 10000, 12500, 20000, 25000, 50000, 100000]
theorem dv_all : ∀ v ∈ D1 ++ D2, 100000 % v = 0 := by decide +kernel
theorem dv_low : ∀ v, v < 317 → 1 ≤ v → 100000 % v = 0 → v ∈ D1 ++ D2 := by decide +kernel
theorem dv_high : ∀ j, j < 317 → 1 ≤ j → 100000 % j = 0 → 100000 / j ∈ D1 ++ D2 := by decide +kernel
theorem dv_iff {v : Nat} (h : 1 ≤ v) : v ∈ D1 ++ D2 ↔ v ∣ 100000 := by
  constructor
  · intro m
    exact Nat.dvd_of_mod_eq_zero (dv_all v m)
  · intro m
    obtain ⟨j, hj⟩ := m
    by_cases c : v < 317
    · exact dv_low v c h (Nat.mod_eq_zero_of_dvd ⟨j, hj⟩)
    · have hj0 : 1 ≤ j := by
        rcases Nat.eq_zero_or_pos j with z | z
        · rw [z, Nat.mul_zero] at hj
          omega
        · exact z
      have hj1 : j < 317 := by
        rcases Nat.lt_or_ge j 317 with z | z
        · exact z
        · have : 317 * 317 ≤ v * j := Nat.mul_le_mul (by omega) z
          omega
      have e : 100000 / j = v := by
        rw [hj]
        exact Nat.mul_div_cancel v (by omega)
      rw [← e]
      exact dv_high j hj1 hj0 (Nat.mod_eq_zero_of_dvd ⟨v, by rw [Nat.mul_comm]; exact hj⟩)
theorem gp_zero {w v : Nat} (h1 : 1 ≤ v) (h2 : v ≤ w) : gp w v ≤ 0 ↔ v ∣ w := by
  rcases split_w (w := w) h1 with h | ⟨t, r, ht, hr, e⟩
  · omega
  · rw [(near_t h1 ht hr e).2.1]
    constructor
    · intro z
      have r0 : r = 0 := by omega
      subst r0
      exact ⟨t, by rw [Nat.mul_comm]; omega⟩
    · intro z
      have e2 : w % v = r := by
        rw [e, Nat.mul_comm, Nat.mul_add_mod, Nat.mod_eq_of_lt hr]
      rw [Nat.mod_eq_zero_of_dvd z] at e2
      omega
theorem lt_eq : ∀ {l m : List Nat}, l.Pairwise (· < ·) → m.Pairwise (· < ·) → (∀ x, x ∈ l ↔ x ∈ m) → l = m
  | [], [], _, _, _ => rfl
  | [], y :: m, _, _, h => by have := (h y).mpr List.mem_cons_self; cases this
  | x :: l, [], _, _, h => by have := (h x).mp List.mem_cons_self; cases this
  | x :: l, y :: m, hl, hm, h => by
    obtain ⟨l1, l2⟩ := List.pairwise_cons.mp hl
    obtain ⟨m1, m2⟩ := List.pairwise_cons.mp hm
    have e : x = y := by
      rcases List.mem_cons.mp ((h x).mp List.mem_cons_self) with q | q
      · exact q
      · rcases List.mem_cons.mp ((h y).mpr List.mem_cons_self) with p | p
        · exact p.symm
        · have := m1 x q
          have := l1 y p
          omega
    subst e
    congr 1
    refine lt_eq l2 m2 fun z => ?_
    constructor
    · intro hz
      rcases List.mem_cons.mp ((h z).mp (List.mem_cons_of_mem _ hz)) with q | q
      · have := l1 z hz
        omega
      · exact q
    · intro hz
      rcases List.mem_cons.mp ((h z).mpr (List.mem_cons_of_mem _ hz)) with q | q
      · have := m1 z hz
        omega
      · exact q
def inW (low k : Nat) : Bool := decide (low ≤ k) && decide (k ≤ low + 19999)
theorem gu_dv {low : Nat} (h1 : 1 ≤ low) (h2 : low ≤ 80000) : gu [100000] 0 low (low + 19999) = (D1 ++ D2).filter (inW low) := by
  refine lt_eq ?_ ?_ fun v => ?_
  · unfold gu
    exact List.Pairwise.filter _ (List.pairwise_lt_range' ..)
  · exact List.Pairwise.filter _ (by decide +kernel)
  · rw [gu_mem, List.mem_filter]
    unfold inW
    rw [Bool.and_eq_true, decide_eq_true_eq, decide_eq_true_eq]
    constructor
    · rintro ⟨⟨q1, q2⟩, q3⟩
      have z := q3 100000 List.mem_cons_self
      rw [gp_zero (by omega) (by omega)] at z
      exact ⟨(dv_iff (by omega)).mpr z, q1, by omega⟩
    · rintro ⟨q1, q2, q3⟩
      refine ⟨⟨q2, by omega⟩, fun w hw => ?_⟩
      rw [List.mem_singleton.mp hw, gp_zero (by omega) (by omega)]
      exact (dv_iff (by omega)).mp q1
/-! ## the greatest weights -/
def gW (u : Nat) : List Nat := List.replicate 59 100000 ++ [u]
def gS (u : Nat) : Nat := min (100000 - u) (2 * u - 100000)
def gT (u : Nat) : Nat := if 100000 - u ≤ 2 * u - 100000 then 1 else 2
theorem gW_len (u : Nat) : (gW u).length = 60 := by
  unfold gW
  rw [List.length_append, List.length_replicate]
  rfl
theorem gW_ok {u : Nat} (h1 : 50001 ≤ u) (h2 : u ≤ 99999) : Wt (gW u) := ⟨by rw [gW_len]; omega, by rw [gW_len]; omega, fun n hn => by
  unfold gW at hn
  rcases List.mem_append.mp hn with z | z
  · rw [List.eq_of_mem_replicate z]
    omega
  · rw [List.mem_singleton.mp z]
    omega⟩
theorem near_g {u : Nat} (h1 : 50001 ≤ u) (h2 : u ≤ 99999) : gp 100000 u = gS u ∧ near 100000 u = gT u := by
  obtain ⟨_, g, n⟩ := near_t (w := 100000) (u := u) (t := 1) (r := 100000 - u) (by omega) (by omega) (by omega) (by omega)
  rw [g, n]
  unfold gS gT
  refine ⟨by omega, ?_⟩
  split <;> split <;> omega
theorem near_self {u : Nat} (h1 : 1 ≤ u) : gp u u = 0 ∧ near u u = 1 := by
  obtain ⟨_, g, n⟩ := near_t (w := u) (u := u) (t := 1) (r := 0) h1 (by omega) (by omega) (by omega)
  rw [g, n]
  refine ⟨by omega, ?_⟩
  rw [if_pos (by omega)]
theorem gOff {u : Nat} (h1 : 50001 ≤ u) (h2 : u ≤ 99999) : offG (gW u) (gS u) u = [] := by
  unfold offG
  refine List.filter_eq_nil_iff.mpr fun k hk => ?_
  have hk := List.mem_range.mp hk
  have m : (gW u).getD k 0 ∈ gW u := by
    rw [List.getD_eq_getElem?_getD, List.getElem?_eq_getElem hk]
    exact List.getElem_mem hk
  rw [decide_eq_true_eq]
  generalize (gW u).getD k 0 = x at *
  unfold gW at m
  rcases List.mem_append.mp m with z | z
  · rw [List.eq_of_mem_replicate z, (near_g h1 h2).1]
    omega
  · rw [List.mem_singleton.mp z, (near_self (by omega)).1]
    omega
theorem gTs {u : Nat} (h1 : 50001 ≤ u) (h2 : u ≤ 99999) : tsN (gW u) u = List.replicate 59 (gT u) ++ [1] := by
  unfold tsN gW
  rw [List.map_append, List.map_replicate, (near_g h1 h2).2]
  show _ ++ [near u u] = _
  rw [(near_self (by omega)).2]
theorem gJud {u : Nat} (h1 : 50001 ≤ u) (h2 : u ≤ 99999) : judD (gW u) (gS u) u = .tup [.str "fits", .tup (natL (List.replicate 59 (gT u) ++ [1]))] := by
  unfold judD
  rw [gOff h1 h2, gTs h1 h2]
theorem oJud : judD [1] 99999 100000 = .tup [.str "fits", .tup [nD 1]] := by
  have e : offG [1] 99999 100000 = [] := by decide +kernel
  have e2 : tsN [1] 100000 = [1] := by decide +kernel
  unfold judD
  rw [e, e2]
  rfl
theorem pJud : judD [1] 99998 100000 = .tup [.str "off", nD 0, .int (-99999)] := by
  have e : offG [1] 99998 100000 = [0] := by decide +kernel
  have e2 : near 1 100000 = 1 := by decide +kernel
  unfold judD
  rw [e]
  show D.tup [.str "off", nD 0, dif 1 100000] = _
  unfold dif
  rw [e2]
  rfl
theorem gGcd : gcdL [100000, 99999] = 1 := by decide +kernel
theorem hGcd : gcdL (List.replicate 60 100000) = 100000 := by decide +kernel
theorem wt1 : Wt [1] := ⟨by decide, by decide, fun n hn => by rw [List.mem_singleton.mp hn]; omega⟩
theorem wt100 : Wt [100000] := ⟨by decide, by decide, fun n hn => by rw [List.mem_singleton.mp hn]; omega⟩
theorem wt2 : Wt [100000, 99999] := ⟨by decide, by decide, fun n hn => by
  simp only [List.mem_cons, List.not_mem_nil, or_false] at hn
  omega⟩
theorem wt56 : Wt [5, 6] := ⟨by decide, by decide, fun n hn => by
  simp only [List.mem_cons, List.not_mem_nil, or_false] at hn
  omega⟩
theorem wt60 : Wt (List.replicate 60 100000) := ⟨by rw [List.length_replicate]; omega, by rw [List.length_replicate]; omega, fun n hn => by
  rw [List.eq_of_mem_replicate hn]
  omega⟩
theorem v_closest_many {d : D} {ws : List Nat} (W : WD d ws) (w : Wt ws) {low high : Nat} (g : Rg ws low high) (c : ¬ (high - low + 1) * ws.length ≤ 20000) (S : DS) : m_closest_unit [d, nD low, nD high] S = .er 3 (.str "units") S := by
  have z := v_range W w (s := 0) (by omega) g S
  rw [if_neg c] at z
  rw [e_closest_unit, b_closest_unit]
  exact body_er (seq_er (expr_er (callA_of (a4_of rfl rfl rfl rfl) z)))
theorem ask_many (S : DS) : ask (.er 3 (.str "units") S) = .ok (.str "many units") S := by
  have e : wdW 3 (.str "units") = some (.str "many units") := by
    show (if 3 < 4 ∧ (Str.length "units") ≤ 1000 then some (D.str (hdW 3 ++ "units")) else none) = _
    rw [if_pos ⟨by decide, by decide +kernel⟩]
    exact congrArg (fun s => some (D.str s)) (by decide +kernel : hdW 3 ++ "units" = ("many units" : Str))
  unfold ask
  simp only []
  rw [e]
end Hk19
namespace Hk19
open PySem Mini
open L2 (atI ixN atI_nat kitB Key)
theorem natL_app (a b : List Nat) : natL a ++ natL b = natL (a ++ b) := by
  unfold natL
  rw [List.map_append]
theorem mulPN (i : Nat) {k : Nat} (h1 : 2 ≤ k) (h2 : k ≤ 1000) : dMulP (.tpx [nD i]) (.int (k : Int)) = some (.tpx (natL (List.replicate k i))) := by
  show (if [nD i] ≠ [] ∧ 2 ≤ (k : Int) ∧ (k : Int) ≤ 1000 ∧ [nD i].length ≤ 1000 then some (D.tpx (List.replicate (k : Int).toNat [nD i]).flatten) else none) = _
  rw [if_pos ⟨by simp, by omega, by omega, by simp⟩, Int.toNat_natCast, flat_one]
  unfold natL
  rw [List.map_replicate]
theorem addPN (a b : List Nat) (h : a.length + b.length ≤ 1000) : dAddP (.tpx (natL a)) (.tpx (natL b)) = some (.tpx (natL (a ++ b))) := by
  rw [← natL_app]
  exact if_pos (by rw [natL_len, natL_len]; omega)
theorem mn2 (a b : Int) : dMinY (.lst [.int a, .int b]) = some (.int (if b < a then b else a)) := rfl
abbrev gEn (a1 a2 a3 a4 a5 a6 a7 : Slot) : En := [.vl .st, a1, a2, a3, a4, a5, a6, a7, .no]
def gTold (L : List Nat) : D := .lst [.tup [.str "fits", .tup (natL L)], nD 1, nD 100000, .tup [.str "fits", .tup [nD 1]], .tup [.str "off", nD 0, .int (-99999)]]
def gDue (L : List Nat) : D := .lst [.tpx [.str "fits", .tpx (natL L)], nD 1, nD 100000, .tpx [.str "fits", .tpx [nD 1]], .tpx [.str "off", nD 0, .int (-99999)]]
theorem g_same {L : List Nat} (hl : L.length ≤ 60) (hb : ∀ n ∈ L, n ≤ 100000) (S : DS) : m__law_same [gTold L, gDue L] S = .ok (.bl true) S := by
  have g1 : Gd 2 200 (.tup [.str "fits", .tup (natL L)]) := by
    have z := gd_tup (h := 1) (n := 60) (ds := [.str "fits", .tup (natL L)]) fun d hd => by
      simp only [List.mem_cons, List.not_mem_nil, or_false] at hd
      rcases hd with rfl | rfl
      · exact (gd_str (n := 60) (s := "fits") (by decide +kernel) (by decide +kernel)).mono (by decide) (Nat.le_refl _)
      · exact (gd_natT fun n hn => by have := hb n hn; omega).mono (Nat.le_refl _) hl
    exact z.mono (Nat.le_refl _) (by show 2 * 61 ≤ 200; omega)
  have g2 : Gd 2 200 (.tup [.str "fits", .tup [nD 1]]) := by
    have z := gd_tup (h := 1) (n := 60) (ds := [.str "fits", .tup [nD 1]]) fun d hd => by
      simp only [List.mem_cons, List.not_mem_nil, or_false] at hd
      rcases hd with rfl | rfl
      · exact (gd_str (n := 60) (s := "fits") (by decide +kernel) (by decide +kernel)).mono (by decide) (Nat.le_refl _)
      · exact (gd_natT (l := [1]) fun n hn => by
          rw [List.mem_singleton.mp hn]
          omega).mono (Nat.le_refl _) (by decide)
    exact z.mono (Nat.le_refl _) (by show 2 * 61 ≤ 200; omega)
  have g3 : Gd 2 200 (.tup [.str "off", nD 0, .int (-99999)]) := by
    have z := gd_tup (h := 0) (n := 60) (ds := [.str "off", nD 0, .int (-99999)]) fun d hd => by
      simp only [List.mem_cons, List.not_mem_nil, or_false] at hd
      rcases hd with rfl | rfl | rfl
      · exact gd_str (n := 60) (s := "off") (by decide +kernel) (by decide +kernel)
      · exact (gd_nD (by omega)).mono (Nat.le_refl _) (by decide)
      · exact (gd_int (Nat.lt_of_le_of_lt (show (-99999 : Int).natAbs ≤ 1000000000 by decide) (by decide +kernel))).mono (Nat.le_refl _) (by decide)
    exact z.mono (by decide) (by show 3 * 61 ≤ 200; omega)
  have g : Gd 3 1005 (gTold L) := by
    have z := gd_lst (h := 2) (n := 200) (ds := [.tup [.str "fits", .tup (natL L)], nD 1, nD 100000, .tup [.str "fits", .tup [nD 1]], .tup [.str "off", nD 0, .int (-99999)]]) fun d hd => by
      simp only [List.mem_cons, List.not_mem_nil, or_false] at hd
      rcases hd with rfl | rfl | rfl | rfl | rfl
      · exact g1
      · exact (gd_nD (by omega)).mono (by decide) (by decide)
      · exact (gd_nD (by omega)).mono (by decide) (by decide)
      · exact g2
      · exact g3
    exact z.mono (Nat.le_refl _) (by show 5 * 201 ≤ 1005; omega)
  refine same_py (d := gTold L) (e := gDue L) g (by omega) (by omega) ?_ rfl S
  have p := (pure_nat L).1
  unfold gDue
  simp only [D.pure, pureL, p, Bool.and_true, Bool.true_and]
  rfl
theorem st_d1 : ∀ {ρ : En} {S : DS}, (lstE (consA (cst (.int 1)) (consA (cst (.int 2)) (consA (cst (.int 4)) (consA (cst (.int 5)) (consA (cst (.int 8)) (consA (cst (.int 10)) (consA (cst (.int 16)) (consA (cst (.int 20)) (consA (cst (.int 25)) (consA (cst (.int 32)) (consA (cst (.int 40)) (consA (cst (.int 50)) (consA (cst (.int 80)) (consA (cst (.int 100)) (consA (cst (.int 125)) (consA (cst (.int 160)) (consA (cst (.int 200)) (consA (cst (.int 250)) (consA (cst (.int 400)) (consA (cst (.int 500)) (consA (cst (.int 625)) (consA (cst (.int 800)) (consA (cst (.int 1000)) (consA (cst (.int 1250)) (consA (cst (.int 2000)) (consA (cst (.int 2500)) (consA (cst (.int 3125)) (consA (cst (.int 4000)) nilA))))))))))))))))))))))))))))) ρ S = .ok (.lst (natL D1)) S := fun {ρ S} => lstE_of (S1 := S) (ds := natL D1) rfl (by show 28 ≤ 16777216; omega)
theorem st_d2 : ∀ {ρ : En} {S : DS}, (lstE (consA (cst (.int 5000)) (consA (cst (.int 6250)) (consA (cst (.int 10000)) (consA (cst (.int 12500)) (consA (cst (.int 20000)) (consA (cst (.int 25000)) (consA (cst (.int 50000)) (consA (cst (.int 100000)) nilA))))))))) ρ S = .ok (.lst (natL D2)) S := fun {ρ S} => lstE_of (S1 := S) (ds := natL D2) rfl (by show 8 ≤ 16777216; omega)
theorem in_of {low k : Nat} {a1 a2 a3 a4 a5 a7 : Slot} {S : DS} : valB (chn2 dLe dLe (var 6) (var 8) (op2 dAddP (var 6) (cst (.int 19999)))) [.vl .st, a1, a2, a3, a4, a5, .vl (nD low), a7, .vl (nD k)] S = .ok (inW low k) S := by
  have v6 : var 6 [.vl .st, a1, a2, a3, a4, a5, .vl (nD low), a7, .vl (nD k)] S = .ok (nD low) S := rfl
  have v8 : var 8 [.vl .st, a1, a2, a3, a4, a5, .vl (nD low), a7, .vl (nD k)] S = .ok (nD k) S := rfl
  have va : op2 dAddP (var 6) (cst (.int 19999)) [.vl .st, a1, a2, a3, a4, a5, .vl (nD low), a7, .vl (nD k)] S = .ok (nD (low + 19999)) S := op2_of (d1 := nD low) (d2 := nD 19999) rfl rfl (addN low 19999)
  have l1 := leN low k
  have l2 := leN k (low + 19999)
  refine val_of ?_
  unfold inW
  cases c : decide (low ≤ k) with
  | true =>
    rw [c] at l1
    have l1 : dLe (nD low) (nD k) = some (.bl true) := l1
    have l2 : dLe (nD k) (nD (low + 19999)) = some (.bl (decide (k ≤ low + 19999))) := l2
    simp only [chn2, bd, v6, v8, va, l1, l2, lift, rt, Bool.true_and]
  | false =>
    rw [c] at l1
    have l1 : dLe (nD low) (nD k) = some (.bl false) := l1
    simp only [chn2, bd, v6, v8, l1, lift, rt, Bool.false_and]
theorem lc_in {F : FE} {l : List Nat} (hF : ∀ {ρ : En} {S : DS}, F ρ S = .ok (.lst (natL l)) S) (hl : l.length ≤ 100) {low : Nat} {a1 a2 a3 a4 a5 a7 : Slot} {S : DS} : op1 dTuple (lcE (itS F) (tgN 8) (valB (chn2 dLe dLe (var 6) (var 8) (op2 dAddP (var 6) (cst (.int 19999))))) (var 8) [8]) (gEn a1 a2 a3 a4 a5 (.vl (nD low)) a7) S = .ok (.tup (natL (l.filter (inW low)))) S :=
  op1_of (lcN nD nD (inW low) (its_of hF rfl) (fun k hk => ⟨_, rfl, in_of, fun _ => rfl⟩) (by omega)) rfl
theorem v__law_great_holds {S : DS} (v : Vs S) : ∃ S' : DS, m__law_great_holds [.st] S = .ok (.bl true) S' := by
  obtain ⟨r1, S1, e1, l1, v1⟩ := v_draw v (n := 49999) (by decide) (by decide)
  obtain ⟨r2, S2, e2, l2, v2⟩ := v_draw v1 (n := 80000) (by decide) (by decide)
  refine ⟨S2, ?_⟩
  rw [e__law_great_holds]
  refine body_rt ?_
  rw [b__law_great_holds]
  have st1 : (asgS 1 (op2 dAddP (cst (.int 50001)) (callE m__law_draw (consA (var 0) (consA (cst (.int 49999)) nilA))))) (gEn .no .no .no .no .no .no .no) S = .ok (.nx (gEn (.vl (nD (50001 + r1))) .no .no .no .no .no .no)) S1 := asg_of (op2_of (d1 := nD 50001) rfl (draw_of rfl rfl e1) (addN 50001 r1))
  have u1 : 50001 ≤ 50001 + r1 := by omega
  have u2 : 50001 + r1 ≤ 99999 := by omega
  generalize 50001 + r1 = u at *
  have low1 : 1 ≤ 1 + r2 := by omega
  have low2 : 1 + r2 ≤ 80000 := by omega
  have ad2 := addN 1 r2
  generalize 1 + r2 = low at *
  have W := wd_tpx (gW u)
  have w := gW_ok u1 u2
  have gs : gS u ≤ 100000 := by unfold gS; omega
  have jd := v_judge_unit W w (s := gS u) (u := u) gs (by omega) (by omega) S1
  rw [gJud u1 u2] at jd
  have st2 : (asgS 2 (op2 dAddP (op2 dMulP (tpxE (consA (cst (.int 100000)) nilA)) (cst (.int 59))) (tpxE (consA (var 1) nilA)))) (gEn (.vl (nD u)) .no .no .no .no .no .no) S1 = .ok (.nx (gEn (.vl (nD u)) (.vl (.tpx (natL (gW u)))) .no .no .no .no .no)) S1 :=
    asg_of (op2_of (op2_of (tpx_of (ds := [nD 100000]) (cons_of rfl nil_of) (by show 1 ≤ 1000; omega)) (d2 := .int ((59 : Nat) : Int)) rfl (mulPN 100000 (by omega) (by omega))) (tpx_of (ds := natL [u]) (cons_of rfl nil_of) (by show 1 ≤ 1000; omega)) (addPN (List.replicate 59 100000) [u] (by rw [List.length_replicate]; show 59 + 1 ≤ 1000; omega)))
  have m2 : dMulP (nD 2) (nD u) = some (nD (2 * u)) := mul_ok (by omega) (by omega)
  have st3 : (asgS 3 (op1 dMinY (lstE (consA (op2 dSub (cst (.int 100000)) (var 1)) (consA (op1 dAbs (op2 dSub (cst (.int 100000)) (op2 dMulP (cst (.int 2)) (var 1)))) nilA))))) (gEn (.vl (nD u)) (.vl (.tpx (natL (gW u)))) .no .no .no .no .no) S1 = .ok (.nx (gEn (.vl (nD u)) (.vl (.tpx (natL (gW u)))) (.vl (nD (gS u))) .no .no .no .no)) S1 := by
    have a1 : op2 dSub (cst (.int 100000)) (var 1) (gEn (.vl (nD u)) (.vl (.tpx (natL (gW u)))) .no .no .no .no .no) S1 = .ok (nD (100000 - u)) S1 := op2_of (d1 := nD 100000) (d2 := nD u) rfl rfl (subN (by omega))
    have a2 : op1 dAbs (op2 dSub (cst (.int 100000)) (op2 dMulP (cst (.int 2)) (var 1))) (gEn (.vl (nD u)) (.vl (.tpx (natL (gW u)))) .no .no .no .no .no) S1 = .ok (nD (ab 100000 (2 * u))) S1 := op1_of (op2_of (d1 := nD 100000) (d2 := nD (2 * u)) rfl (op2_of (d1 := nD 2) (d2 := nD u) rfl rfl m2) rfl) (ab_abs 100000 (2 * u))
    refine asg_of (op1_of (lst2 a1 a2) ?_)
    unfold nD
    rw [mn2]
    congr 2
    unfold ab gS
    split <;> omega
  have c2 := v_common_unit (wd_tpx [100000, 99999]) wt2 S1
  rw [gGcd] at c2
  have c3 := v_common_unit (wd_tpx (List.replicate 60 100000)) wt60 S1
  rw [hGcd] at c3
  have j4 := v_judge_unit (wd_tpx [1]) wt1 (s := 99999) (u := 100000) (by omega) (by omega) (by omega) S1
  rw [oJud] at j4
  have j5 := v_judge_unit (wd_tpx [1]) wt1 (s := 99998) (u := 100000) (by omega) (by omega) (by omega) S1
  rw [pJud] at j5
  have st4 : (asgS 4 (lstE (consA (callE m_judge_unit (consA (var 2) (consA (var 3) (consA (var 1) nilA)))) (consA (callE m_common_unit (consA (tpxE (consA (cst (.int 100000)) (consA (cst (.int 99999)) nilA))) nilA)) (consA (callE m_common_unit (consA (op2 dMulP (tpxE (consA (cst (.int 100000)) nilA)) (cst (.int 60))) nilA)) (consA (callE m_judge_unit (consA (tpxE (consA (cst (.int 1)) nilA)) (consA (cst (.int 99999)) (consA (cst (.int 100000)) nilA)))) (consA (callE m_judge_unit (consA (tpxE (consA (cst (.int 1)) nilA)) (consA (cst (.int 99998)) (consA (cst (.int 100000)) nilA)))) nilA))))))) (gEn (.vl (nD u)) (.vl (.tpx (natL (gW u)))) (.vl (nD (gS u))) .no .no .no .no) S1 = .ok (.nx (gEn (.vl (nD u)) (.vl (.tpx (natL (gW u)))) (.vl (nD (gS u))) (.vl (gTold (List.replicate 59 (gT u) ++ [1]))) .no .no .no)) S1 := by
    have x2 : tpxE (consA (cst (.int 100000)) (consA (cst (.int 99999)) nilA)) (gEn (.vl (nD u)) (.vl (.tpx (natL (gW u)))) (.vl (nD (gS u))) .no .no .no .no) S1 = .ok (.tpx (natL [100000, 99999])) S1 := tpx_of (cons_of rfl (cons_of rfl nil_of)) (by show 2 ≤ 1000; omega)
    have x3 : op2 dMulP (tpxE (consA (cst (.int 100000)) nilA)) (cst (.int 60)) (gEn (.vl (nD u)) (.vl (.tpx (natL (gW u)))) (.vl (nD (gS u))) .no .no .no .no) S1 = .ok (.tpx (natL (List.replicate 60 100000))) S1 := op2_of (tpx_of (ds := [nD 100000]) (cons_of rfl nil_of) (by show 1 ≤ 1000; omega)) (d2 := .int ((60 : Nat) : Int)) rfl (mulPN 100000 (by omega) (by omega))
    have x4 : tpxE (consA (cst (.int 1)) nilA) (gEn (.vl (nD u)) (.vl (.tpx (natL (gW u)))) (.vl (nD (gS u))) .no .no .no .no) S1 = .ok (.tpx (natL [1])) S1 := tpx_of (cons_of rfl nil_of) (by show 1 ≤ 1000; omega)
    exact asg_of (lst5 (call3_of (d := .tpx (natL (gW u))) (d2 := nD (gS u)) (d3 := nD u) rfl rfl rfl jd) (call1_of x2 c2) (call1_of x3 c3) (call3_of (d2 := nD 99999) (d3 := nD 100000) x4 rfl rfl j4) (call3_of (d2 := nD 99998) (d3 := nD 100000) x4 rfl rfl j5))
  generalize hL : List.replicate 59 (gT u) ++ [1] = L at st4
  have st5 : (asgS 5 (iteE (valB (op2 dLe (op2 dSub (cst (.int 100000)) (var 1)) (op2 dSub (op2 dMulP (cst (.int 2)) (var 1)) (cst (.int 100000))))) (cst (.int 1)) (cst (.int 2)))) (gEn (.vl (nD u)) (.vl (.tpx (natL (gW u)))) (.vl (nD (gS u))) (.vl (gTold L)) .no .no .no) S1 = .ok (.nx (gEn (.vl (nD u)) (.vl (.tpx (natL (gW u)))) (.vl (nD (gS u))) (.vl (gTold L)) (.vl (nD (gT u))) .no .no)) S1 := by
    have t : valB (op2 dLe (op2 dSub (cst (.int 100000)) (var 1)) (op2 dSub (op2 dMulP (cst (.int 2)) (var 1)) (cst (.int 100000)))) (gEn (.vl (nD u)) (.vl (.tpx (natL (gW u)))) (.vl (nD (gS u))) (.vl (gTold L)) .no .no .no) S1 = .ok (decide (100000 - u ≤ 2 * u - 100000)) S1 := val_of (op2_of (op2_of (d1 := nD 100000) (d2 := nD u) rfl rfl (subN (by omega))) (op2_of (d1 := nD (2 * u)) (d2 := nD 100000) (op2_of (d1 := nD 2) (d2 := nD u) rfl rfl m2) rfl (subN (by omega))) (leN _ _))
    refine asg_of ?_
    unfold gT
    cases c : decide (100000 - u ≤ 2 * u - 100000) with
    | true =>
      rw [c] at t
      rw [if_pos (of_decide_eq_true c)]
      exact (ite_t t).trans rfl
    | false =>
      rw [c] at t
      rw [if_neg (of_decide_eq_false c)]
      exact (ite_f t).trans rfl
  have st6 : (ifS (notB (truB (callE m__law_same (consA (var 4) (consA (lstE (consA (tpxE (consA (cst (.str "fits")) (consA (op2 dAddP (op2 dMulP (tpxE (consA (var 5) nilA)) (cst (.int 59))) (tpxE (consA (cst (.int 1)) nilA))) nilA))) (consA (cst (.int 1)) (consA (cst (.int 100000)) (consA (tpxE (consA (cst (.str "fits")) (consA (tpxE (consA (cst (.int 1)) nilA)) nilA))) (consA (tpxE (consA (cst (.str "off")) (consA (cst (.int 0)) (consA (op1 dNeg (cst (.int 99999))) nilA)))) nilA)))))) nilA))))) (retS (cst (.bl false))) skipS) (gEn (.vl (nD u)) (.vl (.tpx (natL (gW u)))) (.vl (nD (gS u))) (.vl (gTold L)) (.vl (nD (gT u))) .no .no) S1 = .ok (.nx (gEn (.vl (nD u)) (.vl (.tpx (natL (gW u)))) (.vl (nD (gS u))) (.vl (gTold L)) (.vl (nD (gT u))) .no .no)) S1 := by
    have y1 : op2 dAddP (op2 dMulP (tpxE (consA (var 5) nilA)) (cst (.int 59))) (tpxE (consA (cst (.int 1)) nilA)) (gEn (.vl (nD u)) (.vl (.tpx (natL (gW u)))) (.vl (nD (gS u))) (.vl (gTold L)) (.vl (nD (gT u))) .no .no) S1 = .ok (.tpx (natL L)) S1 := by
      rw [← hL]
      exact op2_of (op2_of (tpx_of (ds := [nD (gT u)]) (cons_of rfl nil_of) (by show 1 ≤ 1000; omega)) (d2 := .int ((59 : Nat) : Int)) rfl (mulPN (gT u) (by omega) (by omega))) (tpx_of (ds := natL [1]) (cons_of rfl nil_of) (by show 1 ≤ 1000; omega)) (addPN (List.replicate 59 (gT u)) [1] (by rw [List.length_replicate]; show 59 + 1 ≤ 1000; omega))
    have y2 : (lstE (consA (tpxE (consA (cst (.str "fits")) (consA (op2 dAddP (op2 dMulP (tpxE (consA (var 5) nilA)) (cst (.int 59))) (tpxE (consA (cst (.int 1)) nilA))) nilA))) (consA (cst (.int 1)) (consA (cst (.int 100000)) (consA (tpxE (consA (cst (.str "fits")) (consA (tpxE (consA (cst (.int 1)) nilA)) nilA))) (consA (tpxE (consA (cst (.str "off")) (consA (cst (.int 0)) (consA (op1 dNeg (cst (.int 99999))) nilA)))) nilA)))))) (gEn (.vl (nD u)) (.vl (.tpx (natL (gW u)))) (.vl (nD (gS u))) (.vl (gTold L)) (.vl (nD (gT u))) .no .no) S1 = .ok (gDue L) S1 :=
      lst5 (tpx_of (ds := [.str "fits", .tpx (natL L)]) (cons_of rfl (cons_of y1 nil_of)) (by show 2 ≤ 1000; omega)) (e := nD 1) rfl (i := nD 100000) rfl (tpx_of (ds := [.str "fits", .tpx [nD 1]]) (cons_of rfl (cons_of (tpx_of (ds := [nD 1]) (cons_of rfl nil_of) (by show 1 ≤ 1000; omega)) nil_of)) (by show 2 ≤ 1000; omega)) (tpx_of (ds := [.str "off", nD 0, .int (-99999)]) (cons_of rfl (cons_of rfl (cons_of (op1_of (d := .int 99999) rfl rfl) nil_of))) (by show 3 ≤ 1000; omega))
    have gs := g_same (L := L) (by rw [← hL, List.length_append, List.length_replicate]; show 59 + 1 ≤ 60; omega) (fun n hn => by
      rw [← hL] at hn
      rcases List.mem_append.mp hn with z | z
      · rw [List.eq_of_mem_replicate z]
        unfold gT
        split <;> omega
      · rw [List.mem_singleton.mp z]
        omega) S1
    exact if_f (not_of (tru_ofE (call2_of (d := gTold L) rfl y2 gs) rfl))
  have st7 : (asgS 6 (op2 dAddP (cst (.int 1)) (callE m__law_draw (consA (var 0) (consA (cst (.int 80000)) nilA))))) (gEn (.vl (nD u)) (.vl (.tpx (natL (gW u)))) (.vl (nD (gS u))) (.vl (gTold L)) (.vl (nD (gT u))) .no .no) S1 = .ok (.nx (gEn (.vl (nD u)) (.vl (.tpx (natL (gW u)))) (.vl (nD (gS u))) (.vl (gTold L)) (.vl (nD (gT u))) (.vl (nD low)) .no)) S2 := asg_of (op2_of (d1 := nD 1) rfl (draw_of rfl rfl e2) ad2)
  generalize Slot.vl (nD (gT u)) = b5 at *
  generalize Slot.vl (nD (gS u)) = b3 at *
  generalize Slot.vl (.tpx (natL (gW u))) = b2 at *
  have q1 : m__law_asked [.fn 8, .lst [.tpx (natL [100000]), nD 0, nD low, nD (low + 19999)]] S2 = .ok (.lst [.tup (natL ((D1 ++ D2).filter (inW low)))]) S2 := by
    rw [g_asked (F := m_good_units) rfl _ (by show 1 ≤ 4; omega) (by show 4 ≤ 5; omega), v_good_units (wd_tpx [100000]) wt100 (s := 0) (by omega) ⟨low1, by omega, by omega⟩, if_pos (by show (low + 19999 - low + 1) * 1 ≤ 20000; omega), gu_dv low1 low2]
    rfl
  have q2 : m__law_asked [.fn 8, .lst [.tpx (natL [100000]), nD 0, nD low, nD (low + 20000)]] S2 = .ok (.str "many units") S2 := by
    rw [g_asked (F := m_good_units) rfl _ (by show 1 ≤ 4; omega) (by show 4 ≤ 5; omega), v_good_units (wd_tpx [100000]) wt100 (s := 0) (by omega) ⟨low1, by omega, by omega⟩, if_neg (by show ¬ (low + 20000 - low + 1) * 1 ≤ 20000; omega)]
    exact ask_many S2
  have q3 : m__law_asked [.fn 10, .lst [.tpx (natL [5, 6]), nD low, nD (low + 10000)]] S2 = .ok (.str "many units") S2 := by
    rw [g_asked (F := m_closest_unit) rfl _ (by show 1 ≤ 3; omega) (by show 3 ≤ 5; omega), v_closest_many (wd_tpx [5, 6]) wt56 ⟨low1, by omega, by omega⟩ (by show ¬ (low + 10000 - low + 1) * 2 ≤ 20000; omega)]
    exact ask_many S2
  have ad : ∀ n : Nat, dAddP (nD low) (nD n) = some (nD (low + n)) := fun n => addN low n
  have st8 : (asgS 4 (lstE (consA (callE m__law_asked (consA (fnE 8) (consA (lstE (consA (tpxE (consA (cst (.int 100000)) nilA)) (consA (cst (.int 0)) (consA (var 6) (consA (op2 dAddP (var 6) (cst (.int 19999))) nilA))))) nilA))) (consA (callE m__law_asked (consA (fnE 8) (consA (lstE (consA (tpxE (consA (cst (.int 100000)) nilA)) (consA (cst (.int 0)) (consA (var 6) (consA (op2 dAddP (var 6) (cst (.int 20000))) nilA))))) nilA))) (consA (callE m__law_asked (consA (fnE 10) (consA (lstE (consA (tpxE (consA (cst (.int 5)) (consA (cst (.int 6)) nilA))) (consA (var 6) (consA (op2 dAddP (var 6) (cst (.int 10000))) nilA)))) nilA))) nilA))))) (gEn (.vl (nD u)) b2 b3 (.vl (gTold L)) b5 (.vl (nD low)) .no) S2 = .ok (.nx (gEn (.vl (nD u)) b2 b3 (.vl (.lst [.lst [.tup (natL ((D1 ++ D2).filter (inW low)))], .str "many units", .str "many units"])) b5 (.vl (nD low)) .no)) S2 := by
    have x1 : tpxE (consA (cst (.int 100000)) nilA) (gEn (.vl (nD u)) b2 b3 (.vl (gTold L)) b5 (.vl (nD low)) .no) S2 = .ok (.tpx (natL [100000])) S2 := tpx_of (cons_of rfl nil_of) (by show 1 ≤ 1000; omega)
    have x2 : tpxE (consA (cst (.int 5)) (consA (cst (.int 6)) nilA)) (gEn (.vl (nD u)) b2 b3 (.vl (gTold L)) b5 (.vl (nD low)) .no) S2 = .ok (.tpx (natL [5, 6])) S2 := tpx_of (cons_of rfl (cons_of rfl nil_of)) (by show 2 ≤ 1000; omega)
    exact asg_of (lst3 (call2_of (d := .fn 8) rfl (lst4 x1 (e := nD 0) rfl (i := nD low) rfl (op2_of (d1 := nD low) (d2 := nD 19999) rfl rfl (ad 19999))) q1) (call2_of (d := .fn 8) rfl (lst4 x1 (e := nD 0) rfl (i := nD low) rfl (op2_of (d1 := nD low) (d2 := nD 20000) rfl rfl (ad 20000))) q2) (call2_of (d := .fn 10) rfl (lst3 x2 (e := nD low) rfl (op2_of (d1 := nD low) (d2 := nD 10000) rfl rfl (ad 10000))) q3))
  generalize Slot.vl (gTold L) = b4 at *
  generalize hT : D.lst [.lst [.tup (natL ((D1 ++ D2).filter (inW low)))], .str "many units", .str "many units"] = T at st8
  have st9 : (asgS 7 (op1 dTuple (lcE (itS (lstE (consA (cst (.int 1)) (consA (cst (.int 2)) (consA (cst (.int 4)) (consA (cst (.int 5)) (consA (cst (.int 8)) (consA (cst (.int 10)) (consA (cst (.int 16)) (consA (cst (.int 20)) (consA (cst (.int 25)) (consA (cst (.int 32)) (consA (cst (.int 40)) (consA (cst (.int 50)) (consA (cst (.int 80)) (consA (cst (.int 100)) (consA (cst (.int 125)) (consA (cst (.int 160)) (consA (cst (.int 200)) (consA (cst (.int 250)) (consA (cst (.int 400)) (consA (cst (.int 500)) (consA (cst (.int 625)) (consA (cst (.int 800)) (consA (cst (.int 1000)) (consA (cst (.int 1250)) (consA (cst (.int 2000)) (consA (cst (.int 2500)) (consA (cst (.int 3125)) (consA (cst (.int 4000)) nilA)))))))))))))))))))))))))))))) (tgN 8) (valB (chn2 dLe dLe (var 6) (var 8) (op2 dAddP (var 6) (cst (.int 19999))))) (var 8) [8]))) (gEn (.vl (nD u)) b2 b3 (.vl T) b5 (.vl (nD low)) .no) S2 = .ok (.nx (gEn (.vl (nD u)) b2 b3 (.vl T) b5 (.vl (nD low)) (.vl (.tup (natL (D1.filter (inW low))))))) S2 := asg_of (lc_in st_d1 (by decide))
  have st10 : (asgS 7 (op2 dAddP (var 7) (op1 dTuple (lcE (itS (lstE (consA (cst (.int 5000)) (consA (cst (.int 6250)) (consA (cst (.int 10000)) (consA (cst (.int 12500)) (consA (cst (.int 20000)) (consA (cst (.int 25000)) (consA (cst (.int 50000)) (consA (cst (.int 100000)) nilA)))))))))) (tgN 8) (valB (chn2 dLe dLe (var 6) (var 8) (op2 dAddP (var 6) (cst (.int 19999))))) (var 8) [8])))) (gEn (.vl (nD u)) b2 b3 (.vl T) b5 (.vl (nD low)) (.vl (.tup (natL (D1.filter (inW low)))))) S2 = .ok (.nx (gEn (.vl (nD u)) b2 b3 (.vl T) b5 (.vl (nD low)) (.vl (.tup (natL ((D1 ++ D2).filter (inW low))))))) S2 := by
    have ct : dAddP (.tup (natL (D1.filter (inW low)))) (.tup (natL (D2.filter (inW low)))) = some (.tup (natL ((D1 ++ D2).filter (inW low)))) := by
      rw [List.filter_append, ← natL_app]
      refine catT ?_
      have a1 := List.length_filter_le (inW low) D1
      have a2 := List.length_filter_le (inW low) D2
      have b1 : D1.length = 28 := rfl
      have b2 : D2.length = 8 := rfl
      rw [natL_len, natL_len]
      omega
    exact asg_of (op2_of (d1 := .tup (natL (D1.filter (inW low)))) rfl (lc_in st_d2 (by decide)) ct)
  have gd : Gd 3 330 T := by
    have a1 := List.length_filter_le (inW low) (D1 ++ D2)
    have b1 : (D1 ++ D2).length = 36 := rfl
    have z0 : Gd 1 36 (.tup (natL ((D1 ++ D2).filter (inW low)))) := (gd_natT fun n hn => by
      have hm := (List.mem_filter.mp hn).1
      have := Nat.le_of_dvd (by omega) (Nat.dvd_of_mod_eq_zero (dv_all n hm))
      omega).mono (Nat.le_refl _) (by omega)
    have z1 : Gd 2 37 (.lst [.tup (natL ((D1 ++ D2).filter (inW low)))]) := by
      have z := gd_lst (h := 1) (n := 36) (ds := [.tup (natL ((D1 ++ D2).filter (inW low)))]) fun d hd => by
        rw [List.mem_singleton.mp hd]
        exact z0
      exact z.mono (Nat.le_refl _) (by show 1 * 37 ≤ 37; omega)
    rw [← hT]
    have z := gd_lst (h := 2) (n := 100) (ds := [.lst [.tup (natL ((D1 ++ D2).filter (inW low)))], .str "many units", .str "many units"]) fun d hd => by
      simp only [List.mem_cons, List.not_mem_nil, or_false] at hd
      rcases hd with rfl | rfl | rfl
      · exact z1.mono (Nat.le_refl _) (by omega)
      · exact (gd_str (n := 100) (s := "many units") (by decide +kernel) (by decide +kernel)).mono (by decide) (Nat.le_refl _)
      · exact (gd_str (n := 100) (s := "many units") (by decide +kernel) (by decide +kernel)).mono (by decide) (Nat.le_refl _)
    exact z.mono (Nat.le_refl _) (by show 3 * 101 ≤ 330; omega)
  refine (seq_nx st1).trans ((seq_nx st2).trans ((seq_nx st3).trans ((seq_nx st4).trans ((seq_nx st5).trans ((seq_nx st6).trans ((seq_nx st7).trans ((seq_nx st8).trans ((seq_nx st9).trans ((seq_nx st10).trans (ret_of ?_))))))))))
  have y : lstE (consA (lstE (consA (var 7) nilA)) (consA (cst (.str "many units")) (consA (cst (.str "many units")) nilA))) (gEn (.vl (nD u)) b2 b3 (.vl T) b5 (.vl (nD low)) (.vl (.tup (natL ((D1 ++ D2).filter (inW low)))))) S2 = .ok T S2 := by
    rw [← hT]
    exact lst3 (lst1 rfl) rfl rfl
  exact call2_of (d := T) rfl y (v_same gd (by omega) (by omega) S2)
/-! ## the law -/
theorem start_eq : m__law_start = fnO 1 3 startB := rfl
abbrev laB : FS := (ifS (notB (truB (callE m__law_units_hold (consA (var 1) nilA)))) (retS (cst (.bl false))) skipS)
theorem val_ok : Val := by
  intro ns hl
  obtain ⟨ds, e1, v⟩ := start_ok ns (by omega)
  have a1 : mkS 1 m__law_start (consA (var 0) nilA) [.vl (.scr ns), .no, .no] none = .ok (.nx [.vl (.scr ns), .vl .st, .no]) (some ds) := by
    rw [start_eq]
    unfold mkS bd
    rw [show (consA (var 0) nilA) [.vl (.scr ns), .no, .no] none = .ok [.scr ns] none from rfl]
    show (match fnO 1 3 startB [.scr ns] none with
      | .ok (.lst ds) none => Res.ok (Fl.nx _) (some ds)
      | _ => .no) = _
    rw [e1]
    rfl
  obtain ⟨m1, S1, d1, c1, v1⟩ := v_draw v (n := 8) (by decide) (by decide)
  have t : valB (op2 dEq (callE m__law_draw (consA (var 1) (consA (cst (.int 8)) nilA))) (cst (.int 0))) [.vl (.scr ns), .vl .st, .no] (some ds) = .ok (decide (m1 = 0)) S1 := val_of (op2_of (draw_of (i := 1) (k := 8) rfl rfl d1) (d2 := nD 0) rfl (eqN m1 0))
  cases c : decide (m1 = 0) with
  | true =>
    rw [c] at t
    obtain ⟨S2, e2⟩ := v__law_great_holds v1
    refine ⟨S2, ?_⟩
    rw [e_law]
    refine body_rt ?_
    rw [b_law]
    exact (seq_nx a1).trans (seq_rt ((if_t t).trans (ret_of (call1_of rfl e2))))
  | false =>
    rw [c] at t
    obtain ⟨ρ', S', b1, ⟨tn', rfl⟩, v'⟩ := forL_inv (t := tgN 2) (b := laB) (ds := (List.range 3).map nD) (fun _ ρ S => (∃ tn : Slot, ρ = [.vl (.scr ns), .vl .st, tn]) ∧ Vs S) (fun i x ρ S hx ⟨⟨tn, hρ⟩, vS⟩ => by
      subst hρ
      obtain ⟨S3, e3, v3⟩ := v__law_units_hold vS
      exact ⟨[.vl (.scr ns), .vl .st, .vl x], [.vl (.scr ns), .vl .st, .vl x], S3, rfl, .inl ((if_f (not_of (tru_ofE (call1_of rfl e3) rfl))).trans rfl), ⟨_, rfl⟩, v3⟩) (ρ := [.vl (.scr ns), .vl .st, .no]) (S := S1) ⟨⟨.no, rfl⟩, v1⟩
    refine ⟨S', ?_⟩
    rw [e_law]
    refine body_rt ?_
    rw [b_law]
    exact (seq_nx a1).trans ((seq_nx (if_f t)).trans ((seq_nx ((for_of (rng1 (n := 3) (by omega) rfl)).trans b1)).trans (ret_of rfl)))
end Hk19
theorem PySem.Challenge.cw_hoardsread_k19_units_holds : PySem.Challenge.rw_hoardsread_k19_units.Holds := by
  exact Hk19.holds Hk19.val_ok
