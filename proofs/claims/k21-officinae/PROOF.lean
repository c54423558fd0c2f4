import PyProof.Rows.All
import Wide.All
import OpenK.AllK
import Wide.FinOn
import HandS.ForMost
import HandS.Exc
import HandS.Evl
import HandS.Wide
import HandS.TupAny
import HandS.Flow
import HandS.IsInst
import HandS.Deep
import HandS.RaiseMore
import HandS.Walk
import HandS.Dict
import HandS.More
import HandS.SortInts
import HandS.TupMul
import HandS.DictComp
import HandS.Small
import HandS.Style
import KE.KTupSum
import KE.DataFind
import PyProof.ReprRoads
import HandS.Defaults
import HandS.Head0
import HandS.Head1
import HandS.Head2
import HandS.HeadEnd
import HandS.HeadHook1
import HandS.HeadHook2
import PyProof.ReprBulk
import PyProof.FitsInt
import KE.DataEq
import HandS.Conv
import PyProof.P3In
import KE.KExcSuper
import KE.KSuper
import HandS.ExcInit
import PyProof.AssignAttr
import KE.KExcIs
import HandS.HotCalls
import HandS.ExcField
import PyProof.Rows.CountFlat
import KE.GoesMore
import KE.DataMinMax
import KE.GoesZip
import KE.GoesEnum
import HandS.TupLen
import HandS.WordsDict
import HandS.TryOnly
import HandS.TupSets
import HandS.SortRule
import PySem.Challenge.RW_hoardsread_k21_officinae
import KE.SortData
set_option Elab.async false
set_option linter.all false
set_option autoImplicit false
set_option maxRecDepth 100000
namespace Mini
open PySem PySem.Spec PyProof.Rows L2 Evl

/-! ### data -/
inductive D where
  | non | bl (b : Bool) | int (i : Int) | str (s : Str) | tup (ds : List D) | tpx (ds : List D) | lst (ds : List D) | dic (es : List (Key × D)) | dit (es : List (List Key × D)) | fn (n : Nat) | st | scr (ns : List Int)
abbrev DS := Option (List D)
inductive Res (α : Type) where
  | ok (a : α) (S : DS) | er (n : Nat) (p : D) (S : DS) | no
abbrev M (α : Type) := DS → Res α
def rt {α : Type} (a : α) : M α := fun S => .ok a S
def no {α : Type} : M α := fun _ => .no
def bd {α β : Type} (m : M α) (f : α → M β) : M β := fun S => match m S with
  | .ok a S' => f a S'
  | .er n p S' => .er n p S'
  | .no => .no
def lift {α : Type} (o : Option α) : M α := match o with
  | some a => rt a
  | none => no
inductive Slot where
  | no | vl (d : D) | ow (d : D)
abbrev En := List Slot
abbrev FE := En → M D
abbrev FB := En → M Bool
abbrev FA := En → M (List D)
inductive Fl where
  | nx (ρ : En) | rt (d : D) | bk (ρ : En) | ct (ρ : En)
abbrev FS := En → M Fl

/-! ### which value stands for which data -/
structure Wd where
  H0 : Hp
  sa : Option Addr
structure Cn where
  fa : Nat → Option Addr
  ca : Nat → Addr
  fld : Nat → Str
def kD : Key → D
  | .inl i => .int i
  | .inr x => .str x
/-- a text within the model's bounds -/
abbrev SOk (s : Str) : Prop := s.length ≤ 16777216 ∧ PyData.strOk s = true
section
variable (K : PySem.W.Frag) (c : Cn) (W : Wd)
mutual
def Rep : D → V → Prop
  | .non, v => v = .non
  | .bl b, v => v = .bl b
  | .int i, v => v = .int i
  | .str s, v => v = .str s ∧ SOk s
  | .tup ds, v => ∃ a vs, v = .ref a ∧ W.H0 a = some (.tup vs) ∧ RepL ds vs
  | .tpx ds, v => ∃ a vs o, v = .ref a ∧ W.H0 a = some (.frz o (.tup vs)) ∧ o.dict = none ∧ RepL ds vs
  | .lst ds, v => ∃ a vs, v = .ref a ∧ W.H0 a = some (.lst vs) ∧ RepL ds vs
  | .dic es, v => ∃ a kvs, v = .ref a ∧ W.H0 a = some (.dK kvs) ∧ RepE es kvs
  | .dit es, v => ∃ a kvs, v = .ref a ∧ W.H0 a = some (.dT kvs) ∧ RepT es kvs
  | .fn n, v => ∃ a, v = .ref a ∧ c.fa n = some a
  | .st, v => ∃ a, v = .ref a ∧ W.sa = some a
  | .scr ns, v => ∃ a, v = .ref a ∧ SqL K W.H0 a (ns.map V.int)
def RepL : List D → List V → Prop
  | [], vs => vs = []
  | d :: ds, vs => ∃ v r, vs = v :: r ∧ Rep d v ∧ RepL ds r
def RepE : List (Key × D) → List (Key × V) → Prop
  | [], vs => vs = []
  | e :: es, vs => ∃ v r, vs = (e.1, v) :: r ∧ RepP e v ∧ RepE es r
def RepP : Key × D → V → Prop
  | (_, d), v => Rep d v
def RepT : List (List Key × D) → List (List Key × V) → Prop
  | [], vs => vs = []
  | e :: es, vs => ∃ v r, vs = (e.1, v) :: r ∧ RepQ e v ∧ RepT es r
def RepQ : List Key × D → V → Prop
  | (_, d), v => Rep d v
end
end
def WEx (W W' : Wd) : Prop := Ex W.H0 W'.H0 ∧ ∀ a, W.sa = some a → W'.sa = some a
theorem WEx.refl (W : Wd) : WEx W W := ⟨Ex.refl _, fun _ h => h⟩
theorem WEx.trans {W W1 W2 : Wd} (h : WEx W W1) (k : WEx W1 W2) : WEx W W2 := ⟨h.1.trans k.1, fun a e => k.2 a (h.2 a e)⟩
section
variable {K : PySem.W.Frag} {c : Cn} {W W' : Wd}
mutual
theorem Rep.ext (e : WEx W W') : ∀ (d : D) (v : V), Rep K c W d v → Rep K c W' d v
  | .non, v, h => h
  | .bl b, v, h => h
  | .int i, v, h => h
  | .str s, v, h => h
  | .tup ds, v, h => by
    obtain ⟨a, vs, h1, h2, h3⟩ := h
    exact ⟨a, vs, h1, e.1 _ _ h2, RepL.ext e ds vs h3⟩
  | .tpx ds, v, h => by
    obtain ⟨a, vs, o, h1, h2, h3, h4⟩ := h
    exact ⟨a, vs, o, h1, e.1 _ _ h2, h3, RepL.ext e ds vs h4⟩
  | .lst ds, v, h => by
    obtain ⟨a, vs, h1, h2, h3⟩ := h
    exact ⟨a, vs, h1, e.1 _ _ h2, RepL.ext e ds vs h3⟩
  | .dic es, v, h => by
    obtain ⟨a, kvs, h1, h2, h3⟩ := h
    exact ⟨a, kvs, h1, e.1 _ _ h2, RepE.ext e es _ h3⟩
  | .dit es, v, h => by
    obtain ⟨a, kvs, h1, h2, h3⟩ := h
    exact ⟨a, kvs, h1, e.1 _ _ h2, RepT.ext e es _ h3⟩
  | .fn n, v, h => h
  | .st, v, h => by
    obtain ⟨a, h1, h2⟩ := h
    exact ⟨a, h1, e.2 a h2⟩
  | .scr ns, v, h => by
    obtain ⟨a, h1, h2⟩ := h
    exact ⟨a, h1, ex_l e.1 h2⟩
theorem RepL.ext (e : WEx W W') : ∀ (ds : List D) (vs : List V), RepL K c W ds vs → RepL K c W' ds vs
  | [], vs, h => h
  | d :: ds, vs, h => by
    obtain ⟨v, r, h1, h2, h3⟩ := h
    exact ⟨v, r, h1, Rep.ext e d v h2, RepL.ext e ds r h3⟩
theorem RepE.ext (e : WEx W W') : ∀ (es : List (Key × D)) (vs : List (Key × V)), RepE K c W es vs → RepE K c W' es vs
  | [], vs, h => h
  | p :: es, vs, h => by
    obtain ⟨v, r, h1, h2, h3⟩ := h
    exact ⟨v, r, h1, RepP.ext e p v h2, RepE.ext e es r h3⟩
theorem RepP.ext (e : WEx W W') : ∀ (p : Key × D) (v : V), RepP K c W p v → RepP K c W' p v
  | (_, d), v, h => Rep.ext e d v h
theorem RepT.ext (e : WEx W W') : ∀ (es : List (List Key × D)) (vs : List (List Key × V)), RepT K c W es vs → RepT K c W' es vs
  | [], vs, h => h
  | p :: es, vs, h => by
    obtain ⟨v, r, h1, h2, h3⟩ := h
    exact ⟨v, r, h1, RepQ.ext e p v h2, RepT.ext e es r h3⟩
theorem RepQ.ext (e : WEx W W') : ∀ (p : List Key × D) (v : V), RepQ K c W p v → RepQ K c W' p v
  | (_, d), v, h => Rep.ext e d v h
end
end
end Mini
namespace Mini
open PySem PySem.Spec PyProof.Rows L2 Evl

/-! ### the state's relation -/
section
variable (K : PySem.W.Frag) (c : Cn)
/-- an object of our own: its content is known, it is not in the frozen part -/
def Own (W : Wd) (H : Hp) (a : Addr) : D → Prop
  | .lst ds => ∃ vs, H a = some (.lst vs) ∧ RepL K c W ds vs
  | .dic es => ∃ kvs, H a = some (.dK kvs) ∧ RepE K c W es kvs
  | .dit es => ∃ kvs, H a = some (.dT kvs) ∧ RepT K c W es kvs
  | _ => False
/-- the draws' state -/
def DsOk (W : Wd) (H : Hp) : DS → Prop
  | none => W.sa = none
  | some ds => ∃ a vs, W.sa = some a ∧ W.H0 a = none ∧ H a = some (.lst vs) ∧ RepL K c W ds vs
structure StOk (W : Wd) (H : Hp) (S : DS) : Prop where
  sub : Ex W.H0 H
  ds : DsOk K c W H S
structure EnvOk (W : Wd) (H : Hp) (σ : L2.St) (ρ : En) : Prop where
  len : ρ.length = σ.length
  vl : ∀ (i : Nat) (d : D), ρ[i]? = some (.vl d) → ∃ v, σ[i]? = some (some v) ∧ Rep K c W d v
  ow : ∀ (i : Nat) (d : D), ρ[i]? = some (.ow d) → ∃ a, σ[i]? = some (some (.ref a)) ∧ W.H0 a = none ∧ W.sa ≠ some a ∧ Own K c W H a d
  sep : ∀ (i j : Nat) (d e : D) (a : Addr), ρ[i]? = some (.ow d) → ρ[j]? = some (.ow e) → σ[i]? = some (some (.ref a)) → σ[j]? = some (some (.ref a)) → i = j
end
/-- what an evaluation leaves: all but the draws' state stands; what was not frozen and stood is not frozen behind it -/
structure Keep (W : Wd) (H : Hp) (W' : Wd) (H' : Hp) : Prop where
  wex : WEx W W'
  old : ∀ b o, H b = some o → W.sa ≠ some b → H' b = some o
  fr : ∀ b o, H b = some o → W.H0 b = none → W'.H0 b = none
  sa : ∀ b o, H b = some o → W'.sa = some b → W.sa = some b
theorem Keep.refl (W : Wd) (H : Hp) : Keep W H W H := ⟨WEx.refl W, fun _ _ h _ => h, fun _ _ _ h => h, fun _ _ _ h => h⟩
section
variable {K : PySem.W.Frag} {c : Cn} {W W1 W2 W' : Wd} {H H1 H2 H' : Hp} {S S1 : DS} {σ : L2.St} {ρ : En}
theorem DsOk.at (h : DsOk K c W H S) {a : Addr} (e : W.sa = some a) : ∃ o, H a = some o := by
  cases S with
  | none => rw [show W.sa = none from h] at e; cases e
  | some ds =>
    obtain ⟨b, vs, h1, h2, h3, h4⟩ := h
    rw [h1] at e
    cases e
    exact ⟨_, h3⟩
theorem Keep.trans (st : StOk K c W1 H1 S1) (k1 : Keep W H W1 H1) (k2 : Keep W1 H1 W2 H2) (hd : ∀ b, W.sa = some b → ∃ o, H1 b = some o) : Keep W H W2 H2 where
  wex := k1.wex.trans k2.wex
  old := fun b o h n => by
    have h1 := k1.old b o h n
    refine k2.old b o h1 fun e => n ?_
    exact k1.sa b o h e
  fr := fun b o h n => by
    by_cases hs : W.sa = some b
    · obtain ⟨o1, ho1⟩ := hd b hs
      exact k2.fr b o1 ho1 (k1.fr b o h n)
    · exact k2.fr b o (k1.old b o h hs) (k1.fr b o h n)
  sa := fun b o h e => by
    by_cases hs : W.sa = some b
    · exact hs
    · exact k1.sa b o h (k2.sa b o (k1.old b o h hs) e)
theorem Keep.tr (k1 : Keep W H W1 H1) (st : StOk K c W1 H1 S1) (k2 : Keep W1 H1 W2 H2) : Keep W H W2 H2 :=
  Keep.trans st k1 k2 fun b e => st.ds.at (k1.wex.2 b e)
theorem Own.ext (e : WEx W W') {a : Addr} (hH : ∀ o, H a = some o → H' a = some o) : ∀ {d : D}, Own K c W H a d → Own K c W' H' a d
  | .lst ds, h => by
    obtain ⟨vs, h1, h2⟩ := h
    exact ⟨vs, hH _ h1, RepL.ext e ds vs h2⟩
  | .dic es, h => by
    obtain ⟨vs, h1, h2⟩ := h
    exact ⟨vs, hH _ h1, RepE.ext e es vs h2⟩
  | .dit es, h => by
    obtain ⟨vs, h1, h2⟩ := h
    exact ⟨vs, hH _ h1, RepT.ext e es vs h2⟩
theorem Own.some : ∀ {d : D} {a : Addr}, Own K c W H a d → ∃ o, H a = some o
  | .lst ds, a, h => by obtain ⟨vs, h1, _⟩ := h; exact ⟨_, h1⟩
  | .dic es, a, h => by obtain ⟨vs, h1, _⟩ := h; exact ⟨_, h1⟩
  | .dit es, a, h => by obtain ⟨vs, h1, _⟩ := h; exact ⟨_, h1⟩
theorem EnvOk.ext (e : EnvOk K c W H σ ρ) (k : Keep W H W' H') : EnvOk K c W' H' σ ρ where
  len := e.len
  vl := fun i d h => by
    obtain ⟨v, h1, h2⟩ := e.vl i d h
    exact ⟨v, h1, Rep.ext k.wex d v h2⟩
  ow := fun i d h => by
    obtain ⟨a, h1, h2, h3, h4⟩ := e.ow i d h
    obtain ⟨o, ho⟩ := h4.some
    exact ⟨a, h1, k.fr a o ho h2, fun q => h3 (k.sa a o ho q), h4.ext k.wex fun o q => k.old a o q h3⟩
  sep := e.sep
/-- content view: frozen, or an object that stands -/
def RepB (K : PySem.W.Frag) (c : Cn) (W : Wd) (H : Hp) (d : D) (v : V) : Prop := Rep K c W d v ∨ ∃ a, v = .ref a ∧ W.sa ≠ some a ∧ Own K c W H a d
theorem RepB.ext (k : Keep W H W' H') {d : D} {v : V} (h : RepB K c W H d v) : RepB K c W' H' d v := by
  rcases h with h | ⟨a, h1, h2, h3⟩
  · exact .inl (Rep.ext k.wex d v h)
  · obtain ⟨o, ho⟩ := h3.some
    exact .inr ⟨a, h1, fun q => h2 (k.sa a o ho q), h3.ext k.wex fun o q => k.old a o q h2⟩
/-- a fresh object -/
def RepO (K : PySem.W.Frag) (c : Cn) (H0 : Hp) (W : Wd) (H : Hp) (d : D) (v : V) : Prop := ∃ a, v = .ref a ∧ H0 a = none ∧ W.H0 a = none ∧ W.sa ≠ some a ∧ Own K c W H a d
/-- freeze it -/
def Wd.frz (W : Wd) (a : Addr) (o : HO) : Wd := ⟨upd W.H0 a o, W.sa⟩
theorem frz_ex {a : Addr} {o : HO} (h : W.H0 a = none) : WEx W (W.frz a o) := ⟨Ex.new h, fun _ e => e⟩
theorem frz_st {a : Addr} {o : HO} (st : StOk K c W H S) (h : W.H0 a = none) (hs : W.sa ≠ some a) (ho : H a = some o) : StOk K c (W.frz a o) H S where
  sub := fun b u e => by
    by_cases hb : b = a
    · subst hb
      have e' : upd W.H0 b o b = some u := e
      rw [upd_same] at e'
      cases e'
      exact ho
    · have e' : upd W.H0 a o b = some u := e
      rw [upd_ne hb] at e'
      exact st.sub b u e'
  ds := by
    have d := st.ds
    cases S with
    | none => exact d
    | some ds =>
      obtain ⟨b, vs, h1, h2, h3, h4⟩ := d
      refine ⟨b, vs, h1, ?_, h3, RepL.ext (frz_ex h) ds vs h4⟩
      show upd W.H0 a o b = none
      rw [upd_ne (fun z => hs (by rw [← z]; exact h1))]
      exact h2
theorem frz_rep {a : Addr} {o : HO} (h : W.H0 a = none) (ho : H a = some o) : ∀ {d : D}, Own K c W H a d → Rep K c (W.frz a o) d (.ref a)
  | .lst ds, q => by
    obtain ⟨vs, h1, h2⟩ := q
    rw [ho] at h1
    cases h1
    exact ⟨a, vs, rfl, upd_same, RepL.ext (frz_ex h) ds vs h2⟩
  | .dic es, q => by
    obtain ⟨vs, h1, h2⟩ := q
    rw [ho] at h1
    cases h1
    exact ⟨a, vs, rfl, upd_same, RepE.ext (frz_ex h) es vs h2⟩
  | .dit es, q => by
    obtain ⟨vs, h1, h2⟩ := q
    rw [ho] at h1
    cases h1
    exact ⟨a, vs, rfl, upd_same, RepT.ext (frz_ex h) es vs h2⟩
theorem Keep.frz {a : Addr} {o : HO} (k : Keep W H W' H') (hn : H a = none) (h : W'.H0 a = none) : Keep W H (W'.frz a o) H' where
  wex := k.wex.trans (frz_ex h)
  old := k.old
  fr := fun b u hb e => by
    show upd W'.H0 a o b = none
    rw [upd_ne (ne_of_none hb hn)]
    exact k.fr b u hb e
  sa := k.sa
end

/-! ### readings that say: as the function says -/
/-- what is wanted of an error: class n, what it was given p -/
def ErQ (K : PySem.W.Frag) (c : Cn) (W : Wd) (H : Hp) (E : XK) (n : Nat) (p : D) (S : DS) : Prop :=
  ∀ W' H' dd v, StOk K c W' H' S → Keep W H W' H' → H' dd = some (.xd [(c.fld n, v)]) → Rep K c W' p v → E (.ref (c.ca n)) (some dd) H'
section
variable (K : PySem.W.Frag) (c : Cn) (E : XK)
def tM (f : FE) : TE := fun σ H Q => ∃ W ρ S, StOk K c W H S ∧ EnvOk K c W H σ ρ ∧ match f ρ S with
  | .ok d S' => ∀ W' H' v, StOk K c W' H' S' → Keep W H W' H' → Rep K c W' d v → Q v H'
  | .er n p S' => ErQ K c W H E n p S'
  | .no => False
def tB (f : FE) : TE := fun σ H Q => ∃ W ρ S, StOk K c W H S ∧ EnvOk K c W H σ ρ ∧ match f ρ S with
  | .ok d S' => ∀ W' H' v, StOk K c W' H' S' → Keep W H W' H' → RepB K c W' H' d v → Q v H'
  | .er n p S' => ErQ K c W H E n p S'
  | .no => False
def tO (f : FE) : TE := fun σ H Q => ∃ W ρ S, StOk K c W H S ∧ EnvOk K c W H σ ρ ∧ match f ρ S with
  | .ok d S' => ∀ W' H' v, StOk K c W' H' S' → Keep W H W' H' → RepO K c H W' H' d v → Q v H'
  | .er n p S' => ErQ K c W H E n p S'
  | .no => False
def tT (f : FB) : TT := fun σ H Q => ∃ W ρ S, StOk K c W H S ∧ EnvOk K c W H σ ρ ∧ match f ρ S with
  | .ok d S' => ∀ W' H', StOk K c W' H' S' → Keep W H W' H' → Q d H'
  | .er n p S' => ErQ K c W H E n p S'
  | .no => False
def tA (f : FA) : TA := fun σ H Q => ∃ W ρ S, StOk K c W H S ∧ EnvOk K c W H σ ρ ∧ match f ρ S with
  | .ok ds S' => ∀ W' H' vs, StOk K c W' H' S' → Keep W H W' H' → RepL K c W' ds vs → Q vs H'
  | .er n p S' => ErQ K c W H E n p S'
  | .no => False
end
section
variable {X : Cx} {c : Cn} {E : XK} {e a b : Expr} {f g : FE} {pos : Pos}
/-- a reading that is implied -/
theorem pe_imp {e : Expr} {t t' : TE} (h : PE X e t) (i : ∀ σ H Q, t' σ H Q → t σ H Q) : PE X e t' := ⟨fun pins s σ H Q I q => h.run pins s σ H Q I (i σ H Q q)⟩
theorem pt_imp {e : Expr} {t t' : TT} (h : PT X e t) (i : ∀ σ H Q, t' σ H Q → t σ H Q) : PT X e t' := ⟨fun pins s σ H Q I q => h.run pins s σ H Q I (i σ H Q q)⟩
theorem pa_imp {e : List Expr} {t t' : TA} (h : PA X e t) (i : ∀ σ H Q, t' σ H Q → t σ H Q) : PA X e t' := ⟨fun pos pins s σ H Q I q => h.run pos pins s σ H Q I (i σ H Q q)⟩
theorem ps_imp {e : Stmt} {t t' : TS} (h : PS X e t) (i : ∀ D σ H, t' D σ H → t D σ H) : PS X e t' := ⟨fun pins s σ H D I q => h.run pins s σ H D I (i D σ H q)⟩
/-- frozen is a content -/
theorem b_of (h : PE X e (tM X.K c E f)) : PE X e (tB X.K c E f) := pe_imp h fun σ H Q ⟨W, ρ, S, st, en, q⟩ => ⟨W, ρ, S, st, en, by
  cases hf : f ρ S with
  | ok d S' =>
    rw [hf] at q
    exact fun W' H' v st' k r => q W' H' v st' k (.inl r)
  | er n p S' =>
    rw [hf] at q
    exact q
  | no =>
    rw [hf] at q
    exact q⟩
/-- a fresh object, frozen -/
theorem m_imp : ∀ σ H Q, tM X.K c E f σ H Q → tO X.K c E f σ H Q := fun σ H Q ⟨W, ρ, S, st, en, q⟩ => ⟨W, ρ, S, st, en, by
  cases hf : f ρ S with
  | ok d S' =>
    rw [hf] at q
    rintro W' H' v st' k ⟨a, rfl, h1, h2, h3, h4⟩
    obtain ⟨o, ho⟩ := h4.some
    exact q (W'.frz a o) H' _ (frz_st st' h2 h3 ho) (k.frz h1 h2) (frz_rep h2 ho h4)
  | er n p S' =>
    rw [hf] at q
    exact q
  | no =>
    rw [hf] at q
    exact q⟩
theorem m_of (h : PE X e (tO X.K c E f)) : PE X e (tM X.K c E f) := pe_imp h m_imp
/-- .. or read as it is -/
theorem b_ofO (h : PE X e (tO X.K c E f)) : PE X e (tB X.K c E f) := pe_imp h fun σ H Q ⟨W, ρ, S, st, en, q⟩ => ⟨W, ρ, S, st, en, by
  cases hf : f ρ S with
  | ok d S' =>
    rw [hf] at q
    rintro W' H' v st' k ⟨a, rfl, h1, h2, h3, h4⟩
    exact q W' H' _ st' k (.inr ⟨a, rfl, h3, h4⟩)
  | er n p S' =>
    rw [hf] at q
    exact q
  | no =>
    rw [hf] at q
    exact q⟩
end
end Mini
namespace Mini
open PySem PySem.Spec PyProof.Rows L2 Evl

/-! ### defs that run where no repr runs: FnG -/
structure FnG (P : Program) (w : World) (K : PySem.W.Frag) (mg : Str → Option Value) (base : Heap) (T : CXT) (n : Nat) (f : Addr) (fd : FuncData) (ps : List Str) (sp : Sp) : Prop where
  len : ∀ vs H Q E, sp vs H Q E → vs.length = ps.length
  run : ∀ (A : Around) (fr : List Env) (s : Shared) (H : Hp) (args : Args) (us : List Value) (vs : List V) (Q : VK) (E : XK), Room n A → A.guards = some [] →
    Env0 P w K mg base A fr s H → BindsTo s fd args (ps.zip us) → Vals vs us → sp vs H Q E → codeAny (model P w) A (.call (.ref f) args) (CR T fr P w H s Q E) s
section
variable {P : Program} {w : World} {K : PySem.W.Frag} {mg : Str → Option Value} {base : Heap} {T : CXT} {m n : Nat} {f : Addr} {fd : FuncData} {ps : List Str} {sp sp' : Sp}
theorem FnG.mono (F : FnG P w K mg base T m f fd ps sp) (h : m ≤ n) : FnG P w K mg base T n f fd ps sp where
  len := F.len
  run := fun A fr s H args us vs Q E r => F.run A fr s H args us vs Q E (r.mono h)
theorem FnG.imp (F : FnG P w K mg base T m f fd ps sp) (h : ∀ vs H Q E, sp' vs H Q E → sp vs H Q E) : FnG P w K mg base T m f fd ps sp' where
  len := fun vs H Q E q => F.len vs H Q E (h vs H Q E q)
  run := fun A fr s H args us vs Q E r g e b v q => F.run A fr s H args us vs Q E r g e b v (h vs H Q E q)
theorem FnG.ofOk (F : FnOk P w K mg base T m f fd ps sp) : FnG P w K mg base T m f fd ps sp where
  len := F.len
  run := fun A fr s H args us vs Q E r _ e b v q => F.run A fr s H args us vs Q E r e b v q
end
/-- a def by its body -/
theorem fnG_of {T : CXT} {P : Program} {w : World} {K : PySem.W.Frag} {mg : Str → Option Value} {base : Heap} {n : Nat} {f : Addr} {nm qual : Str} {params : Arguments} {body : List Stmt} {sc : Scope}
    {dV kV doc pm cdv ct oc : Value} {an od : Option Addr} {osl : Array (Option Value)} {N ps : List Str} {sp : Sp}
    (look : K.lookup f = some ⟨oc, od, .func (PySem.W.fnOf nm qual params body sc dV kV doc pm an cdv ct), osl⟩) (code : PySem.W.codeIn K cdv qual = true) (scope : FnScope N ps sc)
    (len : ∀ vs H Q E, sp vs H Q E → vs.length = ps.length)
    (step : ∀ (A : Around) (fr : List Env) (s : Shared) (H : Hp) (vs : List V) (Q : VK) (E : XK), Room n (A.deeper (envOfC qual sc s.heap.objs.size f cdv)) → A.guards = some [] → sp vs H Q E →
      ∃ t, PSs (cxOf T P w K mg base N qual sc f cdv A fr s H E) body t ∧ t { nx := fun _ H2 => Q .non H2, rt := Q } (start N vs) H) :
    FnG P w K mg base T (n + 1) f (PySem.W.fnOf nm qual params body sc dV kV doc pm an cdv ct) ps sp where
  len := len
  run := by
    intro A fr s H args us vs Q E room gd e0 bind rel want
    have size := len _ _ _ _ want
    have stays : ∀ b o, base.get? b = some o → s.heap.get? b = some o := fun b o q => (e0.bs b o q).1
    have kin : K.In s.heap := e0.mod.kin.keeps stays
    have nol : s.heap.NoLimit := e0.mod.nolimit.keeps stays
    refine codeAny_call_function room.depth (kin _ _ look) rfl scope.co scope.gen rfl (PySem.W.codeRec_of kin code) (bind _ _ _ _ ?_)
    refine wpAny_newFunctionEnv_cells scope.kind (fun p hp => ?_) fun en he s1 inCall => ?_
    · obtain ⟨x, v⟩ := p
      have hx : x ∈ ps := (List.of_mem_zip hp).1
      cases scope.par x hx with
      | inl h => exact Or.inl h
      | inr h => exact Or.inr ⟨h, PySem.W.cellsFrom_some _ _ _ (Or.inl h)⟩
    · subst he
      refine ⟨nol.keeps inCall.toInCall.keep, codeAny_func ?_⟩
      obtain ⟨t, der, rd⟩ := step A fr s H vs Q E (room.deeper _) gd want
      have I0 := inv_start (CX := T) (mg := mg) (base := base) (E := E) scope room.hd e0 size rel inCall
      refine wpAny_mono (der.run [] s1 (start N vs) H _ I0 rd) (fun fl s2 out => ?_) fun e s2 out => out
      cases fl with
      | next =>
        obtain ⟨σ2, H2, J, q⟩ := out
        exact ⟨V.non, H2, J.os, J.bare, J.base, J.hok, rfl, q⟩
      | ret u =>
        obtain ⟨v, σ2, H2, J, rv, q⟩ := out
        exact ⟨v, H2, J.os, J.bare, J.base, J.hok, rv, q⟩
      | brk =>
        obtain ⟨_, _, _, q⟩ := out
        exact q.elim
      | cont =>
        obtain ⟨_, _, _, q⟩ := out
        exact q.elim
section
variable {X : Cx} {T : CXT} {n : Nat} {f : Addr} {fd : FuncData} {ps : List Str} {sp : Sp} {dvs : List V} {ds : List Value} {E : XK} {x : Str} {p pos : Pos} {e : Expr} {es : List Expr} {t : TA}
/-- the call of a value that is such a def -/
theorem runG {pins : List (Addr × Obj)} {σ : L2.St} {H : Hp} {s : Shared} {Q : VK} {us : List Value} {vs : List V} (F : FnG X.prog X.w X.K X.mg X.base T n f fd ps sp) (room : Room n X.A) (gd : X.A.guards = some [])
    (hb : Binds X.K fd ps ds) (hd : Vals dvs ds) (hx : Passes T X E) (I : Inv X pins σ H s) (r : Vals vs us) (want : sp (vs ++ dvs) H Q E) : wpAny (model X.prog X.w) X.A (call (.ref f) us) (EP X pins σ Q) X.xe s := by
  have all := r.append hd
  have size : (us ++ ds).length = ps.length := all.length.symm.trans (F.len _ _ _ _ want)
  refine wpAny_call (codeAny_mono (F.run X.A X.stack s H ⟨us, []⟩ (us ++ ds) (vs ++ dvs) Q E room gd I.env0 (hb s us I.kIn size) all want) fun res s2 out => ?_)
  match res, out with
  | .error e, out => exact hx pins σ H s e s2 I out
  | .ok (.ret u), out => exact I.after out
theorem pe_callG (F : FnG X.prog X.w X.K X.mg X.base T n f fd ps sp) (room : Room n X.A) (gd : X.A.guards = some []) (hg : Gl X x) (hm : X.mg x = some (.ref f)) (hk : PySem.W.keepIn X.K (.ref f) = true)
    (hb : Binds X.K fd ps ds) (hd : Vals dvs ds) (hx : Passes T X E) (ha : PA X (e :: es) t) (hdb : (x == ("__debug__" : Str)) = false := by decide)
    (he : starEach (e :: es) X.env = (false, eval e X.env) :: starEach es X.env := by rfl) (hpl : (backTo pos (starEach es X.env)).any (·.1) = false := by rfl) : PE X (.Call (.Name x p) (e :: es) [] pos) (tCall sp dvs E t) where
  run := fun pins s σ H Q I h => by
    refine wpAny_Call_Name_kw (ld_glob I hg hm (PySem.W.callWith_K (h₀ := X.base) I.ok.mod.kin hk (thn (ha.run pos pins s σ H _ I h) ?_) he hpl) hdb)
    rintro us s1 ⟨vs, H1, I1, r, q⟩
    exact ⟨I1.kIn, runG F room gd hb hd hx I1 r q⟩
end
end Mini
namespace Mini
open PySem PySem.Spec PyProof.Rows L2 Evl

/-! ### the combinators: names, constants, operators -/
def slot (ρ : En) (i : Nat) : Option D := match ρ[i]? with
  | some (.vl d) => some d
  | _ => none
def slotB (ρ : En) (i : Nat) : Option D := match ρ[i]? with
  | some (.vl d) => some d
  | some (.ow d) => some d
  | _ => none
def var (i : Nat) : FE := fun ρ => lift (slot ρ i)
def varB (i : Nat) : FE := fun ρ => lift (slotB ρ i)
def cst (d : D) : FE := fun _ => rt d
def op1 (f : D → Option D) (a : FE) : FE := fun ρ => bd (a ρ) fun x => lift (f x)
def op2 (f : D → D → Option D) (a b : FE) : FE := fun ρ => bd (a ρ) fun x => bd (b ρ) fun y => lift (f x y)
def nilA : FA := fun _ => rt []
def consA (a : FE) (r : FA) : FA := fun ρ => bd (a ρ) fun x => bd (r ρ) fun xs => rt (x :: xs)
def tupE (a : FA) : FE := fun ρ => bd (a ρ) fun xs => if xs.length ≤ 16777216 then rt (.tup xs) else no
def lstE (a : FA) : FE := fun ρ => bd (a ρ) fun xs => if xs.length ≤ 16777216 then rt (.lst xs) else no
def iteE (t : FB) (a b : FE) : FE := fun ρ => bd (t ρ) fun k => if k then a ρ else b ρ
def notB (t : FB) : FB := fun ρ => bd (t ρ) fun k => rt (!k)
def andB (t u : FB) : FB := fun ρ => bd (t ρ) fun k => if k then u ρ else rt false
def orB (t u : FB) : FB := fun ρ => bd (t ρ) fun k => if k then rt true else u ρ
def isBl : D → Option Bool
  | .bl b => some b
  | _ => none
def valB (a : FE) : FB := fun ρ => bd (a ρ) fun x => lift (isBl x)
def truth : D → Option Bool
  | .non => some false
  | .bl b => some b
  | .int i => some (i != 0)
  | .str s => some ((s.length : Int) != 0)
  | .tup ds => some (!ds.isEmpty)
  | .tpx ds => some (!ds.isEmpty)
  | .lst ds => some (!ds.isEmpty)
  | _ => none
def truB (a : FE) : FB := fun ρ => bd (a ρ) fun x => lift (truth x)
def fnE (n : Nat) : FE := cst (.fn n)

section
variable {K : PySem.W.Frag} {c : Cn} {W W1 W' : Wd} {H H1 H' : Hp} {S S1 : DS} {σ : L2.St} {ρ : En} {E : XK}
theorem ErQ.pre {n : Nat} {p : D} {S' : DS} (h : ErQ K c W H E n p S') (k : Keep W H W1 H1) (st : StOk K c W1 H1 S1) : ErQ K c W1 H1 E n p S' :=
  fun W' H' dd v st' k' e r => h W' H' dd v st' (k.tr st k') e r
theorem slot_some {i : Nat} {d : D} (h : slot ρ i = some d) : ρ[i]? = some (.vl d) := by
  unfold slot at h
  split at h
  · cases h
    assumption
  · cases h
theorem slotB_some {i : Nat} {d : D} (h : slotB ρ i = some d) : ρ[i]? = some (.vl d) ∨ ρ[i]? = some (.ow d) := by
  unfold slotB at h
  split at h
  · cases h
    exact Or.inl (by assumption)
  · cases h
    exact Or.inr (by assumption)
  · cases h
/-- what a reading must do for a result -/
def OutM (K : PySem.W.Frag) (c : Cn) (W : Wd) (H : Hp) (E : XK) (Q : VK) : Res D → Prop
  | .ok d S' => ∀ W' H' v, StOk K c W' H' S' → Keep W H W' H' → Rep K c W' d v → Q v H'
  | .er n p S' => ErQ K c W H E n p S'
  | .no => False
def OutB (K : PySem.W.Frag) (c : Cn) (W : Wd) (H : Hp) (E : XK) (Q : VK) : Res D → Prop
  | .ok d S' => ∀ W' H' v, StOk K c W' H' S' → Keep W H W' H' → RepB K c W' H' d v → Q v H'
  | .er n p S' => ErQ K c W H E n p S'
  | .no => False
def OutO (K : PySem.W.Frag) (c : Cn) (W : Wd) (H : Hp) (E : XK) (Q : VK) : Res D → Prop
  | .ok d S' => ∀ W' H' v, StOk K c W' H' S' → Keep W H W' H' → RepO K c H W' H' d v → Q v H'
  | .er n p S' => ErQ K c W H E n p S'
  | .no => False
def OutT (K : PySem.W.Frag) (c : Cn) (W : Wd) (H : Hp) (E : XK) (Q : Bool → Hp → Prop) : Res Bool → Prop
  | .ok d S' => ∀ W' H', StOk K c W' H' S' → Keep W H W' H' → Q d H'
  | .er n p S' => ErQ K c W H E n p S'
  | .no => False
def OutA (K : PySem.W.Frag) (c : Cn) (W : Wd) (H : Hp) (E : XK) (Q : List V → Hp → Prop) : Res (List D) → Prop
  | .ok ds S' => ∀ W' H' vs, StOk K c W' H' S' → Keep W H W' H' → RepL K c W' ds vs → Q vs H'
  | .er n p S' => ErQ K c W H E n p S'
  | .no => False
theorem tM_mk {f : FE} {Q : VK} (st : StOk K c W H S) (en : EnvOk K c W H σ ρ) (h : OutM K c W H E Q (f ρ S)) : tM K c E f σ H Q := ⟨W, ρ, S, st, en, by
  cases e : f ρ S <;> rw [e] at h <;> exact h⟩
theorem tB_mk {f : FE} {Q : VK} (st : StOk K c W H S) (en : EnvOk K c W H σ ρ) (h : OutB K c W H E Q (f ρ S)) : tB K c E f σ H Q := ⟨W, ρ, S, st, en, by
  cases e : f ρ S <;> rw [e] at h <;> exact h⟩
theorem tO_mk {f : FE} {Q : VK} (st : StOk K c W H S) (en : EnvOk K c W H σ ρ) (h : OutO K c W H E Q (f ρ S)) : tO K c E f σ H Q := ⟨W, ρ, S, st, en, by
  cases e : f ρ S <;> rw [e] at h <;> exact h⟩
theorem tT_mk {f : FB} {Q : Bool → Hp → Prop} (st : StOk K c W H S) (en : EnvOk K c W H σ ρ) (h : OutT K c W H E Q (f ρ S)) : tT K c E f σ H Q := ⟨W, ρ, S, st, en, by
  cases e : f ρ S <;> rw [e] at h <;> exact h⟩
theorem tA_mk {f : FA} {Q : List V → Hp → Prop} (st : StOk K c W H S) (en : EnvOk K c W H σ ρ) (h : OutA K c W H E Q (f ρ S)) : tA K c E f σ H Q := ⟨W, ρ, S, st, en, by
  cases e : f ρ S <;> rw [e] at h <;> exact h⟩
theorem tM_un {f : FE} {Q : VK} (h : tM K c E f σ H Q) : ∃ W ρ S, StOk K c W H S ∧ EnvOk K c W H σ ρ ∧ OutM K c W H E Q (f ρ S) := by
  obtain ⟨W, ρ, S, st, en, q⟩ := h
  exact ⟨W, ρ, S, st, en, by cases e : f ρ S <;> rw [e] at q <;> exact q⟩
theorem tB_un {f : FE} {Q : VK} (h : tB K c E f σ H Q) : ∃ W ρ S, StOk K c W H S ∧ EnvOk K c W H σ ρ ∧ OutB K c W H E Q (f ρ S) := by
  obtain ⟨W, ρ, S, st, en, q⟩ := h
  exact ⟨W, ρ, S, st, en, by cases e : f ρ S <;> rw [e] at q <;> exact q⟩
theorem tO_un {f : FE} {Q : VK} (h : tO K c E f σ H Q) : ∃ W ρ S, StOk K c W H S ∧ EnvOk K c W H σ ρ ∧ OutO K c W H E Q (f ρ S) := by
  obtain ⟨W, ρ, S, st, en, q⟩ := h
  exact ⟨W, ρ, S, st, en, by cases e : f ρ S <;> rw [e] at q <;> exact q⟩
theorem tT_un {f : FB} {Q : Bool → Hp → Prop} (h : tT K c E f σ H Q) : ∃ W ρ S, StOk K c W H S ∧ EnvOk K c W H σ ρ ∧ OutT K c W H E Q (f ρ S) := by
  obtain ⟨W, ρ, S, st, en, q⟩ := h
  exact ⟨W, ρ, S, st, en, by cases e : f ρ S <;> rw [e] at q <;> exact q⟩
theorem tA_un {f : FA} {Q : List V → Hp → Prop} (h : tA K c E f σ H Q) : ∃ W ρ S, StOk K c W H S ∧ EnvOk K c W H σ ρ ∧ OutA K c W H E Q (f ρ S) := by
  obtain ⟨W, ρ, S, st, en, q⟩ := h
  exact ⟨W, ρ, S, st, en, by cases e : f ρ S <;> rw [e] at q <;> exact q⟩
/-- one step, then the rest: for each kind of end (O: what the whole is to reach) -/
theorem then_M {f : FE} {β : Type} {g : D → M β} {Q : VK} {O : Res β → Prop} (st : StOk K c W H S) (en : EnvOk K c W H σ ρ) (hO : ∀ n p S', O (.er n p S') → ErQ K c W H E n p S') (hN : ¬ O .no)
    (h : O (bd (f ρ) g S)) (k : ∀ d S' W' H' v, StOk K c W' H' S' → Keep W H W' H' → Rep K c W' d v → O (g d S') → Q v H') : tM K c E f σ H Q := by
  refine tM_mk st en ?_
  unfold bd at h
  cases e : f ρ S with
  | ok d S' =>
    rw [e] at h
    exact fun W' H' v st' k' r => k d S' W' H' v st' k' r h
  | er n p S' =>
    rw [e] at h
    exact hO n p S' h
  | no =>
    rw [e] at h
    exact hN h
theorem then_B {f : FE} {β : Type} {g : D → M β} {Q : VK} {O : Res β → Prop} (st : StOk K c W H S) (en : EnvOk K c W H σ ρ) (hO : ∀ n p S', O (.er n p S') → ErQ K c W H E n p S') (hN : ¬ O .no)
    (h : O (bd (f ρ) g S)) (k : ∀ d S' W' H' v, StOk K c W' H' S' → Keep W H W' H' → RepB K c W' H' d v → O (g d S') → Q v H') : tB K c E f σ H Q := by
  refine tB_mk st en ?_
  unfold bd at h
  cases e : f ρ S with
  | ok d S' =>
    rw [e] at h
    exact fun W' H' v st' k' r => k d S' W' H' v st' k' r h
  | er n p S' =>
    rw [e] at h
    exact hO n p S' h
  | no =>
    rw [e] at h
    exact hN h
theorem then_T {f : FB} {β : Type} {g : Bool → M β} {Q : Bool → Hp → Prop} {O : Res β → Prop} (st : StOk K c W H S) (en : EnvOk K c W H σ ρ) (hO : ∀ n p S', O (.er n p S') → ErQ K c W H E n p S') (hN : ¬ O .no)
    (h : O (bd (f ρ) g S)) (k : ∀ d S' W' H', StOk K c W' H' S' → Keep W H W' H' → O (g d S') → Q d H') : tT K c E f σ H Q := by
  refine tT_mk st en ?_
  unfold bd at h
  cases e : f ρ S with
  | ok d S' =>
    rw [e] at h
    exact fun W' H' st' k' => k d S' W' H' st' k' h
  | er n p S' =>
    rw [e] at h
    exact hO n p S' h
  | no =>
    rw [e] at h
    exact hN h
theorem then_A {f : FA} {β : Type} {g : List D → M β} {Q : List V → Hp → Prop} {O : Res β → Prop} (st : StOk K c W H S) (en : EnvOk K c W H σ ρ) (hO : ∀ n p S', O (.er n p S') → ErQ K c W H E n p S') (hN : ¬ O .no)
    (h : O (bd (f ρ) g S)) (k : ∀ d S' W' H' v, StOk K c W' H' S' → Keep W H W' H' → RepL K c W' d v → O (g d S') → Q v H') : tA K c E f σ H Q := by
  refine tA_mk st en ?_
  unfold bd at h
  cases e : f ρ S with
  | ok d S' =>
    rw [e] at h
    exact fun W' H' v st' k' r => k d S' W' H' v st' k' r h
  | er n p S' =>
    rw [e] at h
    exact hO n p S' h
  | no =>
    rw [e] at h
    exact hN h
/-- a lifted end -/
theorem lift_ok {α β : Type} {o : Option α} {O : Res α → Prop} (hN : ¬ O .no) (h : O (lift o S)) : ∃ a, o = some a ∧ O (.ok a S) := by
  cases o with
  | none => exact absurd h hN
  | some a => exact ⟨a, rfl, h⟩
/-- the ends' errors behind a step -/
theorem OutM.pre {Q Q' : VK} {r : Res D} (h : OutM K c W H E Q r) (k : Keep W H W1 H1) (st : StOk K c W1 H1 S1) : OutM K c W1 H1 E Q r := by
  cases r with
  | ok d S' => exact fun W' H' v st' k' r => h W' H' v st' (k.tr st k') r
  | er n p S' => exact ErQ.pre h k st
  | no => exact h
theorem OutB.pre {Q : VK} {r : Res D} (h : OutB K c W H E Q r) (k : Keep W H W1 H1) (st : StOk K c W1 H1 S1) : OutB K c W1 H1 E Q r := by
  cases r with
  | ok d S' => exact fun W' H' v st' k' r => h W' H' v st' (k.tr st k') r
  | er n p S' => exact ErQ.pre h k st
  | no => exact h
theorem RepO.pre {H0 : Hp} {d : D} {v : V} (k : Keep W H W1 H1) (hs : ∀ b, W.sa = some b → ∃ o, H1 b = some o) (h : RepO K c H1 W' H' d v) : RepO K c H W' H' d v := by
  obtain ⟨a, e, h1, h2⟩ := h
  refine ⟨a, e, ?_, h2⟩
  cases q : H a with
  | none => rfl
  | some o =>
    by_cases z : W.sa = some a
    · obtain ⟨o', ho'⟩ := hs a z
      rw [h1] at ho'
      cases ho'
    · rw [k.old a o q z] at h1
      cases h1
theorem OutO.pre {Q : VK} {r : Res D} (h : OutO K c W H E Q r) (k : Keep W H W1 H1) (st : StOk K c W1 H1 S1) : OutO K c W1 H1 E Q r := by
  cases r with
  | ok d S' => exact fun W' H' v st' k' r => h W' H' v st' (k.tr st k') (RepO.pre (H0 := H) k (fun b e => st.ds.at (k.wex.2 b e)) r)
  | er n p S' => exact ErQ.pre h k st
  | no => exact h
theorem OutT.pre {Q : Bool → Hp → Prop} {r : Res Bool} (h : OutT K c W H E Q r) (k : Keep W H W1 H1) (st : StOk K c W1 H1 S1) : OutT K c W1 H1 E Q r := by
  cases r with
  | ok d S' => exact fun W' H' st' k' => h W' H' st' (k.tr st k')
  | er n p S' => exact ErQ.pre h k st
  | no => exact h
theorem OutA.pre {Q : List V → Hp → Prop} {r : Res (List D)} (h : OutA K c W H E Q r) (k : Keep W H W1 H1) (st : StOk K c W1 H1 S1) : OutA K c W1 H1 E Q r := by
  cases r with
  | ok d S' => exact fun W' H' v st' k' r => h W' H' v st' (k.tr st k') r
  | er n p S' => exact ErQ.pre h k st
  | no => exact h
end
/-! ### what an operator's rule gives, said of data -/
def OpM (K : PySem.W.Frag) (c : Cn) (r : R2) (f : D → D → Option D) : Prop := ∀ {W : Wd} {H : Hp} {S : DS} {d e d' : D} {v u : V} (Q : VK), StOk K c W H S → RepB K c W H d v → RepB K c W H e u → f d e = some d' →
  (∀ W' H' x, StOk K c W' H' S → Keep W H W' H' → Rep K c W' d' x → Q x H') → r v u H Q
def OpO (K : PySem.W.Frag) (c : Cn) (r : R2) (f : D → D → Option D) : Prop := ∀ {W : Wd} {H : Hp} {S : DS} {d e d' : D} {v u : V} (Q : VK), StOk K c W H S → RepB K c W H d v → RepB K c W H e u → f d e = some d' →
  (∀ W' H' x, StOk K c W' H' S → Keep W H W' H' → RepO K c H W' H' d' x → Q x H') → r v u H Q
section
variable {X : Cx} {c : Cn} {E : XK} {a b e : Expr} {fa fb : FE} {pos : Pos}
theorem op2_out {f : D → D → Option D} {r : R2} (hr : OpM X.K c r f) : ∀ σ H Q, tM X.K c E (op2 f fa fb) σ H Q → tOp r (tB X.K c E fa) (tB X.K c E fb) σ H Q := fun σ H Q h => by
  obtain ⟨W, ρ, S, st, en, q⟩ := tM_un h
  refine then_B (O := OutM X.K c W H E Q) st en (fun _ _ _ z => z) (fun z => z) q fun d S1 W1 H1 v st1 k1 r1 q1 => ?_
  refine then_B (O := OutM X.K c W1 H1 E Q) st1 (en.ext k1) (fun _ _ _ z => z) (fun z => z) (q1.pre (Q' := Q) k1 st1) fun d2 S2 W2 H2 u st2 k2 r2 q2 => ?_
  obtain ⟨d', e', q3⟩ := lift_ok (β := D) (O := OutM X.K c W1 H1 E Q) (fun z => z) q2
  exact hr Q st2 (r1.ext k2) r2 e' fun W' H' x st' k' rx => q3 W' H' x st' (k2.tr st2 k') rx
theorem op2_outO {f : D → D → Option D} {r : R2} (hr : OpO X.K c r f) : ∀ σ H Q, tO X.K c E (op2 f fa fb) σ H Q → tOp r (tB X.K c E fa) (tB X.K c E fb) σ H Q := fun σ H Q h => by
  obtain ⟨W, ρ, S, st, en, q⟩ := tO_un h
  refine then_B (O := OutO X.K c W H E Q) st en (fun _ _ _ z => z) (fun z => z) q fun d S1 W1 H1 v st1 k1 r1 q1 => ?_
  refine then_B (O := OutO X.K c W1 H1 E Q) st1 (en.ext k1) (fun _ _ _ z => z) (fun z => z) (q1.pre k1 st1) fun d2 S2 W2 H2 u st2 k2 r2 q2 => ?_
  obtain ⟨d', e', q3⟩ := lift_ok (β := D) (O := OutO X.K c W1 H1 E Q) (fun z => z) q2
  exact hr Q st2 (r1.ext k2) r2 e' fun W' H' x st' k' rx => q3 W' H' x st' (k2.tr st2 k') (RepO.pre (H0 := H1) k2 (fun b e => st2.ds.at (k2.wex.2 b e)) rx)
theorem me_bin {op : Operator} {f : D → D → Option D} {r : R2} (ho : OpR X (binaryOp op) r) (hr : OpM X.K c r f) (ha : PE X a (tB X.K c E fa)) (hb : PE X b (tB X.K c E fb)) : PE X (.BinOp a op b pos) (tM X.K c E (op2 f fa fb)) :=
  pe_imp (pe_op ho ha hb) (op2_out hr)
theorem me_binO {op : Operator} {f : D → D → Option D} {r : R2} (ho : OpR X (binaryOp op) r) (hr : OpO X.K c r f) (ha : PE X a (tB X.K c E fa)) (hb : PE X b (tB X.K c E fb)) : PE X (.BinOp a op b pos) (tO X.K c E (op2 f fa fb)) :=
  pe_imp (pe_op ho ha hb) (op2_outO hr)
theorem me_cmp {op : CmpOp} {f : D → D → Option D} {r : R2} (ho : OpR X (compareOp op) r) (hr : OpM X.K c r f) (ha : PE X a (tB X.K c E fa)) (hb : PE X b (tB X.K c E fb)) (hm : behindInMarks op b = false) : PE X (.Compare a [op] [b] pos) (tM X.K c E (op2 f fa fb)) :=
  pe_imp (pe_cmpR ho ha hb hm) (op2_out hr)
theorem me_ix {f : D → D → Option D} {r : R2} (ho : IxR X r) (hr : OpM X.K c r f) (ha : PE X a (tB X.K c E fa)) (hb : PE X b (tB X.K c E fb)) (hs : PlainIx b) : PE X (.Subscript a b pos) (tM X.K c E (op2 f fa fb)) :=
  pe_imp (pe_ix ho ha hb hs) (op2_out hr)
/-- a bool's value as a test -/
theorem val_out {te : TE} {f : FE} (h : ∀ σ H Q, tM X.K c E f σ H Q → te σ H Q) : ∀ σ H Q, tT X.K c E (valB f) σ H Q → tTest te σ H Q := fun σ H Q q => by
  obtain ⟨W, ρ, S, st, en, q⟩ := tT_un q
  refine h σ H _ (then_M (O := OutT X.K c W H E Q) st en (fun _ _ _ z => z) (fun z => z) q fun d S1 W1 H1 v st1 k1 r1 q1 => ?_)
  obtain ⟨k, e', q3⟩ := lift_ok (β := Bool) (O := OutT X.K c W H E Q) (fun z => z) q1
  cases d <;> first | (cases e'; done) | skip
  cases e'
  cases r1
  exact ⟨_, rfl, q3 W1 H1 st1 k1⟩
theorem mt_cmp {op : CmpOp} {f : D → D → Option D} {r : R2} (ho : OpR X (compareOp op) r) (hr : OpM X.K c r f) (ha : PE X a (tB X.K c E fa)) (hb : PE X b (tB X.K c E fb)) (hm : behindInMarks op b = false) : PT X (.Compare a [op] [b] pos) (tT X.K c E (valB (op2 f fa fb))) :=
  pt_imp (pt_cmpR ho ha hb hm) (val_out (op2_out hr))
/-! names, constants -/
theorem me_var {i : Nat} {x : Str} (hN : X.N[i]? = some x) (hv : Vis X.env.scope x) (hd : (x == ("__debug__" : Str)) = false := by decide) (hcd : (x == ("__classdict__" : Str)) = false := by decide) : PE X (.Name x pos) (tM X.K c E (var i)) :=
  pe_imp (pe_var hN hv hd hcd) fun σ H Q h => by
    obtain ⟨W, ρ, S, st, en, q⟩ := tM_un h
    obtain ⟨d, e', q1⟩ := lift_ok (β := D) (O := OutM X.K c W H E Q) (fun z => z) q
    obtain ⟨v, h1, h2⟩ := en.vl i d (slot_some e')
    exact ⟨v, h1, q1 W H v st (Keep.refl W H) h2⟩
theorem me_varB {i : Nat} {x : Str} (hN : X.N[i]? = some x) (hv : Vis X.env.scope x) (hd : (x == ("__debug__" : Str)) = false := by decide) (hcd : (x == ("__classdict__" : Str)) = false := by decide) : PE X (.Name x pos) (tB X.K c E (varB i)) :=
  pe_imp (pe_var hN hv hd hcd) fun σ H Q h => by
    obtain ⟨W, ρ, S, st, en, q⟩ := tB_un h
    obtain ⟨d, e', q1⟩ := lift_ok (β := D) (O := OutB X.K c W H E Q) (fun z => z) q
    rcases slotB_some e' with z | z
    · obtain ⟨v, h1, h2⟩ := en.vl i d z
      exact ⟨v, h1, q1 W H v st (Keep.refl W H) (Or.inl h2)⟩
    · obtain ⟨a, h1, _, h3, h4⟩ := en.ow i d z
      exact ⟨_, h1, q1 W H _ st (Keep.refl W H) (Or.inr ⟨a, rfl, h3, h4⟩)⟩
theorem me_cst {d : D} {v : V} (he : PE X e (tC v)) (hr : ∀ W, Rep X.K c W d v) : PE X e (tM X.K c E (cst d)) :=
  pe_imp he fun σ H Q h => by
    obtain ⟨W, ρ, S, st, en, q⟩ := tM_un h
    exact q W H v st (Keep.refl W H) (hr W)
theorem me_int {i : Int} {j : Nat} : PE X (.Constant (.int i) j pos) (tM X.K c E (cst (.int i))) := me_cst pe_int fun _ => rfl
theorem me_bl {i : Bool} {j : Nat} : PE X (.Constant (.bool i) j pos) (tM X.K c E (cst (.bl i))) := me_cst pe_bl fun _ => rfl
theorem me_non {j : Nat} : PE X (.Constant .none j pos) (tM X.K c E (cst .non)) := me_cst pe_non fun _ => rfl
theorem me_str {x : Str} {j : Nat} (h : SOk x := by decide +kernel) : PE X (.Constant (.str x) j pos) (tM X.K c E (cst (.str x))) := me_cst pe_str fun _ => ⟨rfl, h⟩
/-- a module's constant: an int, a text -/
theorem me_gint {x : Str} {i : Int} {u : Value} (hg : Gl X x) (hm : X.mg x = some u) (r : RelV (.int i) u) (hd : (x == ("__debug__" : Str)) = false := by decide) : PE X (.Name x pos) (tM X.K c E (cst (.int i))) := me_cst (pe_glob hg hm r hd) fun _ => rfl
theorem me_gstr {x y : Str} {u : Value} (hg : Gl X x) (hm : X.mg x = some u) (r : RelV (.str y) u) (h : SOk y := by decide +kernel) (hd : (x == ("__debug__" : Str)) = false := by decide) : PE X (.Name x pos) (tM X.K c E (cst (.str y))) := me_cst (pe_glob hg hm r hd) fun _ => ⟨rfl, h⟩
theorem me_gfn {x : Str} {n : Nat} {f : Addr} (hg : Gl X x) (hm : X.mg x = some (.ref f)) (r : c.fa n = some f) (hd : (x == ("__debug__" : Str)) = false := by decide) : PE X (.Name x pos) (tM X.K c E (fnE n)) :=
  me_cst (v := .ref f) (pe_glob hg hm rfl hd) fun _ => ⟨f, rfl, r⟩
/-! arguments, displays -/
theorem ma_nil : PA X [] (tA X.K c E nilA) := pa_imp pa_nil fun σ H Q h => by
  obtain ⟨W, ρ, S, st, en, q⟩ := tA_un h
  exact q W H [] st (Keep.refl W H) rfl
theorem ma_cons {es : List Expr} {r : FA} (ha : PE X e (tM X.K c E fa)) (hr : PA X es (tA X.K c E r)) (hs : starEach (e :: es) X.env = (false, eval e X.env) :: starEach es X.env := by rfl) : PA X (e :: es) (tA X.K c E (consA fa r)) :=
  pa_imp (pa_cons ha hr hs) fun σ H Q h => by
    obtain ⟨W, ρ, S, st, en, q⟩ := tA_un h
    refine then_M (O := OutA X.K c W H E Q) st en (fun _ _ _ z => z) (fun z => z) q fun d S1 W1 H1 v st1 k1 r1 q1 => ?_
    refine then_A (O := OutA X.K c W1 H1 E Q) st1 (en.ext k1) (fun _ _ _ z => z) (fun z => z) (q1.pre k1 st1) fun d2 S2 W2 H2 u st2 k2 r2 q2 => ?_
    exact q2 W2 H2 _ st2 k2 ⟨v, u, rfl, Rep.ext k2.wex d v r1, r2⟩
theorem RepL.length {K : PySem.W.Frag} {W : Wd} : ∀ {ds : List D} {vs : List V}, RepL K c W ds vs → vs.length = ds.length
  | [], vs, h => by cases h; rfl
  | d :: ds, vs, h => by
    obtain ⟨v, r, rfl, _, h3⟩ := h
    rw [List.length_cons, List.length_cons, RepL.length h3]
end
end Mini
namespace Mini
open PySem PySem.Spec PyProof.Rows L2 Evl
section
variable {K : PySem.W.Frag} {c : Cn} {W W1 W' : Wd} {H H1 H' : Hp} {S S1 : DS} {σ : L2.St} {ρ : En} {E : XK}
theorem line_le {n : Nat} (h : n ≤ 16777216) : n ≤ sizeLine := by rw [sizeLine_eq]; exact h
theorem line_lt {n : Nat} (h : n < 16777216) : n < sizeLine := by rw [sizeLine_eq]; exact h
theorem OutA.no_er {Q : List V → Hp → Prop} : ¬ OutA K c W H E Q .no := fun z => z
/-- a new tuple is laid: frozen -/
theorem lay_keep {p : Addr} {o : HO} (st : StOk K c W H S) (hp : H p = none) : Keep W H (W.frz p o) (upd H p o) where
  wex := ⟨Ex.new (fresh_back st.sub hp), fun _ e => e⟩
  old := fun b u h _ => by rw [upd_ne (ne_of_none h hp)]; exact h
  fr := fun b u h e => by
    show upd W.H0 p o b = none
    rw [upd_ne (ne_of_none h hp)]
    exact e
  sa := fun _ _ _ e => e
theorem DsOk.keep {W' : Wd} {H' : Hp} (d : DsOk K c W H S) (k : Keep W H W' H') (hs : W'.sa = W.sa) (hh : ∀ a, W.sa = some a → H' a = H a) : DsOk K c W' H' S := by
  cases S with
  | none => exact hs.trans d
  | some ds =>
    obtain ⟨a, vs, h1, h2, h3, h4⟩ := d
    exact ⟨a, vs, hs.trans h1, k.fr a _ h3 h2, (hh a h1).trans h3, RepL.ext k.wex ds vs h4⟩
theorem sa_ne {p : Addr} (st : StOk K c W H S) (hp : H p = none) : W.sa ≠ some p := fun e => by
  obtain ⟨o, ho⟩ := st.ds.at e
  rw [hp] at ho
  cases ho
theorem lay_st {p : Addr} {o : HO} (st : StOk K c W H S) (hp : H p = none) : StOk K c (W.frz p o) (upd H p o) S where
  sub := fun b u e => by
    have e' : upd W.H0 p o b = some u := e
    by_cases hb : b = p
    · subst hb
      rw [upd_same] at e' ⊢
      exact e'
    · rw [upd_ne hb] at e' ⊢
      exact st.sub b u e'
  ds := st.ds.keep (lay_keep st hp) rfl fun a e => upd_ne fun z => sa_ne st hp (by rw [← z]; exact e)
/-- a new object is laid: our own -/
theorem new_keep {p : Addr} {o : HO} (st : StOk K c W H S) (hp : H p = none) : Keep W H W (upd H p o) where
  wex := WEx.refl W
  old := fun b u h _ => by rw [upd_ne (ne_of_none h hp)]; exact h
  fr := fun _ _ _ e => e
  sa := fun _ _ _ e => e
theorem new_st {p : Addr} {o : HO} (st : StOk K c W H S) (hp : H p = none) : StOk K c W (upd H p o) S where
  sub := fun b u e => by
    have q := st.sub b u e
    rw [upd_ne (ne_of_none q hp)]
    exact q
  ds := st.ds.keep (new_keep st hp) rfl fun a e => upd_ne fun z => sa_ne st hp (by rw [← z]; exact e)
theorem new_own {p : Addr} {ds : List D} {vs : List V} (st : StOk K c W H S) (hp : H p = none) (r : RepL K c W ds vs) : RepO K c H W (upd H p (.lst vs)) (.lst ds) (.ref p) :=
  ⟨p, rfl, hp, fresh_back st.sub hp, sa_ne st hp, vs, upd_same, r⟩
theorem new_tup {p : Addr} {ds : List D} {vs : List V} (st : StOk K c W H S) (hp : H p = none) (r : RepL K c W ds vs) : Rep K c (W.frz p (.tup vs)) (.tup ds) (.ref p) :=
  ⟨p, vs, rfl, upd_same, RepL.ext (frz_ex (fresh_back st.sub hp)) ds vs r⟩
theorem repL_nil {ds : List D} {vs : List V} (r : RepL K c W ds vs) : vs.isEmpty = ds.isEmpty := by
  cases ds with
  | nil => cases r; rfl
  | cons d ds => obtain ⟨v, r', rfl, _⟩ := r; rfl
/-- a list's or a tuple's content -/
theorem RepB.lst {ds : List D} {v : V} (st : StOk K c W H S) (r : RepB K c W H (.lst ds) v) : ∃ a vs, v = .ref a ∧ H a = some (.lst vs) ∧ RepL K c W ds vs := by
  rcases r with ⟨a, vs, h1, h2, h3⟩ | ⟨a, h1, _, vs, h2, h3⟩
  · exact ⟨a, vs, h1, st.sub _ _ h2, h3⟩
  · exact ⟨a, vs, h1, h2, h3⟩
theorem RepB.tup {ds : List D} {v : V} (st : StOk K c W H S) (r : RepB K c W H (.tup ds) v) : ∃ a vs, v = .ref a ∧ H a = some (.tup vs) ∧ W.H0 a = some (.tup vs) ∧ RepL K c W ds vs := by
  rcases r with ⟨a, vs, h1, h2, h3⟩ | ⟨a, h1, _, h2⟩
  · exact ⟨a, vs, h1, st.sub _ _ h2, h2, h3⟩
  · cases h2
theorem RepB.tpx {ds : List D} {v : V} (st : StOk K c W H S) (r : RepB K c W H (.tpx ds) v) : ∃ a vs, v = .ref a ∧ SqT K H a vs ∧ RepL K c W ds vs := by
  rcases r with ⟨a, vs, o, h1, h2, h3, h4⟩ | ⟨a, h1, _, h2⟩
  · exact ⟨a, vs, h1, .inl (.inr ⟨o, st.sub _ _ h2⟩), h4⟩
  · cases h2
theorem RepB.tpo {ds : List D} {v : V} (st : StOk K c W H S) (r : RepB K c W H (.tpx ds) v) : ∃ a vs o, v = .ref a ∧ H a = some (.frz o (.tup vs)) ∧ o.dict = none ∧ RepL K c W ds vs := by
  rcases r with ⟨a, vs, o, h1, h2, h3, h4⟩ | ⟨a, h1, _, h2⟩
  · exact ⟨a, vs, o, h1, st.sub _ _ h2, h3, h4⟩
  · cases h2
theorem RepB.int {i : Int} {v : V} (r : RepB K c W H (.int i) v) : v = .int i := by
  rcases r with h | ⟨a, h1, _, h2⟩
  · exact h
  · cases h2
theorem RepB.bl {i : Bool} {v : V} (r : RepB K c W H (.bl i) v) : v = .bl i := by
  rcases r with h | ⟨a, h1, _, h2⟩
  · exact h
  · cases h2
theorem RepB.str {i : Str} {v : V} (r : RepB K c W H (.str i) v) : v = .str i ∧ SOk i := by
  rcases r with h | ⟨a, h1, _, h2⟩
  · exact h
  · cases h2
theorem RepB.non {v : V} (r : RepB K c W H .non v) : v = .non := by
  rcases r with h | ⟨a, h1, _, h2⟩
  · exact h
  · cases h2
/-- truth -/
theorem tru_of {d : D} {v : V} {b : Bool} (st : StOk K c W H S) (r : RepB K c W H d v) (h : truth d = some b) : TruV K v H b := by
  cases d with
  | non => rw [r.non]; cases h; rfl
  | bl k => rw [r.bl]; cases h; rfl
  | int i => rw [r.int]; cases h; rfl
  | str s =>
    obtain ⟨rfl, hs, _⟩ := r.str
    cases h
    exact ⟨line_le hs, rfl⟩
  | tpx ds =>
    obtain ⟨a, vs, rfl, h1, h2⟩ := r.tpx st
    cases h
    exact Or.inr (Or.inl ⟨vs, h1, by rw [repL_nil h2]⟩)
  | tup ds =>
    obtain ⟨a, vs, rfl, h1, _, h2⟩ := r.tup st
    cases h
    exact Or.inr (Or.inl ⟨vs, SqT.of h1, by rw [repL_nil h2]⟩)
  | lst ds =>
    obtain ⟨a, vs, rfl, h1, h2⟩ := r.lst st
    cases h
    exact Or.inl ⟨vs, SqL.of h1, by rw [repL_nil h2]⟩
  | dic es => cases h
  | dit es => cases h
  | fn n => cases h
  | st => cases h
  | scr ns => cases h
end
section
variable {X : Cx} {c : Cn} {E : XK} {a b e : Expr} {es rest : List Expr} {fa fb : FE} {ga : FA} {ta tb : FB} {pos : Pos}
theorem me_tup {x1} (h : PA X es (tA X.K c E ga)) : PE X (.Tuple es x1 pos) (tM X.K c E (tupE ga)) :=
  pe_imp (pe_tup h) fun σ H Q h => by
    obtain ⟨W, ρ, S, st, en, q⟩ := tM_un h
    refine then_A (O := OutM X.K c W H E Q) st en (fun _ _ _ z => z) (fun z => z) q fun ds S1 W1 H1 vs st1 k1 r1 q1 => ?_
    split at q1
    · refine ⟨line_le (by rw [RepL.length r1]; assumption), fun p hp => ?_⟩
      exact q1 _ _ _ (lay_st st1 hp) (k1.tr st1 (lay_keep st1 hp)) (new_tup st1 hp r1)
    · exact q1.elim
theorem me_lst (h : PA X es (tA X.K c E ga)) : PE X (.List es pos) (tO X.K c E (lstE ga)) :=
  pe_imp (pe_lst h) fun σ H Q h => by
    obtain ⟨W, ρ, S, st, en, q⟩ := tO_un h
    refine then_A (O := OutO X.K c W H E Q) st en (fun _ _ _ z => z) (fun z => z) q fun ds S1 W1 H1 vs st1 k1 r1 q1 => ?_
    split at q1
    · refine ⟨line_le (by rw [RepL.length r1]; assumption), fun p hp => ?_⟩
      exact q1 _ _ _ (new_st st1 hp) (k1.tr st1 (new_keep st1 hp)) (RepO.pre (H0 := H1) k1 (fun b e => st1.ds.at (k1.wex.2 b e)) (new_own st1 hp r1))
    · exact q1.elim
/-! tests -/
theorem mt_tru (ha : PE X e (tB X.K c E fa)) (he : ∀ whole, isTrue e X.env whole = (do let v ← whole; standAt e.pos; holding [v] (truthy v)) := by intro _; rfl) : PT X e (tT X.K c E (truB fa)) :=
  pt_imp (pt_truth ha he) fun σ H Q h => by
    obtain ⟨W, ρ, S, st, en, q⟩ := tT_un h
    refine then_B (O := OutT X.K c W H E Q) st en (fun _ _ _ z => z) (fun z => z) q fun d S1 W1 H1 v st1 k1 r1 q1 => ?_
    obtain ⟨k, e', q3⟩ := lift_ok (β := Bool) (O := OutT X.K c W H E Q) (fun z => z) q1
    exact ⟨k, tru_of st1 r1 e', q3 W1 H1 st1 k1⟩
theorem mt_not (ha : PT X e (tT X.K c E ta)) : PT X (.UnaryOp .Not e pos) (tT X.K c E (notB ta)) :=
  pt_imp (pt_not ha) fun σ H Q h => by
    obtain ⟨W, ρ, S, st, en, q⟩ := tT_un h
    exact then_T (O := OutT X.K c W H E Q) st en (fun _ _ _ z => z) (fun z => z) q fun d S1 W1 H1 st1 k1 q1 => q1 W1 H1 st1 k1
theorem mw_and1 (ha : PT X e (tT X.K c E ta)) : PW X (.BoolOp .And [e] pos) (tT X.K c E ta) := pw_and1 ha
theorem mw_or1 (ha : PT X e (tT X.K c E ta)) : PW X (.BoolOp .Or [e] pos) (tT X.K c E ta) := pw_or1 ha
theorem pw_imp {e : Expr} {t t' : TT} (h : PW X e t) (i : ∀ σ H Q, t' σ H Q → t σ H Q) : PW X e t' := ⟨fun wh pins s σ H Q I q => h.run wh pins s σ H Q I (i σ H Q q)⟩
theorem mw_and (ha : PT X a (tT X.K c E ta)) (hb : PW X (.BoolOp .And (b :: rest) pos) (tT X.K c E tb)) : PW X (.BoolOp .And (a :: b :: rest) pos) (tT X.K c E (andB ta tb)) :=
  pw_imp (pw_and ha hb) fun σ H Q h => by
    obtain ⟨W, ρ, S, st, en, q⟩ := tT_un h
    refine then_T (O := OutT X.K c W H E Q) st en (fun _ _ _ z => z) (fun z => z) q fun d S1 W1 H1 st1 k1 q1 => ?_
    cases d with
    | true => exact tT_mk st1 (en.ext k1) (OutT.pre q1 k1 st1)
    | false => exact q1 W1 H1 st1 k1
theorem mw_or (ha : PT X a (tT X.K c E ta)) (hb : PW X (.BoolOp .Or (b :: rest) pos) (tT X.K c E tb)) : PW X (.BoolOp .Or (a :: b :: rest) pos) (tT X.K c E (orB ta tb)) :=
  pw_imp (pw_or ha hb) fun σ H Q h => by
    obtain ⟨W, ρ, S, st, en, q⟩ := tT_un h
    refine then_T (O := OutT X.K c W H E Q) st en (fun _ _ _ z => z) (fun z => z) q fun d S1 W1 H1 st1 k1 q1 => ?_
    cases d with
    | false => exact tT_mk st1 (en.ext k1) (OutT.pre q1 k1 st1)
    | true => exact q1 W1 H1 st1 k1
theorem me_ite {t : Expr} (ht : PT X t (tT X.K c E ta)) (ha : PE X a (tM X.K c E fa)) (hb : PE X b (tM X.K c E fb)) : PE X (.IfExp t a b pos) (tM X.K c E (iteE ta fa fb)) :=
  pe_imp (pe_ifExp ht ha hb) fun σ H Q h => by
    obtain ⟨W, ρ, S, st, en, q⟩ := tM_un h
    refine then_T (O := OutM X.K c W H E Q) st en (fun _ _ _ z => z) (fun z => z) q fun d S1 W1 H1 st1 k1 q1 => ?_
    cases d with
    | true => exact tM_mk st1 (en.ext k1) (OutM.pre (Q' := Q) q1 k1 st1)
    | false => exact tM_mk st1 (en.ext k1) (OutM.pre (Q' := Q) q1 k1 st1)
theorem me_iteO {t : Expr} (ht : PT X t (tT X.K c E ta)) (ha : PE X a (tO X.K c E fa)) (hb : PE X b (tO X.K c E fb)) : PE X (.IfExp t a b pos) (tO X.K c E (iteE ta fa fb)) :=
  pe_imp (pe_ifExp ht ha hb) fun σ H Q h => by
    obtain ⟨W, ρ, S, st, en, q⟩ := tO_un h
    refine then_T (O := OutO X.K c W H E Q) st en (fun _ _ _ z => z) (fun z => z) q fun d S1 W1 H1 st1 k1 q1 => ?_
    cases d with
    | true => exact tO_mk st1 (en.ext k1) (OutO.pre q1 k1 st1)
    | false => exact tO_mk st1 (en.ext k1) (OutO.pre q1 k1 st1)
/-! and, or, not as values (of bools) -/
def blE (t : FB) : FE := fun ρ => bd (t ρ) fun k => rt (.bl k)
theorem me_one {op : BoolOp} {f : FE} (h : PE X a (tM X.K c E f)) : PE X (.BoolOp op [a] pos) (tM X.K c E f) := pe_one h
def andE (a b : FE) : FE := fun ρ => bd (a ρ) fun x => match x with
  | .bl true => b ρ
  | .bl false => rt (.bl false)
  | _ => no
def orE (a b : FE) : FE := fun ρ => bd (a ρ) fun x => match x with
  | .bl true => rt (.bl true)
  | .bl false => b ρ
  | _ => no
def notE (a : FE) : FE := fun ρ => bd (a ρ) fun x => lift ((truth x).map fun k => .bl (!k))
theorem me_and (ha : PE X a (tM X.K c E fa)) (hb : PE X (.BoolOp .And (b :: rest) pos) (tM X.K c E fb)) : PE X (.BoolOp .And (a :: b :: rest) pos) (tM X.K c E (andE fa fb)) :=
  pe_imp (pe_and ha hb) fun σ H Q h => by
    obtain ⟨W, ρ, S, st, en, q⟩ := tM_un h
    refine then_M (O := OutM X.K c W H E Q) st en (fun _ _ _ z => z) (fun z => z) q fun d S1 W1 H1 v st1 k1 r1 q1 => ?_
    cases d <;> first | exact (show False from q1).elim | skip
    rename_i k
    cases r1
    refine ⟨k, rfl, ?_⟩
    cases k with
    | true => exact tM_mk st1 (en.ext k1) (OutM.pre (Q' := Q) q1 k1 st1)
    | false => exact q1 W1 H1 _ st1 k1 rfl
theorem me_or (ha : PE X a (tM X.K c E fa)) (hb : PE X (.BoolOp .Or (b :: rest) pos) (tM X.K c E fb)) : PE X (.BoolOp .Or (a :: b :: rest) pos) (tM X.K c E (orE fa fb)) :=
  pe_imp (pe_or ha hb) fun σ H Q h => by
    obtain ⟨W, ρ, S, st, en, q⟩ := tM_un h
    refine then_M (O := OutM X.K c W H E Q) st en (fun _ _ _ z => z) (fun z => z) q fun d S1 W1 H1 v st1 k1 r1 q1 => ?_
    cases d <;> first | exact (show False from q1).elim | skip
    rename_i k
    cases r1
    refine ⟨k, rfl, ?_⟩
    cases k with
    | false => exact tM_mk st1 (en.ext k1) (OutM.pre (Q' := Q) q1 k1 st1)
    | true => exact q1 W1 H1 _ st1 k1 rfl
theorem me_not (ha : PE X e (tB X.K c E fa)) : PE X (.UnaryOp .Not e pos) (tM X.K c E (notE fa)) :=
  pe_imp (pe_notT ha) fun σ H Q h => by
    obtain ⟨W, ρ, S, st, en, q⟩ := tM_un h
    refine then_B (O := OutM X.K c W H E Q) st en (fun _ _ _ z => z) (fun z => z) q fun d S1 W1 H1 v st1 k1 r1 q1 => ?_
    obtain ⟨x, e', q3⟩ := lift_ok (β := D) (O := OutM X.K c W H E Q) (fun z => z) q1
    cases ht : truth d with
    | none => rw [ht] at e'; cases e'
    | some k =>
      rw [ht] at e'
      cases e'
      exact ⟨k, tru_of st1 r1 ht, q3 W1 H1 _ st1 k1 rfl⟩
end
end Mini
namespace Mini
open PySem PySem.Spec PyProof.Rows L2 Evl

/-! ### data for == -/
mutual
def D.pure : D → Bool
  | .non => true
  | .bl _ => true
  | .int _ => true
  | .str _ => true
  | .tup ds => pureL ds
  | .tpx ds => pureL ds
  | .lst ds => pureL ds
  | .dic _ => false
  | .dit _ => false
  | .fn _ => false
  | .st => false
  | .scr _ => false
def pureL : List D → Bool
  | [] => true
  | d :: ds => d.pure && pureL ds
end
mutual
def D.py : D → PyData
  | .non => .none
  | .bl b => .bool b
  | .int i => .int i
  | .str s => .str s
  | .tup ds => .tuple (pyL ds)
  | .tpx ds => .tuple (pyL ds)
  | .lst ds => .list (pyL ds)
  | .dic _ => .none
  | .dit _ => .none
  | .fn _ => .none
  | .st => .none
  | .scr _ => .none
def pyL : List D → List PyData
  | [] => []
  | d :: ds => d.py :: pyL ds
end
section
variable {K : PySem.W.Frag} {c : Cn} {W W' : Wd} {H H' : Hp} {S : DS}
mutual
theorem rep_dp (e : Ex W.H0 H) : ∀ (d : D) (v : V), Rep K c W d v → d.pure = true → Dp K H v d.py ∧ d.py.canLay0 = true
  | .non, v, h, _ => by
    cases h
    exact ⟨by simp only [D.py]; exact .non, by simp only [D.py, PyData.canLay0]⟩
  | .bl b, v, h, _ => by
    cases h
    exact ⟨by simp only [D.py]; exact .bl b, by simp only [D.py, PyData.canLay0]⟩
  | .int i, v, h, _ => by
    cases h
    exact ⟨by simp only [D.py]; exact .int i, by simp only [D.py, PyData.canLay0]⟩
  | .str s, v, h, _ => by
    obtain ⟨rfl, h1, h2⟩ := h
    exact ⟨by simp only [D.py]; exact .str s, by simp only [D.py, PyData.canLay0]; exact h2⟩
  | .tup ds, v, h, p => by
    obtain ⟨a, vs, rfl, h1, h2⟩ := h
    obtain ⟨q1, q2⟩ := repL_dp e ds vs h2 (by simpa only [D.pure] using p)
    exact ⟨by simp only [D.py]; exact .tup (SqT.of (e _ _ h1)) q1, by simp only [D.py, PyData.canLay0]; exact q2⟩
  | .tpx ds, v, h, p => by
    obtain ⟨a, vs, o, rfl, h1, _, h2⟩ := h
    obtain ⟨q1, q2⟩ := repL_dp e ds vs h2 (by simpa only [D.pure] using p)
    exact ⟨by simp only [D.py]; exact .tup (.inl (.inr ⟨o, e _ _ h1⟩)) q1, by simp only [D.py, PyData.canLay0]; exact q2⟩
  | .lst ds, v, h, p => by
    obtain ⟨a, vs, rfl, h1, h2⟩ := h
    obtain ⟨q1, q2⟩ := repL_dp e ds vs h2 (by simpa only [D.pure] using p)
    exact ⟨by simp only [D.py]; exact .lst (SqL.of (e _ _ h1)) q1, by simp only [D.py, PyData.canLay0]; exact q2⟩
  | .dic es, v, h, p => by simp [D.pure] at p
  | .dit es, v, h, p => by simp [D.pure] at p
  | .fn n, v, h, p => by simp [D.pure] at p
  | .st, v, h, p => by simp [D.pure] at p
  | .scr ns, v, h, p => by simp [D.pure] at p
theorem repL_dp (e : Ex W.H0 H) : ∀ (ds : List D) (vs : List V), RepL K c W ds vs → pureL ds = true → DpAll K H vs (pyL ds) ∧ PyData.canLayAll0 (pyL ds) = true
  | [], vs, h, _ => by
    cases h
    exact ⟨by simp only [pyL]; exact .nil, by simp only [pyL, PyData.canLayAll0]⟩
  | d :: ds, vs, h, p => by
    obtain ⟨v, r, rfl, h1, h2⟩ := h
    simp only [pureL, Bool.and_eq_true] at p
    obtain ⟨q1, q2⟩ := rep_dp e d v h1 p.1
    obtain ⟨q3, q4⟩ := repL_dp e ds r h2 p.2
    exact ⟨by simp only [pyL]; exact .cons q1 q3, by simp only [pyL, PyData.canLayAll0, q2, q4, Bool.and_self]⟩
end
theorem repB_dp (st : StOk K c W H S) {d : D} {v : V} (r : RepB K c W H d v) (p : d.pure = true) : Dp K H v d.py ∧ d.py.canLay0 = true := by
  rcases r with r | ⟨a, rfl, _, h⟩
  · exact rep_dp st.sub d v r p
  · cases d with
    | lst ds =>
      obtain ⟨vs, h1, h2⟩ := h
      obtain ⟨q1, q2⟩ := repL_dp st.sub ds vs h2 (by simpa only [D.pure] using p)
      exact ⟨by simp only [D.py]; exact .lst (SqL.of h1) q1, by simp only [D.py, PyData.canLay0]; exact q2⟩
    | dic es => simp [D.pure] at p
    | dit es => simp [D.pure] at p
    | _ => cases h
end
/-- may be compared: data, not too deep -/
def okEq (d : D) : Bool := d.pure && decide (d.py.depth ≤ 64)
theorem okEq_shaped {K : PySem.W.Frag} {c : Cn} {W : Wd} {H : Hp} {S : DS} (st : StOk K c W H S) {d : D} {v : V} (r : RepB K c W H d v) (h : okEq d = true) : Dp K H v d.py ∧ SeqAt.shaped d.py = true := by
  unfold okEq at h
  rw [Bool.and_eq_true] at h
  obtain ⟨q1, q2⟩ := repB_dp st r h.1
  refine ⟨q1, ?_⟩
  show (d.py.canLay0 && decide (d.py.depth ≤ 64)) = true
  rw [q2, h.2]
  rfl
def dEqv (x y : D) : Bool := PyData.eqv x.py y.py
def dEq (x y : D) : Option D := if okEq x && okEq y then some (.bl (dEqv x y)) else none
def dNe (x y : D) : Option D := if okEq x && okEq y then some (.bl (!dEqv x y)) else none
def intsOf : List D → Option (List Int)
  | [] => some []
  | .int i :: ds => (intsOf ds).map (i :: ·)
  | _ :: _ => none
def blsOf : List D → Option (List Bool)
  | [] => some []
  | .bl i :: ds => (blsOf ds).map (i :: ·)
  | _ :: _ => none
def strsOf : List D → Option (List Str)
  | [] => some []
  | .str i :: ds => (strsOf ds).map (i :: ·)
  | _ :: _ => none
def dAdd : D → D → Option D
  | .int i, .int j => some (.int (i + j))
  | .str a, .str b => if a.length + b.length ≤ 16777216 then some (.str (a ++ b)) else none
  | .tup a, .tup b => if a.length + b.length ≤ 16777216 then some (.tup (a ++ b)) else none
  | .lst a, .lst b => if a.length + b.length ≤ 16777216 then some (.lst (a ++ b)) else none
  | _, _ => none
def dSub : D → D → Option D
  | .int i, .int j => some (.int (i - j))
  | _, _ => none
def dMul : D → D → Option D
  | .int i, .int j => if i.natAbs.log2 + j.natAbs.log2 < 1000000 then some (.int (i * j)) else none
  | _, _ => none
def dDiv : D → D → Option D
  | .int i, .int j => if 0 < j ∧ j.natAbs.log2 < 9000 then some (.int (i / j)) else none
  | _, _ => none
def dMod : D → D → Option D
  | .int i, .int j => if 0 < j then some (.int (i % j)) else none
  | _, _ => none
def dPow : D → D → Option D
  | .int i, .int j => if 0 ≤ j ∧ j ≤ 1000000 ∧ i.natAbs < 2 ^ 64 then some (.int (i ^ j.toNat)) else none
  | _, _ => none
def dLt : D → D → Option D
  | .int i, .int j => some (.bl (decide (i < j)))
  | _, _ => none
def dLe : D → D → Option D
  | .int i, .int j => some (.bl (decide (i ≤ j)))
  | _, _ => none
def dGt : D → D → Option D
  | .int i, .int j => some (.bl (decide (j < i)))
  | _, _ => none
def dGe : D → D → Option D
  | .int i, .int j => some (.bl (decide (j ≤ i)))
  | _, _ => none
def isNon : D → Bool
  | .non => true
  | _ => false
def dIs : D → D → Option D
  | x, .non => some (.bl (isNon x))
  | _, _ => none
def dIsNot : D → D → Option D
  | x, .non => some (.bl (!isNon x))
  | _, _ => none
/-- x[i] of a list, a tuple, a text -/
def dIx : D → D → Option D
  | .lst ds, .int i => atI ds i
  | .tup ds, .int i => atI ds i
  | .tpx ds, .int i => atI ds i
  | .str s, .int i => (atI s.cps.toList i).map fun c => .str ⟨#[c]⟩
  | _, _ => none
section
variable {K : PySem.W.Frag} {c : Cn} {W W' : Wd} {H H' : Hp} {S : DS}
theorem ints_rep : ∀ {ds : List D} {ns : List Int} {vs : List V}, intsOf ds = some ns → RepL K c W ds vs → vs = ns.map V.int
  | [], ns, vs, h, r => by cases h; cases r; rfl
  | d :: ds, ns, vs, h, r => by
    obtain ⟨v, r', rfl, h1, h2⟩ := r
    cases d <;> first | (simp [intsOf] at h; done) | skip
    simp only [intsOf, Option.map_eq_some_iff] at h
    obtain ⟨ms, e1, rfl⟩ := h
    cases h1
    rw [List.map_cons, ints_rep e1 h2]
theorem bls_rep : ∀ {ds : List D} {ns : List Bool} {vs : List V}, blsOf ds = some ns → RepL K c W ds vs → vs = ns.map V.bl
  | [], ns, vs, h, r => by cases h; cases r; rfl
  | d :: ds, ns, vs, h, r => by
    obtain ⟨v, r', rfl, h1, h2⟩ := r
    cases d <;> first | (simp [blsOf] at h; done) | skip
    simp only [blsOf, Option.map_eq_some_iff] at h
    obtain ⟨ms, e1, rfl⟩ := h
    cases h1
    rw [List.map_cons, bls_rep e1 h2]
theorem strs_rep : ∀ {ds : List D} {ns : List Str} {vs : List V}, strsOf ds = some ns → RepL K c W ds vs → vs = ns.map V.str ∧ ∀ s ∈ ns, SOk s
  | [], ns, vs, h, r => by cases h; cases r; exact ⟨rfl, fun _ z => nomatch z⟩
  | d :: ds, ns, vs, h, r => by
    obtain ⟨v, r', rfl, h1, h2⟩ := r
    cases d <;> first | (simp [strsOf] at h; done) | skip
    simp only [strsOf, Option.map_eq_some_iff] at h
    obtain ⟨ms, e1, rfl⟩ := h
    obtain ⟨rfl, hs⟩ := h1
    obtain ⟨q1, q2⟩ := strs_rep e1 h2
    refine ⟨by rw [List.map_cons, q1], fun s hm => ?_⟩
    rcases List.mem_cons.mp hm with rfl | hm
    · exact hs
    · exact q2 s hm
theorem repL_get : ∀ {ds : List D} {vs : List V} {j : Nat} {d : D}, RepL K c W ds vs → ds[j]? = some d → ∃ v, vs[j]? = some v ∧ Rep K c W d v
  | [], _, _, _, _, h => by simp at h
  | d :: ds, vs, j, d', r, h => by
    obtain ⟨v, r', rfl, h1, h2⟩ := r
    cases j with
    | zero =>
      simp only [List.getElem?_cons_zero, Option.some.injEq] at h
      subst h
      exact ⟨v, rfl, h1⟩
    | succ j =>
      rw [List.getElem?_cons_succ] at h ⊢
      exact repL_get h2 h
theorem repL_at {ds : List D} {vs : List V} {i : Int} {d : D} (r : RepL K c W ds vs) (h : atI ds i = some d) : ∃ v, atI vs i = some v ∧ Rep K c W d v := by
  unfold atI at h ⊢
  rw [RepL.length r]
  cases e : ixN ds.length i with
  | none => rw [e] at h; cases h
  | some j =>
    rw [e] at h
    exact repL_get r h
theorem repL_append : ∀ {ds es : List D} {vs us : List V}, RepL K c W ds vs → RepL K c W es us → RepL K c W (ds ++ es) (vs ++ us)
  | [], _, vs, _, r, r2 => by cases r; exact r2
  | d :: ds, es, vs, us, r, r2 => by
    obtain ⟨v, r', rfl, h1, h2⟩ := r
    exact ⟨v, _, rfl, h1, repL_append h2 r2⟩
theorem repL_take : ∀ {ds : List D} {vs : List V} (n : Nat), RepL K c W ds vs → RepL K c W (ds.take n) (vs.take n)
  | [], vs, n, r => by cases r; simp only [List.take_nil]; rfl
  | d :: ds, vs, n, r => by
    obtain ⟨v, r', rfl, h1, h2⟩ := r
    cases n with
    | zero => exact (rfl : RepL K c W [] [])
    | succ n => exact ⟨v, _, rfl, h1, repL_take n h2⟩
theorem repL_drop : ∀ {ds : List D} {vs : List V} (n : Nat), RepL K c W ds vs → RepL K c W (ds.drop n) (vs.drop n)
  | [], vs, n, r => by cases r; simp only [List.drop_nil]; rfl
  | d :: ds, vs, n, r => by
    obtain ⟨v, r', rfl, h1, h2⟩ := r
    cases n with
    | zero => exact ⟨v, _, rfl, h1, h2⟩
    | succ n => exact repL_drop n h2
end
/-! ### the operators' rules -/
section
variable {X : Cx} {c : Cn} {r r' : R2} {f : D → D → Option D}
theorem OpM.or1 (h : OpM X.K c r f) : OpM X.K c (fun x y H Q => r x y H Q ∨ r' x y H Q) f := fun Q st a b e k => .inl (h Q st a b e k)
theorem opm_int2 {C : Int → Int → Prop} {g : Int → Int → V} (h : ∀ {d e d' : D}, f d e = some d' → ∃ i j, d = .int i ∧ e = .int j ∧ C i j ∧ ∀ W, Rep X.K c W d' (g i j)) : OpM X.K c (rI C g) f := fun {W H S d e d' v u} Q st a b q k => by
  obtain ⟨i, j, rfl, rfl, hc, hr⟩ := h q
  exact ⟨i, j, a.int, b.int, hc, k W H _ st (Keep.refl W H) (hr W)⟩
theorem opm_int0 {g : Int → Int → V} (h : ∀ {d e d' : D}, f d e = some d' → ∃ i j, d = .int i ∧ e = .int j ∧ ∀ W, Rep X.K c W d' (g i j)) : OpM X.K c (rI0 g) f := fun {W H S d e d' v u} Q st a b q k => by
  obtain ⟨i, j, rfl, rfl, hr⟩ := h q
  exact ⟨i, j, a.int, b.int, k W H _ st (Keep.refl W H) (hr W)⟩
theorem m_sub : OpM X.K c (rI0 fun i j => .int (i - j)) dSub := opm_int0 fun {d e d'} h => by
  cases d <;> cases e <;> first | (cases h; done) | skip
  cases h
  exact ⟨_, _, rfl, rfl, fun _ => rfl⟩
theorem m_mul : OpM X.K c (rI CMulW fun i j => .int (i * j)) dMul := opm_int2 fun {d e d'} h => by
  cases d <;> cases e <;> first | (cases h; done) | skip
  simp only [dMul] at h
  split at h
  · cases h
    exact ⟨_, _, rfl, rfl, by assumption, fun _ => rfl⟩
  · cases h
theorem m_div : OpM X.K c (rI CDivW fun i j => .int (i / j)) dDiv := opm_int2 fun {d e d'} h => by
  cases d <;> cases e <;> first | (cases h; done) | skip
  simp only [dDiv] at h
  split at h
  · cases h
    exact ⟨_, _, rfl, rfl, by assumption, fun _ => rfl⟩
  · cases h
theorem m_mod : OpM X.K c (rI (fun _ j => 0 < j) fun i j => .int (i % j)) dMod := opm_int2 fun {d e d'} h => by
  cases d <;> cases e <;> first | (cases h; done) | skip
  simp only [dMod] at h
  split at h
  · cases h
    exact ⟨_, _, rfl, rfl, by assumption, fun _ => rfl⟩
  · cases h
theorem m_pow : OpM X.K c (rI CPow fun i j => .int (i ^ j.toNat)) dPow := opm_int2 fun {d e d'} h => by
  cases d <;> cases e <;> first | (cases h; done) | skip
  simp only [dPow] at h
  split at h
  · cases h
    exact ⟨_, _, rfl, rfl, by assumption, fun _ => rfl⟩
  · cases h
theorem m_lt : OpM X.K c (rI0 fun i j => .bl (decide (i < j))) dLt := opm_int0 fun {d e d'} h => by
  cases d <;> cases e <;> first | (cases h; done) | skip
  cases h
  exact ⟨_, _, rfl, rfl, fun _ => rfl⟩
theorem m_le : OpM X.K c (rI0 fun i j => .bl (decide (i ≤ j))) dLe := opm_int0 fun {d e d'} h => by
  cases d <;> cases e <;> first | (cases h; done) | skip
  cases h
  exact ⟨_, _, rfl, rfl, fun _ => rfl⟩
theorem m_gt : OpM X.K c (rI0 fun i j => .bl (decide (j < i))) dGt := opm_int0 fun {d e d'} h => by
  cases d <;> cases e <;> first | (cases h; done) | skip
  cases h
  exact ⟨_, _, rfl, rfl, fun _ => rfl⟩
theorem m_ge : OpM X.K c (rI0 fun i j => .bl (decide (j ≤ i))) dGe := opm_int0 fun {d e d'} h => by
  cases d <;> cases e <;> first | (cases h; done) | skip
  cases h
  exact ⟨_, _, rfl, rfl, fun _ => rfl⟩
theorem m_eq : OpM X.K c (rEqD X.K) dEq := fun {W H S d e d' v u} Q st a b q k => by
  unfold dEq at q
  split at q
  · rename_i ho
    rw [Bool.and_eq_true] at ho
    cases q
    obtain ⟨q1, q2⟩ := okEq_shaped st a ho.1
    obtain ⟨q3, q4⟩ := okEq_shaped st b ho.2
    exact ⟨_, _, q1, q3, q2, q4, k W H _ st (Keep.refl W H) rfl⟩
  · cases q
theorem m_ne : OpM X.K c (rNeD X.K) dNe := fun {W H S d e d' v u} Q st a b q k => by
  unfold dNe at q
  split at q
  · rename_i ho
    rw [Bool.and_eq_true] at ho
    cases q
    obtain ⟨q1, q2⟩ := okEq_shaped st a ho.1
    obtain ⟨q3, q4⟩ := okEq_shaped st b ho.2
    exact ⟨_, _, q1, q3, q2, q4, k W H _ st (Keep.refl W H) rfl⟩
  · cases q
theorem repB_non {K : PySem.W.Frag} {W : Wd} {H : Hp} {d : D} {v : V} (r : RepB K c W H d v) : decide (v = .non) = isNon d := by
  rcases r with r | ⟨a, rfl, _, h⟩
  · cases d with
    | non => cases r; rfl
    | bl b => cases r; rfl
    | int i => cases r; rfl
    | str s => obtain ⟨rfl, _⟩ := r; rfl
    | tup ds => obtain ⟨_, _, rfl, _⟩ := r; rfl
    | tpx ds => obtain ⟨_, _, _, rfl, _⟩ := r; rfl
    | lst ds => obtain ⟨_, _, rfl, _⟩ := r; rfl
    | dic ds => obtain ⟨_, _, rfl, _⟩ := r; rfl
    | dit ds => obtain ⟨_, _, rfl, _⟩ := r; rfl
    | fn n => obtain ⟨_, rfl, _⟩ := r; rfl
    | st => obtain ⟨_, rfl, _⟩ := r; rfl
    | scr ns => obtain ⟨_, rfl, _⟩ := r; rfl
  · cases d with
    | lst ds => rfl
    | dic ds => rfl
    | dit ds => rfl
    | _ => cases h
theorem m_is : OpM X.K c (fun x y H Q => y = .non ∧ Q (.bl (decide (x = .non))) H) dIs := fun {W H S d e d' v u} Q st a b q k => by
  cases e <;> first | (cases q; done) | skip
  cases q
  exact ⟨b.non, k W H _ st (Keep.refl W H) (by rw [repB_non a]; rfl)⟩
theorem m_isnot : OpM X.K c (fun x y H Q => y = .non ∧ Q (.bl (!decide (x = .non))) H) dIsNot := fun {W H S d e d' v u} Q st a b q k => by
  cases e <;> first | (cases q; done) | skip
  cases q
  exact ⟨b.non, k W H _ st (Keep.refl W H) (by rw [repB_non a]; rfl)⟩
theorem sok_add {a b : Str} (ha : SOk a) (hb : SOk b) (h : a.length + b.length ≤ 16777216) : SOk (a ++ b) := by
  have e : (a ++ b).cps = a.cps ++ b.cps := rfl
  refine ⟨?_, ?_⟩
  · show (a ++ b).cps.size ≤ _
    rw [e, Array.size_append]
    exact h
  · show (a ++ b).cps.all _ = true
    have h1 : a.cps.all (· < 0x110000) = true := ha.2
    have h2 : b.cps.all (· < 0x110000) = true := hb.2
    rw [e, Array.all_append, h1, h2]
    rfl
/-- a + b -/
def rAddAll (K : PySem.W.Frag) : R2 := fun x y H Q => (rI0 (fun i j => .int (i + j))) x y H Q ∨ ((fun x y H Q => ∃ i j, x = .str i ∧ y = .str j ∧ i.length + j.length ≤ sizeLine ∧ Q (.str (i ++ j)) H) x y H Q ∨ (rCatA K x y H Q ∨ rCat x y H Q))
theorem op_addAll : OpR X (binaryOp .Add) (rAddAll X.K) := op_add.or (op_add_str.or (op_catA.or op_cat))
theorem repL_isNil {K : PySem.W.Frag} {W : Wd} {ds : List D} {vs : List V} (r : RepL K c W ds vs) : vs = [] ↔ ds = [] := by
  have h := RepL.length r
  constructor
  · intro e
    subst e
    exact List.eq_nil_of_length_eq_zero h.symm
  · intro e
    subst e
    exact List.eq_nil_of_length_eq_zero h
theorem cat_own {K : PySem.W.Frag} {W : Wd} {H : Hp} {S : DS} {a b : List D} {v u : V} {Q : VK} (st : StOk K c W H S) (ra : RepB K c W H (.lst a) v) (rb : RepB K c W H (.lst b) u) (hl : a.length + b.length ≤ 16777216)
    (k : ∀ p vs, H p = none → RepL K c W (a ++ b) vs → Q (.ref p) (upd H p (.lst vs))) : rCat v u H Q := by
  obtain ⟨p, vs, rfl, h1, r1⟩ := ra.lst st
  obtain ⟨q, us, rfl, h2, r2⟩ := rb.lst st
  exact ⟨p, q, vs, us, rfl, rfl, h1, h2, line_le (by rw [RepL.length r1, RepL.length r2]; exact hl), fun l hl' => k l _ hl' (repL_append r1 r2)⟩
theorem new_lst {K : PySem.W.Frag} {W : Wd} {H : Hp} {S : DS} {p : Addr} {ds : List D} {vs : List V} (st : StOk K c W H S) (hp : H p = none) (r : RepL K c W ds vs) : Rep K c (W.frz p (.lst vs)) (.lst ds) (.ref p) :=
  ⟨p, vs, rfl, upd_same, RepL.ext (frz_ex (fresh_back st.sub hp)) ds vs r⟩
theorem m_add : OpM X.K c (rAddAll X.K) dAdd := fun {W H S d e d' v u} Q st a b q k => by
  cases d <;> cases e <;> first | (cases q; done) | skip
  · cases q
    exact .inl ⟨_, _, a.int, b.int, k W H _ st (Keep.refl W H) rfl⟩
  · simp only [dAdd] at q
    split at q
    · rename_i hl
      cases q
      obtain ⟨rfl, h1⟩ := a.str
      obtain ⟨rfl, h2⟩ := b.str
      exact .inr (.inl ⟨_, _, rfl, rfl, line_le hl, k W H _ st (Keep.refl W H) ⟨rfl, sok_add h1 h2 hl⟩⟩)
    · cases q
  · simp only [dAdd] at q
    split at q
    · rename_i xs ys hl
      cases q
      obtain ⟨p, vs, rfl, h1, h1', r1⟩ := a.tup st
      obtain ⟨p2, us, rfl, h2, h2', r2⟩ := b.tup st
      refine .inr (.inr (.inl ⟨p, p2, vs, us, rfl, rfl, SqT.of h1, SqT.of h2, line_le (by rw [RepL.length r1, RepL.length r2]; exact hl), fun z => ?_, fun _ z => ?_, fun _ _ l hn => ?_⟩))
      · have z' := (repL_isNil r1).mp z
        subst z'
        exact k W H _ st (Keep.refl W H) ⟨p2, us, rfl, h2', r2⟩
      · have z' := (repL_isNil r2).mp z
        subst z'
        rw [List.append_nil] at k
        exact k W H _ st (Keep.refl W H) ⟨p, vs, rfl, h1', r1⟩
      · exact k _ _ _ (lay_st st hn) (lay_keep st hn) (new_tup st hn (repL_append r1 r2))
    · cases q
  · simp only [dAdd] at q
    split at q
    · rename_i xs ys hl
      cases q
      exact .inr (.inr (.inr (cat_own st a b hl fun p vs hn r => k _ _ _ (lay_st st hn) (lay_keep st hn) (new_lst st hn r))))
    · cases q
def dCat : D → D → Option D
  | .lst a, .lst b => if a.length + b.length ≤ 16777216 then some (.lst (a ++ b)) else none
  | _, _ => none
theorem o_cat : OpO X.K c rCat dCat := fun {W H S d e d' v u} Q st a b q k => by
  cases d <;> cases e <;> first | (cases q; done) | skip
  simp only [dCat] at q
  split at q
  · rename_i xs ys hl
    cases q
    exact cat_own st a b hl fun p vs hn r => k _ _ _ (new_st st hn) (new_keep st hn) (new_own st hn r)
  · cases q
theorem m_ix : OpM X.K c (rIx X.K) dIx := fun {W H S d e d' v u} Q st a b q k => by
  cases d <;> cases e <;> first | (cases q; done) | skip
  · rename_i s i
    simp only [dIx, Option.map_eq_some_iff] at q
    obtain ⟨x, h1, rfl⟩ := q
    obtain ⟨rfl, h2⟩ := a.str
    refine .inr (.inr ⟨s, i, x, rfl, b.int, line_le h2.1, h1, k W H _ st (Keep.refl W H) ⟨rfl, ?_⟩⟩)
    obtain ⟨j, _, hj, hlt, _⟩ := atI_get h1
    refine ⟨by show 1 ≤ 16777216; decide, ?_⟩
    have h3 : s.cps.all (· < 0x110000) = true := h2.2
    show (#[x] : Array Nat).all (· < 0x110000) = true
    rw [Array.all_eq_true'] at h3 ⊢
    intro y hy
    have hy' : y = x := by simpa using hy
    subst hy'
    exact h3 y (by simpa using List.mem_of_getElem? hj)
  · rename_i ds i
    obtain ⟨p, vs, rfl, h1, h1', r1⟩ := a.tup st
    obtain ⟨v, h2, h3⟩ := repL_at r1 q
    exact .inr (.inl ⟨p, vs, i, v, rfl, b.int, SqT.of h1, h2, k W H _ st (Keep.refl W H) h3⟩)
  · rename_i ds i
    obtain ⟨p, vs, rfl, h1, r1⟩ := a.tpx st
    obtain ⟨v, h2, h3⟩ := repL_at r1 q
    exact .inr (.inl ⟨p, vs, i, v, rfl, b.int, h1, h2, k W H _ st (Keep.refl W H) h3⟩)
  · rename_i ds i
    obtain ⟨p, vs, rfl, h1, r1⟩ := a.lst st
    obtain ⟨v, h2, h3⟩ := repL_at r1 q
    exact .inl ⟨p, vs, i, v, rfl, b.int, SqL.of h1, h2, k W H _ st (Keep.refl W H) h3⟩
end
end Mini
namespace Mini
open PySem PySem.Spec PyProof.Rows L2 Evl

/-! ### slices -/
abbrev FP := En → M (Option Int)
def noP : FP := fun _ => rt none
def isInt : D → Option Int
  | .int i => some i
  | _ => none
def partP (a : FE) : FP := fun ρ => bd (a ρ) fun x => lift ((isInt x).map some)
def cutG {α : Type} (xs : List α) (lo hi : Option Int) : List α := (xs.drop (HT.sIx xs.length 0 lo)).take (HT.sIx xs.length xs.length hi - HT.sIx xs.length 0 lo)
def dCut (lo hi : Option Int) : D → Option D
  | .lst ds => some (.lst (cutG ds lo hi))
  | .tup ds => some (.tup (cutG ds lo hi))
  | .str s => some (.str (cutS s lo hi))
  | _ => none
def dCutL (lo hi : Option Int) : D → Option D
  | .lst ds => some (.lst (cutG ds lo hi))
  | _ => none
def slcE (a : FE) (lo hi : FP) : FE := fun ρ => bd (a ρ) fun x => bd (lo ρ) fun l => bd (hi ρ) fun h => lift (dCut l h x)
def slcO (a : FE) (lo hi : FP) : FE := fun ρ => bd (a ρ) fun x => bd (lo ρ) fun l => bd (hi ρ) fun h => lift (dCutL l h x)
section
variable {K : PySem.W.Frag} {c : Cn} {W W1 W' : Wd} {H H1 H' : Hp} {S S1 : DS} {σ : L2.St} {ρ : En} {E : XK}
def OutP (K : PySem.W.Frag) (c : Cn) (W : Wd) (H : Hp) (E : XK) (Q : Option Int → Hp → Prop) : Res (Option Int) → Prop
  | .ok d S' => ∀ W' H', StOk K c W' H' S' → Keep W H W' H' → Q d H'
  | .er n p S' => ErQ K c W H E n p S'
  | .no => False
def tP (K : PySem.W.Frag) (c : Cn) (E : XK) (f : FP) : TO := fun σ H Q => ∃ W ρ S, StOk K c W H S ∧ EnvOk K c W H σ ρ ∧ OutP K c W H E Q (f ρ S)
theorem then_P {f : FP} {β : Type} {g : Option Int → M β} {Q : Option Int → Hp → Prop} {O : Res β → Prop} (st : StOk K c W H S) (en : EnvOk K c W H σ ρ) (hO : ∀ n p S', O (.er n p S') → ErQ K c W H E n p S') (hN : ¬ O .no)
    (h : O (bd (f ρ) g S)) (k : ∀ d S' W' H', StOk K c W' H' S' → Keep W H W' H' → O (g d S') → Q d H') : tP K c E f σ H Q := by
  refine ⟨W, ρ, S, st, en, ?_⟩
  unfold bd at h
  cases e : f ρ S with
  | ok d S' =>
    rw [e] at h
    exact fun W' H' st' k' => k d S' W' H' st' k' h
  | er n p S' =>
    rw [e] at h
    exact hO n p S' h
  | no =>
    rw [e] at h
    exact hN h
theorem cutG_length {α : Type} (xs : List α) (lo hi : Option Int) : (cutG xs lo hi).length ≤ xs.length := by
  unfold cutG
  rw [List.length_take, List.length_drop]
  omega
theorem repL_cut {ds : List D} {vs : List V} (lo hi : Option Int) (r : RepL K c W ds vs) : RepL K c W (cutG ds lo hi) (cutV vs lo hi) := by
  unfold cutG cutV
  rw [RepL.length r]
  exact repL_take _ (repL_drop _ r)
theorem all_drop_take {s : Array Nat} {p : Nat → Bool} (h : s.all p = true) (l : List Nat) (hl : ∀ x ∈ l, x ∈ s.toList) : (l.toArray).all p = true := by
  rw [Array.all_eq_true'] at h ⊢
  intro x hx
  exact h x (by simpa using hl x (by simpa using hx))
theorem sok_cut {s : Str} (h : SOk s) (lo hi : Option Int) : SOk (cutS s lo hi) := by
  refine ⟨Nat.le_trans (cutS_length s lo hi) h.1, ?_⟩
  have h2 : s.cps.all (· < 0x110000) = true := h.2
  refine all_drop_take (s := s.cps) (p := fun x => decide (x < 0x110000)) h2 _ fun x hx => ?_
  exact List.mem_of_mem_drop (List.mem_of_mem_take hx)
end
section
variable {X : Cx} {c : Cn} {E : XK} {a e : Expr} {lo hi : Option Expr} {fa : FE} {fl fh : FP} {pos p2 : Pos}
theorem mp_no : PO X none (tP X.K c E noP) := ⟨fun pins s σ H Q I h => by
  obtain ⟨W, ρ, S, st, en, q⟩ := h
  exact po_none.run pins s σ H Q I (q W H st (Keep.refl W H))⟩
theorem mp_some (h : PE X e (tB X.K c E fa)) : PO X (some e) (tP X.K c E (partP fa)) := ⟨fun pins s σ H Q I h' => by
  obtain ⟨W, ρ, S, st, en, q⟩ := h'
  refine (po_some h).run pins s σ H Q I ?_
  refine then_B (O := OutP X.K c W H E Q) st en (fun _ _ _ z => z) (fun z => z) q fun d S1 W1 H1 v st1 k1 r1 q1 => ?_
  obtain ⟨o, e', q3⟩ := lift_ok (β := Option Int) (O := OutP X.K c W H E Q) (fun z => z) q1
  cases d <;> first | (cases e'; done) | skip
  cases e'
  exact ⟨_, r1.int, q3 W1 H1 st1 k1⟩⟩
def rSlAll (K : PySem.W.Frag) : V → Option Int → Option Int → Hp → VK → Prop := fun x lo hi H Q => rSlL K x lo hi H Q ∨ (rSlA K x lo hi H Q ∨ rSlS x lo hi H Q)
theorem sl_all : SlR X (rSlAll X.K) := sl_list.or (sl_tupA.or sl_str)
theorem OutP.toB {W W1 : Wd} {H H1 : Hp} {S1 : DS} {Q : Option Int → Hp → Prop} {r : Res (Option Int)} (h : OutP X.K c W H E Q r) (k : Keep W H W1 H1) (st : StOk X.K c W1 H1 S1) : OutP X.K c W1 H1 E Q r := by
  cases r with
  | ok d S' => exact fun W' H' st' k' => h W' H' st' (k.tr st k')
  | er n p S' => exact ErQ.pre h k st
  | no => exact h
theorem slc_run {f : Option Int → Option Int → D → Option D} {r : V → Option Int → Option Int → Hp → VK → Prop} {O : Wd → Hp → VK → Res D → Prop} {σ : L2.St} {H : Hp} {Q : VK} {W : Wd} {ρ : En} {S : DS} (st : StOk X.K c W H S) (en : EnvOk X.K c W H σ ρ)
    (hO : ∀ W H n p S', O W H Q (.er n p S') → ErQ X.K c W H E n p S') (hN : ∀ W H, ¬ O W H Q .no) (pre : ∀ W H W1 H1 S1 r, O W H Q r → Keep W H W1 H1 → StOk X.K c W1 H1 S1 → O W1 H1 Q r)
    (q : O W H Q (bd (fa ρ) (fun x => bd (fl ρ) fun l => bd (fh ρ) fun h => lift (f l h x)) S))
    (hr : ∀ W H S v d d' l h, StOk X.K c W H S → RepB X.K c W H d v → f l h d = some d' → O W H Q (.ok d' S) → r v l h H Q) : tSl r (tB X.K c E fa) (tP X.K c E fl) (tP X.K c E fh) σ H Q := by
  refine then_B (O := O W H Q) st en (hO W H) (hN W H) q fun d S1 W1 H1 v st1 k1 r1 q1 => ?_
  refine then_P (O := O W1 H1 Q) st1 (en.ext k1) (hO W1 H1) (hN W1 H1) (pre _ _ _ _ _ _ q1 k1 st1) fun l S2 W2 H2 st2 k2 q2 => ?_
  refine then_P (O := O W2 H2 Q) st2 ((en.ext k1).ext k2) (hO W2 H2) (hN W2 H2) (pre _ _ _ _ _ _ q2 k2 st2) fun h S3 W3 H3 st3 k3 q3 => ?_
  obtain ⟨d', e', q4⟩ := lift_ok (β := D) (O := O W3 H3 Q) (hN W3 H3) (pre _ _ _ _ _ _ q3 k3 st3)
  exact hr W3 H3 S3 v d d' l h st3 ((r1.ext k2).ext k3) e' q4
theorem me_slc (ha : PE X e (tB X.K c E fa)) (hl : PO X lo (tP X.K c E fl)) (hh : PO X hi (tP X.K c E fh)) : PE X (.Subscript e (.Slice lo hi none p2) pos) (tM X.K c E (slcE fa fl fh)) :=
  pe_imp (pe_slice sl_all ha hl hh) fun σ H Q h => by
    obtain ⟨W, ρ, S, st, en, q⟩ := tM_un h
    refine slc_run (O := fun W H Q r => OutM X.K c W H E Q r) st en (fun _ _ _ _ _ z => z) (fun _ _ z => z) (fun _ _ _ _ _ _ z k s => OutM.pre (Q' := Q) z k s) q fun W H S v d d' l h st r e' k => ?_
    cases d <;> first | (cases e'; done) | skip
    · rename_i s
      cases e'
      obtain ⟨rfl, h1⟩ := r.str
      exact .inr (.inr ⟨s, rfl, line_le h1.1, k W H _ st (Keep.refl W H) ⟨rfl, sok_cut h1 l h⟩⟩)
    · rename_i ds
      cases e'
      obtain ⟨p, vs, rfl, h1, h1', r1⟩ := r.tup st
      refine .inr (.inl ⟨p, vs, rfl, SqT.of h1, fun hw => ?_, fun _ l' hn => ?_⟩)
      · have e2 : cutG ds l h = ds := by
          unfold cutG
          rw [← RepL.length r1, hw.1, hw.2, List.drop_zero, Nat.sub_zero, RepL.length r1, List.take_length]
        rw [e2] at k
        exact k W H _ st (Keep.refl W H) ⟨p, vs, rfl, h1', r1⟩
      · exact k _ _ _ (lay_st st hn) (lay_keep st hn) (new_tup st hn (repL_cut l h r1))
    · rename_i ds
      cases e'
      obtain ⟨p, vs, rfl, h1, r1⟩ := r.lst st
      exact .inl ⟨p, vs, rfl, SqL.of h1, fun l' hn => k _ _ _ (lay_st st hn) (lay_keep st hn) (new_lst st hn (repL_cut l h r1))⟩
theorem me_slcO (ha : PE X e (tB X.K c E fa)) (hl : PO X lo (tP X.K c E fl)) (hh : PO X hi (tP X.K c E fh)) : PE X (.Subscript e (.Slice lo hi none p2) pos) (tO X.K c E (slcO fa fl fh)) :=
  pe_imp (pe_slice sl_list ha hl hh) fun σ H Q h => by
    obtain ⟨W, ρ, S, st, en, q⟩ := tO_un h
    refine slc_run (O := fun W H Q r => OutO X.K c W H E Q r) st en (fun _ _ _ _ _ z => z) (fun _ _ z => z) (fun _ _ _ _ _ _ z k s => OutO.pre z k s) q fun W H S v d d' l h st r e' k => ?_
    cases d <;> first | (cases e'; done) | skip
    rename_i ds
    cases e'
    obtain ⟨p, vs, rfl, h1, r1⟩ := r.lst st
    exact ⟨p, vs, rfl, SqL.of h1, fun l' hn => k _ _ _ (new_st st hn) (new_keep st hn) (new_own st hn (repL_cut l h r1))⟩
end
/-! ### calls of built-ins with one value -/
abbrev R1 := List V → Hp → VK → Prop
def UnM (K : PySem.W.Frag) (c : Cn) (r : R1) (f : D → Option D) : Prop := ∀ {W : Wd} {H : Hp} {S : DS} {d d' : D} {v : V} (Q : VK), StOk K c W H S → RepB K c W H d v → f d = some d' →
  (∀ W' H' x, StOk K c W' H' S → Keep W H W' H' → Rep K c W' d' x → Q x H') → r [v] H Q
def UnO (K : PySem.W.Frag) (c : Cn) (r : R1) (f : D → Option D) : Prop := ∀ {W : Wd} {H : Hp} {S : DS} {d d' : D} {v : V} (Q : VK), StOk K c W H S → RepB K c W H d v → f d = some d' →
  (∀ W' H' x, StOk K c W' H' S → Keep W H W' H' → RepO K c H W' H' d' x → Q x H') → r [v] H Q
section
variable {X : Cx} {c : Cn} {E : XK} {a b e : Expr} {fa fb : FE} {x : Str} {p pos : Pos} {id T : String} {r : R1} {f : D → Option D}
theorem op1_out (hr : UnM X.K c r f) : ∀ σ H Q, tM X.K c E (op1 f fa) σ H Q → tCB r (tCons (tB X.K c E fa) tNil) σ H Q := fun σ H Q h => by
  obtain ⟨W, ρ, S, st, en, q⟩ := tM_un h
  refine then_B (O := OutM X.K c W H E Q) st en (fun _ _ _ z => z) (fun z => z) q fun d S1 W1 H1 v st1 k1 r1 q1 => ?_
  obtain ⟨d', e', q3⟩ := lift_ok (β := D) (O := OutM X.K c W H E Q) (fun z => z) q1
  exact hr Q st1 r1 e' fun W' H' x st' k' rx => q3 W' H' x st' (k1.tr st1 k') rx
theorem op1_outO (hr : UnO X.K c r f) : ∀ σ H Q, tO X.K c E (op1 f fa) σ H Q → tCB r (tCons (tB X.K c E fa) tNil) σ H Q := fun σ H Q h => by
  obtain ⟨W, ρ, S, st, en, q⟩ := tO_un h
  refine then_B (O := OutO X.K c W H E Q) st en (fun _ _ _ z => z) (fun z => z) q fun d S1 W1 H1 v st1 k1 r1 q1 => ?_
  obtain ⟨d', e', q3⟩ := lift_ok (β := D) (O := OutO X.K c W H E Q) (fun z => z) q1
  exact hr Q st1 r1 e' fun W' H' x st' k' rx => q3 W' H' x st' (k1.tr st1 k') (RepO.pre (H0 := H1) k1 (fun b e => st1.ds.at (k1.wex.2 b e)) rx)
theorem me_bl1 (hc : CallR X (.builtin id) r) (hr : UnM X.K c r f) (hg : Gl X x) (hm : X.mg x = none) (hv : bootBuiltins x = some (.builtin id)) (ha : PE X a (tB X.K c E fa)) (hn : x ≠ "__name__" := by decide) (hdb : (x == ("__debug__" : Str)) = false := by decide)
    (he : starEach [a] X.env = (false, eval a X.env) :: starEach [] X.env := by rfl) (hpl : (backTo pos (starEach [] X.env)).any (·.1) = false := by rfl) : PE X (.Call (.Name x p) [a] [] pos) (tM X.K c E (op1 f fa)) :=
  pe_imp (pe_callB hc hg hm hv (pa_cons ha pa_nil he) hn hdb he hpl) (op1_out hr)
theorem me_ty1 (hc : CallR X (.type T) r) (hr : UnM X.K c r f) (hg : Gl X x) (hm : X.mg x = none) (hv : bootBuiltins x = some (.type T)) (ha : PE X a (tB X.K c E fa)) (hn : x ≠ "__name__" := by decide) (hdb : (x == ("__debug__" : Str)) = false := by decide)
    (he : starEach [a] X.env = (false, eval a X.env) :: starEach [] X.env := by rfl) (hpl : (backTo pos (starEach [] X.env)).any (·.1) = false := by rfl) : PE X (.Call (.Name x p) [a] [] pos) (tM X.K c E (op1 f fa)) :=
  pe_imp (pe_callTy hc hg hm hv (pa_cons ha pa_nil he) hn hdb he hpl) (op1_out hr)
theorem me_bl1O (hc : CallR X (.builtin id) r) (hr : UnO X.K c r f) (hg : Gl X x) (hm : X.mg x = none) (hv : bootBuiltins x = some (.builtin id)) (ha : PE X a (tB X.K c E fa)) (hn : x ≠ "__name__" := by decide) (hdb : (x == ("__debug__" : Str)) = false := by decide)
    (he : starEach [a] X.env = (false, eval a X.env) :: starEach [] X.env := by rfl) (hpl : (backTo pos (starEach [] X.env)).any (·.1) = false := by rfl) : PE X (.Call (.Name x p) [a] [] pos) (tO X.K c E (op1 f fa)) :=
  pe_imp (pe_callB hc hg hm hv (pa_cons ha pa_nil he) hn hdb he hpl) (op1_outO hr)
theorem me_ty1O (hc : CallR X (.type T) r) (hr : UnO X.K c r f) (hg : Gl X x) (hm : X.mg x = none) (hv : bootBuiltins x = some (.type T)) (ha : PE X a (tB X.K c E fa)) (hn : x ≠ "__name__" := by decide) (hdb : (x == ("__debug__" : Str)) = false := by decide)
    (he : starEach [a] X.env = (false, eval a X.env) :: starEach [] X.env := by rfl) (hpl : (backTo pos (starEach [] X.env)).any (·.1) = false := by rfl) : PE X (.Call (.Name x p) [a] [] pos) (tO X.K c E (op1 f fa)) :=
  pe_imp (pe_callTy hc hg hm hv (pa_cons ha pa_nil he) hn hdb he hpl) (op1_outO hr)
/-- two values -/
def r2of (r : R1) : R2 := fun v u H Q => r [v, u] H Q
theorem me_bl2 {g : D → D → Option D} (hc : CallR X (.builtin id) r) (hr : OpM X.K c (r2of r) g) (hg : Gl X x) (hm : X.mg x = none) (hv : bootBuiltins x = some (.builtin id)) (ha : PE X a (tB X.K c E fa)) (hb : PE X b (tB X.K c E fb)) (hn : x ≠ "__name__" := by decide) (hdb : (x == ("__debug__" : Str)) = false := by decide)
    (he : starEach [a, b] X.env = (false, eval a X.env) :: starEach [b] X.env := by rfl) (he2 : starEach [b] X.env = (false, eval b X.env) :: starEach [] X.env := by rfl) (hpl : (backTo pos (starEach [b] X.env)).any (·.1) = false := by rfl) : PE X (.Call (.Name x p) [a, b] [] pos) (tM X.K c E (op2 g fa fb)) :=
  pe_imp (pe_callB hc hg hm hv (pa_cons ha (pa_cons hb pa_nil he2) he) hn hdb he hpl) fun σ H Q h => op2_out hr σ H Q h
/-- isinstance(e, T) -/
def isiD (T : String) : D → Option D
  | .non => (kitB "NoneType" T).map .bl
  | .bl _ => (kitB "bool" T).map .bl
  | .int _ => (kitB "int" T).map .bl
  | .str _ => (kitB "str" T).map .bl
  | .tup _ => (kitB "tuple" T).map .bl
  | .tpx _ => (kitB "tuple" T).map .bl
  | .lst _ => (kitB "list" T).map .bl
  | _ => none
theorem tyx_of {K : PySem.W.Frag} {W : Wd} {H : Hp} {S : DS} {d d' : D} {v : V} (st : StOk K c W H S) (r : RepB K c W H d v) (h : isiD T d = some d') : ∃ t k, TyX K H v (.type t) ∧ kitB t T = some k ∧ d' = .bl k := by
  cases d <;> first | (cases h; done) | skip
  all_goals (simp only [isiD, Option.map_eq_some_iff] at h; obtain ⟨k, h1, h2⟩ := h)
  · cases r.non; exact ⟨_, k, .base .non, h1, h2.symm⟩
  · cases r.bl; exact ⟨_, k, .base (.bl _), h1, h2.symm⟩
  · cases r.int; exact ⟨_, k, .base (.int _), h1, h2.symm⟩
  · obtain ⟨rfl, _⟩ := r.str; exact ⟨_, k, .base (.str _), h1, h2.symm⟩
  · obtain ⟨a, vs, rfl, q, _⟩ := r.tup st; exact ⟨_, k, .base (.tup q), h1, h2.symm⟩
  · obtain ⟨a, vs, o, rfl, q, _⟩ := r.tpo st; exact ⟨_, k, .fTuple q, h1, h2.symm⟩
  · obtain ⟨a, vs, rfl, q, _⟩ := r.lst st; exact ⟨_, k, .base (.lst q), h1, h2.symm⟩
theorem me_isi {y : Str} {p2 : Pos} (hg : Gl X "isinstance") (hm : X.mg "isinstance" = none) (hg2 : Gl X y) (hm2 : X.mg y = none) (hv2 : bootBuiltins y = some (.type T)) (ha : PE X a (tB X.K c E fa)) (hn2 : y ≠ "__name__" := by decide) (hdb2 : (y == ("__debug__" : Str)) = false := by decide)
    (he : starEach [a, .Name y p2] X.env = (false, eval a X.env) :: starEach [.Name y p2] X.env := by rfl) (he2 : starEach [.Name y p2] X.env = (false, eval (.Name y p2) X.env) :: starEach [] X.env := by rfl) (hpl : (backTo pos (starEach [.Name y p2] X.env)).any (·.1) = false := by rfl) :
    PE X (.Call (.Name "isinstance" p) [a, .Name y p2] [] pos) (tM X.K c E (op1 (isiD T) fa)) :=
  pe_imp (pe_callB call_isi hg hm boot_isinstance (pa_cons ha (pa_cons (pe_bltn (v := .ty T) hg2 hm2 hv2 rfl hn2 hdb2) pa_nil he2) he) (by decide) (by decide) he hpl) fun σ H Q h => by
    obtain ⟨W, ρ, S, st, en, q⟩ := tM_un h
    refine then_B (O := OutM X.K c W H E Q) st en (fun _ _ _ z => z) (fun z => z) q fun d S1 W1 H1 v st1 k1 r1 q1 => ?_
    obtain ⟨d', e', q3⟩ := lift_ok (β := D) (O := OutM X.K c W H E Q) (fun z => z) q1
    obtain ⟨t, k, h1, h2, rfl⟩ := tyx_of st1 r1 e'
    exact ⟨v, .ty T, _, _, k, rfl, .ty T, h1, kit_ty h2, q3 W1 H1 _ st1 k1 rfl⟩
end
/-! ### what the built-ins give -/
def dLen : D → Option D
  | .str s => some (.int s.length)
  | .tup ds => some (.int ds.length)
  | .tpx ds => some (.int ds.length)
  | .lst ds => some (.int ds.length)
  | _ => none
def dAbs : D → Option D
  | .int i => some (.int (if i < 0 then -i else i))
  | _ => none
def dInt : D → Option D
  | .int i => some (.int i)
  | .bl k => some (.int (if k then 1 else 0))
  | _ => none
def dTuple : D → Option D
  | .lst ds => some (.tup ds)
  | .tup ds => some (.tup ds)
  | _ => none
def dList : D → Option D
  | .lst ds => some (.lst ds)
  | .tup ds => some (.lst ds)
  | .scr ns => some (.lst (ns.map .int))
  | _ => none
def seqOf : D → Option (List D)
  | .lst ds => some ds
  | _ => none
def dSum (d : D) : Option D := (seqOf d).bind fun ds => (intsOf ds).map fun ns => .int ns.sum
def dAll (d : D) : Option D := (seqOf d).bind fun ds => (blsOf ds).map fun ns => .bl (ns.all id)
def dAny (d : D) : Option D := (seqOf d).bind fun ds => (blsOf ds).map fun ns => .bl (ns.any id)
def maxI : List Int → Option Int
  | [] => none
  | n :: ns => some (ns.foldl (fun a b => if b > a then b else a) n)
def minI : List Int → Option Int
  | [] => none
  | n :: ns => some (ns.foldl (fun a b => if b < a then b else a) n)
def dMax (d : D) : Option D := (seqOf d).bind fun ds => (intsOf ds).bind fun ns => (maxI ns).map .int
def dMin (d : D) : Option D := (seqOf d).bind fun ds => (intsOf ds).bind fun ns => (minI ns).map .int
def dMax2 : D → D → Option D
  | .int i, .int j => some (.int (if j > i then j else i))
  | _, _ => none
def dMin2 : D → D → Option D
  | .int i, .int j => some (.int (if j < i then j else i))
  | _, _ => none
theorem foldmax_spec (ns : List Int) : ∀ a : Int, (ns.foldl (fun a b => if b > a then b else a) a ∈ a :: ns) ∧ ∀ y ∈ a :: ns, y ≤ ns.foldl (fun a b => if b > a then b else a) a := by
  induction ns with
  | nil => intro a; exact ⟨List.mem_cons_self, fun y hy => by simp at hy; subst hy; exact Int.le_refl _⟩
  | cons n ns ih =>
    intro a
    simp only [List.foldl_cons]
    obtain ⟨h1, h2⟩ := ih (if n > a then n else a)
    refine ⟨?_, fun y hy => ?_⟩
    · rcases List.mem_cons.mp h1 with e | e
      · rw [e]
        split
        · exact List.mem_cons_of_mem _ List.mem_cons_self
        · exact List.mem_cons_self
      · exact List.mem_cons_of_mem _ (List.mem_cons_of_mem _ e)
    · have h3 := h2 _ List.mem_cons_self
      rcases List.mem_cons.mp hy with e | hy
      · subst e
        refine Int.le_trans ?_ h3
        split <;> omega
      · rcases List.mem_cons.mp hy with e | hy
        · subst e
          refine Int.le_trans ?_ h3
          split <;> omega
        · exact h2 y (List.mem_cons_of_mem _ hy)
theorem foldmin_spec (ns : List Int) : ∀ a : Int, (ns.foldl (fun a b => if b < a then b else a) a ∈ a :: ns) ∧ ∀ y ∈ a :: ns, ns.foldl (fun a b => if b < a then b else a) a ≤ y := by
  induction ns with
  | nil => intro a; exact ⟨List.mem_cons_self, fun y hy => by simp at hy; subst hy; exact Int.le_refl _⟩
  | cons n ns ih =>
    intro a
    simp only [List.foldl_cons]
    obtain ⟨h1, h2⟩ := ih (if n < a then n else a)
    refine ⟨?_, fun y hy => ?_⟩
    · rcases List.mem_cons.mp h1 with e | e
      · rw [e]
        split
        · exact List.mem_cons_of_mem _ List.mem_cons_self
        · exact List.mem_cons_self
      · exact List.mem_cons_of_mem _ (List.mem_cons_of_mem _ e)
    · have h3 := h2 _ List.mem_cons_self
      rcases List.mem_cons.mp hy with e | hy
      · subst e
        refine Int.le_trans h3 ?_
        split <;> omega
      · rcases List.mem_cons.mp hy with e | hy
        · subst e
          refine Int.le_trans h3 ?_
          split <;> omega
        · exact h2 y (List.mem_cons_of_mem _ hy)
section
variable {X : Cx} {c : Cn}
def rLenAll (K : PySem.W.Frag) : R1 := fun xs H Q => (∃ p ys, xs = [.ref p] ∧ (SqL K H p ys ∨ SqT K H p ys) ∧ Q (.int ys.length) H) ∨ (∃ z, xs = [.str z] ∧ z.length ≤ sizeLine ∧ Q (.int z.length) H)
theorem cr_lenAll : CallR X (.builtin "len") (rLenAll X.K) := call_len_seq.or call_len_str
theorem u_len : UnM X.K c (rLenAll X.K) dLen := fun {W H S d d' v} Q st a q k => by
  cases d <;> first | (cases q; done) | skip
  · cases q
    obtain ⟨rfl, h⟩ := a.str
    exact .inr ⟨_, rfl, line_le h.1, k W H _ st (Keep.refl W H) rfl⟩
  · cases q
    obtain ⟨p, vs, rfl, h1, _, r1⟩ := a.tup st
    exact .inl ⟨p, vs, rfl, .inr (SqT.of h1), k W H _ st (Keep.refl W H) (by rw [RepL.length r1]; rfl)⟩
  · cases q
    obtain ⟨p, vs, rfl, h1, r1⟩ := a.tpx st
    exact .inl ⟨p, vs, rfl, .inr h1, k W H _ st (Keep.refl W H) (by rw [RepL.length r1]; rfl)⟩
  · cases q
    obtain ⟨p, vs, rfl, h1, r1⟩ := a.lst st
    exact .inl ⟨p, vs, rfl, .inl (SqL.of h1), k W H _ st (Keep.refl W H) (by rw [RepL.length r1]; rfl)⟩
theorem u_abs : UnM X.K c (fun xs H Q => ∃ i, xs = [.int i] ∧ Q (.int (if i < 0 then -i else i)) H) dAbs := fun {W H S d d' v} Q st a q k => by
  cases d <;> first | (cases q; done) | skip
  cases q
  exact ⟨_, by rw [a.int], k W H _ st (Keep.refl W H) rfl⟩
theorem u_int : UnM X.K c (fun xs H Q => (∃ i, xs = [.int i] ∧ Q (.int i) H) ∨ ∃ k, xs = [.bl k] ∧ Q (.int (if k then 1 else 0)) H) dInt := fun {W H S d d' v} Q st a q k => by
  cases d <;> first | (cases q; done) | skip
  · cases q
    exact .inr ⟨_, by rw [a.bl], k W H _ st (Keep.refl W H) rfl⟩
  · cases q
    exact .inl ⟨_, by rw [a.int], k W H _ st (Keep.refl W H) rfl⟩
theorem u_tuple : UnM X.K c (fun xs H Q => ∃ p ys, xs = [.ref p] ∧ ((SqL X.K H p ys ∧ ∀ l, H l = none → Q (.ref l) (upd H l (.tup ys))) ∨ (SqT X.K H p ys ∧ Q (.ref p) H))) dTuple := fun {W H S d d' v} Q st a q k => by
  cases d <;> first | (cases q; done) | skip
  · cases q
    obtain ⟨p, vs, rfl, h1, h1', r1⟩ := a.tup st
    exact ⟨p, vs, rfl, .inr ⟨SqT.of h1, k W H _ st (Keep.refl W H) ⟨p, vs, rfl, h1', r1⟩⟩⟩
  · cases q
    obtain ⟨p, vs, rfl, h1, r1⟩ := a.lst st
    exact ⟨p, vs, rfl, .inl ⟨SqL.of h1, fun l hl => k _ _ _ (lay_st st hl) (lay_keep st hl) (new_tup st hl r1)⟩⟩
theorem repL_ints {K : PySem.W.Frag} {W : Wd} : ∀ ns : List Int, RepL K c W (ns.map D.int) (ns.map V.int)
  | [] => rfl
  | n :: ns => ⟨.int n, _, rfl, rfl, repL_ints ns⟩
theorem u_list : UnO X.K c (fun xs H Q => ∃ p ys, xs = [.ref p] ∧ (SqL X.K H p ys ∨ SqT X.K H p ys) ∧ ∀ l, H l = none → Q (.ref l) (upd H l (.lst ys))) dList := fun {W H S d d' v} Q st a q k => by
  cases d <;> first | (cases q; done) | skip
  · cases q
    obtain ⟨p, vs, rfl, h1, h1', r1⟩ := a.tup st
    exact ⟨p, vs, rfl, .inr (SqT.of h1), fun l hl => k _ _ _ (new_st st hl) (new_keep st hl) (new_own st hl r1)⟩
  · cases q
    obtain ⟨p, vs, rfl, h1, r1⟩ := a.lst st
    exact ⟨p, vs, rfl, .inl (SqL.of h1), fun l hl => k _ _ _ (new_st st hl) (new_keep st hl) (new_own st hl r1)⟩
  · cases q
    rename_i ns
    rcases a with ⟨p, rfl, h1⟩ | ⟨p, _, _, h⟩
    · exact ⟨p, _, rfl, .inl (ex_l st.sub h1), fun l hl => k _ _ _ (new_st st hl) (new_keep st hl) (new_own st hl (repL_ints ns))⟩
    · cases h
theorem lst_seq {K : PySem.W.Frag} {W : Wd} {H : Hp} {S : DS} {d : D} {ds : List D} {v : V} (st : StOk K c W H S) (a : RepB K c W H d v) (h : seqOf d = some ds) : ∃ p vs, v = .ref p ∧ H p = some (.lst vs) ∧ RepL K c W ds vs := by
  cases d <;> first | (cases h; done) | skip
  cases h
  exact a.lst st
theorem u_sum : UnM X.K c (rSum X.K) dSum := fun {W H S d d' v} Q st a q k => by
  unfold dSum at q
  obtain ⟨ds, e1, q⟩ := Option.bind_eq_some_iff.mp q
  obtain ⟨ns, e2, rfl⟩ := Option.map_eq_some_iff.mp q
  obtain ⟨p, vs, rfl, h1, r1⟩ := lst_seq st a e1
  have e3 := ints_rep e2 r1
  subst e3
  exact ⟨p, ns, rfl, SqL.of h1, k W H _ st (Keep.refl W H) rfl⟩
theorem u_all : UnM X.K c (rAll X.K) dAll := fun {W H S d d' v} Q st a q k => by
  unfold dAll at q
  obtain ⟨ds, e1, q⟩ := Option.bind_eq_some_iff.mp q
  obtain ⟨ns, e2, rfl⟩ := Option.map_eq_some_iff.mp q
  obtain ⟨p, vs, rfl, h1, r1⟩ := lst_seq st a e1
  have e3 := bls_rep e2 r1
  subst e3
  exact ⟨p, ns, rfl, SqL.of h1, k W H _ st (Keep.refl W H) rfl⟩
theorem u_any : UnM X.K c (rAny X.K) dAny := fun {W H S d d' v} Q st a q k => by
  unfold dAny at q
  obtain ⟨ds, e1, q⟩ := Option.bind_eq_some_iff.mp q
  obtain ⟨ns, e2, rfl⟩ := Option.map_eq_some_iff.mp q
  obtain ⟨p, vs, rfl, h1, r1⟩ := lst_seq st a e1
  have e3 := bls_rep e2 r1
  subst e3
  exact ⟨p, ns, rfl, SqL.of h1, k W H _ st (Keep.refl W H) rfl⟩
theorem u_max : UnM X.K c (rMax X.K) dMax := fun {W H S d d' v} Q st a q k => by
  unfold dMax at q
  obtain ⟨ds, e1, q⟩ := Option.bind_eq_some_iff.mp q
  obtain ⟨ns, e2, q⟩ := Option.bind_eq_some_iff.mp q
  obtain ⟨m, e4, rfl⟩ := Option.map_eq_some_iff.mp q
  obtain ⟨p, vs, rfl, h1, r1⟩ := lst_seq st a e1
  have e3 := ints_rep e2 r1
  subst e3
  cases ns with
  | nil => cases e4
  | cons n ns =>
    cases e4
    obtain ⟨s1, s2⟩ := foldmax_spec ns n
    refine ⟨p, n :: ns, rfl, SqL.of h1, by simp, fun z hz hle => ?_⟩
    have e : z = ns.foldl (fun a b => if b > a then b else a) n := Int.le_antisymm (s2 z hz) (hle _ s1)
    rw [e]
    exact k W H _ st (Keep.refl W H) rfl
theorem u_min : UnM X.K c (rMin X.K) dMin := fun {W H S d d' v} Q st a q k => by
  unfold dMin at q
  obtain ⟨ds, e1, q⟩ := Option.bind_eq_some_iff.mp q
  obtain ⟨ns, e2, q⟩ := Option.bind_eq_some_iff.mp q
  obtain ⟨m, e4, rfl⟩ := Option.map_eq_some_iff.mp q
  obtain ⟨p, vs, rfl, h1, r1⟩ := lst_seq st a e1
  have e3 := ints_rep e2 r1
  subst e3
  cases ns with
  | nil => cases e4
  | cons n ns =>
    cases e4
    obtain ⟨s1, s2⟩ := foldmin_spec ns n
    refine ⟨p, n :: ns, rfl, SqL.of h1, by simp, fun z hz hle => ?_⟩
    have e : z = ns.foldl (fun a b => if b < a then b else a) n := Int.le_antisymm (hle _ s1) (s2 z hz)
    rw [e]
    exact k W H _ st (Keep.refl W H) rfl
theorem m_max2 : OpM X.K c (r2of fun xs H Q => ∃ i j, xs = [.int i, .int j] ∧ Q (.int (if j > i then j else i)) H) dMax2 := fun {W H S d e d' v u} Q st a b q k => by
  cases d <;> cases e <;> first | (cases q; done) | skip
  cases q
  exact ⟨_, _, by rw [a.int, b.int], k W H _ st (Keep.refl W H) rfl⟩
theorem m_min2 : OpM X.K c (r2of fun xs H Q => ∃ i j, xs = [.int i, .int j] ∧ Q (.int (if j < i then j else i)) H) dMin2 := fun {W H S d e d' v u} Q st a b q k => by
  cases d <;> cases e <;> first | (cases q; done) | skip
  cases q
  exact ⟨_, _, by rw [a.int, b.int], k W H _ st (Keep.refl W H) rfl⟩
end
end Mini
namespace Mini
open PySem PySem.Spec PyProof.Rows L2 Evl

/-! ### statements -/
def skipS : FS := fun ρ => rt (.nx ρ)
def seqS (a b : FS) : FS := fun ρ => bd (a ρ) fun f => match f with
  | .nx ρ' => b ρ'
  | f => rt f
def setV (i : Nat) (d : D) (ρ : En) : En := ρ.set i (.vl d)
def setO (i : Nat) (d : D) (ρ : En) : En := ρ.set i (.ow d)
def asgS (i : Nat) (f : FE) : FS := fun ρ => bd (f ρ) fun d => rt (.nx (setV i d ρ))
def asgOS (i : Nat) (f : FE) : FS := fun ρ => bd (f ρ) fun d => rt (.nx (setO i d ρ))
def exprS (f : FE) : FS := fun ρ => bd (f ρ) fun _ => rt (.nx ρ)
def retS (f : FE) : FS := fun ρ => bd (f ρ) fun d => rt (.rt d)
def retNS : FS := fun _ => rt (.rt .non)
def ifS (t : FB) (a b : FS) : FS := fun ρ => bd (t ρ) fun k => if k then a ρ else b ρ
def brkS : FS := fun ρ => rt (.bk ρ)
def cntS : FS := fun ρ => rt (.ct ρ)
def whileS (t : FB) (b : FS) : Nat → FS
  | 0 => fun _ => no
  | w + 1 => fun ρ => bd (t ρ) fun k => if k then bd (b ρ) fun f => match f with
      | .nx ρ' => whileS t b w ρ'
      | .ct ρ' => whileS t b w ρ'
      | .bk ρ' => rt (.nx ρ')
      | .rt d => rt (.rt d)
    else rt (.nx ρ)
abbrev TGd := D → En → Option En
def tgN (i : Nat) : TGd := fun d ρ => some (setV i d ρ)
def tgs : List TGd → List D → En → Option En
  | [], [], ρ => some ρ
  | t :: ts, d :: ds, ρ => (t d ρ).bind (tgs ts ds)
  | _, _, _ => none
def tgT (ts : List TGd) : TGd := fun d ρ => match d with
  | .tup ds => tgs ts ds ρ
  | _ => none
def asgT (t : TGd) (f : FE) : FS := fun ρ => bd (f ρ) fun d => bd (lift (t d ρ)) fun ρ' => rt (.nx ρ')
def forL (t : TGd) (b : FS) : List D → FS
  | [] => fun ρ => rt (.nx ρ)
  | d :: ds => fun ρ => bd (lift (t d ρ)) fun ρ1 => bd (b ρ1) fun f => match f with
      | .nx ρ' => forL t b ds ρ'
      | .ct ρ' => forL t b ds ρ'
      | .bk ρ' => rt (.nx ρ')
      | .rt d => rt (.rt d)
abbrev FI := En → M (List D)
def forS (it : FI) (t : TGd) (b : FS) : FS := fun ρ => bd (it ρ) fun ds => forL t b ds ρ
def parS (i j : Nat) (a b : FE) : FS := fun ρ => bd (a ρ) fun x => bd (b ρ) fun y => rt (.nx (setV j y (setV i x ρ)))
def augS (f : D → D → Option D) (i : Nat) (a : FE) : FS := fun ρ => bd (lift (slot ρ i)) fun x => bd (a ρ) fun y => bd (lift (f x y)) fun z => rt (.nx (setV i z ρ))
def raiseS (n : Nat) (a : FE) : FS := fun ρ => bd (a ρ) fun d => fun S => .er n d S
/-- a ghost: what the name holds is frozen -/
def frzS (i : Nat) (b : FS) : FS := fun ρ => b (match ρ[i]? with
  | some (.ow d) => setV i d ρ
  | _ => ρ)
def enter (n : Nat) (ds : List D) : En := ds.map Slot.vl ++ List.replicate (n - ds.length) Slot.no
def leave : Fl → M D
  | .nx _ => rt .non
  | .rt d => rt d
  | _ => no
def body (n : Nat) (b : FS) (ds : List D) : M D := bd (b (enter n ds)) leave
def callE (F : List D → M D) (a : FA) : FE := fun ρ => bd (a ρ) F

def Owned (σ : L2.St) (ρ : En) (b : Addr) : Prop := ∃ (i : Nat) (d : D), ρ[i]? = some (.ow d) ∧ σ[i]? = some (some (.ref b))
structure KeepS (W : Wd) (H : Hp) (σ : L2.St) (ρ : En) (W' : Wd) (H' : Hp) : Prop where
  wex : WEx W W'
  old : ∀ b o, H b = some o → W.sa ≠ some b → ¬ Owned σ ρ b → H' b = some o
  fr : ∀ b o, H b = some o → ¬ Owned σ ρ b → W.H0 b = none → W'.H0 b = none
  sa : ∀ b o, H b = some o → W'.sa = some b → W.sa = some b
  there : ∀ b o, H b = some o → ∃ o', H' b = some o'
structure Step (W : Wd) (H : Hp) (σ : L2.St) (ρ : En) (W' : Wd) (H' : Hp) (σ' : L2.St) (ρ' : En) : Prop extends KeepS W H σ ρ W' H' where
  own : ∀ b, Owned σ' ρ' b → H b = none ∨ Owned σ ρ b
section
variable {K : PySem.W.Frag} {c : Cn} {W W1 W2 W' : Wd} {H H1 H2 H' : Hp} {S S1 S2 S' : DS} {σ σ1 σ2 σ' : L2.St} {ρ ρ1 ρ2 ρ' : En} {E : XK}
theorem Keep.toS (k : Keep W H W' H') (st : StOk K c W' H' S') : KeepS W H σ ρ W' H' := ⟨k.wex, fun b o h n _ => k.old b o h n, fun b o h _ n => k.fr b o h n, k.sa, fun b o h => by
  by_cases hs : W.sa = some b
  · exact st.ds.at (k.wex.2 b hs)
  · exact ⟨o, k.old b o h hs⟩⟩
theorem Keep.toStep (k : Keep W H W' H') (st : StOk K c W' H' S') : Step W H σ ρ W' H' σ ρ := ⟨k.toS st, fun _ h => .inr h⟩
theorem Step.refl (W : Wd) (H : Hp) (σ : L2.St) (ρ : En) : Step W H σ ρ W H σ ρ := ⟨⟨WEx.refl W, fun _ _ h _ _ => h, fun _ _ _ _ h => h, fun _ _ _ h => h, fun _ o h => ⟨o, h⟩⟩, fun _ h => .inr h⟩
theorem Step.keepS (k1 : Step W H σ ρ W1 H1 σ1 ρ1) (k2 : KeepS W1 H1 σ1 ρ1 W2 H2) : KeepS W H σ ρ W2 H2 where
  wex := k1.wex.trans k2.wex
  old := fun b o h n no => by
    refine k2.old b o (k1.old b o h n no) (fun e => n (k1.sa b o h e)) fun z => ?_
    rcases k1.own b z with q | q
    · rw [h] at q; cases q
    · exact no q
  fr := fun b o h no n => by
    have no1 : ¬ Owned σ1 ρ1 b := fun z => by
      rcases k1.own b z with q | q
      · rw [h] at q; cases q
      · exact no q
    obtain ⟨o1, ho1⟩ := k1.there b o h
    exact k2.fr b o1 ho1 no1 (k1.fr b o h no n)
  sa := fun b o h e => by
    obtain ⟨o1, ho1⟩ := k1.there b o h
    exact k1.sa b o h (k2.sa b o1 ho1 e)
  there := fun b o h => by
    obtain ⟨o1, ho1⟩ := k1.there b o h
    exact k2.there b o1 ho1
theorem Step.trans (k1 : Step W H σ ρ W1 H1 σ1 ρ1) (k2 : Step W1 H1 σ1 ρ1 W2 H2 σ2 ρ2) : Step W H σ ρ W2 H2 σ2 ρ2 where
  toKeepS := k1.keepS k2.toKeepS
  own := fun b h => by
    rcases k2.own b h with q | q
    · cases e : H b with
      | none => exact .inl rfl
      | some o =>
        obtain ⟨o1, ho1⟩ := k1.there b o e
        rw [q] at ho1
        cases ho1
    · exact k1.own b q
/-- what is wanted of an error behind statements -/
def ErS (K : PySem.W.Frag) (c : Cn) (W : Wd) (H : Hp) (σ : L2.St) (ρ : En) (E : XK) (n : Nat) (p : D) (S : DS) : Prop :=
  ∀ W' H' dd v, StOk K c W' H' S → KeepS W H σ ρ W' H' → H' dd = some (.xd [(c.fld n, v)]) → Rep K c W' p v → E (.ref (c.ca n)) (some dd) H'
def OutS (K : PySem.W.Frag) (c : Cn) (W : Wd) (H : Hp) (σ : L2.St) (ρ : En) (E : XK) (D : Ends) : Res Fl → Prop
  | .ok (.nx ρ') S' => ∀ W' H' σ', StOk K c W' H' S' → EnvOk K c W' H' σ' ρ' → Step W H σ ρ W' H' σ' ρ' → D.nx σ' H'
  | .ok (.bk ρ') S' => ∀ W' H' σ', StOk K c W' H' S' → EnvOk K c W' H' σ' ρ' → Step W H σ ρ W' H' σ' ρ' → D.bk σ' H'
  | .ok (.ct ρ') S' => ∀ W' H' σ', StOk K c W' H' S' → EnvOk K c W' H' σ' ρ' → Step W H σ ρ W' H' σ' ρ' → D.ct σ' H'
  | .ok (.rt d) S' => ∀ W' H' v, StOk K c W' H' S' → KeepS W H σ ρ W' H' → Rep K c W' d v → D.rt v H'
  | .er n p S' => ErS K c W H σ ρ E n p S'
  | .no => False
def tS (K : PySem.W.Frag) (c : Cn) (E : XK) (g : FS) : TS := fun D σ H => ∃ W ρ S, StOk K c W H S ∧ EnvOk K c W H σ ρ ∧ OutS K c W H σ ρ E D (g ρ S)
theorem ErS.pre {n : Nat} {p : D} (h : ErS K c W H σ ρ E n p S) (k : Step W H σ ρ W1 H1 σ1 ρ1) : ErS K c W1 H1 σ1 ρ1 E n p S :=
  fun W' H' dd v st' k' e r => h W' H' dd v st' (k.keepS k') e r
theorem ErS.q {n : Nat} {p : D} (h : ErS K c W H σ ρ E n p S) : ErQ K c W H E n p S := fun W' H' dd v st' k' e r => h W' H' dd v st' (k'.toS st') e r
theorem OutS.pre {D : Ends} {r : Res Fl} (h : OutS K c W H σ ρ E D r) (k : Step W H σ ρ W1 H1 σ1 ρ1) : OutS K c W1 H1 σ1 ρ1 E D r := by
  cases r with
  | ok f S' =>
    cases f with
    | nx ρ' => exact fun W' H' σ' st' en' k' => h W' H' σ' st' en' (k.trans k')
    | bk ρ' => exact fun W' H' σ' st' en' k' => h W' H' σ' st' en' (k.trans k')
    | ct ρ' => exact fun W' H' σ' st' en' k' => h W' H' σ' st' en' (k.trans k')
    | rt d => exact fun W' H' v st' k' r => h W' H' v st' (k.keepS k') r
  | er n p S' => exact ErS.pre h k
  | no => exact h
/-! ### storing -/
theorem EnvOk.setV (en : EnvOk K c W H σ ρ) {d : D} {v : V} (r : Rep K c W d v) (i : Nat) : EnvOk K c W H (σ.set i (some v)) (setV i d ρ) := by
  have hl := en.len
  refine ⟨by unfold Mini.setV; rw [List.length_set, List.length_set]; exact hl, fun j e h => ?_, fun j e h => ?_, fun j k d1 d2 a h1 h2 h3 h4 => ?_⟩
  · unfold Mini.setV at h
    by_cases hj : i = j
    · subst hj
      have hi : i < ρ.length := by
        have := (List.getElem?_eq_some_iff.mp h).1
        rwa [List.length_set] at this
      rw [List.getElem?_set_self hi] at h
      cases h
      exact ⟨v, List.getElem?_set_self (by rw [← hl]; exact hi), r⟩
    · rw [List.getElem?_set_ne hj] at h ⊢
      exact en.vl j e h
  · unfold Mini.setV at h
    by_cases hj : i = j
    · subst hj
      have hi : i < ρ.length := by
        have := (List.getElem?_eq_some_iff.mp h).1
        rwa [List.length_set] at this
      rw [List.getElem?_set_self hi] at h
      cases h
    · rw [List.getElem?_set_ne hj] at h ⊢
      exact en.ow j e h
  · unfold Mini.setV at h1 h2
    have n1 : i ≠ j := fun e => by
      subst e
      have hi : i < ρ.length := by
        have := (List.getElem?_eq_some_iff.mp h1).1
        rwa [List.length_set] at this
      rw [List.getElem?_set_self hi] at h1
      cases h1
    have n2 : i ≠ k := fun e => by
      subst e
      have hi : i < ρ.length := by
        have := (List.getElem?_eq_some_iff.mp h2).1
        rwa [List.length_set] at this
      rw [List.getElem?_set_self hi] at h2
      cases h2
    rw [List.getElem?_set_ne n1] at h1 h3
    rw [List.getElem?_set_ne n2] at h2 h4
    exact en.sep j k d1 d2 a h1 h2 h3 h4
theorem owned_setV {d : D} {v : Option V} {i : Nat} {b : Addr} (h : Owned (σ.set i v) (setV i d ρ) b) : Owned σ ρ b := by
  obtain ⟨j, e, h1, h2⟩ := h
  unfold setV at h1
  have n1 : i ≠ j := fun z => by
    subst z
    have hi : i < ρ.length := by
      have := (List.getElem?_eq_some_iff.mp h1).1
      rwa [List.length_set] at this
    rw [List.getElem?_set_self hi] at h1
    cases h1
  rw [List.getElem?_set_ne n1] at h1 h2
  exact ⟨j, e, h1, h2⟩
theorem EnvOk.own_some (en : EnvOk K c W H σ ρ) {b : Addr} (h : Owned σ ρ b) : ∃ o, H b = some o := by
  obtain ⟨i, d, h1, h2⟩ := h
  obtain ⟨a, h3, _, _, h4⟩ := en.ow i d h1
  rw [h2] at h3
  cases h3
  exact h4.some
theorem EnvOk.setO (en : EnvOk K c W H σ ρ) {d : D} {a : Addr} (hn : ¬ Owned σ ρ a) (h0 : W.H0 a = none) (hs : W.sa ≠ some a) (ho : Own K c W H a d) (i : Nat) : EnvOk K c W H (σ.set i (some (.ref a))) (setO i d ρ) := by
  have hl := en.len
  refine ⟨by unfold Mini.setO; rw [List.length_set, List.length_set]; exact hl, fun j e h => ?_, fun j e h => ?_, fun j k d1 d2 b h1 h2 h3 h4 => ?_⟩
  · unfold Mini.setO at h
    by_cases hj : i = j
    · subst hj
      have hi : i < ρ.length := by
        have := (List.getElem?_eq_some_iff.mp h).1
        rwa [List.length_set] at this
      rw [List.getElem?_set_self hi] at h
      cases h
    · rw [List.getElem?_set_ne hj] at h ⊢
      exact en.vl j e h
  · unfold Mini.setO at h
    by_cases hj : i = j
    · subst hj
      have hi : i < ρ.length := by
        have := (List.getElem?_eq_some_iff.mp h).1
        rwa [List.length_set] at this
      rw [List.getElem?_set_self hi] at h
      cases h
      exact ⟨a, List.getElem?_set_self (by rw [← hl]; exact hi), h0, hs, ho⟩
    · rw [List.getElem?_set_ne hj] at h ⊢
      exact en.ow j e h
  · unfold Mini.setO at h1 h2
    by_cases hj : i = j
    · by_cases hk : i = k
      · exact hj.symm.trans hk
      · subst hj
        have hi : i < σ.length := by
          have := (List.getElem?_eq_some_iff.mp h3).1
          rwa [List.length_set] at this
        rw [List.getElem?_set_self hi] at h3
        cases h3
        rw [List.getElem?_set_ne hk] at h2 h4
        exact absurd ⟨k, d2, h2, h4⟩ hn
    · by_cases hk : i = k
      · subst hk
        have hi : i < σ.length := by
          have := (List.getElem?_eq_some_iff.mp h4).1
          rwa [List.length_set] at this
        rw [List.getElem?_set_self hi] at h4
        cases h4
        rw [List.getElem?_set_ne hj] at h1 h3
        exact absurd ⟨j, d1, h1, h3⟩ hn
      · rw [List.getElem?_set_ne hj] at h1 h3
        rw [List.getElem?_set_ne hk] at h2 h4
        exact en.sep j k d1 d2 b h1 h2 h3 h4
theorem owned_setO {d : D} {a : Addr} {i : Nat} {b : Addr} (h : Owned (σ.set i (some (.ref a))) (setO i d ρ) b) : b = a ∨ Owned σ ρ b := by
  obtain ⟨j, e, h1, h2⟩ := h
  unfold setO at h1
  by_cases hj : i = j
  · subst hj
    have hi : i < σ.length := by
      have := (List.getElem?_eq_some_iff.mp h2).1
      rwa [List.length_set] at this
    rw [List.getElem?_set_self hi] at h2
    cases h2
    exact .inl rfl
  · rw [List.getElem?_set_ne hj] at h1 h2
    exact .inr ⟨j, e, h1, h2⟩
/-! ### expressions ahead of statements -/
theorem thenS_M {f : FE} {g : D → M Fl} {Q : VK} {D : Ends} (st : StOk K c W H S) (en : EnvOk K c W H σ ρ) (h : OutS K c W H σ ρ E D (bd (f ρ) g S))
    (k : ∀ d S' W' H' v, StOk K c W' H' S' → EnvOk K c W' H' σ ρ → Step W H σ ρ W' H' σ ρ → Rep K c W' d v → OutS K c W' H' σ ρ E D (g d S') → Q v H') : tM K c E f σ H Q :=
  then_M (O := OutS K c W H σ ρ E D) st en (fun _ _ _ z => ErS.q z) (fun z => z) h fun d S1 W1 H1 v st1 k1 r1 q1 =>
    k d S1 W1 H1 v st1 (en.ext k1) (k1.toStep st1) r1 (OutS.pre q1 (k1.toStep st1))
theorem thenS_T {f : FB} {g : Bool → M Fl} {Q : Bool → Hp → Prop} {D : Ends} (st : StOk K c W H S) (en : EnvOk K c W H σ ρ) (h : OutS K c W H σ ρ E D (bd (f ρ) g S))
    (k : ∀ d S' W' H', StOk K c W' H' S' → EnvOk K c W' H' σ ρ → Step W H σ ρ W' H' σ ρ → OutS K c W' H' σ ρ E D (g d S') → Q d H') : tT K c E f σ H Q :=
  then_T (O := OutS K c W H σ ρ E D) st en (fun _ _ _ z => ErS.q z) (fun z => z) h fun d S1 W1 H1 st1 k1 q1 =>
    k d S1 W1 H1 st1 (en.ext k1) (k1.toStep st1) (OutS.pre q1 (k1.toStep st1))
end
section
variable {X : Cx} {c : Cn} {E : XK} {st : Stmt} {rest : List Stmt} {a b e tg : Expr} {fa fb : FE} {ta : FB} {g h : FS} {pos : Pos} {td : TGd}
theorem ms_nil : PSs X [] (tS X.K c E skipS) := ⟨fun pins s σ H D I q => by
  obtain ⟨W, ρ, S, st, en, q⟩ := q
  exact pss_nil.run pins s σ H D I (q W H σ st en (Step.refl W H σ ρ))⟩
theorem ms_cons (h1 : PS X st (tS X.K c E g)) (h2 : PSs X rest (tS X.K c E h)) : PSs X (st :: rest) (tS X.K c E (seqS g h)) := ⟨fun pins s σ H D I q => by
  refine (pss_cons h1 h2).run pins s σ H D I ?_
  obtain ⟨W, ρ, S, st, en, q⟩ := q
  refine ⟨W, ρ, S, st, en, ?_⟩
  unfold seqS bd at q
  cases e : g ρ S with
  | ok f S' =>
    rw [e] at q
    cases f with
    | nx ρ' => exact fun W' H' σ' st' en' k' => ⟨W', ρ', S', st', en', OutS.pre q k'⟩
    | bk ρ' => exact q
    | ct ρ' => exact q
    | rt d => exact q
  | er n p S' =>
    rw [e] at q
    exact q
  | no =>
    rw [e] at q
    exact q⟩
theorem ms_one (h1 : PS X st (tS X.K c E g)) : PSs X [st] (tS X.K c E g) := pss_one h1
theorem ms_pass : PS X (.Pass pos) (tS X.K c E skipS) := ps_imp ps_pass fun D σ H q => by
  obtain ⟨W, ρ, S, st, en, q⟩ := q
  exact q W H σ st en (Step.refl W H σ ρ)
theorem ms_break : PS X (.Break pos) (tS X.K c E brkS) := ps_imp ps_break fun D σ H q => by
  obtain ⟨W, ρ, S, st, en, q⟩ := q
  exact q W H σ st en (Step.refl W H σ ρ)
theorem ms_continue : PS X (.Continue pos) (tS X.K c E cntS) := ps_imp ps_continue fun D σ H q => by
  obtain ⟨W, ρ, S, st, en, q⟩ := q
  exact q W H σ st en (Step.refl W H σ ρ)
theorem ms_expr (he : PE X e (tM X.K c E fa)) (hs : swapsWith e none pos.line X.env = pure false := by rfl) : PS X (.Expr e pos) (tS X.K c E (exprS fa)) := ps_imp (ps_expr he hs) fun D σ H q => by
  obtain ⟨W, ρ, S, st, en, q⟩ := q
  exact thenS_M st en q fun d S' W' H' v st' en' k r q' => q' W' H' σ st' en' (Step.refl W' H' σ ρ)
theorem ms_ret (he : PE X e (tM X.K c E fa)) : PS X (.Return (some e) pos) (tS X.K c E (retS fa)) := ps_imp (ps_ret he) fun D σ H q => by
  obtain ⟨W, ρ, S, st, en, q⟩ := q
  exact thenS_M st en q fun d S' W' H' v st' en' k r q' => q' W' H' v st' (Step.refl W' H' σ ρ).toKeepS r
theorem ms_retN : PS X (.Return none pos) (tS X.K c E retNS) := ps_imp ps_retN fun D σ H q => by
  obtain ⟨W, ρ, S, st, en, q⟩ := q
  exact q W H .non st (Step.refl W H σ ρ).toKeepS rfl
theorem ms_if {t : Expr} {x y : List Stmt} (ht : PT X t (tT X.K c E ta)) (hx : PSs X x (tS X.K c E g)) (hy : PSs X y (tS X.K c E h)) : PS X (.If t x y pos) (tS X.K c E (ifS ta g h)) := ps_imp (ps_if ht hx hy) fun D σ H q => by
  obtain ⟨W, ρ, S, st, en, q⟩ := q
  refine thenS_T st en q fun d S' W' H' st' en' k q' => ?_
  cases d with
  | true => exact ⟨W', ρ, S', st', en', q'⟩
  | false => exact ⟨W', ρ, S', st', en', q'⟩
theorem asg_out {i : Nat} {te : TE} (ht : ∀ σ H Q, tM X.K c E fa σ H Q → te σ H Q) : ∀ D σ H, tS X.K c E (asgS i fa) D σ H → tAsg te (gName i) D σ H := fun D σ H q => by
  obtain ⟨W, ρ, S, st, en, q⟩ := q
  exact ht σ H _ (thenS_M st en q fun d S' W' H' v st' en' k r q' => q' W' H' _ st' (en'.setV r i) ⟨(Step.refl W' H' σ ρ).toKeepS, fun b z => .inr (owned_setV z)⟩)
theorem ms_set {i : Nat} {x : Str} {pos' : Pos} (hN : X.N.Nodup) (hi : X.N[i]? = some x) (hx : Loc X.env.scope x) (he : PE X e (tM X.K c E fa)) (hs : swapsWith e (some (.Name x pos')) pos.line X.env = pure false := by rfl)
    (hf : X.fn x = true ∨ X.env.scope.names.lookup x = some .local := by first | exact .inl rfl | exact .inr rfl | assumption) : PS X (.Assign [.Name x pos'] e pos) (tS X.K c E (asgS i fa)) := ps_imp (ps_set hN hi hx he hs hf) (asg_out fun _ _ _ z => z)
theorem asgO_out {i : Nat} {te : TE} (ht : ∀ σ H Q, tO X.K c E fa σ H Q → te σ H Q) : ∀ D σ H, tS X.K c E (asgOS i fa) D σ H → tAsg te (gName i) D σ H := fun D σ H q => by
  obtain ⟨W, ρ, S, st, en, q⟩ := q
  refine ht σ H _ (tO_mk st en ?_)
  unfold asgOS bd at q
  cases e : fa ρ S with
  | ok d S' =>
    rw [e] at q
    rintro W' H' v st' k' ⟨p, rfl, n1, n2, n3, own⟩
    have en' := en.ext k'
    have no : ¬ Owned σ ρ p := fun z => by
      obtain ⟨o, ho⟩ := en.own_some z
      rw [n1] at ho
      cases ho
    refine q W' H' _ st' (en'.setO no n2 n3 own i) ⟨k'.toS st', fun b z => ?_⟩
    rcases owned_setO z with rfl | z
    · exact .inl n1
    · exact .inr z
  | er n p S' =>
    rw [e] at q
    exact ErS.q q
  | no =>
    rw [e] at q
    exact q
theorem ms_setO {i : Nat} {x : Str} {pos' : Pos} (hN : X.N.Nodup) (hi : X.N[i]? = some x) (hx : Loc X.env.scope x) (he : PE X e (tO X.K c E fa)) (hs : swapsWith e (some (.Name x pos')) pos.line X.env = pure false := by rfl)
    (hf : X.fn x = true ∨ X.env.scope.names.lookup x = some .local := by first | exact .inl rfl | exact .inr rfl | assumption) : PS X (.Assign [.Name x pos'] e pos) (tS X.K c E (asgOS i fa)) := ps_imp (ps_set hN hi hx he hs hf) (asgO_out fun _ _ _ z => z)
/-- a ghost ahead of a statement -/
theorem frz_out {i : Nat} {t : TS} (hg : ∀ D σ H, tS X.K c E g D σ H → t D σ H) : ∀ D σ H, tS X.K c E (frzS i g) D σ H → t D σ H := fun D σ H q => by
  refine hg D σ H ?_
  obtain ⟨W, ρ, S, st, en, q⟩ := q
  unfold frzS at q
  split at q
  · rename_i d hi
    obtain ⟨a, h1, h2, h3, h4⟩ := en.ow i d hi
    obtain ⟨o, ho⟩ := h4.some
    have st' := frz_st st h2 h3 ho
    have eσ : σ.set i (some (.ref a)) = σ := by
      obtain ⟨hl, hv⟩ := List.getElem?_eq_some_iff.mp h1
      rw [← hv]
      exact List.set_getElem_self hl
    have hil : i < ρ.length := (List.getElem?_eq_some_iff.mp hi).1
    -- the others stay ours
    have en' : EnvOk X.K c (W.frz a o) H σ (setV i d ρ) := by
      refine ⟨by unfold setV; rw [List.length_set]; exact en.len, fun j e hj => ?_, fun j e hj => ?_, fun j k d1 d2 b j1 j2 j3 j4 => ?_⟩
      · unfold setV at hj
        by_cases hji : i = j
        · subst hji
          rw [List.getElem?_set_self hil] at hj
          cases hj
          exact ⟨_, h1, frz_rep h2 ho h4⟩
        · rw [List.getElem?_set_ne hji] at hj
          obtain ⟨v, q1, q2⟩ := en.vl j e hj
          exact ⟨v, q1, Rep.ext (frz_ex h2) e v q2⟩
      · unfold setV at hj
        by_cases hji : i = j
        · subst hji
          rw [List.getElem?_set_self hil] at hj
          cases hj
        · rw [List.getElem?_set_ne hji] at hj
          obtain ⟨a2, q1, q2, q3, q4⟩ := en.ow j e hj
          have hne : a2 ≠ a := fun z => hji (en.sep i j d e a hi hj h1 (by rw [q1, z]))
          exact ⟨a2, q1, (show upd W.H0 a o a2 = none by rw [upd_ne hne]; exact q2), q3, q4.ext (frz_ex h2) fun _ z => z⟩
      · unfold setV at j1 j2
        have n1 : i ≠ j := fun z => by
          subst z
          rw [List.getElem?_set_self hil] at j1
          cases j1
        have n2 : i ≠ k := fun z => by
          subst z
          rw [List.getElem?_set_self hil] at j2
          cases j2
        rw [List.getElem?_set_ne n1] at j1
        rw [List.getElem?_set_ne n2] at j2
        exact en.sep j k d1 d2 b j1 j2 j3 j4
    refine ⟨W.frz a o, setV i d ρ, S, st', en', OutS.pre q ⟨⟨frz_ex h2, fun _ _ z _ _ => z, fun b u hb no e => ?_, fun _ _ _ z => z, fun _ u z => ⟨u, z⟩⟩, fun b z => .inr ?_⟩⟩
    · show upd W.H0 a o b = none
      rw [upd_ne fun z => no ⟨i, d, hi, by rw [h1, z]⟩]
      exact e
    · rw [← eσ] at z
      exact owned_setV z
  · exact ⟨W, ρ, S, st, en, q⟩
theorem ms_frz {i : Nat} (h1 : PS X st (tS X.K c E g)) : PS X st (tS X.K c E (frzS i g)) := ps_imp h1 (frz_out fun _ _ _ z => z)
/-! targets -/
theorem wipe_set {σ : L2.St} {i : Nat} {x : Option V} : ∀ {vs : List Nat}, i ∈ vs → L2.wipe (σ.set i x) vs = L2.wipe σ vs
  | [], h => by simp at h
  | v :: vs, h => by
    show (L2.wipe (σ.set i x) vs).set v none = (L2.wipe σ vs).set v none
    by_cases hm : i ∈ vs
    · rw [wipe_set hm]
    · rcases List.mem_cons.mp h with rfl | h
      · have comm : ∀ (us : List Nat), i ∉ us → L2.wipe (σ.set i x) us = (L2.wipe σ us).set i x := fun us => by
          induction us with
          | nil => intro _; rfl
          | cons u us ih =>
            intro hu
            have h1 : i ≠ u := fun e => hu (by simp [e])
            have h2 : i ∉ us := fun e => hu (List.mem_cons_of_mem _ e)
            show (L2.wipe (σ.set i x) us).set u none = ((L2.wipe σ us).set u none).set i x
            rw [ih h2, List.set_comm _ _ h1]
        rw [comm vs hm, List.set_set]
      · exact absurd h hm
def tGd (K : PySem.W.Frag) (c : Cn) (us : List Nat) (t : TGd) : TG := fun v σ H Q => ∃ W ρ S d ρ', StOk K c W H S ∧ EnvOk K c W H σ ρ ∧ Rep K c W d v ∧ t d ρ = some ρ' ∧ ∀ σ', EnvOk K c W H σ' ρ' → (∀ b, Owned σ' ρ' b → Owned σ ρ b) → L2.wipe σ' us = L2.wipe σ us → Q σ' H
def tGds (K : PySem.W.Frag) (c : Cn) (us : List Nat) (ts : List TGd) : TGs := fun vs σ H Q => ∃ W ρ S ds ρ', StOk K c W H S ∧ EnvOk K c W H σ ρ ∧ RepL K c W ds vs ∧ tgs ts ds ρ = some ρ' ∧ ∀ σ', EnvOk K c W H σ' ρ' → (∀ b, Owned σ' ρ' b → Owned σ ρ b) → L2.wipe σ' us = L2.wipe σ us → Q σ' H
theorem pg_imp {t t' : TG} (h : PG X tg t) (i : ∀ v σ H Q, t' v σ H Q → t v σ H Q) : PG X tg t' := ⟨fun pins s σ H v u Q I r q => h.run pins s σ H v u Q I r (i v σ H Q q)⟩
theorem pgs_imp {es : List Expr} {t t' : TGs} (h : PGs X es t) (i : ∀ v σ H Q, t' v σ H Q → t v σ H Q) : PGs X es t' := ⟨fun pins s σ H v u Q I r q => h.run pins s σ H v u Q I r (i v σ H Q q)⟩
theorem mg_name {i : Nat} {x : Str} {us : List Nat} (hN : X.N.Nodup) (hi : X.N[i]? = some x) (hx : Loc X.env.scope x) (hu : i ∈ us := by decide) (hf : X.fn x = true ∨ X.env.scope.names.lookup x = some .local := by first | exact .inl rfl | exact .inr rfl | assumption) : PG X (.Name x pos) (tGd X.K c us (tgN i)) :=
  pg_imp (pg_name hN hi hx hf) fun v σ H Q h => by
    obtain ⟨W, ρ, S, d, ρ', st, en, r, e, q⟩ := h
    cases e
    exact q _ (en.setV r i) (fun b z => owned_setV z) (wipe_set hu)
theorem mgs_nil {us : List Nat} : PGs X [] (tGds X.K c us []) := pgs_imp pgs_nil fun vs σ H Q h => by
  obtain ⟨W, ρ, S, ds, ρ', st, en, r, e, q⟩ := h
  cases ds with
  | nil =>
    cases r
    cases e
    exact ⟨rfl, q σ en (fun _ z => z) rfl⟩
  | cons d ds => cases e
theorem mgs_cons {us : List Nat} {es : List Expr} {t : TGd} {ts : List TGd} (h1 : PG X e (tGd X.K c us t)) (h2 : PGs X es (tGds X.K c us ts)) (hs : (assignEach (e :: es) X.env).map (·.2) = assign e X.env :: (assignEach es X.env).map (·.2) := by rfl) : PGs X (e :: es) (tGds X.K c us (t :: ts)) :=
  pgs_imp (pgs_cons h1 h2 hs) fun vs σ H Q h => by
    obtain ⟨W, ρ, S, ds, ρ', st, en, r, e, q⟩ := h
    cases ds with
    | nil => cases e
    | cons d ds =>
      obtain ⟨v, r', rfl, r1, r2⟩ := r
      obtain ⟨ρ1, e1, e2⟩ := Option.bind_eq_some_iff.mp e
      exact ⟨v, r', rfl, W, ρ, S, d, ρ1, st, en, r1, e1, fun σ1 en1 o1 w1 => ⟨W, ρ1, S, ds, ρ', st, en1, r2, e2, fun σ2 en2 o2 w2 => q σ2 en2 (fun b z => o1 b (o2 b z)) (w2.trans w1)⟩⟩
theorem tgs_len {ts : List TGd} {ds : List D} {ρ ρ' : En} (h : tgs ts ds ρ = some ρ') : ds.length = ts.length := by
  induction ts generalizing ds ρ with
  | nil =>
    cases ds with
    | nil => rfl
    | cons d ds => cases h
  | cons t ts ih =>
    cases ds with
    | nil => cases h
    | cons d ds =>
      obtain ⟨ρ1, e1, e2⟩ := Option.bind_eq_some_iff.mp h
      rw [List.length_cons, List.length_cons, ih e2]
theorem mg_tup {us : List Nat} {es : List Expr} {k : Nat} {ts : List TGd} (hc : X.calm = true) (h : PGs X es (tGds X.K c us ts)) (hn : (assignEach es X.env).length = ts.length := by rfl) (hst : (assignEach es X.env).findIdx? (·.1) = none := by rfl) : PG X (.Tuple es k pos) (tGd X.K c us (tgT ts)) :=
  pg_imp (pg_tup hc h hn hst) fun v σ H Q h => by
    obtain ⟨W, ρ, S, d, ρ', st, en, r, e, q⟩ := h
    cases d <;> first | (cases e; done) | skip
    obtain ⟨a, vs, rfl, h1, h2⟩ := r
    exact ⟨a, vs, rfl, SqT.of (st.sub _ _ h1), by rw [RepL.length h2]; exact tgs_len e, W, ρ, S, _, ρ', st, en, h2, e, q⟩
theorem ms_asg {us : List Nat} (he : PE X e (tM X.K c E fa)) (hg : PG X tg (tGd X.K c us td)) (hs : swapsWithSole [tg] e pos.line X.env = pure false := by rfl) (hw : swappedStores [tg] e X.env = pure none := by rfl)
    (h1 : (assignEach [tg] X.env).map (·.2) = [assign tg X.env] := by rfl) : PS X (.Assign [tg] e pos) (tS X.K c E (asgT td fa)) := ps_imp (ps_asg he hg hs hw h1) fun D σ H q => by
  obtain ⟨W, ρ, S, st, en, q⟩ := q
  refine thenS_M st en q fun d S' W' H' v st' en' k r q' => ?_
  unfold bd at q'
  cases e : td d ρ with
  | none => rw [e] at q'; exact q'.elim
  | some ρ' =>
    rw [e] at q'
    exact ⟨W', ρ, S', d, ρ', st', en', r, e, fun σ' en2 o2 _ => q' W' H' σ' st' en2 ⟨(Step.refl W' H' σ ρ).toKeepS, fun b z => .inr (o2 b z)⟩⟩
theorem ms_par {i j : Nat} {x y : Str} {px py pt : Pos} {kt k2 pt2} (hc : X.calm = true) (hN : X.N.Nodup) (hi : X.N[i]? = some x) (hj : X.N[j]? = some y) (hij : i ≠ j)
    (hx : X.env.scope.names.lookup x = some .local) (hy : X.env.scope.names.lookup y = some .local) (ha : PE X a (tM X.K c E fa)) (hb : PE X b (tM X.K c E fb)) 
    (hw : swappedStores [.Tuple [.Name x px, .Name y py] kt pt] (.Tuple [a, b] k2 pt2) X.env = pure (some [x, y]))
    (hs : swapsWithSole [.Tuple [.Name x px, .Name y py] kt pt] (.Tuple [a, b] k2 pt2) pos.line X.env = pure false := by rfl)
    (s1 : starEach [a, b] X.env = (false, eval a X.env) :: starEach [b] X.env := by rfl) (s2 : starEach [b] X.env = (false, eval b X.env) :: starEach [] X.env := by rfl) :
    PS X (.Assign [.Tuple [.Name x px, .Name y py] kt pt] (.Tuple [a, b] k2 pt2) pos) (tS X.K c E (parS i j fa fb)) :=
  ps_imp (ps_par hc hN hi hj hij hx hy (pa_cons ha (pa_cons hb pa_nil s2) s1) hw hs) fun D σ H q => by
    obtain ⟨W, ρ, S, st, en, q⟩ := q
    refine thenS_M st en q fun d S1 W1 H1 v st1 en1 k1 r1 q1 => ?_
    refine thenS_M st1 en1 q1 fun d2 S2 W2 H2 u st2 en2 k2 r2 q2 => ?_
    exact ⟨v, u, rfl, q2 W2 H2 _ st2 ((en2.setV (Rep.ext k2.wex d v r1) i).setV r2 j) ⟨(Step.refl W2 H2 σ ρ).toKeepS, fun b z => .inr (owned_setV (owned_setV z))⟩⟩
end
end Mini
namespace Mini
open PySem PySem.Spec PyProof.Rows L2 Evl

/-! ### what is walked -/
/-- the item x at the heap H', H the heap ahead: as it stood, or a new tuple of two -/
def Yld (K : PySem.W.Frag) (c : Cn) (W : Wd) (d : D) (H : Hp) (x : V) (H' : Hp) : Prop :=
  (H' = H ∧ Rep K c W d x) ∨ ∃ T x1 x2 d1 d2, x = .ref T ∧ H T = none ∧ H' = upd H T (.tup [x1, x2]) ∧ d = .tup [d1, d2] ∧ Rep K c W d1 x1 ∧ Rep K c W d2 x2
structure Itr2 (K : PySem.W.Frag) (c : Cn) (W : Wd) (J : It) (ds : List D) : Prop where
  go : ∀ i H, i < ds.length → Ex W.H0 H → J.go i H
  stop : ∀ H, Ex W.H0 H → J.stop ds.length H
  yld : ∀ i H x H' d, ds[i]? = some d → Ex W.H0 H → J.yld i H x H' → Yld K c W d H x H'
def OutI (K : PySem.W.Frag) (c : Cn) (W : Wd) (H : Hp) (E : XK) (R : It → Hp → Prop) : Res (List D) → Prop
  | .ok ds S' => ∀ W' H' J, StOk K c W' H' S' → Keep W H W' H' → Itr2 K c W' J ds → R J H'
  | .er n p S' => ErQ K c W H E n p S'
  | .no => False
def tI (K : PySem.W.Frag) (c : Cn) (E : XK) (g : FI) : TI := fun σ H R => ∃ W ρ S, StOk K c W H S ∧ EnvOk K c W H σ ρ ∧ OutI K c W H E R (g ρ S)
section
variable {K : PySem.W.Frag} {c : Cn} {W W1 W2 W' : Wd} {H H1 H2 H' : Hp} {S S1 S2 S' : DS} {σ σ1 σ2 σ' : L2.St} {ρ ρ1 ρ2 ρ' : En} {E : XK}
theorem repL_get' {ds : List D} {vs : List V} {j : Nat} {d : D} {v : V} (r : RepL K c W ds vs) (h : ds[j]? = some d) (hv : vs[j]? = some v) : Rep K c W d v := by
  obtain ⟨u, h1, h2⟩ := repL_get r h
  rw [hv] at h1
  cases h1
  exact h2
theorem itr_list {a : Addr} {vs : List V} {ds : List D} (h : W.H0 a = some (.lst vs)) (r : RepL K c W ds vs) : Itr2 K c W (Itl K a) ds where
  go := fun i H hi e => walk_list.goes i H (by rw [RepL.length r]; exact hi) (SqL.of (e _ _ h))
  stop := fun H e => by
    rw [← RepL.length r]
    exact walk_list.stops H (SqL.of (e _ _ h))
  yld := fun i H x H' d hd e y => by
    have hi : i < vs.length := by rw [RepL.length r]; exact (List.getElem?_eq_some_iff.mp hd).1
    obtain ⟨e1, e2⟩ := walk_list.yields i H x H' hi (SqL.of (e _ _ h)) y
    exact .inl ⟨e1, repL_get' r hd e2⟩
theorem itr_tup {a : Addr} {vs : List V} {ds : List D} (h : W.H0 a = some (.tup vs)) (r : RepL K c W ds vs) : Itr2 K c W (Itt K a) ds where
  go := fun i H hi e => walk_tup.goes i H (by rw [RepL.length r]; exact hi) (SqT.of (e _ _ h))
  stop := fun H e => by
    rw [← RepL.length r]
    exact walk_tup.stops H (SqT.of (e _ _ h))
  yld := fun i H x H' d hd e y => by
    have hi : i < vs.length := by rw [RepL.length r]; exact (List.getElem?_eq_some_iff.mp hd).1
    obtain ⟨e1, e2⟩ := walk_tup.yields i H x H' hi (SqT.of (e _ _ h)) y
    exact .inl ⟨e1, repL_get' r hd e2⟩
theorem itr_scr {a : Addr} {ns : List Int} (h : SqL K W.H0 a (ns.map V.int)) : Itr2 K c W (Itl K a) (ns.map D.int) where
  go := fun i H hi e => walk_list.goes i H (by rw [List.length_map] at hi ⊢; exact hi) (ex_l e h)
  stop := fun H e => by
    have q := walk_list.stops H (ex_l e h)
    rw [List.length_map] at q ⊢
    exact q
  yld := fun i H x H' d hd e y => by
    have hi : i < (ns.map V.int).length := by
      have := (List.getElem?_eq_some_iff.mp hd).1
      rw [List.length_map] at this ⊢
      exact this
    obtain ⟨e1, e2⟩ := walk_list.yields i H x H' hi (ex_l e h) y
    rw [List.getElem?_map] at hd e2
    cases q : ns[i]? with
    | none => rw [q] at hd; cases hd
    | some n =>
      rw [q] at hd e2
      cases hd
      cases e2
      exact .inl ⟨e1, rfl⟩
theorem itr_tpx {a : Addr} {o : Obj} {vs : List V} {ds : List D} (h : W.H0 a = some (.frz o (.tup vs))) (r : RepL K c W ds vs) : Itr2 K c W (Itt K a) ds where
  go := fun i H hi e => walk_tup.goes i H (by rw [RepL.length r]; exact hi) (.inl (.inr ⟨o, e _ _ h⟩))
  stop := fun H e => by
    rw [← RepL.length r]
    exact walk_tup.stops H (.inl (.inr ⟨o, e _ _ h⟩))
  yld := fun i H x H' d hd e y => by
    have hi : i < vs.length := by rw [RepL.length r]; exact (List.getElem?_eq_some_iff.mp hd).1
    obtain ⟨e1, e2⟩ := walk_tup.yields i H x H' hi (.inl (.inr ⟨o, e _ _ h⟩)) y
    exact .inl ⟨e1, repL_get' r hd e2⟩
def rngD (lo : Int) (n : Nat) : List D := (List.range n).map fun i => .int (lo + (i : Nat))
theorem rngD_length (lo : Int) (n : Nat) : (rngD lo n).length = n := by unfold rngD; rw [List.length_map, List.length_range]
theorem rngD_get {lo : Int} {n i : Nat} {d : D} (h : (rngD lo n)[i]? = some d) : i < n ∧ d = .int (lo + (i : Nat)) := by
  have hi := (List.getElem?_eq_some_iff.mp h).1
  rw [rngD_length] at hi
  unfold rngD at h
  rw [List.getElem?_map, List.getElem?_range hi] at h
  cases h
  exact ⟨hi, rfl⟩
theorem itr_rng {lo : Int} {n : Nat} : Itr2 K c W (L2.Itr lo n) (rngD lo n) where
  go := fun i H hi _ => by rw [rngD_length] at hi; exact hi
  stop := fun H _ => by rw [rngD_length]; exact Nat.le_refl _
  yld := fun i H x H' d hd _ y => by
    obtain ⟨_, rfl⟩ := rngD_get hd
    obtain ⟨e1, e2⟩ := y
    exact .inl ⟨e1, e2⟩
def rngC (lo k : Int) (n : Nat) : List D := (List.range n).map fun i => .int (lo + (i : Nat) * k)
theorem rngC_length (lo k : Int) (n : Nat) : (rngC lo k n).length = n := by unfold rngC; rw [List.length_map, List.length_range]
theorem itr_rngC {lo k : Int} {n : Nat} : Itr2 K c W (Itc lo k n) (rngC lo k n) where
  go := fun i H hi _ => by rw [rngC_length] at hi; exact hi
  stop := fun H _ => by rw [rngC_length]; exact Nat.le_refl _
  yld := fun i H x H' d hd _ y => by
    have hi := (List.getElem?_eq_some_iff.mp hd).1
    rw [rngC_length] at hi
    unfold rngC at hd
    rw [List.getElem?_map, List.getElem?_range hi] at hd
    cases hd
    obtain ⟨e1, e2⟩ := y
    exact .inl ⟨e1, e2⟩
def signsD (s : Str) : List D := s.cps.toList.map fun c => .str ⟨#[c]⟩
theorem sok_sign {s : Str} (h : SOk s) {x : Nat} (hx : x ∈ s.cps.toList) : SOk ⟨#[x]⟩ := by
  refine ⟨by show 1 ≤ 16777216; decide, ?_⟩
  have h3 : s.cps.all (· < 0x110000) = true := h.2
  exact all_drop_take (s := s.cps) (p := fun x => decide (x < 0x110000)) h3 [x] fun y hy => by
    have : y = x := by simpa using hy
    rw [this]; exact hx
theorem itr_str {s : Str} (h : SOk s) : Itr2 K c W (Its s) (signsD s) where
  go := fun i H hi _ => by
    refine walk_str.goes i H ?_ trivial
    unfold signsD at hi
    rw [List.length_map, Array.length_toList] at hi
    exact hi
  stop := fun H _ => by
    unfold signsD
    rw [List.length_map, Array.length_toList]
    exact walk_str.stops H trivial
  yld := fun i H x H' d hd _ y => by
    unfold signsD at hd
    have hi := (List.getElem?_eq_some_iff.mp hd).1
    rw [List.length_map, Array.length_toList] at hi
    obtain ⟨e1, c1, e2, rfl⟩ := walk_str.yields i H x H' hi trivial y
    rw [List.getElem?_map, Array.getElem?_toList, e2] at hd
    cases hd
    exact .inl ⟨e1, rfl, sok_sign h (List.mem_of_getElem? (by rw [Array.getElem?_toList]; exact e2))⟩
def enumD (ds : List D) : List D := (List.range ds.length).filterMap fun i => (ds[i]?).map fun d => .tup [.int (i : Nat), d]
def enumF : Nat → List D → List D
  | _, [] => []
  | n, d :: ds => .tup [.int (n : Nat), d] :: enumF (n + 1) ds
theorem enumF_get : ∀ {ds : List D} {n i : Nat} {e : D}, (enumF n ds)[i]? = some e → ∃ d, ds[i]? = some d ∧ e = .tup [.int ((n + i : Nat) : Int), d]
  | [], n, i, e, h => by simp [enumF] at h
  | d :: ds, n, 0, e, h => by
    simp only [enumF, List.getElem?_cons_zero, Option.some.injEq] at h
    exact ⟨d, rfl, h.symm⟩
  | d :: ds, n, i + 1, e, h => by
    simp only [enumF, List.getElem?_cons_succ] at h
    obtain ⟨d', h1, h2⟩ := enumF_get h
    exact ⟨d', by simpa using h1, by rw [h2]; congr 3; omega⟩
theorem enumF_length : ∀ (n : Nat) (ds : List D), (enumF n ds).length = ds.length
  | _, [] => rfl
  | n, d :: ds => by simp [enumF, enumF_length]
theorem itr_enum {a : Addr} {vs : List V} {ds : List D} (h : W.H0 a = some (.lst vs)) (r : RepL K c W ds vs) : Itr2 K c W (Ite K a) (enumF 0 ds) where
  go := fun i H hi e => walk_enum.goes i H (by rw [RepL.length r]; rwa [enumF_length] at hi) (SqL.of (e _ _ h))
  stop := fun H e => by
    rw [enumF_length, ← RepL.length r]
    exact walk_enum.stops H (SqL.of (e _ _ h))
  yld := fun i H x H' d hd e y => by
    obtain ⟨d2, h1, rfl⟩ := enumF_get hd
    have hi : i < vs.length := by rw [RepL.length r]; exact (List.getElem?_eq_some_iff.mp h1).1
    obtain ⟨T, x1, x2, q1, q2, q3, q4, q5⟩ := walk_enum.yields i H x H' hi (SqL.of (e _ _ h)) y
    cases q4
    exact .inr ⟨T, _, x2, _, _, q1, q2, q3, rfl, by rw [Nat.zero_add]; exact (rfl : Rep K c W (.int i) (.int i)), repL_get' r h1 q5⟩
def zipD : List D → List D → List D
  | d :: ds, e :: es => .tup [d, e] :: zipD ds es
  | _, _ => []
theorem zipD_get : ∀ {ds es : List D} {i : Nat} {x : D}, (zipD ds es)[i]? = some x → ∃ d e, ds[i]? = some d ∧ es[i]? = some e ∧ x = .tup [d, e]
  | [], es, i, x, h => by simp [zipD] at h
  | d :: ds, [], i, x, h => by simp [zipD] at h
  | d :: ds, e :: es, 0, x, h => by
    simp only [zipD, List.getElem?_cons_zero, Option.some.injEq] at h
    exact ⟨d, e, rfl, rfl, h.symm⟩
  | d :: ds, e :: es, i + 1, x, h => by
    simp only [zipD, List.getElem?_cons_succ] at h
    obtain ⟨d', e', h1, h2, h3⟩ := zipD_get h
    exact ⟨d', e', by simpa using h1, by simpa using h2, h3⟩
theorem zipD_length : ∀ (ds es : List D), (zipD ds es).length = min ds.length es.length
  | [], es => by simp [zipD]
  | d :: ds, [] => by simp [zipD]
  | d :: ds, e :: es => by simp [zipD, zipD_length, Nat.succ_min_succ]
theorem itr_zip {a b : Addr} {vs us : List V} {ds es : List D} (h : W.H0 a = some (.lst vs)) (h2 : W.H0 b = some (.lst us)) (r : RepL K c W ds vs) (r2 : RepL K c W es us) : Itr2 K c W (Itz K a b) (zipD ds es) where
  go := fun i H hi e => (walk_zip (xs := vs) (ys := us) rfl).goes i H (by rw [RepL.length r, RepL.length r2, ← zipD_length]; exact hi) ⟨SqL.of (e _ _ h), SqL.of (e _ _ h2)⟩
  stop := fun H e => by
    rw [zipD_length, ← RepL.length r, ← RepL.length r2]
    exact (walk_zip (xs := vs) (ys := us) rfl).stops H ⟨SqL.of (e _ _ h), SqL.of (e _ _ h2)⟩
  yld := fun i H x H' d hd e y => by
    have hi := (List.getElem?_eq_some_iff.mp hd).1
    rw [zipD_length, ← RepL.length r, ← RepL.length r2] at hi
    obtain ⟨d1, d2, h3, h4, rfl⟩ := zipD_get hd
    obtain ⟨T, x1, x2, q1, q2, q3, q4, q5⟩ := (walk_zip (xs := vs) (ys := us) rfl).yields i H x H' hi ⟨SqL.of (e _ _ h), SqL.of (e _ _ h2)⟩ y
    exact .inr ⟨T, x1, x2, _, _, q1, q2, q3, rfl, repL_get' r h3 q4, repL_get' r2 h4 q5⟩
/-- behind an item -/
theorem Yld.lay (st : StOk K c W1 H S) (e : WEx W W1) {d : D} {x : V} (y : Yld K c W d H x H') : ∃ W2, StOk K c W2 H' S ∧ Keep W1 H W2 H' ∧ Rep K c W2 d x := by
  rcases y with ⟨rfl, r⟩ | ⟨T, x1, x2, d1, d2, rfl, h1, rfl, rfl, r1, r2⟩
  · exact ⟨W1, st, Keep.refl _ _, Rep.ext e d x r⟩
  · exact ⟨_, lay_st st h1, lay_keep st h1, new_tup st h1 ⟨x1, _, rfl, Rep.ext e d1 x1 r1, x2, _, rfl, Rep.ext e d2 x2 r2, rfl⟩⟩
/-- the same where the step tells nothing is frozen anew -/
theorem KeepS.of_owned (k : KeepS W H σ1 ρ1 W' H') (h : ∀ b, Owned σ1 ρ1 b → Owned σ ρ b) : KeepS W H σ ρ W' H' := ⟨k.wex, fun b o q n no => k.old b o q n fun z => no (h b z), fun b o q no => k.fr b o q fun z => no (h b z), k.sa, k.there⟩
theorem Step.of_owned (k : Step W H σ1 ρ1 W' H' σ' ρ') (h : ∀ b, Owned σ1 ρ1 b → Owned σ ρ b) : Step W H σ ρ W' H' σ' ρ' := ⟨k.toKeepS.of_owned h, fun b z => (k.own b z).imp id (h b)⟩
end
section
variable {X : Cx} {c : Cn} {E : XK} {a b e tg iter : Expr} {fa fb : FE} {it : FI} {td : TGd} {g : FS} {bodyS : List Stmt} {pos : Pos}
theorem ms_for {us : List Nat} (hp : PassesOwn (model X.prog X.w) X.A X.env X.xe) (hc : X.calm = true) (hi : PI X tg iter (tI X.K c E it)) (hg : PG X tg (tGd X.K c us td)) (hb : PSs X bodyS (tS X.K c E g))
    (hs : ∀ x, foldedSetIterable iter X.env x = pure x := by intro _; rfl) : PS X (.For tg iter bodyS [] pos) (tS X.K c E (forS it td g)) := ps_imp (ps_for hp hc hi hg hb hs) fun D σ H q => by
  obtain ⟨W, ρ, S, st, en, q⟩ := q
  refine ⟨W, ρ, S, st, en, ?_⟩
  unfold forS bd at q
  cases e : it ρ S with
  | er n p S' =>
    rw [e] at q
    exact ErS.q q
  | no =>
    rw [e] at q
    exact q
  | ok ds S' =>
    rw [e] at q
    intro W' H' J st' k' wk
    have q0 : OutS X.K c W' H' σ ρ E D (forL td g ds ρ S') := OutS.pre q (k'.toStep st')
    have en' := en.ext k'
    refine ⟨fun i m σ1 H1 => m = ds.length - i ∧ i ≤ ds.length ∧ ∃ W1 ρ1 S1, StOk X.K c W1 H1 S1 ∧ EnvOk X.K c W1 H1 σ1 ρ1 ∧ Step W' H' σ ρ W1 H1 σ1 ρ1 ∧ OutS X.K c W' H' σ ρ E D (forL td g (ds.drop i) ρ1 S1),
      ⟨ds.length, rfl, Nat.zero_le _, W', ρ, S', st', en', Step.refl _ _ _ _, q0⟩, ?_⟩
    rintro i m σ1 H1 ⟨rfl, hi, W1, ρ1, S1, st1, en1, k1, q1⟩
    have ex1 : Ex W'.H0 H1 := k1.wex.1.trans st1.sub
    by_cases hlt : i < ds.length
    · refine .inr ⟨wk.go i H1 hlt ex1, fun σ2 H2 => ∃ W2 ρ2 S2, StOk X.K c W2 H2 S2 ∧ EnvOk X.K c W2 H2 σ2 ρ2 ∧ Step W' H' σ ρ W2 H2 σ2 ρ2 ∧ OutS X.K c W' H' σ ρ E D (forL td g (ds.drop (i + 1)) ρ2 S2), fun σ2 H2 n2 => ⟨ds.length - (i + 1), by omega, rfl, hlt, n2⟩, fun x H2 y => ?_⟩
      have hd : ds[i]? = some ds[i] := List.getElem?_eq_getElem hlt
      rw [List.drop_eq_getElem_cons hlt] at q1
      unfold forL bd at q1
      cases e1 : td ds[i] ρ1 with
      | none => rw [e1] at q1; exact q1.elim
      | some ρ2 =>
        rw [e1] at q1
        obtain ⟨W2, st2, kk2, r2⟩ := (wk.yld i H1 x H2 _ hd ex1 y).lay st1 k1.wex
        have en2 := en1.ext kk2
        refine ⟨W2, ρ1, S1, ds[i], ρ2, st2, en2, r2, e1, fun σ3 en3 o3 _ => ⟨W2, ρ2, S1, st2, en3, ?_⟩⟩
        have k2 : Step W' H' σ ρ W2 H2 σ3 ρ2 := k1.trans ((kk2.toStep st2).trans ⟨(Step.refl W2 H2 σ1 ρ1).toKeepS, fun b z => .inr (o3 b z)⟩)
        change OutS X.K c W' H' σ ρ E D (bd (g ρ2) _ S1) at q1
        unfold bd at q1
        cases e2 : g ρ2 S1 with
        | no => rw [e2] at q1; exact q1
        | er n p S2 => rw [e2] at q1; exact ErS.pre q1 k2
        | ok f S2 =>
          rw [e2] at q1
          cases f with
          | nx ρ4 => exact fun W4 H4 σ4 st4 en4 k4 => ⟨W4, ρ4, S2, st4, en4, k2.trans k4, q1⟩
          | ct ρ4 => exact fun W4 H4 σ4 st4 en4 k4 => ⟨W4, ρ4, S2, st4, en4, k2.trans k4, q1⟩
          | bk ρ4 => exact fun W4 H4 σ4 st4 en4 k4 => q1 W4 H4 σ4 st4 en4 (k2.trans k4)
          | rt d => exact fun W4 H4 v st4 k4 r4 => q1 W4 H4 v st4 (k2.keepS k4) r4
    · have ei : i = ds.length := by omega
      subst ei
      refine .inl ⟨wk.stop H1 ex1, ?_⟩
      rw [List.drop_length] at q1
      exact q1 W1 H1 σ1 st1 en1 k1
theorem ms_while {t : Expr} {ta : FB} {w : Nat} (hp : PassesOwn (model X.prog X.w) X.A X.env X.xe) (hc : PT X t (tT X.K c E ta)) (hb : PSs X bodyS (tS X.K c E g)) : PS X (.While t bodyS [] pos) (tS X.K c E (whileS ta g w)) := ps_imp (ps_while hp hc hb) fun D σ H q => by
  obtain ⟨W, ρ, S, st, en, q⟩ := q
  refine ⟨fun m σ1 H1 => ∃ W1 ρ1 S1, StOk X.K c W1 H1 S1 ∧ EnvOk X.K c W1 H1 σ1 ρ1 ∧ Step W H σ ρ W1 H1 σ1 ρ1 ∧ OutS X.K c W H σ ρ E D (whileS ta g m ρ1 S1), ⟨w, W, ρ, S, st, en, Step.refl _ _ _ _, q⟩, ?_⟩
  rintro m σ1 H1 ⟨W1, ρ1, S1, st1, en1, k1, q1⟩
  cases m with
  | zero => exact q1.elim
  | succ m =>
    unfold whileS at q1
    refine then_T (O := OutS X.K c W H σ ρ E D) st1 en1 (fun _ _ _ z => (ErS.pre z k1).q) (fun z => z) q1 fun d S2 W2 H2 st2 k2 q2 => ?_
    have k3 := k1.trans (k2.toStep st2)
    have en2 := en1.ext k2
    cases d with
    | false => exact q2 W2 H2 σ1 st2 en2 k3
    | true =>
      refine ⟨fun σ3 H3 => ∃ W3 ρ3 S3, StOk X.K c W3 H3 S3 ∧ EnvOk X.K c W3 H3 σ3 ρ3 ∧ Step W H σ ρ W3 H3 σ3 ρ3 ∧ OutS X.K c W H σ ρ E D (whileS ta g m ρ3 S3), fun σ3 H3 z => ⟨m, Nat.lt_succ_self m, z⟩, W2, ρ1, S2, st2, en2, ?_⟩
      change OutS X.K c W H σ ρ E D (bd (g ρ1) _ S2) at q2
      unfold bd at q2
      cases e2 : g ρ1 S2 with
      | no => rw [e2] at q2; exact q2
      | er n p S3 => rw [e2] at q2; exact ErS.pre q2 k3
      | ok f S3 =>
        rw [e2] at q2
        cases f with
        | nx ρ4 => exact fun W4 H4 σ4 st4 en4 k4 => ⟨W4, ρ4, S3, st4, en4, k3.trans k4, q2⟩
        | ct ρ4 => exact fun W4 H4 σ4 st4 en4 k4 => ⟨W4, ρ4, S3, st4, en4, k3.trans k4, q2⟩
        | bk ρ4 => exact fun W4 H4 σ4 st4 en4 k4 => q2 W4 H4 σ4 st4 en4 (k3.trans k4)
        | rt d => exact fun W4 H4 v st4 k4 r4 => q2 W4 H4 v st4 (k3.keepS k4) r4
/-! ### the iterators' rules -/
def seqAny : D → Option (List D)
  | .lst ds => some ds
  | .tup ds => some ds
  | .tpx ds => some ds
  | .str s => some (signsD s)
  | .scr ns => some (ns.map .int)
  | _ => none
def itS (a : FE) : FI := fun ρ => bd (a ρ) fun d => lift (seqAny d)
/-- a list, a tuple, a text -/
theorem mi_seq (he : PE X e (tM X.K c E fa)) : PI X tg e (tI X.K c E (itS fa)) := ⟨fun pins s σ H R I h => by
  obtain ⟨W, ρ, S, st, en, q⟩ := h
  -- which of them it is
  unfold itS bd at q
  cases e1 : fa ρ S with
  | no => rw [e1] at q; exact q.elim
  | er n p S' =>
    rw [e1] at q
    exact (pi_list he).run pins s σ H R I ⟨W, ρ, S, st, en, by rw [e1]; exact q⟩
  | ok d S' =>
    rw [e1] at q
    obtain ⟨ds, e2, q2⟩ := lift_ok (β := List D) (O := OutI X.K c W H E R) (fun z => z) q
    cases d <;> first | (cases e2; done) | skip
    · cases e2
      refine (pi_str he).run pins s σ H R I ⟨W, ρ, S, st, en, ?_⟩
      rw [e1]
      rintro W' H' v st' k' ⟨rfl, hs⟩
      exact ⟨_, rfl, q2 W' H' _ st' k' (itr_str hs)⟩
    · cases e2
      refine (pi_tup he).run pins s σ H R I ⟨W, ρ, S, st, en, ?_⟩
      rw [e1]
      rintro W' H' v st' k' ⟨a, vs, rfl, h1, r⟩
      exact ⟨a, rfl, ⟨vs, SqT.of (st'.sub _ _ h1)⟩, q2 W' H' _ st' k' (itr_tup h1 r)⟩
    · cases e2
      refine (pi_tup he).run pins s σ H R I ⟨W, ρ, S, st, en, ?_⟩
      rw [e1]
      rintro W' H' v st' k' ⟨a, vs, o, rfl, h1, _, r⟩
      exact ⟨a, rfl, ⟨vs, .inl (.inr ⟨o, st'.sub _ _ h1⟩)⟩, q2 W' H' _ st' k' (itr_tpx h1 r)⟩
    · cases e2
      refine (pi_list he).run pins s σ H R I ⟨W, ρ, S, st, en, ?_⟩
      rw [e1]
      rintro W' H' v st' k' ⟨a, vs, rfl, h1, r⟩
      exact ⟨a, rfl, ⟨vs, SqL.of (st'.sub _ _ h1)⟩, q2 W' H' _ st' k' (itr_list h1 r)⟩
    · cases e2
      refine (pi_list he).run pins s σ H R I ⟨W, ρ, S, st, en, ?_⟩
      rw [e1]
      rintro W' H' v st' k' ⟨a, rfl, h1⟩
      exact ⟨a, rfl, ⟨_, ex_l st'.sub h1⟩, q2 W' H' _ st' k' (itr_scr h1)⟩⟩
def big62 (i : Int) : Bool := decide (-(2 ^ 62) ≤ i ∧ i < 2 ^ 62)
def itR1 (a : FE) : FI := fun ρ => bd (a ρ) fun d => match d with
  | .int j => if big62 j then rt (rngD 0 j.toNat) else no
  | _ => no
def itR2 (a b : FE) : FI := fun ρ => bd (a ρ) fun d => bd (b ρ) fun e => match d, e with
  | .int i, .int j => if big62 i && big62 j then rt (rngD i (j - i).toNat) else no
  | _, _ => no
theorem mi_rng1 {p : Pos} (hg : Gl X "range") (hm : X.mg "range" = none) (ha : PE X a (tM X.K c E fa)) (hs : starEach [a] X.env = [(false, eval a X.env)] := by rfl) : PI X tg (.Call (.Name "range" p) [a] [] pos) (tI X.K c E (itR1 fa)) := ⟨fun pins s σ H R I h => by
  obtain ⟨W, ρ, S, st, en, q⟩ := h
  refine (pi_range1 hg hm (pa_cons ha pa_nil (by rw [hs]; rfl)) hs).run pins s σ H R I ?_
  refine then_M (O := OutI X.K c W H E R) st en (fun _ _ _ z => z) (fun z => z) q fun d S1 W1 H1 v st1 k1 r1 q1 => ?_
  cases d <;> first | exact (show False from q1).elim | skip
  rename_i j
  cases r1
  dsimp only at q1
  split at q1
  · rename_i hb
    unfold big62 at hb
    obtain ⟨h1, h2⟩ := of_decide_eq_true hb
    exact ⟨j, rfl, h1, h2, q1 W1 H1 _ st1 k1 itr_rng⟩
  · exact q1.elim⟩
theorem mi_rng2 {p : Pos} (hg : Gl X "range") (hm : X.mg "range" = none) (ha : PE X a (tM X.K c E fa)) (hb : PE X b (tM X.K c E fb)) (hs : starEach [a, b] X.env = [(false, eval a X.env), (false, eval b X.env)] := by rfl) (hs2 : starEach [b] X.env = [(false, eval b X.env)] := by rfl) : PI X tg (.Call (.Name "range" p) [a, b] [] pos) (tI X.K c E (itR2 fa fb)) := ⟨fun pins s σ H R I h => by
  obtain ⟨W, ρ, S, st, en, q⟩ := h
  refine (pi_range2 hg hm (pa_cons ha (pa_cons hb pa_nil (by rw [hs2]; rfl)) (by rw [hs, hs2])) hs hs2).run pins s σ H R I ?_
  refine then_M (O := OutI X.K c W H E R) st en (fun _ _ _ z => z) (fun z => z) q fun d S1 W1 H1 v st1 k1 r1 q1 => ?_
  refine then_M (O := OutI X.K c W H E R) st1 (en.ext k1) (fun _ _ _ z => ErQ.pre z k1 st1) (fun z => z) q1 fun d2 S2 W2 H2 u st2 k2 r2 q2 => ?_
  cases d <;> cases d2 <;> first | exact (show False from q2).elim | skip
  rename_i i j
  cases r1
  cases r2
  dsimp only at q2
  split at q2
  · rename_i hb
    unfold big62 at hb
    rw [Bool.and_eq_true] at hb
    obtain ⟨h1, h2⟩ := of_decide_eq_true hb.1
    obtain ⟨h3, h4⟩ := of_decide_eq_true hb.2
    exact ⟨i, j, rfl, ⟨h1, h2, h3, h4⟩, q2 W2 H2 _ st2 (k1.tr st1 k2) itr_rng⟩
  · exact q2.elim⟩
def lstOf : D → Option (List D)
  | .lst ds => some ds
  | _ => none
def itEn (a : FE) : FI := fun ρ => bd (a ρ) fun d => lift ((lstOf d).map (enumF 0))
theorem mi_enum {p tpos : Pos} {elts : List Expr} {kk : Nat} (hg : Gl X "enumerate") (hm : X.mg "enumerate" = none) (ha : PE X a (tM X.K c E fa)) (hs : starEach [a] X.env = [(false, eval a X.env)] := by rfl) : PI X (.Tuple elts kk tpos) (.Call (.Name "enumerate" p) [a] [] pos) (tI X.K c E (itEn fa)) := ⟨fun pins s σ H R I h => by
  obtain ⟨W, ρ, S, st, en, q⟩ := h
  refine (pi_enum hg hm (pa_cons ha pa_nil (by rw [hs]; rfl)) hs).run pins s σ H R I ?_
  refine then_M (O := OutI X.K c W H E R) st en (fun _ _ _ z => z) (fun z => z) q fun d S1 W1 H1 v st1 k1 r1 q1 => ?_
  cases d <;> first | exact (show False from q1).elim | skip
  obtain ⟨p, vs, rfl, h1, r⟩ := r1
  exact ⟨p, vs, rfl, SqL.of (st1.sub _ _ h1), q1 W1 H1 _ st1 k1 (itr_enum h1 r)⟩⟩
def itZp (a b : FE) : FI := fun ρ => bd (a ρ) fun d => bd (b ρ) fun e => match d, e with
  | .lst ds, .lst es => rt (zipD ds es)
  | _, _ => no
theorem mi_zip {p tpos : Pos} {elts : List Expr} {kk : Nat} (hg : Gl X "zip") (hm : X.mg "zip" = none) (ha : PE X a (tM X.K c E fa)) (hb : PE X b (tM X.K c E fb)) (hs : starEach [a, b] X.env = (false, eval a X.env) :: starEach [b] X.env := by rfl) (hs2 : starEach [b] X.env = (false, eval b X.env) :: starEach [] X.env := by rfl)
    (hpl : (backTo pos (starEach [b] X.env)).any (·.1) = false := by rfl) : PI X (.Tuple elts kk tpos) (.Call (.Name "zip" p) [a, b] [] pos) (tI X.K c E (itZp fa fb)) := ⟨fun pins s σ H R I h => by
  obtain ⟨W, ρ, S, st, en, q⟩ := h
  refine (pi_zip hg hm (pa_cons ha (pa_cons hb pa_nil hs2) hs) hs hpl).run pins s σ H R I ?_
  refine then_M (O := OutI X.K c W H E R) st en (fun _ _ _ z => z) (fun z => z) q fun d S1 W1 H1 v st1 k1 r1 q1 => ?_
  refine then_M (O := OutI X.K c W H E R) st1 (en.ext k1) (fun _ _ _ z => ErQ.pre z k1 st1) (fun z => z) q1 fun d2 S2 W2 H2 u st2 k2 r2 q2 => ?_
  cases d <;> cases d2 <;> first | exact (show False from q2).elim | skip
  obtain ⟨p, vs, rfl, h1, r⟩ := r1
  obtain ⟨p2, us, rfl, h2, r2⟩ := r2
  exact ⟨p, p2, vs, us, rfl, SqL.of (st2.sub _ _ (k2.wex.1 _ _ h1)), SqL.of (st2.sub _ _ h2), q2 W2 H2 _ st2 (k1.tr st1 k2) (itr_zip (k2.wex.1 _ _ h1) h2 (RepL.ext k2.wex _ _ r) r2)⟩⟩
end
end Mini
namespace Mini
open PySem PySem.Spec PyProof.Rows L2 Evl

/-! ### comprehensions -/
/-- the block's own names are put aside -/
def wipeR (ρ : En) : List Nat → En
  | [] => ρ
  | v :: vs => (wipeR ρ vs).set v .no
/-- an end without errors -/
def noEr {α : Type} (m : M α) : M α := fun S => match m S with
  | .er _ _ _ => .no
  | r => r
def lcL (t : TGd) (test : FB) (elt : FE) : List D → List D → En → M (List D)
  | [], acc, _ => rt acc
  | d :: ds, acc, ρ => bd (lift (t d ρ)) fun ρ1 => bd (noEr (test ρ1)) fun k =>
      if k then bd (noEr (elt ρ1)) fun x => if acc.length < 16777216 then lcL t test elt ds (acc ++ [x]) ρ else no
      else lcL t test elt ds acc ρ
def yesB : FB := fun _ => rt true
def lcE (it : FI) (t : TGd) (test : FB) (elt : FE) (vs : List Nat) : FE := fun ρ => bd (it ρ) fun ds => bd (lcL t test elt ds [] (wipeR ρ vs)) fun r => rt (.lst r)
abbrev EF : XK := fun _ _ _ => False
section
variable {K : PySem.W.Frag} {c : Cn} {W W1 W2 W' : Wd} {H H1 H2 H' : Hp} {S S1 S2 S' : DS} {σ σ1 σ2 σ' : L2.St} {ρ ρ1 ρ2 ρ' : En} {E : XK}
theorem EnvOk.setN (en : EnvOk K c W H σ ρ) (i : Nat) : EnvOk K c W H (σ.set i none) (ρ.set i .no) := by
  have hl := en.len
  have ne : ∀ {j : Nat} {s : Slot}, (ρ.set i .no)[j]? = some s → s ≠ .no → i ≠ j := fun {j s} h hs e => by
    subst e
    have hi : i < ρ.length := by
      have := (List.getElem?_eq_some_iff.mp h).1
      rwa [List.length_set] at this
    rw [List.getElem?_set_self hi] at h
    cases h
    exact hs rfl
  refine ⟨by rw [List.length_set, List.length_set]; exact hl, fun j e h => ?_, fun j e h => ?_, fun j k d1 d2 a h1 h2 h3 h4 => ?_⟩
  · have n := ne h (by intro z; cases z)
    rw [List.getElem?_set_ne n] at h ⊢
    exact en.vl j e h
  · have n := ne h (by intro z; cases z)
    rw [List.getElem?_set_ne n] at h ⊢
    exact en.ow j e h
  · have n1 := ne h1 (by intro z; cases z)
    have n2 := ne h2 (by intro z; cases z)
    rw [List.getElem?_set_ne n1] at h1 h3
    rw [List.getElem?_set_ne n2] at h2 h4
    exact en.sep j k d1 d2 a h1 h2 h3 h4
theorem EnvOk.wipe (en : EnvOk K c W H σ ρ) : ∀ vs : List Nat, EnvOk K c W H (L2.wipe σ vs) (wipeR ρ vs)
  | [] => en
  | v :: vs => (EnvOk.wipe en vs).setN v
/-- D holds the list so far, not frozen -/
def AccOk (K : PySem.W.Frag) (c : Cn) (W : Wd) (H : Hp) (D : Addr) (acc : List Mini.D) : Prop := W.H0 D = none ∧ W.sa ≠ some D ∧ ∃ vs, H D = some (.lst vs) ∧ RepL K c W acc vs
theorem AccOk.ext {D : Addr} {acc : List Mini.D} (a : AccOk K c W H D acc) (k : Keep W H W' H') : AccOk K c W' H' D acc := by
  obtain ⟨h1, h2, vs, h3, h4⟩ := a
  exact ⟨k.fr D _ h3 h1, fun e => h2 (k.sa D _ h3 e), vs, k.old D _ h3 h2, RepL.ext k.wex _ _ h4⟩
/-- a write to what we own alone -/
structure KeepD (W : Wd) (H : Hp) (D : Addr) (W' : Wd) (H' : Hp) : Prop where
  wex : WEx W W'
  old : ∀ b o, H b = some o → W.sa ≠ some b → b ≠ D → H' b = some o
  fr : ∀ b o, H b = some o → W.H0 b = none → W'.H0 b = none
  sa : ∀ b o, H b = some o → W'.sa = some b → W.sa = some b
  there : ∀ b o, H b = some o → ∃ o', H' b = some o'
theorem Keep.toD {D : Addr} (k : Keep W H W' H') (st : StOk K c W' H' S') : KeepD W H D W' H' := ⟨k.wex, fun b o h n _ => k.old b o h n, k.fr, k.sa, (k.toS (σ := []) (ρ := []) st).there⟩
theorem KeepD.trans {D : Addr} (k1 : KeepD W H D W1 H1) (k2 : KeepD W1 H1 D W2 H2) : KeepD W H D W2 H2 where
  wex := k1.wex.trans k2.wex
  old := fun b o h n nd => k2.old b o (k1.old b o h n nd) (fun e => n (k1.sa b o h e)) nd
  fr := fun b o h n => by
    obtain ⟨o1, ho1⟩ := k1.there b o h
    exact k2.fr b o1 ho1 (k1.fr b o h n)
  sa := fun b o h e => by
    obtain ⟨o1, ho1⟩ := k1.there b o h
    exact k1.sa b o h (k2.sa b o1 ho1 e)
  there := fun b o h => by
    obtain ⟨o1, ho1⟩ := k1.there b o h
    exact k2.there b o1 ho1
theorem upd_D {D : Addr} {o : HO} (st : StOk K c W H S) (h0 : W.H0 D = none) (hs : W.sa ≠ some D) (hD : ∃ u, H D = some u) : StOk K c W (upd H D o) S ∧ KeepD W H D W (upd H D o) := by
  have kd : KeepD W H D W (upd H D o) := ⟨WEx.refl W, fun b u h _ nd => by rw [upd_ne nd]; exact h, fun _ _ _ e => e, fun _ _ _ e => e, fun b u h => by
    by_cases hb : b = D
    · subst hb; exact ⟨o, upd_same⟩
    · exact ⟨u, by rw [upd_ne hb]; exact h⟩⟩
  refine ⟨⟨fun b u e => ?_, ?_⟩, kd⟩
  · rw [upd_ne fun z => by rw [z, h0] at e; cases e]
    exact st.sub b u e
  · have d := st.ds
    cases S with
    | none => exact d
    | some ds =>
      obtain ⟨a, vs, h1, h2, h3, h4⟩ := d
      exact ⟨a, vs, h1, h2, by rw [upd_ne fun z => hs (by rw [← z]; exact h1)]; exact h3, h4⟩
/-- the frame's slots behind writes to D, D none of theirs -/
theorem EnvOk.extD {D : Addr} (e : EnvOk K c W H σ ρ) (k : KeepD W H D W' H') (hD : ∀ (i : Nat) (d : Mini.D), ρ[i]? = some (.ow d) → σ[i]? ≠ some (some (.ref D))) : EnvOk K c W' H' σ ρ where
  len := e.len
  vl := fun i d h => by
    obtain ⟨v, h1, h2⟩ := e.vl i d h
    exact ⟨v, h1, Rep.ext k.wex d v h2⟩
  ow := fun i d h => by
    obtain ⟨a, h1, h2, h3, h4⟩ := e.ow i d h
    obtain ⟨o, ho⟩ := h4.some
    have nd : a ≠ D := fun z => hD i d h (by rw [h1, z])
    exact ⟨a, h1, k.fr a o ho h2, fun q => h3 (k.sa a o ho q), h4.ext k.wex fun o q => k.old a o q h3 nd⟩
  sep := e.sep
theorem noEr_ok {α : Type} {m : M α} {a : α} (h : noEr m S = .ok a S') : m S = .ok a S' := by
  unfold noEr at h
  split at h
  · cases h
  · exact h
/-- one reading within the block: no errors -/
theorem thenC_M {f : FE} {β : Type} {g : D → M β} {Q : VK} {O : Res β → Prop} (st : StOk K c W H S) (en : EnvOk K c W H σ ρ) (hN : ¬ O .no) (h : O (bd (noEr (f ρ)) g S))
    (k : ∀ d S' W' H' v, StOk K c W' H' S' → Keep W H W' H' → Rep K c W' d v → O (g d S') → Q v H') : tM K c E f σ H Q := by
  refine tM_mk st en ?_
  unfold bd noEr at h
  cases e : f ρ S with
  | ok d S' =>
    rw [e] at h
    exact fun W' H' v st' k' r => k d S' W' H' v st' k' r h
  | er n p S' =>
    rw [e] at h
    exact (hN h).elim
  | no =>
    rw [e] at h
    exact (hN h).elim
theorem thenC_T {f : FB} {β : Type} {g : Bool → M β} {Q : Bool → Hp → Prop} {O : Res β → Prop} (st : StOk K c W H S) (en : EnvOk K c W H σ ρ) (hN : ¬ O .no) (h : O (bd (noEr (f ρ)) g S))
    (k : ∀ d S' W' H', StOk K c W' H' S' → Keep W H W' H' → O (g d S') → Q d H') : tT K c E f σ H Q := by
  refine tT_mk st en ?_
  unfold bd noEr at h
  cases e : f ρ S with
  | ok d S' =>
    rw [e] at h
    exact fun W' H' st' k' => k d S' W' H' st' k' h
  | er n p S' =>
    rw [e] at h
    exact (hN h).elim
  | no =>
    rw [e] at h
    exact (hN h).elim
theorem lcL_noEr (t : TGd) (test : FB) (elt : FE) : ∀ (ds acc : List D) (ρ : En) (S : DS) (n : Nat) (p : D) (S' : DS), lcL t test elt ds acc ρ S ≠ .er n p S'
  | [], acc, ρ, S, n, p, S' => by intro h; cases h
  | d :: ds, acc, ρ, S, n, p, S' => by
    intro h
    unfold lcL bd at h
    cases e : t d ρ with
    | none => rw [e] at h; cases h
    | some ρ1 =>
      rw [e] at h
      change bd (noEr (test ρ1)) _ S = _ at h
      unfold bd noEr at h
      cases e1 : test ρ1 S with
      | no => rw [e1] at h; cases h
      | er n p S' => rw [e1] at h; cases h
      | ok k S1 =>
        rw [e1] at h
        cases k with
        | false => exact lcL_noEr t test elt ds acc ρ S1 n p S' h
        | true =>
          change bd (noEr (elt ρ1)) _ S1 = _ at h
          unfold bd noEr at h
          cases e2 : elt ρ1 S1 with
          | no => rw [e2] at h; cases h
          | er n p S' => rw [e2] at h; cases h
          | ok x S2 =>
            rw [e2] at h
            dsimp only at h
            split at h
            · exact lcL_noEr t test elt ds _ ρ S2 n p S' h
            · cases h
def OutL (K : PySem.W.Frag) (c : Cn) (W : Wd) (H : Hp) (D : Addr) (Qd : Hp → Prop) : Res (List Mini.D) → Prop
  | .ok r S' => ∀ W' H', StOk K c W' H' S' → KeepD W H D W' H' → AccOk K c W' H' D r → Qd H'
  | .er _ _ _ => False
  | .no => False
end
section
variable {X : Cx} {c : Cn} {E : XK} {elt tg iter : Expr} {ifs : List Expr} {scope : Scope} {own : List (Str × Nat)} {pos : Pos} {it : FI} {td : TGd} {test : FB} {fe : FE}
theorem mts_nil : PTs X [] (tT X.K c E yesB) := ⟨fun pins s σ H Q I h => by
  obtain ⟨W, ρ, S, st, en, q⟩ := tT_un h
  exact pts_nil.run pins s σ H Q I (q W H st (Keep.refl W H))⟩
theorem wipe_wipe {σ : L2.St} : ∀ (vs us : List Nat), (∀ v ∈ vs, v ∈ us) → L2.wipe (L2.wipe σ vs) us = L2.wipe σ us
  | [], _, _ => rfl
  | v :: vs, us, h => by
    show L2.wipe ((L2.wipe σ vs).set v none) us = _
    rw [wipe_set (h v List.mem_cons_self)]
    exact wipe_wipe vs us fun u hu => h u (List.mem_cons_of_mem _ hu)
theorem lc_out {own : List Nat} : ∀ σ H Q, tO X.K c E (lcE it td test fe own) σ H Q → tLc (tI X.K c E it) (tGd X.K c own td) (tT X.K c EF test) (tM X.K c EF fe) own σ H Q := fun σ H Q h => by
  obtain ⟨W, ρ, S, st, en, q⟩ := tO_un h
  refine ⟨W, ρ, S, st, en, ?_⟩
  unfold lcE bd at q
  cases e0 : it ρ S with
  | er n p S' => rw [e0] at q; exact q
  | no => rw [e0] at q; exact q
  | ok ds S0 =>
    rw [e0] at q
    intro W0 H0 J st0 k0 wk Dl hD
    have en0 := (en.ext k0).wipe own
    -- the new list
    have st1 := new_st (o := .lst []) st0 hD
    have kD : Keep W0 H0 W0 (upd H0 Dl (.lst [])) := new_keep st0 hD
    have noOwn : ∀ (i : Nat) (d : Mini.D), (wipeR ρ own)[i]? = some (.ow d) → (L2.wipe σ own)[i]? ≠ some (some (.ref Dl)) := fun i d h1 h2 => by
      obtain ⟨a, h3, _, _, h4⟩ := en0.ow i d h1
      rw [h2] at h3
      cases h3
      obtain ⟨o, ho⟩ := h4.some
      rw [hD] at ho
      cases ho
    have q0 : OutL X.K c W0 (upd H0 Dl (.lst [])) Dl (fun H1 => Q (.ref Dl) H1) (lcL td test fe ds [] (wipeR ρ own) S0) := by
      change OutO X.K c W H E Q (bd (lcL td test fe ds [] (wipeR ρ own)) (fun r => rt (.lst r)) S0) at q
      unfold bd at q
      cases e1 : lcL td test fe ds [] (wipeR ρ own) S0 with
      | no => rw [e1] at q; exact q
      | er n p S' => exact absurd e1 (lcL_noEr _ _ _ _ _ _ _ _ _ _)
      | ok r S' =>
        rw [e1] at q
        rintro W' H' st' k' ⟨a1, a2, vs, a3, a4⟩
        have there := (kD.toS (σ := []) (ρ := []) st1).there
        have kk : Keep W0 H0 W' H' := by
          refine ⟨k'.wex, fun b o h n => k'.old b o (kD.old b o h n) n fun z => ?_, fun b o h n => ?_, fun b o h e => ?_⟩
          · rw [z, hD] at h
            cases h
          · obtain ⟨o', ho'⟩ := there b o h
            exact k'.fr b o' ho' n
          · obtain ⟨o', ho'⟩ := there b o h
            exact k'.sa b o' ho' e
        refine q W' H' _ st' (k0.tr st0 kk) (RepO.pre (H0 := H) k0 (fun b e => st0.ds.at (k0.wex.2 b e)) ⟨Dl, rfl, hD, a1, a2, vs, a3, a4⟩)
    refine ⟨fun i m H1 => m = ds.length - i ∧ i ≤ ds.length ∧ ∃ W1 S1 acc, StOk X.K c W1 H1 S1 ∧ KeepD W0 (upd H0 Dl (.lst [])) Dl W1 H1 ∧ AccOk X.K c W1 H1 Dl acc ∧ OutL X.K c W0 (upd H0 Dl (.lst [])) Dl (fun H1 => Q (.ref Dl) H1) (lcL td test fe (ds.drop i) acc (wipeR ρ own) S1),
      ⟨ds.length, rfl, Nat.zero_le _, W0, S0, [], st1, (Keep.refl _ _).toD st1, ⟨fresh_back st0.sub hD, sa_ne st0 hD, [], upd_same, rfl⟩, q0⟩, ?_⟩
    rintro i m H1 ⟨rfl, hi, W1, S1, acc, st1, k1, ac1, q1⟩
    have ex1 : Ex W0.H0 H1 := k1.wex.1.trans st1.sub
    by_cases hlt : i < ds.length
    · refine .inr ⟨wk.go i H1 hlt ex1, fun H2 => ∃ W2 S2 acc2, StOk X.K c W2 H2 S2 ∧ KeepD W0 (upd H0 Dl (.lst [])) Dl W2 H2 ∧ AccOk X.K c W2 H2 Dl acc2 ∧ OutL X.K c W0 (upd H0 Dl (.lst [])) Dl (fun H1 => Q (.ref Dl) H1) (lcL td test fe (ds.drop (i + 1)) acc2 (wipeR ρ own) S2), fun H2 n2 => ⟨ds.length - (i + 1), by omega, rfl, hlt, n2⟩, fun x H2 y => ?_⟩
      have hd : ds[i]? = some ds[i] := List.getElem?_eq_getElem hlt
      rw [List.drop_eq_getElem_cons hlt] at q1
      unfold lcL bd at q1
      cases e1 : td ds[i] (wipeR ρ own) with
      | none => rw [e1] at q1; exact q1.elim
      | some ρ2 =>
        rw [e1] at q1
        obtain ⟨W2, st2, kk2, r2⟩ := (wk.yld i H1 x H2 _ hd ex1 y).lay st1 k1.wex
        have en1 : EnvOk X.K c W1 H1 (L2.wipe σ own) (wipeR ρ own) := (en0.ext kD).extD k1 noOwn
        refine ⟨W2, wipeR ρ own, S1, ds[i], ρ2, st2, en1.ext kk2, r2, e1, fun σ3 en3 o3 w3 => ⟨w3.trans (wipe_wipe own own fun _ z => z), ?_⟩⟩
        change OutL X.K c W0 (upd H0 Dl (.lst [])) Dl (fun H1 => Q (.ref Dl) H1) (bd (noEr (test ρ2)) _ S1) at q1
        refine thenC_T (O := OutL X.K c W0 (upd H0 Dl (.lst [])) Dl fun H1 => Q (.ref Dl) H1) st2 en3 (fun z => z) q1 fun k S3 W3 H3 st3 k3 q3 => ?_
        have ac3 := (ac1.ext kk2).ext k3
        have kk3 := (k1.trans (kk2.toD st2)).trans (k3.toD st3)
        cases k with
        | false => exact ⟨W3, S3, acc, st3, kk3, ac3, q3⟩
        | true =>
          refine thenC_M (O := OutL X.K c W0 (upd H0 Dl (.lst [])) Dl fun H1 => Q (.ref Dl) H1) st3 (en3.ext k3) (fun z => z) q3 fun d4 S4 W4 H4 v4 st4 k4 r4 q4 => ?_
          obtain ⟨a1, a2, vs, a3, a4⟩ := ac3.ext k4
          split at q4
          · rename_i hlen
            obtain ⟨s5, k5⟩ := upd_D (o := .lst (vs ++ [v4])) st4 a1 a2 ⟨_, a3⟩
            refine ⟨vs, a3, line_lt (by rw [RepL.length a4]; exact hlen), W4, S4, acc ++ [d4], s5, (kk3.trans (k4.toD st4)).trans k5, ⟨a1, a2, _, upd_same, repL_append a4 ⟨v4, [], rfl, r4, rfl⟩⟩, q4⟩
          · exact q4.elim
    · have ei : i = ds.length := by omega
      subst ei
      refine .inl ⟨wk.stop H1 ex1, ?_⟩
      rw [List.drop_length] at q1
      exact q1 W1 H1 st1 k1 ac1
theorem me_lc (hc : X.calm = true) (hN : X.N.Nodup) (hi : PI X tg iter (tI X.K c E it)) (ok : BlkOk X.N X.env.scope scope own)
    (hg : ∀ (s : Shared) (H : Hp) (C : Addr) (cl : List (Str × Addr)) (fp : List Addr), PG (X.blk s H scope (compEnvC scope cl C X.env) fp) tg (tGd X.K c (own.map (·.2)) td))
    (ht : ∀ (s : Shared) (H : Hp) (C : Addr) (cl : List (Str × Addr)) (fp : List Addr), PTs (X.blk s H scope (compEnvC scope cl C X.env) fp) ifs (tT X.K c EF test))
    (he : ∀ (s : Shared) (H : Hp) (C : Addr) (cl : List (Str × Addr)) (fp : List Addr), PE (X.blk s H scope (compEnvC scope cl C X.env) fp) elt (tM X.K c EF fe)) (hs : ∀ x, foldedSetIterable iter X.env x = pure x := by intro _; rfl) :
    PE X (.ListComp elt [⟨tg, iter, ifs, 0⟩] scope pos) (tO X.K c E (lcE it td test fe (own.map (·.2)))) := pe_imp (pe_lc hc hN hi ok hg ht he hs) lc_out
theorem ms_setLc {i : Nat} {y : Str} {py spos : Pos} (hc : X.calm = true) (hN : X.N.Nodup) (hy : X.N[i]? = some y) (hyl : X.env.scope.names.lookup y = some .local)
    (hsw : swapsWith (.ListComp elt [⟨tg, iter, ifs, 0⟩] scope pos) (some (.Name y py)) spos.line X.env = pure true) (hi : PI X tg iter (tI X.K c E it)) (ok : BlkOk X.N X.env.scope scope own)
    (hg : ∀ (s : Shared) (H : Hp) (C : Addr) (cl : List (Str × Addr)) (fp : List Addr), PG (X.blk s H scope (compEnvC scope cl C X.env) fp) tg (tGd X.K c (own.map (·.2)) td))
    (ht : ∀ (s : Shared) (H : Hp) (C : Addr) (cl : List (Str × Addr)) (fp : List Addr), PTs (X.blk s H scope (compEnvC scope cl C X.env) fp) ifs (tT X.K c EF test))
    (he : ∀ (s : Shared) (H : Hp) (C : Addr) (cl : List (Str × Addr)) (fp : List Addr), PE (X.blk s H scope (compEnvC scope cl C X.env) fp) elt (tM X.K c EF fe)) (hs : ∀ x, foldedSetIterable iter X.env x = pure x := by intro _; rfl) :
    PS X (.Assign [.Name y py] (.ListComp elt [⟨tg, iter, ifs, 0⟩] scope pos) spos) (tS X.K c E (asgS i (lcE it td test fe (own.map (·.2))))) :=
  ps_imp (L2.ps_setLc hc hN hy hyl hsw hi ok hg ht he hs) (asg_out fun σ H Q z => lc_out σ H Q (m_imp σ H Q z))
theorem ms_setLcO {i : Nat} {y : Str} {py spos : Pos} (hc : X.calm = true) (hN : X.N.Nodup) (hy : X.N[i]? = some y) (hyl : X.env.scope.names.lookup y = some .local)
    (hsw : swapsWith (.ListComp elt [⟨tg, iter, ifs, 0⟩] scope pos) (some (.Name y py)) spos.line X.env = pure true) (hi : PI X tg iter (tI X.K c E it)) (ok : BlkOk X.N X.env.scope scope own)
    (hg : ∀ (s : Shared) (H : Hp) (C : Addr) (cl : List (Str × Addr)) (fp : List Addr), PG (X.blk s H scope (compEnvC scope cl C X.env) fp) tg (tGd X.K c (own.map (·.2)) td))
    (ht : ∀ (s : Shared) (H : Hp) (C : Addr) (cl : List (Str × Addr)) (fp : List Addr), PTs (X.blk s H scope (compEnvC scope cl C X.env) fp) ifs (tT X.K c EF test))
    (he : ∀ (s : Shared) (H : Hp) (C : Addr) (cl : List (Str × Addr)) (fp : List Addr), PE (X.blk s H scope (compEnvC scope cl C X.env) fp) elt (tM X.K c EF fe)) (hs : ∀ x, foldedSetIterable iter X.env x = pure x := by intro _; rfl) :
    PS X (.Assign [.Name y py] (.ListComp elt [⟨tg, iter, ifs, 0⟩] scope pos) spos) (tS X.K c E (asgOS i (lcE it td test fe (own.map (·.2))))) :=
  ps_imp (L2.ps_setLc hc hN hy hyl hsw hi ok hg ht he hs) (asgO_out fun σ H Q z => lc_out σ H Q z)
theorem mts_one {e : Expr} {f : FB} (h : PT X e (tT X.K c E f)) : PTs X [e] (tT X.K c E f) := pts_one h
end
end Mini
namespace Mini
open PySem PySem.Spec PyProof.Rows L2 Evl

/-! ### defs -/
def fnD (np ns : Nat) (b : FS) : List D → M D := fun ds => if ds.length = np then body ns b ds else no
/-- the promise: as F says -/
def spM (K : PySem.W.Frag) (c : Cn) (F : List D → M D) : Sp := fun vs H Q E => ∃ W ds S, StOk K c W H S ∧ RepL K c W ds vs ∧ OutM K c W H E Q (F ds S)
/-- .. a fresh object -/
def spO (K : PySem.W.Frag) (c : Cn) (F : List D → M D) : Sp := fun vs H Q E => ∃ W ds S, StOk K c W H S ∧ RepL K c W ds vs ∧ OutO K c W H E Q (F ds S)
section
variable {K : PySem.W.Frag} {c : Cn} {W W1 W2 W' : Wd} {H H1 H2 H' : Hp} {S S1 S2 S' : DS} {σ σ1 σ2 σ' : L2.St} {ρ ρ1 ρ2 ρ' : En} {E : XK}
theorem enter_ok {N : List Str} {ds : List D} {vs : List V} (r : RepL K c W ds vs) (hl : vs.length ≤ N.length) : EnvOk K c W H (L2.start N vs) (enter N.length ds) := by
  have hlen := RepL.length r
  refine ⟨?_, fun i d h => ?_, fun i d h => ?_, fun i j d e a h1 h2 h3 h4 => ?_⟩
  · unfold L2.start enter
    simp only [List.length_append, List.length_map, List.length_replicate]
    omega
  · unfold enter at h
    by_cases hi : i < ds.length
    · rw [List.getElem?_append_left (by simpa using hi), List.getElem?_map] at h
      cases q : ds[i]? with
      | none => rw [q] at h; cases h
      | some e =>
        rw [q] at h
        cases h
        obtain ⟨v, h1, h2⟩ := repL_get r q
        refine ⟨v, ?_, h2⟩
        unfold L2.start
        rw [List.getElem?_append_left (by rw [List.length_map, hlen]; exact hi), List.getElem?_map, h1]
        rfl
    · rw [List.getElem?_append_right (by simpa using hi), List.getElem?_replicate] at h
      split at h <;> cases h
  · unfold enter at h
    by_cases hi : i < ds.length
    · rw [List.getElem?_append_left (by simpa using hi), List.getElem?_map] at h
      cases q : ds[i]? <;> rw [q] at h <;> cases h
    · rw [List.getElem?_append_right (by simpa using hi), List.getElem?_replicate] at h
      split at h <;> cases h
  · unfold enter at h1
    by_cases hi : i < ds.length
    · rw [List.getElem?_append_left (by simpa using hi), List.getElem?_map] at h1
      cases q : ds[i]? <;> rw [q] at h1 <;> cases h1
    · rw [List.getElem?_append_right (by simpa using hi), List.getElem?_replicate] at h1
      split at h1 <;> cases h1
theorem enter_owned {n : Nat} {ds : List D} {σ : L2.St} {b : Addr} : ¬ Owned σ (enter n ds) b := fun ⟨i, d, h, _⟩ => by
  unfold enter at h
  by_cases hi : i < ds.length
  · rw [List.getElem?_append_left (by simpa using hi), List.getElem?_map] at h
    cases q : ds[i]? <;> rw [q] at h <;> cases h
  · rw [List.getElem?_append_right (by simpa using hi), List.getElem?_replicate] at h
    split at h <;> cases h
theorem KeepS.toKeep (k : KeepS W H σ ρ W' H') (h : ∀ b, ¬ Owned σ ρ b) : Keep W H W' H' := ⟨k.wex, fun b o q n => k.old b o q n (h b), fun b o q => k.fr b o q (h b), k.sa⟩
theorem body_out {N : List Str} {g : FS} {ds : List D} {vs : List V} {Q : VK} (st : StOk K c W H S) (r : RepL K c W ds vs) (hl : vs.length ≤ N.length) (h : OutM K c W H E Q (body N.length g ds S)) :
    tS K c E g { nx := fun _ H2 => Q .non H2, rt := Q } (L2.start N vs) H := by
  refine ⟨W, enter N.length ds, S, st, enter_ok r hl, ?_⟩
  unfold body bd at h
  cases e : g (enter N.length ds) S with
  | no => rw [e] at h; exact h
  | er n p S' =>
    rw [e] at h
    exact fun W' H' dd v st' k' => h W' H' dd v st' (k'.toKeep fun b => enter_owned)
  | ok f S' =>
    rw [e] at h
    cases f with
    | nx ρ' => exact fun W' H' σ' st' en' k' => h W' H' .non st' (k'.toKeepS.toKeep fun b => enter_owned) rfl
    | rt d => exact fun W' H' v st' k' r' => h W' H' v st' (k'.toKeep fun b => enter_owned) r'
    | bk ρ' => exact h.elim
    | ct ρ' => exact h.elim
theorem spM_len {np ns : Nat} {b : FS} {vs : List V} {Q : VK} (h : spM K c (fnD np ns b) vs H Q E) : vs.length = np := by
  obtain ⟨W, ds, S, st, r, q⟩ := h
  unfold fnD at q
  split at q
  · rw [RepL.length r]; assumption
  · exact q.elim
theorem spO_len {np ns : Nat} {b : FS} {vs : List V} {Q : VK} (h : spO K c (fnD np ns b) vs H Q E) : vs.length = np := by
  obtain ⟨W, ds, S, st, r, q⟩ := h
  unfold fnD at q
  split at q
  · rw [RepL.length r]; assumption
  · exact q.elim
end
/-- a def of the text keeps its mirror's promise -/
theorem fn_mini {P : Program} {w : World} {K : PySem.W.Frag} {mg : Str → Option Value} {base : Heap} {c : Cn} {x qual : Str} {st : Stmt} {f : Addr} {fd : FuncData} {N ps : List Str} {k : Nat} {b : FS} (F : Fun K x qual st f fd) (S : FnScope N ps (defScope st))
    (hbody : ∀ (cdv : Value) (A : Around) (outer : List Env) (s : Shared) (H : Hp) (E : XK), Room k (A.deeper (envOfC qual (defScope st) s.heap.objs.size f cdv)) → A.guards = some [] →
      PSs (cxOf (L2.CX P w) P w K mg base N qual (defScope st) f cdv A outer s H E) (defBody st) (tS K c E b)) : FnG P w K mg base (L2.CX P w) (k + 1) f fd ps (spM K c (fnD ps.length N.length b)) := by
  obtain ⟨oc, od, kV, doc, pm, an, cdv, ct, osl, rfl, lk, hcd⟩ := F.ex
  have hpl : ps.length ≤ N.length := by
    have := congrArg List.length S.pre
    rw [List.length_take] at this
    omega
  refine fnG_of lk hcd S (fun vs H Q E h => spM_len h) fun A outer s H vs Q E hr hg h => ⟨_, hbody cdv A outer s H E hr hg, ?_⟩
  have hl := spM_len h
  obtain ⟨W, ds, S', st', r, q⟩ := h
  unfold fnD at q
  rw [if_pos (by rw [← RepL.length r]; exact hl)] at q
  exact body_out st' r (by omega) q
/-- the same for one with defaults -/
theorem fn_miniD {P : Program} {w : World} {K : PySem.W.Frag} {mg : Str → Option Value} {base : Heap} {c : Cn} {nm qual : Str} {params : Arguments} {bodyS : List Stmt} {sc : Scope} {dV kV doc pm cdv ct oc : Value} {an od : Option Addr} {osl : Array (Option Value)} {f : Addr} {N ps : List Str} {k : Nat} {b : FS}
    (lk : K.lookup f = some ⟨oc, od, .func (PySem.W.fnOf nm qual params bodyS sc dV kV doc pm an cdv ct), osl⟩) (hcd : PySem.W.codeIn K cdv qual = true) (S : FnScope N ps sc)
    (hbody : ∀ (A : Around) (outer : List Env) (s : Shared) (H : Hp) (E : XK), Room k (A.deeper (envOfC qual sc s.heap.objs.size f cdv)) → A.guards = some [] →
      PSs (cxOf (L2.CX P w) P w K mg base N qual sc f cdv A outer s H E) bodyS (tS K c E b)) : FnG P w K mg base (L2.CX P w) (k + 1) f (PySem.W.fnOf nm qual params bodyS sc dV kV doc pm an cdv ct) ps (spM K c (fnD ps.length N.length b)) := by
  have hpl : ps.length ≤ N.length := by
    have := congrArg List.length S.pre
    rw [List.length_take] at this
    omega
  refine fnG_of lk hcd S (fun vs H Q E h => spM_len h) fun A outer s H vs Q E hr hg h => ⟨_, hbody A outer s H E hr hg, ?_⟩
  have hl := spM_len h
  obtain ⟨W, ds, S', st', r, q⟩ := h
  unfold fnD at q
  rw [if_pos (by rw [← RepL.length r]; exact hl)] at q
  exact body_out st' r (by omega) q
section
variable {X : Cx} {c : Cn} {E : XK} {T : CXT} {k : Nat} {f : Addr} {fd : FuncData} {ps : List Str} {F : List D → M D} {x : Str} {p pos : Pos} {e a : Expr} {es : List Expr} {ga : FA} {fa fb : FE}
/-- f(e, ..) -/
theorem me_call (G : FnG X.prog X.w X.K X.mg X.base T k f fd ps (spM X.K c F)) (hr : Room k X.A) (gd : X.A.guards = some []) (hg : Gl X x) (hm : X.mg x = some (.ref f)) (hk : PySem.W.keepIn X.K (.ref f) = true) (hb : Binds X.K fd ps []) (hx : Passes T X E)
    (ha : PA X (e :: es) (tA X.K c E ga)) (hdb : (x == ("__debug__" : Str)) = false := by decide) (he : starEach (e :: es) X.env = (false, eval e X.env) :: starEach es X.env := by rfl) (hpl : (backTo pos (starEach es X.env)).any (·.1) = false := by rfl) :
    PE X (.Call (.Name x p) (e :: es) [] pos) (tM X.K c E (callE F ga)) :=
  pe_imp (pe_callG G hr gd hg hm hk hb .nil hx ha hdb he hpl) fun σ H Q h => by
    obtain ⟨W, ρ, S, st, en, q⟩ := tM_un h
    refine then_A (O := OutM X.K c W H E Q) st en (fun _ _ _ z => z) (fun z => z) q fun ds S1 W1 H1 vs st1 k1 r1 q1 => ?_
    rw [List.append_nil]
    exact ⟨W1, ds, S1, st1, r1, OutM.pre (Q' := Q) q1 k1 st1⟩
def appA (ga : FA) (ds : List D) : FA := fun ρ => bd (ga ρ) fun xs => rt (xs ++ ds)
/-- .. with a default text -/
theorem me_callS {y : Str} {t : Tok} (hy : SOk y) (G : FnG X.prog X.w X.K X.mg X.base T k f fd ps (spM X.K c F)) (hr : Room k X.A) (gd : X.A.guards = some []) (hg : Gl X x) (hm : X.mg x = some (.ref f)) (hk : PySem.W.keepIn X.K (.ref f) = true) (hb : Binds X.K fd ps [.str y t]) (hx : Passes T X E)
    (ha : PA X (e :: es) (tA X.K c E ga)) (hdb : (x == ("__debug__" : Str)) = false := by decide) (he : starEach (e :: es) X.env = (false, eval e X.env) :: starEach es X.env := by rfl) (hpl : (backTo pos (starEach es X.env)).any (·.1) = false := by rfl) :
    PE X (.Call (.Name x p) (e :: es) [] pos) (tM X.K c E (callE F (appA ga [.str y]))) :=
  pe_imp (pe_callG (dvs := [.str y]) G hr gd hg hm hk hb (.cons ⟨t, rfl⟩ .nil) hx ha hdb he hpl) fun σ H Q h => by
    obtain ⟨W, ρ, S, st, en, q⟩ := tM_un h
    have q' : OutM X.K c W H E Q (bd (ga ρ) (fun xs => F (xs ++ [.str y])) S) := by
      have e1 : callE F (appA ga [.str y]) ρ S = bd (ga ρ) (fun xs => F (xs ++ [.str y])) S := by
        unfold callE appA bd
        cases ga ρ S <;> rfl
      rw [← e1]
      exact q
    refine then_A (O := OutM X.K c W H E Q) st en (fun _ _ _ z => z) (fun z => z) q' fun ds S1 W1 H1 vs st1 k1 r1 q1 => ?_
    exact ⟨W1, ds ++ [.str y], S1, st1, repL_append (es := [.str y]) (us := [.str y]) r1 ⟨_, _, rfl, (⟨rfl, hy⟩ : Rep X.K c W1 (.str y) (.str y)), rfl⟩, OutM.pre (Q' := Q) q1 k1 st1⟩
/-- what is not come to -/
def neverS : FS := fun _ => no
theorem ms_never {st : Stmt} : PS X st (tS X.K c E neverS) := ps_imp ps_never fun D σ H q => by
  obtain ⟨W, ρ, S, st, en, q⟩ := q
  exact q.elim
/-! ### our own lists -/
section
variable {K : PySem.W.Frag} {W W1 W2 W' : Wd} {H H1 H2 H' : Hp} {S S1 S2 S' : DS} {σ σ1 σ2 σ' : L2.St} {ρ ρ1 ρ2 ρ' : En}
/-- the object of slot i is written -/
theorem own_write {i : Nat} {d d' : D} {ad : Addr} {o : HO} (st : StOk K c W H S) (en : EnvOk K c W H σ ρ) (hi : ρ[i]? = some (.ow d)) (ha : σ[i]? = some (some (.ref ad))) (ho : Own K c W (upd H ad o) ad d') :
    StOk K c W (upd H ad o) S ∧ EnvOk K c W (upd H ad o) σ (setO i d' ρ) ∧ Step W H σ ρ W (upd H ad o) σ (setO i d' ρ) := by
  obtain ⟨a2, q1, h0, hs, q4⟩ := en.ow i d hi
  rw [ha] at q1
  cases q1
  obtain ⟨s5, k5⟩ := upd_D (o := o) st h0 hs q4.some
  have hil : i < ρ.length := (List.getElem?_eq_some_iff.mp hi).1
  have eσ : σ.set i (some (.ref ad)) = σ := by
    obtain ⟨hl, hv⟩ := List.getElem?_eq_some_iff.mp ha
    rw [← hv]
    exact List.set_getElem_self hl
  -- the others
  have get : ∀ {j : Nat} {s : Slot}, (setO i d' ρ)[j]? = some s → i ≠ j → ρ[j]? = some s := fun {j s} h n => by
    unfold setO at h
    rwa [List.getElem?_set_ne n] at h
  have self : ∀ {s : Slot}, (setO i d' ρ)[i]? = some s → s = .ow d' := fun {s} h => by
    unfold setO at h
    rw [List.getElem?_set_self hil] at h
    exact (Option.some.inj h).symm
  refine ⟨s5, ⟨by unfold setO; rw [List.length_set]; exact en.len, fun j e h => ?_, fun j e h => ?_, fun j k d1 d2 b h1 h2 h3 h4 => ?_⟩, ⟨⟨k5.wex, fun b u q n no => k5.old b u q n fun z => no ⟨i, d, hi, by rw [ha, z]⟩, fun b u q _ => k5.fr b u q, k5.sa, k5.there⟩, fun b z => ?_⟩⟩
  · by_cases hj : i = j
    · subst hj
      cases self h
    · obtain ⟨v, z1, z2⟩ := en.vl j e (get h hj)
      exact ⟨v, z1, z2⟩
  · by_cases hj : i = j
    · subst hj
      cases self h
      exact ⟨ad, ha, h0, hs, ho⟩
    · obtain ⟨b, z1, z2, z3, z4⟩ := en.ow j e (get h hj)
      have nb : b ≠ ad := fun z => hj (en.sep i j d e ad hi (get h hj) ha (by rw [z1, z]))
      exact ⟨b, z1, z2, z3, z4.ext (WEx.refl W) fun u q => by rw [upd_ne nb]; exact q⟩
  · have own' : ∀ {m : Nat} {x : D}, (setO i d' ρ)[m]? = some (.ow x) → ∃ y, ρ[m]? = some (.ow y) := fun {m x} h => by
      by_cases hm : i = m
      · subst hm; exact ⟨d, hi⟩
      · exact ⟨x, get h hm⟩
    obtain ⟨y1, z1⟩ := own' h1
    obtain ⟨y2, z2⟩ := own' h2
    exact en.sep j k y1 y2 b z1 z2 h3 h4
  · rw [← eσ] at z
    rcases owned_setO z with z | z
    · exact .inr ⟨i, d, hi, by rw [ha, z]⟩
    · exact .inr z
end
def ownL (ρ : En) (i : Nat) : Option (List D) := match ρ[i]? with
  | some (.ow (.lst ds)) => some ds
  | _ => none
theorem ownL_some {ρ : En} {i : Nat} {ds : List D} (h : ownL ρ i = some ds) : ρ[i]? = some (.ow (.lst ds)) := by
  unfold ownL at h
  split at h
  · cases h; assumption
  · cases h
/-- x.append(e) -/
def appS (i : Nat) (f : FE) : FS := fun ρ => bd (lift (ownL ρ i)) fun ds => bd (f ρ) fun d => if ds.length < 16777216 then rt (.nx (setO i (.lst (ds ++ [d])) ρ)) else no
theorem ms_app {i : Nat} {y : Str} {py apos : Pos} (hN : X.N[i]? = some y) (hv : Vis X.env.scope y) (ha : PE X a (tM X.K c E fa))
    (pe : ∀ te : TE, PE X a te → PE X (.Call (.Attribute (.Name y py) "append" apos) [a] [] p) (tBM X.K "list" rAppend (tVar i) (tCons te tNil)))
    (hs : swapsWith (.Call (.Attribute (.Name y py) "append" apos) [a] [] p) none pos.line X.env = pure false := by rfl) :
    PS X (.Expr (.Call (.Attribute (.Name y py) "append" apos) [a] [] p) pos) (tS X.K c E (appS i fa)) := ps_imp (ps_expr (pe _ ha) hs) fun D σ H q => by
  obtain ⟨W, ρ, S, st, en, q⟩ := q
  unfold appS bd at q
  cases e1 : ownL ρ i with
  | none => rw [e1] at q; exact q.elim
  | some ds =>
    rw [e1] at q
    have hi := ownL_some e1
    obtain ⟨ad, h1, h2, h3, vs, h4, h5⟩ := en.ow i _ hi
    refine ⟨_, h1, .inl ⟨rfl, _, .inl (.inl h4)⟩, ?_⟩
    refine thenS_M st en q fun d S' W' H' v st' en' k r q' => ?_
    obtain ⟨ad2, h1', h2', h3', vs', h4', h5'⟩ := en'.ow i _ hi
    rw [h1] at h1'
    cases h1'
    split at q'
    · rename_i hlen
      obtain ⟨s5, e5, p5⟩ := own_write (o := .lst (vs' ++ [v])) (d' := .lst (ds ++ [d])) st' en' hi h1 ⟨_, upd_same, repL_append h5' ⟨v, [], rfl, r, rfl⟩⟩
      exact ⟨ad, vs', v, rfl, rfl, h4', line_lt (by rw [RepL.length h5']; exact hlen), q' W' _ σ s5 e5 p5⟩
    · exact q'.elim
end
end Mini
namespace Mini
open PySem PySem.Spec PyProof.Rows L2 Evl

/-! ### the end: a law's def keeps its mirror's promise, and the mirror gives True at every script -/
def atScript (a : Addr) (vs : List Value) (ns : List Int) : Hp := fun b => if b = a then some (.frz { cls := .type "list", data := .seq vs.toArray } (.lst (ns.map V.int))) else none
section
variable {P : Program} {w : World} {K : PySem.W.Frag} {mg mb : Str → Option Value} {c : Cn} {k : Nat} {fa a : Addr} {fd : FuncData} {x : Str} {F : List D → M D} {s₁ : Shared} {vs : List Value} {ns : List Int}
/-- from an abstract heap that tracks the script at most -/
theorem run_at {H : Hp} (KX : K.In s₁.heap) (hns : s₁.heap.Ns mainGlobals mg) (hb : s₁.heap.Ns builtinsNs mb) (hbb : ∀ x : Str, x ≠ "__name__" → mb x = bootBuiltins x) (hlim : s₁.heap.NoLimit) (hg : s₁.gens = #[])
    (hr : Room k callerA) (G : ∀ base : Heap, K.In base → base.Ns mainGlobals mg → FnG P w K mg base (L2.CX P w) k fa fd [x] (spM K c F)) (bind : ∀ (s : Shared) (u : Value), BindsTo s fd ⟨[u], []⟩ [(x, u)])
    (val : ∃ S', F [.scr ns] none = .ok (.bl true) S') (ok : HOk P w H s₁.heap) (sq : SqL K H a (ns.map V.int)) (only : ∀ b u, H b = some u → ∃ o xs, u = .frz o (.lst xs) ∧ s₁.heap.get? b = some { cls := .type "list", data := .seq vs.toArray } ∧ K.lookup b = none) :
    codeAny (model P w) callerA (.call (.ref fa) ⟨[.ref a], []⟩) (fun r s' => r = .ok (.ret (.bool true)) ∧ OldK s₁.heap s'.heap ∧ s'.os = s₁.os ∧ AllBare s'.gens) s₁ := by
  have into : ∀ {b : Addr} {o : Obj}, s₁.heap.get? b = some o → H b = none → (hidT s₁.heap H).get? b = some o := fun q n => hidT_get q n
  have dictFree : ∀ {b : Addr} {o : Obj} {es : Array DictEntry} {ep : Nat}, s₁.heap.get? b = some o → o.data = .dict es ep → H b = none := by
    intro b o es ep q d
    cases z : H b with
    | none => rfl
    | some u =>
      obtain ⟨_, _, _, q2, _⟩ := only b u z
      rw [q] at q2
      cases q2
      cases d
  have lift : ∀ {b : Addr} {m : Str → Option Value}, s₁.heap.Ns b m → (hidT s₁.heap H).Ns b m := by
    rintro b m ⟨o, es, ep, q, d, r⟩
    exact ⟨o, es, ep, into q (dictFree q d), d, r⟩
  have kin : K.In (hidT s₁.heap H) := fun b o q => by
    refine into (KX b o q) ?_
    cases z : H b with
    | none => rfl
    | some u =>
      obtain ⟨_, _, _, _, q2⟩ := only b u z
      rw [q] at q2
      cases q2
  have e0 : Env0 P w K mg (hidT s₁.heap H) callerA [] s₁ H := by
    refine { frames := rfl, mod := { kin := kin, glob := lift hns, blt := ⟨mb, lift hb, hbb⟩, nolimit := ?_ }, bs := fun b o q => of_hidT q, bsz := Nat.le_of_eq (hidT_size _ _), funs := trivial, frf := ?_, hok := ok, bare := .of_eq hg }
    · obtain ⟨mc, q1, q2⟩ := hlim
      exact ⟨mc, lift q1, q2⟩
    · intro b z
      exact absurd z (by simp [frs])
  obtain ⟨S', hF⟩ := val
  have want : spM K c F [.ref a] H (fun v _ => v = .bl true) EF := by
    refine ⟨⟨H, none⟩, [.scr ns], none, ⟨Ex.refl H, rfl⟩, ⟨_, [], rfl, ⟨a, rfl, sq⟩, rfl⟩, ?_⟩
    rw [hF]
    exact fun W' H' v _ _ r => r
  refine codeAny_mono ((G _ kin (lift hns)).run callerA [] s₁ H ⟨[.ref a], []⟩ [.ref a] [.ref a] _ _ hr rfl e0 (bind s₁ (.ref a)) (.cons rfl .nil) want) fun r s' out => ?_
  match r, out with
  | .error e, out =>
    obtain ⟨_, _, _, _, _, _, _, _, _, _, _, _, z⟩ := out
    exact z.elim
  | .ok (.ret u), out =>
    obtain ⟨v, H', os, bare, un, ok', rv, q⟩ := out
    subst q
    have eu : u = Value.bool true := rv
    subst eu
    refine ⟨rfl, OldK.of_keep fun b o q => ?_, os, bare⟩
    cases z : H b with
    | none => exact un.keep b o q z (by simp [frs]) (by simp)
    | some t =>
      obtain ⟨ob, xs, rfl, _⟩ := only b t z
      have h1 := ok b _ z
      have h2 := ok' b _ (un.frzs b ob _ z)
      have e1 : o = ob := by
        have := h1.1
        rw [q] at this
        exact Option.some.inj this
      rw [e1]
      exact h2.1
theorem run_law (KX : K.In s₁.heap) (hns : s₁.heap.Ns mainGlobals mg) (hb : s₁.heap.Ns builtinsNs mb) (hbb : ∀ x : Str, x ≠ "__name__" → mb x = bootBuiltins x) (hlim : s₁.heap.NoLimit) (hg : s₁.gens = #[])
    (ha : s₁.heap.get? a = some { cls := .type "list", data := .seq vs.toArray }) (hi : IntsAre vs ns) (hl : ns.length ≤ sizeLine) (hr : Room k callerA)
    (G : ∀ base : Heap, K.In base → base.Ns mainGlobals mg → FnG P w K mg base (L2.CX P w) k fa fd [x] (spM K c F)) (bind : ∀ (s : Shared) (u : Value), BindsTo s fd ⟨[u], []⟩ [(x, u)])
    (val : ∃ S', F [.scr ns] none = .ok (.bl true) S') :
    codeAny (model P w) callerA (.call (.ref fa) ⟨[.ref a], []⟩) (fun r s' => r = .ok (.ret (.bool true)) ∧ OldK s₁.heap s'.heap ∧ s'.os = s₁.os ∧ AllBare s'.gens) s₁ := by
  have rv := vals_ints hi
  have len := hi.length
  cases look : K.lookup a with
  | some o =>
    have q := KX a o look
    rw [ha] at q
    cases q
    refine run_at (vs := vs) (H := fun _ => none) KX hns hb hbb hlim hg hr G bind val (fun b u z => nomatch z) (.inr ⟨_, vs.toArray, _, look, rfl, rfl, rfl, ?_, ?_⟩) fun b u z => nomatch z
    · rw [List.size_toArray, len]
      exact hl
    · simpa using rv
  | none =>
    refine run_at (H := atScript a vs ns) (vs := vs) KX hns hb hbb hlim hg hr G bind val (fun b u z => ?_) (.inl (.inr ⟨_, if_pos rfl⟩)) fun b u z => ?_
    · unfold atScript at z
      split at z
      · rename_i eb
        subst eb
        cases z
        exact ⟨ha, by rw [List.length_map]; exact hl, vs, _, rv, ha⟩
      · cases z
    · unfold atScript at z
      split at z
      · rename_i eb
        subst eb
        cases z
        exact ⟨_, _, rfl, ha, look⟩
      · cases z
end
/-- what is left of the row behind its head -/
theorem mini_walk {l : PySem.W.OpenLaw} {n k : Nat} {q : Program} {loose : List Str} {XP : (Str → Option Value) → Heap → Prop} {YP : World → Heap → Prop} {d : DefRec} {K : Params → PySem.W.Frag} {x : Str} {F : List D → M D}
    (hn : l.most = some n) (hn2 : n ≤ sizeLine) (hdf : d.params.defaults = []) (hr : Room k callerA) (hY : ∀ (w : World) (h : Heap), YP w h → (K w.params).In h)
    (G : ∀ (w : World) (mg : Str → Option Value) (fa : Addr) (h : Heap), (K w.params).In h → h.Ns mainGlobals mg → mg d.name = some (.ref fa) →
      ∃ (c : Cn) (fd : FuncData), (∀ (s : Shared) (u : Value), BindsTo s fd ⟨[u], []⟩ [(x, u)]) ∧ ∀ base : Heap, (K w.params).In base → base.Ns mainGlobals mg → FnG l.prog w (K w.params) mg base (L2.CX l.prog w) k fa fd [x] (spM (K w.params) c F))
    (val : ∀ ns : List Int, ns.length ≤ n → ∃ S', F [.scr ns] none = .ok (.bl true) S') :
    PySem.W.WalkO q loose XP YP l.row.toRowW d [] (fun f vs => PySem.call f vs) := by
  refine Att.attach_call hn hdf fun w s₀ s₁ mg mb fa o pm cd doc a vs ns Gr Y ho hd hcd hmg hobj hints hlen hg => ?_
  have KX := hY w _ Y
  obtain ⟨c, fd, hb, hG⟩ := G w mg fa _ KX Gr.T.g hmg
  exact run_law KX Gr.T.g Gr.T.b Gr.T.builtins Gr.T.nolimit hg hobj hints (Nat.le_trans hlen hn2) hr hG hb (val ns hlen)
end Mini
namespace Mini
open PySem PySem.Spec PyProof.Rows L2 Evl

/-! ### the rules with their sides shown by the kernel -/
theorem ps_body {P : Program} {w : World} {K : PySem.W.Frag} {mg : Str → Option Value} {base : Heap} {N : List Str} {qual : Str} {sc : Scope} {f : Addr} {cd : Value} {A : Around} {outer : List Env} {s : Shared} {H : Hp} {E : XK} :
    Passes (L2.CX P w) (cxOf (L2.CX P w) P w K mg base N qual sc f cd A outer s H E) E := passes_call (takes_of rfl rfl rfl rfl) fun _ _ _ _ h => h
theorem ps_own {P : Program} {w : World} {K : PySem.W.Frag} {mg : Str → Option Value} {base : Heap} {N : List Str} {qual : Str} {sc : Scope} {f : Addr} {cd : Value} {A : Around} {outer : List Env} {s : Shared} {H : Hp} {E : XK} :
    PassesOwn (model P w) (cxOf (L2.CX P w) P w K mg base N qual sc f cd A outer s H E).A (cxOf (L2.CX P w) P w K mg base N qual sc f cd A outer s H E).env (cxOf (L2.CX P w) P w K mg base N qual sc f cd A outer s H E).xe := passes_of rfl
section
variable {X : Cx} {c : Cn} {E : XK} {a b e tg : Expr} {es : List Expr} {fa fb : FE} {ga : FA} {x y : Str} {p pos : Pos} {i : Nat}
theorem me_varL (hN : X.N[i]? = some x := by kernel_rfl) (hv : X.env.scope.names.lookup x = some .local := by kernel_rfl) (hd : (x == ("__debug__" : Str)) = false := by kernel_rfl) (hcd : (x == ("__classdict__" : Str)) = false := by kernel_rfl) : PE X (.Name x pos) (tM X.K c E (var i)) := me_var hN (.inl hv) hd hcd
theorem me_varC (hN : X.N[i]? = some x := by kernel_rfl) (hv : X.env.scope.names.lookup x = some .cell := by kernel_rfl) (hd : (x == ("__debug__" : Str)) = false := by kernel_rfl) (hcd : (x == ("__classdict__" : Str)) = false := by kernel_rfl) : PE X (.Name x pos) (tM X.K c E (var i)) := me_var hN (.inr (.inl hv)) hd hcd
theorem me_varF (hN : X.N[i]? = some x := by kernel_rfl) (hv : X.env.scope.names.lookup x = some .free := by kernel_rfl) (hd : (x == ("__debug__" : Str)) = false := by kernel_rfl) (hcd : (x == ("__classdict__" : Str)) = false := by kernel_rfl) : PE X (.Name x pos) (tM X.K c E (var i)) := me_var hN (.inr (.inr hv)) hd hcd
theorem me_varBL (hN : X.N[i]? = some x := by kernel_rfl) (hv : X.env.scope.names.lookup x = some .local := by kernel_rfl) (hd : (x == ("__debug__" : Str)) = false := by kernel_rfl) (hcd : (x == ("__classdict__" : Str)) = false := by kernel_rfl) : PE X (.Name x pos) (tB X.K c E (varB i)) := me_varB hN (.inl hv) hd hcd
theorem me_varBC (hN : X.N[i]? = some x := by kernel_rfl) (hv : X.env.scope.names.lookup x = some .cell := by kernel_rfl) (hd : (x == ("__debug__" : Str)) = false := by kernel_rfl) (hcd : (x == ("__classdict__" : Str)) = false := by kernel_rfl) : PE X (.Name x pos) (tB X.K c E (varB i)) := me_varB hN (.inr (.inl hv)) hd hcd
theorem me_varBF (hN : X.N[i]? = some x := by kernel_rfl) (hv : X.env.scope.names.lookup x = some .free := by kernel_rfl) (hd : (x == ("__debug__" : Str)) = false := by kernel_rfl) (hcd : (x == ("__classdict__" : Str)) = false := by kernel_rfl) : PE X (.Name x pos) (tB X.K c E (varB i)) := me_varB hN (.inr (.inr hv)) hd hcd
theorem gl_of (h : X.env.kindOf x = some .globalImplicit) : Gl X x := h
theorem me_gint' {n : Int} (hm : ∃ t, X.mg x = some (.int n t)) (hg : X.env.kindOf x = some .globalImplicit := by kernel_rfl) (hd : (x == ("__debug__" : Str)) = false := by kernel_rfl) : PE X (.Name x pos) (tM X.K c E (cst (.int n))) := by
  obtain ⟨t, hm⟩ := hm
  exact me_gint hg hm ⟨t, rfl⟩ hd
theorem me_gstr' {n : Str} (hm : ∃ t, X.mg x = some (.str n t)) (h : SOk n := by decide +kernel) (hg : X.env.kindOf x = some .globalImplicit := by kernel_rfl) (hd : (x == ("__debug__" : Str)) = false := by kernel_rfl) : PE X (.Name x pos) (tM X.K c E (cst (.str n))) := by
  obtain ⟨t, hm⟩ := hm
  exact me_gstr hg hm ⟨t, rfl⟩ h hd
theorem me_gfn' {n : Nat} {f : Addr} (hm : X.mg x = some (.ref f)) (r : c.fa n = some f) (hg : X.env.kindOf x = some .globalImplicit := by kernel_rfl) (hd : (x == ("__debug__" : Str)) = false := by kernel_rfl) : PE X (.Name x pos) (tM X.K c E (fnE n)) := me_gfn hg hm r hd
theorem ma_cons' {r : FA} (ha : PE X e (tM X.K c E fa)) (hr : PA X es (tA X.K c E r)) (hs : starEach (e :: es) X.env = (false, eval e X.env) :: starEach es X.env := by kernel_rfl) : PA X (e :: es) (tA X.K c E (consA fa r)) := ma_cons ha hr hs
theorem me_un {op : UnaryOp} {f : D → Option D} {r : V → Hp → VK → Prop} (ho : UnR X (unaryOp op) r) (hr : ∀ {W : Wd} {H : Hp} {S : DS} {d d' : D} {v : V} (Q : VK), StOk X.K c W H S → RepB X.K c W H d v → f d = some d' → (∀ W' H' x, StOk X.K c W' H' S → Keep W H W' H' → Rep X.K c W' d' x → Q x H') → r v H Q)
    (ha : PE X a (tB X.K c E fa)) : PE X (.UnaryOp op a pos) (tM X.K c E (op1 f fa)) := pe_imp (pe_un ho ha) fun σ H Q h => by
  obtain ⟨W, ρ, S, st, en, q⟩ := tM_un h
  refine then_B (O := OutM X.K c W H E Q) st en (fun _ _ _ z => z) (fun z => z) q fun d S1 W1 H1 v st1 k1 r1 q1 => ?_
  obtain ⟨d', e', q3⟩ := lift_ok (β := D) (O := OutM X.K c W H E Q) (fun z => z) q1
  exact hr Q st1 r1 e' fun W' H' x st' k' rx => q3 W' H' x st' (k1.tr st1 k') rx
def dNeg : D → Option D
  | .int i => some (.int (-i))
  | _ => none
theorem un_negM {W : Wd} {H : Hp} {S : DS} {d d' : D} {v : V} (Q : VK) (st : StOk X.K c W H S) (a : RepB X.K c W H d v) (q : dNeg d = some d') (k : ∀ W' H' x, StOk X.K c W' H' S → Keep W H W' H' → Rep X.K c W' d' x → Q x H') : (rU fun i => .int (-i)) v H Q := by
  cases d <;> first | (cases q; done) | skip
  cases q
  exact ⟨_, a.int, k W H _ st (Keep.refl W H) rfl⟩
theorem me_bl1' {id : String} {r : R1} {f : D → Option D} (hc : CallR X (.builtin id) r) (hr : UnM X.K c r f) (hm : X.mg x = none) (ha : PE X a (tB X.K c E fa)) (hv : bootBuiltins x = some (.builtin id) := by kernel_rfl) (hg : X.env.kindOf x = some .globalImplicit := by kernel_rfl) (hn : x ≠ "__name__" := by decide +kernel)
    (hdb : (x == ("__debug__" : Str)) = false := by kernel_rfl) (he : starEach [a] X.env = (false, eval a X.env) :: starEach [] X.env := by kernel_rfl) (hpl : (backTo pos (starEach [] X.env)).any (·.1) = false := by kernel_rfl) : PE X (.Call (.Name x p) [a] [] pos) (tM X.K c E (op1 f fa)) := me_bl1 hc hr hg hm hv ha hn hdb he hpl
theorem me_ty1' {T : String} {r : R1} {f : D → Option D} (hc : CallR X (.type T) r) (hr : UnM X.K c r f) (hm : X.mg x = none) (ha : PE X a (tB X.K c E fa)) (hv : bootBuiltins x = some (.type T) := by kernel_rfl) (hg : X.env.kindOf x = some .globalImplicit := by kernel_rfl) (hn : x ≠ "__name__" := by decide +kernel)
    (hdb : (x == ("__debug__" : Str)) = false := by kernel_rfl) (he : starEach [a] X.env = (false, eval a X.env) :: starEach [] X.env := by kernel_rfl) (hpl : (backTo pos (starEach [] X.env)).any (·.1) = false := by kernel_rfl) : PE X (.Call (.Name x p) [a] [] pos) (tM X.K c E (op1 f fa)) := me_ty1 hc hr hg hm hv ha hn hdb he hpl
theorem me_bl1O' {id : String} {r : R1} {f : D → Option D} (hc : CallR X (.builtin id) r) (hr : UnO X.K c r f) (hm : X.mg x = none) (ha : PE X a (tB X.K c E fa)) (hv : bootBuiltins x = some (.builtin id) := by kernel_rfl) (hg : X.env.kindOf x = some .globalImplicit := by kernel_rfl) (hn : x ≠ "__name__" := by decide +kernel)
    (hdb : (x == ("__debug__" : Str)) = false := by kernel_rfl) (he : starEach [a] X.env = (false, eval a X.env) :: starEach [] X.env := by kernel_rfl) (hpl : (backTo pos (starEach [] X.env)).any (·.1) = false := by kernel_rfl) : PE X (.Call (.Name x p) [a] [] pos) (tO X.K c E (op1 f fa)) := me_bl1O hc hr hg hm hv ha hn hdb he hpl
theorem me_ty1O' {T : String} {r : R1} {f : D → Option D} (hc : CallR X (.type T) r) (hr : UnO X.K c r f) (hm : X.mg x = none) (ha : PE X a (tB X.K c E fa)) (hv : bootBuiltins x = some (.type T) := by kernel_rfl) (hg : X.env.kindOf x = some .globalImplicit := by kernel_rfl) (hn : x ≠ "__name__" := by decide +kernel)
    (hdb : (x == ("__debug__" : Str)) = false := by kernel_rfl) (he : starEach [a] X.env = (false, eval a X.env) :: starEach [] X.env := by kernel_rfl) (hpl : (backTo pos (starEach [] X.env)).any (·.1) = false := by kernel_rfl) : PE X (.Call (.Name x p) [a] [] pos) (tO X.K c E (op1 f fa)) := me_ty1O hc hr hg hm hv ha hn hdb he hpl
theorem me_bl2' {id : String} {r : R1} {g : D → D → Option D} (hc : CallR X (.builtin id) r) (hr : OpM X.K c (r2of r) g) (hm : X.mg x = none) (ha : PE X a (tB X.K c E fa)) (hb : PE X b (tB X.K c E fb)) (hv : bootBuiltins x = some (.builtin id) := by kernel_rfl) (hg : X.env.kindOf x = some .globalImplicit := by kernel_rfl) (hn : x ≠ "__name__" := by decide +kernel)
    (hdb : (x == ("__debug__" : Str)) = false := by kernel_rfl) (he : starEach [a, b] X.env = (false, eval a X.env) :: starEach [b] X.env := by kernel_rfl) (he2 : starEach [b] X.env = (false, eval b X.env) :: starEach [] X.env := by kernel_rfl) (hpl : (backTo pos (starEach [b] X.env)).any (·.1) = false := by kernel_rfl) : PE X (.Call (.Name x p) [a, b] [] pos) (tM X.K c E (op2 g fa fb)) := me_bl2 hc hr hg hm hv ha hb hn hdb he he2 hpl
theorem me_isi' {T : String} {p2 : Pos} (hm : X.mg "isinstance" = none) (hm2 : X.mg y = none) (ha : PE X a (tB X.K c E fa)) (hv2 : bootBuiltins y = some (.type T) := by kernel_rfl) (hg : X.env.kindOf "isinstance" = some .globalImplicit := by kernel_rfl) (hg2 : X.env.kindOf y = some .globalImplicit := by kernel_rfl) (hn2 : y ≠ "__name__" := by decide +kernel)
    (hdb2 : (y == ("__debug__" : Str)) = false := by kernel_rfl) (he : starEach [a, .Name y p2] X.env = (false, eval a X.env) :: starEach [.Name y p2] X.env := by kernel_rfl) (he2 : starEach [.Name y p2] X.env = (false, eval (.Name y p2) X.env) :: starEach [] X.env := by kernel_rfl) (hpl : (backTo pos (starEach [.Name y p2] X.env)).any (·.1) = false := by kernel_rfl) :
    PE X (.Call (.Name "isinstance" p) [a, .Name y p2] [] pos) (tM X.K c E (op1 (isiD T) fa)) := me_isi hg hm hg2 hm2 hv2 ha hn2 hdb2 he he2 hpl
theorem me_call' {T : CXT} {k : Nat} {f : Addr} {fd : FuncData} {ps : List Str} {F : List D → M D} (G : FnG X.prog X.w X.K X.mg X.base T k f fd ps (spM X.K c F)) (hr : Room k X.A) (gd : X.A.guards = some []) (hm : X.mg x = some (.ref f)) (hk : PySem.W.keepIn X.K (.ref f) = true) (hb : Binds X.K fd ps []) (hx : Passes T X E)
    (ha : PA X (e :: es) (tA X.K c E ga)) (hg : X.env.kindOf x = some .globalImplicit := by kernel_rfl) (hdb : (x == ("__debug__" : Str)) = false := by kernel_rfl) (he : starEach (e :: es) X.env = (false, eval e X.env) :: starEach es X.env := by kernel_rfl) (hpl : (backTo pos (starEach es X.env)).any (·.1) = false := by kernel_rfl) :
    PE X (.Call (.Name x p) (e :: es) [] pos) (tM X.K c E (callE F ga)) := me_call G hr gd hg hm hk hb hx ha hdb he hpl
theorem me_callS' {T : CXT} {k : Nat} {f : Addr} {fd : FuncData} {ps : List Str} {F : List D → M D} {z : Str} (hz : SOk z) (G : FnG X.prog X.w X.K X.mg X.base T k f fd ps (spM X.K c F)) (hr : Room k X.A) (gd : X.A.guards = some []) (hm : X.mg x = some (.ref f)) (hk : PySem.W.keepIn X.K (.ref f) = true) (hb : ∃ t, Binds X.K fd ps [.str z t]) (hx : Passes T X E)
    (ha : PA X (e :: es) (tA X.K c E ga)) (hg : X.env.kindOf x = some .globalImplicit := by kernel_rfl) (hdb : (x == ("__debug__" : Str)) = false := by kernel_rfl) (he : starEach (e :: es) X.env = (false, eval e X.env) :: starEach es X.env := by kernel_rfl) (hpl : (backTo pos (starEach es X.env)).any (·.1) = false := by kernel_rfl) :
    PE X (.Call (.Name x p) (e :: es) [] pos) (tM X.K c E (callE F (appA ga [.str z]))) := by
  obtain ⟨t, hb⟩ := hb
  exact me_callS hz G hr gd hg hm hk hb hx ha hdb he hpl
theorem mt_tru' (ha : PE X e (tB X.K c E fa)) (he : ∀ whole, isTrue e X.env whole = (do let v ← whole; standAt e.pos; holding [v] (truthy v)) := by intro _; kernel_rfl) : PT X e (tT X.K c E (truB fa)) := mt_tru ha he
theorem mi_rng1' (hm : X.mg "range" = none) (ha : PE X a (tM X.K c E fa)) (hg : X.env.kindOf "range" = some .globalImplicit := by kernel_rfl) (hs : starEach [a] X.env = [(false, eval a X.env)] := by kernel_rfl) : PI X tg (.Call (.Name "range" p) [a] [] pos) (tI X.K c E (itR1 fa)) := mi_rng1 hg hm ha hs
theorem mi_rng2' (hm : X.mg "range" = none) (ha : PE X a (tM X.K c E fa)) (hb : PE X b (tM X.K c E fb)) (hg : X.env.kindOf "range" = some .globalImplicit := by kernel_rfl) (hs : starEach [a, b] X.env = [(false, eval a X.env), (false, eval b X.env)] := by kernel_rfl) (hs2 : starEach [b] X.env = [(false, eval b X.env)] := by kernel_rfl) : PI X tg (.Call (.Name "range" p) [a, b] [] pos) (tI X.K c E (itR2 fa fb)) := mi_rng2 hg hm ha hb hs hs2
theorem mi_enum' {tpos : Pos} {elts : List Expr} {kk : Nat} (hm : X.mg "enumerate" = none) (ha : PE X a (tM X.K c E fa)) (hg : X.env.kindOf "enumerate" = some .globalImplicit := by kernel_rfl) (hs : starEach [a] X.env = [(false, eval a X.env)] := by kernel_rfl) : PI X (.Tuple elts kk tpos) (.Call (.Name "enumerate" p) [a] [] pos) (tI X.K c E (itEn fa)) := mi_enum hg hm ha hs
theorem mi_zip' {tpos : Pos} {elts : List Expr} {kk : Nat} (hm : X.mg "zip" = none) (ha : PE X a (tM X.K c E fa)) (hb : PE X b (tM X.K c E fb)) (hg : X.env.kindOf "zip" = some .globalImplicit := by kernel_rfl) (hs : starEach [a, b] X.env = (false, eval a X.env) :: starEach [b] X.env := by kernel_rfl) (hs2 : starEach [b] X.env = (false, eval b X.env) :: starEach [] X.env := by kernel_rfl)
    (hpl : (backTo pos (starEach [b] X.env)).any (·.1) = false := by kernel_rfl) : PI X (.Tuple elts kk tpos) (.Call (.Name "zip" p) [a, b] [] pos) (tI X.K c E (itZp fa fb)) := mi_zip hg hm ha hb hs hs2 hpl
theorem mg_nameL {us : List Nat} (hN : X.N.Nodup) (hi : X.N[i]? = some x := by kernel_rfl) (hx : X.env.scope.names.lookup x = some .local := by kernel_rfl) (hu : i ∈ us := by decide) : PG X (.Name x pos) (tGd X.K c us (tgN i)) := mg_name hN hi (.inl hx) hu (.inr hx)
theorem mg_nameC {us : List Nat} (hN : X.N.Nodup) (hi : X.N[i]? = some x := by kernel_rfl) (hx : X.env.scope.names.lookup x = some .cell := by kernel_rfl) (hu : i ∈ us := by decide) (hf : X.fn x = true := by kernel_rfl) : PG X (.Name x pos) (tGd X.K c us (tgN i)) := mg_name hN hi (.inr hx) hu (.inl hf)
theorem mgs_cons' {us : List Nat} {t : TGd} {ts : List TGd} (h1 : PG X e (tGd X.K c us t)) (h2 : PGs X es (tGds X.K c us ts)) (hs : (assignEach (e :: es) X.env).map (·.2) = assign e X.env :: (assignEach es X.env).map (·.2) := by kernel_rfl) : PGs X (e :: es) (tGds X.K c us (t :: ts)) := mgs_cons h1 h2 hs
theorem ms_setL {pos' : Pos} (hN : X.N.Nodup) (he : PE X e (tM X.K c E fa)) (hi : X.N[i]? = some x := by kernel_rfl) (hx : X.env.scope.names.lookup x = some .local := by kernel_rfl) (hs : swapsWith e (some (.Name x pos')) pos.line X.env = pure false := by kernel_rfl) : PS X (.Assign [.Name x pos'] e pos) (tS X.K c E (asgS i fa)) := ms_set hN hi (.inl hx) he hs (.inr hx)
theorem ms_setC {pos' : Pos} (hN : X.N.Nodup) (he : PE X e (tM X.K c E fa)) (hi : X.N[i]? = some x := by kernel_rfl) (hx : X.env.scope.names.lookup x = some .cell := by kernel_rfl) (hs : swapsWith e (some (.Name x pos')) pos.line X.env = pure false := by kernel_rfl) (hf : X.fn x = true := by kernel_rfl) : PS X (.Assign [.Name x pos'] e pos) (tS X.K c E (asgS i fa)) := ms_set hN hi (.inr hx) he hs (.inl hf)
theorem ms_setOL {pos' : Pos} (hN : X.N.Nodup) (he : PE X e (tO X.K c E fa)) (hi : X.N[i]? = some x := by kernel_rfl) (hx : X.env.scope.names.lookup x = some .local := by kernel_rfl) (hs : swapsWith e (some (.Name x pos')) pos.line X.env = pure false := by kernel_rfl) : PS X (.Assign [.Name x pos'] e pos) (tS X.K c E (asgOS i fa)) := ms_setO hN hi (.inl hx) he hs (.inr hx)
theorem ms_setOC {pos' : Pos} (hN : X.N.Nodup) (he : PE X e (tO X.K c E fa)) (hi : X.N[i]? = some x := by kernel_rfl) (hx : X.env.scope.names.lookup x = some .cell := by kernel_rfl) (hs : swapsWith e (some (.Name x pos')) pos.line X.env = pure false := by kernel_rfl) (hf : X.fn x = true := by kernel_rfl) : PS X (.Assign [.Name x pos'] e pos) (tS X.K c E (asgOS i fa)) := ms_setO hN hi (.inr hx) he hs (.inl hf)
theorem sw_t {elt : Expr} {gs : List Comprehension} {scope : Scope} {pos py : Pos} {y : Str} {l : Nat} {env : Env} (hk : env.scope.kind = .function) (hy : env.scope.names.lookup y = some .local) (hl : (py.line == pos.line) = true)
    (ha : (scope.names.any fun (n, k) => n == y && (k == .local || k == .cell)) = false) : swapsWith (.ListComp elt gs scope pos) (some (.Name y py)) l env = pure true := sw_true hk hy hl ha
theorem blk_ok {N : List Str} {sc scope : Scope} {own : List (Str × Nat)} (h : blkC N sc scope own = true) : BlkOk N sc scope own := blkOk_by h
end
/-! ### chains of comparisons -/
def chn2 (f g : D → D → Option D) (a b c : FE) : FE := fun ρ => bd (a ρ) fun x => bd (b ρ) fun y => bd (lift (f x y)) fun z => match z with
  | .bl true => bd (c ρ) fun u => lift (g y u)
  | .bl false => rt (.bl false)
  | _ => no
section
variable {X : Cx} {cn : Cn} {E : XK} {a b c e : Expr} {fa fb fc : FE} {pos : Pos} {op op' : CmpOp} {f g : D → D → Option D} {r r' : R2}
theorem chn_out (h1 : OpM X.K cn r f) (h2 : OpM X.K cn r' g) : ∀ σ H Q, tM X.K cn E (chn2 f g fa fb fc) σ H Q → tChain r r' (tB X.K cn E fa) (tB X.K cn E fb) (tB X.K cn E fc) σ H Q := fun σ H Q h => by
  obtain ⟨W, ρ, S, st, en, q⟩ := tM_un h
  refine then_B (O := OutM X.K cn W H E Q) st en (fun _ _ _ z => z) (fun z => z) q fun d S1 W1 H1 v st1 k1 r1 q1 => ?_
  refine then_B (O := OutM X.K cn W H E Q) st1 (en.ext k1) (fun _ _ _ z => ErQ.pre z k1 st1) (fun z => z) q1 fun d2 S2 W2 H2 u st2 k2 r2 q2 => ?_
  change OutM X.K cn W H E Q (bd (lift (f d d2)) _ S2) at q2
  unfold bd at q2
  cases e1 : f d d2 with
  | none => rw [e1] at q2; exact q2.elim
  | some z =>
    rw [e1] at q2
    have k12 := k1.tr st1 k2
    refine h1 _ st2 (r1.ext k2) r2 e1 fun W3 H3 x st3 k3 rx => ?_
    cases z <;> first | exact (show False from q2).elim | skip
    rename_i kb
    cases rx
    refine ⟨kb, rfl, ?_⟩
    have k13 := k12.tr st2 k3
    cases kb with
    | false => exact q2 W3 H3 _ st3 k13 rfl
    | true =>
      refine then_B (O := OutM X.K cn W H E Q) st3 ((((en.ext k1).ext k2)).ext k3) (fun _ _ _ z => ErQ.pre z k13 st3) (fun z => z) q2 fun d4 S4 W4 H4 u4 st4 k4 r4 q4 => ?_
      obtain ⟨d', e', q5⟩ := lift_ok (β := D) (O := OutM X.K cn W H E Q) (fun z => z) q4
      exact h2 Q st4 ((r2.ext k3).ext k4) r4 e' fun W' H' x st' k' rx => q5 W' H' x st' ((k13.tr st3 k4).tr st4 k') rx
theorem me_chain (ho : OpR X (compareOp op) r) (ho' : OpR X (compareOp op') r') (h1 : OpM X.K cn r f) (h2 : OpM X.K cn r' g) (ha : PE X a (tB X.K cn E fa)) (hb : PE X b (tB X.K cn E fb)) (hc : PE X c (tB X.K cn E fc)) (hm : lastMarks [op, op'] [b, c] = false := by kernel_rfl) :
    PE X (.Compare a [op, op'] [b, c] pos) (tM X.K cn E (chn2 f g fa fb fc)) := pe_imp (pe_chain ho ho' ha hb hc hm) (chn_out h1 h2)
theorem mt_chain (ho : OpR X (compareOp op) r) (ho' : OpR X (compareOp op') r') (h1 : OpM X.K cn r f) (h2 : OpM X.K cn r' g) (ha : PE X a (tB X.K cn E fa)) (hb : PE X b (tB X.K cn E fb)) (hc : PE X c (tB X.K cn E fc)) (hm : lastMarks [op, op'] [b, c] = false := by kernel_rfl) :
    PT X (.Compare a [op, op'] [b, c] pos) (tT X.K cn E (valB (chn2 f g fa fb fc))) := pt_imp (pt_chain ho ho' ha hb hc hm) (val_out (chn_out h1 h2))
end
/-! ### names used by the printed texts (to be widened) -/
section
variable {X : Cx} {c : Cn}
theorem op_ltAll : OpR X (compareOp .Lt) (rI0 fun i j => .bl (decide (i < j))) := op_lt
theorem op_leAll : OpR X (compareOp .LtE) (rI0 fun i j => .bl (decide (i ≤ j))) := op_le
theorem op_gtAll : OpR X (compareOp .Gt) (rI0 fun i j => .bl (decide (j < i))) := op_gt
theorem op_geAll : OpR X (compareOp .GtE) (rI0 fun i j => .bl (decide (j ≤ i))) := op_ge
theorem m_ltAll : OpM X.K c (rI0 fun i j => .bl (decide (i < j))) dLt := m_lt
theorem m_leAll : OpM X.K c (rI0 fun i j => .bl (decide (i ≤ j))) dLe := m_le
theorem m_gtAll : OpM X.K c (rI0 fun i j => .bl (decide (j < i))) dGt := m_gt
theorem m_geAll : OpM X.K c (rI0 fun i j => .bl (decide (j ≤ i))) dGe := m_ge
end
def W0 : Nat := 2 ^ 4000
end Mini
namespace Mini
open PySem PySem.Spec PyProof.Rows L2 Evl

/-! ### small pieces -/
theorem passL {P : Program} {w : World} {X : Cx} (hP : P = X.prog := by rfl) (hw : w = X.w := by rfl) : Passes (L2.CX P w) X EF := fun pins σ H s e s' _ h => by
  obtain ⟨_, _, _, _, _, _, _, _, _, _, _, _, z⟩ := h
  exact z.elim
theorem Room.small {k : Nat} {A : Around} (r : Room k A) : A.units + 1 < cLine := by have := r.un; omega
theorem Room.u64 {k : Nat} {A : Around} (r : Room k A) : A.units + 66 < cLine := by have := r.un; omega
section
variable {X : Cx} {c : Cn} {E : XK} {a b e o tg : Expr} {es : List Expr} {fa fb fc : FE} {ga : FA} {x y : Str} {p pos apos cpos : Pos} {i : Nat}

/-! ### * -/
def dMulX : D → D → Option D
  | .int i, .int j => if i.natAbs.log2 + j.natAbs.log2 < 1000000 then some (.int (i * j)) else none
  | .lst xs, .int k => if k < 16777216 ∧ -16777216 < k ∧ xs.length * k.toNat ≤ 16777216 then some (.lst (List.replicate k.toNat xs).flatten) else none
  | _, _ => none
def dRep : D → D → Option D
  | .lst xs, .int k => if k < 16777216 ∧ -16777216 < k ∧ xs.length * k.toNat ≤ 16777216 then some (.lst (List.replicate k.toNat xs).flatten) else none
  | _, _ => none
theorem repL_rep {K : PySem.W.Frag} {W : Wd} {xs : List D} {vs : List V} (r : RepL K c W xs vs) : ∀ n : Nat, RepL K c W (List.replicate n xs).flatten (List.replicate n vs).flatten
  | 0 => rfl
  | n + 1 => by
    rw [List.replicate_succ, List.replicate_succ, List.flatten_cons, List.flatten_cons]
    exact repL_append r (repL_rep r n)
theorem op_mulAll : OpR X (binaryOp .Mult) (fun x y H Q => rI CMulW (fun i j => .int (i * j)) x y H Q ∨ rRep x y H Q) := op_mulW.or op_rep
theorem m_mulAll : OpM X.K c (fun x y H Q => rI CMulW (fun i j => .int (i * j)) x y H Q ∨ rRep x y H Q) dMulX := fun {W H S d e d' v u} Q st a b q k => by
  cases d <;> cases e <;> first | (cases q; done) | skip
  · exact .inl (m_mul (X := X) (c := c) Q st a b q k)
  · simp only [dMulX] at q
    split at q
    · rename_i xs i hl
      cases q
      obtain ⟨p, vs, rfl, h1, r1⟩ := a.lst st
      exact .inr ⟨p, i, vs, rfl, b.int, h1, by omega, by omega, line_le (by rw [RepL.length r1]; exact hl.2.2), fun l hn => k _ _ _ (lay_st st hn) (lay_keep st hn) (new_lst st hn (repL_rep r1 _))⟩
    · cases q
theorem o_rep : OpO X.K c rRep dRep := fun {W H S d e d' v u} Q st a b q k => by
  cases d <;> cases e <;> first | (cases q; done) | skip
  simp only [dRep] at q
  split at q
  · rename_i xs i hl
    cases q
    obtain ⟨p, vs, rfl, h1, r1⟩ := a.lst st
    exact ⟨p, i, vs, rfl, b.int, h1, by omega, by omega, line_le (by rw [RepL.length r1]; exact hl.2.2), fun l hn => k _ _ _ (new_st st hn) (new_keep st hn) (new_own st hn (repL_rep r1 _))⟩
  · cases q

/-! ### shifts, bits -/
def dShl : D → D → Option D
  | .int i, .int j => if 0 ≤ j ∧ j < 1000 ∧ i.natAbs.log2 < 900000 then some (.int (i * 2 ^ j.toNat)) else none
  | _, _ => none
def dShr : D → D → Option D
  | .int i, .int j => if 0 ≤ j then some (.int (i / 2 ^ j.toNat)) else none
  | _, _ => none
def dBand : D → D → Option D
  | .int i, .int j => some (.int (Builtin.bitAnd i j))
  | _, _ => none
def dBor : D → D → Option D
  | .int i, .int j => some (.int (Builtin.bitOr i j))
  | _, _ => none

/-! ### keys -/
def keyD : D → Option Key
  | .int i => some (.inl i)
  | .str s => some (.inr s)
  | _ => none
def keysL : List D → Option (List Key)
  | [] => some []
  | d :: ds => (keyD d).bind fun k => (keysL ds).map fun ks => k :: ks
theorem key_rep {K : PySem.W.Frag} {W : Wd} {H : Hp} {d : D} {k : Key} {v : V} (r : RepB K c W H d v) (h : keyD d = some k) : v = kV k := by
  cases d <;> first | (cases h; done) | skip
  · cases h; exact r.int
  · cases h; exact r.str.1
theorem key_rep' {K : PySem.W.Frag} {W : Wd} {d : D} {k : Key} {v : V} (r : Rep K c W d v) (h : keyD d = some k) : v = kV k := by
  cases d <;> first | (cases h; done) | skip
  · cases h; exact r
  · cases h; exact r.1
theorem keys_rep {K : PySem.W.Frag} {W : Wd} : ∀ {ds : List D} {ks : List Key} {vs : List V}, RepL K c W ds vs → keysL ds = some ks → vs = ks.map kV
  | [], ks, vs, r, h => by cases h; exact r
  | d :: ds, ks, vs, r, h => by
    obtain ⟨v, r', rfl, r1, r2⟩ := r
    simp only [keysL, Option.bind_eq_some_iff, Option.map_eq_some_iff] at h
    obtain ⟨k, h1, ks', h2, rfl⟩ := h
    rw [List.map_cons, key_rep' r1 h1, keys_rep r2 h2]
section
variable {κ : Type} [DecidableEq κ]
def valD (es : List (κ × D)) (k : κ) : Option D := (es.find? fun e => decide (e.1 = k)).map (·.2)
def putD (es : List (κ × D)) (k : κ) (d : D) : List (κ × D) := if (es.any fun e => decide (e.1 = k)) = true then es.map (fun e => if e.1 = k then (e.1, d) else e) else es ++ [(k, d)]
end
section
variable {K : PySem.W.Frag} {W : Wd} {H : Hp} {S : DS}
theorem RepB.dic {es : List (Key × D)} {v : V} (st : StOk K c W H S) (r : RepB K c W H (.dic es) v) : ∃ a kvs, v = .ref a ∧ H a = some (.dK kvs) ∧ RepE K c W es kvs := by
  rcases r with ⟨a, vs, h1, h2, h3⟩ | ⟨a, h1, _, vs, h2, h3⟩
  · exact ⟨a, vs, h1, st.sub _ _ h2, h3⟩
  · exact ⟨a, vs, h1, h2, h3⟩
theorem RepB.dit {es : List (List Key × D)} {v : V} (st : StOk K c W H S) (r : RepB K c W H (.dit es) v) : ∃ a kvs, v = .ref a ∧ H a = some (.dT kvs) ∧ RepT K c W es kvs := by
  rcases r with ⟨a, vs, h1, h2, h3⟩ | ⟨a, h1, _, vs, h2, h3⟩
  · exact ⟨a, vs, h1, st.sub _ _ h2, h3⟩
  · exact ⟨a, vs, h1, h2, h3⟩
theorem repP {p : Key × D} {v : V} (h : RepP K c W p v) : Rep K c W p.2 v := by cases p; exact h
theorem repQ {p : List Key × D} {v : V} (h : RepQ K c W p v) : Rep K c W p.2 v := by cases p; exact h
theorem repP' {k : Key} {d : D} {v : V} (h : Rep K c W d v) : RepP K c W (k, d) v := h
/-- both looks go alike -/
def RepOp (K : PySem.W.Frag) (c : Cn) (W : Wd) : Option D → Option V → Prop
  | none, none => True
  | some d, some v => Rep K c W d v
  | _, _ => False
theorem valD_rep : ∀ {es : List (Key × D)} {kvs : List (Key × V)} (k : Key), RepE K c W es kvs → RepOp K c W (valD es k) (valV kvs k)
  | [], kvs, k, r => by cases r; exact True.intro
  | p :: es, kvs, k, r => by
    obtain ⟨v, r', rfl, r1, r2⟩ := r
    by_cases e : p.1 = k
    · have e1 : valD (p :: es) k = some p.2 := by simp [valD, List.find?_cons, e]
      rw [e1, valV_pos (p := (p.1, v)) e]
      exact repP r1
    · have e1 : valD (p :: es) k = valD es k := by simp [valD, List.find?_cons, e]
      rw [e1, valV_neg (p := (p.1, v)) e]
      exact valD_rep k r2
theorem valT_rep : ∀ {es : List (List Key × D)} {kvs : List (List Key × V)} (k : List Key), RepT K c W es kvs → RepOp K c W (valD es k) (valV kvs k)
  | [], kvs, k, r => by cases r; exact True.intro
  | p :: es, kvs, k, r => by
    obtain ⟨v, r', rfl, r1, r2⟩ := r
    by_cases e : p.1 = k
    · have e1 : valD (p :: es) k = some p.2 := by simp [valD, List.find?_cons, e]
      rw [e1, valV_pos (p := (p.1, v)) e]
      exact repQ r1
    · have e1 : valD (p :: es) k = valD es k := by simp [valD, List.find?_cons, e]
      rw [e1, valV_neg (p := (p.1, v)) e]
      exact valT_rep k r2
theorem anyD_rep : ∀ {es : List (Key × D)} {kvs : List (Key × V)} (k : Key), RepE K c W es kvs → (es.any fun e => decide (e.1 = k)) = (kvs.any fun e => decide (e.1 = k))
  | [], kvs, k, r => by cases r; rfl
  | p :: es, kvs, k, r => by
    obtain ⟨v, r', rfl, r1, r2⟩ := r
    rw [List.any_cons, List.any_cons, anyD_rep k r2]
theorem anyT_rep : ∀ {es : List (List Key × D)} {kvs : List (List Key × V)} (k : List Key), RepT K c W es kvs → (es.any fun e => decide (e.1 = k)) = (kvs.any fun e => decide (e.1 = k))
  | [], kvs, k, r => by cases r; rfl
  | p :: es, kvs, k, r => by
    obtain ⟨v, r', rfl, r1, r2⟩ := r
    rw [List.any_cons, List.any_cons, anyT_rep k r2]
theorem repE_append : ∀ {es fs : List (Key × D)} {ks us : List (Key × V)}, RepE K c W es ks → RepE K c W fs us → RepE K c W (es ++ fs) (ks ++ us)
  | [], fs, ks, us, r, q => by cases r; exact q
  | p :: es, fs, ks, us, r, q => by
    obtain ⟨v, r', rfl, r1, r2⟩ := r
    exact ⟨v, _, rfl, r1, repE_append r2 q⟩
theorem repT_append : ∀ {es fs : List (List Key × D)} {ks us : List (List Key × V)}, RepT K c W es ks → RepT K c W fs us → RepT K c W (es ++ fs) (ks ++ us)
  | [], fs, ks, us, r, q => by cases r; exact q
  | p :: es, fs, ks, us, r, q => by
    obtain ⟨v, r', rfl, r1, r2⟩ := r
    exact ⟨v, _, rfl, r1, repT_append r2 q⟩
theorem repE_map {k : Key} {d : D} {v : V} (h : Rep K c W d v) : ∀ {es : List (Key × D)} {ks : List (Key × V)}, RepE K c W es ks → RepE K c W (es.map fun e => if e.1 = k then (e.1, d) else e) (ks.map fun e => if e.1 = k then (e.1, v) else e)
  | [], ks, r => by cases r; rfl
  | p :: es, ks, r => by
    obtain ⟨u, r', rfl, r1, r2⟩ := r
    rw [List.map_cons, List.map_cons]
    by_cases e : p.1 = k
    · rw [if_pos e, if_pos e]
      exact ⟨v, _, rfl, h, repE_map h r2⟩
    · rw [if_neg e, if_neg e]
      exact ⟨u, _, rfl, r1, repE_map h r2⟩
theorem repT_map {k : List Key} {d : D} {v : V} (h : Rep K c W d v) : ∀ {es : List (List Key × D)} {ks : List (List Key × V)}, RepT K c W es ks → RepT K c W (es.map fun e => if e.1 = k then (e.1, d) else e) (ks.map fun e => if e.1 = k then (e.1, v) else e)
  | [], ks, r => by cases r; rfl
  | p :: es, ks, r => by
    obtain ⟨u, r', rfl, r1, r2⟩ := r
    rw [List.map_cons, List.map_cons]
    by_cases e : p.1 = k
    · rw [if_pos e, if_pos e]
      exact ⟨v, _, rfl, h, repT_map h r2⟩
    · rw [if_neg e, if_neg e]
      exact ⟨u, _, rfl, r1, repT_map h r2⟩
theorem putE_rep {es : List (Key × D)} {kvs : List (Key × V)} {k : Key} {d : D} {v : V} (r : RepE K c W es kvs) (h : Rep K c W d v) : RepE K c W (putD es k d) (putK kvs k v) := by
  unfold putD putK
  rw [anyD_rep k r]
  split
  · exact repE_map h r
  · exact repE_append r ⟨v, [], rfl, h, rfl⟩
theorem putT_rep {es : List (List Key × D)} {kvs : List (List Key × V)} {k : List Key} {d : D} {v : V} (r : RepT K c W es kvs) (h : Rep K c W d v) : RepT K c W (putD es k d) (putK kvs k v) := by
  unfold putD putK
  rw [anyT_rep k r]
  split
  · exact repT_map h r
  · exact repT_append r ⟨v, [], rfl, h, rfl⟩
theorem repE_len : ∀ {es : List (Key × D)} {kvs : List (Key × V)}, RepE K c W es kvs → kvs.length = es.length
  | [], kvs, r => by cases r; rfl
  | p :: es, kvs, r => by
    obtain ⟨v, r', rfl, r1, r2⟩ := r
    rw [List.length_cons, List.length_cons, repE_len r2]
theorem repT_len : ∀ {es : List (List Key × D)} {kvs : List (List Key × V)}, RepT K c W es kvs → kvs.length = es.length
  | [], kvs, r => by cases r; rfl
  | p :: es, kvs, r => by
    obtain ⟨v, r', rfl, r1, r2⟩ := r
    rw [List.length_cons, List.length_cons, repT_len r2]
/-- what a dict holds at a key -/
def dGetO : D → D → Option (Option D)
  | .dic es, k => (keyD k).map fun k => valD es k
  | .dit es, .tup ds => (keysL ds).map fun ks => valD es ks
  | _, _ => none
theorem dget_rep {d k : D} {o : Option D} {v u : V} (st : StOk K c W H S) (r : RepB K c W H d v) (rk : RepB K c W H k u) (h : dGetO d k = some o) : ∃ a ov, v = .ref a ∧ IsD H a ∧ DGet H a u ov ∧ RepOp K c W o ov := by
  cases d <;> first | (cases h; done) | skip
  · simp only [dGetO, Option.map_eq_some_iff] at h
    obtain ⟨kk, h1, rfl⟩ := h
    obtain ⟨a, kvs, rfl, h2, h3⟩ := r.dic st
    have e := key_rep rk h1
    subst e
    exact ⟨a, _, rfl, .inl ⟨kvs, .inl h2⟩, DGet.k h2, valD_rep kk h3⟩
  · cases k <;> first | (cases h; done) | skip
    simp only [dGetO, Option.map_eq_some_iff] at h
    obtain ⟨kk, h1, rfl⟩ := h
    obtain ⟨a, kvs, rfl, h2, h3⟩ := r.dit st
    obtain ⟨b, vs, rfl, h4, _, h5⟩ := rk.tup st
    have e := keys_rep h5 h1
    subst e
    exact ⟨a, _, rfl, .inr ⟨kvs, .inl h2⟩, DGet.t h2 h4, valT_rep kk h3⟩
theorem RepOp.some_of {d : D} {ov : Option V} (h : RepOp K c W (some d) ov) : ∃ v, ov = some v ∧ Rep K c W d v := by
  cases ov with
  | none => exact h.elim
  | some v => exact ⟨v, rfl, h⟩
theorem RepOp.getD {o : Option D} {ov : Option V} {d : D} {v : V} (h : RepOp K c W o ov) (r : Rep K c W d v) : Rep K c W (o.getD d) (ov.getD v) := by
  cases o <;> cases ov <;> first | exact h.elim | skip
  · exact r
  · exact h
theorem RepOp.isSome {o : Option D} {ov : Option V} (h : RepOp K c W o ov) : ov.isSome = o.isSome := by
  cases o <;> cases ov <;> first | exact h.elim | rfl
end
/-! ### subscripts: sequences and dicts -/
def rIxG : R2 := fun x y H Q => ∃ a v, x = .ref a ∧ DGet H a y (some v) ∧ Q v H
theorem ix_dict {k : Nat} (hr : Room k X.A) : IxR X rIxG := by
  intro value slice pins s σ H x y v u Q I rx ry h hs
  obtain ⟨a, r, rfl, g, q⟩ := h
  obtain rfl : v = Value.ref a := rx
  exact tail_any (dict_typeIs I g) slot_dict_getitem.lookup (d_getItem (Room.small hr) I g ry fun w' s' I' rw' => ⟨r, H, I', rw', q⟩) hs
theorem ix_all {k : Nat} (hr : Room k X.A) : IxR X (fun x y H Q => rIx X.K x y H Q ∨ rIxG x y H Q) := ix_seq.or (ix_dict hr)
def dIxA : D → D → Option D
  | .dic es, k => (dGetO (.dic es) k).bind id
  | .dit es, k => (dGetO (.dit es) k).bind id
  | d, k => dIx d k
theorem m_ixD {W : Wd} {H : Hp} {S : DS} {d e d' : D} {v u : V} (Q : VK) (st : StOk X.K c W H S) (a : RepB X.K c W H d v) (b : RepB X.K c W H e u) (q : (dGetO d e).bind id = some d') (k : ∀ W' H' x, StOk X.K c W' H' S → Keep W H W' H' → Rep X.K c W' d' x → Q x H') : rIxG v u H Q := by
  cases h : dGetO d e with
  | none => rw [h] at q; cases q
  | some o =>
    rw [h] at q
    have q' : o = some d' := q
    subst q'
    obtain ⟨p, ov, rfl, _, g, r⟩ := dget_rep st a b h
    obtain ⟨w, rfl, rw'⟩ := r.some_of
    exact ⟨p, w, rfl, g, k W H w st (Keep.refl W H) rw'⟩
theorem m_ixAll : OpM X.K c (fun x y H Q => rIx X.K x y H Q ∨ rIxG x y H Q) dIxA := fun {W H S d e d' v u} Q st a b q k => by
  cases d
  case dic es => exact .inr (m_ixD Q st a b q k)
  case dit es => exact .inr (m_ixD Q st a b q k)
  all_goals exact .inl (m_ix (X := X) (c := c) Q st a b q k)

/-! ### name op= e -/
theorem ms_aug0 {f : D → D → Option D} {op : Operator} {r : R2} {pos' : Pos} (ho : OpR X (inplaceOp op) r) (hr : OpM X.K c r f) (hN : X.N.Nodup) (hi : X.N[i]? = some x) (hx : Loc X.env.scope x) (he : PE X e (tM X.K c E fa)) (hf : X.fn x = true ∨ X.env.scope.names.lookup x = some .local) :
    PS X (.AugAssign (.Name x pos') op e pos) (tS X.K c E (augS f i fa)) := ps_imp (ps_aug (ti := r) hN hi hx he ho hf) fun D σ H q => by
  obtain ⟨W, ρ, S, st, en, q⟩ := q
  unfold augS bd at q
  cases e1 : slot ρ i with
  | none => rw [e1] at q; exact q.elim
  | some d =>
    rw [e1] at q
    obtain ⟨v, h1, h2⟩ := en.vl i d (slot_some e1)
    refine ⟨v, h1, thenS_M st en q fun d2 S' W' H' u st' en' k r2 q' => ?_⟩
    unfold bd at q'
    cases e2 : f d d2 with
    | none => rw [e2] at q'; exact q'.elim
    | some d3 =>
      rw [e2] at q'
      refine hr _ st' (.inl (Rep.ext k.wex d v h2)) (.inl r2) e2 fun W2 H2 z st2 k2 r3 => ?_
      exact q' W2 H2 _ st2 ((en'.ext k2).setV r3 i) ⟨(k2.toS st2), fun b z => .inr (owned_setV z)⟩
theorem ms_augL {f : D → D → Option D} {op : Operator} {r : R2} {pos' : Pos} (ho : OpR X (inplaceOp op) r) (hr : OpM X.K c r f) (hN : X.N.Nodup) (he : PE X e (tM X.K c E fa)) (hi : X.N[i]? = some x := by kernel_rfl) (hx : X.env.scope.names.lookup x = some .local := by kernel_rfl) :
    PS X (.AugAssign (.Name x pos') op e pos) (tS X.K c E (augS f i fa)) := ms_aug0 ho hr hN hi (.inl hx) he (.inr hx)
theorem ms_augC {f : D → D → Option D} {op : Operator} {r : R2} {pos' : Pos} (ho : OpR X (inplaceOp op) r) (hr : OpM X.K c r f) (hN : X.N.Nodup) (he : PE X e (tM X.K c E fa)) (hi : X.N[i]? = some x := by kernel_rfl) (hx : X.env.scope.names.lookup x = some .cell := by kernel_rfl) (hf : X.fn x = true := by kernel_rfl) :
    PS X (.AugAssign (.Name x pos') op e pos) (tS X.K c E (augS f i fa)) := ms_aug0 ho hr hN hi (.inr hx) he (.inl hf)
theorem iop_mulW : OpR X (inplaceOp .Mult) (rI CMulW fun i j => .int (i * j)) := opI fun _ _ _ _ _ _ _ hc q => imul_int q hc.ok
def dAddI : D → D → Option D
  | .int i, .int j => some (.int (i + j))
  | .str a, .str b => if a.length + b.length ≤ 16777216 then some (.str (a ++ b)) else none
  | _, _ => none
theorem iop_addAll : OpR X (inplaceOp .Add) (fun x y H Q => rI0 (fun i j => .int (i + j)) x y H Q ∨ (fun x y H Q => ∃ i j, x = .str i ∧ y = .str j ∧ i.length + j.length ≤ sizeLine ∧ Q (.str (i ++ j)) H) x y H Q) := iop_add.or iop_add_str
theorem i_add : OpM X.K c (fun x y H Q => rI0 (fun i j => .int (i + j)) x y H Q ∨ (fun x y H Q => ∃ i j, x = .str i ∧ y = .str j ∧ i.length + j.length ≤ sizeLine ∧ Q (.str (i ++ j)) H) x y H Q) dAddI := fun {W H S d e d' v u} Q st a b q k => by
  cases d <;> cases e <;> first | (cases q; done) | skip
  · cases q
    exact .inl ⟨_, _, a.int, b.int, k W H _ st (Keep.refl W H) rfl⟩
  · simp only [dAddI] at q
    split at q
    · rename_i hl
      cases q
      obtain ⟨rfl, h1⟩ := a.str
      obtain ⟨rfl, h2⟩ := b.str
      exact .inr ⟨_, _, rfl, rfl, line_le hl, k W H _ st (Keep.refl W H) ⟨rfl, sok_add h1 h2 hl⟩⟩
    · cases q
end
end Mini
namespace Mini
open PySem PySem.Spec PyProof.Rows L2 Evl

/-! ### methods of built-ins -/
structure Mb (X : Cx) (o : Expr) (name : Str) (e : Expr) (es : List Expr) (apos cpos : Pos) : Prop where
  base : attributeBase o name X.env (eval o X.env) = eval o X.env
  few : ((backTo cpos (starEach (e :: es) X.env)).all (fun x => !x.1) && (backToKw cpos (keywordEach [] X.env)).all (fun x => x.1.isSome)
      && decide ((e :: es).length + ([] : List Keyword).length + (if ([] : List Keyword).isEmpty then 0 else 1) < 30)) = true
  line : (apos.endLine == cpos.line) = true
  st : starEach (e :: es) X.env = (false, eval e X.env) :: starEach es X.env
  pl : (backTo cpos (starEach es X.env)).any (·.1) = false
section
variable {X : Cx} {c : Cn} {E : XK} {a b e o tg : Expr} {es : List Expr} {fa fb fc : FE} {ga : FA} {x y : Str} {p pos apos cpos pa : Pos} {i : Nat}
theorem pe_bm' {T id : String} {name : Str} {r : V → List V → Hp → VK → Prop} {to : TE} {t : TA} (pt : PlainAttrs T) (slot : PySem.Slot T name id) (hty : typeOf (.builtin id) = pure (.type "method_descriptor")) (hm : MtR X id r) (ho : PE X o to) (ha : PA X (e :: es) t) (m : Mb X o name e es apos cpos) :
    PE X (.Call (.Attribute o name apos) (e :: es) [] cpos) (tBM X.K T r to t) := pe_bm pt slot hty hm ho ha m.base m.few m.line m.st m.pl
theorem Mb.one {name : Str} (m : Mb X o name e [] apos cpos) : starEach [e] X.env = (false, eval e X.env) :: starEach [] X.env := m.st
/-- x.append(e) -/
theorem ms_app1 (ha : PE X a (tM X.K c E fa)) (hN : X.N[i]? = some x) (hv : Vis X.env.scope x) (hd : (x == ("__debug__" : Str)) = false) (hcd : (x == ("__classdict__" : Str)) = false) (m : Mb X (.Name x pa) "append" a [] apos p)
    (hs : swapsWith (.Call (.Attribute (.Name x pa) "append" apos) [a] [] p) none pos.line X.env = pure false) : PS X (.Expr (.Call (.Attribute (.Name x pa) "append" apos) [a] [] p) pos) (tS X.K c E (appS i fa)) :=
  ms_app hN hv ha (fun te h => pe_bm' PySem.F.plainAttrs_list PySem.F.slot_list_append PySem.F.type_list_append mt_append (pe_var hN hv hd hcd) (pa_cons h pa_nil m.one) m) hs
theorem ms_appL (ha : PE X a (tM X.K c E fa)) (hN : X.N[i]? = some x := by kernel_rfl) (hv : X.env.scope.names.lookup x = some .local := by kernel_rfl) (hd : (x == ("__debug__" : Str)) = false := by kernel_rfl) (hcd : (x == ("__classdict__" : Str)) = false := by kernel_rfl)
    (m : Mb X (.Name x pa) "append" a [] apos p := by exact ⟨by kernel_rfl, by kernel_rfl, by kernel_rfl, by kernel_rfl, by kernel_rfl⟩) (hs : swapsWith (.Call (.Attribute (.Name x pa) "append" apos) [a] [] p) none pos.line X.env = pure false := by kernel_rfl) : PS X (.Expr (.Call (.Attribute (.Name x pa) "append" apos) [a] [] p) pos) (tS X.K c E (appS i fa)) := ms_app1 ha hN (.inl hv) hd hcd m hs
theorem ms_appC (ha : PE X a (tM X.K c E fa)) (hN : X.N[i]? = some x := by kernel_rfl) (hv : X.env.scope.names.lookup x = some .cell := by kernel_rfl) (hd : (x == ("__debug__" : Str)) = false := by kernel_rfl) (hcd : (x == ("__classdict__" : Str)) = false := by kernel_rfl)
    (m : Mb X (.Name x pa) "append" a [] apos p := by exact ⟨by kernel_rfl, by kernel_rfl, by kernel_rfl, by kernel_rfl, by kernel_rfl⟩) (hs : swapsWith (.Call (.Attribute (.Name x pa) "append" apos) [a] [] p) none pos.line X.env = pure false := by kernel_rfl) : PS X (.Expr (.Call (.Attribute (.Name x pa) "append" apos) [a] [] p) pos) (tS X.K c E (appS i fa)) := ms_app1 ha hN (.inr (.inl hv)) hd hcd m hs
/-- an expression whose content is read, ahead of a statement's end -/
theorem thenS_B {K : PySem.W.Frag} {W : Wd} {H : Hp} {S : DS} {σ : L2.St} {ρ : En} {f : FE} {g : D → M Fl} {Q : VK} {D' : Ends} (st : StOk K c W H S) (en : EnvOk K c W H σ ρ) (h : OutS K c W H σ ρ E D' (bd (f ρ) g S))
    (k : ∀ d S' W' H' v, StOk K c W' H' S' → EnvOk K c W' H' σ ρ → Step W H σ ρ W' H' σ ρ → RepB K c W' H' d v → OutS K c W' H' σ ρ E D' (g d S') → Q v H') : tB K c E f σ H Q :=
  then_B (O := OutS K c W H σ ρ E D') st en (fun _ _ _ z => ErS.q z) (fun z => z) h fun d S1 W1 H1 v st1 k1 r1 q1 =>
    k d S1 W1 H1 v st1 (en.ext k1) (k1.toStep st1) r1 (OutS.pre q1 (k1.toStep st1))
/-- x.extend(e), e a list -/
def extS (i : Nat) (f : FE) : FS := fun ρ => bd (lift (ownL ρ i)) fun ds => bd (f ρ) fun d => match d with
  | .lst es => if ds.length + es.length ≤ 16777216 then rt (.nx (setO i (.lst (ds ++ es)) ρ)) else no
  | _ => no
theorem ms_ext1 (ha : PE X a (tB X.K c E fa)) (hN : X.N[i]? = some x) (hv : Vis X.env.scope x) (hd : (x == ("__debug__" : Str)) = false) (hcd : (x == ("__classdict__" : Str)) = false) (m : Mb X (.Name x pa) "extend" a [] apos p)
    (hs : swapsWith (.Call (.Attribute (.Name x pa) "extend" apos) [a] [] p) none pos.line X.env = pure false) : PS X (.Expr (.Call (.Attribute (.Name x pa) "extend" apos) [a] [] p) pos) (tS X.K c E (extS i fa)) :=
  ps_imp (ps_expr (pe_bm' (T := "list") PySem.F.plainAttrs_list PySem.F.slot_list_extend PySem.F.type_list_extend mt_extend (pe_var hN hv hd hcd) (pa_cons ha pa_nil m.one) m) hs) fun D' σ H q => by
    obtain ⟨W, ρ, S, st, en, q⟩ := q
    unfold extS bd at q
    cases e1 : ownL ρ i with
    | none => rw [e1] at q; exact q.elim
    | some ds =>
      rw [e1] at q
      have hi := ownL_some e1
      obtain ⟨ad, h1, h2, h3, vs, h4, h5⟩ := en.ow i _ hi
      refine ⟨_, h1, .inl ⟨rfl, _, .inl (.inl h4)⟩, ?_⟩
      refine thenS_B st en q fun d S' W' H' v st' en' k r q' => ?_
      obtain ⟨ad2, h1', h2', h3', vs', h4', h5'⟩ := en'.ow i _ hi
      rw [h1] at h1'
      cases h1'
      cases d <;> first | exact (show False from q').elim | skip
      rename_i es'
      obtain ⟨b, us, rfl, hb, r2⟩ := r.lst st'
      dsimp only at q'
      split at q'
      · rename_i hlen
        obtain ⟨s5, e5, p5⟩ := own_write (o := .lst (vs' ++ us)) (d' := .lst (ds ++ es')) st' en' hi h1 ⟨_, upd_same, repL_append h5' r2⟩
        exact ⟨ad, b, vs', us, rfl, rfl, h4', hb, line_le (by rw [RepL.length h5', RepL.length r2]; exact hlen), q' W' _ σ s5 e5 p5⟩
      · exact q'.elim
theorem ms_extL (ha : PE X a (tB X.K c E fa)) (hN : X.N[i]? = some x := by kernel_rfl) (hv : X.env.scope.names.lookup x = some .local := by kernel_rfl) (hd : (x == ("__debug__" : Str)) = false := by kernel_rfl) (hcd : (x == ("__classdict__" : Str)) = false := by kernel_rfl)
    (m : Mb X (.Name x pa) "extend" a [] apos p := by exact ⟨by kernel_rfl, by kernel_rfl, by kernel_rfl, by kernel_rfl, by kernel_rfl⟩) (hs : swapsWith (.Call (.Attribute (.Name x pa) "extend" apos) [a] [] p) none pos.line X.env = pure false := by kernel_rfl) : PS X (.Expr (.Call (.Attribute (.Name x pa) "extend" apos) [a] [] p) pos) (tS X.K c E (extS i fa)) := ms_ext1 ha hN (.inl hv) hd hcd m hs
theorem ms_extC (ha : PE X a (tB X.K c E fa)) (hN : X.N[i]? = some x := by kernel_rfl) (hv : X.env.scope.names.lookup x = some .cell := by kernel_rfl) (hd : (x == ("__debug__" : Str)) = false := by kernel_rfl) (hcd : (x == ("__classdict__" : Str)) = false := by kernel_rfl)
    (m : Mb X (.Name x pa) "extend" a [] apos p := by exact ⟨by kernel_rfl, by kernel_rfl, by kernel_rfl, by kernel_rfl, by kernel_rfl⟩) (hs : swapsWith (.Call (.Attribute (.Name x pa) "extend" apos) [a] [] p) none pos.line X.env = pure false := by kernel_rfl) : PS X (.Expr (.Call (.Attribute (.Name x pa) "extend" apos) [a] [] p) pos) (tS X.K c E (extS i fa)) := ms_ext1 ha hN (.inr (.inl hv)) hd hcd m hs
/-! ### exact tuples: made by tuple(list) -/
def dTupX : D → Option D
  | .lst ds => some (.tpx ds)
  | _ => none
theorem call_tupX : CallR X (.type "tuple") (fun xs H Q => ∃ p ys, xs = [.ref p] ∧ SqL X.K H p ys ∧ ∀ l o, o.dict = none → H l = none → Q (.ref l) (upd H l (.frz o (.tup ys)))) := by
  intro pins s σ H xs us Q I r h
  obtain ⟨p, ys, rfl, hq, q⟩ := h
  obtain rfl := Vals.ref1 r
  obtain ⟨its, rv, pl, hz⟩ := I.list hq
  have hlen := rv.length
  refine call_tuple_list pl.isList (fun h2 kp => ?_) (by simp only [List.size_toArray] <;> omega)
  have J : Inv X pins σ H { s with heap := h2 } := I.kept (t' := s.toks) kp
  have hn := J.hok.fresh (Nat.le_refl _)
  exact ⟨.ref h2.objs.size, _, J.laid (o := .frz { cls := .type "tuple", data := .seq its.toArray } (.tup ys)) (t' := s.toks) (fun b o e => Heap.get?_push_of_some _ e) (Nat.le_refl _) ⟨Heap.get?_push_size _ rfl, hz, its, rv, IsTup.new _ _⟩, rfl, q _ _ rfl hn⟩
theorem u_tupX : UnM X.K c (fun xs H Q => ∃ p ys, xs = [.ref p] ∧ SqL X.K H p ys ∧ ∀ l o, o.dict = none → H l = none → Q (.ref l) (upd H l (.frz o (.tup ys)))) dTupX := fun {W H S d d' v} Q st a q k => by
  cases d <;> first | (cases q; done) | skip
  cases q
  obtain ⟨p, vs, rfl, h1, r1⟩ := a.lst st
  exact ⟨p, vs, rfl, SqL.of h1, fun l o ho hl => k _ _ _ (lay_st st hl) (lay_keep st hl) ⟨l, vs, o, rfl, upd_same, ho, RepL.ext (frz_ex (fresh_back st.sub hl)) _ vs r1⟩⟩
/-! ### sum -/
def rSumAll (K : PySem.W.Frag) : R1 := fun xs H Q => ∃ (a : Addr) (ns : List Int), xs = [V.ref a] ∧ (SqL K H a (ns.map V.int) ∨ SqT K H a (ns.map V.int)) ∧ Q (.int ns.sum) H
theorem cr_sumAll (hc : X.calm = true) : CallR X (.builtin "sum") (rSumAll X.K) := by
  intro pins s σ H vs us Q I r h
  obtain ⟨a, ns, rfl, hs, q⟩ := h
  rcases hs with hs | hs
  · exact cr_sum hc pins s σ H _ us Q I r ⟨a, ns, rfl, hs, q⟩
  · obtain ⟨its, rv, ht, hz⟩ := I.tuple hs
    rw [Vals.ref1 r]
    have hi := rv.ints
    obtain ⟨xs, e⟩ := hi.allInts.items
    have hn : numsOf (intItems xs).toList = ns := by rw [← e]; exact hi.numsOf
    rw [nums_intItems] at hn
    have ht' : s.heap.IsTuple a (intItems xs) := by rw [← e]; exact ht
    refine PySem.W.ktm_sumG (I.ok.hd hc) ht' fun h' tk t' hk => ?_
    refine ⟨.int ns.sum, H, I.kept hk, ⟨t', ?_⟩, q⟩
    rw [preSum_eq, List.take_of_length_le (by simp), hn]
def dSumA : D → Option D
  | .lst ds => (intsOf ds).map fun ns => .int ns.sum
  | .tup ds => (intsOf ds).map fun ns => .int ns.sum
  | .tpx ds => (intsOf ds).map fun ns => .int ns.sum
  | _ => none
theorem u_sumA : UnM X.K c (rSumAll X.K) dSumA := fun {W H S d d' v} Q st a q k => by
  cases d <;> first | (cases q; done) | skip
  all_goals
    obtain ⟨ns, e2, rfl⟩ := Option.map_eq_some_iff.mp q
  · obtain ⟨p, vs, rfl, h1, _, r1⟩ := a.tup st
    have e3 := ints_rep e2 r1
    subst e3
    exact ⟨p, ns, rfl, .inr (SqT.of h1), k W H _ st (Keep.refl W H) rfl⟩
  · obtain ⟨p, vs, rfl, h1, r1⟩ := a.tpx st
    have e3 := ints_rep e2 r1
    subst e3
    exact ⟨p, ns, rfl, .inr h1, k W H _ st (Keep.refl W H) rfl⟩
  · obtain ⟨p, vs, rfl, h1, r1⟩ := a.lst st
    have e3 := ints_rep e2 r1
    subst e3
    exact ⟨p, ns, rfl, .inl (SqL.of h1), k W H _ st (Keep.refl W H) rfl⟩
/-! ### repr -/
def rRepr (K : PySem.W.Frag) : R1 := fun xs H Q => ∃ v d, xs = [v] ∧ Dp K H v d ∧ d.showable = true ∧ d.depth ≤ 64 ∧ d.shown.length ≤ sizeLine ∧ Q (.str d.shown) H
theorem dp_noDict {K : PySem.W.Frag} {H : Hp} : ∀ {d : PyData} {v : V}, Dp K H v d → d.hasDict = false
  | .none, v, h => by simp only [PyData.hasDict]
  | .bool b, v, h => by simp only [PyData.hasDict]
  | .int i, v, h => by simp only [PyData.hasDict]
  | .str x, v, h => by simp only [PyData.hasDict]
  | .list ds, v, h => by
    cases h with
    | lst hs ha =>
      simp only [PyData.hasDict]
      exact dp_noDictL ha
  | .tuple ds, v, h => by
    cases h with
    | tup hs ha =>
      simp only [PyData.hasDict]
      exact dp_noDictL ha
  | .dict kvs, v, h => by cases h
where
  dp_noDictL {K : PySem.W.Frag} {H : Hp} : ∀ {ds : List PyData} {vs : List V}, DpAll K H vs ds → PyData.hasDictAll ds = false
  | [], vs, h => by simp only [PyData.hasDictAll]
  | d :: ds, vs, h => by
    cases h with
    | cons h1 h2 => simp only [PyData.hasDictAll, dp_noDict h1, dp_noDictL h2, Bool.or_self]
theorem cr_repr {k : Nat} (hr : Room k X.A) (gd : X.A.guards = some []) : CallR X (.builtin "repr") (rRepr X.K) := by
  intro pins s σ H xs us Q I r h
  obtain ⟨v, d, rfl, hd, hs, hdp, hz, q⟩ := h
  obtain ⟨u, rfl, ru⟩ := r.one
  obtain ⟨as, rr⟩ := Dp.reads I d v u hd ru
  have hu := Room.u64 hr
  cases rr with
  | none => exact PySem.P.repr_of_none ⟨.str _, H, I.tok _, ⟨_, by simp only [PyData.shown]; rfl⟩, q⟩
  | bool b => exact PySem.P.repr_of_bool ⟨.str _, H, I.tok _, ⟨_, by simp only [PyData.shown]; rfl⟩, q⟩
  | int i t => exact PySem.P.repr_of_int (by simpa [PyData.showable] using hs) ⟨.str _, H, I.tok _, ⟨_, by simp only [PyData.shown]; rfl⟩, q⟩
  | str x t => exact PySem.P.repr_of_str ⟨.str _, H, I.tok _, ⟨_, by simp only [PyData.shown]; rfl⟩, q⟩ (by simpa only [PyData.shown] using hz)
  | list h1 h2 h3 h4 =>
    exact repr_of_reads' (Reads.list h1 h2 h3 h4) hs (PyData.noDict_hsm (dp_noDict hd)) gd (by omega) (fun _ _ e => e) (fun h' u tk hk => ⟨.str _, H, I.kept hk, ⟨u, rfl⟩, q⟩) hz
  | tuple h1 h2 h3 h4 =>
    exact repr_of_reads' (Reads.tuple h1 h2 h3 h4) hs (PyData.noDict_hsm (dp_noDict hd)) gd (by omega) (fun _ _ e => e) (fun h' u tk hk => ⟨.str _, H, I.kept hk, ⟨u, rfl⟩, q⟩) hz
  | dict h1 h2 h3 h4 h5 => cases hd
/-- repr(a) == repr(b) -/
def okRepr (d : D) : Bool := okEq d && d.py.showable && decide (d.py.shown.length ≤ 16777216)
def reprEqE (fa fb : FE) : FE := fun ρ => bd (fa ρ) fun x => if okRepr x = true then bd (fb ρ) fun y => if okRepr y = true then rt (.bl (decide (x.py.shown = y.py.shown))) else no else no
theorem okRepr_of {d : D} (h : okRepr d = true) : okEq d = true ∧ d.py.showable = true ∧ d.py.depth ≤ 64 ∧ d.py.shown.length ≤ sizeLine := by
  unfold okRepr at h
  simp only [Bool.and_eq_true, decide_eq_true_eq] at h
  obtain ⟨⟨h1, h2⟩, h3⟩ := h
  refine ⟨h1, h2, ?_, line_le h3⟩
  unfold okEq at h1
  simp only [Bool.and_eq_true, decide_eq_true_eq] at h1
  exact h1.2
theorem me_reprEq {k : Nat} {p1 p2 pos1 pos2 : Pos} (hr : Room k X.A) (gd : X.A.guards = some []) (hm : X.mg "repr" = none) (ha : PE X a (tB X.K c E fa)) (hb : PE X b (tB X.K c E fb)) (hg : X.env.kindOf "repr" = some .globalImplicit := by kernel_rfl)
    (he : starEach [a] X.env = (false, eval a X.env) :: starEach [] X.env := by kernel_rfl) (hpl : (backTo pos1 (starEach [] X.env)).any (·.1) = false := by kernel_rfl) (he2 : starEach [b] X.env = (false, eval b X.env) :: starEach [] X.env := by kernel_rfl) (hpl2 : (backTo pos2 (starEach [] X.env)).any (·.1) = false := by kernel_rfl)
    (hmk : behindInMarks .Eq (.Call (.Name "repr" p2) [b] [] pos2) = false := by kernel_rfl) :
    PE X (.Compare (.Call (.Name "repr" p1) [a] [] pos1) [.Eq] [.Call (.Name "repr" p2) [b] [] pos2] pos) (tM X.K c E (reprEqE fa fb)) :=
  pe_imp (pe_cmpR op_eq (pe_callB (cr_repr hr gd) hg hm (by kernel_rfl) (pa_cons ha pa_nil he) (by decide +kernel) (by kernel_rfl) he hpl) (pe_callB (cr_repr hr gd) hg hm (by kernel_rfl) (pa_cons hb pa_nil he2) (by decide +kernel) (by kernel_rfl) he2 hpl2) hmk) fun σ H Q h => by
    obtain ⟨W, ρ, S, st, en, q⟩ := tM_un h
    refine then_B (O := OutM X.K c W H E Q) st en (fun _ _ _ z => z) (fun z => z) q fun d S1 W1 H1 v st1 k1 r1 q1 => ?_
    split at q1
    · rename_i ok1
      obtain ⟨z1, z2, z3, z4⟩ := okRepr_of ok1
      refine ⟨v, d.py, rfl, (okEq_shaped st1 r1 z1).1, z2, z3, z4, ?_⟩
      refine then_B (O := OutM X.K c W H E Q) st1 (en.ext k1) (fun _ _ _ z => ErQ.pre z k1 st1) (fun z => z) q1 fun d2 S2 W2 H2 u st2 k2 r2 q2 => ?_
      split at q2
      · rename_i ok2
        obtain ⟨y1, y2, y3, y4⟩ := okRepr_of ok2
        refine ⟨u, d2.py, rfl, (okEq_shaped st2 r2 y1).1, y2, y3, y4, rfl, ?_⟩
        have e : decide (V.str d.py.shown = V.str d2.py.shown) = decide (d.py.shown = d2.py.shown) := by
          rw [Bool.eq_iff_iff]
          simp
        rw [e]
        exact q2 W2 H2 _ st2 (k1.tr st1 k2) rfl
      · exact q2.elim
    · exact q1.elim
end
end Mini
namespace Mini
open PySem PySem.Spec PyProof.Rows L2 Evl
section
variable {X : Cx} {c : Cn} {E : XK} {a b e o tg : Expr} {es : List Expr} {fa fb fc fd : FE} {ga : FA} {x y : Str} {p pos apos cpos pa pos' : Pos} {i j : Nat}
/-! ### d.get(k, x) -/
def isDic : D → Bool
  | .dic _ => true
  | .dit _ => true
  | _ => false
def get2E (f g h : FE) : FE := fun ρ => bd (f ρ) fun d => if isDic d = true then bd (g ρ) fun k => bd (h ρ) fun z => lift ((dGetO d k).map fun o => o.getD z) else no
theorem isDic_at {K : PySem.W.Frag} {W : Wd} {H : Hp} {S : DS} {d : D} {v : V} (st : StOk K c W H S) (r : RepB K c W H d v) (h : isDic d = true) : ∃ a, v = .ref a ∧ IsD H a := by
  cases d <;> first | (cases h; done) | skip
  · obtain ⟨a, kvs, rfl, h1, _⟩ := r.dic st
    exact ⟨a, rfl, .inl ⟨kvs, .inl h1⟩⟩
  · obtain ⟨a, kvs, rfl, h1, _⟩ := r.dit st
    exact ⟨a, rfl, .inr ⟨kvs, .inl h1⟩⟩
theorem me_get2 {k : Nat} (hr : Room k X.A) (ho : PE X o (tB X.K c E fa)) (he : PE X e (tM X.K c E fb)) (hf : PE X b (tM X.K c E fc)) (m : M2 X o "get" apos e b cpos := by exact ⟨by kernel_rfl, by kernel_rfl, by kernel_rfl, by kernel_rfl⟩) :
    PE X (.Call (.Attribute o "get" apos) [e, b] [] cpos) (tM X.K c E (get2E fa fb fc)) := pe_imp (pe_dget2 (Room.small hr) ho he hf m) fun σ H Q h => by
  obtain ⟨W, ρ, S, st, en, q⟩ := tM_un h
  refine then_B (O := OutM X.K c W H E Q) st en (fun _ _ _ z => z) (fun z => z) q fun d S1 W1 H1 v st1 k1 r1 q1 => ?_
  split at q1
  · rename_i hd
    obtain ⟨ad, rfl, hI⟩ := isDic_at st1 r1 hd
    refine ⟨ad, rfl, hI, ?_⟩
    refine then_M (O := OutM X.K c W H E Q) st1 (en.ext k1) (fun _ _ _ z => ErQ.pre z k1 st1) (fun z => z) q1 fun kd S2 W2 H2 u st2 k2 r2 q2 => ?_
    have k12 := k1.tr st1 k2
    refine then_M (O := OutM X.K c W H E Q) st2 ((en.ext k1).ext k2) (fun _ _ _ z => ErQ.pre z k12 st2) (fun z => z) q2 fun zd S3 W3 H3 z st3 k3 r3 q3 => ?_
    have k13 := k12.tr st2 k3
    obtain ⟨d', e', q4⟩ := lift_ok (β := D) (O := OutM X.K c W H E Q) (fun z => z) q3
    obtain ⟨o, ho, rfl⟩ := Option.map_eq_some_iff.mp e'
    obtain ⟨a2, ov, ea, _, g, rr⟩ := dget_rep st3 ((r1.ext k2).ext k3) (.inl (Rep.ext k3.wex _ _ r2)) ho
    cases ea
    exact ⟨ov, g, q4 W3 H3 _ st3 k13 (rr.getD r3)⟩
  · exact q1.elim
/-! ### x[k] = v -/
def putO (o k d : D) : Option D := match o with
  | .lst ds => (match k with
    | .int n => (ixN ds.length n).map fun j => .lst (ds.set j d)
    | _ => none)
  | .dic es => (keyD k).bind fun kk => if es.length < 16777216 then some (.dic (putD es kk d)) else none
  | .dit es => (match k with
    | .tup ks => (keysL ks).bind fun kk => if es.length < 16777216 then some (.dit (putD es kk d)) else none
    | _ => none)
  | _ => none
def ownS (ρ : En) (i : Nat) : Option D := match ρ[i]? with
  | some (.ow d) => some d
  | _ => none
theorem ownS_some {ρ : En} {i : Nat} {d : D} (h : ownS ρ i = some d) : ρ[i]? = some (.ow d) := by
  unfold ownS at h
  split at h
  · cases h; assumption
  · cases h
def putS (i : Nat) (f fk : FE) : FS := fun ρ => bd (f ρ) fun d => bd (lift (ownS ρ i)) fun o => bd (fk ρ) fun k => bd (lift (putO o k d)) fun o' => rt (.nx (setO i o' ρ))
theorem repL_set {K : PySem.W.Frag} {W : Wd} : ∀ {ds : List D} {vs : List V} {d : D} {v : V} (j : Nat), RepL K c W ds vs → Rep K c W d v → RepL K c W (ds.set j d) (vs.set j v)
  | [], vs, d, v, j, r, h => by cases r; rfl
  | e :: ds, vs, d, v, 0, r, h => by
    obtain ⟨u, r', rfl, r1, r2⟩ := r
    exact ⟨v, r', rfl, h, r2⟩
  | e :: ds, vs, d, v, j + 1, r, h => by
    obtain ⟨u, r', rfl, r1, r2⟩ := r
    exact ⟨u, _, rfl, r1, repL_set j r2 h⟩
theorem set_all {k : Nat} (hr : Room k X.A) : PSet X (fun o i v H Q => rSetL o i v H Q ∨ rSetD o i v H Q) := by
  intro pins s σ H o i v ov iv u Q I r1 r2 r3 h
  rcases h with h | h
  · exact set_list pins s σ H o i v ov iv u Q I r1 r2 r3 h
  · exact set_dict (Room.small hr) pins s σ H o i v ov iv u Q I r1 r2 r3 h
theorem put_own {K : PySem.W.Frag} {W : Wd} {H : Hp} {S : DS} {ad : Addr} {o o' d k : D} {v u : V} (st : StOk K c W H S) (own : Own K c W H ad o) (rv : Rep K c W d v) (rk : Rep K c W k u) (h : putO o k d = some o') (Q : Hp → Prop) (q : ∀ ob, Own K c W (upd H ad ob) ad o' → Q (upd H ad ob)) :
    rSetL (.ref ad) u v H Q ∨ rSetD (.ref ad) u v H Q := by
  cases o <;> first | (cases h; done) | skip
  · cases k <;> first | (cases h; done) | skip
    obtain ⟨j, h1, rfl⟩ := Option.map_eq_some_iff.mp h
    obtain ⟨vs, h2, h3⟩ := own
    cases rk
    exact .inl ⟨ad, vs, _, j, rfl, rfl, h2, by rw [RepL.length h3]; exact h1, q _ ⟨_, upd_same, repL_set j h3 rv⟩⟩
  · obtain ⟨kk, h1, h2⟩ := Option.bind_eq_some_iff.mp h
    split at h2
    · rename_i hl
      cases h2
      obtain ⟨kvs, h3, h4⟩ := own
      have e := key_rep' rk h1
      subst e
      exact .inr ⟨ad, _, rfl, DPut.k h3 (line_lt (by rw [repE_len h4]; exact hl)), q _ ⟨_, upd_same, putE_rep h4 rv⟩⟩
    · cases h2
  · cases k <;> first | (cases h; done) | skip
    obtain ⟨kk, h1, h2⟩ := Option.bind_eq_some_iff.mp h
    split at h2
    · rename_i hl
      cases h2
      obtain ⟨kvs, h3, h4⟩ := own
      obtain ⟨b, vs, rfl, h5, h6⟩ := rk
      have e := keys_rep h6 h1
      subst e
      exact .inr ⟨ad, _, rfl, DPut.t h3 (st.sub _ _ h5) (line_lt (by rw [repT_len h4]; exact hl)), q _ ⟨_, upd_same, putT_rep h4 rv⟩⟩
    · cases h2
theorem ms_put1 {k : Nat} {kx : Expr} (hr : Room k X.A) (he : PE X e (tM X.K c E fa)) (hk : PE X kx (tM X.K c E fb)) (hN : X.N[i]? = some x) (hv : Vis X.env.scope x) (hd : (x == ("__debug__" : Str)) = false) (hcd : (x == ("__classdict__" : Str)) = false)
    (hA : ∀ v, assign (.Subscript (.Name x pa) kx pos') X.env v = (do
      let ov ← holding [v] (eval (.Name x pa) X.env)
      let iv ← holding [v, ov] (eval kx X.env)
      standAt pos'
      holding [v, ov, iv] (setItem ov iv v)
      release [v, ov, iv] []))
    (hs : swapsWithSole [.Subscript (.Name x pa) kx pos'] e pos.line X.env = pure false) (hw : swappedStores [.Subscript (.Name x pa) kx pos'] e X.env = pure none)
    (h1 : (assignEach [.Subscript (.Name x pa) kx pos'] X.env).map (·.2) = [assign (.Subscript (.Name x pa) kx pos') X.env]) : PS X (.Assign [.Subscript (.Name x pa) kx pos'] e pos) (tS X.K c E (putS i fa fb)) :=
  ps_imp (ps_asg he (pg_sub (pe_var hN hv hd hcd) hk (set_all hr) hA) hs hw h1) fun D' σ H q => by
    obtain ⟨W, ρ, S, st, en, q⟩ := q
    refine thenS_M st en q fun d S1 W1 H1 v st1 en1 k1 r1 q1 => ?_
    unfold bd at q1
    cases e1 : ownS ρ i with
    | none => rw [e1] at q1; exact q1.elim
    | some o =>
      rw [e1] at q1
      have hi := ownS_some e1
      obtain ⟨ad, a1, a2, a3, a4⟩ := en1.ow i _ hi
      refine ⟨_, a1, thenS_M st1 en1 q1 fun kd S2 W2 H2 u st2 en2 k2 r2 q2 => ?_⟩
      unfold bd at q2
      cases e2 : putO o kd d with
      | none => rw [e2] at q2; exact q2.elim
      | some o' =>
        rw [e2] at q2
        obtain ⟨ad2, b1, b2, b3, b4⟩ := en2.ow i _ hi
        rw [a1] at b1
        cases b1
        refine put_own st2 b4 (Rep.ext k2.wex d v r1) r2 e2 _ fun ob ow => ?_
        obtain ⟨s5, e5, p5⟩ := own_write (o := ob) (d' := o') st2 en2 hi a1 ow
        exact q2 W2 _ σ s5 e5 p5
theorem ms_putL {k : Nat} {kx : Expr} (hr : Room k X.A) (he : PE X e (tM X.K c E fa)) (hk : PE X kx (tM X.K c E fb)) (hN : X.N[i]? = some x := by kernel_rfl) (hv : X.env.scope.names.lookup x = some .local := by kernel_rfl) (hd : (x == ("__debug__" : Str)) = false := by kernel_rfl) (hcd : (x == ("__classdict__" : Str)) = false := by kernel_rfl)
    (hA : ∀ v, assign (.Subscript (.Name x pa) kx pos') X.env v = (do
      let ov ← holding [v] (eval (.Name x pa) X.env)
      let iv ← holding [v, ov] (eval kx X.env)
      standAt pos'
      holding [v, ov, iv] (setItem ov iv v)
      release [v, ov, iv] []) := by intro _; kernel_rfl)
    (hs : swapsWithSole [.Subscript (.Name x pa) kx pos'] e pos.line X.env = pure false := by kernel_rfl) (hw : swappedStores [.Subscript (.Name x pa) kx pos'] e X.env = pure none := by kernel_rfl)
    (h1 : (assignEach [.Subscript (.Name x pa) kx pos'] X.env).map (·.2) = [assign (.Subscript (.Name x pa) kx pos') X.env] := by kernel_rfl) : PS X (.Assign [.Subscript (.Name x pa) kx pos'] e pos) (tS X.K c E (putS i fa fb)) := ms_put1 hr he hk hN (.inl hv) hd hcd hA hs hw h1
theorem ms_putC {k : Nat} {kx : Expr} (hr : Room k X.A) (he : PE X e (tM X.K c E fa)) (hk : PE X kx (tM X.K c E fb)) (hN : X.N[i]? = some x := by kernel_rfl) (hv : X.env.scope.names.lookup x = some .cell := by kernel_rfl) (hd : (x == ("__debug__" : Str)) = false := by kernel_rfl) (hcd : (x == ("__classdict__" : Str)) = false := by kernel_rfl)
    (hA : ∀ v, assign (.Subscript (.Name x pa) kx pos') X.env v = (do
      let ov ← holding [v] (eval (.Name x pa) X.env)
      let iv ← holding [v, ov] (eval kx X.env)
      standAt pos'
      holding [v, ov, iv] (setItem ov iv v)
      release [v, ov, iv] []) := by intro _; kernel_rfl)
    (hs : swapsWithSole [.Subscript (.Name x pa) kx pos'] e pos.line X.env = pure false := by kernel_rfl) (hw : swappedStores [.Subscript (.Name x pa) kx pos'] e X.env = pure none := by kernel_rfl)
    (h1 : (assignEach [.Subscript (.Name x pa) kx pos'] X.env).map (·.2) = [assign (.Subscript (.Name x pa) kx pos') X.env] := by kernel_rfl) : PS X (.Assign [.Subscript (.Name x pa) kx pos'] e pos) (tS X.K c E (putS i fa fb)) := ms_put1 hr he hk hN (.inr (.inl hv)) hd hcd hA hs hw h1
/-! ### {} -/
def dicE : FE := fun _ => rt (.dic [])
def ditE : FE := fun _ => rt (.dit [])
theorem me_dicK : PE X (.Dict [] [] pos) (tO X.K c E dicE) := pe_imp pe_dnewK fun σ H Q h => by
  obtain ⟨W, ρ, S, st, en, q⟩ := tO_un h
  exact fun l hl => q W _ _ (new_st st hl) (new_keep st hl) ⟨l, rfl, hl, fresh_back st.sub hl, sa_ne st hl, [], upd_same, rfl⟩
theorem me_dicT : PE X (.Dict [] [] pos) (tO X.K c E ditE) := pe_imp pe_dnewT fun σ H Q h => by
  obtain ⟨W, ρ, S, st, en, q⟩ := tO_un h
  exact fun l hl => q W _ _ (new_st st hl) (new_keep st hl) ⟨l, rfl, hl, fresh_back st.sub hl, sa_ne st hl, [], upd_same, rfl⟩
/-! ### sorted: ints -/
def insI (n : Int) : List Int → List Int
  | [] => [n]
  | m :: ms => if n ≤ m then n :: m :: ms else m :: insI n ms
def sortI : List Int → List Int
  | [] => []
  | n :: ns => insI n (sortI ns)
theorem insI_perm (n : Int) : ∀ ms : List Int, (insI n ms).Perm (n :: ms)
  | [] => List.Perm.refl _
  | m :: ms => by
    unfold insI
    split
    · exact List.Perm.refl _
    · exact ((insI_perm n ms).cons m).trans (List.Perm.swap n m ms)
theorem insI_sorted (n : Int) : ∀ ms : List Int, ms.Pairwise (· ≤ ·) → (insI n ms).Pairwise (· ≤ ·)
  | [], _ => by simp [insI]
  | m :: ms, h => by
    rw [List.pairwise_cons] at h
    unfold insI
    split
    · rename_i hn
      refine List.pairwise_cons.mpr ⟨fun x hx => ?_, List.pairwise_cons.mpr h⟩
      rcases List.mem_cons.mp hx with rfl | hx
      · exact hn
      · exact Int.le_trans hn (h.1 x hx)
    · rename_i hn
      refine List.pairwise_cons.mpr ⟨fun x hx => ?_, insI_sorted n ms h.2⟩
      rcases List.mem_cons.mp ((insI_perm n ms).mem_iff.mp hx) with rfl | hx
      · omega
      · exact h.1 x hx
theorem sortI_perm : ∀ ns : List Int, (sortI ns).Perm ns
  | [] => List.Perm.refl _
  | n :: ns => (insI_perm n _).trans ((sortI_perm ns).cons n)
theorem sortI_sorted : ∀ ns : List Int, (sortI ns).Pairwise (· ≤ ·)
  | [] => List.Pairwise.nil
  | n :: ns => insI_sorted n _ (sortI_sorted ns)
theorem sortI_unique {ns ys : List Int} (h1 : ys.Perm ns) (h2 : ys.Pairwise (· ≤ ·)) : ys = sortI ns :=
  List.Perm.eq_of_pairwise (fun a b _ _ => Int.le_antisymm) h2 (sortI_sorted ns) (h1.trans (sortI_perm ns).symm)
def keyI : List (Key × D) → Option (List Int)
  | [] => some []
  | (.inl n, _) :: es => (keyI es).map fun ns => n :: ns
  | (.inr _, _) :: _ => none
def dSorted : D → Option D
  | .lst ds => (intsOf ds).map fun ns => .lst ((sortI ns).map .int)
  | .dic es => if es.length < 64 then (keyI es).map fun ns => .lst ((sortI ns).map .int) else none
  | _ => none
theorem keyI_rep {K : PySem.W.Frag} {W : Wd} : ∀ {es : List (Key × D)} {ns : List Int} {kvs : List (Key × V)}, RepE K c W es kvs → keyI es = some ns → kvs.map (·.1) = ns.map Sum.inl
  | [], ns, kvs, r, h => by cases r; cases h; rfl
  | (.inl n, d) :: es, ns, kvs, r, h => by
    obtain ⟨v, r', rfl, r1, r2⟩ := r
    obtain ⟨ms, h1, rfl⟩ := Option.map_eq_some_iff.mp h
    simp only [List.map_cons, keyI_rep r2 h1]
  | (.inr s, d) :: es, ns, kvs, r, h => by cases h
theorem keyI_len : ∀ {es : List (Key × D)} {ns : List Int}, keyI es = some ns → ns.length = es.length
  | [], ns, h => by cases h; rfl
  | (.inl n, d) :: es, ns, h => by
    obtain ⟨ms, h1, rfl⟩ := Option.map_eq_some_iff.mp h
    simp only [List.length_cons, keyI_len h1]
  | (.inr s, d) :: es, ns, h => by cases h
def rSortedAll (K : PySem.W.Frag) : R1 := fun vs H Q => rSortedI K vs H Q ∨ (∃ (a : Addr) (kvs : List (Key × V)) (ks : List Int), vs = [.ref a] ∧ Rd H a (.dK kvs) ∧ kvs.map (·.1) = ks.map Sum.inl ∧ ks.length < 64 ∧
    ∀ (ys : List Int) (p : Addr), ys.Perm ks → ys.Pairwise (· ≤ ·) → H p = none → Q (.ref p) (upd H p (.lst (ys.map V.int))))
theorem cr_sortedAll (hc : X.calm = true) : CallR X (.builtin "sorted") (rSortedAll X.K) := by
  intro pins s σ H xs us Q I r h
  rcases h with h | h
  · exact cr_sortedI pins s σ H xs us Q I r h
  · exact call_sortedD' pins s σ H xs us Q I r h
where call_sortedD' := @call_sortedDI X hc
theorem u_sorted : UnO X.K c (rSortedAll X.K) dSorted := fun {W H S d d' v} Q st a q k => by
  cases d <;> first | (cases q; done) | skip
  · obtain ⟨ns, e2, rfl⟩ := Option.map_eq_some_iff.mp q
    obtain ⟨p, vs, rfl, h1, r1⟩ := a.lst st
    have e3 := ints_rep e2 r1
    subst e3
    refine .inl ⟨p, ns, rfl, SqL.of h1, fun ys l hp hs hn => ?_⟩
    rw [sortI_unique hp hs]
    exact k _ _ _ (new_st st hn) (new_keep st hn) (new_own st hn (repL_ints _))
  · simp only [dSorted] at q
    split at q
    · rename_i hl
      obtain ⟨ns, e2, rfl⟩ := Option.map_eq_some_iff.mp q
      obtain ⟨p, kvs, rfl, h1, r1⟩ := a.dic st
      refine .inr ⟨p, kvs, ns, rfl, .inl h1, keyI_rep r1 e2, by rw [keyI_len e2]; exact hl, fun ys l hp hs hn => ?_⟩
      rw [sortI_unique hp hs]
      exact k _ _ _ (new_st st hn) (new_keep st hn) (new_own st hn (repL_ints _))
    · cases q
end
end Mini
namespace Mini
open PySem PySem.Spec PyProof.Rows L2 Evl
/-! ### dict comprehensions, keys ints or texts -/
def dcL (t : TGd) (test : FB) (kf vf : FE) : List D → List (Key × D) → En → M (List (Key × D))
  | [], acc, _ => rt acc
  | d :: ds, acc, ρ => bd (lift (t d ρ)) fun ρ1 => bd (noEr (test ρ1)) fun k =>
      if k = true then bd (noEr (kf ρ1)) fun kd => bd (noEr (vf ρ1)) fun x => match keyD kd with
        | some kk => if acc.length < 16777216 then dcL t test kf vf ds (putD acc kk x) ρ else no
        | none => no
      else dcL t test kf vf ds acc ρ
def dcE (it : FI) (t : TGd) (test : FB) (kf vf : FE) (vs : List Nat) : FE := fun ρ => bd (it ρ) fun ds => bd (noEr (dcL t test kf vf ds [] (wipeR ρ vs))) fun r => rt (.dic r)
section
variable {K : PySem.W.Frag} {c : Cn} {W W' : Wd} {H H' : Hp}
def AccE (K : PySem.W.Frag) (c : Cn) (W : Wd) (H : Hp) (D : Addr) (acc : List (Key × Mini.D)) : Prop := W.H0 D = none ∧ W.sa ≠ some D ∧ ∃ vs, H D = some (.dK vs) ∧ RepE K c W acc vs
theorem AccE.ext {D : Addr} {acc : List (Key × Mini.D)} (a : AccE K c W H D acc) (k : Keep W H W' H') : AccE K c W' H' D acc := by
  obtain ⟨h1, h2, vs, h3, h4⟩ := a
  exact ⟨k.fr D _ h3 h1, fun e => h2 (k.sa D _ h3 e), vs, k.old D _ h3 h2, RepE.ext k.wex acc vs h4⟩
def OutK (K : PySem.W.Frag) (c : Cn) (W : Wd) (H : Hp) (D : Addr) (Qd : Hp → Prop) : Res (List (Key × Mini.D)) → Prop
  | .ok r S' => ∀ W' H', StOk K c W' H' S' → KeepD W H D W' H' → AccE K c W' H' D r → Qd H'
  | .er _ _ _ => False
  | .no => False
end
section
variable {X : Cx} {c : Cn} {E : XK} {kx vx tg iter : Expr} {ifs : List Expr} {scope : Scope} {own : List (Str × Nat)} {pos : Pos} {it : FI} {td : TGd} {test : FB} {fk fv : FE}
theorem dc_out {own : List Nat} : ∀ σ H Q, tO X.K c E (dcE it td test fk fv own) σ H Q → tDc (tI X.K c E it) (tGd X.K c own td) (tT X.K c EF test) (tM X.K c EF fk) (tM X.K c EF fv) own σ H Q := fun σ H Q h => by
  obtain ⟨W, ρ, S, st, en, q⟩ := tO_un h
  refine ⟨W, ρ, S, st, en, ?_⟩
  unfold dcE bd at q
  cases e0 : it ρ S with
  | er n p S' => rw [e0] at q; exact q
  | no => rw [e0] at q; exact q
  | ok ds S0 =>
    rw [e0] at q
    intro W0 H0 J st0 k0 wk Dl hD
    have en0 := (en.ext k0).wipe own
    have st1 := new_st (o := .dK []) st0 hD
    have kD : Keep W0 H0 W0 (upd H0 Dl (.dK [])) := new_keep st0 hD
    have noOwn : ∀ (i : Nat) (d : Mini.D), (wipeR ρ own)[i]? = some (.ow d) → (L2.wipe σ own)[i]? ≠ some (some (.ref Dl)) := fun i d h1 h2 => by
      obtain ⟨a, h3, _, _, h4⟩ := en0.ow i d h1
      rw [h2] at h3
      cases h3
      obtain ⟨o, ho⟩ := h4.some
      rw [hD] at ho
      cases ho
    have q0 : OutK X.K c W0 (upd H0 Dl (.dK [])) Dl (fun H1 => Q (.ref Dl) H1) (dcL td test fk fv ds [] (wipeR ρ own) S0) := by
      change OutO X.K c W H E Q (bd (noEr (dcL td test fk fv ds [] (wipeR ρ own))) (fun r => rt (.dic r)) S0) at q
      unfold bd noEr at q
      cases e1 : dcL td test fk fv ds [] (wipeR ρ own) S0 with
      | no => rw [e1] at q; exact q
      | er n p S' => rw [e1] at q; exact q
      | ok r S' =>
        rw [e1] at q
        rintro W' H' st' k' ⟨a1, a2, vs, a3, a4⟩
        have there := (kD.toS (σ := []) (ρ := []) st1).there
        have kk : Keep W0 H0 W' H' := by
          refine ⟨k'.wex, fun b o h n => k'.old b o (kD.old b o h n) n fun z => ?_, fun b o h n => ?_, fun b o h e => ?_⟩
          · rw [z, hD] at h
            cases h
          · obtain ⟨o', ho'⟩ := there b o h
            exact k'.fr b o' ho' n
          · obtain ⟨o', ho'⟩ := there b o h
            exact k'.sa b o' ho' e
        refine q W' H' _ st' (k0.tr st0 kk) (RepO.pre (H0 := H) k0 (fun b e => st0.ds.at (k0.wex.2 b e)) ⟨Dl, rfl, hD, a1, a2, vs, a3, a4⟩)
    refine ⟨fun i m H1 => m = ds.length - i ∧ i ≤ ds.length ∧ ∃ W1 S1 acc, StOk X.K c W1 H1 S1 ∧ KeepD W0 (upd H0 Dl (.dK [])) Dl W1 H1 ∧ AccE X.K c W1 H1 Dl acc ∧ OutK X.K c W0 (upd H0 Dl (.dK [])) Dl (fun H1 => Q (.ref Dl) H1) (dcL td test fk fv (ds.drop i) acc (wipeR ρ own) S1),
      ⟨ds.length, rfl, Nat.zero_le _, W0, S0, [], st1, (Keep.refl _ _).toD st1, ⟨fresh_back st0.sub hD, sa_ne st0 hD, [], upd_same, rfl⟩, q0⟩, ?_⟩
    rintro i m H1 ⟨rfl, hi, W1, S1, acc, st1, k1, ac1, q1⟩
    have ex1 : Ex W0.H0 H1 := k1.wex.1.trans st1.sub
    by_cases hlt : i < ds.length
    · refine .inr ⟨wk.go i H1 hlt ex1, fun H2 => ∃ W2 S2 acc2, StOk X.K c W2 H2 S2 ∧ KeepD W0 (upd H0 Dl (.dK [])) Dl W2 H2 ∧ AccE X.K c W2 H2 Dl acc2 ∧ OutK X.K c W0 (upd H0 Dl (.dK [])) Dl (fun H1 => Q (.ref Dl) H1) (dcL td test fk fv (ds.drop (i + 1)) acc2 (wipeR ρ own) S2), fun H2 n2 => ⟨ds.length - (i + 1), by omega, rfl, hlt, n2⟩, fun x H2 y => ?_⟩
      have hd : ds[i]? = some ds[i] := List.getElem?_eq_getElem hlt
      rw [List.drop_eq_getElem_cons hlt] at q1
      unfold dcL bd at q1
      cases e1 : td ds[i] (wipeR ρ own) with
      | none => rw [e1] at q1; exact q1.elim
      | some ρ2 =>
        rw [e1] at q1
        obtain ⟨W2, st2, kk2, r2⟩ := (wk.yld i H1 x H2 _ hd ex1 y).lay st1 k1.wex
        have en1 : EnvOk X.K c W1 H1 (L2.wipe σ own) (wipeR ρ own) := (en0.ext kD).extD k1 noOwn
        refine ⟨W2, wipeR ρ own, S1, ds[i], ρ2, st2, en1.ext kk2, r2, e1, fun σ3 en3 o3 w3 => ⟨w3.trans (wipe_wipe own own fun _ z => z), ?_⟩⟩
        change OutK X.K c W0 (upd H0 Dl (.dK [])) Dl (fun H1 => Q (.ref Dl) H1) (bd (noEr (test ρ2)) _ S1) at q1
        refine thenC_T (O := OutK X.K c W0 (upd H0 Dl (.dK [])) Dl fun H1 => Q (.ref Dl) H1) st2 en3 (fun z => z) q1 fun k S3 W3 H3 st3 k3 q3 => ?_
        have ac3 := (ac1.ext kk2).ext k3
        have kk3 := (k1.trans (kk2.toD st2)).trans (k3.toD st3)
        cases k with
        | false => exact ⟨W3, S3, acc, st3, kk3, ac3, q3⟩
        | true =>
          refine thenC_M (O := OutK X.K c W0 (upd H0 Dl (.dK [])) Dl fun H1 => Q (.ref Dl) H1) st3 (en3.ext k3) (fun z => z) q3 fun d4 S4 W4 H4 v4 st4 k4 r4 q4 => ?_
          refine thenC_M (O := OutK X.K c W0 (upd H0 Dl (.dK [])) Dl fun H1 => Q (.ref Dl) H1) st4 ((en3.ext k3).ext k4) (fun z => z) q4 fun d5 S5 W5 H5 v5 st5 k5 r5 q5 => ?_
          obtain ⟨a1, a2, vs, a3, a4⟩ := (ac3.ext k4).ext k5
          cases ek : keyD d4 with
          | none => rw [ek] at q5; exact q5.elim
          | some kk =>
            rw [ek] at q5
            dsimp only at q5
            split at q5
            · rename_i hlen
              obtain ⟨s6, k6⟩ := upd_D (o := .dK (putK vs kk v5)) st5 a1 a2 ⟨_, a3⟩
              refine ⟨vs, kk, key_rep' r4 ek, a3, line_lt (by rw [repE_len a4]; exact hlen), W5, S5, putD acc kk d5, s6, ((kk3.trans (k4.toD st4)).trans (k5.toD st5)).trans k6, ⟨a1, a2, _, upd_same, putE_rep a4 r5⟩, q5⟩
            · exact q5.elim
    · have ei : i = ds.length := by omega
      subst ei
      refine .inl ⟨wk.stop H1 ex1, ?_⟩
      rw [List.drop_length] at q1
      exact q1 W1 H1 st1 k1 ac1
theorem me_dc (hc : X.calm = true) (hN : X.N.Nodup) (hi : PI X tg iter (tI X.K c E it)) (ok : BlkOk X.N X.env.scope scope own)
    (hg : ∀ (s : Shared) (H : Hp) (C : Addr) (cl : List (Str × Addr)) (fp : List Addr), PG (X.blk s H scope (compEnvC scope cl C X.env) fp) tg (tGd X.K c (own.map (·.2)) td))
    (ht : ∀ (s : Shared) (H : Hp) (C : Addr) (cl : List (Str × Addr)) (fp : List Addr), PTs (X.blk s H scope (compEnvC scope cl C X.env) fp) ifs (tT X.K c EF test))
    (hk : ∀ (s : Shared) (H : Hp) (C : Addr) (cl : List (Str × Addr)) (fp : List Addr), PE (X.blk s H scope (compEnvC scope cl C X.env) fp) kx (tM X.K c EF fk))
    (he : ∀ (s : Shared) (H : Hp) (C : Addr) (cl : List (Str × Addr)) (fp : List Addr), PE (X.blk s H scope (compEnvC scope cl C X.env) fp) vx (tM X.K c EF fv)) (hs : ∀ x, foldedSetIterable iter X.env x = pure x := by intro _; rfl) :
    PE X (.DictComp kx vx [⟨tg, iter, ifs, 0⟩] scope pos) (tO X.K c E (dcE it td test fk fv (own.map (·.2)))) := pe_imp (pe_dc hc hN hi ok hg ht hk he hs) dc_out
end
/-! ### three comparisons in a row -/
def cmpB (f : D → D → Option D) (x y : D) : Option Bool := (f x y).bind isBl
def chn3 (f g h : D → D → Option D) (a b c d : FE) : FB := fun ρ => bd (a ρ) fun x => bd (b ρ) fun y => bd (lift (cmpB f x y)) fun k =>
  if k = true then bd (c ρ) fun u => bd (lift (cmpB g y u)) fun k => if k = true then bd (d ρ) fun w => lift (cmpB h u w) else rt false else rt false
theorem cmpB_some {f : D → D → Option D} {x y : D} {k : Bool} (h : cmpB f x y = some k) : f x y = some (.bl k) := by
  unfold cmpB at h
  obtain ⟨z, h1, h2⟩ := Option.bind_eq_some_iff.mp h
  cases z <;> first | (cases h2; done) | skip
  cases h2
  exact h1
def tChn3 (r r' r'' : R2) (ta tb tc td : TE) : TT := fun σ H Q => ta σ H fun x H1 => tb σ H1 fun y H2 => r x y H2 fun z H3 => ∃ k, z = .bl k ∧
  (if k = true then tc σ H3 fun u H4 => r' y u H4 fun z H5 => ∃ k, z = .bl k ∧ (if k = true then td σ H5 fun w H6 => r'' u w H6 fun z H7 => ∃ k, z = .bl k ∧ Q k H7 else Q false H5) else Q false H3)
section
variable {X : Cx} {cn : Cn} {E : XK} {a b c d : Expr} {fa fb fc fd : FE} {ta tb tc td : TE} {pos : Pos} {op op' op'' : CmpOp} {f g h : D → D → Option D} {r r' r'' : R2}
theorem pt_chn3 (ho : OpR X (compareOp op) r) (ho' : OpR X (compareOp op') r') (ho'' : OpR X (compareOp op'') r'') (ha : PE X a ta) (hb : PE X b tb) (hc : PE X c tc) (hd : PE X d td) (hm : lastMarks [op, op', op''] [b, c, d] = false) :
    PT X (.Compare a [op, op', op''] [b, c, d] pos) (tChn3 r r' r'' ta tb tc td) := by
  refine ⟨fun pins s σ H Q I q => ?_⟩
  refine isTrue_chain (thn (ha.run pins s σ H _ I q) fun v s1 ⟨x, H1, I1, r1, q1⟩ => test_link (thn (hb.run pins s1 σ H1 _ I1 q1) fun u s2 ⟨y, H2, I2, r2, q2⟩ =>
    thn (ho pins s2 σ H2 x y v u _ I2 r1 r2 q2) fun _ s3 ⟨z, H3, I3, r3, k, e, q3⟩ => ?_)) hm
  subst e
  cases r3
  refine wpAny_truthy_bool ?_
  cases k with
  | false => exact ite_ff ⟨H3, I3, q3⟩
  | true =>
    refine ite_tt (test_link (thn (hc.run pins s3 σ H3 _ I3 q3) fun w s4 ⟨y', H4, I4, r4, q4⟩ => thn (ho' pins s4 σ H4 y y' u w _ I4 r2 r4 q4) fun _ s5 ⟨z2, H5, I5, r5, k2, e2, q5⟩ => ?_))
    subst e2
    cases r5
    refine wpAny_truthy_bool ?_
    cases k2 with
    | false => exact ite_ff ⟨H5, I5, q5⟩
    | true =>
      refine ite_tt (test_last (thn (hd.run pins s5 σ H5 _ I5 q5) fun w' s6 ⟨y3, H6, I6, r6, q6⟩ => thn (ho'' pins s6 σ H6 y' y3 w w' _ I6 r4 r6 q6) fun _ s7 ⟨z3, H7, I7, r7, k3, e3, q7⟩ => ?_))
      subst e3
      cases r7
      exact wpAny_truthy_bool ⟨H7, I7, q7⟩
theorem mt_chain3 (ho : OpR X (compareOp op) r) (ho' : OpR X (compareOp op') r') (ho'' : OpR X (compareOp op'') r'') (h1 : OpM X.K cn r f) (h2 : OpM X.K cn r' g) (h3 : OpM X.K cn r'' h) (ha : PE X a (tB X.K cn E fa)) (hb : PE X b (tB X.K cn E fb)) (hc : PE X c (tB X.K cn E fc)) (hd : PE X d (tB X.K cn E fd))
    (hm : lastMarks [op, op', op''] [b, c, d] = false := by kernel_rfl) : PT X (.Compare a [op, op', op''] [b, c, d] pos) (tT X.K cn E (chn3 f g h fa fb fc fd)) := pt_imp (pt_chn3 ho ho' ho'' ha hb hc hd hm) fun σ H Q z => by
  obtain ⟨W, ρ, S, st, en, q⟩ := tT_un z
  refine then_B (O := OutT X.K cn W H E Q) st en (fun _ _ _ z => z) (fun z => z) q fun d1 S1 W1 H1 v st1 k1 r1 q1 => ?_
  refine then_B (O := OutT X.K cn W H E Q) st1 (en.ext k1) (fun _ _ _ z => ErQ.pre z k1 st1) (fun z => z) q1 fun d2 S2 W2 H2 u st2 k2 r2 q2 => ?_
  have k12 := k1.tr st1 k2
  have en2 := (en.ext k1).ext k2
  change OutT X.K cn W H E Q (bd (lift (cmpB f d1 d2)) _ S2) at q2
  unfold bd at q2
  cases e1 : cmpB f d1 d2 with
  | none => rw [e1] at q2; exact q2.elim
  | some kb =>
    rw [e1] at q2
    refine h1 _ st2 (r1.ext k2) r2 (cmpB_some e1) fun W3 H3 x st3 k3 rx => ?_
    cases rx
    refine ⟨kb, rfl, ?_⟩
    have k13 := k12.tr st2 k3
    cases kb with
    | false => exact q2 W3 H3 st3 k13
    | true =>
      refine then_B (O := OutT X.K cn W H E Q) st3 (en2.ext k3) (fun _ _ _ z => ErQ.pre z k13 st3) (fun z => z) q2 fun d4 S4 W4 H4 u4 st4 k4 r4 q4 => ?_
      have k14 := k13.tr st3 k4
      change OutT X.K cn W H E Q (bd (lift (cmpB g d2 d4)) _ S4) at q4
      unfold bd at q4
      cases e2 : cmpB g d2 d4 with
      | none => rw [e2] at q4; exact q4.elim
      | some kb2 =>
        rw [e2] at q4
        refine h2 _ st4 ((r2.ext k3).ext k4) r4 (cmpB_some e2) fun W5 H5 x st5 k5 rx => ?_
        cases rx
        refine ⟨kb2, rfl, ?_⟩
        have k15 := k14.tr st4 k5
        cases kb2 with
        | false => exact q4 W5 H5 st5 k15
        | true =>
          refine then_B (O := OutT X.K cn W H E Q) st5 (((en2.ext k3).ext k4).ext k5) (fun _ _ _ z => ErQ.pre z k15 st5) (fun z => z) q4 fun d6 S6 W6 H6 u6 st6 k6 r6 q6 => ?_
          obtain ⟨kb3, e3, q7⟩ := lift_ok (β := Bool) (O := OutT X.K cn W H E Q) (fun z => z) q6
          refine h3 _ st6 ((r4.ext k5).ext k6) r6 (cmpB_some e3) fun W7 H7 x st7 k7 rx => ?_
          cases rx
          exact ⟨kb3, rfl, q7 W7 H7 st7 ((k15.tr st5 k6).tr st6 k7)⟩
end
end Mini
namespace Mini
open PySem PySem.Spec PyProof.Rows L2 Evl
section
variable {K : PySem.W.Frag} {c : Cn} {W W1 W2 W' : Wd} {H H1 H2 H' : Hp} {S S1 S2 S' : DS} {σ σ1 σ2 σ' : L2.St} {ρ ρ1 ρ2 ρ' : En} {E : XK}
theorem then_O {f : FE} {β : Type} {g : D → M β} {Q : VK} {O : Res β → Prop} (st : StOk K c W H S) (en : EnvOk K c W H σ ρ) (hO : ∀ n p S', O (.er n p S') → ErQ K c W H E n p S') (hN : ¬ O .no)
    (h : O (bd (f ρ) g S)) (k : ∀ d S' W' H' v, StOk K c W' H' S' → Keep W H W' H' → RepO K c H W' H' d v → O (g d S') → Q v H') : tO K c E f σ H Q := by
  refine tO_mk st en ?_
  unfold bd at h
  cases z : f ρ S with
  | no => rw [z] at h; exact hN h
  | er n p S' => rw [z] at h; exact hO n p S' h
  | ok d S' => rw [z] at h; exact fun W' H' v st' k' r => k d S' W' H' v st' k' r h
theorem RepO.ext {H0 : Hp} {d : D} {v : V} (k : Keep W H W' H') (r : RepO K c H0 W H d v) : RepO K c H0 W' H' d v := by
  obtain ⟨a, rfl, h1, h2, h3, h4⟩ := r
  obtain ⟨o, ho⟩ := h4.some
  exact ⟨a, rfl, h1, k.fr a o ho h2, fun z => h3 (k.sa a o ho z), h4.ext k.wex fun o q => k.old a o q h3⟩
theorem fresh_not {a : Addr} (en : EnvOk K c W H σ ρ) (h : H a = none) : ¬ Owned σ ρ a := fun z => by
  obtain ⟨o, ho⟩ := en.own_some z
  rw [h] at ho
  cases ho
end
/-! ### two names at once, some of them own objects -/
def parVO (i j : Nat) (a b : FE) : FS := fun ρ => bd (a ρ) fun x => bd (b ρ) fun y => rt (.nx (setO j y (setV i x ρ)))
def parOV (i j : Nat) (a b : FE) : FS := fun ρ => bd (a ρ) fun x => bd (b ρ) fun y => rt (.nx (setV j y (setO i x ρ)))
def parOO (i j : Nat) (a b : FE) : FS := fun ρ => bd (a ρ) fun x => bd (b ρ) fun y => rt (.nx (setO j y (setO i x ρ)))
section
variable {X : Cx} {c : Cn} {E : XK} {a b e o tg : Expr} {es : List Expr} {fa fb fc fd : FE} {ga : FA} {x y : Str} {p pos apos cpos pa pos' : Pos} {i j : Nat} {px py pt : Pos} {kt k2 : Nat} {pt2 : Pos}
structure Pr (X : Cx) (x y : Str) (i j : Nat) (a b : Expr) (px py pt pt2 pos : Pos) (kt k2 : Nat) : Prop where
  hi : X.N[i]? = some x
  hj : X.N[j]? = some y
  hij : i ≠ j
  hx : X.env.scope.names.lookup x = some .local
  hy : X.env.scope.names.lookup y = some .local
  hw : swappedStores [.Tuple [.Name x px, .Name y py] kt pt] (.Tuple [a, b] k2 pt2) X.env = pure (some [x, y])
  hs : swapsWithSole [.Tuple [.Name x px, .Name y py] kt pt] (.Tuple [a, b] k2 pt2) pos.line X.env = pure false
  s1 : starEach [a, b] X.env = (false, eval a X.env) :: starEach [b] X.env
  s2 : starEach [b] X.env = (false, eval b X.env) :: starEach [] X.env
theorem Pr.ps {ta tb : TE} (r : Pr X x y i j a b px py pt pt2 pos kt k2) (hc : X.calm = true) (hN : X.N.Nodup) (ha : PE X a ta) (hb : PE X b tb) : PS X (.Assign [.Tuple [.Name x px, .Name y py] kt pt] (.Tuple [a, b] k2 pt2) pos) (tPar i j (tCons ta (tCons tb tNil))) :=
  ps_par hc hN r.hi r.hj r.hij r.hx r.hy (pa_cons ha (pa_cons hb pa_nil r.s2) r.s1) r.hw r.hs
theorem ms_parVO (hc : X.calm = true) (hN : X.N.Nodup) (ha : PE X a (tM X.K c E fa)) (hb : PE X b (tO X.K c E fb)) (r : Pr X x y i j a b px py pt pt2 pos kt k2 := by exact ⟨by kernel_rfl, by kernel_rfl, by decide, by kernel_rfl, by kernel_rfl, by kernel_rfl, by kernel_rfl, by kernel_rfl, by kernel_rfl⟩) :
    PS X (.Assign [.Tuple [.Name x px, .Name y py] kt pt] (.Tuple [a, b] k2 pt2) pos) (tS X.K c E (parVO i j fa fb)) := ps_imp (r.ps hc hN ha hb) fun D' σ H q => by
  obtain ⟨W, ρ, S, st, en, q⟩ := q
  refine thenS_M st en q fun d S1 W1 H1 v st1 en1 k1 r1 q1 => ?_
  refine then_O (O := OutS X.K c W1 H1 σ ρ E D') st1 en1 (fun _ _ _ z => ErS.q z) (fun z => z) q1 fun d2 S2 W2 H2 u st2 k2 r2 q2 => ?_
  obtain ⟨ad, rfl, n1, n2, n3, own⟩ := r2
  have en2 := (en1.ext k2).setV (Rep.ext k2.wex d v r1) i
  refine ⟨v, _, rfl, q2 W2 H2 _ st2 (en2.setO (fun z => fresh_not en1 n1 (owned_setV z)) n2 n3 own j) ⟨k2.toS st2, fun b z => ?_⟩⟩
  rcases owned_setO z with rfl | z
  · exact .inl n1
  · exact .inr (owned_setV z)
theorem ms_parOV (hc : X.calm = true) (hN : X.N.Nodup) (ha : PE X a (tO X.K c E fa)) (hb : PE X b (tM X.K c E fb)) (r : Pr X x y i j a b px py pt pt2 pos kt k2 := by exact ⟨by kernel_rfl, by kernel_rfl, by decide, by kernel_rfl, by kernel_rfl, by kernel_rfl, by kernel_rfl, by kernel_rfl, by kernel_rfl⟩) :
    PS X (.Assign [.Tuple [.Name x px, .Name y py] kt pt] (.Tuple [a, b] k2 pt2) pos) (tS X.K c E (parOV i j fa fb)) := ps_imp (r.ps hc hN ha hb) fun D' σ H q => by
  obtain ⟨W, ρ, S, st, en, q⟩ := q
  refine then_O (O := OutS X.K c W H σ ρ E D') st en (fun _ _ _ z => ErS.q z) (fun z => z) q fun d S1 W1 H1 v st1 k1 r1 q1 => ?_
  refine then_M (O := OutS X.K c W H σ ρ E D') st1 (en.ext k1) (fun _ _ _ z => ErQ.pre (ErS.q z) k1 st1) (fun z => z) q1 fun d2 S2 W2 H2 u st2 k2 r2 q2 => ?_
  obtain ⟨ad, rfl, n1, n2, n3, own⟩ := RepO.ext k2 r1
  have k12 := k1.tr st1 k2
  have en2 := (en.ext k12).setO (fresh_not en n1) n2 n3 own i
  refine ⟨_, u, rfl, q2 W2 H2 _ st2 (en2.setV r2 j) ⟨k12.toS st2, fun b z => ?_⟩⟩
  rcases owned_setO (owned_setV z) with rfl | z
  · exact .inl n1
  · exact .inr z
theorem ms_parOO (hc : X.calm = true) (hN : X.N.Nodup) (ha : PE X a (tO X.K c E fa)) (hb : PE X b (tO X.K c E fb)) (r : Pr X x y i j a b px py pt pt2 pos kt k2 := by exact ⟨by kernel_rfl, by kernel_rfl, by decide, by kernel_rfl, by kernel_rfl, by kernel_rfl, by kernel_rfl, by kernel_rfl, by kernel_rfl⟩) :
    PS X (.Assign [.Tuple [.Name x px, .Name y py] kt pt] (.Tuple [a, b] k2 pt2) pos) (tS X.K c E (parOO i j fa fb)) := ps_imp (r.ps hc hN ha hb) fun D' σ H q => by
  obtain ⟨W, ρ, S, st, en, q⟩ := q
  refine then_O (O := OutS X.K c W H σ ρ E D') st en (fun _ _ _ z => ErS.q z) (fun z => z) q fun d S1 W1 H1 v st1 k1 r1 q1 => ?_
  refine then_O (O := OutS X.K c W H σ ρ E D') st1 (en.ext k1) (fun _ _ _ z => ErQ.pre (ErS.q z) k1 st1) (fun z => z) q1 fun d2 S2 W2 H2 u st2 k2 r2 q2 => ?_
  obtain ⟨ad, rfl, n1, n2, n3, own⟩ := RepO.ext k2 r1
  have r2' := RepO.pre (H0 := H1) k1 (fun b e => st1.ds.at (k1.wex.2 b e)) r2
  obtain ⟨ad2, rfl, m1, m2, m3, own2⟩ := id r2
  obtain ⟨ad3, e3, l1, _⟩ := r2'
  cases e3
  obtain ⟨_, e4, _, _, _, own0⟩ := r1
  cases e4
  obtain ⟨o, ho⟩ := own0.some
  have ne : ad2 ≠ ad := fun z => by rw [z, ho] at m1; cases m1
  have k12 := k1.tr st1 k2
  have en2 := (en.ext k12).setO (fresh_not en n1) n2 n3 own i
  have nn : ¬ Owned (σ.set i (some (.ref ad))) (setO i d ρ) ad2 := fun z => by
    rcases owned_setO z with z | z
    · exact ne z
    · exact fresh_not en l1 z
  refine ⟨_, _, rfl, q2 W2 H2 _ st2 (en2.setO nn m2 m3 own2 j) ⟨k12.toS st2, fun b z => ?_⟩⟩
  rcases owned_setO z with rfl | z
  · exact .inl l1
  · rcases owned_setO z with rfl | z
    · exact .inl n1
    · exact .inr z
/-! ### t.count(x), t exact; l.count(x) -/
def tyX (x : V) (H : Hp) : Prop := ∃ p o vs, x = .ref p ∧ H p = some (.frz o (.tup vs)) ∧ o.dict = none
def tBMX (r : V → List V → Hp → VK → Prop) (to : TE) (t : TA) : TE := fun σ H Q => to σ H fun x H1 => tyX x H1 ∧ t σ H1 fun xs H2 => r x xs H2 Q
theorem pe_bmX {id : String} {name : Str} {r : V → List V → Hp → VK → Prop} {to : TE} {t : TA} (sl : PySem.Slot "tuple" name id) (hty : typeOf (.builtin id) = pure (.type "method_descriptor")) (hm : MtR X id r) (ho : PE X o to) (ha : PA X (e :: es) t) (m : Mb X o name e es apos cpos) :
    PE X (.Call (.Attribute o name apos) (e :: es) [] cpos) (tBMX r to t) := ⟨fun pins s σ H Q I h => by
  refine wpAny_Call_method_late m.base m.few m.line rfl (thn (ho.run pins s σ H _ I h) fun v s1 ⟨xv, H1, I1, r1, ty, q1⟩ => ?_)
  obtain ⟨ad, ob, vs, rfl, hob, hd⟩ := ty
  cases r1
  obtain ⟨g, _, its, _, ot, hot, hcl, _⟩ := I1.hok ad _ hob
  rw [g] at hot
  cases hot
  refine ⟨"tuple", id, PySem.F.plainAttrs_tuple, sl, hty, ⟨_, g, hcl⟩, fun b e => ?_, ?_⟩
  · cases e
    exact ⟨_, g, hd⟩
  have hA := ha.run cpos pins s1 σ H1 _ I1 q1
  rw [m.st] at hA ⊢
  refine Calls.callWith_builtin (by show (false || (backTo cpos (starEach es X.env)).any (·.1)) = false; rw [m.pl, Bool.or_self]) (Calls.evalArgs_plain (thn hA fun us s2 ⟨ws, H2, I2, r2, q2⟩ => ?_))
  exact hm pins s2 σ H2 (.ref ad) ws (.ref ad) us Q I2 rfl r2 q2⟩
def rCntT (K : PySem.W.Frag) : V → List V → Hp → VK → Prop := fun x xs H Q => ∃ y d ds, xs = [y] ∧ Dp K H x (.tuple ds) ∧ Dp K H y d ∧ SeqAt.shaped d = true ∧ SeqAt.shaped (.tuple ds) = true ∧ Q (.int ((ds.countP fun z => PyData.eqv z d : Nat) : Int)) H
theorem mt_countT {k : Nat} (hr : Room k X.A) : MtR X "tuple.count" (rCntT X.K) := by
  intro pins s σ H x xs v us Q I rx rxs h
  obtain ⟨y, d, ds, rfl, hx, hy, sd, sl, q⟩ := h
  obtain ⟨u, rfl, ru⟩ := rxs.one
  obtain ⟨bs, r1⟩ := Dp.reads I d y u hy ru
  have hu := Room.u64 hr
  cases hx with
  | tup hs ha =>
    cases rx
    obtain ⟨its, rv, ht, hz⟩ := I.tuple hs
    obtain ⟨as, h4⟩ := Dp.readsAll I ds _ its ha rv
    have c1 : PyData.canLayAll0 ds = true := by
      have := SeqAt.canLay_of_shaped sl
      simpa only [PyData.canLay0] using this
    have c2 := SeqAt.canLay_of_shaped sd
    have c3 : d.depth ≤ 64 := by
      have z : (d.canLay0 && decide (d.depth ≤ 64)) = true := sd
      rw [Bool.and_eq_true] at z
      exact of_decide_eq_true z.2
    refine SeqAt.count_tuple_data (d := d) ht (show ReadsAll s.heap its.toArray.toList ds as from h4) r1 (plainAll_of c1) (PyData.plain_of_canLay0 d c2) (by omega) ?_
    exact ⟨.int _, H, I.tok _, ⟨_, rfl⟩, q⟩
where
  plainAll_of {ds : List PyData} (h : PyData.canLayAll0 ds = true) : PyData.plainAll ds = true := by
    have z := PyData.plain_of_canLay0 (.list ds) (by simpa only [PyData.canLay0] using h)
    simpa only [PyData.plain] using z
def dCount : D → D → Option D
  | .tpx ds, d => if okEq (.tpx ds) && okEq d then some (.int ((pyL ds).countP fun z => PyData.eqv z d.py : Nat)) else none
  | _, _ => none
def countE (fa fb : FE) : FE := fun ρ => bd (fa ρ) fun x => match x with
  | .tpx ds => bd (fb ρ) fun y => lift (dCount (.tpx ds) y)
  | _ => no
theorem me_count {k : Nat} (hr : Room k X.A) (ho : PE X o (tB X.K c E fa)) (he : PE X e (tB X.K c E fb)) (m : Mb X o "count" e [] apos cpos := by exact ⟨by kernel_rfl, by kernel_rfl, by kernel_rfl, by kernel_rfl, by kernel_rfl⟩) :
    PE X (.Call (.Attribute o "count" apos) [e] [] cpos) (tM X.K c E (countE fa fb)) :=
  pe_imp (pe_bmX PySem.F.slot_tuple_count PySem.F.type_tuple_count (mt_countT hr) ho (pa_cons he pa_nil m.one) m) fun σ H Q h => by
    obtain ⟨W, ρ, S, st, en, q⟩ := tM_un h
    refine then_B (O := OutM X.K c W H E Q) st en (fun _ _ _ z => z) (fun z => z) q fun d S1 W1 H1 v st1 k1 r1 q1 => ?_
    cases d <;> first | exact (show False from q1).elim | skip
    rename_i ds
    obtain ⟨ad, vs, ob, rfl, h1, h2, h3⟩ := r1.tpo st1
    refine ⟨⟨ad, ob, vs, rfl, h1, h2⟩, ?_⟩
    refine then_B (O := OutM X.K c W H E Q) st1 (en.ext k1) (fun _ _ _ z => ErQ.pre z k1 st1) (fun z => z) q1 fun d2 S2 W2 H2 u st2 k2 r2 q2 => ?_
    obtain ⟨d', e', q3⟩ := lift_ok (β := D) (O := OutM X.K c W H E Q) (fun z => z) q2
    simp only [dCount] at e'
    split at e'
    · rename_i z
      rw [Bool.and_eq_true] at z
      cases e'
      obtain ⟨y1, y2⟩ := okEq_shaped st2 (r1.ext k2) z.1
      obtain ⟨y3, y4⟩ := okEq_shaped st2 r2 z.2
      refine ⟨u, d2.py, pyL ds, rfl, ?_, y3, y4, ?_, q3 W2 H2 _ st2 (k1.tr st1 k2) rfl⟩
      · simpa only [D.py] using y1
      · simpa only [D.py] using y2
    · cases e'
end
end Mini
namespace Mini
open PySem PySem.Spec PyProof.Rows L2 Evl
/-! ### the draws' state -/
def stIx (i : Nat) (k : Int) : FE := fun ρ S => match slot ρ i, S with
  | some .st, some ds => (match atI ds k with
    | some d => .ok d S
    | none => .no)
  | _, _ => .no
def stSet (i : Nat) (k : Int) (f : FE) : FS := fun ρ => bd (f ρ) fun d S => match slot ρ i, S with
  | some .st, some ds => (match ixN ds.length k with
    | some j => .ok (.nx ρ) (some (ds.set j d))
    | none => .no)
  | _, _ => .no
section
variable {X : Cx} {c : Cn} {E : XK} {a b e o tg : Expr} {es : List Expr} {fa fb fc fd : FE} {ga : FA} {x y : Str} {p pos apos cpos pa pos' : Pos} {i j : Nat}
theorem st_at {K : PySem.W.Frag} {W : Wd} {H : Hp} {ds : List D} {v : V} (st : StOk K c W H (some ds)) (r : Rep K c W .st v) : ∃ ad vs, v = .ref ad ∧ W.sa = some ad ∧ W.H0 ad = none ∧ H ad = some (.lst vs) ∧ RepL K c W ds vs := by
  obtain ⟨ad, rfl, h1⟩ := r
  obtain ⟨ad2, vs, h2, h3, h4, h5⟩ := st.ds
  rw [h1] at h2
  cases h2
  exact ⟨ad, vs, rfl, h1, h3, h4, h5⟩
theorem me_stIx {k : Int} {jj : Nat} {p2 : Pos} (hN : X.N[i]? = some x := by kernel_rfl) (hv : X.env.scope.names.lookup x = some .local := by kernel_rfl) (hd : (x == ("__debug__" : Str)) = false := by kernel_rfl) (hcd : (x == ("__classdict__" : Str)) = false := by kernel_rfl) :
    PE X (.Subscript (.Name x pa) (.Constant (.int k) jj p2) pos) (tM X.K c E (stIx i k)) := pe_imp (pe_ix ix_seq (pe_var hN (.inl hv) hd hcd) pe_int (fun _ _ => rfl)) fun σ H Q h => by
  obtain ⟨W, ρ, S, st, en, q⟩ := tM_un h
  unfold stIx at q
  split at q
  · rename_i ds e1
    split at q
    · rename_i d e2
      obtain ⟨v, h1, h2⟩ := en.vl i _ (slot_some e1)
      obtain ⟨ad, vs, rfl, h3, h4, h5, h6⟩ := st_at st h2
      obtain ⟨u, g1, g2⟩ := repL_at h6 e2
      exact ⟨_, h1, .inl ⟨ad, vs, k, u, rfl, rfl, SqL.of h5, g1, q W H u st (Keep.refl W H) g2⟩⟩
    · exact q.elim
  · exact q.elim
theorem st_set {K : PySem.W.Frag} {W : Wd} {H : Hp} {ds : List D} {ad : Addr} {vs : List V} {d : D} {u : V} (n : Nat) (st : StOk K c W H (some ds)) (h1 : W.sa = some ad) (h2 : W.H0 ad = none) (h3 : H ad = some (.lst vs)) (h4 : RepL K c W ds vs) (r : Rep K c W d u) :
    StOk K c W (upd H ad (.lst (vs.set n u))) (some (ds.set n d)) ∧ Keep W H W (upd H ad (.lst (vs.set n u))) := by
  refine ⟨⟨fun b o q => ?_, ad, _, h1, h2, upd_same, repL_set n h4 r⟩, WEx.refl W, fun b o q ns => ?_, fun _ _ _ z => z, fun _ _ _ z => z⟩
  · rw [upd_ne fun z => by rw [z, h2] at q; cases q]
    exact st.sub b o q
  · rw [upd_ne fun z => ns (by rw [z]; exact h1)]
    exact q
theorem ms_stSet {k : Int} {jj : Nat} {p2 : Pos} (he : PE X e (tM X.K c E fa)) (hN : X.N[i]? = some x := by kernel_rfl) (hv : X.env.scope.names.lookup x = some .local := by kernel_rfl) (hd : (x == ("__debug__" : Str)) = false := by kernel_rfl) (hcd : (x == ("__classdict__" : Str)) = false := by kernel_rfl)
    (hA : ∀ v, assign (.Subscript (.Name x pa) (.Constant (.int k) jj p2) pos') X.env v = (do
      let ov ← holding [v] (eval (.Name x pa) X.env)
      let iv ← holding [v, ov] (eval (.Constant (.int k) jj p2) X.env)
      standAt pos'
      holding [v, ov, iv] (setItem ov iv v)
      release [v, ov, iv] []) := by intro _; kernel_rfl)
    (hs : swapsWithSole [.Subscript (.Name x pa) (.Constant (.int k) jj p2) pos'] e pos.line X.env = pure false := by kernel_rfl) (hw : swappedStores [.Subscript (.Name x pa) (.Constant (.int k) jj p2) pos'] e X.env = pure none := by kernel_rfl)
    (h1 : (assignEach [.Subscript (.Name x pa) (.Constant (.int k) jj p2) pos'] X.env).map (·.2) = [assign (.Subscript (.Name x pa) (.Constant (.int k) jj p2) pos') X.env] := by kernel_rfl) :
    PS X (.Assign [.Subscript (.Name x pa) (.Constant (.int k) jj p2) pos'] e pos) (tS X.K c E (stSet i k fa)) := ps_imp (ps_asg he (pg_sub (pe_var hN (.inl hv) hd hcd) pe_int set_list hA) hs hw h1) fun D' σ H q => by
  obtain ⟨W, ρ, S, st, en, q⟩ := q
  refine thenS_M st en q fun d S1 W1 H1 v st1 en1 k1 r1 q1 => ?_
  split at q1
  · rename_i ds e1
    split at q1
    · rename_i n e2
      obtain ⟨u, g1, g2⟩ := en1.vl i _ (slot_some e1)
      obtain ⟨ad, vs, rfl, h3, h4, h5, h6⟩ := st_at st1 g2
      obtain ⟨st2, k2⟩ := st_set n st1 h3 h4 h5 h6 r1
      exact ⟨_, g1, ad, vs, k, n, rfl, rfl, h5, by rw [RepL.length h6]; exact e2, q1 W1 _ σ st2 (en1.ext k2) (k2.toStep st2)⟩
    · exact q1.elim
  · exact q1.elim
end
/-! ### a def that hands on a fresh object -/
def OutSO (K : PySem.W.Frag) (c : Cn) (W : Wd) (H : Hp) (σ : L2.St) (ρ : En) (E : XK) (D : Ends) : Res Mini.D → Prop
  | .ok d S' => ∀ W' H' v, StOk K c W' H' S' → KeepS W H σ ρ W' H' → RepO K c H W' H' d v → D.rt v H'
  | .er n p S' => ErS K c W H σ ρ E n p S'
  | .no => False
def tSO (K : PySem.W.Frag) (c : Cn) (E : XK) (g : FE) : TS := fun D σ H => ∃ W ρ S, StOk K c W H S ∧ EnvOk K c W H σ ρ ∧ OutSO K c W H σ ρ E D (g ρ S)
def seqO (g : FS) (h : FE) : FE := fun ρ => bd (g ρ) fun f => match f with
  | .nx ρ' => h ρ'
  | _ => no
section
variable {K : PySem.W.Frag} {c : Cn} {W W1 W2 W' : Wd} {H H1 H2 H' : Hp} {S S1 S2 S' : DS} {σ σ1 σ2 σ' : L2.St} {ρ ρ1 ρ2 ρ' : En} {E : XK}
theorem OutSO.pre {D : Ends} {r : Res Mini.D} (h : OutSO K c W H σ ρ E D r) (k : Step W H σ ρ W1 H1 σ1 ρ1) : OutSO K c W1 H1 σ1 ρ1 E D r := by
  cases r with
  | no => exact h
  | er n p S' => exact ErS.pre h k
  | ok d S' =>
    rintro W' H' v st' k' ⟨a, rfl, n1, n2⟩
    refine h W' H' _ st' (k.keepS k') ⟨a, rfl, ?_, n2⟩
    cases z : H a with
    | none => rfl
    | some o =>
      obtain ⟨o', z'⟩ := k.there a o z
      rw [n1] at z'
      cases z'
end
section
variable {X : Cx} {c : Cn} {E : XK} {st : Stmt} {rest : List Stmt} {e : Expr} {g : FS} {h fa : FE} {pos : Pos}
theorem mo_cons (h1 : PS X st (tS X.K c E g)) (h2 : PSs X rest (tSO X.K c E h)) : PSs X (st :: rest) (tSO X.K c E (seqO g h)) := ⟨fun pins s σ H D I q => by
  refine (pss_cons h1 h2).run pins s σ H D I ?_
  obtain ⟨W, ρ, S, st, en, q⟩ := q
  refine ⟨W, ρ, S, st, en, ?_⟩
  unfold seqO bd at q
  cases e : g ρ S with
  | no => rw [e] at q; exact q
  | er n p S' => rw [e] at q; exact q
  | ok f S' =>
    rw [e] at q
    cases f with
    | nx ρ' => exact fun W' H' σ' st' en' k' => ⟨W', ρ', S', st', en', OutSO.pre q k'⟩
    | bk ρ' => exact (show False from q).elim
    | ct ρ' => exact (show False from q).elim
    | rt d => exact (show False from q).elim⟩
theorem mo_ret (he : PE X e (tO X.K c E fa)) : PSs X [.Return (some e) pos] (tSO X.K c E fa) := ⟨fun pins s σ H D I q => by
  refine (pss_one (ps_ret he)).run pins s σ H D I ?_
  obtain ⟨W, ρ, S, st, en, q⟩ := q
  refine tO_mk st en ?_
  cases e : fa ρ S with
  | no => rw [e] at q; exact q
  | er n p S' => rw [e] at q; exact ErS.q q
  | ok d S' => rw [e] at q; exact fun W' H' v st' k' r => q W' H' v st' (k'.toS st') r⟩
end
def fnO (np ns : Nat) (b : FE) : List D → M D := fun ds => if ds.length = np then b (enter ns ds) else no
theorem fn_miniO {P : Program} {w : World} {K : PySem.W.Frag} {mg : Str → Option Value} {base : Heap} {c : Cn} {x qual : Str} {st : Stmt} {f : Addr} {fd : FuncData} {N ps : List Str} {k : Nat} {b : FE} (F : Fun K x qual st f fd) (S : FnScope N ps (defScope st))
    (hbody : ∀ (cdv : Value) (A : Around) (outer : List Env) (s : Shared) (H : Hp) (E : XK), Room k (A.deeper (envOfC qual (defScope st) s.heap.objs.size f cdv)) → A.guards = some [] →
      PSs (cxOf (L2.CX P w) P w K mg base N qual (defScope st) f cdv A outer s H E) (defBody st) (tSO K c E b)) : FnG P w K mg base (L2.CX P w) (k + 1) f fd ps (spO K c (fnO ps.length N.length b)) := by
  obtain ⟨oc, od, kV, doc, pm, an, cdv, ct, osl, rfl, lk, hcd⟩ := F.ex
  have hpl : ps.length ≤ N.length := by
    have := congrArg List.length S.pre
    rw [List.length_take] at this
    omega
  have len : ∀ vs H Q E, spO K c (fnO ps.length N.length b) vs H Q E → vs.length = ps.length := fun vs H Q E h => by
    obtain ⟨W, ds, S', st', r, q⟩ := h
    unfold fnO at q
    split at q
    · rw [RepL.length r]; assumption
    · exact q.elim
  refine fnG_of lk hcd S len fun A outer s H vs Q E hr hg h => ⟨_, hbody cdv A outer s H E hr hg, ?_⟩
  have hl := len vs H Q E h
  obtain ⟨W, ds, S', st', r, q⟩ := h
  unfold fnO at q
  rw [if_pos (by rw [← RepL.length r]; exact hl)] at q
  refine ⟨W, enter N.length ds, S', st', enter_ok r (by omega), ?_⟩
  cases e : b (enter N.length ds) S' with
  | no => rw [e] at q; exact q
  | er n p S2 => rw [e] at q; exact fun W2 H2 dd v st2 k2 => q W2 H2 dd v st2 (k2.toKeep fun b => enter_owned)
  | ok d S2 => rw [e] at q; exact fun W2 H2 v st2 k2 r2 => q W2 H2 v st2 (k2.toKeep fun b => enter_owned) r2
/-- state = start(script) -/
def mkS (i : Nat) (F : List D → M D) (a : FA) : FS := fun ρ => bd (a ρ) fun xs S => match S with
  | none => (match F xs none with
    | .ok (.lst ds) none => .ok (.nx (setV i .st ρ)) (some ds)
    | _ => .no)
  | some _ => .no
section
variable {X : Cx} {c : Cn} {E : XK} {T : CXT} {k : Nat} {f : Addr} {fd : FuncData} {ps : List Str} {F : List D → M D} {x y : Str} {p pos pos' : Pos} {e : Expr} {es : List Expr} {ga : FA} {i : Nat}
theorem ms_mk (hN : X.N.Nodup) (G : FnG X.prog X.w X.K X.mg X.base T k f fd ps (spO X.K c F)) (hr : Room k X.A) (gd : X.A.guards = some []) (hm : X.mg x = some (.ref f)) (hk : PySem.W.keepIn X.K (.ref f) = true) (hb : Binds X.K fd ps []) (hx : Passes T X E)
    (ha : PA X (e :: es) (tA X.K c E ga)) (hi : X.N[i]? = some y := by kernel_rfl) (hy : X.env.scope.names.lookup y = some .local := by kernel_rfl) (hg : X.env.kindOf x = some .globalImplicit := by kernel_rfl) (hdb : (x == ("__debug__" : Str)) = false := by kernel_rfl) (he : starEach (e :: es) X.env = (false, eval e X.env) :: starEach es X.env := by kernel_rfl) (hpl : (backTo pos (starEach es X.env)).any (·.1) = false := by kernel_rfl)
    {spos : Pos} (hs' : swapsWith (.Call (.Name x p) (e :: es) [] pos) (some (.Name y pos')) spos.line X.env = pure false := by kernel_rfl) :
    PS X (.Assign [.Name y pos'] (.Call (.Name x p) (e :: es) [] pos) spos) (tS X.K c E (mkS i F ga)) :=
  ps_imp (ps_set hN hi (.inl hy) (pe_callG G hr gd hg hm hk hb .nil hx ha hdb he hpl) hs' (.inr hy)) fun D' σ H q => by
    obtain ⟨W, ρ, S, st, en, q⟩ := q
    refine then_A (O := OutS X.K c W H σ ρ E D') st en (fun _ _ _ z => ErS.q z) (fun z => z) q fun ds S1 W1 H1 vs st1 k1 r1 q1 => ?_
    rw [List.append_nil]
    cases S1 with
    | some _ => exact (show False from q1).elim
    | none =>
      dsimp only at q1
      refine ⟨W1, ds, none, st1, r1, ?_⟩
      cases e1 : F ds none with
      | no => rw [e1] at q1; exact (show False from q1).elim
      | er n pp S' => rw [e1] at q1; exact (show False from q1).elim
      | ok d S' =>
        rw [e1] at q1
        cases d <;> first | exact (show False from q1).elim | skip
        cases S' <;> first | exact (show False from q1).elim | skip
        rintro W2 H2 v st2 k2 ⟨ad, rfl, n1, n2, n3, us, n4, n5⟩
        have sn : W2.sa = none := st2.ds
        have wx : WEx W2 ⟨W2.H0, some ad⟩ := ⟨Ex.refl _, fun b z => by rw [sn] at z; cases z⟩
        have k12 := k1.tr st1 k2
        have s1n : W.sa = none := by
          cases z : W.sa with
          | none => rfl
          | some b => rw [k12.wex.2 b z] at sn; cases sn
        have n0 : H ad = none := by
          cases z : H ad with
          | none => rfl
          | some o => rw [k1.old ad o z (by rw [s1n]; intro q; cases q)] at n1; cases n1
        have st3 : StOk X.K c ⟨W2.H0, some ad⟩ H2 (some _) := ⟨st2.sub, ad, us, rfl, n2, n4, RepL.ext wx _ us n5⟩
        have k3 : Keep W H ⟨W2.H0, some ad⟩ H2 := ⟨k12.wex.trans wx, k12.old, k12.fr, fun b o z e => by cases e; rw [n0] at z; cases z⟩
        have rr : Rep X.K c ⟨W2.H0, some ad⟩ D.st (V.ref ad) := ⟨ad, rfl, rfl⟩
        exact q1 _ H2 _ st3 ((en.ext k3).setV rr i) ⟨k3.toS st3, fun b z => .inr (owned_setV z)⟩
end
end Mini
namespace Mini
open PySem PySem.Spec PyProof.Rows L2 Evl
/-! ### the end, by the head's facts -/
def fd0 : FuncData := PySem.W.fnOf "" "" ⟨[], [], none, [], [], none, []⟩ [] ⟨.function, [], false, false, []⟩ .none .none .none .none none .none .none
def fdA (K : PySem.W.Frag) (a : Addr) : FuncData := match K.lookup a with
  | some ⟨_, _, .func fd, _⟩ => fd
  | _ => fd0
theorem fdA_of {K : PySem.W.Frag} {x qual : Str} {params : Arguments} {bodyS : List Stmt} {sc : Scope} {dvs : List V} {kws : List (Str × V)} {f : Addr} (h : ∃ fd, FunD K x qual params bodyS sc dvs kws f fd) : FunD K x qual params bodyS sc dvs kws f (fdA K f) := by
  obtain ⟨fd, F⟩ := h
  have e : fdA K f = fd := by
    obtain ⟨oc, od, dV, kV, doc, pm, an, cdv, ct, osl, e1, lk, _⟩ := F.ex
    unfold fdA
    rw [lk]
  rw [e]
  exact F
theorem fn_miniDD {P : Program} {w : World} {K : PySem.W.Frag} {mg : Str → Option Value} {base : Heap} {c : Cn} {x qual : Str} {params : Arguments} {bodyS : List Stmt} {sc : Scope} {dvs : List V} {kws : List (Str × V)} {f : Addr} {fd : FuncData} {N ps : List Str} {k : Nat} {b : FS} (F : FunD K x qual params bodyS sc dvs kws f fd) (S : FnScope N ps sc)
    (hbody : ∀ (cdv : Value) (A : Around) (outer : List Env) (s : Shared) (H : Hp) (E : XK), Room k (A.deeper (envOfC qual sc s.heap.objs.size f cdv)) → A.guards = some [] →
      PSs (cxOf (L2.CX P w) P w K mg base N qual sc f cdv A outer s H E) bodyS (tS K c E b)) : FnG P w K mg base (L2.CX P w) (k + 1) f fd ps (spM K c (fnD ps.length N.length b)) := by
  obtain ⟨oc, od, dV, kV, doc, pm, an, cdv, ct, osl, rfl, lk, hcd, _⟩ := F.ex
  exact fn_miniD lk hcd S (hbody cdv)
theorem fn_miniOD {P : Program} {w : World} {K : PySem.W.Frag} {mg : Str → Option Value} {base : Heap} {c : Cn} {x qual : Str} {params : Arguments} {bodyS : List Stmt} {sc : Scope} {dvs : List V} {kws : List (Str × V)} {f : Addr} {fd : FuncData} {N ps : List Str} {k : Nat} {b : FE} (F : FunD K x qual params bodyS sc dvs kws f fd) (S : FnScope N ps sc)
    (hbody : ∀ (cdv : Value) (A : Around) (outer : List Env) (s : Shared) (H : Hp) (E : XK), Room k (A.deeper (envOfC qual sc s.heap.objs.size f cdv)) → A.guards = some [] →
      PSs (cxOf (L2.CX P w) P w K mg base N qual sc f cdv A outer s H E) bodyS (tSO K c E b)) : FnG P w K mg base (L2.CX P w) (k + 1) f fd ps (spO K c (fnO ps.length N.length b)) := by
  obtain ⟨oc, od, dV, kV, doc, pm, an, cdv, ct, osl, rfl, lk, hcd, _⟩ := F.ex
  have hpl : ps.length ≤ N.length := by
    have := congrArg List.length S.pre
    rw [List.length_take] at this
    omega
  have len : ∀ vs H Q E, spO K c (fnO ps.length N.length b) vs H Q E → vs.length = ps.length := fun vs H Q E h => by
    obtain ⟨W, ds, S', st', r, q⟩ := h
    unfold fnO at q
    split at q
    · rw [RepL.length r]; assumption
    · exact q.elim
  refine fnG_of lk hcd S len fun A outer s H vs Q E hr hg h => ⟨_, hbody cdv A outer s H E hr hg, ?_⟩
  have hl := len vs H Q E h
  obtain ⟨W, ds, S', st', r, q⟩ := h
  unfold fnO at q
  rw [if_pos (by rw [← RepL.length r]; exact hl)] at q
  refine ⟨W, enter N.length ds, S', st', enter_ok r (by omega), ?_⟩
  cases e : b (enter N.length ds) S' with
  | no => rw [e] at q; exact q
  | er n p S2 => rw [e] at q; exact fun W2 H2 dd v st2 k2 => q W2 H2 dd v st2 (k2.toKeep fun b => enter_owned)
  | ok d S2 => rw [e] at q; exact fun W2 H2 v st2 k2 r2 => q W2 H2 v st2 (k2.toKeep fun b => enter_owned) r2
theorem mini_walkE {l : PySem.W.OpenLaw} {n k : Nat} {q : Program} {loose : List Str} {XP : (Str → Option Value) → Heap → Prop} {YP : World → Heap → Prop} {d : DefRec} {x : Str} {F : List D → M D}
    (hn : l.most = some n) (hn2 : n ≤ sizeLine) (hdf : d.params.defaults = []) (hr : Room k callerA)
    (G : ∀ (w : World) (mg : Str → Option Value) (fa : Addr) (h : Heap), YP w h → h.Ns mainGlobals mg → mg d.name = some (.ref fa) →
      ∃ (K : PySem.W.Frag) (c : Cn) (fd : FuncData), K.In h ∧ (∀ (s : Shared) (u : Value), BindsTo s fd ⟨[u], []⟩ [(x, u)]) ∧ ∀ base : Heap, K.In base → base.Ns mainGlobals mg → FnG l.prog w K mg base (L2.CX l.prog w) k fa fd [x] (spM K c F))
    (val : ∀ ns : List Int, ns.length ≤ n → ∃ S', F [.scr ns] none = .ok (.bl true) S') :
    PySem.W.WalkO q loose XP YP l.row.toRowW d [] (fun f vs => PySem.call f vs) := by
  refine Att.attach_call hn hdf fun w s₀ s₁ mg mb fa o pm cd doc a vs ns Gr Y ho hd hcd hmg hobj hints hlen hg => ?_
  obtain ⟨K, c, fd, KX, hb, hG⟩ := G w mg fa _ Y Gr.T.g hmg
  exact run_law KX Gr.T.g Gr.T.b Gr.T.builtins Gr.T.nolimit hg hobj hints (Nat.le_trans hlen hn2) hr hG hb (val ns hlen)
end Mini
namespace Mini
open PySem PySem.Spec PyProof.Rows L2 Evl
/-! ### several names at once, own objects among them -/
def ownV : List Bool → List V → List V
  | true :: fs, v :: vs => v :: ownV fs vs
  | false :: fs, _ :: vs => ownV fs vs
  | _, _ => []
def RepF (K : PySem.W.Frag) (c : Cn) (H0 : Hp) (W : Wd) (H : Hp) : List Bool → List D → List V → Prop
  | [], [], [] => True
  | true :: fs, d :: ds, v :: vs => RepO K c H0 W H d v ∧ v ∉ ownV fs vs ∧ RepF K c H0 W H fs ds vs
  | false :: fs, d :: ds, v :: vs => Rep K c W d v ∧ RepF K c H0 W H fs ds vs
  | _, _, _ => False
def OutF (K : PySem.W.Frag) (c : Cn) (W : Wd) (H : Hp) (E : XK) (fs : List Bool) (Q : List V → Hp → Prop) : Res (List D) → Prop
  | .ok ds S' => ∀ W' H' vs, StOk K c W' H' S' → Keep W H W' H' → RepF K c H W' H' fs ds vs → Q vs H'
  | .er n p S' => ErQ K c W H E n p S'
  | .no => False
def tF (K : PySem.W.Frag) (c : Cn) (E : XK) (fs : List Bool) (g : FA) : TA := fun σ H Q => ∃ W ρ S, StOk K c W H S ∧ EnvOk K c W H σ ρ ∧ OutF K c W H E fs Q (g ρ S)
def stV : List Nat → List V → L2.St → L2.St
  | i :: is, v :: vs, σ => stV is vs (σ.set i (some v))
  | _, _, σ => σ
def stF : List Bool → List Nat → List D → En → En
  | true :: fs, i :: is, d :: ds, ρ => stF fs is ds (setO i d ρ)
  | false :: fs, i :: is, d :: ds, ρ => stF fs is ds (setV i d ρ)
  | _, _, _, ρ => ρ
def unpS (fs : List Bool) (is : List Nat) (a : FA) : FS := fun ρ => bd (a ρ) fun ds => if ds.length = is.length ∧ is.length ≤ 100 then rt (.nx (stF fs is ds ρ)) else no
section
variable {K : PySem.W.Frag} {c : Cn} {W W1 W2 W' : Wd} {H H1 H2 H' H0 : Hp} {S S1 S2 S' : DS} {σ σ1 σ2 σ' : L2.St} {ρ ρ1 ρ2 ρ' : En} {E : XK}
theorem RepF.ext (k : Keep W H W' H') : ∀ {fs : List Bool} {ds : List D} {vs : List V}, RepF K c H0 W H fs ds vs → RepF K c H0 W' H' fs ds vs
  | [], [], [], _ => True.intro
  | true :: fs, d :: ds, v :: vs, ⟨h1, h2, h3⟩ => ⟨RepO.ext k h1, h2, RepF.ext k h3⟩
  | false :: fs, d :: ds, v :: vs, ⟨h1, h2⟩ => ⟨Rep.ext k.wex d v h1, RepF.ext k h2⟩
  | [], d :: ds, vs, h => by cases h
  | [], [], v :: vs, h => by cases h
  | true :: fs, [], vs, h => by cases h
  | false :: fs, [], vs, h => by cases h
  | true :: fs, d :: ds, [], h => by cases h
  | false :: fs, d :: ds, [], h => by cases h
theorem RepF.pre (k : Keep W H W1 H1) (hs : ∀ b, W.sa = some b → ∃ o, H1 b = some o) : ∀ {fs : List Bool} {ds : List D} {vs : List V}, RepF K c H1 W' H' fs ds vs → RepF K c H W' H' fs ds vs
  | [], [], [], _ => True.intro
  | true :: fs, d :: ds, v :: vs, ⟨h1, h2, h3⟩ => ⟨RepO.pre (H0 := H) k hs h1, h2, RepF.pre k hs h3⟩
  | false :: fs, d :: ds, v :: vs, ⟨h1, h2⟩ => ⟨h1, RepF.pre k hs h2⟩
  | [], d :: ds, vs, h => by cases h
  | [], [], v :: vs, h => by cases h
  | true :: fs, [], vs, h => by cases h
  | false :: fs, [], vs, h => by cases h
  | true :: fs, d :: ds, [], h => by cases h
  | false :: fs, d :: ds, [], h => by cases h
theorem RepF.own : ∀ {fs : List Bool} {ds : List D} {vs : List V}, RepF K c H0 W H fs ds vs → ∀ v ∈ ownV fs vs, ∃ a, v = .ref a ∧ H0 a = none
  | [], [], [], _ => fun v h => by cases h
  | true :: fs, d :: ds, v :: vs, ⟨h1, h2, h3⟩ => fun u h => by
    rcases List.mem_cons.mp h with rfl | h
    · obtain ⟨a, e, n, _⟩ := h1
      exact ⟨a, e, n⟩
    · exact RepF.own h3 u h
  | false :: fs, d :: ds, v :: vs, ⟨h1, h2⟩ => fun u h => RepF.own h2 u h
  | [], d :: ds, vs, h => by cases h
  | [], [], v :: vs, h => by cases h
  | true :: fs, [], vs, h => by cases h
  | false :: fs, [], vs, h => by cases h
  | true :: fs, d :: ds, [], h => by cases h
  | false :: fs, d :: ds, [], h => by cases h
theorem RepF.length : ∀ {fs : List Bool} {ds : List D} {vs : List V}, RepF K c H0 W H fs ds vs → vs.length = ds.length
  | [], [], [], _ => rfl
  | true :: fs, d :: ds, v :: vs, ⟨h1, h2, h3⟩ => by rw [List.length_cons, List.length_cons, RepF.length h3]
  | false :: fs, d :: ds, v :: vs, ⟨h1, h2⟩ => by rw [List.length_cons, List.length_cons, RepF.length h2]
  | [], d :: ds, vs, h => by cases h
  | [], [], v :: vs, h => by cases h
  | true :: fs, [], vs, h => by cases h
  | false :: fs, [], vs, h => by cases h
  | true :: fs, d :: ds, [], h => by cases h
  | false :: fs, d :: ds, [], h => by cases h
theorem stF_ok : ∀ {fs : List Bool} {is : List Nat} {ds : List D} {vs : List V} {σ : L2.St} {ρ : En}, EnvOk K c W H σ ρ → RepF K c H0 W H fs ds vs → ds.length = is.length → (∀ a, V.ref a ∈ ownV fs vs → ¬ Owned σ ρ a) →
    EnvOk K c W H (stV is vs σ) (stF fs is ds ρ) ∧ ∀ b, Owned (stV is vs σ) (stF fs is ds ρ) b → H0 b = none ∨ Owned σ ρ b
  | [], is, [], [], σ, ρ, en, _, hl, _ => by
    cases is with
    | nil => exact ⟨en, fun b h => .inr h⟩
    | cons i is => cases hl
  | true :: fs, is, d :: ds, v :: vs, σ, ρ, en, ⟨h1, h2, h3⟩, hl, hn => by
    cases is with
    | nil => cases hl
    | cons i is =>
      obtain ⟨a, rfl, n1, n2, n3, ow⟩ := h1
      have na : ¬ Owned σ ρ a := hn a (List.mem_cons_self)
      obtain ⟨e1, e2⟩ := stF_ok (is := is) (en.setO na n2 n3 ow i) h3 (by simpa using hl) fun b hb z => by
        rcases owned_setO z with rfl | z
        · exact h2 hb
        · exact hn b (List.mem_cons_of_mem _ hb) z
      refine ⟨e1, fun b hb => ?_⟩
      rcases e2 b hb with z | z
      · exact .inl z
      · rcases owned_setO z with rfl | z
        · exact .inl n1
        · exact .inr z
  | false :: fs, is, d :: ds, v :: vs, σ, ρ, en, ⟨h1, h2⟩, hl, hn => by
    cases is with
    | nil => cases hl
    | cons i is =>
      obtain ⟨e1, e2⟩ := stF_ok (is := is) (en.setV h1 i) h2 (by simpa using hl) fun b hb z => hn b hb (owned_setV z)
      refine ⟨e1, fun b hb => ?_⟩
      rcases e2 b hb with z | z
      · exact .inl z
      · exact .inr (owned_setV z)
  | [], is, d :: ds, vs, σ, ρ, _, h, _, _ => by cases h
  | [], is, [], v :: vs, σ, ρ, _, h, _, _ => by cases h
  | true :: fs, is, [], vs, σ, ρ, _, h, _, _ => by cases h
  | false :: fs, is, [], vs, σ, ρ, _, h, _, _ => by cases h
  | true :: fs, is, d :: ds, [], σ, ρ, _, h, _, _ => by cases h
  | false :: fs, is, d :: ds, [], σ, ρ, _, h, _, _ => by cases h
theorem then_F {fs : List Bool} {f : FA} {β : Type} {g : List D → M β} {Q : List V → Hp → Prop} {O : Res β → Prop} (st : StOk K c W H S) (en : EnvOk K c W H σ ρ) (hO : ∀ n p S', O (.er n p S') → ErQ K c W H E n p S') (hN : ¬ O .no)
    (h : O (bd (f ρ) g S)) (k : ∀ d S' W' H' v, StOk K c W' H' S' → Keep W H W' H' → RepF K c H W' H' fs d v → O (g d S') → Q v H') : tF K c E fs f σ H Q := by
  refine ⟨W, ρ, S, st, en, ?_⟩
  unfold bd at h
  cases z : f ρ S with
  | no => rw [z] at h; exact hN h
  | er n p S' => rw [z] at h; exact hO n p S' h
  | ok d S' => rw [z] at h; exact fun W' H' v st' k' r => k d S' W' H' v st' k' r h
end
section
variable {X : Cx} {c : Cn} {E : XK} {a b e o tg : Expr} {es ts : List Expr} {fa fb fc fd : FE} {ga : FA} {x y z : Str} {p pos apos cpos pa pos' : Pos} {i j l : Nat} {fs : List Bool} {is : List Nat}
theorem mf_nil : PA X [] (tF X.K c E [] nilA) := pa_imp pa_nil fun σ H Q h => by
  obtain ⟨W, ρ, S, st, en, q⟩ := h
  exact q W H [] st (Keep.refl W H) True.intro
theorem mf_V (ha : PE X e (tM X.K c E fa)) (hr : PA X es (tF X.K c E fs ga)) (hs : starEach (e :: es) X.env = (false, eval e X.env) :: starEach es X.env := by kernel_rfl) : PA X (e :: es) (tF X.K c E (false :: fs) (consA fa ga)) :=
  pa_imp (pa_cons ha hr hs) fun σ H Q h => by
    obtain ⟨W, ρ, S, st, en, q⟩ := h
    refine then_M (O := OutF X.K c W H E (false :: fs) Q) st en (fun _ _ _ z => z) (fun z => z) q fun d S1 W1 H1 v st1 k1 r1 q1 => ?_
    refine then_F (O := OutF X.K c W H E (false :: fs) Q) st1 (en.ext k1) (fun _ _ _ z => ErQ.pre z k1 st1) (fun z => z) q1 fun ds S2 W2 H2 vs st2 k2 r2 q2 => ?_
    exact q2 W2 H2 _ st2 (k1.tr st1 k2) ⟨Rep.ext k2.wex d v r1, RepF.pre k1 (fun b e => st1.ds.at (k1.wex.2 b e)) r2⟩
theorem mf_O (ha : PE X e (tO X.K c E fa)) (hr : PA X es (tF X.K c E fs ga)) (hs : starEach (e :: es) X.env = (false, eval e X.env) :: starEach es X.env := by kernel_rfl) : PA X (e :: es) (tF X.K c E (true :: fs) (consA fa ga)) :=
  pa_imp (pa_cons ha hr hs) fun σ H Q h => by
    obtain ⟨W, ρ, S, st, en, q⟩ := h
    refine then_O (O := OutF X.K c W H E (true :: fs) Q) st en (fun _ _ _ z => z) (fun z => z) q fun d S1 W1 H1 v st1 k1 r1 q1 => ?_
    refine then_F (O := OutF X.K c W H E (true :: fs) Q) st1 (en.ext k1) (fun _ _ _ z => ErQ.pre z k1 st1) (fun z => z) q1 fun ds S2 W2 H2 vs st2 k2 r2 q2 => ?_
    refine q2 W2 H2 _ st2 (k1.tr st1 k2) ⟨RepO.ext k2 r1, fun hm => ?_, RepF.pre k1 (fun b e => st1.ds.at (k1.wex.2 b e)) r2⟩
    obtain ⟨ad, e1, n1⟩ := RepF.own r2 v hm
    obtain ⟨ad2, e2, _, _, _, ow⟩ := r1
    rw [e2] at e1
    cases e1
    obtain ⟨o, ho⟩ := ow.some
    rw [n1] at ho
    cases ho
def tNm (is : List Nat) : TGs := fun vs σ H Q => vs.length = is.length ∧ Q (stV is vs σ) H
theorem mn_nil : PGs X [] (tNm []) := pgs_imp pgs_nil fun vs σ H Q h => by
  obtain ⟨h1, h2⟩ := h
  cases vs with
  | nil => exact ⟨rfl, h2⟩
  | cons v vs => cases h1
theorem mn_cons0 (hN : X.N.Nodup) (hi : X.N[i]? = some x) (hx : Loc X.env.scope x) (hf : X.fn x = true ∨ X.env.scope.names.lookup x = some .local) (hr : PGs X es (tNm is)) (hs : (assignEach (.Name x p :: es) X.env).map (·.2) = assign (.Name x p) X.env :: (assignEach es X.env).map (·.2)) :
    PGs X (.Name x p :: es) (tNm (i :: is)) := pgs_imp (pgs_cons (pg_name hN hi hx hf) hr hs) fun vs σ H Q h => by
  obtain ⟨h1, h2⟩ := h
  cases vs with
  | nil => cases h1
  | cons v vs => exact ⟨v, vs, rfl, by simpa using h1, h2⟩
theorem mn_L (hN : X.N.Nodup) (hr : PGs X es (tNm is)) (hi : X.N[i]? = some x := by kernel_rfl) (hx : X.env.scope.names.lookup x = some .local := by kernel_rfl) (hs : (assignEach (.Name x p :: es) X.env).map (·.2) = assign (.Name x p) X.env :: (assignEach es X.env).map (·.2) := by kernel_rfl) :
    PGs X (.Name x p :: es) (tNm (i :: is)) := mn_cons0 hN hi (.inl hx) (.inr hx) hr hs
theorem mn_C (hN : X.N.Nodup) (hr : PGs X es (tNm is)) (hi : X.N[i]? = some x := by kernel_rfl) (hx : X.env.scope.names.lookup x = some .cell := by kernel_rfl) (hf : X.fn x = true := by kernel_rfl) (hs : (assignEach (.Name x p :: es) X.env).map (·.2) = assign (.Name x p) X.env :: (assignEach es X.env).map (·.2) := by kernel_rfl) :
    PGs X (.Name x p :: es) (tNm (i :: is)) := mn_cons0 hN hi (.inr hx) (.inl hf) hr hs
/-- by a tuple that is laid and taken apart -/
theorem ms_unp {kt k2 : Nat} {pt pt2 : Pos} (hc : X.calm = true) (ha : PA X es (tF X.K c E fs ga)) (hg : PGs X ts (tNm is)) (hn : (assignEach ts X.env).length = is.length := by kernel_rfl) (hst : (assignEach ts X.env).findIdx? (·.1) = none := by kernel_rfl)
    (hs : swapsWithSole [.Tuple ts kt pt] (.Tuple es k2 pt2) pos.line X.env = pure false := by kernel_rfl) (hw : swappedStores [.Tuple ts kt pt] (.Tuple es k2 pt2) X.env = pure none := by kernel_rfl)
    (h1 : (assignEach [.Tuple ts kt pt] X.env).map (·.2) = [assign (.Tuple ts kt pt) X.env] := by kernel_rfl) : PS X (.Assign [.Tuple ts kt pt] (.Tuple es k2 pt2) pos) (tS X.K c E (unpS fs is ga)) :=
  ps_imp (ps_asg (pe_tup ha) (pg_tup hc hg hn hst) hs hw h1) fun D' σ H q => by
    obtain ⟨W, ρ, S, st, en, q⟩ := q
    refine then_F (O := OutS X.K c W H σ ρ E D') st en (fun _ _ _ z => ErS.q z) (fun z => z) q fun ds S1 W1 H1 vs st1 k1 r1 q1 => ?_
    split at q1
    · rename_i hl
      have hv := RepF.length r1
      have few : vs.length ≤ sizeLine := by
        rw [hv, hl.1]
        exact line_le (Nat.le_trans hl.2 (by decide))
      refine ⟨few, fun t ht => ?_⟩
      have st2 := new_st (o := .tup vs) st1 ht
      have k2' : Keep W1 H1 W1 (upd H1 t (.tup vs)) := new_keep st1 ht
      have k12 := k1.tr st1 k2'
      obtain ⟨e1, e2⟩ := stF_ok (en.ext k12) (RepF.ext k2' r1) hl.1 fun ad hm => by
        obtain ⟨ad', e3, n3⟩ := RepF.own r1 _ hm
        cases e3
        exact fresh_not en n3
      refine ⟨t, vs, rfl, SqT.of upd_same, by rw [hv]; exact hl.1, by rw [hv]; exact hl.1, ?_⟩
      exact q1 W1 _ _ st2 e1 ⟨k12.toS st2, fun b z => e2 b z⟩
    · exact q1.elim
/-- three plain names, three values -/
theorem ms_par3 {kt k2 : Nat} {pt pt2 px py pz : Pos} {d : Expr} (hc : X.calm = true) (hN : X.N.Nodup) (ha : PA X [a, b, d] (tF X.K c E fs ga)) (hi : X.N[i]? = some x := by kernel_rfl) (hj : X.N[j]? = some y := by kernel_rfl) (hl : X.N[l]? = some z := by kernel_rfl) (hij : i ≠ j := by decide) (hil : i ≠ l := by decide) (hjl : j ≠ l := by decide)
    (hx : X.env.scope.names.lookup x = some .local := by kernel_rfl) (hy : X.env.scope.names.lookup y = some .local := by kernel_rfl) (hz : X.env.scope.names.lookup z = some .local := by kernel_rfl)
    (hw : swappedStores [.Tuple [.Name x px, .Name y py, .Name z pz] kt pt] (.Tuple [a, b, d] k2 pt2) X.env = pure (some [x, y, z]) := by kernel_rfl)
    (hs : swapsWithSole [.Tuple [.Name x px, .Name y py, .Name z pz] kt pt] (.Tuple [a, b, d] k2 pt2) pos.line X.env = pure false := by kernel_rfl) :
    PS X (.Assign [.Tuple [.Name x px, .Name y py, .Name z pz] kt pt] (.Tuple [a, b, d] k2 pt2) pos) (tS X.K c E (unpS fs [i, j, l] ga)) :=
  ps_imp (ps_par3 hc hN hi hj hl hij hil hjl hx hy hz ha hw hs) fun D' σ H q => by
    obtain ⟨W, ρ, S, st, en, q⟩ := q
    refine then_F (O := OutS X.K c W H σ ρ E D') st en (fun _ _ _ z => ErS.q z) (fun z => z) q fun ds S1 W1 H1 vs st1 k1 r1 q1 => ?_
    split at q1
    · rename_i hl
      have hv := (RepF.length r1).trans hl.1
      obtain ⟨e1, e2⟩ := stF_ok (en.ext k1) r1 hl.1 fun ad hm => by
        obtain ⟨ad', e3, n3⟩ := RepF.own r1 _ hm
        cases e3
        exact fresh_not en n3
      match vs, hv, e1, e2 with
      | [u, v, w], _, e1, e2 => exact ⟨u, v, w, rfl, q1 W1 H1 _ st1 e1 ⟨k1.toS st1, fun b z => e2 b z⟩⟩
    · exact q1.elim
end
end Mini
namespace Mini
open PySem PySem.Spec PyProof.Rows
open L2 (atI ixN atI_nat)
/-! ## plain part: loops -/
/-- a for loop by an invariant: no way out -/
theorem forL_inv {t : TGd} {b : FS} {ds : List D} (I : Nat → En → DS → Prop) (hs : ∀ i d ρ S, ds[i]? = some d → I i ρ S → ∃ ρ1 ρ' S', t d ρ = some ρ1 ∧ (b ρ1 S = .ok (.nx ρ') S' ∨ b ρ1 S = .ok (.ct ρ') S') ∧ I (i + 1) ρ' S') {ρ : En} {S : DS} (h0 : I 0 ρ S) :
    ∃ ρ' S', forL t b ds ρ S = .ok (.nx ρ') S' ∧ I ds.length ρ' S' := by
  have go : ∀ (es : List D) (k : Nat), (∀ j, es[j]? = ds[k + j]?) → k + es.length = ds.length → ∀ ρ S, I k ρ S → ∃ ρ' S', forL t b es ρ S = .ok (.nx ρ') S' ∧ I ds.length ρ' S' := by
    intro es
    induction es with
    | nil =>
      intro k _ hl ρ S h
      have e : k = ds.length := by simpa using hl
      subst e
      exact ⟨ρ, S, rfl, h⟩
    | cons d es ih =>
      intro k hk hl ρ S h
      have h1 := hk 0
      rw [List.getElem?_cons_zero, Nat.add_zero] at h1
      obtain ⟨ρ1, ρ', S', e1, e2, e3⟩ := hs k d ρ S h1.symm h
      obtain ⟨ρ2, S2, e4, e5⟩ := ih (k + 1) (fun j => by have := hk (j + 1); rw [List.getElem?_cons_succ] at this; rw [this]; congr 1; omega) (by rw [List.length_cons] at hl; omega) ρ' S' e3
      refine ⟨ρ2, S2, ?_, e5⟩
      rcases e2 with e2 | e2 <;> simp only [forL, bd, e1, lift, rt, e2, e4]
  exact go ds 0 (fun j => by rw [Nat.zero_add]) (by omega) ρ S h0
/-- .. or a way out by return -/
theorem forL_ret {t : TGd} {b : FS} {ds : List D} (I : Nat → En → DS → Prop) (R : D → DS → Prop) (hs : ∀ i d ρ S, ds[i]? = some d → I i ρ S → ∃ ρ1, t d ρ = some ρ1 ∧ ((∃ ρ' S', b ρ1 S = .ok (.nx ρ') S' ∧ I (i + 1) ρ' S') ∨ ∃ v S', b ρ1 S = .ok (.rt v) S' ∧ R v S')) {ρ : En} {S : DS} (h0 : I 0 ρ S) :
    (∃ ρ' S', forL t b ds ρ S = .ok (.nx ρ') S' ∧ I ds.length ρ' S') ∨ ∃ v S', forL t b ds ρ S = .ok (.rt v) S' ∧ R v S' := by
  have go : ∀ (es : List D) (k : Nat), (∀ j, es[j]? = ds[k + j]?) → k + es.length = ds.length → ∀ ρ S, I k ρ S → (∃ ρ' S', forL t b es ρ S = .ok (.nx ρ') S' ∧ I ds.length ρ' S') ∨ ∃ v S', forL t b es ρ S = .ok (.rt v) S' ∧ R v S' := by
    intro es
    induction es with
    | nil =>
      intro k _ hl ρ S h
      have e : k = ds.length := by simpa using hl
      subst e
      exact .inl ⟨ρ, S, rfl, h⟩
    | cons d es ih =>
      intro k hk hl ρ S h
      have h1 := hk 0
      rw [List.getElem?_cons_zero, Nat.add_zero] at h1
      obtain ⟨ρ1, e1, e2⟩ := hs k d ρ S h1.symm h
      rcases e2 with ⟨ρ', S', e2, e3⟩ | ⟨v, S', e2, e3⟩
      · have z := ih (k + 1) (fun j => by have := hk (j + 1); rw [List.getElem?_cons_succ] at this; rw [this]; congr 1; omega) (by rw [List.length_cons] at hl; omega) ρ' S' e3
        rcases z with ⟨ρ2, S2, e4, e5⟩ | ⟨v, S2, e4, e5⟩
        · exact .inl ⟨ρ2, S2, by simp only [forL, bd, e1, lift, rt, e2, e4], e5⟩
        · exact .inr ⟨v, S2, by simp only [forL, bd, e1, lift, rt, e2, e4], e5⟩
      · exact .inr ⟨v, S', by simp only [forL, bd, e1, lift, rt, e2], e3⟩
  exact go ds 0 (fun j => by rw [Nat.zero_add]) (by omega) ρ S h0
/-- a comprehension whose parts leave the draws alone -/
theorem lcL_map {t : TGd} {test : FB} {elt : FE} {ρ : En} {S : DS} (p : D → Bool) (g : D → D) : ∀ {ds acc : List D}, (∀ d ∈ ds, ∃ ρ1, t d ρ = some ρ1 ∧ test ρ1 S = .ok (p d) S ∧ (p d = true → elt ρ1 S = .ok (g d) S)) → acc.length + ds.length ≤ 16777216 →
    lcL t test elt ds acc ρ S = .ok (acc ++ (ds.filter p).map g) S
  | [], acc, _, _ => by simp [lcL, rt]
  | d :: ds, acc, h, hl => by
    obtain ⟨ρ1, e1, e2, e3⟩ := h d List.mem_cons_self
    rw [List.length_cons] at hl
    have h' : ∀ x ∈ ds, _ := fun x hx => h x (List.mem_cons_of_mem _ hx)
    cases hp : p d with
    | false =>
      rw [hp] at e2
      simp only [lcL, bd, e1, lift, rt, noEr, e2, Bool.false_eq_true, if_false, List.filter_cons, hp]
      exact lcL_map p g h' (by omega)
    | true =>
      rw [hp] at e2
      have l1 : acc.length < 16777216 := by omega
      have z := lcL_map (acc := acc ++ [g d]) p g h' (by rw [List.length_append, List.length_singleton]; omega)
      simp only [lcL, bd, e1, lift, rt, noEr, e2, e3 hp, if_true, List.filter_cons, hp, l1, List.map_cons]
      rw [z, List.append_assoc, List.singleton_append]
theorem lcL_all {t : TGd} {elt : FE} {ρ : En} {S : DS} (g : D → D) {ds : List D} (h : ∀ d ∈ ds, ∃ ρ1, t d ρ = some ρ1 ∧ elt ρ1 S = .ok (g d) S) (hl : ds.length ≤ 16777216) : lcL t yesB elt ds [] ρ S = .ok (ds.map g) S := by
  have z := lcL_map (t := t) (test := yesB) (elt := elt) (ρ := ρ) (S := S) (fun _ => true) g (ds := ds) (acc := []) (fun d hd => by
    obtain ⟨ρ1, e1, e2⟩ := h d hd
    exact ⟨ρ1, e1, rfl, fun _ => e2⟩) (by simpa using hl)
  rw [List.filter_eq_self.mpr (fun _ _ => rfl), List.nil_append] at z
  exact z
/-- a comprehension whose elements draw: each as wanted -/
theorem lcL_draw {t : TGd} {elt : FE} {ρ : En} (V : DS → Prop) (P : D → Prop) : ∀ {ds acc : List D} {S : DS}, (∀ d ∈ ds, ∀ S, V S → ∃ ρ1 x S', t d ρ = some ρ1 ∧ elt ρ1 S = .ok x S' ∧ P x ∧ V S') → acc.length + ds.length ≤ 16777216 → V S →
    ∃ r S', lcL t yesB elt ds acc ρ S = .ok (acc ++ r) S' ∧ r.length = ds.length ∧ (∀ x ∈ r, P x) ∧ V S'
  | [], acc, S, _, _, v => ⟨[], S, by simp [lcL, rt], rfl, (by simp), v⟩
  | d :: ds, acc, S, h, hl, v => by
    obtain ⟨ρ1, x, S', e1, e2, e3, v'⟩ := h d List.mem_cons_self S v
    rw [List.length_cons] at hl
    have l1 : acc.length < 16777216 := by omega
    obtain ⟨r, S2, z1, z2, z3, z4⟩ := lcL_draw V P (acc := acc ++ [x]) (fun y hy => h y (List.mem_cons_of_mem _ hy)) (by rw [List.length_append, List.length_singleton]; omega) v'
    refine ⟨x :: r, S2, ?_, by simp [z2], fun y hy => ?_, z4⟩
    · simp only [lcL, bd, e1, lift, rt, noEr, yesB, e2, if_true, l1]
      rw [z1, List.append_assoc, List.singleton_append]
    · rcases List.mem_cons.mp hy with rfl | hy
      · exact e3
      · exact z3 y hy
/-! ## plain part: data -/
theorem intsOf_map : ∀ ns : List Int, intsOf (ns.map D.int) = some ns
  | [] => rfl
  | n :: ns => by simp only [List.map_cons, intsOf, intsOf_map ns, Option.map_some]
theorem rngD_map (n : Nat) : rngD 0 n = (List.range n).map fun i => D.int ((i : Nat) : Int) := by
  unfold rngD
  simp
/-- data that may be compared and shown: h deep, n entries -/
structure Gd (h n : Nat) (d : D) : Prop where
  pu : d.pure = true
  de : d.py.depth ≤ h
  sh : d.py.showable = true
  lf : d.py.leavesShort 501 = true
  pl : d.py.plain = true
  bu : d.py.bulk ≤ n
theorem Gd.mono {h n h' n' : Nat} {d : D} (g : Gd h n d) (a : h ≤ h') (b : n ≤ n') : Gd h' n' d := ⟨g.pu, Nat.le_trans g.de a, g.sh, g.lf, g.pl, Nat.le_trans g.bu b⟩
theorem log2_small {n : Nat} (h : n < 10 ^ 500) : n.log2 < 1920 := by
  by_cases z : n = 0
  · subst z; decide
  · refine (Nat.log2_lt z).mpr (Nat.lt_trans h ?_)
    decide +kernel
theorem gd_int {i : Int} (h : i.natAbs < 10 ^ 500) : Gd 0 0 (.int i) where
  pu := rfl
  de := Nat.le_refl _
  sh := by
    simp only [D.py, PyData.showable, decide_eq_true_eq]
    exact log2_small h
  lf := by
    simp only [D.py, PyData.leavesShort, decide_eq_true_eq]
    have e := int_text_length_le10 (k := 500) (by decide) h
    show (Str.ofString (toString i)).length ≤ 501
    rw [PySem.ofString_length]
    exact e
  pl := rfl
  bu := Nat.le_refl _
theorem gd_non : Gd 0 0 .non := ⟨rfl, Nat.le_refl _, rfl, rfl, rfl, Nat.le_refl _⟩
theorem gd_bl (b : Bool) : Gd 0 0 (.bl b) := ⟨rfl, Nat.le_refl _, rfl, rfl, rfl, Nat.le_refl _⟩
theorem gd_str {s : Str} {n : Nat} (h1 : s.length ≤ n) (h2 : s.cps.toList.all (fun c => decide (c < 16 ^ 8)) = true) : Gd 0 n (.str s) := ⟨rfl, Nat.le_refl _, rfl, by simp only [D.py, PyData.leavesShort]; exact h2, rfl, h1⟩
theorem gdL {h n : Nat} : ∀ {ds : List D}, (∀ d ∈ ds, Gd h n d) → pureL ds = true ∧ PyData.depthAll (pyL ds) ≤ h ∧ PyData.showableAll (pyL ds) = true ∧ PyData.leavesShortAll 501 (pyL ds) = true ∧ PyData.plainAll (pyL ds) = true ∧ PyData.bulkAll (pyL ds) ≤ ds.length * (n + 1)
  | [], _ => ⟨rfl, Nat.zero_le _, rfl, rfl, rfl, Nat.zero_le _⟩
  | d :: ds, g => by
    obtain ⟨a1, a2, a3, a4, a5, a6⟩ := gdL (ds := ds) fun x hx => g x (List.mem_cons_of_mem _ hx)
    have b := g d List.mem_cons_self
    refine ⟨?_, ?_, ?_, ?_, ?_, ?_⟩
    · simp only [pureL, b.pu, a1, Bool.and_self]
    · simp only [pyL, PyData.depthAll]
      exact Nat.max_le.mpr ⟨b.de, a2⟩
    · simp only [pyL, PyData.showableAll, b.sh, a3, Bool.and_self]
    · simp only [pyL, PyData.leavesShortAll, b.lf, a4, Bool.and_self]
    · simp only [pyL, PyData.plainAll, b.pl, a5, Bool.and_self]
    · simp only [pyL, PyData.bulkAll, List.length_cons]
      have z := b.bu
      rw [Nat.succ_mul]
      omega
theorem gd_tup {h n : Nat} {ds : List D} (g : ∀ d ∈ ds, Gd h n d) : Gd (h + 1) (ds.length * (n + 1)) (.tup ds) := by
  obtain ⟨a1, a2, a3, a4, a5, a6⟩ := gdL g
  exact ⟨by simpa only [D.pure] using a1, by simpa only [D.py, PyData.depth, Nat.add_le_add_iff_right] using a2, by simpa only [D.py, PyData.showable] using a3, by simpa only [D.py, PyData.leavesShort] using a4, by simpa only [D.py, PyData.plain] using a5, by simpa only [D.py, PyData.bulk] using a6⟩
theorem gd_tpx {h n : Nat} {ds : List D} (g : ∀ d ∈ ds, Gd h n d) : Gd (h + 1) (ds.length * (n + 1)) (.tpx ds) := by
  obtain ⟨a1, a2, a3, a4, a5, a6⟩ := gdL g
  exact ⟨by simpa only [D.pure] using a1, by simpa only [D.py, PyData.depth, Nat.add_le_add_iff_right] using a2, by simpa only [D.py, PyData.showable] using a3, by simpa only [D.py, PyData.leavesShort] using a4, by simpa only [D.py, PyData.plain] using a5, by simpa only [D.py, PyData.bulk] using a6⟩
theorem gd_lst {h n : Nat} {ds : List D} (g : ∀ d ∈ ds, Gd h n d) : Gd (h + 1) (ds.length * (n + 1)) (.lst ds) := by
  obtain ⟨a1, a2, a3, a4, a5, a6⟩ := gdL g
  exact ⟨by simpa only [D.pure] using a1, by simpa only [D.py, PyData.depth, Nat.add_le_add_iff_right] using a2, by simpa only [D.py, PyData.showable] using a3, by simpa only [D.py, PyData.leavesShort] using a4, by simpa only [D.py, PyData.plain] using a5, by simpa only [D.py, PyData.bulk] using a6⟩
theorem gd_repr {h n : Nat} {d : D} (g : Gd h n d) (a : h ≤ 64) (b : n ≤ 30000) : okRepr d = true := by
  have e : d.py.shown.length ≤ 16777216 := by
    have z := PyData.shown_le_bulk 501 (by decide) d.py g.lf
    have y := g.bu
    omega
  unfold okRepr okEq
  simp only [g.pu, g.sh, Bool.true_and, Bool.and_true, Bool.and_eq_true, decide_eq_true_eq]
  exact ⟨Nat.le_trans g.de a, e⟩
theorem gd_eq {h n : Nat} {d : D} (g : Gd h n d) (a : h ≤ 64) : dEq d d = some (.bl true) := by
  have e : okEq d = true := by
    unfold okEq
    simp only [g.pu, Bool.true_and, decide_eq_true_eq]
    exact Nat.le_trans g.de a
  unfold dEq dEqv
  rw [e, SeqAt.eqv_refl_plain _ g.pl]
  rfl
theorem dEq_int (i j : Int) : dEq (.int i) (.int j) = some (.bl (decide (i = j))) := by
  have e : PyData.eqv (.int i) (.int j) = decide (i = j) := by
    rw [Bool.eq_iff_iff]
    simp [PyData.eqv]
  unfold dEq dEqv
  rw [show okEq (.int i) = true from rfl, show okEq (.int j) = true from rfl]
  simp only [D.py, e, Bool.and_self, if_true]
/-- _law_same -/
def sameB : FS := retS (andE (op2 dEq (var 0) (var 1)) (reprEqE (var 0) (var 1)))
theorem same_ok {h n : Nat} {d : D} (g : Gd h n d) (a : h ≤ 64) (b : n ≤ 30000) (S : DS) : fnD 2 2 sameB [d, d] S = .ok (.bl true) S := by
  have e1 := gd_eq g a
  have e2 := gd_repr g a b
  show bd (sameB [.vl d, .vl d]) leave S = _
  simp [sameB, retS, andE, op2, reprEqE, bd, var, slot, lift, rt, e1, e2, leave]
/-! ## plain part: the draws -/
def startB : FE := (seqO (asgS 1 (cst (.int 7)))
  (seqO (forS (itS (var 0)) (tgN 2) (asgS 1 (op2 dAdd (op2 dMod (op1 dInt (op2 dAdd (op2 dMulX (var 1) (cst (.int 48271))) (var 2))) (cst (.int 2147483629))) (cst (.int 1)))))
  (lstE (consA (op1 dList (var 0)) (consA (cst (.int 0)) (consA (cst (.int 0)) (consA (var 1) nilA)))))))
def drawB : FS := (seqS (ifS (andB (valB (op2 dEq (stIx 0 1) (cst (.int 0)))) (valB (op2 dGe (stIx 0 2) (op1 dLen (stIx 0 0))))) (seqS (stSet 0 3 (op2 dMod (op1 dInt (op2 dAdd (op2 dMulX (stIx 0 3) (cst (.int 48271))) (cst (.int 69621)))) (cst (.int 2147483629))))
  (retS (op2 dMod (op1 dInt (op2 dDiv (stIx 0 3) (cst (.int 13)))) (var 1)))) skipS)
  (seqS (ifS (valB (op2 dEq (stIx 0 1) (cst (.int 0)))) (seqS (stSet 0 1 (op1 dAbs (op2 dIxA (stIx 0 0) (stIx 0 2))))
  (stSet 0 2 (op2 dAdd (stIx 0 2) (cst (.int 1))))) skipS)
  (seqS (asgS 2 (op2 dMod (op1 dInt (stIx 0 1)) (var 1)))
  (seqS (stSet 0 1 (op2 dDiv (stIx 0 1) (var 1)))
  (retS (var 2))))))
/-- the state as it stands between draws -/
def Vs (S : DS) : Prop := ∃ (ls : List Int) (a : Int) (k : Nat) (sd : Int), S = some [.lst (ls.map .int), .int a, .int (k : Int), .int sd] ∧ 0 ≤ a ∧ 0 ≤ sd ∧ sd < 2 ^ 64
/-- a bound that no number of ours comes near -/
def Big : Nat := (2 ^ 250) ^ 16
theorem big_of {n : Nat} (h : n < 18446744073709551616) : n < Big := Nat.lt_trans h (by unfold Big; decide +kernel)
theorem big_pow {n a b : Nat} (h : n ≤ a ^ b) (h2 : a ^ b < Big) : n < Big := Nat.lt_of_le_of_lt h h2
theorem big_log {n : Nat} (h : n < Big) : n.log2 < 4000 := by
  by_cases z : n = 0
  · subst z; decide
  · exact (Nat.log2_lt z).mpr h
theorem mulX {i j : Int} (h1 : i.natAbs < Big) (h2 : j.natAbs < Big) : dMulX (.int i) (.int j) = some (.int (i * j)) := by
  have a := big_log h1
  have b := big_log h2
  unfold dMulX
  exact if_pos (by omega)
theorem mulI {i j : Int} (h1 : i.natAbs < Big) (h2 : j.natAbs < Big) : dMul (.int i) (.int j) = some (.int (i * j)) := by
  have a := big_log h1
  have b := big_log h2
  unfold dMul
  exact if_pos (by omega)
theorem divI {i j : Int} (h1 : 0 < j) (h2 : j.natAbs < Big) : dDiv (.int i) (.int j) = some (.int (i / j)) := by
  have b := big_log h2
  unfold dDiv
  exact if_pos ⟨h1, by omega⟩
theorem modI {i j : Int} (h1 : 0 < j) : dMod (.int i) (.int j) = some (.int (i % j)) := by
  unfold dMod
  exact if_pos h1
theorem addI (i j : Int) : dAdd (.int i) (.int j) = some (.int (i + j)) := rfl
theorem subI (i j : Int) : dSub (.int i) (.int j) = some (.int (i - j)) := rfl
theorem addI' (i j : Int) : dAddI (.int i) (.int j) = some (.int (i + j)) := rfl
theorem start_ok (ns : List Int) (hl : ns.length ≤ 16777216) : ∃ ds, fnO 1 3 startB [.scr ns] none = .ok (.lst ds) none ∧ Vs (some ds) := by
  obtain ⟨ρ', S', e1, sd, e2, h1, h2, z, e3⟩ := forL_inv (t := tgN 2) (b := (asgS 1 (op2 dAdd (op2 dMod (op1 dInt (op2 dAdd (op2 dMulX (var 1) (cst (.int 48271))) (var 2))) (cst (.int 2147483629))) (cst (.int 1))))) (ds := ns.map D.int)
    (fun _ ρ S => ∃ (sd : Int), S = none ∧ 0 ≤ sd ∧ sd < 2 ^ 63 ∧ ∃ z, ρ = [.vl (.scr ns), .vl (.int sd), z]) (fun i d ρ S hd ⟨sd, e1, h1, h2, z, e2⟩ => by
      subst e1 e2
      rw [List.getElem?_map] at hd
      obtain ⟨c, _, rfl⟩ := Option.map_eq_some_iff.mp hd
      have l1 := mulX (i := sd) (j := 48271) (big_of (by omega)) (big_of (by decide))
      refine ⟨[.vl (.scr ns), .vl (.int sd), .vl (.int c)], [.vl (.scr ns), .vl (.int ((sd * 48271 + c) % 2147483629 + 1)), .vl (.int c)], none, rfl, .inl ?_, _, rfl, by omega, by omega, _, rfl⟩
      simp [asgS, op2, op1, bd, var, slot, lift, rt, cst, l1, addI, modI, dInt, setV]) (ρ := [.vl (.scr ns), .vl (.int 7), .no]) (S := none) ⟨7, rfl, by decide, by decide, _, rfl⟩
  subst e2 e3
  refine ⟨[.lst (ns.map .int), .int 0, .int 0, .int sd], ?_, ns, 0, 0, sd, rfl, by decide, h1, by omega⟩
  show startB [.vl (.scr ns), .no, .no] none = _
  simp [startB, seqO, asgS, forS, itS, seqAny, bd, var, slot, lift, rt, cst, setV, e1, lstE, consA, nilA, op1, dList]
theorem ge_int (i j : Int) : dGe (.int i) (.int j) = some (.bl (decide (j ≤ i))) := rfl
theorem abs_nn (i : Int) : 0 ≤ (if i < 0 then -i else i) := by split <;> omega
theorem draw_ok {S : DS} (v : Vs S) {n : Int} (h : 0 < n) (hb : n < 2 ^ 63) : ∃ (r : Int) (S' : DS), fnD 2 3 drawB [.st, .int n] S = .ok (.int r) S' ∧ 0 ≤ r ∧ r < n ∧ Vs S' := by
  obtain ⟨ls, a, k, sd, rfl, h1, h2, h3⟩ := v
  have ix0 : ∀ {x0 x1 x2 x3 : D}, atI [x0, x1, x2, x3] 0 = some x0 := rfl
  have ix1 : ∀ {x0 x1 x2 x3 : D}, atI [x0, x1, x2, x3] 1 = some x1 := rfl
  have ix2 : ∀ {x0 x1 x2 x3 : D}, atI [x0, x1, x2, x3] 2 = some x2 := rfl
  have ix3 : ∀ {x0 x1 x2 x3 : D}, atI [x0, x1, x2, x3] 3 = some x3 := rfl
  have n1 : ixN 4 1 = some 1 := rfl
  have n2 : ixN 4 2 = some 2 := rfl
  have n3 : ixN 4 3 = some 3 := rfl
  have l1 := mulX (i := sd) (j := 48271) (big_of (by omega)) (big_of (by decide))
  have dv : ∀ i : Int, dDiv (.int i) (.int n) = some (.int (i / n)) := fun i => divI h (big_of (by omega))
  have md : ∀ i : Int, dMod (.int i) (.int n) = some (.int (i % n)) := fun i => modI h
  by_cases ha : a = 0
  · subst ha
    by_cases hk : ls.length ≤ k
    · have c1 : decide (((ls.length : Nat) : Int) ≤ (k : Int)) = true := decide_eq_true (by omega)
      refine ⟨((sd * 48271 + 69621) % 2147483629 / 13) % n, some [.lst (ls.map .int), .int 0, .int k, .int ((sd * 48271 + 69621) % 2147483629)], ?_, Int.emod_nonneg _ (by omega), Int.emod_lt_of_pos _ h, ls, 0, k, _, rfl, by omega, by omega, by omega⟩
      show bd (drawB [.vl .st, .vl (.int n), .no]) leave _ = _
      have d13 := fun i : Int => divI (i := i) (j := 13) (by decide) (big_of (by decide))
      simp [drawB, seqS, ifS, andB, valB, isBl, op2, op1, bd, var, slot, lift, rt, cst, stIx, stSet, ix0, ix1, ix2, ix3, n1, n2, n3, dEq_int, ge_int, dLen, c1, hk, l1, addI, modI, dInt, d13, md, retS, leave]
    · have hk' : k < ls.length := by omega
      have c1 : decide (((ls.length : Nat) : Int) ≤ (k : Int)) = false := decide_eq_false (by omega)
      have g1 : atI (ls.map D.int) (k : Int) = some (.int ls[k]) := atI_nat (by simp [hk'])
      refine ⟨(if ls[k] < 0 then -ls[k] else ls[k]) % n, some [.lst (ls.map .int), .int ((if ls[k] < 0 then -ls[k] else ls[k]) / n), .int ((k + 1 : Nat) : Int), .int sd], ?_, Int.emod_nonneg _ (by omega), Int.emod_lt_of_pos _ h, ls, _, k + 1, _, rfl, Int.ediv_nonneg (abs_nn _) (by omega), h2, h3⟩
      show bd (drawB [.vl .st, .vl (.int n), .no]) leave _ = _
      simp [drawB, seqS, ifS, andB, valB, isBl, op2, op1, bd, var, slot, lift, rt, cst, stIx, stSet, ix0, ix1, ix2, ix3, n1, n2, n3, dEq_int, ge_int, dLen, c1, Nat.not_le.mpr hk', addI, dInt, md, dv, retS, leave, dIxA, dIx, g1, dAbs, asgS, setV, skipS]
  · have c1 : decide (a = 0) = false := decide_eq_false ha
    refine ⟨a % n, some [.lst (ls.map .int), .int (a / n), .int k, .int sd], ?_, Int.emod_nonneg _ (by omega), Int.emod_lt_of_pos _ h, ls, _, k, _, rfl, Int.ediv_nonneg h1 (by omega), h2, h3⟩
    show bd (drawB [.vl .st, .vl (.int n), .no]) leave _ = _
    simp [drawB, seqS, ifS, andB, valB, isBl, op2, op1, bd, var, slot, lift, rt, cst, stIx, stSet, ix0, ix1, ix2, ix3, n1, n2, n3, dEq_int, c1, ha, dInt, md, dv, retS, leave, asgS, setV, skipS]
def pickB : FS := (retS (op2 dIxA (var 1) (callE (fnD 2 3 drawB) (consA (var 0) (consA (op1 dLen (var 1)) nilA)))))
theorem pick_ok {S : DS} (v : Vs S) {ds : List D} {d : D} (hd : d = .lst ds ∨ d = .tup ds) (h : ds ≠ []) (hl : ds.length ≤ 16777216) : ∃ (x : D) (S' : DS), fnD 2 2 pickB [.st, d] S = .ok x S' ∧ x ∈ ds ∧ Vs S' := by
  have h0 : 0 < ds.length := List.length_pos_iff.mpr h
  obtain ⟨r, S', e1, h1, h2, v'⟩ := draw_ok v (n := (ds.length : Int)) (by omega) (by omega)
  obtain ⟨j, rfl⟩ := Int.eq_ofNat_of_zero_le h1
  have hj : j < ds.length := by omega
  have g1 : atI ds (j : Int) = some ds[j] := atI_nat (by simp [hj])
  refine ⟨ds[j], S', ?_, List.getElem_mem hj, v'⟩
  show bd (pickB [.vl .st, .vl d]) leave S = _
  rcases hd with rfl | rfl
  · simp [pickB, retS, op2, op1, bd, var, slot, lift, rt, callE, consA, nilA, dLen, e1, dIxA, dIx, g1, leave]
  · simp [pickB, retS, op2, op1, bd, var, slot, lift, rt, callE, consA, nilA, dLen, e1, dIxA, dIx, g1, leave]
end Mini
namespace Mini
open PySem PySem.Spec PyProof.Rows L2 Evl

/-! ### list(range(..)) -/
section
variable {X : Cx} {c : Cn} {E : XK} {a b e tg : Expr} {fa fb : FE} {x y : Str} {p p2 pos pos2 : Pos}
theorem repL_map {K : PySem.W.Frag} {W : Wd} (f : Nat → Int) : ∀ ks : List Nat, RepL K c W (ks.map fun i => D.int (f i)) (ks.map fun i => V.int (f i))
  | [] => rfl
  | k :: ks => ⟨_, _, rfl, rfl, repL_map f ks⟩
theorem repL_rg {K : PySem.W.Frag} {W : Wd} (i j : Int) : RepL K c W (rngD i (j - i).toNat) (rgV i j) := repL_map (fun k => i + (k : Nat)) _
def rg24 (i j : Int) : Bool := decide (-(2 ^ 62) ≤ i ∧ i < 2 ^ 62 ∧ -(2 ^ 62) ≤ j ∧ j < 2 ^ 62 ∧ (j - i).toNat ≤ 2 ^ 24)
theorem rg24_ok {i j : Int} (h : rg24 i j = true) : RgOk i j := by
  unfold rg24 at h
  have z := of_decide_eq_true h
  exact z
def lsR1E (a : FE) : FE := fun ρ => bd (a ρ) fun d => match d with
  | .int j => if rg24 0 j then rt (.lst (rngD 0 (j - 0).toNat)) else no
  | _ => no
def lsR2E (a b : FE) : FE := fun ρ => bd (a ρ) fun d => bd (b ρ) fun e => match d, e with
  | .int i, .int j => if rg24 i j then rt (.lst (rngD i (j - i).toNat)) else no
  | _, _ => no
theorem me_lsR1 (hc : X.calm = true) (hm : X.mg "list" = none) (hm2 : X.mg "range" = none) (ha : PE X a (tM X.K c E fa)) (hg : X.env.kindOf "list" = some .globalImplicit := by kernel_rfl) (hg2 : X.env.kindOf "range" = some .globalImplicit := by kernel_rfl)
    (na : starEach [a] X.env = (false, eval a X.env) :: starEach [] X.env := by kernel_rfl) (na2 : starEach [.Call (.Name "range" p2) [a] [] pos2] X.env = (false, eval (.Call (.Name "range" p2) [a] [] pos2) X.env) :: starEach [] X.env := by kernel_rfl) :
    PE X (.Call (.Name "list" p) [.Call (.Name "range" p2) [a] [] pos2] [] pos) (tO X.K c E (lsR1E fa)) :=
  pe_imp (pe_listRg hc hg hm (prg_1 hg2 hm2 ha na) na2) fun σ H Q h => by
    obtain ⟨W, ρ, S, st, en, q⟩ := tO_un h
    refine then_M (O := OutO X.K c W H E Q) st en (fun _ _ _ z => z) (fun z => z) q fun d S1 W1 H1 v st1 k1 r1 q1 => ?_
    cases d <;> first | exact (show False from q1).elim | skip
    rename_i j
    cases r1
    dsimp only at q1
    split at q1
    · rename_i hb
      refine ⟨j, rfl, rg24_ok hb, fun p hp => ?_⟩
      exact q1 _ _ _ (new_st st1 hp) (k1.tr st1 (new_keep st1 hp)) (RepO.pre (H0 := H1) k1 (fun b e => st1.ds.at (k1.wex.2 b e)) (new_own st1 hp (repL_rg 0 j)))
    · exact q1.elim
theorem me_lsR2 (hc : X.calm = true) (hm : X.mg "list" = none) (hm2 : X.mg "range" = none) (ha : PE X a (tM X.K c E fa)) (hb : PE X b (tM X.K c E fb)) (hg : X.env.kindOf "list" = some .globalImplicit := by kernel_rfl) (hg2 : X.env.kindOf "range" = some .globalImplicit := by kernel_rfl)
    (na : starEach [a, b] X.env = (false, eval a X.env) :: starEach [b] X.env := by kernel_rfl) (nb : starEach [b] X.env = (false, eval b X.env) :: starEach [] X.env := by kernel_rfl) (hp : (backTo pos2 (starEach [b] X.env)).any (·.1) = false := by kernel_rfl)
    (na2 : starEach [.Call (.Name "range" p2) [a, b] [] pos2] X.env = (false, eval (.Call (.Name "range" p2) [a, b] [] pos2) X.env) :: starEach [] X.env := by kernel_rfl) :
    PE X (.Call (.Name "list" p) [.Call (.Name "range" p2) [a, b] [] pos2] [] pos) (tO X.K c E (lsR2E fa fb)) :=
  pe_imp (pe_listRg hc hg hm (prg_2 hg2 hm2 ha hb na nb hp) na2) fun σ H Q h => by
    obtain ⟨W, ρ, S, st, en, q⟩ := tO_un h
    refine then_M (O := OutO X.K c W H E Q) st en (fun _ _ _ z => z) (fun z => z) q fun d S1 W1 H1 v st1 k1 r1 q1 => ?_
    refine then_M (O := OutO X.K c W H E Q) st1 (en.ext k1) (fun _ _ _ z => ErQ.pre z k1 st1) (fun z => z) q1 fun d2 S2 W2 H2 u st2 k2 r2 q2 => ?_
    cases d <;> cases d2 <;> first | exact (show False from q2).elim | skip
    rename_i i j
    cases r1
    cases r2
    dsimp only at q2
    split at q2
    · rename_i hb
      refine ⟨i, j, rfl, rfl, rg24_ok hb, fun p hp => ?_⟩
      have k := k1.tr st1 k2
      exact q2 _ _ _ (new_st st2 hp) (k.tr st2 (new_keep st2 hp)) (RepO.pre (H0 := H2) k (fun b e => st2.ds.at (k.wex.2 b e)) (new_own st2 hp (repL_rg i j)))
    · exact q2.elim
end
end Mini
namespace Mini
open PySem PySem.Spec PyProof.Rows L2 Evl

/-! ### in, not in: a list or a tuple of data, a dict by its keys -/
section
variable {X : Cx} {c : Cn} {k : Nat}
def rInX (K : PySem.W.Frag) (f : Bool → Bool) : R2 := fun x y H Q =>
  (∃ d ds, Dp K H x d ∧ (Dp K H y (.list ds) ∨ Dp K H y (.tuple ds)) ∧ SeqAt.shaped d = true ∧ PyData.canLayAll0 ds = true ∧ Q (.bl (f (ds.any fun z => PyData.eqv z d))) H) ∨
  (∃ a o, y = .ref a ∧ DGet H a x o ∧ Q (.bl (f o.isSome)) H)
theorem op_inAll (hr : Room k X.A) : OpR X (compareOp .In) (rInX X.K fun b => b) := by
  intro pins s σ H x y v u Q I rx ry h
  rcases h with ⟨d, ds, hd, he, sd, se, q⟩ | ⟨a, o, rfl, g, q⟩
  · obtain ⟨as, r1⟩ := Dp.reads I d x v hd rx
    rcases he with he | he
    · obtain ⟨bs, r2⟩ := Dp.reads I (.list ds) y u he ry
      exact SeqAt.in_list_reads r2 r1 se (SeqAt.canLay_of_shaped sd) (room_in_shaped sd (by have := Room.u64 hr; omega)) ⟨.bl _, H, I, rfl, q⟩
    · obtain ⟨bs, r2⟩ := Dp.reads I (.tuple ds) y u he ry
      exact SeqAt.in_tuple_reads r2 r1 se (SeqAt.canLay_of_shaped sd) (room_in_shaped sd (by have := Room.u64 hr; omega)) ⟨.bl _, H, I, rfl, q⟩
  · obtain rfl : u = Value.ref a := ry
    exact d_in (Room.small hr) I g rx fun s' I' => ⟨.bl _, H, I', rfl, q⟩
theorem op_notinAll (hr : Room k X.A) : OpR X (compareOp .NotIn) (rInX X.K fun b => !b) := by
  intro pins s σ H x y v u Q I rx ry h
  rcases h with ⟨d, ds, hd, he, sd, se, q⟩ | ⟨a, o, rfl, g, q⟩
  · obtain ⟨as, r1⟩ := Dp.reads I d x v hd rx
    rcases he with he | he
    · obtain ⟨bs, r2⟩ := Dp.reads I (.list ds) y u he ry
      exact SeqAt.notIn_list_reads r2 r1 se (SeqAt.canLay_of_shaped sd) (room_in_shaped sd (by have := Room.u64 hr; omega)) ⟨.bl _, H, I, rfl, q⟩
    · obtain ⟨bs, r2⟩ := Dp.reads I (.tuple ds) y u he ry
      exact SeqAt.notIn_tuple_reads r2 r1 se (SeqAt.canLay_of_shaped sd) (room_in_shaped sd (by have := Room.u64 hr; omega)) ⟨.bl _, H, I, rfl, q⟩
  · obtain rfl : u = Value.ref a := ry
    exact d_notIn (Room.small hr) I g rx fun s' I' => ⟨.bl _, H, I', rfl, q⟩
def inB : D → D → Option Bool
  | d, .lst ds => if okEq d && okEq (.lst ds) then some ((pyL ds).any fun z => PyData.eqv z d.py) else none
  | d, .tup ds => if okEq d && okEq (.tup ds) then some ((pyL ds).any fun z => PyData.eqv z d.py) else none
  | d, .tpx ds => if okEq d && okEq (.tpx ds) then some ((pyL ds).any fun z => PyData.eqv z d.py) else none
  | d, .dic es => (keyD d).map fun k => (valD es k).isSome
  | _, _ => none
def dIn (d e : D) : Option D := (inB d e).map D.bl
def dNotIn (d e : D) : Option D := (inB d e).map fun b => D.bl (!b)
theorem isSome_rep {K : PySem.W.Frag} {W : Wd} : ∀ {o : Option D} {p : Option V}, RepOp K c W o p → p.isSome = o.isSome
  | none, none, _ => rfl
  | some _, some _, _ => rfl
theorem inB_ok {W : Wd} {H : Hp} {S : DS} {d e : D} {b : Bool} {v u : V} {f : Bool → Bool} {Q : VK} (st : StOk X.K c W H S) (ra : RepB X.K c W H d v) (rb : RepB X.K c W H e u) (h : inB d e = some b) (q : Q (.bl (f b)) H) : rInX X.K f v u H Q := by
  cases e <;> first | (cases h; done) | skip
  all_goals simp only [inB] at h
  case dic es =>
    obtain ⟨k, h1, rfl⟩ := Option.map_eq_some_iff.mp h
    obtain ⟨a, kvs, rfl, h2, r⟩ := rb.dic st
    have z := isSome_rep (valD_rep k r)
    refine .inr ⟨a, valV kvs k, rfl, .inl ⟨kvs, k, .inl h2, key_rep ra h1, rfl⟩, ?_⟩
    rw [z]
    exact q
  all_goals
    split at h
    · rename_i z
      rw [Bool.and_eq_true] at z
      cases h
      obtain ⟨y1, y2⟩ := okEq_shaped st ra z.1
      obtain ⟨y3, y4⟩ := okEq_shaped st rb z.2
      simp only [D.py] at y3 y4
      have y5 := SeqAt.canLay_of_shaped y4
      simp only [PyData.canLay0] at y5
      first
        | exact .inl ⟨_, _, y1, .inl y3, y2, y5, q⟩
        | exact .inl ⟨_, _, y1, .inr y3, y2, y5, q⟩
    · cases h
theorem m_in : OpM X.K c (rInX X.K fun b => b) dIn := fun {W H S d e d' v u} Q st a b q k => by
  obtain ⟨x, h, rfl⟩ := Option.map_eq_some_iff.mp q
  exact inB_ok st a b h (k W H _ st (Keep.refl W H) rfl)
theorem m_notin : OpM X.K c (rInX X.K fun b => !b) dNotIn := fun {W H S d e d' v u} Q st a b q k => by
  obtain ⟨x, h, rfl⟩ := Option.map_eq_some_iff.mp q
  exact inB_ok (f := fun b => !b) st a b h (k W H _ st (Keep.refl W H) rfl)
end
end Mini
namespace Mini
open PySem PySem.W PySem.Calls PyProof.Rows

/-! ### an exception's class whose own init says super().__init__(text) and stores what it was given -/
abbrev iSc (f : Str) : Scope := { kind := .function, names := [("self", .local), (f, .local), ("__class__", .free), ("super", .globalImplicit)], isGenerator := false, isCoroutine := false, more := [] }
structure InitAt (K : Frag) (main : Str) (C : Addr) (f : Str) (fI cc cda : Addr) (qual : Str) : Prop where
  find : findIn K (.ref C) "__init__" = some (some (.ref fI))
  typ : typeIn K (.ref fI) = some (.type "function")
  fn : ∃ (dV kV doc pm ct oc : Value) (an od : Option Addr) (osl : Array (Option Value)) (m : Str) (j : Nat) (p0 p1 p2 p3 p4 p5 p6 p7 p8 p9 pa pb : Pos), K.lookup fI = some ⟨oc, od, .func (ksFn "__init__" qual { posonlyargs := [], args := [⟨"self", none, pa⟩, ⟨f, none, pb⟩], vararg := none, kwonlyargs := [], kw_defaults := [], kwarg := none, defaults := [] }
    [.Expr (.Call (.Attribute (.Call (.Name "super" p0) [] [] p1) "__init__" p2) [.Constant (.str m) j p3] [] p4) p5, .Assign [.Attribute (.Name "self" p6) f p7] (.Name f p8) p9] (iSc f) dV kV doc pm an (.ref cda) ct cc), osl⟩ ∧
    (∀ a b : Value, bindArgs (ksFn "__init__" qual { posonlyargs := [], args := [⟨"self", none, pa⟩, ⟨f, none, pb⟩], vararg := none, kwonlyargs := [], kw_defaults := [], kwarg := none, defaults := [] }
    [.Expr (.Call (.Attribute (.Call (.Name "super" p0) [] [] p1) "__init__" p2) [.Constant (.str m) j p3] [] p4) p5, .Assign [.Attribute (.Name "self" p6) f p7] (.Name f p8) p9] (iSc f) dV kV doc pm an (.ref cda) ct cc) ⟨[a, b], []⟩ = (pure [(("self" : Str), a), (f, b)] : Sem (List (Str × Value)))) ∧ (p2.endLine == p4.line) = true
  code : codeIn K (.ref cda) qual = true
  file : ∃ (ccl : Value) (cdd : Option Addr) (vs : Array Value) (ccs : Array (Option Value)) (file : Str) (tf : Tok), K.lookup cda = some ⟨ccl, cdd, .fields vs, ccs⟩ ∧ vs[2]? = some (.str file tf) ∧ (main == file) = true
  cell : ∃ (cl : Value) (cld : Option Addr) (csl : Array (Option Value)), K.lookup cc = some ⟨cl, cld, .cell (some (.ref C)), csl⟩
structure ErrC (K : Frag) (main : Str) (C : Addr) (f : Str) : Prop where
  ox : L2.OexC K C
  ini : ∃ (fI cc cda : Addr) (qual : Str), InitAt K main C f fI cc cda qual
  ne : (f == ("self" : Str)) = false
  ne2 : (f == ("super" : Str)) = false
  ne4 : (f == ("__debug__" : Str)) = false
  ne3 : (f == ("__class__" : Str)) = false
  noat : findIn K (.ref C) f = some none
  sup : ks_superIn K C C "__init__" = some (some (.builtin "ValueError.__init__"))
  stat : nsIn K cStatics "thirdparty.any" = some none
  subV : subIn K (.ref C) (.type "ValueError") = some true
  subC : mroIn K C (.ref C) = some true

section
variable {prog : Program} {w : World} {A : Around} {E : Value → Shared → Prop} {K : Frag} {h : Heap} {g : Array GenState} {d : Drawn} {t : Nat} {os : OsState} {C : Addr} {f : Str} {mg mb : Str → Option Value}
theorem mc_eq {env : Env} {name : Str} {p0 p1 apos pos p3 : Pos} {m : Str} {j : Nat} (hp : (apos.endLine == pos.line) = true) :
    eval (.Call (.Attribute (.Call (.Name "super" p0) [] [] p1) name apos) [.Constant (.str m) j p3] [] pos) env = (do
      let ov ← attributeBase (.Call (.Name "super" p0) [] [] p1) name env (eval (.Call (.Name "super" p0) [] [] p1) env)
      standAt apos.atName
      let (f, first) ← holding [ov] (getMethod ov name (do return (← importBound (.Call (.Name "super" p0) [] [] p1) env).getD true))
      callWith pos f first (backTo pos (starEach [.Constant (.str m) j p3] env)) []) := by
  conv => lhs; unfold eval
  unfold methodCall methodCallPos
  have e : methodCallForm ([Expr.Constant (Const.str m) j p3].length + ([] : List Keyword).length) (backTo pos (starEach [Expr.Constant (Const.str m) j p3] env)) (backToKw pos (keywordEach [] env)) = true := rfl
  rw [e, hp]
  simp only [Bool.not_true, Bool.or_true, Bool.false_or, if_true, calleeOf, pure_bind]
  rfl
/-- the init bound to the exception, called -/
theorem mw_call {u e t0 : Addr} {rest : List Value} {Q : Value → Shared → Prop} (T : L2.OexC K C) (X : K.In h) (he : h.get? e = some (HandSPX.excO C t0)) (hu : h.get? u = some (kxs_mw "ValueError.__init__" e)) (hrest : rest.length ≤ sizeLine)
    (hq : ∀ h' t1, (∀ b o, b ≠ e → h.get? b = some o → h'.get? b = some o) → h'.get? e = some (HandSPX.excO C t1) → Q .none ⟨h', g, d, t, os⟩) :
    wpAny (model prog w) A (call (.ref u) rest) Q E ⟨h, g, d, t, os⟩ := by
  obtain ⟨nm, q, N, bs, bm, sn, sub, ab, col, dd, k0, k1, k2, k3, k5, hC, hbm⟩ := T.cls
  have hC' := X _ _ hC
  refine wpAny_call (codeAny_of_tree ?_)
  show wpAny _ A.in1 (callAny (.ref u) ⟨rest, []⟩) _ _ _
  simp only [callAny]
  refine wpAny_bind (wpAny_load hu ?_)
  simp only [kxs_mw, show (Value.type "method-wrapper" == Value.type "method" || Value.type "method-wrapper" == Value.type "builtin_function_or_method" || Value.type "method-wrapper" == Value.type "method-wrapper") = true by decide, if_true]
  refine KFB.if_so (by decide) ?_
  refine wpAny_bind (check_bound_init F.excBase_ValueError.toExcCallFacts hC' he rfl ?_)
  refine wpAny_bind (wpAny_pure (wpAny_pure ?_))
  refine ⟨plainId_quiet F.excBase_ValueError.init.plain _, codeAny_builtin F.excBase_ValueError.initEntry ?_⟩
  exact exc_init_tree (cls := .ref C) (t0 := t0) (dv := none) (c2 := .none) (c3 := .none) (b4 := .bool false) he hrest fun h' k e' _ => hq h' _ k e'

theorem raw_err {k : Nat} {u : Value} {Q : Value → Shared → Prop} (T : ErrC K prog.main.file C f) (X : K.In h) (hmg : h.Ns mainGlobals mg) (hms : mg "super" = none) (hmb : h.Ns builtinsNs mb) (hbs : mb "super" = some (.type "super")) (nl : h.NoLimit)
    (htop : (prog.main.scope.names.lookup ("super" : Str)).isSome = false) (hr : L2.Room (k + 1) A)
    (hq : ∀ h' t' e dx t1, (∀ b o, h.get? b = some o → h'.get? b = some o) → h.objs.size ≤ e → h.objs.size ≤ dx → dx ≠ e → h'.get? e = some ({ cls := .ref C, dict := some dx, data := .fields #[.ref t1, .none, .none, .none, .bool false, .none] } : Obj) →
      h'.Ns1 dx (fun y => if y = f then some u else none) → Q (.ref e) ⟨h', g, d, t', os⟩) :
    wpAny (model prog w) A (call (.ref C) [u]) Q E ⟨h, g, d, t, os⟩ := by
  obtain ⟨nm, q, N, bs, bm, sn, sub, ab, col, dd, k0, k1, k2, k3, k5, hC, hbm⟩ := T.ox.cls
  obtain ⟨fI, cc, cda, qual, J⟩ := T.ini
  obtain ⟨dV, kV, doc, pm, ct, oc, an, od, osl, m, j, p0, p1, p2, p3, p4, p5, p6, p7, p8, p9, pa, pb, hfn, hbd, hpl⟩ := J.fn
  obtain ⟨ccl, cdd, vs, ccs, file, tf, hcda, hvs, hfile⟩ := J.file
  obtain ⟨cl, cld, csl, hcc⟩ := J.cell
  have hcl : clsIn K C = some { name := nm, bases := bs, mro := .ref C :: bm, ns := N, qualname := q, hasDict := true, slotNames := sn, subclasses := sub, abstract := ab, collection := col, hasDel := false } := by unfold clsIn; rw [hC] <;> rfl
  have kk : ∀ b o, h.get? b = some o → ((h.push (kdv_tup [u])).push (HandSPX.excO C h.objs.size)).get? b = some o := fun b o e => Heap.get?_push_of_some _ (Heap.get?_push_of_some _ e)
  have X1 : K.In ((h.push (kdv_tup [u])).push (HandSPX.excO C h.objs.size)) := X.keeps kk
  have hget : ((h.push (kdv_tup [u])).push (HandSPX.excO C h.objs.size)).get? (h.objs.size + 1) = some (HandSPX.excO C h.objs.size) := by heap_get
  refine wpAny_call (HandSPX.call_own F.excBase_ValueError (fun Y => HandSPX.refsVE_contains Y bm hbm) (X _ _ hC) (looks_findIn X J.find) (fun self => bind_fn X self J.typ) (by rw [sizeLine_eq]; show 1 ≤ _; omega) ?_)
  have hself : (iSc f).names.lookup ("self" : Str) = some .local := rfl
  have eneq : ∀ {a b : Str}, (a == b) = false → (b == a) = false := fun {a b} e => by rw [beq_eq_false_iff_ne] at *; exact Ne.symm e
  have hkf : (iSc f).names.lookup f = some .local := by
    show (match f == ("self" : Str) with | true => some NameKind.local | false => List.lookup f [(f, .local), ("__class__", .free), ("super", .globalImplicit)]) = _
    rw [T.ne]
    show (match f == f with | true => some NameKind.local | false => _) = _
    rw [beq_self_eq_true]
  have hcls : (iSc f).names.lookup ("__class__" : Str) = some .free := by
    show (match ("__class__" : Str) == f with | true => some NameKind.local | false => some NameKind.free) = _
    rw [eneq T.ne3]
  have hsup : (iSc f).names.lookup ("super" : Str) = some .globalImplicit := by
    show (match ("super" : Str) == f with | true => some NameKind.local | false => some NameKind.globalImplicit) = _
    rw [eneq T.ne2]
  refine ks_codeAny_call_defAt (binds := [("self", .ref (h.objs.size + 1)), (f, u)]) (hr.make C [u] []).depth (X1 _ _ hfn) rfl (nl.keeps kk) (codeRec_of X1 J.code) rfl (BindsTo.of_eq (hbd _ _)) (fun y hy => ?_) (fun y hy => ?_) (fun h₀ hns hk => ?_) rfl rfl rfl
  · simp only [List.mem_cons, List.not_mem_nil, or_false] at hy
    rcases hy with rfl | rfl | rfl | rfl <;> exact fun z => by cases z
  · rcases List.mem_cons.mp hy with rfl | hy
    · exact hself
    · rcases List.mem_cons.mp hy with rfl | hy
      · exact hkf
      · cases hy
  have kk0 : ∀ b o, h.get? b = some o → h₀.get? b = some o := fun b o e => hk b o (kk b o e)
  have X0 : K.In h₀ := X.keeps kk0
  have he0 := hk _ _ hget
  have bs : List.lookup ("self" : Str) [(f, u), (("self" : Str), Value.ref (h.objs.size + 1))] = some (.ref (h.objs.size + 1)) := by
    show (match ("self" : Str) == f with | true => some u | false => some (Value.ref (h.objs.size + 1))) = _
    rw [eneq T.ne]
  have bf : List.lookup f [(f, u), (("self" : Str), Value.ref (h.objs.size + 1))] = some u := by
    show (match f == f with | true => some u | false => _) = _
    rw [beq_self_eq_true]
  show _root_.PySem.wpAt _ _ (.func _ (ksEnv qual (iSc f) ((h.push (kdv_tup [u])).push (HandSPX.excO C h.objs.size)).objs.size fI (.ref cda) cc)) _ _ _ _
  have hns : h₀.Ns ((h.push (kdv_tup [u])).push (HandSPX.excO C h.objs.size)).objs.size (fun y => List.lookup y [(f, u), (("self" : Str), Value.ref (h.objs.size + 1))]) := hns
  generalize hL : ((h.push (kdv_tup [u])).push (HandSPX.excO C h.objs.size)).objs.size = L at hns ⊢
  refine ks_wpAt_execs_cons (ks_wpAt_Expr_any (ks_wpAt_MethodCall ?_ (mc_eq hpl)) (by rfl) (by rfl))
  refine ks_wpAt_super_base (f := fI) (cc := cda) hsup hcls (by rfl) rfl (X0 _ _ hfn) rfl rfl rfl (X0 _ _ hcda) rfl hvs hfile htop ?_
  refine ks_loadName_global rfl hsup (loadGlobal_builtin (hmg.keeps kk0) hms (hmb.keeps kk0) hbs ⟨rfl, ?_⟩)
  refine wpAny_loadName_free rfl hcls rfl ⟨_, X0 _ _ hcc, rfl⟩ ?_
  refine wpAny_loadName_local rfl hself hns bs ?_
  refine ks_wpAny_isType_cls (X0 _ _ hC) rfl ⟨rfl, ?_⟩
  refine ks_wpAny_call_super (X0 _ _ hC) rfl he0 rfl (fun c e => by cases e) (looks_mroIn X0 T.subC) (fun h2 e2 k2 => ?_)
  have X2 : K.In h2 := X0.keeps k2
  have he2 := k2 _ _ he0
  have I2 : InstAt h2 (h.objs.size + 1) (HandSPX.excO C h.objs.size) C none := ⟨he2, rfl, rfl, trivial⟩
  have hf : alongIn K "__init__" (((Value.ref C :: bm).dropWhile (· != .ref C)).drop 1) = some (some (.builtin "ValueError.__init__")) := by
    have z := T.sup
    unfold ks_superIn at z
    rw [hcl] at z
    exact z
  refine kxs_getMethod kxs_ValueError e2 (looks_opaque X2 T.stat) (l₀ := .ref C :: bm) (fun A Q E s k q => wpAny_bind ((looks_clsIn X2 hcl) A _ E s k (wpAny_pure q))) rfl X2 hf (I2.type.andThen (looks_subIn X2 T.subV)) (ks_ne X2 I2 hcl) (by rfl) ?_
  refine kxs_callWith (i := "ValueError.__init__") (x := h.objs.size + 1) (by rfl) (evalArgs_plain (spliced_cons (Constant_str (x := m) (k := j) (pos := p3) (spliced_nil ?_))))
  have kp : ∀ b o, h2.get? b = some o → (h2.push (kxs_mw "ValueError.__init__" (h.objs.size + 1))).get? b = some o := fun b o e => Heap.get?_push_of_some _ e
  refine ⟨Heap.get?_push_size _ rfl, ?_⟩
  refine mw_call T.ox (X2.keeps kp) (kp _ _ he2) (Heap.get?_push_size _ rfl) (by rw [sizeLine_eq]; show 1 ≤ _; omega) fun h3 t1 k3 e3 => ?_
  have kk3 : ∀ b o, b ≠ h.objs.size + 1 → h₀.get? b = some o → h3.get? b = some o := fun b o n e => k3 b o n (kp _ _ (k2 _ _ e))
  have kh3 : ∀ b o, h.get? b = some o → h3.get? b = some o := fun b o e => kk3 b o (Nat.ne_of_lt (Nat.lt_succ_of_lt (Heap.lt_size e))) (kk0 b o e)
  have X3 : K.In h3 := X.keeps kh3
  have hLe : L ≠ h.objs.size + 1 := by
    rw [← hL, Heap.size_push, Heap.size_push]
    omega
  have hns3 : h3.Ns L (fun y => List.lookup y [(f, u), (("self" : Str), Value.ref (h.objs.size + 1))]) := by
    obtain ⟨oL, es, ep, hLo, r⟩ := hns
    exact ⟨oL, es, ep, kk3 _ _ hLe hLo, r⟩
  refine ks_wpAt_execs_cons (wpAt_of_wpAny (plainObj_wpAny_Assign_Attribute ?_ (by rfl)))
  refine wpAny_Name (wpAny_loadName_local rfl hkf hns3 bf ?_) T.ne4
  refine wpAny_Name (wpAny_loadName_local rfl hself hns3 bs ?_) (by decide)
  refine set_plain X3 (ox := HandSPX.excO C t1) (od := none) ⟨e3, rfl, rfl, trivial⟩ T.ox.sa ?_
  refine HandSPX.exc_osa X3 e3 hcl (show HandSPX.refsVE (.ref C :: bm) = true from hbm) rfl T.noat fun h4 tk' dx k4 dn dne hx hn => ?_
  have low : ∀ b o, h.get? b = some o → b ≠ h.objs.size + 1 := fun b o e => Nat.ne_of_lt (Nat.lt_succ_of_lt (Heap.lt_size e))
  refine wpAt_of_wpAny (wpAny_execs_nil ?_)
  have dge : h.objs.size ≤ dx := Nat.le_trans (Nat.le_succ _) (Nat.le_trans (Nat.le_of_lt (Heap.lt_size e3)) dn)
  exact ⟨rfl, hq h4 tk' _ dx t1 (fun b o e => k4 b o (low b o e) (kh3 b o e)) (Nat.le_succ _) dge dne hx hn⟩
end
end Mini
namespace Mini
open PySem PySem.Spec PyProof.Rows L2 Evl

/-! ### an exception of the program: made, raised -/
/-- C(e): its dict holds what was given -/
def tErr (C : Addr) (f : Str) (ta : TA) : L2.St → Hp → XK → Prop := fun σ H Q => ta σ H fun vs H1 => ∃ v, vs = [v] ∧ ∀ d, H1 d = none → Q (.ref C) (some d) (upd H1 d (.xd [(f, v)]))
theorem pmk_err {X : Cx} {x f : Str} {C : Addr} {k : Nat} {e : Expr} {ta : TA} {p pos : Pos} (T : ErrC X.K X.prog.main.file C f) (htop : (X.prog.main.scope.names.lookup ("super" : Str)).isSome = false) (hr : Room (k + 1) X.A) (hg : Gl X x) (hm : X.mg x = some (.ref C))
    (hms : X.mg "super" = none) (ha : PA X [e] ta) (hdb : (x == ("__debug__" : Str)) = false := by decide) (he : starEach [e] X.env = [(false, eval e X.env)] := by rfl) : PMk X (.Call (.Name x p) [e] [] pos) (tErr C f ta) := by
  intro pins s σ H Q I h
  refine wpAny_Call_Name_kw (ld_glob I hg hm ?_ hdb)
  refine PySem.W.callWith_K (h₀ := X.base) I.ok.mod.kin T.ox.kC (thn (ha.run pos pins s σ H _ I h) fun us s1 ⟨vs, H1, I1, r1, q⟩ => ⟨I1.kIn, ?_⟩) he (by rfl)
  show wpAny _ _ (call (.ref C) us) _ _ _
  obtain ⟨v, rfl, q1⟩ := q
  cases r1 with
  | cons rv rr =>
  cases rr
  rename_i u
  obtain ⟨hp, g, dr, tk, os⟩ := s1
  obtain ⟨mb, hb1, hb2⟩ := I1.mod.blt
  refine raw_err T I1.kIn (I1.mod.glob.keeps I1.bk) hms (hb1.keeps I1.bk) ((hb2 _ (by decide)).trans PyProof.Rows.Boot.«super») (I1.mod.nolimit.keeps I1.bk) htop hr fun h' t' e' dx t1 kk he' hdx hne hx hn => ?_
  have hnd : H1 dx = none := I1.hok.fresh hdx
  have hna : H1 e' = none := I1.hok.fresh he'
  obtain ⟨G, g1, g2⟩ := restrict h' fun b => decide (b ≠ e')
  have gk : ∀ b, b ≠ e' → G.get? b = h'.get? b := fun b hb => g1 b (decide_eq_true hb)
  have ge : G.get? e' = none := g2 e' (by simp)
  have nl : ∀ {b : Addr} {o : Obj}, hp.get? b = some o → b ≠ e' := fun {b o} z => Nat.ne_of_lt (Nat.lt_of_lt_of_le (Heap.lt_size z) he')
  have J : Inv X pins σ (upd H1 dx (.xd [(f, v)])) ⟨G, g, dr, t', os⟩ := I1.laid (t' := t') (a := dx) (o := .xd [(f, v)]) (h' := G) (fun b o z => (gk b (nl z)).trans (kk b o z)) hdx
    ⟨_, hn.at fun o z => (gk dx hne).trans z, relO_put (fs := []) rv fun y => True.intro⟩
  refine ⟨e', _, _, ⟨G, g, dr, t', os⟩, _, .ref C, some dx, rfl, J, fun b o z => ?_, ge, hx, ⟨rfl, rfl⟩, rfl, rfl, ?_, rfl, I1.bare, raises_own T.ox.exC T.ox.tyC, q1 dx hnd⟩
  · by_cases hb : b = e'
    · rw [hb, ge] at z
      cases z
    · exact (gk b hb).symm.trans z
  · rw [upd_ne (Ne.symm hne)]
    exact hna
section
variable {X : Cx} {c : Cn} {E : XK} {x f : Str} {k n : Nat} {e : Expr} {fa : FE} {p pos pos' : Pos}
/-- raise C(e) -/
theorem ms_raise (T : ErrC X.K X.prog.main.file (c.ca n) (c.fld n)) (htop : (X.prog.main.scope.names.lookup ("super" : Str)).isSome = false) (hr : Room (k + 1) X.A) (hc : X.calm = true) (tk : Takes X (fun cls d _ H => E cls d H)) (hg : Gl X x) (hm : X.mg x = some (.ref (c.ca n)))
    (hms : X.mg "super" = none) (ha : PE X e (tM X.K c E fa)) (hdb : (x == ("__debug__" : Str)) = false := by decide) (he : starEach [e] X.env = [(false, eval e X.env)] := by rfl) : PS X (.Raise (some (.Call (.Name x p) [e] [] pos)) none pos') (tS X.K c E (raiseS n fa)) :=
  ps_imp (ps_raise hc tk (pmk_err T htop hr hg hm hms (pa_cons ha pa_nil he) hdb he)) fun D σ H q => by
    obtain ⟨W, ρ, S, st, en, q⟩ := q
    refine thenS_M st en q fun d S' W' H' v st' en' k' r q' => ?_
    refine ⟨v, rfl, fun dd hdd => ?_⟩
    exact q' W' _ dd v (new_st st' hdd) ((new_keep st' hdd).toS (new_st st' hdd)) upd_same r
end
end Mini
namespace Mini
open PySem PySem.Spec PyProof.Rows L2 Evl

/-! ### a caught exception of the program: its class asked, its field read -/
structure ExQ (K : PySem.W.Frag) (C : Addr) : Prop where
  cl : (PySem.W.clsIn K C).isSome = true
  ga : PySem.W.findIn K (.ref C) "__getattribute__" = some (some (.builtin "BaseException.__getattribute__"))
  gg : PySem.W.findIn K (.ref C) "__getattr__" = some none
  sub : PySem.W.subIn K (.ref C) (.type "BaseException") = some true
  ha : PySem.W.findIn K (.ref C) "__class__" = some (some (.builtin "object.__class__"))
  hn : PySem.W.specialIn K (.builtin "object.__class__") "__get__" = some (some (.builtin "getset_descriptor.__get__"))
  ht : PySem.W.takesIn K (.builtin "object.__class__") = some true
  hm : PySem.W.mroIn K C (.type "object") = some true
  hd : PySem.W.hasDictIn K C = true
/-- the exception at a of the class D with its dict at dd is in hand -/
structure HasX (X : Cx) (a D dd : Addr) : Prop where
  q : ExQ X.K D
  pin : ∃ oe, (a, oe) ∈ X.pn ∧ Zc (.ref D) (some dd) oe ∧ ∃ vs, oe.data = .fields vs
theorem HasX.inst {X : Cx} {a D dd : Addr} {pins : List (Addr × Obj)} {σ : L2.St} {H : Hp} {s : Shared} {fs : List (Str × V)} (T : HasX X a D dd) (I : Inv X pins σ H s) (ed : H dd = some (.xd fs)) :
    ∃ (oe od : Obj) (mA : Str → Option Value), PySem.W.InstAt s.heap a oe D (some od) ∧ (∀ n : Str, PySem.W.lookIn n od = some (mA n)) ∧ ∀ f, RelO (fs.lookup f) (mA f) := by
  obtain ⟨oe, hp, hz, vs, hv⟩ := T.pin
  obtain ⟨hget, _⟩ := I.pin (a, oe) (List.mem_append.mpr (.inl hp))
  have hx : ObjOk X.prog X.w H s.heap dd (.xd fs) := I.hok dd _ ed
  obtain ⟨mA, hns, hr⟩ := hx
  obtain ⟨od, ho, hl⟩ := lookIn_ns hns
  exact ⟨oe, od, mA, ⟨hget, hz.1, by unfold PySem.W.notCls; rw [hv] <;> rfl, by rw [hz.2]; exact ho⟩, hl, hr⟩
def rIsX (K : PySem.W.Frag) (D a dd : Addr) : List V → Hp → VK → Prop := fun xs H Q => ∃ (c : V) (cv : Value) (b : Bool) (fs : List (Str × V)), xs = [.ref a, c] ∧ (∀ u, RelV c u → u = cv) ∧ PySem.W.kitOne K (.ref D) cv = some b ∧ H dd = some (.xd fs) ∧ Q (.bl b) H
theorem call_isX {X : Cx} {a D dd : Addr} (T : HasX X a D dd) : CallR X (.builtin "isinstance") (rIsX X.K D a dd) := by
  intro pins s σ H xs us Q I r h
  obtain ⟨c, cv, b, fs, rfl, hcv, e, ed, q⟩ := h
  cases r with
  | cons rx rr =>
    cases rr with
    | cons rt rr =>
      cases rr
      cases rx
      have ec := hcv _ rt
      subst ec
      obtain ⟨oe, od, mA, J, _, _⟩ := T.inst I ed
      exact PySem.W.kia_one (PySem.W.kitx_exc T.q.cl T.q.ga T.q.gg T.q.sub T.q.ha T.q.hn T.q.ht T.q.hm) I.kIn J e (fun z => nomatch z) fun tk => ⟨.bl b, H, I.kept (t' := tk) fun _ _ z => z, rfl, q⟩
def tXx (a dd : Addr) (f : Str) (te : TE) : TE := fun σ H Q => te σ H fun x H1 => x = .ref a ∧ ∃ (fs : List (Str × V)) (v : V), H1 dd = some (.xd fs) ∧ fs.lookup f = some v ∧ Q v H1
theorem pe_xx {X : Cx} {a D dd : Addr} {e : Expr} {te : TE} {pos : Pos} {n : Str} (T : HasX X a D dd) (hno : PySem.W.findIn X.K (.ref D) n = some none) (he : PE X e te) (hb : attributeBase e n X.env (eval e X.env) = eval e X.env := by rfl) : PE X (.Attribute e n pos) (tXx a dd n te) := by
  refine ⟨fun pins s σ H Q I h => ?_⟩
  refine attr_of hb (thn (he.run pins s σ H _ I h) fun u s1 hh => ?_)
  obtain ⟨x, H1, I1, rx, ex, fs, v, ed, l, q⟩ := hh
  subst ex
  obtain rfl : u = Value.ref a := rx
  obtain ⟨oe, od, mA, J, hl, hr⟩ := T.inst I1 ed
  obtain ⟨u, hu, ru⟩ := RelO.some_of (v := v) (o := mA n) (by rw [← l]; exact hr n)
  exact HandSPX.exc_get I1.kIn J T.q.ga T.q.gg T.q.sub (PySem.W.findObj_own T.q.hd hno rfl (by rw [hl, hu])) (handed_of ru) ⟨v, H1, I1.tok _, ru, q⟩
theorem ev_isX {K : PySem.W.Frag} {D ad dd : Addr} {σ : L2.St} {H : Hp} {te tc : TE} {c : V} {cv : Value} {k : Bool} {fs : List (Str × V)} (ed : H dd = some (.xd fs)) (he : Ev te σ H (.ref ad)) (hc : Ev tc σ H c) (hcv : ∀ u, RelV c u → u = cv) (hk : PySem.W.kitOne K (.ref D) cv = some k) :
    Ev (tCB (rIsX K D ad dd) (tCons te (tCons tc tNil))) σ H (.bl k) := ev_cb (ea_cons he (ea_cons hc ea_nil)) fun H1 ex Q q => ⟨c, cv, k, fs, rfl, hcv, hk, ex dd _ ed, q H1 (Ex.refl H1)⟩
theorem ev_xx {ad dd : Addr} {σ : L2.St} {H : Hp} {te : TE} {n : Str} {v : V} {fs : List (Str × V)} (ed : H dd = some (.xd fs)) (hl : fs.lookup n = some v) (he : Ev te σ H (.ref ad)) : Ev (tXx ad dd n te) σ H v :=
  fun H1 ex Q q => he H1 ex _ fun H2 e2 => ⟨rfl, fs, v, e2 dd _ (ex dd _ ed), hl, q H2 e2⟩
/-! ### l.count(b), l a list of bools -/
def rCntB (K : PySem.W.Frag) : V → List V → Hp → VK → Prop := fun x xs H Q => ∃ (a : Addr) (bs : List Bool) (k : Bool), x = .ref a ∧ xs = [.bl k] ∧ SqL K H a (bs.map V.bl) ∧ Q (.int (bs.count k : Nat)) H
theorem countIn_bl (k : Bool) : ∀ bs : List Bool, countIn (.bool k) (bs.map PyData.bool) = ((bs.count k : Nat) : Int)
  | [] => rfl
  | b :: bs => by
    rw [List.map_cons, countIn, countIn_bl k bs, List.count_cons]
    simp only [same]
    cases b <;> cases k <;> simp <;> omega
theorem dpAll_bl {K : PySem.W.Frag} {H : Hp} : ∀ bs : List Bool, DpAll K H (bs.map V.bl) (bs.map PyData.bool)
  | [] => .nil
  | b :: bs => .cons (.bl b) (dpAll_bl bs)
theorem mt_countB {X : Cx} : MtR X "list.count" (rCntB X.K) := by
  intro pins s σ H x xs v us Q I rx rxs h
  obtain ⟨a, bs, k, rfl, rfl, hs, q⟩ := h
  cases rx
  obtain ⟨u, rfl, ru⟩ := rxs.one
  cases ru
  obtain ⟨its, rv, hl, hlen⟩ := I.list hs
  obtain ⟨as, h4⟩ := Dp.readsAll I (bs.map PyData.bool) _ its (dpAll_bl bs) rv
  refine count_list_bools (hp := s.heap) (xs := bs.map PyData.bool) (as := as) hl.isList h4 ?_ ?_
  · rw [List.all_map]
    exact List.all_eq_true.mpr fun b _ => rfl
  · rw [countIn_bl]
    exact ⟨.int _, H, I.tok _, ⟨_, rfl⟩, q⟩
end Mini
namespace Mini
open PySem PySem.Spec PyProof.Rows L2 Evl

/-! ### a def that is called with the exception that is caught -/
structure FnW (P : Program) (w : World) (K : PySem.W.Frag) (mg : Str → Option Value) (base : Heap) (CX : CXT) (k : Nat) (f : Addr) (fd : FuncData) (ps : List Str) (sp : Addr → Value → Option Addr → Sp) : Prop where
  len : ∀ a cls d vs H Q E, sp a cls d vs H Q E → vs.length = ps.length
  run : ∀ (A : Around) (outer : List Env) (s : Shared) (H : Hp) (args : Args) (us : List Value) (vs : List V) (Q : VK) (E : XK) (a : Addr) (oe : Obj) (cls : Value) (d : Option Addr), L2H.RoomH k A → L2H.PinOk outer H s (a, oe) → Zc cls d oe → (∃ ws, oe.data = .fields ws) →
    Env0 P w K mg base A outer s H → BindsTo s fd args (ps.zip us) → Vals vs us → sp a cls d vs H Q E → codeAny (model P w) A (.call (.ref f) args) (CR CX outer P w H s Q E) s
theorem fn_ofW {CX : CXT} {P : Program} {w : World} {K : PySem.W.Frag} {mg : Str → Option Value} {base : Heap} {k : Nat} {f : Addr} {name qual : Str} {params : Arguments} {body : List Stmt} {scope : Scope} {dV kV doc pm cdv ct oc : Value} {an od : Option Addr}
    {osl : Array (Option Value)} {N ps : List Str} {sp : Addr → Value → Option Addr → Sp} (lk : K.lookup f = some ⟨oc, od, .func (PySem.W.fnOf name qual params body scope dV kV doc pm an cdv ct), osl⟩) (hcd : PySem.W.codeIn K cdv qual = true) (S : FnScope N ps scope)
    (len : ∀ a cls d vs H Q E, sp a cls d vs H Q E → vs.length = ps.length)
    (hbody : ∀ (A : Around) (outer : List Env) (s : Shared) (H : Hp) (vs : List V) (Q : VK) (E : XK) (a : Addr) (oe : Obj) (cls : Value) (d : Option Addr), Zc cls d oe → (∃ ws, oe.data = .fields ws) → sp a cls d vs H Q E →
      ∃ t, PSs (L2H.cxH CX P w K mg base N qual scope f cdv A outer s H E (a, oe)) body t ∧ t { nx := fun _ H' => Q .non H', rt := Q } (L2.start N vs) H) :
    FnW P w K mg base CX (k + 1) f (PySem.W.fnOf name qual params body scope dV kV doc pm an cdv ct) ps sp := by
  refine ⟨len, fun A outer s H args us vs Q E a oe cls d hr hpin hz hf e0 hb r hsp => ?_⟩
  have hl := len _ _ _ _ _ _ _ hsp
  have KX : K.In s.heap := e0.mod.kin.keeps fun b o e => (e0.bs b o e).1
  have lim : s.heap.NoLimit := e0.mod.nolimit.keeps fun b o e => (e0.bs b o e).1
  have hkind : ∀ y ∈ ps.zip us, scope.names.lookup y.1 = some .local ∨ (scope.names.lookup y.1 = some .cell ∧ ((cellsFrom (s.heap.objs.size + 1) scope.names []).lookup y.1).isSome = true) := fun ⟨n, v⟩ hy => by
    rcases S.par n (List.of_mem_zip hy).1 with q | q
    · exact .inl q
    · exact .inr ⟨q, PySem.W.cellsFrom_some _ _ _ (.inl q)⟩
  refine codeAny_call_function hr.depth (KX _ _ lk) rfl S.co S.gen rfl (PySem.W.codeRec_of KX hcd) (hb _ _ _ _ ?_)
  refine wpAny_newFunctionEnv_cells S.kind hkind fun env he s1 x => ?_
  subst he
  refine ⟨lim.keeps x.toInCall.keep, codeAny_func ?_⟩
  obtain ⟨t, ht, hq⟩ := hbody A outer s H vs Q E a oe cls d hz hf hsp
  have I : Inv (L2H.cxH CX P w K mg base N qual scope f cdv A outer s H E (a, oe)) [] (L2.start N vs) H s1 := L2H.inv_startH S hpin e0 hl r x
  refine wpAny_mono (ht.run [] s1 (L2.start N vs) H _ I hq) (fun fl s' hs => ?_) fun e s' hs => hs
  have fin : ∀ {σ' : L2.St} {H' : Hp} {v : V} {u : Value}, Inv (L2H.cxH CX P w K mg base N qual scope f cdv A outer s H E (a, oe)) [] σ' H' s' → RelV v u → Q v H' → CE outer P w H s Q u s' :=
    fun {σ' H' v u} J rv q => ⟨v, H', J.os, J.bare, J.base, J.hok, rv, q⟩
  cases fl with
  | ret u =>
    obtain ⟨v, σ', H', J, rv, q⟩ := hs
    exact fin J rv q
  | next =>
    obtain ⟨σ', H', J, q⟩ := hs
    exact fin (v := V.non) (u := Value.none) J rfl q
  | brk =>
    obtain ⟨_, _, _, q⟩ := hs
    exact False.elim q
  | cont =>
    obtain ⟨_, _, _, q⟩ := hs
    exact False.elim q
section
variable {X : Cx} {CX : CXT} {k : Nat} {f a : Addr} {oe : Obj} {cls : Value} {d : Option Addr} {fd : FuncData} {ps : List Str} {sp : Addr → Value → Option Addr → Sp} {x : Str} {q pos : Pos} {e : Expr} {es : List Expr} {t : TA}
theorem pe_callW (F : FnW X.prog X.w X.K X.mg X.base CX k f fd ps sp) (hr : L2H.RoomH k X.A) (hp : (a, oe) ∈ X.pn) (hz : Zc cls d oe) (hf : ∃ ws, oe.data = .fields ws) (hg : Gl X x) (hm : X.mg x = some (.ref f)) (hk : PySem.W.keepIn X.K (.ref f) = true) (hb : Binds X.K fd ps [])
    (hx : Passes CX X (fun _ _ _ => False)) (ha : PA X (e :: es) t) (hdb : (x == ("__debug__" : Str)) = false := by decide) (he : starEach (e :: es) X.env = (false, eval e X.env) :: starEach es X.env := by rfl) (hpl : (backTo pos (starEach es X.env)).any (·.1) = false := by rfl) :
    PE X (.Call (.Name x q) (e :: es) [] pos) (fun σ H Q => t σ H fun vs H1 => sp a cls d vs H1 Q (fun _ _ _ => False)) := by
  refine ⟨fun pins s σ H Q I h => ?_⟩
  refine wpAny_Call_Name_kw (ld_glob I hg hm ?_ hdb)
  refine PySem.W.callWith_K (h₀ := X.base) I.ok.mod.kin hk (thn (ha.run pos pins s σ H _ I h) fun us s1 ⟨vs, H1, I1, r, hsp⟩ => ⟨I1.kIn, ?_⟩) he hpl
  show wpAny _ _ (call (.ref f) us) _ _ _
  have hl : us.length = ps.length := by rw [← r.length]; exact F.len _ _ _ _ _ _ _ hsp
  have b := hb s1 us I1.kIn (by rw [List.append_nil]; exact hl)
  rw [List.append_nil] at b
  have P1 := I1.pin (a, oe) (List.mem_append_left _ hp)
  have hpin : L2H.PinOk X.stack H1 s1 (a, oe) := ⟨P1.1, P1.2.1, fun hm => (List.mem_cons.mp (I1.stkSub a hm)).elim P1.2.2.1 P1.2.2.2.1, P1.2.2.2.2⟩
  refine wpAny_call (codeAny_mono (F.run X.A X.stack s1 H1 ⟨us, []⟩ us vs Q _ a oe cls d hr hpin hz hf I1.env0 b r hsp) fun r s' hq => ?_)
  cases r with
  | error e => exact hx pins σ H1 s1 e s' I1 hq
  | ok fl =>
    cases fl with
    | ret u => exact I1.after hq
    | next => exact False.elim hq
    | brk => exact False.elim hq
    | cont => exact False.elim hq
end
end Mini
namespace Mini
open PySem PySem.Spec PyProof.Rows L2 Evl
/-- the word ahead of a reason -/
def hdW : Nat → Str
  | 0 => "find "
  | 1 => "argument "
  | 2 => "paper "
  | _ => "many "
/-- what the written part says of the classes of exceptions -/
structure WordK (K : PySem.W.Frag) (mg : Str → Option Value) (ca : Nat → Addr) : Prop where
  g0 : mg "FindError" = some (.ref (ca 0))
  g1 : mg "ArgumentError" = some (.ref (ca 1))
  g2 : mg "PaperError" = some (.ref (ca 2))
  g3 : mg "TooMany" = some (.ref (ca 3))
  g4 : mg "TextError" = some (.ref (ca 4))
  g5 : mg "CabinetError" = some (.ref (ca 5))
  q : ∀ j, j < 4 → ExQ K (ca j)
  kit : ∀ j, j < 4 → ∀ i, i < 5 → PySem.W.kitOne K (.ref (ca j)) (.ref (ca i)) = some (decide (j = i))
  kit5 : ∀ j, j < 4 → PySem.W.kitOne K (.ref (ca j)) (.ref (ca 5)) = some true
  kitV : ∀ j, j < 4 → PySem.W.kitOne K (.ref (ca j)) (.type "ValueError") = some true
  noat : ∀ j, j < 4 → PySem.W.findIn K (.ref (ca j)) "at" = some none
  noreason : ∀ j, j < 4 → PySem.W.findIn K (.ref (ca j)) "reason" = some none
  isi : mg "isinstance" = none
  str : mg "str" = none
def spW (ca : Nat → Addr) : Addr → Value → Option Addr → Sp := fun a cls d vs H Q E => ∃ (j : Nat) (dd : Addr) (s : Str), j < 4 ∧ cls = .ref (ca j) ∧ d = some dd ∧ vs = [.ref a] ∧ H dd = some (.xd [("reason", .str s)]) ∧ s.length ≤ 1000 ∧ ∀ H', Ex H H' → Q (.str (hdW j ++ s)) H'
section
variable {K : PySem.W.Frag} {σ : L2.St} {H : Hp} {ta te : TE} {p : Addr} {bs : List Bool}
theorem et_truB {k : Bool} (h : Ev te σ H (.bl k)) : EvT (fun σ H Q => te σ H fun x H' => ∃ k, TruV K x H' k ∧ Q k H') σ H k := fun H1 ex Q q => h H1 ex _ fun H2 e2 => ⟨k, rfl, q H2 e2⟩
theorem ev_cntB {k : Bool} (hl : SqL K H p (bs.map V.bl)) (ha : Ev ta σ H (.ref p)) : Ev (tBM K "list" (rCntB K) ta (tCons (tC (.bl k)) tNil)) σ H (.int (bs.count k : Nat)) := fun H1 ex Q q =>
  ha H1 ex _ fun H2 e2 => ⟨Or.inl ⟨rfl, _, ex_l (ex.trans e2) hl⟩, p, bs, k, rfl, rfl, ex_l (ex.trans e2) hl, q H2 e2⟩
theorem flat_bl : ∀ bs : List Bool, (bs.map V.bl).all flatV = true := fun bs => by rw [List.all_map]; exact List.all_eq_true.mpr fun b _ => rfl
theorem ev_idxB {k : Bool} {j : Nat} (hl : SqL K H p (bs.map V.bl)) (ha : Ev ta σ H (.ref p)) (hj : bs[j]? = some k) (hn : ∀ m : Nat, m < j → bs[m]? = some (!k)) : Ev (tBM K "list" (rIndex K) ta (tCons (tC (.bl k)) tNil)) σ H (.int (j : Nat)) := fun H1 ex Q q =>
  ha H1 ex _ fun H2 e2 => ⟨Or.inl ⟨rfl, _, ex_l (ex.trans e2) hl⟩, p, bs.map V.bl, .bl k, j, .bl k, rfl, rfl, ex_l (ex.trans e2) hl, rfl, flat_bl bs, by rw [List.getElem?_map, hj]; rfl, by cases k <;> rfl, fun m z' hm hz => by
    rw [List.getElem?_map, hn m hm] at hz
    cases hz
    cases k <;> rfl, q H2 e2⟩
theorem ev_addS {s1 s2 : Str} {t1 t2 : TE} (h1 : Ev t1 σ H (.str s1)) (h2 : Ev t2 σ H (.str s2)) (hl : s1.length + s2.length ≤ sizeLine) :
    Ev (tOp (fun x y H Q => ∃ i j, x = .str i ∧ y = .str j ∧ i.length + j.length ≤ sizeLine ∧ Q (.str (i ++ j)) H) t1 t2) σ H (.str (s1 ++ s2)) := ev_op h1 h2 fun H1 ex Q q => ⟨s1, s2, rfl, rfl, hl, q H1 (Ex.refl H1)⟩
theorem ev_strS {s1 : Str} {t1 : TE} (h1 : Ev t1 σ H (.str s1)) : Ev (tCB (fun xs H Q => ∃ a, xs = [V.str a] ∧ Q (V.str a) H) (tCons t1 tNil)) σ H (.str s1) := ev_cb (ea_cons h1 ea_nil) fun H1 ex Q q => ⟨s1, rfl, q H1 (Ex.refl H1)⟩
end
theorem hdW_len (j : Nat) : (hdW j).length ≤ 9 := by
  match j with
  | 0 => decide +kernel
  | 1 => decide +kernel
  | 2 => decide +kernel
  | _ + 3 => show ("many " : Str).length ≤ 9; decide +kernel
theorem sokW (j : Nat) : SOk (hdW j) := by
  match j with
  | 0 => decide +kernel
  | 1 => decide +kernel
  | 2 => decide +kernel
  | _ + 3 => show SOk ("many " : Str); decide +kernel
theorem ref_cv {a : Addr} : ∀ u, RelV (.ref a) u → u = .ref a := fun u h => h
def kindsW (j : Nat) : List Bool := [decide (j = 0), decide (j = 1), decide (j = 2), decide (j = 3), decide (j = 4)]
theorem four {P : Nat → Prop} (j : Nat) (hj : j < 4) (h0 : P 0) (h1 : P 1) (h2 : P 2) (h3 : P 3) : P j := by
  match j, hj with
  | 0, _ => exact h0
  | 1, _ => exact h1
  | 2, _ => exact h2
  | 3, _ => exact h3
theorem cntW (j : Nat) (hj : j < 4) : (kindsW j).count true = 1 := four (P := fun j => (kindsW j).count true = 1) j hj rfl rfl rfl rfl
theorem atW (j : Nat) (hj : j < 4) : (kindsW j)[j]? = some true := four (P := fun j => (kindsW j)[j]? = some true) j hj rfl rfl rfl rfl
theorem befW (j : Nat) (hj : j < 4) : ∀ m : Nat, m < j → (kindsW j)[m]? = some (!true) := four (P := fun j => ∀ m : Nat, m < j → (kindsW j)[m]? = some (!true)) j hj (by decide) (by decide) (by decide) (by decide)
theorem headW (j : Nat) (hj : j < 4) : atI [V.str "find ", V.str "argument ", V.str "paper ", V.str "many "] ((j : Nat) : Int) = some (.str (hdW j)) := four (P := fun j => atI [V.str "find ", V.str "argument ", V.str "paper ", V.str "many "] ((j : Nat) : Int) = some (.str (hdW j))) j hj rfl rfl rfl rfl
/-! ### try: .. except C as error: return word(error) -/
def tryWS (g : FS) (wd : Nat → D → Option D) : FS := fun ρ S => match g ρ S with
  | .er n p S' => (match wd n p with
    | some d => .ok (.rt d) S'
    | none => .no)
  | r => r
def wdW (n : Nat) : D → Option D
  | .str s => if n < 4 ∧ s.length ≤ 1000 then some (.str (hdW n ++ s)) else none
  | _ => none
theorem wdW_some {n : Nat} {p d : D} (h : wdW n p = some d) : ∃ s, p = .str s ∧ n < 4 ∧ s.length ≤ 1000 ∧ d = .str (hdW n ++ s) := by
  cases p <;> first | (cases h; done) | skip
  rename_i s
  have h' : (if n < 4 ∧ s.length ≤ 1000 then some (D.str (hdW n ++ s)) else none) = some d := h
  split at h'
  · rename_i z
    cases h'
    exact ⟨s, rfl, z.1, z.2, rfl⟩
  · cases h'
section
variable {K : PySem.W.Frag} {c : Cn} {W W' : Wd} {H H' H'' : Hp} {S : DS} {σ : L2.St} {ρ : En}
theorem StOk.ex (st : StOk K c W H S) (e : Ex H H') : StOk K c W H' S := ⟨fun b o h => e b o (st.sub b o h), by
  have d := st.ds
  cases S with
  | none => exact d
  | some ds =>
    obtain ⟨a, vs, h1, h2, h3, h4⟩ := d
    exact ⟨a, vs, h1, h2, e _ _ h3, h4⟩⟩
theorem KeepS.ex (k : KeepS W H σ ρ W' H') (e : Ex H' H'') : KeepS W H σ ρ W' H'' := ⟨k.wex, fun b o h n q => e b o (k.old b o h n q), k.fr, k.sa, fun b o h => by
  obtain ⟨o', h'⟩ := k.there b o h
  exact ⟨o', e b o' h'⟩⟩
end
theorem ms_tryW {X : Cx} {c : Cn} {E : XK} {x n : Str} {i k : Nat} {f : Addr} {fd : FuncData} {body : List Stmt} {g : FS} {np q q1 q2 q3 pos pos' : Pos} (hs : X.stack = X.env :: X.outer) (hf : X.env.frame = some X.env.locals) (hN : X.N.Nodup) (hi : X.N[i]? = some n) (hln : X.env.scope.names.lookup n = some .local) (hc : Names X x (.ref (c.ca 5)))
    (tk : Takes X (fun cls d _ H => E cls d H)) (hfld : ∀ j, j < 4 → c.fld j = "reason") (F : FnW X.prog X.w X.K X.mg X.base (L2.CX X.prog X.w) k f fd ["error"] (spW c.ca)) (hr : Room k X.A) (hg : Gl X "_law_word") (hm : X.mg "_law_word" = some (.ref f)) (hk : PySem.W.keepIn X.K (.ref f) = true) (hb : Binds X.K fd ["error"] [])
    (hex : ∀ j, j < 4 → PySem.W.exmOne X.K (.ref (c.ca j)) (.ref (c.ca 5)) = some true) (hd : (n == ("__debug__" : Str)) = false) (hcd : (n == ("__classdict__" : Str)) = false) (hst : starEach [Expr.Name n q1] X.env = (false, eval (Expr.Name n q1) X.env) :: starEach [] X.env)
    (hbody : ∀ (pn : List (Addr × Obj)) (xe : Value → Shared → Prop) (E' : XK), Passes (L2.CX X.prog X.w) (X.tr pn xe) E' → PSs (X.tr pn xe) body (tS X.K c E' g)) :
    PS X (.Try body [.ExceptHandler (some (.Name x np)) (some n) [.Return (some (.Call (.Name "_law_word" q) [.Name n q1] [] q2)) q3] pos'] [] [] pos) (tS X.K c E (tryWS g wdW)) := by
  refine ps_imp (ps_try_as (tb := fun W => tS X.K c (fun cls d H => ∀ σ : L2.St, σ.length = X.N.length → W cls d σ H) g)
    (ts := fun a cls d => tRet (fun σ H Q => tCons (tVar i) tNil σ H fun vs H1 => spW c.ca a cls d vs H1 Q (fun _ _ _ => False))) hs hf hN hi hln hc tk
    (fun W pn xe tk' _ => hbody pn xe _ fun pins σ H s e s' I cx => tk' e s' (XE.of_call I (fun cls d H' h => h σ I.len) cx))
    (fun a oe cls d pn hz hf => pss_one (ps_ret (pe_callW (X := X.suite a ((a, oe) :: pn)) F ⟨hr.dp, hr.un⟩ List.mem_cons_self hz hf hg hm hk hb (fun pins σ H s e s' I cx => ?_) (pa_cons (pe_var hi (.inl hln) hd hcd) pa_nil hst) (by decide) hst (by rfl))))) fun D σ H q => ?_
  · obtain ⟨_, _, _, _, _, _, _, _, _, _, _, _, h⟩ := cx
    exact h.elim
  obtain ⟨W, ρ, S, st, en, q⟩ := q
  refine ⟨W, ρ, S, st, en, ?_⟩
  unfold tryWS at q
  cases e : g ρ S with
  | no => rw [e] at q; exact q.elim
  | ok fl S' => rw [e] at q; cases fl <;> exact q
  | er n p S' =>
    rw [e] at q
    cases hw : wdW n p with
    | none => simp only [hw] at q; exact q.elim
    | some d =>
      simp only [hw] at q
      obtain ⟨s, rfl, hn, hl, rfl⟩ := wdW_some hw
      intro W' H' dd v st' k' hdd r σ'' hlen
      refine ⟨true, hex n hn, fun _ a ha => ?_, fun z => by cases z⟩
      have hil : i < σ''.length := by
        rw [hlen]
        exact (List.getElem?_eq_some_iff.mp hi).1
      refine ⟨.ref a, List.getElem?_set_self hil, ?_⟩
      obtain ⟨rfl, hso⟩ := r
      refine ⟨n, dd, s, hn, rfl, rfl, rfl, by rw [hdd, hfld n hn], hl, fun H'' ex => q W' H'' _ (st'.ex ex) (k'.ex ex) ⟨rfl, ?_⟩⟩
      exact sok_add (sokW n) hso (by have := hdW_len n; omega)
end Mini
namespace Mini
open PySem PySem.Spec PyProof.Rows L2 Evl

/-! ### the head's facts about the classes of exceptions -/
def oexB (K : PySem.W.Frag) (C : Addr) : Bool := match K.lookup C with
  | some ⟨.type "type", _, .cls cd, sl⟩ => (match cd.mro, sl.toList with
    | .ref C' :: bm, [_, _, _, _, some (.builtin n), _] => C' == C && n == "ValueError.__new__" && !cd.hasDel && cd.hasDict && HandSPX.refsVE bm
    | _, _ => false)
  | _ => false
theorem oexB_ok {K : PySem.W.Frag} {C : Addr} (q : oexB K C = true) : ∃ nm q N bs bm sn sub ab col dd k0 k1 k2 k3 k5, K.lookup C = some (excClassObj nm q C N bs bm true sn sub ab col dd k0 k1 k2 k3 k5 "ValueError.__new__") ∧ HandSPX.refsVE bm = true := by
  unfold oexB at q
  split at q
  · rename_i dd cd sl ho
    split at q
    · rename_i C' bm k0 k1 k2 k3 n k5 hm hs
      simp only [Bool.and_eq_true, beq_iff_eq, Bool.not_eq_true'] at q
      obtain ⟨⟨⟨⟨rfl, rfl⟩, hdel⟩, hdct⟩, ht⟩ := q
      obtain ⟨nm, bs, mro, ns, qn, hd, sn, sub, ab, col, del⟩ := cd
      dsimp only at hm hdel hdct
      subst hm hdel hdct
      have hsl : sl = #[k0, k1, k2, k3, some (.builtin "ValueError.__new__"), k5] := by
        obtain ⟨l⟩ := sl
        simp only at hs
        rw [hs]
      subst hsl
      exact ⟨nm, qn, ns, bs, bm, sn, sub, ab, col, dd, k0, k1, k2, k3, k5, ho, ht⟩
    · cases q
  · cases q
abbrev InitW : Type := Option (Str × Arguments × FuncBody × Scope × Addr × Addr)
def initW (K : PySem.W.Frag) (C : Addr) : InitW := match K.lookup (He.ma K C "__init__") with
  | some ⟨_, _, .func fd, _⟩ => some (fd.name, fd.params, fd.body, fd.scope, fd.globals, fd.builtins)
  | _ => none
def fileB (K : PySem.W.Frag) (main : Str) : Value → Bool
  | .ref cda => (match K.lookup cda with
    | some ⟨_, _, .fields vs, _⟩ => (match (vs[2]? : Option Value) with
      | some (.str file _) => main == file
      | _ => false)
    | _ => false)
  | _ => false
def cellB (K : PySem.W.Frag) (C : Addr) : List (Str × Addr) → Bool
  | [(n, cc)] => n == "__class__" && (match K.lookup cc with
    | some ⟨_, _, .cell (some (.ref C')), _⟩ => C' == C
    | _ => false)
  | _ => false
def fnB (K : PySem.W.Frag) (main : Str) (C : Addr) : Bool := match K.lookup (He.ma K C "__init__") with
  | some ⟨_, _, .func fd, _⟩ => PySem.W.codeIn K fd.code fd.qualname && (fileB K main fd.code && (cellB K C fd.closure && (decide (fd.defaults = .none) && decide (fd.kwdefaults = .none))))
  | _ => false
def errB (K : PySem.W.Frag) (main f : Str) (C : Addr) : Bool :=
  oexB K C && (He.eqO (PySem.W.findIn K (.ref C) "__setattr__") (some (some (.builtin "object.__setattr__"))) && (decide (PySem.W.subIn K (.ref C) (.type "BaseException") = some true) && (decide (PySem.W.typeIn K (.ref C) = some (.type "type")) && (PySem.W.keepIn K (.ref C) &&
  (He.eqO (PySem.W.findIn K (.ref C) f) (some none) && (He.eqO (PySem.W.ks_superIn K C C "__init__") (some (some (.builtin "ValueError.__init__"))) && (He.eqO (PySem.W.nsIn K cStatics "thirdparty.any") (some none) && (decide (PySem.W.subIn K (.ref C) (.type "ValueError") = some true) && (decide (PySem.W.mroIn K C (.ref C) = some true) &&
  (He.eqO (PySem.W.findIn K (.ref C) "__init__") (some (some (.ref (He.ma K C "__init__")))) && (decide (PySem.W.typeIn K (.ref (He.ma K C "__init__")) = some (.type "function")) && fnB K main C)))))))))))
/-- the class's init as the text has it -/
def initOf : Stmt → InitW
  | .ClassDef (body := .FunctionDef (name := n) (args := a) (body := b) (scope := sc) .. :: _) .. => some (n, a, .stmts b, sc, mainGlobals, builtinsNs)
  | _ => none
abbrev iAr (f : Str) (pa pb : Pos) : Arguments := { posonlyargs := [], args := [⟨"self", none, pa⟩, ⟨f, none, pb⟩], vararg := none, kwonlyargs := [], kw_defaults := [], kwarg := none, defaults := [] }
abbrev iBd (f m : Str) (j : Nat) (p0 p1 p2 p3 p4 p5 p6 p7 p8 p9 : Pos) : List Stmt := [.Expr (.Call (.Attribute (.Call (.Name "super" p0) [] [] p1) "__init__" p2) [.Constant (.str m) j p3] [] p4) p5, .Assign [.Attribute (.Name "self" p6) f p7] (.Name f p8) p9]
def InitPat (f : Str) (w : InitW) : Prop := ∃ (m : Str) (j : Nat) (p0 p1 p2 p3 p4 p5 p6 p7 p8 p9 pa pb : Pos), w = some (("__init__" : Str), iAr f pa pb, FuncBody.stmts (iBd f m j p0 p1 p2 p3 p4 p5 p6 p7 p8 p9), iSc f, mainGlobals, builtinsNs) ∧ (p2.endLine == p4.line) = true
def BdOk (f : Str) : Prop := ∀ (qual : Str) (body : List Stmt) (pa pb : Pos) (doc pm cdv ct a b : Value) (an : Option Addr) (cc : Addr),
  bindArgs (PySem.W.ksFn "__init__" qual (iAr f pa pb) body (iSc f) .none .none doc pm an cdv ct cc) ⟨[a, b], []⟩ = (pure [(("self" : Str), a), (f, b)] : Sem (List (Str × Value)))
theorem bd_reason : BdOk "reason" := fun _ _ _ _ _ _ _ _ _ _ _ _ => rfl
theorem bd_at : BdOk "at" := fun _ _ _ _ _ _ _ _ _ _ _ _ => rfl
theorem bd_line : BdOk "line" := fun _ _ _ _ _ _ _ _ _ _ _ _ => rfl
theorem ban {a b : Bool} (h : (a && b) = true) : a = true ∧ b = true := Bool.and_eq_true_iff.mp h
theorem fileB_ok {K : PySem.W.Frag} {main : Str} {v : Value} (h : fileB K main v = true) : ∃ cda, v = .ref cda ∧ ∃ (ccl : Value) (cdd : Option Addr) (vs : Array Value) (ccs : Array (Option Value)) (file : Str) (tf : Tok), K.lookup cda = some ⟨ccl, cdd, .fields vs, ccs⟩ ∧ vs[2]? = some (.str file tf) ∧ (main == file) = true := by
  unfold fileB at h
  split at h
  · rename_i cda
    split at h
    · rename_i ccl cdd vs ccs ho
      split at h
      · rename_i file tf hv
        exact ⟨cda, rfl, ccl, cdd, vs, ccs, file, tf, ho, hv, h⟩
      · cases h
    · cases h
  · cases h
theorem cellB_ok {K : PySem.W.Frag} {C : Addr} {cl : List (Str × Addr)} (h : cellB K C cl = true) : ∃ cc, cl = [(("__class__" : Str), cc)] ∧ ∃ (c1 : Value) (cld : Option Addr) (csl : Array (Option Value)), K.lookup cc = some ⟨c1, cld, .cell (some (.ref C)), csl⟩ := by
  unfold cellB at h
  split at h
  · rename_i n cc
    obtain ⟨h1, h2⟩ := ban h
    split at h2
    · rename_i c1 cld C' csl ho
      have e1 := beq_iff_eq.mp h1
      have e2 := beq_iff_eq.mp h2
      subst e1 e2
      exact ⟨cc, rfl, c1, cld, csl, ho⟩
    · cases h2
  · cases h
theorem errC_of {K : PySem.W.Frag} {main f : Str} {C : Addr} {st : Stmt} (h : errB K main f C = true) (hw : initW K C = initOf st) (hp : InitPat f (initOf st)) (hb : BdOk f) (n1 : (f == ("self" : Str)) = false) (n2 : (f == ("super" : Str)) = false) (n3 : (f == ("__class__" : Str)) = false) (n4 : (f == ("__debug__" : Str)) = false) : ErrC K main C f := by
  unfold errB at h
  obtain ⟨h1, h⟩ := ban h
  obtain ⟨h2, h⟩ := ban h
  obtain ⟨h3, h⟩ := ban h
  obtain ⟨h4, h⟩ := ban h
  obtain ⟨h5, h⟩ := ban h
  obtain ⟨h6, h⟩ := ban h
  obtain ⟨h7, h⟩ := ban h
  obtain ⟨h8, h⟩ := ban h
  obtain ⟨h9, h⟩ := ban h
  obtain ⟨h10, h⟩ := ban h
  obtain ⟨h11, h⟩ := ban h
  obtain ⟨h12, h⟩ := ban h
  refine ⟨⟨oexB_ok h1, He.eqO_ok h2, of_decide_eq_true h3, of_decide_eq_true h4, h5⟩, ?_, n1, n2, n4, n3, He.eqO_ok h6, He.eqO_ok h7, He.eqO_ok h8, of_decide_eq_true h9, of_decide_eq_true h10⟩
  rw [← hw] at hp
  obtain ⟨m, j, p0, p1, p2, p3, p4, p5, p6, p7, p8, p9, pa, pb, e, hpos⟩ := hp
  unfold fnB at h
  unfold initW at e
  split at h
  · rename_i oc od fd osl lk
    rw [lk] at e
    obtain ⟨k1, h⟩ := ban h
    obtain ⟨k2, h⟩ := ban h
    obtain ⟨k3, h⟩ := ban h
    obtain ⟨k4, k5⟩ := ban h
    have j4 := of_decide_eq_true k4
    have j5 := of_decide_eq_true k5
    obtain ⟨name, qual, params, body, scope, globals, closure, dV, kV, doc, pm, an, code, ct, blt⟩ := fd
    dsimp only at k1 k2 k3 j4 j5 e
    subst j4 j5
    obtain ⟨cda, rfl, hfile⟩ := fileB_ok k2
    obtain ⟨cc, rfl, hcell⟩ := cellB_ok k3
    simp only [Option.some.injEq, Prod.mk.injEq] at e
    obtain ⟨rfl, rfl, rfl, rfl, rfl, rfl⟩ := e
    exact ⟨_, cc, cda, qual, He.eqO_ok h11, of_decide_eq_true h12, ⟨.none, .none, doc, pm, ct, oc, an, od, osl, m, j, p0, p1, p2, p3, p4, p5, p6, p7, p8, p9, pa, pb, lk, fun a b => hb _ _ _ _ _ _ _ _ _ _ _ _, hpos⟩, k1, hfile, hcell⟩
  · cases h
/-! ### all classes of a law -/
def caN : Nat → Str
  | 0 => "FindError"
  | 1 => "ArgumentError"
  | 2 => "PaperError"
  | 3 => "TooMany"
  | 4 => "TextError"
  | 6 => "CommandError"
  | _ => "CabinetError"
def caK (K : PySem.W.Frag) (n : Nat) : Addr := He.ga K (caN n)
def fldN : Nat → Str
  | 4 => "at"
  | 6 => "line"
  | _ => "reason"
theorem fldN_lt (j : Nat) (hj : j < 4) : fldN j = "reason" := four (P := fun j => fldN j = "reason") j hj rfl rfl rfl rfl
def exqB (K : PySem.W.Frag) (C : Addr) : Bool := (PySem.W.clsIn K C).isSome && (He.eqO (PySem.W.findIn K (.ref C) "__getattribute__") (some (some (.builtin "BaseException.__getattribute__"))) && (He.eqO (PySem.W.findIn K (.ref C) "__getattr__") (some none) && (decide (PySem.W.subIn K (.ref C) (.type "BaseException") = some true) &&
  (He.eqO (PySem.W.findIn K (.ref C) "__class__") (some (some (.builtin "object.__class__"))) && (He.eqO (PySem.W.specialIn K (.builtin "object.__class__") "__get__") (some (some (.builtin "getset_descriptor.__get__"))) && (decide (PySem.W.takesIn K (.builtin "object.__class__") = some true) && (decide (PySem.W.mroIn K C (.type "object") = some true) && PySem.W.hasDictIn K C)))))))
theorem exqB_ok {K : PySem.W.Frag} {C : Addr} (h : exqB K C = true) : ExQ K C := by
  unfold exqB at h
  obtain ⟨h1, h⟩ := ban h
  obtain ⟨h2, h⟩ := ban h
  obtain ⟨h3, h⟩ := ban h
  obtain ⟨h4, h⟩ := ban h
  obtain ⟨h5, h⟩ := ban h
  obtain ⟨h6, h⟩ := ban h
  obtain ⟨h7, h⟩ := ban h
  obtain ⟨h8, h9⟩ := ban h
  exact ⟨h1, He.eqO_ok h2, He.eqO_ok h3, of_decide_eq_true h4, He.eqO_ok h5, He.eqO_ok h6, of_decide_eq_true h7, of_decide_eq_true h8, h9⟩
def wordJ (K : PySem.W.Frag) (j : Nat) : Bool := exqB K (caK K j) && ((List.range 5).all (fun i => decide (PySem.W.kitOne K (.ref (caK K j)) (.ref (caK K i)) = some (decide (j = i)))) && (decide (PySem.W.kitOne K (.ref (caK K j)) (.ref (caK K 5)) = some true) && (decide (PySem.W.kitOne K (.ref (caK K j)) (.type "ValueError") = some true) &&
  (He.eqO (PySem.W.findIn K (.ref (caK K j)) "at") (some none) && (He.eqO (PySem.W.findIn K (.ref (caK K j)) "reason") (some none) && decide (PySem.W.exmOne K (.ref (caK K j)) (.ref (caK K 5)) = some true))))))
def wordB (K : PySem.W.Frag) : Bool := (List.range 4).all (wordJ K)
theorem wordB_ok {K : PySem.W.Frag} {mg : Str → Option Value} (h : wordB K = true) (g0 : mg "FindError" = some (.ref (caK K 0))) (g1 : mg "ArgumentError" = some (.ref (caK K 1))) (g2 : mg "PaperError" = some (.ref (caK K 2))) (g3 : mg "TooMany" = some (.ref (caK K 3))) (g4 : mg "TextError" = some (.ref (caK K 4)))
    (g5 : mg "CabinetError" = some (.ref (caK K 5))) (gi : mg "isinstance" = none) (gs : mg "str" = none) : WordK K mg (caK K) ∧ ∀ j, j < 4 → PySem.W.exmOne K (.ref (caK K j)) (.ref (caK K 5)) = some true := by
  have all : ∀ j, j < 4 → wordJ K j = true := fun j hj => List.all_eq_true.mp h j (List.mem_range.mpr hj)
  have sp : ∀ j, j < 4 → ExQ K (caK K j) ∧ (∀ i, i < 5 → PySem.W.kitOne K (.ref (caK K j)) (.ref (caK K i)) = some (decide (j = i))) ∧ PySem.W.kitOne K (.ref (caK K j)) (.ref (caK K 5)) = some true ∧ PySem.W.kitOne K (.ref (caK K j)) (.type "ValueError") = some true ∧
      PySem.W.findIn K (.ref (caK K j)) "at" = some none ∧ PySem.W.findIn K (.ref (caK K j)) "reason" = some none ∧ PySem.W.exmOne K (.ref (caK K j)) (.ref (caK K 5)) = some true := fun j hj => by
    have h := all j hj
    unfold wordJ at h
    obtain ⟨h1, h⟩ := ban h
    obtain ⟨h2, h⟩ := ban h
    obtain ⟨h3, h⟩ := ban h
    obtain ⟨h4, h⟩ := ban h
    obtain ⟨h5, h⟩ := ban h
    obtain ⟨h6, h7⟩ := ban h
    exact ⟨exqB_ok h1, fun i hi => of_decide_eq_true (List.all_eq_true.mp h2 i (List.mem_range.mpr hi)), of_decide_eq_true h3, of_decide_eq_true h4, He.eqO_ok h5, He.eqO_ok h6, of_decide_eq_true h7⟩
  exact ⟨⟨g0, g1, g2, g3, g4, g5, fun j hj => (sp j hj).1, fun j hj => (sp j hj).2.1, fun j hj => (sp j hj).2.2.1, fun j hj => (sp j hj).2.2.2.1, fun j hj => (sp j hj).2.2.2.2.1, fun j hj => (sp j hj).2.2.2.2.2.1, gi, gs⟩, fun j hj => (sp j hj).2.2.2.2.2.2⟩
/-! ### the Hook -/
abbrev AlE : Type := He.AlD × (Bool × List InitW)
def obsE (fa : List He.Fa) (fn : List He.DefD) (main : Str) (wd : Bool) (rs : List Nat) (K : PySem.W.Frag) : AlE := (He.obsD fa fn K, ((!wd || wordB K) && rs.all (fun n => errB K main (fldN n) (caK K n)), rs.map fun n => initW K (caK K n)))
def valE (fn : List He.DefD) (is : List InitW) : AlE := (He.valD fn, (true, is))
def obsEG (n : Nat) (fa : List He.Fa) (fn : List He.DefD) (main : Str) (wd : Bool) (rs : List Nat) (g : Addr → Option Obj) : AlE := obsE fa fn main wd rs (He.frG g (cStatics :: He.asD g n))
def hookE (n : Nat) (fa : List He.Fa) (fn : List He.DefD) (main : Str) (wd : Bool) (rs : List Nat) (is : List InitW) : PySem.W.Hook where
  α := AlE
  obs := fun s => obsEG n fa fn main wd rs s.heap.get?
  val := fun _ => valE fn is
  says := fun _ h => ∃ K : PySem.W.Frag, K.In h ∧ obsE fa fn main wd rs K = valE fn is
  of := fun _ _ e => ⟨_, He.frG_in, e⟩
  keeps := fun _ _ _ ⟨K, hK, c⟩ k => ⟨K, PySem.W.Frag.In.keeps hK k, c⟩
theorem obsEG_eq {n : Nat} {fa : List He.Fa} {fn : List He.DefD} {main : Str} {wd : Bool} {rs : List Nat} {is : List InitW} {g : Addr → Option Obj} {s : Shared} (h : ∀ a, g a = s.heap.get? a) : obsEG n fa fn main wd rs g = (hookE n fa fn main wd rs is).obs s := by
  have e : g = s.heap.get? := funext h
  rw [e] <;> rfl
section
variable {K : PySem.W.Frag} {fa : List He.Fa} {fn : List He.DefD} {main : Str} {wd : Bool} {rs : List Nat} {is : List InitW}
theorem saysE_D (c : obsE fa fn main wd rs K = valE fn is) : He.SaysD fa fn K := congrArg (fun z : AlE => z.1) c
theorem saysE_B (c : obsE fa fn main wd rs K = valE fn is) : ((!wd || wordB K) && rs.all (fun n => errB K main (fldN n) (caK K n))) = true := congrArg (fun z : AlE => z.2.1) c
theorem saysE_word (c : obsE fa fn main true rs K = valE fn is) : wordB K = true := (ban (saysE_B c)).1
theorem saysE_err (c : obsE fa fn main wd rs K = valE fn is) {n : Nat} (h : n ∈ rs) : errB K main (fldN n) (caK K n) = true := List.all_eq_true.mp (ban (saysE_B c)).2 n h
theorem saysE_init (c : obsE fa fn main wd rs K = valE fn is) (i : Nat) {n : Nat} (h : rs[i]? = some n) {w : InitW} (h2 : is[i]? = some w) : initW K (caK K n) = w := by
  have e : rs.map (fun n => initW K (caK K n)) = is := congrArg (fun z : AlE => z.2.2) c
  rw [← e, List.getElem?_map, h] at h2
  exact Option.some.inj h2
end
end Mini
namespace Mini
open PySem PySem.Spec PyProof.Rows L2 Evl
/-! ### a def in a slot, called -/
def callV (disp : Nat → Option (List D → M D)) (i : Nat) (ga : FA) : FE := fun ρ => match slot ρ i with
  | some (.fn n) => (match disp n with
    | some F => bd (ga ρ) F
    | none => no)
  | _ => no
def DispOk (P : Program) (w : World) (K : PySem.W.Frag) (mg : Str → Option Value) (base : Heap) (T : CXT) (k : Nat) (c : Cn) (disp : Nat → Option (List D → M D)) : Prop :=
  ∀ n F, disp n = some F → ∃ (f : Addr) (fd : FuncData) (ps : List Str), c.fa n = some f ∧ FnG P w K mg base T k f fd ps (spM K c F) ∧ PySem.W.keepIn K (.ref f) = true ∧ Binds K fd ps []
theorem disp_nil {P : Program} {w : World} {K : PySem.W.Frag} {mg : Str → Option Value} {base : Heap} {T : CXT} {k : Nat} {c : Cn} : DispOk P w K mg base T k c (fun _ => none) := fun _ _ h => by cases h
theorem disp_cons {P : Program} {w : World} {K : PySem.W.Frag} {mg : Str → Option Value} {base : Heap} {T : CXT} {k : Nat} {c : Cn} {disp : Nat → Option (List D → M D)} {m : Nat} {f : Addr} {fd : FuncData} {ps : List Str} {F : List D → M D} (hf : c.fa m = some f)
    (G : FnG P w K mg base T k f fd ps (spM K c F)) (hk : PySem.W.keepIn K (.ref f) = true) (hb : Binds K fd ps []) (r : DispOk P w K mg base T k c disp) : DispOk P w K mg base T k c (fun n => if n = m then some F else disp n) := fun n F' h => by
  have h : (if n = m then some F else disp n) = some F' := h
  by_cases e : n = m
  · rw [if_pos e] at h
    cases h
    exact ⟨f, fd, ps, by rw [e]; exact hf, G, hk, hb⟩
  · rw [if_neg e] at h
    exact r n F' h
section
variable {X : Cx} {c : Cn} {E : XK} {T : CXT} {k i : Nat} {disp : Nat → Option (List D → M D)} {x : Str} {p pos : Pos} {e : Expr} {es : List Expr} {ga : FA}
theorem me_callV (A : DispOk X.prog X.w X.K X.mg X.base T k c disp) (hr : Room k X.A) (gd : X.A.guards = some []) (hx : Passes T X E) (ha : PA X (e :: es) (tA X.K c E ga)) (hN : X.N[i]? = some x := by kernel_rfl) (hv : X.env.scope.names.lookup x = some .local := by kernel_rfl)
    (hdb : (x == ("__debug__" : Str)) = false := by kernel_rfl) (hcd : (x == ("__classdict__" : Str)) = false := by kernel_rfl) (he : starEach (e :: es) X.env = (false, eval e X.env) :: starEach es X.env := by rfl) (hpl : (backTo pos (starEach es X.env)).any (·.1) = false := by rfl) :
    PE X (.Call (.Name x p) (e :: es) [] pos) (tM X.K c E (callV disp i ga)) := by
  refine ⟨fun pins s σ H Q I h => ?_⟩
  obtain ⟨W, ρ, S, st, en, q⟩ := tM_un h
  unfold callV at q
  cases h1 : slot ρ i with
  | none => rw [h1] at q; exact q.elim
  | some d =>
    rw [h1] at q
    cases d <;> first | exact q.elim | skip
    rename_i n
    cases h2 : disp n with
    | none => simp only [h2] at q; exact q.elim
    | some F =>
      simp only [h2] at q
      obtain ⟨v, hs, hv2⟩ := en.vl i (.fn n) (slot_some h1)
      obtain ⟨f, fd, ps, hf, G, hk, hb⟩ := A n F h2
      obtain ⟨a, rfl, ha2⟩ := hv2
      rw [hf] at ha2
      cases ha2
      refine wpAny_Call_Name_kw (thn ((pe_var (pos := p) hN (.inl hv) hdb hcd).run pins s σ H (fun v H1 => v = .ref f ∧ H1 = H) I ⟨.ref f, hs, rfl, rfl⟩) fun u s1 ⟨v, H1, I1, r1, q1⟩ => ?_)
      obtain ⟨rfl, rfl⟩ := q1
      cases r1
      refine PySem.W.callWith_K (h₀ := X.base) I.ok.mod.kin hk (thn (ha.run pos pins s1 σ _ (fun vs H2 => spM X.K c F vs H2 Q E) I1 ?_) fun us s2 ⟨vs, H2, I2, r, q⟩ => ⟨I2.kIn, runG G hr gd hb .nil hx I2 r (by rw [List.append_nil]; exact q)⟩) he hpl
      exact then_A (O := OutM X.K c W H1 E Q) st en (fun _ _ _ z => z) (fun z => z) q fun ds S1 W1 H2 vs st1 k1 r1 q1 => ⟨W1, ds, S1, st1, r1, OutM.pre (Q' := Q) q1 k1 st1⟩
end
end Mini
/-! ### t[::-1], t a tuple -/
namespace Mini
open PySem PySem.Spec PyProof.Rows L2 HT Evl
section
variable {prog : Program} {w : World} {A : Around} {E : Value → Shared → Prop} {s : Shared}
theorem places_rev (n : Nat) : Builtin.Slice.slicePlaces ((n : Int) - 1) (-1) (-1) = n := by
  unfold Builtin.Slice.slicePlaces
  have h1 : ¬ ((-1 : Int) > 0) := by omega
  simp only [h1, if_false]
  rw [show (-(-1 : Int)) = 1 from rfl, Int.ediv_one]
  split <;> omega
theorem sliceApplied_rev {sl : Addr} {vs : Value} {n : Nat} {Q : Int × Int × Nat → Shared → Prop} (hs : s.heap.IsSliceOf sl .none .none vs) (ps : IsPart vs (some (-1)))
    (h : Q ((n : Int) - 1, -1, n) s) : wpAny (model prog w) A (Builtin.Slice.sliceApplied (.ref sl) (pure (n : Int))) Q E s := by
  obtain ⟨os, hos, hcs, hds⟩ := id hs
  unfold Builtin.Slice.sliceApplied Builtin.Slice.sliceFields
  refine wpAny_bind (wpAny_bind (wpAny_field hos hds (x := .none) rfl (wpAny_bind (wpAny_field hos hds (x := .none) rfl (wpAny_bind (wpAny_field hos hds (x := vs) rfl (wpAny_pure ?_)))))))
  refine wpAny_bind (slicePart_ ps ?_)
  show wpAny _ _ (if ((-1 : Int) == 0) = true then _ else _) _ _ s
  rw [if_neg (by decide)]
  refine wpAny_bind (slicePart_none (wpAny_bind (slicePart_none (wpAny_bind (wpAny_pure ?_)))))
  show wpAny _ _ (pure (((n : Int) - 1), (-1 : Int), Builtin.Slice.slicePlaces ((n : Int) - 1) (-1) (-1))) _ _ s
  rw [places_rev]
  exact wpAny_pure h
theorem pick_rev (xs : Array Value) : ((List.range xs.size).filterMap fun (m : Nat) => xs[(((xs.size : Nat) : Int) - 1 + (m : Int) * -1).toNat]?).toArray = xs.toList.reverse.toArray := by
  have e : (fun (m : Nat) => xs[(((xs.size : Nat) : Int) - 1 + (m : Int) * -1).toNat]?) = fun m => xs[(xs.size : Int).toNat - 1 - m]? := by
    funext m
    have : (((xs.size : Nat) : Int) - 1 + (m : Int) * -1).toNat = (xs.size : Int).toNat - 1 - m := by omega
    rw [this]
  rw [e]
  have r := PySem.W.krv_range xs.size
  have e3 : (List.range xs.size).filterMap (fun m => xs[(xs.size : Int).toNat - 1 - m]?) = ((List.range xs.size).map fun k => xs.size - 1 - k).filterMap (xs[·]?) := by
    rw [List.filterMap_map]
    rfl
  rw [e3, r, List.filterMap_reverse, PySem.W.krv_all]
theorem getItem_tuple_rev {t sl : Addr} {items : Array Value} {vs : Value} {Q : Value → Shared → Prop} (ht : IsTup s.heap t items) (hs : s.heap.IsSliceOf sl .none .none vs) (ps : IsPart vs (some (-1)))
    (h : Q (.ref s.heap.objs.size) { s with heap := s.heap.push { cls := .type "tuple", data := .seq items.toList.reverse.toArray } }) (hsz : items.size ≤ sizeLine) : wpAny (model prog w) A (getItem (.ref t) (.ref sl)) Q E s := by
  have htake : sizeOk (.seq items.toList.reverse.toArray) := by
    show items.toList.reverse.toArray.size ≤ sizeLine
    rw [List.size_toArray, List.length_reverse, Array.length_toList]
    omega
  obtain ⟨os, hos, hcs, hds⟩ := id hs
  have hTs : s.TypeIs (.ref sl) "slice" := ⟨os, hos, hcs⟩
  unfold getItem
  try with_reducible refine wpAny_holding ?_
  first | refine wpAny_bind (wpAny_pure ?_) | skip
  refine wpAny_bind (wpAny_sequenceKey ht.typeIs (by decide) ?_)
  refine wpAny_bind (wpAny_callSpecial?_slot (name := Str.ofString "__getitem__") ht.typeIs PyProof.Rows.slot_tuple_getitem
    (wpAny_call_entry PyProof.Rows.slot_tuple_getitem ht.typeIs entry_tuple_getitem ?_ (args_tuple_getitem _ _)))
  show wpAny _ _ (Builtin.Tuple.tupleItemsOf (.ref t) >>= _) _ _ s
  refine wpAny_bind (tupleItemsOf_ ht ?_)
  refine wpAny_bind (wpAny_typeOf hTs ?_)
  rw [if_pos (by decide)]
  refine wpAny_bind (sliceApplied_rev hs ps ?_)
  have hno : ¬ ((((items.size : Nat) : Int) - 1 == 0 && (-1 : Int) == 1 && items.size == items.size) = true) := by
    intro q
    rw [Bool.and_eq_true, Bool.and_eq_true] at q
    exact absurd q.1.2 (by decide)
  show wpAny _ _ (if (((items.size : Nat) : Int) - 1 == 0 && (-1 : Int) == 1 && items.size == items.size) = true then _ else _) _ _ s
  rw [if_neg hno, pick_rev]
  first
    | exact wpAny_bind (m := Builtin.Tuple.tupleExact _) (wpAny_newObj_type (wpAny_pure ⟨_, rfl, wpAny_pure h⟩) htake)
    | exact wpAny_bind (m := Builtin.Tuple.tupleExact _) (wpAny_newObj_type (wpAny_bind (wpAny_pure (wpAny_pure ⟨_, rfl, wpAny_pure h⟩))) htake)
    | exact wpAny_bind (wpAny_bind (m := Builtin.Tuple.tupleExact _) (wpAny_newObj_type (wpAny_pure (wpAny_pure ⟨_, rfl, wpAny_pure h⟩)) htake))
    | exact wpAny_bind (wpAny_bind (m := Builtin.Tuple.tupleExact _) (wpAny_newObj_type (wpAny_pure ⟨_, rfl, wpAny_pure h⟩) htake))
end
def tRevT (K : PySem.W.Frag) (te : TE) : TE := fun σ H Q => te σ H fun x H1 => ∃ a xs, x = .ref a ∧ SqT K H1 a xs ∧ ∀ p, H1 p = none → Q (.ref p) (upd H1 p (.tup xs.reverse))
theorem pe_revT {X : Cx} {e : Expr} {te : TE} {k : Nat} {p1 p2 p3 pos : Pos} (he : PE X e te) : PE X (.Subscript e (.Slice none none (some (.UnaryOp .USub (.Constant (.int 1) k p1) p2)) p3) pos) (tRevT X.K te) := by
  refine ⟨fun pins s σ H Q I h => ?_⟩
  refine Subscript_ (thn (he.run pins s σ H _ I h) fun v s1 ⟨x, H1, I1, r1, q1⟩ => ?_)
  obtain ⟨a, xs, ex, hx, q⟩ := q1
  subst ex
  cases r1
  have hst : PO X (some (.UnaryOp .USub (.Constant (.int 1) k p1) p2)) (tPart (tUn (rU fun i => .int (-i)) (tC (.int 1)))) := po_some (pe_un un_neg pe_int)
  refine wpAny_Slice (thn (po_none.run pins s1 σ H1 (fun o H2 => o = none ∧ H2 = H1) I1 ⟨rfl, rfl⟩) fun vl s2 ⟨l, H2, I2, pl, el, e2⟩ => ?_)
  subst el e2
  refine thn (po_none.run pins s2 σ H2 (fun o H3 => o = none ∧ H3 = H2) I2 ⟨rfl, rfl⟩) fun vu s3 ⟨u, H3, I3, pu, eu, e3⟩ => ?_
  subst eu e3
  refine thn (hst.run pins s3 σ H3 (fun o H4 => o = some (-1) ∧ H4 = H3) I3 ⟨1, rfl, -1, rfl, rfl, rfl⟩) fun vs s4 ⟨o, H4, I4, ps, eo, e4⟩ => ?_
  subst eo e4
  cases pl
  cases pu
  have I5 : Inv X pins σ H4 { s4 with heap := s4.heap.push { cls := .type "slice", data := .fields #[.none, .none, vs] } } := I4.kept (t' := s4.toks) fun b ob q => Heap.get?_push_of_some _ q
  obtain ⟨its, r, ht, hz⟩ := I5.tuple hx
  have hlen := r.length
  refine tail_any (ops := [.ref a, .ref s4.heap.objs.size]) ht.typeIs (PyProof.Rows.slot_tuple_getitem.lookup) ?_ (by with_unfolding_all rfl)
  refine getItem_tuple_rev ht (Heap.IsSliceOf.new _ .none .none vs) ps ?_ (by rw [List.size_toArray]; omega)
  refine ⟨.ref _, _, I5.laid (t' := s4.toks) (o := .tup xs.reverse) (fun b ob q => Heap.get?_push_of_some _ q) (Nat.le_refl _) ?_, rfl, q _ (I5.hok.fresh (Nat.le_refl _))⟩
  exact ⟨by rw [List.length_reverse]; exact hz, _, r.reverse, IsTup.new _ _⟩
def dRevT : D → Option D
  | .tup ds => some (.tup ds.reverse)
  | _ => none
section
variable {X : Cx} {c : Cn} {E : XK} {e : Expr} {fa : FE}
theorem repL_rev {K : PySem.W.Frag} {W : Wd} : ∀ {ds : List D} {vs : List V}, RepL K c W ds vs → RepL K c W ds.reverse vs.reverse
  | [], vs, r => by cases r; rfl
  | d :: ds, vs, r => by
    obtain ⟨v, us, rfl, r1, r2⟩ := r
    rw [List.reverse_cons, List.reverse_cons]
    exact repL_append (repL_rev r2) ⟨v, [], rfl, r1, rfl⟩
theorem me_revT {k : Nat} {p1 p2 p3 pos : Pos} (he : PE X e (tB X.K c E fa)) : PE X (.Subscript e (.Slice none none (some (.UnaryOp .USub (.Constant (.int 1) k p1) p2)) p3) pos) (tM X.K c E (op1 dRevT fa)) :=
  pe_imp (pe_revT he) fun σ H Q h => by
    obtain ⟨W, ρ, S, st, en, q⟩ := tM_un h
    refine then_B (O := OutM X.K c W H E Q) st en (fun _ _ _ z => z) (fun z => z) q fun d S1 W1 H1 v st1 k1 r1 q1 => ?_
    cases d <;> first | exact q1.elim | skip
    obtain ⟨p, vs, rfl, h1, h1', r2⟩ := r1.tup st1
    exact ⟨p, vs, rfl, SqT.of h1, fun l hl => q1 _ _ _ (lay_st st1 hl) (k1.tr st1 (lay_keep st1 hl)) (new_tup st1 hl (repL_rev r2))⟩
end
end Mini
namespace Mini
open PySem PySem.Spec PyProof.Rows L2 Evl
theorem tk_body {P : Program} {w : World} {K : PySem.W.Frag} {mg : Str → Option Value} {base : Heap} {N : List Str} {qual : Str} {sc : Scope} {f : Addr} {cd : Value} {A : Around} {outer : List Env} {s : Shared} {H : Hp} {E : XK} :
    Takes (cxOf (L2.CX P w) P w K mg base N qual sc f cd A outer s H E) (fun cls d _ H => E cls d H) := takes_of rfl rfl rfl rfl
/-- what is not come to -/
def noE : FE := fun _ => no
theorem me_noE {X : Cx} {c : Cn} {E : XK} {e : Expr} : PE X e (tM X.K c E noE) := ⟨fun pins s σ H Q I h => by
  obtain ⟨W, ρ, S, st, en, q⟩ := h
  exact q.elim⟩
theorem ms_raise' {X : Cx} {c : Cn} {E : XK} {x : Str} {n : Nat} {e : Expr} {fa : FE} {p pos pos' : Pos} (T : ErrC X.K X.prog.main.file (c.ca n) (c.fld n)) (htop : (X.prog.main.scope.names.lookup ("super" : Str)).isSome = false) (hr : Room 1 X.A) (hc : X.calm = true) (tk : Takes X (fun cls d _ H => E cls d H)) (hm : X.mg x = some (.ref (c.ca n)))
    (hms : X.mg "super" = none) (ha : PE X e (tM X.K c E fa)) (hg : X.env.kindOf x = some .globalImplicit := by kernel_rfl) (hdb : (x == ("__debug__" : Str)) = false := by kernel_rfl) (he : starEach [e] X.env = [(false, eval e X.env)] := by rfl) : PS X (.Raise (some (.Call (.Name x p) [e] [] pos)) none pos') (tS X.K c E (raiseS n fa)) :=
  ms_raise (k := 0) T htop hr hc tk hg hm hms ha hdb he
theorem ms_tryW' {X : Cx} {c : Cn} {E : XK} {x n : Str} {i k : Nat} {f : Addr} {fd : FuncData} {body : List Stmt} {g : FS} {np q q1 q2 q3 pos pos' : Pos} (hs : X.stack = X.env :: X.outer) (hf : X.env.frame = some X.env.locals) (hN : X.N.Nodup) (hm5 : X.mg x = some (.ref (c.ca 5)))
    (tk : Takes X (fun cls d _ H => E cls d H)) (hfld : ∀ j, j < 4 → c.fld j = "reason") (F : FnW X.prog X.w X.K X.mg X.base (L2.CX X.prog X.w) k f fd ["error"] (spW c.ca)) (hr : Room k X.A) (hm : X.mg "_law_word" = some (.ref f)) (hk : PySem.W.keepIn X.K (.ref f) = true) (hb : Binds X.K fd ["error"] [])
    (hex : ∀ j, j < 4 → PySem.W.exmOne X.K (.ref (c.ca j)) (.ref (c.ca 5)) = some true)
    (hbody : ∀ (pn : List (Addr × Obj)) (xe : Value → Shared → Prop) (E' : XK), Passes (L2.CX X.prog X.w) (X.tr pn xe) E' → PSs (X.tr pn xe) body (tS X.K c E' g))
    (hi : X.N[i]? = some n := by kernel_rfl) (hln : X.env.scope.names.lookup n = some .local := by kernel_rfl) (hg5 : X.env.kindOf x = some .globalImplicit := by kernel_rfl) (hd5 : (x == ("__debug__" : Str)) = false := by kernel_rfl) (hg : X.env.kindOf "_law_word" = some .globalImplicit := by kernel_rfl)
    (hd : (n == ("__debug__" : Str)) = false := by kernel_rfl) (hcd : (n == ("__classdict__" : Str)) = false := by kernel_rfl) (hst : starEach [Expr.Name n q1] X.env = (false, eval (Expr.Name n q1) X.env) :: starEach [] X.env := by rfl) :
    PS X (.Try body [.ExceptHandler (some (.Name x np)) (some n) [.Return (some (.Call (.Name "_law_word" q) [.Name n q1] [] q2)) q3] pos'] [] [] pos) (tS X.K c E (tryWS g wdW)) :=
  ms_tryW hs hf hN hi hln ⟨hg5, hd5, .inl hm5⟩ tk hfld F hr hg hm hk hb hex hd hcd hst hbody
end Mini
namespace Mini
open PySem PySem.Spec PyProof.Rows L2 Evl
/-! ### exact tuples: displays, +, slices, [::-1], * -/
def exO (us : List Value) : Obj := { cls := .type "tuple", data := .seq us.toArray }
theorem exO_ok {P : Program} {w : World} {H : Hp} {h : Heap} {xs : List V} {us : List Value} (hz : xs.length ≤ sizeLine) (r : Vals xs us) : ObjOk P w H (h.push (exO us)) h.objs.size (.frz (exO us) (.tup xs)) := ⟨Heap.get?_push_size _ rfl, hz, us, r, IsTup.new _ _⟩
/-- a new exact tuple -/
theorem inv_ex {X : Cx} {pins : List (Addr × Obj)} {σ : L2.St} {H : Hp} {s : Shared} {xs : List V} {us : List Value} (I : Inv X pins σ H s) (hz : xs.length ≤ sizeLine) (r : Vals xs us) :
    Inv X pins σ (upd H s.heap.objs.size (.frz (exO us) (.tup xs))) { s with heap := s.heap.push (exO us) } := I.laid (t' := s.toks) (o := .frz (exO us) (.tup xs)) (fun b ob q => Heap.get?_push_of_some _ q) (Nat.le_refl _) (exO_ok hz r)
def NewX (H : Hp) (xs : List V) (Q : VK) : Prop := ∀ p o, o.dict = none → H p = none → Q (.ref p) (upd H p (.frz o (.tup xs)))
theorem NewX.ep {X : Cx} {pins : List (Addr × Obj)} {σ : L2.St} {H : Hp} {s : Shared} {xs : List V} {us : List Value} {Q : VK} (q : NewX H xs Q) (I : Inv X pins σ H s) (hz : xs.length ≤ sizeLine) (r : Vals xs us) : EP X pins σ Q (.ref s.heap.objs.size) { s with heap := s.heap.push (exO us) } :=
  ⟨.ref s.heap.objs.size, _, inv_ex I hz r, rfl, q _ _ rfl (I.hok.fresh (Nat.le_refl _))⟩
def tTupX (t : TA) : TE := fun σ H Q => t σ H fun xs H1 => xs.length ≤ sizeLine ∧ NewX H1 xs Q
theorem pe_tupX {X : Cx} {es : List Expr} {t : TA} {x1 : Nat} {pos : Pos} (h : PA X es t) : PE X (.Tuple es x1 pos) (tTupX t) := by
  refine ⟨fun pins s σ H Q I hq => ?_⟩
  refine wpAny_Tuple_spliced (thn (h.run pos pins s σ H _ I hq) fun us s1 ⟨xs, H1, I1, r, z, q⟩ => ⟨by rw [← r.length]; exact z, q.ep I1 z r⟩)
def IsX (H : Hp) (a : Addr) (xs : List V) : Prop := ∃ o, H a = some (.frz o (.tup xs))
theorem IsX.sq {K : PySem.W.Frag} {H : Hp} {a : Addr} {xs : List V} (h : IsX H a xs) : SqT K H a xs := by
  obtain ⟨o, h⟩ := h
  exact .inl (.inr ⟨o, h⟩)
def rCatX (K : PySem.W.Frag) : R2 := fun x y H Q => ∃ a b xs ys, x = .ref a ∧ y = .ref b ∧ SqT K H a xs ∧ SqT K H b ys ∧ xs.length + ys.length ≤ sizeLine ∧ (xs = [] → Q (.ref b) H) ∧ (xs ≠ [] → ys = [] → Q (.ref a) H) ∧ NewX H (xs ++ ys) Q
theorem op_catX {X : Cx} : OpR X (binaryOp .Add) (rCatX X.K) := by
  intro pins s σ H x y v u Q I rx ry h
  obtain ⟨a, b, xs, ys, rfl, rfl, ha, hb, hz, q0, q1, q2⟩ := h
  cases rx
  cases ry
  obtain ⟨its, r1, p1, _⟩ := I.tuple ha
  obtain ⟨its2, r2, p2, _⟩ := I.tuple hb
  by_cases hx : xs = []
  · subst hx
    cases r1
    exact cat_tup0 p1 p2 ⟨.ref b, H, I, rfl, q0 rfl⟩
  · refine HT.cat_tup p1 p2 (fun z => hx (r1.nil_iff.mp z)) (fun z => ⟨.ref a, H, I, rfl, q1 hx (r2.nil_iff.mp z)⟩) (fun z => ?_) (by rw [← r1.length, ← r2.length]; exact hz)
    exact q2.ep I (by rw [List.length_append]; exact hz) (r1.append r2)
def rSlX (K : PySem.W.Frag) : V → Option Int → Option Int → Hp → VK → Prop := fun x lo hi H Q => ∃ a xs, x = .ref a ∧ SqT K H a xs ∧
  (HT.sIx xs.length 0 lo = 0 ∧ HT.sIx xs.length xs.length hi = xs.length → Q (.ref a) H) ∧ NewX H (cutV xs lo hi) Q
theorem sl_tupX {X : Cx} : SlR X (rSlX X.K) := by
  intro pins s σ H x v vl vu lo hi sl Q I rx hs pl pu h
  obtain ⟨a, xs, rfl, hx, q1, q2⟩ := h
  cases rx
  obtain ⟨its, r, ht, hz⟩ := I.tuple hx
  have hlen : its.toArray.size = xs.length := by rw [List.size_toArray]; exact r.length.symm
  refine ⟨"tuple", _, PyProof.Rows.slot_tuple_getitem.lookup, ht.typeIs, ?_⟩
  by_cases hw : HT.sIx xs.length 0 lo = 0 ∧ HT.sIx xs.length xs.length hi = xs.length
  · exact getItem_tuple_whole ht hs pl pu (by rw [hlen]; exact hw) ⟨.ref a, H, I, rfl, q1 hw⟩
  · refine HT.getItem_tuple_cut ht hs pl pu (by rw [hlen]; exact hw) ?_ (by rw [hlen]; exact hz)
    rw [hlen]
    exact q2.ep I (Nat.le_trans (cutV_length xs lo hi) hz) ((r.drop (HT.sIx xs.length 0 lo)).take (HT.sIx xs.length xs.length hi - HT.sIx xs.length 0 lo))
/-- t * k -/
def rRepX (K : PySem.W.Frag) : R2 := fun x y H Q => ∃ l k xs, x = .ref l ∧ y = .int k ∧ SqT K H l xs ∧ xs ≠ [] ∧ 2 ≤ k ∧ k ≤ 1000 ∧ xs.length ≤ 1000 ∧ NewX H (List.replicate k.toNat xs).flatten Q
theorem op_repX {X : Cx} : OpR X (binaryOp .Mult) (rRepX X.K) := fun pins s σ H x y v u Q I rx ry h => by
  obtain ⟨l, k, xs, rfl, rfl, hT, hne, h1, h2, hz, q⟩ := h
  obtain rfl : v = Value.ref l := rx
  obtain ⟨tk, rfl⟩ := ry
  obtain ⟨us, r, it, hs⟩ := I.tuple hT
  obtain ⟨ob, ho, hc, n, hd⟩ := id it
  obtain ⟨c1, dd, dt, sl⟩ := ob
  cases (show c1 = .type "tuple" from hc)
  cases (show dt = .seq us.toArray n from hd)
  have len : us.length = xs.length := r.length.symm
  have ne : us.toArray.isEmpty = false := by
    match us, len with
    | [], e => exact absurd (List.eq_nil_of_length_eq_zero e.symm) hne
    | _ :: _, _ => rfl
  have sz : us.toArray.size = xs.length := by simpa using len
  have m1 : ((xs.length : Nat) : Int) * k ≤ 1000 * 1000 := Int.le_trans (Int.mul_le_mul_of_nonneg_right (show ((xs.length : Nat) : Int) ≤ 1000 by omega) (by omega)) (Int.mul_le_mul_of_nonneg_left h2 (by decide))
  have total : (List.replicate k.toNat us).flatten.length ≤ sizeLine := by
    have m2 : k.toNat * us.length ≤ 1000 * 1000 := Nat.mul_le_mul (by omega) (by omega)
    rw [PyProof.Rows.lm_len_rep_flat, sizeLine_eq]
    omega
  have totalX : (List.replicate k.toNat xs).flatten.length ≤ sizeLine := by
    rw [PyProof.Rows.lm_len_rep_flat, ← len, ← PyProof.Rows.lm_len_rep_flat]
    exact total
  have few : Builtin.Tuple.tupleTooMany (((us.toArray.size : Nat) : Int) * k) = false := decide_eq_false (by rw [sz, sizeLine_eq]; omega)
  have W := tuple_mulW l us.toArray n dd sl k tk (by simp only [Bool.or_eq_false_iff, decide_eq_false_iff_not]; exact ⟨by omega, by omega⟩) (by rw [ne, Bool.false_or, beq_eq_false_iff_ne]; omega) (by rw [ne, Bool.or_false, decide_eq_false_iff_not]; omega) (by rw [sz]; omega) few (by rw [size_rep, List.size_toArray]; exact total)
  refine wpAny_binaryOp_repeat_ref (T := "tuple") (U := "int") (by decide) ⟨_, ho, rfl⟩ (fun s' => typeIs_int s' k tk) noFill_tuple_mul F.fills_int_mul F.slot_int_rmul repeat_tuple F.slot_int_index.lookup (call_meets F.slot_int_rmul (typeIs_int s k tk) F.entry_int_rmul (F.args_int_rmul_2 _ _) (int_rmul_tuple k tk l us.toArray n dd sl) ⟨ho, ?_⟩)
  refine ⟨rfl, ⟨_, ho, rfl⟩, call_meets F.slot_tuple_mul ⟨_, ho, rfl⟩ F.entry_tuple_mul (F.args_tuple_mul_2 _ _) W ⟨ho, ?_⟩⟩
  rw [size_rep]
  exact q.ep I totalX (r.rep k.toNat)
end Mini
namespace Mini
open PySem PySem.Spec PyProof.Rows L2 Evl
/-! ### the mirrors of exact tuples -/
section
variable {K : PySem.W.Frag} {c : Cn} {W : Wd} {H : Hp} {S : DS} {Q : VK}
theorem RepB.x {ds : List D} {v : V} (r : RepB K c W H (.tpx ds) v) : Rep K c W (.tpx ds) v := by
  rcases r with r | ⟨_, _, _, r⟩
  · exact r
  · exact r.elim
/-- a new exact tuple, frozen -/
theorem newX_of {ds : List D} {vs : List V} (st : StOk K c W H S) (r : RepL K c W ds vs) (k : ∀ W' H' x, StOk K c W' H' S → Keep W H W' H' → Rep K c W' (.tpx ds) x → Q x H') : NewX H vs Q :=
  fun l o ho hl => k _ _ _ (lay_st st hl) (lay_keep st hl) ⟨l, vs, o, rfl, upd_same, ho, RepL.ext (frz_ex (fresh_back st.sub hl)) _ vs r⟩
end
def tpxE (a : FA) : FE := fun ρ => bd (a ρ) fun xs => if xs.length ≤ 16777216 then rt (.tpx xs) else no
def dAddP : D → D → Option D
  | .tpx a, .tpx b => if a.length + b.length ≤ 16777216 then some (.tpx (a ++ b)) else none
  | d, e => dAdd d e
def dMulP : D → D → Option D
  | .tpx xs, .int k => if xs ≠ [] ∧ 2 ≤ k ∧ k ≤ 1000 ∧ xs.length ≤ 1000 then some (.tpx (List.replicate k.toNat xs).flatten) else none
  | d, e => dMulX d e
def dRevX : D → Option D
  | .tpx ds => some (.tpx ds.reverse)
  | _ => none
def dCutP (lo hi : Option Int) : D → Option D
  | .tpx ds => some (.tpx (cutG ds lo hi))
  | _ => none
def slcP (a : FE) (lo hi : FP) : FE := fun ρ => bd (a ρ) fun x => bd (lo ρ) fun l => bd (hi ρ) fun h => lift (dCutP l h x)
section
variable {X : Cx} {c : Cn} {E : XK} {e : Expr} {es : List Expr} {fa : FE} {ga : FA} {fl fh : FP} {lo hi : Option Expr} {pos p2 : Pos} {x1 : Nat}
theorem me_tupX (h : PA X es (tA X.K c E ga)) : PE X (.Tuple es x1 pos) (tM X.K c E (tpxE ga)) :=
  pe_imp (pe_tupX h) fun σ H Q h => by
    obtain ⟨W, ρ, S, st, en, q⟩ := tM_un h
    refine then_A (O := OutM X.K c W H E Q) st en (fun _ _ _ z => z) (fun z => z) q fun ds S1 W1 H1 vs st1 k1 r1 q1 => ?_
    split at q1
    · rename_i hl
      exact ⟨line_le (by rw [RepL.length r1]; exact hl), newX_of st1 r1 fun W' H' x st' k' r' => q1 W' H' x st' (k1.tr st1 k') r'⟩
    · exact q1.elim
def rAddP (K : PySem.W.Frag) : R2 := fun x y H Q => rCatX K x y H Q ∨ rAddAll K x y H Q
theorem op_addP : OpR X (binaryOp .Add) (rAddP X.K) := op_catX.or op_addAll
theorem m_addP : OpM X.K c (rAddP X.K) dAddP := fun {W H S d e d' v u} Q st a b q k => by
  by_cases hx : (∃ ds, d = .tpx ds) ∧ ∃ es, e = .tpx es
  · obtain ⟨⟨ds, rfl⟩, es, rfl⟩ := hx
    have q : (if ds.length + es.length ≤ 16777216 then some (D.tpx (ds ++ es)) else none) = some d' := q
    split at q
    · rename_i hl
      cases q
      obtain ⟨p1, vs, rfl, h1, r1⟩ := a.tpx st
      obtain ⟨p2, us, rfl, h2, r2⟩ := b.tpx st
      refine .inl ⟨p1, p2, vs, us, rfl, rfl, h1, h2, line_le (by rw [RepL.length r1, RepL.length r2]; exact hl), fun z => ?_, fun _ z => ?_, newX_of st (repL_append r1 r2) k⟩
      · have z' := (repL_isNil r1).mp z
        subst z'
        exact k W H _ st (Keep.refl W H) b.x
      · have z' := (repL_isNil r2).mp z
        subst z'
        rw [List.append_nil] at k
        exact k W H _ st (Keep.refl W H) a.x
    · cases q
  · refine .inr (m_add (X := X) Q st a b ?_ k)
    cases d <;> cases e <;> first | exact q | exact absurd ⟨⟨_, rfl⟩, _, rfl⟩ hx
def rMulP (K : PySem.W.Frag) : R2 := fun x y H Q => rRepX K x y H Q ∨ (rI CMulW (fun i j => .int (i * j)) x y H Q ∨ rRep x y H Q)
theorem op_mulP : OpR X (binaryOp .Mult) (rMulP X.K) := op_repX.or op_mulAll
theorem m_mulP : OpM X.K c (rMulP X.K) dMulP := fun {W H S d e d' v u} Q st a b q k => by
  by_cases hx : (∃ ds, d = .tpx ds) ∧ ∃ i, e = .int i
  · obtain ⟨⟨ds, rfl⟩, i, rfl⟩ := hx
    have q : (if ds ≠ [] ∧ 2 ≤ i ∧ i ≤ 1000 ∧ ds.length ≤ 1000 then some (D.tpx (List.replicate i.toNat ds).flatten) else none) = some d' := q
    split at q
    · rename_i hl
      cases q
      obtain ⟨p1, vs, rfl, h1, r1⟩ := a.tpx st
      exact .inl ⟨p1, i, vs, rfl, b.int, h1, fun z => hl.1 ((repL_isNil r1).mp z), hl.2.1, hl.2.2.1, by rw [RepL.length r1]; exact hl.2.2.2, newX_of st (repL_rep r1 _) k⟩
    · cases q
  · refine .inr (m_mulAll (X := X) Q st a b ?_ k)
    cases d <;> cases e <;> first | exact q | exact absurd ⟨⟨_, rfl⟩, _, rfl⟩ hx
theorem me_slcP (ha : PE X e (tB X.K c E fa)) (hl : PO X lo (tP X.K c E fl)) (hh : PO X hi (tP X.K c E fh)) : PE X (.Subscript e (.Slice lo hi none p2) pos) (tM X.K c E (slcP fa fl fh)) :=
  pe_imp (pe_slice sl_tupX ha hl hh) fun σ H Q h => by
    obtain ⟨W, ρ, S, st, en, q⟩ := tM_un h
    refine slc_run (O := fun W H Q r => OutM X.K c W H E Q r) st en (fun _ _ _ _ _ z => z) (fun _ _ z => z) (fun _ _ _ _ _ _ z k s => OutM.pre (Q' := Q) z k s) q fun W H S v d d' l h st r e' k => ?_
    cases d <;> first | (cases e'; done) | skip
    rename_i ds
    cases e'
    obtain ⟨p, vs, rfl, h1, r1⟩ := r.tpx st
    refine ⟨p, vs, rfl, h1, fun hw => ?_, newX_of st (repL_cut l h r1) k⟩
    have e2 : cutG ds l h = ds := by
      unfold cutG
      rw [← RepL.length r1, hw.1, hw.2, List.drop_zero, Nat.sub_zero, RepL.length r1, List.take_length]
    rw [e2] at k
    exact k W H _ st (Keep.refl W H) r.x
def tRevX (K : PySem.W.Frag) (te : TE) : TE := fun σ H Q => te σ H fun x H1 => ∃ a xs, x = .ref a ∧ SqT K H1 a xs ∧ NewX H1 xs.reverse Q
theorem pe_revX {te : TE} {k : Nat} {p1 p2 p3 pos : Pos} (he : PE X e te) : PE X (.Subscript e (.Slice none none (some (.UnaryOp .USub (.Constant (.int 1) k p1) p2)) p3) pos) (tRevX X.K te) := ⟨fun pins s σ H Q I h => by
  refine Subscript_ (thn (he.run pins s σ H _ I h) fun v s1 ⟨x, H1, I1, r1, a, xs, ex, hx, q⟩ => ?_)
  subst ex
  obtain rfl : v = Value.ref a := r1
  have step : PO X (some (.UnaryOp .USub (.Constant (.int 1) k p1) p2)) (tPart (tUn (rU fun i => .int (-i)) (tC (.int 1)))) := po_some (pe_un un_neg pe_int)
  refine wpAny_Slice (thn (po_none.run pins s1 σ H1 (fun o H2 => o = none ∧ H2 = H1) I1 ⟨rfl, rfl⟩) fun vl s2 ⟨l, H2, I2, pl, el, e2⟩ => thn (po_none.run pins s2 σ H2 (fun o H3 => o = none ∧ H3 = H2) I2 ⟨rfl, rfl⟩) fun vu s3 ⟨u, H3, I3, pu, eu, e3⟩ =>
    thn (step.run pins s3 σ H3 (fun o H4 => o = some (-1) ∧ H4 = H3) I3 ⟨1, rfl, -1, rfl, rfl, rfl⟩) fun vs s4 ⟨o, H4, I4, ps, eo, e4⟩ => ?_)
  subst el e2 eu e3 eo e4
  cases pl
  cases pu
  have I5 : Inv X pins σ H4 { s4 with heap := s4.heap.push { cls := .type "slice", data := .fields #[.none, .none, vs] } } := I4.kept (t' := s4.toks) fun b ob w => Heap.get?_push_of_some _ w
  obtain ⟨us, r, it, hz⟩ := I5.tuple hx
  refine tail_any (ops := [.ref a, .ref s4.heap.objs.size]) it.typeIs (PyProof.Rows.slot_tuple_getitem.lookup) (getItem_tuple_rev it (Heap.IsSliceOf.new _ .none .none vs) ps ?_ (by rw [List.size_toArray, ← r.length]; exact hz)) (by with_unfolding_all rfl)
  exact q.ep I5 (by rw [List.length_reverse]; exact hz) r.reverse⟩
theorem me_revX {k : Nat} {p1 p2 p3 pos : Pos} (he : PE X e (tB X.K c E fa)) : PE X (.Subscript e (.Slice none none (some (.UnaryOp .USub (.Constant (.int 1) k p1) p2)) p3) pos) (tM X.K c E (op1 dRevX fa)) :=
  pe_imp (pe_revX he) fun σ H Q h => by
    obtain ⟨W, ρ, S, st, en, q⟩ := tM_un h
    refine then_B (O := OutM X.K c W H E Q) st en (fun _ _ _ z => z) (fun z => z) q fun d S1 W1 H1 v st1 k1 r1 q1 => ?_
    cases d <;> first | exact q1.elim | skip
    obtain ⟨p, vs, rfl, h1, r2⟩ := r1.tpx st1
    exact ⟨p, vs, rfl, h1, newX_of st1 (repL_rev r2) fun W' H' x st' k' r' => q1 W' H' x st' (k1.tr st1 k') r'⟩
end
end Mini
namespace Mini
open PySem PySem.Spec PyProof.Rows L2 Evl
/-! ### comprehensions with two clauses -/
def lcL2 (t : TGd) (test : FB) (it1 : FI) (t1 : TGd) (test1 : FB) (elt : FE) (vs1 : List Nat) : List D → List D → En → M (List D)
  | [], acc, _ => rt acc
  | d :: ds, acc, ρ => bd (lift (t d ρ)) fun ρ1 => bd (noEr (test ρ1)) fun k =>
      if k then bd (noEr (it1 ρ1)) fun ds1 => bd (lcL t1 test1 elt ds1 acc (wipeR ρ1 vs1)) fun acc' => lcL2 t test it1 t1 test1 elt vs1 ds acc' ρ
      else lcL2 t test it1 t1 test1 elt vs1 ds acc ρ
def lc2E (it : FI) (t : TGd) (test : FB) (it1 : FI) (t1 : TGd) (test1 : FB) (elt : FE) (vs vs1 : List Nat) : FE := fun ρ => bd (it ρ) fun ds => bd (lcL2 t test it1 t1 test1 elt vs1 ds [] (wipeR ρ vs)) fun r => rt (.lst r)
theorem lcL_bd {β : Type} (t : TGd) (test : FB) (elt : FE) (d : D) (ds acc : List D) (ρ : En) (f : List D → M β) (S : DS) : bd (lcL t test elt (d :: ds) acc ρ) f S = bd (lift (t d ρ)) (fun ρ1 => bd (noEr (test ρ1)) fun k =>
      if k then bd (noEr (elt ρ1)) fun x => if acc.length < 16777216 then bd (lcL t test elt ds (acc ++ [x]) ρ) f else no
      else bd (lcL t test elt ds acc ρ) f) S := by
  rw [lcL]
  cases e : t d ρ with
  | none => rfl
  | some ρ1 =>
    show bd (bd (noEr (test ρ1)) _) f S = bd (noEr (test ρ1)) _ S
    cases e1 : noEr (test ρ1) S with
    | no => simp only [bd, e1]
    | er n p S' => simp only [bd, e1]
    | ok k S1 =>
      simp only [bd, e1]
      cases k with
      | false =>
        simp only [Bool.false_eq_true, if_false]
        rfl
      | true =>
        simp only [if_true]
        cases e2 : noEr (elt ρ1) S1 with
        | no => simp only [bd, e2]
        | er n p S' => simp only [bd, e2]
        | ok x S2 =>
          simp only [bd, e2]
          by_cases hl : acc.length < 16777216
          · simp only [if_pos hl]
            rfl
          · simp only [if_neg hl]
            rfl
theorem noEr_er {α : Type} {m : M α} {S S' : DS} {n : Nat} {p : D} : noEr m S ≠ .er n p S' := fun h => by
  unfold noEr at h
  cases e : m S with
  | ok a s => rw [e] at h; cases h
  | er a b s => rw [e] at h; cases h
  | no => rw [e] at h; cases h
theorem lcL2_noEr (t : TGd) (test : FB) (it1 : FI) (t1 : TGd) (test1 : FB) (elt : FE) (vs1 : List Nat) : ∀ (ds acc : List D) (ρ : En) (S : DS) (n : Nat) (p : D) (S' : DS), lcL2 t test it1 t1 test1 elt vs1 ds acc ρ S ≠ .er n p S'
  | [], acc, ρ, S, n, p, S' => by intro h; cases h
  | d :: ds, acc, ρ, S, n, p, S' => by
    intro h
    unfold lcL2 bd at h
    cases e : t d ρ with
    | none => rw [e] at h; cases h
    | some ρ1 =>
      rw [e] at h
      change bd (noEr (test ρ1)) _ S = _ at h
      unfold bd at h
      cases e1 : noEr (test ρ1) S with
      | no => rw [e1] at h; cases h
      | er n p S' => exact noEr_er e1
      | ok k S1 =>
        rw [e1] at h
        cases k with
        | false => exact lcL2_noEr t test it1 t1 test1 elt vs1 ds acc ρ S1 n p S' h
        | true =>
          change bd (noEr (it1 ρ1)) _ S1 = _ at h
          unfold bd at h
          cases e2 : noEr (it1 ρ1) S1 with
          | no => rw [e2] at h; cases h
          | er n p S' => exact noEr_er e2
          | ok ds1 S2 =>
            rw [e2] at h
            change bd (lcL t1 test1 elt ds1 acc (wipeR ρ1 vs1)) _ S2 = _ at h
            unfold bd at h
            cases e3 : lcL t1 test1 elt ds1 acc (wipeR ρ1 vs1) S2 with
            | no => rw [e3] at h; cases h
            | er n p S' => exact lcL_noEr _ _ _ _ _ _ _ _ _ _ e3
            | ok acc' S3 =>
              rw [e3] at h
              exact lcL2_noEr t test it1 t1 test1 elt vs1 ds acc' ρ S3 n p S' h
section
variable {K : PySem.W.Frag} {c : Cn} {W W1 W2 W' : Wd} {H H1 H2 H' : Hp} {S S1 S2 S' : DS} {σ σ1 σ2 σ' : L2.St} {ρ ρ1 ρ2 ρ' : En} {E : XK}
theorem owned_wipe {b : Addr} : ∀ vs : List Nat, Owned (L2.wipe σ vs) (wipeR ρ vs) b → Owned σ ρ b
  | [], h => h
  | v :: vs, ⟨i, d, h1, h2⟩ => by
    have h1' : ((wipeR ρ vs).set v .no)[i]? = some (.ow d) := h1
    have h2' : ((L2.wipe σ vs).set v none)[i]? = some (some (.ref b)) := h2
    have ne : v ≠ i := fun e => by
      subst e
      have hi := (List.getElem?_eq_some_iff.mp h1').1
      rw [List.length_set] at hi
      rw [List.getElem?_set_self hi] at h1'
      cases h1'
    rw [List.getElem?_set_ne ne] at h1' h2'
    exact owned_wipe vs ⟨i, d, h1', h2'⟩
theorem thenC_I {f : FI} {β : Type} {g : List D → M β} {R : It → Hp → Prop} {O : Res β → Prop} (st : StOk K c W H S) (en : EnvOk K c W H σ ρ) (hN : ¬ O .no) (h : O (bd (noEr (f ρ)) g S))
    (k : ∀ ds S' W' H' J, StOk K c W' H' S' → Keep W H W' H' → Itr2 K c W' J ds → O (g ds S') → R J H') : tI K c E f σ H R := by
  refine ⟨W, ρ, S, st, en, ?_⟩
  unfold bd noEr at h
  cases e : f ρ S with
  | ok d S' =>
    rw [e] at h
    exact fun W' H' J st' k' r => k d S' W' H' J st' k' r h
  | er n p S' =>
    rw [e] at h
    exact (hN h).elim
  | no =>
    rw [e] at h
    exact (hN h).elim
end
section
variable {X : Cx} {c : Cn} {E : XK} {elt tg iter tg1 iter1 : Expr} {ifs ifs1 : List Expr} {scope : Scope} {own : List (Str × Nat)} {vs1 : List Nat} {pos : Pos} {it it1 : FI} {td td1 : TGd} {test test1 : FB} {fe : FE}
theorem lc2_out {own : List Nat} : ∀ σ H Q, tO X.K c E (lc2E it td test it1 td1 test1 fe own vs1) σ H Q → tLc2 (tI X.K c E it) (tGd X.K c own td) (tT X.K c EF test) (tI X.K c EF it1) (tGd X.K c vs1 td1) (tT X.K c EF test1) (tM X.K c EF fe) own vs1 σ H Q := fun σ H Q h => by
  obtain ⟨W, ρ, S, st, en, q⟩ := tO_un h
  refine ⟨W, ρ, S, st, en, ?_⟩
  unfold lc2E bd at q
  cases e0 : it ρ S with
  | er n p S' => rw [e0] at q; exact q
  | no => rw [e0] at q; exact q
  | ok ds S0 =>
    rw [e0] at q
    intro W0 H0 J st0 k0 wk Dl hD
    have en0 := (en.ext k0).wipe own
    have st1 := new_st (o := .lst []) st0 hD
    have kD : Keep W0 H0 W0 (upd H0 Dl (.lst [])) := new_keep st0 hD
    have noOwn : ∀ (i : Nat) (d : Mini.D), (wipeR ρ own)[i]? = some (.ow d) → (L2.wipe σ own)[i]? ≠ some (some (.ref Dl)) := fun i d h1 h2 => by
      obtain ⟨a, h3, _, _, h4⟩ := en0.ow i d h1
      rw [h2] at h3
      cases h3
      obtain ⟨o, ho⟩ := h4.some
      rw [hD] at ho
      cases ho
    have q0 : OutL X.K c W0 (upd H0 Dl (.lst [])) Dl (fun H1 => Q (.ref Dl) H1) (lcL2 td test it1 td1 test1 fe vs1 ds [] (wipeR ρ own) S0) := by
      change OutO X.K c W H E Q (bd (lcL2 td test it1 td1 test1 fe vs1 ds [] (wipeR ρ own)) (fun r => rt (.lst r)) S0) at q
      unfold bd at q
      cases e1 : lcL2 td test it1 td1 test1 fe vs1 ds [] (wipeR ρ own) S0 with
      | no => rw [e1] at q; exact q
      | er n p S' => exact absurd e1 (lcL2_noEr _ _ _ _ _ _ _ _ _ _ _ _ _ _)
      | ok r S' =>
        rw [e1] at q
        rintro W' H' st' k' ⟨a1, a2, vs, a3, a4⟩
        have there := (kD.toS (σ := []) (ρ := []) st1).there
        have kk : Keep W0 H0 W' H' := by
          refine ⟨k'.wex, fun b o h n => k'.old b o (kD.old b o h n) n fun z => ?_, fun b o h n => ?_, fun b o h e => ?_⟩
          · rw [z, hD] at h
            cases h
          · obtain ⟨o', ho'⟩ := there b o h
            exact k'.fr b o' ho' n
          · obtain ⟨o', ho'⟩ := there b o h
            exact k'.sa b o' ho' e
        refine q W' H' _ st' (k0.tr st0 kk) (RepO.pre (H0 := H) k0 (fun b e => st0.ds.at (k0.wex.2 b e)) ⟨Dl, rfl, hD, a1, a2, vs, a3, a4⟩)
    refine ⟨fun i m H1 => m = ds.length - i ∧ i ≤ ds.length ∧ ∃ W1 S1 acc, StOk X.K c W1 H1 S1 ∧ KeepD W0 (upd H0 Dl (.lst [])) Dl W1 H1 ∧ AccOk X.K c W1 H1 Dl acc ∧ OutL X.K c W0 (upd H0 Dl (.lst [])) Dl (fun H1 => Q (.ref Dl) H1) (lcL2 td test it1 td1 test1 fe vs1 (ds.drop i) acc (wipeR ρ own) S1),
      ⟨ds.length, rfl, Nat.zero_le _, W0, S0, [], st1, (Keep.refl _ _).toD st1, ⟨fresh_back st0.sub hD, sa_ne st0 hD, [], upd_same, rfl⟩, q0⟩, ?_⟩
    rintro i m H1 ⟨rfl, hi, W1, S1, acc, st1, k1, ac1, q1⟩
    have ex1 : Ex W0.H0 H1 := k1.wex.1.trans st1.sub
    by_cases hlt : i < ds.length
    · refine .inr ⟨wk.go i H1 hlt ex1, fun H2 => ∃ W2 S2 acc2, StOk X.K c W2 H2 S2 ∧ KeepD W0 (upd H0 Dl (.lst [])) Dl W2 H2 ∧ AccOk X.K c W2 H2 Dl acc2 ∧ OutL X.K c W0 (upd H0 Dl (.lst [])) Dl (fun H1 => Q (.ref Dl) H1) (lcL2 td test it1 td1 test1 fe vs1 (ds.drop (i + 1)) acc2 (wipeR ρ own) S2), fun H2 n2 => ⟨ds.length - (i + 1), by omega, rfl, hlt, n2⟩, fun x H2 y => ?_⟩
      have hd : ds[i]? = some ds[i] := List.getElem?_eq_getElem hlt
      rw [List.drop_eq_getElem_cons hlt] at q1
      unfold lcL2 bd at q1
      cases e1 : td ds[i] (wipeR ρ own) with
      | none => rw [e1] at q1; exact q1.elim
      | some ρ2 =>
        rw [e1] at q1
        obtain ⟨W2, st2, kk2, r2⟩ := (wk.yld i H1 x H2 _ hd ex1 y).lay st1 k1.wex
        have en1 : EnvOk X.K c W1 H1 (L2.wipe σ own) (wipeR ρ own) := (en0.ext kD).extD k1 noOwn
        refine ⟨W2, wipeR ρ own, S1, ds[i], ρ2, st2, en1.ext kk2, r2, e1, fun σ3 en3 o3 w3 => ⟨w3.trans (wipe_wipe own own fun _ z => z), ?_⟩⟩
        change OutL X.K c W0 (upd H0 Dl (.lst [])) Dl (fun H1 => Q (.ref Dl) H1) (bd (noEr (test ρ2)) _ S1) at q1
        refine thenC_T (O := OutL X.K c W0 (upd H0 Dl (.lst [])) Dl fun H1 => Q (.ref Dl) H1) st2 en3 (fun z => z) q1 fun k S3 W3 H3 st3 k3 q3 => ?_
        have ac3 := (ac1.ext kk2).ext k3
        have kk3 := (k1.trans (kk2.toD st2)).trans (k3.toD st3)
        cases k with
        | false => exact ⟨W3, S3, acc, st3, kk3, ac3, q3⟩
        | true =>
          refine thenC_I (O := OutL X.K c W0 (upd H0 Dl (.lst [])) Dl fun H1 => Q (.ref Dl) H1) st3 (en3.ext k3) (fun z => z) q3 fun ds1 S4 W4 H4 J1 st4 k4 wk1 q4 => ?_
          have enw := ((en3.ext k3).ext k4).wipe vs1
          have noOwn1 : ∀ (i : Nat) (d : Mini.D), (wipeR ρ2 vs1)[i]? = some (.ow d) → (L2.wipe σ3 vs1)[i]? ≠ some (some (.ref Dl)) := fun i d h1 h2 => by
            obtain ⟨i', d', h1', h2'⟩ := o3 Dl (owned_wipe vs1 ⟨i, d, h1, h2⟩)
            exact noOwn i' d' h1' h2'
          have kk4 := kk3.trans (k4.toD st4)
          have ac4 := ac3.ext k4
          refine ⟨fun j k H5 => k = ds1.length - j ∧ j ≤ ds1.length ∧ ∃ W5 S5 acc5, StOk X.K c W5 H5 S5 ∧ KeepD W4 H4 Dl W5 H5 ∧ AccOk X.K c W5 H5 Dl acc5 ∧ OutL X.K c W0 (upd H0 Dl (.lst [])) Dl (fun H1 => Q (.ref Dl) H1) (bd (lcL td1 test1 fe (ds1.drop j) acc5 (wipeR ρ2 vs1)) (fun acc' => lcL2 td test it1 td1 test1 fe vs1 (ds.drop (i + 1)) acc' (wipeR ρ own)) S5),
            ⟨ds1.length, rfl, Nat.zero_le _, W4, S4, acc, st4, (Keep.refl _ _).toD st4, ac4, q4⟩, ?_⟩
          rintro j k H5 ⟨rfl, hj, W5, S5, acc5, st5, k5, ac5, q5⟩
          have ex5 : Ex W4.H0 H5 := k5.wex.1.trans st5.sub
          by_cases hlt1 : j < ds1.length
          · refine .inr ⟨wk1.go j H5 hlt1 ex5, fun H6 => ∃ W6 S6 acc6, StOk X.K c W6 H6 S6 ∧ KeepD W4 H4 Dl W6 H6 ∧ AccOk X.K c W6 H6 Dl acc6 ∧ OutL X.K c W0 (upd H0 Dl (.lst [])) Dl (fun H1 => Q (.ref Dl) H1) (bd (lcL td1 test1 fe (ds1.drop (j + 1)) acc6 (wipeR ρ2 vs1)) (fun acc' => lcL2 td test it1 td1 test1 fe vs1 (ds.drop (i + 1)) acc' (wipeR ρ own)) S6), fun H6 n6 => ⟨ds1.length - (j + 1), by omega, rfl, hlt1, n6⟩, fun x H6 y => ?_⟩
            have hd1 : ds1[j]? = some ds1[j] := List.getElem?_eq_getElem hlt1
            rw [List.drop_eq_getElem_cons hlt1, lcL_bd] at q5
            cases e5 : td1 ds1[j] (wipeR ρ2 vs1) with
            | none =>
              rw [e5] at q5
              exact False.elim q5
            | some ρ6 =>
              rw [e5] at q5
              obtain ⟨W6, st6, kk6, r6⟩ := (wk1.yld j H5 x H6 _ hd1 ex5 y).lay st5 k5.wex
              have en5 : EnvOk X.K c W5 H5 (L2.wipe σ3 vs1) (wipeR ρ2 vs1) := enw.extD k5 noOwn1
              refine ⟨W6, wipeR ρ2 vs1, S5, ds1[j], ρ6, st6, en5.ext kk6, r6, e5, fun σ7 en7 o7 w7 => ⟨w7.trans (wipe_wipe vs1 vs1 fun _ z => z), ?_⟩⟩
              change OutL X.K c W0 (upd H0 Dl (.lst [])) Dl (fun H1 => Q (.ref Dl) H1) (bd (noEr (test1 ρ6)) _ S5) at q5
              refine thenC_T (O := OutL X.K c W0 (upd H0 Dl (.lst [])) Dl fun H1 => Q (.ref Dl) H1) st6 en7 (fun z => z) q5 fun k S7 W7 H7 st7 k7 q7 => ?_
              have ac7 := (ac5.ext kk6).ext k7
              have kk7 := (k5.trans (kk6.toD st6)).trans (k7.toD st7)
              cases k with
              | false => exact ⟨W7, S7, acc5, st7, kk7, ac7, q7⟩
              | true =>
                refine thenC_M (O := OutL X.K c W0 (upd H0 Dl (.lst [])) Dl fun H1 => Q (.ref Dl) H1) st7 (en7.ext k7) (fun z => z) q7 fun d8 S8 W8 H8 v8 st8 k8 r8 q8 => ?_
                obtain ⟨a1, a2, vs, a3, a4⟩ := ac7.ext k8
                split at q8
                · rename_i hlen
                  obtain ⟨s9, k9⟩ := upd_D (o := .lst (vs ++ [v8])) st8 a1 a2 ⟨_, a3⟩
                  refine ⟨vs, a3, line_lt (by rw [RepL.length a4]; exact hlen), W8, S8, acc5 ++ [d8], s9, (kk7.trans (k8.toD st8)).trans k9, ⟨a1, a2, _, upd_same, repL_append a4 ⟨v8, [], rfl, r8, rfl⟩⟩, q8⟩
                · exact False.elim q8
          · have ej : j = ds1.length := by omega
            subst ej
            refine .inl ⟨wk1.stop H5 ex5, ?_⟩
            rw [List.drop_length] at q5
            exact ⟨W5, S5, acc5, st5, kk4.trans k5, ac5, q5⟩
    · have ei : i = ds.length := by omega
      subst ei
      refine .inl ⟨wk.stop H1 ex1, ?_⟩
      rw [List.drop_length] at q1
      exact q1 W1 H1 st1 k1 ac1
theorem me_lc2 (hc : X.calm = true) (hN : X.N.Nodup) (hi : PI X tg iter (tI X.K c E it)) (ok : BlkOk X.N X.env.scope scope own) (hv : ∀ i ∈ vs1, i ∈ own.map (·.2))
    (hg : ∀ (s : Shared) (H : Hp) (C : Addr) (cl : List (Str × Addr)) (fp : List Addr), PG (X.blk s H scope (compEnvC scope cl C X.env) fp) tg (tGd X.K c (own.map (·.2)) td))
    (ht : ∀ (s : Shared) (H : Hp) (C : Addr) (cl : List (Str × Addr)) (fp : List Addr), PTs (X.blk s H scope (compEnvC scope cl C X.env) fp) ifs (tT X.K c EF test))
    (hi1 : ∀ (s : Shared) (H : Hp) (C : Addr) (cl : List (Str × Addr)) (fp : List Addr), PI (X.blk s H scope (compEnvC scope cl C X.env) fp) tg1 iter1 (tI X.K c EF it1))
    (hg1 : ∀ (s : Shared) (H : Hp) (C : Addr) (cl : List (Str × Addr)) (fp : List Addr), PG (X.blk s H scope (compEnvC scope cl C X.env) fp) tg1 (tGd X.K c vs1 td1))
    (ht1 : ∀ (s : Shared) (H : Hp) (C : Addr) (cl : List (Str × Addr)) (fp : List Addr), PTs (X.blk s H scope (compEnvC scope cl C X.env) fp) ifs1 (tT X.K c EF test1))
    (he : ∀ (s : Shared) (H : Hp) (C : Addr) (cl : List (Str × Addr)) (fp : List Addr), PE (X.blk s H scope (compEnvC scope cl C X.env) fp) elt (tM X.K c EF fe)) (hs : ∀ x, foldedSetIterable iter X.env x = pure x := by intro _; rfl) (hs1 : ∀ env x, foldedSetIterable iter1 env x = pure x := by intro _ _; rfl) :
    PE X (.ListComp elt [⟨tg, iter, ifs, 0⟩, ⟨tg1, iter1, ifs1, 0⟩] scope pos) (tO X.K c E (lc2E it td test it1 td1 test1 fe (own.map (·.2)) vs1)) :=
  pe_imp (pe_lc2 hc hN hi ok hv hg ht hi1 hg1 ht1 he hs hs1) lc2_out
end
end Mini
namespace Mini
open PySem PySem.Spec PyProof.Rows L2 Evl
/-! ### l.index(x): the first place of an equal one; it must be there -/
def dIndex : D → D → Option D
  | .lst ds, d => if okEq (.lst ds) && okEq d then ((pyL ds).findIdx? fun z => PyData.eqv z d.py).map fun j => .int (j : Nat) else none
  | _, _ => none
def indexE (fa fb : FE) : FE := fun ρ => bd (fa ρ) fun x => match x with
  | .lst ds => bd (fb ρ) fun y => lift (dIndex (.lst ds) y)
  | _ => no
section
variable {X : Cx} {c : Cn} {E : XK} {a b e o tg : Expr} {es : List Expr} {fa fb fc : FE} {ga : FA} {x y : Str} {p pos apos cpos pa : Pos} {i : Nat}
theorem me_index {k : Nat} (hr : Room k X.A) (ho : PE X o (tB X.K c E fa)) (he : PE X e (tB X.K c E fb)) (m : Mb X o "index" e [] apos cpos := by exact ⟨by kernel_rfl, by kernel_rfl, by kernel_rfl, by kernel_rfl, by kernel_rfl⟩) :
    PE X (.Call (.Attribute o "index" apos) [e] [] cpos) (tM X.K c E (indexE fa fb)) :=
  pe_imp (pe_bm' PySem.F.plainAttrs_list PySem.F.slot_list_index PySem.F.type_list_index (mt_indexD (by have := Room.u64 hr; omega)) ho (pa_cons he pa_nil m.one) m) fun σ H Q h => by
    obtain ⟨W, ρ, S, st, en, q⟩ := tM_un h
    refine then_B (O := OutM X.K c W H E Q) st en (fun _ _ _ z => z) (fun z => z) q fun d S1 W1 H1 v st1 k1 r1 q1 => ?_
    cases d <;> first | exact (show False from q1).elim | skip
    rename_i ds
    obtain ⟨ad, vs, rfl, h1, h2⟩ := r1.lst st1
    refine ⟨.inl ⟨rfl, vs, SqL.of h1⟩, ?_⟩
    refine then_B (O := OutM X.K c W H E Q) st1 (en.ext k1) (fun _ _ _ z => ErQ.pre z k1 st1) (fun z => z) q1 fun d2 S2 W2 H2 u st2 k2 r2 q2 => ?_
    obtain ⟨d', e', q3⟩ := lift_ok (β := D) (O := OutM X.K c W H E Q) (fun z => z) q2
    simp only [dIndex] at e'
    split at e'
    · rename_i z
      rw [Bool.and_eq_true] at z
      obtain ⟨j, hj, rfl⟩ := Option.map_eq_some_iff.mp e'
      obtain ⟨hl, hp, hn⟩ := List.findIdx?_eq_some_iff_getElem.mp hj
      obtain ⟨y1, y2⟩ := okEq_shaped st2 (r1.ext k2) z.1
      obtain ⟨y3, y4⟩ := okEq_shaped st2 r2 z.2
      refine ⟨ad, u, d2.py, pyL ds, j, (pyL ds)[j], rfl, rfl, ?_, y3, ?_, y4, List.getElem?_eq_getElem hl, hp, fun m z' hm hz' => ?_, q3 W2 H2 _ st2 (k1.tr st1 k2) rfl⟩
      · simpa only [D.py] using y1
      · simpa only [D.py] using y2
      · obtain ⟨hm2, rfl⟩ := List.getElem?_eq_some_iff.mp hz'
        simpa using hn m hm
    · cases e'
end
end Mini
namespace Mini
open PySem PySem.Spec PyProof.Rows L2 Evl
/-! ### enumerate(t), t a tuple -/
set_option maxHeartbeats 1000000 in
theorem enum_new1 {v : Value} {o : Obj} {H : Heap → Prop} (B : Begins v o H) :
    Meets (Builtin.«enumerate.__new__» ⟨[.type "enumerate", v], []⟩) (fun _ R s => H s.heap ∧
      R (.ok (.ret (.ref (s.heap.push o).objs.size))) { s with heap := (s.heap.push o).push { cls := .type "enumerate", data := .fields #[.none, .bool false, .ref s.heap.objs.size, rawInt 0, .none, .none] } }) :=
  .of_wp fun prog w A R s h => by
    obtain ⟨hp, g, d, tk, os⟩ := s
    obtain ⟨h1, h⟩ := h
    have hsub := sub_enumerate
    have q1 : ∀ {A' : Around} {E : Value → Shared → Prop} {Q : Value → Shared → Prop}, Q (.ref hp.objs.size) ⟨hp.push o, g, d, tk, os⟩ → wpAny (model prog w) A' (pyIter v) Q E ⟨hp, g, d, tk, os⟩ :=
      fun q => B.iter prog w _ _ ⟨hp, g, d, tk, os⟩ _ h1 q
    wp_walk using q1
    refine wpAny_stack_any fun st => wpAny_pure ?_
    split
    · rename_i c _ _ _ _ _
      cases (c == Value.type "enumerate") <;> (wp_walk using q1; exact ⟨_, rfl, h⟩)
    · wp_walk using q1
      exact ⟨_, rfl, h⟩
theorem enum_call1 {prog : Program} {w : World} {A : Around} {E : Value → Shared → Prop} {s : Shared} {v : Value} {o : Obj} {H : Heap → Prop} {Q : Value → Shared → Prop} (B : Begins v o H) (h1 : H s.heap)
    (h : ∀ h', IsEnum h' (s.heap.objs.size + 1) s.heap.objs.size 0 .none → h'.get? s.heap.objs.size = some o → (∀ b u, s.heap.get? b = some u → h'.get? b = some u) → Q (.ref (s.heap.objs.size + 1)) { s with heap := h' }) :
    wpAny (model prog w) A (call (.type "enumerate") [v]) Q E s := by
  refine callType_new F.called_enumerate (by decide) (F.typeCall_enumerate_1 _) (F.newCall_enumerate_1 _) (fun obj => F.args_object_init_2 obj _) F.entry_enumerate_new (enum_new1 B) ⟨h1, ?_⟩
  have hz : (s.heap.push o).objs.size = s.heap.objs.size + 1 := Heap.size_push ..
  show _ ∧ _
  rw [hz]
  have he := Heap.get?_push_size (s.heap.push o) (o := { cls := .type "enumerate", data := .fields #[.none, .bool false, .ref s.heap.objs.size, rawInt 0, .none, .none] }) rfl
  rw [hz] at he
  exact ⟨⟨_, he, rfl⟩, h _ he (Heap.get?_push_of_some _ (Heap.get?_push_size _ B.free)) fun b u x => Heap.get?_push_of_some _ (Heap.get?_push_of_some _ x)⟩
def IteT (K : PySem.W.Frag) (a : Addr) : It :=
  ⟨fun i H => ∃ (xs : List V) (x : V), SqT K H a xs ∧ xs[i]? = some x, fun i H v H' => ∃ T x, v = .ref T ∧ H T = none ∧ H' = upd H T (.tup [.int (i : Nat), x]) ∧ ∀ xs, SqT K H a xs → xs[i]? = some x, fun i H => ∃ xs : List V, SqT K H a xs ∧ xs.length ≤ i⟩
theorem turn_enumT {P : Program} {w : World} {K : PySem.W.Frag} {elts : List Expr} {kk : Nat} {tpos : Pos} (a e it : Addr) :
    Turn P w K (.Tuple elts kk tpos) (IteT K a) [e, it] e (fun i h => (∃ old, IsEnum h e it ((i : Nat) : Int) old) ∧ h.IsTupleIter it a i ∧ e ≠ it ∧ a ≠ it ∧ a ≠ e) where
  mem := by simp
  obj := fun i h st b hb => by
    obtain ⟨⟨old, he⟩, ⟨o, ho, hc, hd⟩, _⟩ := st
    have e' : b = e ∨ b = it := by simpa using hb
    rcases e' with z | z
    · rw [z]; exact ⟨_, he, fun v q => nomatch q⟩
    · rw [z]; exact ⟨o, ho, fun v q => by rw [hd] at q; cases q⟩
  keep := fun i h h' st k => let ⟨⟨old, he⟩, hi, hne⟩ := st; ⟨⟨old, k e (by simp) _ he⟩, hi.at fun o q => k it (by simp) o q, hne⟩
  item := by
    intro X hP hw hK hc i pins s σ H E I hf st hg
    subst hP hw hK
    obtain ⟨⟨old, he⟩, hit, hne, hai, hae⟩ := st
    obtain ⟨xs, x, hq, hx⟩ := hg
    obtain ⟨its, rv, p, hz⟩ := I.tuple hq
    obtain ⟨u, hu, ru⟩ := rv.get hx
    have hel : e < s.heap.objs.size := Heap.lt_size he
    have hil : it < s.heap.objs.size := by obtain ⟨_, q, _⟩ := hit; exact Heap.lt_size q
    have hlt : i < its.toArray.size := by
      have := (List.getElem?_eq_some_iff.mp hu).1
      simpa using this
    refine wpAny_pyNext_enum_itemD (Draws.tuple (A := X.A.in1) (I.ok.hd hc) it a hai its.toArray) he ⟨hit, p⟩ hlt hne (by simp [hne, Ne.symm hae]) fun x' h' tk hP' ho hst hT hsz hk => ?_
    have ex : x' = u := by
      have h1 : its.toArray[i]? = some x' := hP'
      have h2 : its.toArray[i]? = some u := by simpa using hu
      rw [h1] at h2
      exact Option.some.inj h2
    subst ex
    refine ⟨_, rfl, wpAny_letOwnedTupleGo_enum (s := { s with heap := h', toks := tk + 1 }) ho fun h'' he' sb => ?_⟩
    have hT2 : h''.get? s.heap.objs.size = some { cls := .type "tuple", data := .seq #[.int i tk, x'] } := (sb.2 _ (Nat.ne_of_gt hel)).trans hT
    have new : ObjOk X.prog X.w (upd H s.heap.objs.size (.tup [.int (i : Nat), x])) h'' s.heap.objs.size (.tup [.int (i : Nat), x]) :=
      ⟨by show 2 ≤ sizeLine; decide, [.int i tk, x'], .cons ⟨_, rfl⟩ (.cons ru .nil), ⟨_, hT2, rfl, _, rfl⟩⟩
    have I1 : Inv X pins σ (upd H s.heap.objs.size (.tup [.int (i : Nat), x])) { s with heap := h'', toks := tk + 1 } :=
      I.turnedNew (ch := [e, it]) (fun b ob hb q => (sb.2 b (fun z => hb (by simp [z]))).trans (hk b ob (fun z => hb (by simp [z])) (fun z => hb (by simp [z])) q)) hf (Nat.le_refl _) new
    refine ⟨.ref s.heap.objs.size, _, I1, rfl, ⟨_, x, rfl, I.hok.fresh (Nat.le_refl _), rfl, fun ys hy => by rw [I.tuple_inj hy hq]; exact hx⟩, ⟨⟨x', ?_⟩, hst.1.at fun o q => (sb.2 it (Ne.symm hne)).trans q, hne, hai, hae⟩, fun b hb => ?_⟩
    · have e1 : ((i + 1 : Nat) : Int) = (i : Int) + 1 := by omega
      rw [e1]; exact he'
    · have hb' : b < s.heap.objs.size := by
        have e' : b = e ∨ b = it := by simpa using hb
        rcases e' with z | z
        · rw [z]; exact hel
        · rw [z]; exact hil
      rw [upd_ne (Nat.ne_of_lt hb')]
      exact (hf b hb).1
  done := by
    intro X hP hw hK hc i pins s σ H E I hf st hg
    subst hP hw hK
    obtain ⟨⟨old, he⟩, hit, hne, hai, hae⟩ := st
    obtain ⟨xs, hq, hx⟩ := hg
    obtain ⟨its, rv, p, hz⟩ := I.tuple hq
    obtain ⟨f0, f1, f2, f3, f4, f5⟩ := hf it (by simp)
    have hl := rv.length
    have hen : its.toArray[i]? = none := by simp; omega
    have hT : s.TypeIs (.ref e) "enumerate" := ⟨_, he, rfl⟩
    unfold pyNext
    refine wpAny_bind (wpAny_attempt (wpAny_callSpecial?_slot (name := Str.ofString "__next__") hT F.slot_enumerate_next
      (wpAny_call_entry F.slot_enumerate_next hT F.entry_enumerate_next ?_ (F.args_enumerate_next_1 _))))
    show wpAny _ _ (field (.ref e) 2 >>= _) _ _ _
    refine wpAny_bind (wpAny_field he rfl (x := .ref it) rfl ?_)
    refine wpAny_bind (wpAny_nextOf_tuple_end (show X.A.in1.handled = none from I.ok.hd hc) hit p hen fun h' x he' hx' => ?_)
    obtain ⟨o, ho, hco⟩ := hx'
    refine wpAny_bind (wpAny_isInstance (T := "StopIteration") (b := true) ⟨o, ho, hco⟩ isSubtype_stop ?_)
    exact wpAny_pure ⟨rfl, I.turned (t' := s.toks) (fun b o hb q => he' b o hb q) f0 f1 f3 f4 f5⟩
  self := fun A i s Q E st h => let ⟨⟨_, he⟩, _⟩ := st; wpAny_pyIter_enum he h
/-- enumerate of a list or of a tuple -/
def iEnumX (K : PySem.W.Frag) (ta : TA) : TI := fun σ H R => ta σ H fun vs H1 => (∃ a xs, vs = [.ref a] ∧ SqL K H1 a xs ∧ R (Ite K a) H1) ∨ ∃ a xs, vs = [.ref a] ∧ SqT K H1 a xs ∧ R (IteT K a) H1
theorem pi_enumX {X : Cx} {e : Expr} {ta : TA} {p pos tpos : Pos} {elts : List Expr} {kk : Nat} (hg : Gl X "enumerate") (hm : X.mg "enumerate" = none) (ha : PA X [e] ta) (hs : starEach [e] X.env = [(false, eval e X.env)] := by rfl) :
    PI X (.Tuple elts kk tpos) (.Call (.Name "enumerate" p) [e] [] pos) (iEnumX X.K ta) := by
  refine ⟨fun pins s σ H R I h => ?_⟩
  refine Call_ (ld_blt I hg hm boot_enumerate (PyProof.Rows.callWith_type1 (thn (ha.run pos pins s σ H _ I h) fun us s1 ⟨vs, H1, I1, r1, q1⟩ => ?_) hs rfl))
  have two : ∀ (b : Addr), b = s1.heap.objs.size + 1 ∨ b = s1.heap.objs.size → FpOk X pins H1 b := fun b e' => by
    have hle : s1.heap.objs.size ≤ b := by
      rcases e' with z | z
      · rw [z]; exact Nat.le_add_right _ _
      · rw [z]; exact Nat.le_refl _
    exact I1.fpOk hle (I1.hok.fresh hle)
  rcases q1 with ⟨a, xs, ex, hq, q⟩ | ⟨a, xs, ex, hq, q⟩
  · subst ex
    cases r1 with
    | cons r rr =>
      cases rr
      cases r
      obtain ⟨its, rv, p', hz⟩ := I1.list hq
      refine call_enumerate_list p'.isList fun h' he hit hsz hk => wpAny_pyIter_enum he ?_
      have I2 : Inv X pins σ H1 { s1 with heap := h' } := I1.kept (t' := s1.toks) hk
      exact ⟨s1.heap.objs.size + 1, [s1.heap.objs.size + 1, s1.heap.objs.size], _, _, H1, rfl, I2, turn_enum a (s1.heap.objs.size + 1) s1.heap.objs.size, ⟨⟨.none, he⟩, hit, Nat.succ_ne_self _⟩, fun b hb => two b (by simpa using hb), q⟩
  · subst ex
    cases r1 with
    | cons r rr =>
      cases rr
      cases r
      obtain ⟨its, rv, p', hz⟩ := I1.tuple hq
      have hal : a < s1.heap.objs.size := by obtain ⟨o, e, _⟩ := p'; exact Heap.lt_size e
      refine enum_call1 (begins_tuple a its.toArray) p' fun h' he hit hk => wpAny_pyIter_enum he ?_
      have I2 : Inv X pins σ H1 { s1 with heap := h' } := I1.kept (t' := s1.toks) hk
      exact ⟨s1.heap.objs.size + 1, [s1.heap.objs.size + 1, s1.heap.objs.size], _, _, H1, rfl, I2, turn_enumT a (s1.heap.objs.size + 1) s1.heap.objs.size, ⟨⟨.none, he⟩, ⟨_, hit, rfl, rfl⟩, Nat.succ_ne_self _, Nat.ne_of_lt hal, Nat.ne_of_lt (Nat.lt_succ_of_lt hal)⟩, fun b hb => two b (by simpa using hb), q⟩
section
variable {K : PySem.W.Frag} {c : Cn} {W W1 W2 W' : Wd} {H H1 H2 H' : Hp} {S S1 S2 S' : DS} {σ σ1 σ2 σ' : L2.St} {ρ ρ1 ρ2 ρ' : En} {E : XK}
theorem itr_enumT {a : Addr} {vs : List V} {ds : List D} (h : ∀ H, Ex W.H0 H → SqT K H a vs) (r : RepL K c W ds vs) : Itr2 K c W (IteT K a) (enumF 0 ds) where
  go := fun i H hi e => by
    rw [enumF_length, ← RepL.length r] at hi
    exact ⟨vs, vs[i], h H e, by simp [hi]⟩
  stop := fun H e => ⟨vs, h H e, by rw [enumF_length, RepL.length r]; exact Nat.le_refl _⟩
  yld := fun i H x H' d hd e y => by
    obtain ⟨d2, h1, rfl⟩ := enumF_get hd
    obtain ⟨T, x2, q1, q2, q3, q4⟩ := y
    exact .inr ⟨T, _, x2, _, _, q1, q2, q3, rfl, by rw [Nat.zero_add]; exact (rfl : Rep K c W (.int i) (.int i)), repL_get' r h1 (q4 vs (h H e))⟩
end
def itEnX (a : FE) : FI := fun ρ => bd (a ρ) fun d => match d with
  | .lst ds => rt (enumF 0 ds)
  | .tup ds => rt (enumF 0 ds)
  | .tpx ds => rt (enumF 0 ds)
  | _ => no
section
variable {X : Cx} {c : Cn} {E : XK} {a : Expr} {fa : FE} {pos : Pos}
theorem mi_enumX {p tpos : Pos} {elts : List Expr} {kk : Nat} (hg : Gl X "enumerate") (hm : X.mg "enumerate" = none) (ha : PE X a (tM X.K c E fa)) (hs : starEach [a] X.env = [(false, eval a X.env)] := by rfl) : PI X (.Tuple elts kk tpos) (.Call (.Name "enumerate" p) [a] [] pos) (tI X.K c E (itEnX fa)) := ⟨fun pins s σ H R I h => by
  obtain ⟨W, ρ, S, st, en, q⟩ := h
  refine (pi_enumX hg hm (pa_cons ha pa_nil (by rw [hs]; rfl)) hs).run pins s σ H R I ?_
  refine then_M (O := OutI X.K c W H E R) st en (fun _ _ _ z => z) (fun z => z) q fun d S1 W1 H1 v st1 k1 r1 q1 => ?_
  cases d <;> first | exact (show False from q1).elim | skip
  · obtain ⟨p, vs, rfl, h1, r⟩ := r1
    exact .inr ⟨p, vs, rfl, SqT.of (st1.sub _ _ h1), q1 W1 H1 _ st1 k1 (itr_enumT (fun H e => SqT.of (e _ _ h1)) r)⟩
  · obtain ⟨p, vs, o, rfl, h1, h2, r⟩ := r1
    exact .inr ⟨p, vs, rfl, IsX.sq ⟨o, st1.sub _ _ h1⟩, q1 W1 H1 _ st1 k1 (itr_enumT (fun H e => IsX.sq ⟨o, e _ _ h1⟩) r)⟩
  · obtain ⟨p, vs, rfl, h1, r⟩ := r1
    exact .inl ⟨p, vs, rfl, SqL.of (st1.sub _ _ h1), q1 W1 H1 _ st1 k1 (itr_enum h1 r)⟩⟩
theorem mi_enumX' {p tpos : Pos} {elts : List Expr} {kk : Nat} (hm : X.mg "enumerate" = none) (ha : PE X a (tM X.K c E fa)) (hg : X.env.kindOf "enumerate" = some .globalImplicit := by kernel_rfl) (hs : starEach [a] X.env = [(false, eval a X.env)] := by kernel_rfl) : PI X (.Tuple elts kk tpos) (.Call (.Name "enumerate" p) [a] [] pos) (tI X.K c E (itEnX fa)) := mi_enumX hg hm ha hs
end
end Mini
namespace Mini
open PySem PySem.Spec PyProof.Rows L2 Evl
/-! ### the second form of the word -/
def kinds4 (j : Nat) : List Bool := [decide (j = 0), decide (j = 1), decide (j = 2), decide (j = 3)]
theorem cnt4 (j : Nat) (hj : j < 4) : (kinds4 j).count true = 1 := four (P := fun j => (kinds4 j).count true = 1) j hj rfl rfl rfl rfl
theorem at4 (j : Nat) (hj : j < 4) : (kinds4 j)[j]? = some true := four (P := fun j => (kinds4 j)[j]? = some true) j hj rfl rfl rfl rfl
theorem bef4 (j : Nat) (hj : j < 4) : ∀ m : Nat, m < j → (kinds4 j)[m]? = some (!true) := four (P := fun j => ∀ m : Nat, m < j → (kinds4 j)[m]? = some (!true)) j hj (by decide) (by decide) (by decide) (by decide)
end Mini
namespace Mini
open PySem PySem.Spec PyProof.Rows L2 Evl
open PySem.W (alike dataLt AlikeAll)
/-! ### min, max of a list of alike data: the first of the least, of the greatest -/
def notN : PyData → Bool
  | .none => false
  | _ => true
def alikeB (xs : List PyData) : Bool := xs.all fun x => notN x && xs.all fun y => alike x y
theorem alikeB_all {xs : List PyData} (h : alikeB xs = true) : AlikeAll xs := by
  unfold alikeB at h
  rw [List.all_eq_true] at h
  refine ⟨fun x hx y hy => ?_, fun x hx e => ?_⟩
  · have q := h x hx
    rw [Bool.and_eq_true, List.all_eq_true] at q
    exact q.2 y hy
  · have q := h x hx
    subst e
    cases q
def bMin (xs : List PyData) (i j : Nat) : Bool := dataLt (xs.getD i .none) (xs.getD j .none)
def bMax (xs : List PyData) (i j : Nat) : Bool := dataLt (xs.getD j .none) (xs.getD i .none)
def rBest (K : PySem.W.Frag) (b : List PyData → Nat → Nat → Bool) : List V → Hp → VK → Prop := fun vs H Q => ∃ a xs ds, vs = [.ref a] ∧ SqL K H a xs ∧ Dp K H (.ref a) (.list ds) ∧ AlikeAll ds ∧ PyData.depthAll ds ≤ 63 ∧ 0 < ds.length ∧ ∀ v, xs[argBest (b ds) (ds.length - 1)]? = some v → Q v H
section
variable {X : Cx}
theorem cr_minA {k : Nat} (hr : Room k X.A) (hc : X.calm = true) : CallR X (.builtin "min") (rBest X.K bMin) := by
  intro pins s σ H vs us Q I r h
  obtain ⟨a, xs, ds, rfl, hs, hd, hal, hdep, hpos, q⟩ := h
  cases hd with
  | lst hs' ha =>
    have e := I.list_inj hs' hs
    subst e
    obtain ⟨its, rv, hl, _⟩ := I.list hs
    rw [Vals.ref1 r]
    obtain ⟨as, h4⟩ := Dp.readsAll I ds _ its ha rv
    have hr' : ReadsAll s.heap its.toArray.toList ds as := by simpa using h4
    have hn : its.toArray.size = ds.length := PySem.W.readsAll_len hr'
    have hu := Room.u64 hr
    refine call_min_walkH (PySem.W.iter_listW (A := X.A.in1) (show X.A.in1.handled = none from I.ok.hd hc) hl.isList fun s₂ e W st hfp hw hk => ?_)
    refine ⟨_, _, _, _, _, _, _, s.heap, _, rfl, W, st, hfp, by omega, hw, hk, PySem.W.cmpIn_lt (A := X.A.in1) hr' hal (by show X.A.units + 1 + _ < _; omega), fun v s' hP m => ?_⟩
    obtain ⟨h', tk, rfl, hk'⟩ := PySem.W.moved_old e rfl m
    rw [hn] at hP
    have hP' : its.toArray[argBest (bMin ds) (ds.length - 1)]? = some v := hP
    have hPl : its[argBest (bMin ds) (ds.length - 1)]? = some v := by simpa using hP'
    have hlt := (List.getElem?_eq_some_iff.mp hPl).1
    have hlen := rv.length
    have hy := List.getElem?_eq_getElem (l := _) (show argBest (bMin ds) (ds.length - 1) < _ from hlen ▸ hlt)
    obtain ⟨u, hu', ru⟩ := rv.get hy
    rw [hPl] at hu'
    cases hu'
    exact ⟨_, H, I.kept hk', ru, q _ hy⟩
theorem cr_maxA {k : Nat} (hr : Room k X.A) (hc : X.calm = true) : CallR X (.builtin "max") (rBest X.K bMax) := by
  intro pins s σ H vs us Q I r h
  obtain ⟨a, xs, ds, rfl, hs, hd, hal, hdep, hpos, q⟩ := h
  cases hd with
  | lst hs' ha =>
    have e := I.list_inj hs' hs
    subst e
    obtain ⟨its, rv, hl, _⟩ := I.list hs
    rw [Vals.ref1 r]
    obtain ⟨as, h4⟩ := Dp.readsAll I ds _ its ha rv
    have hr' : ReadsAll s.heap its.toArray.toList ds as := by simpa using h4
    have hn : its.toArray.size = ds.length := PySem.W.readsAll_len hr'
    have hu := Room.u64 hr
    refine call_max_walkH (PySem.W.iter_listW (A := X.A.in1) (show X.A.in1.handled = none from I.ok.hd hc) hl.isList fun s₂ e W st hfp hw hk => ?_)
    refine ⟨_, _, _, _, _, _, _, s.heap, _, rfl, W, st, hfp, by omega, hw, hk, PySem.W.cmpIn_gt (A := X.A.in1) hr' hal (by show X.A.units + 1 + _ < _; omega), fun v s' hP m => ?_⟩
    obtain ⟨h', tk, rfl, hk'⟩ := PySem.W.moved_old e rfl m
    rw [hn] at hP
    have hP' : its.toArray[argBest (bMax ds) (ds.length - 1)]? = some v := hP
    have hPl : its[argBest (bMax ds) (ds.length - 1)]? = some v := by simpa using hP'
    have hlt := (List.getElem?_eq_some_iff.mp hPl).1
    have hlen := rv.length
    have hy := List.getElem?_eq_getElem (l := _) (show argBest (bMax ds) (ds.length - 1) < _ from hlen ▸ hlt)
    obtain ⟨u, hu', ru⟩ := rv.get hy
    rw [hPl] at hu'
    cases hu'
    exact ⟨_, H, I.kept hk', ru, q _ hy⟩
end
def dBest (b : List PyData → Nat → Nat → Bool) (d : D) : Option D := (seqOf d).bind fun ds => if okEq d && (decide (PyData.depthAll (pyL ds) ≤ 63) && (alikeB (pyL ds) && decide (0 < ds.length))) then ds[argBest (b (pyL ds)) (ds.length - 1)]? else none
theorem pyL_len : ∀ ds : List D, (pyL ds).length = ds.length
  | [] => rfl
  | d :: ds => by
    show (pyL ds).length + 1 = _
    rw [pyL_len ds]
    rfl
theorem u_best {K : PySem.W.Frag} {c : Cn} (b : List PyData → Nat → Nat → Bool) : UnM K c (rBest K b) (dBest b) := fun {W H S d d' v} Q st a q k => by
  unfold dBest at q
  obtain ⟨ds, e1, q2⟩ := Option.bind_eq_some_iff.mp q
  have ed : d = .lst ds := by
    cases d <;> first | (cases e1; done) | skip
    cases e1
    rfl
  subst ed
  by_cases z : (okEq (.lst ds) && (decide (PyData.depthAll (pyL ds) ≤ 63) && (alikeB (pyL ds) && decide (0 < ds.length)))) = true
  · rw [if_pos z] at q2
    rw [Bool.and_eq_true, Bool.and_eq_true, Bool.and_eq_true, decide_eq_true_eq, decide_eq_true_eq] at z
    obtain ⟨z1, z2, z3, z4⟩ := z
    obtain ⟨p, vs, rfl, h1, r1⟩ := a.lst st
    obtain ⟨y1, _⟩ := okEq_shaped st a z1
    refine ⟨p, vs, pyL ds, rfl, SqL.of h1, by simpa only [D.py] using y1, alikeB_all z3, z2, by rw [pyL_len]; exact z4, fun v hv => ?_⟩
    rw [pyL_len] at hv
    exact k W H _ st (Keep.refl W H) (repL_get' r1 q2 hv)
  · rw [if_neg z] at q2
    cases q2
/-- numbers as before; other data by their order -/
def dMinX (d : D) : Option D := match dMin d with
  | some r => some r
  | none => dBest bMin d
def dMaxX (d : D) : Option D := match dMax d with
  | some r => some r
  | none => dBest bMax d
def rMinX (K : PySem.W.Frag) : R1 := fun vs H Q => rMin K vs H Q ∨ rBest K bMin vs H Q
def rMaxX (K : PySem.W.Frag) : R1 := fun vs H Q => rMax K vs H Q ∨ rBest K bMax vs H Q
theorem cr_minX {X : Cx} {k : Nat} (hr : Room k X.A) (hc : X.calm = true) : CallR X (.builtin "min") (rMinX X.K) := by
  intro pins s σ H vs us Q I r h
  rcases h with h | h
  · exact cr_min hc pins s σ H vs us Q I r h
  · exact cr_minA hr hc pins s σ H vs us Q I r h
theorem cr_maxX {X : Cx} {k : Nat} (hr : Room k X.A) (hc : X.calm = true) : CallR X (.builtin "max") (rMaxX X.K) := by
  intro pins s σ H vs us Q I r h
  rcases h with h | h
  · exact cr_max hc pins s σ H vs us Q I r h
  · exact cr_maxA hr hc pins s σ H vs us Q I r h
theorem u_minX {X : Cx} {c : Cn} : UnM X.K c (rMinX X.K) dMinX := fun {W H S d d' v} Q st a q k => by
  unfold dMinX at q
  split at q
  · rename_i r e
    cases q
    exact .inl (u_min (X := X) Q st a e k)
  · exact .inr (u_best bMin Q st a q k)
theorem u_maxX {X : Cx} {c : Cn} : UnM X.K c (rMaxX X.K) dMaxX := fun {W H S d d' v} Q st a q k => by
  unfold dMaxX at q
  split at q
  · rename_i r e
    cases q
    exact .inl (u_max (X := X) Q st a e k)
  · exact .inr (u_best bMax Q st a q k)
end Mini
namespace Mini
open PySem PySem.Spec PyProof.Rows L2 Evl
/-! ### zip(t, u), both tuples -/
def ItzT (K : PySem.W.Frag) (a b : Addr) : It :=
  ⟨fun i H => ∃ (xs ys : List V) (x y : V), SqT K H a xs ∧ SqT K H b ys ∧ xs[i]? = some x ∧ ys[i]? = some y,
    fun i H v H' => ∃ T x y, v = .ref T ∧ H T = none ∧ H' = upd H T (.tup [x, y]) ∧ (∀ xs, SqT K H a xs → xs[i]? = some x) ∧ ∀ ys, SqT K H b ys → ys[i]? = some y,
    fun i H => ∃ xs ys : List V, SqT K H a xs ∧ SqT K H b ys ∧ i ≤ xs.length ∧ i ≤ ys.length ∧ (xs.length = i ∨ ys.length = i)⟩
theorem turn_zipT {P : Program} {w : World} {K : PySem.W.Frag} {elts : List Expr} {kk : Nat} {tpos : Pos} {a b z TI TO i1 i2 : Addr} (D : ZipSep2 z TI TO i1 i2 [i1, a] [i2, b]) (n1 : a ≠ i1) (n2 : b ≠ i2) :
    Turn P w K (.Tuple elts kk tpos) (ItzT K a b) [z, TI, TO, i1, i2] z (fun i h => IsZip h z TI TO .none ∧ IsTupOf2 h TI (.ref i1) (.ref i2) ∧ (∃ x y, IsTupOf2 h TO x y) ∧ h.IsTupleIter i1 a i ∧ h.IsTupleIter i2 b i) where
  mem := by simp
  obj := fun i h st c hc => by
    obtain ⟨hz, hTI, ⟨x, y, hTO⟩, ⟨o1, e1, _, d1⟩, ⟨o2, e2, _, d2⟩⟩ := st
    have e' : c = z ∨ c = TI ∨ c = TO ∨ c = i1 ∨ c = i2 := by simpa using hc
    rcases e' with q | q | q | q | q
    · rw [q]; exact ⟨_, hz, fun v q => nomatch q⟩
    · rw [q]; exact ⟨_, hTI, fun v q => nomatch q⟩
    · rw [q]; exact ⟨_, hTO, fun v q => nomatch q⟩
    · rw [q]; exact ⟨o1, e1, fun v q => by rw [d1] at q; cases q⟩
    · rw [q]; exact ⟨o2, e2, fun v q => by rw [d2] at q; cases q⟩
  keep := fun i h h' st k => by
    obtain ⟨hz, hTI, ⟨x, y, hTO⟩, h1, h2⟩ := st
    exact ⟨k z (by simp) _ hz, k TI (by simp) _ hTI, ⟨x, y, k TO (by simp) _ hTO⟩, h1.at fun o q => k i1 (by simp) o q, h2.at fun o q => k i2 (by simp) o q⟩
  item := by
    intro X hP hw hK hc i pins s σ H E I hf st hg
    subst hP hw hK
    obtain ⟨hz, hTI, ⟨x0, y0, hTO⟩, h1, h2⟩ := st
    obtain ⟨xs, ys, x, y, hqx, hqy, hx, hy⟩ := hg
    obtain ⟨its, rv, p, _⟩ := I.tuple hqx
    obtain ⟨its2, rv2, p2, _⟩ := I.tuple hqy
    obtain ⟨u, hu, ru⟩ := rv.get hx
    obtain ⟨u2, hu2, ru2⟩ := rv2.get hy
    have hzl : z < s.heap.objs.size := Heap.lt_size hz
    have hh : X.A.in1.handled = none := I.ok.hd hc
    have l1 : i < its.toArray.size := by
      have := (List.getElem?_eq_some_iff.mp hu).1
      simpa using this
    have l2 : i < its2.toArray.size := by
      have := (List.getElem?_eq_some_iff.mp hu2).1
      simpa using this
    refine wpAny_pyNext_zipD2_item D (Draws.tuple hh i1 a n1 its.toArray) (Draws.tuple hh i2 b n2 its2.toArray) hz hTI hTO ⟨h1, p⟩ ⟨h2, p2⟩ l1 l2 fun v1 v2 h' tk hv1 hv2 z' TO' st1' st2' hT hsz hk => ?_
    have ev1 : v1 = u := by
      have q1 : its.toArray[i]? = some v1 := hv1
      have q2 : its.toArray[i]? = some u := by simpa using hu
      rw [q1] at q2
      exact Option.some.inj q2
    have ev2 : v2 = u2 := by
      have q1 : its2.toArray[i]? = some v2 := hv2
      have q2 : its2.toArray[i]? = some u2 := by simpa using hu2
      rw [q1] at q2
      exact Option.some.inj q2
    subst ev1 ev2
    have ai1 : i1 ≠ z := fun e => D.zf1 (by rw [← e]; simp)
    have ai2 : i2 ≠ z := fun e => D.zf2 (by rw [← e]; simp)
    refine ⟨_, rfl, wpAny_letOwnedTupleGo_zip (s := { s with heap := h', toks := tk }) z' fun h'' z'' sb => ?_⟩
    have hT2 : h''.get? s.heap.objs.size = some { cls := .type "tuple", data := .seq #[v1, v2] } := (sb.2 _ (Nat.ne_of_gt hzl)).trans hT
    have new : ObjOk X.prog X.w (upd H s.heap.objs.size (.tup [x, y])) h'' s.heap.objs.size (.tup [x, y]) :=
      ⟨by show 2 ≤ sizeLine; decide, [v1, v2], .cons ru (.cons ru2 .nil), ⟨_, hT2, rfl, _, rfl⟩⟩
    have I1 : Inv X pins σ (upd H s.heap.objs.size (.tup [x, y])) { s with heap := h'', toks := tk } :=
      I.turnedNew (t' := tk) (ch := [z, TI, TO, i1, i2]) (fun c o hb q => (sb.2 c (fun q' => hb (by simp [q']))).trans (hk c o (fun q' => hb (by simp [q'])) (fun q' => hb (by simp [q'])) (fun q' => hb (by simp [q'])) (fun q' => hb (by simp [q'])) q)) hf (Nat.le_refl _) new
    refine ⟨.ref s.heap.objs.size, _, I1, rfl, ⟨_, x, y, rfl, I.hok.fresh (Nat.le_refl _), rfl, fun l hl => by rw [I.tuple_inj hl hqx]; exact hx, fun l hl => by rw [I.tuple_inj hl hqy]; exact hy⟩, ⟨z'', ?_, ⟨v1, v2, ?_⟩, ?_, ?_⟩, fun c hcm => ?_⟩
    · exact (sb.2 _ D.TIz).trans (hk _ _ D.TIz D.TITO D.TIi1 D.TIi2 hTI)
    · exact (sb.2 _ D.TOz).trans TO'
    · exact st1'.1.at fun o q => (sb.2 _ ai1).trans q
    · exact st2'.1.at fun o q => (sb.2 _ ai2).trans q
    · have hlt : c < s.heap.objs.size := by
        have e' : c = z ∨ c = TI ∨ c = TO ∨ c = i1 ∨ c = i2 := by simpa using hcm
        rcases e' with q | q | q | q | q
        · rw [q]; exact hzl
        · rw [q]; exact Heap.lt_size hTI
        · rw [q]; exact Heap.lt_size hTO
        · rw [q]; obtain ⟨_, e1, _⟩ := h1; exact Heap.lt_size e1
        · rw [q]; obtain ⟨_, e2, _⟩ := h2; exact Heap.lt_size e2
      rw [upd_ne (Nat.ne_of_lt hlt)]
      exact (hf c hcm).1
  done := by
    intro X hP hw hK hc i pins s σ H E I hf st hg
    subst hP hw hK
    obtain ⟨hz, hTI, ⟨x0, y0, hTO⟩, h1, h2⟩ := st
    obtain ⟨xs, ys, hqx, hqy, b1, b2, hend⟩ := hg
    obtain ⟨its, rv, p, _⟩ := I.tuple hqx
    obtain ⟨its2, rv2, p2, _⟩ := I.tuple hqy
    have l1 := rv.length
    have l2 := rv2.length
    have hh : X.A.in1.handled = none := I.ok.hd hc
    have s1 : its.toArray.size = its.length := by simp
    have s2 : its2.toArray.size = its2.length := by simp
    refine wpAny_pyNext_zipD2_end D (Draws.tuple hh i1 a n1 its.toArray) (Draws.tuple hh i2 b n2 its2.toArray) hz hTI hTO (i := i) ⟨h1, p⟩ ⟨h2, p2⟩ (by omega) (by omega) (by omega) fun h' tk hk => ⟨rfl, I.turnedL (t' := tk) (ch := [z, TI, TO, i1, i2]) (fun c o hb q =>
      hk c o (fun q' => hb (by simp [q'])) (fun q' => hb (by simp [q'])) (fun q' => hb (by simp [q'])) (fun q' => hb (by simp [q'])) q) hf⟩
  self := fun A i s Q E st h => wpAny_pyIter_zip st.1 h
def iZipX (K : PySem.W.Frag) (ta : TA) : TI := fun σ H R => ta σ H fun vs H1 => (∃ a b xs ys, vs = [.ref a, .ref b] ∧ SqL K H1 a xs ∧ SqL K H1 b ys ∧ R (Itz K a b) H1) ∨ ∃ a b xs ys, vs = [.ref a, .ref b] ∧ SqT K H1 a xs ∧ SqT K H1 b ys ∧ R (ItzT K a b) H1
theorem pi_zipX {X : Cx} {e e2 : Expr} {ta : TA} {p pos tpos : Pos} {elts : List Expr} {kk : Nat} (hg : Gl X "zip") (hm : X.mg "zip" = none) (ha : PA X [e, e2] ta)
    (hs : starEach [e, e2] X.env = (false, eval e X.env) :: starEach [e2] X.env := by rfl) (hpl : (backTo pos (starEach [e2] X.env)).any (·.1) = false := by rfl) :
    PI X (.Tuple elts kk tpos) (.Call (.Name "zip" p) [e, e2] [] pos) (iZipX X.K ta) := by
  refine ⟨fun pins s σ H R I h => ?_⟩
  refine Call_ (ld_blt I hg hm PyProof.Rows.boot_zip (PyProof.Rows.callWith_type1 (thn (ha.run pos pins s σ H _ I h) fun us s1 ⟨vs, H1, I1, r1, q1⟩ => ?_) hs hpl))
  have five : ∀ c : Addr, c ∈ [s1.heap.objs.size + 4, s1.heap.objs.size + 2, s1.heap.objs.size + 3, s1.heap.objs.size, s1.heap.objs.size + 1] → FpOk X pins H1 c := fun c hcm => by
    have e' : c = s1.heap.objs.size + 4 ∨ c = s1.heap.objs.size + 2 ∨ c = s1.heap.objs.size + 3 ∨ c = s1.heap.objs.size ∨ c = s1.heap.objs.size + 1 := by simpa using hcm
    have hle : s1.heap.objs.size ≤ c := by
      rcases e' with z | z | z | z | z
      · rw [z]; exact Nat.le_add_right _ _
      · rw [z]; exact Nat.le_add_right _ _
      · rw [z]; exact Nat.le_add_right _ _
      · rw [z]; exact Nat.le_refl _
      · rw [z]; exact Nat.le_add_right _ _
    exact I1.fpOk hle (I1.hok.fresh hle)
  rcases q1 with ⟨a, b, xs, ys, ex, hqx, hqy, q⟩ | ⟨a, b, xs, ys, ex, hqx, hqy, q⟩
  · subst ex
    cases r1 with
    | cons r rr =>
      cases rr with
      | cons r' rr =>
        cases rr
        cases r
        cases r'
        obtain ⟨its, rv, p1, _⟩ := I1.list hqx
        obtain ⟨its2, rv2, p2, _⟩ := I1.list hqy
        have la : a < s1.heap.objs.size := p1.lt
        have lb : b < s1.heap.objs.size := p2.lt
        refine call_zip_2 p1.isList p2.isList fun h' hz hTI hTO h1 h2 hsz hk => wpAny_pyIter_zip hz ?_
        have I2 : Inv X pins σ H1 { s1 with heap := h' } := I1.kept (t' := s1.toks) hk
        exact ⟨s1.heap.objs.size + 4, [s1.heap.objs.size + 4, s1.heap.objs.size + 2, s1.heap.objs.size + 3, s1.heap.objs.size, s1.heap.objs.size + 1], _, _, H1, rfl, I2, turn_zip (PySem.W.ktu_apart s1.heap.objs.size a b la lb), ⟨hz, hTI, ⟨_, _, hTO⟩, h1, h2⟩, five, q⟩
  · subst ex
    cases r1 with
    | cons r rr =>
      cases rr with
      | cons r' rr =>
        cases rr
        cases r
        cases r'
        obtain ⟨its, rv, p1, _⟩ := I1.tuple hqx
        obtain ⟨its2, rv2, p2, _⟩ := I1.tuple hqy
        have la : a < s1.heap.objs.size := by obtain ⟨o, e, _⟩ := p1; exact Heap.lt_size e
        have lb : b < s1.heap.objs.size := by obtain ⟨o, e, _⟩ := p2; exact Heap.lt_size e
        refine zip_begins2 (begins_tuple a its.toArray) (begins_tuple b its2.toArray) p1 p2 fun h' hz hTI hTO g1 g2 hsz hk => wpAny_pyIter_zip hz ?_
        have I2 : Inv X pins σ H1 { s1 with heap := h' } := I1.kept (t' := s1.toks) hk
        exact ⟨s1.heap.objs.size + 4, [s1.heap.objs.size + 4, s1.heap.objs.size + 2, s1.heap.objs.size + 3, s1.heap.objs.size, s1.heap.objs.size + 1], _, _, H1, rfl, I2, turn_zipT (zip_sep2 (fp1 := [a]) (fp2 := [b]) (by simpa using la) (by simpa using lb)) (Nat.ne_of_lt la) (Nat.ne_of_lt (Nat.lt_succ_of_lt lb)), ⟨hz, hTI, ⟨_, _, hTO⟩, ⟨_, g1, rfl, rfl⟩, ⟨_, g2, rfl, rfl⟩⟩, five, q⟩
section
variable {K : PySem.W.Frag} {c : Cn} {W W1 W2 W' : Wd} {H H1 H2 H' : Hp} {S S1 S2 S' : DS} {σ σ1 σ2 σ' : L2.St} {ρ ρ1 ρ2 ρ' : En} {E : XK}
theorem zipD_len : ∀ ds es : List D, (zipD ds es).length = min ds.length es.length
  | [], es => by simp [zipD]
  | d :: ds, [] => by simp [zipD]
  | d :: ds, e :: es => by
    rw [zipD, List.length_cons, List.length_cons, List.length_cons, zipD_len ds es]
    omega
theorem itr_zipT {a b : Addr} {vs us : List V} {ds es : List D} (h1 : ∀ H, Ex W.H0 H → SqT K H a vs) (h2 : ∀ H, Ex W.H0 H → SqT K H b us) (r1 : RepL K c W ds vs) (r2 : RepL K c W es us) : Itr2 K c W (ItzT K a b) (zipD ds es) where
  go := fun i H hi e => by
    rw [zipD_len, ← RepL.length r1, ← RepL.length r2] at hi
    have l1 : i < vs.length := by omega
    have l2 : i < us.length := by omega
    exact ⟨vs, us, vs[i], us[i], h1 H e, h2 H e, by simp [l1], by simp [l2]⟩
  stop := fun H e => ⟨vs, us, h1 H e, h2 H e, by rw [zipD_len, RepL.length r1]; omega, by rw [zipD_len, RepL.length r2]; omega, by rw [zipD_len, RepL.length r1, RepL.length r2]; omega⟩
  yld := fun i H x H' d hd e y => by
    obtain ⟨d2, e2, g1, g2, rfl⟩ := zipD_get hd
    obtain ⟨T, x1, x2, q1, q2, q3, q4, q5⟩ := y
    exact .inr ⟨T, x1, x2, _, _, q1, q2, q3, rfl, repL_get' r1 g1 (q4 vs (h1 H e)), repL_get' r2 g2 (q5 us (h2 H e))⟩
end
def itZpX (a b : FE) : FI := fun ρ => bd (a ρ) fun d => bd (b ρ) fun e => match d, e with
  | .lst ds, .lst es => rt (zipD ds es)
  | .tup ds, .tup es => rt (zipD ds es)
  | _, _ => no
section
variable {X : Cx} {c : Cn} {E : XK} {a b : Expr} {fa fb : FE} {pos : Pos}
theorem mi_zipX {p tpos : Pos} {elts : List Expr} {kk : Nat} (hg : Gl X "zip") (hm : X.mg "zip" = none) (ha : PE X a (tM X.K c E fa)) (hb : PE X b (tM X.K c E fb)) (hs : starEach [a, b] X.env = (false, eval a X.env) :: starEach [b] X.env := by rfl) (hs2 : starEach [b] X.env = (false, eval b X.env) :: starEach [] X.env := by rfl)
    (hpl : (backTo pos (starEach [b] X.env)).any (·.1) = false := by rfl) : PI X (.Tuple elts kk tpos) (.Call (.Name "zip" p) [a, b] [] pos) (tI X.K c E (itZpX fa fb)) := ⟨fun pins s σ H R I h => by
  obtain ⟨W, ρ, S, st, en, q⟩ := h
  refine (pi_zipX hg hm (pa_cons ha (pa_cons hb pa_nil hs2) hs) hs hpl).run pins s σ H R I ?_
  refine then_M (O := OutI X.K c W H E R) st en (fun _ _ _ z => z) (fun z => z) q fun d S1 W1 H1 v st1 k1 r1 q1 => ?_
  refine then_M (O := OutI X.K c W H E R) st1 (en.ext k1) (fun _ _ _ z => ErQ.pre z k1 st1) (fun z => z) q1 fun d2 S2 W2 H2 u st2 k2 r2 q2 => ?_
  cases d <;> cases d2 <;> first | exact (show False from q2).elim | skip
  · obtain ⟨p, vs, rfl, h1, r⟩ := r1
    obtain ⟨p2, us, rfl, h2, r2⟩ := r2
    exact .inr ⟨p, p2, vs, us, rfl, SqT.of (st2.sub _ _ (k2.wex.1 _ _ h1)), SqT.of (st2.sub _ _ h2), q2 W2 H2 _ st2 (k1.tr st1 k2) (itr_zipT (fun H e => SqT.of (e _ _ (k2.wex.1 _ _ h1))) (fun H e => SqT.of (e _ _ h2)) (RepL.ext k2.wex _ _ r) r2)⟩
  · obtain ⟨p, vs, rfl, h1, r⟩ := r1
    obtain ⟨p2, us, rfl, h2, r2⟩ := r2
    exact .inl ⟨p, p2, vs, us, rfl, SqL.of (st2.sub _ _ (k2.wex.1 _ _ h1)), SqL.of (st2.sub _ _ h2), q2 W2 H2 _ st2 (k1.tr st1 k2) (itr_zip (k2.wex.1 _ _ h1) h2 (RepL.ext k2.wex _ _ r) r2)⟩⟩
theorem mi_zipX' {p tpos : Pos} {elts : List Expr} {kk : Nat} (hm : X.mg "zip" = none) (ha : PE X a (tM X.K c E fa)) (hb : PE X b (tM X.K c E fb)) (hg : X.env.kindOf "zip" = some .globalImplicit := by kernel_rfl) (hs : starEach [a, b] X.env = (false, eval a X.env) :: starEach [b] X.env := by kernel_rfl) (hs2 : starEach [b] X.env = (false, eval b X.env) :: starEach [] X.env := by kernel_rfl)
    (hpl : (backTo pos (starEach [b] X.env)).any (·.1) = false := by kernel_rfl) : PI X (.Tuple elts kk tpos) (.Call (.Name "zip" p) [a, b] [] pos) (tI X.K c E (itZpX fa fb)) := mi_zipX hg hm ha hb hs hs2 hpl
end
end Mini
namespace Mini
open PySem PySem.Spec PyProof.Rows L2 Evl
/-! ### slices of exact tuples, too -/
def dCutX (lo hi : Option Int) : D → Option D
  | .tpx ds => some (.tpx (cutG ds lo hi))
  | d => dCut lo hi d
def slcX (a : FE) (lo hi : FP) : FE := fun ρ => bd (a ρ) fun x => bd (lo ρ) fun l => bd (hi ρ) fun h => lift (dCutX l h x)
section
variable {X : Cx} {c : Cn} {E : XK} {e : Expr} {fa : FE} {fl fh : FP} {lo hi : Option Expr} {pos p2 : Pos}
theorem me_slcX (ha : PE X e (tB X.K c E fa)) (hl : PO X lo (tP X.K c E fl)) (hh : PO X hi (tP X.K c E fh)) : PE X (.Subscript e (.Slice lo hi none p2) pos) (tM X.K c E (slcX fa fl fh)) :=
  pe_imp (pe_slice (sl_tupX.or sl_all) ha hl hh) fun σ H Q h => by
    obtain ⟨W, ρ, S, st, en, q⟩ := tM_un h
    refine slc_run (O := fun W H Q r => OutM X.K c W H E Q r) st en (fun _ _ _ _ _ z => z) (fun _ _ z => z) (fun _ _ _ _ _ _ z k s => OutM.pre (Q' := Q) z k s) q fun W H S v d d' l h st r e' k => ?_
    cases d <;> first | (cases e'; done) | skip
    case str s =>
      cases e'
      obtain ⟨rfl, h1⟩ := r.str
      exact .inr (.inr (.inr ⟨s, rfl, line_le h1.1, k W H _ st (Keep.refl W H) ⟨rfl, sok_cut h1 l h⟩⟩))
    case tup ds =>
      cases e'
      obtain ⟨p, vs, rfl, h1, h1', r1⟩ := r.tup st
      refine .inr (.inr (.inl ⟨p, vs, rfl, SqT.of h1, fun hw => ?_, fun _ l' hn => ?_⟩))
      · have e2 : cutG ds l h = ds := by
          unfold cutG
          rw [← RepL.length r1, hw.1, hw.2, List.drop_zero, Nat.sub_zero, RepL.length r1, List.take_length]
        rw [e2] at k
        exact k W H _ st (Keep.refl W H) ⟨p, vs, rfl, h1', r1⟩
      · exact k _ _ _ (lay_st st hn) (lay_keep st hn) (new_tup st hn (repL_cut l h r1))
    case tpx ds =>
      cases e'
      obtain ⟨p, vs, rfl, h1, r1⟩ := r.tpx st
      refine .inl ⟨p, vs, rfl, h1, fun hw => ?_, newX_of st (repL_cut l h r1) k⟩
      have e2 : cutG ds l h = ds := by
        unfold cutG
        rw [← RepL.length r1, hw.1, hw.2, List.drop_zero, Nat.sub_zero, RepL.length r1, List.take_length]
      rw [e2] at k
      exact k W H _ st (Keep.refl W H) r.x
    case lst ds =>
      cases e'
      obtain ⟨p, vs, rfl, h1, r1⟩ := r.lst st
      exact .inr (.inl ⟨p, vs, rfl, SqL.of h1, fun l' hn => k _ _ _ (lay_st st hn) (lay_keep st hn) (new_lst st hn (repL_cut l h r1))⟩)
end
/-! ### exact tuple + tuple -/
def dAddT : D → D → Option D
  | .tpx a, .tup b => if b ≠ [] ∧ a.length + b.length ≤ 16777216 then some (if a = [] then .tup b else .tpx (a ++ b)) else none
  | d, e => dAddP d e
section
variable {X : Cx} {c : Cn}
theorem m_addT : OpM X.K c (rAddP X.K) dAddT := fun {W H S d e d' v u} Q st a b q k => by
  by_cases hx : (∃ ds, d = .tpx ds) ∧ ∃ es, e = .tup es
  · obtain ⟨⟨ds, rfl⟩, es, rfl⟩ := hx
    have q : (if es ≠ [] ∧ ds.length + es.length ≤ 16777216 then some (if ds = [] then D.tup es else .tpx (ds ++ es)) else none) = some d' := q
    split at q
    · rename_i hl
      cases q
      obtain ⟨p1, vs, rfl, h1, r1⟩ := a.tpx st
      obtain ⟨p2, us, rfl, h2, h2', r2⟩ := b.tup st
      by_cases hd : ds = []
      · subst hd
        rw [if_pos rfl] at k
        have hv : vs = [] := (repL_isNil r1).mpr rfl
        subst hv
        exact .inr (.inr (.inr (.inl ⟨p1, p2, [], us, rfl, rfl, h1, SqT.of h2, line_le (by have := hl.2; rw [RepL.length r2]; simpa using this), fun _ => k W H _ st (Keep.refl W H) ⟨p2, us, rfl, h2', r2⟩, fun z => absurd rfl z, fun z => absurd rfl z⟩)))
      · rw [if_neg hd] at k
        have hv : vs ≠ [] := fun z => hd ((repL_isNil r1).mp z)
        refine .inl ⟨p1, p2, vs, us, rfl, rfl, h1, SqT.of h2, line_le (by rw [RepL.length r1, RepL.length r2]; exact hl.2), fun z => absurd z hv, fun _ z => absurd ((repL_isNil r2).mp z) hl.1, newX_of st (repL_append r1 r2) k⟩
    · cases q
  · refine m_addP (X := X) Q st a b ?_ k
    cases d <;> cases e <;> first | exact q | exact absurd ⟨⟨_, rfl⟩, _, rfl⟩ hx
end
/-! ### min of a tuple of alike data -/
def rBestT (K : PySem.W.Frag) (b : List PyData → Nat → Nat → Bool) : List V → Hp → VK → Prop := fun vs H Q => ∃ a xs ds, vs = [.ref a] ∧ SqT K H a xs ∧ Dp K H (.ref a) (.tuple ds) ∧ PySem.W.AlikeAll ds ∧ PyData.depthAll ds ≤ 63 ∧ 0 < ds.length ∧ ∀ v, xs[argBest (b ds) (ds.length - 1)]? = some v → Q v H
section
variable {X : Cx}
theorem cr_minT {k : Nat} (hr : Room k X.A) (hc : X.calm = true) : CallR X (.builtin "min") (rBestT X.K bMin) := by
  intro pins s σ H vs us Q I r h
  obtain ⟨a, xs, ds, rfl, hs, hd, hal, hdep, hpos, q⟩ := h
  cases hd with
  | tup hs' ha =>
    have e := I.tuple_inj hs' hs
    subst e
    obtain ⟨its, rv, hl, _⟩ := I.tuple hs
    rw [Vals.ref1 r]
    obtain ⟨as, h4⟩ := Dp.readsAll I ds _ its ha rv
    have hr' : ReadsAll s.heap its.toArray.toList ds as := by simpa using h4
    have hn : its.toArray.size = ds.length := PySem.W.readsAll_len hr'
    have hu := Room.u64 hr
    refine call_min_walkH (PySem.W.iter_tupleW (A := X.A.in1) (show X.A.in1.handled = none from I.ok.hd hc) hl fun s₂ e W st hfp hw hk => ?_)
    refine ⟨_, _, _, _, _, _, _, s.heap, _, rfl, W, st, hfp, by omega, hw, hk, PySem.W.cmpIn_lt (A := X.A.in1) hr' hal (by show X.A.units + 1 + _ < _; omega), fun v s' hP m => ?_⟩
    obtain ⟨h', tk, rfl, hk'⟩ := PySem.W.moved_old e rfl m
    rw [hn] at hP
    have hP' : its.toArray[argBest (bMin ds) (ds.length - 1)]? = some v := hP
    have hPl : its[argBest (bMin ds) (ds.length - 1)]? = some v := by simpa using hP'
    have hlt := (List.getElem?_eq_some_iff.mp hPl).1
    have hlen := rv.length
    have hy := List.getElem?_eq_getElem (l := _) (show argBest (bMin ds) (ds.length - 1) < _ from hlen ▸ hlt)
    obtain ⟨u, hu', ru⟩ := rv.get hy
    rw [hPl] at hu'
    cases hu'
    exact ⟨_, H, I.kept hk', ru, q _ hy⟩
end
def dBestT (b : List PyData → Nat → Nat → Bool) : D → Option D
  | .tup ds => if okEq (.tup ds) && (decide (PyData.depthAll (pyL ds) ≤ 63) && (alikeB (pyL ds) && decide (0 < ds.length))) then ds[argBest (b (pyL ds)) (ds.length - 1)]? else none
  | _ => none
theorem u_bestT {K : PySem.W.Frag} {c : Cn} (b : List PyData → Nat → Nat → Bool) : UnM K c (rBestT K b) (dBestT b) := fun {W H S d d' v} Q st a q k => by
  cases d <;> first | (cases q; done) | skip
  rename_i ds
  have q2 : (if okEq (.tup ds) && (decide (PyData.depthAll (pyL ds) ≤ 63) && (alikeB (pyL ds) && decide (0 < ds.length))) then ds[argBest (b (pyL ds)) (ds.length - 1)]? else none) = some d' := q
  by_cases z : (okEq (.tup ds) && (decide (PyData.depthAll (pyL ds) ≤ 63) && (alikeB (pyL ds) && decide (0 < ds.length)))) = true
  · rw [if_pos z] at q2
    rw [Bool.and_eq_true, Bool.and_eq_true, Bool.and_eq_true, decide_eq_true_eq, decide_eq_true_eq] at z
    obtain ⟨z1, z2, z3, z4⟩ := z
    obtain ⟨p, vs, rfl, h1, h1', r1⟩ := a.tup st
    obtain ⟨y1, _⟩ := okEq_shaped st a z1
    refine ⟨p, vs, pyL ds, rfl, SqT.of h1, by simpa only [D.py] using y1, alikeB_all z3, z2, by rw [pyL_len]; exact z4, fun v hv => ?_⟩
    rw [pyL_len] at hv
    exact k W H _ st (Keep.refl W H) (repL_get' r1 q2 hv)
  · rw [if_neg z] at q2
    cases q2
def dMinY (d : D) : Option D := match d with
  | .tup ds => dBestT bMin (.tup ds)
  | d => dMinX d
def rMinY (K : PySem.W.Frag) : R1 := fun vs H Q => rBestT K bMin vs H Q ∨ rMinX K vs H Q
theorem cr_minY {X : Cx} {k : Nat} (hr : Room k X.A) (hc : X.calm = true) : CallR X (.builtin "min") (rMinY X.K) := by
  intro pins s σ H vs us Q I r h
  rcases h with h | h
  · exact cr_minT hr hc pins s σ H vs us Q I r h
  · exact cr_minX hr hc pins s σ H vs us Q I r h
theorem u_minY {X : Cx} {c : Cn} : UnM X.K c (rMinY X.K) dMinY := fun {W H S d d' v} Q st a q k => by
  by_cases h : ∃ ds, d = .tup ds
  · obtain ⟨ds, rfl⟩ := h
    exact .inl (u_bestT bMin Q st a q k)
  · refine .inr (u_minX (X := X) Q st a ?_ k)
    cases d <;> first | exact q | exact absurd ⟨_, rfl⟩ h
end Mini
namespace Mini
open PySem PySem.Spec PyProof.Rows L2 Evl
/-! ### rows = enumerate(t); return tuple([.. for .. in rows ..]): an enumerate object that a local holds between two statements -/
def Ours (X : Cx) (b : Addr) : Prop := b ∉ X.fs ∧ (b ∈ X.ex ∨ X.s_0.heap.objs.size ≤ b)
def EIt (X : Cx) (it a : Addr) : HO := .ext fun h => h.IsTupleIter it a 0 ∧ Ours X it
def EEn (X : Cx) (e it : Addr) : HO := .ext fun h => IsEnum h e it 0 .none ∧ Ours X e
def Two (X : Cx) (H : Hp) (e it a : Addr) : Hp := upd (upd H it (EIt X it a)) e (EEn X e it)
structure Hold (X : Cx) (H1 H : Hp) (e it a : Addr) : Prop where
  eq : H = Two X H1 e it a
  ne : H1 e = none
  ni : H1 it = none
  d1 : e ≠ it
  d2 : a ≠ it
  d3 : a ≠ e
theorem two_e {X : Cx} {H : Hp} {e it a : Addr} : Two X H e it a e = some (EEn X e it) := upd_same
theorem two_i {X : Cx} {H : Hp} {e it a : Addr} (h : e ≠ it) : Two X H e it a it = some (EIt X it a) := by
  unfold Two
  rw [upd_ne (Ne.symm h), upd_same]
theorem two_o {X : Cx} {H : Hp} {e it a b : Addr} (h1 : b ≠ e) (h2 : b ≠ it) : Two X H e it a b = H b := by
  unfold Two
  rw [upd_ne h1, upd_ne h2]
theorem Hold.old {X : Cx} {H1 H : Hp} {e it a b : Addr} {o : HO} (q : Hold X H1 H e it a) (h : H1 b = some o) : H b = some o := by
  rw [q.eq, two_o (fun z => by rw [z, q.ne] at h; cases h) (fun z => by rw [z, q.ni] at h; cases h)]
  exact h
theorem Hold.back {X : Cx} {H1 H : Hp} {e it a b : Addr} {o : HO} (q : Hold X H1 H e it a) (h : H b = some o) (ho : ∀ φ, o ≠ .ext φ) : H1 b = some o := by
  rw [q.eq] at h
  by_cases h1 : b = e
  · subst h1
    rw [two_e] at h
    exact absurd (Option.some.inj h).symm (ho _)
  · by_cases h2 : b = it
    · subst h2
      rw [two_i q.d1] at h
      exact absurd (Option.some.inj h).symm (ho _)
    · rw [two_o h1 h2] at h
      exact h
theorem Hold.lost {X : Cx} {H1 H : Hp} {e it a b : Addr} (q : Hold X H1 H e it a) (h : H b = none) : H1 b = none := by
  cases z : H1 b with
  | none => rfl
  | some o => rw [q.old z] at h; cases h
section
variable {X : Cx} {pins : List (Addr × Obj)} {σ : L2.St} {H1 H : Hp} {s : Shared} {e it a : Addr}
theorem hold_inv (q : Hold X H1 H e it a) (I : Inv X pins σ H s) : Inv X pins σ H1 s :=
  ⟨I.ok, I.os, I.bare, ⟨I.base.keep, I.base.slot, fun b o h n x => q.lost (I.base.free b o h n x), I.base.there, fun b xs h => q.back (I.base.tups b xs h) (fun φ z => by cases z), fun b o u h => q.back (I.base.frzs b o u h) (fun φ z => by cases z), fun b ps h => by
    obtain ⟨more, z⟩ := I.base.tbls b ps h
    exact ⟨more, q.back z (fun φ z => by cases z)⟩⟩, I.loc, I.cell, q.lost I.free, fun x c h => q.lost (I.freeC x c h), fun p hp => by
    obtain ⟨p1, p2, p3⟩ := I.pin p hp
    exact ⟨p1, q.lost p2, p3⟩, fun b o h => (I.hok b o (q.old h)).stay (fun _ _ _ z => z) (fun c z => q.back z (fun φ y => by cases y)) fun c xs z => q.back z (fun φ y => by cases y), I.len⟩
theorem hold_heap (q : Hold X H1 H e it a) (I : Inv X pins σ H s) : IsEnum s.heap e it 0 .none ∧ s.heap.IsTupleIter it a 0 ∧ Ours X e ∧ Ours X it := by
  have x1 : ObjOk X.prog X.w H s.heap e (EEn X e it) := I.hok e _ (by rw [q.eq]; exact two_e)
  have x2 : ObjOk X.prog X.w H s.heap it (EIt X it a) := I.hok it _ (by rw [q.eq]; exact two_i q.d1)
  exact ⟨x1.1.1, x2.1.1, x1.1.2, x2.1.2⟩
theorem hold_fp (q : Hold X H1 H e it a) (I : Inv X pins σ H s) : ∀ b, (b = e ∨ b = it) → FpOk X pins H1 b := fun b hb => by
  obtain ⟨_, _, o1, o2⟩ := hold_heap q I
  have hs : ∃ o, H b = some o := by
    rw [q.eq]
    rcases hb with z | z
    · rw [z]; exact ⟨_, two_e⟩
    · rw [z]; exact ⟨_, two_i q.d1⟩
  obtain ⟨o, ho⟩ := hs
  have ou : Ours X b := by
    rcases hb with z | z
    · rw [z]; exact o1
    · rw [z]; exact o2
  refine ⟨?_, fun z => ?_, ou.1, ou.2, fun x c hc z => ?_, fun p hp z => ?_⟩
  · rcases hb with z | z
    · rw [z]; exact q.ne
    · rw [z]; exact q.ni
  · rw [z, I.free] at ho; cases ho
  · rw [← z, I.freeC x c hc] at ho; cases ho
  · obtain ⟨_, p2, _⟩ := I.pin p hp
    rw [← z, p2] at ho; cases ho
/-- the two are laid -/
theorem hold_laid {h' : Heap} {t' : Nat} (I : Inv X pins σ H s) (k : ∀ b u, s.heap.get? b = some u → h'.get? b = some u) (he : s.heap.objs.size ≤ e) (hi : s.heap.objs.size ≤ it) (d : e ≠ it) (x1 : IsEnum h' e it 0 .none) (x2 : h'.IsTupleIter it a 0) :
    Inv X pins σ (Two X H e it a) { s with heap := h', toks := t' } := by
  have lt : ∀ b o, s.heap.get? b = some o → b ≠ e ∧ b ≠ it := fun b o h => ⟨Nat.ne_of_lt (Nat.lt_of_lt_of_le (Heap.lt_size h) he), Nat.ne_of_lt (Nat.lt_of_lt_of_le (Heap.lt_size h) hi)⟩
  have lt2 : ∀ b o, H b = some o → b ≠ e ∧ b ≠ it := fun b o h => ⟨Nat.ne_of_lt (Nat.lt_of_lt_of_le (I.hok.lt h) he), Nat.ne_of_lt (Nat.lt_of_lt_of_le (I.hok.lt h) hi)⟩
  have up : ∀ b o, H b = some o → Two X H e it a b = some o := fun b o h => by
    obtain ⟨n1, n2⟩ := lt2 b o h
    rw [two_o n1 n2]
    exact h
  have ou : ∀ b, s.heap.objs.size ≤ b → Ours X b := fun b hb => ⟨I.nofs hb, .inr (Nat.le_trans I.sz hb)⟩
  refine I.un ⟨fun b o h n _ _ => k b o h, fun b o h n _ _ => ⟨o.slots, k b o h⟩, fun b o h n _ => ?_, fun b o h _ => ⟨o, k b o h⟩, fun b xs h => up b _ h, fun b o u h => up b _ h, fun b ps h => ⟨#[], by rw [Array.append_empty]; exact up b _ h⟩⟩ fun b o h => ?_
  · obtain ⟨n1, n2⟩ := lt b o h
    rw [two_o n1 n2]
    exact n
  · by_cases h1 : b = e
    · subst h1
      rw [two_e] at h
      cases h
      refine ⟨⟨x1, ou b he⟩, ?_, fun h1 h2 p q => ⟨?_, p.2⟩⟩
      · exact ⟨_, x1⟩
      · exact q _ p.1
    · by_cases h2 : b = it
      · subst h2
        rw [two_i d] at h
        cases h
        refine ⟨⟨x2, ou b hi⟩, ?_, fun h1 h2 p q => ⟨?_, p.2⟩⟩
        · obtain ⟨o, z, _⟩ := x2
          exact ⟨o, z⟩
        · obtain ⟨o, z, r⟩ := p.1
          exact ⟨o, q o z, r⟩
      · rw [two_o h1 h2] at h
        exact (I.hok b o h).stay (fun c u _ z => k c u z) (fun c z => up c _ z) fun c xs z => up c _ z
end
def tEnum (X : Cx) (te : TE) : TE := fun σ H Q => tCons te tNil σ H fun vs H1 => ∃ a xs, vs = [.ref a] ∧ SqT X.K H1 a xs ∧ ∀ e it, Hold X H1 (Two X H1 e it a) e it a → Q (.ref e) (Two X H1 e it a)
theorem pe_enumV {X : Cx} {e : Expr} {te : TE} {p pos : Pos} (hg : Gl X "enumerate") (hm : X.mg "enumerate" = none) (ha : PE X e te) (hs : starEach [e] X.env = (false, eval e X.env) :: starEach [] X.env := by rfl) (hs2 : starEach [e] X.env = [(false, eval e X.env)] := by rfl) : PE X (.Call (.Name "enumerate" p) [e] [] pos) (tEnum X te) := by
  refine ⟨fun pins s σ H Q I h => ?_⟩
  have ha' : PA X [e] (tCons te tNil) := pa_cons ha pa_nil hs
  refine Call_ (ld_blt I hg hm boot_enumerate (PyProof.Rows.callWith_type1 (thn (ha'.run pos pins s σ H _ I h) fun us s1 ⟨vs, H1, I1, r1, q1⟩ => ?_) hs2 rfl))
  obtain ⟨a, xs, ex, hq, q⟩ := q1
  subst ex
  cases r1 with
  | cons r rr =>
    cases rr
    cases r
    obtain ⟨its, rv, p', hz⟩ := I1.tuple hq
    have hal : a < s1.heap.objs.size := by obtain ⟨o, e, _⟩ := p'; exact Heap.lt_size e
    refine enum_call1 (begins_tuple a its.toArray) p' fun h' he hit hk => ?_
    have d1 : s1.heap.objs.size + 1 ≠ s1.heap.objs.size := Nat.succ_ne_self _
    refine ⟨.ref (s1.heap.objs.size + 1), Two X H1 (s1.heap.objs.size + 1) s1.heap.objs.size a, hold_laid (t' := s1.toks) I1 hk (Nat.le_succ _) (Nat.le_refl _) d1 he ⟨_, hit, rfl, rfl⟩, rfl, ?_⟩
    exact q _ _ ⟨rfl, I1.hok.fresh (Nat.le_succ _), I1.hok.fresh (Nat.le_refl _), d1, Nat.ne_of_lt hal, Nat.ne_of_lt (Nat.lt_succ_of_lt hal)⟩
/-- walking a local that holds an enumerate -/
def tEnV (X : Cx) (i : Nat) : TI := fun σ H R => ∃ H1 e it a xs, Hold X H1 H e it a ∧ σ[i]? = some (some (.ref e)) ∧ SqT X.K H1 a xs ∧ R (IteT X.K a) H1
theorem pi_enumV {X : Cx} {i : Nat} {x : Str} {p tpos : Pos} {elts : List Expr} {kk : Nat} (hN : X.N[i]? = some x) (hv : Vis X.env.scope x) (hd : (x == ("__debug__" : Str)) = false := by decide) (hcd : (x == ("__classdict__" : Str)) = false := by decide) : PI X (.Tuple elts kk tpos) (.Name x p) (tEnV X i) := by
  refine ⟨fun pins s σ H R I h => ?_⟩
  obtain ⟨H1, e, it, a, xs, q, hi, hq, r⟩ := h
  refine thn ((pe_var hN hv hd hcd).run pins s σ H (fun v H' => v = .ref e ∧ H' = H) I ⟨_, hi, rfl, rfl⟩) fun u s1 ⟨v, H', I1, r1, e1, e2⟩ => ?_
  subst e1
  subst e2
  cases r1
  obtain ⟨x1, x2, _, _⟩ := hold_heap q I1
  refine wpAny_pyIter_enum x1 ?_
  exact ⟨e, [e, it], _, _, H1, rfl, hold_inv q I1, turn_enumT a e it, ⟨⟨.none, x1⟩, x2, q.d1, q.d2, q.d3⟩, fun b hb => hold_fp q I1 b (by simpa using hb), r⟩
def Held (X : Cx) (i j : Nat) (te : TE) : TE := fun σ H Q => ∃ H1 e it a xs, Hold X H1 H e it a ∧ σ[i]? = some (some (.ref e)) ∧ σ[j]? = some (some (.ref a)) ∧ SqT X.K H1 a xs ∧ te σ H1 Q
/-- enumerate of a tuple alone -/
def itEnT (a : FE) : FI := fun ρ => bd (a ρ) fun d => match d with
  | .tup ds => rt (enumF 0 ds)
  | .tpx ds => rt (enumF 0 ds)
  | _ => no
section
variable {X : Cx} {c : Cn} {E : XK} {i j : Nat} {σ : L2.St} {H H1 : Hp} {e it a : Addr} {xs : List V} {R : It → Hp → Prop}
theorem wi_held (q : Hold X H1 H e it a) (f1 : σ[i]? = some (some (.ref e))) (f2 : σ[j]? = some (some (.ref a))) (f3 : SqT X.K H1 a xs) (h : tI X.K c E (itEnT (var j)) σ H1 R) : tEnV X i σ H R := by
  obtain ⟨W, ρ, S, st, en, q1⟩ := h
  refine ⟨H1, e, it, a, xs, q, f1, f3, ?_⟩
  unfold itEnT bd var at q1
  cases hs : slot ρ j with
  | none => rw [hs] at q1; exact q1.elim
  | some d =>
    obtain ⟨v, e1, e2⟩ := en.vl j d (slot_some hs)
    rw [f2] at e1
    cases e1
    rw [hs] at q1
    cases d <;> first | exact (show False from q1).elim | skip
    · obtain ⟨p, vs, e3, h1, r⟩ := e2
      cases e3
      exact q1 W H1 _ st (Keep.refl W H1) (itr_enumT (fun H e => SqT.of (e _ _ h1)) r)
    · obtain ⟨p, vs, o, e3, h1, h2, r⟩ := e2
      cases e3
      exact q1 W H1 _ st (Keep.refl W H1) (itr_enumT (fun H e => IsX.sq ⟨o, e _ _ h1⟩) r)
end
section
variable {X : Cx} {c : Cn} {E : XK} {i j : Nat} {a elt : Expr} {fa : FE} {x y T : String} {r : R1} {f : D → Option D}
theorem me_lcE {elts ifs : List Expr} {kk : Nat} {p tpos pos : Pos} {z : Str} {scope : Scope} {own : List (Str × Nat)} {td : TGd} {test : FB} {fe : FE} (hc : X.calm = true) (hN : X.N.Nodup) (hz : X.N[i]? = some z) (hv : Vis X.env.scope z) (hd : (z == ("__debug__" : Str)) = false) (hcd : (z == ("__classdict__" : Str)) = false) (ok : BlkOk X.N X.env.scope scope own)
    (hg : ∀ (s : Shared) (H : Hp) (C : Addr) (cl : List (Str × Addr)) (fp : List Addr), PG (X.blk s H scope (compEnvC scope cl C X.env) fp) (.Tuple elts kk tpos) (tGd X.K c (own.map (·.2)) td))
    (ht : ∀ (s : Shared) (H : Hp) (C : Addr) (cl : List (Str × Addr)) (fp : List Addr), PTs (X.blk s H scope (compEnvC scope cl C X.env) fp) ifs (tT X.K c EF test))
    (he : ∀ (s : Shared) (H : Hp) (C : Addr) (cl : List (Str × Addr)) (fp : List Addr), PE (X.blk s H scope (compEnvC scope cl C X.env) fp) elt (tM X.K c EF fe)) (hs : ∀ x, foldedSetIterable (.Name z p) X.env x = pure x := by intro _; rfl) :
    PE X (.ListComp elt [⟨.Tuple elts kk tpos, .Name z p, ifs, 0⟩] scope pos) (Held X i j (tO X.K c E (lcE (itEnT (var j)) td test fe (own.map (·.2))))) :=
  pe_imp (pe_lc hc hN (pi_enumV hz hv hd hcd) ok hg ht he hs) fun σ H Q ⟨H1, e, it, a, xs, q, f1, f2, f3, h⟩ => wi_held q f1 f2 f3 (lc_out σ H1 Q h)
theorem bo_of {σ : L2.St} {H : Hp} {Q : VK} : tB X.K c E fa σ H Q → tO X.K c E fa σ H Q := fun ⟨W, ρ, S, st, en, q⟩ => ⟨W, ρ, S, st, en, by
  cases hf : fa ρ S with
  | ok d S' =>
    rw [hf] at q
    rintro W' H' v st' k ⟨a, rfl, h1, h2, h3, h4⟩
    exact q W' H' _ st' k (.inr ⟨a, rfl, h3, h4⟩)
  | er n p S' =>
    rw [hf] at q
    exact q
  | no =>
    rw [hf] at q
    exact q⟩
theorem me_tyE {T : String} {r : R1} {f : D → Option D} {x : Str} {p pos : Pos} (hc : CallR X (.type T) r) (hr : UnM X.K c r f) (hm : X.mg x = none) (ha : PE X a (Held X i j (tO X.K c E fa))) (hv : bootBuiltins x = some (.type T)) (hg : X.env.kindOf x = some .globalImplicit) (hn : x ≠ "__name__")
    (hdb : (x == ("__debug__" : Str)) = false) (he : starEach [a] X.env = (false, eval a X.env) :: starEach [] X.env) (hpl : (backTo pos (starEach [] X.env)).any (·.1) = false) : PE X (.Call (.Name x p) [a] [] pos) (Held X i j (tM X.K c E (op1 f fa))) :=
  pe_imp (pe_callTy hc hg hm hv (pa_cons ha pa_nil he) hn hdb he hpl) fun σ H Q ⟨H1, e, it, a, xs, q, f1, f2, f3, h⟩ => ⟨H1, e, it, a, xs, q, f1, f2, f3, bo_of (op1_out hr σ H1 Q h)⟩
/-- the guard: slot i is not read, slot j holds a tuple -/
def enS (i j : Nat) (F : FS) : FS := fun ρ => match ρ[i]?, slot ρ j with
  | some .no, some (.tup _) => F ρ
  | some .no, some (.tpx _) => F ρ
  | _, _ => no
theorem en_no {W : Wd} {H : Hp} {σ : L2.St} {ρ : En} {v : V} (en : EnvOk X.K c W H σ ρ) (h : ρ[i]? = some .no) : EnvOk X.K c W H (σ.set i (some v)) ρ where
  len := by rw [List.length_set]; exact en.len
  vl := fun k d e => by
    rw [List.getElem?_set_ne (fun z => by rw [← z, h] at e; cases e)]
    exact en.vl k d e
  ow := fun k d e => by
    rw [List.getElem?_set_ne (fun z => by rw [← z, h] at e; cases e)]
    exact en.ow k d e
  sep := fun k l d d2 b h1 h2 h3 h4 => by
    rw [List.getElem?_set_ne (fun z => by rw [← z, h] at h1; cases h1)] at h3
    rw [List.getElem?_set_ne (fun z => by rw [← z, h] at h2; cases h2)] at h4
    exact en.sep k l d d2 b h1 h2 h3 h4
theorem ret_held {W : Wd} {H H2 : Hp} {σ : L2.St} {ρ : En} {S : DS} {D : Ends} {e it p : Addr} {vs : List V} (st : StOk X.K c W H S) (en : EnvOk X.K c W H σ ρ) (hi : ρ[i]? = some .no) (hj : σ[j]? = some (some (.ref p))) (hji : i ≠ j) (hsq : SqT X.K H p vs) (q : Hold X H H2 e it p)
    (h : OutS X.K c W H σ ρ E D (retS fa ρ S)) : Held X i j (tM X.K c E fa) (σ.set i (some (.ref e))) H2 D.rt := by
  have hl : i < σ.length := by
    rw [← en.len]
    exact (List.getElem?_eq_some_iff.mp hi).1
  refine ⟨H, e, it, p, vs, q, List.getElem?_set_self hl, by rw [List.getElem?_set_ne hji]; exact hj, hsq, W, ρ, S, st, en_no en hi, ?_⟩
  unfold retS bd at h
  cases hf : fa ρ S with
  | ok d S' =>
    rw [hf] at h
    exact fun W' H' v st' k r => h W' H' v st' (k.toS st') r
  | er n pd S' =>
    rw [hf] at h
    exact h.q
  | no =>
    rw [hf] at h
    exact h
theorem ms_enum2 {x y : Str} {p p1 p2 p3 pos pos2 : Pos} (hN : X.N.Nodup) (hi : X.N[i]? = some x) (hx : Loc X.env.scope x) (hj : X.N[j]? = some y) (hy : Vis X.env.scope y) (hyd : (y == ("__debug__" : Str)) = false) (hyc : (y == ("__classdict__" : Str)) = false) (hg : Gl X "enumerate") (hm : X.mg "enumerate" = none)
    (hb : PE X a (Held X i j (tM X.K c E fa))) (hs : swapsWith (.Call (.Name "enumerate" p) [.Name y p2] [] p3) (some (.Name x p1)) pos.line X.env = pure false) (hf : X.fn x = true ∨ X.env.scope.names.lookup x = some .local)
    (hs1 : starEach [.Name y p2] X.env = (false, eval (.Name y p2) X.env) :: starEach [] X.env := by rfl) (hs2 : starEach [.Name y p2] X.env = [(false, eval (.Name y p2) X.env)] := by rfl) :
    PSs X [.Assign [.Name x p1] (.Call (.Name "enumerate" p) [.Name y p2] [] p3) pos, .Return (some a) pos2] (tS X.K c E (enS i j (retS fa))) := ⟨fun pins s σ H D I q => by
  refine (pss_cons (ps_set hN hi hx (pe_enumV hg hm (pe_var hj hy hyd hyc) hs1 hs2) hs hf) (pss_one (ps_ret hb))).run pins s σ H D I ?_
  obtain ⟨W, ρ, S, st, en, q⟩ := q
  cases h1 : ρ[i]? with
  | none => simp only [enS, h1] at q; exact q.elim
  | some sl =>
    cases sl with
    | vl d => simp only [enS, h1] at q; exact q.elim
    | ow d => simp only [enS, h1] at q; exact q.elim
    | no =>
      cases h2 : slot ρ j with
      | none => simp only [enS, h1, h2] at q; exact q.elim
      | some d =>
        obtain ⟨v, e1, e2⟩ := en.vl j _ (slot_some h2)
        have hji : i ≠ j := fun z => by
          rw [z, slot_some h2] at h1
          cases h1
        cases d <;> simp only [enS, h1, h2] at q <;> first | exact q.elim | skip
        · obtain ⟨p, vs, e3, e4, r⟩ := e2
          subst e3
          exact ⟨_, e1, p, vs, rfl, SqT.of (st.sub _ _ e4), fun e it hold => ret_held st en h1 e1 hji (SqT.of (st.sub _ _ e4)) hold q⟩
        · obtain ⟨p, vs, o, e3, e4, e5, r⟩ := e2
          subst e3
          exact ⟨_, e1, p, vs, rfl, IsX.sq ⟨o, st.sub _ _ e4⟩, fun e it hold => ret_held st en h1 e1 hji (IsX.sq ⟨o, st.sub _ _ e4⟩) hold q⟩⟩
theorem me_lcE' {elts ifs : List Expr} {kk : Nat} {p tpos pos : Pos} {z : Str} {scope : Scope} {own : List (Str × Nat)} {td : TGd} {test : FB} {fe : FE} (hc : X.calm = true) (hN : X.N.Nodup) (ok : BlkOk X.N X.env.scope scope own)
    (hg : ∀ (s : Shared) (H : Hp) (C : Addr) (cl : List (Str × Addr)) (fp : List Addr), PG (X.blk s H scope (compEnvC scope cl C X.env) fp) (.Tuple elts kk tpos) (tGd X.K c (own.map (·.2)) td))
    (ht : ∀ (s : Shared) (H : Hp) (C : Addr) (cl : List (Str × Addr)) (fp : List Addr), PTs (X.blk s H scope (compEnvC scope cl C X.env) fp) ifs (tT X.K c EF test))
    (he : ∀ (s : Shared) (H : Hp) (C : Addr) (cl : List (Str × Addr)) (fp : List Addr), PE (X.blk s H scope (compEnvC scope cl C X.env) fp) elt (tM X.K c EF fe))
    (hz : X.N[i]? = some z := by kernel_rfl) (hv : X.env.scope.names.lookup z = some .local := by kernel_rfl) (hd : (z == ("__debug__" : Str)) = false := by kernel_rfl) (hcd : (z == ("__classdict__" : Str)) = false := by kernel_rfl) :
    PE X (.ListComp elt [⟨.Tuple elts kk tpos, .Name z p, ifs, 0⟩] scope pos) (Held X i j (tO X.K c E (lcE (itEnT (var j)) td test fe (own.map (·.2))))) := me_lcE hc hN hz (.inl hv) hd hcd ok hg ht he
theorem me_tyE' {T : String} {r : R1} {f : D → Option D} {x : Str} {p pos : Pos} (hc : CallR X (.type T) r) (hr : UnM X.K c r f) (hm : X.mg x = none) (ha : PE X a (Held X i j (tO X.K c E fa))) (hv : bootBuiltins x = some (.type T) := by kernel_rfl) (hg : X.env.kindOf x = some .globalImplicit := by kernel_rfl) (hn : x ≠ "__name__" := by decide +kernel)
    (hdb : (x == ("__debug__" : Str)) = false := by kernel_rfl) (he : starEach [a] X.env = (false, eval a X.env) :: starEach [] X.env := by kernel_rfl) (hpl : (backTo pos (starEach [] X.env)).any (·.1) = false := by kernel_rfl) : PE X (.Call (.Name x p) [a] [] pos) (Held X i j (tM X.K c E (op1 f fa))) := me_tyE hc hr hm ha hv hg hn hdb he hpl
theorem ms_enum2' {x y : Str} {p p1 p2 p3 pos pos2 : Pos} (hN : X.N.Nodup) (hm : X.mg "enumerate" = none) (hb : PE X a (Held X i j (tM X.K c E fa))) (hi : X.N[i]? = some x := by kernel_rfl) (hx : X.env.scope.names.lookup x = some .local := by kernel_rfl) (hj : X.N[j]? = some y := by kernel_rfl) (hy : X.env.scope.names.lookup y = some .local := by kernel_rfl)
    (hyd : (y == ("__debug__" : Str)) = false := by kernel_rfl) (hyc : (y == ("__classdict__" : Str)) = false := by kernel_rfl) (hg : X.env.kindOf "enumerate" = some .globalImplicit := by kernel_rfl) (hs : swapsWith (.Call (.Name "enumerate" p) [.Name y p2] [] p3) (some (.Name x p1)) pos.line X.env = pure false := by kernel_rfl)
    (hs1 : starEach [.Name y p2] X.env = (false, eval (.Name y p2) X.env) :: starEach [] X.env := by kernel_rfl) (hs2 : starEach [.Name y p2] X.env = [(false, eval (.Name y p2) X.env)] := by kernel_rfl) :
    PSs X [.Assign [.Name x p1] (.Call (.Name "enumerate" p) [.Name y p2] [] p3) pos, .Return (some a) pos2] (tS X.K c E (enS i j (retS fa))) := ms_enum2 hN hi (.inl hx) hj (.inl hy) hyd hyc hg hm hb hs (.inr hx) hs1 hs2
end
end Mini
namespace Mini
open PySem PySem.Spec PyProof.Rows L2 Evl
/-! ### len of a dict; a, b = a list -/
def dLenX : D → Option D
  | .dic es => some (.int es.length)
  | .dit es => some (.int es.length)
  | d => dLen d
def rLenD2 : R1 := fun xs H Q => ∃ a kvs, xs = [V.ref a] ∧ H a = some (.dK kvs) ∧ Q (.int kvs.length) H
def rLenX (K : PySem.W.Frag) : R1 := fun xs H Q => (rLenD2 xs H Q ∨ rLenT xs H Q) ∨ rLenAll K xs H Q
theorem cr_lenX {X : Cx} : CallR X (.builtin "len") (rLenX X.K) := (call_lenD.or call_len_dT).or cr_lenAll
theorem u_lenX {X : Cx} {c : Cn} : UnM X.K c (rLenX X.K) dLenX := fun {W H S d d' v} Q st a q k => by
  cases d <;> first | exact .inr (u_len Q st a q k) | skip
  · cases q
    obtain ⟨p, kvs, rfl, h2, h3⟩ := a.dic st
    refine .inl (.inl ⟨p, kvs, rfl, h2, ?_⟩)
    rw [repE_len h3]
    exact k W H _ st (Keep.refl W H) rfl
  · cases q
    obtain ⟨p, kvs, rfl, h2, h3⟩ := a.dit st
    refine .inl (.inr ⟨p, kvs, rfl, h2, ?_⟩)
    rw [repT_len h3]
    exact k W H _ st (Keep.refl W H) rfl
def tgL (ts : List TGd) : TGd := fun d ρ => match d with
  | .lst ds => tgs ts ds ρ
  | _ => none
theorem mg_lst {X : Cx} {c : Cn} {pos : Pos} {us : List Nat} {es : List Expr} {k : Nat} {ts : List TGd} (hc : X.calm = true) (h : PGs X es (tGds X.K c us ts)) (hn : (assignEach es X.env).length = ts.length := by rfl) (hst : (assignEach es X.env).findIdx? (·.1) = none := by rfl) : PG X (.Tuple es k pos) (tGd X.K c us (tgL ts)) :=
  pg_imp (pg_lst hc h hn hst) fun v σ H Q h => by
    obtain ⟨W, ρ, S, d, ρ', st, en, r, e, q⟩ := h
    cases d <;> first | (cases e; done) | skip
    obtain ⟨a, vs, rfl, h1, h2⟩ := r
    exact ⟨a, vs, rfl, SqL.of (st.sub _ _ h1), by rw [RepL.length h2]; exact tgs_len e, W, ρ, S, _, ρ', st, en, h2, e, q⟩
end Mini
namespace Mini
open PySem PySem.Spec PyProof.Rows L2 Evl
/-! ### f(l), l a list of plain things that stays our own: f does not look at the draws, and what it gives is plain -/
def gr : D → Bool
  | .non => true
  | .bl _ => true
  | .int _ => true
  | .str _ => true
  | _ => false
section
variable {K : PySem.W.Frag} {c : Cn} {W W2 : Wd}
theorem rep_gr {d : D} {v : V} (h : gr d = true) (r : Rep K c W d v) : Rep K c W2 d v := by
  cases d <;> first | exact r | (cases h; done)
theorem repL_gr : ∀ {ds : List D} {vs : List V}, ds.all gr = true → RepL K c W ds vs → RepL K c W2 ds vs
  | [], vs, _, r => r
  | d :: ds, vs, h, r => by
    rw [List.all_cons, Bool.and_eq_true] at h
    obtain ⟨v, r', e, r1, r2⟩ := r
    exact ⟨v, r', e, rep_gr h.1 r1, repL_gr h.2 r2⟩
end
/-- only slot i is seen -/
def lone (n i : Nat) (d : D) : En := (List.replicate n Slot.no).set i (.vl d)
def thwE (i : Nat) (f : FE) : FE := fun ρ S => match ρ[i]? with
  | some (.ow (.lst ds)) => if ds.all gr = true then (match f (lone ρ.length i (.lst ds)) none with
    | .ok r none => if gr r = true then .ok r S else .no
    | _ => .no) else .no
  | _ => .no
theorem me_thw {X : Cx} {c : Cn} {E : XK} {i : Nat} {e : Expr} {f : FE} (h : PE X e (tM X.K c E f)) : PE X e (tM X.K c E (thwE i f)) := pe_imp h fun σ H Q q => by
  obtain ⟨W, ρ, S, st, en, q⟩ := q
  cases hi : ρ[i]? with
  | none => simp only [thwE, hi] at q
  | some sl =>
    cases sl with
    | no => simp only [thwE, hi] at q
    | vl d => simp only [thwE, hi] at q
    | ow d =>
      cases d <;> simp only [thwE, hi] at q <;> first | exact q.elim | skip
      rename_i ds
      by_cases hg : ds.all gr = true
      · rw [if_pos hg] at q
        obtain ⟨a, h1, h2, h3, vs, h4, h5⟩ := en.ow i _ hi
        have hil : i < ρ.length := (List.getElem?_eq_some_iff.mp hi).1
        let W1 : Wd := ⟨upd W.H0 a (.lst vs), none⟩
        have w1 : ∀ b, b ≠ a → W1.H0 b = W.H0 b := fun b hb => upd_ne hb
        have wa : W1.H0 a = some (.lst vs) := upd_same
        refine ⟨W1, lone ρ.length i (.lst ds), none, ⟨fun b u e => ?_, rfl⟩, ⟨?_, fun j d hj => ?_, fun j d hj => ?_, fun j k d1 d2 b j1 j2 j3 j4 => ?_⟩, ?_⟩
        · by_cases hb : b = a
          · subst hb
            rw [wa] at e
            cases e
            exact h4
          · rw [w1 b hb] at e
            exact st.sub b u e
        · unfold lone
          rw [List.length_set, List.length_replicate]
          exact en.len
        · unfold lone at hj
          by_cases hji : i = j
          · subst hji
            rw [List.getElem?_set_self (by rw [List.length_replicate]; exact hil)] at hj
            cases hj
            exact ⟨_, h1, a, vs, rfl, wa, repL_gr hg h5⟩
          · rw [List.getElem?_set_ne hji, List.getElem?_replicate] at hj
            split at hj
            · cases hj
            · cases hj
        · exfalso
          unfold lone at hj
          by_cases hji : i = j
          · subst hji
            rw [List.getElem?_set_self (by rw [List.length_replicate]; exact hil)] at hj
            cases hj
          · rw [List.getElem?_set_ne hji, List.getElem?_replicate] at hj
            split at hj
            · cases hj
            · cases hj
        · exfalso
          unfold lone at j1
          by_cases hji : i = j
          · subst hji
            rw [List.getElem?_set_self (by rw [List.length_replicate]; exact hil)] at j1
            cases j1
          · rw [List.getElem?_set_ne hji, List.getElem?_replicate] at j1
            split at j1
            · cases j1
            · cases j1
        · cases hf : f (lone ρ.length i (.lst ds)) none with
          | no => rw [hf] at q; exact q
          | er n p S' => rw [hf] at q; exact q.elim
          | ok r S' =>
            rw [hf] at q
            cases S' with
            | some s => exact q.elim
            | none =>
              simp only [] at q
              by_cases hr : gr r = true
              · rw [if_pos hr] at q
                intro W' H' v st' k rv
                have ex : WEx W ⟨fun b => if b = a then none else W'.H0 b, W.sa⟩ := ⟨fun b o hb => by
                  have nb : b ≠ a := fun z => by rw [z, h2] at hb; cases hb
                  show (if b = a then none else W'.H0 b) = some o
                  rw [if_neg nb]
                  exact k.wex.1 b o (by rw [w1 b nb]; exact hb), fun x e => e⟩
                have fr : ∀ b o, H b = some o → W.H0 b = none → (if b = a then none else W'.H0 b) = none := fun b o hb e => by
                  by_cases z : b = a
                  · rw [if_pos z]
                  · rw [if_neg z]
                    exact k.fr b o hb (by rw [w1 b z]; exact e)
                refine q ⟨fun b => if b = a then none else W'.H0 b, W.sa⟩ H' v ⟨fun b o hb => ?_, ?_⟩ ⟨ex, fun b o hb _ => k.old b o hb (fun z => by cases z), fr, fun b o hb z => z⟩ (rep_gr hr rv)
                · have hb : (if b = a then none else W'.H0 b) = some o := hb
                  by_cases z : b = a
                  · rw [if_pos z] at hb
                    cases hb
                  · rw [if_neg z] at hb
                    exact st'.sub b o hb
                · have sd := st.ds
                  cases S with
                  | none => exact sd
                  | some ss =>
                    obtain ⟨s0, us, d1, d2, d3, d4⟩ := sd
                    exact ⟨s0, us, d1, fr s0 _ d3 d2, k.old s0 _ d3 (fun z => by cases z), RepL.ext ex ss us d4⟩
              · rw [if_neg hr] at q
                exact q.elim
      · rw [if_neg hg] at q
        exact q.elim
end Mini
namespace Mini
open PySem PySem.Spec PyProof.Rows L2 Evl
/-! ### a, b = a tuple, exact or not -/
def tgX (ts : List TGd) : TGd := fun d ρ => match d with
  | .tup ds => tgs ts ds ρ
  | .tpx ds => tgs ts ds ρ
  | _ => none
theorem mg_tupX {X : Cx} {c : Cn} {pos : Pos} {us : List Nat} {es : List Expr} {k : Nat} {ts : List TGd} (hc : X.calm = true) (h : PGs X es (tGds X.K c us ts)) (hn : (assignEach es X.env).length = ts.length := by rfl) (hst : (assignEach es X.env).findIdx? (·.1) = none := by rfl) : PG X (.Tuple es k pos) (tGd X.K c us (tgX ts)) :=
  pg_imp (pg_tup hc h hn hst) fun v σ H Q h => by
    obtain ⟨W, ρ, S, d, ρ', st, en, r, e, q⟩ := h
    cases d <;> first | (cases e; done) | skip
    · obtain ⟨a, vs, rfl, h1, h2⟩ := r
      exact ⟨a, vs, rfl, SqT.of (st.sub _ _ h1), by rw [RepL.length h2]; exact tgs_len e, W, ρ, S, _, ρ', st, en, h2, e, q⟩
    · obtain ⟨a, vs, o, rfl, h1, h2, h3⟩ := r
      exact ⟨a, vs, rfl, IsX.sq ⟨o, st.sub _ _ h1⟩, by rw [RepL.length h3]; exact tgs_len e, W, ρ, S, _, ρ', st, en, h3, e, q⟩
end Mini
namespace Mini
open PySem PySem.Spec PyProof.Rows L2 Evl
/-! ### len(set(e)), e a list of ints, some of them alike -/
def setN (ns : List Int) : Nat := (firstMet (fun i => ns.getD i 0) ns.length).length
theorem firstMet_le (val : Nat → Int) : ∀ n, (firstMet val n).length ≤ n
  | 0 => Nat.le_refl _
  | n + 1 => by
    rw [firstMet_succ]
    unfold step_dedup
    split
    · exact Nat.le_succ_of_le (firstMet_le val n)
    · rw [List.length_append]
      exact Nat.succ_le_succ (firstMet_le val n)
section
variable {X : Cx}
def tLenSetG (K : PySem.W.Frag) (ta : TE) : TE := fun σ H Q => ta σ H fun x H1 => ∃ (l : Addr) (ns : List Int), x = V.ref l ∧ SqL K H1 l (ns.map V.int) ∧ ns.length < 64 ∧ Q (.int (setN ns)) H1
theorem pe_lenSetG {a : Expr} {ta : TE} {p p2 q pos : Pos} (hc : X.calm = true) (hg : Gl X "len") (hm : X.mg "len" = none) (hg2 : Gl X "set") (hm2 : X.mg "set" = none) (ha : PE X a ta)
    (na : starEach [a] X.env = (false, eval a X.env) :: starEach [] X.env := by rfl) : PE X (.Call (.Name "len" p) [.Call (.Name "set" p2) [a] [] q] [] pos) (tLenSetG X.K ta) := by
  refine ⟨fun pins s σ H Q I h => ?_⟩
  refine Call_ (ld_blt I hg hm PySem.boot_len ?_)
  refine PyProof.Rows.callWith_builtin1 (PyProof.Rows.args_cons ?_ rfl) rfl rfl
  refine Call_ (ld_blt I hg2 hm2 PyProof.Rows.boot_set ?_)
  refine PyProof.Rows.callWith_type1 (PyProof.Rows.args_cons (thn (ha.run pins s σ H _ I h) fun v s1 ⟨x, H1, I1, r1, q1⟩ => PyProof.Rows.args_nil ?_) na) na rfl
  obtain ⟨l, ns, rfl, hq, h1, q1⟩ := q1
  cases r1
  obtain ⟨its, r, pl, hz⟩ := I1.list hq
  have hl : its.toArray.size = ns.length := by rw [List.size_toArray, ← r.length, List.length_map]
  refine call_set_list (I1.ok.hd hc) pl.isList (ns := ns) (by simpa using r.ints) (by unfold scanBound; omega) fun h' tk hS hk => ?_
  rw [hl] at hS
  refine PyProof.Rows.args_nil ?_
  obtain ⟨o, es, ep, t, ho, hex, hd, _, _, _, hf, hn⟩ := hS
  have I2 : Inv X pins σ H1 { s1 with heap := h', toks := tk } := I1.kept fun b o e => hk b o (Heap.lt_size e) e
  have hle := firstMet_le (fun i => ns.getD i 0) ns.length
  refine call_len_set ho hex hd hf (by rw [hn]; omega) ⟨.int (setN ns), H1, I2.tok _, ⟨_, by rw [hn]; rfl⟩, q1⟩
def dLenSet : D → Option D
  | .lst ds => if ds.length < 64 then (intsOf ds).map fun ns => .int ((setN ns : Nat) : Int) else none
  | _ => none
theorem intsOf_len : ∀ {ds : List D} {ns : List Int}, intsOf ds = some ns → ns.length = ds.length
  | [], ns, h => by cases h; rfl
  | d :: ds, ns, h => by
    cases d <;> first | (cases h; done) | skip
    obtain ⟨ms, h1, rfl⟩ := Option.map_eq_some_iff.mp h
    simp only [List.length_cons, intsOf_len h1]
theorem me_lenSet {c : Cn} {E : XK} {a : Expr} {fa : FE} {p p2 q pos : Pos} (hc : X.calm = true) (hm : X.mg "len" = none) (hm2 : X.mg "set" = none) (ha : PE X a (tB X.K c E fa)) (hg : X.env.kindOf "len" = some .globalImplicit := by kernel_rfl) (hg2 : X.env.kindOf "set" = some .globalImplicit := by kernel_rfl)
    (na : starEach [a] X.env = (false, eval a X.env) :: starEach [] X.env := by kernel_rfl) : PE X (.Call (.Name "len" p) [.Call (.Name "set" p2) [a] [] q] [] pos) (tM X.K c E (op1 dLenSet fa)) :=
  pe_imp (pe_lenSetG hc hg hm hg2 hm2 ha na) fun σ H Q h => by
    obtain ⟨W, ρ, S, st, en, q⟩ := tM_un h
    refine then_B (O := OutM X.K c W H E Q) st en (fun _ _ _ z => z) (fun z => z) q fun d S1 W1 H1 v st1 k1 r1 q1 => ?_
    obtain ⟨d', e', q3⟩ := lift_ok (β := D) (O := OutM X.K c W H E Q) (fun z => z) q1
    cases d <;> first | (cases e'; done) | skip
    simp only [dLenSet] at e'
    split at e'
    · rename_i hl
      obtain ⟨ns, e2, rfl⟩ := Option.map_eq_some_iff.mp e'
      obtain ⟨p, vs, rfl, h1, r2⟩ := r1.lst st1
      have e3 := ints_rep e2 r2
      subst e3
      exact ⟨p, ns, rfl, SqL.of h1, by rw [intsOf_len e2]; exact hl, q3 W1 H1 _ st1 k1 rfl⟩
    · cases e'
end
/-! ### sorted of a list of pairs of ints -/
abbrev Pn := Int × Int
def ltPr (p q : Pn) : Bool := SrtO.lexB p q
def insP (p : Pn) : List Pn → List Pn
  | [] => [p]
  | q :: qs => if ltPr q p = true then q :: insP p qs else p :: q :: qs
def sortP : List Pn → List Pn
  | [] => []
  | p :: ps => insP p (sortP ps)
theorem insP_perm (p : Pn) : ∀ qs : List Pn, (insP p qs).Perm (p :: qs)
  | [] => List.Perm.refl _
  | q :: qs => by
    unfold insP
    split
    · exact ((insP_perm p qs).cons q).trans (List.Perm.swap p q qs)
    · exact List.Perm.refl _
theorem ltPr_no {p q : Pn} : ltPr q p = false ↔ (p.1 < q.1 ∨ (p.1 = q.1 ∧ p.2 ≤ q.2)) := by
  unfold ltPr
  rw [SrtO.lexB_no]
  omega
theorem insP_sorted (p : Pn) : ∀ qs : List Pn, qs.Pairwise (fun a b => ltPr b a = false) → (insP p qs).Pairwise fun a b => ltPr b a = false
  | [], _ => by simp [insP]
  | q :: qs, h => by
    rw [List.pairwise_cons] at h
    unfold insP
    split
    · rename_i hn
      refine List.pairwise_cons.mpr ⟨fun x hx => ?_, insP_sorted p qs h.2⟩
      rcases List.mem_cons.mp ((insP_perm p qs).mem_iff.mp hx) with rfl | hx
      · have := SrtO.lexB_iff.mp hn
        rw [ltPr_no]
        omega
      · exact h.1 x hx
    · rename_i hn
      have hq : ltPr q p = false := by simpa using hn
      refine List.pairwise_cons.mpr ⟨fun x hx => ?_, List.pairwise_cons.mpr h⟩
      rcases List.mem_cons.mp hx with rfl | hx
      · exact hq
      · have a := h.1 x hx
        rw [ltPr_no] at *
        omega
theorem sortP_perm : ∀ ps : List Pn, (sortP ps).Perm ps
  | [] => List.Perm.refl _
  | p :: ps => (insP_perm p _).trans ((sortP_perm ps).cons p)
theorem sortP_sorted : ∀ ps : List Pn, (sortP ps).Pairwise fun a b => ltPr b a = false
  | [] => List.Pairwise.nil
  | p :: ps => insP_sorted p _ (sortP_sorted ps)
theorem sortP_unique {ps ys : List Pn} (h1 : ys.Perm ps) (h2 : ys.Pairwise fun a b => ltPr b a = false) : ys = sortP ps :=
  List.Perm.eq_of_pairwise (fun a b _ _ e1 e2 => by
    have x := ltPr_no.mp e1
    have y := ltPr_no.mp e2
    exact Prod.ext (by omega) (by omega)) h2 (sortP_sorted ps) (h1.trans (sortP_perm ps).symm)
def prOf : D → Option Pn
  | .tup [.int a, .int b] => some (a, b)
  | _ => none
def prsOf : List D → Option (List Pn)
  | [] => some []
  | d :: ds => match prOf d with
    | some p => (prsOf ds).map fun ps => p :: ps
    | none => none
def prD (p : Pn) : D := .tup [.int p.1, .int p.2]
theorem prOf_get {d : D} {p : Pn} (h : prOf d = some p) : d = prD p := by
  unfold prOf at h
  split at h
  · cases h
    rfl
  · cases h
def dSortedP : D → Option D
  | .lst ds => (prsOf ds).map fun ps => .lst ((sortP ps).map prD)
  | _ => none
/-- the pair behind a reference -/
def kOf (H : Hp) : V → Pn
  | .ref a => match H a with
    | some (.tup [.int x, .int y]) => (x, y)
    | _ => (0, 0)
  | _ => (0, 0)
theorem rep_kOf {K : PySem.W.Frag} {c : Cn} {W : Wd} {H : Hp} (st : ∀ a o, W.H0 a = some o → H a = some o) {p : Pn} {v : V} (r : Rep K c W (prD p) v) : kOf H v = p ∧ ∃ t, v = V.ref t ∧ H t = some (.tup [.int p.1, .int p.2]) := by
  obtain ⟨a, vs, rfl, h1, r1⟩ := r
  obtain ⟨v1, w1, rfl, rfl, v2, w2, rfl, rfl, rfl⟩ := r1
  have h := st _ _ h1
  refine ⟨?_, a, rfl, h⟩
  show (match H a with
      | some (.tup [.int x, .int y]) => (x, y)
      | _ => (0, 0)) = p
  rw [h]
theorem prs_rep {K : PySem.W.Frag} {c : Cn} {W : Wd} {H : Hp} (st : ∀ a o, W.H0 a = some o → H a = some o) : ∀ {ds : List D} {ps : List Pn} {vs : List V}, prsOf ds = some ps → RepL K c W ds vs →
    vs.map (kOf H) = ps ∧ ∀ v ∈ vs, Rep K c W (prD (kOf H v)) v ∧ ∃ t, v = V.ref t ∧ H t = some (.tup [.int (kOf H v).1, .int (kOf H v).2])
  | [], ps, vs, h, r => by
    cases h
    cases r
    exact ⟨rfl, fun v hv => by cases hv⟩
  | d :: ds, ps, vs, h, r => by
    obtain ⟨v, us, rfl, r1, r2⟩ := r
    unfold prsOf at h
    cases hp : prOf d with
    | none =>
      rw [hp] at h
      cases h
    | some p =>
      rw [hp] at h
      obtain ⟨qs, h1, rfl⟩ := Option.map_eq_some_iff.mp h
      have e := prOf_get hp
      subst e
      obtain ⟨k1, k2⟩ := rep_kOf st r1
      obtain ⟨i1, i2⟩ := prs_rep st h1 r2
      refine ⟨by rw [List.map_cons, k1, i1], fun u hu => ?_⟩
      rcases List.mem_cons.mp hu with rfl | hu
      · rw [k1]
        exact ⟨r1, k2⟩
      · exact i2 u hu
theorem repL_prs {K : PySem.W.Frag} {c : Cn} {W : Wd} {k : V → Pn} : ∀ {vs : List V}, (∀ v ∈ vs, Rep K c W (prD (k v)) v) → RepL K c W ((vs.map k).map prD) vs
  | [], _ => rfl
  | v :: vs, h => ⟨v, vs, rfl, h v (List.mem_cons_self ..), repL_prs fun u hu => h u (List.mem_cons_of_mem _ hu)⟩
theorem u_sortedP {X : Cx} {c : Cn} : UnO X.K c (rSortedPO X.K) dSortedP := fun {W H S d d' v} Q st a q k => by
  cases d <;> first | (cases q; done) | skip
  rename_i ds
  obtain ⟨ps, e2, rfl⟩ := Option.map_eq_some_iff.mp q
  obtain ⟨p, vs, rfl, h1, r1⟩ := a.lst st
  obtain ⟨i1, i2⟩ := prs_rep (fun a o e => st.sub a o e) e2 r1
  refine ⟨p, vs, kOf H, rfl, SqL.of h1, fun x hx => (i2 x hx).2, fun ys l hs hb hn => ?_⟩
  have e : ys.map (kOf H) = sortP ps := sortP_unique (by rw [← i1]; exact hb.perm.map _) (List.pairwise_map.mpr hs)
  have r2 : RepL X.K c W ((ys.map (kOf H)).map prD) ys := repL_prs fun v hv => (i2 v (hb.perm.mem_iff.mp hv)).1
  rw [e] at r2
  exact k _ _ _ (new_st st hn) (new_keep st hn) (new_own st hn r2)
end Mini
namespace Mini
open PySem
open L2 (atI ixN atI_nat kitB)
open L2 (Key)
theorem while_go {t : FB} {b : FS} {w : Nat} {ρ ρ' : En} {S S1 S2 : DS} (h1 : t ρ S = .ok true S1) (h2 : b ρ S1 = .ok (.nx ρ') S2) : whileS t b (w + 1) ρ S = whileS t b w ρ' S2 := by
  simp only [whileS, bd, h1, h2, if_true]
theorem while_end {t : FB} {b : FS} {w : Nat} {ρ : En} {S S1 : DS} (h1 : t ρ S = .ok false S1) : whileS t b (w + 1) ρ S = .ok (.nx ρ) S1 := by
  simp only [whileS, bd, h1, Bool.false_eq_true, if_false, rt]
theorem for_of {it : FI} {t : TGd} {b : FS} {ρ : En} {S S1 : DS} {ds : List D} (h : it ρ S = .ok ds S1) : forS it t b ρ S = forL t b ds ρ S1 := by
  simp only [forS, bd, h]
theorem seq_nx {a b : FS} {ρ ρ' : En} {S S' : DS} (h : a ρ S = .ok (.nx ρ') S') : seqS a b ρ S = b ρ' S' := by
  simp only [seqS, bd, h]
theorem lc_of {it : FI} {t : TGd} {test : FB} {elt : FE} {vs : List Nat} {ρ : En} {S S1 S2 : DS} {ds r : List D} (h1 : it ρ S = .ok ds S1) (h2 : lcL t test elt ds [] (wipeR ρ vs) S1 = .ok r S2) : lcE it t test elt vs ρ S = .ok (.lst r) S2 := by
  unfold lcE bd
  rw [h1]
  show bd (lcL t test elt ds [] (wipeR ρ vs)) (fun r => rt (D.lst r)) S1 = _
  unfold bd
  rw [h2]
  rfl
theorem asg_of {i : Nat} {f : FE} {ρ : En} {S S' : DS} {d : D} (h : f ρ S = .ok d S') : asgS i f ρ S = .ok (.nx (setV i d ρ)) S' := by
  unfold asgS bd
  rw [h]
  rfl
theorem asgO_of {i : Nat} {f : FE} {ρ : En} {S S' : DS} {d : D} (h : f ρ S = .ok d S') : asgOS i f ρ S = .ok (.nx (setO i d ρ)) S' := by
  unfold asgOS bd
  rw [h]
  rfl
theorem ret_of {f : FE} {ρ : En} {S S' : DS} {d : D} (h : f ρ S = .ok d S') : retS f ρ S = .ok (.rt d) S' := by
  unfold retS bd
  rw [h]
  rfl
theorem app_of {i : Nat} {f : FE} {ρ : En} {S S' : DS} {d : D} {ds : List D} (h0 : ownL ρ i = some ds) (h : f ρ S = .ok d S') (hl : ds.length < 16777216) : appS i f ρ S = .ok (.nx (setO i (.lst (ds ++ [d])) ρ)) S' := by
  unfold appS bd
  rw [h0]
  simp only [lift, rt, h]
  rw [if_pos hl]
  rfl
theorem ext_of {i : Nat} {f : FE} {ρ : En} {S S' : DS} {es ds : List D} (h0 : ownL ρ i = some ds) (h : f ρ S = .ok (.lst es) S') (hl : ds.length + es.length ≤ 16777216) : extS i f ρ S = .ok (.nx (setO i (.lst (ds ++ es)) ρ)) S' := by
  unfold extS bd
  rw [h0]
  simp only [lift, rt, h]
  exact congrFun (if_pos hl) S'
theorem expr_of {f : FE} {ρ : En} {S S' : DS} {d : D} (h : f ρ S = .ok d S') : exprS f ρ S = .ok (.nx ρ) S' := by
  unfold exprS bd
  rw [h]
  rfl
theorem op1_of {g : D → Option D} {f : FE} {ρ : En} {S S' : DS} {d e : D} (h : f ρ S = .ok d S') (hg : g d = some e) : op1 g f ρ S = .ok e S' := by
  unfold op1 bd
  rw [h]
  show lift (g d) S' = _
  rw [hg]
  rfl
theorem op2_of {g : D → D → Option D} {f1 f2 : FE} {ρ : En} {S S1 S2 : DS} {d1 d2 e : D} (h1 : f1 ρ S = .ok d1 S1) (h2 : f2 ρ S1 = .ok d2 S2) (hg : g d1 d2 = some e) : op2 g f1 f2 ρ S = .ok e S2 := by
  unfold op2 bd
  rw [h1]
  show bd (f2 ρ) (fun y => lift (g d1 y)) S1 = _
  unfold bd
  rw [h2]
  show lift (g d1 d2) S2 = _
  rw [hg]
  rfl
theorem call1_of {F : List D → M D} {f : FE} {ρ : En} {S S1 S2 : DS} {d e : D} (h : f ρ S = .ok d S1) (hF : F [d] S1 = .ok e S2) : callE F (consA f nilA) ρ S = .ok e S2 := by
  simp only [callE, consA, nilA, bd, rt, h, hF]
theorem call2_of {F : List D → M D} {f g : FE} {ρ : En} {S S1 S2 S3 : DS} {d d2 e : D} (h : f ρ S = .ok d S1) (h2 : g ρ S1 = .ok d2 S2) (hF : F [d, d2] S2 = .ok e S3) : callE F (consA f (consA g nilA)) ρ S = .ok e S3 := by
  simp only [callE, consA, nilA, bd, rt, h, h2, hF]
theorem call3_of {F : List D → M D} {f g k : FE} {ρ : En} {S S1 S2 S3 S4 : DS} {d d2 d3 e : D} (h : f ρ S = .ok d S1) (h2 : g ρ S1 = .ok d2 S2) (h3 : k ρ S2 = .ok d3 S3) (hF : F [d, d2, d3] S3 = .ok e S4) : callE F (consA f (consA g (consA k nilA))) ρ S = .ok e S4 := by
  simp only [callE, consA, nilA, bd, rt, h, h2, h3, hF]
theorem call4_of {F : List D → M D} {f g k l : FE} {ρ : En} {S S1 S2 S3 S4 S5 : DS} {d d2 d3 d4 e : D} (h : f ρ S = .ok d S1) (h2 : g ρ S1 = .ok d2 S2) (h3 : k ρ S2 = .ok d3 S3) (h4 : l ρ S3 = .ok d4 S4) (hF : F [d, d2, d3, d4] S4 = .ok e S5) : callE F (consA f (consA g (consA k (consA l nilA)))) ρ S = .ok e S5 := by
  simp only [callE, consA, nilA, bd, rt, h, h2, h3, h4, hF]
theorem callD1_of {F : List D → M D} {f : FE} {ρ : En} {S S1 S2 : DS} {d x e : D} (h : f ρ S = .ok d S1) (hF : F [d, x] S1 = .ok e S2) : callE F (appA (consA f nilA) [x]) ρ S = .ok e S2 := by
  simp only [callE, appA, consA, nilA, bd, rt, h, List.cons_append, List.nil_append, hF]
theorem cons_of {f : FE} {r : FA} {ρ : En} {S S1 S2 : DS} {d : D} {ds : List D} (h1 : f ρ S = .ok d S1) (h2 : r ρ S1 = .ok ds S2) : consA f r ρ S = .ok (d :: ds) S2 := by
  simp only [consA, bd, rt, h1, h2]
theorem nil_of {ρ : En} {S : DS} : nilA ρ S = .ok [] S := rfl
theorem lstE_of {a : FA} {ρ : En} {S S1 : DS} {ds : List D} (h : a ρ S = .ok ds S1) (hl : ds.length ≤ 16777216) : lstE a ρ S = .ok (.lst ds) S1 := by
  unfold lstE bd
  rw [h]
  simp only []
  rw [if_pos hl]
  rfl
theorem tupE_of {a : FA} {ρ : En} {S S1 : DS} {ds : List D} (h : a ρ S = .ok ds S1) (hl : ds.length ≤ 16777216) : tupE a ρ S = .ok (.tup ds) S1 := by
  unfold tupE bd
  rw [h]
  simp only []
  rw [if_pos hl]
  rfl
theorem lst0 {ρ : En} {S : DS} : lstE nilA ρ S = .ok (.lst []) S := lstE_of nil_of (Nat.zero_le _)
theorem lst1 {f : FE} {ρ : En} {S S1 : DS} {d : D} (h : f ρ S = .ok d S1) : lstE (consA f nilA) ρ S = .ok (.lst [d]) S1 := lstE_of (cons_of h nil_of) (by show 1 ≤ 16777216; decide)
theorem lst2 {f g : FE} {ρ : En} {S S1 S2 : DS} {d e : D} (h : f ρ S = .ok d S1) (h2 : g ρ S1 = .ok e S2) : lstE (consA f (consA g nilA)) ρ S = .ok (.lst [d, e]) S2 := lstE_of (cons_of h (cons_of h2 nil_of)) (by show 2 ≤ 16777216; decide)
theorem lst3 {f g k : FE} {ρ : En} {S S1 S2 S3 : DS} {d e i : D} (h : f ρ S = .ok d S1) (h2 : g ρ S1 = .ok e S2) (h3 : k ρ S2 = .ok i S3) : lstE (consA f (consA g (consA k nilA))) ρ S = .ok (.lst [d, e, i]) S3 := lstE_of (cons_of h (cons_of h2 (cons_of h3 nil_of))) (by show 3 ≤ 16777216; decide)
theorem lst4 {f g k l : FE} {ρ : En} {S S1 S2 S3 S4 : DS} {d e i j : D} (h : f ρ S = .ok d S1) (h2 : g ρ S1 = .ok e S2) (h3 : k ρ S2 = .ok i S3) (h4 : l ρ S3 = .ok j S4) : lstE (consA f (consA g (consA k (consA l nilA)))) ρ S = .ok (.lst [d, e, i, j]) S4 := lstE_of (cons_of h (cons_of h2 (cons_of h3 (cons_of h4 nil_of)))) (by show 4 ≤ 16777216; decide)
theorem lst5 {f g k l m : FE} {ρ : En} {S S1 S2 S3 S4 S5 : DS} {d e i j o : D} (h : f ρ S = .ok d S1) (h2 : g ρ S1 = .ok e S2) (h3 : k ρ S2 = .ok i S3) (h4 : l ρ S3 = .ok j S4) (h5 : m ρ S4 = .ok o S5) : lstE (consA f (consA g (consA k (consA l (consA m nilA))))) ρ S = .ok (.lst [d, e, i, j, o]) S5 := lstE_of (cons_of h (cons_of h2 (cons_of h3 (cons_of h4 (cons_of h5 nil_of))))) (by show 5 ≤ 16777216; decide)
theorem lst6 {f g k l m n : FE} {ρ : En} {S S1 S2 S3 S4 S5 S6 : DS} {d e i j o q : D} (h : f ρ S = .ok d S1) (h2 : g ρ S1 = .ok e S2) (h3 : k ρ S2 = .ok i S3) (h4 : l ρ S3 = .ok j S4) (h5 : m ρ S4 = .ok o S5) (h6 : n ρ S5 = .ok q S6) : lstE (consA f (consA g (consA k (consA l (consA m (consA n nilA)))))) ρ S = .ok (.lst [d, e, i, j, o, q]) S6 := lstE_of (cons_of h (cons_of h2 (cons_of h3 (cons_of h4 (cons_of h5 (cons_of h6 nil_of)))))) (by show 6 ≤ 16777216; decide)
theorem tup1 {f : FE} {ρ : En} {S S1 : DS} {d : D} (h : f ρ S = .ok d S1) : tupE (consA f nilA) ρ S = .ok (.tup [d]) S1 := tupE_of (cons_of h nil_of) (by show 1 ≤ 16777216; decide)
theorem tup2 {f g : FE} {ρ : En} {S S1 S2 : DS} {d e : D} (h : f ρ S = .ok d S1) (h2 : g ρ S1 = .ok e S2) : tupE (consA f (consA g nilA)) ρ S = .ok (.tup [d, e]) S2 := tupE_of (cons_of h (cons_of h2 nil_of)) (by show 2 ≤ 16777216; decide)
theorem tup3 {f g k : FE} {ρ : En} {S S1 S2 S3 : DS} {d e i : D} (h : f ρ S = .ok d S1) (h2 : g ρ S1 = .ok e S2) (h3 : k ρ S2 = .ok i S3) : tupE (consA f (consA g (consA k nilA))) ρ S = .ok (.tup [d, e, i]) S3 := tupE_of (cons_of h (cons_of h2 (cons_of h3 nil_of))) (by show 3 ≤ 16777216; decide)
theorem asgT_of {t : TGd} {f : FE} {ρ ρ' : En} {S S' : DS} {d : D} (h : f ρ S = .ok d S') (ht : t d ρ = some ρ') : asgT t f ρ S = .ok (.nx ρ') S' := by
  unfold asgT bd
  rw [h]
  show bd (lift (t d ρ)) (fun ρ' => rt (Fl.nx ρ')) S' = _
  rw [ht]
  rfl
theorem if_t {t : FB} {a b : FS} {ρ : En} {S S1 : DS} (h : t ρ S = .ok true S1) : ifS t a b ρ S = a ρ S1 := by
  unfold ifS bd
  rw [h]
  rfl
theorem if_f {t : FB} {a b : FS} {ρ : En} {S S1 : DS} (h : t ρ S = .ok false S1) : ifS t a b ρ S = b ρ S1 := by
  unfold ifS bd
  rw [h]
  rfl
theorem body_rt {b : FS} {ρ : En} {S S' : DS} {d : D} (h : b ρ S = .ok (.rt d) S') : bd (b ρ) leave S = .ok d S' := by
  unfold bd
  rw [h]
  rfl
theorem body_nx {b : FS} {ρ ρ' : En} {S S' : DS} (h : b ρ S = .ok (.nx ρ') S') : bd (b ρ) leave S = .ok .non S' := by
  unfold bd
  rw [h]
  rfl
theorem mulL {xs : List D} {n : Nat} (h : xs.length * n ≤ 16777216) (hn : n < 16777216) : dMulX (.lst xs) (.int (n : Int)) = some (.lst (List.replicate n xs).flatten) := by
  show (if (n : Int) < 16777216 ∧ -16777216 < (n : Int) ∧ xs.length * (n : Int).toNat ≤ 16777216 then some (D.lst (List.replicate (n : Int).toNat xs).flatten) else none) = _
  rw [Int.toNat_natCast, if_pos ⟨by omega, by omega, h⟩]
theorem catL {a b : List D} (h : a.length + b.length ≤ 16777216) : dAdd (.lst a) (.lst b) = some (.lst (a ++ b)) := if_pos h
/-! ## what each def gives -/
theorem kit_int_int : kitB "int" "int" = some true := by decide +kernel
theorem kit_int_bool : kitB "int" "bool" = some false := by decide +kernel
theorem kit_tup_tup : kitB "tuple" "tuple" = some true := by decide +kernel
theorem big_nat {n : Nat} (h : n < Big) : ((n : Nat) : Int).natAbs < Big := by simpa using h
theorem big62_nat {n : Nat} (h : n ≤ 1000) : big62 ((n : Nat) : Int) = true := by
  unfold big62
  exact decide_eq_true ⟨by omega, by omega⟩
theorem rng_nat {a : FE} {ρ : En} {S S1 : DS} {n : Nat} (hn : n ≤ 1000) (h : a ρ S = .ok (.int (n : Int)) S1) : itR1 a ρ S = .ok (rngD 0 n) S1 := by
  unfold itR1 bd
  rw [h]
  show (if big62 (n : Int) = true then rt (rngD 0 (n : Int).toNat) else no) S1 = _
  rw [if_pos (big62_nat hn), Int.toNat_natCast]
  rfl
theorem par_of {i j : Nat} {f g : FE} {ρ : En} {S S1 S2 : DS} {d e : D} (h1 : f ρ S = .ok d S1) (h2 : g ρ S1 = .ok e S2) : parS i j f g ρ S = .ok (.nx (setV j e (setV i d ρ))) S2 := by
  simp only [parS, bd, h1, h2, rt]
theorem or_t {a b : FB} {ρ : En} {S S1 : DS} (h : a ρ S = .ok true S1) : orB a b ρ S = .ok true S1 := by
  simp only [orB, bd, h, rt, if_true]
theorem or_f {a b : FB} {ρ : En} {S S1 : DS} (h : a ρ S = .ok false S1) : orB a b ρ S = b ρ S1 := by
  simp only [orB, bd, h, Bool.false_eq_true, if_false]
theorem val_of {f : FE} {ρ : En} {S S1 : DS} {k : Bool} (h : f ρ S = .ok (.bl k) S1) : valB f ρ S = .ok k S1 := by
  simp only [valB, bd, h, isBl, lift, rt]
theorem tru_ofE {f : FE} {ρ : En} {S S1 : DS} {d : D} {k : Bool} (h : f ρ S = .ok d S1) (ht : truth d = some k) : truB f ρ S = .ok k S1 := by
  simp only [truB, bd, h, ht, lift, rt]
theorem not_of {t : FB} {ρ : En} {S S1 : DS} {k : Bool} (h : t ρ S = .ok k S1) : notB t ρ S = .ok (!k) S1 := by
  simp only [notB, bd, h, rt]
theorem frz_vl {i : Nat} {b : FS} {ρ : En} {S : DS} {d : D} (h : ρ[i]? = some (.vl d)) : frzS i b ρ S = b ρ S := by
  unfold frzS
  rw [h]
theorem frz_ow {i : Nat} {b : FS} {ρ : En} {S : DS} {d : D} (h : ρ[i]? = some (.ow d)) : frzS i b ρ S = b (setV i d ρ) S := by
  unfold frzS
  rw [h]
theorem nat3 {a b c lo hi : Nat} {y : D} (h : y ∈ [D.int (a : Int), .int (b : Int), .int (c : Int)]) (ha : lo ≤ a ∧ a ≤ hi) (hb : lo ≤ b ∧ b ≤ hi) (hc : lo ≤ c ∧ c ≤ hi) : ∃ n : Nat, y = .int (n : Int) ∧ lo ≤ n ∧ n ≤ hi := by
  simp only [List.mem_cons, List.not_mem_nil, or_false] at h
  rcases h with rfl | rfl | rfl
  · exact ⟨a, rfl, ha⟩
  · exact ⟨b, rfl, hb⟩
  · exact ⟨c, rfl, hc⟩
theorem nat2 {a b lo hi : Nat} {y : D} (h : y ∈ [D.int (a : Int), .int (b : Int)]) (ha : lo ≤ a ∧ a ≤ hi) (hb : lo ≤ b ∧ b ≤ hi) : ∃ n : Nat, y = .int (n : Int) ∧ lo ≤ n ∧ n ≤ hi := by
  simp only [List.mem_cons, List.not_mem_nil, or_false] at h
  rcases h with rfl | rfl
  · exact ⟨a, rfl, ha⟩
  · exact ⟨b, rfl, hb⟩
theorem one_add (r : Nat) : dAdd (.int 1) (.int (r : Int)) = some (.int ((1 + r : Nat) : Int)) := (addI _ _).trans (by rw [Int.natCast_add]; rfl)
theorem add_one' (r : Nat) : dAdd (.int (r : Int)) (.int 1) = some (.int ((r + 1 : Nat) : Int)) := (addI _ _).trans (by rw [Int.natCast_add]; rfl)
theorem drawN {S : DS} (v : Vs S) {n : Nat} (h : 0 < n) (hb : n < 2 ^ 63) : ∃ (r : Nat) (S' : DS), fnD 2 3 drawB [.st, .int (n : Int)] S = .ok (.int (r : Int)) S' ∧ r < n ∧ Vs S' := by
  obtain ⟨r, S', e, h1, h2, v'⟩ := draw_ok v (n := (n : Int)) (by omega) (by omega)
  obtain ⟨k, rfl⟩ := Int.eq_ofNat_of_zero_le h1
  exact ⟨k, S', e, by omega, v'⟩
end Mini
namespace Mini
open PySem
open L2 (atI ixN atI_nat kitB Key)
theorem q_loop (S : DS) (u d : D) : ∀ (w a b : Nat), b < w → whileS (truB (var 3)) (parS 2 3 (var 3) (op2 dMod (var 2) (var 3))) w [.vl u, .vl d, .vl (.int (a : Int)), .vl (.int (b : Int))] S = .ok (.nx [.vl u, .vl d, .vl (.int (Nat.gcd a b : Nat)), .vl (.int 0)]) S
  | 0, a, b, h => by omega
  | w + 1, a, b, h => by
    by_cases hb : b = 0
    · subst hb
      rw [while_end (S1 := S) (by simp [bd, lift, rt, var, varB, slot, slotB, truB, valB, isBl, truth, cst, op1, op2, parS, asgS, asgOS, asgT, seqS, retS, retNS, ifS, iteE, notB, notE, andB, orB, andE, orE, exprS, setV, setO, tgN, tgT, tgs, consA, nilA, leave, callE, frzS, augS, skipS, addI, subI, addI', appA, chn2, chn3, cmpB, dLe, dLt, dGe, dGt]), Nat.gcd_zero_right]
      rfl
    · have e := q_loop S u d w b (a % b) (by have := Nat.mod_lt a (Nat.pos_of_ne_zero hb); omega)
      have h1 : (0 : Int) < b := by omega
      rw [while_go (S1 := S) (S2 := S) (ρ' := [.vl u, .vl d, .vl (.int (b : Int)), .vl (.int ((a % b : Nat) : Int))]) (by simp [bd, lift, rt, var, varB, slot, slotB, truB, valB, isBl, truth, cst, op1, op2, parS, asgS, asgOS, asgT, seqS, retS, retNS, ifS, iteE, notB, notE, andB, orB, andE, orE, exprS, setV, setO, tgN, tgT, tgs, consA, nilA, leave, callE, frzS, augS, skipS, addI, subI, addI', appA, chn2, chn3, cmpB, dLe, dLt, dGe, dGt, hb]) (by simp [bd, lift, rt, var, varB, slot, slotB, truB, valB, isBl, truth, cst, op1, op2, parS, asgS, asgOS, asgT, seqS, retS, retNS, ifS, iteE, notB, notE, andB, orB, andE, orE, exprS, setV, setO, tgN, tgT, tgs, consA, nilA, leave, callE, frzS, augS, skipS, addI, subI, addI', appA, chn2, chn3, cmpB, dLe, dLt, dGe, dGt, modI h1]), e]
      rw [Nat.gcd_comm a b, Nat.gcd_rec b a, Nat.gcd_comm]
def low (u d : Nat) : D := .tup [.int ((u / Nat.gcd u d : Nat) : Int), .int ((d / Nat.gcd u d : Nat) : Int)]
theorem big_W0 {n : Nat} (h : n < Big) : n < W0 := h
theorem at_range {f : Nat → D} {n k : Nat} (h : k < n) : atI ((List.range n).map f) ((k : Nat) : Int) = some (f k) := atI_nat (by simp [h])
theorem flat_one (d : Nat) (x : D) : (List.replicate d [x]).flatten = List.replicate d x := by
  induction d with
  | zero => rfl
  | succ n ih => rw [List.replicate_succ, List.flatten_cons, ih]; rfl
def gInt (f : Nat → Int) : D → D
  | .int s => .int (f s.toNat)
  | x => x
theorem gInt_map (f : Nat → Int) (n : Nat) : (rngD 0 n).map (gInt f) = (List.range n).map fun s => .int (f s) := by
  rw [rngD_map, List.map_map]
  refine List.map_congr_left fun i _ => ?_
  show D.int (f (Int.toNat (i : Int))) = _
  rw [Int.toNat_natCast]
theorem enumF_at : ∀ (ds : List D) (k i : Nat), (enumF k ds)[i]? = (ds[i]?).map fun d => .tup [.int ((k + i : Nat) : Int), d]
  | [], k, i => by simp [enumF]
  | d :: ds, k, 0 => by simp [enumF]
  | d :: ds, k, i + 1 => by
    rw [enumF, List.getElem?_cons_succ, List.getElem?_cons_succ, enumF_at ds (k + 1) i]
    have e : k + 1 + i = k + (i + 1) := by omega
    rw [e]
theorem enumF_len : ∀ (ds : List D) (k : Nat), (enumF k ds).length = ds.length
  | [], k => rfl
  | d :: ds, k => by rw [enumF, List.length_cons, List.length_cons, enumF_len ds (k + 1)]
theorem and_f {a b : FB} {ρ : En} {S S1 : DS} (h : a ρ S = .ok false S1) : andB a b ρ S = .ok false S1 := by
  simp only [andB, bd, h, rt, Bool.false_eq_true, if_false]
theorem and_t {a b : FB} {ρ : En} {S S1 : DS} (h : a ρ S = .ok true S1) : andB a b ρ S = b ρ S1 := by
  simp only [andB, bd, h, if_true]
theorem rng2_nat {a b : FE} {ρ : En} {S S1 S2 : DS} {lo hi : Nat} (h1 : lo ≤ 1000) (h2 : hi ≤ 1000) (ha : a ρ S = .ok (.int (lo : Int)) S1) (hb : b ρ S1 = .ok (.int (hi : Int)) S2) : itR2 a b ρ S = .ok (rngD (lo : Int) (hi - lo)) S2 := by
  have e : ((hi : Int) - (lo : Int)).toNat = hi - lo := by omega
  unfold itR2 bd
  rw [ha]
  simp only [hb]
  rw [big62_nat h1, big62_nat h2]
  simp only [Bool.and_self, if_true]
  rw [e]
  rfl
theorem cut_map {α β : Type} (f : α → β) (l : List α) (lo hi : Option Int) : cutG (l.map f) lo hi = (cutG l lo hi).map f := by
  unfold cutG
  rw [List.length_map, ← List.map_drop, ← List.map_take]
theorem slc_hi {a b : FE} {ρ : En} {S S1 S2 : DS} {d r : D} {h : Int} (h1 : a ρ S = .ok d S1) (h2 : b ρ S1 = .ok (.int h) S2) (hr : dCut none (some h) d = some r) : slcE a noP (partP b) ρ S = .ok r S2 := by
  simp only [slcE, noP, partP, bd, rt, h1, h2, isInt, Option.map_some, lift, hr]
theorem slc_lo {a b : FE} {ρ : En} {S S1 S2 : DS} {d r : D} {h : Int} (h1 : a ρ S = .ok d S1) (h2 : b ρ S1 = .ok (.int h) S2) (hr : dCut (some h) none d = some r) : slcE a (partP b) noP ρ S = .ok r S2 := by
  simp only [slcE, noP, partP, bd, rt, h1, h2, isInt, Option.map_some, lift, hr]
def prt (p q : Nat) : D := .tpx [.int (p : Int), .int (q : Int)]
theorem low_self {p q : Nat} (hg : Nat.gcd p q = 1) : low p q = .tup [.int (p : Int), .int (q : Int)] := by
  unfold low
  rw [hg, Nat.div_one, Nat.div_one]
theorem prt_eq (p q : Nat) : dNe (.tup [.int (p : Int), .int (q : Int)]) (prt p q) = some (.bl false) := by
  have e1 : okEq (prt p q) = true := by
    unfold prt okEq
    rfl
  have e2 : PyData.eqv (prt p q).py (prt p q).py = true := SeqAt.eqv_refl_plain _ rfl
  have e3 : okEq (.tup [.int (p : Int), .int (q : Int)]) = true := e1
  have e4 : PyData.eqv (D.tup [.int (p : Int), .int (q : Int)]).py (prt p q).py = true := e2
  unfold dNe dEqv
  rw [e1, e3, e4]
  rfl
theorem ite_t {t : FB} {a b : FE} {ρ : En} {S S1 : DS} (h : t ρ S = .ok true S1) : iteE t a b ρ S = a ρ S1 := by
  simp only [iteE, bd, h, if_true]
theorem ite_f {t : FB} {a b : FE} {ρ : En} {S S1 : DS} (h : t ρ S = .ok false S1) : iteE t a b ρ S = b ρ S1 := by
  simp only [iteE, bd, h, Bool.false_eq_true, if_false]
theorem seq_rt {a b : FS} {ρ : En} {S S' : DS} {d : D} (h : a ρ S = .ok (.rt d) S') : seqS a b ρ S = .ok (.rt d) S' := by
  simp only [seqS, bd, h, rt]
theorem aug_of {f : D → D → Option D} {i : Nat} {a : FE} {ρ : En} {S S1 : DS} {x y z : D} (h0 : slot ρ i = some x) (h1 : a ρ S = .ok y S1) (h2 : f x y = some z) : augS f i a ρ S = .ok (.nx (setV i z ρ)) S1 := by
  simp only [augS, bd, h0, lift, rt, h1, h2]
theorem blsOf_true : ∀ l : List D, blsOf (l.map fun _ => D.bl true) = some (l.map fun _ => true)
  | [] => rfl
  | d :: ds => by
    rw [List.map_cons, List.map_cons, blsOf, blsOf_true ds]
    rfl
theorem all_true (l : List D) : dAll (.lst (l.map fun _ => D.bl true)) = some (.bl true) := by
  show (blsOf (l.map fun _ => D.bl true)).map (fun ns => D.bl (ns.all id)) = _
  rw [blsOf_true, Option.map_some]
  congr 2
  rw [List.all_eq_true]
  intro x hx
  obtain ⟨_, _, rfl⟩ := List.mem_map.mp hx
  rfl
theorem its_of {f : FE} {ρ : En} {S S1 : DS} {d : D} {ds : List D} (h : f ρ S = .ok d S1) (hs : seqAny d = some ds) : itS f ρ S = .ok ds S1 := by
  simp only [itS, bd, h, hs, lift, rt]
theorem pyL_int : ∀ l : List Int, pyL (l.map D.int) = l.map PyData.int
  | [] => rfl
  | n :: l => by rw [List.map_cons, List.map_cons, pyL, pyL_int l]; rfl
theorem gd_okEq {h n : Nat} {d : D} (g : Gd h n d) (a : h ≤ 64) : okEq d = true := by
  unfold okEq
  rw [g.pu, Bool.true_and]
  exact decide_eq_true (Nat.le_trans g.de a)
theorem seq_er {a b : FS} {ρ : En} {S S' : DS} {n : Nat} {p : D} (h : a ρ S = .er n p S') : seqS a b ρ S = .er n p S' := by
  simp only [seqS, bd, h]
theorem expr_er {f : FE} {ρ : En} {S S' : DS} {n : Nat} {p : D} (h : f ρ S = .er n p S') : exprS f ρ S = .er n p S' := by
  simp only [exprS, bd, h]
theorem body_er {b : FS} {ρ : En} {S S' : DS} {n : Nat} {p : D} (h : b ρ S = .er n p S') : bd (b ρ) leave S = .er n p S' := by
  simp only [bd, h]
theorem raise_of {f : FE} {ρ : En} {S S' : DS} {n : Nat} {d : D} (h : f ρ S = .ok d S') : raiseS n f ρ S = .er n d S' := by
  simp only [raiseS, bd, h]
theorem callA_of {F : List D → M D} {a : FA} {ρ : En} {S S1 : DS} {ds : List D} {r : Res D} (h : a ρ S = .ok ds S1) (hF : F ds S1 = r) : callE F a ρ S = r := by
  simp only [callE, bd, h, hF]
theorem appA_of {a : FA} {ρ : En} {S S1 : DS} {ds xs : List D} (h : a ρ S = .ok ds S1) : appA a xs ρ S = .ok (ds ++ xs) S1 := by
  simp only [appA, bd, h, rt]
theorem a1_of {f : FE} {ρ : En} {S S1 : DS} {d : D} (h : f ρ S = .ok d S1) : consA f nilA ρ S = .ok [d] S1 := cons_of h nil_of
theorem a2_of {f g : FE} {ρ : En} {S S1 S2 : DS} {d e : D} (h : f ρ S = .ok d S1) (h2 : g ρ S1 = .ok e S2) : consA f (consA g nilA) ρ S = .ok [d, e] S2 := cons_of h (a1_of h2)
theorem a3_of {f g k : FE} {ρ : En} {S S1 S2 S3 : DS} {d e i : D} (h : f ρ S = .ok d S1) (h2 : g ρ S1 = .ok e S2) (h3 : k ρ S2 = .ok i S3) : consA f (consA g (consA k nilA)) ρ S = .ok [d, e, i] S3 := cons_of h (a2_of h2 h3)
theorem a4_of {f g k l : FE} {ρ : En} {S S1 S2 S3 S4 : DS} {d e i j : D} (h : f ρ S = .ok d S1) (h2 : g ρ S1 = .ok e S2) (h3 : k ρ S2 = .ok i S3) (h4 : l ρ S3 = .ok j S4) : consA f (consA g (consA k (consA l nilA))) ρ S = .ok [d, e, i, j] S4 := cons_of h (a3_of h2 h3 h4)
def Arg : D → Prop
  | .non => True
  | .bl _ => True
  | .int _ => True
  | .str _ => True
  | .tup _ => True
  | .tpx _ => True
  | _ => False
def isI : D → Bool
  | .int _ => true
  | _ => false
def wh (d : D) (lo hi : Int) : Bool := match d with
  | .int i => decide (lo ≤ i) && decide (i ≤ hi)
  | _ => false
def isTp : D → Bool
  | .tup _ => true
  | .tpx _ => true
  | _ => false
theorem kits : kitB "NoneType" "int" = some false ∧ kitB "bool" "int" = some true ∧ kitB "str" "int" = some false ∧ kitB "tuple" "int" = some false ∧ kitB "NoneType" "bool" = some false ∧ kitB "bool" "bool" = some true ∧ kitB "str" "bool" = some false ∧ kitB "tuple" "bool" = some false ∧
    kitB "NoneType" "tuple" = some false ∧ kitB "bool" "tuple" = some false ∧ kitB "int" "tuple" = some false ∧ kitB "str" "tuple" = some false := by decide +kernel
def isNum (d : D) : Bool × Bool := match d with
  | .int _ => (true, false)
  | .bl _ => (true, true)
  | _ => (false, false)
theorem isi_int {d : D} (h : Arg d) : isiD "int" d = some (.bl (isNum d).1) := by
  obtain ⟨k1, k2, k3, k4, _⟩ := kits
  cases d <;> first | exact h.elim | skip
  · show (kitB "NoneType" "int").map D.bl = _; rw [k1]; rfl
  · show (kitB "bool" "int").map D.bl = _; rw [k2]; rfl
  · show (kitB "int" "int").map D.bl = _; rw [kit_int_int]; rfl
  · show (kitB "str" "int").map D.bl = _; rw [k3]; rfl
  · show (kitB "tuple" "int").map D.bl = _; rw [k4]; rfl
  · show (kitB "tuple" "int").map D.bl = _; rw [k4]; rfl
theorem isi_bool {d : D} (h : Arg d) : isiD "bool" d = some (.bl (isNum d).2) := by
  obtain ⟨_, _, _, _, k1, k2, k3, k4, _⟩ := kits
  cases d <;> first | exact h.elim | skip
  · show (kitB "NoneType" "bool").map D.bl = _; rw [k1]; rfl
  · show (kitB "bool" "bool").map D.bl = _; rw [k2]; rfl
  · show (kitB "int" "bool").map D.bl = _; rw [kit_int_bool]; rfl
  · show (kitB "str" "bool").map D.bl = _; rw [k3]; rfl
  · show (kitB "tuple" "bool").map D.bl = _; rw [k4]; rfl
  · show (kitB "tuple" "bool").map D.bl = _; rw [k4]; rfl
theorem isi_tup {d : D} (h : Arg d) : isiD "tuple" d = some (.bl (isTp d)) := by
  obtain ⟨_, _, _, _, _, _, _, _, k1, k2, k3, k4⟩ := kits
  cases d <;> first | exact h.elim | skip
  · show (kitB "NoneType" "tuple").map D.bl = _; rw [k1]; rfl
  · show (kitB "bool" "tuple").map D.bl = _; rw [k2]; rfl
  · show (kitB "int" "tuple").map D.bl = _; rw [k3]; rfl
  · show (kitB "str" "tuple").map D.bl = _; rw [k4]; rfl
  · show (kitB "tuple" "tuple").map D.bl = _; rw [kit_tup_tup]; rfl
  · show (kitB "tuple" "tuple").map D.bl = _; rw [kit_tup_tup]; rfl
theorem isI_num (d : D) : isI d = ((isNum d).1 && !(isNum d).2) := by cases d <;> rfl
def ck (b : Bool) (w : Str) (S : DS) : Res D := if b = true then .ok .non S else .er 1 (.str w) S
theorem ck_body {t : FB} {f : FE} {b : Bool} {w : Str} {ρ : En} {S : DS} (h : t ρ S = .ok (!b) S) (hf : f ρ S = .ok (.str w) S) : bd (ifS t (raiseS 1 f) skipS ρ) leave S = ck b w S := by
  cases b with
  | true => exact body_nx (ρ' := ρ) (if_f h)
  | false => exact body_er ((if_t h).trans (raise_of hf))
def due (w : Str) (b : Bool) : Str := if b = true then "" else "argument " ++ w
theorem ix_nat {xs : List D} {j : Nat} {x : D} (h : xs[j]? = some x) : dIxA (.lst xs) (.int ((j : Nat) : Int)) = some x := atI_nat h
def fst : List Str → Str
  | [] => ""
  | w :: ws => if w = "" then fst ws else w
theorem ne_str (a b : Str) : dNe (.str a) (.str b) = some (.bl (!decide (a = b))) := by
  unfold dNe dEqv
  have e : PyData.eqv (D.str a).py (D.str b).py = decide (a = b) := by
    simp only [D.py, PyData.eqv]
    by_cases h : a = b
    · subst h; simp
    · rw [decide_eq_false h]; simpa using h
  rw [e]
  rfl
theorem eq_str (a b : Str) : dEq (.str a) (.str b) = some (.bl (decide (a = b))) := by
  unfold dEq dEqv
  have e : PyData.eqv (D.str a).py (D.str b).py = decide (a = b) := by
    simp only [D.py, PyData.eqv]
    by_cases h : a = b
    · subst h; simp
    · rw [decide_eq_false h]; simpa using h
  rw [e]
  rfl
def sL (ws : List Str) : List D := ws.map D.str
theorem fst_filter : ∀ ws : List Str, (ws.filter fun w : Str => !decide (w = "")).head? = if fst ws = "" then none else some (fst ws)
  | [] => rfl
  | w :: ws => by
    unfold fst
    by_cases h : w = ""
    · rw [if_pos h, List.filter_cons, if_neg (by simp [h]), fst_filter ws]
    · rw [if_neg h, List.filter_cons, if_pos (by simp [h]), if_neg h]
      rfl
theorem len_lt {i : Nat} {ρ : En} {S : DS} {xs : List D} {n : Nat} (h : slot ρ i = some (.lst xs)) : valB (op2 dLt (op1 dLen (var i)) (cst (.int ((n : Nat) : Int)))) ρ S = .ok (decide (xs.length < n)) S := by
  have v : var i ρ S = .ok (.lst xs) S := by
    unfold var
    rw [h]
    rfl
  refine val_of (op2_of (d1 := .int (xs.length : Int)) (op1_of v rfl) rfl ?_)
  show some (D.bl (decide ((xs.length : Int) < (n : Int)))) = _
  congr 2
  exact decide_eq_decide.mpr (by omega)
theorem len_eq {i : Nat} {ρ : En} {S : DS} {xs : List D} {n : Nat} (h : slot ρ i = some (.lst xs)) : valB (op2 dEq (op1 dLen (var i)) (cst (.int ((n : Nat) : Int)))) ρ S = .ok (decide (xs.length = n)) S := by
  have v : var i ρ S = .ok (.lst xs) S := by
    unfold var
    rw [h]
    rfl
  refine val_of (op2_of (d1 := .int (xs.length : Int)) (op1_of v rfl) rfl ?_)
  rw [dEq_int]
  congr 2
  exact decide_eq_decide.mpr (by omega)
def inL : Res D → Res Fl
  | .ok d S => .ok (.rt (.lst [d])) S
  | .er n p S => .er n p S
  | .no => .no
theorem ret_lst {f : FE} {ρ : En} {S : DS} : retS (lstE (consA f nilA)) ρ S = inL (f ρ S) := by
  cases h : f ρ S with
  | ok d S' => exact ret_of (lst1 h)
  | er n p S' => simp only [retS, lstE, consA, bd, h, inL]
  | no => simp only [retS, lstE, consA, bd, h, inL]
theorem ret_ite_t {t : FB} {a b : FE} {ρ : En} {S : DS} (h : t ρ S = .ok true S) : retS (iteE t a b) ρ S = retS a ρ S := by
  simp only [retS, bd, ite_t h]
theorem ret_ite_f {t : FB} {a b : FE} {ρ : En} {S : DS} (h : t ρ S = .ok false S) : retS (iteE t a b) ρ S = retS b ρ S := by
  simp only [retS, bd, ite_f h]
theorem seq_inL {a b : FS} {ρ : En} {S : DS} {r : Res D} (h : a ρ S = inL r) : seqS a b ρ S = inL r := by
  simp only [seqS, bd, h]
  cases r <;> rfl
theorem arg_ne (w : Str) : ("argument " : Str) ++ w ≠ "" := fun h => by
  have e := congrArg (fun s : Str => s.length) h
  have l9 : ("argument " : Str).length = 9 := by decide +kernel
  have l0 : ("" : Str).length = 0 := by decide +kernel
  have la : (("argument " : Str) ++ w).length = ("argument " : Str).length + w.length := by
    show ((("argument " : Str) ++ w).cps).size = _
    exact Array.size_append
  have e' : (("argument " : Str) ++ w).length = ("" : Str).length := e
  omega
theorem due_t (w : Str) : due w true = "" := rfl
theorem due_f (w : Str) : due w false = "argument " ++ w := rfl
theorem fst_t (w : Str) (ws : List Str) : fst (due w true :: ws) = fst ws := by
  rw [due_t, fst, if_pos rfl]
theorem fst_f (w : Str) (ws : List Str) : fst (due w false :: ws) = "argument " ++ w := by
  rw [due_f, fst, if_neg (arg_ne w)]
theorem wh_t {d : D} {lo hi : Int} (h : wh d lo hi = true) : ∃ i : Int, d = .int i ∧ lo ≤ i ∧ i ≤ hi := by
  cases d <;> first | (cases h; done) | skip
  rename_i i
  have h' : (decide (lo ≤ i) && decide (i ≤ hi)) = true := h
  rw [Bool.and_eq_true, decide_eq_true_eq, decide_eq_true_eq] at h'
  exact ⟨i, rfl, h'.1, h'.2⟩
theorem wh_n {d : D} {lo hi : Nat} (h : wh d (lo : Int) (hi : Int) = true) : ∃ n : Nat, d = .int (n : Int) ∧ lo ≤ n ∧ n ≤ hi := by
  obtain ⟨i, rfl, h1, h2⟩ := wh_t h
  obtain ⟨n, rfl⟩ := Int.eq_ofNat_of_zero_le (show 0 ≤ i by omega)
  exact ⟨n, rfl, by omega, by omega⟩
theorem ck_t {f : FE} {r : FS} {ρ : En} {S : DS} {w : Str} {b : Bool} (h : f ρ S = ck b w S) (hb : b = true) : seqS (exprS f) r ρ S = r ρ S := by
  rw [hb] at h
  exact seq_nx (expr_of (d := .non) h)
theorem ck_f {f : FE} {r : FS} {ρ : En} {S : DS} {w : Str} {b : Bool} (h : f ρ S = ck b w S) (hb : b = false) : seqS (exprS f) r ρ S = .er 1 (.str w) S := by
  rw [hb] at h
  exact seq_er (expr_er h)
def elts : D → List D
  | .tup ds => ds
  | .tpx ds => ds
  | _ => []
def ArgX (d : D) : Prop := Arg d ∧ (∀ ds, d ≠ .tup ds) ∧ ∀ x ∈ elts d, Arg x
theorem ArgX.cases {d : D} (h : ArgX d) : (isTp d = false ∧ Arg d) ∨ ∃ ds, d = .tpx ds ∧ ∀ x ∈ ds, Arg x := by
  obtain ⟨h1, h2, h3⟩ := h
  cases d <;> first | exact h1.elim | exact .inl ⟨rfl, h1⟩ | skip
  · exact absurd rfl (h2 _)
  · exact .inr ⟨_, rfl, h3⟩
theorem blsOf_bl : ∀ bs : List Bool, blsOf (bs.map D.bl) = some bs
  | [] => rfl
  | b :: bs => by rw [List.map_cons, blsOf, blsOf_bl bs]; rfl
theorem ne_nat (a b : Nat) : dNe (.int (a : Int)) (.int (b : Int)) = some (.bl (!decide (a = b))) := by
  have e := dEq_int (a : Int) (b : Int)
  unfold dEq at e
  unfold dNe
  have e1 : (okEq (.int (a : Int)) && okEq (.int (b : Int))) = true := rfl
  rw [e1, if_pos rfl] at e ⊢
  have e2 : dEqv (.int (a : Int)) (.int (b : Int)) = decide ((a : Int) = (b : Int)) := D.bl.inj (Option.some.inj e)
  rw [e2]
  congr 3
  exact decide_eq_decide.mpr (by omega)
theorem chn_of {f : FE} {ρ : En} {S : DS} {x lo hi : Int} (v : f ρ S = .ok (.int x) S) : chn2 dLe dLe (cst (.int lo)) f (cst (.int hi)) ρ S = .ok (.bl (decide (lo ≤ x) && decide (x ≤ hi))) S := by
  by_cases h1 : lo ≤ x
  · simp only [chn2, bd, cst, rt, v, dLe, decide_eq_true h1, lift, Bool.true_and]
  · simp only [chn2, bd, cst, rt, v, dLe, decide_eq_false h1, lift, Bool.false_and]
theorem tupT {d : D} {i : Nat} {ρ : En} {S : DS} (h : Arg d) (hs : slot ρ i = some d) : notB (truB (op1 (isiD "tuple") (var i))) ρ S = .ok (!isTp d) S :=
  not_of (tru_ofE (op1_of (d := d) (show var i ρ S = .ok d S by unfold var; rw [hs]; rfl) (isi_tup h)) rfl)
theorem big62_nt {n : Nat} (h : n ≤ 2000) : big62 ((n : Nat) : Int) = true := by
  unfold big62
  exact decide_eq_true ⟨by omega, by omega⟩
theorem rng2_nt {a b : FE} {ρ : En} {S S1 S2 : DS} {lo hi : Nat} (h1 : lo ≤ 2000) (h2 : hi ≤ 2000) (ha : a ρ S = .ok (.int (lo : Int)) S1) (hb : b ρ S1 = .ok (.int (hi : Int)) S2) : itR2 a b ρ S = .ok (rngD (lo : Int) (hi - lo)) S2 := by
  have e : ((hi : Int) - (lo : Int)).toNat = hi - lo := by omega
  unfold itR2 bd
  rw [ha]
  simp only [hb]
  rw [big62_nt h1, big62_nt h2]
  simp only [Bool.and_self, if_true]
  rw [e]
  rfl
theorem andB_t {a b : FB} {ρ : En} {S S1 : DS} (h : a ρ S = .ok true S1) : andB a b ρ S = b ρ S1 := by
  simp only [andB, bd, h, if_true]
theorem andB_f {a b : FB} {ρ : En} {S S1 : DS} (h : a ρ S = .ok false S1) : andB a b ρ S = .ok false S1 := by
  simp only [andB, bd, h, Bool.false_eq_true, if_false, rt]
theorem pow10 {k : Nat} (h : k ≤ 1000000) : dPow (.int 10) (.int ((k : Nat) : Int)) = some (.int (10 ^ k)) := by
  show (if (0 : Int) ≤ (k : Int) ∧ (k : Int) ≤ 1000000 ∧ (10 : Int).natAbs < 2 ^ 64 then some (D.int (10 ^ (k : Int).toNat)) else none) = _
  rw [if_pos ⟨by omega, by omega, by decide⟩, Int.toNat_natCast]
def TT (n : Nat) (d : D) : Prop := ∃ ds, d = .tpx ds ∧ ds.length ≤ n ∧ ∀ x ∈ ds, Arg x
theorem TT.x {n : Nat} {d : D} (h : TT n d) : ArgX d := by
  obtain ⟨ds, rfl, _, h3⟩ := h
  exact ⟨trivial, (fun _ z => by cases z), h3⟩
theorem argX_of {d : D} (h : Arg d) (h2 : isTp d = false) : ArgX d := ⟨h, (fun _ z => by rw [z] at h2; cases h2), fun x hx => by cases d <;> first | (cases h2; done) | (cases hx; done)⟩
theorem addT {f g : FE} {ρ : En} {S S1 S2 : DS} {d e : D} {n m : Nat} (h1 : f ρ S = .ok d S1) (t1 : TT n d) (h2 : g ρ S1 = .ok e S2) (t2 : TT m e) (hl : n + m ≤ 1000) : ∃ r, op2 dAddP f g ρ S = .ok r S2 ∧ TT (n + m) r := by
  obtain ⟨xs, rfl, x1, x2⟩ := t1
  obtain ⟨ys, rfl, y1, y2⟩ := t2
  refine ⟨.tpx (xs ++ ys), op2_of h1 h2 ?_, xs ++ ys, rfl, by rw [List.length_append]; omega, fun z hz => ?_⟩
  · show (if xs.length + ys.length ≤ 16777216 then some (D.tpx (xs ++ ys)) else none) = _
    rw [if_pos (by omega)]
  · rcases List.mem_append.mp hz with h | h
    · exact x2 z h
    · exact y2 z h
theorem tpx_of {a : FA} {ρ : En} {S S1 : DS} {ds : List D} (h : a ρ S = .ok ds S1) (hl : ds.length ≤ 1000) : tpxE a ρ S = .ok (.tpx ds) S1 := by
  unfold tpxE bd
  rw [h]
  show (if ds.length ≤ 16777216 then rt (D.tpx ds) else no) S1 = _
  rw [if_pos (by omega)]
  rfl
theorem cut_mem {α : Type} {x : α} {xs : List α} {lo hi : Option Int} (h : x ∈ cutG xs lo hi) : x ∈ xs := List.mem_of_mem_drop (List.mem_of_mem_take h)
theorem cutT {ds : List D} {n : Nat} (h : ∀ x ∈ ds, Arg x) (hn : ds.length ≤ n) (lo hi : Option Int) : TT n (.tpx (cutG ds lo hi)) := ⟨_, rfl, Nat.le_trans (cutG_length ds lo hi) hn, fun x hx => h x (cut_mem hx)⟩
theorem cut_hi {a b : FE} {ρ : En} {S S1 S2 : DS} {ds : List D} {h : Int} (h1 : a ρ S = .ok (.tpx ds) S1) (h2 : b ρ S1 = .ok (.int h) S2) : slcP a noP (partP b) ρ S = .ok (.tpx (cutG ds none (some h))) S2 := by
  simp only [slcP, noP, partP, bd, h1, h2, rt, lift, dCutP, isInt, Option.map_some]
theorem cut_lo {a b : FE} {ρ : En} {S S1 S2 : DS} {ds : List D} {h : Int} (h1 : a ρ S = .ok (.tpx ds) S1) (h2 : b ρ S1 = .ok (.int h) S2) : slcP a (partP b) noP ρ S = .ok (.tpx (cutG ds (some h) none)) S2 := by
  simp only [slcP, noP, partP, bd, h1, h2, rt, lift, dCutP, isInt, Option.map_some]
theorem cut_md {a b c : FE} {ρ : En} {S S1 S2 S3 : DS} {ds : List D} {h k : Int} (h1 : a ρ S = .ok (.tpx ds) S1) (h2 : b ρ S1 = .ok (.int h) S2) (h3 : c ρ S2 = .ok (.int k) S3) : slcP a (partP b) (partP c) ρ S = .ok (.tpx (cutG ds (some h) (some k))) S3 := by
  simp only [slcP, partP, bd, h1, h2, h3, rt, lift, dCutP, isInt, Option.map_some]
theorem sL_ok : ∀ ws : List Str, pureL (sL ws) = true ∧ PyData.depthAll (pyL (sL ws)) ≤ 0 ∧ PyData.plainAll (pyL (sL ws)) = true
  | [] => ⟨rfl, Nat.le_refl _, rfl⟩
  | w :: ws => by
    obtain ⟨a, b, c⟩ := sL_ok ws
    refine ⟨?_, ?_, ?_⟩
    · show ((D.str w).pure && pureL (sL ws)) = true
      rw [a]; rfl
    · show PyData.depthAll ((D.str w).py :: pyL (sL ws)) ≤ 0
      simp only [PyData.depthAll]
      exact Nat.max_le.mpr ⟨Nat.le_refl _, b⟩
    · show PyData.plainAll ((D.str w).py :: pyL (sL ws)) = true
      simp only [PyData.plainAll]
      rw [c]; rfl
theorem ne_sL (ws : List Str) : dNe (.lst (sL ws)) (.lst (sL ws)) = some (.bl false) := by
  obtain ⟨a, b, c⟩ := sL_ok ws
  have e : okEq (.lst (sL ws)) = true := by
    unfold okEq
    simp only [D.pure, a, Bool.true_and, decide_eq_true_eq, D.py, PyData.depth]
    omega
  have q : PyData.eqv (D.lst (sL ws)).py (D.lst (sL ws)).py = true := SeqAt.eqv_refl_plain _ (by simpa only [D.py, PyData.plain] using c)
  unfold dNe dEqv
  rw [e, q]
  rfl
theorem eq_same (w : Str) : dEq (.str w) (.str w) = some (.bl true) := by rw [eq_str, decide_eq_true rfl]
theorem ne_same (w : Str) : dNe (.str w) (.str w) = some (.bl false) := by rw [ne_str, decide_eq_true rfl]; rfl
theorem fst_one (w : Str) : fst [w] = w := by
  unfold fst
  by_cases h : w = ""
  · rw [if_pos h, h]; rfl
  · rw [if_neg h]
theorem mulP1 (i : Int) {k : Nat} (h1 : 2 ≤ k) (h2 : k ≤ 1000) : dMulP (.tpx [.int i]) (.int (k : Int)) = some (.tpx ((List.replicate k i).map D.int)) := by
  show (if [D.int i] ≠ [] ∧ 2 ≤ (k : Int) ∧ (k : Int) ≤ 1000 ∧ [D.int i].length ≤ 1000 then some (D.tpx (List.replicate (k : Int).toNat [D.int i]).flatten) else none) = _
  rw [if_pos ⟨by simp, by omega, by omega, by simp⟩, Int.toNat_natCast, flat_one, List.map_replicate]
theorem rep_TT (i : Int) (k : Nat) : TT k (.tpx ((List.replicate k i).map D.int)) := ⟨_, rfl, by simp, fun x hx => by
  obtain ⟨j, _, rfl⟩ := List.mem_map.mp hx
  trivial⟩
theorem due_emp {w : Str} {b : Bool} (h : due w b = "") : b = true := by
  cases b with
  | true => rfl
  | false =>
    rw [due_f] at h
    exact absurd h (arg_ne w)
theorem fst_skip (ws : List Str) : fst ("" :: ws) = fst ws := by rw [fst, if_pos rfl]
theorem fst_hit {w : Str} (h : w ≠ "") (ws : List Str) : fst (w :: ws) = w := by rw [fst, if_neg h]
theorem slc_of {a : FE} {ρ : En} {S : DS} {ds : List D} {n : Int} (h : a ρ S = .ok (.lst ds) S) : slcE a noP (partP (cst (.int n))) ρ S = .ok (.lst (cutG ds none (some n))) S := slc_hi h rfl rfl
theorem slc_of2 {a : FE} {ρ : En} {S : DS} {ds : List D} {n : Int} (h : a ρ S = .ok (.lst ds) S) : slcE a (partP (cst (.int n))) noP ρ S = .ok (.lst (cutG ds (some n) none)) S := slc_lo h rfl rfl
theorem slc_of3 {a : FE} {ρ : En} {S : DS} {ds : List D} {n m : Int} (h : a ρ S = .ok (.lst ds) S) : slcE a (partP (cst (.int n))) (partP (cst (.int m))) ρ S = .ok (.lst (cutG ds (some n) (some m))) S := by
  simp only [slcE, partP, cst, bd, h, rt, lift, dCut, isInt, Option.map_some]
end Mini
namespace Hk21
open PySem PySem.Spec PyProof.Rows L2 Evl Mini
def top (i : Nat) : Stmt := PySem.Challenge.pw_hoardsread_k21_officinae.main.body.getD i (.Pass ⟨0, 0, 0, 0⟩)
abbrev s_is_integer : Stmt := top 8
def b_is_integer : FS := (retS (andE (op1 (isiD "int") (var 0)) (notE (op1 (isiD "bool") (var 0)))))
def m_is_integer : List D → M D := fnD 1 1 b_is_integer
theorem sc_is_integer : FnScope ["value"] ["value"] (defScope s_is_integer) := ⟨rfl, rfl, rfl, by decide +kernel, rfl, by decide +kernel, by decide +kernel⟩
def d_is_integer : He.DefD := ⟨("is_integer", none), "is_integer", "is_integer", defArgs s_is_integer, defBody s_is_integer, defScope s_is_integer, [], []⟩
abbrev s_is_coin : Stmt := top 14
def b_is_coin : FS := (seqS (ifS (orB (notB (truB (op1 (isiD "tuple") (var 0)))) (orB (valB (op2 dNe (op1 dLen (var 0)) (cst (.int 2)))) (notB (truB (op1 dAll (lcE (itS (var 0)) (tgN 1) yesB (callE m_is_integer (consA (var 1) nilA)) [1])))))) (retS (cst (.bl false))) skipS)
  (retS (andE (chn2 dLe dLe (op1 dNeg (cst (.int 5000))) (op2 dIxA (var 0) (cst (.int 0))) (cst (.int 5000))) (chn2 dLe dLt (cst (.int 0)) (op2 dIxA (var 0) (cst (.int 1))) (cst (.int 26))))))
def m_is_coin : List D → M D := fnD 1 2 b_is_coin
theorem sc_is_coin : FnScope ["value", "own"] ["value"] (defScope s_is_coin) := ⟨rfl, rfl, rfl, by decide +kernel, rfl, by decide +kernel, by decide +kernel⟩
def d_is_coin : He.DefD := ⟨("is_coin", none), "is_coin", "is_coin", defArgs s_is_coin, defBody s_is_coin, defScope s_is_coin, [], []⟩
abbrev s_check_coins : Stmt := top 13
def b_check_coins : FS := (seqS (ifS (orB (notB (truB (op1 (isiD "tuple") (var 0)))) (orB (valB (op2 dGt (op1 dLen (var 0)) (cst (.int 60)))) (notB (truB (op1 dAll (lcE (itS (var 0)) (tgN 2) yesB (callE m_is_coin (consA (var 2) nilA)) [2])))))) (raiseS 0 (cst (.str "coins"))) skipS)
  (ifS (truB (lcE (itR1 (op2 dSub (op1 dLen (var 0)) (cst (.int 1)))) (tgN 1) (valB (op2 dGt (op2 dIxA (op2 dIxA (var 0) (var 1)) (cst (.int 0))) (op2 dIxA (op2 dIxA (var 0) (op2 dAdd (var 1) (cst (.int 1)))) (cst (.int 0))))) (cst (.int 1)) [1])) (raiseS 0 (cst (.str "coins"))) skipS))
def m_check_coins : List D → M D := fnD 1 3 b_check_coins
theorem sc_check_coins : FnScope ["coins", "at", "own"] ["coins"] (defScope s_check_coins) := ⟨rfl, rfl, rfl, by decide +kernel, rfl, by decide +kernel, by decide +kernel⟩
def d_check_coins : He.DefD := ⟨("check_coins", none), "check_coins", "check_coins", defArgs s_check_coins, defBody s_check_coins, defScope s_check_coins, [], []⟩
abbrev s_check_many : Stmt := top 15
def b_check_many : FS := (ifS (orB (notB (truB (callE m_is_integer (consA (var 0) nilA)))) (notB (valB (chn2 dLe dLe (cst (.int 1)) (var 0) (cst (.int 26)))))) (raiseS 1 (cst (.str "many"))) skipS)
def m_check_many : List D → M D := fnD 1 1 b_check_many
theorem sc_check_many : FnScope ["many"] ["many"] (defScope s_check_many) := ⟨rfl, rfl, rfl, by decide +kernel, rfl, by decide +kernel, by decide +kernel⟩
def d_check_many : He.DefD := ⟨("check_many", none), "check_many", "check_many", defArgs s_check_many, defBody s_check_many, defScope s_check_many, [], []⟩
abbrev s_mark_in : Stmt := top 16
def b_mark_in : FS := (retS (op2 dMod (op2 dAdd (var 1) (op2 dMulX (var 2) (var 3))) (var 0)))
def m_mark_in : List D → M D := fnD 4 4 b_mark_in
theorem sc_mark_in : FnScope ["many", "begin", "step", "year"] ["many", "begin", "step", "year"] (defScope s_mark_in) := ⟨rfl, rfl, rfl, by decide +kernel, rfl, by decide +kernel, by decide +kernel⟩
def d_mark_in : He.DefD := ⟨("mark_in", none), "mark_in", "mark_in", defArgs s_mark_in, defBody s_mark_in, defScope s_mark_in, [], []⟩
abbrev s_rounds_for : Stmt := top 17
def b_rounds_for : FS := (seqS (exprS (callE m_check_coins (consA (var 0) nilA)))
  (seqS (exprS (callE m_check_many (consA (var 1) nilA)))
  (seqS (ifS (truB (lcE (itS (var 0)) (tgX [(tgN 5), (tgN 6)]) (valB (op2 dGe (var 6) (var 1))) (var 6) [5, 6])) (retS (tupE nilA)) skipS)
  (seqS (asgOS 2 (lstE nilA))
  (seqS (forS (itR1 (var 1)) (tgN 3) (forS (itR1 (var 1)) (tgN 4) (ifS (notB (truB (lcE (itS (var 0)) (tgX [(tgN 5), (tgN 6)]) (valB (op2 dNe (callE m_mark_in (consA (var 1) (consA (var 3) (consA (var 4) (consA (var 5) nilA))))) (var 6))) (cst (.int 1)) [5, 6]))) (appS 2 (tupE (consA (var 3) (consA (var 4) nilA)))) skipS)))
  (retS (op1 dTuple (varB 2))))))))
def m_rounds_for : List D → M D := fnD 2 7 b_rounds_for
theorem sc_rounds_for : FnScope ["coins", "many", "found", "begin", "step", "year", "mark"] ["coins", "many"] (defScope s_rounds_for) := ⟨rfl, rfl, rfl, by decide +kernel, rfl, by decide +kernel, by decide +kernel⟩
def d_rounds_for : He.DefD := ⟨("rounds_for", none), "rounds_for", "rounds_for", defArgs s_rounds_for, defBody s_rounds_for, defScope s_rounds_for, [], []⟩
abbrev s_judge_rounds : Stmt := top 18
def b_judge_rounds : FS := (seqS (asgS 2 (callE m_rounds_for (consA (var 0) (consA (var 1) nilA))))
  (seqS (ifS (valB (op2 dEq (op1 dLen (var 2)) (cst (.int 1)))) (retS (op2 dAdd (tupE (consA (cst (.str "one")) nilA)) (op2 dIxA (var 2) (cst (.int 0))))) skipS)
  (retS (iteE (truB (var 2)) (tupE (consA (cst (.str "several")) (consA (var 2) nilA))) (tupE (consA (cst (.str "none")) nilA))))))
def m_judge_rounds : List D → M D := fnD 2 3 b_judge_rounds
theorem sc_judge_rounds : FnScope ["coins", "many", "rounds"] ["coins", "many"] (defScope s_judge_rounds) := ⟨rfl, rfl, rfl, by decide +kernel, rfl, by decide +kernel, by decide +kernel⟩
def d_judge_rounds : He.DefD := ⟨("judge_rounds", none), "judge_rounds", "judge_rounds", defArgs s_judge_rounds, defBody s_judge_rounds, defScope s_judge_rounds, [], []⟩
abbrev s_fewest_marks : Stmt := top 19
def b_fewest_marks : FS := (seqS (exprS (callE m_check_coins (consA (var 0) nilA)))
  (seqS (forS (itR2 (cst (.int 1)) (op2 dAdd (cst (.int 26)) (cst (.int 1)))) (tgN 1) (ifS (truB (callE m_rounds_for (consA (var 0) (consA (var 1) nilA)))) (retS (var 1)) skipS))
  (retS (cst .non))))
def m_fewest_marks : List D → M D := fnD 1 2 b_fewest_marks
theorem sc_fewest_marks : FnScope ["coins", "many"] ["coins"] (defScope s_fewest_marks) := ⟨rfl, rfl, rfl, by decide +kernel, rfl, by decide +kernel, by decide +kernel⟩
def d_fewest_marks : He.DefD := ⟨("fewest_marks", none), "fewest_marks", "fewest_marks", defArgs s_fewest_marks, defBody s_fewest_marks, defScope s_fewest_marks, [], []⟩
abbrev s_check_round : Stmt := top 21
def b_check_round : FS := (forS (itS (tupE (consA (tupE (consA (cst (.str "begin")) (consA (var 1) nilA))) (consA (tupE (consA (cst (.str "step")) (consA (var 2) nilA))) nilA)))) (tgX [(tgN 3), (tgN 4)]) (ifS (orB (notB (truB (callE m_is_integer (consA (var 4) nilA)))) (notB (valB (chn2 dLe dLt (cst (.int 0)) (var 4) (var 0))))) (raiseS 1 (var 3)) skipS))
def m_check_round : List D → M D := fnD 3 5 b_check_round
theorem sc_check_round : FnScope ["many", "begin", "step", "reason", "own"] ["many", "begin", "step"] (defScope s_check_round) := ⟨rfl, rfl, rfl, by decide +kernel, rfl, by decide +kernel, by decide +kernel⟩
def d_check_round : He.DefD := ⟨("check_round", none), "check_round", "check_round", defArgs s_check_round, defBody s_check_round, defScope s_check_round, [], []⟩
abbrev s_check_span : Stmt := top 22
def b_check_span : FS := (seqS (forS (itS (tupE (consA (tupE (consA (cst (.str "first")) (consA (var 0) nilA))) (consA (tupE (consA (cst (.str "last")) (consA (var 1) nilA))) nilA)))) (tgX [(tgN 2), (tgN 3)]) (ifS (orB (notB (truB (callE m_is_integer (consA (var 3) nilA)))) (notB (valB (chn2 dLe dLe (op1 dNeg (cst (.int 5000))) (var 3) (cst (.int 5000)))))) (raiseS 1 (var 2)) skipS))
  (ifS (valB (op2 dLt (var 1) (var 0))) (raiseS 1 (cst (.str "last"))) skipS))
def m_check_span : List D → M D := fnD 2 4 b_check_span
theorem sc_check_span : FnScope ["first", "last", "reason", "own"] ["first", "last"] (defScope s_check_span) := ⟨rfl, rfl, rfl, by decide +kernel, rfl, by decide +kernel, by decide +kernel⟩
def d_check_span : He.DefD := ⟨("check_span", none), "check_span", "check_span", defArgs s_check_span, defBody s_check_span, defScope s_check_span, [], []⟩
abbrev s_marks_shown : Stmt := top 20
def b_marks_shown : FS := (seqS (exprS (callE m_check_many (consA (var 0) nilA)))
  (seqS (exprS (callE m_check_round (consA (var 0) (consA (var 1) (consA (var 2) nilA)))))
  (seqS (exprS (callE m_check_span (consA (var 3) (consA (var 4) nilA))))
  (retS (op1 dTuple (lcE (itR2 (var 3) (op2 dAdd (var 4) (cst (.int 1)))) (tgN 5) yesB (callE m_mark_in (consA (var 0) (consA (var 1) (consA (var 2) (consA (var 5) nilA))))) [5]))))))
def m_marks_shown : List D → M D := fnD 5 6 b_marks_shown
theorem sc_marks_shown : FnScope ["many", "begin", "step", "first", "last", "year"] ["many", "begin", "step", "first", "last"] (defScope s_marks_shown) := ⟨rfl, rfl, rfl, by decide +kernel, rfl, by decide +kernel, by decide +kernel⟩
def d_marks_shown : He.DefD := ⟨("marks_shown", none), "marks_shown", "marks_shown", defArgs s_marks_shown, defBody s_marks_shown, defScope s_marks_shown, [], []⟩
abbrev s_wrong_coins : Stmt := top 23
def b_wrong_coins : FS := (seqS (exprS (callE m_check_coins (consA (var 0) nilA)))
  (seqS (exprS (callE m_check_many (consA (var 1) nilA)))
  (seqS (exprS (callE m_check_round (consA (var 1) (consA (var 2) (consA (var 3) nilA)))))
  (enS 4 0 (retS (op1 dTuple (lcE (itEnT (var 0)) (tgX [(tgN 5), (tgX [(tgN 6), (tgN 7)])]) (valB (op2 dNe (callE m_mark_in (consA (var 1) (consA (var 2) (consA (var 3) (consA (var 6) nilA))))) (var 7))) (var 5) [5, 6, 7])))))))
def m_wrong_coins : List D → M D := fnD 4 8 b_wrong_coins
theorem sc_wrong_coins : FnScope ["coins", "many", "begin", "step", "rows", "at", "year", "mark"] ["coins", "many", "begin", "step"] (defScope s_wrong_coins) := ⟨rfl, rfl, rfl, by decide +kernel, rfl, by decide +kernel, by decide +kernel⟩
def d_wrong_coins : He.DefD := ⟨("wrong_coins", none), "wrong_coins", "wrong_coins", defArgs s_wrong_coins, defBody s_wrong_coins, defScope s_wrong_coins, [], []⟩
abbrev s_best_round : Stmt := top 24
def b_best_round : FS := (seqS (exprS (callE m_check_coins (consA (var 0) nilA)))
  (seqS (exprS (callE m_check_many (consA (var 1) nilA)))
  (seqS (asgOS 2 (lstE nilA))
  (seqS (forS (itR1 (var 1)) (tgN 3) (forS (itR1 (var 1)) (tgN 4) (seqS (asgS 5 (lcE (itS (var 0)) (tgX [(tgN 6), (tgN 7)]) (valB (op2 dNe (callE m_mark_in (consA (var 1) (consA (var 3) (consA (var 4) (consA (var 6) nilA))))) (var 7))) (cst (.int 1)) [6, 7]))
  (appS 2 (tupE (consA (op1 dLen (var 5)) (consA (var 3) (consA (var 4) nilA))))))))
  (retS (op1 dMinY (varB 2)))))))
def m_best_round : List D → M D := fnD 2 8 b_best_round
theorem sc_best_round : FnScope ["coins", "many", "rows", "begin", "step", "wrong", "year", "mark"] ["coins", "many"] (defScope s_best_round) := ⟨rfl, rfl, rfl, by decide +kernel, rfl, by decide +kernel, by decide +kernel⟩
def d_best_round : He.DefD := ⟨("best_round", none), "best_round", "best_round", defArgs s_best_round, defBody s_best_round, defScope s_best_round, [], []⟩
abbrev s_accept_round : Stmt := top 25
def b_accept_round : FS := (seqS (exprS (callE m_check_coins (consA (var 0) nilA)))
  (seqS (exprS (callE m_check_many (consA (var 1) nilA)))
  (seqS (ifS (orB (notB (truB (op1 dAll (lcE (itS (tupE (consA (var 2) (consA (var 3) nilA)))) (tgN 5) yesB (andE (callE m_is_integer (consA (var 5) nilA)) (chn2 dLe dLt (cst (.int 0)) (var 5) (var 1))) [5])))) (notB (truB (callE m_is_integer (consA (var 4) nilA))))) (raiseS 2 (cst (.str "form"))) skipS)
  (ifS (valB (op2 dGt (op1 dLen (lcE (itS (var 0)) (tgX [(tgN 6), (tgN 7)]) (valB (op2 dNe (callE m_mark_in (consA (var 1) (consA (var 2) (consA (var 3) (consA (var 6) nilA))))) (var 7))) (cst (.int 1)) [6, 7])) (var 4))) (raiseS 2 (cst (.str "wrong"))) skipS))))
def m_accept_round : List D → M D := fnD 5 8 b_accept_round
theorem sc_accept_round : FnScope ["coins", "many", "begin", "step", "wrong", "own", "year", "mark"] ["coins", "many", "begin", "step", "wrong"] (defScope s_accept_round) := ⟨rfl, rfl, rfl, by decide +kernel, rfl, by decide +kernel, by decide +kernel⟩
def d_accept_round : He.DefD := ⟨("accept_round", none), "accept_round", "accept_round", defArgs s_accept_round, defBody s_accept_round, defScope s_accept_round, [], []⟩
abbrev s_accept_against : Stmt := top 26
def b_accept_against : FS := (seqS (exprS (callE m_check_coins (consA (var 0) nilA)))
  (seqS (exprS (callE m_check_many (consA (var 1) nilA)))
  (seqS (ifS (orB (notB (truB (op1 (isiD "tuple") (var 2)))) (notB (valB (chn2 dLe dLe (cst (.int 1)) (op1 dLen (var 2)) (cst (.int 3)))))) (raiseS 2 (cst (.str "form"))) skipS)
  (seqS (ifS (notB (truB (op1 dAll (lcE (itS (var 2)) (tgN 3) yesB (andE (callE m_is_integer (consA (var 3) nilA)) (chn2 dLe dLt (cst (.int 0)) (var 3) (op1 dLen (var 0)))) [3])))) (raiseS 2 (cst (.str "form"))) skipS)
  (seqS (ifS (valB (op2 dLt (op1 dLenX (dcE (itS (var 2)) (tgN 3) yesB (var 3) (cst (.bl true)) [3])) (op1 dLen (var 2)))) (raiseS 2 (cst (.str "form"))) skipS)
  (ifS (truB (callE m_rounds_for (consA (op1 dTuple (op1 dSortedP (lcE (itS (var 2)) (tgN 3) yesB (op2 dIxA (var 0) (var 3)) [3]))) (consA (var 1) nilA)))) (raiseS 2 (cst (.str "round"))) skipS))))))
def m_accept_against : List D → M D := fnD 3 4 b_accept_against
theorem sc_accept_against : FnScope ["coins", "many", "three", "at"] ["coins", "many", "three"] (defScope s_accept_against) := ⟨rfl, rfl, rfl, by decide +kernel, rfl, by decide +kernel, by decide +kernel⟩
def d_accept_against : He.DefD := ⟨("accept_against", none), "accept_against", "accept_against", defArgs s_accept_against, defBody s_accept_against, defScope s_accept_against, [], []⟩
abbrev s_missing_marks : Stmt := top 27
def b_missing_marks : FS := (seqS (exprS (callE m_check_coins (consA (var 0) nilA)))
  (seqS (exprS (callE m_check_many (consA (var 1) nilA)))
  (seqS (asgS 2 (dcE (itS (var 0)) (tgX [(tgN 3), (tgN 4)]) yesB (var 4) (cst (.bl true)) [3, 4]))
  (retS (op1 dTuple (lcE (itR1 (var 1)) (tgN 5) (valB (op2 dNotIn (var 5) (var 2))) (var 5) [5]))))))
def m_missing_marks : List D → M D := fnD 2 6 b_missing_marks
theorem sc_missing_marks : FnScope ["coins", "many", "known", "year", "mark", "own"] ["coins", "many"] (defScope s_missing_marks) := ⟨rfl, rfl, rfl, by decide +kernel, rfl, by decide +kernel, by decide +kernel⟩
def d_missing_marks : He.DefD := ⟨("missing_marks", none), "missing_marks", "missing_marks", defArgs s_missing_marks, defBody s_missing_marks, defScope s_missing_marks, [], []⟩
abbrev s_years_of : Stmt := top 28
def b_years_of : FS := (seqS (exprS (callE m_check_many (consA (var 0) nilA)))
  (seqS (exprS (callE m_check_round (consA (var 0) (consA (var 1) (consA (var 2) nilA)))))
  (seqS (ifS (orB (notB (truB (callE m_is_integer (consA (var 3) nilA)))) (notB (valB (chn2 dLe dLt (cst (.int 0)) (var 3) (var 0))))) (raiseS 1 (cst (.str "mark"))) skipS)
  (seqS (exprS (callE m_check_span (consA (var 4) (consA (var 5) nilA))))
  (retS (op1 dTuple (lcE (itR2 (var 4) (op2 dAdd (var 5) (cst (.int 1)))) (tgN 6) (valB (op2 dEq (callE m_mark_in (consA (var 0) (consA (var 1) (consA (var 2) (consA (var 6) nilA))))) (var 3))) (var 6) [6])))))))
def m_years_of : List D → M D := fnD 6 7 b_years_of
theorem sc_years_of : FnScope ["many", "begin", "step", "mark", "first", "last", "year"] ["many", "begin", "step", "mark", "first", "last"] (defScope s_years_of) := ⟨rfl, rfl, rfl, by decide +kernel, rfl, by decide +kernel, by decide +kernel⟩
def d_years_of : He.DefD := ⟨("years_of", none), "years_of", "years_of", defArgs s_years_of, defBody s_years_of, defScope s_years_of, [], []⟩
abbrev s_goes_round : Stmt := top 29
def b_goes_round : FS := (seqS (exprS (callE m_check_many (consA (var 0) nilA)))
  (seqS (ifS (orB (notB (truB (callE m_is_integer (consA (var 1) nilA)))) (notB (valB (chn2 dLe dLt (cst (.int 0)) (var 1) (var 0))))) (raiseS 1 (cst (.str "step"))) skipS)
  (seqS (parS 2 3 (var 0) (var 1))
  (seqS (whileS (truB (var 3)) (parS 2 3 (var 3) (op2 dMod (var 2) (var 3))) W0)
  (retS (op2 dDiv (var 0) (var 2)))))))
def m_goes_round : List D → M D := fnD 2 4 b_goes_round
theorem sc_goes_round : FnScope ["many", "step", "one", "other"] ["many", "step"] (defScope s_goes_round) := ⟨rfl, rfl, rfl, by decide +kernel, rfl, by decide +kernel, by decide +kernel⟩
def d_goes_round : He.DefD := ⟨("goes_round", none), "goes_round", "goes_round", defArgs s_goes_round, defBody s_goes_round, defScope s_goes_round, [], []⟩
abbrev s_year_left : Stmt := top 30
def b_year_left : FS := (seqS (exprS (callE m_check_many (consA (var 0) nilA)))
  (seqS (exprS (callE m_check_round (consA (var 0) (consA (var 1) (consA (var 2) nilA)))))
  (seqS (ifS (orB (notB (truB (op1 (isiD "tuple") (var 3)))) (notB (valB (chn2 dLe dLe (cst (.int 1)) (op1 dLen (var 3)) (cst (.int 60)))))) (raiseS 1 (cst (.str "marks"))) skipS)
  (seqS (ifS (notB (truB (op1 dAll (lcE (itS (var 3)) (tgN 7) yesB (andE (callE m_is_integer (consA (var 7) nilA)) (chn2 dLe dLt (cst (.int 0)) (var 7) (var 0))) [7])))) (raiseS 1 (cst (.str "marks"))) skipS)
  (seqS (asgS 4 (callE m_goes_round (consA (var 0) (consA (var 2) nilA))))
  (seqS (asgOS 5 (lstE nilA))
  (seqS (forS (itR1 (var 4)) (tgN 6) (ifS (notB (truB (lcE (itEnX (var 3)) (tgX [(tgN 8), (tgN 7)]) (valB (op2 dNe (callE m_mark_in (consA (var 0) (consA (var 1) (consA (var 2) (consA (op2 dAdd (var 6) (var 8)) nilA))))) (var 7))) (cst (.int 1)) [8, 7]))) (appS 5 (var 6)) skipS))
  (retS (op1 dTuple (varB 5))))))))))
def m_year_left : List D → M D := fnD 4 9 b_year_left
theorem sc_year_left : FnScope ["many", "begin", "step", "marks", "size", "found", "rest", "own", "at"] ["many", "begin", "step", "marks"] (defScope s_year_left) := ⟨rfl, rfl, rfl, by decide +kernel, rfl, by decide +kernel, by decide +kernel⟩
def d_year_left : He.DefD := ⟨("year_left", none), "year_left", "year_left", defArgs s_year_left, defBody s_year_left, defScope s_year_left, [], []⟩
abbrev s__law_start : Stmt := top 32
def b__law_start : FE := (seqO (asgS 1 (cst (.int 7)))
  (seqO (forS (itS (var 0)) (tgN 2) (asgS 1 (op2 dAdd (op2 dMod (op1 dInt (op2 dAdd (op2 dMulX (var 1) (cst (.int 48271))) (var 2))) (cst (.int 2147483629))) (cst (.int 1)))))
  (lstE (consA (op1 dList (var 0)) (consA (cst (.int 0)) (consA (cst (.int 0)) (consA (var 1) nilA)))))))
def m__law_start : List D → M D := fnO 1 3 b__law_start
theorem sc__law_start : FnScope ["script", "seed", "cell"] ["script"] (defScope s__law_start) := ⟨rfl, rfl, rfl, by decide +kernel, rfl, by decide +kernel, by decide +kernel⟩
def d__law_start : He.DefD := ⟨("_law_start", none), "_law_start", "_law_start", defArgs s__law_start, defBody s__law_start, defScope s__law_start, [], []⟩
abbrev s__law_draw : Stmt := top 33
def b__law_draw : FS := (seqS (ifS (andB (valB (op2 dEq (stIx 0 1) (cst (.int 0)))) (valB (op2 dGe (stIx 0 2) (op1 dLen (stIx 0 0))))) (seqS (stSet 0 3 (op2 dMod (op1 dInt (op2 dAdd (op2 dMulX (stIx 0 3) (cst (.int 48271))) (cst (.int 69621)))) (cst (.int 2147483629))))
  (retS (op2 dMod (op1 dInt (op2 dDiv (stIx 0 3) (cst (.int 13)))) (var 1)))) skipS)
  (seqS (ifS (valB (op2 dEq (stIx 0 1) (cst (.int 0)))) (seqS (stSet 0 1 (op1 dAbs (op2 dIxA (stIx 0 0) (stIx 0 2))))
  (stSet 0 2 (op2 dAdd (stIx 0 2) (cst (.int 1))))) skipS)
  (seqS (asgS 2 (op2 dMod (op1 dInt (stIx 0 1)) (var 1)))
  (seqS (stSet 0 1 (op2 dDiv (stIx 0 1) (var 1)))
  (retS (var 2))))))
def m__law_draw : List D → M D := fnD 2 3 b__law_draw
theorem sc__law_draw : FnScope ["state", "many", "taken"] ["state", "many"] (defScope s__law_draw) := ⟨rfl, rfl, rfl, by decide +kernel, rfl, by decide +kernel, by decide +kernel⟩
def d__law_draw : He.DefD := ⟨("_law_draw", none), "_law_draw", "_law_draw", defArgs s__law_draw, defBody s__law_draw, defScope s__law_draw, [], []⟩
abbrev s__law_pick : Stmt := top 34
def b__law_pick : FS := (retS (op2 dIxA (var 1) (callE m__law_draw (consA (var 0) (consA (op1 dLen (var 1)) nilA)))))
def m__law_pick : List D → M D := fnD 2 2 b__law_pick
theorem sc__law_pick : FnScope ["state", "some"] ["state", "some"] (defScope s__law_pick) := ⟨rfl, rfl, rfl, by decide +kernel, rfl, by decide +kernel, by decide +kernel⟩
def d__law_pick : He.DefD := ⟨("_law_pick", none), "_law_pick", "_law_pick", defArgs s__law_pick, defBody s__law_pick, defScope s__law_pick, [], []⟩
abbrev s__law_same : Stmt := top 35
def b__law_same : FS := (retS (andE (op2 dEq (var 0) (var 1)) (reprEqE (var 0) (var 1))))
def m__law_same : List D → M D := fnD 2 2 b__law_same
theorem sc__law_same : FnScope ["actual", "due"] ["actual", "due"] (defScope s__law_same) := ⟨rfl, rfl, rfl, by decide +kernel, rfl, by decide +kernel, by decide +kernel⟩
def d__law_same : He.DefD := ⟨("_law_same", none), "_law_same", "_law_same", defArgs s__law_same, defBody s__law_same, defScope s__law_same, [], []⟩
abbrev s__law_word : Stmt := top 36
theorem sc__law_word : FnScope ["error", "kinds"] ["error"] (defScope s__law_word) := ⟨rfl, rfl, rfl, by decide +kernel, rfl, by decide +kernel, by decide +kernel⟩
def d__law_word : He.DefD := ⟨("_law_word", none), "_law_word", "_law_word", defArgs s__law_word, defBody s__law_word, defScope s__law_word, [], []⟩
def disp : Nat → Option (List D → M D) := fun n => if n = 13 then some m_accept_round else (fun n => if n = 14 then some m_accept_against else (fun _ => none) n) n
abbrev s__law_asked : Stmt := top 37
def b__law_asked : FS := (tryWS (seqS (ifS (valB (op2 dLt (op1 dLen (var 1)) (cst (.int 3)))) (retS (iteE (valB (op2 dEq (op1 dLen (var 1)) (cst (.int 1)))) (lstE (consA (callV disp 0 (consA (op2 dIxA (var 1) (cst (.int 0))) nilA)) nilA)) (lstE (consA (callV disp 0 (consA (op2 dIxA (var 1) (cst (.int 0))) (consA (op2 dIxA (var 1) (cst (.int 1))) nilA))) nilA)))) skipS)
  (seqS (ifS (valB (op2 dLt (op1 dLen (var 1)) (cst (.int 5)))) (retS (iteE (valB (op2 dEq (op1 dLen (var 1)) (cst (.int 3)))) (lstE (consA (callV disp 0 (consA (op2 dIxA (var 1) (cst (.int 0))) (consA (op2 dIxA (var 1) (cst (.int 1))) (consA (op2 dIxA (var 1) (cst (.int 2))) nilA)))) nilA)) (lstE (consA (callV disp 0 (consA (op2 dIxA (var 1) (cst (.int 0))) (consA (op2 dIxA (var 1) (cst (.int 1))) (consA (op2 dIxA (var 1) (cst (.int 2))) (consA (op2 dIxA (var 1) (cst (.int 3))) nilA))))) nilA)))) skipS)
  (seqS (ifS (valB (op2 dLt (op1 dLen (var 1)) (cst (.int 7)))) (retS (iteE (valB (op2 dEq (op1 dLen (var 1)) (cst (.int 5)))) (lstE (consA (callV disp 0 (consA (op2 dIxA (var 1) (cst (.int 0))) (consA (op2 dIxA (var 1) (cst (.int 1))) (consA (op2 dIxA (var 1) (cst (.int 2))) (consA (op2 dIxA (var 1) (cst (.int 3))) (consA (op2 dIxA (var 1) (cst (.int 4))) nilA)))))) nilA)) (lstE (consA (callV disp 0 (consA (op2 dIxA (var 1) (cst (.int 0))) (consA (op2 dIxA (var 1) (cst (.int 1))) (consA (op2 dIxA (var 1) (cst (.int 2))) (consA (op2 dIxA (var 1) (cst (.int 3))) (consA (op2 dIxA (var 1) (cst (.int 4))) (consA (op2 dIxA (var 1) (cst (.int 5))) nilA))))))) nilA)))) skipS)
  (retS (lstE (consA (callV disp 0 (consA (op2 dIxA (var 1) (cst (.int 0))) (consA (op2 dIxA (var 1) (cst (.int 1))) (consA (op2 dIxA (var 1) (cst (.int 2))) (consA (op2 dIxA (var 1) (cst (.int 3))) (consA (op2 dIxA (var 1) (cst (.int 4))) (consA (op2 dIxA (var 1) (cst (.int 5))) (consA (op2 dIxA (var 1) (cst (.int 6))) nilA)))))))) nilA)))))) wdW)
def m__law_asked : List D → M D := fnD 2 3 b__law_asked
theorem sc__law_asked : FnScope ["way", "some", "error"] ["way", "some"] (defScope s__law_asked) := ⟨rfl, rfl, rfl, by decide +kernel, rfl, by decide +kernel, by decide +kernel⟩
def d__law_asked : He.DefD := ⟨("_law_asked", none), "_law_asked", "_law_asked", defArgs s__law_asked, defBody s__law_asked, defScope s__law_asked, [], []⟩
abbrev s__law_shown : Stmt := top 38
def b__law_shown : FS := (seqS (asgS 3 (lcE (itS (var 2)) (tgX [(tgN 4), (tgN 5)]) yesB (callE m__law_asked (consA (var 0) (consA (op2 dAdd (var 1) (var 4)) nilA))) [4, 5]))
  (retS (callE m__law_same (consA (var 3) (consA (lcE (itS (var 2)) (tgX [(tgN 4), (tgN 5)]) yesB (iteE (valB (op2 dIs (var 5) (cst .non))) (lstE (consA (cst .non) nilA)) (var 5)) [4, 5]) nilA)))))
def m__law_shown : List D → M D := fnD 3 6 b__law_shown
theorem sc__law_shown : FnScope ["way", "ahead", "papers", "heard", "paper", "word"] ["way", "ahead", "papers"] (defScope s__law_shown) := ⟨rfl, rfl, rfl, by decide +kernel, rfl, by decide +kernel, by decide +kernel⟩
def d__law_shown : He.DefD := ⟨("_law_shown", none), "_law_shown", "_law_shown", defArgs s__law_shown, defBody s__law_shown, defScope s__law_shown, [], []⟩
abbrev s__law_mark : Stmt := top 39
def b__law_mark : FS := (seqS (parS 4 5 (var 1) (iteE (valB (op2 dGe (var 3) (cst (.int 0)))) (var 2) (op2 dSub (var 0) (var 2))))
  (retS (op2 dMod (op1 dInt (op2 dAdd (var 4) (op2 dMulX (var 5) (op1 dAbs (var 3))))) (var 0))))
def m__law_mark : List D → M D := fnD 4 6 b__law_mark
theorem sc__law_mark : FnScope ["many", "begin", "step", "year", "mark", "own"] ["many", "begin", "step", "year"] (defScope s__law_mark) := ⟨rfl, rfl, rfl, by decide +kernel, rfl, by decide +kernel, by decide +kernel⟩
def d__law_mark : He.DefD := ⟨("_law_mark", none), "_law_mark", "_law_mark", defArgs s__law_mark, defBody s__law_mark, defScope s__law_mark, [], []⟩
abbrev s__law_coins : Stmt := top 40
def b__law_coins : FS := (seqS (asgS 5 (op1 dSorted (lcE (itR1 (var 4)) (tgN 10) yesB (op2 dSub (callE m__law_draw (consA (var 0) (consA (callE m__law_pick (consA (var 0) (consA (lstE (consA (cst (.int 9)) (consA (cst (.int 200)) (consA (cst (.int 10001)) nilA)))) nilA))) nilA))) (callE m__law_pick (consA (var 0) (consA (lstE (consA (cst (.int 0)) (consA (cst (.int 4)) (consA (cst (.int 5000)) nilA)))) nilA)))) [10])))
  (seqS (asgS 5 (lcE (itS (var 5)) (tgN 9) yesB (op1 dMinY (lstE (consA (cst (.int 5000)) (consA (op1 dMaxX (lstE (consA (op1 dNeg (cst (.int 5000))) (consA (var 9) nilA)))) nilA)))) [9]))
  (seqS (asgOS 6 (lcE (itS (var 5)) (tgN 9) yesB (tupE (consA (var 9) (consA (callE m__law_mark (consA (var 1) (consA (var 2) (consA (var 3) (consA (var 9) nilA))))) nilA))) [9]))
  (seqS (forS (itR1 (iteE (truB (varB 6)) (callE m__law_draw (consA (var 0) (consA (cst (.int 3)) nilA))) (cst (.int 0)))) (tgN 7) (seqS (asgS 8 (callE m__law_pick (consA (var 0) (consA (lstE (consA (op2 dSub (op1 dLen (varB 6)) (cst (.int 1))) (consA (callE m__law_draw (consA (var 0) (consA (op1 dLen (varB 6)) nilA))) nilA))) nilA))))
  (putS 6 (tupE (consA (op2 dIxA (op2 dIxA (varB 6) (var 8)) (cst (.int 0))) (consA (callE m__law_draw (consA (var 0) (consA (cst (.int 26)) nilA))) nilA))) (var 8))))
  (retS (op1 dTuple (varB 6)))))))
def m__law_coins : List D → M D := fnD 5 11 b__law_coins
theorem sc__law_coins : FnScope ["state", "many", "begin", "step", "size", "years", "rows", "turn", "at", "own", "k"] ["state", "many", "begin", "step", "size"] (defScope s__law_coins) := ⟨rfl, rfl, rfl, by decide +kernel, rfl, by decide +kernel, by decide +kernel⟩
def d__law_coins : He.DefD := ⟨("_law_coins", none), "_law_coins", "_law_coins", defArgs s__law_coins, defBody s__law_coins, defScope s__law_coins, [], []⟩
abbrev s__law_wrong : Stmt := top 41
def b__law_wrong : FS := (retS (op1 dTuple (lcE (itR1 (op1 dLen (var 0))) (tgN 4) (valB (op2 dNe (callE m__law_mark (consA (var 1) (consA (var 2) (consA (var 3) (consA (op2 dIxA (op2 dIxA (var 0) (var 4)) (cst (.int 0))) nilA))))) (op2 dIxA (op2 dIxA (var 0) (var 4)) (cst (.int 1))))) (var 4) [4])))
def m__law_wrong : List D → M D := fnD 4 5 b__law_wrong
theorem sc__law_wrong : FnScope ["coins", "many", "begin", "step", "k"] ["coins", "many", "begin", "step"] (defScope s__law_wrong) := ⟨rfl, rfl, rfl, by decide +kernel, rfl, by decide +kernel, by decide +kernel⟩
def d__law_wrong : He.DefD := ⟨("_law_wrong", none), "_law_wrong", "_law_wrong", defArgs s__law_wrong, defBody s__law_wrong, defScope s__law_wrong, [], []⟩
abbrev s__law_rounds : Stmt := top 42
def b__law_rounds : FS := (seqS (asgOS 2 (lstE nilA))
  (seqS (forS (itR1 (var 1)) (tgN 3) (extS 2 (lcE (itR1 (var 1)) (tgN 4) yesB (tupE (consA (op1 dLen (callE m__law_wrong (consA (var 0) (consA (var 1) (consA (var 3) (consA (var 4) nilA)))))) (consA (var 3) (consA (var 4) nilA)))) [4])))
  (frzS 2 (retS (var 2)))))
def m__law_rounds : List D → M D := fnD 2 5 b__law_rounds
theorem sc__law_rounds : FnScope ["coins", "many", "found", "begin", "step"] ["coins", "many"] (defScope s__law_rounds) := ⟨rfl, rfl, rfl, by decide +kernel, rfl, by decide +kernel, by decide +kernel⟩
def d__law_rounds : He.DefD := ⟨("_law_rounds", none), "_law_rounds", "_law_rounds", defArgs s__law_rounds, defBody s__law_rounds, defScope s__law_rounds, [], []⟩
abbrev s__law_against_holds : Stmt := top 44
def b__law_against_holds : FS := (seqS (parVO 9 10 (op1 dLen (var 1)) (lstE nilA))
  (seqS (asgOS 4 (lcE (itR1 (var 9)) (tgN 5) yesB (tupE (consA (var 5) nilA)) [5]))
  (seqS (forS (itR1 (var 9)) (tgN 5) (extS 4 (lcE (itR1 (var 5)) (tgN 11) yesB (tupE (consA (var 5) (consA (var 11) nilA))) [11])))
  (seqS (forS (itR1 (iteE (valB (op2 dLt (var 9) (cst (.int 8)))) (var 9) (cst (.int 0)))) (tgN 5) (forS (itR1 (var 5)) (tgN 11) (extS 4 (lcE (itR1 (var 11)) (tgN 15) yesB (tupE (consA (var 11) (consA (var 5) (consA (var 15) nilA)))) [15]))))
  (seqS (frzS 4 (forS (itS (var 4)) (tgN 6) (seqS (asgS 12 (op1 dTuple (lcE (itS (var 6)) (tgN 13) yesB (op2 dIxA (var 1) (var 13)) [13])))
  (ifS (valB (op2 dEq (lcE (itS (callE m__law_rounds (consA (var 12) (consA (var 2) nilA)))) (tgN 14) (valB (op2 dEq (op2 dIxA (var 14) (cst (.int 0))) (cst (.int 0)))) (var 14) [14]) (lstE nilA))) (appS 10 (var 6)) skipS))))
  (seqS (frzS 4 (asgS 6 (iteE (truB (varB 4)) (callE m__law_pick (consA (var 0) (consA (var 4) nilA))) (tupE (consA (cst (.int 0)) nilA)))))
  (seqS (asgS 7 (iteE (notB (truB (varB 4))) (cst (.str "paper form")) (iteE (valB (op2 dIn (var 6) (varB 10))) (cst .non) (cst (.str "paper round")))))
  (seqS (asgS 8 (lstE (consA (tupE (consA (lstE (consA (var 6) nilA)) (consA (var 7) nilA))) (consA (tupE (consA (lstE (consA (op2 dAdd (var 6) (tupE (consA (var 9) nilA))) nilA)) (consA (cst (.str "paper form")) nilA))) (consA (tupE (consA (lstE (consA (tupE nilA) nilA)) (consA (cst (.str "paper form")) nilA))) (consA (tupE (consA (lstE (consA (tupE (consA (cst (.int 0)) (consA (cst (.int 0)) nilA))) nilA)) (consA (cst (.str "paper form")) nilA))) (consA (tupE (consA (lstE (consA (tupE (consA (cst (.bl true)) nilA)) nilA)) (consA (cst (.str "paper form")) nilA))) nilA)))))))
  (seqS (ifS (truB (varB 10)) (asgS 8 (op2 dAdd (var 8) (lstE (consA (tupE (consA (lstE (consA (op2 dIxA (varB 10) (op1 dNeg (cst (.int 1)))) nilA)) (consA (cst .non) nilA))) (consA (tupE (consA (lstE (consA (op1 dRevT (op2 dIxA (varB 10) (op1 dNeg (cst (.int 1))))) nilA)) (consA (cst .non) nilA))) nilA))))) skipS)
  (retS (andE (callE m__law_shown (consA (fnE 14) (consA (lstE (consA (var 1) (consA (var 2) nilA))) (consA (var 8) nilA)))) (orE (op2 dGe (var 9) (cst (.int 8))) (op2 dEq (op2 dNe (varB 10) (lstE nilA)) (op2 dEq (var 3) (tupE nilA)))))))))))))))
def m__law_against_holds : List D → M D := fnD 4 16 b__law_against_holds
theorem sc__law_against_holds : FnScope ["state", "coins", "many", "good", "rows", "k", "row", "word", "papers", "size", "shown", "j", "some", "at", "own", "i"] ["state", "coins", "many", "good"] (defScope s__law_against_holds) := ⟨rfl, rfl, rfl, by decide +kernel, rfl, by decide +kernel, by decide +kernel⟩
def d__law_against_holds : He.DefD := ⟨("_law_against_holds", none), "_law_against_holds", "_law_against_holds", defArgs s__law_against_holds, defBody s__law_against_holds, defScope s__law_against_holds, [], []⟩
abbrev s__law_rounds_hold : Stmt := top 43
def b__law_rounds_hold : FS := (seqS (asgS 1 (op2 dAdd (cst (.int 1)) (callE m__law_draw (consA (var 0) (consA (callE m__law_pick (consA (var 0) (consA (lstE (consA (cst (.int 6)) (consA (cst (.int 26)) nilA))) nilA))) nilA)))))
  (seqS (parS 10 11 (callE m__law_draw (consA (var 0) (consA (var 1) nilA))) (callE m__law_draw (consA (var 0) (consA (var 1) nilA))))
  (seqS (asgS 2 (callE m__law_coins (consA (var 0) (consA (var 1) (consA (var 10) (consA (var 11) (consA (callE m__law_draw (consA (var 0) (consA (cst (.int 10)) nilA))) nilA)))))))
  (seqS (asgS 3 (callE m__law_rounds (consA (var 2) (consA (var 1) nilA))))
  (seqS (asgS 4 (op1 dTuple (lcE (itS (var 3)) (tgX [(tgN 8), (tgN 13), (tgN 14)]) (valB (op2 dEq (var 8) (cst (.int 0)))) (tupE (consA (var 13) (consA (var 14) nilA))) [8, 13, 14])))
  (seqS (asgS 5 (iteE (valB (op2 dEq (op1 dLen (var 4)) (cst (.int 1)))) (op2 dAdd (tupE (consA (cst (.str "one")) nilA)) (op2 dIxA (var 4) (cst (.int 0)))) (iteE (truB (var 4)) (tupE (consA (cst (.str "several")) (consA (var 4) nilA))) (tupE (consA (cst (.str "none")) nilA)))))
  (seqS (asgS 6 (op1 dTuple (lcE (itR1 (var 1)) (tgN 12) (valB (op2 dNotIn (var 12) (lcE (itS (var 2)) (tgX [(tgN 15), (tgN 13)]) yesB (var 13) [15, 13]))) (var 12) [12])))
  (seqS (asgS 7 (lstE (consA (callE m_rounds_for (consA (var 2) (consA (var 1) nilA))) (consA (callE m_judge_rounds (consA (var 2) (consA (var 1) nilA))) (consA (callE m_best_round (consA (var 2) (consA (var 1) nilA))) (consA (callE m_missing_marks (consA (var 2) (consA (var 1) nilA))) (consA (callE m_wrong_coins (consA (var 2) (consA (var 1) (consA (var 10) (consA (var 11) nilA))))) nilA)))))))
  (seqS (asgS 8 (callE m__law_wrong (consA (var 2) (consA (var 1) (consA (var 10) (consA (var 11) nilA))))))
  (seqS (ifS (notB (truB (callE m__law_same (consA (var 7) (consA (lstE (consA (var 4) (consA (var 5) (consA (op1 dMinY (var 3)) (consA (var 6) (consA (var 8) nilA)))))) nilA))))) (retS (cst (.bl false))) skipS)
  (seqS (asgS 9 (lstE (consA (tupE (consA (lstE (consA (var 10) (consA (var 11) (consA (op1 dLen (var 8)) nilA)))) (consA (cst .non) nilA))) (consA (tupE (consA (lstE (consA (var 10) (consA (var 11) (consA (op2 dSub (op1 dLen (var 8)) (cst (.int 1))) nilA)))) (consA (cst (.str "paper wrong")) nilA))) (consA (tupE (consA (lstE (consA (var 1) (consA (var 11) (consA (cst (.int 9)) nilA)))) (consA (cst (.str "paper form")) nilA))) (consA (tupE (consA (lstE (consA (var 10) (consA (cst (.bl true)) (consA (cst (.int 9)) nilA)))) (consA (cst (.str "paper form")) nilA))) nilA))))))
  (seqS (asgS 9 (op2 dAdd (var 9) (lstE (consA (tupE (consA (lstE (consA (var 10) (consA (var 11) (consA (cst .non) nilA)))) (consA (cst (.str "paper form")) nilA))) nilA))))
  (seqS (ifS (notB (truB (callE m__law_shown (consA (fnE 13) (consA (lstE (consA (var 2) (consA (var 1) nilA))) (consA (var 9) nilA)))))) (retS (cst (.bl false))) skipS)
  (retS (callE m__law_against_holds (consA (var 0) (consA (var 2) (consA (var 1) (consA (var 4) nilA)))))))))))))))))))
def m__law_rounds_hold : List D → M D := fnD 1 16 b__law_rounds_hold
theorem sc__law_rounds_hold : FnScope ["state", "many", "coins", "rows", "good", "due", "missing", "told", "wrong", "papers", "begin", "step", "mark", "own", "other", "year"] ["state"] (defScope s__law_rounds_hold) := ⟨rfl, rfl, rfl, by decide +kernel, rfl, by decide +kernel, by decide +kernel⟩
def d__law_rounds_hold : He.DefD := ⟨("_law_rounds_hold", none), "_law_rounds_hold", "_law_rounds_hold", defArgs s__law_rounds_hold, defBody s__law_rounds_hold, defScope s__law_rounds_hold, [], []⟩
abbrev s__law_years_hold : Stmt := top 45
def b__law_years_hold : FS := (seqS (asgS 1 (op2 dAdd (cst (.int 1)) (callE m__law_draw (consA (var 0) (consA (callE m__law_pick (consA (var 0) (consA (lstE (consA (cst (.int 6)) (consA (cst (.int 26)) nilA))) nilA))) nilA)))))
  (seqS (asgT (tgX [(tgN 11), (tgN 12), (tgN 13)]) (tupE (consA (callE m__law_draw (consA (var 0) (consA (var 1) nilA))) (consA (callE m__law_draw (consA (var 0) (consA (var 1) nilA))) (consA (callE m__law_draw (consA (var 0) (consA (var 1) nilA))) nilA)))))
  (seqS (asgS 2 (callE m__law_pick (consA (var 0) (consA (lstE (consA (op2 dSub (callE m__law_draw (consA (var 0) (consA (cst (.int 40)) nilA))) (cst (.int 20))) (consA (op1 dNeg (cst (.int 5000))) (consA (cst (.int 4900)) nilA)))) nilA))))
  (seqS (asgS 3 (op1 dMinY (lstE (consA (cst (.int 5000)) (consA (op2 dAdd (var 2) (callE m__law_draw (consA (var 0) (consA (callE m__law_pick (consA (var 0) (consA (lstE (consA (cst (.int 9)) (consA (cst (.int 200)) nilA))) nilA))) nilA)))) nilA)))))
  (seqS (asgS 4 (op1 dTuple (lcE (itR2 (var 2) (op2 dAdd (var 3) (cst (.int 1)))) (tgN 7) yesB (callE m__law_mark (consA (var 1) (consA (var 11) (consA (var 12) (consA (var 7) nilA))))) [7])))
  (seqS (asgS 5 (op1 dTuple (lcE (itR2 (var 2) (op2 dAdd (var 3) (cst (.int 1)))) (tgN 7) (valB (op2 dEq (callE m__law_mark (consA (var 1) (consA (var 11) (consA (var 12) (consA (var 7) nilA))))) (var 13))) (var 7) [7])))
  (seqS (asgS 6 (op1 dLenSet (lcE (itR1 (var 1)) (tgN 7) yesB (callE m__law_mark (consA (var 1) (consA (cst (.int 0)) (consA (var 12) (consA (var 7) nilA))))) [7])))
  (seqS (asgS 7 (callE m__law_draw (consA (var 0) (consA (cst (.int 100)) nilA))))
  (seqS (asgS 8 (op1 dTuple (lcE (itR1 (op2 dAdd (cst (.int 1)) (callE m__law_draw (consA (var 0) (consA (callE m__law_pick (consA (var 0) (consA (lstE (consA (cst (.int 3)) (consA (cst (.int 60)) nilA))) nilA))) nilA))))) (tgN 14) yesB (callE m__law_mark (consA (var 1) (consA (var 11) (consA (var 12) (consA (op2 dAdd (var 7) (var 14)) nilA))))) [14])))
  (seqS (asgS 8 (iteE (valB (op2 dGt (callE m__law_draw (consA (var 0) (consA (cst (.int 3)) nilA))) (cst (.int 0)))) (var 8) (op2 dAdd (slcX (var 8) noP (partP (op1 dNeg (cst (.int 1))))) (tupE (consA (callE m__law_draw (consA (var 0) (consA (var 1) nilA))) nilA)))))
  (seqS (asgS 9 (op1 dTuple (lcE (itR1 (var 6)) (tgN 15) (notB (truB (lcE (itR1 (op1 dLen (var 8))) (tgN 14) (valB (op2 dNe (callE m__law_mark (consA (var 1) (consA (var 11) (consA (var 12) (consA (op2 dAdd (var 15) (var 14)) nilA))))) (op2 dIxA (var 8) (var 14)))) (var 14) [14]))) (var 15) [15])))
  (seqS (asgS 10 (lstE (consA (callE m_marks_shown (consA (var 1) (consA (var 11) (consA (var 12) (consA (var 2) (consA (var 3) nilA)))))) (consA (callE m_years_of (consA (var 1) (consA (var 11) (consA (var 12) (consA (var 13) (consA (var 2) (consA (var 3) nilA))))))) (consA (callE m_goes_round (consA (var 1) (consA (var 12) nilA))) (consA (callE m_year_left (consA (var 1) (consA (var 11) (consA (var 12) (consA (var 8) nilA))))) nilA))))))
  (retS (callE m__law_same (consA (var 10) (consA (lstE (consA (var 4) (consA (var 5) (consA (var 6) (consA (var 9) nilA))))) nilA))))))))))))))))
def m__law_years_hold : List D → M D := fnD 1 16 b__law_years_hold
theorem sc__law_years_hold : FnScope ["state", "many", "first", "last", "shown", "years", "size", "year", "marks", "left", "told", "begin", "step", "mark", "k", "rest"] ["state"] (defScope s__law_years_hold) := ⟨rfl, rfl, rfl, by decide +kernel, rfl, by decide +kernel, by decide +kernel⟩
def d__law_years_hold : He.DefD := ⟨("_law_years_hold", none), "_law_years_hold", "_law_years_hold", defArgs s__law_years_hold, defBody s__law_years_hold, defScope s__law_years_hold, [], []⟩
abbrev s__law_great_holds : Stmt := top 46
def b__law_great_holds : FS := (seqS (asgT (tgX [(tgN 6), (tgN 7), (tgN 8)]) (tupE (consA (cst (.int 26)) (consA (callE m__law_draw (consA (var 0) (consA (cst (.int 26)) nilA))) (consA (op2 dAdd (cst (.int 1)) (op2 dMulX (cst (.int 2)) (callE m__law_draw (consA (var 0) (consA (cst (.int 6)) nilA))))) nilA)))))
  (seqS (asgS 1 (op1 dSorted (op2 dAdd (lcE (itR1 (cst (.int 58))) (tgN 11) yesB (op2 dSub (callE m__law_draw (consA (var 0) (consA (cst (.int 10001)) nilA))) (cst (.int 5000))) [11]) (lstE (consA (op1 dNeg (cst (.int 5000))) (consA (cst (.int 5000)) nilA))))))
  (seqS (asgS 2 (op1 dTuple (lcE (itS (var 1)) (tgN 10) yesB (tupE (consA (var 10) (consA (callE m__law_mark (consA (var 6) (consA (var 7) (consA (var 8) (consA (var 10) nilA))))) nilA))) [10])))
  (seqS (asgS 3 (op2 dAdd (slcX (var 2) noP (partP (cst (.int 59)))) (tupE (consA (tupE (consA (cst (.int 5000)) (consA (op2 dMod (op1 dInt (op2 dAdd (op2 dIxA (op2 dIxA (var 2) (cst (.int 59))) (cst (.int 1))) (cst (.int 1)))) (cst (.int 26))) nilA))) nilA))))
  (seqS (asgS 4 (lstE (consA (op2 dIxA (callE m_best_round (consA (var 2) (consA (var 6) nilA))) (cst (.int 0))) (consA (callE m_wrong_coins (consA (var 3) (consA (var 6) (consA (var 7) (consA (var 8) nilA))))) (consA (op2 dLe (op2 dIxA (callE m_best_round (consA (var 3) (consA (var 6) nilA))) (cst (.int 0))) (cst (.int 1))) (consA (op1 dLen (callE m_marks_shown (consA (var 6) (consA (var 7) (consA (var 8) (consA (op1 dNeg (cst (.int 5000))) (consA (cst (.int 5000)) nilA))))))) nilA))))))
  (seqS (ifS (notB (truB (callE m__law_same (consA (var 4) (consA (lstE (consA (cst (.int 0)) (consA (tupE (consA (cst (.int 59)) nilA)) (consA (cst (.bl true)) (consA (cst (.int 10001)) nilA))))) nilA))))) (retS (cst (.bl false))) skipS)
  (seqS (asgS 5 (lcE (itR2 (cst (.int 1)) (cst (.int 27))) (tgN 9) (truB (lcE (itS (callE m__law_rounds (consA (slcX (var 2) noP (partP (cst (.int 9)))) (consA (var 9) nilA)))) (tgN 12) (valB (op2 dEq (op2 dIxA (var 12) (cst (.int 0))) (cst (.int 0)))) (var 12) [12])) (var 9) [9]))
  (retS (callE m__law_same (consA (lstE (consA (callE m_fewest_marks (consA (slcX (var 2) noP (partP (cst (.int 9)))) nilA)) (consA (callE m_fewest_marks (consA (tupE nilA) nilA)) (consA (callE m_fewest_marks (consA (tupE (consA (tupE (consA (cst (.int 0)) (consA (cst (.int 25)) nilA))) nilA)) nilA)) (consA (callE m_fewest_marks (consA (tupE (consA (tupE (consA (cst (.int 0)) (consA (cst (.int 1)) nilA))) (consA (tupE (consA (cst (.int 0)) (consA (cst (.int 2)) nilA))) nilA))) nilA)) nilA))))) (consA (lstE (consA (op2 dIxA (var 5) (cst (.int 0))) (consA (cst (.int 1)) (consA (cst (.int 26)) (consA (cst .non) nilA))))) nilA)))))))))))
def m__law_great_holds : List D → M D := fnD 1 13 b__law_great_holds
theorem sc__law_great_holds : FnScope ["state", "years", "coins", "bent", "told", "least", "many", "begin", "step", "own", "year", "k", "row"] ["state"] (defScope s__law_great_holds) := ⟨rfl, rfl, rfl, by decide +kernel, rfl, by decide +kernel, by decide +kernel⟩
def d__law_great_holds : He.DefD := ⟨("_law_great_holds", none), "_law_great_holds", "_law_great_holds", defArgs s__law_great_holds, defBody s__law_great_holds, defScope s__law_great_holds, [], []⟩
abbrev s_law : Stmt := top 47
def b_law : FS := (seqS (mkS 1 m__law_start (consA (var 0) nilA))
  (seqS (ifS (valB (op2 dEq (callE m__law_draw (consA (var 1) (consA (cst (.int 8)) nilA))) (cst (.int 0)))) (retS (callE m__law_great_holds (consA (var 1) nilA))) skipS)
  (seqS (forS (itR1 (cst (.int 2))) (tgN 2) (ifS (orB (notB (truB (callE m__law_rounds_hold (consA (var 1) nilA)))) (notB (truB (callE m__law_years_hold (consA (var 1) nilA))))) (retS (cst (.bl false))) skipS))
  (retS (cst (.bl true))))))
def m_law : List D → M D := fnD 1 3 b_law
theorem sc_law : FnScope ["script", "state", "turn"] ["script"] (defScope s_law) := ⟨rfl, rfl, rfl, by decide +kernel, rfl, by decide +kernel, by decide +kernel⟩
def d_law : He.DefD := ⟨("law", none), "law", "law", defArgs s_law, defBody s_law, defScope s_law, [], []⟩
def nm : Nat → Str
  | 0 => "is_integer"
  | 2 => "is_coin"
  | 1 => "check_coins"
  | 3 => "check_many"
  | 4 => "mark_in"
  | 5 => "rounds_for"
  | 6 => "judge_rounds"
  | 7 => "fewest_marks"
  | 9 => "check_round"
  | 10 => "check_span"
  | 8 => "marks_shown"
  | 11 => "wrong_coins"
  | 12 => "best_round"
  | 13 => "accept_round"
  | 14 => "accept_against"
  | 15 => "missing_marks"
  | 16 => "years_of"
  | 17 => "goes_round"
  | 18 => "year_left"
  | 19 => "_law_start"
  | 20 => "_law_draw"
  | 21 => "_law_pick"
  | 22 => "_law_same"
  | 23 => "_law_word"
  | 24 => "_law_asked"
  | 25 => "_law_shown"
  | 26 => "_law_mark"
  | 27 => "_law_coins"
  | 28 => "_law_wrong"
  | 29 => "_law_rounds"
  | 31 => "_law_against_holds"
  | 30 => "_law_rounds_hold"
  | 32 => "_law_years_hold"
  | 33 => "_law_great_holds"
  | 34 => "law"
  | _ => ""
abbrev ad (K : PySem.W.Frag) (n : Nat) : Addr := He.ga K (nm n)
abbrev fd (K : PySem.W.Frag) (n : Nat) : FuncData := fdA K (ad K n)
structure Tx (P : Program) (K : PySem.W.Frag) (mg : Str → Option Value) : Prop where
  F_is_integer : FunD K "is_integer" "is_integer" (defArgs s_is_integer) (defBody s_is_integer) (defScope s_is_integer) [] [] (ad K 0) (fd K 0)
  b_is_integer : Binds K (fd K 0) ["value"] []
  g_is_integer : mg "is_integer" = some (.ref (ad K 0))
  F_is_coin : FunD K "is_coin" "is_coin" (defArgs s_is_coin) (defBody s_is_coin) (defScope s_is_coin) [] [] (ad K 2) (fd K 2)
  b_is_coin : Binds K (fd K 2) ["value"] []
  g_is_coin : mg "is_coin" = some (.ref (ad K 2))
  F_check_coins : FunD K "check_coins" "check_coins" (defArgs s_check_coins) (defBody s_check_coins) (defScope s_check_coins) [] [] (ad K 1) (fd K 1)
  b_check_coins : Binds K (fd K 1) ["coins"] []
  g_check_coins : mg "check_coins" = some (.ref (ad K 1))
  F_check_many : FunD K "check_many" "check_many" (defArgs s_check_many) (defBody s_check_many) (defScope s_check_many) [] [] (ad K 3) (fd K 3)
  b_check_many : Binds K (fd K 3) ["many"] []
  g_check_many : mg "check_many" = some (.ref (ad K 3))
  F_mark_in : FunD K "mark_in" "mark_in" (defArgs s_mark_in) (defBody s_mark_in) (defScope s_mark_in) [] [] (ad K 4) (fd K 4)
  b_mark_in : Binds K (fd K 4) ["many", "begin", "step", "year"] []
  g_mark_in : mg "mark_in" = some (.ref (ad K 4))
  F_rounds_for : FunD K "rounds_for" "rounds_for" (defArgs s_rounds_for) (defBody s_rounds_for) (defScope s_rounds_for) [] [] (ad K 5) (fd K 5)
  b_rounds_for : Binds K (fd K 5) ["coins", "many"] []
  g_rounds_for : mg "rounds_for" = some (.ref (ad K 5))
  F_judge_rounds : FunD K "judge_rounds" "judge_rounds" (defArgs s_judge_rounds) (defBody s_judge_rounds) (defScope s_judge_rounds) [] [] (ad K 6) (fd K 6)
  b_judge_rounds : Binds K (fd K 6) ["coins", "many"] []
  g_judge_rounds : mg "judge_rounds" = some (.ref (ad K 6))
  F_fewest_marks : FunD K "fewest_marks" "fewest_marks" (defArgs s_fewest_marks) (defBody s_fewest_marks) (defScope s_fewest_marks) [] [] (ad K 7) (fd K 7)
  b_fewest_marks : Binds K (fd K 7) ["coins"] []
  g_fewest_marks : mg "fewest_marks" = some (.ref (ad K 7))
  F_check_round : FunD K "check_round" "check_round" (defArgs s_check_round) (defBody s_check_round) (defScope s_check_round) [] [] (ad K 9) (fd K 9)
  b_check_round : Binds K (fd K 9) ["many", "begin", "step"] []
  g_check_round : mg "check_round" = some (.ref (ad K 9))
  F_check_span : FunD K "check_span" "check_span" (defArgs s_check_span) (defBody s_check_span) (defScope s_check_span) [] [] (ad K 10) (fd K 10)
  b_check_span : Binds K (fd K 10) ["first", "last"] []
  g_check_span : mg "check_span" = some (.ref (ad K 10))
  F_marks_shown : FunD K "marks_shown" "marks_shown" (defArgs s_marks_shown) (defBody s_marks_shown) (defScope s_marks_shown) [] [] (ad K 8) (fd K 8)
  b_marks_shown : Binds K (fd K 8) ["many", "begin", "step", "first", "last"] []
  g_marks_shown : mg "marks_shown" = some (.ref (ad K 8))
  F_wrong_coins : FunD K "wrong_coins" "wrong_coins" (defArgs s_wrong_coins) (defBody s_wrong_coins) (defScope s_wrong_coins) [] [] (ad K 11) (fd K 11)
  b_wrong_coins : Binds K (fd K 11) ["coins", "many", "begin", "step"] []
  g_wrong_coins : mg "wrong_coins" = some (.ref (ad K 11))
  F_best_round : FunD K "best_round" "best_round" (defArgs s_best_round) (defBody s_best_round) (defScope s_best_round) [] [] (ad K 12) (fd K 12)
  b_best_round : Binds K (fd K 12) ["coins", "many"] []
  g_best_round : mg "best_round" = some (.ref (ad K 12))
  F_accept_round : FunD K "accept_round" "accept_round" (defArgs s_accept_round) (defBody s_accept_round) (defScope s_accept_round) [] [] (ad K 13) (fd K 13)
  b_accept_round : Binds K (fd K 13) ["coins", "many", "begin", "step", "wrong"] []
  g_accept_round : mg "accept_round" = some (.ref (ad K 13))
  F_accept_against : FunD K "accept_against" "accept_against" (defArgs s_accept_against) (defBody s_accept_against) (defScope s_accept_against) [] [] (ad K 14) (fd K 14)
  b_accept_against : Binds K (fd K 14) ["coins", "many", "three"] []
  g_accept_against : mg "accept_against" = some (.ref (ad K 14))
  F_missing_marks : FunD K "missing_marks" "missing_marks" (defArgs s_missing_marks) (defBody s_missing_marks) (defScope s_missing_marks) [] [] (ad K 15) (fd K 15)
  b_missing_marks : Binds K (fd K 15) ["coins", "many"] []
  g_missing_marks : mg "missing_marks" = some (.ref (ad K 15))
  F_years_of : FunD K "years_of" "years_of" (defArgs s_years_of) (defBody s_years_of) (defScope s_years_of) [] [] (ad K 16) (fd K 16)
  b_years_of : Binds K (fd K 16) ["many", "begin", "step", "mark", "first", "last"] []
  g_years_of : mg "years_of" = some (.ref (ad K 16))
  F_goes_round : FunD K "goes_round" "goes_round" (defArgs s_goes_round) (defBody s_goes_round) (defScope s_goes_round) [] [] (ad K 17) (fd K 17)
  b_goes_round : Binds K (fd K 17) ["many", "step"] []
  g_goes_round : mg "goes_round" = some (.ref (ad K 17))
  F_year_left : FunD K "year_left" "year_left" (defArgs s_year_left) (defBody s_year_left) (defScope s_year_left) [] [] (ad K 18) (fd K 18)
  b_year_left : Binds K (fd K 18) ["many", "begin", "step", "marks"] []
  g_year_left : mg "year_left" = some (.ref (ad K 18))
  F__law_start : FunD K "_law_start" "_law_start" (defArgs s__law_start) (defBody s__law_start) (defScope s__law_start) [] [] (ad K 19) (fd K 19)
  b__law_start : Binds K (fd K 19) ["script"] []
  g__law_start : mg "_law_start" = some (.ref (ad K 19))
  F__law_draw : FunD K "_law_draw" "_law_draw" (defArgs s__law_draw) (defBody s__law_draw) (defScope s__law_draw) [] [] (ad K 20) (fd K 20)
  b__law_draw : Binds K (fd K 20) ["state", "many"] []
  g__law_draw : mg "_law_draw" = some (.ref (ad K 20))
  F__law_pick : FunD K "_law_pick" "_law_pick" (defArgs s__law_pick) (defBody s__law_pick) (defScope s__law_pick) [] [] (ad K 21) (fd K 21)
  b__law_pick : Binds K (fd K 21) ["state", "some"] []
  g__law_pick : mg "_law_pick" = some (.ref (ad K 21))
  F__law_same : FunD K "_law_same" "_law_same" (defArgs s__law_same) (defBody s__law_same) (defScope s__law_same) [] [] (ad K 22) (fd K 22)
  b__law_same : Binds K (fd K 22) ["actual", "due"] []
  g__law_same : mg "_law_same" = some (.ref (ad K 22))
  F__law_word : FunD K "_law_word" "_law_word" (defArgs s__law_word) (defBody s__law_word) (defScope s__law_word) [] [] (ad K 23) (fd K 23)
  b__law_word : Binds K (fd K 23) ["error"] []
  g__law_word : mg "_law_word" = some (.ref (ad K 23))
  F__law_asked : FunD K "_law_asked" "_law_asked" (defArgs s__law_asked) (defBody s__law_asked) (defScope s__law_asked) [] [] (ad K 24) (fd K 24)
  b__law_asked : Binds K (fd K 24) ["way", "some"] []
  g__law_asked : mg "_law_asked" = some (.ref (ad K 24))
  F__law_shown : FunD K "_law_shown" "_law_shown" (defArgs s__law_shown) (defBody s__law_shown) (defScope s__law_shown) [] [] (ad K 25) (fd K 25)
  b__law_shown : Binds K (fd K 25) ["way", "ahead", "papers"] []
  g__law_shown : mg "_law_shown" = some (.ref (ad K 25))
  F__law_mark : FunD K "_law_mark" "_law_mark" (defArgs s__law_mark) (defBody s__law_mark) (defScope s__law_mark) [] [] (ad K 26) (fd K 26)
  b__law_mark : Binds K (fd K 26) ["many", "begin", "step", "year"] []
  g__law_mark : mg "_law_mark" = some (.ref (ad K 26))
  F__law_coins : FunD K "_law_coins" "_law_coins" (defArgs s__law_coins) (defBody s__law_coins) (defScope s__law_coins) [] [] (ad K 27) (fd K 27)
  b__law_coins : Binds K (fd K 27) ["state", "many", "begin", "step", "size"] []
  g__law_coins : mg "_law_coins" = some (.ref (ad K 27))
  F__law_wrong : FunD K "_law_wrong" "_law_wrong" (defArgs s__law_wrong) (defBody s__law_wrong) (defScope s__law_wrong) [] [] (ad K 28) (fd K 28)
  b__law_wrong : Binds K (fd K 28) ["coins", "many", "begin", "step"] []
  g__law_wrong : mg "_law_wrong" = some (.ref (ad K 28))
  F__law_rounds : FunD K "_law_rounds" "_law_rounds" (defArgs s__law_rounds) (defBody s__law_rounds) (defScope s__law_rounds) [] [] (ad K 29) (fd K 29)
  b__law_rounds : Binds K (fd K 29) ["coins", "many"] []
  g__law_rounds : mg "_law_rounds" = some (.ref (ad K 29))
  F__law_against_holds : FunD K "_law_against_holds" "_law_against_holds" (defArgs s__law_against_holds) (defBody s__law_against_holds) (defScope s__law_against_holds) [] [] (ad K 31) (fd K 31)
  b__law_against_holds : Binds K (fd K 31) ["state", "coins", "many", "good"] []
  g__law_against_holds : mg "_law_against_holds" = some (.ref (ad K 31))
  F__law_rounds_hold : FunD K "_law_rounds_hold" "_law_rounds_hold" (defArgs s__law_rounds_hold) (defBody s__law_rounds_hold) (defScope s__law_rounds_hold) [] [] (ad K 30) (fd K 30)
  b__law_rounds_hold : Binds K (fd K 30) ["state"] []
  g__law_rounds_hold : mg "_law_rounds_hold" = some (.ref (ad K 30))
  F__law_years_hold : FunD K "_law_years_hold" "_law_years_hold" (defArgs s__law_years_hold) (defBody s__law_years_hold) (defScope s__law_years_hold) [] [] (ad K 32) (fd K 32)
  b__law_years_hold : Binds K (fd K 32) ["state"] []
  g__law_years_hold : mg "_law_years_hold" = some (.ref (ad K 32))
  F__law_great_holds : FunD K "_law_great_holds" "_law_great_holds" (defArgs s__law_great_holds) (defBody s__law_great_holds) (defScope s__law_great_holds) [] [] (ad K 33) (fd K 33)
  b__law_great_holds : Binds K (fd K 33) ["state"] []
  g__law_great_holds : mg "_law_great_holds" = some (.ref (ad K 33))
  F_law : FunD K "law" "law" (defArgs s_law) (defBody s_law) (defScope s_law) [] [] (ad K 34) (fd K 34)
  b_law : Binds K (fd K 34) ["script"] []
  g_law : mg "law" = some (.ref (ad K 34))
  c_MAX_MARKS : ∃ t, mg "MAX_MARKS" = some (.int 26 t)
  c_MAX_YEARS : ∃ t, mg "MAX_YEARS" = some (.int 5000 t)
  c_MAX_COINS : ∃ t, mg "MAX_COINS" = some (.int 60 t)
  z_isinstance : mg "isinstance" = none
  z_bool : mg "bool" = none
  z_int : mg "int" = none
  z_all : mg "all" = none
  z_len : mg "len" = none
  z_tuple : mg "tuple" = none
  z_super : mg "super" = none
  z_range : mg "range" = none
  z_enumerate : mg "enumerate" = none
  z_min : mg "min" = none
  z_sorted : mg "sorted" = none
  z_list : mg "list" = none
  z_abs : mg "abs" = none
  z_repr : mg "repr" = none
  z_max : mg "max" = none
  z_set : mg "set" = none
  z_str : mg "str" = none
  htop : (P.main.scope.names.lookup ("super" : Str)).isSome = false
  x_FindError : mg "FindError" = some (.ref (caK K 0))
  x_ArgumentError : mg "ArgumentError" = some (.ref (caK K 1))
  x_PaperError : mg "PaperError" = some (.ref (caK K 2))
  x_TooMany : mg "TooMany" = some (.ref (caK K 3))
  x_TextError : mg "TextError" = some (.ref (caK K 4))
  x_CabinetError : mg "CabinetError" = some (.ref (caK K 5))
  e_FindError : ErrC K P.main.file (caK K 0) (fldN 0)
  e_ArgumentError : ErrC K P.main.file (caK K 1) (fldN 1)
  e_PaperError : ErrC K P.main.file (caK K 2) (fldN 2)
  wd : WordK K mg (caK K)
  exm : ∀ j, j < 4 → PySem.W.exmOne K (.ref (caK K j)) (.ref (caK K 5)) = some true
section
variable {P : Program} {w : World} {K : PySem.W.Frag} {mg : Str → Option Value} {base : Heap}
abbrev cn (K : PySem.W.Frag) : Cn := ⟨fun n => some (ad K n), caK K, fldN⟩
theorem ok_is_integer (T : Tx P K mg) : FnG P w K mg base (L2.CX P w) 2 (ad K 0) (fd K 0) ["value"] (spM K (cn K) m_is_integer) :=
  fn_miniDD T.F_is_integer sc_is_integer fun cdv A outer s H E hr gd => (ms_one (ms_ret (me_and (me_isi' (T := "int") T.z_isinstance T.z_int (b_of (me_varL (i := 0)))) (me_one (me_not (b_of (me_isi' (T := "bool") T.z_isinstance T.z_bool (b_of (me_varL (i := 0))))))))))
theorem ok_is_coin (T : Tx P K mg) : FnG P w K mg base (L2.CX P w) 3 (ad K 2) (fd K 2) ["value"] (spM K (cn K) m_is_coin) :=
  fn_miniDD T.F_is_coin sc_is_coin fun cdv A outer s H E hr gd => (ms_cons (ms_if (PW.pt (mw_or (mt_not (mt_tru' (b_of (me_isi' (T := "tuple") T.z_isinstance T.z_tuple (b_of (me_varL (i := 0))))))) (mw_or (mt_cmp (op_neD hr.units) m_ne (b_of (me_bl1' cr_lenAll u_len T.z_len (b_of (me_varL (i := 0))))) (b_of me_int) (nomark _)) (mw_or1 (mt_not (mt_tru' (b_of (me_bl1' (cr_all rfl) u_all T.z_all (b_ofO (me_lc rfl sc_is_coin.nd (mi_seq (me_varL (i := 0))) (blk_ok (own := [("own", 1)]) (by kernel_rfl)) (fun _ _ _ _ _ => (mg_nameL (i := 1) sc_is_coin.nd)) (fun _ _ _ _ _ => mts_nil) (fun _ _ _ _ _ => (me_call' (ok_is_integer T) (hr.mono (by decide)) gd T.g_is_integer T.F_is_integer.kp T.b_is_integer passL (ma_cons' (me_varL (i := 1)) ma_nil))))))))))))) (ms_one (ms_ret me_bl)) ms_nil)
  (ms_one (ms_ret (me_and (me_chain op_leAll op_leAll m_leAll m_leAll (b_of (me_un un_neg un_negM (b_of (me_gint' T.c_MAX_YEARS)))) (b_of (me_ix (ix_all hr) m_ixAll (b_of (me_varL (i := 0))) (b_of me_int) (fun _ _ => rfl))) (b_of (me_gint' T.c_MAX_YEARS))) (me_one (me_chain op_leAll op_ltAll m_leAll m_ltAll (b_of me_int) (b_of (me_ix (ix_all hr) m_ixAll (b_of (me_varL (i := 0))) (b_of me_int) (fun _ _ => rfl))) (b_of (me_gint' T.c_MAX_MARKS))))))))
theorem ok_check_coins (T : Tx P K mg) : FnG P w K mg base (L2.CX P w) 4 (ad K 1) (fd K 1) ["coins"] (spM K (cn K) m_check_coins) :=
  fn_miniDD T.F_check_coins sc_check_coins fun cdv A outer s H E hr gd => (ms_cons (ms_if (PW.pt (mw_or (mt_not (mt_tru' (b_of (me_isi' (T := "tuple") T.z_isinstance T.z_tuple (b_of (me_varC (i := 0))))))) (mw_or (mt_cmp op_gtAll m_gtAll (b_of (me_bl1' cr_lenAll u_len T.z_len (b_of (me_varC (i := 0))))) (b_of (me_gint' T.c_MAX_COINS)) (nomark _)) (mw_or1 (mt_not (mt_tru' (b_of (me_bl1' (cr_all rfl) u_all T.z_all (b_ofO (me_lc rfl sc_check_coins.nd (mi_seq (me_varC (i := 0))) (blk_ok (own := [("own", 2)]) (by kernel_rfl)) (fun _ _ _ _ _ => (mg_nameL (i := 2) sc_check_coins.nd)) (fun _ _ _ _ _ => mts_nil) (fun _ _ _ _ _ => (me_call' (ok_is_coin T) (hr.mono (by decide)) gd T.g_is_coin T.F_is_coin.kp T.b_is_coin passL (ma_cons' (me_varL (i := 2)) ma_nil))))))))))))) (ms_one (ms_raise' T.e_FindError T.htop (hr.mono (by decide)) rfl tk_body T.x_FindError T.z_super me_str)) ms_nil)
  (ms_one (ms_if (mt_tru' (b_ofO (me_lc rfl sc_check_coins.nd (mi_rng1' T.z_range (me_bin op_sub m_sub (b_of (me_bl1' cr_lenAll u_len T.z_len (b_of (me_varC (i := 0))))) (b_of me_int))) (blk_ok (own := [("at", 1)]) (by kernel_rfl)) (fun _ _ _ _ _ => (mg_nameL (i := 1) sc_check_coins.nd)) (fun _ _ _ _ _ => (mts_one (mt_cmp op_gtAll m_gtAll (b_of (me_ix (ix_all hr) m_ixAll (b_of (me_ix (ix_all hr) m_ixAll (b_of (me_varC (i := 0))) (b_of (me_varL (i := 1))) (fun _ _ => rfl))) (b_of me_int) (fun _ _ => rfl))) (b_of (me_ix (ix_all hr) m_ixAll (b_of (me_ix (ix_all hr) m_ixAll (b_of (me_varC (i := 0))) (b_of (me_bin op_addAll m_add (b_of (me_varL (i := 1))) (b_of me_int))) (fun _ _ => rfl))) (b_of me_int) (fun _ _ => rfl))) (nomark _)))) (fun _ _ _ _ _ => me_int)))) (ms_one (ms_raise' T.e_FindError T.htop (hr.mono (by decide)) rfl tk_body T.x_FindError T.z_super me_str)) ms_nil)))
theorem ok_check_many (T : Tx P K mg) : FnG P w K mg base (L2.CX P w) 3 (ad K 3) (fd K 3) ["many"] (spM K (cn K) m_check_many) :=
  fn_miniDD T.F_check_many sc_check_many fun cdv A outer s H E hr gd => (ms_one (ms_if (PW.pt (mw_or (mt_not (mt_tru' (b_of (me_call' (ok_is_integer T) (hr.mono (by decide)) gd T.g_is_integer T.F_is_integer.kp T.b_is_integer ps_body (ma_cons' (me_varL (i := 0)) ma_nil))))) (mw_or1 (mt_not (mt_chain op_leAll op_leAll m_leAll m_leAll (b_of me_int) (b_of (me_varL (i := 0))) (b_of (me_gint' T.c_MAX_MARKS))))))) (ms_one (ms_raise' T.e_ArgumentError T.htop (hr.mono (by decide)) rfl tk_body T.x_ArgumentError T.z_super me_str)) ms_nil))
theorem ok_mark_in (T : Tx P K mg) : FnG P w K mg base (L2.CX P w) 2 (ad K 4) (fd K 4) ["many", "begin", "step", "year"] (spM K (cn K) m_mark_in) :=
  fn_miniDD T.F_mark_in sc_mark_in fun cdv A outer s H E hr gd => (ms_one (ms_ret (me_bin op_mod m_mod (b_of (me_bin op_addAll m_add (b_of (me_varL (i := 1))) (b_of (me_bin op_mulAll m_mulAll (b_of (me_varL (i := 2))) (b_of (me_varL (i := 3))))))) (b_of (me_varL (i := 0))))))
theorem ok_rounds_for (T : Tx P K mg) : FnG P w K mg base (L2.CX P w) 5 (ad K 5) (fd K 5) ["coins", "many"] (spM K (cn K) m_rounds_for) :=
  fn_miniDD T.F_rounds_for sc_rounds_for fun cdv A outer s H E hr gd => (ms_cons (ms_expr (me_call' (ok_check_coins T) (hr.mono (by decide)) gd T.g_check_coins T.F_check_coins.kp T.b_check_coins ps_body (ma_cons' (me_varL (i := 0)) ma_nil)))
  (ms_cons (ms_expr (me_call' (ok_check_many T) (hr.mono (by decide)) gd T.g_check_many T.F_check_many.kp T.b_check_many ps_body (ma_cons' (me_varC (i := 1)) ma_nil)))
  (ms_cons (ms_if (mt_tru' (b_ofO (me_lc rfl sc_rounds_for.nd (mi_seq (me_varL (i := 0))) (blk_ok (own := [("year", 5), ("mark", 6)]) (by kernel_rfl)) (fun _ _ _ _ _ => (mg_tupX rfl (mgs_cons' (mg_nameL (i := 5) sc_rounds_for.nd) (mgs_cons' (mg_nameL (i := 6) sc_rounds_for.nd) mgs_nil)))) (fun _ _ _ _ _ => (mts_one (mt_cmp op_geAll m_geAll (b_of (me_varL (i := 6))) (b_of (me_varC (i := 1))) (nomark _)))) (fun _ _ _ _ _ => (me_varL (i := 6)))))) (ms_one (ms_ret (me_tup ma_nil))) ms_nil)
  (ms_cons (ms_setOL (i := 2) sc_rounds_for.nd (me_lst ma_nil))
  (ms_cons (ms_for (us := [3]) ps_own rfl (mi_rng1' T.z_range (me_varC (i := 1))) (mg_nameC (i := 3) sc_rounds_for.nd) (ms_one (ms_for (us := [4]) ps_own rfl (mi_rng1' T.z_range (me_varC (i := 1))) (mg_nameC (i := 4) sc_rounds_for.nd) (ms_one (ms_if (mt_not (mt_tru' (b_ofO (me_lc rfl sc_rounds_for.nd (mi_seq (me_varL (i := 0))) (blk_ok (own := [("year", 5), ("mark", 6)]) (by kernel_rfl)) (fun _ _ _ _ _ => (mg_tupX rfl (mgs_cons' (mg_nameL (i := 5) sc_rounds_for.nd) (mgs_cons' (mg_nameL (i := 6) sc_rounds_for.nd) mgs_nil)))) (fun _ _ _ _ _ => (mts_one (mt_cmp (op_neD hr.units) m_ne (b_of (me_call' (ok_mark_in T) (hr.mono (by decide)) gd T.g_mark_in T.F_mark_in.kp T.b_mark_in passL (ma_cons' (me_varC (i := 1)) (ma_cons' (me_varC (i := 3)) (ma_cons' (me_varC (i := 4)) (ma_cons' (me_varL (i := 5)) ma_nil)))))) (b_of (me_varL (i := 6))) (nomark _)))) (fun _ _ _ _ _ => me_int))))) (ms_one (ms_appL (i := 2) (me_tup (ma_cons' (me_varC (i := 3)) (ma_cons' (me_varC (i := 4)) ma_nil))))) ms_nil)))))
  (ms_one (ms_ret (me_ty1' call_tuple_of u_tuple T.z_tuple (me_varBL (i := 2))))))))))
theorem ok_judge_rounds (T : Tx P K mg) : FnG P w K mg base (L2.CX P w) 6 (ad K 6) (fd K 6) ["coins", "many"] (spM K (cn K) m_judge_rounds) :=
  fn_miniDD T.F_judge_rounds sc_judge_rounds fun cdv A outer s H E hr gd => (ms_cons (ms_setL (i := 2) sc_judge_rounds.nd (me_call' (ok_rounds_for T) (hr.mono (by decide)) gd T.g_rounds_for T.F_rounds_for.kp T.b_rounds_for ps_body (ma_cons' (me_varL (i := 0)) (ma_cons' (me_varL (i := 1)) ma_nil))))
  (ms_cons (ms_if (mt_cmp (op_eqD hr.units) m_eq (b_of (me_bl1' cr_lenAll u_len T.z_len (b_of (me_varL (i := 2))))) (b_of me_int) (nomark _)) (ms_one (ms_ret (me_bin op_addAll m_add (b_of (me_tup (ma_cons' me_str ma_nil))) (b_of (me_ix (ix_all hr) m_ixAll (b_of (me_varL (i := 2))) (b_of me_int) (fun _ _ => rfl)))))) ms_nil)
  (ms_one (ms_ret (me_ite (mt_tru' (b_of (me_varL (i := 2)))) (me_tup (ma_cons' me_str (ma_cons' (me_varL (i := 2)) ma_nil))) (me_tup (ma_cons' me_str ma_nil)))))))
theorem ok_fewest_marks (T : Tx P K mg) : FnG P w K mg base (L2.CX P w) 6 (ad K 7) (fd K 7) ["coins"] (spM K (cn K) m_fewest_marks) :=
  fn_miniDD T.F_fewest_marks sc_fewest_marks fun cdv A outer s H E hr gd => (ms_cons (ms_expr (me_call' (ok_check_coins T) (hr.mono (by decide)) gd T.g_check_coins T.F_check_coins.kp T.b_check_coins ps_body (ma_cons' (me_varL (i := 0)) ma_nil)))
  (ms_cons (ms_for (us := [1]) ps_own rfl (mi_rng2' T.z_range me_int (me_bin op_addAll m_add (b_of (me_gint' T.c_MAX_MARKS)) (b_of me_int))) (mg_nameL (i := 1) sc_fewest_marks.nd) (ms_one (ms_if (mt_tru' (b_of (me_call' (ok_rounds_for T) (hr.mono (by decide)) gd T.g_rounds_for T.F_rounds_for.kp T.b_rounds_for ps_body (ma_cons' (me_varL (i := 0)) (ma_cons' (me_varL (i := 1)) ma_nil))))) (ms_one (ms_ret (me_varL (i := 1)))) ms_nil)))
  (ms_one (ms_ret me_non))))
theorem ok_check_round (T : Tx P K mg) : FnG P w K mg base (L2.CX P w) 3 (ad K 9) (fd K 9) ["many", "begin", "step"] (spM K (cn K) m_check_round) :=
  fn_miniDD T.F_check_round sc_check_round fun cdv A outer s H E hr gd => (ms_one (ms_for (us := [3, 4]) ps_own rfl (mi_seq (me_tup (ma_cons' (me_tup (ma_cons' me_str (ma_cons' (me_varL (i := 1)) ma_nil))) (ma_cons' (me_tup (ma_cons' me_str (ma_cons' (me_varL (i := 2)) ma_nil))) ma_nil)))) (mg_tupX rfl (mgs_cons' (mg_nameL (i := 3) sc_check_round.nd) (mgs_cons' (mg_nameL (i := 4) sc_check_round.nd) mgs_nil))) (ms_one (ms_if (PW.pt (mw_or (mt_not (mt_tru' (b_of (me_call' (ok_is_integer T) (hr.mono (by decide)) gd T.g_is_integer T.F_is_integer.kp T.b_is_integer ps_body (ma_cons' (me_varL (i := 4)) ma_nil))))) (mw_or1 (mt_not (mt_chain op_leAll op_ltAll m_leAll m_ltAll (b_of me_int) (b_of (me_varL (i := 4))) (b_of (me_varL (i := 0)))))))) (ms_one (ms_raise' T.e_ArgumentError T.htop (hr.mono (by decide)) rfl tk_body T.x_ArgumentError T.z_super (me_varL (i := 3)))) ms_nil))))
theorem ok_check_span (T : Tx P K mg) : FnG P w K mg base (L2.CX P w) 3 (ad K 10) (fd K 10) ["first", "last"] (spM K (cn K) m_check_span) :=
  fn_miniDD T.F_check_span sc_check_span fun cdv A outer s H E hr gd => (ms_cons (ms_for (us := [2, 3]) ps_own rfl (mi_seq (me_tup (ma_cons' (me_tup (ma_cons' me_str (ma_cons' (me_varL (i := 0)) ma_nil))) (ma_cons' (me_tup (ma_cons' me_str (ma_cons' (me_varL (i := 1)) ma_nil))) ma_nil)))) (mg_tupX rfl (mgs_cons' (mg_nameL (i := 2) sc_check_span.nd) (mgs_cons' (mg_nameL (i := 3) sc_check_span.nd) mgs_nil))) (ms_one (ms_if (PW.pt (mw_or (mt_not (mt_tru' (b_of (me_call' (ok_is_integer T) (hr.mono (by decide)) gd T.g_is_integer T.F_is_integer.kp T.b_is_integer ps_body (ma_cons' (me_varL (i := 3)) ma_nil))))) (mw_or1 (mt_not (mt_chain op_leAll op_leAll m_leAll m_leAll (b_of (me_un un_neg un_negM (b_of (me_gint' T.c_MAX_YEARS)))) (b_of (me_varL (i := 3))) (b_of (me_gint' T.c_MAX_YEARS))))))) (ms_one (ms_raise' T.e_ArgumentError T.htop (hr.mono (by decide)) rfl tk_body T.x_ArgumentError T.z_super (me_varL (i := 2)))) ms_nil)))
  (ms_one (ms_if (mt_cmp op_ltAll m_ltAll (b_of (me_varL (i := 1))) (b_of (me_varL (i := 0))) (nomark _)) (ms_one (ms_raise' T.e_ArgumentError T.htop (hr.mono (by decide)) rfl tk_body T.x_ArgumentError T.z_super me_str)) ms_nil)))
theorem ok_marks_shown (T : Tx P K mg) : FnG P w K mg base (L2.CX P w) 4 (ad K 8) (fd K 8) ["many", "begin", "step", "first", "last"] (spM K (cn K) m_marks_shown) :=
  fn_miniDD T.F_marks_shown sc_marks_shown fun cdv A outer s H E hr gd => (ms_cons (ms_expr (me_call' (ok_check_many T) (hr.mono (by decide)) gd T.g_check_many T.F_check_many.kp T.b_check_many ps_body (ma_cons' (me_varC (i := 0)) ma_nil)))
  (ms_cons (ms_expr (me_call' (ok_check_round T) (hr.mono (by decide)) gd T.g_check_round T.F_check_round.kp T.b_check_round ps_body (ma_cons' (me_varC (i := 0)) (ma_cons' (me_varC (i := 1)) (ma_cons' (me_varC (i := 2)) ma_nil)))))
  (ms_cons (ms_expr (me_call' (ok_check_span T) (hr.mono (by decide)) gd T.g_check_span T.F_check_span.kp T.b_check_span ps_body (ma_cons' (me_varL (i := 3)) (ma_cons' (me_varL (i := 4)) ma_nil))))
  (ms_one (ms_ret (me_ty1' call_tuple_of u_tuple T.z_tuple (b_ofO (me_lc rfl sc_marks_shown.nd (mi_rng2' T.z_range (me_varL (i := 3)) (me_bin op_addAll m_add (b_of (me_varL (i := 4))) (b_of me_int))) (blk_ok (own := [("year", 5)]) (by kernel_rfl)) (fun _ _ _ _ _ => (mg_nameL (i := 5) sc_marks_shown.nd)) (fun _ _ _ _ _ => mts_nil) (fun _ _ _ _ _ => (me_call' (ok_mark_in T) (hr.mono (by decide)) gd T.g_mark_in T.F_mark_in.kp T.b_mark_in passL (ma_cons' (me_varC (i := 0)) (ma_cons' (me_varC (i := 1)) (ma_cons' (me_varC (i := 2)) (ma_cons' (me_varL (i := 5)) ma_nil))))))))))))))
theorem ok_wrong_coins (T : Tx P K mg) : FnG P w K mg base (L2.CX P w) 5 (ad K 11) (fd K 11) ["coins", "many", "begin", "step"] (spM K (cn K) m_wrong_coins) :=
  fn_miniDD T.F_wrong_coins sc_wrong_coins fun cdv A outer s H E hr gd => (ms_cons (ms_expr (me_call' (ok_check_coins T) (hr.mono (by decide)) gd T.g_check_coins T.F_check_coins.kp T.b_check_coins ps_body (ma_cons' (me_varL (i := 0)) ma_nil)))
  (ms_cons (ms_expr (me_call' (ok_check_many T) (hr.mono (by decide)) gd T.g_check_many T.F_check_many.kp T.b_check_many ps_body (ma_cons' (me_varC (i := 1)) ma_nil)))
  (ms_cons (ms_expr (me_call' (ok_check_round T) (hr.mono (by decide)) gd T.g_check_round T.F_check_round.kp T.b_check_round ps_body (ma_cons' (me_varC (i := 1)) (ma_cons' (me_varC (i := 2)) (ma_cons' (me_varC (i := 3)) ma_nil)))))
  (ms_enum2' (i := 4) (j := 0) sc_wrong_coins.nd T.z_enumerate (me_tyE' call_tuple_of u_tuple T.z_tuple (me_lcE' rfl sc_wrong_coins.nd  (blk_ok (own := [("at", 5), ("year", 6), ("mark", 7)]) (by kernel_rfl)) (fun _ _ _ _ _ => (mg_tupX rfl (mgs_cons' (mg_nameL (i := 5) sc_wrong_coins.nd) (mgs_cons' (mg_tupX rfl (mgs_cons' (mg_nameL (i := 6) sc_wrong_coins.nd) (mgs_cons' (mg_nameL (i := 7) sc_wrong_coins.nd) mgs_nil))) mgs_nil)))) (fun _ _ _ _ _ => (mts_one (mt_cmp (op_neD hr.units) m_ne (b_of (me_call' (ok_mark_in T) (hr.mono (by decide)) gd T.g_mark_in T.F_mark_in.kp T.b_mark_in passL (ma_cons' (me_varC (i := 1)) (ma_cons' (me_varC (i := 2)) (ma_cons' (me_varC (i := 3)) (ma_cons' (me_varL (i := 6)) ma_nil)))))) (b_of (me_varL (i := 7))) (nomark _)))) (fun _ _ _ _ _ => (me_varL (i := 5)))))))))
theorem ok_best_round (T : Tx P K mg) : FnG P w K mg base (L2.CX P w) 5 (ad K 12) (fd K 12) ["coins", "many"] (spM K (cn K) m_best_round) :=
  fn_miniDD T.F_best_round sc_best_round fun cdv A outer s H E hr gd => (ms_cons (ms_expr (me_call' (ok_check_coins T) (hr.mono (by decide)) gd T.g_check_coins T.F_check_coins.kp T.b_check_coins ps_body (ma_cons' (me_varL (i := 0)) ma_nil)))
  (ms_cons (ms_expr (me_call' (ok_check_many T) (hr.mono (by decide)) gd T.g_check_many T.F_check_many.kp T.b_check_many ps_body (ma_cons' (me_varC (i := 1)) ma_nil)))
  (ms_cons (ms_setOL (i := 2) sc_best_round.nd (me_lst ma_nil))
  (ms_cons (ms_for (us := [3]) ps_own rfl (mi_rng1' T.z_range (me_varC (i := 1))) (mg_nameC (i := 3) sc_best_round.nd) (ms_one (ms_for (us := [4]) ps_own rfl (mi_rng1' T.z_range (me_varC (i := 1))) (mg_nameC (i := 4) sc_best_round.nd) (ms_cons (ms_setLc (i := 5) rfl sc_best_round.nd rfl (by kernel_rfl) (sw_t rfl (by kernel_rfl) rfl (by kernel_rfl)) (mi_seq (me_varL (i := 0))) (blk_ok (own := [("year", 6), ("mark", 7)]) (by kernel_rfl)) (fun _ _ _ _ _ => (mg_tupX rfl (mgs_cons' (mg_nameL (i := 6) sc_best_round.nd) (mgs_cons' (mg_nameL (i := 7) sc_best_round.nd) mgs_nil)))) (fun _ _ _ _ _ => (mts_one (mt_cmp (op_neD hr.units) m_ne (b_of (me_call' (ok_mark_in T) (hr.mono (by decide)) gd T.g_mark_in T.F_mark_in.kp T.b_mark_in passL (ma_cons' (me_varC (i := 1)) (ma_cons' (me_varC (i := 3)) (ma_cons' (me_varC (i := 4)) (ma_cons' (me_varL (i := 6)) ma_nil)))))) (b_of (me_varL (i := 7))) (nomark _)))) (fun _ _ _ _ _ => me_int))
  (ms_one (ms_appL (i := 2) (me_tup (ma_cons' (me_bl1' cr_lenAll u_len T.z_len (b_of (me_varL (i := 5)))) (ma_cons' (me_varC (i := 3)) (ma_cons' (me_varC (i := 4)) ma_nil))))))))))
  (ms_one (ms_ret (me_bl1' (cr_minY hr rfl) u_minY T.z_min (me_varBL (i := 2)))))))))
theorem ok_accept_round (T : Tx P K mg) : FnG P w K mg base (L2.CX P w) 5 (ad K 13) (fd K 13) ["coins", "many", "begin", "step", "wrong"] (spM K (cn K) m_accept_round) :=
  fn_miniDD T.F_accept_round sc_accept_round fun cdv A outer s H E hr gd => (ms_cons (ms_expr (me_call' (ok_check_coins T) (hr.mono (by decide)) gd T.g_check_coins T.F_check_coins.kp T.b_check_coins ps_body (ma_cons' (me_varL (i := 0)) ma_nil)))
  (ms_cons (ms_expr (me_call' (ok_check_many T) (hr.mono (by decide)) gd T.g_check_many T.F_check_many.kp T.b_check_many ps_body (ma_cons' (me_varC (i := 1)) ma_nil)))
  (ms_cons (ms_if (PW.pt (mw_or (mt_not (mt_tru' (b_of (me_bl1' (cr_all rfl) u_all T.z_all (b_ofO (me_lc rfl sc_accept_round.nd (mi_seq (me_tup (ma_cons' (me_varC (i := 2)) (ma_cons' (me_varC (i := 3)) ma_nil)))) (blk_ok (own := [("own", 5)]) (by kernel_rfl)) (fun _ _ _ _ _ => (mg_nameL (i := 5) sc_accept_round.nd)) (fun _ _ _ _ _ => mts_nil) (fun _ _ _ _ _ => (me_and (me_call' (ok_is_integer T) (hr.mono (by decide)) gd T.g_is_integer T.F_is_integer.kp T.b_is_integer passL (ma_cons' (me_varL (i := 5)) ma_nil)) (me_one (me_chain op_leAll op_ltAll m_leAll m_ltAll (b_of me_int) (b_of (me_varL (i := 5))) (b_of (me_varC (i := 1))))))))))))) (mw_or1 (mt_not (mt_tru' (b_of (me_call' (ok_is_integer T) (hr.mono (by decide)) gd T.g_is_integer T.F_is_integer.kp T.b_is_integer ps_body (ma_cons' (me_varL (i := 4)) ma_nil)))))))) (ms_one (ms_raise' T.e_PaperError T.htop (hr.mono (by decide)) rfl tk_body T.x_PaperError T.z_super me_str)) ms_nil)
  (ms_one (ms_if (mt_cmp op_gtAll m_gtAll (b_of (me_bl1' cr_lenAll u_len T.z_len (b_ofO (me_lc rfl sc_accept_round.nd (mi_seq (me_varL (i := 0))) (blk_ok (own := [("year", 6), ("mark", 7)]) (by kernel_rfl)) (fun _ _ _ _ _ => (mg_tupX rfl (mgs_cons' (mg_nameL (i := 6) sc_accept_round.nd) (mgs_cons' (mg_nameL (i := 7) sc_accept_round.nd) mgs_nil)))) (fun _ _ _ _ _ => (mts_one (mt_cmp (op_neD hr.units) m_ne (b_of (me_call' (ok_mark_in T) (hr.mono (by decide)) gd T.g_mark_in T.F_mark_in.kp T.b_mark_in passL (ma_cons' (me_varC (i := 1)) (ma_cons' (me_varC (i := 2)) (ma_cons' (me_varC (i := 3)) (ma_cons' (me_varL (i := 6)) ma_nil)))))) (b_of (me_varL (i := 7))) (nomark _)))) (fun _ _ _ _ _ => me_int))))) (b_of (me_varL (i := 4))) (nomark _)) (ms_one (ms_raise' T.e_PaperError T.htop (hr.mono (by decide)) rfl tk_body T.x_PaperError T.z_super me_str)) ms_nil)))))
theorem ok_accept_against (T : Tx P K mg) : FnG P w K mg base (L2.CX P w) 6 (ad K 14) (fd K 14) ["coins", "many", "three"] (spM K (cn K) m_accept_against) :=
  fn_miniDD T.F_accept_against sc_accept_against fun cdv A outer s H E hr gd => (ms_cons (ms_expr (me_call' (ok_check_coins T) (hr.mono (by decide)) gd T.g_check_coins T.F_check_coins.kp T.b_check_coins ps_body (ma_cons' (me_varC (i := 0)) ma_nil)))
  (ms_cons (ms_expr (me_call' (ok_check_many T) (hr.mono (by decide)) gd T.g_check_many T.F_check_many.kp T.b_check_many ps_body (ma_cons' (me_varL (i := 1)) ma_nil)))
  (ms_cons (ms_if (PW.pt (mw_or (mt_not (mt_tru' (b_of (me_isi' (T := "tuple") T.z_isinstance T.z_tuple (b_of (me_varL (i := 2))))))) (mw_or1 (mt_not (mt_chain op_leAll op_leAll m_leAll m_leAll (b_of me_int) (b_of (me_bl1' cr_lenAll u_len T.z_len (b_of (me_varL (i := 2))))) (b_of me_int)))))) (ms_one (ms_raise' T.e_PaperError T.htop (hr.mono (by decide)) rfl tk_body T.x_PaperError T.z_super me_str)) ms_nil)
  (ms_cons (ms_if (mt_not (mt_tru' (b_of (me_bl1' (cr_all rfl) u_all T.z_all (b_ofO (me_lc rfl sc_accept_against.nd (mi_seq (me_varL (i := 2))) (blk_ok (own := [("at", 3)]) (by kernel_rfl)) (fun _ _ _ _ _ => (mg_nameL (i := 3) sc_accept_against.nd)) (fun _ _ _ _ _ => mts_nil) (fun _ _ _ _ _ => (me_and (me_call' (ok_is_integer T) (hr.mono (by decide)) gd T.g_is_integer T.F_is_integer.kp T.b_is_integer passL (ma_cons' (me_varL (i := 3)) ma_nil)) (me_one (me_chain op_leAll op_ltAll m_leAll m_ltAll (b_of me_int) (b_of (me_varL (i := 3))) (b_of (me_bl1' cr_lenAll u_len T.z_len (b_of (me_varC (i := 0))))))))))))))) (ms_one (ms_raise' T.e_PaperError T.htop (hr.mono (by decide)) rfl tk_body T.x_PaperError T.z_super me_str)) ms_nil)
  (ms_cons (ms_if (mt_cmp op_ltAll m_ltAll (b_of (me_bl1' cr_lenX u_lenX T.z_len (b_ofO (me_dc rfl sc_accept_against.nd (mi_seq (me_varL (i := 2))) (blk_ok (own := [("at", 3)]) (by kernel_rfl)) (fun _ _ _ _ _ => (mg_nameL (i := 3) sc_accept_against.nd)) (fun _ _ _ _ _ => mts_nil) (fun _ _ _ _ _ => (me_varL (i := 3))) (fun _ _ _ _ _ => me_bl))))) (b_of (me_bl1' cr_lenAll u_len T.z_len (b_of (me_varL (i := 2))))) (nomark _)) (ms_one (ms_raise' T.e_PaperError T.htop (hr.mono (by decide)) rfl tk_body T.x_PaperError T.z_super me_str)) ms_nil)
  (ms_one (ms_if (mt_tru' (b_of (me_call' (ok_rounds_for T) (hr.mono (by decide)) gd T.g_rounds_for T.F_rounds_for.kp T.b_rounds_for ps_body (ma_cons' (me_ty1' call_tuple_of u_tuple T.z_tuple (b_ofO (me_bl1O' cr_sortedPO u_sortedP T.z_sorted (b_ofO (me_lc rfl sc_accept_against.nd (mi_seq (me_varL (i := 2))) (blk_ok (own := [("at", 3)]) (by kernel_rfl)) (fun _ _ _ _ _ => (mg_nameL (i := 3) sc_accept_against.nd)) (fun _ _ _ _ _ => mts_nil) (fun _ _ _ _ _ => (me_ix (ix_all hr) m_ixAll (b_of (me_varC (i := 0))) (b_of (me_varL (i := 3))) (fun _ _ => rfl)))))))) (ma_cons' (me_varL (i := 1)) ma_nil))))) (ms_one (ms_raise' T.e_PaperError T.htop (hr.mono (by decide)) rfl tk_body T.x_PaperError T.z_super me_str)) ms_nil)))))))
theorem ok_missing_marks (T : Tx P K mg) : FnG P w K mg base (L2.CX P w) 5 (ad K 15) (fd K 15) ["coins", "many"] (spM K (cn K) m_missing_marks) :=
  fn_miniDD T.F_missing_marks sc_missing_marks fun cdv A outer s H E hr gd => (ms_cons (ms_expr (me_call' (ok_check_coins T) (hr.mono (by decide)) gd T.g_check_coins T.F_check_coins.kp T.b_check_coins ps_body (ma_cons' (me_varL (i := 0)) ma_nil)))
  (ms_cons (ms_expr (me_call' (ok_check_many T) (hr.mono (by decide)) gd T.g_check_many T.F_check_many.kp T.b_check_many ps_body (ma_cons' (me_varL (i := 1)) ma_nil)))
  (ms_cons (ms_setC (i := 2) sc_missing_marks.nd (m_of (me_dc rfl sc_missing_marks.nd (mi_seq (me_varL (i := 0))) (blk_ok (own := [("year", 3), ("mark", 4)]) (by kernel_rfl)) (fun _ _ _ _ _ => (mg_tupX rfl (mgs_cons' (mg_nameL (i := 3) sc_missing_marks.nd) (mgs_cons' (mg_nameL (i := 4) sc_missing_marks.nd) mgs_nil)))) (fun _ _ _ _ _ => mts_nil) (fun _ _ _ _ _ => (me_varL (i := 4))) (fun _ _ _ _ _ => me_bl))))
  (ms_one (ms_ret (me_ty1' call_tuple_of u_tuple T.z_tuple (b_ofO (me_lc rfl sc_missing_marks.nd (mi_rng1' T.z_range (me_varL (i := 1))) (blk_ok (own := [("own", 5)]) (by kernel_rfl)) (fun _ _ _ _ _ => (mg_nameL (i := 5) sc_missing_marks.nd)) (fun _ _ _ _ _ => (mts_one (mt_cmp (op_notinAll hr) m_notin (b_of (me_varL (i := 5))) (b_of (me_varC (i := 2))) (by kernel_rfl)))) (fun _ _ _ _ _ => (me_varL (i := 5)))))))))))
theorem ok_years_of (T : Tx P K mg) : FnG P w K mg base (L2.CX P w) 4 (ad K 16) (fd K 16) ["many", "begin", "step", "mark", "first", "last"] (spM K (cn K) m_years_of) :=
  fn_miniDD T.F_years_of sc_years_of fun cdv A outer s H E hr gd => (ms_cons (ms_expr (me_call' (ok_check_many T) (hr.mono (by decide)) gd T.g_check_many T.F_check_many.kp T.b_check_many ps_body (ma_cons' (me_varC (i := 0)) ma_nil)))
  (ms_cons (ms_expr (me_call' (ok_check_round T) (hr.mono (by decide)) gd T.g_check_round T.F_check_round.kp T.b_check_round ps_body (ma_cons' (me_varC (i := 0)) (ma_cons' (me_varC (i := 1)) (ma_cons' (me_varC (i := 2)) ma_nil)))))
  (ms_cons (ms_if (PW.pt (mw_or (mt_not (mt_tru' (b_of (me_call' (ok_is_integer T) (hr.mono (by decide)) gd T.g_is_integer T.F_is_integer.kp T.b_is_integer ps_body (ma_cons' (me_varC (i := 3)) ma_nil))))) (mw_or1 (mt_not (mt_chain op_leAll op_ltAll m_leAll m_ltAll (b_of me_int) (b_of (me_varC (i := 3))) (b_of (me_varC (i := 0)))))))) (ms_one (ms_raise' T.e_ArgumentError T.htop (hr.mono (by decide)) rfl tk_body T.x_ArgumentError T.z_super me_str)) ms_nil)
  (ms_cons (ms_expr (me_call' (ok_check_span T) (hr.mono (by decide)) gd T.g_check_span T.F_check_span.kp T.b_check_span ps_body (ma_cons' (me_varL (i := 4)) (ma_cons' (me_varL (i := 5)) ma_nil))))
  (ms_one (ms_ret (me_ty1' call_tuple_of u_tuple T.z_tuple (b_ofO (me_lc rfl sc_years_of.nd (mi_rng2' T.z_range (me_varL (i := 4)) (me_bin op_addAll m_add (b_of (me_varL (i := 5))) (b_of me_int))) (blk_ok (own := [("year", 6)]) (by kernel_rfl)) (fun _ _ _ _ _ => (mg_nameL (i := 6) sc_years_of.nd)) (fun _ _ _ _ _ => (mts_one (mt_cmp (op_eqD hr.units) m_eq (b_of (me_call' (ok_mark_in T) (hr.mono (by decide)) gd T.g_mark_in T.F_mark_in.kp T.b_mark_in passL (ma_cons' (me_varC (i := 0)) (ma_cons' (me_varC (i := 1)) (ma_cons' (me_varC (i := 2)) (ma_cons' (me_varL (i := 6)) ma_nil)))))) (b_of (me_varC (i := 3))) (nomark _)))) (fun _ _ _ _ _ => (me_varL (i := 6))))))))))))
theorem ok_goes_round (T : Tx P K mg) : FnG P w K mg base (L2.CX P w) 4 (ad K 17) (fd K 17) ["many", "step"] (spM K (cn K) m_goes_round) :=
  fn_miniDD T.F_goes_round sc_goes_round fun cdv A outer s H E hr gd => (ms_cons (ms_expr (me_call' (ok_check_many T) (hr.mono (by decide)) gd T.g_check_many T.F_check_many.kp T.b_check_many ps_body (ma_cons' (me_varL (i := 0)) ma_nil)))
  (ms_cons (ms_if (PW.pt (mw_or (mt_not (mt_tru' (b_of (me_call' (ok_is_integer T) (hr.mono (by decide)) gd T.g_is_integer T.F_is_integer.kp T.b_is_integer ps_body (ma_cons' (me_varL (i := 1)) ma_nil))))) (mw_or1 (mt_not (mt_chain op_leAll op_ltAll m_leAll m_ltAll (b_of me_int) (b_of (me_varL (i := 1))) (b_of (me_varL (i := 0)))))))) (ms_one (ms_raise' T.e_ArgumentError T.htop (hr.mono (by decide)) rfl tk_body T.x_ArgumentError T.z_super me_str)) ms_nil)
  (ms_cons (ms_par (i := 2) (j := 3) rfl sc_goes_round.nd rfl rfl (by decide) (by kernel_rfl) (by kernel_rfl) (me_varL (i := 0)) (me_varL (i := 1)) (by kernel_rfl))
  (ms_cons (ms_while ps_own (mt_tru' (b_of (me_varL (i := 3)))) (ms_one (ms_par (i := 2) (j := 3) rfl sc_goes_round.nd rfl rfl (by decide) (by kernel_rfl) (by kernel_rfl) (me_varL (i := 3)) (me_bin op_mod m_mod (b_of (me_varL (i := 2))) (b_of (me_varL (i := 3)))) (by kernel_rfl))))
  (ms_one (ms_ret (me_bin op_fdivW m_div (b_of (me_varL (i := 0))) (b_of (me_varL (i := 2))))))))))
theorem ok_year_left (T : Tx P K mg) : FnG P w K mg base (L2.CX P w) 5 (ad K 18) (fd K 18) ["many", "begin", "step", "marks"] (spM K (cn K) m_year_left) :=
  fn_miniDD T.F_year_left sc_year_left fun cdv A outer s H E hr gd => (ms_cons (ms_expr (me_call' (ok_check_many T) (hr.mono (by decide)) gd T.g_check_many T.F_check_many.kp T.b_check_many ps_body (ma_cons' (me_varC (i := 0)) ma_nil)))
  (ms_cons (ms_expr (me_call' (ok_check_round T) (hr.mono (by decide)) gd T.g_check_round T.F_check_round.kp T.b_check_round ps_body (ma_cons' (me_varC (i := 0)) (ma_cons' (me_varC (i := 1)) (ma_cons' (me_varC (i := 2)) ma_nil)))))
  (ms_cons (ms_if (PW.pt (mw_or (mt_not (mt_tru' (b_of (me_isi' (T := "tuple") T.z_isinstance T.z_tuple (b_of (me_varL (i := 3))))))) (mw_or1 (mt_not (mt_chain op_leAll op_leAll m_leAll m_leAll (b_of me_int) (b_of (me_bl1' cr_lenAll u_len T.z_len (b_of (me_varL (i := 3))))) (b_of (me_gint' T.c_MAX_COINS))))))) (ms_one (ms_raise' T.e_ArgumentError T.htop (hr.mono (by decide)) rfl tk_body T.x_ArgumentError T.z_super me_str)) ms_nil)
  (ms_cons (ms_if (mt_not (mt_tru' (b_of (me_bl1' (cr_all rfl) u_all T.z_all (b_ofO (me_lc rfl sc_year_left.nd (mi_seq (me_varL (i := 3))) (blk_ok (own := [("own", 7)]) (by kernel_rfl)) (fun _ _ _ _ _ => (mg_nameL (i := 7) sc_year_left.nd)) (fun _ _ _ _ _ => mts_nil) (fun _ _ _ _ _ => (me_and (me_call' (ok_is_integer T) (hr.mono (by decide)) gd T.g_is_integer T.F_is_integer.kp T.b_is_integer passL (ma_cons' (me_varL (i := 7)) ma_nil)) (me_one (me_chain op_leAll op_ltAll m_leAll m_ltAll (b_of me_int) (b_of (me_varL (i := 7))) (b_of (me_varC (i := 0))))))))))))) (ms_one (ms_raise' T.e_ArgumentError T.htop (hr.mono (by decide)) rfl tk_body T.x_ArgumentError T.z_super me_str)) ms_nil)
  (ms_cons (ms_setL (i := 4) sc_year_left.nd (me_call' (ok_goes_round T) (hr.mono (by decide)) gd T.g_goes_round T.F_goes_round.kp T.b_goes_round ps_body (ma_cons' (me_varC (i := 0)) (ma_cons' (me_varC (i := 2)) ma_nil))))
  (ms_cons (ms_setOL (i := 5) sc_year_left.nd (me_lst ma_nil))
  (ms_cons (ms_for (us := [6]) ps_own rfl (mi_rng1' T.z_range (me_varL (i := 4))) (mg_nameC (i := 6) sc_year_left.nd) (ms_one (ms_if (mt_not (mt_tru' (b_ofO (me_lc rfl sc_year_left.nd (mi_enumX' T.z_enumerate (me_varL (i := 3))) (blk_ok (own := [("at", 8), ("own", 7)]) (by kernel_rfl)) (fun _ _ _ _ _ => (mg_tupX rfl (mgs_cons' (mg_nameL (i := 8) sc_year_left.nd) (mgs_cons' (mg_nameL (i := 7) sc_year_left.nd) mgs_nil)))) (fun _ _ _ _ _ => (mts_one (mt_cmp (op_neD hr.units) m_ne (b_of (me_call' (ok_mark_in T) (hr.mono (by decide)) gd T.g_mark_in T.F_mark_in.kp T.b_mark_in passL (ma_cons' (me_varC (i := 0)) (ma_cons' (me_varC (i := 1)) (ma_cons' (me_varC (i := 2)) (ma_cons' (me_bin op_addAll m_add (b_of (me_varC (i := 6))) (b_of (me_varL (i := 8)))) ma_nil)))))) (b_of (me_varL (i := 7))) (nomark _)))) (fun _ _ _ _ _ => me_int))))) (ms_one (ms_appL (i := 5) (me_varC (i := 6)))) ms_nil)))
  (ms_one (ms_ret (me_ty1' call_tuple_of u_tuple T.z_tuple (me_varBL (i := 5))))))))))))
theorem ok__law_start (T : Tx P K mg) : FnG P w K mg base (L2.CX P w) 2 (ad K 19) (fd K 19) ["script"] (spO K (cn K) m__law_start) :=
  fn_miniOD T.F__law_start sc__law_start fun cdv A outer s H E hr gd => (mo_cons (ms_setL (i := 1) sc__law_start.nd me_int)
  (mo_cons (ms_for (us := [2]) ps_own rfl (mi_seq (me_varL (i := 0))) (mg_nameL (i := 2) sc__law_start.nd) (ms_one (ms_setL (i := 1) sc__law_start.nd (me_bin op_addAll m_add (b_of (me_bin op_mod m_mod (b_of (me_ty1' call_int1 u_int T.z_int (b_of (me_bin op_addAll m_add (b_of (me_bin op_mulAll m_mulAll (b_of (me_varL (i := 1))) (b_of me_int))) (b_of (me_varL (i := 2))))))) (b_of me_int))) (b_of me_int)))))
  (mo_ret (me_lst (ma_cons' (m_of (me_ty1O' call_list_of u_list T.z_list (b_of (me_varL (i := 0))))) (ma_cons' me_int (ma_cons' me_int (ma_cons' (me_varL (i := 1)) ma_nil))))))))
theorem ok__law_draw (T : Tx P K mg) : FnG P w K mg base (L2.CX P w) 2 (ad K 20) (fd K 20) ["state", "many"] (spM K (cn K) m__law_draw) :=
  fn_miniDD T.F__law_draw sc__law_draw fun cdv A outer s H E hr gd => (ms_cons (ms_if (PW.pt (mw_and (mt_cmp (op_eqD hr.units) m_eq (b_of (me_stIx (i := 0) (k := 1))) (b_of me_int) (nomark _)) (mw_and1 (mt_cmp op_geAll m_geAll (b_of (me_stIx (i := 0) (k := 2))) (b_of (me_bl1' cr_lenAll u_len T.z_len (b_of (me_stIx (i := 0) (k := 0))))) (nomark _))))) (ms_cons (ms_stSet (i := 0) (k := 3) (me_bin op_mod m_mod (b_of (me_ty1' call_int1 u_int T.z_int (b_of (me_bin op_addAll m_add (b_of (me_bin op_mulAll m_mulAll (b_of (me_stIx (i := 0) (k := 3))) (b_of me_int))) (b_of me_int))))) (b_of me_int)))
  (ms_one (ms_ret (me_bin op_mod m_mod (b_of (me_ty1' call_int1 u_int T.z_int (b_of (me_bin op_fdivW m_div (b_of (me_stIx (i := 0) (k := 3))) (b_of me_int))))) (b_of (me_varL (i := 1))))))) ms_nil)
  (ms_cons (ms_if (mt_cmp (op_eqD hr.units) m_eq (b_of (me_stIx (i := 0) (k := 1))) (b_of me_int) (nomark _)) (ms_cons (ms_stSet (i := 0) (k := 1) (me_bl1' call_abs u_abs T.z_abs (b_of (me_ix (ix_all hr) m_ixAll (b_of (me_stIx (i := 0) (k := 0))) (b_of (me_stIx (i := 0) (k := 2))) (fun _ _ => rfl)))))
  (ms_one (ms_stSet (i := 0) (k := 2) (me_bin op_addAll m_add (b_of (me_stIx (i := 0) (k := 2))) (b_of me_int))))) ms_nil)
  (ms_cons (ms_setL (i := 2) sc__law_draw.nd (me_bin op_mod m_mod (b_of (me_ty1' call_int1 u_int T.z_int (b_of (me_stIx (i := 0) (k := 1))))) (b_of (me_varL (i := 1)))))
  (ms_cons (ms_stSet (i := 0) (k := 1) (me_bin op_fdivW m_div (b_of (me_stIx (i := 0) (k := 1))) (b_of (me_varL (i := 1)))))
  (ms_one (ms_ret (me_varL (i := 2))))))))
theorem ok__law_pick (T : Tx P K mg) : FnG P w K mg base (L2.CX P w) 3 (ad K 21) (fd K 21) ["state", "some"] (spM K (cn K) m__law_pick) :=
  fn_miniDD T.F__law_pick sc__law_pick fun cdv A outer s H E hr gd => (ms_one (ms_ret (me_ix (ix_all hr) m_ixAll (b_of (me_varL (i := 1))) (b_of (me_call' (ok__law_draw T) (hr.mono (by decide)) gd T.g__law_draw T.F__law_draw.kp T.b__law_draw ps_body (ma_cons' (me_varL (i := 0)) (ma_cons' (me_bl1' cr_lenAll u_len T.z_len (b_of (me_varL (i := 1)))) ma_nil)))) (fun _ _ => rfl))))
theorem ok__law_same (T : Tx P K mg) : FnG P w K mg base (L2.CX P w) 2 (ad K 22) (fd K 22) ["actual", "due"] (spM K (cn K) m__law_same) :=
  fn_miniDD T.F__law_same sc__law_same fun cdv A outer s H E hr gd => (ms_one (ms_ret (me_and (me_cmp (op_eqD hr.units) m_eq (b_of (me_varL (i := 0))) (b_of (me_varL (i := 1))) (nomark _)) (me_one (me_reprEq hr gd T.z_repr (b_of (me_varL (i := 0))) (b_of (me_varL (i := 1))))))))
theorem ok__law_word (T : Tx P K mg) : FnW P w K mg base (L2.CX P w) 1 (ad K 23) (fd K 23) ["error"] (spW (caK K)) := by
  obtain ⟨oc, od, dV, kV, doc, pm, an, cdv, ct, osl, e1, lk, hcd, _⟩ := T.F__law_word.ex
  rw [e1] at lk ⊢
  refine fn_ofW lk hcd sc__law_word (fun a cls d vs H Q E ⟨j, dd, s, _, _, _, e, _⟩ => by rw [e]; rfl) fun A outer s H vs Q E a oe cls d hz hf hsp => ?_
  obtain ⟨j, dd, z, hj, rfl, rfl, rfl, hdd, hlen, hQ⟩ := hsp
  have hx : HasX (L2H.cxH (L2.CX P w) P w K mg base ["error", "kinds"] "_law_word" (defScope s__law_word) (ad K 23) cdv A outer s H E (a, oe)) a (caK K j) dd := ⟨T.wd.q j hj, oe, List.mem_cons_self, hz, hf⟩
  have isi : ∀ {x : Str} {u : Addr} {p p1 p2 p3 : Pos}, mg x = some (.ref u) → Gl (L2H.cxH (L2.CX P w) P w K mg base ["error", "kinds"] "_law_word" (defScope s__law_word) (ad K 23) cdv A outer s H E (a, oe)) x → (x == ("__debug__" : Str)) = false →
      PE (L2H.cxH (L2.CX P w) P w K mg base ["error", "kinds"] "_law_word" (defScope s__law_word) (ad K 23) cdv A outer s H E (a, oe)) (.Call (.Name "isinstance" p) [.Name "error" p1, .Name x p2] [] p3) (tCB (rIsX K (caK K j) a dd) (tCons (tVar 0) (tCons (tC (.ref u)) tNil))) := fun hm hg hdb =>
    pe_callB (call_isX hx) (by rfl) T.wd.isi PyProof.Rows.Boot.«isinstance» (pa_cons (pe_var (i := 0) (by rfl) (.inl (by kernel_rfl))) (pa_cons (pe_glob hg hm rfl hdb) pa_nil (by rfl)) (by rfl)) (by decide) (by decide) (by rfl) (by rfl)
  refine ⟨_, pss_cons (ps_if (pt_truth (isi T.wd.g4 (by rfl) (by decide)) (fun _ => rfl)) (pss_one (ps_ret (pe_op op_add_str pe_str (pe_callTy SkE.call_str_str (by rfl) T.wd.str PyProof.Rows.Boot.«str» (pa_cons (pe_xx hx (T.wd.noat j hj) (pe_var (i := 0) (by rfl) (.inl (by kernel_rfl)))) pa_nil))))) pss_nil)
    (pss_cons (ps_set (i := 1) sc__law_word.nd rfl (.inl (by kernel_rfl)) (pe_lst (pa_cons (isi T.wd.g0 (by rfl) (by decide)) (pa_cons (isi T.wd.g1 (by rfl) (by decide)) (pa_cons (isi T.wd.g2 (by rfl) (by decide)) (pa_cons (isi T.wd.g3 (by rfl) (by decide)) pa_nil))))))
    (pss_cons (ps_if (PW.pt (pw_or (pt_not (pt_truth (isi T.wd.g5 (by rfl) (by decide)) (fun _ => rfl))) (pw_or1 (pt_cmpR op_ne (pe_bm PySem.F.plainAttrs_list PySem.F.slot_list_count PySem.F.type_list_count mt_countB (pe_var (i := 1) (by rfl) (.inl (by kernel_rfl))) (pa_cons pe_bl pa_nil)) pe_int (by rfl))))) (pss_one (ps_ret pe_str)) pss_nil)
    (pss_one (ps_ret (pe_op op_add_str (pe_ix ix_list (pe_lst (pa_cons pe_str (pa_cons pe_str (pa_cons pe_str (pa_cons pe_str pa_nil))))) (pe_bm PySem.F.plainAttrs_list PySem.F.slot_list_index PySem.F.type_list_index mt_index (pe_var (i := 1) (by rfl) (.inl (by kernel_rfl))) (pa_cons pe_bl pa_nil)) (fun _ _ => rfl)) (pe_callTy SkE.call_str_str (by rfl) T.wd.str PyProof.Rows.Boot.«str» (pa_cons (pe_xx hx (T.wd.noreason j hj) (pe_var (i := 0) (by rfl) (.inl (by kernel_rfl)))) pa_nil))))))), ?_⟩
  have dd0 : ∀ {H1 : Hp}, Ex H H1 → H1 dd = some (.xd [(("reason" : Str), V.str z)]) := fun e => e dd _ hdd
  refine s_if (b := false) (et_is (et_truB (ev_isX (dd0 (Ex.refl H)) (ev_var rfl) ev_c ref_cv (T.wd.kit j hj 4 (by decide)))) (decide_eq_false (by omega))) (fun z => by cases z) fun _ H1 e1 => ?_
  refine s_asgL (xs := (kinds4 j).map V.bl) (el_lst (ea_cons (ev_isX (dd0 e1) (ev_var rfl) ev_c ref_cv (T.wd.kit j hj 0 (by decide))) (ea_cons (ev_isX (dd0 e1) (ev_var rfl) ev_c ref_cv (T.wd.kit j hj 1 (by decide))) (ea_cons (ev_isX (dd0 e1) (ev_var rfl) ev_c ref_cv (T.wd.kit j hj 2 (by decide))) (ea_cons (ev_isX (dd0 e1) (ev_var rfl) ev_c ref_cv (T.wd.kit j hj 3 (by decide))) ea_nil)))) (by show 4 ≤ _; decide)) fun p2 H2 _ e2 h2 => ?_
  have e12 := e1.trans e2
  refine s_if (b := false) (et_is (et_or (et_not (et_truB (ev_isX (dd0 e12) (ev_var rfl) ev_c ref_cv (T.wd.kit5 j hj)))) fun _ => et_test (ev_op (ev_cntB (k := true) (bs := kinds4 j) (sq_of h2) (ev_var rfl)) ev_c (rv_ne rfl))) ?_) (fun z => by cases z) fun _ H3 e3 => ?_
  · rw [cnt4 j hj]; rfl
  refine s_ret (v := .str (hdW j ++ z)) (ev_addS (ev_opL1 (el_lst (ea_cons ev_c (ea_cons ev_c (ea_cons ev_c (ea_cons ev_c ea_nil)))) (by show 4 ≤ _; decide)) (fun H5 e5 => ev_idxB (k := true) (bs := kinds4 j) (sq_of (e5 _ _ (e3 _ _ h2))) (ev_var rfl) (at4 j hj) (bef4 j hj)) (fun p5 H5 h5 e5 => rv_ixL (sq_of h5) (headW j hj))) (ev_strS (ev_xx (dd0 (e12.trans e3)) rfl (ev_var rfl))) ?_) fun H4 e4 => hQ H4 ((e12.trans e3).trans e4)
  have := hdW_len j
  rw [sizeLine_eq]
  omega
theorem disp_ok (T : Tx P K mg) : DispOk P w K mg base (L2.CX P w) 6 (cn K) disp := (disp_cons rfl ((ok_accept_round T).mono (by decide)) T.F_accept_round.kp T.b_accept_round
  (disp_cons rfl ((ok_accept_against T).mono (by decide)) T.F_accept_against.kp T.b_accept_against
  disp_nil))
theorem ok__law_asked (T : Tx P K mg) : FnG P w K mg base (L2.CX P w) 7 (ad K 24) (fd K 24) ["way", "some"] (spM K (cn K) m__law_asked) :=
  fn_miniDD T.F__law_asked sc__law_asked fun cdv A outer s H E hr gd => (ms_one (ms_tryW' (i := 2) rfl rfl sc__law_asked.nd T.x_CabinetError tk_body fldN_lt (ok__law_word T) (hr.mono (by decide)) T.g__law_word T.F__law_word.kp T.b__law_word T.exm (fun pn xe E' ps => (ms_cons (ms_if (mt_cmp op_ltAll m_ltAll (b_of (me_bl1' cr_lenAll u_len T.z_len (b_of (me_varL (i := 1))))) (b_of me_int) (nomark _)) (ms_one (ms_ret (me_ite (mt_cmp (op_eqD hr.units) m_eq (b_of (me_bl1' cr_lenAll u_len T.z_len (b_of (me_varL (i := 1))))) (b_of me_int) (nomark _)) (m_of (me_lst (ma_cons' (me_callV (i := 0) (disp_ok T) (hr.mono (by decide)) gd ps (ma_cons' (me_ix (ix_all hr) m_ixAll (b_of (me_varL (i := 1))) (b_of me_int) (fun _ _ => rfl)) ma_nil)) ma_nil))) (m_of (me_lst (ma_cons' (me_callV (i := 0) (disp_ok T) (hr.mono (by decide)) gd ps (ma_cons' (me_ix (ix_all hr) m_ixAll (b_of (me_varL (i := 1))) (b_of me_int) (fun _ _ => rfl)) (ma_cons' (me_ix (ix_all hr) m_ixAll (b_of (me_varL (i := 1))) (b_of me_int) (fun _ _ => rfl)) ma_nil))) ma_nil)))))) ms_nil)
  (ms_cons (ms_if (mt_cmp op_ltAll m_ltAll (b_of (me_bl1' cr_lenAll u_len T.z_len (b_of (me_varL (i := 1))))) (b_of me_int) (nomark _)) (ms_one (ms_ret (me_ite (mt_cmp (op_eqD hr.units) m_eq (b_of (me_bl1' cr_lenAll u_len T.z_len (b_of (me_varL (i := 1))))) (b_of me_int) (nomark _)) (m_of (me_lst (ma_cons' (me_callV (i := 0) (disp_ok T) (hr.mono (by decide)) gd ps (ma_cons' (me_ix (ix_all hr) m_ixAll (b_of (me_varL (i := 1))) (b_of me_int) (fun _ _ => rfl)) (ma_cons' (me_ix (ix_all hr) m_ixAll (b_of (me_varL (i := 1))) (b_of me_int) (fun _ _ => rfl)) (ma_cons' (me_ix (ix_all hr) m_ixAll (b_of (me_varL (i := 1))) (b_of me_int) (fun _ _ => rfl)) ma_nil)))) ma_nil))) (m_of (me_lst (ma_cons' (me_callV (i := 0) (disp_ok T) (hr.mono (by decide)) gd ps (ma_cons' (me_ix (ix_all hr) m_ixAll (b_of (me_varL (i := 1))) (b_of me_int) (fun _ _ => rfl)) (ma_cons' (me_ix (ix_all hr) m_ixAll (b_of (me_varL (i := 1))) (b_of me_int) (fun _ _ => rfl)) (ma_cons' (me_ix (ix_all hr) m_ixAll (b_of (me_varL (i := 1))) (b_of me_int) (fun _ _ => rfl)) (ma_cons' (me_ix (ix_all hr) m_ixAll (b_of (me_varL (i := 1))) (b_of me_int) (fun _ _ => rfl)) ma_nil))))) ma_nil)))))) ms_nil)
  (ms_cons (ms_if (mt_cmp op_ltAll m_ltAll (b_of (me_bl1' cr_lenAll u_len T.z_len (b_of (me_varL (i := 1))))) (b_of me_int) (nomark _)) (ms_one (ms_ret (me_ite (mt_cmp (op_eqD hr.units) m_eq (b_of (me_bl1' cr_lenAll u_len T.z_len (b_of (me_varL (i := 1))))) (b_of me_int) (nomark _)) (m_of (me_lst (ma_cons' (me_callV (i := 0) (disp_ok T) (hr.mono (by decide)) gd ps (ma_cons' (me_ix (ix_all hr) m_ixAll (b_of (me_varL (i := 1))) (b_of me_int) (fun _ _ => rfl)) (ma_cons' (me_ix (ix_all hr) m_ixAll (b_of (me_varL (i := 1))) (b_of me_int) (fun _ _ => rfl)) (ma_cons' (me_ix (ix_all hr) m_ixAll (b_of (me_varL (i := 1))) (b_of me_int) (fun _ _ => rfl)) (ma_cons' (me_ix (ix_all hr) m_ixAll (b_of (me_varL (i := 1))) (b_of me_int) (fun _ _ => rfl)) (ma_cons' (me_ix (ix_all hr) m_ixAll (b_of (me_varL (i := 1))) (b_of me_int) (fun _ _ => rfl)) ma_nil)))))) ma_nil))) (m_of (me_lst (ma_cons' (me_callV (i := 0) (disp_ok T) (hr.mono (by decide)) gd ps (ma_cons' (me_ix (ix_all hr) m_ixAll (b_of (me_varL (i := 1))) (b_of me_int) (fun _ _ => rfl)) (ma_cons' (me_ix (ix_all hr) m_ixAll (b_of (me_varL (i := 1))) (b_of me_int) (fun _ _ => rfl)) (ma_cons' (me_ix (ix_all hr) m_ixAll (b_of (me_varL (i := 1))) (b_of me_int) (fun _ _ => rfl)) (ma_cons' (me_ix (ix_all hr) m_ixAll (b_of (me_varL (i := 1))) (b_of me_int) (fun _ _ => rfl)) (ma_cons' (me_ix (ix_all hr) m_ixAll (b_of (me_varL (i := 1))) (b_of me_int) (fun _ _ => rfl)) (ma_cons' (me_ix (ix_all hr) m_ixAll (b_of (me_varL (i := 1))) (b_of me_int) (fun _ _ => rfl)) ma_nil))))))) ma_nil)))))) ms_nil)
  (ms_one (ms_ret (m_of (me_lst (ma_cons' (me_callV (i := 0) (disp_ok T) (hr.mono (by decide)) gd ps (ma_cons' (me_ix (ix_all hr) m_ixAll (b_of (me_varL (i := 1))) (b_of me_int) (fun _ _ => rfl)) (ma_cons' (me_ix (ix_all hr) m_ixAll (b_of (me_varL (i := 1))) (b_of me_int) (fun _ _ => rfl)) (ma_cons' (me_ix (ix_all hr) m_ixAll (b_of (me_varL (i := 1))) (b_of me_int) (fun _ _ => rfl)) (ma_cons' (me_ix (ix_all hr) m_ixAll (b_of (me_varL (i := 1))) (b_of me_int) (fun _ _ => rfl)) (ma_cons' (me_ix (ix_all hr) m_ixAll (b_of (me_varL (i := 1))) (b_of me_int) (fun _ _ => rfl)) (ma_cons' (me_ix (ix_all hr) m_ixAll (b_of (me_varL (i := 1))) (b_of me_int) (fun _ _ => rfl)) (ma_cons' (me_ix (ix_all hr) m_ixAll (b_of (me_varL (i := 1))) (b_of me_int) (fun _ _ => rfl)) ma_nil)))))))) ma_nil)))))))))))
theorem ok__law_shown (T : Tx P K mg) : FnG P w K mg base (L2.CX P w) 8 (ad K 25) (fd K 25) ["way", "ahead", "papers"] (spM K (cn K) m__law_shown) :=
  fn_miniDD T.F__law_shown sc__law_shown fun cdv A outer s H E hr gd => (ms_cons (ms_setLc (i := 3) rfl sc__law_shown.nd rfl (by kernel_rfl) (sw_t rfl (by kernel_rfl) rfl (by kernel_rfl)) (mi_seq (me_varL (i := 2))) (blk_ok (own := [("paper", 4), ("word", 5)]) (by kernel_rfl)) (fun _ _ _ _ _ => (mg_tupX rfl (mgs_cons' (mg_nameL (i := 4) sc__law_shown.nd) (mgs_cons' (mg_nameL (i := 5) sc__law_shown.nd) mgs_nil)))) (fun _ _ _ _ _ => mts_nil) (fun _ _ _ _ _ => (me_call' (ok__law_asked T) (hr.mono (by decide)) gd T.g__law_asked T.F__law_asked.kp T.b__law_asked passL (ma_cons' (me_varC (i := 0)) (ma_cons' (me_bin op_addAll m_add (b_of (me_varC (i := 1))) (b_of (me_varL (i := 4)))) ma_nil)))))
  (ms_one (ms_ret (me_call' (ok__law_same T) (hr.mono (by decide)) gd T.g__law_same T.F__law_same.kp T.b__law_same ps_body (ma_cons' (me_varL (i := 3)) (ma_cons' (m_of (me_lc rfl sc__law_shown.nd (mi_seq (me_varL (i := 2))) (blk_ok (own := [("paper", 4), ("word", 5)]) (by kernel_rfl)) (fun _ _ _ _ _ => (mg_tupX rfl (mgs_cons' (mg_nameL (i := 4) sc__law_shown.nd) (mgs_cons' (mg_nameL (i := 5) sc__law_shown.nd) mgs_nil)))) (fun _ _ _ _ _ => mts_nil) (fun _ _ _ _ _ => (me_ite (mt_cmp op_isN m_is (b_of (me_varL (i := 5))) (b_of me_non) (nomark _)) (m_of (me_lst (ma_cons' me_non ma_nil))) (me_varL (i := 5)))))) ma_nil))))))
theorem ok__law_mark (T : Tx P K mg) : FnG P w K mg base (L2.CX P w) 2 (ad K 26) (fd K 26) ["many", "begin", "step", "year"] (spM K (cn K) m__law_mark) :=
  fn_miniDD T.F__law_mark sc__law_mark fun cdv A outer s H E hr gd => (ms_cons (ms_par (i := 4) (j := 5) rfl sc__law_mark.nd rfl rfl (by decide) (by kernel_rfl) (by kernel_rfl) (me_varL (i := 1)) (me_ite (mt_cmp op_geAll m_geAll (b_of (me_varL (i := 3))) (b_of me_int) (nomark _)) (me_varL (i := 2)) (me_bin op_sub m_sub (b_of (me_varL (i := 0))) (b_of (me_varL (i := 2))))) (by kernel_rfl))
  (ms_one (ms_ret (me_bin op_mod m_mod (b_of (me_ty1' call_int1 u_int T.z_int (b_of (me_bin op_addAll m_add (b_of (me_varL (i := 4))) (b_of (me_bin op_mulAll m_mulAll (b_of (me_varL (i := 5))) (b_of (me_bl1' call_abs u_abs T.z_abs (b_of (me_varL (i := 3))))))))))) (b_of (me_varL (i := 0)))))))
theorem ok__law_coins (T : Tx P K mg) : FnG P w K mg base (L2.CX P w) 4 (ad K 27) (fd K 27) ["state", "many", "begin", "step", "size"] (spM K (cn K) m__law_coins) :=
  fn_miniDD T.F__law_coins sc__law_coins fun cdv A outer s H E hr gd => (ms_cons (ms_setL (i := 5) sc__law_coins.nd (m_of (me_bl1O' (cr_sortedAll rfl) u_sorted T.z_sorted (b_ofO (me_lc rfl sc__law_coins.nd (mi_rng1' T.z_range (me_varL (i := 4))) (blk_ok (own := [("k", 10)]) (by kernel_rfl)) (fun _ _ _ _ _ => (mg_nameL (i := 10) sc__law_coins.nd)) (fun _ _ _ _ _ => mts_nil) (fun _ _ _ _ _ => (me_bin op_sub m_sub (b_of (me_call' (ok__law_draw T) (hr.mono (by decide)) gd T.g__law_draw T.F__law_draw.kp T.b__law_draw passL (ma_cons' (me_varC (i := 0)) (ma_cons' (me_call' (ok__law_pick T) (hr.mono (by decide)) gd T.g__law_pick T.F__law_pick.kp T.b__law_pick passL (ma_cons' (me_varC (i := 0)) (ma_cons' (m_of (me_lst (ma_cons' me_int (ma_cons' me_int (ma_cons' me_int ma_nil))))) ma_nil))) ma_nil)))) (b_of (me_call' (ok__law_pick T) (hr.mono (by decide)) gd T.g__law_pick T.F__law_pick.kp T.b__law_pick passL (ma_cons' (me_varC (i := 0)) (ma_cons' (m_of (me_lst (ma_cons' me_int (ma_cons' me_int (ma_cons' me_int ma_nil))))) ma_nil)))))))))))
  (ms_cons (ms_setLc (i := 5) rfl sc__law_coins.nd rfl (by kernel_rfl) (sw_t rfl (by kernel_rfl) rfl (by kernel_rfl)) (mi_seq (me_varL (i := 5))) (blk_ok (own := [("own", 9)]) (by kernel_rfl)) (fun _ _ _ _ _ => (mg_nameL (i := 9) sc__law_coins.nd)) (fun _ _ _ _ _ => mts_nil) (fun _ _ _ _ _ => (me_bl1' (cr_minY hr rfl) u_minY T.z_min (b_ofO (me_lst (ma_cons' me_int (ma_cons' (me_bl1' (cr_maxX hr rfl) u_maxX T.z_max (b_ofO (me_lst (ma_cons' (me_un un_neg un_negM (b_of me_int)) (ma_cons' (me_varL (i := 9)) ma_nil))))) ma_nil)))))))
  (ms_cons (ms_setLcO (i := 6) rfl sc__law_coins.nd rfl (by kernel_rfl) (sw_t rfl (by kernel_rfl) rfl (by kernel_rfl)) (mi_seq (me_varL (i := 5))) (blk_ok (own := [("own", 9)]) (by kernel_rfl)) (fun _ _ _ _ _ => (mg_nameL (i := 9) sc__law_coins.nd)) (fun _ _ _ _ _ => mts_nil) (fun _ _ _ _ _ => (me_tup (ma_cons' (me_varL (i := 9)) (ma_cons' (me_call' (ok__law_mark T) (hr.mono (by decide)) gd T.g__law_mark T.F__law_mark.kp T.b__law_mark passL (ma_cons' (me_varC (i := 1)) (ma_cons' (me_varC (i := 2)) (ma_cons' (me_varC (i := 3)) (ma_cons' (me_varL (i := 9)) ma_nil))))) ma_nil)))))
  (ms_cons (ms_for (us := [7]) ps_own rfl (mi_rng1' T.z_range (me_ite (mt_tru' (me_varBL (i := 6))) (me_call' (ok__law_draw T) (hr.mono (by decide)) gd T.g__law_draw T.F__law_draw.kp T.b__law_draw ps_body (ma_cons' (me_varC (i := 0)) (ma_cons' me_int ma_nil))) me_int)) (mg_nameL (i := 7) sc__law_coins.nd) (ms_cons (ms_setL (i := 8) sc__law_coins.nd (me_call' (ok__law_pick T) (hr.mono (by decide)) gd T.g__law_pick T.F__law_pick.kp T.b__law_pick ps_body (ma_cons' (me_varC (i := 0)) (ma_cons' (m_of (me_lst (ma_cons' (me_bin op_sub m_sub (b_of (me_bl1' cr_lenAll u_len T.z_len (me_varBL (i := 6)))) (b_of me_int)) (ma_cons' (me_call' (ok__law_draw T) (hr.mono (by decide)) gd T.g__law_draw T.F__law_draw.kp T.b__law_draw ps_body (ma_cons' (me_varC (i := 0)) (ma_cons' (me_bl1' cr_lenAll u_len T.z_len (me_varBL (i := 6))) ma_nil))) ma_nil)))) ma_nil))))
  (ms_one (ms_putL (i := 6) hr (me_tup (ma_cons' (me_ix (ix_all hr) m_ixAll (b_of (me_ix (ix_all hr) m_ixAll (me_varBL (i := 6)) (b_of (me_varL (i := 8))) (fun _ _ => rfl))) (b_of me_int) (fun _ _ => rfl)) (ma_cons' (me_call' (ok__law_draw T) (hr.mono (by decide)) gd T.g__law_draw T.F__law_draw.kp T.b__law_draw ps_body (ma_cons' (me_varC (i := 0)) (ma_cons' me_int ma_nil))) ma_nil))) (me_varL (i := 8))))))
  (ms_one (ms_ret (me_ty1' call_tuple_of u_tuple T.z_tuple (me_varBL (i := 6)))))))))
theorem ok__law_wrong (T : Tx P K mg) : FnG P w K mg base (L2.CX P w) 3 (ad K 28) (fd K 28) ["coins", "many", "begin", "step"] (spM K (cn K) m__law_wrong) :=
  fn_miniDD T.F__law_wrong sc__law_wrong fun cdv A outer s H E hr gd => (ms_one (ms_ret (me_ty1' call_tuple_of u_tuple T.z_tuple (b_ofO (me_lc rfl sc__law_wrong.nd (mi_rng1' T.z_range (me_bl1' cr_lenAll u_len T.z_len (b_of (me_varC (i := 0))))) (blk_ok (own := [("k", 4)]) (by kernel_rfl)) (fun _ _ _ _ _ => (mg_nameL (i := 4) sc__law_wrong.nd)) (fun _ _ _ _ _ => (mts_one (mt_cmp (op_neD hr.units) m_ne (b_of (me_call' (ok__law_mark T) (hr.mono (by decide)) gd T.g__law_mark T.F__law_mark.kp T.b__law_mark passL (ma_cons' (me_varC (i := 1)) (ma_cons' (me_varC (i := 2)) (ma_cons' (me_varC (i := 3)) (ma_cons' (me_ix (ix_all hr) m_ixAll (b_of (me_ix (ix_all hr) m_ixAll (b_of (me_varC (i := 0))) (b_of (me_varL (i := 4))) (fun _ _ => rfl))) (b_of me_int) (fun _ _ => rfl)) ma_nil)))))) (b_of (me_ix (ix_all hr) m_ixAll (b_of (me_ix (ix_all hr) m_ixAll (b_of (me_varC (i := 0))) (b_of (me_varL (i := 4))) (fun _ _ => rfl))) (b_of me_int) (fun _ _ => rfl))) (nomark _)))) (fun _ _ _ _ _ => (me_varL (i := 4))))))))
theorem ok__law_rounds (T : Tx P K mg) : FnG P w K mg base (L2.CX P w) 4 (ad K 29) (fd K 29) ["coins", "many"] (spM K (cn K) m__law_rounds) :=
  fn_miniDD T.F__law_rounds sc__law_rounds fun cdv A outer s H E hr gd => (ms_cons (ms_setOL (i := 2) sc__law_rounds.nd (me_lst ma_nil))
  (ms_cons (ms_for (us := [3]) ps_own rfl (mi_rng1' T.z_range (me_varC (i := 1))) (mg_nameC (i := 3) sc__law_rounds.nd) (ms_one (ms_extL (i := 2) (b_ofO (me_lc rfl sc__law_rounds.nd (mi_rng1' T.z_range (me_varC (i := 1))) (blk_ok (own := [("step", 4)]) (by kernel_rfl)) (fun _ _ _ _ _ => (mg_nameL (i := 4) sc__law_rounds.nd)) (fun _ _ _ _ _ => mts_nil) (fun _ _ _ _ _ => (me_tup (ma_cons' (me_bl1' cr_lenAll u_len T.z_len (b_of (me_call' (ok__law_wrong T) (hr.mono (by decide)) gd T.g__law_wrong T.F__law_wrong.kp T.b__law_wrong passL (ma_cons' (me_varC (i := 0)) (ma_cons' (me_varC (i := 1)) (ma_cons' (me_varC (i := 3)) (ma_cons' (me_varL (i := 4)) ma_nil))))))) (ma_cons' (me_varC (i := 3)) (ma_cons' (me_varL (i := 4)) ma_nil))))))))))
  (ms_one (ms_frz (i := 2) (ms_ret (me_varL (i := 2)))))))
theorem ok__law_against_holds (T : Tx P K mg) : FnG P w K mg base (L2.CX P w) 9 (ad K 31) (fd K 31) ["state", "coins", "many", "good"] (spM K (cn K) m__law_against_holds) :=
  fn_miniDD T.F__law_against_holds sc__law_against_holds fun cdv A outer s H E hr gd => (ms_cons (ms_parVO (i := 9) (j := 10) rfl sc__law_against_holds.nd (me_bl1' cr_lenAll u_len T.z_len (b_of (me_varC (i := 1)))) (me_lst ma_nil))
  (ms_cons (ms_setLcO (i := 4) rfl sc__law_against_holds.nd rfl (by kernel_rfl) (sw_t rfl (by kernel_rfl) rfl (by kernel_rfl)) (mi_rng1' T.z_range (me_varL (i := 9))) (blk_ok (own := [("k", 5)]) (by kernel_rfl)) (fun _ _ _ _ _ => (mg_nameL (i := 5) sc__law_against_holds.nd)) (fun _ _ _ _ _ => mts_nil) (fun _ _ _ _ _ => (me_tup (ma_cons' (me_varL (i := 5)) ma_nil))))
  (ms_cons (ms_for (us := [5]) ps_own rfl (mi_rng1' T.z_range (me_varL (i := 9))) (mg_nameC (i := 5) sc__law_against_holds.nd) (ms_one (ms_extL (i := 4) (b_ofO (me_lc rfl sc__law_against_holds.nd (mi_rng1' T.z_range (me_varC (i := 5))) (blk_ok (own := [("j", 11)]) (by kernel_rfl)) (fun _ _ _ _ _ => (mg_nameL (i := 11) sc__law_against_holds.nd)) (fun _ _ _ _ _ => mts_nil) (fun _ _ _ _ _ => (me_tup (ma_cons' (me_varC (i := 5)) (ma_cons' (me_varL (i := 11)) ma_nil)))))))))
  (ms_cons (ms_for (us := [5]) ps_own rfl (mi_rng1' T.z_range (me_ite (mt_cmp op_ltAll m_ltAll (b_of (me_varL (i := 9))) (b_of me_int) (nomark _)) (me_varL (i := 9)) me_int)) (mg_nameC (i := 5) sc__law_against_holds.nd) (ms_one (ms_for (us := [11]) ps_own rfl (mi_rng1' T.z_range (me_varC (i := 5))) (mg_nameC (i := 11) sc__law_against_holds.nd) (ms_one (ms_extL (i := 4) (b_ofO (me_lc rfl sc__law_against_holds.nd (mi_rng1' T.z_range (me_varC (i := 11))) (blk_ok (own := [("i", 15)]) (by kernel_rfl)) (fun _ _ _ _ _ => (mg_nameL (i := 15) sc__law_against_holds.nd)) (fun _ _ _ _ _ => mts_nil) (fun _ _ _ _ _ => (me_tup (ma_cons' (me_varC (i := 11)) (ma_cons' (me_varC (i := 5)) (ma_cons' (me_varL (i := 15)) ma_nil))))))))))))
  (ms_cons (ms_frz (i := 4) (ms_for (us := [6]) ps_own rfl (mi_seq (me_varL (i := 4))) (mg_nameL (i := 6) sc__law_against_holds.nd) (ms_cons (ms_setL (i := 12) sc__law_against_holds.nd (me_ty1' call_tuple_of u_tuple T.z_tuple (b_ofO (me_lc rfl sc__law_against_holds.nd (mi_seq (me_varL (i := 6))) (blk_ok (own := [("at", 13)]) (by kernel_rfl)) (fun _ _ _ _ _ => (mg_nameL (i := 13) sc__law_against_holds.nd)) (fun _ _ _ _ _ => mts_nil) (fun _ _ _ _ _ => (me_ix (ix_all hr) m_ixAll (b_of (me_varC (i := 1))) (b_of (me_varL (i := 13))) (fun _ _ => rfl)))))))
  (ms_one (ms_if (mt_cmp (op_eqD hr.units) m_eq (b_ofO (me_lc rfl sc__law_against_holds.nd (mi_seq (me_call' (ok__law_rounds T) (hr.mono (by decide)) gd T.g__law_rounds T.F__law_rounds.kp T.b__law_rounds ps_body (ma_cons' (me_varL (i := 12)) (ma_cons' (me_varL (i := 2)) ma_nil)))) (blk_ok (own := [("own", 14)]) (by kernel_rfl)) (fun _ _ _ _ _ => (mg_nameL (i := 14) sc__law_against_holds.nd)) (fun _ _ _ _ _ => (mts_one (mt_cmp (op_eqD hr.units) m_eq (b_of (me_ix (ix_all hr) m_ixAll (b_of (me_varL (i := 14))) (b_of me_int) (fun _ _ => rfl))) (b_of me_int) (nomark _)))) (fun _ _ _ _ _ => (me_varL (i := 14))))) (b_ofO (me_lst ma_nil)) (nomark _)) (ms_one (ms_appL (i := 10) (me_varL (i := 6)))) ms_nil)))))
  (ms_cons (ms_frz (i := 4) (ms_setL (i := 6) sc__law_against_holds.nd (me_ite (mt_tru' (me_varBL (i := 4))) (me_call' (ok__law_pick T) (hr.mono (by decide)) gd T.g__law_pick T.F__law_pick.kp T.b__law_pick ps_body (ma_cons' (me_varL (i := 0)) (ma_cons' (me_varL (i := 4)) ma_nil))) (me_tup (ma_cons' me_int ma_nil)))))
  (ms_cons (ms_setL (i := 7) sc__law_against_holds.nd (me_ite (mt_not (mt_tru' (me_varBL (i := 4)))) me_str (me_ite (mt_cmp (op_inAll hr) m_in (b_of (me_varL (i := 6))) (me_varBL (i := 10)) (by kernel_rfl)) me_non me_str)))
  (ms_cons (ms_setL (i := 8) sc__law_against_holds.nd (m_of (me_lst (ma_cons' (me_tup (ma_cons' (m_of (me_lst (ma_cons' (me_varL (i := 6)) ma_nil))) (ma_cons' (me_varL (i := 7)) ma_nil))) (ma_cons' (me_tup (ma_cons' (m_of (me_lst (ma_cons' (me_bin op_addAll m_add (b_of (me_varL (i := 6))) (b_of (me_tup (ma_cons' (me_varL (i := 9)) ma_nil)))) ma_nil))) (ma_cons' me_str ma_nil))) (ma_cons' (me_tup (ma_cons' (m_of (me_lst (ma_cons' (me_tup ma_nil) ma_nil))) (ma_cons' me_str ma_nil))) (ma_cons' (me_tup (ma_cons' (m_of (me_lst (ma_cons' (me_tup (ma_cons' me_int (ma_cons' me_int ma_nil))) ma_nil))) (ma_cons' me_str ma_nil))) (ma_cons' (me_tup (ma_cons' (m_of (me_lst (ma_cons' (me_tup (ma_cons' me_bl ma_nil)) ma_nil))) (ma_cons' me_str ma_nil))) ma_nil))))))))
  (ms_cons (ms_if (mt_tru' (me_varBL (i := 10))) (ms_one (ms_setL (i := 8) sc__law_against_holds.nd (me_bin op_addAll m_add (b_of (me_varL (i := 8))) (b_ofO (me_lst (ma_cons' (me_tup (ma_cons' (m_of (me_lst (ma_cons' (me_ix (ix_all hr) m_ixAll (me_varBL (i := 10)) (b_of (me_un un_neg un_negM (b_of me_int))) (fun _ _ => rfl)) ma_nil))) (ma_cons' me_non ma_nil))) (ma_cons' (me_tup (ma_cons' (m_of (me_lst (ma_cons' (me_revT (b_of (me_ix (ix_all hr) m_ixAll (me_varBL (i := 10)) (b_of (me_un un_neg un_negM (b_of me_int))) (fun _ _ => rfl)))) ma_nil))) (ma_cons' me_non ma_nil))) ma_nil))))))) ms_nil)
  (ms_one (ms_ret (me_and (me_call' (ok__law_shown T) (hr.mono (by decide)) gd T.g__law_shown T.F__law_shown.kp T.b__law_shown ps_body (ma_cons' (me_gfn' T.g_accept_against rfl) (ma_cons' (m_of (me_lst (ma_cons' (me_varC (i := 1)) (ma_cons' (me_varL (i := 2)) ma_nil)))) (ma_cons' (me_varL (i := 8)) ma_nil)))) (me_one (me_or (me_cmp op_geAll m_geAll (b_of (me_varL (i := 9))) (b_of me_int) (nomark _)) (me_one (me_cmp (op_eqD hr.units) m_eq (b_of (me_cmp (op_neD hr.units) m_ne (me_varBL (i := 10)) (b_ofO (me_lst ma_nil)) (nomark _))) (b_of (me_cmp (op_eqD hr.units) m_eq (b_of (me_varL (i := 3))) (b_of (me_tup ma_nil)) (nomark _))) (nomark _)))))))))))))))))
theorem ok__law_rounds_hold (T : Tx P K mg) : FnG P w K mg base (L2.CX P w) 10 (ad K 30) (fd K 30) ["state"] (spM K (cn K) m__law_rounds_hold) :=
  fn_miniDD T.F__law_rounds_hold sc__law_rounds_hold fun cdv A outer s H E hr gd => (ms_cons (ms_setL (i := 1) sc__law_rounds_hold.nd (me_bin op_addAll m_add (b_of me_int) (b_of (me_call' (ok__law_draw T) (hr.mono (by decide)) gd T.g__law_draw T.F__law_draw.kp T.b__law_draw ps_body (ma_cons' (me_varL (i := 0)) (ma_cons' (me_call' (ok__law_pick T) (hr.mono (by decide)) gd T.g__law_pick T.F__law_pick.kp T.b__law_pick ps_body (ma_cons' (me_varL (i := 0)) (ma_cons' (m_of (me_lst (ma_cons' me_int (ma_cons' me_int ma_nil)))) ma_nil))) ma_nil))))))
  (ms_cons (ms_par (i := 10) (j := 11) rfl sc__law_rounds_hold.nd rfl rfl (by decide) (by kernel_rfl) (by kernel_rfl) (me_call' (ok__law_draw T) (hr.mono (by decide)) gd T.g__law_draw T.F__law_draw.kp T.b__law_draw ps_body (ma_cons' (me_varL (i := 0)) (ma_cons' (me_varL (i := 1)) ma_nil))) (me_call' (ok__law_draw T) (hr.mono (by decide)) gd T.g__law_draw T.F__law_draw.kp T.b__law_draw ps_body (ma_cons' (me_varL (i := 0)) (ma_cons' (me_varL (i := 1)) ma_nil))) (by kernel_rfl))
  (ms_cons (ms_setC (i := 2) sc__law_rounds_hold.nd (me_call' (ok__law_coins T) (hr.mono (by decide)) gd T.g__law_coins T.F__law_coins.kp T.b__law_coins ps_body (ma_cons' (me_varL (i := 0)) (ma_cons' (me_varL (i := 1)) (ma_cons' (me_varL (i := 10)) (ma_cons' (me_varL (i := 11)) (ma_cons' (me_call' (ok__law_draw T) (hr.mono (by decide)) gd T.g__law_draw T.F__law_draw.kp T.b__law_draw ps_body (ma_cons' (me_varL (i := 0)) (ma_cons' me_int ma_nil))) ma_nil)))))))
  (ms_cons (ms_setL (i := 3) sc__law_rounds_hold.nd (me_call' (ok__law_rounds T) (hr.mono (by decide)) gd T.g__law_rounds T.F__law_rounds.kp T.b__law_rounds ps_body (ma_cons' (me_varC (i := 2)) (ma_cons' (me_varL (i := 1)) ma_nil))))
  (ms_cons (ms_setL (i := 4) sc__law_rounds_hold.nd (me_ty1' call_tuple_of u_tuple T.z_tuple (b_ofO (me_lc rfl sc__law_rounds_hold.nd (mi_seq (me_varL (i := 3))) (blk_ok (own := [("wrong", 8), ("own", 13), ("other", 14)]) (by kernel_rfl)) (fun _ _ _ _ _ => (mg_tupX rfl (mgs_cons' (mg_nameL (i := 8) sc__law_rounds_hold.nd) (mgs_cons' (mg_nameL (i := 13) sc__law_rounds_hold.nd) (mgs_cons' (mg_nameL (i := 14) sc__law_rounds_hold.nd) mgs_nil))))) (fun _ _ _ _ _ => (mts_one (mt_cmp (op_eqD hr.units) m_eq (b_of (me_varL (i := 8))) (b_of me_int) (nomark _)))) (fun _ _ _ _ _ => (me_tup (ma_cons' (me_varL (i := 13)) (ma_cons' (me_varL (i := 14)) ma_nil))))))))
  (ms_cons (ms_setL (i := 5) sc__law_rounds_hold.nd (me_ite (mt_cmp (op_eqD hr.units) m_eq (b_of (me_bl1' cr_lenAll u_len T.z_len (b_of (me_varL (i := 4))))) (b_of me_int) (nomark _)) (me_bin op_addAll m_add (b_of (me_tup (ma_cons' me_str ma_nil))) (b_of (me_ix (ix_all hr) m_ixAll (b_of (me_varL (i := 4))) (b_of me_int) (fun _ _ => rfl)))) (me_ite (mt_tru' (b_of (me_varL (i := 4)))) (me_tup (ma_cons' me_str (ma_cons' (me_varL (i := 4)) ma_nil))) (me_tup (ma_cons' me_str ma_nil)))))
  (ms_cons (ms_setL (i := 6) sc__law_rounds_hold.nd (me_ty1' call_tuple_of u_tuple T.z_tuple (b_ofO (me_lc rfl sc__law_rounds_hold.nd (mi_rng1' T.z_range (me_varL (i := 1))) (blk_ok (own := [("mark", 12)]) (by kernel_rfl)) (fun _ _ _ _ _ => (mg_nameL (i := 12) sc__law_rounds_hold.nd)) (fun _ _ _ _ _ => (mts_one (mt_cmp (op_notinAll hr) m_notin (b_of (me_varL (i := 12))) (b_ofO (me_lc rfl sc__law_rounds_hold.nd (mi_seq (me_varC (i := 2))) (blk_ok (own := [("year", 15), ("own", 13)]) (by kernel_rfl)) (fun _ _ _ _ _ => (mg_tupX rfl (mgs_cons' (mg_nameL (i := 15) sc__law_rounds_hold.nd) (mgs_cons' (mg_nameL (i := 13) sc__law_rounds_hold.nd) mgs_nil)))) (fun _ _ _ _ _ => mts_nil) (fun _ _ _ _ _ => (me_varL (i := 13))))) (by kernel_rfl)))) (fun _ _ _ _ _ => (me_varL (i := 12)))))))
  (ms_cons (ms_setL (i := 7) sc__law_rounds_hold.nd (m_of (me_lst (ma_cons' (me_call' (ok_rounds_for T) (hr.mono (by decide)) gd T.g_rounds_for T.F_rounds_for.kp T.b_rounds_for ps_body (ma_cons' (me_varC (i := 2)) (ma_cons' (me_varL (i := 1)) ma_nil))) (ma_cons' (me_call' (ok_judge_rounds T) (hr.mono (by decide)) gd T.g_judge_rounds T.F_judge_rounds.kp T.b_judge_rounds ps_body (ma_cons' (me_varC (i := 2)) (ma_cons' (me_varL (i := 1)) ma_nil))) (ma_cons' (me_call' (ok_best_round T) (hr.mono (by decide)) gd T.g_best_round T.F_best_round.kp T.b_best_round ps_body (ma_cons' (me_varC (i := 2)) (ma_cons' (me_varL (i := 1)) ma_nil))) (ma_cons' (me_call' (ok_missing_marks T) (hr.mono (by decide)) gd T.g_missing_marks T.F_missing_marks.kp T.b_missing_marks ps_body (ma_cons' (me_varC (i := 2)) (ma_cons' (me_varL (i := 1)) ma_nil))) (ma_cons' (me_call' (ok_wrong_coins T) (hr.mono (by decide)) gd T.g_wrong_coins T.F_wrong_coins.kp T.b_wrong_coins ps_body (ma_cons' (me_varC (i := 2)) (ma_cons' (me_varL (i := 1)) (ma_cons' (me_varL (i := 10)) (ma_cons' (me_varL (i := 11)) ma_nil))))) ma_nil))))))))
  (ms_cons (ms_setL (i := 8) sc__law_rounds_hold.nd (me_call' (ok__law_wrong T) (hr.mono (by decide)) gd T.g__law_wrong T.F__law_wrong.kp T.b__law_wrong ps_body (ma_cons' (me_varC (i := 2)) (ma_cons' (me_varL (i := 1)) (ma_cons' (me_varL (i := 10)) (ma_cons' (me_varL (i := 11)) ma_nil))))))
  (ms_cons (ms_if (mt_not (mt_tru' (b_of (me_call' (ok__law_same T) (hr.mono (by decide)) gd T.g__law_same T.F__law_same.kp T.b__law_same ps_body (ma_cons' (me_varL (i := 7)) (ma_cons' (m_of (me_lst (ma_cons' (me_varL (i := 4)) (ma_cons' (me_varL (i := 5)) (ma_cons' (me_bl1' (cr_minY hr rfl) u_minY T.z_min (b_of (me_varL (i := 3)))) (ma_cons' (me_varL (i := 6)) (ma_cons' (me_varL (i := 8)) ma_nil))))))) ma_nil)))))) (ms_one (ms_ret me_bl)) ms_nil)
  (ms_cons (ms_setL (i := 9) sc__law_rounds_hold.nd (m_of (me_lst (ma_cons' (me_tup (ma_cons' (m_of (me_lst (ma_cons' (me_varL (i := 10)) (ma_cons' (me_varL (i := 11)) (ma_cons' (me_bl1' cr_lenAll u_len T.z_len (b_of (me_varL (i := 8)))) ma_nil))))) (ma_cons' me_non ma_nil))) (ma_cons' (me_tup (ma_cons' (m_of (me_lst (ma_cons' (me_varL (i := 10)) (ma_cons' (me_varL (i := 11)) (ma_cons' (me_bin op_sub m_sub (b_of (me_bl1' cr_lenAll u_len T.z_len (b_of (me_varL (i := 8))))) (b_of me_int)) ma_nil))))) (ma_cons' me_str ma_nil))) (ma_cons' (me_tup (ma_cons' (m_of (me_lst (ma_cons' (me_varL (i := 1)) (ma_cons' (me_varL (i := 11)) (ma_cons' me_int ma_nil))))) (ma_cons' me_str ma_nil))) (ma_cons' (me_tup (ma_cons' (m_of (me_lst (ma_cons' (me_varL (i := 10)) (ma_cons' me_bl (ma_cons' me_int ma_nil))))) (ma_cons' me_str ma_nil))) ma_nil)))))))
  (ms_cons (ms_setL (i := 9) sc__law_rounds_hold.nd (me_bin op_addAll m_add (b_of (me_varL (i := 9))) (b_ofO (me_lst (ma_cons' (me_tup (ma_cons' (m_of (me_lst (ma_cons' (me_varL (i := 10)) (ma_cons' (me_varL (i := 11)) (ma_cons' me_non ma_nil))))) (ma_cons' me_str ma_nil))) ma_nil)))))
  (ms_cons (ms_if (mt_not (mt_tru' (b_of (me_call' (ok__law_shown T) (hr.mono (by decide)) gd T.g__law_shown T.F__law_shown.kp T.b__law_shown ps_body (ma_cons' (me_gfn' T.g_accept_round rfl) (ma_cons' (m_of (me_lst (ma_cons' (me_varC (i := 2)) (ma_cons' (me_varL (i := 1)) ma_nil)))) (ma_cons' (me_varL (i := 9)) ma_nil))))))) (ms_one (ms_ret me_bl)) ms_nil)
  (ms_one (ms_ret (me_call' (ok__law_against_holds T) (hr.mono (by decide)) gd T.g__law_against_holds T.F__law_against_holds.kp T.b__law_against_holds ps_body (ma_cons' (me_varL (i := 0)) (ma_cons' (me_varC (i := 2)) (ma_cons' (me_varL (i := 1)) (ma_cons' (me_varL (i := 4)) ma_nil))))))))))))))))))))
theorem ok__law_years_hold (T : Tx P K mg) : FnG P w K mg base (L2.CX P w) 6 (ad K 32) (fd K 32) ["state"] (spM K (cn K) m__law_years_hold) :=
  fn_miniDD T.F__law_years_hold sc__law_years_hold fun cdv A outer s H E hr gd => (ms_cons (ms_setC (i := 1) sc__law_years_hold.nd (me_bin op_addAll m_add (b_of me_int) (b_of (me_call' (ok__law_draw T) (hr.mono (by decide)) gd T.g__law_draw T.F__law_draw.kp T.b__law_draw ps_body (ma_cons' (me_varL (i := 0)) (ma_cons' (me_call' (ok__law_pick T) (hr.mono (by decide)) gd T.g__law_pick T.F__law_pick.kp T.b__law_pick ps_body (ma_cons' (me_varL (i := 0)) (ma_cons' (m_of (me_lst (ma_cons' me_int (ma_cons' me_int ma_nil)))) ma_nil))) ma_nil))))))
  (ms_cons (ms_asg (us := [11, 12, 13]) (me_tup (ma_cons' (me_call' (ok__law_draw T) (hr.mono (by decide)) gd T.g__law_draw T.F__law_draw.kp T.b__law_draw ps_body (ma_cons' (me_varL (i := 0)) (ma_cons' (me_varC (i := 1)) ma_nil))) (ma_cons' (me_call' (ok__law_draw T) (hr.mono (by decide)) gd T.g__law_draw T.F__law_draw.kp T.b__law_draw ps_body (ma_cons' (me_varL (i := 0)) (ma_cons' (me_varC (i := 1)) ma_nil))) (ma_cons' (me_call' (ok__law_draw T) (hr.mono (by decide)) gd T.g__law_draw T.F__law_draw.kp T.b__law_draw ps_body (ma_cons' (me_varL (i := 0)) (ma_cons' (me_varC (i := 1)) ma_nil))) ma_nil)))) (mg_tupX rfl (mgs_cons' (mg_nameC (i := 11) sc__law_years_hold.nd) (mgs_cons' (mg_nameC (i := 12) sc__law_years_hold.nd) (mgs_cons' (mg_nameC (i := 13) sc__law_years_hold.nd) mgs_nil)))))
  (ms_cons (ms_setL (i := 2) sc__law_years_hold.nd (me_call' (ok__law_pick T) (hr.mono (by decide)) gd T.g__law_pick T.F__law_pick.kp T.b__law_pick ps_body (ma_cons' (me_varL (i := 0)) (ma_cons' (m_of (me_lst (ma_cons' (me_bin op_sub m_sub (b_of (me_call' (ok__law_draw T) (hr.mono (by decide)) gd T.g__law_draw T.F__law_draw.kp T.b__law_draw ps_body (ma_cons' (me_varL (i := 0)) (ma_cons' me_int ma_nil)))) (b_of me_int)) (ma_cons' (me_un un_neg un_negM (b_of me_int)) (ma_cons' me_int ma_nil))))) ma_nil))))
  (ms_cons (ms_setL (i := 3) sc__law_years_hold.nd (me_bl1' (cr_minY hr rfl) u_minY T.z_min (b_ofO (me_lst (ma_cons' me_int (ma_cons' (me_bin op_addAll m_add (b_of (me_varL (i := 2))) (b_of (me_call' (ok__law_draw T) (hr.mono (by decide)) gd T.g__law_draw T.F__law_draw.kp T.b__law_draw ps_body (ma_cons' (me_varL (i := 0)) (ma_cons' (me_call' (ok__law_pick T) (hr.mono (by decide)) gd T.g__law_pick T.F__law_pick.kp T.b__law_pick ps_body (ma_cons' (me_varL (i := 0)) (ma_cons' (m_of (me_lst (ma_cons' me_int (ma_cons' me_int ma_nil)))) ma_nil))) ma_nil))))) ma_nil))))))
  (ms_cons (ms_setL (i := 4) sc__law_years_hold.nd (me_ty1' call_tuple_of u_tuple T.z_tuple (b_ofO (me_lc rfl sc__law_years_hold.nd (mi_rng2' T.z_range (me_varL (i := 2)) (me_bin op_addAll m_add (b_of (me_varL (i := 3))) (b_of me_int))) (blk_ok (own := [("year", 7)]) (by kernel_rfl)) (fun _ _ _ _ _ => (mg_nameL (i := 7) sc__law_years_hold.nd)) (fun _ _ _ _ _ => mts_nil) (fun _ _ _ _ _ => (me_call' (ok__law_mark T) (hr.mono (by decide)) gd T.g__law_mark T.F__law_mark.kp T.b__law_mark passL (ma_cons' (me_varC (i := 1)) (ma_cons' (me_varC (i := 11)) (ma_cons' (me_varC (i := 12)) (ma_cons' (me_varL (i := 7)) ma_nil))))))))))
  (ms_cons (ms_setL (i := 5) sc__law_years_hold.nd (me_ty1' call_tuple_of u_tuple T.z_tuple (b_ofO (me_lc rfl sc__law_years_hold.nd (mi_rng2' T.z_range (me_varL (i := 2)) (me_bin op_addAll m_add (b_of (me_varL (i := 3))) (b_of me_int))) (blk_ok (own := [("year", 7)]) (by kernel_rfl)) (fun _ _ _ _ _ => (mg_nameL (i := 7) sc__law_years_hold.nd)) (fun _ _ _ _ _ => (mts_one (mt_cmp (op_eqD hr.units) m_eq (b_of (me_call' (ok__law_mark T) (hr.mono (by decide)) gd T.g__law_mark T.F__law_mark.kp T.b__law_mark passL (ma_cons' (me_varC (i := 1)) (ma_cons' (me_varC (i := 11)) (ma_cons' (me_varC (i := 12)) (ma_cons' (me_varL (i := 7)) ma_nil)))))) (b_of (me_varC (i := 13))) (nomark _)))) (fun _ _ _ _ _ => (me_varL (i := 7)))))))
  (ms_cons (ms_setL (i := 6) sc__law_years_hold.nd (me_lenSet rfl T.z_len T.z_set (b_ofO (me_lc rfl sc__law_years_hold.nd (mi_rng1' T.z_range (me_varC (i := 1))) (blk_ok (own := [("year", 7)]) (by kernel_rfl)) (fun _ _ _ _ _ => (mg_nameL (i := 7) sc__law_years_hold.nd)) (fun _ _ _ _ _ => mts_nil) (fun _ _ _ _ _ => (me_call' (ok__law_mark T) (hr.mono (by decide)) gd T.g__law_mark T.F__law_mark.kp T.b__law_mark passL (ma_cons' (me_varC (i := 1)) (ma_cons' me_int (ma_cons' (me_varC (i := 12)) (ma_cons' (me_varL (i := 7)) ma_nil))))))))))
  (ms_cons (ms_setC (i := 7) sc__law_years_hold.nd (me_call' (ok__law_draw T) (hr.mono (by decide)) gd T.g__law_draw T.F__law_draw.kp T.b__law_draw ps_body (ma_cons' (me_varL (i := 0)) (ma_cons' me_int ma_nil))))
  (ms_cons (ms_setC (i := 8) sc__law_years_hold.nd (me_ty1' call_tuple_of u_tuple T.z_tuple (b_ofO (me_lc rfl sc__law_years_hold.nd (mi_rng1' T.z_range (me_bin op_addAll m_add (b_of me_int) (b_of (me_call' (ok__law_draw T) (hr.mono (by decide)) gd T.g__law_draw T.F__law_draw.kp T.b__law_draw ps_body (ma_cons' (me_varL (i := 0)) (ma_cons' (me_call' (ok__law_pick T) (hr.mono (by decide)) gd T.g__law_pick T.F__law_pick.kp T.b__law_pick ps_body (ma_cons' (me_varL (i := 0)) (ma_cons' (m_of (me_lst (ma_cons' me_int (ma_cons' me_int ma_nil)))) ma_nil))) ma_nil)))))) (blk_ok (own := [("k", 14)]) (by kernel_rfl)) (fun _ _ _ _ _ => (mg_nameL (i := 14) sc__law_years_hold.nd)) (fun _ _ _ _ _ => mts_nil) (fun _ _ _ _ _ => (me_call' (ok__law_mark T) (hr.mono (by decide)) gd T.g__law_mark T.F__law_mark.kp T.b__law_mark passL (ma_cons' (me_varC (i := 1)) (ma_cons' (me_varC (i := 11)) (ma_cons' (me_varC (i := 12)) (ma_cons' (me_bin op_addAll m_add (b_of (me_varC (i := 7))) (b_of (me_varL (i := 14)))) ma_nil))))))))))
  (ms_cons (ms_setC (i := 8) sc__law_years_hold.nd (me_ite (mt_cmp op_gtAll m_gtAll (b_of (me_call' (ok__law_draw T) (hr.mono (by decide)) gd T.g__law_draw T.F__law_draw.kp T.b__law_draw ps_body (ma_cons' (me_varL (i := 0)) (ma_cons' me_int ma_nil)))) (b_of me_int) (nomark _)) (me_varC (i := 8)) (me_bin op_addAll m_add (b_of (me_slcX (b_of (me_varC (i := 8))) mp_no (mp_some (b_of (me_un un_neg un_negM (b_of me_int)))))) (b_of (me_tup (ma_cons' (me_call' (ok__law_draw T) (hr.mono (by decide)) gd T.g__law_draw T.F__law_draw.kp T.b__law_draw ps_body (ma_cons' (me_varL (i := 0)) (ma_cons' (me_varC (i := 1)) ma_nil))) ma_nil))))))
  (ms_cons (ms_setL (i := 9) sc__law_years_hold.nd (me_ty1' call_tuple_of u_tuple T.z_tuple (b_ofO (me_lc rfl sc__law_years_hold.nd (mi_rng1' T.z_range (me_varL (i := 6))) (blk_ok (own := [("rest", 15)]) (by kernel_rfl)) (fun _ _ _ _ _ => (mg_nameC (i := 15) sc__law_years_hold.nd)) (fun _ _ _ _ _ => (mts_one (mt_not (mt_tru' (b_ofO (me_lc rfl sc__law_years_hold.nd (mi_rng1' T.z_range (me_bl1' cr_lenAll u_len T.z_len (b_of (me_varC (i := 8))))) (blk_ok (own := [("k", 14)]) (by kernel_rfl)) (fun _ _ _ _ _ => (mg_nameL (i := 14) sc__law_years_hold.nd)) (fun _ _ _ _ _ => (mts_one (mt_cmp (op_neD hr.units) m_ne (b_of (me_call' (ok__law_mark T) (hr.mono (by decide)) gd T.g__law_mark T.F__law_mark.kp T.b__law_mark passL (ma_cons' (me_varC (i := 1)) (ma_cons' (me_varC (i := 11)) (ma_cons' (me_varC (i := 12)) (ma_cons' (me_bin op_addAll m_add (b_of (me_varC (i := 15))) (b_of (me_varL (i := 14)))) ma_nil)))))) (b_of (me_ix (ix_all hr) m_ixAll (b_of (me_varC (i := 8))) (b_of (me_varL (i := 14))) (fun _ _ => rfl))) (nomark _)))) (fun _ _ _ _ _ => (me_varL (i := 14))))))))) (fun _ _ _ _ _ => (me_varC (i := 15)))))))
  (ms_cons (ms_setL (i := 10) sc__law_years_hold.nd (m_of (me_lst (ma_cons' (me_call' (ok_marks_shown T) (hr.mono (by decide)) gd T.g_marks_shown T.F_marks_shown.kp T.b_marks_shown ps_body (ma_cons' (me_varC (i := 1)) (ma_cons' (me_varC (i := 11)) (ma_cons' (me_varC (i := 12)) (ma_cons' (me_varL (i := 2)) (ma_cons' (me_varL (i := 3)) ma_nil)))))) (ma_cons' (me_call' (ok_years_of T) (hr.mono (by decide)) gd T.g_years_of T.F_years_of.kp T.b_years_of ps_body (ma_cons' (me_varC (i := 1)) (ma_cons' (me_varC (i := 11)) (ma_cons' (me_varC (i := 12)) (ma_cons' (me_varC (i := 13)) (ma_cons' (me_varL (i := 2)) (ma_cons' (me_varL (i := 3)) ma_nil))))))) (ma_cons' (me_call' (ok_goes_round T) (hr.mono (by decide)) gd T.g_goes_round T.F_goes_round.kp T.b_goes_round ps_body (ma_cons' (me_varC (i := 1)) (ma_cons' (me_varC (i := 12)) ma_nil))) (ma_cons' (me_call' (ok_year_left T) (hr.mono (by decide)) gd T.g_year_left T.F_year_left.kp T.b_year_left ps_body (ma_cons' (me_varC (i := 1)) (ma_cons' (me_varC (i := 11)) (ma_cons' (me_varC (i := 12)) (ma_cons' (me_varC (i := 8)) ma_nil))))) ma_nil)))))))
  (ms_one (ms_ret (me_call' (ok__law_same T) (hr.mono (by decide)) gd T.g__law_same T.F__law_same.kp T.b__law_same ps_body (ma_cons' (me_varL (i := 10)) (ma_cons' (m_of (me_lst (ma_cons' (me_varL (i := 4)) (ma_cons' (me_varL (i := 5)) (ma_cons' (me_varL (i := 6)) (ma_cons' (me_varL (i := 9)) ma_nil)))))) ma_nil)))))))))))))))))
theorem ok__law_great_holds (T : Tx P K mg) : FnG P w K mg base (L2.CX P w) 7 (ad K 33) (fd K 33) ["state"] (spM K (cn K) m__law_great_holds) :=
  fn_miniDD T.F__law_great_holds sc__law_great_holds fun cdv A outer s H E hr gd => (ms_cons (ms_asg (us := [6, 7, 8]) (me_tup (ma_cons' me_int (ma_cons' (me_call' (ok__law_draw T) (hr.mono (by decide)) gd T.g__law_draw T.F__law_draw.kp T.b__law_draw ps_body (ma_cons' (me_varC (i := 0)) (ma_cons' me_int ma_nil))) (ma_cons' (me_bin op_addAll m_add (b_of me_int) (b_of (me_bin op_mulAll m_mulAll (b_of me_int) (b_of (me_call' (ok__law_draw T) (hr.mono (by decide)) gd T.g__law_draw T.F__law_draw.kp T.b__law_draw ps_body (ma_cons' (me_varC (i := 0)) (ma_cons' me_int ma_nil))))))) ma_nil)))) (mg_tupX rfl (mgs_cons' (mg_nameC (i := 6) sc__law_great_holds.nd) (mgs_cons' (mg_nameC (i := 7) sc__law_great_holds.nd) (mgs_cons' (mg_nameC (i := 8) sc__law_great_holds.nd) mgs_nil)))))
  (ms_cons (ms_setL (i := 1) sc__law_great_holds.nd (m_of (me_bl1O' (cr_sortedAll rfl) u_sorted T.z_sorted (b_of (me_bin op_addAll m_add (b_ofO (me_lc rfl sc__law_great_holds.nd (mi_rng1' T.z_range me_int) (blk_ok (own := [("k", 11)]) (by kernel_rfl)) (fun _ _ _ _ _ => (mg_nameL (i := 11) sc__law_great_holds.nd)) (fun _ _ _ _ _ => mts_nil) (fun _ _ _ _ _ => (me_bin op_sub m_sub (b_of (me_call' (ok__law_draw T) (hr.mono (by decide)) gd T.g__law_draw T.F__law_draw.kp T.b__law_draw passL (ma_cons' (me_varC (i := 0)) (ma_cons' me_int ma_nil)))) (b_of me_int))))) (b_ofO (me_lst (ma_cons' (me_un un_neg un_negM (b_of me_int)) (ma_cons' me_int ma_nil)))))))))
  (ms_cons (ms_setC (i := 2) sc__law_great_holds.nd (me_ty1' call_tuple_of u_tuple T.z_tuple (b_ofO (me_lc rfl sc__law_great_holds.nd (mi_seq (me_varL (i := 1))) (blk_ok (own := [("year", 10)]) (by kernel_rfl)) (fun _ _ _ _ _ => (mg_nameL (i := 10) sc__law_great_holds.nd)) (fun _ _ _ _ _ => mts_nil) (fun _ _ _ _ _ => (me_tup (ma_cons' (me_varL (i := 10)) (ma_cons' (me_call' (ok__law_mark T) (hr.mono (by decide)) gd T.g__law_mark T.F__law_mark.kp T.b__law_mark passL (ma_cons' (me_varC (i := 6)) (ma_cons' (me_varC (i := 7)) (ma_cons' (me_varC (i := 8)) (ma_cons' (me_varL (i := 10)) ma_nil))))) ma_nil))))))))
  (ms_cons (ms_setL (i := 3) sc__law_great_holds.nd (me_bin op_addAll m_add (b_of (me_slcX (b_of (me_varC (i := 2))) mp_no (mp_some (b_of me_int)))) (b_of (me_tup (ma_cons' (me_tup (ma_cons' me_int (ma_cons' (me_bin op_mod m_mod (b_of (me_ty1' call_int1 u_int T.z_int (b_of (me_bin op_addAll m_add (b_of (me_ix (ix_all hr) m_ixAll (b_of (me_ix (ix_all hr) m_ixAll (b_of (me_varC (i := 2))) (b_of me_int) (fun _ _ => rfl))) (b_of me_int) (fun _ _ => rfl))) (b_of me_int))))) (b_of me_int)) ma_nil))) ma_nil)))))
  (ms_cons (ms_setL (i := 4) sc__law_great_holds.nd (m_of (me_lst (ma_cons' (me_ix (ix_all hr) m_ixAll (b_of (me_call' (ok_best_round T) (hr.mono (by decide)) gd T.g_best_round T.F_best_round.kp T.b_best_round ps_body (ma_cons' (me_varC (i := 2)) (ma_cons' (me_varC (i := 6)) ma_nil)))) (b_of me_int) (fun _ _ => rfl)) (ma_cons' (me_call' (ok_wrong_coins T) (hr.mono (by decide)) gd T.g_wrong_coins T.F_wrong_coins.kp T.b_wrong_coins ps_body (ma_cons' (me_varL (i := 3)) (ma_cons' (me_varC (i := 6)) (ma_cons' (me_varC (i := 7)) (ma_cons' (me_varC (i := 8)) ma_nil))))) (ma_cons' (me_cmp op_leAll m_leAll (b_of (me_ix (ix_all hr) m_ixAll (b_of (me_call' (ok_best_round T) (hr.mono (by decide)) gd T.g_best_round T.F_best_round.kp T.b_best_round ps_body (ma_cons' (me_varL (i := 3)) (ma_cons' (me_varC (i := 6)) ma_nil)))) (b_of me_int) (fun _ _ => rfl))) (b_of me_int) (nomark _)) (ma_cons' (me_bl1' cr_lenAll u_len T.z_len (b_of (me_call' (ok_marks_shown T) (hr.mono (by decide)) gd T.g_marks_shown T.F_marks_shown.kp T.b_marks_shown ps_body (ma_cons' (me_varC (i := 6)) (ma_cons' (me_varC (i := 7)) (ma_cons' (me_varC (i := 8)) (ma_cons' (me_un un_neg un_negM (b_of me_int)) (ma_cons' me_int ma_nil)))))))) ma_nil)))))))
  (ms_cons (ms_if (mt_not (mt_tru' (b_of (me_call' (ok__law_same T) (hr.mono (by decide)) gd T.g__law_same T.F__law_same.kp T.b__law_same ps_body (ma_cons' (me_varL (i := 4)) (ma_cons' (m_of (me_lst (ma_cons' me_int (ma_cons' (me_tup (ma_cons' me_int ma_nil)) (ma_cons' me_bl (ma_cons' me_int ma_nil)))))) ma_nil)))))) (ms_one (ms_ret me_bl)) ms_nil)
  (ms_cons (ms_setLc (i := 5) rfl sc__law_great_holds.nd rfl (by kernel_rfl) (sw_t rfl (by kernel_rfl) rfl (by kernel_rfl)) (mi_rng2' T.z_range me_int me_int) (blk_ok (own := [("own", 9)]) (by kernel_rfl)) (fun _ _ _ _ _ => (mg_nameL (i := 9) sc__law_great_holds.nd)) (fun _ _ _ _ _ => (mts_one (mt_tru' (b_ofO (me_lc rfl sc__law_great_holds.nd (mi_seq (me_call' (ok__law_rounds T) (hr.mono (by decide)) gd T.g__law_rounds T.F__law_rounds.kp T.b__law_rounds passL (ma_cons' (me_slcX (b_of (me_varC (i := 2))) mp_no (mp_some (b_of me_int))) (ma_cons' (me_varL (i := 9)) ma_nil)))) (blk_ok (own := [("row", 12)]) (by kernel_rfl)) (fun _ _ _ _ _ => (mg_nameL (i := 12) sc__law_great_holds.nd)) (fun _ _ _ _ _ => (mts_one (mt_cmp (op_eqD hr.units) m_eq (b_of (me_ix (ix_all hr) m_ixAll (b_of (me_varL (i := 12))) (b_of me_int) (fun _ _ => rfl))) (b_of me_int) (nomark _)))) (fun _ _ _ _ _ => (me_varL (i := 12)))))))) (fun _ _ _ _ _ => (me_varL (i := 9))))
  (ms_one (ms_ret (me_call' (ok__law_same T) (hr.mono (by decide)) gd T.g__law_same T.F__law_same.kp T.b__law_same ps_body (ma_cons' (m_of (me_lst (ma_cons' (me_call' (ok_fewest_marks T) (hr.mono (by decide)) gd T.g_fewest_marks T.F_fewest_marks.kp T.b_fewest_marks ps_body (ma_cons' (me_slcX (b_of (me_varC (i := 2))) mp_no (mp_some (b_of me_int))) ma_nil)) (ma_cons' (me_call' (ok_fewest_marks T) (hr.mono (by decide)) gd T.g_fewest_marks T.F_fewest_marks.kp T.b_fewest_marks ps_body (ma_cons' (me_tup ma_nil) ma_nil)) (ma_cons' (me_call' (ok_fewest_marks T) (hr.mono (by decide)) gd T.g_fewest_marks T.F_fewest_marks.kp T.b_fewest_marks ps_body (ma_cons' (me_tup (ma_cons' (me_tup (ma_cons' me_int (ma_cons' me_int ma_nil))) ma_nil)) ma_nil)) (ma_cons' (me_call' (ok_fewest_marks T) (hr.mono (by decide)) gd T.g_fewest_marks T.F_fewest_marks.kp T.b_fewest_marks ps_body (ma_cons' (me_tup (ma_cons' (me_tup (ma_cons' me_int (ma_cons' me_int ma_nil))) (ma_cons' (me_tup (ma_cons' me_int (ma_cons' me_int ma_nil))) ma_nil))) ma_nil)) ma_nil)))))) (ma_cons' (m_of (me_lst (ma_cons' (me_ix (ix_all hr) m_ixAll (b_of (me_varL (i := 5))) (b_of me_int) (fun _ _ => rfl)) (ma_cons' me_int (ma_cons' me_int (ma_cons' me_non ma_nil)))))) ma_nil))))))))))))
theorem ok_law (T : Tx P K mg) : FnG P w K mg base (L2.CX P w) 11 (ad K 34) (fd K 34) ["script"] (spM K (cn K) m_law) :=
  fn_miniDD T.F_law sc_law fun cdv A outer s H E hr gd => (ms_cons (ms_mk (i := 1) sc_law.nd (ok__law_start T) (hr.mono (by decide)) gd T.g__law_start T.F__law_start.kp T.b__law_start ps_body (ma_cons' (me_varL (i := 0)) ma_nil))
  (ms_cons (ms_if (mt_cmp (op_eqD hr.units) m_eq (b_of (me_call' (ok__law_draw T) (hr.mono (by decide)) gd T.g__law_draw T.F__law_draw.kp T.b__law_draw ps_body (ma_cons' (me_varL (i := 1)) (ma_cons' me_int ma_nil)))) (b_of me_int) (nomark _)) (ms_one (ms_ret (me_call' (ok__law_great_holds T) (hr.mono (by decide)) gd T.g__law_great_holds T.F__law_great_holds.kp T.b__law_great_holds ps_body (ma_cons' (me_varL (i := 1)) ma_nil)))) ms_nil)
  (ms_cons (ms_for (us := [2]) ps_own rfl (mi_rng1' T.z_range me_int) (mg_nameL (i := 2) sc_law.nd) (ms_one (ms_if (PW.pt (mw_or (mt_not (mt_tru' (b_of (me_call' (ok__law_rounds_hold T) (hr.mono (by decide)) gd T.g__law_rounds_hold T.F__law_rounds_hold.kp T.b__law_rounds_hold ps_body (ma_cons' (me_varL (i := 1)) ma_nil))))) (mw_or1 (mt_not (mt_tru' (b_of (me_call' (ok__law_years_hold T) (hr.mono (by decide)) gd T.g__law_years_hold T.F__law_years_hold.kp T.b__law_years_hold ps_body (ma_cons' (me_varL (i := 1)) ma_nil)))))))) (ms_one (ms_ret me_bl)) ms_nil)))
  (ms_one (ms_ret me_bl)))))
end
def fn : List He.DefD := [d_is_integer, d_is_coin, d_check_coins, d_check_many, d_mark_in, d_rounds_for, d_judge_rounds, d_fewest_marks, d_check_round, d_check_span, d_marks_shown, d_wrong_coins, d_best_round, d_accept_round, d_accept_against, d_missing_marks, d_years_of, d_goes_round, d_year_left, d__law_start, d__law_draw, d__law_pick, d__law_same, d__law_word, d__law_asked, d__law_shown, d__law_mark, d__law_coins, d__law_wrong, d__law_rounds, d__law_against_holds, d__law_rounds_hold, d__law_years_hold, d__law_great_holds, d_law]
def fa : List He.Fa := ([.glo "is_integer", .glo "is_coin", .glo "check_coins", .glo "check_many", .glo "mark_in", .glo "rounds_for", .glo "judge_rounds", .glo "fewest_marks", .glo "check_round", .glo "check_span", .glo "marks_shown", .glo "wrong_coins", .glo "best_round", .glo "accept_round", .glo "accept_against", .glo "missing_marks", .glo "years_of", .glo "goes_round", .glo "year_left", .glo "_law_start", .glo "_law_draw", .glo "_law_pick", .glo "_law_same", .glo "_law_word", .glo "_law_asked", .glo "_law_shown", .glo "_law_mark", .glo "_law_coins", .glo "_law_wrong", .glo "_law_rounds"] : List He.Fa) ++ ([.glo "_law_against_holds", .glo "_law_rounds_hold", .glo "_law_years_hold", .glo "_law_great_holds", .glo "law", .int "MAX_MARKS" 26, .int "MAX_YEARS" 5000, .int "MAX_COINS" 60, .free "isinstance", .free "bool", .free "int", .free "all", .free "len", .free "tuple", .free "super", .free "range", .free "enumerate", .free "min", .free "sorted", .free "list", .free "abs", .free "repr", .free "max", .free "set", .free "str", .glo "FindError", .glo "ArgumentError", .glo "PaperError", .glo "TooMany", .glo "TextError"] : List He.Fa) ++ ([.glo "CabinetError"] : List He.Fa)
abbrev R : PySem.W.OpenRow := PySem.W.OpenLaw.row PySem.Challenge.rw_hoardsread_k21_officinae
def rs : List Nat := [0, 1, 2]
def is : List InitW := [initOf (top 3), initOf (top 4), initOf (top 5)]
abbrev hk : PySem.W.Hook := hookE 4 fa fn "/claim/cut.py" true rs is
def ob (s : PySem.W.SharedT) : AlE := obsEG 4 fa fn "/claim/cut.py" true rs (HandSHeadRun.getT s)
theorem ob_eq (s : PySem.W.SharedT) : ob s = hk.obs s.abs := obsEG_eq (HandSHeadRun.getT_eq s)
theorem pat_FindError : InitPat (fldN 0) (initOf (top 3)) := ⟨_, _, _, _, _, _, _, _, _, _, _, _, _, _, rfl, rfl⟩
theorem pat_ArgumentError : InitPat (fldN 1) (initOf (top 4)) := ⟨_, _, _, _, _, _, _, _, _, _, _, _, _, _, rfl, rfl⟩
theorem pat_PaperError : InitPat (fldN 2) (initOf (top 5)) := ⟨_, _, _, _, _, _, _, _, _, _, _, _, _, _, rfl, rfl⟩
def loose : List Str := (["__name__", "CabinetError", "TextError", "FindError", "ArgumentError", "PaperError", "TooMany", "is_integer", "MAX_COINS", "MAX_YEARS", "MAX_MARKS", "check_coins", "is_coin", "check_many", "mark_in", "rounds_for", "judge_rounds", "fewest_marks", "marks_shown", "check_round", "check_span", "wrong_coins", "best_round", "accept_round", "accept_against", "missing_marks", "years_of", "goes_round", "year_left", "_law_start"] : List Str) ++ (["_law_draw", "_law_pick", "_law_same", "_law_word", "_law_asked", "_law_shown", "_law_mark", "_law_coins", "_law_wrong", "_law_rounds", "_law_rounds_hold", "_law_against_holds", "_law_years_hold", "_law_great_holds"] : List Str)
theorem run (w : World) : HandSHeadRun.RunEq R (PySem.W.view R.prog [47]) hk ob 4000 loose w := by
  intro os
  kernel_rfl
set_option maxHeartbeats 0 in
theorem tx {K : PySem.W.Frag} {h : Heap} {mg : Str → Option Value} (X : K.In h) (G : h.Ns mainGlobals mg) (c0 : obsE fa fn "/claim/cut.py" true rs K = valE fn is) (c : He.SaysD fa fn K) : Tx PySem.Challenge.rw_hoardsread_k21_officinae.prog K mg where
  F_is_integer := fdA_of (c.def_ 0 (d := d_is_integer) rfl)
  b_is_integer := FunD.bindsN (ps := ["value"]) (fdA_of (c.def_ 0 (d := d_is_integer) rfl)) fun _ _ _ _ _ _ us hl => match us, hl with | [_], _ => rfl
  g_is_integer := He.glo_ok X G (c.fact 0 (f := .glo "is_integer") rfl)
  F_is_coin := fdA_of (c.def_ 1 (d := d_is_coin) rfl)
  b_is_coin := FunD.bindsN (ps := ["value"]) (fdA_of (c.def_ 1 (d := d_is_coin) rfl)) fun _ _ _ _ _ _ us hl => match us, hl with | [_], _ => rfl
  g_is_coin := He.glo_ok X G (c.fact 1 (f := .glo "is_coin") rfl)
  F_check_coins := fdA_of (c.def_ 2 (d := d_check_coins) rfl)
  b_check_coins := FunD.bindsN (ps := ["coins"]) (fdA_of (c.def_ 2 (d := d_check_coins) rfl)) fun _ _ _ _ _ _ us hl => match us, hl with | [_], _ => rfl
  g_check_coins := He.glo_ok X G (c.fact 2 (f := .glo "check_coins") rfl)
  F_check_many := fdA_of (c.def_ 3 (d := d_check_many) rfl)
  b_check_many := FunD.bindsN (ps := ["many"]) (fdA_of (c.def_ 3 (d := d_check_many) rfl)) fun _ _ _ _ _ _ us hl => match us, hl with | [_], _ => rfl
  g_check_many := He.glo_ok X G (c.fact 3 (f := .glo "check_many") rfl)
  F_mark_in := fdA_of (c.def_ 4 (d := d_mark_in) rfl)
  b_mark_in := FunD.bindsN (ps := ["many", "begin", "step", "year"]) (fdA_of (c.def_ 4 (d := d_mark_in) rfl)) fun _ _ _ _ _ _ us hl => match us, hl with | [_, _, _, _], _ => rfl
  g_mark_in := He.glo_ok X G (c.fact 4 (f := .glo "mark_in") rfl)
  F_rounds_for := fdA_of (c.def_ 5 (d := d_rounds_for) rfl)
  b_rounds_for := FunD.bindsN (ps := ["coins", "many"]) (fdA_of (c.def_ 5 (d := d_rounds_for) rfl)) fun _ _ _ _ _ _ us hl => match us, hl with | [_, _], _ => rfl
  g_rounds_for := He.glo_ok X G (c.fact 5 (f := .glo "rounds_for") rfl)
  F_judge_rounds := fdA_of (c.def_ 6 (d := d_judge_rounds) rfl)
  b_judge_rounds := FunD.bindsN (ps := ["coins", "many"]) (fdA_of (c.def_ 6 (d := d_judge_rounds) rfl)) fun _ _ _ _ _ _ us hl => match us, hl with | [_, _], _ => rfl
  g_judge_rounds := He.glo_ok X G (c.fact 6 (f := .glo "judge_rounds") rfl)
  F_fewest_marks := fdA_of (c.def_ 7 (d := d_fewest_marks) rfl)
  b_fewest_marks := FunD.bindsN (ps := ["coins"]) (fdA_of (c.def_ 7 (d := d_fewest_marks) rfl)) fun _ _ _ _ _ _ us hl => match us, hl with | [_], _ => rfl
  g_fewest_marks := He.glo_ok X G (c.fact 7 (f := .glo "fewest_marks") rfl)
  F_check_round := fdA_of (c.def_ 8 (d := d_check_round) rfl)
  b_check_round := FunD.bindsN (ps := ["many", "begin", "step"]) (fdA_of (c.def_ 8 (d := d_check_round) rfl)) fun _ _ _ _ _ _ us hl => match us, hl with | [_, _, _], _ => rfl
  g_check_round := He.glo_ok X G (c.fact 8 (f := .glo "check_round") rfl)
  F_check_span := fdA_of (c.def_ 9 (d := d_check_span) rfl)
  b_check_span := FunD.bindsN (ps := ["first", "last"]) (fdA_of (c.def_ 9 (d := d_check_span) rfl)) fun _ _ _ _ _ _ us hl => match us, hl with | [_, _], _ => rfl
  g_check_span := He.glo_ok X G (c.fact 9 (f := .glo "check_span") rfl)
  F_marks_shown := fdA_of (c.def_ 10 (d := d_marks_shown) rfl)
  b_marks_shown := FunD.bindsN (ps := ["many", "begin", "step", "first", "last"]) (fdA_of (c.def_ 10 (d := d_marks_shown) rfl)) fun _ _ _ _ _ _ us hl => match us, hl with | [_, _, _, _, _], _ => rfl
  g_marks_shown := He.glo_ok X G (c.fact 10 (f := .glo "marks_shown") rfl)
  F_wrong_coins := fdA_of (c.def_ 11 (d := d_wrong_coins) rfl)
  b_wrong_coins := FunD.bindsN (ps := ["coins", "many", "begin", "step"]) (fdA_of (c.def_ 11 (d := d_wrong_coins) rfl)) fun _ _ _ _ _ _ us hl => match us, hl with | [_, _, _, _], _ => rfl
  g_wrong_coins := He.glo_ok X G (c.fact 11 (f := .glo "wrong_coins") rfl)
  F_best_round := fdA_of (c.def_ 12 (d := d_best_round) rfl)
  b_best_round := FunD.bindsN (ps := ["coins", "many"]) (fdA_of (c.def_ 12 (d := d_best_round) rfl)) fun _ _ _ _ _ _ us hl => match us, hl with | [_, _], _ => rfl
  g_best_round := He.glo_ok X G (c.fact 12 (f := .glo "best_round") rfl)
  F_accept_round := fdA_of (c.def_ 13 (d := d_accept_round) rfl)
  b_accept_round := FunD.bindsN (ps := ["coins", "many", "begin", "step", "wrong"]) (fdA_of (c.def_ 13 (d := d_accept_round) rfl)) fun _ _ _ _ _ _ us hl => match us, hl with | [_, _, _, _, _], _ => rfl
  g_accept_round := He.glo_ok X G (c.fact 13 (f := .glo "accept_round") rfl)
  F_accept_against := fdA_of (c.def_ 14 (d := d_accept_against) rfl)
  b_accept_against := FunD.bindsN (ps := ["coins", "many", "three"]) (fdA_of (c.def_ 14 (d := d_accept_against) rfl)) fun _ _ _ _ _ _ us hl => match us, hl with | [_, _, _], _ => rfl
  g_accept_against := He.glo_ok X G (c.fact 14 (f := .glo "accept_against") rfl)
  F_missing_marks := fdA_of (c.def_ 15 (d := d_missing_marks) rfl)
  b_missing_marks := FunD.bindsN (ps := ["coins", "many"]) (fdA_of (c.def_ 15 (d := d_missing_marks) rfl)) fun _ _ _ _ _ _ us hl => match us, hl with | [_, _], _ => rfl
  g_missing_marks := He.glo_ok X G (c.fact 15 (f := .glo "missing_marks") rfl)
  F_years_of := fdA_of (c.def_ 16 (d := d_years_of) rfl)
  b_years_of := FunD.bindsN (ps := ["many", "begin", "step", "mark", "first", "last"]) (fdA_of (c.def_ 16 (d := d_years_of) rfl)) fun _ _ _ _ _ _ us hl => match us, hl with | [_, _, _, _, _, _], _ => rfl
  g_years_of := He.glo_ok X G (c.fact 16 (f := .glo "years_of") rfl)
  F_goes_round := fdA_of (c.def_ 17 (d := d_goes_round) rfl)
  b_goes_round := FunD.bindsN (ps := ["many", "step"]) (fdA_of (c.def_ 17 (d := d_goes_round) rfl)) fun _ _ _ _ _ _ us hl => match us, hl with | [_, _], _ => rfl
  g_goes_round := He.glo_ok X G (c.fact 17 (f := .glo "goes_round") rfl)
  F_year_left := fdA_of (c.def_ 18 (d := d_year_left) rfl)
  b_year_left := FunD.bindsN (ps := ["many", "begin", "step", "marks"]) (fdA_of (c.def_ 18 (d := d_year_left) rfl)) fun _ _ _ _ _ _ us hl => match us, hl with | [_, _, _, _], _ => rfl
  g_year_left := He.glo_ok X G (c.fact 18 (f := .glo "year_left") rfl)
  F__law_start := fdA_of (c.def_ 19 (d := d__law_start) rfl)
  b__law_start := FunD.bindsN (ps := ["script"]) (fdA_of (c.def_ 19 (d := d__law_start) rfl)) fun _ _ _ _ _ _ us hl => match us, hl with | [_], _ => rfl
  g__law_start := He.glo_ok X G (c.fact 19 (f := .glo "_law_start") rfl)
  F__law_draw := fdA_of (c.def_ 20 (d := d__law_draw) rfl)
  b__law_draw := FunD.bindsN (ps := ["state", "many"]) (fdA_of (c.def_ 20 (d := d__law_draw) rfl)) fun _ _ _ _ _ _ us hl => match us, hl with | [_, _], _ => rfl
  g__law_draw := He.glo_ok X G (c.fact 20 (f := .glo "_law_draw") rfl)
  F__law_pick := fdA_of (c.def_ 21 (d := d__law_pick) rfl)
  b__law_pick := FunD.bindsN (ps := ["state", "some"]) (fdA_of (c.def_ 21 (d := d__law_pick) rfl)) fun _ _ _ _ _ _ us hl => match us, hl with | [_, _], _ => rfl
  g__law_pick := He.glo_ok X G (c.fact 21 (f := .glo "_law_pick") rfl)
  F__law_same := fdA_of (c.def_ 22 (d := d__law_same) rfl)
  b__law_same := FunD.bindsN (ps := ["actual", "due"]) (fdA_of (c.def_ 22 (d := d__law_same) rfl)) fun _ _ _ _ _ _ us hl => match us, hl with | [_, _], _ => rfl
  g__law_same := He.glo_ok X G (c.fact 22 (f := .glo "_law_same") rfl)
  F__law_word := fdA_of (c.def_ 23 (d := d__law_word) rfl)
  b__law_word := FunD.bindsN (ps := ["error"]) (fdA_of (c.def_ 23 (d := d__law_word) rfl)) fun _ _ _ _ _ _ us hl => match us, hl with | [_], _ => rfl
  g__law_word := He.glo_ok X G (c.fact 23 (f := .glo "_law_word") rfl)
  F__law_asked := fdA_of (c.def_ 24 (d := d__law_asked) rfl)
  b__law_asked := FunD.bindsN (ps := ["way", "some"]) (fdA_of (c.def_ 24 (d := d__law_asked) rfl)) fun _ _ _ _ _ _ us hl => match us, hl with | [_, _], _ => rfl
  g__law_asked := He.glo_ok X G (c.fact 24 (f := .glo "_law_asked") rfl)
  F__law_shown := fdA_of (c.def_ 25 (d := d__law_shown) rfl)
  b__law_shown := FunD.bindsN (ps := ["way", "ahead", "papers"]) (fdA_of (c.def_ 25 (d := d__law_shown) rfl)) fun _ _ _ _ _ _ us hl => match us, hl with | [_, _, _], _ => rfl
  g__law_shown := He.glo_ok X G (c.fact 25 (f := .glo "_law_shown") rfl)
  F__law_mark := fdA_of (c.def_ 26 (d := d__law_mark) rfl)
  b__law_mark := FunD.bindsN (ps := ["many", "begin", "step", "year"]) (fdA_of (c.def_ 26 (d := d__law_mark) rfl)) fun _ _ _ _ _ _ us hl => match us, hl with | [_, _, _, _], _ => rfl
  g__law_mark := He.glo_ok X G (c.fact 26 (f := .glo "_law_mark") rfl)
  F__law_coins := fdA_of (c.def_ 27 (d := d__law_coins) rfl)
  b__law_coins := FunD.bindsN (ps := ["state", "many", "begin", "step", "size"]) (fdA_of (c.def_ 27 (d := d__law_coins) rfl)) fun _ _ _ _ _ _ us hl => match us, hl with | [_, _, _, _, _], _ => rfl
  g__law_coins := He.glo_ok X G (c.fact 27 (f := .glo "_law_coins") rfl)
  F__law_wrong := fdA_of (c.def_ 28 (d := d__law_wrong) rfl)
  b__law_wrong := FunD.bindsN (ps := ["coins", "many", "begin", "step"]) (fdA_of (c.def_ 28 (d := d__law_wrong) rfl)) fun _ _ _ _ _ _ us hl => match us, hl with | [_, _, _, _], _ => rfl
  g__law_wrong := He.glo_ok X G (c.fact 28 (f := .glo "_law_wrong") rfl)
  F__law_rounds := fdA_of (c.def_ 29 (d := d__law_rounds) rfl)
  b__law_rounds := FunD.bindsN (ps := ["coins", "many"]) (fdA_of (c.def_ 29 (d := d__law_rounds) rfl)) fun _ _ _ _ _ _ us hl => match us, hl with | [_, _], _ => rfl
  g__law_rounds := He.glo_ok X G (c.fact 29 (f := .glo "_law_rounds") rfl)
  F__law_against_holds := fdA_of (c.def_ 30 (d := d__law_against_holds) rfl)
  b__law_against_holds := FunD.bindsN (ps := ["state", "coins", "many", "good"]) (fdA_of (c.def_ 30 (d := d__law_against_holds) rfl)) fun _ _ _ _ _ _ us hl => match us, hl with | [_, _, _, _], _ => rfl
  g__law_against_holds := He.glo_ok X G (c.fact 30 (f := .glo "_law_against_holds") rfl)
  F__law_rounds_hold := fdA_of (c.def_ 31 (d := d__law_rounds_hold) rfl)
  b__law_rounds_hold := FunD.bindsN (ps := ["state"]) (fdA_of (c.def_ 31 (d := d__law_rounds_hold) rfl)) fun _ _ _ _ _ _ us hl => match us, hl with | [_], _ => rfl
  g__law_rounds_hold := He.glo_ok X G (c.fact 31 (f := .glo "_law_rounds_hold") rfl)
  F__law_years_hold := fdA_of (c.def_ 32 (d := d__law_years_hold) rfl)
  b__law_years_hold := FunD.bindsN (ps := ["state"]) (fdA_of (c.def_ 32 (d := d__law_years_hold) rfl)) fun _ _ _ _ _ _ us hl => match us, hl with | [_], _ => rfl
  g__law_years_hold := He.glo_ok X G (c.fact 32 (f := .glo "_law_years_hold") rfl)
  F__law_great_holds := fdA_of (c.def_ 33 (d := d__law_great_holds) rfl)
  b__law_great_holds := FunD.bindsN (ps := ["state"]) (fdA_of (c.def_ 33 (d := d__law_great_holds) rfl)) fun _ _ _ _ _ _ us hl => match us, hl with | [_], _ => rfl
  g__law_great_holds := He.glo_ok X G (c.fact 33 (f := .glo "_law_great_holds") rfl)
  F_law := fdA_of (c.def_ 34 (d := d_law) rfl)
  b_law := FunD.bindsN (ps := ["script"]) (fdA_of (c.def_ 34 (d := d_law) rfl)) fun _ _ _ _ _ _ us hl => match us, hl with | [_], _ => rfl
  g_law := He.glo_ok X G (c.fact 34 (f := .glo "law") rfl)
  c_MAX_MARKS := He.int_ok X G (c.fact 35 (f := .int "MAX_MARKS" 26) rfl)
  c_MAX_YEARS := He.int_ok X G (c.fact 36 (f := .int "MAX_YEARS" 5000) rfl)
  c_MAX_COINS := He.int_ok X G (c.fact 37 (f := .int "MAX_COINS" 60) rfl)
  z_isinstance := He.free_ok X G (c.fact 38 (f := .free "isinstance") rfl)
  z_bool := He.free_ok X G (c.fact 39 (f := .free "bool") rfl)
  z_int := He.free_ok X G (c.fact 40 (f := .free "int") rfl)
  z_all := He.free_ok X G (c.fact 41 (f := .free "all") rfl)
  z_len := He.free_ok X G (c.fact 42 (f := .free "len") rfl)
  z_tuple := He.free_ok X G (c.fact 43 (f := .free "tuple") rfl)
  z_super := He.free_ok X G (c.fact 44 (f := .free "super") rfl)
  z_range := He.free_ok X G (c.fact 45 (f := .free "range") rfl)
  z_enumerate := He.free_ok X G (c.fact 46 (f := .free "enumerate") rfl)
  z_min := He.free_ok X G (c.fact 47 (f := .free "min") rfl)
  z_sorted := He.free_ok X G (c.fact 48 (f := .free "sorted") rfl)
  z_list := He.free_ok X G (c.fact 49 (f := .free "list") rfl)
  z_abs := He.free_ok X G (c.fact 50 (f := .free "abs") rfl)
  z_repr := He.free_ok X G (c.fact 51 (f := .free "repr") rfl)
  z_max := He.free_ok X G (c.fact 52 (f := .free "max") rfl)
  z_set := He.free_ok X G (c.fact 53 (f := .free "set") rfl)
  z_str := He.free_ok X G (c.fact 54 (f := .free "str") rfl)
  htop := by kernel_rfl
  x_FindError := He.glo_ok X G (c.fact 55 (f := .glo "FindError") rfl)
  x_ArgumentError := He.glo_ok X G (c.fact 56 (f := .glo "ArgumentError") rfl)
  x_PaperError := He.glo_ok X G (c.fact 57 (f := .glo "PaperError") rfl)
  x_TooMany := He.glo_ok X G (c.fact 58 (f := .glo "TooMany") rfl)
  x_TextError := He.glo_ok X G (c.fact 59 (f := .glo "TextError") rfl)
  x_CabinetError := He.glo_ok X G (c.fact 60 (f := .glo "CabinetError") rfl)
  e_FindError := errC_of (saysE_err c0 (n := 0) (by decide)) (saysE_init c0 0 (n := 0) rfl rfl) pat_FindError bd_reason (by decide) (by decide) (by decide) (by decide)
  e_ArgumentError := errC_of (saysE_err c0 (n := 1) (by decide)) (saysE_init c0 1 (n := 1) rfl rfl) pat_ArgumentError bd_reason (by decide) (by decide) (by decide) (by decide)
  e_PaperError := errC_of (saysE_err c0 (n := 2) (by decide)) (saysE_init c0 2 (n := 2) rfl rfl) pat_PaperError bd_reason (by decide) (by decide) (by decide) (by decide)
  wd := (wordB_ok (saysE_word c0) (He.glo_ok X G (c.fact 55 (f := .glo "FindError") rfl)) (He.glo_ok X G (c.fact 56 (f := .glo "ArgumentError") rfl)) (He.glo_ok X G (c.fact 57 (f := .glo "PaperError") rfl)) (He.glo_ok X G (c.fact 58 (f := .glo "TooMany") rfl)) (He.glo_ok X G (c.fact 59 (f := .glo "TextError") rfl)) (He.glo_ok X G (c.fact 60 (f := .glo "CabinetError") rfl)) (He.free_ok X G (c.fact 38 (f := .free "isinstance") rfl)) (He.free_ok X G (c.fact 54 (f := .free "str") rfl))).1
  exm := (wordB_ok (mg := mg) (saysE_word c0) (He.glo_ok X G (c.fact 55 (f := .glo "FindError") rfl)) (He.glo_ok X G (c.fact 56 (f := .glo "ArgumentError") rfl)) (He.glo_ok X G (c.fact 57 (f := .glo "PaperError") rfl)) (He.glo_ok X G (c.fact 58 (f := .glo "TooMany") rfl)) (He.glo_ok X G (c.fact 59 (f := .glo "TextError") rfl)) (He.glo_ok X G (c.fact 60 (f := .glo "CabinetError") rfl)) (He.free_ok X G (c.fact 38 (f := .free "isinstance") rfl)) (He.free_ok X G (c.fact 54 (f := .free "str") rfl))).2
def Val : Prop := ∀ ns : List Int, ns.length ≤ 63 → ∃ S', m_law [.scr ns] none = .ok (.bl true) S'
set_option maxHeartbeats 0 in
theorem holds (val : Val) : PySem.Challenge.rw_hoardsread_k21_officinae.Holds := by
  w_on; o_law
  refine HandSHeadRun.head_any (r := R) (q := PySem.W.view R.prog [47]) (H := hk) (ob := ob) (M := 4000) (loose := loose) (d := HandSHeadRun.topDef R.prog 47) (kwd := []) ob_eq
    (by kernel_rfl) (fun s => by kernel_rfl) run (by kernel_rfl) (by kernel_rfl) (by kernel_rfl) (by rfl) (by first | assumption | decide +kernel) (by decide +kernel) ⟨rfl, rfl, rfl, rfl, rfl, by decide +kernel⟩ ?hw ?hc
  case hw => w_witness2
  case hc =>
    refine Mini.mini_walkE (l := PySem.Challenge.rw_hoardsread_k21_officinae) (n := 63) (k := 11) (x := "script") (F := m_law) rfl (by decide) (by kernel_rfl) ⟨rfl, by decide, by decide⟩ ?F val
    intro w mg fa h Y G hmg0
    obtain ⟨K, KX, c0⟩ := Y
    have c := saysE_D c0
    have hmg : mg ("law" : PySem.Str) = some (.ref fa) := by
      have e : (HandSHeadRun.topDef R.prog 47).name = ("law" : PySem.Str) := by kernel_rfl
      rw [← e]
      exact hmg0
    have T := tx KX G c0 c
    have e2 : fa = ad K 34 := by
      have z := T.g_law
      rw [hmg] at z
      exact Value.ref.inj (Option.some.inj z)
    subst e2
    have bA := FunD.bindsA (ps := ["script"]) T.F_law fun _ _ _ _ _ _ us hl => match us, hl with | [_], _ => rfl
    exact ⟨K, cn K, fd K 34, KX, fun s v => bA s [v] rfl, fun base _ _ => ok_law T⟩
end Hk21
namespace Hk21
open PySem Mini
open PySem.W (alike dataLt)
open PyProof.Rows
open L2 (atI ixN atI_nat kitB Key)
/-! ## the least of pairs -/
def lexLe (p q : Int × Int) : Prop := p.1 < q.1 ∨ (p.1 = q.1 ∧ p.2 ≤ q.2)
theorem argBest_lex {bt : Nat → Nat → Bool} {f : Nat → Int × Int} {n : Nat} (hb : ∀ i j, i ≤ n → j ≤ n → bt i j = decide ((f i).1 < (f j).1 ∨ ((f i).1 = (f j).1 ∧ (f i).2 < (f j).2))) : ∀ k, k ≤ n → argBest bt k ≤ k ∧ ∀ j, j ≤ k → lexLe (f (argBest bt k)) (f j)
  | 0, _ => ⟨Nat.le_refl _, fun j hj => by
      have e : j = 0 := by omega
      subst e
      exact .inr ⟨rfl, Int.le_refl _⟩⟩
  | k + 1, hk => by
    obtain ⟨h1, h2⟩ := argBest_lex hb k (by omega)
    have hh := hb (k + 1) (argBest bt k) hk (by omega)
    show (if bt (k + 1) (argBest bt k) = true then k + 1 else argBest bt k) ≤ k + 1 ∧ ∀ j, j ≤ k + 1 → lexLe (f (if bt (k + 1) (argBest bt k) = true then k + 1 else argBest bt k)) (f j)
    by_cases hc : bt (k + 1) (argBest bt k) = true
    · rw [if_pos hc]
      rw [hc] at hh
      have hh := of_decide_eq_true hh.symm
      refine ⟨Nat.le_refl _, fun j hj => ?_⟩
      rcases Nat.lt_or_ge j (k + 1) with hlt | hge
      · have z := h2 j (by omega)
        unfold lexLe at z ⊢
        omega
      · have e : j = k + 1 := by omega
        subst e
        exact .inr ⟨rfl, Int.le_refl _⟩
    · rw [if_neg hc]
      have hc' : bt (k + 1) (argBest bt k) = false := by simpa using hc
      rw [hc'] at hh
      have hh := of_decide_eq_false hh.symm
      refine ⟨by omega, fun j hj => ?_⟩
      rcases Nat.lt_or_ge j (k + 1) with hlt | hge
      · exact h2 j (by omega)
      · have e : j = k + 1 := by omega
        subst e
        unfold lexLe
        omega
def pD (p : Int × Int) : D := .tup [.int p.1, .int p.2]
def pPy (p : Int × Int) : PyData := .tuple [.int p.1, .int p.2]
theorem pyL_pD : ∀ ps : List (Int × Int), pyL (ps.map pD) = ps.map pPy
  | [] => rfl
  | p :: ps => by rw [List.map_cons, List.map_cons, pyL, pyL_pD ps]; rfl
theorem pureL_pD : ∀ ps : List (Int × Int), pureL (ps.map pD) = true
  | [] => rfl
  | p :: ps => by
    rw [List.map_cons, pureL, pureL_pD ps]
    rfl
theorem depth_pPy : ∀ ps : List (Int × Int), PyData.depthAll (ps.map pPy) ≤ 1
  | [] => Nat.zero_le _
  | p :: ps => by
    rw [List.map_cons, PyData.depthAll]
    exact Nat.max_le.mpr ⟨Nat.le_refl _, depth_pPy ps⟩
theorem alike_pPy (ps : List (Int × Int)) : alikeB (ps.map pPy) = true := by
  unfold alikeB
  rw [List.all_eq_true]
  intro x hx
  obtain ⟨p, _, rfl⟩ := List.mem_map.mp hx
  rw [Bool.and_eq_true]
  refine ⟨rfl, ?_⟩
  rw [List.all_eq_true]
  intro y hy
  obtain ⟨q, _, rfl⟩ := List.mem_map.mp hy
  simp [pPy, alike, PySem.W.alikeAll]
theorem getD_map {α : Type} (f : α → PyData) (ps : List α) (d : α) {i : Nat} (h : i < ps.length) : (ps.map f).getD i .none = f (ps.getD i d) := by
  simp [List.getD, h]
theorem min_pairs {ps : List (Int × Int)} (h : ps ≠ []) : ∃ p ∈ ps, dMinX (.lst (ps.map pD)) = some (pD p) ∧ ∀ q ∈ ps, lexLe p q := by
  have hpos : 0 < ps.length := List.length_pos_iff.mpr h
  have e0 : dMin (.lst (ps.map pD)) = none := by
    cases ps with
    | nil => exact absurd rfl h
    | cons p ps => rfl
  have ok : (okEq (.lst (ps.map pD)) && (decide (PyData.depthAll (pyL (ps.map pD)) ≤ 63) && (alikeB (pyL (ps.map pD)) && decide (0 < (ps.map pD).length)))) = true := by
    have d := depth_pPy ps
    rw [pyL_pD, alike_pPy, List.length_map]
    simp only [Bool.and_eq_true, decide_eq_true_eq]
    refine ⟨?_, by omega, trivial, hpos⟩
    unfold okEq
    rw [Bool.and_eq_true, decide_eq_true_eq]
    refine ⟨pureL_pD ps, ?_⟩
    show (PyData.list (pyL (ps.map pD))).depth ≤ _
    rw [pyL_pD, PyData.depth]
    omega
  have hb := argBest_lex (bt := bMin (ps.map pPy)) (f := fun i => ps.getD i (0, 0)) (n := ps.length - 1) (fun i j hi hj => by
    show dataLt ((ps.map pPy).getD i .none) ((ps.map pPy).getD j .none) = _
    rw [getD_map pPy ps (0, 0) (by omega), getD_map pPy ps (0, 0) (by omega)]
    exact PySem.W.dataLt_ii _ _ _ _) (ps.length - 1) (Nat.le_refl _)
  obtain ⟨h1, h2⟩ := hb
  have hlt : argBest (bMin (ps.map pPy)) (ps.length - 1) < ps.length := by omega
  refine ⟨ps[argBest (bMin (ps.map pPy)) (ps.length - 1)], List.getElem_mem _, ?_, fun q hq => ?_⟩
  · unfold dMinX
    rw [e0]
    show (if (okEq (.lst (ps.map pD)) && (decide (PyData.depthAll (pyL (ps.map pD)) ≤ 63) && (alikeB (pyL (ps.map pD)) && decide (0 < (ps.map pD).length)))) = true then (ps.map pD)[argBest (bMin (pyL (ps.map pD))) ((ps.map pD).length - 1)]? else none) = _
    rw [if_pos ok, pyL_pD, List.length_map, List.getElem?_map, List.getElem?_eq_getElem hlt]
    rfl
  · obtain ⟨j, hj, rfl⟩ := List.mem_iff_getElem.mp hq
    have z := h2 j (by omega)
    simp only [List.getD_eq_getElem?_getD, List.getElem?_eq_getElem hlt, List.getElem?_eq_getElem hj, Option.getD_some] at z
    exact z
def nD (n : Nat) : D := .int (n : Int)
theorem pyL_nD : ∀ ps : List Nat, pyL (ps.map nD) = ps.map fun n : Nat => PyData.int (n : Int)
  | [] => rfl
  | p :: ps => by rw [List.map_cons, List.map_cons, pyL, pyL_nD ps]; rfl
theorem pureL_nD : ∀ ps : List Nat, pureL (ps.map nD) = true
  | [] => rfl
  | p :: ps => by
    rw [List.map_cons, pureL, pureL_nD ps]
    rfl
theorem depth_nD : ∀ ps : List Nat, PyData.depthAll (ps.map fun n : Nat => PyData.int (n : Int)) ≤ 0
  | [] => Nat.zero_le _
  | p :: ps => by
    rw [List.map_cons, PyData.depthAll]
    exact Nat.max_le.mpr ⟨Nat.le_refl _, depth_nD ps⟩
/-- min of a tuple of numbers -/
theorem min_tupN {ps : List Nat} (h : ps ≠ []) : ∃ m ∈ ps, dMinY (.tup (ps.map nD)) = some (.int (m : Int)) ∧ ∀ q ∈ ps, m ≤ q := by
  have hpos : 0 < ps.length := List.length_pos_iff.mpr h
  have al : alikeB (ps.map fun n : Nat => PyData.int (n : Int)) = true := by
    unfold alikeB
    rw [List.all_eq_true]
    intro x hx
    obtain ⟨p, _, rfl⟩ := List.mem_map.mp hx
    rw [Bool.and_eq_true]
    refine ⟨rfl, ?_⟩
    rw [List.all_eq_true]
    intro y hy
    obtain ⟨q, _, rfl⟩ := List.mem_map.mp hy
    simp [alike]
  have ok : (okEq (.tup (ps.map nD)) && (decide (PyData.depthAll (pyL (ps.map nD)) ≤ 63) && (alikeB (pyL (ps.map nD)) && decide (0 < (ps.map nD).length)))) = true := by
    have d := depth_nD ps
    rw [pyL_nD, al, List.length_map]
    simp only [Bool.and_eq_true, decide_eq_true_eq]
    refine ⟨?_, by omega, trivial, hpos⟩
    unfold okEq
    rw [Bool.and_eq_true, decide_eq_true_eq]
    refine ⟨pureL_nD ps, ?_⟩
    show (PyData.tuple (pyL (ps.map nD))).depth ≤ _
    rw [pyL_nD, PyData.depth]
    omega
  have hb := argBest_lex (bt := bMin (ps.map fun n : Nat => PyData.int (n : Int))) (f := fun i => ((ps.getD i 0 : Nat), 0)) (n := ps.length - 1) (fun i j hi hj => by
    show dataLt ((ps.map fun n : Nat => PyData.int (n : Int)).getD i .none) ((ps.map fun n : Nat => PyData.int (n : Int)).getD j .none) = _
    rw [getD_map _ ps 0 (by omega), getD_map _ ps 0 (by omega), PySem.W.dataLt_int]
    exact decide_eq_decide.mpr (by simp)) (ps.length - 1) (Nat.le_refl _)
  obtain ⟨h1, h2⟩ := hb
  have hlt : argBest (bMin (ps.map fun n : Nat => PyData.int (n : Int))) (ps.length - 1) < ps.length := by omega
  refine ⟨ps[argBest (bMin (ps.map fun n : Nat => PyData.int (n : Int))) (ps.length - 1)], List.getElem_mem _, ?_, fun q hq => ?_⟩
  · show (if (okEq (.tup (ps.map nD)) && (decide (PyData.depthAll (pyL (ps.map nD)) ≤ 63) && (alikeB (pyL (ps.map nD)) && decide (0 < (ps.map nD).length)))) = true then (ps.map nD)[argBest (bMin (pyL (ps.map nD))) ((ps.map nD).length - 1)]? else none) = _
    rw [if_pos ok, pyL_nD, List.length_map, List.getElem?_map, List.getElem?_eq_getElem hlt]
    rfl
  · obtain ⟨j, hj, rfl⟩ := List.mem_iff_getElem.mp hq
    have z := h2 j (by omega)
    simp only [List.getD_eq_getElem?_getD, List.getElem?_eq_getElem hlt, List.getElem?_eq_getElem hj, Option.getD_some] at z
    unfold lexLe at z
    omega
/-! ## multiples -/
end Hk21
namespace Hk21
open PySem Mini
/-! ## marks that go round: three coins show that they don't -/
def ppL : List Nat := [1, 2, 3, 4, 5, 7, 8, 9, 11, 13, 16, 17, 19, 23, 25]
theorem pp_all : (ppL.all fun q => (List.range q).all fun a => (List.range q).all fun b => !decide (Nat.gcd a q ≤ Nat.gcd b q) || (List.range q).any fun t => decide (a * t % q = b)) = true := by decide +kernel
theorem pp_chain {q a b : Nat} (h : q ∈ ppL) (ha : a < q) (hb : b < q) (hg : Nat.gcd a q ≤ Nat.gcd b q) : ∃ t, a * t % q = b := by
  have z := List.all_eq_true.mp (List.all_eq_true.mp (List.all_eq_true.mp pp_all q h) a (List.mem_range.mpr ha)) b (List.mem_range.mpr hb)
  rw [decide_eq_true hg] at z
  obtain ⟨t, _, ht⟩ := List.any_eq_true.mp z
  exact ⟨t, of_decide_eq_true ht⟩
def Slv (q b s : Int) (c : Int × Int) : Prop := q ∣ b + s * c.1 - c.2
theorem least_ex {α : Type} (g : α → Nat) : ∀ {l : List α}, l ≠ [] → ∃ j ∈ l, ∀ x ∈ l, g j ≤ g x
  | [], h => absurd rfl h
  | [a], _ => ⟨a, List.mem_cons_self .., fun x hx => by rw [List.mem_singleton.mp hx]; exact Nat.le_refl _⟩
  | a :: b :: l, _ => by
    obtain ⟨j, hj, h⟩ := least_ex g (l := b :: l) (by simp)
    by_cases c : g a ≤ g j
    · refine ⟨a, List.mem_cons_self .., fun x hx => ?_⟩
      rcases List.mem_cons.mp hx with rfl | hx
      · exact Nat.le_refl _
      · exact Nat.le_trans c (h x hx)
    · refine ⟨j, List.mem_cons_of_mem _ hj, fun x hx => ?_⟩
      rcases List.mem_cons.mp hx with rfl | hx
      · omega
      · exact h x hx
theorem helly_q {m : Int} {q : Nat} (hq : q ∈ ppL) (hd : (q : Int) ∣ m) {cs : List (Int × Int)} {c0 : Int × Int} (h0 : c0 ∈ cs)
    (H : ∀ c1 ∈ cs, ∀ c2 ∈ cs, ∃ b s : Int, Slv m b s c0 ∧ Slv m b s c1 ∧ Slv m b s c2) : ∃ b s : Int, ∀ c ∈ cs, Slv q b s c := by
  have q0 : 0 < q := by
    have : ∀ x ∈ ppL, 0 < x := by decide
    exact this q hq
  let d : Int × Int → Nat := fun c => ((c.1 - c0.1) % (q : Int)).toNat
  have dl : ∀ c, d c < q := fun c => by
    have a := Int.emod_lt_of_pos (c.1 - c0.1) (show (0 : Int) < q by omega)
    have b := Int.emod_nonneg (c.1 - c0.1) (show (q : Int) ≠ 0 by omega)
    show ((c.1 - c0.1) % (q : Int)).toNat < q
    omega
  have de : ∀ c, (q : Int) ∣ (c.1 - c0.1) - (d c : Int) := fun c => by
    have b := Int.emod_nonneg (c.1 - c0.1) (show (q : Int) ≠ 0 by omega)
    have e : (d c : Int) = (c.1 - c0.1) % (q : Int) := by
      show (((c.1 - c0.1) % (q : Int)).toNat : Int) = _
      omega
    rw [e]
    exact Int.dvd_self_sub_emod
  obtain ⟨j, hj, hm⟩ := least_ex (fun c => Nat.gcd (d c) q) (l := cs) (fun z => by rw [z] at h0; cases h0)
  obtain ⟨b, s, s0, s1, _⟩ := H j hj j hj
  refine ⟨b, s, fun l hl => ?_⟩
  obtain ⟨t, ht⟩ := pp_chain hq (dl j) (dl l) (hm l hl)
  obtain ⟨b', s', r0, r1, r2⟩ := H j hj l hl
  have a0 := Int.dvd_trans hd s0
  have a1 := Int.dvd_trans hd s1
  have e0 := Int.dvd_trans hd r0
  have e1 := Int.dvd_trans hd r1
  have e2 := Int.dvd_trans hd r2
  obtain ⟨u0, a0⟩ := a0
  obtain ⟨u1, a1⟩ := a1
  obtain ⟨v0, e0⟩ := e0
  obtain ⟨v1, e1⟩ := e1
  obtain ⟨v2, e2⟩ := e2
  obtain ⟨w1, f1⟩ := de j
  obtain ⟨w2, f2⟩ := de l
  have tq : ∃ k : Int, (d j : Int) * (t : Int) = (d l : Int) + (q : Int) * k := by
    refine ⟨((d j * t / q : Nat) : Int), ?_⟩
    have z := Nat.mod_add_div (d j * t) q
    rw [ht] at z
    have z2 : ((d l + q * (d j * t / q) : Nat) : Int) = ((d j * t : Nat) : Int) := by rw [z]
    rw [Int.natCast_add, Int.natCast_mul, Int.natCast_mul] at z2
    exact z2.symm
  obtain ⟨k, tk⟩ := tq
  -- y_l - y_0 = t (y_j - y_0) + q g
  have yl : l.1 = c0.1 + (t : Int) * (j.1 - c0.1) + (q : Int) * (w2 - (t : Int) * w1 - k) := by
    have g1 : (t : Int) * (j.1 - c0.1) = (t : Int) * (d j : Int) + (q : Int) * ((t : Int) * w1) := by
      rw [show j.1 - c0.1 = (d j : Int) + (q : Int) * w1 by omega, Int.mul_add]
      congr 1
      rw [← Int.mul_assoc, Int.mul_comm (t : Int) (q : Int), Int.mul_assoc]
    have g2 : (t : Int) * (d j : Int) = (d l : Int) + (q : Int) * k := by rw [Int.mul_comm]; exact tk
    rw [g1, g2, Int.mul_sub, Int.mul_sub]
    omega
  refine ⟨u0 + (t : Int) * (u1 - u0) - (v0 + (t : Int) * (v1 - v0)) + v2 + (s - s') * (w2 - (t : Int) * w1 - k), ?_⟩
  generalize hg : w2 - (t : Int) * w1 - k = g at yl ⊢
  have x0 : c0.2 = b + s * c0.1 - (q : Int) * u0 := by omega
  have x1 : j.2 = b + s * j.1 - (q : Int) * u1 := by omega
  have y0 : c0.2 = b' + s' * c0.1 - (q : Int) * v0 := by omega
  have y1 : j.2 = b' + s' * j.1 - (q : Int) * v1 := by omega
  have y2 : l.2 = b' + s' * l.1 - (q : Int) * v2 := by omega
  have k0 : (b - b') + (s - s') * c0.1 = (q : Int) * (u0 - v0) := by
    rw [Int.sub_mul, Int.mul_sub]; omega
  have k1 : (b - b') + (s - s') * j.1 = (q : Int) * (u1 - v1) := by
    rw [Int.sub_mul, Int.mul_sub]; omega
  have k2 : (s - s') * (j.1 - c0.1) = (q : Int) * (u1 - v1) - (q : Int) * (u0 - v0) := by
    rw [Int.mul_sub]; omega
  have k3 : (s - s') * l.1 = (s - s') * c0.1 + (t : Int) * ((q : Int) * (u1 - v1) - (q : Int) * (u0 - v0)) + (q : Int) * ((s - s') * g) := by
    rw [yl, Int.mul_add, Int.mul_add, ← k2, ← Int.mul_assoc, ← Int.mul_assoc, ← Int.mul_assoc, ← Int.mul_assoc, Int.mul_comm (s - s') (t : Int), Int.mul_comm (s - s') (q : Int)]
  have k4 : b + s * l.1 - l.2 = (b - b') + (s - s') * l.1 + (q : Int) * v2 := by
    rw [y2, Int.sub_mul]; omega
  rw [k4, k3]
  have k5 : (q : Int) * (u0 + (t : Int) * (u1 - u0) - (v0 + (t : Int) * (v1 - v0)) + v2 + (s - s') * g) = (q : Int) * (u0 - v0) + (t : Int) * ((q : Int) * (u1 - v1) - (q : Int) * (u0 - v0)) + (q : Int) * v2 + (q : Int) * ((s - s') * g) := by
    have i1 : (t : Int) * ((q : Int) * (u1 - v1) - (q : Int) * (u0 - v0)) = (q : Int) * ((t : Int) * (u1 - u0) - (t : Int) * (v1 - v0)) := by
      rw [← Int.mul_sub, ← Int.mul_sub, ← Int.mul_assoc, ← Int.mul_assoc, Int.mul_comm (t : Int) (q : Int)]
      congr 1
      omega
    rw [i1, ← Int.mul_add, ← Int.mul_add, ← Int.mul_add]
    congr 1
    omega
  rw [k5]
  omega
theorem two_parts {m : Nat} (h1 : 1 ≤ m) (h2 : m ≤ 26) : ∃ q1 q2 e1 e2 z : Nat, q1 ∈ ppL ∧ q2 ∈ ppL ∧ q1 * q2 = m ∧ q2 ∣ e1 ∧ q1 ∣ e2 ∧ e1 + e2 = 1 + m * z := by
  have pw : ∀ m, m ∈ ppL → ∃ q1 q2 e1 e2 z : Nat, q1 ∈ ppL ∧ q2 ∈ ppL ∧ q1 * q2 = m ∧ q2 ∣ e1 ∧ q1 ∣ e2 ∧ e1 + e2 = 1 + m * z := fun m hm => by
    exact ⟨m, 1, 1, 0, 0, hm, by decide, Nat.mul_one m, by decide, Nat.dvd_zero m, rfl⟩
  have c : m ∈ ppL ∨ m = 6 ∨ m = 10 ∨ m = 12 ∨ m = 14 ∨ m = 15 ∨ m = 18 ∨ m = 20 ∨ m = 21 ∨ m = 22 ∨ m = 24 ∨ m = 26 := by
    have : ∀ m ∈ List.range 27, 1 ≤ m → (m ∈ ppL ∨ m = 6 ∨ m = 10 ∨ m = 12 ∨ m = 14 ∨ m = 15 ∨ m = 18 ∨ m = 20 ∨ m = 21 ∨ m = 22 ∨ m = 24 ∨ m = 26) := by decide
    exact this m (List.mem_range.mpr (by omega)) h1
  rcases c with h | rfl | rfl | rfl | rfl | rfl | rfl | rfl | rfl | rfl | rfl | rfl
  · exact pw m h
  · exact ⟨2, 3, 3, 4, 1, by decide, by decide, rfl, by decide, by decide, rfl⟩
  · exact ⟨2, 5, 5, 6, 1, by decide, by decide, rfl, by decide, by decide, rfl⟩
  · exact ⟨4, 3, 9, 4, 1, by decide, by decide, rfl, by decide, by decide, rfl⟩
  · exact ⟨2, 7, 7, 8, 1, by decide, by decide, rfl, by decide, by decide, rfl⟩
  · exact ⟨3, 5, 10, 6, 1, by decide, by decide, rfl, by decide, by decide, rfl⟩
  · exact ⟨2, 9, 9, 10, 1, by decide, by decide, rfl, by decide, by decide, rfl⟩
  · exact ⟨4, 5, 5, 16, 1, by decide, by decide, rfl, by decide, by decide, rfl⟩
  · exact ⟨3, 7, 7, 15, 1, by decide, by decide, rfl, by decide, by decide, rfl⟩
  · exact ⟨2, 11, 11, 12, 1, by decide, by decide, rfl, by decide, by decide, rfl⟩
  · exact ⟨8, 3, 9, 16, 1, by decide, by decide, rfl, by decide, by decide, rfl⟩
  · exact ⟨2, 13, 13, 14, 1, by decide, by decide, rfl, by decide, by decide, rfl⟩
theorem helly {m : Nat} (h1 : 1 ≤ m) (h2 : m ≤ 26) {cs : List (Int × Int)} {c0 : Int × Int} (h0 : c0 ∈ cs)
    (H : ∀ c1 ∈ cs, ∀ c2 ∈ cs, ∃ b s : Int, Slv m b s c0 ∧ Slv m b s c1 ∧ Slv m b s c2) : ∃ b s : Nat, b < m ∧ s < m ∧ ∀ c ∈ cs, Slv m b s c := by
  obtain ⟨q1, q2, e1, e2, z, p1, p2, hm, d1, d2, he⟩ := two_parts h1 h2
  obtain ⟨k1, rfl⟩ := d1
  obtain ⟨k2, rfl⟩ := d2
  have hmI : (m : Int) = (q1 : Int) * (q2 : Int) := by rw [← hm, Int.natCast_mul]
  obtain ⟨b1, s1, H1⟩ := helly_q p1 (m := m) ⟨q2, hmI⟩ h0 H
  obtain ⟨b2, s2, H2⟩ := helly_q p2 (m := m) ⟨q1, by rw [hmI, Int.mul_comm]⟩ h0 H
  have m0 : (0 : Int) < m := by omega
  have heI : (q2 : Int) * (k1 : Int) + (q1 : Int) * (k2 : Int) = 1 + (m : Int) * (z : Int) := by
    have e : ((q2 * k1 + q1 * k2 : Nat) : Int) = ((1 + m * z : Nat) : Int) := by rw [he]
    rw [Int.natCast_add, Int.natCast_add, Int.natCast_mul, Int.natCast_mul, Int.natCast_mul] at e
    exact e
  let B : Int := b1 * ((q2 : Int) * k1) + b2 * ((q1 : Int) * k2)
  let T : Int := s1 * ((q2 : Int) * k1) + s2 * ((q1 : Int) * k2)
  have key : ∀ c ∈ cs, (m : Int) ∣ B + T * c.1 - c.2 := fun c hc => by
    obtain ⟨u, hu⟩ := H1 c hc
    obtain ⟨v, hv⟩ := H2 c hc
    refine ⟨u * k1 + v * k2 + c.2 * z, ?_⟩
    have i1 : B + T * c.1 = (b1 + s1 * c.1) * ((q2 : Int) * k1) + (b2 + s2 * c.1) * ((q1 : Int) * k2) := by
      show b1 * ((q2 : Int) * k1) + b2 * ((q1 : Int) * k2) + (s1 * ((q2 : Int) * k1) + s2 * ((q1 : Int) * k2)) * c.1 = _
      rw [Int.add_mul, Int.add_mul, Int.add_mul, Int.mul_right_comm s1, Int.mul_right_comm s2]
      omega
    rw [i1, show b1 + s1 * c.1 = (q1 : Int) * u + c.2 by omega, show b2 + s2 * c.1 = (q2 : Int) * v + c.2 by omega, Int.add_mul, Int.add_mul]
    have i2 : c.2 * ((q2 : Int) * k1) + c.2 * ((q1 : Int) * k2) = c.2 + (m : Int) * (c.2 * z) := by
      rw [← Int.mul_add, heI, Int.mul_add, Int.mul_one, ← Int.mul_assoc, ← Int.mul_assoc, Int.mul_comm c.2 (m : Int)]
    have i3 : (q1 : Int) * u * ((q2 : Int) * k1) = (m : Int) * (u * k1) := by
      rw [hmI, Int.mul_assoc, Int.mul_assoc, ← Int.mul_assoc u, Int.mul_comm u, Int.mul_assoc]
    have i4 : (q2 : Int) * v * ((q1 : Int) * k2) = (m : Int) * (v * k2) := by
      rw [hmI, Int.mul_comm (q1 : Int) (q2 : Int), Int.mul_assoc, Int.mul_assoc, ← Int.mul_assoc v, Int.mul_comm v, Int.mul_assoc]
    rw [i3, i4, Int.mul_add, Int.mul_add]
    omega
  have bn := Int.emod_nonneg B (show (m : Int) ≠ 0 by omega)
  have bl := Int.emod_lt_of_pos B m0
  have tn := Int.emod_nonneg T (show (m : Int) ≠ 0 by omega)
  have tl := Int.emod_lt_of_pos T m0
  refine ⟨(B % (m : Int)).toNat, (T % (m : Int)).toNat, by omega, by omega, fun c hc => ?_⟩
  have eb : (((B % (m : Int)).toNat : Nat) : Int) = B % (m : Int) := by omega
  have et : (((T % (m : Int)).toNat : Nat) : Int) = T % (m : Int) := by omega
  show (m : Int) ∣ _
  rw [eb, et]
  obtain ⟨u, hu⟩ := key c hc
  obtain ⟨x, hx⟩ := Int.dvd_self_sub_emod (x := B) (m := m)
  obtain ⟨y, hy⟩ := Int.dvd_self_sub_emod (x := T) (m := m)
  refine ⟨u - x - y * c.1, ?_⟩
  have j1 : T % (m : Int) = T - (m : Int) * y := by omega
  rw [j1, Int.sub_mul, Int.mul_sub, Int.mul_sub, ← hu, Int.mul_assoc]
  omega
/-! ## how many marks are used in turn -/
def mkI (m b s : Nat) (y : Int) : Int := ((b : Int) + (s : Int) * y) % (m : Int)
theorem set_all : ((List.range 27).all fun m => (List.range m).all fun s => decide (setN ((List.range m).map fun y : Nat => mkI m 0 s (y : Int)) = m / Nat.gcd m s)) = true := by decide +kernel
theorem set_goes {m s : Nat} (h2 : m ≤ 26) (hs : s < m) : setN ((List.range m).map fun y : Nat => mkI m 0 s (y : Int)) = m / Nat.gcd m s :=
  of_decide_eq_true (List.all_eq_true.mp (List.all_eq_true.mp set_all m (List.mem_range.mpr (by omega))) s (List.mem_range.mpr hs))
end Hk21
namespace Hk21
open PySem Mini
open L2 (atI ixN atI_nat kitB Key)
theorem e_is_integer (a0 : D) (S : DS) : m_is_integer [a0] S = bd (b_is_integer [.vl a0]) leave S := rfl
theorem e_is_coin (a0 : D) (S : DS) : m_is_coin [a0] S = bd (b_is_coin [.vl a0, .no]) leave S := rfl
theorem e_check_coins (a0 : D) (S : DS) : m_check_coins [a0] S = bd (b_check_coins [.vl a0, .no, .no]) leave S := rfl
theorem e_check_many (a0 : D) (S : DS) : m_check_many [a0] S = bd (b_check_many [.vl a0]) leave S := rfl
theorem e_mark_in (a0 a1 a2 a3 : D) (S : DS) : m_mark_in [a0, a1, a2, a3] S = bd (b_mark_in [.vl a0, .vl a1, .vl a2, .vl a3]) leave S := rfl
theorem e_rounds_for (a0 a1 : D) (S : DS) : m_rounds_for [a0, a1] S = bd (b_rounds_for [.vl a0, .vl a1, .no, .no, .no, .no, .no]) leave S := rfl
theorem e_judge_rounds (a0 a1 : D) (S : DS) : m_judge_rounds [a0, a1] S = bd (b_judge_rounds [.vl a0, .vl a1, .no]) leave S := rfl
theorem e_fewest_marks (a0 : D) (S : DS) : m_fewest_marks [a0] S = bd (b_fewest_marks [.vl a0, .no]) leave S := rfl
theorem e_check_round (a0 a1 a2 : D) (S : DS) : m_check_round [a0, a1, a2] S = bd (b_check_round [.vl a0, .vl a1, .vl a2, .no, .no]) leave S := rfl
theorem e_check_span (a0 a1 : D) (S : DS) : m_check_span [a0, a1] S = bd (b_check_span [.vl a0, .vl a1, .no, .no]) leave S := rfl
theorem e_marks_shown (a0 a1 a2 a3 a4 : D) (S : DS) : m_marks_shown [a0, a1, a2, a3, a4] S = bd (b_marks_shown [.vl a0, .vl a1, .vl a2, .vl a3, .vl a4, .no]) leave S := rfl
theorem e_wrong_coins (a0 a1 a2 a3 : D) (S : DS) : m_wrong_coins [a0, a1, a2, a3] S = bd (b_wrong_coins [.vl a0, .vl a1, .vl a2, .vl a3, .no, .no, .no, .no]) leave S := rfl
theorem e_best_round (a0 a1 : D) (S : DS) : m_best_round [a0, a1] S = bd (b_best_round [.vl a0, .vl a1, .no, .no, .no, .no, .no, .no]) leave S := rfl
theorem e_accept_round (a0 a1 a2 a3 a4 : D) (S : DS) : m_accept_round [a0, a1, a2, a3, a4] S = bd (b_accept_round [.vl a0, .vl a1, .vl a2, .vl a3, .vl a4, .no, .no, .no]) leave S := rfl
theorem e_accept_against (a0 a1 a2 : D) (S : DS) : m_accept_against [a0, a1, a2] S = bd (b_accept_against [.vl a0, .vl a1, .vl a2, .no]) leave S := rfl
theorem e_missing_marks (a0 a1 : D) (S : DS) : m_missing_marks [a0, a1] S = bd (b_missing_marks [.vl a0, .vl a1, .no, .no, .no, .no]) leave S := rfl
theorem e_years_of (a0 a1 a2 a3 a4 a5 : D) (S : DS) : m_years_of [a0, a1, a2, a3, a4, a5] S = bd (b_years_of [.vl a0, .vl a1, .vl a2, .vl a3, .vl a4, .vl a5, .no]) leave S := rfl
theorem e_goes_round (a0 a1 : D) (S : DS) : m_goes_round [a0, a1] S = bd (b_goes_round [.vl a0, .vl a1, .no, .no]) leave S := rfl
theorem e_year_left (a0 a1 a2 a3 : D) (S : DS) : m_year_left [a0, a1, a2, a3] S = bd (b_year_left [.vl a0, .vl a1, .vl a2, .vl a3, .no, .no, .no, .no, .no]) leave S := rfl
theorem e__law_start (a0 : D) (S : DS) : m__law_start [a0] S = b__law_start [.vl a0, .no, .no] S := rfl
theorem e__law_draw (a0 a1 : D) (S : DS) : m__law_draw [a0, a1] S = bd (b__law_draw [.vl a0, .vl a1, .no]) leave S := rfl
theorem e__law_pick (a0 a1 : D) (S : DS) : m__law_pick [a0, a1] S = bd (b__law_pick [.vl a0, .vl a1]) leave S := rfl
theorem e__law_same (a0 a1 : D) (S : DS) : m__law_same [a0, a1] S = bd (b__law_same [.vl a0, .vl a1]) leave S := rfl
theorem e__law_asked (a0 a1 : D) (S : DS) : m__law_asked [a0, a1] S = bd (b__law_asked [.vl a0, .vl a1, .no]) leave S := rfl
theorem e__law_shown (a0 a1 a2 : D) (S : DS) : m__law_shown [a0, a1, a2] S = bd (b__law_shown [.vl a0, .vl a1, .vl a2, .no, .no, .no]) leave S := rfl
theorem e__law_mark (a0 a1 a2 a3 : D) (S : DS) : m__law_mark [a0, a1, a2, a3] S = bd (b__law_mark [.vl a0, .vl a1, .vl a2, .vl a3, .no, .no]) leave S := rfl
theorem e__law_coins (a0 a1 a2 a3 a4 : D) (S : DS) : m__law_coins [a0, a1, a2, a3, a4] S = bd (b__law_coins [.vl a0, .vl a1, .vl a2, .vl a3, .vl a4, .no, .no, .no, .no, .no, .no]) leave S := rfl
theorem e__law_wrong (a0 a1 a2 a3 : D) (S : DS) : m__law_wrong [a0, a1, a2, a3] S = bd (b__law_wrong [.vl a0, .vl a1, .vl a2, .vl a3, .no]) leave S := rfl
theorem e__law_rounds (a0 a1 : D) (S : DS) : m__law_rounds [a0, a1] S = bd (b__law_rounds [.vl a0, .vl a1, .no, .no, .no]) leave S := rfl
theorem e__law_against_holds (a0 a1 a2 a3 : D) (S : DS) : m__law_against_holds [a0, a1, a2, a3] S = bd (b__law_against_holds [.vl a0, .vl a1, .vl a2, .vl a3, .no, .no, .no, .no, .no, .no, .no, .no, .no, .no, .no, .no]) leave S := rfl
theorem e__law_rounds_hold (a0 : D) (S : DS) : m__law_rounds_hold [a0] S = bd (b__law_rounds_hold [.vl a0, .no, .no, .no, .no, .no, .no, .no, .no, .no, .no, .no, .no, .no, .no, .no]) leave S := rfl
theorem e__law_years_hold (a0 : D) (S : DS) : m__law_years_hold [a0] S = bd (b__law_years_hold [.vl a0, .no, .no, .no, .no, .no, .no, .no, .no, .no, .no, .no, .no, .no, .no, .no]) leave S := rfl
theorem e__law_great_holds (a0 : D) (S : DS) : m__law_great_holds [a0] S = bd (b__law_great_holds [.vl a0, .no, .no, .no, .no, .no, .no, .no, .no, .no, .no, .no, .no]) leave S := rfl
theorem e_law (a0 : D) (S : DS) : m_law [a0] S = bd (b_law [.vl a0, .no, .no]) leave S := rfl
theorem v_draw {S : DS} (v : Vs S) {n : Nat} (h : 0 < n) (hb : n < 2 ^ 63) : ∃ (r : Nat) (S' : DS), m__law_draw [.st, .int (n : Int)] S = .ok (.int (r : Int)) S' ∧ r < n ∧ Vs S' := drawN v h hb
theorem v_pick {S : DS} (v : Vs S) {ds : List D} (h : ds ≠ []) (hl : ds.length ≤ 1000) : ∃ (x : D) (S' : DS), m__law_pick [.st, .lst ds] S = .ok x S' ∧ x ∈ ds ∧ Vs S' := pick_ok v (.inl rfl) h (by omega)
theorem var_of {i : Nat} {d : D} {ρ : En} {S : DS} (h : slot ρ i = some d) : var i ρ S = .ok d S := by
  unfold var
  rw [h]
  rfl
theorem draw_of {f : FE} {i k : Nat} {ρ : En} {S S1 S2 : DS} {r : Nat} (hs : slot ρ i = some .st) (hf : f ρ S = .ok (.int (k : Int)) S1) (e : m__law_draw [.st, .int (k : Int)] S1 = .ok (.int (r : Int)) S2) : callE m__law_draw (consA (var i) (consA f nilA)) ρ S = .ok (.int (r : Int)) S2 :=
  call2_of (var_of hs) hf e
theorem pick_of {a : FE} {i : Nat} {ρ : En} {S S1 S2 : DS} {ds : List D} {x : D} (hs : slot ρ i = some .st) (h : a ρ S = .ok (.lst ds) S1) (e : m__law_pick [.st, .lst ds] S1 = .ok x S2) : callE m__law_pick (consA (var i) (consA a nilA)) ρ S = .ok x S2 :=
  call2_of (var_of hs) h e
theorem num_of {i : Nat} {d : D} {ρ : En} {S : DS} (h : Arg d) (hs : slot ρ i = some d) : andE (op1 (isiD "int") (var i)) (notE (op1 (isiD "bool") (var i))) ρ S = .ok (.bl (isI d)) S := by
  have v : var i ρ S = .ok d S := by
    unfold var
    rw [hs]
    rfl
  have a := op1_of v (isi_int h)
  have b := op1_of v (isi_bool h)
  have n : notE (op1 (isiD "bool") (var i)) ρ S = .ok (.bl (!(isNum d).2)) S := by
    simp only [notE, bd, b, truth, Option.map_some, lift, rt]
  rw [isI_num]
  cases e : (isNum d).1 with
  | true =>
    rw [e] at a
    simp only [andE, bd, a, n, Bool.true_and]
  | false =>
    rw [e] at a
    simp only [andE, bd, a, rt, Bool.false_and]
theorem g_is_integer {d : D} (h : Arg d) (S : DS) : m_is_integer [d] S = .ok (.bl (isI d)) S := by
  rw [e_is_integer]
  refine body_rt ?_
  rw [b_is_integer]
  exact ret_of (num_of h rfl)
theorem log_le {n k : Nat} (h : n < 2 ^ k) (hk : 0 < k) : n.log2 < k := by
  by_cases z : n = 0
  · subst z
    exact hk
  · exact (Nat.log2_lt z).mpr h
theorem log_top {n : Nat} (h : n ≤ 1000000000000) : n.log2 < 9000 := by
  have : n.log2 < 40 := log_le (Nat.lt_of_le_of_lt h (by decide)) (by decide)
  omega
theorem div_n {i n : Nat} (h1 : 0 < n) (h2 : n ≤ 1000000000000) : dDiv (.int (i : Int)) (.int (n : Int)) = some (.int ((i / n : Nat) : Int)) := by
  show (if 0 < (n : Int) ∧ (n : Int).natAbs.log2 < 9000 then some (D.int ((i : Int) / (n : Int))) else none) = _
  rw [if_pos ⟨by omega, by simpa using log_top h2⟩]
  rfl
theorem mul_ok {m y : Nat} (h1 : m ≤ 1000000000000) (h2 : y ≤ 1000000000000) : dMulX (.int (m : Int)) (.int (y : Int)) = some (.int ((m * y : Nat) : Int)) := by
  show (if (m : Int).natAbs.log2 + (y : Int).natAbs.log2 < 1000000 then some (D.int ((m : Int) * (y : Int))) else none) = _
  have a := log_top h1
  have b := log_top h2
  rw [if_pos (by rw [Int.natAbs_natCast, Int.natAbs_natCast]; omega)]
  rfl
theorem addN (a b : Nat) : dAdd (.int (a : Int)) (.int (b : Int)) = some (.int ((a + b : Nat) : Int)) := rfl
theorem subN {a b : Nat} (h : b ≤ a) : dSub (.int (a : Int)) (.int (b : Int)) = some (.int ((a - b : Nat) : Int)) := by
  show some (D.int ((a : Int) - (b : Int))) = _
  congr 2
  omega
theorem leN (a b : Nat) : dLe (.int (a : Int)) (.int (b : Int)) = some (.bl (decide (a ≤ b))) := by
  show some (D.bl (decide ((a : Int) ≤ (b : Int)))) = _
  congr 2
  exact decide_eq_decide.mpr (by omega)
theorem ltN (a b : Nat) : dLt (.int (a : Int)) (.int (b : Int)) = some (.bl (decide (a < b))) := by
  show some (D.bl (decide ((a : Int) < (b : Int)))) = _
  congr 2
  exact decide_eq_decide.mpr (by omega)
theorem gtN (a b : Nat) : dGt (.int (a : Int)) (.int (b : Int)) = some (.bl (decide (b < a))) := by
  show some (D.bl (decide ((b : Int) < (a : Int)))) = _
  congr 2
  exact decide_eq_decide.mpr (by omega)
theorem eqN (a b : Nat) : dEq (.int (a : Int)) (.int (b : Int)) = some (.bl (decide (a = b))) := by
  rw [dEq_int]
  congr 2
  exact decide_eq_decide.mpr (by omega)
theorem max2N (a b : Nat) : dMax2 (.int (a : Int)) (.int (b : Int)) = some (.int ((max a b : Nat) : Int)) := by
  show some (D.int (if (b : Int) > (a : Int) then (b : Int) else (a : Int))) = _
  congr 2
  split <;> omega
theorem min2N (a b : Nat) : dMin2 (.int (a : Int)) (.int (b : Int)) = some (.int ((min a b : Nat) : Int)) := by
  show some (D.int (if (b : Int) < (a : Int) then (b : Int) else (a : Int))) = _
  congr 2
  split <;> omega
abbrev natL (l : List Nat) : List D := l.map nD
theorem ints_nat (l : List Nat) : intsOf (natL l) = some (l.map fun n : Nat => (n : Int)) := by
  induction l with
  | nil => rfl
  | cons a l ih =>
    show (intsOf (natL l)).map ((a : Int) :: ·) = _
    rw [ih]
    rfl
theorem natL_len (l : List Nat) : (natL l).length = l.length := List.length_map ..
theorem pure_nat : ∀ l : List Nat, pureL (natL l) = true ∧ PyData.depthAll (pyL (natL l)) ≤ 0
  | [] => ⟨rfl, Nat.le_refl _⟩
  | a :: l => by
    obtain ⟨h1, h2⟩ := pure_nat l
    refine ⟨?_, ?_⟩
    · show ((D.int (a : Int)).pure && pureL (natL l)) = true
      rw [h1]; rfl
    · show PyData.depthAll ((D.int (a : Int)).py :: pyL (natL l)) ≤ 0
      simp only [PyData.depthAll]
      exact Nat.max_le.mpr ⟨Nat.le_refl _, h2⟩
theorem ok_natL (l : List Nat) : okEq (.lst (natL l)) = true := by
  obtain ⟨h1, h2⟩ := pure_nat l
  unfold okEq
  simp only [D.pure, h1, Bool.true_and, decide_eq_true_eq, D.py, PyData.depth]
  omega
theorem pyL_nat (l : List Nat) : pyL (natL l) = l.map fun n : Nat => PyData.int (n : Int) := by
  induction l with
  | nil => rfl
  | cons a l ih =>
    show PyData.int (a : Int) :: pyL (natL l) = _
    rw [ih]
    rfl
theorem idx_nat (l : List Nat) (m : Nat) : dIndex (.lst (natL l)) (.int (m : Int)) = (l.findIdx? fun y => decide (y = m)).map fun j : Nat => D.int (j : Int) := by
  show (if okEq (.lst (natL l)) && okEq (.int (m : Int)) then ((pyL (natL l)).findIdx? fun z => PyData.eqv z (D.int (m : Int)).py).map fun j : Nat => D.int (j : Int) else none) = _
  have e : okEq (.int (m : Int)) = true := rfl
  rw [ok_natL, e, pyL_nat]
  simp only [Bool.and_self, if_true]
  congr 1
  rw [List.findIdx?_map]
  congr 1
  funext y
  show PyData.eqv (PyData.int (y : Int)) (PyData.int (m : Int)) = decide (y = m)
  simp only [PyData.eqv]
  by_cases c : y = m
  · subst c; simp
  · rw [decide_eq_false c]
    exact beq_eq_false_iff_ne.mpr fun z => c (by omega)
theorem idx_ex {l : List Nat} {m : Nat} (h : m ∈ l) : ∃ j, j < l.length ∧ dIndex (.lst (natL l)) (.int (m : Int)) = some (.int (j : Int)) ∧ l[j]? = some m ∧ ∀ i y, i < j → l[i]? = some y → y ≠ m := by
  rw [idx_nat]
  cases e : l.findIdx? fun y => decide (y = m) with
  | none =>
    have := List.findIdx?_eq_none_iff.mp e m h
    simp at this
  | some j =>
    obtain ⟨hl, hp, hn⟩ := List.findIdx?_eq_some_iff_getElem.mp e
    refine ⟨j, hl, rfl, ?_, fun i y hi hy => ?_⟩
    · rw [List.getElem?_eq_getElem hl]
      simpa using hp
    · obtain ⟨hi2, rfl⟩ := List.getElem?_eq_some_iff.mp hy
      simpa using hn i hi
theorem lcL_nat {α : Type} {t : TGd} {test : FB} {elt : FE} {ρ : En} {S : DS} {f g : α → D} {p : α → Bool} : ∀ (l : List α) (acc : List D), (∀ k ∈ l, ∃ ρ1, t (f k) ρ = some ρ1 ∧ test ρ1 S = .ok (p k) S ∧ (p k = true → elt ρ1 S = .ok (g k) S)) → acc.length + l.length ≤ 16777216 →
    lcL t test elt (l.map f) acc ρ S = .ok (acc ++ (l.filter p).map g) S
  | [], acc, _, _ => by simp [lcL, rt]
  | d :: ds, acc, h, hl => by
    obtain ⟨ρ1, e1, e2, e3⟩ := h d List.mem_cons_self
    rw [List.length_cons] at hl
    have h' : ∀ x ∈ ds, _ := fun x hx => h x (List.mem_cons_of_mem _ hx)
    rw [List.map_cons, lcL]
    cases hp : p d with
    | true =>
      have ih := lcL_nat ds (acc ++ [g d]) h' (by rw [List.length_append, List.length_singleton]; omega)
      rw [hp] at e2
      simp only [bd, e1, lift, rt, noEr, e2, e3 hp, if_true]
      rw [if_pos (by omega), ih, List.filter_cons, hp, if_pos rfl, List.map_cons, List.append_assoc]
      rfl
    | false =>
      have ih := lcL_nat ds acc h' (by omega)
      rw [hp] at e2
      simp only [bd, e1, lift, rt, noEr, e2, Bool.false_eq_true, if_false]
      rw [ih, List.filter_cons, hp, if_neg Bool.false_ne_true]
theorem lcN {α : Type} {it : FI} {t : TGd} {test : FB} {elt : FE} {vs : List Nat} {ρ : En} {S : DS} {l : List α} (f g : α → D) (p : α → Bool) (hit : it ρ S = .ok (l.map f) S) (h : ∀ k ∈ l, ∃ ρ1, t (f k) (wipeR ρ vs) = some ρ1 ∧ test ρ1 S = .ok (p k) S ∧ (p k = true → elt ρ1 S = .ok (g k) S)) (hl : l.length ≤ 1000000) :
    lcE it t test elt vs ρ S = .ok (.lst ((l.filter p).map g)) S := by
  have z := lcL_nat l [] h (by simpa using (by omega : l.length ≤ 16777216))
  rw [List.nil_append] at z
  exact lc_of hit z
theorem lcA {α : Type} {it : FI} {t : TGd} {elt : FE} {vs : List Nat} {ρ : En} {S : DS} {l : List α} (f g : α → D) (hit : it ρ S = .ok (l.map f) S) (h : ∀ k ∈ l, ∃ ρ1, t (f k) (wipeR ρ vs) = some ρ1 ∧ elt ρ1 S = .ok (g k) S) (hl : l.length ≤ 1000000) :
    lcE it t yesB elt vs ρ S = .ok (.lst (l.map g)) S := by
  have z := lcN f g (fun _ => true) hit (fun k hk => by
    obtain ⟨ρ1, a, b⟩ := h k hk
    exact ⟨ρ1, a, rfl, fun _ => b⟩) hl
  rw [List.filter_eq_self.mpr (fun _ _ => rfl)] at z
  exact z
theorem forL_find {α : Type} {t : TGd} {b : FS} {S : DS} {f r : α → D} {p : α → Bool} (Inv : En → Prop) : ∀ (l : List α) (ρ : En), Inv ρ → (∀ k ∈ l, ∀ ρ, Inv ρ → ∃ ρ1, t (f k) ρ = some ρ1 ∧ (p k = true → b ρ1 S = .ok (.rt (r k)) S) ∧ (p k = false → ∃ ρ', b ρ1 S = .ok (.nx ρ') S ∧ Inv ρ')) →
    (l.filter p = [] → ∃ ρ', forL t b (l.map f) ρ S = .ok (.nx ρ') S ∧ Inv ρ') ∧ ∀ k ks, l.filter p = k :: ks → forL t b (l.map f) ρ S = .ok (.rt (r k)) S
  | [], ρ, i, _ => ⟨fun _ => ⟨ρ, rfl, i⟩, fun k ks z => by cases z⟩
  | d :: ds, ρ, i, h => by
    obtain ⟨ρ1, e1, e2, e3⟩ := h d List.mem_cons_self ρ i
    rw [List.map_cons, List.filter_cons]
    cases hp : p d with
    | true =>
      rw [if_pos rfl]
      refine ⟨fun z => (by cases z), fun k ks z => ?_⟩
      cases z
      simp only [forL, bd, e1, lift, rt, e2 hp]
    | false =>
      rw [if_neg Bool.false_ne_true]
      obtain ⟨ρ', q1, q2⟩ := e3 hp
      obtain ⟨j1, j2⟩ := forL_find Inv ds ρ' q2 (fun k hk => h k (List.mem_cons_of_mem _ hk))
      have st : forL t b (f d :: ds.map f) ρ S = forL t b (ds.map f) ρ' S := by simp only [forL, bd, e1, lift, rt, q1]
      rw [st]
      exact ⟨j1, j2⟩
theorem rngD_from (lo : Nat) : ∀ n : Nat, rngD (lo : Int) n = (List.range' lo n).map nD := fun n => by
  refine List.ext_getElem? fun i => ?_
  unfold rngD
  rw [List.getElem?_map, List.getElem?_map]
  by_cases h : i < n
  · simp [List.getElem?_range, h, nD]
  · rw [List.getElem?_eq_none (by simpa using h), List.getElem?_eq_none (by simpa using h)]
    rfl
theorem andE_t {a b : FE} {ρ : En} {S S1 : DS} (h : a ρ S = .ok (.bl true) S1) : andE a b ρ S = b ρ S1 := by
  simp only [andE, bd, h]
theorem andE_f {a b : FE} {ρ : En} {S S1 : DS} (h : a ρ S = .ok (.bl false) S1) : andE a b ρ S = .ok (.bl false) S1 := by
  simp only [andE, bd, h, rt]
theorem rng1 {a : FE} {ρ : En} {S S1 : DS} {n : Nat} (hn : n ≤ 1000) (h : a ρ S = .ok (.int (n : Int)) S1) : itR1 a ρ S = .ok ((List.range n).map nD) S1 := by
  rw [rng_nat hn h, rngD_map]
  rfl
theorem rng2 {a b : FE} {ρ : En} {S S1 S2 : DS} {lo hi : Nat} (h1 : lo ≤ 1000000) (h2 : hi ≤ 1000000) (ha : a ρ S = .ok (.int (lo : Int)) S1) (hb : b ρ S1 = .ok (.int (hi : Int)) S2) : itR2 a b ρ S = .ok ((List.range' lo (hi - lo)).map nD) S2 := by
  have e : ((hi : Int) - (lo : Int)).toNat = hi - lo := by omega
  have b62 : ∀ n : Nat, n ≤ 1000000 → big62 ((n : Nat) : Int) = true := fun n hn => by
    unfold big62
    exact decide_eq_true ⟨by omega, by omega⟩
  unfold itR2 bd
  rw [ha]
  simp only [hb]
  rw [b62 lo h1, b62 hi h2]
  simp only [Bool.and_self, if_true]
  rw [e]
  refine congrArg (fun l => Res.ok l S2) ?_
  exact rngD_from lo (hi - lo)
theorem enum_nat (ws : List Nat) : enumF 0 (natL ws) = (List.range ws.length).map fun k => .tup [nD k, nD (ws.getD k 0)] := by
  refine List.ext_getElem? fun i => ?_
  rw [enumF_at, List.getElem?_map, List.getElem?_map]
  by_cases h : i < ws.length
  · rw [List.getElem?_eq_getElem h, List.getElem?_eq_getElem (by simpa using h)]
    simp [nD, h]
  · rw [List.getElem?_eq_none (by omega), List.getElem?_eq_none (by simpa using h)]
    rfl
theorem at_natL {ws : List Nat} {j : Nat} (h : j < ws.length) : atI (natL ws) (j : Int) = some (nD (ws.getD j 0)) := atI_nat (by simp [h])
theorem kit_tt : (kitB "tuple" "tuple").map D.bl = some (.bl true) := by rw [kit_tup_tup]; rfl
theorem all_map_true (l : List Nat) : dAll (.lst (l.map fun _ => D.bl true)) = some (.bl true) := by
  have := all_true (natL l)
  rw [List.map_map] at this
  exact this
theorem int_of {i : Nat} {n : Nat} {ρ : En} {S : DS} (hs : slot ρ i = some (.int (n : Int))) : truB (callE m_is_integer (consA (var i) nilA)) ρ S = .ok true S := tru_ofE (call1_of (d := .int (n : Int)) (var_of hs) (g_is_integer (d := .int (n : Int)) trivial S)) rfl
theorem chnT {i : Nat} {n : Nat} {lo hi : Nat} {ρ : En} {S : DS} (hs : slot ρ i = some (.int (n : Int))) (h1 : lo ≤ n) (h2 : n ≤ hi) : valB (chn2 dLe dLe (cst (.int (lo : Int))) (var i) (cst (.int (hi : Int)))) ρ S = .ok true S := by
  have c := chn_of (f := var i) (ρ := ρ) (S := S) (x := (n : Int)) (lo := (lo : Int)) (hi := (hi : Int)) (var_of hs)
  rw [decide_eq_true (by omega), decide_eq_true (by omega)] at c
  exact val_of c
theorem notE_of {f : FE} {ρ : En} {S S1 : DS} {d : D} {k : Bool} (h : f ρ S = .ok d S1) (ht : truth d = some k) : notE f ρ S = .ok (.bl (!k)) S1 := by
  simp only [notE, bd, h, ht, Option.map_some, lift, rt]
theorem emp_map {α β : Type} (f : α → β) (l : List α) : (l.map f).isEmpty = l.isEmpty := by cases l <;> rfl
theorem dMaxX_of {d r : D} (h : dMax d = some r) : dMaxX d = some r := by
  unfold dMaxX
  rw [h]
theorem W0_big {n : Nat} (h : n ≤ 1000000) : n < W0 := Nat.lt_of_le_of_lt h (by unfold W0; decide +kernel)
theorem c_loop (d : D) (S : DS) : ∀ (k a b : Nat), b < k → whileS (truB (var 2)) (parS 1 2 (var 2) (op2 dMod (var 1) (var 2))) k [.vl d, .vl (nD a), .vl (nD b)] S = .ok (.nx [.vl d, .vl (nD (Nat.gcd a b)), .vl (nD 0)]) S
  | 0, a, b, h => by omega
  | k + 1, a, b, h => by
    have t : truB (var 2) [.vl d, .vl (nD a), .vl (nD b)] S = .ok ((b : Int) != 0) S := tru_ofE (d := nD b) rfl rfl
    by_cases hb : b = 0
    · subst hb
      have e0 : (((0 : Nat) : Int) != 0) = false := rfl
      rw [e0] at t
      rw [while_end t, Nat.gcd_zero_right]
    · have e0 : ((b : Int) != 0) = true := bne_iff_ne.mpr (by omega)
      rw [e0] at t
      have md : dMod (nD a) (nD b) = some (nD (a % b)) := by
        show (if (0 : Int) < (b : Int) then some (D.int ((a : Int) % (b : Int))) else none) = _
        rw [if_pos (by omega)]
        rfl
      have bb : parS 1 2 (var 2) (op2 dMod (var 1) (var 2)) [.vl d, .vl (nD a), .vl (nD b)] S = .ok (.nx [.vl d, .vl (nD b), .vl (nD (a % b))]) S := par_of (d := nD b) (e := nD (a % b)) rfl (op2_of rfl rfl md)
      rw [while_go t bb, c_loop d S k b (a % b) (by have := Nat.mod_lt a (Nat.pos_of_ne_zero hb); omega)]
      rw [Nat.gcd_comm a b, Nat.gcd_rec b a, Nat.gcd_comm]
theorem callV_of {n : Nat} {F : List D → M D} {i : Nat} {ga : FA} {ρ : En} {S S1 : DS} {ds : List D} (hs : slot ρ i = some (.fn n)) (hd : disp n = some F) (ha : ga ρ S = .ok ds S1) : callV disp i ga ρ S = F ds S1 := by
  simp only [callV, hs, hd, bd, ha]
def ask : Res D → Res D
  | .ok d S => .ok (.lst [d]) S
  | .er n p S => (match wdW n p with
    | some d => .ok d S
    | none => .no)
  | .no => .no
theorem try_ask {g : FS} {ρ : En} {S : DS} {r : Res D} (h : g ρ S = inL r) : bd (tryWS g wdW ρ) leave S = ask r := by
  have e : tryWS g wdW ρ S = (match inL r with
    | .er n p S' => (match wdW n p with
      | some d => .ok (.rt d) S'
      | none => .no)
    | r => r) := by
    unfold tryWS
    rw [h] <;> (cases r <;> rfl)
  simp only [bd, e]
  cases r with
  | ok d S' => rfl
  | no => rfl
  | er n p S' =>
    simp only [inL, ask]
    cases wdW n p <;> rfl
theorem a5_of {f g k l m : FE} {ρ : En} {S S1 S2 S3 S4 S5 : DS} {d e i j o : D} (h : f ρ S = .ok d S1) (h2 : g ρ S1 = .ok e S2) (h3 : k ρ S2 = .ok i S3) (h4 : l ρ S3 = .ok j S4) (h5 : m ρ S4 = .ok o S5) : consA f (consA g (consA k (consA l (consA m nilA)))) ρ S = .ok [d, e, i, j, o] S5 := cons_of h (a4_of h2 h3 h4 h5)
theorem a6_of {f g k l m q : FE} {ρ : En} {S S1 S2 S3 S4 S5 S6 : DS} {d e i j o p : D} (h : f ρ S = .ok d S1) (h2 : g ρ S1 = .ok e S2) (h3 : k ρ S2 = .ok i S3) (h4 : l ρ S3 = .ok j S4) (h5 : m ρ S4 = .ok o S5) (h6 : q ρ S5 = .ok p S6) : consA f (consA g (consA k (consA l (consA m (consA q nilA))))) ρ S = .ok [d, e, i, j, o, p] S6 := cons_of h (a5_of h2 h3 h4 h5 h6)
theorem g_asked {n : Nat} {F : List D → M D} (hd : disp n = some F) (xs : List D) (h1 : 1 ≤ xs.length) (h4 : xs.length ≤ 6) (S : DS) : m__law_asked [.fn n, .lst xs] S = ask (F xs S) := by
  rw [e__law_asked]
  refine try_ask ?_
  have s1 : ∀ {ρ : En}, ρ = [.vl (.fn n), .vl (.lst xs), .no] → slot ρ 1 = some (.lst xs) := fun e => by rw [e]; rfl
  have lt3 := len_lt (n := 3) (i := 1) (S := S) (s1 rfl)
  have lt5 := len_lt (n := 5) (i := 1) (S := S) (s1 rfl)
  have lt7 := len_lt (n := 7) (i := 1) (S := S) (s1 rfl)
  have eq1 := len_eq (n := 1) (i := 1) (S := S) (s1 rfl)
  have eq3 := len_eq (n := 3) (i := 1) (S := S) (s1 rfl)
  have eq5 := len_eq (n := 5) (i := 1) (S := S) (s1 rfl)
  match xs, h1, h4 with
  | [a], _, _ =>
    rw [decide_eq_true (by show 1 < 3; omega)] at lt3
    rw [decide_eq_true (by rfl)] at eq1
    refine (seq_inL ((if_t lt3).trans ((ret_ite_t eq1).trans ret_lst))).trans ?_
    rw [callV_of rfl hd (a1_of (op2_of rfl rfl rfl))]
  | [a, b], _, _ =>
    rw [decide_eq_true (by show 2 < 3; omega)] at lt3
    rw [decide_eq_false (by show ¬ 2 = 1; omega)] at eq1
    refine (seq_inL ((if_t lt3).trans ((ret_ite_f eq1).trans ret_lst))).trans ?_
    rw [callV_of rfl hd (a2_of (op2_of rfl rfl rfl) (op2_of rfl rfl rfl))]
  | [a, b, c], _, _ =>
    rw [decide_eq_false (by show ¬ 3 < 3; omega)] at lt3
    rw [decide_eq_true (by show 3 < 5; omega)] at lt5
    rw [decide_eq_true (by rfl)] at eq3
    refine (seq_nx (if_f lt3)).trans ((seq_inL ((if_t lt5).trans ((ret_ite_t eq3).trans ret_lst))).trans ?_)
    rw [callV_of rfl hd (a3_of (op2_of rfl rfl rfl) (op2_of rfl rfl rfl) (op2_of rfl rfl rfl))]
  | [a, b, c, d], _, _ =>
    rw [decide_eq_false (by show ¬ 4 < 3; omega)] at lt3
    rw [decide_eq_true (by show 4 < 5; omega)] at lt5
    rw [decide_eq_false (by show ¬ 4 = 3; omega)] at eq3
    refine (seq_nx (if_f lt3)).trans ((seq_inL ((if_t lt5).trans ((ret_ite_f eq3).trans ret_lst))).trans ?_)
    rw [callV_of rfl hd (a4_of (op2_of rfl rfl rfl) (op2_of rfl rfl rfl) (op2_of rfl rfl rfl) (op2_of rfl rfl rfl))]
  | [a, b, c, d, e], _, _ =>
    rw [decide_eq_false (by show ¬ 5 < 3; omega)] at lt3
    rw [decide_eq_false (by show ¬ 5 < 5; omega)] at lt5
    rw [decide_eq_true (by show 5 < 7; omega)] at lt7
    rw [decide_eq_true (by rfl)] at eq5
    refine (seq_nx (if_f lt3)).trans ((seq_nx (if_f lt5)).trans ((seq_inL ((if_t lt7).trans ((ret_ite_t eq5).trans ret_lst))).trans ?_))
    rw [callV_of rfl hd (a5_of (op2_of rfl rfl rfl) (op2_of rfl rfl rfl) (op2_of rfl rfl rfl) (op2_of rfl rfl rfl) (op2_of rfl rfl rfl))]
  | [a, b, c, d, e, f], _, _ =>
    rw [decide_eq_false (by show ¬ 6 < 3; omega)] at lt3
    rw [decide_eq_false (by show ¬ 6 < 5; omega)] at lt5
    rw [decide_eq_true (by show 6 < 7; omega)] at lt7
    rw [decide_eq_false (by show ¬ 6 = 5; omega)] at eq5
    refine (seq_nx (if_f lt3)).trans ((seq_nx (if_f lt5)).trans ((seq_inL ((if_t lt7).trans ((ret_ite_f eq5).trans ret_lst))).trans ?_))
    rw [callV_of rfl hd (a6_of (op2_of rfl rfl rfl) (op2_of rfl rfl rfl) (op2_of rfl rfl rfl) (op2_of rfl rfl rfl) (op2_of rfl rfl rfl) (op2_of rfl rfl rfl))]
theorem chk_of {i : Nat} {lo hi : Int} {d : D} {ρ : En} {S : DS} (h : Arg d) (hs : slot ρ i = some d) : orB (notB (truB (callE m_is_integer (consA (var i) nilA)))) (notB (valB (chn2 dLe dLe (cst (.int lo)) (var i) (cst (.int hi))))) ρ S = .ok (!wh d lo hi) S := by
  have c := call1_of (F := m_is_integer) (var_of hs) (g_is_integer h S)
  cases e : isI d with
  | false =>
    rw [e] at c
    have w : wh d lo hi = false := by cases d <;> first | rfl | (cases e)
    rw [w]
    exact or_t (not_of (tru_ofE c rfl))
  | true =>
    rw [e] at c
    cases d <;> first | (cases e; done) | skip
    rename_i x
    exact (or_f (not_of (tru_ofE c rfl))).trans (not_of (val_of (chn_of (x := x) (var_of hs))))
theorem elt_of {i : Nat} {lo hi : Int} {d : D} {ρ : En} {S : DS} (h : Arg d) (hs : slot ρ i = some d) : andE (callE m_is_integer (consA (var i) nilA)) (chn2 dLe dLe (cst (.int lo)) (var i) (cst (.int hi))) ρ S = .ok (.bl (wh d lo hi)) S := by
  have c := call1_of (F := m_is_integer) (var_of hs) (g_is_integer h S)
  cases e : isI d with
  | false =>
    rw [e] at c
    have w : wh d lo hi = false := by cases d <;> first | rfl | (cases e)
    rw [w]
    exact andE_f c
  | true =>
    rw [e] at c
    cases d <;> first | (cases e; done) | skip
    rename_i x
    exact (andE_t c).trans (chn_of (x := x) (var_of hs))
theorem chl_of {f k : FE} {x : Int} {n : Nat} {ρ : En} {S : DS} (h1 : f ρ S = .ok (.int x) S) (h2 : k ρ S = .ok (.int (n : Int)) S) : chn2 dLe dLt (cst (.int 0)) f k ρ S = .ok (.bl (decide (0 ≤ x) && decide (x ≤ (n : Int) - 1))) S := by
  have e : decide (x < (n : Int)) = decide (x ≤ (n : Int) - 1) := decide_eq_decide.mpr (by omega)
  rw [← e]
  by_cases h : 0 ≤ x
  · simp only [chn2, bd, cst, rt, h1, h2, dLe, dLt, decide_eq_true h, lift, Bool.true_and]
  · simp only [chn2, bd, cst, rt, h1, dLe, decide_eq_false h, lift, Bool.false_and]
theorem chkL_of {i : Nat} {k : FE} {n : Nat} {d : D} {ρ : En} {S : DS} (h : Arg d) (hs : slot ρ i = some d) (hk : k ρ S = .ok (.int (n : Int)) S) : orB (notB (truB (callE m_is_integer (consA (var i) nilA)))) (notB (valB (chn2 dLe dLt (cst (.int 0)) (var i) k))) ρ S = .ok (!wh d 0 ((n : Int) - 1)) S := by
  have c := call1_of (F := m_is_integer) (var_of hs) (g_is_integer h S)
  cases e : isI d with
  | false =>
    rw [e] at c
    have w : wh d 0 ((n : Int) - 1) = false := by cases d <;> first | rfl | (cases e)
    rw [w]
    exact or_t (not_of (tru_ofE c rfl))
  | true =>
    rw [e] at c
    cases d <;> first | (cases e; done) | skip
    rename_i x
    exact (or_f (not_of (tru_ofE c rfl))).trans (not_of (val_of (chl_of (x := x) (var_of hs) hk)))
theorem eltL_of {i : Nat} {k : FE} {n : Nat} {d : D} {ρ : En} {S : DS} (h : Arg d) (hs : slot ρ i = some d) (hk : k ρ S = .ok (.int (n : Int)) S) : andE (callE m_is_integer (consA (var i) nilA)) (chn2 dLe dLt (cst (.int 0)) (var i) k) ρ S = .ok (.bl (wh d 0 ((n : Int) - 1))) S := by
  have c := call1_of (F := m_is_integer) (var_of hs) (g_is_integer h S)
  cases e : isI d with
  | false =>
    rw [e] at c
    have w : wh d 0 ((n : Int) - 1) = false := by cases d <;> first | rfl | (cases e)
    rw [w]
    exact andE_f c
  | true =>
    rw [e] at c
    cases d <;> first | (cases e; done) | skip
    rename_i x
    exact (andE_t c).trans (chl_of (x := x) (var_of hs) hk)
theorem blsOf_map {α : Type} (p : α → Bool) : ∀ l : List α, blsOf (l.map fun x => D.bl (p x)) = some (l.map p)
  | [] => rfl
  | d :: ds => by
    rw [List.map_cons, List.map_cons, blsOf, blsOf_map p ds]
    rfl
theorem all_map {α : Type} (p : α → Bool) (l : List α) : dAll (.lst (l.map fun x => D.bl (p x))) = some (.bl (l.all p)) := by
  show (blsOf (l.map fun x => D.bl (p x))).map (fun ns => D.bl (ns.all id)) = _
  rw [blsOf_map, Option.map_some, List.all_map]
  rfl
theorem emp_filter {α : Type} (p : α → Bool) (l : List α) : (l.filter p).isEmpty = l.all fun x => !p x := by
  cases e : l.all fun x => !p x with
  | true =>
    rw [List.isEmpty_iff, List.filter_eq_nil_iff]
    intro a ha z
    have := List.all_eq_true.mp e a ha
    rw [z] at this
    cases this
  | false =>
    cases z : (l.filter p).isEmpty with
    | false => rfl
    | true =>
      rw [List.isEmpty_iff, List.filter_eq_nil_iff] at z
      have : (l.all fun x => !p x) = true := List.all_eq_true.mpr fun a ha => by
        have := z a ha
        simpa using this
      rw [this] at e
      cases e
end Hk21
namespace Hk21
open PySem Mini
open L2 (atI ixN atI_nat kitB Key)
/-! ## coins: years and marks -/
theorem chn_ge {fl f fh : FE} {ρ : En} {S : DS} {x lo hi : Int} (h1 : fl ρ S = .ok (.int lo) S) (v : f ρ S = .ok (.int x) S) (h2 : fh ρ S = .ok (.int hi) S) : chn2 dLe dLe fl f fh ρ S = .ok (.bl (decide (lo ≤ x) && decide (x ≤ hi))) S := by
  by_cases h : lo ≤ x
  · simp only [chn2, bd, rt, h1, v, h2, dLe, decide_eq_true h, lift, Bool.true_and]
  · simp only [chn2, bd, rt, h1, v, dLe, decide_eq_false h, lift, Bool.false_and]
theorem forL_nx {t : TGd} {b : FS} {d : D} {ds : List D} {ρ ρ1 ρ' : En} {S S' : DS} (e1 : t d ρ = some ρ1) (hb : b ρ1 S = .ok (.nx ρ') S') : forL t b (d :: ds) ρ S = forL t b ds ρ' S' := by
  rw [forL]
  simp only [bd, e1, lift, rt, hb]
abbrev Cn2 := Int × Nat
def cD (c : Cn2) : D := .tup [.int c.1, nD c.2]
structure CsOk (cs : List Cn2) : Prop where
  len : cs.length ≤ 60
  r : ∀ c ∈ cs, -5000 ≤ c.1 ∧ c.1 ≤ 5000 ∧ c.2 ≤ 25
  mon : cs.Pairwise fun a b => a.1 ≤ b.1
theorem wh_in {x lo hi : Int} (h1 : lo ≤ x) (h2 : x ≤ hi) : wh (.int x) lo hi = true := by
  show (decide (lo ≤ x) && decide (x ≤ hi)) = true
  rw [decide_eq_true h1, decide_eq_true h2]
  rfl
theorem wh_nD {n : Nat} {lo hi : Int} (h1 : lo ≤ (n : Int)) (h2 : (n : Int) ≤ hi) : wh (nD n) lo hi = true := wh_in h1 h2
theorem v_is_coin {c : Cn2} (h : -5000 ≤ c.1 ∧ c.1 ≤ 5000 ∧ c.2 ≤ 25) (S : DS) : m_is_coin [cD c] S = .ok (.bl true) S := by
  obtain ⟨h1, h2, h3⟩ := h
  obtain ⟨y, k⟩ := c
  rw [e_is_coin]
  refine body_rt ?_
  rw [b_is_coin]
  have t : truB (op1 (isiD "tuple") (var 0)) [.vl (cD (y, k)), .no] S = .ok true S := tru_ofE (op1_of (d := cD (y, k)) rfl kit_tt) rfl
  have l : lcE (itS (var 0)) (tgN 1) yesB (callE m_is_integer (consA (var 1) nilA)) [1] [.vl (cD (y, k)), .no] S = .ok (.lst ([.int y, nD k].map fun _ => .bl true)) S := by
    have z := lcA (l := [D.int y, nD k]) (it := itS (var 0)) (t := tgN 1) (vs := [1]) (ρ := [.vl (cD (y, k)), .no]) (elt := callE m_is_integer (consA (var 1) nilA)) (fun d => d) (fun _ => .bl true) (its_of (f := var 0) (S := S) (d := cD (y, k)) rfl rfl) (fun x hx => ⟨[.vl (cD (y, k)), .vl x], rfl, by
      simp only [List.mem_cons, List.not_mem_nil, or_false] at hx
      rcases hx with rfl | rfl
      · exact call1_of (d := .int y) rfl (g_is_integer (d := .int y) trivial S)
      · exact call1_of (d := nD k) rfl (g_is_integer (d := nD k) trivial S)⟩) (by show 2 ≤ 1000000; omega)
    exact z
  refine (seq_nx (if_f ((or_f (not_of t)).trans ((or_f (val_of (op2_of (d1 := .int ((2 : Nat) : Int)) (d2 := .int ((2 : Nat) : Int)) (op1_of (d := cD (y, k)) rfl rfl) rfl (ne_nat 2 2)))).trans (not_of (tru_ofE (op1_of l (all_map (fun _ => true) [D.int y, nD k])) rfl)))))).trans (ret_of ?_)
  have z1 := chn_ge (fl := op1 dNeg (cst (.int 5000))) (f := op2 dIxA (var 0) (cst (.int 0))) (fh := cst (.int 5000)) (ρ := [.vl (cD (y, k)), .no]) (S := S) (x := y) (lo := -5000) (hi := 5000) (op1_of rfl rfl) (op2_of (d1 := cD (y, k)) (d2 := nD 0) rfl rfl rfl) rfl
  rw [decide_eq_true h1, decide_eq_true h2] at z1
  have z2 := chl_of (f := op2 dIxA (var 0) (cst (.int 1))) (k := cst (.int 26)) (ρ := [.vl (cD (y, k)), .no]) (S := S) (x := (k : Int)) (n := 26) (op2_of (d1 := cD (y, k)) (d2 := nD 1) rfl rfl rfl) rfl
  have h3 : k ≤ 25 := h3
  rw [decide_eq_true (by omega), decide_eq_true (by omega)] at z2
  exact (andE_t z1).trans z2
theorem ix_coin {cs : List Cn2} {k : Nat} (h : k < cs.length) : dIxA (.tup (cs.map cD)) (nD k) = some (cD (cs.getD k (0, 0))) := by
  show atI (cs.map cD) ((k : Nat) : Int) = _
  refine atI_nat ?_
  rw [List.getElem?_map, List.getElem?_eq_getElem h, List.getD_eq_getElem?_getD, List.getElem?_eq_getElem h]
  rfl
theorem rngM {a : FE} {ρ : En} {S S1 : DS} {n : Nat} (hn : n ≤ 1000) (h : a ρ S = .ok (.int ((n : Int) - 1)) S1) : itR1 a ρ S = .ok ((List.range (n - 1)).map nD) S1 := by
  have b : big62 ((n : Int) - 1) = true := by
    unfold big62
    exact decide_eq_true ⟨by omega, by omega⟩
  have e : ((n : Int) - 1).toNat = n - 1 := by omega
  unfold itR1 bd
  rw [h]
  simp only []
  rw [b, if_pos rfl, e, rngD_map]
  rfl
theorem ltI (a b : Int) : dGt (.int a) (.int b) = some (.bl (decide (b < a))) := rfl
theorem getD_mem {α : Type} {l : List α} {k : Nat} {d : α} (h : k < l.length) : l.getD k d ∈ l := by
  rw [List.getD_eq_getElem?_getD, List.getElem?_eq_getElem h]
  exact List.getElem_mem h
theorem mon_at {cs : List Cn2} (h : cs.Pairwise fun a b => a.1 ≤ b.1) {i j : Nat} (hij : i < j) (hj : j < cs.length) : (cs.getD i (0, 0)).1 ≤ (cs.getD j (0, 0)).1 := by
  rw [List.getD_eq_getElem?_getD, List.getElem?_eq_getElem (by omega), List.getD_eq_getElem?_getD, List.getElem?_eq_getElem hj]
  exact List.pairwise_iff_getElem.mp h i j (by omega) hj hij
theorem len_coins (cs : List Cn2) {i : Nat} {ρ : En} {S : DS} (hs : slot ρ i = some (.tup (cs.map cD))) : op1 dLen (var i) ρ S = .ok (nD cs.length) S := op1_of (d := .tup (cs.map cD)) (var_of hs) (by
  show some (D.int (((cs.map cD).length : Nat) : Int)) = _
  rw [List.length_map]
  rfl)
theorem v_check_coins {cs : List Cn2} (h : CsOk cs) (S : DS) : m_check_coins [.tup (cs.map cD)] S = .ok .non S := by
  have cl := h.len
  rw [e_check_coins, b_check_coins]
  have t : truB (op1 (isiD "tuple") (var 0)) [.vl (.tup (cs.map cD)), .no, .no] S = .ok true S := tru_ofE (op1_of (d := .tup (cs.map cD)) rfl kit_tt) rfl
  have g : valB (op2 dGt (op1 dLen (var 0)) (cst (.int 60))) [.vl (.tup (cs.map cD)), .no, .no] S = .ok (decide (60 < cs.length)) S := val_of (op2_of (d1 := nD cs.length) (d2 := nD 60) (len_coins cs rfl) rfl (gtN _ _))
  rw [decide_eq_false (by omega)] at g
  have l : lcE (itS (var 0)) (tgN 2) yesB (callE m_is_coin (consA (var 2) nilA)) [2] [.vl (.tup (cs.map cD)), .no, .no] S = .ok (.lst (cs.map fun _ => .bl true)) S :=
    lcA cD (fun _ => .bl true) (its_of (d := .tup (cs.map cD)) rfl rfl) (fun c hc => ⟨[.vl (.tup (cs.map cD)), .no, .vl (cD c)], rfl, call1_of (d := cD c) rfl (v_is_coin (h.r c hc) S)⟩) (by omega)
  have al := not_of (tru_ofE (op1_of l (all_map (fun _ => true) cs)) rfl)
  rw [show (cs.all fun _ => true) = true from List.all_eq_true.mpr fun _ _ => rfl] at al
  have l2 : lcE (itR1 (op2 dSub (op1 dLen (var 0)) (cst (.int 1)))) (tgN 1) (valB (op2 dGt (op2 dIxA (op2 dIxA (var 0) (var 1)) (cst (.int 0))) (op2 dIxA (op2 dIxA (var 0) (op2 dAdd (var 1) (cst (.int 1)))) (cst (.int 0))))) (cst (.int 1)) [1] [.vl (.tup (cs.map cD)), .no, .no] S = .ok (.lst (((List.range (cs.length - 1)).filter fun _ => false).map fun _ => .int 1)) S :=
    lcN nD (fun _ => .int 1) (fun _ => false) (rngM (n := cs.length) (by omega) (op2_of (d1 := nD cs.length) (d2 := nD 1) (len_coins cs rfl) rfl rfl)) (fun k hk => by
      have hk := List.mem_range.mp hk
      have hm := mon_at h.mon (show k < k + 1 by omega) (by omega)
      have z : valB (op2 dGt (op2 dIxA (op2 dIxA (var 0) (var 1)) (cst (.int 0))) (op2 dIxA (op2 dIxA (var 0) (op2 dAdd (var 1) (cst (.int 1)))) (cst (.int 0)))) [.vl (.tup (cs.map cD)), .vl (nD k), .no] S = .ok (decide ((cs.getD (k + 1) (0, 0)).1 < (cs.getD k (0, 0)).1)) S := val_of (op2_of (op2_of (d2 := nD 0) (op2_of (d1 := .tup (cs.map cD)) (d2 := nD k) rfl rfl (ix_coin (by omega))) rfl rfl) (op2_of (d2 := nD 0) (op2_of (d1 := .tup (cs.map cD)) (d2 := nD (k + 1)) rfl (op2_of (d1 := nD k) (d2 := nD 1) rfl rfl (addN k 1)) (ix_coin (by omega))) rfl rfl) (ltI _ _))
      rw [decide_eq_false (by omega)] at z
      exact ⟨_, rfl, z, fun h => by cases h⟩) (by rw [List.length_range]; omega)
  have t2 := tru_ofE (k := false) l2 (by
    rw [List.filter_eq_nil_iff.mpr (fun a _ => Bool.false_ne_true)]
    rfl)
  exact body_nx ((seq_nx (if_f ((or_f (not_of t)).trans ((or_f g).trans al)))).trans (if_f t2))
theorem c_pass {cs : List Cn2} (h : CsOk cs) {r : FS} {a : FA} {ρ : En} {S : DS} (ha : a ρ S = .ok [.tup (cs.map cD)] S) : seqS (exprS (callE m_check_coins a)) r ρ S = r ρ S :=
  seq_nx (expr_of (callA_of ha (v_check_coins h S)))
theorem v_check_many {m : Nat} (h1 : 1 ≤ m) (h2 : m ≤ 26) (S : DS) : m_check_many [nD m] S = .ok .non S := by
  rw [e_check_many, b_check_many]
  have z := chk_of (i := 0) (lo := 1) (hi := 26) (d := nD m) (ρ := [.vl (nD m)]) (S := S) trivial rfl
  rw [wh_nD (by omega) (by omega)] at z
  exact body_nx (if_f z)
theorem m_pass {m : Nat} (h1 : 1 ≤ m) (h2 : m ≤ 26) {r : FS} {a : FA} {ρ : En} {S : DS} (ha : a ρ S = .ok [nD m] S) : seqS (exprS (callE m_check_many a)) r ρ S = r ρ S :=
  seq_nx (expr_of (callA_of ha (v_check_many h1 h2 S)))
theorem v_check_round {m b s : Nat} (hb : b < m) (hs : s < m) (S : DS) : m_check_round [nD m, nD b, nD s] S = .ok .non S := by
  have it : itS (tupE (consA (tupE (consA (cst (.str "begin")) (consA (var 1) nilA))) (consA (tupE (consA (cst (.str "step")) (consA (var 2) nilA))) nilA))) [.vl (nD m), .vl (nD b), .vl (nD s), .no, .no] S = .ok [.tup [.str "begin", nD b], .tup [.str "step", nD s]] S := its_of (tup2 (tup2 rfl rfl) (tup2 rfl rfl)) rfl
  rw [e_check_round, b_check_round]
  have t1 := chkL_of (i := 4) (k := var 0) (n := m) (d := nD b) (ρ := [.vl (nD m), .vl (nD b), .vl (nD s), .vl (.str "begin"), .vl (nD b)]) (S := S) trivial rfl rfl
  have t2 := chkL_of (i := 4) (k := var 0) (n := m) (d := nD s) (ρ := [.vl (nD m), .vl (nD b), .vl (nD s), .vl (.str "step"), .vl (nD s)]) (S := S) trivial rfl rfl
  rw [wh_nD (by omega) (by omega)] at t1
  rw [wh_nD (by omega) (by omega)] at t2
  exact body_nx ((for_of it).trans ((forL_nx rfl (if_f t1)).trans ((forL_nx rfl (if_f t2)).trans rfl)))
theorem r_pass {m b s : Nat} (hb : b < m) (hs : s < m) {r : FS} {a : FA} {ρ : En} {S : DS} (ha : a ρ S = .ok [nD m, nD b, nD s] S) : seqS (exprS (callE m_check_round a)) r ρ S = r ρ S :=
  seq_nx (expr_of (callA_of ha (v_check_round hb hs S)))
theorem chkG_of {i : Nat} {fl fh : FE} {lo hi : Int} {d : D} {ρ : En} {S : DS} (h : Arg d) (hs : slot ρ i = some d) (h1 : fl ρ S = .ok (.int lo) S) (h2 : fh ρ S = .ok (.int hi) S) : orB (notB (truB (callE m_is_integer (consA (var i) nilA)))) (notB (valB (chn2 dLe dLe fl (var i) fh))) ρ S = .ok (!wh d lo hi) S := by
  have c := call1_of (F := m_is_integer) (var_of hs) (g_is_integer h S)
  cases e : isI d with
  | false =>
    rw [e] at c
    have w : wh d lo hi = false := by cases d <;> first | rfl | (cases e)
    rw [w]
    exact or_t (not_of (tru_ofE c rfl))
  | true =>
    rw [e] at c
    cases d <;> first | (cases e; done) | skip
    rename_i x
    exact (or_f (not_of (tru_ofE c rfl))).trans (not_of (val_of (chn_ge (x := x) h1 (var_of hs) h2)))
theorem v_check_span {i j : Int} (i1 : -5000 ≤ i) (ij : i ≤ j) (j2 : j ≤ 5000) (S : DS) : m_check_span [.int i, .int j] S = .ok .non S := by
  have it : itS (tupE (consA (tupE (consA (cst (.str "first")) (consA (var 0) nilA))) (consA (tupE (consA (cst (.str "last")) (consA (var 1) nilA))) nilA))) [.vl (.int i), .vl (.int j), .no, .no] S = .ok [.tup [.str "first", .int i], .tup [.str "last", .int j]] S := its_of (tup2 (tup2 rfl rfl) (tup2 rfl rfl)) rfl
  rw [e_check_span, b_check_span]
  have t1 := chkG_of (i := 3) (d := .int i) (fl := op1 dNeg (cst (.int 5000))) (fh := cst (.int 5000)) (lo := -5000) (hi := 5000) (ρ := [.vl (.int i), .vl (.int j), .vl (.str "first"), .vl (.int i)]) (S := S) trivial rfl (op1_of rfl rfl) rfl
  have t2 := chkG_of (i := 3) (d := .int j) (fl := op1 dNeg (cst (.int 5000))) (fh := cst (.int 5000)) (lo := -5000) (hi := 5000) (ρ := [.vl (.int i), .vl (.int j), .vl (.str "last"), .vl (.int j)]) (S := S) trivial rfl (op1_of rfl rfl) rfl
  rw [wh_in (by omega) (by omega)] at t1
  rw [wh_in (by omega) (by omega)] at t2
  have t3 : valB (op2 dLt (var 1) (var 0)) [.vl (.int i), .vl (.int j), .vl (.str "last"), .vl (.int j)] S = .ok (decide (j < i)) S := val_of (op2_of (d1 := .int j) (d2 := .int i) rfl rfl rfl)
  rw [decide_eq_false (by omega)] at t3
  exact body_nx ((seq_nx ((for_of it).trans ((forL_nx rfl (if_f t1)).trans ((forL_nx rfl (if_f t2)).trans rfl)))).trans (if_f t3))
theorem s_pass {i j : Int} (i1 : -5000 ≤ i) (ij : i ≤ j) (j2 : j ≤ 5000) {r : FS} {a : FA} {ρ : En} {S : DS} (ha : a ρ S = .ok [.int i, .int j] S) : seqS (exprS (callE m_check_span a)) r ρ S = r ρ S :=
  seq_nx (expr_of (callA_of ha (v_check_span i1 ij j2 S)))
/-! ## marks -/
theorem mulI {s : Nat} {y : Int} (hs : s ≤ 1000) (h1 : -100000 ≤ y) (h2 : y ≤ 100000) : dMulX (nD s) (.int y) = some (.int ((s : Int) * y)) := by
  show (if (s : Int).natAbs.log2 + y.natAbs.log2 < 1000000 then some (D.int ((s : Int) * y)) else none) = _
  have a := log_top (n := (s : Int).natAbs) (by omega)
  have b := log_top (n := y.natAbs) (by omega)
  rw [if_pos (by omega)]
theorem v_mark {m b s : Nat} {y : Int} (hm : 1 ≤ m) (hs : s ≤ 1000) (h1 : -100000 ≤ y) (h2 : y ≤ 100000) (S : DS) : m_mark_in [nD m, nD b, nD s, .int y] S = .ok (.int (mkI m b s y)) S := by
  rw [e_mark_in]
  refine body_rt ?_
  rw [b_mark_in]
  refine ret_of (op2_of (d1 := .int ((b : Int) + (s : Int) * y)) (d2 := nD m) (op2_of (d1 := nD b) rfl (op2_of (d1 := nD s) (d2 := .int y) rfl rfl (mulI hs h1 h2)) rfl) rfl ?_)
  show (if (0 : Int) < (m : Int) then some (D.int (((b : Int) + (s : Int) * y) % (m : Int))) else none) = _
  rw [if_pos (by omega)]
  rfl
theorem mark_of {f g k l : FE} {m b s : Nat} {y : Int} {ρ : En} {S : DS} (hf : f ρ S = .ok (nD m) S) (hg : g ρ S = .ok (nD b) S) (hk : k ρ S = .ok (nD s) S) (hl : l ρ S = .ok (.int y) S) (hm : 1 ≤ m) (hs : s ≤ 1000) (h1 : -100000 ≤ y) (h2 : y ≤ 100000) : callE m_mark_in (consA f (consA g (consA k (consA l nilA)))) ρ S = .ok (.int (mkI m b s y)) S := call4_of hf hg hk hl (v_mark hm hs h1 h2 S)
theorem neI (i j : Int) : dNe (.int i) (.int j) = some (.bl (!decide (i = j))) := by
  have e : PyData.eqv (.int i) (.int j) = decide (i = j) := by
    rw [Bool.eq_iff_iff]
    simp [PyData.eqv]
  unfold dNe dEqv
  rw [show okEq (.int i) = true from rfl, show okEq (.int j) = true from rfl]
  simp only [D.py, e, Bool.and_self, if_true]
def hitB (m b s : Nat) (c : Cn2) : Bool := decide (mkI m b s c.1 = (c.2 : Int))
def fitB (cs : List Cn2) (m b s : Nat) : Bool := cs.all (hitB m b s)
/-- the coins that miss a round -/
theorem lc_miss {cs : List Cn2} (h : CsOk cs) {m b s i j k y z : Nat} (hm : 1 ≤ m) (hs : s ≤ 1000) {ρ : En} {S : DS} (h0 : slot ρ 0 = some (.tup (cs.map cD)))
    (hE : ∀ c : Cn2, tgX [(tgN y), (tgN z)] (cD c) (wipeR ρ [y, z]) = some (setV z (nD c.2) (setV y (.int c.1) (wipeR ρ [y, z]))))
    (hV : ∀ c : Cn2, slot (setV z (nD c.2) (setV y (.int c.1) (wipeR ρ [y, z]))) i = some (nD m) ∧ slot (setV z (nD c.2) (setV y (.int c.1) (wipeR ρ [y, z]))) j = some (nD b) ∧ slot (setV z (nD c.2) (setV y (.int c.1) (wipeR ρ [y, z]))) k = some (nD s) ∧ slot (setV z (nD c.2) (setV y (.int c.1) (wipeR ρ [y, z]))) y = some (.int c.1) ∧ slot (setV z (nD c.2) (setV y (.int c.1) (wipeR ρ [y, z]))) z = some (nD c.2)) :
    lcE (itS (var 0)) (tgX [(tgN y), (tgN z)]) (valB (op2 dNe (callE m_mark_in (consA (var i) (consA (var j) (consA (var k) (consA (var y) nilA))))) (var z))) (cst (.int 1)) [y, z] ρ S = .ok (.lst ((cs.filter fun c => !hitB m b s c).map fun _ => .int 1)) S := by
  have cl := h.len
  refine lcN cD (fun _ => .int 1) (fun c => !hitB m b s c) (its_of (d := .tup (cs.map cD)) (var_of h0) rfl) (fun c hc => ?_) (by omega)
  obtain ⟨r1, r2, r3⟩ := h.r c hc
  obtain ⟨v1, v2, v3, v4, v5⟩ := hV c
  exact ⟨_, hE c, val_of (op2_of (mark_of (var_of v1) (var_of v2) (var_of v3) (var_of v4) hm hs (by omega) (by omega)) (d2 := nD c.2) (var_of v5) (neI _ _)), fun _ => rfl⟩
theorem miss_emp (cs : List Cn2) (m b s : Nat) : (cs.filter fun c => !hitB m b s c).isEmpty = fitB cs m b s := by
  rw [emp_filter]
  simp only [Bool.not_not]
  rfl
/-! ## rounds that suit -/
def prN (p : Nat × Nat) : D := .tup [nD p.1, nD p.2]
def rnd (cs : List Cn2) (m b : Nat) : List (Nat × Nat) := ((List.range m).filter (fitB cs m b)).map fun s => (b, s)
def rnds (cs : List Cn2) (m : Nat) : List (Nat × Nat) := if cs.any (fun c => decide (m ≤ c.2)) = true then [] else (List.range m).flatMap (rnd cs m)
theorem rnd_len (cs : List Cn2) (m b : Nat) : (rnd cs m b).length ≤ m := by
  unfold rnd
  rw [List.length_map]
  refine Nat.le_trans (List.length_filter_le _ _) ?_
  rw [List.length_range]
  exact Nat.le_refl _
abbrev rdEn (cs : List Cn2) (m : Nat) (acc : List D) (b s : Slot) : En := [.vl (.tup (cs.map cD)), .vl (nD m), .ow (.lst acc), b, s, .no, .no]
theorem rd_in {cs : List Cn2} (h : CsOk cs) {m b : Nat} (hm : 1 ≤ m) (hm2 : m ≤ 26) (S : DS) : ∀ (l : List Nat) (acc : List D) (x : Slot), (∀ s ∈ l, s < m) → acc.length + l.length ≤ 100000 →
    ∃ x', forL (tgN 4) (ifS (notB (truB (lcE (itS (var 0)) (tgX [(tgN 5), (tgN 6)]) (valB (op2 dNe (callE m_mark_in (consA (var 1) (consA (var 3) (consA (var 4) (consA (var 5) nilA))))) (var 6))) (cst (.int 1)) [5, 6]))) (appS 2 (tupE (consA (var 3) (consA (var 4) nilA)))) skipS) (l.map nD) (rdEn cs m acc (.vl (nD b)) x) S = .ok (.nx (rdEn cs m (acc ++ ((l.filter (fitB cs m b)).map fun s => prN (b, s))) (.vl (nD b)) x')) S
  | [], acc, x, _, _ => ⟨x, by simp only [List.filter_nil, List.map_nil, List.append_nil]; rfl⟩
  | s :: l, acc, x, hs, hl => by
    have s1 := hs s List.mem_cons_self
    rw [List.length_cons] at hl
    have e1 : tgN 4 (nD s) (rdEn cs m acc (.vl (nD b)) x) = some (rdEn cs m acc (.vl (nD b)) (.vl (nD s))) := rfl
    have lc := lc_miss h (m := m) (b := b) (s := s) (i := 1) (j := 3) (k := 4) (y := 5) (z := 6) hm (by omega) (ρ := rdEn cs m acc (.vl (nD b)) (.vl (nD s))) (S := S) rfl (fun c => rfl) (fun c => ⟨rfl, rfl, rfl, rfl, rfl⟩)
    have t := not_of (tru_ofE (k := !(cs.filter fun c => !hitB m b s c).isEmpty) lc (by
      show some (!((cs.filter fun c => !hitB m b s c).map fun _ => D.int 1).isEmpty) = _
      rw [emp_map]))
    rw [Bool.not_not, miss_emp] at t
    rw [List.map_cons, List.filter_cons]
    cases q : fitB cs m b s with
    | true =>
      rw [q] at t
      have bb : (ifS (notB (truB (lcE (itS (var 0)) (tgX [(tgN 5), (tgN 6)]) (valB (op2 dNe (callE m_mark_in (consA (var 1) (consA (var 3) (consA (var 4) (consA (var 5) nilA))))) (var 6))) (cst (.int 1)) [5, 6]))) (appS 2 (tupE (consA (var 3) (consA (var 4) nilA)))) skipS) (rdEn cs m acc (.vl (nD b)) (.vl (nD s))) S = .ok (.nx (rdEn cs m (acc ++ [prN (b, s)]) (.vl (nD b)) (.vl (nD s)))) S := (if_t t).trans (app_of (i := 2) (ds := acc) rfl (tup2 (d := nD b) (e := nD s) rfl rfl) (by omega))
      obtain ⟨x', ih⟩ := rd_in h hm hm2 S l (acc ++ [prN (b, s)]) (.vl (nD s)) (fun z hz => hs z (List.mem_cons_of_mem _ hz)) (by rw [List.length_append, List.length_singleton]; omega)
      refine ⟨x', ?_⟩
      rw [if_pos rfl]
      refine (forL_nx e1 bb).trans ?_
      rw [ih, List.append_assoc]
      rfl
    | false =>
      rw [q] at t
      have bb : (ifS (notB (truB (lcE (itS (var 0)) (tgX [(tgN 5), (tgN 6)]) (valB (op2 dNe (callE m_mark_in (consA (var 1) (consA (var 3) (consA (var 4) (consA (var 5) nilA))))) (var 6))) (cst (.int 1)) [5, 6]))) (appS 2 (tupE (consA (var 3) (consA (var 4) nilA)))) skipS) (rdEn cs m acc (.vl (nD b)) (.vl (nD s))) S = .ok (.nx (rdEn cs m acc (.vl (nD b)) (.vl (nD s)))) S := if_f t
      obtain ⟨x', ih⟩ := rd_in h hm hm2 S l acc (.vl (nD s)) (fun z hz => hs z (List.mem_cons_of_mem _ hz)) (by omega)
      refine ⟨x', ?_⟩
      rw [if_neg Bool.false_ne_true]
      exact (forL_nx e1 bb).trans ih
theorem rd_out {cs : List Cn2} (h : CsOk cs) {m : Nat} (hm : 1 ≤ m) (hm2 : m ≤ 26) (S : DS) : ∀ (l : List Nat) (acc : List D) (b x : Slot), acc.length + l.length * 26 ≤ 10000 →
    ∃ b' x', forL (tgN 3) (forS (itR1 (var 1)) (tgN 4) (ifS (notB (truB (lcE (itS (var 0)) (tgX [(tgN 5), (tgN 6)]) (valB (op2 dNe (callE m_mark_in (consA (var 1) (consA (var 3) (consA (var 4) (consA (var 5) nilA))))) (var 6))) (cst (.int 1)) [5, 6]))) (appS 2 (tupE (consA (var 3) (consA (var 4) nilA)))) skipS)) (l.map nD) (rdEn cs m acc b x) S = .ok (.nx (rdEn cs m (acc ++ (l.flatMap (rnd cs m)).map prN) b' x')) S := by
  intro l
  induction l with
  | nil =>
    intro acc b x _
    exact ⟨b, x, by simp only [List.flatMap_nil, List.map_nil, List.append_nil]; rfl⟩
  | cons b0 l ihl =>
    intro acc b x hl
    rw [List.length_cons, Nat.succ_mul] at hl
    have e1 : tgN 3 (nD b0) (rdEn cs m acc b x) = some (rdEn cs m acc (.vl (nD b0)) x) := rfl
    obtain ⟨x1, q1⟩ := rd_in h (b := b0) hm hm2 S (List.range m) acc x (fun s hs => List.mem_range.mp hs) (by rw [List.length_range]; omega)
    have bb : forS (itR1 (var 1)) (tgN 4) (ifS (notB (truB (lcE (itS (var 0)) (tgX [(tgN 5), (tgN 6)]) (valB (op2 dNe (callE m_mark_in (consA (var 1) (consA (var 3) (consA (var 4) (consA (var 5) nilA))))) (var 6))) (cst (.int 1)) [5, 6]))) (appS 2 (tupE (consA (var 3) (consA (var 4) nilA)))) skipS) (rdEn cs m acc (.vl (nD b0)) x) S = .ok (.nx (rdEn cs m (acc ++ (rnd cs m b0).map prN) (.vl (nD b0)) x1)) S := by
      refine (for_of (rng1 (n := m) (by omega) rfl)).trans (q1.trans ?_)
      unfold rnd
      rw [List.map_map]
      rfl
    have rl := rnd_len cs m b0
    obtain ⟨b', x', ih⟩ := ihl (acc ++ (rnd cs m b0).map prN) (.vl (nD b0)) x1 (by rw [List.length_append, List.length_map]; omega)
    refine ⟨b', x', ?_⟩
    refine (forL_nx e1 bb).trans ?_
    rw [ih, List.flatMap_cons, List.map_append, List.append_assoc]
theorem v_rounds {cs : List Cn2} (h : CsOk cs) {m : Nat} (hm : 1 ≤ m) (hm2 : m ≤ 26) (S : DS) : m_rounds_for [.tup (cs.map cD), nD m] S = .ok (.tup ((rnds cs m).map prN)) S := by
  have cl := h.len
  rw [e_rounds_for]
  refine body_rt ?_
  rw [b_rounds_for]
  refine (c_pass h (a1_of rfl)).trans ((m_pass hm hm2 (a1_of rfl)).trans ?_)
  have l : lcE (itS (var 0)) (tgX [(tgN 5), (tgN 6)]) (valB (op2 dGe (var 6) (var 1))) (var 6) [5, 6] [.vl (.tup (cs.map cD)), .vl (nD m), .no, .no, .no, .no, .no] S = .ok (.lst ((cs.filter fun c => decide (m ≤ c.2)).map fun c => nD c.2)) S :=
    lcN cD (fun c => nD c.2) (fun c => decide (m ≤ c.2)) (its_of (d := .tup (cs.map cD)) rfl rfl) (fun c hc => ⟨[.vl (.tup (cs.map cD)), .vl (nD m), .no, .no, .no, .vl (.int c.1), .vl (nD c.2)], rfl, val_of (op2_of (d1 := nD c.2) (d2 := nD m) rfl rfl (by
      show some (D.bl (decide ((m : Int) ≤ (c.2 : Int)))) = _
      congr 2
      exact decide_eq_decide.mpr (by omega))), fun _ => rfl⟩) (by omega)
  have t := tru_ofE (k := !(cs.filter fun c => decide (m ≤ c.2)).isEmpty) l (by
    show some (!((cs.filter fun c => decide (m ≤ c.2)).map fun c => nD c.2).isEmpty) = _
    rw [emp_map])
  have ea : (!(cs.filter fun c => decide (m ≤ c.2)).isEmpty) = cs.any fun c => decide (m ≤ c.2) := by
    rw [emp_filter, List.any_eq_not_all_not]
  rw [ea] at t
  unfold rnds
  cases q : cs.any fun c => decide (m ≤ c.2) with
  | true =>
    rw [q] at t
    rw [if_pos rfl]
    exact seq_rt ((if_t t).trans (ret_of (tupE_of nil_of (Nat.zero_le _))))
  | false =>
    rw [q] at t
    rw [if_neg Bool.false_ne_true]
    obtain ⟨b', x', lp⟩ := rd_out h hm hm2 S (List.range m) [] .no .no (by rw [List.length_range]; simp; omega)
    refine (seq_nx (if_f t)).trans ((seq_nx (asgO_of lst0)).trans ((seq_nx ((for_of (rng1 (n := m) (by omega) rfl)).trans lp)).trans (ret_of ?_)))
    exact op1_of (d := .lst ([] ++ ((List.range m).flatMap (rnd cs m)).map prN)) rfl rfl
end Hk21
namespace Hk21
open PySem Mini
open PySem.W (alike dataLt)
open L2 (atI ixN atI_nat kitB Key)
/-! ## rounds judged -/
def judR : List (Nat × Nat) → D
  | [] => .tup [.str "none"]
  | [p] => .tup [.str "one", nD p.1, nD p.2]
  | rs => .tup [.str "several", .tup (rs.map prN)]
theorem ad_one (p : Nat × Nat) : dAdd (.tup [.str "one"]) (prN p) = some (.tup [.str "one", nD p.1, nD p.2]) := by
  show (if 1 + 2 ≤ 16777216 then some (D.tup ([.str "one"] ++ [nD p.1, nD p.2])) else none) = _
  rw [if_pos (by omega)]
  rfl
theorem jud_of {i : Nat} {rs : List (Nat × Nat)} {ρ : En} {S : DS} (hs : slot ρ i = some (.tup (rs.map prN))) : iteE (valB (op2 dEq (op1 dLen (var i)) (cst (.int 1)))) (op2 dAdd (tupE (consA (cst (.str "one")) nilA)) (op2 dIxA (var i) (cst (.int 0)))) (iteE (truB (var i)) (tupE (consA (cst (.str "several")) (consA (var i) nilA))) (tupE (consA (cst (.str "none")) nilA))) ρ S = .ok (judR rs) S := by
  have t : valB (op2 dEq (op1 dLen (var i)) (cst (.int 1))) ρ S = .ok (decide (rs.length = 1)) S := val_of (op2_of (d1 := nD rs.length) (d2 := nD 1) (op1_of (d := .tup (rs.map prN)) (var_of hs) (by
    show some (D.int (((rs.map prN).length : Nat) : Int)) = _
    rw [List.length_map]
    rfl)) rfl (eqN _ _))
  match rs with
  | [] => exact (ite_f t).trans ((ite_f (tru_ofE (d := .tup []) (var_of hs) rfl)).trans (tup1 rfl))
  | [p] => exact (ite_t t).trans (op2_of (tup1 rfl) (op2_of (d1 := .tup [prN p]) (d2 := nD 0) (e := prN p) (var_of hs) rfl rfl) (ad_one p))
  | p :: q :: r =>
    rw [decide_eq_false (by simp)] at t
    exact (ite_f t).trans ((ite_t (tru_ofE (d := .tup ((p :: q :: r).map prN)) (var_of hs) rfl)).trans (tup2 rfl (var_of hs)))
theorem v_judge {cs : List Cn2} (ok : CsOk cs) {m : Nat} (m1 : 1 ≤ m) (m2 : m ≤ 26) (S : DS) : m_judge_rounds [.tup (cs.map cD), nD m] S = .ok (judR (rnds cs m)) S := by
  have q := v_rounds ok m1 m2 S
  have st : ∀ {r : FS}, seqS (asgS 2 (callE m_rounds_for (consA (var 0) (consA (var 1) nilA)))) r [.vl (.tup (cs.map cD)), .vl (nD m), .no] S = r [.vl (.tup (cs.map cD)), .vl (nD m), .vl (.tup ((rnds cs m).map prN))] S := fun {r} => seq_nx (asg_of (call2_of rfl rfl q))
  generalize rnds cs m = rs at st
  have t : valB (op2 dEq (op1 dLen (var 2)) (cst (.int 1))) [.vl (.tup (cs.map cD)), .vl (nD m), .vl (.tup (rs.map prN))] S = .ok (decide (rs.length = 1)) S := val_of (op2_of (d1 := nD rs.length) (d2 := nD 1) (op1_of (d := .tup (rs.map prN)) rfl (by
    show some (D.int (((rs.map prN).length : Nat) : Int)) = _
    rw [List.length_map]
    rfl)) rfl (eqN _ _))
  rw [e_judge_rounds]
  refine body_rt ?_
  rw [b_judge_rounds]
  match rs with
  | [] => exact st.trans ((seq_nx (if_f t)).trans (ret_of ((ite_f (tru_ofE (d := .tup []) rfl rfl)).trans (tup1 rfl))))
  | [p] => exact st.trans (seq_rt ((if_t t).trans (ret_of (op2_of (tup1 rfl) (op2_of (d1 := .tup [prN p]) (d2 := nD 0) (e := prN p) rfl rfl rfl) (ad_one p)))))
  | p :: q :: r =>
    rw [decide_eq_false (by simp)] at t
    exact st.trans ((seq_nx (if_f t)).trans (ret_of ((ite_t (tru_ofE (d := .tup ((p :: q :: r).map prN)) rfl rfl)).trans (tup2 rfl rfl))))
/-! ## the fewest marks -/
def fewD (cs : List Cn2) : D := match (List.range' 1 (27 - 1)).filter fun k => !(rnds cs k).isEmpty with
  | [] => .non
  | k :: _ => nD k
theorem v_fewest {cs : List Cn2} (ok : CsOk cs) (S : DS) : m_fewest_marks [.tup (cs.map cD)] S = .ok (fewD cs) S := by
  rw [e_fewest_marks]
  refine body_rt ?_
  rw [b_fewest_marks]
  obtain ⟨f1, f2⟩ := forL_find (t := tgN 1) (b := (ifS (truB (callE m_rounds_for (consA (var 0) (consA (var 1) nilA)))) (retS (var 1)) skipS)) (S := S) (f := nD) (r := nD) (p := fun k => !(rnds cs k).isEmpty) (fun ρ => ∃ x, ρ = [.vl (.tup (cs.map cD)), x]) (List.range' 1 (27 - 1)) [.vl (.tup (cs.map cD)), .no] ⟨_, rfl⟩ (fun k hk ρ ⟨x, e⟩ => by
    subst e
    obtain ⟨k1, k2⟩ := List.mem_range'_1.mp hk
    have t : truB (callE m_rounds_for (consA (var 0) (consA (var 1) nilA))) [.vl (.tup (cs.map cD)), .vl (nD k)] S = .ok (!(rnds cs k).isEmpty) S := tru_ofE (call2_of (d := .tup (cs.map cD)) (d2 := nD k) rfl rfl (v_rounds ok k1 (by omega) S)) (by
      show some (!((rnds cs k).map prN).isEmpty) = _
      rw [emp_map])
    refine ⟨[.vl (.tup (cs.map cD)), .vl (nD k)], rfl, fun h => ?_, fun h => ⟨[.vl (.tup (cs.map cD)), .vl (nD k)], ?_, _, rfl⟩⟩
    · rw [h] at t
      exact (if_t t).trans (ret_of rfl)
    · rw [h] at t
      exact if_f t)
  have it : itR2 (cst (.int 1)) (op2 dAdd (cst (.int 26)) (cst (.int 1))) [.vl (.tup (cs.map cD)), .no] S = .ok ((List.range' 1 (27 - 1)).map nD) S := rng2 (lo := 1) (hi := 27) (by omega) (by omega) rfl (op2_of (d1 := nD 26) (d2 := nD 1) rfl rfl (addN 26 1))
  refine (c_pass ok (a1_of rfl)).trans ?_
  unfold fewD
  cases e : (List.range' 1 (27 - 1)).filter fun k => !(rnds cs k).isEmpty with
  | nil =>
    obtain ⟨ρ', q, x, rfl⟩ := f1 e
    exact (seq_nx ((for_of it).trans q)).trans (ret_of rfl)
  | cons k ks => exact seq_rt ((for_of it).trans (f2 k ks e))
/-! ## wrong coins -/
def wrgN (cs : List Cn2) (m b s : Nat) : List Nat := (List.range cs.length).filter fun k => !hitB m b s (cs.getD k (0, 0))
theorem v_wrong {cs : List Cn2} (ok : CsOk cs) {m b s : Nat} (m1 : 1 ≤ m) (m2 : m ≤ 26) (b1 : b < m) (s1 : s < m) (S : DS) : m_wrong_coins [.tup (cs.map cD), nD m, nD b, nD s] S = .ok (.tup (natL (wrgN cs m b s))) S := by
  have cl := ok.len
  rw [e_wrong_coins]
  refine body_rt ?_
  rw [b_wrong_coins]
  refine (c_pass ok (a1_of rfl)).trans ((m_pass m1 m2 (a1_of rfl)).trans ((r_pass b1 s1 (a3_of rfl rfl rfl)).trans ?_))
  have en : enumF 0 (cs.map cD) = (List.range cs.length).map fun k => .tup [nD k, cD (cs.getD k (0, 0))] := by
    refine List.ext_getElem? fun i => ?_
    rw [enumF_at, List.getElem?_map, List.getElem?_map]
    by_cases h : i < cs.length
    · rw [List.getElem?_eq_getElem h, List.getElem?_eq_getElem (by simpa using h)]
      simp [nD, h]
    · rw [List.getElem?_eq_none (by omega), List.getElem?_eq_none (by simpa using h)]
      rfl
  have hit : itEnT (var 0) [.vl (.tup (cs.map cD)), .vl (nD m), .vl (nD b), .vl (nD s), .no, .no, .no, .no] S = .ok ((List.range cs.length).map fun k => .tup [nD k, cD (cs.getD k (0, 0))]) S := by
    rw [← en]
    rfl
  have l : lcE (itEnT (var 0)) (tgX [(tgN 5), (tgX [(tgN 6), (tgN 7)])]) (valB (op2 dNe (callE m_mark_in (consA (var 1) (consA (var 2) (consA (var 3) (consA (var 6) nilA))))) (var 7))) (var 5) [5, 6, 7] [.vl (.tup (cs.map cD)), .vl (nD m), .vl (nD b), .vl (nD s), .no, .no, .no, .no] S = .ok (.lst (natL (wrgN cs m b s))) S :=
    lcN (fun k => .tup [nD k, cD (cs.getD k (0, 0))]) nD (fun k => !hitB m b s (cs.getD k (0, 0))) hit (fun k hk => by
      have hk := List.mem_range.mp hk
      obtain ⟨r1, r2, r3⟩ := ok.r _ (getD_mem (d := (0, 0)) hk)
      generalize cs.getD k (0, 0) = c at *
      exact ⟨[.vl (.tup (cs.map cD)), .vl (nD m), .vl (nD b), .vl (nD s), .no, .vl (nD k), .vl (.int c.1), .vl (nD c.2)], rfl, val_of (op2_of (mark_of (m := m) (b := b) (s := s) (y := c.1) rfl rfl rfl rfl m1 (by omega) (by omega) (by omega)) (d2 := nD c.2) rfl (neI _ _)), fun _ => rfl⟩) (by rw [List.length_range]; omega)
  exact (show enS 4 0 _ [.vl (.tup (cs.map cD)), .vl (nD m), .vl (nD b), .vl (nD s), .no, .no, .no, .no] S = _ from ret_of (op1_of l rfl))
/-! ## the best round -/
abbrev Tr := Nat × Nat × Nat
def tD (t : Tr) : D := .tup [nD t.1, nD t.2.1, nD t.2.2]
def tPy (t : Tr) : PyData := .tuple [.int (t.1 : Int), .int (t.2.1 : Int), .int (t.2.2 : Int)]
theorem pyL_tD : ∀ ts : List Tr, pyL (ts.map tD) = ts.map tPy
  | [] => rfl
  | t :: ts => by rw [List.map_cons, List.map_cons, pyL, pyL_tD ts]; rfl
theorem pureL_tD : ∀ ts : List Tr, pureL (ts.map tD) = true
  | [] => rfl
  | t :: ts => by
    rw [List.map_cons, pureL, pureL_tD ts]
    rfl
theorem depth_tPy : ∀ ts : List Tr, PyData.depthAll (ts.map tPy) ≤ 1
  | [] => Nat.zero_le _
  | t :: ts => by
    rw [List.map_cons, PyData.depthAll]
    exact Nat.max_le.mpr ⟨Nat.le_refl _, depth_tPy ts⟩
theorem alike_tPy (ts : List Tr) : alikeB (ts.map tPy) = true := by
  unfold alikeB
  rw [List.all_eq_true]
  intro x hx
  obtain ⟨p, _, rfl⟩ := List.mem_map.mp hx
  rw [Bool.and_eq_true]
  refine ⟨rfl, ?_⟩
  rw [List.all_eq_true]
  intro y hy
  obtain ⟨q, _, rfl⟩ := List.mem_map.mp hy
  simp [tPy, PySem.W.alike, PySem.W.alikeAll]
theorem lt3 (t u : Tr) : (dataLt (tPy t) (tPy u) = true → t.1 ≤ u.1) ∧ (dataLt (tPy t) (tPy u) = false → u.1 ≤ t.1) := by
  unfold tPy
  rw [PySem.W.dataLt_tuple, PySem.W.dataLt_cons (by simp [alike]), PySem.W.dataLt_int]
  by_cases h : t.1 = u.1
  · exact ⟨fun _ => by omega, fun _ => by omega⟩
  · have e : PyData.eqv (.int (t.1 : Int)) (.int (u.1 : Int)) = false := by
      simp [PyData.eqv]
      omega
    rw [e, if_neg Bool.false_ne_true]
    exact ⟨fun z => by have := of_decide_eq_true z; omega, fun z => by have := of_decide_eq_false z; omega⟩
theorem argBest_fst {bt : Nat → Nat → Bool} {f : Nat → Nat} {n : Nat} (hb : ∀ i j, i ≤ n → j ≤ n → (bt i j = true → f i ≤ f j) ∧ (bt i j = false → f j ≤ f i)) : ∀ k, k ≤ n → argBest bt k ≤ k ∧ ∀ j, j ≤ k → f (argBest bt k) ≤ f j
  | 0, _ => ⟨Nat.le_refl _, fun j hj => by
      have e : j = 0 := by omega
      subst e
      exact Nat.le_refl _⟩
  | k + 1, hk => by
    obtain ⟨h1, h2⟩ := argBest_fst hb k (by omega)
    have hh := hb (k + 1) (argBest bt k) hk (by omega)
    show (if bt (k + 1) (argBest bt k) = true then k + 1 else argBest bt k) ≤ k + 1 ∧ ∀ j, j ≤ k + 1 → f (if bt (k + 1) (argBest bt k) = true then k + 1 else argBest bt k) ≤ f j
    by_cases hc : bt (k + 1) (argBest bt k) = true
    · rw [if_pos hc]
      have z := hh.1 hc
      refine ⟨Nat.le_refl _, fun j hj => ?_⟩
      rcases Nat.lt_or_ge j (k + 1) with hlt | hge
      · exact Nat.le_trans z (h2 j (by omega))
      · have e : j = k + 1 := by omega
        subst e
        exact Nat.le_refl _
    · rw [if_neg hc]
      have z := hh.2 (by simpa using hc)
      refine ⟨by omega, fun j hj => ?_⟩
      rcases Nat.lt_or_ge j (k + 1) with hlt | hge
      · exact h2 j (by omega)
      · have e : j = k + 1 := by omega
        subst e
        exact z
theorem min_trip {ts : List Tr} (h : ts ≠ []) : ∃ t ∈ ts, dMinY (.lst (ts.map tD)) = some (tD t) ∧ ∀ u ∈ ts, t.1 ≤ u.1 := by
  have hpos : 0 < ts.length := List.length_pos_iff.mpr h
  have e0 : dMin (.lst (ts.map tD)) = none := by
    cases ts with
    | nil => exact absurd rfl h
    | cons p ps => rfl
  have ok : (okEq (.lst (ts.map tD)) && (decide (PyData.depthAll (pyL (ts.map tD)) ≤ 63) && (alikeB (pyL (ts.map tD)) && decide (0 < (ts.map tD).length)))) = true := by
    have d := depth_tPy ts
    rw [pyL_tD, alike_tPy, List.length_map]
    simp only [Bool.and_eq_true, decide_eq_true_eq]
    refine ⟨?_, by omega, trivial, hpos⟩
    unfold okEq
    rw [Bool.and_eq_true, decide_eq_true_eq]
    refine ⟨pureL_tD ts, ?_⟩
    show (PyData.list (pyL (ts.map tD))).depth ≤ _
    rw [pyL_tD, PyData.depth]
    omega
  have hb := argBest_fst (bt := bMin (ts.map tPy)) (f := fun i => (ts.getD i (0, 0, 0)).1) (n := ts.length - 1) (fun i j hi hj => by
    show (dataLt ((ts.map tPy).getD i .none) ((ts.map tPy).getD j .none) = true → _) ∧ (dataLt ((ts.map tPy).getD i .none) ((ts.map tPy).getD j .none) = false → _)
    rw [getD_map tPy ts (0, 0, 0) (by omega), getD_map tPy ts (0, 0, 0) (by omega)]
    exact lt3 _ _) (ts.length - 1) (Nat.le_refl _)
  obtain ⟨h1, h2⟩ := hb
  have hlt : argBest (bMin (ts.map tPy)) (ts.length - 1) < ts.length := by omega
  refine ⟨ts[argBest (bMin (ts.map tPy)) (ts.length - 1)], List.getElem_mem _, ?_, fun q hq => ?_⟩
  · show dMinX (.lst (ts.map tD)) = _
    unfold dMinX
    rw [e0]
    show (if (okEq (.lst (ts.map tD)) && (decide (PyData.depthAll (pyL (ts.map tD)) ≤ 63) && (alikeB (pyL (ts.map tD)) && decide (0 < (ts.map tD).length)))) = true then (ts.map tD)[argBest (bMin (pyL (ts.map tD))) ((ts.map tD).length - 1)]? else none) = _
    rw [if_pos ok, pyL_tD, List.length_map, List.getElem?_map, List.getElem?_eq_getElem hlt]
    rfl
  · obtain ⟨j, hj, rfl⟩ := List.mem_iff_getElem.mp hq
    have z := h2 j (by omega)
    simp only [List.getD_eq_getElem?_getD, List.getElem?_eq_getElem hlt, List.getElem?_eq_getElem hj, Option.getD_some] at z
    exact z
def misN (cs : List Cn2) (m b s : Nat) : Nat := (cs.filter fun c => !hitB m b s c).length
def trp (cs : List Cn2) (m b : Nat) : List Tr := (List.range m).map fun s => (misN cs m b s, b, s)
abbrev brEn (cs : List Cn2) (m : Nat) (acc : List D) (b s w : Slot) : En := [.vl (.tup (cs.map cD)), .vl (nD m), .ow (.lst acc), b, s, w, .no, .no]
theorem br_in {cs : List Cn2} (h : CsOk cs) {m b : Nat} (hm : 1 ≤ m) (hm2 : m ≤ 26) (S : DS) : ∀ (l : List Nat) (acc : List D) (x w : Slot), (∀ s ∈ l, s < m) → acc.length + l.length ≤ 100000 →
    ∃ x' w', forL (tgN 4) (seqS (asgS 5 (lcE (itS (var 0)) (tgX [(tgN 6), (tgN 7)]) (valB (op2 dNe (callE m_mark_in (consA (var 1) (consA (var 3) (consA (var 4) (consA (var 6) nilA))))) (var 7))) (cst (.int 1)) [6, 7])) (appS 2 (tupE (consA (op1 dLen (var 5)) (consA (var 3) (consA (var 4) nilA)))))) (l.map nD) (brEn cs m acc (.vl (nD b)) x w) S = .ok (.nx (brEn cs m (acc ++ (l.map fun s => (misN cs m b s, b, s)).map tD) (.vl (nD b)) x' w')) S
  | [], acc, x, w, _, _ => ⟨x, w, by simp only [List.map_nil, List.append_nil]; rfl⟩
  | s :: l, acc, x, w, hs, hl => by
    have s1 := hs s List.mem_cons_self
    rw [List.length_cons] at hl
    have e1 : tgN 4 (nD s) (brEn cs m acc (.vl (nD b)) x w) = some (brEn cs m acc (.vl (nD b)) (.vl (nD s)) w) := rfl
    have lc := lc_miss h (m := m) (b := b) (s := s) (i := 1) (j := 3) (k := 4) (y := 6) (z := 7) hm (by omega) (ρ := brEn cs m acc (.vl (nD b)) (.vl (nD s)) w) (S := S) rfl (fun c => rfl) (fun c => ⟨rfl, rfl, rfl, rfl, rfl⟩)
    have bb : (seqS (asgS 5 (lcE (itS (var 0)) (tgX [(tgN 6), (tgN 7)]) (valB (op2 dNe (callE m_mark_in (consA (var 1) (consA (var 3) (consA (var 4) (consA (var 6) nilA))))) (var 7))) (cst (.int 1)) [6, 7])) (appS 2 (tupE (consA (op1 dLen (var 5)) (consA (var 3) (consA (var 4) nilA)))))) (brEn cs m acc (.vl (nD b)) (.vl (nD s)) w) S = .ok (.nx (brEn cs m (acc ++ [tD (misN cs m b s, b, s)]) (.vl (nD b)) (.vl (nD s)) (.vl (.lst ((cs.filter fun c => !hitB m b s c).map fun _ => .int 1))))) S :=
      (seq_nx (asg_of lc)).trans (app_of (i := 2) (ds := acc) rfl (tup3 (d := nD (misN cs m b s)) (e := nD b) (i := nD s) (op1_of (d := .lst ((cs.filter fun c => !hitB m b s c).map fun _ => .int 1)) rfl (by
        show some (D.int ((((cs.filter fun c => !hitB m b s c).map fun _ => D.int 1).length : Nat) : Int)) = _
        rw [List.length_map]
        rfl)) rfl rfl) (by omega))
    obtain ⟨x', w', ih⟩ := br_in h hm hm2 S l (acc ++ [tD (misN cs m b s, b, s)]) (.vl (nD s)) (.vl (.lst ((cs.filter fun c => !hitB m b s c).map fun _ => .int 1))) (fun z hz => hs z (List.mem_cons_of_mem _ hz)) (by rw [List.length_append, List.length_singleton]; omega)
    refine ⟨x', w', ?_⟩
    refine (forL_nx e1 bb).trans ?_
    rw [ih, List.append_assoc]
    rfl
theorem br_out {cs : List Cn2} (h : CsOk cs) {m : Nat} (hm : 1 ≤ m) (hm2 : m ≤ 26) (S : DS) : ∀ (l : List Nat) (acc : List D) (b x w : Slot), acc.length + l.length * 26 ≤ 10000 →
    ∃ b' x' w', forL (tgN 3) (forS (itR1 (var 1)) (tgN 4) (seqS (asgS 5 (lcE (itS (var 0)) (tgX [(tgN 6), (tgN 7)]) (valB (op2 dNe (callE m_mark_in (consA (var 1) (consA (var 3) (consA (var 4) (consA (var 6) nilA))))) (var 7))) (cst (.int 1)) [6, 7])) (appS 2 (tupE (consA (op1 dLen (var 5)) (consA (var 3) (consA (var 4) nilA))))))) (l.map nD) (brEn cs m acc b x w) S = .ok (.nx (brEn cs m (acc ++ (l.flatMap (trp cs m)).map tD) b' x' w')) S := by
  intro l
  induction l with
  | nil =>
    intro acc b x w _
    exact ⟨b, x, w, by simp only [List.flatMap_nil, List.map_nil, List.append_nil]; rfl⟩
  | cons b0 l ihl =>
    intro acc b x w hl
    rw [List.length_cons, Nat.succ_mul] at hl
    have e1 : tgN 3 (nD b0) (brEn cs m acc b x w) = some (brEn cs m acc (.vl (nD b0)) x w) := rfl
    obtain ⟨x1, w1, q1⟩ := br_in h (b := b0) hm hm2 S (List.range m) acc x w (fun s hs => List.mem_range.mp hs) (by rw [List.length_range]; omega)
    have bb : forS (itR1 (var 1)) (tgN 4) (seqS (asgS 5 (lcE (itS (var 0)) (tgX [(tgN 6), (tgN 7)]) (valB (op2 dNe (callE m_mark_in (consA (var 1) (consA (var 3) (consA (var 4) (consA (var 6) nilA))))) (var 7))) (cst (.int 1)) [6, 7])) (appS 2 (tupE (consA (op1 dLen (var 5)) (consA (var 3) (consA (var 4) nilA)))))) (brEn cs m acc (.vl (nD b0)) x w) S = .ok (.nx (brEn cs m (acc ++ (trp cs m b0).map tD) (.vl (nD b0)) x1 w1)) S := (for_of (rng1 (n := m) (by omega) rfl)).trans q1
    have tl : (trp cs m b0).length = m := by
      unfold trp
      rw [List.length_map, List.length_range]
    obtain ⟨b', x', w', ih⟩ := ihl (acc ++ (trp cs m b0).map tD) (.vl (nD b0)) x1 w1 (by rw [List.length_append, List.length_map]; omega)
    refine ⟨b', x', w', ?_⟩
    refine (forL_nx e1 bb).trans ?_
    rw [ih, List.flatMap_cons, List.map_append, List.append_assoc]
abbrev trps (cs : List Cn2) (m : Nat) : List Tr := (List.range m).flatMap (trp cs m)
theorem trps_mem {cs : List Cn2} {m : Nat} {t : Tr} : t ∈ trps cs m ↔ ∃ b s, b < m ∧ s < m ∧ t = (misN cs m b s, b, s) := by
  unfold trps trp
  rw [List.mem_flatMap]
  constructor
  · rintro ⟨b, hb, h⟩
    obtain ⟨s, hs, rfl⟩ := List.mem_map.mp h
    exact ⟨b, s, List.mem_range.mp hb, List.mem_range.mp hs, rfl⟩
  · rintro ⟨b, s, hb, hs, rfl⟩
    exact ⟨b, List.mem_range.mpr hb, List.mem_map.mpr ⟨s, List.mem_range.mpr hs, rfl⟩⟩
theorem trps_ne (cs : List Cn2) {m : Nat} (m1 : 1 ≤ m) : trps cs m ≠ [] := fun z => by
  have : (misN cs m 0 0, 0, 0) ∈ trps cs m := trps_mem.mpr ⟨0, 0, m1, m1, rfl⟩
  rw [z] at this
  cases this
theorem trps_len (cs : List Cn2) (m : Nat) : (trps cs m).length = m * m := by
  unfold trps
  have : ∀ l : List Nat, (l.flatMap (trp cs m)).length = l.length * m := fun l => by
    induction l with
    | nil => simp
    | cons a l ih =>
      rw [List.flatMap_cons, List.length_append, ih, List.length_cons, Nat.succ_mul]
      unfold trp
      rw [List.length_map, List.length_range, Nat.add_comm]
  rw [this, List.length_range]
theorem v_best {cs : List Cn2} (ok : CsOk cs) {m : Nat} (m1 : 1 ≤ m) (m2 : m ≤ 26) {r : D} (er : dMinY (.lst ((trps cs m).map tD)) = some r) (S : DS) : m_best_round [.tup (cs.map cD), nD m] S = .ok r S := by
  rw [e_best_round]
  refine body_rt ?_
  rw [b_best_round]
  obtain ⟨b', x', w', lp⟩ := br_out ok m1 m2 S (List.range m) [] .no .no .no (by rw [List.length_range]; simp; omega)
  exact (c_pass ok (a1_of rfl)).trans ((m_pass m1 m2 (a1_of rfl)).trans ((seq_nx (asgO_of lst0)).trans ((seq_nx ((for_of (rng1 (n := m) (by omega) rfl)).trans lp)).trans (ret_of (op1_of (d := .lst ([] ++ ((List.range m).flatMap (trp cs m)).map tD)) rfl er)))))
/-! ## marks that are missing -/
theorem put_keys (es : List (Key × D)) (k : Key) (d : D) : (k ∈ es.map (·.1) ∧ (putD es k d).map (·.1) = es.map (·.1)) ∨ (k ∉ es.map (·.1) ∧ (putD es k d).map (·.1) = es.map (·.1) ++ [k]) := by
  unfold putD
  by_cases h : (es.any fun e => decide (e.1 = k)) = true
  · refine .inl ⟨?_, ?_⟩
    · obtain ⟨e, he, e1⟩ := List.any_eq_true.mp h
      exact List.mem_map.mpr ⟨e, he, of_decide_eq_true e1⟩
    · rw [if_pos h, List.map_map]
      refine List.map_congr_left fun e _ => ?_
      show (if e.1 = k then (e.1, d) else e).1 = e.1
      split <;> rfl
  · refine .inr ⟨fun z => ?_, ?_⟩
    · obtain ⟨e, he, rfl⟩ := List.mem_map.mp z
      exact h (List.any_eq_true.mpr ⟨e, he, decide_eq_true rfl⟩)
    · rw [if_neg h, List.map_append]
      rfl
theorem put_len (es : List (Key × D)) (k : Key) (d : D) : (putD es k d).length ≤ es.length + 1 := by
  have e : (putD es k d).length = ((putD es k d).map (·.1)).length := (List.length_map ..).symm
  rw [e]
  rcases put_keys es k d with ⟨_, z⟩ | ⟨_, z⟩
  · rw [z, List.length_map]
    omega
  · rw [z, List.length_append, List.length_map]
    exact Nat.le_refl _
theorem dc_keys {α : Type} {t : TGd} {kf vf : FE} {ρ : En} {S : DS} {f : α → D} (key : α → Int) : ∀ (l : List α) (acc : List (Key × D)), (acc.map (·.1)).Nodup → (∀ a ∈ l, ∃ ρ1 x, t (f a) ρ = some ρ1 ∧ kf ρ1 S = .ok (.int (key a)) S ∧ vf ρ1 S = .ok x S) → acc.length + l.length ≤ 1000000 →
    ∃ es, dcL t yesB kf vf (l.map f) acc ρ S = .ok es S ∧ (es.map (·.1)).Nodup ∧ ∀ k : Key, k ∈ es.map (·.1) ↔ (k ∈ acc.map (·.1) ∨ ∃ a ∈ l, k = .inl (key a))
  | [], acc, hn, _, _ => ⟨acc, rfl, hn, fun k => ⟨.inl, fun h => h.elim id fun ⟨a, h, _⟩ => by cases h⟩⟩
  | a :: l, acc, hn, h, hl => by
    obtain ⟨ρ1, x, e1, e2, e3⟩ := h a List.mem_cons_self
    rw [List.length_cons] at hl
    have pl := put_len acc (.inl (key a)) x
    have pk := put_keys acc (.inl (key a)) x
    have hn2 : ((putD acc (.inl (key a)) x).map (·.1)).Nodup := by
      rcases pk with ⟨_, z⟩ | ⟨hk, z⟩
      · rw [z]
        exact hn
      · rw [z, List.nodup_append]
        refine ⟨hn, List.nodup_cons.mpr ⟨fun z => (by cases z), List.nodup_nil⟩, fun y hy z hz => ?_⟩
        rw [List.mem_singleton.mp hz]
        exact fun e => hk (e ▸ hy)
    obtain ⟨es, ih, i2, i3⟩ := dc_keys (ρ := ρ) (kf := kf) (vf := vf) (t := t) (S := S) (f := f) key l (putD acc (.inl (key a)) x) hn2 (fun b hb => h b (List.mem_cons_of_mem _ hb)) (by omega)
    refine ⟨es, ?_, i2, fun k => ?_⟩
    · rw [List.map_cons, dcL]
      have n2 : noEr (kf ρ1) S = .ok (.int (key a)) S := by simp only [noEr, e2]
      have n3 : noEr (vf ρ1) S = .ok x S := by simp only [noEr, e3]
      simp only [bd, e1, lift, rt, noEr, yesB, if_true, e2, e3, keyD]
      rw [if_pos (by omega)]
      exact ih
    · rw [i3]
      have m2 : (k ∈ (putD acc (.inl (key a)) x).map (·.1)) ↔ (k ∈ acc.map (·.1) ∨ k = .inl (key a)) := by
        rcases pk with ⟨hk, z⟩ | ⟨hk, z⟩
        · rw [z]
          exact ⟨.inl, fun z => z.elim id fun e => e ▸ hk⟩
        · rw [z, List.mem_append, List.mem_singleton]
      rw [m2]
      constructor
      · rintro ((z | z) | ⟨b, hb, z⟩)
        · exact .inl z
        · exact .inr ⟨a, List.mem_cons_self .., z⟩
        · exact .inr ⟨b, List.mem_cons_of_mem _ hb, z⟩
      · rintro (z | ⟨b, hb, z⟩)
        · exact .inl (.inl z)
        · rcases List.mem_cons.mp hb with rfl | hb
          · exact .inl (.inr z)
          · exact .inr ⟨b, hb, z⟩
theorem dc_of {α : Type} {it : FI} {t : TGd} {kf vf : FE} {vs : List Nat} {ρ : En} {S : DS} {f : α → D} (key : α → Int) (l : List α) (hit : it ρ S = .ok (l.map f) S) (h : ∀ a ∈ l, ∃ ρ1 x, t (f a) (wipeR ρ vs) = some ρ1 ∧ kf ρ1 S = .ok (.int (key a)) S ∧ vf ρ1 S = .ok x S) (hl : l.length ≤ 1000000) :
    ∃ es, dcE it t yesB kf vf vs ρ S = .ok (.dic es) S ∧ (es.map (·.1)).Nodup ∧ ∀ k : Key, k ∈ es.map (·.1) ↔ ∃ a ∈ l, k = .inl (key a) := by
  obtain ⟨es, e1, e2, e3⟩ := dc_keys (ρ := wipeR ρ vs) (kf := kf) (vf := vf) (t := t) (S := S) (f := f) key l [] List.nodup_nil h (by simpa using hl)
  refine ⟨es, ?_, e2, fun k => (e3 k).trans ⟨fun h => h.elim (fun z => by cases z) id, .inr⟩⟩
  simp only [dcE, bd, hit, noEr, e1, rt]
theorem valD_some (es : List (Key × D)) (k : Key) : (valD es k).isSome = true ↔ k ∈ es.map (·.1) := by
  unfold valD
  rw [Option.isSome_map, List.find?_isSome]
  constructor
  · rintro ⟨e, he, e1⟩
    exact List.mem_map.mpr ⟨e, he, of_decide_eq_true e1⟩
  · intro z
    obtain ⟨e, he, e1⟩ := List.mem_map.mp z
    exact ⟨e, he, decide_eq_true e1⟩
def misL (cs : List Cn2) (m : Nat) : List Nat := (List.range m).filter fun k => !(cs.any fun c => decide (c.2 = k))
theorem v_missing {cs : List Cn2} (ok : CsOk cs) {m : Nat} (m1 : 1 ≤ m) (m2 : m ≤ 26) (S : DS) : m_missing_marks [.tup (cs.map cD), nD m] S = .ok (.tup (natL (misL cs m))) S := by
  have cl := ok.len
  rw [e_missing_marks]
  refine body_rt ?_
  rw [b_missing_marks]
  obtain ⟨es, dl, _, hk⟩ := dc_of (it := itS (var 0)) (t := tgX [(tgN 3), (tgN 4)]) (kf := var 4) (vf := cst (.bl true)) (vs := [3, 4]) (ρ := [.vl (.tup (cs.map cD)), .vl (nD m), .no, .no, .no, .no]) (S := S) (f := cD) (fun c => (c.2 : Int)) cs (its_of (d := .tup (cs.map cD)) rfl rfl) (fun c hc => ⟨[.vl (.tup (cs.map cD)), .vl (nD m), .no, .vl (.int c.1), .vl (nD c.2), .no], .bl true, rfl, rfl, rfl⟩) (by omega)
  have l : lcE (itR1 (var 1)) (tgN 5) (valB (op2 dNotIn (var 5) (var 2))) (var 5) [5] [.vl (.tup (cs.map cD)), .vl (nD m), .vl (.dic es), .no, .no, .no] S = .ok (.lst (natL (misL cs m))) S :=
    lcN nD nD (fun k => !(cs.any fun c => decide (c.2 = k))) (rng1 (n := m) (by omega) rfl) (fun k _ => ⟨[.vl (.tup (cs.map cD)), .vl (nD m), .vl (.dic es), .no, .no, .vl (nD k)], rfl, val_of (op2_of (d1 := nD k) (d2 := .dic es) rfl rfl (by
      show some (D.bl (!(valD es (.inl (k : Int))).isSome)) = _
      congr 3
      rw [Bool.eq_iff_iff, valD_some, hk, List.any_eq_true]
      constructor
      · rintro ⟨c, hc, e⟩
        exact ⟨c, hc, decide_eq_true (by have := Sum.inl.inj e; omega)⟩
      · rintro ⟨c, hc, e⟩
        exact ⟨c, hc, by rw [of_decide_eq_true e]⟩)), fun _ => rfl⟩) (by rw [List.length_range]; omega)
  exact (c_pass ok (a1_of rfl)).trans ((m_pass m1 m2 (a1_of rfl)).trans ((seq_nx (asg_of dl)).trans (ret_of (op1_of l rfl))))
end Hk21
namespace Hk21
open PySem Mini
open L2 (atI ixN atI_nat kitB Key)
/-! ## marks of years, years of marks -/
theorem rngI {a b : FE} {ρ : En} {S S1 S2 : DS} {i j : Int} (i1 : -5000 ≤ i) (i2 : i ≤ 5000) (j1 : -5000 ≤ j) (j2 : j ≤ 5001) (ha : a ρ S = .ok (.int i) S1) (hb : b ρ S1 = .ok (.int j) S2) : itR2 a b ρ S = .ok ((List.range (j - i).toNat).map fun k : Nat => D.int (i + (k : Int))) S2 := by
  have b62 : ∀ n : Int, -5001 ≤ n → n ≤ 5001 → big62 n = true := fun n h1 h2 => by
    unfold big62
    exact decide_eq_true ⟨by omega, by omega⟩
  unfold itR2 bd
  rw [ha]
  simp only [hb]
  rw [b62 i (by omega) (by omega), b62 j (by omega) (by omega)]
  simp only [Bool.and_self, if_true]
  rfl
def shwD (m b s : Nat) (i j : Int) : List D := (List.range (j + 1 - i).toNat).map fun k : Nat => D.int (mkI m b s (i + (k : Int)))
theorem v_shown {m b s : Nat} (m1 : 1 ≤ m) (m2 : m ≤ 26) (b1 : b < m) (s1 : s < m) {i j : Int} (i1 : -5000 ≤ i) (ij : i ≤ j) (j2 : j ≤ 5000) (S : DS) : m_marks_shown [nD m, nD b, nD s, .int i, .int j] S = .ok (.tup (shwD m b s i j)) S := by
  rw [e_marks_shown]
  refine body_rt ?_
  rw [b_marks_shown]
  have l : lcE (itR2 (var 3) (op2 dAdd (var 4) (cst (.int 1)))) (tgN 5) yesB (callE m_mark_in (consA (var 0) (consA (var 1) (consA (var 2) (consA (var 5) nilA))))) [5] [.vl (nD m), .vl (nD b), .vl (nD s), .vl (.int i), .vl (.int j), .no] S = .ok (.lst (shwD m b s i j)) S :=
    lcA (fun k : Nat => D.int (i + (k : Int))) (fun k : Nat => D.int (mkI m b s (i + (k : Int)))) (rngI i1 (by omega) (by omega) (by omega) rfl (op2_of (d1 := .int j) (d2 := .int 1) rfl rfl rfl)) (fun k hk => by
      have hk := List.mem_range.mp hk
      exact ⟨_, rfl, mark_of (m := m) (b := b) (s := s) (y := i + (k : Int)) rfl rfl rfl rfl m1 (by omega) (by omega) (by omega)⟩) (by rw [List.length_range]; omega)
  exact (m_pass m1 m2 (a1_of rfl)).trans ((r_pass b1 s1 (a3_of rfl rfl rfl)).trans ((s_pass i1 ij j2 (a2_of rfl rfl)).trans (ret_of (op1_of l rfl))))
def yrsD (m b s t : Nat) (i j : Int) : List D := ((List.range (j + 1 - i).toNat).filter fun k : Nat => decide (mkI m b s (i + (k : Int)) = (t : Int))).map fun k : Nat => D.int (i + (k : Int))
theorem v_years {m b s t : Nat} (m1 : 1 ≤ m) (m2 : m ≤ 26) (b1 : b < m) (s1 : s < m) (t1 : t < m) {i j : Int} (i1 : -5000 ≤ i) (ij : i ≤ j) (j2 : j ≤ 5000) (S : DS) : m_years_of [nD m, nD b, nD s, nD t, .int i, .int j] S = .ok (.tup (yrsD m b s t i j)) S := by
  rw [e_years_of]
  refine body_rt ?_
  rw [b_years_of]
  have c := chkL_of (i := 3) (k := var 0) (n := m) (d := nD t) (ρ := [.vl (nD m), .vl (nD b), .vl (nD s), .vl (nD t), .vl (.int i), .vl (.int j), .no]) (S := S) trivial rfl rfl
  rw [wh_nD (by omega) (by omega)] at c
  have l : lcE (itR2 (var 4) (op2 dAdd (var 5) (cst (.int 1)))) (tgN 6) (valB (op2 dEq (callE m_mark_in (consA (var 0) (consA (var 1) (consA (var 2) (consA (var 6) nilA))))) (var 3))) (var 6) [6] [.vl (nD m), .vl (nD b), .vl (nD s), .vl (nD t), .vl (.int i), .vl (.int j), .no] S = .ok (.lst (yrsD m b s t i j)) S :=
    lcN (fun k : Nat => D.int (i + (k : Int))) (fun k : Nat => D.int (i + (k : Int))) (fun k : Nat => decide (mkI m b s (i + (k : Int)) = (t : Int))) (rngI i1 (by omega) (by omega) (by omega) rfl (op2_of (d1 := .int j) (d2 := .int 1) rfl rfl rfl)) (fun k hk => by
      have hk := List.mem_range.mp hk
      exact ⟨_, rfl, val_of (op2_of (mark_of (m := m) (b := b) (s := s) (y := i + (k : Int)) rfl rfl rfl rfl m1 (by omega) (by omega) (by omega)) (d2 := .int t) rfl (dEq_int _ _)), fun _ => rfl⟩) (by rw [List.length_range]; omega)
  exact (m_pass m1 m2 (a1_of rfl)).trans ((r_pass b1 s1 (a3_of rfl rfl rfl)).trans ((seq_nx (if_f c)).trans ((s_pass i1 ij j2 (a2_of rfl rfl)).trans (ret_of (op1_of l rfl)))))
theorem v_goes {m s : Nat} (m1 : 1 ≤ m) (m2 : m ≤ 26) (hs : s < m) (S : DS) : m_goes_round [nD m, nD s] S = .ok (nD (m / Nat.gcd m s)) S := by
  rw [e_goes_round]
  refine body_rt ?_
  rw [b_goes_round]
  refine (m_pass m1 m2 (a1_of rfl)).trans ?_
  have t := chkL_of (i := 1) (k := var 0) (n := m) (d := nD s) (ρ := [.vl (nD m), .vl (nD s), .no, .no]) (S := S) trivial rfl rfl
  have w : wh (nD s) 0 ((m : Int) - 1) = true := by
    show (decide ((0 : Int) ≤ (s : Int)) && decide ((s : Int) ≤ (m : Int) - 1)) = true
    rw [decide_eq_true (by omega), decide_eq_true (by omega)]
    rfl
  rw [w] at t
  have gp : 0 < Nat.gcd m s := Nat.gcd_pos_of_pos_left s m1
  refine (seq_nx (if_f t)).trans ((seq_nx (par_of (d := nD m) (e := nD s) rfl rfl)).trans ((seq_nx (q_loop S (nD m) (nD s) W0 m s (W0_big (by omega)))).trans (ret_of (op2_of (d1 := nD m) (d2 := nD (Nat.gcd m s)) rfl rfl (div_n gp ?_)))))
  have := Nat.le_of_dvd m1 (Nat.gcd_dvd_left m s)
  omega
/-! ## the years left -/
def lefL (m b s : Nat) (ks : List Nat) (n : Nat) : List Nat := (List.range n).filter fun r => (List.range ks.length).all fun a => decide (mkI m b s ((r + a : Nat) : Int) = ((ks.getD a 0 : Nat) : Int))
theorem emp_f {α β : Type} (g : α → β) (l : List α) (p : α → Bool) : (!((l.filter fun a => !p a).map g).isEmpty) = !(l.all p) := by
  rw [emp_map, emp_filter]
  simp only [Bool.not_not]
theorem len_tup {ds : List D} {lo hi i : Nat} {ρ : En} {S : DS} (hs : slot ρ i = some (.tup ds)) : orB (notB (truB (op1 (isiD "tuple") (var i)))) (notB (valB (chn2 dLe dLe (cst (.int (lo : Int))) (op1 dLen (var i)) (cst (.int (hi : Int)))))) ρ S = .ok (!(decide (lo ≤ ds.length) && decide (ds.length ≤ hi))) S := by
  have t : truB (op1 (isiD "tuple") (var i)) ρ S = .ok true S := tru_ofE (op1_of (d := .tup ds) (var_of hs) kit_tt) rfl
  have z := chn_ge (fl := cst (.int (lo : Int))) (f := op1 dLen (var i)) (fh := cst (.int (hi : Int))) (ρ := ρ) (S := S) (x := (ds.length : Int)) (lo := lo) (hi := hi) rfl (op1_of (d := .tup ds) (var_of hs) rfl) rfl
  have e : (decide ((lo : Int) ≤ (ds.length : Int)) && decide ((ds.length : Int) ≤ (hi : Int))) = (decide (lo ≤ ds.length) && decide (ds.length ≤ hi)) := by
    rw [show decide ((lo : Int) ≤ (ds.length : Int)) = decide (lo ≤ ds.length) from decide_eq_decide.mpr (by omega), show decide ((ds.length : Int) ≤ (hi : Int)) = decide (ds.length ≤ hi) from decide_eq_decide.mpr (by omega)]
  rw [e] at z
  exact (or_f (not_of t)).trans (not_of (val_of z))
theorem v_left {m b s : Nat} (m1 : 1 ≤ m) (m2 : m ≤ 26) (b1 : b < m) (s1 : s < m) {ks : List Nat} (l1 : 1 ≤ ks.length) (l2 : ks.length ≤ 60) (hk : ∀ k ∈ ks, k < m) (S : DS) : m_year_left [nD m, nD b, nD s, .tup (natL ks)] S = .ok (.tup (natL (lefL m b s ks (m / Nat.gcd m s)))) S := by
  rw [e_year_left]
  refine body_rt ?_
  rw [b_year_left]
  have t1 := len_tup (ds := natL ks) (lo := 1) (hi := 60) (i := 3) (ρ := [.vl (nD m), .vl (nD b), .vl (nD s), .vl (.tup (natL ks)), .no, .no, .no, .no, .no]) (S := S) rfl
  rw [natL_len, decide_eq_true l1, decide_eq_true l2] at t1
  have al : notB (truB (op1 dAll (lcE (itS (var 3)) (tgN 7) yesB (andE (callE m_is_integer (consA (var 7) nilA)) (chn2 dLe dLt (cst (.int 0)) (var 7) (var 0))) [7]))) [.vl (nD m), .vl (nD b), .vl (nD s), .vl (.tup (natL ks)), .no, .no, .no, .no, .no] S = .ok false S := by
    have l : lcE (itS (var 3)) (tgN 7) yesB (andE (callE m_is_integer (consA (var 7) nilA)) (chn2 dLe dLt (cst (.int 0)) (var 7) (var 0))) [7] [.vl (nD m), .vl (nD b), .vl (nD s), .vl (.tup (natL ks)), .no, .no, .no, .no, .no] S = .ok (.lst (ks.map fun _ => .bl true)) S :=
      lcA nD (fun _ => .bl true) (its_of (d := .tup (natL ks)) rfl rfl) (fun k hk' => ⟨[.vl (nD m), .vl (nD b), .vl (nD s), .vl (.tup (natL ks)), .no, .no, .no, .vl (nD k), .no], rfl, by
        have z := eltL_of (i := 7) (k := var 0) (n := m) (d := nD k) (ρ := [.vl (nD m), .vl (nD b), .vl (nD s), .vl (.tup (natL ks)), .no, .no, .no, .vl (nD k), .no]) (S := S) trivial rfl rfl
        have := hk k hk'
        rw [wh_nD (by omega) (by omega)] at z
        exact z⟩) (by omega)
    have z := not_of (tru_ofE (op1_of l (all_map (fun _ => true) ks)) rfl)
    rw [show (ks.all fun _ => true) = true from List.all_eq_true.mpr fun _ _ => rfl] at z
    exact z
  have gl : m / Nat.gcd m s ≤ 26 := Nat.le_trans (Nat.div_le_self _ _) m2
  have q4 : (asgS 4 (callE m_goes_round (consA (var 0) (consA (var 2) nilA)))) [.vl (nD m), .vl (nD b), .vl (nD s), .vl (.tup (natL ks)), .no, .no, .no, .no, .no] S = .ok (.nx [.vl (nD m), .vl (nD b), .vl (nD s), .vl (.tup (natL ks)), .vl (nD (m / Nat.gcd m s)), .no, .no, .no, .no]) S := asg_of (call2_of (d := nD m) (d2 := nD s) rfl rfl (v_goes m1 m2 s1 S))
  generalize m / Nat.gcd m s = sz at gl q4 ⊢
  have lp : ∀ (l : List Nat) (acc : List D) (x : Slot), (∀ k ∈ l, k < 26) → acc.length + l.length ≤ 1000 → ∃ (x' : Slot), forL (tgN 6) (ifS (notB (truB (lcE (itEnX (var 3)) (tgX [(tgN 8), (tgN 7)]) (valB (op2 dNe (callE m_mark_in (consA (var 0) (consA (var 1) (consA (var 2) (consA (op2 dAdd (var 6) (var 8)) nilA))))) (var 7))) (cst (.int 1)) [8, 7]))) (appS 5 (var 6)) skipS) (l.map nD) [.vl (nD m), .vl (nD b), .vl (nD s), .vl (.tup (natL ks)), .vl (nD sz), .ow (.lst acc), x, .no, .no] S = .ok (.nx [.vl (nD m), .vl (nD b), .vl (nD s), .vl (.tup (natL ks)), .vl (nD sz), .ow (.lst (acc ++ natL (l.filter fun r => (List.range ks.length).all fun a => decide (mkI m b s ((r + a : Nat) : Int) = ((ks.getD a 0 : Nat) : Int))))), x', .no, .no]) S := by
    intro l
    induction l with
    | nil => exact fun acc x _ _ => ⟨x, by simp only [List.filter_nil, natL, List.map_nil, List.append_nil]; rfl⟩
    | cons k l ih =>
      intro acc x hk hl
      rw [List.length_cons] at hl
      have k26 := hk k List.mem_cons_self
      have e1 : tgN 6 (nD k) [.vl (nD m), .vl (nD b), .vl (nD s), .vl (.tup (natL ks)), .vl (nD sz), .ow (.lst acc), x, .no, .no] = some [.vl (nD m), .vl (nD b), .vl (nD s), .vl (.tup (natL ks)), .vl (nD sz), .ow (.lst acc), .vl (nD k), .no, .no] := rfl
      have hit : itEnX (var 3) [.vl (nD m), .vl (nD b), .vl (nD s), .vl (.tup (natL ks)), .vl (nD sz), .ow (.lst acc), .vl (nD k), .no, .no] S = .ok ((List.range ks.length).map fun k => .tup [nD k, nD (ks.getD k 0)]) S := by
        rw [← enum_nat]
        rfl
      have lc : lcE (itEnX (var 3)) (tgX [(tgN 8), (tgN 7)]) (valB (op2 dNe (callE m_mark_in (consA (var 0) (consA (var 1) (consA (var 2) (consA (op2 dAdd (var 6) (var 8)) nilA))))) (var 7))) (cst (.int 1)) [8, 7] [.vl (nD m), .vl (nD b), .vl (nD s), .vl (.tup (natL ks)), .vl (nD sz), .ow (.lst acc), .vl (nD k), .no, .no] S = .ok (.lst (((List.range ks.length).filter fun a => !decide (mkI m b s ((k + a : Nat) : Int) = ((ks.getD a 0 : Nat) : Int))).map fun _ => .int 1)) S :=
        lcN (fun a => .tup [nD a, nD (ks.getD a 0)]) (fun _ => .int 1) (fun a => !decide (mkI m b s ((k + a : Nat) : Int) = ((ks.getD a 0 : Nat) : Int))) hit (fun a ha => by
          have ha := List.mem_range.mp ha
          exact ⟨[.vl (nD m), .vl (nD b), .vl (nD s), .vl (.tup (natL ks)), .vl (nD sz), .ow (.lst acc), .vl (nD k), .vl (nD (ks.getD a 0)), .vl (nD a)], rfl, val_of (op2_of (mark_of (m := m) (b := b) (s := s) (y := ((k + a : Nat) : Int)) rfl rfl rfl (op2_of (d1 := nD k) (d2 := nD a) rfl rfl (addN k a)) m1 (by omega) (by omega) (by omega)) (d2 := nD (ks.getD a 0)) rfl (neI _ _)), fun _ => rfl⟩) (by rw [List.length_range]; omega)
      have t := not_of (tru_ofE (k := !((List.range ks.length).all fun a => decide (mkI m b s ((k + a : Nat) : Int) = ((ks.getD a 0 : Nat) : Int)))) lc (by
        show some (!(((List.range ks.length).filter fun a => !decide (mkI m b s ((k + a : Nat) : Int) = ((ks.getD a 0 : Nat) : Int))).map fun _ => D.int 1).isEmpty) = _
        rw [emp_f]))
      rw [Bool.not_not] at t
      rw [List.map_cons, List.filter_cons]
      cases hq : (List.range ks.length).all fun a => decide (mkI m b s ((k + a : Nat) : Int) = ((ks.getD a 0 : Nat) : Int)) with
      | true =>
        rw [hq] at t
        obtain ⟨x', q⟩ := ih (acc ++ [nD k]) (.vl (nD k)) (fun z hz => hk z (List.mem_cons_of_mem _ hz)) (by rw [List.length_append, List.length_singleton]; omega)
        refine ⟨x', ?_⟩
        rw [if_pos rfl]
        refine (forL_nx e1 ((if_t t).trans (app_of (i := 5) (ds := acc) (d := nD k) rfl rfl (by omega)))).trans ?_
        refine q.trans ?_
        rw [List.append_assoc]
        rfl
      | false =>
        rw [hq] at t
        obtain ⟨x', q⟩ := ih acc (.vl (nD k)) (fun z hz => hk z (List.mem_cons_of_mem _ hz)) (by omega)
        refine ⟨x', ?_⟩
        rw [if_neg Bool.false_ne_true]
        exact (forL_nx e1 ((if_f t).trans rfl)).trans q
  obtain ⟨x', q7⟩ := lp (List.range sz) [] .no (fun k hk => by have := List.mem_range.mp hk; omega) (by rw [List.length_range]; simp; omega)
  exact (m_pass m1 m2 (a1_of rfl)).trans ((r_pass b1 s1 (a3_of rfl rfl rfl)).trans ((seq_nx (if_f t1)).trans ((seq_nx (if_f al)).trans ((seq_nx q4).trans ((seq_nx (asgO_of lst0)).trans ((seq_nx ((for_of (rng1 (n := sz) (by omega) rfl)).trans q7)).trans (ret_of (op1_of (d := .lst ([] ++ natL (lefL m b s ks sz))) rfl rfl))))))))
/-! ## papers -/
inductive Wo where
  | ok | form | wrong | round
  deriving DecidableEq
def Wo.rs : Wo → Str
  | .ok => "" | .form => "form" | .wrong => "wrong" | .round => "round"
def Wo.wd : Wo → D
  | .ok => .non | .form => .str "paper form" | .wrong => .str "paper wrong" | .round => .str "paper round"
def Wo.hd : Wo → D
  | .ok => .lst [.non] | .form => .str "paper form" | .wrong => .str "paper wrong" | .round => .str "paper round"
def resW (w : Wo) (S : DS) : Res D := if w = .ok then .ok .non S else .er 2 (.str w.rs) S
theorem acc_all {cs : List Cn2} {m : Nat} {x y w : D} (hx : Arg x) (hy : Arg y) {S : DS} : notB (truB (op1 dAll (lcE (itS (tupE (consA (var 2) (consA (var 3) nilA)))) (tgN 5) yesB (andE (callE m_is_integer (consA (var 5) nilA)) (chn2 dLe dLt (cst (.int 0)) (var 5) (var 1))) [5]))) [.vl (.tup (cs.map cD)), .vl (nD m), .vl x, .vl y, .vl w, .no, .no, .no] S = .ok (!(wh x 0 ((m : Int) - 1) && (wh y 0 ((m : Int) - 1) && true))) S := by
  have l : lcE (itS (tupE (consA (var 2) (consA (var 3) nilA)))) (tgN 5) yesB (andE (callE m_is_integer (consA (var 5) nilA)) (chn2 dLe dLt (cst (.int 0)) (var 5) (var 1))) [5] [.vl (.tup (cs.map cD)), .vl (nD m), .vl x, .vl y, .vl w, .no, .no, .no] S = .ok (.lst ([x, y].map fun x => .bl (wh x 0 ((m : Int) - 1)))) S := by
    have z := lcA (l := [x, y]) (it := itS (tupE (consA (var 2) (consA (var 3) nilA)))) (t := tgN 5) (vs := [5]) (ρ := [.vl (.tup (cs.map cD)), .vl (nD m), .vl x, .vl y, .vl w, .no, .no, .no]) (elt := andE (callE m_is_integer (consA (var 5) nilA)) (chn2 dLe dLt (cst (.int 0)) (var 5) (var 1))) (fun d => d) (fun d => .bl (wh d 0 ((m : Int) - 1))) (its_of (S := S) (d := .tup [x, y]) (tup2 rfl rfl) rfl) (fun z hz => ⟨[.vl (.tup (cs.map cD)), .vl (nD m), .vl x, .vl y, .vl w, .vl z, .no, .no], rfl, by
      have hX : Arg z := by
        simp only [List.mem_cons, List.not_mem_nil, or_false] at hz
        rcases hz with rfl | rfl
        · exact hx
        · exact hy
      exact eltL_of (i := 5) (k := var 1) (n := m) hX rfl rfl⟩) (by show 2 ≤ 1000000; omega)
    exact z
  exact not_of (tru_ofE (op1_of l (all_map (fun x => wh x 0 ((m : Int) - 1)) [x, y])) rfl)
theorem v_acc_form {cs : List Cn2} (ok : CsOk cs) {m : Nat} (m1 : 1 ≤ m) (m2 : m ≤ 26) {x y w : D} (hx : Arg x) (hy : Arg y) (hw : Arg w) (h : (wh x 0 ((m : Int) - 1) && (wh y 0 ((m : Int) - 1) && true)) = false ∨ isI w = false) (S : DS) : m_accept_round [.tup (cs.map cD), nD m, x, y, w] S = resW .form S := by
  rw [e_accept_round, b_accept_round]
  have a := acc_all (cs := cs) (m := m) (w := w) hx hy (S := S)
  have i4 := not_of (tru_ofE (call1_of (f := var 4) (ρ := [.vl (.tup (cs.map cD)), .vl (nD m), .vl x, .vl y, .vl w, .no, .no, .no]) (S := S) (d := w) rfl (g_is_integer hw S)) rfl)
  refine body_er ((c_pass ok (a1_of rfl)).trans ((m_pass m1 m2 (a1_of rfl)).trans (seq_er ((if_t ?_).trans (raise_of rfl)))))
  cases e : (wh x 0 ((m : Int) - 1) && (wh y 0 ((m : Int) - 1) && true)) with
  | false =>
    rw [e] at a
    exact or_t a
  | true =>
    rcases h with h | h
    · rw [h] at e
      cases e
    · rw [e] at a
      rw [h] at i4
      exact (or_f a).trans i4
theorem v_acc_num {cs : List Cn2} (ok : CsOk cs) {m b s : Nat} (m1 : 1 ≤ m) (m2 : m ≤ 26) (b1 : b < m) (s1 : s < m) (w : Int) (S : DS) : m_accept_round [.tup (cs.map cD), nD m, nD b, nD s, .int w] S = resW (if w < (misN cs m b s : Int) then .wrong else .ok) S := by
  rw [e_accept_round, b_accept_round]
  have a := acc_all (cs := cs) (m := m) (x := nD b) (y := nD s) (w := .int w) trivial trivial (S := S)
  rw [wh_nD (by omega) (by omega), wh_nD (by omega) (by omega)] at a
  have i4 := not_of (tru_ofE (call1_of (f := var 4) (ρ := [.vl (.tup (cs.map cD)), .vl (nD m), .vl (nD b), .vl (nD s), .vl (.int w), .no, .no, .no]) (S := S) (d := .int w) rfl (g_is_integer (d := .int w) trivial S)) rfl)
  have lc := lc_miss ok (m := m) (b := b) (s := s) (i := 1) (j := 2) (k := 3) (y := 6) (z := 7) m1 (by omega) (ρ := [.vl (.tup (cs.map cD)), .vl (nD m), .vl (nD b), .vl (nD s), .vl (.int w), .no, .no, .no]) (S := S) rfl (fun c => rfl) (fun c => ⟨rfl, rfl, rfl, rfl, rfl⟩)
  have t := val_of (op2_of (g := dGt) (f2 := var 4) (d1 := nD (misN cs m b s)) (d2 := .int w) (op1_of (g := dLen) lc (by
    show some (D.int ((((cs.filter fun c => !hitB m b s c).map fun _ => D.int 1).length : Nat) : Int)) = _
    rw [List.length_map]
    rfl)) rfl (ltI _ _))
  refine (congrArg (fun z => bd z leave S) rfl).trans ?_
  by_cases h : w < (misN cs m b s : Int)
  · rw [decide_eq_true h] at t
    rw [if_pos h]
    exact body_er ((c_pass ok (a1_of rfl)).trans ((m_pass m1 m2 (a1_of rfl)).trans ((seq_nx (if_f ((or_f a).trans i4))).trans ((if_t t).trans (raise_of rfl)))))
  · rw [decide_eq_false h] at t
    rw [if_neg h]
    exact body_nx ((c_pass ok (a1_of rfl)).trans ((m_pass m1 m2 (a1_of rfl)).trans ((seq_nx (if_f ((or_f a).trans i4))).trans (if_f t))))
end Hk21
namespace Hk21
open PySem Mini
open L2 (atI ixN atI_nat kitB Key)
theorem v_same {h n : Nat} {d : D} (g : Gd h n d) (a : h ≤ 64) (b : n ≤ 30000) (S : DS) : m__law_same [d, d] S = .ok (.bl true) S := same_ok g a b S
theorem gd_natT {l : List Nat} (h : ∀ n ∈ l, n ≤ 1000000000) : Gd 1 l.length (.tup (natL l)) := by
  have z := gd_tup (h := 0) (n := 0) (ds := natL l) fun d hd => by
    obtain ⟨n, hn, rfl⟩ := List.mem_map.mp hd
    exact gd_int (i := (n : Int)) (by have := h n hn; omega)
  rw [natL_len] at z
  exact z.mono (Nat.le_refl _) (by omega)
theorem wd2 {v w : Str} (e : "paper " ++ v = w) (hl : v.length ≤ 1000) : wdW 2 (.str v) = some (.str w) := by
  show (if 2 < 4 ∧ v.length ≤ 1000 then some (D.str (hdW 2 ++ v)) else none) = _
  rw [if_pos ⟨by decide, hl⟩, ← e]
  rfl
theorem ask_er {v w : Str} {S : DS} (e : "paper " ++ v = w) (hl : v.length ≤ 1000) : ask (.er 2 (.str v) S) = .ok (.str w) S := by
  unfold ask
  simp only []
  rw [wd2 e hl]
theorem ask_res (w : Wo) (S : DS) : ask (resW w S) = .ok w.hd S := by
  cases w with
  | ok => rfl
  | form => exact ask_er (v := "form") (w := "paper form") (by decide +kernel) (by decide +kernel)
  | wrong => exact ask_er (v := "wrong") (w := "paper wrong") (by decide +kernel) (by decide +kernel)
  | round => exact ask_er (v := "round") (w := "paper round") (by decide +kernel) (by decide +kernel)
theorem gd_wo (w : Wo) : Gd 1 100 w.hd := by
  cases w with
  | ok =>
    have z := gd_lst (h := 0) (n := 0) (ds := [.non]) fun d hd => by
      rw [List.mem_singleton.mp hd]
      exact gd_non
    exact z.mono (by decide) (by decide)
  | form => exact (gd_str (n := 100) (s := "paper form") (by decide +kernel) (by decide +kernel)).mono (by decide) (by decide)
  | wrong => exact (gd_str (n := 100) (s := "paper wrong") (by decide +kernel) (by decide +kernel)).mono (by decide) (by decide)
  | round => exact (gd_str (n := 100) (s := "paper round") (by decide +kernel) (by decide +kernel)).mono (by decide) (by decide)
/-- a paper: what is handed in beside the coins and the number, and its word -/
def ppD (q : List D × Wo) : D := .tup [.lst q.1, q.2.wd]
theorem v_papers {n : Nat} {F : List D → M D} (hd : disp n = some F) {a b : D} (ps : List (List D × Wo)) (hl : ps.length ≤ 100) (h : ∀ q ∈ ps, q.1.length ≤ 3 ∧ ∀ S, F (a :: b :: q.1) S = resW q.2 S) (S : DS) : m__law_shown [.fn n, .lst [a, b], .lst (ps.map ppD)] S = .ok (.bl true) S := by
  rw [e__law_shown]
  refine body_rt ?_
  rw [b__law_shown]
  have l1 : lcE (itS (var 2)) (tgX [(tgN 4), (tgN 5)]) yesB (callE m__law_asked (consA (var 0) (consA (op2 dAdd (var 1) (var 4)) nilA))) [4, 5] [.vl (.fn n), .vl (.lst [a, b]), .vl (.lst (ps.map ppD)), .no, .no, .no] S = .ok (.lst (ps.map fun q => q.2.hd)) S :=
    lcA ppD (fun q => q.2.hd) (its_of (d := .lst (ps.map ppD)) rfl rfl) (fun q hq => ⟨_, rfl, call2_of (d := .fn n) (d2 := .lst (a :: b :: q.1)) rfl (op2_of (d1 := .lst [a, b]) (d2 := .lst q.1) rfl rfl (catL (a := [a, b]) (b := q.1) (by have := (h q hq).1; show 2 + q.1.length ≤ _; omega))) (by
      have hq3 := (h q hq).1
      have z := g_asked hd (a :: b :: q.1) (by show 1 ≤ q.1.length + 1 + 1; omega) (by show q.1.length + 1 + 1 ≤ 6; omega) S
      rw [z, (h q hq).2 S]
      exact ask_res q.2 S)⟩) (by omega)
  refine (seq_nx (asg_of l1)).trans (ret_of ?_)
  have l2 : lcE (itS (var 2)) (tgX [(tgN 4), (tgN 5)]) yesB (iteE (valB (op2 dIs (var 5) (cst .non))) (lstE (consA (cst .non) nilA)) (var 5)) [4, 5] [.vl (.fn n), .vl (.lst [a, b]), .vl (.lst (ps.map ppD)), .vl (.lst (ps.map fun q => q.2.hd)), .no, .no] S = .ok (.lst (ps.map fun q => q.2.hd)) S :=
    lcA ppD (fun q => q.2.hd) (its_of (d := .lst (ps.map ppD)) rfl rfl) (fun q hq => ⟨[.vl (.fn n), .vl (.lst [a, b]), .vl (.lst (ps.map ppD)), .vl (.lst (ps.map fun q => q.2.hd)), .vl (.lst q.1), .vl q.2.wd], rfl, by
      obtain ⟨x, w⟩ := q
      cases w with
      | ok => exact (ite_t (val_of (op2_of (d1 := .non) rfl rfl rfl))).trans (lst1 rfl)
      | form => exact (ite_f (val_of (op2_of (d1 := .str "paper form") rfl rfl rfl))).trans rfl
      | wrong => exact (ite_f (val_of (op2_of (d1 := .str "paper wrong") rfl rfl rfl))).trans rfl
      | round => exact (ite_f (val_of (op2_of (d1 := .str "paper round") rfl rfl rfl))).trans rfl⟩) (by omega)
  have g : Gd 2 ((ps.map fun q => q.2.hd).length * 101) (.lst (ps.map fun q => q.2.hd)) := gd_lst (h := 1) (n := 100) fun d hd => by
    obtain ⟨q, _, rfl⟩ := List.mem_map.mp hd
    exact gd_wo q.2
  exact call2_of rfl l2 (v_same g (by decide) (by rw [List.length_map]; omega) S)
/-! ## is there a round -/
def fitE (cs : List Cn2) (m : Nat) : Prop := ∃ b s, b < m ∧ s < m ∧ ∀ c ∈ cs, hitB m b s c = true
theorem hit_lt {m b s : Nat} (m1 : 1 ≤ m) {c : Cn2} (h : hitB m b s c = true) : c.2 < m := by
  have e : mkI m b s c.1 = (c.2 : Int) := of_decide_eq_true h
  have z : mkI m b s c.1 < (m : Int) := Int.emod_lt_of_pos _ (by omega)
  omega
theorem rnds_mem {cs : List Cn2} {m : Nat} (m1 : 1 ≤ m) {p : Nat × Nat} : p ∈ rnds cs m ↔ p.1 < m ∧ p.2 < m ∧ ((m = m) ∧ (∀ c ∈ cs, hitB m p.1 p.2 c = true)) := by
  unfold rnds
  split
  · rename_i h
    constructor
    · intro z
      cases z
    · rintro ⟨_, _, _, z⟩
      obtain ⟨c, hc, hh⟩ := List.any_eq_true.mp h
      have := hit_lt m1 (z c hc)
      have := of_decide_eq_true hh
      omega
  · rw [List.mem_flatMap]
    unfold rnd
    constructor
    · rintro ⟨b, hb, z⟩
      obtain ⟨s, hs, rfl⟩ := List.mem_map.mp z
      obtain ⟨s1, s2⟩ := List.mem_filter.mp hs
      exact ⟨List.mem_range.mp hb, List.mem_range.mp s1, rfl, List.all_eq_true.mp s2⟩
    · rintro ⟨h1, h2, _, h3⟩
      exact ⟨p.1, List.mem_range.mpr h1, List.mem_map.mpr ⟨p.2, List.mem_filter.mpr ⟨List.mem_range.mpr h2, List.all_eq_true.mpr h3⟩, rfl⟩⟩
theorem rnds_fit {cs : List Cn2} {m : Nat} (m1 : 1 ≤ m) : rnds cs m ≠ [] ↔ fitE cs m := by
  constructor
  · intro h
    obtain ⟨p, hp⟩ := List.exists_mem_of_ne_nil _ h
    obtain ⟨h1, h2, _, h3⟩ := (rnds_mem m1).mp hp
    exact ⟨p.1, p.2, h1, h2, h3⟩
  · rintro ⟨b, s, h1, h2, h3⟩ z
    have : (b, s) ∈ rnds cs m := (rnds_mem m1).mpr ⟨h1, h2, rfl, h3⟩
    rw [z] at this
    cases this
/-! ## coins that show it -/
abbrev cAt (cs : List Cn2) (r : List Nat) : List Cn2 := r.map fun k => cs.getD k (0, 0)
def toP (c : Cn2) : Pn := (c.1, (c.2 : Int))
def ofP (p : Pn) : Cn2 := (p.1, p.2.toNat)
theorem ofP_toP (c : Cn2) : ofP (toP c) = c := by
  obtain ⟨a, b⟩ := c
  rfl
def srtC (cs : List Cn2) : List Cn2 := (sortP (cs.map toP)).map ofP
theorem srt_perm (cs : List Cn2) : (srtC cs).Perm cs := by
  have z := (sortP_perm (cs.map toP)).map ofP
  rw [List.map_map] at z
  have e : cs.map (ofP ∘ toP) = cs := by
    have : (ofP ∘ toP) = id := funext fun c => ofP_toP c
    rw [this, List.map_id]
  rw [e] at z
  exact z
theorem srt_D (cs : List Cn2) : (sortP (cs.map toP)).map prD = (srtC cs).map cD := by
  unfold srtC
  rw [List.map_map]
  refine List.map_congr_left fun p hp => ?_
  obtain ⟨c, _, rfl⟩ := List.mem_map.mp ((sortP_perm _).mem_iff.mp hp)
  show prD (toP c) = cD (ofP (toP c))
  rw [ofP_toP]
  rfl
theorem srt_mon (cs : List Cn2) : (srtC cs).Pairwise fun a b => a.1 ≤ b.1 := by
  unfold srtC
  rw [List.pairwise_map]
  refine (sortP_sorted (cs.map toP)).imp fun {a b} h => ?_
  have := ltPr_no.mp h
  show a.1 ≤ b.1
  omega
theorem prs_coins : ∀ cs : List Cn2, prsOf (cs.map cD) = some (cs.map toP)
  | [] => rfl
  | c :: cs => by
    show (match prOf (cD c) with
      | some p => (prsOf (cs.map cD)).map fun ps => p :: ps
      | none => none) = _
    rw [prs_coins cs]
    rfl
theorem fit_perm {cs ds : List Cn2} (h : cs.Perm ds) (m : Nat) : fitE cs m ↔ fitE ds m := by
  constructor
  · rintro ⟨b, s, h1, h2, h3⟩
    exact ⟨b, s, h1, h2, fun c hc => h3 c (h.mem_iff.mpr hc)⟩
  · rintro ⟨b, s, h1, h2, h3⟩
    exact ⟨b, s, h1, h2, fun c hc => h3 c (h.mem_iff.mp hc)⟩
theorem srt_ok {cs : List Cn2} (ok : CsOk cs) {r : List Nat} (hr : ∀ k ∈ r, k < cs.length) (h3 : r.length ≤ 3) : CsOk (srtC (cAt cs r)) := by
  refine ⟨?_, fun c hc => ?_, srt_mon _⟩
  · rw [(srt_perm _).length_eq, List.length_map]
    omega
  · obtain ⟨k, hk, rfl⟩ := List.mem_map.mp ((srt_perm _).mem_iff.mp hc)
    exact ok.r _ (getD_mem (hr k hk))
section
variable {cs : List Cn2} (ok : CsOk cs) {m : Nat} (m1 : 1 ≤ m) (m2 : m ≤ 26)
include ok m1 m2
theorem ag_all {xs : List D} (hx : ∀ x ∈ xs, Arg x) (hl : xs.length ≤ 100) {S : DS} : notB (truB (op1 dAll (lcE (itS (var 2)) (tgN 3) yesB (andE (callE m_is_integer (consA (var 3) nilA)) (chn2 dLe dLt (cst (.int 0)) (var 3) (op1 dLen (var 0)))) [3]))) [.vl (.tup (cs.map cD)), .vl (nD m), .vl (.tup xs), .no] S = .ok (!(xs.all fun x => wh x 0 ((cs.length : Int) - 1))) S := by
  have l : lcE (itS (var 2)) (tgN 3) yesB (andE (callE m_is_integer (consA (var 3) nilA)) (chn2 dLe dLt (cst (.int 0)) (var 3) (op1 dLen (var 0)))) [3] [.vl (.tup (cs.map cD)), .vl (nD m), .vl (.tup xs), .no] S = .ok (.lst (xs.map fun x => .bl (wh x 0 ((cs.length : Int) - 1)))) S := by
    have z := lcA (l := xs) (it := itS (var 2)) (t := tgN 3) (vs := [3]) (ρ := [.vl (.tup (cs.map cD)), .vl (nD m), .vl (.tup xs), .no]) (elt := andE (callE m_is_integer (consA (var 3) nilA)) (chn2 dLe dLt (cst (.int 0)) (var 3) (op1 dLen (var 0)))) (fun d => d) (fun d => .bl (wh d 0 ((cs.length : Int) - 1))) (its_of (S := S) (d := .tup xs) rfl (by rw [List.map_id']; rfl)) (fun x hx' => ⟨[.vl (.tup (cs.map cD)), .vl (nD m), .vl (.tup xs), .vl x], rfl, eltL_of (i := 3) (k := op1 dLen (var 0)) (n := cs.length) (hx x hx') rfl (len_coins cs rfl)⟩) (by omega)
    exact z
  exact not_of (tru_ofE (op1_of l (all_map (fun x => wh x 0 ((cs.length : Int) - 1)) xs)) rfl)
theorem v_ag_form {xs : List D} (hx : ∀ x ∈ xs, Arg x) (hl : xs.length ≤ 100) (h : ¬ (1 ≤ xs.length ∧ xs.length ≤ 3) ∨ (xs.all fun x => wh x 0 ((cs.length : Int) - 1)) = false) (S : DS) : m_accept_against [.tup (cs.map cD), nD m, .tup xs] S = resW .form S := by
  rw [e_accept_against, b_accept_against]
  have t := len_tup (ds := xs) (lo := 1) (hi := 3) (i := 2) (ρ := [.vl (.tup (cs.map cD)), .vl (nD m), .vl (.tup xs), .no]) (S := S) rfl
  have a := ag_all ok m1 m2 (xs := xs) hx hl (S := S)
  by_cases c : 1 ≤ xs.length ∧ xs.length ≤ 3
  · rw [decide_eq_true c.1, decide_eq_true c.2] at t
    rcases h with h | h
    · exact absurd c h
    · rw [h] at a
      exact body_er ((c_pass ok (a1_of rfl)).trans ((m_pass m1 m2 (a1_of rfl)).trans ((seq_nx (if_f t)).trans (seq_er ((if_t a).trans (raise_of rfl))))))
  · have e : (decide (1 ≤ xs.length) && decide (xs.length ≤ 3)) = false := by
      rw [Bool.and_eq_false_iff, decide_eq_false_iff_not, decide_eq_false_iff_not]
      omega
    rw [e] at t
    exact body_er ((c_pass ok (a1_of rfl)).trans ((m_pass m1 m2 (a1_of rfl)).trans (seq_er ((if_t t).trans (raise_of rfl)))))
omit ok in
theorem all_in {r : List Nat} (hr : ∀ k ∈ r, k < cs.length) : ((natL r).all fun x => wh x 0 ((cs.length : Int) - 1)) = true := List.all_eq_true.mpr fun x hx => by
  obtain ⟨k, hk, rfl⟩ := List.mem_map.mp hx
  have := hr k hk
  exact wh_nD (by omega) (by omega)
omit ok in
theorem arg_natL (r : List Nat) : ∀ x ∈ natL r, Arg x := fun x hx => by
  obtain ⟨k, _, rfl⟩ := List.mem_map.mp hx
  trivial
theorem ag_go {r : List Nat} (r1 : 1 ≤ r.length) (r3 : r.length ≤ 3) (hr : ∀ k ∈ r, k < cs.length) {rest : FS} {S : DS} : ∃ es : List (Key × D), (es.map (·.1)).Nodup ∧ (∀ k : Key, k ∈ es.map (·.1) ↔ ∃ a ∈ r, k = .inl (a : Int)) ∧
    seqS (exprS (callE m_check_coins (consA (var 0) nilA))) (seqS (exprS (callE m_check_many (consA (var 1) nilA))) (seqS (ifS (orB (notB (truB (op1 (isiD "tuple") (var 2)))) (notB (valB (chn2 dLe dLe (cst (.int 1)) (op1 dLen (var 2)) (cst (.int 3)))))) (raiseS 2 (cst (.str "form"))) skipS) (seqS (ifS (notB (truB (op1 dAll (lcE (itS (var 2)) (tgN 3) yesB (andE (callE m_is_integer (consA (var 3) nilA)) (chn2 dLe dLt (cst (.int 0)) (var 3) (op1 dLen (var 0)))) [3])))) (raiseS 2 (cst (.str "form"))) skipS) rest))) [.vl (.tup (cs.map cD)), .vl (nD m), .vl (.tup (natL r)), .no] S = rest [.vl (.tup (cs.map cD)), .vl (nD m), .vl (.tup (natL r)), .no] S ∧
    valB (op2 dLt (op1 dLenX (dcE (itS (var 2)) (tgN 3) yesB (var 3) (cst (.bl true)) [3])) (op1 dLen (var 2))) [.vl (.tup (cs.map cD)), .vl (nD m), .vl (.tup (natL r)), .no] S = .ok (decide (es.length < r.length)) S := by
  have t := len_tup (ds := natL r) (lo := 1) (hi := 3) (i := 2) (ρ := [.vl (.tup (cs.map cD)), .vl (nD m), .vl (.tup (natL r)), .no]) (S := S) rfl
  rw [natL_len, decide_eq_true r1, decide_eq_true r3] at t
  have a := ag_all ok m1 m2 (xs := natL r) (arg_natL m1 m2 r) (by rw [natL_len]; omega) (S := S)
  rw [all_in m1 m2 hr] at a
  obtain ⟨es, dl, hn, hk⟩ := dc_of (it := itS (var 2)) (t := tgN 3) (kf := var 3) (vf := cst (.bl true)) (vs := [3]) (ρ := [.vl (.tup (cs.map cD)), .vl (nD m), .vl (.tup (natL r)), .no]) (S := S) (f := nD) (fun k => (k : Int)) r (its_of (d := .tup (natL r)) rfl rfl) (fun k hk => ⟨[.vl (.tup (cs.map cD)), .vl (nD m), .vl (.tup (natL r)), .vl (nD k)], .bl true, rfl, rfl, rfl⟩) (by omega)
  refine ⟨es, hn, hk, (c_pass ok (a1_of rfl)).trans ((m_pass m1 m2 (a1_of rfl)).trans ((seq_nx (if_f t)).trans (seq_nx (if_f a)))), val_of (op2_of (d1 := nD es.length) (d2 := nD r.length) (op1_of dl rfl) (op1_of (d := .tup (natL r)) rfl (by
    show some (D.int (((natL r).length : Nat) : Int)) = _
    rw [natL_len]
    rfl)) (ltN _ _))⟩
theorem v_ag_row {r : List Nat} (r1 : 1 ≤ r.length) (r3 : r.length ≤ 3) (hr : ∀ k ∈ r, k < cs.length) (hn : r.Nodup) {w : Wo} (hw : (fitE (cAt cs r) m ∧ w = .round) ∨ (¬ fitE (cAt cs r) m ∧ w = .ok)) (S : DS) : m_accept_against [.tup (cs.map cD), nD m, .tup (natL r)] S = resW w S := by
  rw [e_accept_against, b_accept_against]
  obtain ⟨es, en, ek, g, t⟩ := ag_go ok m1 m2 r1 r3 hr (S := S) (rest := seqS (ifS (valB (op2 dLt (op1 dLenX (dcE (itS (var 2)) (tgN 3) yesB (var 3) (cst (.bl true)) [3])) (op1 dLen (var 2)))) (raiseS 2 (cst (.str "form"))) skipS)
    (ifS (truB (callE m_rounds_for (consA (op1 dTuple (op1 dSortedP (lcE (itS (var 2)) (tgN 3) yesB (op2 dIxA (var 0) (var 3)) [3]))) (consA (var 1) nilA)))) (raiseS 2 (cst (.str "round"))) skipS))
  have el : es.length = r.length := by
    have p : (es.map (·.1)).Perm (r.map fun k : Nat => (Sum.inl (k : Int) : Key)) := (List.perm_ext_iff_of_nodup en (by
      rw [List.nodup_iff_pairwise_ne, List.pairwise_map]
      rw [List.nodup_iff_pairwise_ne] at hn
      exact hn.imp fun {a b} h e => h (by have := Sum.inl.inj e; omega))).mpr fun k => by
        rw [ek, List.mem_map]
        constructor
        · rintro ⟨a, ha, rfl⟩
          exact ⟨a, ha, rfl⟩
        · rintro ⟨a, ha, rfl⟩
          exact ⟨a, ha, rfl⟩
    have := p.length_eq
    rw [List.length_map, List.length_map] at this
    exact this
  rw [decide_eq_false (by omega)] at t
  have l : lcE (itS (var 2)) (tgN 3) yesB (op2 dIxA (var 0) (var 3)) [3] [.vl (.tup (cs.map cD)), .vl (nD m), .vl (.tup (natL r)), .no] S = .ok (.lst (r.map fun k => cD (cs.getD k (0, 0)))) S :=
    lcA nD (fun k => cD (cs.getD k (0, 0))) (its_of (d := .tup (natL r)) rfl rfl) (fun k hk => ⟨[.vl (.tup (cs.map cD)), .vl (nD m), .vl (.tup (natL r)), .vl (nD k)], rfl, op2_of (d1 := .tup (cs.map cD)) (d2 := nD k) rfl rfl (ix_coin (hr k hk))⟩) (by omega)
  have so : dSortedP (.lst (r.map fun k => cD (cs.getD k (0, 0)))) = some (.lst ((srtC (cAt cs r)).map cD)) := by
    have e : (r.map fun k => cD (cs.getD k (0, 0))) = (cAt cs r).map cD := by
      unfold cAt
      rw [List.map_map]
      rfl
    rw [e]
    show (prsOf ((cAt cs r).map cD)).map (fun ps => D.lst ((sortP ps).map prD)) = _
    rw [prs_coins, Option.map_some, srt_D]
  have tt := tru_ofE (k := !(rnds (srtC (cAt cs r)) m).isEmpty) (call2_of (F := m_rounds_for) (f := op1 dTuple (op1 dSortedP (lcE (itS (var 2)) (tgN 3) yesB (op2 dIxA (var 0) (var 3)) [3]))) (g := var 1) (ρ := [.vl (.tup (cs.map cD)), .vl (nD m), .vl (.tup (natL r)), .no]) (S := S) (d := .tup ((srtC (cAt cs r)).map cD)) (d2 := nD m) (op1_of (op1_of l so) rfl) rfl (v_rounds (srt_ok ok hr r3) m1 m2 S)) (by
    show some (!((rnds (srtC (cAt cs r)) m).map prN).isEmpty) = _
    rw [emp_map])
  have ff : rnds (srtC (cAt cs r)) m ≠ [] ↔ fitE (cAt cs r) m := (rnds_fit m1).trans (fit_perm (srt_perm _) m)
  rcases hw with ⟨hf, rfl⟩ | ⟨hf, rfl⟩
  · have ne := ff.mpr hf
    have e : (rnds (srtC (cAt cs r)) m).isEmpty = false := by
      cases h : rnds (srtC (cAt cs r)) m with
      | nil => exact absurd h ne
      | cons _ _ => rfl
    rw [e] at tt
    exact body_er (g.trans ((seq_nx (if_f t)).trans ((if_t tt).trans (raise_of rfl))))
  · have e : rnds (srtC (cAt cs r)) m = [] := Classical.byContradiction fun z => hf (ff.mp z)
    rw [e] at tt
    exact body_nx (g.trans ((seq_nx (if_f t)).trans (if_f tt)))
theorem v_ag_twice (h0 : 0 < cs.length) (S : DS) : m_accept_against [.tup (cs.map cD), nD m, .tup [.int 0, .int 0]] S = resW .form S := by
  rw [e_accept_against, b_accept_against]
  obtain ⟨es, en, ek, g, t⟩ := ag_go ok m1 m2 (r := [0, 0]) (by decide) (by decide) (fun k hk => by
    simp only [List.mem_cons, List.not_mem_nil, or_false] at hk
    rcases hk with rfl | rfl <;> exact h0) (S := S) (rest := seqS (ifS (valB (op2 dLt (op1 dLenX (dcE (itS (var 2)) (tgN 3) yesB (var 3) (cst (.bl true)) [3])) (op1 dLen (var 2)))) (raiseS 2 (cst (.str "form"))) skipS)
    (ifS (truB (callE m_rounds_for (consA (op1 dTuple (op1 dSortedP (lcE (itS (var 2)) (tgN 3) yesB (op2 dIxA (var 0) (var 3)) [3]))) (consA (var 1) nilA)))) (raiseS 2 (cst (.str "round"))) skipS))
  have el : es.length = 1 := by
    have p : (es.map (·.1)).Perm [(Sum.inl 0 : Key)] := (List.perm_ext_iff_of_nodup en (List.nodup_cons.mpr ⟨fun z => (by cases z), List.nodup_nil⟩)).mpr fun k => by
      rw [ek, List.mem_singleton]
      constructor
      · rintro ⟨a, ha, rfl⟩
        simp only [List.mem_cons, List.not_mem_nil, or_false] at ha
        rcases ha with rfl | rfl <;> rfl
      · rintro rfl
        exact ⟨0, List.mem_cons_self .., rfl⟩
    have := p.length_eq
    rw [List.length_map] at this
    exact this
  rw [el, decide_eq_true (show 1 < [0, 0].length by decide)] at t
  exact body_er (g.trans (seq_er ((if_t t).trans (raise_of rfl))))
end
end Hk21
namespace Hk21
open PySem Mini
open L2 (atI ixN atI_nat kitB Key)
/-! ## the law's own looks: marks, wrong coins, rounds -/
theorem mulII {a b : Int} (h1 : a.natAbs ≤ 100000) (h2 : b.natAbs ≤ 100000) : dMulX (.int a) (.int b) = some (.int (a * b)) := by
  show (if a.natAbs.log2 + b.natAbs.log2 < 1000000 then some (D.int (a * b)) else none) = _
  have x := log_top (n := a.natAbs) (by omega)
  have y := log_top (n := b.natAbs) (by omega)
  rw [if_pos (by omega)]
theorem modI (a : Int) {m : Nat} (h : 1 ≤ m) : dMod (.int a) (nD m) = some (.int (a % (m : Int))) := by
  show (if (0 : Int) < (m : Int) then some (D.int (a % (m : Int))) else none) = _
  rw [if_pos (by omega)]
theorem v_lmark {m b s : Nat} {y : Int} (m1 : 1 ≤ m) (m2 : m ≤ 26) (hs : s < m) (h1 : -100000 ≤ y) (h2 : y ≤ 100000) (S : DS) : m__law_mark [nD m, nD b, nD s, .int y] S = .ok (.int (mkI m b s y)) S := by
  rw [e__law_mark]
  refine body_rt ?_
  rw [b__law_mark]
  have t : valB (op2 dGe (var 3) (cst (.int 0))) [.vl (nD m), .vl (nD b), .vl (nD s), .vl (.int y), .no, .no] S = .ok (decide (0 ≤ y)) S := val_of (op2_of (d1 := .int y) (d2 := .int 0) rfl rfl rfl)
  have ab : dAbs (.int y) = some (.int (if y < 0 then -y else y)) := rfl
  by_cases h : 0 ≤ y
  · rw [decide_eq_true h] at t
    rw [if_neg (by omega)] at ab
    refine (seq_nx (par_of (d := nD b) (e := nD s) rfl ((ite_t t).trans rfl))).trans (ret_of (op2_of (d1 := .int ((b : Int) + (s : Int) * y)) (d2 := nD m) (op1_of (d := .int ((b : Int) + (s : Int) * y)) (op2_of (d1 := nD b) (d2 := .int ((s : Int) * y)) rfl (op2_of (d1 := nD s) (d2 := .int y) rfl (op1_of (d := .int y) rfl ab) (mulII (by omega) (by omega))) rfl) rfl) rfl (modI _ m1)))
  · rw [decide_eq_false h] at t
    rw [if_pos (by omega)] at ab
    refine (seq_nx (par_of (d := nD b) (e := .int ((m : Int) - (s : Int))) rfl ((ite_f t).trans (op2_of (d1 := nD m) (d2 := nD s) rfl rfl rfl)))).trans (ret_of (op2_of (d1 := .int ((b : Int) + ((m : Int) - (s : Int)) * -y)) (d2 := nD m) (op1_of (d := .int ((b : Int) + ((m : Int) - (s : Int)) * -y)) (op2_of (d1 := nD b) (d2 := .int (((m : Int) - (s : Int)) * -y)) rfl (op2_of (d1 := .int ((m : Int) - (s : Int))) (d2 := .int (-y)) rfl (op1_of (d := .int y) rfl ab) (mulII (by omega) (by omega))) rfl) rfl) rfl ((modI _ m1).trans ?_)))
    congr 2
    unfold mkI
    have e : (b : Int) + ((m : Int) - (s : Int)) * -y = ((b : Int) + (s : Int) * y) + (m : Int) * -y := by
      rw [Int.sub_mul, Int.mul_neg, Int.mul_neg]
      omega
    rw [e, Int.add_mul_emod_self_left]
theorem lmark_of {f g k l : FE} {m b s : Nat} {y : Int} {ρ : En} {S : DS} (hf : f ρ S = .ok (nD m) S) (hg : g ρ S = .ok (nD b) S) (hk : k ρ S = .ok (nD s) S) (hl : l ρ S = .ok (.int y) S) (m1 : 1 ≤ m) (m2 : m ≤ 26) (hs : s < m) (h1 : -100000 ≤ y) (h2 : y ≤ 100000) : callE m__law_mark (consA f (consA g (consA k (consA l nilA)))) ρ S = .ok (.int (mkI m b s y)) S := call4_of hf hg hk hl (v_lmark m1 m2 hs h1 h2 S)
structure CsR (cs : List Cn2) : Prop where
  len : cs.length ≤ 60
  r : ∀ c ∈ cs, -5000 ≤ c.1 ∧ c.1 ≤ 5000 ∧ c.2 ≤ 25
theorem CsOk.x {cs : List Cn2} (h : CsOk cs) : CsR cs := ⟨h.len, h.r⟩
theorem v_lwrong {cs : List Cn2} (ok : CsR cs) {m b s : Nat} (m1 : 1 ≤ m) (m2 : m ≤ 26) (s1 : s < m) (S : DS) : m__law_wrong [.tup (cs.map cD), nD m, nD b, nD s] S = .ok (.tup (natL (wrgN cs m b s))) S := by
  have cl := ok.len
  rw [e__law_wrong]
  refine body_rt ?_
  rw [b__law_wrong]
  have l : lcE (itR1 (op1 dLen (var 0))) (tgN 4) (valB (op2 dNe (callE m__law_mark (consA (var 1) (consA (var 2) (consA (var 3) (consA (op2 dIxA (op2 dIxA (var 0) (var 4)) (cst (.int 0))) nilA))))) (op2 dIxA (op2 dIxA (var 0) (var 4)) (cst (.int 1))))) (var 4) [4] [.vl (.tup (cs.map cD)), .vl (nD m), .vl (nD b), .vl (nD s), .no] S = .ok (.lst (natL (wrgN cs m b s))) S :=
    lcN nD nD (fun k => !hitB m b s (cs.getD k (0, 0))) (rng1 (n := cs.length) (by omega) (len_coins cs rfl)) (fun k hk => by
      have hk := List.mem_range.mp hk
      obtain ⟨r1, r2, r3⟩ := ok.r _ (getD_mem (d := (0, 0)) hk)
      have ix := op2_of (g := dIxA) (f1 := var 0) (f2 := var 4) (ρ := [.vl (.tup (cs.map cD)), .vl (nD m), .vl (nD b), .vl (nD s), .vl (nD k)]) (S := S) (d1 := .tup (cs.map cD)) (d2 := nD k) rfl rfl (ix_coin hk)
      generalize cs.getD k (0, 0) = c at *
      exact ⟨[.vl (.tup (cs.map cD)), .vl (nD m), .vl (nD b), .vl (nD s), .vl (nD k)], rfl, val_of (op2_of (d1 := .int (mkI m b s c.1)) (d2 := nD c.2) (lmark_of (m := m) (b := b) (s := s) (y := c.1) rfl rfl rfl (op2_of ix (d2 := nD 0) rfl rfl) m1 m2 s1 (by omega) (by omega)) (op2_of ix (d2 := nD 1) rfl rfl) (neI _ _)), fun _ => rfl⟩) (by rw [List.length_range]; omega)
  exact ret_of (op1_of l rfl)
theorem range_getD {α : Type} (cs : List α) (d : α) : (List.range cs.length).map (fun k => cs.getD k d) = cs := by
  refine List.ext_getElem? fun i => ?_
  rw [List.getElem?_map]
  by_cases h : i < cs.length
  · rw [List.getElem?_eq_getElem (by simpa using h), List.getElem?_eq_getElem h, List.getElem_range, Option.map_some, List.getD_eq_getElem?_getD, List.getElem?_eq_getElem h]
    rfl
  · rw [List.getElem?_eq_none (by simpa using h), List.getElem?_eq_none (by omega)]
    rfl
theorem wrg_len (cs : List Cn2) (m b s : Nat) : (wrgN cs m b s).length = misN cs m b s := by
  unfold wrgN misN
  have e := congrArg (fun l => (l.filter fun c => !hitB m b s c).length) (range_getD cs (0, 0))
  rw [← e]
  show _ = (((List.range cs.length).map fun k => cs.getD k (0, 0)).filter fun c => !hitB m b s c).length
  rw [List.filter_map, List.length_map]
  rfl
theorem v_lrounds {cs : List Cn2} (ok : CsR cs) {m : Nat} (m1 : 1 ≤ m) (m2 : m ≤ 26) (S : DS) : m__law_rounds [.tup (cs.map cD), nD m] S = .ok (.lst ((trps cs m).map tD)) S := by
  rw [e__law_rounds]
  refine body_rt ?_
  rw [b__law_rounds]
  have lp : ∀ (l : List Nat) (acc : List D) (x : Slot), acc.length + l.length * 26 ≤ 10000 → ∃ x', forL (tgN 3) (extS 2 (lcE (itR1 (var 1)) (tgN 4) yesB (tupE (consA (op1 dLen (callE m__law_wrong (consA (var 0) (consA (var 1) (consA (var 3) (consA (var 4) nilA)))))) (consA (var 3) (consA (var 4) nilA)))) [4])) (l.map nD) [.vl (.tup (cs.map cD)), .vl (nD m), .ow (.lst acc), x, .no] S = .ok (.nx [.vl (.tup (cs.map cD)), .vl (nD m), .ow (.lst (acc ++ (l.flatMap (trp cs m)).map tD)), x', .no]) S := by
    intro l
    induction l with
    | nil =>
      intro acc x _
      exact ⟨x, by simp only [List.flatMap_nil, List.map_nil, List.append_nil]; rfl⟩
    | cons b l ih =>
      intro acc x hl
      rw [List.length_cons, Nat.succ_mul] at hl
      have lc : lcE (itR1 (var 1)) (tgN 4) yesB (tupE (consA (op1 dLen (callE m__law_wrong (consA (var 0) (consA (var 1) (consA (var 3) (consA (var 4) nilA)))))) (consA (var 3) (consA (var 4) nilA)))) [4] [.vl (.tup (cs.map cD)), .vl (nD m), .ow (.lst acc), .vl (nD b), .no] S = .ok (.lst ((trp cs m b).map tD)) S := by
        have z := lcA (it := itR1 (var 1)) (t := tgN 4) (vs := [4]) (ρ := [.vl (.tup (cs.map cD)), .vl (nD m), .ow (.lst acc), .vl (nD b), .no]) (S := S) (l := List.range m) (elt := tupE (consA (op1 dLen (callE m__law_wrong (consA (var 0) (consA (var 1) (consA (var 3) (consA (var 4) nilA)))))) (consA (var 3) (consA (var 4) nilA)))) nD (fun s => tD (misN cs m b s, b, s)) (rng1 (n := m) (by omega) rfl) (fun s hs => ⟨[.vl (.tup (cs.map cD)), .vl (nD m), .ow (.lst acc), .vl (nD b), .vl (nD s)], rfl, tup3 (d := nD (misN cs m b s)) (e := nD b) (i := nD s) (op1_of (call4_of (d := .tup (cs.map cD)) (d2 := nD m) (d3 := nD b) (d4 := nD s) rfl rfl rfl rfl (v_lwrong ok m1 m2 (List.mem_range.mp hs) S)) (by
          show some (D.int (((natL (wrgN cs m b s)).length : Nat) : Int)) = _
          rw [natL_len, wrg_len]
          rfl)) rfl rfl⟩) (by rw [List.length_range]; omega)
        rw [z]
        unfold trp
        rw [List.map_map]
        rfl
      have tl : (trp cs m b).length = m := by
        unfold trp
        rw [List.length_map, List.length_range]
      have bb := ext_of (i := 2) (ds := acc) (ρ := [.vl (.tup (cs.map cD)), .vl (nD m), .ow (.lst acc), .vl (nD b), .no]) rfl lc (by rw [List.length_map]; omega)
      obtain ⟨x', q⟩ := ih (acc ++ (trp cs m b).map tD) (.vl (nD b)) (by rw [List.length_append, List.length_map]; omega)
      refine ⟨x', (forL_nx (d := nD b) (ρ1 := [.vl (.tup (cs.map cD)), .vl (nD m), .ow (.lst acc), .vl (nD b), .no]) rfl bb).trans ?_⟩
      refine q.trans ?_
      rw [List.flatMap_cons, List.map_append, List.append_assoc]
  obtain ⟨x', q⟩ := lp (List.range m) [] .no (by rw [List.length_range]; simp; omega)
  exact (seq_nx (asgO_of lst0)).trans ((seq_nx ((for_of (rng1 (n := m) (by omega) rfl)).trans q)).trans ((frz_ow (i := 2) rfl).trans (ret_of rfl)))
/-! ## coins by draws -/
theorem lcL_st {t : TGd} {elt : FE} {ρ : En} (P : D → Prop) : ∀ (ds acc : List D) (S : DS), Vs S → (∀ d ∈ ds, ∀ S, Vs S → ∃ ρ1 x S', t d ρ = some ρ1 ∧ elt ρ1 S = .ok x S' ∧ P x ∧ Vs S') → acc.length + ds.length ≤ 1000000 →
    ∃ xs S', lcL t yesB elt ds acc ρ S = .ok (acc ++ xs) S' ∧ xs.length = ds.length ∧ (∀ x ∈ xs, P x) ∧ Vs S'
  | [], acc, S, v, _, _ => ⟨[], S, by rw [List.append_nil]; rfl, rfl, ⟨fun x hx => (by cases hx), v⟩⟩
  | d :: ds, acc, S, v, h, hl => by
    rw [List.length_cons] at hl
    obtain ⟨ρ1, x, S1, e1, e2, px, v1⟩ := h d List.mem_cons_self S v
    obtain ⟨xs, S2, e3, e4, e5, v2⟩ := lcL_st P ds (acc ++ [x]) S1 v1 (fun z hz => h z (List.mem_cons_of_mem _ hz)) (by rw [List.length_append, List.length_singleton]; omega)
    refine ⟨x :: xs, S2, ?_, by rw [List.length_cons, e4, List.length_cons], fun z hz => ?_, v2⟩
    · rw [lcL]
      simp only [bd, e1, lift, rt, noEr, yesB, if_true, e2]
      rw [if_pos (by omega), e3, List.append_assoc]
      rfl
    · rcases List.mem_cons.mp hz with rfl | hz
      · exact px
      · exact e5 z hz
theorem ints_of_P {lo hi : Int} : ∀ {xs : List D}, (∀ x ∈ xs, ∃ i : Int, x = .int i ∧ lo ≤ i ∧ i ≤ hi) → ∃ is : List Int, xs = is.map D.int ∧ (∀ i ∈ is, lo ≤ i ∧ i ≤ hi)
  | [], _ => ⟨[], rfl, fun i hi => by cases hi⟩
  | x :: xs, h => by
    obtain ⟨i, rfl, h1⟩ := h x List.mem_cons_self
    obtain ⟨is, rfl, h2⟩ := ints_of_P fun z hz => h z (List.mem_cons_of_mem _ hz)
    refine ⟨i :: is, rfl, fun j hj => ?_⟩
    rcases List.mem_cons.mp hj with rfl | hj
    · exact h1
    · exact h2 j hj
theorem intsOf_map : ∀ is : List Int, intsOf (is.map D.int) = some is
  | [] => rfl
  | i :: is => by
    show (intsOf (is.map D.int)).map (i :: ·) = _
    rw [intsOf_map is]
    rfl
theorem sort_ints (is : List Int) : dSorted (.lst (is.map D.int)) = some (.lst ((sortI is).map D.int)) := by
  show (intsOf (is.map D.int)).map (fun ns => D.lst ((sortI ns).map D.int)) = _
  rw [intsOf_map]
  rfl
def clip (y : Int) : Int := if (if y > -5000 then y else -5000) < 5000 then (if y > -5000 then y else -5000) else 5000
theorem clip_r (y : Int) : -5000 ≤ clip y ∧ clip y ≤ 5000 := by
  unfold clip
  split <;> split <;> omega
theorem clip_mon {x y : Int} (h : x ≤ y) : clip x ≤ clip y := by
  unfold clip
  repeat' split
  all_goals omega
theorem dMinL_of {ds : List D} {r : D} (h : dMin (.lst ds) = some r) : dMinY (.lst ds) = some r := by
  show dMinX (.lst ds) = _
  unfold dMinX
  rw [h]
theorem put_of {i : Nat} {f fk : FE} {ρ : En} {S S1 S2 : DS} {d o k o' : D} (h : f ρ S = .ok d S1) (ho : ownS ρ i = some o) (hk : fk ρ S1 = .ok k S2) (hp : putO o k d = some o') : putS i f fk ρ S = .ok (.nx (setO i o' ρ)) S2 := by
  simp only [putS, bd, h, ho, lift, rt, hk, hp]
theorem ix_in {n k : Nat} (h : k < n) : ixN n ((k : Nat) : Int) = some k := by
  unfold ixN
  rw [if_pos (by omega), if_pos (by omega)]
  congr 1
theorem clip_of {f : FE} {y : Int} {ρ : En} {S : DS} (h : f ρ S = .ok (.int y) S) : op1 dMinY (lstE (consA (cst (.int 5000)) (consA (op1 dMaxX (lstE (consA (op1 dNeg (cst (.int 5000))) (consA f nilA)))) nilA))) ρ S = .ok (.int (clip y)) S :=
  op1_of (lst2 rfl (op1_of (lst2 (op1_of rfl rfl) h) (dMaxX_of (r := .int (if y > -5000 then y else -5000)) rfl))) (dMinL_of (r := .int (clip y)) rfl)
theorem v_coins {S : DS} (v : Vs S) {m b s n : Nat} (m1 : 1 ≤ m) (m2 : m ≤ 26) (hs : s < m) (hn : n ≤ 9) : ∃ (cs : List Cn2) (S' : DS), m__law_coins [.st, nD m, nD b, nD s, nD n] S = .ok (.tup (cs.map cD)) S' ∧ CsOk cs ∧ cs.length = n ∧ Vs S' := by
  -- the years
  obtain ⟨xs, S1, e1, l1, p1, v1⟩ := lcL_st (t := tgN 10) (elt := op2 dSub (callE m__law_draw (consA (var 0) (consA (callE m__law_pick (consA (var 0) (consA (lstE (consA (cst (.int 9)) (consA (cst (.int 200)) (consA (cst (.int 10001)) nilA)))) nilA))) nilA))) (callE m__law_pick (consA (var 0) (consA (lstE (consA (cst (.int 0)) (consA (cst (.int 4)) (consA (cst (.int 5000)) nilA)))) nilA)))) (ρ := [.vl .st, .vl (nD m), .vl (nD b), .vl (nD s), .vl (nD n), .no, .no, .no, .no, .no, .no]) (fun x => ∃ i : Int, x = .int i ∧ -100000 ≤ i ∧ i ≤ 100000) ((List.range n).map nD) [] S v (fun d hd S v => by
    obtain ⟨k, _, rfl⟩ := List.mem_map.mp hd
    obtain ⟨x, S1, e1, hx, v1⟩ := v_pick v (ds := [nD 9, nD 200, nD 10001]) (by simp) (by decide)
    obtain ⟨c, rfl, c1, c2⟩ := nat3 (lo := 1) (hi := 10001) hx (by omega) (by omega) (by omega)
    obtain ⟨r, S2, e2, hr, v2⟩ := v_draw v1 (n := c) (by omega) (by omega)
    obtain ⟨x, S3, e3, hx, v3⟩ := v_pick v2 (ds := [nD 0, nD 4, nD 5000]) (by simp) (by decide)
    obtain ⟨q, rfl, q1, q2⟩ := nat3 (lo := 0) (hi := 5000) hx (by omega) (by omega) (by omega)
    exact ⟨[.vl .st, .vl (nD m), .vl (nD b), .vl (nD s), .vl (nD n), .no, .no, .no, .no, .no, .vl (nD k)], .int ((r : Int) - (q : Int)), S3, rfl, op2_of (d1 := nD r) (d2 := nD q) (draw_of (k := c) rfl (pick_of rfl (lst3 rfl rfl rfl) e1) e2) (pick_of rfl (lst3 rfl rfl rfl) e3) rfl, ⟨_, rfl, by omega, by omega⟩, v3⟩) (by rw [List.length_map, List.length_range]; simp; omega)
  rw [List.nil_append] at e1
  rw [List.length_map, List.length_range] at l1
  obtain ⟨is, rfl, hi⟩ := ints_of_P p1
  rw [List.length_map] at l1
  obtain ⟨ys, hys⟩ : ∃ ys : List Int, ys = (sortI is).map clip := ⟨_, rfl⟩
  have ysl : ys.length = n := by
    rw [hys, List.length_map, (sortI_perm is).length_eq, l1]
  have ysr : ∀ y ∈ ys, -5000 ≤ y ∧ y ≤ 5000 := fun y hy => by
    rw [hys] at hy
    obtain ⟨z, _, rfl⟩ := List.mem_map.mp hy
    exact clip_r z
  have ysm : ys.Pairwise (· ≤ ·) := by
    rw [hys]
    exact List.pairwise_map.mpr ((sortI_sorted is).imp fun h => clip_mon h)
  obtain ⟨c0, hc0⟩ : ∃ c0 : List Cn2, c0 = ys.map fun y => (y, (mkI m b s y).toNat) := ⟨_, rfl⟩
  have mk : ∀ y : Int, (((mkI m b s y).toNat : Nat) : Int) = mkI m b s y ∧ (mkI m b s y).toNat ≤ 25 := fun y => by
    have a : 0 ≤ mkI m b s y := Int.emod_nonneg _ (by omega)
    have c : mkI m b s y < (m : Int) := Int.emod_lt_of_pos _ (by omega)
    omega
  rw [e__law_coins]
  have q1 : (asgS 5 (op1 dSorted (lcE (itR1 (var 4)) (tgN 10) yesB (op2 dSub (callE m__law_draw (consA (var 0) (consA (callE m__law_pick (consA (var 0) (consA (lstE (consA (cst (.int 9)) (consA (cst (.int 200)) (consA (cst (.int 10001)) nilA)))) nilA))) nilA))) (callE m__law_pick (consA (var 0) (consA (lstE (consA (cst (.int 0)) (consA (cst (.int 4)) (consA (cst (.int 5000)) nilA)))) nilA)))) [10]))) [.vl .st, .vl (nD m), .vl (nD b), .vl (nD s), .vl (nD n), .no, .no, .no, .no, .no, .no] S = .ok (.nx [.vl .st, .vl (nD m), .vl (nD b), .vl (nD s), .vl (nD n), .vl (.lst ((sortI is).map D.int)), .no, .no, .no, .no, .no]) S1 :=
    asg_of (op1_of (lc_of (rng1 (n := n) (by omega) rfl) e1) (sort_ints is))
  have q2 : (asgS 5 (lcE (itS (var 5)) (tgN 9) yesB (op1 dMinY (lstE (consA (cst (.int 5000)) (consA (op1 dMaxX (lstE (consA (op1 dNeg (cst (.int 5000))) (consA (var 9) nilA)))) nilA)))) [9])) [.vl .st, .vl (nD m), .vl (nD b), .vl (nD s), .vl (nD n), .vl (.lst ((sortI is).map D.int)), .no, .no, .no, .no, .no] S1 = .ok (.nx [.vl .st, .vl (nD m), .vl (nD b), .vl (nD s), .vl (nD n), .vl (.lst (ys.map D.int)), .no, .no, .no, .no, .no]) S1 := by
    have l := lcA (it := itS (var 5)) (t := tgN 9) (vs := [9]) (ρ := [.vl .st, .vl (nD m), .vl (nD b), .vl (nD s), .vl (nD n), .vl (.lst ((sortI is).map D.int)), .no, .no, .no, .no, .no]) (S := S1) (elt := op1 dMinY (lstE (consA (cst (.int 5000)) (consA (op1 dMaxX (lstE (consA (op1 dNeg (cst (.int 5000))) (consA (var 9) nilA)))) nilA)))) D.int (fun y => D.int (clip y)) (l := sortI is) (its_of (d := .lst ((sortI is).map D.int)) rfl rfl) (fun y hy => ⟨[.vl .st, .vl (nD m), .vl (nD b), .vl (nD s), .vl (nD n), .vl (.lst ((sortI is).map D.int)), .no, .no, .no, .vl (.int y), .no], rfl, clip_of rfl⟩) (by rw [(sortI_perm is).length_eq]; omega)
    rw [show (sortI is).map (fun y => D.int (clip y)) = ys.map D.int from by
      rw [hys, List.map_map]
      rfl] at l
    exact asg_of l
  have q3 : (asgOS 6 (lcE (itS (var 5)) (tgN 9) yesB (tupE (consA (var 9) (consA (callE m__law_mark (consA (var 1) (consA (var 2) (consA (var 3) (consA (var 9) nilA))))) nilA))) [9])) [.vl .st, .vl (nD m), .vl (nD b), .vl (nD s), .vl (nD n), .vl (.lst (ys.map D.int)), .no, .no, .no, .no, .no] S1 = .ok (.nx [.vl .st, .vl (nD m), .vl (nD b), .vl (nD s), .vl (nD n), .vl (.lst (ys.map D.int)), .ow (.lst (c0.map cD)), .no, .no, .no, .no]) S1 := by
    have l := lcA (it := itS (var 5)) (t := tgN 9) (vs := [9]) (ρ := [.vl .st, .vl (nD m), .vl (nD b), .vl (nD s), .vl (nD n), .vl (.lst (ys.map D.int)), .no, .no, .no, .no, .no]) (S := S1) (elt := tupE (consA (var 9) (consA (callE m__law_mark (consA (var 1) (consA (var 2) (consA (var 3) (consA (var 9) nilA))))) nilA))) D.int (fun y => cD (y, (mkI m b s y).toNat)) (l := ys) (its_of (d := .lst (ys.map D.int)) rfl rfl) (fun y hy => ⟨[.vl .st, .vl (nD m), .vl (nD b), .vl (nD s), .vl (nD n), .vl (.lst (ys.map D.int)), .no, .no, .no, .vl (.int y), .no], rfl, by
      have hr := ysr y hy
      have z := tup2 (f := var 9) (g := callE m__law_mark (consA (var 1) (consA (var 2) (consA (var 3) (consA (var 9) nilA))))) (ρ := [.vl .st, .vl (nD m), .vl (nD b), .vl (nD s), .vl (nD n), .vl (.lst (ys.map D.int)), .no, .no, .no, .vl (.int y), .no]) (S := S1) (d := .int y) rfl (lmark_of (m := m) (b := b) (s := s) (y := y) rfl rfl rfl rfl m1 m2 hs (by omega) (by omega))
      rw [← (mk y).1] at z
      exact z⟩) (by omega)
    rw [show ys.map (fun y => cD (y, (mkI m b s y).toNat)) = c0.map cD from by
      rw [hc0, List.map_map]
      rfl] at l
    exact asgO_of l
  have c0y : c0.map (·.1) = ys := by
    rw [hc0, List.map_map]
    exact List.map_id' ys
  have c0m : ∀ c ∈ c0, c.2 ≤ 25 := fun c hc => by
    rw [hc0] at hc
    obtain ⟨y, _, rfl⟩ := List.mem_map.mp hc
    exact (mk y).2
  have fin : ∀ cs : List Cn2, cs.map (·.1) = ys → (∀ c ∈ cs, c.2 ≤ 25) → CsOk cs ∧ cs.length = n := fun cs h1 h2 => by
    have hl : cs.length = n := by rw [← ysl, ← h1, List.length_map]
    refine ⟨⟨by omega, fun c hc => ?_, ?_⟩, hl⟩
    · have := ysr c.1 (by rw [← h1]; exact List.mem_map.mpr ⟨c, hc, rfl⟩)
      exact ⟨this.1, this.2, h2 c hc⟩
    · have z := ysm
      rw [← h1, List.pairwise_map] at z
      exact z
  -- some marks changed
  have q4 : ∃ (cs : List Cn2) (x7 x8 : Slot) (S2 : DS), (forS (itR1 (iteE (truB (varB 6)) (callE m__law_draw (consA (var 0) (consA (cst (.int 3)) nilA))) (cst (.int 0)))) (tgN 7) (seqS (asgS 8 (callE m__law_pick (consA (var 0) (consA (lstE (consA (op2 dSub (op1 dLen (varB 6)) (cst (.int 1))) (consA (callE m__law_draw (consA (var 0) (consA (op1 dLen (varB 6)) nilA))) nilA))) nilA)))) (putS 6 (tupE (consA (op2 dIxA (op2 dIxA (varB 6) (var 8)) (cst (.int 0))) (consA (callE m__law_draw (consA (var 0) (consA (cst (.int 26)) nilA))) nilA))) (var 8)))) [.vl .st, .vl (nD m), .vl (nD b), .vl (nD s), .vl (nD n), .vl (.lst (ys.map D.int)), .ow (.lst (c0.map cD)), .no, .no, .no, .no] S1 = .ok (.nx [.vl .st, .vl (nD m), .vl (nD b), .vl (nD s), .vl (nD n), .vl (.lst (ys.map D.int)), .ow (.lst (cs.map cD)), x7, x8, .no, .no]) S2 ∧ cs.map (·.1) = ys ∧ (∀ c ∈ cs, c.2 ≤ 25) ∧ Vs S2 := by
    have tv : truB (varB 6) [.vl .st, .vl (nD m), .vl (nD b), .vl (nD s), .vl (nD n), .vl (.lst (ys.map D.int)), .ow (.lst (c0.map cD)), .no, .no, .no, .no] S1 = .ok (!c0.isEmpty) S1 := tru_ofE (d := .lst (c0.map cD)) rfl (by
      show some (!(c0.map cD).isEmpty) = _
      rw [emp_map])
    have c0l : c0.length = n := (fin c0 c0y c0m).2
    by_cases h0 : n = 0
    · have e0 : c0 = [] := List.eq_nil_of_length_eq_zero (by omega)
      rw [e0] at tv
      have it := rng1 (n := 0) (S := S1) (S1 := S1) (a := iteE (truB (varB 6)) (callE m__law_draw (consA (var 0) (consA (cst (.int 3)) nilA))) (cst (.int 0))) (ρ := [.vl .st, .vl (nD m), .vl (nD b), .vl (nD s), .vl (nD n), .vl (.lst (ys.map D.int)), .ow (.lst (([] : List Cn2).map cD)), .no, .no, .no, .no]) (by decide) ((ite_f tv).trans rfl)
      rw [e0]
      exact ⟨[], .no, .no, S1, (for_of it).trans rfl, by rw [← c0y, e0], ⟨fun c hc => (by cases hc), v1⟩⟩
    · have ne : c0.isEmpty = false := by
        cases h : c0 with
        | nil => rw [h] at c0l; exact absurd c0l.symm h0
        | cons _ _ => rfl
      rw [ne] at tv
      obtain ⟨r, S2, e2, hr, v2⟩ := v_draw v1 (n := 3) (by decide) (by decide)
      have it := rng1 (n := r) (S := S1) (S1 := S2) (a := iteE (truB (varB 6)) (callE m__law_draw (consA (var 0) (consA (cst (.int 3)) nilA))) (cst (.int 0))) (ρ := [.vl .st, .vl (nD m), .vl (nD b), .vl (nD s), .vl (nD n), .vl (.lst (ys.map D.int)), .ow (.lst (c0.map cD)), .no, .no, .no, .no]) (by omega) ((ite_t tv).trans (draw_of (k := 3) rfl rfl e2))
      obtain ⟨ρ', S3, e3, ⟨cs, x7, x8, rfl, h1, h2⟩, v3⟩ := forL_inv (t := tgN 7) (b := (seqS (asgS 8 (callE m__law_pick (consA (var 0) (consA (lstE (consA (op2 dSub (op1 dLen (varB 6)) (cst (.int 1))) (consA (callE m__law_draw (consA (var 0) (consA (op1 dLen (varB 6)) nilA))) nilA))) nilA)))) (putS 6 (tupE (consA (op2 dIxA (op2 dIxA (varB 6) (var 8)) (cst (.int 0))) (consA (callE m__law_draw (consA (var 0) (consA (cst (.int 26)) nilA))) nilA))) (var 8)))) (ds := (List.range r).map nD) (fun _ ρ S => (∃ (cs : List Cn2) (x7 x8 : Slot), ρ = [.vl .st, .vl (nD m), .vl (nD b), .vl (nD s), .vl (nD n), .vl (.lst (ys.map D.int)), .ow (.lst (cs.map cD)), x7, x8, .no, .no] ∧ cs.map (·.1) = ys ∧ (∀ c ∈ cs, c.2 ≤ 25)) ∧ Vs S) (fun i d ρ S hd ⟨⟨cs, x7, x8, hρ, h1, h2⟩, vS⟩ => by
        subst hρ
        obtain ⟨_, cl⟩ := fin cs h1 h2
        have cpos : 0 < n := by omega
        obtain ⟨r1, S1, e1, hr1, v1⟩ := v_draw vS (n := n) cpos (by omega)
        obtain ⟨x, S2, e2, hx, v2⟩ := v_pick v1 (ds := [nD (n - 1), nD r1]) (by simp) (by show 2 ≤ 1000; decide)
        obtain ⟨k, rfl, k1, k2⟩ := nat2 (lo := 0) (hi := n - 1) hx (by omega) (by omega)
        obtain ⟨r2, S3, e3, hr2, v3⟩ := v_draw v2 (n := 26) (by decide) (by decide)
        have ln : ∀ (x8 : Slot) (S : DS), op1 dLen (varB 6) [.vl .st, .vl (nD m), .vl (nD b), .vl (nD s), .vl (nD n), .vl (.lst (ys.map D.int)), .ow (.lst (cs.map cD)), .vl d, x8, .no, .no] S = .ok (nD n) S := fun x8 S => op1_of (d := .lst (cs.map cD)) rfl (by
          show some (D.int (((cs.map cD).length : Nat) : Int)) = _
          rw [List.length_map, cl]
          rfl)
        have p1 := asg_of (i := 8) (pick_of (i := 0) (a := lstE (consA (op2 dSub (op1 dLen (varB 6)) (cst (.int 1))) (consA (callE m__law_draw (consA (var 0) (consA (op1 dLen (varB 6)) nilA))) nilA))) (ρ := [.vl .st, .vl (nD m), .vl (nD b), .vl (nD s), .vl (nD n), .vl (.lst (ys.map D.int)), .ow (.lst (cs.map cD)), .vl d, x8, .no, .no]) (S := S) rfl (lst2 (op2_of (d1 := nD n) (d2 := nD 1) (ln x8 S) rfl (subN (by omega))) (draw_of (k := n) rfl (ln x8 S) e1)) e2)
        have kc : k < cs.length := by omega
        have ixk : dIxA (.lst (cs.map cD)) (nD k) = some (cD (cs.getD k (0, 0))) := ix_coin kc
        have p2 := put_of (i := 6) (f := tupE (consA (op2 dIxA (op2 dIxA (varB 6) (var 8)) (cst (.int 0))) (consA (callE m__law_draw (consA (var 0) (consA (cst (.int 26)) nilA))) nilA))) (fk := var 8) (ρ := [.vl .st, .vl (nD m), .vl (nD b), .vl (nD s), .vl (nD n), .vl (.lst (ys.map D.int)), .ow (.lst (cs.map cD)), .vl d, .vl (nD k), .no, .no]) (S := S2) (d := cD ((cs.getD k (0, 0)).1, r2)) (o := .lst (cs.map cD)) (k := nD k) (o' := .lst ((cs.set k ((cs.getD k (0, 0)).1, r2)).map cD)) (tup2 (op2_of (d2 := nD 0) (op2_of (d1 := .lst (cs.map cD)) (d2 := nD k) rfl rfl ixk) rfl rfl) (draw_of (k := 26) rfl rfl e3)) rfl rfl (by
          show (ixN (cs.map cD).length ((k : Nat) : Int)).map (fun j => D.lst ((cs.map cD).set j (cD ((cs.getD k (0, 0)).1, r2)))) = _
          have ixn : ixN (cs.map cD).length ((k : Nat) : Int) = some k := ix_in (by rw [List.length_map]; exact kc)
          rw [ixn, Option.map_some, List.map_set])
        refine ⟨[.vl .st, .vl (nD m), .vl (nD b), .vl (nD s), .vl (nD n), .vl (.lst (ys.map D.int)), .ow (.lst (cs.map cD)), .vl d, x8, .no, .no], _, S3, rfl, .inl ((seq_nx p1).trans p2), ⟨cs.set k ((cs.getD k (0, 0)).1, r2), .vl d, .vl (nD k), rfl, ?_, fun c hc => ?_⟩, v3⟩
        · rw [List.map_set, h1]
          refine List.ext_getElem? fun i => ?_
          rw [List.getElem?_set]
          split
          · rename_i e
            subst e
            have hk2 : k < ys.length := by omega
            have e9 : ys[k]? = some (cs.getD k (0, 0)).1 := by
              rw [← h1, List.getElem?_map, List.getElem?_eq_getElem kc, List.getD_eq_getElem?_getD, List.getElem?_eq_getElem kc]
              rfl
            rw [if_pos hk2, e9]
          · rfl
        · rcases List.mem_or_eq_of_mem_set hc with hc | rfl
          · exact h2 c hc
          · exact Nat.le_of_lt_succ hr2) (ρ := [.vl .st, .vl (nD m), .vl (nD b), .vl (nD s), .vl (nD n), .vl (.lst (ys.map D.int)), .ow (.lst (c0.map cD)), .no, .no, .no, .no]) (S := S2) ⟨⟨c0, .no, .no, rfl, c0y, c0m⟩, v2⟩
      exact ⟨cs, x7, x8, S3, (for_of it).trans e3, h1, h2, v3⟩
  obtain ⟨cs, x7, x8, S2, q4, h1, h2, v2⟩ := q4
  obtain ⟨ok, cl⟩ := fin cs h1 h2
  refine ⟨cs, S2, body_rt ?_, ok, cl, v2⟩
  rw [b__law_coins]
  exact (seq_nx q1).trans ((seq_nx q2).trans ((seq_nx q3).trans ((seq_nx q4).trans (ret_of (op1_of (d := .lst (cs.map cD)) rfl rfl)))))
end Hk21
namespace Hk21
open PySem Mini
open L2 (atI ixN atI_nat kitB Key)
/-! ## rows of coins' numbers -/
def rD (r : List Nat) : D := .tup (natL r)
theorem eqv_nat : ∀ a b : List Nat, PyData.eqvAll (a.map fun n : Nat => PyData.int (n : Int)) (b.map fun n : Nat => PyData.int (n : Int)) = decide (a = b)
  | [], [] => rfl
  | [], b :: bs => rfl
  | a :: as, [] => rfl
  | a :: as, b :: bs => by
    rw [List.map_cons, List.map_cons, PyData.eqvAll, eqv_nat as bs]
    have e : PyData.eqv (.int (a : Int)) (.int (b : Int)) = decide (a = b) := by
      rw [Bool.eq_iff_iff]
      simp [PyData.eqv]
      omega
    rw [e, Bool.eq_iff_iff]
    simp
theorem gd_row {r : List Nat} (h : ∀ k ∈ r, k ≤ 100) (hl : r.length ≤ 3) : Gd 1 3 (rD r) := (gd_natT fun k hk => by have := h k hk; omega).mono (Nat.le_refl _) hl
theorem gd_rows {rs : List (List Nat)} (h : ∀ r ∈ rs, r.length ≤ 3 ∧ ∀ k ∈ r, k ≤ 100) : Gd 2 (rs.length * 4) (.lst (rs.map rD)) := by
  have z := gd_lst (h := 1) (n := 3) (ds := rs.map rD) fun d hd => by
    obtain ⟨r, hr, rfl⟩ := List.mem_map.mp hd
    exact gd_row (h r hr).2 (h r hr).1
  rw [List.length_map] at z
  exact z
theorem pyL_rD : ∀ rs : List (List Nat), pyL (rs.map rD) = rs.map fun r => PyData.tuple (r.map fun n : Nat => PyData.int (n : Int))
  | [] => rfl
  | r :: rs => by
    rw [List.map_cons, List.map_cons, pyL, pyL_rD rs]
    congr 1
    show PyData.tuple (pyL (natL r)) = _
    rw [pyL_nat]
theorem in_rows {r : List Nat} {rs : List (List Nat)} (hr : r.length ≤ 3 ∧ ∀ k ∈ r, k ≤ 100) (h : ∀ r ∈ rs, r.length ≤ 3 ∧ ∀ k ∈ r, k ≤ 100) : dIn (rD r) (.lst (rs.map rD)) = some (.bl (decide (r ∈ rs))) := by
  have e1 := gd_okEq (gd_row hr.2 hr.1) (by decide)
  have e2 := gd_okEq (gd_rows h) (by decide)
  show (if okEq (rD r) && okEq (.lst (rs.map rD)) then some ((pyL (rs.map rD)).any fun z => PyData.eqv z (rD r).py) else none).map D.bl = _
  rw [e1, e2, pyL_rD]
  simp only [Bool.and_self, if_true, Option.map_some]
  congr 2
  rw [List.any_map, Bool.eq_iff_iff, List.any_eq_true, decide_eq_true_eq]
  have ev : ∀ q : List Nat, PyData.eqv (PyData.tuple (q.map fun n : Nat => PyData.int (n : Int))) (rD r).py = decide (q = r) := fun q => by
    show PyData.eqv (PyData.tuple (q.map fun n : Nat => PyData.int (n : Int))) (PyData.tuple (pyL (natL r))) = _
    rw [pyL_nat, PyData.eqv, eqv_nat]
  constructor
  · rintro ⟨q, hq, e⟩
    have e : PyData.eqv (PyData.tuple (q.map fun n : Nat => PyData.int (n : Int))) (rD r).py = true := e
    rw [ev] at e
    exact of_decide_eq_true e ▸ hq
  · intro hq
    refine ⟨r, hq, ?_⟩
    show PyData.eqv (PyData.tuple (r.map fun n : Nat => PyData.int (n : Int))) (rD r).py = true
    rw [ev, decide_eq_true rfl]
theorem eq_nilL {ds : List D} (h : okEq (.lst ds) = true) : dEq (.lst ds) (.lst []) = some (.bl ds.isEmpty) := by
  have e2 : okEq (.lst []) = true := rfl
  unfold dEq
  rw [h, e2]
  cases ds with
  | nil => rfl
  | cons a l => rfl
theorem ne_nilL {ds : List D} (h : okEq (.lst ds) = true) : dNe (.lst ds) (.lst []) = some (.bl (!ds.isEmpty)) := by
  have e2 : okEq (.lst []) = true := rfl
  unfold dNe
  rw [h, e2]
  cases ds with
  | nil => rfl
  | cons a l => rfl
theorem eq_nilT {ds : List D} (h : okEq (.tup ds) = true) : dEq (.tup ds) (.tup []) = some (.bl ds.isEmpty) := by
  have e2 : okEq (.tup []) = true := rfl
  unfold dEq
  rw [h, e2]
  cases ds with
  | nil => rfl
  | cons a l => rfl
theorem eq_bl (a b : Bool) : dEq (.bl a) (.bl b) = some (.bl (a == b)) := by
  cases a <;> cases b <;> rfl
theorem ok_tD (ts : List Tr) : okEq (.lst (ts.map tD)) = true := by
  unfold okEq
  rw [Bool.and_eq_true, decide_eq_true_eq]
  refine ⟨pureL_tD ts, ?_⟩
  show (PyData.list (pyL (ts.map tD))).depth ≤ _
  rw [pyL_tD, PyData.depth]
  have d := depth_tPy ts
  omega
theorem gd_prN {p : Nat × Nat} (h1 : p.1 ≤ 100) (h2 : p.2 ≤ 100) : Gd 1 2 (prN p) := by
  have z := gd_tup (h := 0) (n := 0) (ds := [nD p.1, nD p.2]) fun d hd => by
    simp only [List.mem_cons, List.not_mem_nil, or_false] at hd
    rcases hd with rfl | rfl
    · exact gd_int (i := (p.1 : Int)) (by omega)
    · exact gd_int (i := (p.2 : Int)) (by omega)
  exact z
theorem rnds_lt {cs : List Cn2} {m : Nat} (m1 : 1 ≤ m) {p : Nat × Nat} (h : p ∈ rnds cs m) : p.1 < m ∧ p.2 < m := by
  obtain ⟨a, b, _⟩ := (rnds_mem m1).mp h
  exact ⟨a, b⟩
theorem rnds_len {cs : List Cn2} {m : Nat} : (rnds cs m).length ≤ m * m := by
  unfold rnds
  split
  · exact Nat.zero_le _
  · have : ∀ l : List Nat, (l.flatMap (rnd cs m)).length ≤ l.length * m := fun l => by
      induction l with
      | nil => simp
      | cons a l ih =>
        have := rnd_len cs m a
        rw [List.flatMap_cons, List.length_append, List.length_cons, Nat.succ_mul]
        omega
    have z := this (List.range m)
    rw [List.length_range] at z
    exact z
theorem gd_rnds {cs : List Cn2} {m : Nat} (m1 : 1 ≤ m) (m2 : m ≤ 26) : Gd 2 2100 (.tup ((rnds cs m).map prN)) := by
  have z := gd_tup (h := 1) (n := 2) (ds := (rnds cs m).map prN) fun d hd => by
    obtain ⟨p, hp, rfl⟩ := List.mem_map.mp hd
    obtain ⟨a, b⟩ := rnds_lt m1 hp
    exact gd_prN (by omega) (by omega)
  rw [List.length_map] at z
  have l := rnds_len (cs := cs) (m := m)
  have : m * m ≤ 26 * 26 := Nat.mul_le_mul m2 m2
  exact z.mono (Nat.le_refl _) (by omega)
/-! ## is there a round for some coins, by the law's rounds -/
def noF (cs : List Cn2) (m : Nat) : Bool := ((trps cs m).filter fun t => decide (t.1 = 0)).isEmpty
theorem mis_0 {cs : List Cn2} {m b s : Nat} : misN cs m b s = 0 ↔ ∀ c ∈ cs, hitB m b s c = true := by
  unfold misN
  rw [List.length_eq_zero_iff, List.filter_eq_nil_iff]
  constructor
  · intro h c hc
    have := h c hc
    simpa using this
  · intro h c hc
    rw [h c hc]
    simp
theorem noF_iff {cs : List Cn2} {m : Nat} : noF cs m = true ↔ ¬ fitE cs m := by
  unfold noF
  rw [List.isEmpty_iff, List.filter_eq_nil_iff]
  constructor
  · rintro h ⟨b, s, h1, h2, h3⟩
    have := h _ (trps_mem.mpr ⟨b, s, h1, h2, rfl⟩)
    rw [mis_0.mpr h3] at this
    exact this (decide_eq_true rfl)
  · intro h t ht
    obtain ⟨b, s, h1, h2, rfl⟩ := trps_mem.mp ht
    intro z
    exact h ⟨b, s, h1, h2, mis_0.mp (of_decide_eq_true z)⟩
/-- the law's list of the rounds without a wrong coin -/
theorem zero_of {it : FE} {i : Nat} {cs : List Cn2} {m : Nat} {ρ : En} {S : DS} (h : it ρ S = .ok (.lst ((trps cs m).map tD)) S) (m2 : m ≤ 26)
    (hg : ∀ t : Tr, tgN i (tD t) (wipeR ρ [i]) = some (setV i (tD t) (wipeR ρ [i])) ∧ slot (setV i (tD t) (wipeR ρ [i])) i = some (tD t)) :
    lcE (itS it) (tgN i) (valB (op2 dEq (op2 dIxA (var i) (cst (.int 0))) (cst (.int 0)))) (var i) [i] ρ S = .ok (.lst (((trps cs m).filter fun t => decide (t.1 = 0)).map tD)) S :=
  lcN tD tD (fun t => decide (t.1 = 0)) (its_of h rfl) (fun t _ => ⟨_, (hg t).1, val_of (op2_of (d1 := nD t.1) (d2 := nD 0) (op2_of (d1 := tD t) (d2 := nD 0) (var_of (hg t).2) rfl rfl) rfl (eqN _ _)), fun _ => var_of (hg t).2⟩) (by
    have : m * m ≤ 26 * 26 := Nat.mul_le_mul m2 m2
    rw [trps_len]
    omega)
/-! ## three coins show it -/
theorem hit_slv {m b s : Nat} (m1 : 1 ≤ m) {c : Cn2} : hitB m b s c = true ↔ Slv m b s (toP c) ∧ c.2 < m := by
  constructor
  · intro h
    have e : ((b : Int) + (s : Int) * c.1) % (m : Int) = (c.2 : Int) := of_decide_eq_true h
    have z := Int.mul_ediv_add_emod ((b : Int) + (s : Int) * c.1) (m : Int)
    refine ⟨⟨((b : Int) + (s : Int) * c.1) / (m : Int), ?_⟩, hit_lt m1 h⟩
    show (b : Int) + (s : Int) * c.1 - (c.2 : Int) = _
    omega
  · rintro ⟨⟨k, hk⟩, hl⟩
    refine decide_eq_true ?_
    have hk : (b : Int) + (s : Int) * c.1 - (c.2 : Int) = (m : Int) * k := hk
    show ((b : Int) + (s : Int) * c.1) % (m : Int) = (c.2 : Int)
    rw [show (b : Int) + (s : Int) * c.1 = (c.2 : Int) + (m : Int) * k by omega, Int.add_mul_emod_self_left]
    exact Int.emod_eq_of_lt (by omega) (by omega)
def R1 (n : Nat) : List (List Nat) := (List.range n).map fun k => [k]
def R2 (l : List Nat) : List (List Nat) := l.flatMap fun k => (List.range k).map fun j => [k, j]
def R3 (l : List Nat) : List (List Nat) := l.flatMap fun k => (List.range k).flatMap fun j => (List.range j).map fun i => [j, k, i]
def rows (n : Nat) : List (List Nat) := R1 n ++ R2 (List.range n) ++ R3 (List.range (if n < 8 then n else 0))
theorem R1_mem {n : Nat} {r : List Nat} : r ∈ R1 n ↔ ∃ k, k < n ∧ r = [k] := by
  unfold R1
  rw [List.mem_map]
  constructor
  · rintro ⟨k, hk, rfl⟩
    exact ⟨k, List.mem_range.mp hk, rfl⟩
  · rintro ⟨k, hk, rfl⟩
    exact ⟨k, List.mem_range.mpr hk, rfl⟩
theorem R2_mem {n : Nat} {r : List Nat} : r ∈ R2 (List.range n) ↔ ∃ k j, j < k ∧ k < n ∧ r = [k, j] := by
  unfold R2
  rw [List.mem_flatMap]
  constructor
  · rintro ⟨k, hk, h⟩
    obtain ⟨j, hj, rfl⟩ := List.mem_map.mp h
    exact ⟨k, j, List.mem_range.mp hj, List.mem_range.mp hk, rfl⟩
  · rintro ⟨k, j, h1, h2, rfl⟩
    exact ⟨k, List.mem_range.mpr h2, List.mem_map.mpr ⟨j, List.mem_range.mpr h1, rfl⟩⟩
theorem R3_mem {n : Nat} {r : List Nat} : r ∈ R3 (List.range n) ↔ ∃ k j i, i < j ∧ j < k ∧ k < n ∧ r = [j, k, i] := by
  unfold R3
  rw [List.mem_flatMap]
  constructor
  · rintro ⟨k, hk, h⟩
    obtain ⟨j, hj, h⟩ := List.mem_flatMap.mp h
    obtain ⟨i, hi, rfl⟩ := List.mem_map.mp h
    exact ⟨k, j, i, List.mem_range.mp hi, List.mem_range.mp hj, List.mem_range.mp hk, rfl⟩
  · rintro ⟨k, j, i, h1, h2, h3, rfl⟩
    exact ⟨k, List.mem_range.mpr h3, List.mem_flatMap.mpr ⟨j, List.mem_range.mpr h2, List.mem_map.mpr ⟨i, List.mem_range.mpr h1, rfl⟩⟩⟩
structure RowOk (n : Nat) (r : List Nat) : Prop where
  a : 1 ≤ r.length
  b : r.length ≤ 3
  c : ∀ k ∈ r, k < n
  d : r.Nodup
theorem rows_ok {n : Nat} {r : List Nat} (h : r ∈ rows n) : RowOk n r := by
  unfold rows at h
  rw [List.mem_append, List.mem_append, R1_mem, R2_mem, R3_mem] at h
  rcases h with (⟨k, hk, rfl⟩ | ⟨k, j, h1, h2, rfl⟩) | ⟨k, j, i, h1, h2, h3, rfl⟩
  · exact ⟨by simp, by simp, fun x hx => by rw [List.mem_singleton.mp hx]; exact hk, by simp⟩
  · refine ⟨by simp, by simp, fun x hx => ?_, ?_⟩
    · simp only [List.mem_cons, List.not_mem_nil, or_false] at hx
      omega
    · simp
      omega
  · refine ⟨by simp, by simp, fun x hx => ?_, ?_⟩
    · simp only [List.mem_cons, List.not_mem_nil, or_false] at hx
      split at h3 <;> omega
    · simp
      omega
theorem fit_sub {cs : List Cn2} {m : Nat} {r : List Nat} (hr : ∀ k ∈ r, k < cs.length) (h : fitE cs m) : fitE (cAt cs r) m := by
  obtain ⟨b, s, h1, h2, h3⟩ := h
  refine ⟨b, s, h1, h2, fun c hc => ?_⟩
  obtain ⟨k, hk, rfl⟩ := List.mem_map.mp hc
  exact h3 _ (getD_mem (hr k hk))
theorem fit_all {cs : List Cn2} {m : Nat} (m1 : 1 ≤ m) (m2 : m ≤ 26) (hn : cs.length < 8) (h : ∀ r ∈ rows cs.length, fitE (cAt cs r) m) : fitE cs m := by
  by_cases h0 : cs = []
  · subst h0
    exact ⟨0, 0, m1, m1, fun c hc => by cases hc⟩
  have hp : 0 < cs.length := List.length_pos_iff.mpr h0
  have one : ∀ k, k < cs.length → [k] ∈ rows cs.length := fun k hk => by
    unfold rows
    rw [List.mem_append, List.mem_append, R1_mem]
    exact .inl (.inl ⟨k, hk, rfl⟩)
  have two : ∀ k, 0 < k → k < cs.length → [k, 0] ∈ rows cs.length := fun k h0 hk => by
    unfold rows
    rw [List.mem_append, List.mem_append, R2_mem]
    exact .inl (.inr ⟨k, 0, h0, hk, rfl⟩)
  have tri : ∀ p q, 0 < p → p < q → q < cs.length → [p, q, 0] ∈ rows cs.length := fun p q h0 h1 h2 => by
    unfold rows
    rw [List.mem_append, R3_mem, if_pos hn]
    exact .inr ⟨q, p, 0, h0, h1, h2, rfl⟩
  have cov : ∀ i j, i < cs.length → j < cs.length → ∃ b s, b < m ∧ s < m ∧ hitB m b s (cs.getD 0 (0, 0)) = true ∧ hitB m b s (cs.getD i (0, 0)) = true ∧ hitB m b s (cs.getD j (0, 0)) = true := fun i j hi hj => by
    have use : ∀ r, r ∈ rows cs.length → 0 ∈ r → i ∈ r → j ∈ r → ∃ b s, b < m ∧ s < m ∧ hitB m b s (cs.getD 0 (0, 0)) = true ∧ hitB m b s (cs.getD i (0, 0)) = true ∧ hitB m b s (cs.getD j (0, 0)) = true := fun r hr a1 a2 a3 => by
      obtain ⟨b, s, h1, h2, h3⟩ := h r hr
      have g : ∀ k ∈ r, hitB m b s (cs.getD k (0, 0)) = true := fun k hk => h3 _ (List.mem_map.mpr ⟨k, hk, rfl⟩)
      exact ⟨b, s, h1, h2, g 0 a1, g i a2, g j a3⟩
    by_cases i0 : i = 0
    · by_cases j0 : j = 0
      · subst i0; subst j0
        exact use [0] (one 0 hp) (by simp) (by simp) (by simp)
      · subst i0
        exact use [j, 0] (two j (by omega) hj) (by simp) (by simp) (by simp)
    · by_cases j0 : j = 0
      · subst j0
        exact use [i, 0] (two i (by omega) hi) (by simp) (by simp) (by simp)
      · rcases Nat.lt_trichotomy i j with c | c | c
        · exact use [i, j, 0] (tri i j (by omega) c hj) (by simp) (by simp) (by simp)
        · subst c
          exact use [i, 0] (two i (by omega) hi) (by simp) (by simp) (by simp)
        · exact use [j, i, 0] (tri j i (by omega) c hi) (by simp) (by simp) (by simp)
  have gm : ∀ {x : Int × Int}, x ∈ cs.map toP → ∃ k, k < cs.length ∧ x = toP (cs.getD k (0, 0)) := fun {x} hx => by
    obtain ⟨c, hc, rfl⟩ := List.mem_map.mp hx
    obtain ⟨k, hk, rfl⟩ := List.getElem_of_mem hc
    exact ⟨k, hk, by rw [List.getD_eq_getElem?_getD, List.getElem?_eq_getElem hk]; rfl⟩
  obtain ⟨b, s, h1, h2, h3⟩ := helly m1 m2 (cs := cs.map toP) (c0 := toP (cs.getD 0 (0, 0))) (List.mem_map.mpr ⟨_, getD_mem hp, rfl⟩) (fun c1 hc1 c2 hc2 => by
    obtain ⟨i, hi, rfl⟩ := gm hc1
    obtain ⟨j, hj, rfl⟩ := gm hc2
    obtain ⟨b, s, _, _, g1, g2, g3⟩ := cov i j hi hj
    exact ⟨b, s, ((hit_slv m1).mp g1).1, ((hit_slv m1).mp g2).1, ((hit_slv m1).mp g3).1⟩)
  refine ⟨b, s, h1, h2, fun c hc => (hit_slv m1).mpr ⟨h3 _ (List.mem_map.mpr ⟨c, hc, rfl⟩), ?_⟩⟩
  obtain ⟨k, hk, rfl⟩ := List.getElem_of_mem hc
  obtain ⟨b', s', _, _, _, g2, _⟩ := cov k k hk hk
  have z := hit_lt m1 g2
  rw [List.getD_eq_getElem?_getD, List.getElem?_eq_getElem hk] at z
  exact z
def shown (cs : List Cn2) (m : Nat) : List (List Nat) := (rows cs.length).filter fun r => noF (cAt cs r) m
theorem shown_iff {cs : List Cn2} {m : Nat} (m1 : 1 ≤ m) (m2 : m ≤ 26) (hn : cs.length < 8) : (shown cs m).isEmpty = !(rnds cs m).isEmpty := by
  have e : (shown cs m).isEmpty = true ↔ rnds cs m ≠ [] := by
    rw [rnds_fit m1, List.isEmpty_iff]
    unfold shown
    rw [List.filter_eq_nil_iff]
    constructor
    · intro h
      refine fit_all m1 m2 hn fun r hr => ?_
      have z := h r hr
      rw [noF_iff] at z
      exact Classical.not_not.mp z
    · intro h r hr z
      exact noF_iff.mp z (fit_sub (rows_ok hr).c h)
  rw [Bool.eq_iff_iff, e]
  cases rnds cs m <;> simp
end Hk21
namespace Hk21
open PySem Mini
open L2 (atI ixN atI_nat kitB Key)
/-! ## one, two or three coins -/
abbrev aEn (cs : List Cn2) (m : Nat) (G : D) (a4 a5 a6 a7 a8 a9 a10 a11 a12 a13 a14 a15 : Slot) : En := [.vl .st, .vl (.tup (cs.map cD)), .vl (nD m), .vl G, a4, a5, a6, a7, a8, a9, a10, a11, a12, a13, a14, a15]
theorem R2_len : ∀ l : List Nat, (∀ k ∈ l, k ≤ 60) → (R2 l).length ≤ l.length * 60
  | [], _ => Nat.le_refl _
  | k :: l, h => by
    have a := h k List.mem_cons_self
    have b := R2_len l fun z hz => h z (List.mem_cons_of_mem _ hz)
    unfold R2 at b ⊢
    rw [List.flatMap_cons, List.length_append, List.length_map, List.length_range, List.length_cons, Nat.succ_mul]
    omega
theorem s3 {cs : List Cn2} {m : Nat} {G : D} {a6 a7 a8 a10 a12 a13 a14 a15 : Slot} {n : Nat} (S : DS) : ∀ (l : List Nat) (acc : List D) (a5 a11 : Slot), (∀ k ∈ l, k ≤ 60) → acc.length + l.length * 60 ≤ 10000 →
    ∃ a5' a11', forL (tgN 5) (extS 4 (lcE (itR1 (var 5)) (tgN 11) yesB (tupE (consA (var 5) (consA (var 11) nilA))) [11])) (l.map nD) (aEn cs m G (.ow (.lst acc)) a5 a6 a7 a8 (.vl (nD n)) a10 a11 a12 a13 a14 a15) S = .ok (.nx (aEn cs m G (.ow (.lst (acc ++ (R2 l).map rD))) a5' a6 a7 a8 (.vl (nD n)) a10 a11' a12 a13 a14 a15)) S
  | [], acc, a5, a11, _, _ => ⟨a5, a11, by
    show _ = Res.ok (Fl.nx (aEn cs m G (.ow (.lst (acc ++ []))) a5 a6 a7 a8 (.vl (nD n)) a10 a11 a12 a13 a14 a15)) S
    rw [List.append_nil]
    rfl⟩
  | k :: l, acc, a5, a11, h, hl => by
    have k60 := h k List.mem_cons_self
    rw [List.length_cons, Nat.succ_mul] at hl
    have lc : lcE (itR1 (var 5)) (tgN 11) yesB (tupE (consA (var 5) (consA (var 11) nilA))) [11] (aEn cs m G (.ow (.lst acc)) (.vl (nD k)) a6 a7 a8 (.vl (nD n)) a10 a11 a12 a13 a14 a15) S = .ok (.lst (((List.range k).map fun j => [k, j]).map rD)) S := by
      rw [List.map_map]
      exact lcA nD (rD ∘ fun j => [k, j]) (rng1 (n := k) (by omega) rfl) (fun j _ => ⟨aEn cs m G (.ow (.lst acc)) (.vl (nD k)) a6 a7 a8 (.vl (nD n)) a10 (.vl (nD j)) a12 a13 a14 a15, rfl, tup2 (d := nD k) (e := nD j) rfl rfl⟩) (by rw [List.length_range]; omega)
    have bb := ext_of (i := 4) (ds := acc) (ρ := aEn cs m G (.ow (.lst acc)) (.vl (nD k)) a6 a7 a8 (.vl (nD n)) a10 a11 a12 a13 a14 a15) rfl lc (by rw [List.length_map, List.length_map, List.length_range]; omega)
    obtain ⟨a5', a11', ih⟩ := s3 (cs := cs) (m := m) (G := G) (a6 := a6) (a7 := a7) (a8 := a8) (a10 := a10) (a12 := a12) (a13 := a13) (a14 := a14) (a15 := a15) (n := n) S l (acc ++ ((List.range k).map fun j => [k, j]).map rD) (.vl (nD k)) a11 (fun z hz => h z (List.mem_cons_of_mem _ hz)) (by rw [List.length_append, List.length_map, List.length_map, List.length_range]; omega)
    refine ⟨a5', a11', (forL_nx (d := nD k) (ρ1 := aEn cs m G (.ow (.lst acc)) (.vl (nD k)) a6 a7 a8 (.vl (nD n)) a10 a11 a12 a13 a14 a15) rfl bb).trans (ih.trans ?_)⟩
    unfold R2
    rw [List.flatMap_cons, List.map_append, List.append_assoc]
def R3i (k : Nat) (l : List Nat) : List (List Nat) := l.flatMap fun j => (List.range j).map fun i => [j, k, i]
theorem s4i {cs : List Cn2} {m k : Nat} {G : D} {a6 a7 a8 a10 a12 a13 a14 a15 : Slot} {n : Nat} (S : DS) : ∀ (l : List Nat) (acc : List D) (a11 : Slot), (∀ k ∈ l, k ≤ 10) → acc.length + l.length * 10 ≤ 10000 →
    ∃ a11', forL (tgN 11) (extS 4 (lcE (itR1 (var 11)) (tgN 15) yesB (tupE (consA (var 11) (consA (var 5) (consA (var 15) nilA)))) [15])) (l.map nD) (aEn cs m G (.ow (.lst acc)) (.vl (nD k)) a6 a7 a8 (.vl (nD n)) a10 a11 a12 a13 a14 a15) S = .ok (.nx (aEn cs m G (.ow (.lst (acc ++ (R3i k l).map rD))) (.vl (nD k)) a6 a7 a8 (.vl (nD n)) a10 a11' a12 a13 a14 a15)) S
  | [], acc, a11, _, _ => ⟨a11, by
    show _ = Res.ok (Fl.nx (aEn cs m G (.ow (.lst (acc ++ []))) (.vl (nD k)) a6 a7 a8 (.vl (nD n)) a10 a11 a12 a13 a14 a15)) S
    rw [List.append_nil]
    rfl⟩
  | j :: l, acc, a11, h, hl => by
    have j10 := h j List.mem_cons_self
    rw [List.length_cons, Nat.succ_mul] at hl
    have lc : lcE (itR1 (var 11)) (tgN 15) yesB (tupE (consA (var 11) (consA (var 5) (consA (var 15) nilA)))) [15] (aEn cs m G (.ow (.lst acc)) (.vl (nD k)) a6 a7 a8 (.vl (nD n)) a10 (.vl (nD j)) a12 a13 a14 a15) S = .ok (.lst (((List.range j).map fun i => [j, k, i]).map rD)) S := by
      rw [List.map_map]
      exact lcA nD (rD ∘ fun i => [j, k, i]) (rng1 (n := j) (by omega) rfl) (fun i _ => ⟨aEn cs m G (.ow (.lst acc)) (.vl (nD k)) a6 a7 a8 (.vl (nD n)) a10 (.vl (nD j)) a12 a13 a14 (.vl (nD i)), rfl, tup3 (d := nD j) (e := nD k) (i := nD i) rfl rfl rfl⟩) (by rw [List.length_range]; omega)
    have bb := ext_of (i := 4) (ds := acc) (ρ := aEn cs m G (.ow (.lst acc)) (.vl (nD k)) a6 a7 a8 (.vl (nD n)) a10 (.vl (nD j)) a12 a13 a14 a15) rfl lc (by rw [List.length_map, List.length_map, List.length_range]; omega)
    obtain ⟨a11', ih⟩ := s4i (cs := cs) (m := m) (k := k) (G := G) (a6 := a6) (a7 := a7) (a8 := a8) (a10 := a10) (a12 := a12) (a13 := a13) (a14 := a14) (a15 := a15) (n := n) S l (acc ++ ((List.range j).map fun i => [j, k, i]).map rD) (.vl (nD j)) (fun z hz => h z (List.mem_cons_of_mem _ hz)) (by rw [List.length_append, List.length_map, List.length_map, List.length_range]; omega)
    refine ⟨a11', (forL_nx (d := nD j) (ρ1 := aEn cs m G (.ow (.lst acc)) (.vl (nD k)) a6 a7 a8 (.vl (nD n)) a10 (.vl (nD j)) a12 a13 a14 a15) rfl bb).trans (ih.trans ?_)⟩
    unfold R3i
    rw [List.flatMap_cons, List.map_append, List.append_assoc]
theorem R3i_len (k : Nat) : ∀ l : List Nat, (∀ k ∈ l, k ≤ 10) → (R3i k l).length ≤ l.length * 10
  | [], _ => Nat.le_refl _
  | j :: l, h => by
    have a := h j List.mem_cons_self
    have b := R3i_len k l fun z hz => h z (List.mem_cons_of_mem _ hz)
    unfold R3i at b ⊢
    rw [List.flatMap_cons, List.length_append, List.length_map, List.length_range, List.length_cons, Nat.succ_mul]
    omega
theorem s4 {cs : List Cn2} {m : Nat} {G : D} {a6 a7 a8 a10 a12 a13 a14 a15 : Slot} {n : Nat} (S : DS) : ∀ (l : List Nat) (acc : List D) (a5 a11 : Slot), (∀ k ∈ l, k ≤ 10) → acc.length + l.length * 100 ≤ 9000 →
    ∃ a5' a11', forL (tgN 5) (forS (itR1 (var 5)) (tgN 11) (extS 4 (lcE (itR1 (var 11)) (tgN 15) yesB (tupE (consA (var 11) (consA (var 5) (consA (var 15) nilA)))) [15]))) (l.map nD) (aEn cs m G (.ow (.lst acc)) a5 a6 a7 a8 (.vl (nD n)) a10 a11 a12 a13 a14 a15) S = .ok (.nx (aEn cs m G (.ow (.lst (acc ++ (R3 l).map rD))) a5' a6 a7 a8 (.vl (nD n)) a10 a11' a12 a13 a14 a15)) S
  | [], acc, a5, a11, _, _ => ⟨a5, a11, by
    show _ = Res.ok (Fl.nx (aEn cs m G (.ow (.lst (acc ++ []))) a5 a6 a7 a8 (.vl (nD n)) a10 a11 a12 a13 a14 a15)) S
    rw [List.append_nil]
    rfl⟩
  | k :: l, acc, a5, a11, h, hl => by
    have k10 := h k List.mem_cons_self
    rw [List.length_cons, Nat.succ_mul] at hl
    have rl := R3i_len k (List.range k) fun z hz => by have := List.mem_range.mp hz; omega
    rw [List.length_range] at rl
    obtain ⟨b11, lp⟩ := s4i (cs := cs) (m := m) (k := k) (G := G) (a6 := a6) (a7 := a7) (a8 := a8) (a10 := a10) (a12 := a12) (a13 := a13) (a14 := a14) (a15 := a15) (n := n) S (List.range k) acc a11 (fun z hz => by have := List.mem_range.mp hz; omega) (by rw [List.length_range]; omega)
    obtain ⟨a5', a11', ih⟩ := s4 (cs := cs) (m := m) (G := G) (a6 := a6) (a7 := a7) (a8 := a8) (a10 := a10) (a12 := a12) (a13 := a13) (a14 := a14) (a15 := a15) (n := n) S l (acc ++ (R3i k (List.range k)).map rD) (.vl (nD k)) b11 (fun z hz => h z (List.mem_cons_of_mem _ hz)) (by rw [List.length_append, List.length_map]; omega)
    have bb : (forS (itR1 (var 5)) (tgN 11) (extS 4 (lcE (itR1 (var 11)) (tgN 15) yesB (tupE (consA (var 11) (consA (var 5) (consA (var 15) nilA)))) [15]))) (aEn cs m G (.ow (.lst acc)) (.vl (nD k)) a6 a7 a8 (.vl (nD n)) a10 a11 a12 a13 a14 a15) S = .ok (.nx (aEn cs m G (.ow (.lst (acc ++ (R3i k (List.range k)).map rD))) (.vl (nD k)) a6 a7 a8 (.vl (nD n)) a10 b11 a12 a13 a14 a15)) S := (for_of (rng1 (n := k) (by omega) rfl)).trans lp
    refine ⟨a5', a11', (forL_nx (d := nD k) rfl bb).trans (ih.trans ?_)⟩
    unfold R3 R3i
    rw [List.flatMap_cons, List.map_append, List.append_assoc]
theorem R3_len : ∀ l : List Nat, (∀ k ∈ l, k ≤ 10) → (R3 l).length ≤ l.length * 100
  | [], _ => Nat.le_refl _
  | k :: l, h => by
    have a := h k List.mem_cons_self
    have b := R3_len l fun z hz => h z (List.mem_cons_of_mem _ hz)
    have rl := R3i_len k (List.range k) fun z hz => by have := List.mem_range.mp hz; omega
    rw [List.length_range] at rl
    have e : R3 (k :: l) = R3i k (List.range k) ++ R3 l := by
      unfold R3 R3i
      rw [List.flatMap_cons]
    rw [e, List.length_append, List.length_cons, Nat.succ_mul]
    omega
/-- the rows that show that there is no round -/
theorem s5 {cs : List Cn2} (ok : CsR cs) {m : Nat} (m1 : 1 ≤ m) (m2 : m ≤ 26) {G : D} {a4 a5 a7 a8 a11 a13 a14 a15 : Slot} {n : Nat} (S : DS) : ∀ (l : List (List Nat)) (acc : List D) (a6 a12 : Slot), (∀ r ∈ l, r.length ≤ 3 ∧ ∀ k ∈ r, k < cs.length) → acc.length + l.length ≤ 10000 →
    ∃ a6' a12', forL (tgN 6) (seqS (asgS 12 (op1 dTuple (lcE (itS (var 6)) (tgN 13) yesB (op2 dIxA (var 1) (var 13)) [13]))) (ifS (valB (op2 dEq (lcE (itS (callE m__law_rounds (consA (var 12) (consA (var 2) nilA)))) (tgN 14) (valB (op2 dEq (op2 dIxA (var 14) (cst (.int 0))) (cst (.int 0)))) (var 14) [14]) (lstE nilA))) (appS 10 (var 6)) skipS)) (l.map rD) (aEn cs m G a4 a5 a6 a7 a8 (.vl (nD n)) (.ow (.lst acc)) a11 a12 a13 a14 a15) S = .ok (.nx (aEn cs m G a4 a5 a6' a7 a8 (.vl (nD n)) (.ow (.lst (acc ++ (l.filter fun r => noF (cAt cs r) m).map rD))) a11 a12' a13 a14 a15)) S
  | [], acc, a6, a12, _, _ => ⟨a6, a12, by
    show _ = Res.ok (Fl.nx (aEn cs m G a4 a5 a6 a7 a8 (.vl (nD n)) (.ow (.lst (acc ++ []))) a11 a12 a13 a14 a15)) S
    rw [List.append_nil]
    rfl⟩
  | r :: l, acc, a6, a12, h, hl => by
    obtain ⟨h3, hr⟩ := h r List.mem_cons_self
    rw [List.length_cons] at hl
    have lc : lcE (itS (var 6)) (tgN 13) yesB (op2 dIxA (var 1) (var 13)) [13] (aEn cs m G a4 a5 (.vl (rD r)) a7 a8 (.vl (nD n)) (.ow (.lst acc)) a11 a12 a13 a14 a15) S = .ok (.lst ((cAt cs r).map cD)) S := by
      unfold cAt
      rw [List.map_map]
      exact lcA nD (cD ∘ fun k => cs.getD k (0, 0)) (its_of (d := rD r) rfl rfl) (fun k hk => ⟨aEn cs m G a4 a5 (.vl (rD r)) a7 a8 (.vl (nD n)) (.ow (.lst acc)) a11 a12 (.vl (nD k)) a14 a15, rfl, op2_of (d1 := .tup (cs.map cD)) (d2 := nD k) rfl rfl (ix_coin (hr k hk))⟩) (by omega)
    have ok2 : CsR (cAt cs r) := ⟨by rw [List.length_map]; omega, fun c hc => by
      obtain ⟨k, hk, rfl⟩ := List.mem_map.mp hc
      exact ok.r _ (getD_mem (hr k hk))⟩
    have st1 := asg_of (i := 12) (op1_of (g := dTuple) lc (e := .tup ((cAt cs r).map cD)) rfl)
    have zr := zero_of (it := callE m__law_rounds (consA (var 12) (consA (var 2) nilA))) (i := 14) (cs := cAt cs r) (m := m) (ρ := aEn cs m G a4 a5 (.vl (rD r)) a7 a8 (.vl (nD n)) (.ow (.lst acc)) a11 (.vl (.tup ((cAt cs r).map cD))) a13 a14 a15) (S := S) (call2_of (d := .tup ((cAt cs r).map cD)) (d2 := nD m) rfl rfl (v_lrounds ok2 m1 m2 S)) m2 (fun t => ⟨rfl, rfl⟩)
    have t := val_of (op2_of (g := dEq) (f2 := lstE nilA) zr lst0 (eq_nilL (ok_tD _)))
    have ne : (((trps (cAt cs r) m).filter fun t => decide (t.1 = 0)).map tD).isEmpty = noF (cAt cs r) m := by
      rw [emp_map]
      rfl
    rw [ne] at t
    have hd : ∀ {acc' : List D} {a12' : Slot}, acc'.length ≤ acc.length + 1 → ∃ a6' a12'', forL (tgN 6) (seqS (asgS 12 (op1 dTuple (lcE (itS (var 6)) (tgN 13) yesB (op2 dIxA (var 1) (var 13)) [13]))) (ifS (valB (op2 dEq (lcE (itS (callE m__law_rounds (consA (var 12) (consA (var 2) nilA)))) (tgN 14) (valB (op2 dEq (op2 dIxA (var 14) (cst (.int 0))) (cst (.int 0)))) (var 14) [14]) (lstE nilA))) (appS 10 (var 6)) skipS)) (l.map rD) (aEn cs m G a4 a5 (.vl (rD r)) a7 a8 (.vl (nD n)) (.ow (.lst acc')) a11 a12' a13 a14 a15) S = .ok (.nx (aEn cs m G a4 a5 a6' a7 a8 (.vl (nD n)) (.ow (.lst (acc' ++ (l.filter fun r => noF (cAt cs r) m).map rD))) a11 a12'' a13 a14 a15)) S := fun {acc'} {a12'} hl' => s5 ok m1 m2 (G := G) (a4 := a4) (a5 := a5) (a7 := a7) (a8 := a8) (a11 := a11) (a13 := a13) (a14 := a14) (a15 := a15) (n := n) S l acc' (.vl (rD r)) a12' (fun z hz => h z (List.mem_cons_of_mem _ hz)) (by omega)
    rw [List.filter_cons]
    cases q : noF (cAt cs r) m with
    | true =>
      rw [q] at t
      obtain ⟨a6', a12', ih⟩ := hd (acc' := acc ++ [rD r]) (a12' := .vl (.tup ((cAt cs r).map cD))) (by rw [List.length_append, List.length_singleton]; omega)
      refine ⟨a6', a12', (forL_nx (d := rD r) (ρ1 := aEn cs m G a4 a5 (.vl (rD r)) a7 a8 (.vl (nD n)) (.ow (.lst acc)) a11 a12 a13 a14 a15) rfl ((seq_nx st1).trans ((if_t t).trans (app_of (i := 10) (ds := acc) (d := rD r) rfl rfl (by omega))))).trans (ih.trans ?_)⟩
      rw [if_pos rfl, List.append_assoc]
      rfl
    | false =>
      rw [q] at t
      obtain ⟨a6', a12', ih⟩ := hd (acc' := acc) (a12' := .vl (.tup ((cAt cs r).map cD))) (by omega)
      refine ⟨a6', a12', (forL_nx (d := rD r) (ρ1 := aEn cs m G a4 a5 (.vl (rD r)) a7 a8 (.vl (nD n)) (.ow (.lst acc)) a11 a12 a13 a14 a15) rfl ((seq_nx st1).trans (if_f t))).trans (ih.trans ?_)⟩
      rw [if_neg Bool.false_ne_true]
theorem rows_len {n : Nat} (h : n ≤ 9) : (rows n).length ≤ 1449 := by
  unfold rows
  rw [List.length_append, List.length_append]
  have a : (R1 n).length = n := by
    unfold R1
    rw [List.length_map, List.length_range]
  have b := R2_len (List.range n) fun z hz => by have := List.mem_range.mp hz; omega
  rw [List.length_range] at b
  by_cases h8 : n < 8
  · rw [if_pos h8]
    have c := R3_len (List.range n) fun z hz => by have := List.mem_range.mp hz; omega
    rw [List.length_range] at c
    omega
  · rw [if_neg h8]
    have c := R3_len (List.range 0) fun z hz => by have := List.mem_range.mp hz; omega
    rw [List.length_range] at c
    omega
theorem bd_eq {α β : Type} {x y : M α} {S S' : DS} (h : x S = y S') (k : α → M β) : bd x k S = bd y k S' := by
  unfold bd
  rw [h]
theorem v_pick2 {S : DS} (v : Vs S) {ds : List D} (h : ds ≠ []) (hl : ds.length ≤ 100000) : ∃ (x : D) (S' : DS), m__law_pick [.st, .lst ds] S = .ok x S' ∧ x ∈ ds ∧ Vs S' := pick_ok v (.inl rfl) h (by omega)
theorem cat_T {a b : List D} (h : a.length + b.length ≤ 10000) : dAdd (.tup a) (.tup b) = some (.tup (a ++ b)) := by
  show (if a.length + b.length ≤ 16777216 then some (D.tup (a ++ b)) else none) = _
  rw [if_pos (by omega)]
theorem last_ix {l : List (List Nat)} (h : l ≠ []) : dIxA (.lst (l.map rD)) (.int (-1)) = some (rD (l.getLast h)) := by
  show atI (l.map rD) (-1) = _
  have hp := List.length_pos_iff.mpr h
  have e : ixN (l.map rD).length (-1) = some (l.length - 1) := by
    rw [List.length_map]
    unfold ixN
    rw [if_neg (by decide), if_pos (by omega)]
    congr 1
    omega
  unfold atI
  rw [e, Option.bind_some, List.getElem?_map, List.getElem?_eq_getElem (by omega), List.getLast_eq_getElem]
  rfl
theorem v_against {cs : List Cn2} (ok : CsOk cs) {m : Nat} (m1 : 1 ≤ m) (m2 : m ≤ 26) (h9 : cs.length ≤ 9) {S : DS} (v : Vs S) : ∃ S', m__law_against_holds [.st, .tup (cs.map cD), nD m, .tup ((rnds cs m).map prN)] S = .ok (.bl true) S' ∧ Vs S' := by
  generalize hG : D.tup ((rnds cs m).map prN) = G
  rw [e__law_against_holds, b__law_against_holds]
  generalize hn : cs.length = n at h9
  have st1 : (parVO 9 10 (op1 dLen (var 1)) (lstE nilA)) (aEn cs m G .no .no .no .no .no .no .no .no .no .no .no .no) S = .ok (.nx (aEn cs m G .no .no .no .no .no (.vl (nD n)) (.ow (.lst [])) .no .no .no .no .no)) S := by
    have ln := len_coins cs (i := 1) (ρ := aEn cs m G .no .no .no .no .no .no .no .no .no .no .no .no) (S := S) rfl
    rw [hn] at ln
    have l0 : lstE nilA (aEn cs m G .no .no .no .no .no .no .no .no .no .no .no .no) S = .ok (.lst []) S := lst0
    simp only [parVO, bd, ln, l0, rt]
    rfl
  have st2 : (asgOS 4 (lcE (itR1 (var 9)) (tgN 5) yesB (tupE (consA (var 5) nilA)) [5])) (aEn cs m G .no .no .no .no .no (.vl (nD n)) (.ow (.lst [])) .no .no .no .no .no) S = .ok (.nx (aEn cs m G (.ow (.lst ((R1 n).map rD))) .no .no .no .no (.vl (nD n)) (.ow (.lst [])) .no .no .no .no .no)) S := by
    refine asgO_of ?_
    unfold R1
    rw [List.map_map]
    exact lcA nD (rD ∘ fun k => [k]) (rng1 (n := n) (by omega) rfl) (fun k _ => ⟨aEn cs m G .no (.vl (nD k)) .no .no .no (.vl (nD n)) (.ow (.lst [])) .no .no .no .no .no, rfl, tup1 (d := nD k) rfl⟩) (by rw [List.length_range]; omega)
  have r1l : (R1 n).length = n := by
    unfold R1
    rw [List.length_map, List.length_range]
  obtain ⟨x5, x11, l3⟩ := s3 (cs := cs) (m := m) (G := G) (a6 := .no) (a7 := .no) (a8 := .no) (a10 := .ow (.lst [])) (a12 := .no) (a13 := .no) (a14 := .no) (a15 := .no) (n := n) S (List.range n) ((R1 n).map rD) .no .no (fun z hz => by have := List.mem_range.mp hz; omega) (by rw [List.length_map, r1l, List.length_range]; omega)
  have st3 := (for_of (it := itR1 (var 9)) (rng1 (n := n) (a := var 9) (ρ := aEn cs m G (.ow (.lst ((R1 n).map rD))) .no .no .no .no (.vl (nD n)) (.ow (.lst [])) .no .no .no .no .no) (S := S) (by omega) rfl)).trans l3
  have r2l := R2_len (List.range n) fun z hz => by have := List.mem_range.mp hz; omega
  rw [List.length_range] at r2l
  have st4 : ∃ y5 y11, (forS (itR1 (iteE (valB (op2 dLt (var 9) (cst (.int 8)))) (var 9) (cst (.int 0)))) (tgN 5) (forS (itR1 (var 5)) (tgN 11) (extS 4 (lcE (itR1 (var 11)) (tgN 15) yesB (tupE (consA (var 11) (consA (var 5) (consA (var 15) nilA)))) [15])))) (aEn cs m G (.ow (.lst ((R1 n).map rD ++ (R2 (List.range n)).map rD))) x5 .no .no .no (.vl (nD n)) (.ow (.lst [])) x11 .no .no .no .no) S = .ok (.nx (aEn cs m G (.ow (.lst ((rows n).map rD))) y5 .no .no .no (.vl (nD n)) (.ow (.lst [])) y11 .no .no .no .no)) S := by
    have t : valB (op2 dLt (var 9) (cst (.int 8))) (aEn cs m G (.ow (.lst ((R1 n).map rD ++ (R2 (List.range n)).map rD))) x5 .no .no .no (.vl (nD n)) (.ow (.lst [])) x11 .no .no .no .no) S = .ok (decide (n < 8)) S := val_of (op2_of (d1 := nD n) (d2 := nD 8) rfl rfl (ltN _ _))
    obtain ⟨y5, y11, l4⟩ := s4 (cs := cs) (m := m) (G := G) (a6 := .no) (a7 := .no) (a8 := .no) (a10 := .ow (.lst [])) (a12 := .no) (a13 := .no) (a14 := .no) (a15 := .no) (n := n) S (List.range (if n < 8 then n else 0)) ((R1 n).map rD ++ (R2 (List.range n)).map rD) x5 x11 (fun z hz => by
      have := List.mem_range.mp hz
      split at this <;> omega) (by
      rw [List.length_append, List.length_map, List.length_map, r1l, List.length_range]
      split <;> omega)
    refine ⟨y5, y11, (for_of (rng1 (n := if n < 8 then n else 0) (by split <;> omega) ?_)).trans (l4.trans ?_)⟩
    · by_cases h8 : n < 8
      · rw [decide_eq_true h8] at t
        rw [if_pos h8]
        exact (ite_t t).trans rfl
      · rw [decide_eq_false h8] at t
        rw [if_neg h8]
        exact (ite_f t).trans rfl
    · unfold rows
      rw [List.map_append, List.map_append]
  obtain ⟨y5, y11, st4⟩ := st4
  have rok : ∀ r ∈ rows n, RowOk cs.length r := fun r hr => by rw [hn]; exact rows_ok hr
  have rl := rows_len h9
  obtain ⟨z6, z12, l5⟩ := s5 ok.x m1 m2 (G := G) (a4 := .vl (.lst ((rows n).map rD))) (a5 := y5) (a7 := .no) (a8 := .no) (a11 := y11) (a13 := .no) (a14 := .no) (a15 := .no) (n := n) S (rows n) [] .no .no (fun r hr => ⟨(rok r hr).b, (rok r hr).c⟩) (by simp; omega)
  have hsh : ((rows n).filter fun r => noF (cAt cs r) m) = shown cs m := by
    unfold shown
    rw [hn]
  rw [List.nil_append, hsh] at l5
  have st5 : (frzS 4 (forS (itS (var 4)) (tgN 6) (seqS (asgS 12 (op1 dTuple (lcE (itS (var 6)) (tgN 13) yesB (op2 dIxA (var 1) (var 13)) [13]))) (ifS (valB (op2 dEq (lcE (itS (callE m__law_rounds (consA (var 12) (consA (var 2) nilA)))) (tgN 14) (valB (op2 dEq (op2 dIxA (var 14) (cst (.int 0))) (cst (.int 0)))) (var 14) [14]) (lstE nilA))) (appS 10 (var 6)) skipS)))) (aEn cs m G (.ow (.lst ((rows n).map rD))) y5 .no .no .no (.vl (nD n)) (.ow (.lst [])) y11 .no .no .no .no) S = .ok (.nx (aEn cs m G (.vl (.lst ((rows n).map rD))) y5 z6 .no .no (.vl (nD n)) (.ow (.lst ((shown cs m).map rD))) y11 z12 .no .no .no)) S :=
    (frz_ow (i := 4) rfl).trans ((for_of (its_of (d := .lst ((rows n).map rD)) rfl rfl)).trans l5)
  have shr : ∀ r ∈ shown cs m, r ∈ rows n ∧ noF (cAt cs r) m = true := fun r hr => by
    rw [← hsh] at hr
    exact List.mem_filter.mp hr
  have rsm : ∀ r, RowOk cs.length r → r.length ≤ 3 ∧ ∀ k ∈ r, k ≤ 100 := fun r hr => ⟨hr.b, fun k hk => by have := hr.c k hk; omega⟩
  have gsh := gd_rows (rs := shown cs m) fun r hr => rsm r (rok r (shr r hr).1)
  have oksh := gd_okEq gsh (by decide)
  -- the row that is picked
  have st6 : ∃ (r : List Nat) (S' : DS), (frzS 4 (asgS 6 (iteE (truB (varB 4)) (callE m__law_pick (consA (var 0) (consA (var 4) nilA))) (tupE (consA (cst (.int 0)) nilA))))) (aEn cs m G (.vl (.lst ((rows n).map rD))) y5 z6 .no .no (.vl (nD n)) (.ow (.lst ((shown cs m).map rD))) y11 z12 .no .no .no) S = .ok (.nx (aEn cs m G (.vl (.lst ((rows n).map rD))) y5 (.vl (rD r)) .no .no (.vl (nD n)) (.ow (.lst ((shown cs m).map rD))) y11 z12 .no .no .no)) S' ∧ Vs S' ∧ ((n = 0 ∧ r = [0]) ∨ r ∈ rows n) := by
    have t : truB (varB 4) (aEn cs m G (.vl (.lst ((rows n).map rD))) y5 z6 .no .no (.vl (nD n)) (.ow (.lst ((shown cs m).map rD))) y11 z12 .no .no .no) S = .ok (!(rows n).isEmpty) S := tru_ofE (d := .lst ((rows n).map rD)) rfl (by
      show some (!((rows n).map rD).isEmpty) = _
      rw [emp_map])
    by_cases h0 : n = 0
    · subst h0
      exact ⟨[0], S, (frz_vl (i := 4) rfl).trans (asg_of ((ite_f t).trans (tup1 rfl))), v, .inl ⟨rfl, rfl⟩⟩
    · have ne : rows n ≠ [] := fun z => by
        have : [0] ∈ rows n := by
          unfold rows
          rw [List.mem_append, List.mem_append, R1_mem]
          exact .inl (.inl ⟨0, by omega, rfl⟩)
        rw [z] at this
        cases this
      have e : (rows n).isEmpty = false := by
        cases h : rows n with
        | nil => exact absurd h ne
        | cons _ _ => rfl
      rw [e] at t
      obtain ⟨x, S', ep, hx, v'⟩ := v_pick2 v (ds := (rows n).map rD) (fun z => ne (List.map_eq_nil_iff.mp z)) (by rw [List.length_map]; omega)
      obtain ⟨r, hr, rfl⟩ := List.mem_map.mp hx
      exact ⟨r, S', (frz_vl (i := 4) rfl).trans (asg_of ((ite_t t).trans (pick_of rfl rfl ep))), v', .inr hr⟩
  obtain ⟨r, S', st6, v', hr⟩ := st6
  have rs : r.length ≤ 3 ∧ ∀ k ∈ r, k ≤ 100 := by
    rcases hr with ⟨_, rfl⟩ | hr
    · exact ⟨by decide, fun k hk => by rw [List.mem_singleton.mp hk]; omega⟩
    · exact rsm r (rok r hr)
  -- the word
  have st7 : ∃ w : Wo, (asgS 7 (iteE (notB (truB (varB 4))) (cst (.str "paper form")) (iteE (valB (op2 dIn (var 6) (varB 10))) (cst .non) (cst (.str "paper round"))))) (aEn cs m G (.vl (.lst ((rows n).map rD))) y5 (.vl (rD r)) .no .no (.vl (nD n)) (.ow (.lst ((shown cs m).map rD))) y11 z12 .no .no .no) S' = .ok (.nx (aEn cs m G (.vl (.lst ((rows n).map rD))) y5 (.vl (rD r)) (.vl w.wd) .no (.vl (nD n)) (.ow (.lst ((shown cs m).map rD))) y11 z12 .no .no .no)) S' ∧ ∀ S, m_accept_against [.tup (cs.map cD), nD m, rD r] S = resW w S := by
    have t : notB (truB (varB 4)) (aEn cs m G (.vl (.lst ((rows n).map rD))) y5 (.vl (rD r)) .no .no (.vl (nD n)) (.ow (.lst ((shown cs m).map rD))) y11 z12 .no .no .no) S' = .ok (rows n).isEmpty S' := by
      have z := not_of (tru_ofE (f := varB 4) (k := !(rows n).isEmpty) (ρ := aEn cs m G (.vl (.lst ((rows n).map rD))) y5 (.vl (rD r)) .no .no (.vl (nD n)) (.ow (.lst ((shown cs m).map rD))) y11 z12 .no .no .no) (S := S') (d := .lst ((rows n).map rD)) rfl (by
        show some (!((rows n).map rD).isEmpty) = _
        rw [emp_map]))
      rw [Bool.not_not] at z
      exact z
    rcases hr with ⟨h0, hr⟩ | hr
    · subst h0; subst hr
      refine ⟨.form, asg_of ((ite_t t).trans rfl), fun S => v_ag_form ok m1 m2 (xs := [.int 0]) (fun x hx => by rw [List.mem_singleton.mp hx]; trivial) (by decide) (.inr ?_) S⟩
      rw [hn]
      rfl
    · have e : (rows n).isEmpty = false := by
        cases h : rows n with
        | nil => rw [h] at hr; cases hr
        | cons _ _ => rfl
      rw [e] at t
      have rk := rok r hr
      have ti : valB (op2 dIn (var 6) (varB 10)) (aEn cs m G (.vl (.lst ((rows n).map rD))) y5 (.vl (rD r)) .no .no (.vl (nD n)) (.ow (.lst ((shown cs m).map rD))) y11 z12 .no .no .no) S' = .ok (decide (r ∈ shown cs m)) S' := val_of (op2_of (d1 := rD r) (d2 := .lst ((shown cs m).map rD)) rfl rfl (in_rows rs fun q hq => rsm q (rok q (shr q hq).1)))
      by_cases hs : r ∈ shown cs m
      · rw [decide_eq_true hs] at ti
        exact ⟨.ok, asg_of ((ite_f t).trans ((ite_t ti).trans rfl)), fun S => v_ag_row ok m1 m2 rk.a rk.b rk.c rk.d (.inr ⟨noF_iff.mp (shr r hs).2, rfl⟩) S⟩
      · rw [decide_eq_false hs] at ti
        refine ⟨.round, asg_of ((ite_f t).trans ((ite_f ti).trans rfl)), fun S => v_ag_row ok m1 m2 rk.a rk.b rk.c rk.d (.inl ⟨?_, rfl⟩) S⟩
        refine Classical.byContradiction fun z => hs ?_
        rw [← hsh]
        exact List.mem_filter.mpr ⟨hr, noF_iff.mpr z⟩
  obtain ⟨w, st7, pw⟩ := st7
  -- the papers
  have st8 : (asgS 8 (lstE (consA (tupE (consA (lstE (consA (var 6) nilA)) (consA (var 7) nilA))) (consA (tupE (consA (lstE (consA (op2 dAdd (var 6) (tupE (consA (var 9) nilA))) nilA)) (consA (cst (.str "paper form")) nilA))) (consA (tupE (consA (lstE (consA (tupE nilA) nilA)) (consA (cst (.str "paper form")) nilA))) (consA (tupE (consA (lstE (consA (tupE (consA (cst (.int 0)) (consA (cst (.int 0)) nilA))) nilA)) (consA (cst (.str "paper form")) nilA))) (consA (tupE (consA (lstE (consA (tupE (consA (cst (.bl true)) nilA)) nilA)) (consA (cst (.str "paper form")) nilA))) nilA))))))) (aEn cs m G (.vl (.lst ((rows n).map rD))) y5 (.vl (rD r)) (.vl w.wd) .no (.vl (nD n)) (.ow (.lst ((shown cs m).map rD))) y11 z12 .no .no .no) S' = .ok (.nx (aEn cs m G (.vl (.lst ((rows n).map rD))) y5 (.vl (rD r)) (.vl w.wd) (.vl (.lst ([([rD r], w), ([D.tup (natL r ++ [nD n])], .form), ([D.tup []], .form), ([D.tup [.int 0, .int 0]], .form), ([D.tup [.bl true]], .form)].map ppD))) (.vl (nD n)) (.ow (.lst ((shown cs m).map rD))) y11 z12 .no .no .no)) S' :=
    asg_of (lst5 (tup2 (lst1 rfl) rfl) (tup2 (lst1 (op2_of (d1 := rD r) (d2 := .tup [nD n]) rfl (tup1 rfl) (cat_T (by have := rs.1; rw [natL_len]; show r.length + 1 ≤ 10000; omega)))) rfl) (tup2 (lst1 (tupE_of nil_of (Nat.zero_le _))) rfl) (tup2 (lst1 (tup2 rfl rfl)) rfl) (tup2 (lst1 (tup1 rfl)) rfl))
  have fm : ∀ (xs : List D) (S : DS), (∀ x ∈ xs, Arg x) → xs.length ≤ 100 → (¬ (1 ≤ xs.length ∧ xs.length ≤ 3) ∨ (xs.all fun x => wh x 0 ((cs.length : Int) - 1)) = false) → m_accept_against [.tup (cs.map cD), nD m, .tup xs] S = resW .form S := fun xs S h1 h2 h3 => v_ag_form ok m1 m2 h1 h2 h3 S
  have five : ∀ q ∈ [([rD r], w), ([D.tup (natL r ++ [nD n])], Wo.form), ([D.tup []], .form), ([D.tup [.int 0, .int 0]], .form), ([D.tup [.bl true]], .form)], q.1.length ≤ 3 ∧ ∀ S, m_accept_against (.tup (cs.map cD) :: nD m :: q.1) S = resW q.2 S := fun q hq => by
    simp only [List.mem_cons, List.not_mem_nil, or_false] at hq
    rcases hq with rfl | rfl | rfl | rfl | rfl
    · exact ⟨by show 1 ≤ 3; omega, pw⟩
    · refine ⟨by show 1 ≤ 3; omega, fun S => fm _ S (fun x hx => ?_) (by rw [List.length_append, natL_len]; have := rs.1; show r.length + 1 ≤ 100; omega) (.inr ?_)⟩
      · rcases List.mem_append.mp hx with hx | hx
        · exact arg_natL m1 m2 r x hx
        · rw [List.mem_singleton.mp hx]
          trivial
      · rw [hn, List.all_append]
        have w0 : wh (nD n) 0 ((n : Int) - 1) = false := by
          show (decide ((0 : Int) ≤ (n : Int)) && decide ((n : Int) ≤ (n : Int) - 1)) = false
          rw [decide_eq_false (show ¬ (n : Int) ≤ (n : Int) - 1 by omega), Bool.and_false]
        rw [List.all_cons, w0, Bool.false_and, Bool.and_false]
    · exact ⟨by show 1 ≤ 3; omega, fun S => fm [] S (fun x hx => by cases hx) (by decide) (.inl (by simp))⟩
    · refine ⟨by show 1 ≤ 3; omega, fun S => ?_⟩
      by_cases h0 : n = 0
      · refine fm [.int 0, .int 0] S (fun x hx => ?_) (by decide) (.inr ?_)
        · simp only [List.mem_cons, List.not_mem_nil, or_false] at hx
          rcases hx with rfl | rfl <;> trivial
        · rw [hn, h0]
          rfl
      · exact v_ag_twice ok m1 m2 (by omega) S
    · exact ⟨by show 1 ≤ 3; omega, fun S => fm [.bl true] S (fun x hx => by rw [List.mem_singleton.mp hx]; trivial) (by decide) (.inr rfl)⟩
  have fin : ∀ (ps : List (List D × Wo)), ps.length ≤ 100 → (∀ q ∈ ps, q.1.length ≤ 3 ∧ ∀ S, m_accept_against (.tup (cs.map cD) :: nD m :: q.1) S = resW q.2 S) → bd ((retS (andE (callE m__law_shown (consA (fnE 14) (consA (lstE (consA (var 1) (consA (var 2) nilA))) (consA (var 8) nilA)))) (orE (op2 dGe (var 9) (cst (.int 8))) (op2 dEq (op2 dNe (varB 10) (lstE nilA)) (op2 dEq (var 3) (tupE nilA)))))) (aEn cs m G (.vl (.lst ((rows n).map rD))) y5 (.vl (rD r)) (.vl w.wd) (.vl (.lst (ps.map ppD))) (.vl (nD n)) (.ow (.lst ((shown cs m).map rD))) y11 z12 .no .no .no)) leave S' = .ok (.bl true) S' := fun ps hl hp => by
    have a := call3_of (F := m__law_shown) (f := fnE 14) (g := lstE (consA (var 1) (consA (var 2) nilA))) (k := var 8) (ρ := aEn cs m G (.vl (.lst ((rows n).map rD))) y5 (.vl (rD r)) (.vl w.wd) (.vl (.lst (ps.map ppD))) (.vl (nD n)) (.ow (.lst ((shown cs m).map rD))) y11 z12 .no .no .no) (S := S') (d := .fn 14) (d2 := .lst [.tup (cs.map cD), nD m]) (d3 := .lst (ps.map ppD)) rfl (lst2 rfl rfl) rfl (v_papers (n := 14) (F := m_accept_against) rfl ps hl hp S')
    have g : op2 dGe (var 9) (cst (.int 8)) (aEn cs m G (.vl (.lst ((rows n).map rD))) y5 (.vl (rD r)) (.vl w.wd) (.vl (.lst (ps.map ppD))) (.vl (nD n)) (.ow (.lst ((shown cs m).map rD))) y11 z12 .no .no .no) S' = .ok (.bl (decide (8 ≤ n))) S' := op2_of (d1 := nD n) (d2 := nD 8) rfl rfl (by
      show some (D.bl (decide ((8 : Int) ≤ (n : Int)))) = _
      rw [show decide ((8 : Int) ≤ (n : Int)) = decide (8 ≤ n) from decide_eq_decide.mpr (by omega)])
    refine body_rt (ret_of ((andE_t a).trans ?_))
    by_cases h8 : 8 ≤ n
    · rw [decide_eq_true h8] at g
      simp only [orE, bd, g, rt]
    · rw [decide_eq_false h8] at g
      have e1 := op2_of (g := dNe) (f1 := varB 10) (f2 := lstE nilA) (ρ := aEn cs m G (.vl (.lst ((rows n).map rD))) y5 (.vl (rD r)) (.vl w.wd) (.vl (.lst (ps.map ppD))) (.vl (nD n)) (.ow (.lst ((shown cs m).map rD))) y11 z12 .no .no .no) (S := S') (d1 := .lst ((shown cs m).map rD)) (d2 := .lst []) rfl lst0 (ne_nilL oksh)
      have e2 := op2_of (g := dEq) (f1 := var 3) (f2 := tupE nilA) (ρ := aEn cs m G (.vl (.lst ((rows n).map rD))) y5 (.vl (rD r)) (.vl w.wd) (.vl (.lst (ps.map ppD))) (.vl (nD n)) (.ow (.lst ((shown cs m).map rD))) y11 z12 .no .no .no) (S := S') (d1 := .tup ((rnds cs m).map prN)) (d2 := .tup []) (by rw [← hG]; rfl) (tupE_of nil_of (Nat.zero_le _)) (eq_nilT (gd_okEq (gd_rnds m1 m2) (by decide)))
      have e3 := op2_of e1 e2 (eq_bl _ _)
      rw [emp_map, emp_map, shown_iff m1 m2 (by omega), Bool.not_not, beq_self_eq_true] at e3
      simp only [orE, bd, g]
      exact e3
  refine ⟨S', ?_, v'⟩
  have chain : ∀ {R : FS}, seqS (parVO 9 10 (op1 dLen (var 1)) (lstE nilA)) (seqS (asgOS 4 (lcE (itR1 (var 9)) (tgN 5) yesB (tupE (consA (var 5) nilA)) [5])) (seqS (forS (itR1 (var 9)) (tgN 5) (extS 4 (lcE (itR1 (var 5)) (tgN 11) yesB (tupE (consA (var 5) (consA (var 11) nilA))) [11]))) (seqS (forS (itR1 (iteE (valB (op2 dLt (var 9) (cst (.int 8)))) (var 9) (cst (.int 0)))) (tgN 5) (forS (itR1 (var 5)) (tgN 11) (extS 4 (lcE (itR1 (var 11)) (tgN 15) yesB (tupE (consA (var 11) (consA (var 5) (consA (var 15) nilA)))) [15])))) (seqS (frzS 4 (forS (itS (var 4)) (tgN 6) (seqS (asgS 12 (op1 dTuple (lcE (itS (var 6)) (tgN 13) yesB (op2 dIxA (var 1) (var 13)) [13]))) (ifS (valB (op2 dEq (lcE (itS (callE m__law_rounds (consA (var 12) (consA (var 2) nilA)))) (tgN 14) (valB (op2 dEq (op2 dIxA (var 14) (cst (.int 0))) (cst (.int 0)))) (var 14) [14]) (lstE nilA))) (appS 10 (var 6)) skipS)))) (seqS (frzS 4 (asgS 6 (iteE (truB (varB 4)) (callE m__law_pick (consA (var 0) (consA (var 4) nilA))) (tupE (consA (cst (.int 0)) nilA))))) (seqS (asgS 7 (iteE (notB (truB (varB 4))) (cst (.str "paper form")) (iteE (valB (op2 dIn (var 6) (varB 10))) (cst .non) (cst (.str "paper round"))))) (seqS (asgS 8 (lstE (consA (tupE (consA (lstE (consA (var 6) nilA)) (consA (var 7) nilA))) (consA (tupE (consA (lstE (consA (op2 dAdd (var 6) (tupE (consA (var 9) nilA))) nilA)) (consA (cst (.str "paper form")) nilA))) (consA (tupE (consA (lstE (consA (tupE nilA) nilA)) (consA (cst (.str "paper form")) nilA))) (consA (tupE (consA (lstE (consA (tupE (consA (cst (.int 0)) (consA (cst (.int 0)) nilA))) nilA)) (consA (cst (.str "paper form")) nilA))) (consA (tupE (consA (lstE (consA (tupE (consA (cst (.bl true)) nilA)) nilA)) (consA (cst (.str "paper form")) nilA))) nilA))))))) R))))))) (aEn cs m G .no .no .no .no .no .no .no .no .no .no .no .no) S = R (aEn cs m G (.vl (.lst ((rows n).map rD))) y5 (.vl (rD r)) (.vl w.wd) (.vl (.lst ([([rD r], w), ([D.tup (natL r ++ [nD n])], .form), ([D.tup []], .form), ([D.tup [.int 0, .int 0]], .form), ([D.tup [.bl true]], .form)].map ppD))) (.vl (nD n)) (.ow (.lst ((shown cs m).map rD))) y11 z12 .no .no .no) S' := fun {R} =>
    (seq_nx st1).trans ((seq_nx st2).trans ((seq_nx st3).trans ((seq_nx st4).trans ((seq_nx st5).trans ((seq_nx st6).trans ((seq_nx st7).trans (seq_nx st8)))))))
  have c10 := chain (R := seqS (ifS (truB (varB 10)) (asgS 8 (op2 dAdd (var 8) (lstE (consA (tupE (consA (lstE (consA (op2 dIxA (varB 10) (op1 dNeg (cst (.int 1)))) nilA)) (consA (cst .non) nilA))) (consA (tupE (consA (lstE (consA (op1 dRevT (op2 dIxA (varB 10) (op1 dNeg (cst (.int 1))))) nilA)) (consA (cst .non) nilA))) nilA))))) skipS) (retS (andE (callE m__law_shown (consA (fnE 14) (consA (lstE (consA (var 1) (consA (var 2) nilA))) (consA (var 8) nilA)))) (orE (op2 dGe (var 9) (cst (.int 8))) (op2 dEq (op2 dNe (varB 10) (lstE nilA)) (op2 dEq (var 3) (tupE nilA)))))))
  refine (bd_eq c10 leave).trans ?_
  have tq : truB (varB 10) (aEn cs m G (.vl (.lst ((rows n).map rD))) y5 (.vl (rD r)) (.vl w.wd) (.vl (.lst ([([rD r], w), ([D.tup (natL r ++ [nD n])], .form), ([D.tup []], .form), ([D.tup [.int 0, .int 0]], .form), ([D.tup [.bl true]], .form)].map ppD))) (.vl (nD n)) (.ow (.lst ((shown cs m).map rD))) y11 z12 .no .no .no) S' = .ok (!(shown cs m).isEmpty) S' := tru_ofE (d := .lst ((shown cs m).map rD)) rfl (by
    show some (!((shown cs m).map rD).isEmpty) = _
    rw [emp_map])
  by_cases hs0 : shown cs m = []
  · rw [show (!(shown cs m).isEmpty) = false from by rw [hs0]; rfl] at tq
    exact (bd_eq (seq_nx (if_f tq)) leave).trans (fin _ (by show 5 ≤ 100; omega) five)
  · have he : (!(shown cs m).isEmpty) = true := by
      cases h : shown cs m with
      | nil => exact absurd h hs0
      | cons _ _ => rfl
    rw [he] at tq
    have lm := List.getLast_mem hs0
    have lx := last_ix hs0
    generalize (shown cs m).getLast hs0 = q at lm lx
    obtain ⟨q1, q2⟩ := shr q lm
    have qk := rok q q1
    have nq := noF_iff.mp q2
    have ix : ∀ {a8 : Slot} {S : DS}, op2 dIxA (varB 10) (op1 dNeg (cst (.int 1))) (aEn cs m G (.vl (.lst ((rows n).map rD))) y5 (.vl (rD r)) (.vl w.wd) a8 (.vl (nD n)) (.ow (.lst ((shown cs m).map rD))) y11 z12 .no .no .no) S = .ok (rD q) S := fun {a8 S} => op2_of (d1 := .lst ((shown cs m).map rD)) (d2 := .int (-1)) rfl (op1_of rfl rfl) lx
    have rv : dRevT (rD q) = some (rD q.reverse) := by
      show some (D.tup (natL q).reverse) = some (D.tup (natL q.reverse))
      rw [natL, natL, List.map_reverse]
    have st9 : ∀ (ps : List (List D × Wo)), ps.length ≤ 50 → asgS 8 (op2 dAdd (var 8) (lstE (consA (tupE (consA (lstE (consA (op2 dIxA (varB 10) (op1 dNeg (cst (.int 1)))) nilA)) (consA (cst .non) nilA))) (consA (tupE (consA (lstE (consA (op1 dRevT (op2 dIxA (varB 10) (op1 dNeg (cst (.int 1))))) nilA)) (consA (cst .non) nilA))) nilA)))) (aEn cs m G (.vl (.lst ((rows n).map rD))) y5 (.vl (rD r)) (.vl w.wd) (.vl (.lst (ps.map ppD))) (.vl (nD n)) (.ow (.lst ((shown cs m).map rD))) y11 z12 .no .no .no) S' = .ok (.nx (aEn cs m G (.vl (.lst ((rows n).map rD))) y5 (.vl (rD r)) (.vl w.wd) (.vl (.lst ((ps ++ [([rD q], Wo.ok), ([rD q.reverse], .ok)]).map ppD))) (.vl (nD n)) (.ow (.lst ((shown cs m).map rD))) y11 z12 .no .no .no)) S' := fun ps hl => by
      rw [List.map_append]
      exact asg_of (op2_of (d1 := .lst (ps.map ppD)) (d2 := .lst ([([rD q], Wo.ok), ([rD q.reverse], .ok)].map ppD)) rfl (lst2 (tup2 (lst1 ix) rfl) (tup2 (lst1 (op1_of ix rv)) rfl)) (catL (by rw [List.length_map]; show ps.length + 2 ≤ _; omega)))
    refine (bd_eq (seq_nx ((if_t tq).trans (st9 _ (by show 5 ≤ 50; omega)))) leave).trans (fin _ (by rw [List.length_append]; show 5 + 2 ≤ 100; omega) fun p hp => ?_)
    rcases List.mem_append.mp hp with hp | hp
    · exact five p hp
    · simp only [List.mem_cons, List.not_mem_nil, or_false] at hp
      rcases hp with rfl | rfl
      · exact ⟨by show 1 ≤ 3; omega, fun S => v_ag_row ok m1 m2 qk.a qk.b qk.c qk.d (.inr ⟨nq, rfl⟩) S⟩
      · refine ⟨by show 1 ≤ 3; omega, fun S => v_ag_row ok m1 m2 (by rw [List.length_reverse]; exact qk.a) (by rw [List.length_reverse]; exact qk.b) (fun k hk => qk.c k (List.mem_reverse.mp hk)) ((List.reverse_perm q).nodup_iff.mpr qk.d) (.inr ⟨fun z => nq ?_, rfl⟩) S⟩
        refine (fit_perm ?_ m).mp z
        exact (List.reverse_perm q).map _
end Hk21
namespace Hk21
open PySem Mini
open L2 (atI ixN atI_nat kitB Key)
/-! ## rounds of some coins -/
theorem good_eq {cs : List Cn2} {m : Nat} (m1 : 1 ≤ m) : ((trps cs m).filter fun t => decide (t.1 = 0)).map (fun t => (t.2.1, t.2.2)) = rnds cs m := by
  have a : ((trps cs m).filter fun t => decide (t.1 = 0)).map (fun t => (t.2.1, t.2.2)) = (List.range m).flatMap (rnd cs m) := by
    unfold trps
    rw [List.filter_flatMap, List.map_flatMap]
    congr 1
    funext b
    unfold trp rnd
    rw [List.filter_map, List.map_map]
    have e : ((fun t : Tr => decide (t.1 = 0)) ∘ fun s => (misN cs m b s, b, s)) = fitB cs m b := by
      funext s
      show decide (misN cs m b s = 0) = fitB cs m b s
      rw [Bool.eq_iff_iff, decide_eq_true_eq, mis_0]
      exact List.all_eq_true.symm
    rw [e]
    rfl
  rw [a]
  unfold rnds
  split
  · rename_i h
    refine List.eq_nil_iff_forall_not_mem.mpr fun p hp => ?_
    obtain ⟨b, hb, z⟩ := List.mem_flatMap.mp hp
    unfold rnd at z
    obtain ⟨s, hs, rfl⟩ := List.mem_map.mp z
    obtain ⟨_, s2⟩ := List.mem_filter.mp hs
    obtain ⟨c, hc, hh⟩ := List.any_eq_true.mp h
    have := hit_lt m1 (List.all_eq_true.mp s2 c hc)
    have := of_decide_eq_true hh
    omega
  · rfl
theorem notin_nat (l : List Nat) (k : Nat) : dNotIn (nD k) (.lst (natL l)) = some (.bl (!(l.any fun y => decide (y = k)))) := by
  have e1 : okEq (nD k) = true := rfl
  have e2 := ok_natL l
  show (if okEq (nD k) && okEq (.lst (natL l)) then some ((pyL (natL l)).any fun z => PyData.eqv z (nD k).py) else none).map (fun b => D.bl (!b)) = _
  rw [e1, e2, pyL_nat]
  simp only [Bool.and_self, if_true, Option.map_some]
  congr 3
  rw [List.any_map]
  congr 1
  funext y
  show PyData.eqv (PyData.int (y : Int)) (PyData.int (k : Int)) = decide (y = k)
  rw [Bool.eq_iff_iff]
  simp [PyData.eqv]
  omega
theorem gd_tD {t : Tr} (h1 : t.1 ≤ 100) (h2 : t.2.1 ≤ 100) (h3 : t.2.2 ≤ 100) : Gd 1 3 (tD t) := by
  have z := gd_tup (h := 0) (n := 0) (ds := [nD t.1, nD t.2.1, nD t.2.2]) fun d hd => by
    simp only [List.mem_cons, List.not_mem_nil, or_false] at hd
    rcases hd with rfl | rfl | rfl
    · exact gd_int (i := (t.1 : Int)) (by omega)
    · exact gd_int (i := (t.2.1 : Int)) (by omega)
    · exact gd_int (i := (t.2.2 : Int)) (by omega)
  exact z
theorem gd_jud {cs : List Cn2} {m : Nat} (m1 : 1 ≤ m) (m2 : m ≤ 26) : Gd 3 4300 (judR (rnds cs m)) := by
  have g := gd_rnds (cs := cs) m1 m2
  have gp : ∀ p ∈ rnds cs m, p.1 ≤ 100 ∧ p.2 ≤ 100 := fun p hp => by
    have := rnds_lt m1 hp
    omega
  have gs : ∀ s : Str, s.length ≤ 10 → s.cps.toList.all (fun c => decide (c < 16 ^ 8)) = true → Gd 0 10 (.str s) := fun s h1 h2 => gd_str h1 h2
  match rnds cs m, g, gp with
  | [], _, _ =>
    have z := gd_tup (h := 0) (n := 10) (ds := [.str "none"]) fun d hd => by
      rw [List.mem_singleton.mp hd]
      exact gs _ (by decide +kernel) (by decide +kernel)
    exact z.mono (by decide) (by decide)
  | [p], _, gp =>
    have hp := gp p (List.mem_singleton.mpr rfl)
    have z := gd_tup (h := 0) (n := 10) (ds := [.str "one", nD p.1, nD p.2]) fun d hd => by
      simp only [List.mem_cons, List.not_mem_nil, or_false] at hd
      rcases hd with rfl | rfl | rfl
      · exact gs _ (by decide +kernel) (by decide +kernel)
      · exact (gd_int (i := (p.1 : Int)) (by omega)).mono (by decide) (by decide)
      · exact (gd_int (i := (p.2 : Int)) (by omega)).mono (by decide) (by decide)
    exact z.mono (by decide) (by show 3 * 11 ≤ 4300; decide)
  | p :: q :: r, g, _ =>
    have z := gd_tup (h := 2) (n := 2100) (ds := [.str "several", .tup ((p :: q :: r).map prN)]) fun d hd => by
      simp only [List.mem_cons, List.not_mem_nil, or_false] at hd
      rcases hd with rfl | rfl
      · exact (gs _ (by decide +kernel) (by decide +kernel)).mono (by decide) (by decide)
      · exact g
    exact z.mono (by decide) (by show 2 * 2101 ≤ 4300; decide)
theorem draw1 {S : DS} (v : Vs S) : ∃ (m : Nat) (S' : DS), (∀ ρ, slot ρ 0 = some .st → op2 dAdd (cst (.int 1)) (callE m__law_draw (consA (var 0) (consA (callE m__law_pick (consA (var 0) (consA (lstE (consA (cst (.int 6)) (consA (cst (.int 26)) nilA))) nilA))) nilA))) ρ S = .ok (nD m) S') ∧ 1 ≤ m ∧ m ≤ 26 ∧ Vs S' := by
  obtain ⟨x, S1, e1, hx, v1⟩ := v_pick v (ds := [nD 6, nD 26]) (by simp) (by decide)
  obtain ⟨c, rfl, c1, c2⟩ := nat2 (lo := 1) (hi := 26) hx (by omega) (by omega)
  obtain ⟨r, S2, e2, hr, v2⟩ := v_draw v1 (n := c) (by omega) (by omega)
  exact ⟨1 + r, S2, fun ρ h0 => op2_of (d1 := nD 1) (d2 := nD r) rfl (draw_of (k := c) h0 (pick_of h0 (lst2 rfl rfl) e1) e2) (addN 1 r), by omega, by omega, v2⟩
abbrev bEn (a1 a2 a3 a4 a5 a6 a7 a8 a9 a10 a11 a12 a13 a14 a15 : Slot) : En := [.vl .st, a1, a2, a3, a4, a5, a6, a7, a8, a9, a10, a11, a12, a13, a14, a15]
theorem v_rounds_hold {S : DS} (v : Vs S) : ∃ S', m__law_rounds_hold [.st] S = .ok (.bl true) S' ∧ Vs S' := by
  obtain ⟨m, S1, e1, m1, m2, v1⟩ := draw1 v
  obtain ⟨b, S2, e2, b1, v2⟩ := v_draw v1 (n := m) (by omega) (by omega)
  obtain ⟨s, S3, e3, s1, v3⟩ := v_draw v2 (n := m) (by omega) (by omega)
  obtain ⟨n, S4, e4, n1, v4⟩ := v_draw v3 (n := 10) (by decide) (by decide)
  obtain ⟨cs, S5, e5, ok, cl, v5⟩ := v_coins v4 (b := b) m1 m2 s1 (n := n) (by omega)
  obtain ⟨S6, e6, v6⟩ := v_against ok m1 m2 (by omega) v5
  obtain ⟨t, ht, et, _⟩ := min_trip (trps_ne cs m1)
  have tb : t.1 ≤ 60 ∧ t.2.1 < m ∧ t.2.2 < m := by
    obtain ⟨b, s, h1, h2, rfl⟩ := trps_mem.mp ht
    refine ⟨?_, h1, h2⟩
    show misN cs m b s ≤ 60
    unfold misN
    have := List.length_filter_le (fun c => !hitB m b s c) cs
    omega
  have ok60 := ok.len
  have wl : (wrgN cs m b s).length = misN cs m b s := wrg_len cs m b s
  have wlt : ∀ k ∈ wrgN cs m b s, k ≤ 1000000000 := fun k hk => by
    have := List.mem_range.mp (List.mem_filter.mp hk).1
    omega
  have wle : (wrgN cs m b s).length ≤ 60 := by
    rw [wl]
    unfold misN
    have := List.length_filter_le (fun c => !hitB m b s c) cs
    omega
  have mll : (misL cs m).length ≤ 26 := by
    unfold misL
    have := List.length_filter_le (fun k => !(cs.any fun c => decide (c.2 = k))) (List.range m)
    rw [List.length_range] at this
    omega
  have mlt : ∀ k ∈ misL cs m, k ≤ 1000000000 := fun k hk => by
    have := List.mem_range.mp (List.mem_filter.mp hk).1
    omega
  rw [e__law_rounds_hold]
  refine ⟨S6, body_rt ?_, v6⟩
  rw [b__law_rounds_hold]
  have st1 : (asgS 1 (op2 dAdd (cst (.int 1)) (callE m__law_draw (consA (var 0) (consA (callE m__law_pick (consA (var 0) (consA (lstE (consA (cst (.int 6)) (consA (cst (.int 26)) nilA))) nilA))) nilA))))) (bEn .no .no .no .no .no .no .no .no .no .no .no .no .no .no .no) S = .ok (.nx (bEn (.vl (nD m)) .no .no .no .no .no .no .no .no .no .no .no .no .no .no)) S1 := asg_of (e1 _ rfl)
  have st2 : (parS 10 11 (callE m__law_draw (consA (var 0) (consA (var 1) nilA))) (callE m__law_draw (consA (var 0) (consA (var 1) nilA)))) (bEn (.vl (nD m)) .no .no .no .no .no .no .no .no .no .no .no .no .no .no) S1 = .ok (.nx (bEn (.vl (nD m)) .no .no .no .no .no .no .no .no (.vl (nD b)) (.vl (nD s)) .no .no .no .no)) S3 := par_of (draw_of (k := m) rfl rfl e2) (draw_of (k := m) rfl rfl e3)
  have st3 : (asgS 2 (callE m__law_coins (consA (var 0) (consA (var 1) (consA (var 10) (consA (var 11) (consA (callE m__law_draw (consA (var 0) (consA (cst (.int 10)) nilA))) nilA))))))) (bEn (.vl (nD m)) .no .no .no .no .no .no .no .no (.vl (nD b)) (.vl (nD s)) .no .no .no .no) S3 = .ok (.nx (bEn (.vl (nD m)) (.vl (.tup (cs.map cD))) .no .no .no .no .no .no .no (.vl (nD b)) (.vl (nD s)) .no .no .no .no)) S5 :=
    asg_of (callA_of (cons_of (d := .st) rfl (a4_of (d := nD m) (e := nD b) (i := nD s) (j := nD n) rfl rfl rfl (draw_of (k := 10) rfl rfl e4))) e5)
  have st4 : (asgS 3 (callE m__law_rounds (consA (var 2) (consA (var 1) nilA)))) (bEn (.vl (nD m)) (.vl (.tup (cs.map cD))) .no .no .no .no .no .no .no (.vl (nD b)) (.vl (nD s)) .no .no .no .no) S5 = .ok (.nx (bEn (.vl (nD m)) (.vl (.tup (cs.map cD))) (.vl (.lst ((trps cs m).map tD))) .no .no .no .no .no .no (.vl (nD b)) (.vl (nD s)) .no .no .no .no)) S5 :=
    asg_of (call2_of (d := .tup (cs.map cD)) (d2 := nD m) rfl rfl (v_lrounds ok.x m1 m2 S5))
  have st5 : (asgS 4 (op1 dTuple (lcE (itS (var 3)) (tgX [(tgN 8), (tgN 13), (tgN 14)]) (valB (op2 dEq (var 8) (cst (.int 0)))) (tupE (consA (var 13) (consA (var 14) nilA))) [8, 13, 14]))) (bEn (.vl (nD m)) (.vl (.tup (cs.map cD))) (.vl (.lst ((trps cs m).map tD))) .no .no .no .no .no .no (.vl (nD b)) (.vl (nD s)) .no .no .no .no) S5 = .ok (.nx (bEn (.vl (nD m)) (.vl (.tup (cs.map cD))) (.vl (.lst ((trps cs m).map tD))) (.vl (.tup ((rnds cs m).map prN))) .no .no .no .no .no (.vl (nD b)) (.vl (nD s)) .no .no .no .no)) S5 := by
    have l := lcN (it := itS (var 3)) (t := tgX [(tgN 8), (tgN 13), (tgN 14)]) (test := valB (op2 dEq (var 8) (cst (.int 0)))) (elt := tupE (consA (var 13) (consA (var 14) nilA))) (vs := [8, 13, 14]) (ρ := bEn (.vl (nD m)) (.vl (.tup (cs.map cD))) (.vl (.lst ((trps cs m).map tD))) .no .no .no .no .no .no (.vl (nD b)) (.vl (nD s)) .no .no .no .no) (S := S5) (l := trps cs m) tD (fun t => prN (t.2.1, t.2.2)) (fun t => decide (t.1 = 0)) (its_of (d := .lst ((trps cs m).map tD)) rfl rfl) (fun t _ => ⟨bEn (.vl (nD m)) (.vl (.tup (cs.map cD))) (.vl (.lst ((trps cs m).map tD))) .no .no .no .no (.vl (nD t.1)) .no (.vl (nD b)) (.vl (nD s)) .no (.vl (nD t.2.1)) (.vl (nD t.2.2)) .no, rfl, val_of (op2_of (d1 := nD t.1) (d2 := nD 0) rfl rfl (eqN _ _)), fun _ => tup2 (d := nD t.2.1) (e := nD t.2.2) rfl rfl⟩) (by
      have : m * m ≤ 26 * 26 := Nat.mul_le_mul m2 m2
      rw [trps_len]
      omega)
    have e : ((trps cs m).filter fun t => decide (t.1 = 0)).map (fun t => prN (t.2.1, t.2.2)) = (rnds cs m).map prN := by
      rw [← good_eq m1, List.map_map]
      rfl
    rw [e] at l
    exact asg_of (op1_of l rfl)
  have st6 : (asgS 5 (iteE (valB (op2 dEq (op1 dLen (var 4)) (cst (.int 1)))) (op2 dAdd (tupE (consA (cst (.str "one")) nilA)) (op2 dIxA (var 4) (cst (.int 0)))) (iteE (truB (var 4)) (tupE (consA (cst (.str "several")) (consA (var 4) nilA))) (tupE (consA (cst (.str "none")) nilA))))) (bEn (.vl (nD m)) (.vl (.tup (cs.map cD))) (.vl (.lst ((trps cs m).map tD))) (.vl (.tup ((rnds cs m).map prN))) .no .no .no .no .no (.vl (nD b)) (.vl (nD s)) .no .no .no .no) S5 = .ok (.nx (bEn (.vl (nD m)) (.vl (.tup (cs.map cD))) (.vl (.lst ((trps cs m).map tD))) (.vl (.tup ((rnds cs m).map prN))) (.vl (judR (rnds cs m))) .no .no .no .no (.vl (nD b)) (.vl (nD s)) .no .no .no .no)) S5 := asg_of (jud_of rfl)
  have st7 : (asgS 6 (op1 dTuple (lcE (itR1 (var 1)) (tgN 12) (valB (op2 dNotIn (var 12) (lcE (itS (var 2)) (tgX [(tgN 15), (tgN 13)]) yesB (var 13) [15, 13]))) (var 12) [12]))) (bEn (.vl (nD m)) (.vl (.tup (cs.map cD))) (.vl (.lst ((trps cs m).map tD))) (.vl (.tup ((rnds cs m).map prN))) (.vl (judR (rnds cs m))) .no .no .no .no (.vl (nD b)) (.vl (nD s)) .no .no .no .no) S5 = .ok (.nx (bEn (.vl (nD m)) (.vl (.tup (cs.map cD))) (.vl (.lst ((trps cs m).map tD))) (.vl (.tup ((rnds cs m).map prN))) (.vl (judR (rnds cs m))) (.vl (.tup (natL (misL cs m)))) .no .no .no (.vl (nD b)) (.vl (nD s)) .no .no .no .no)) S5 := by
    have l := lcN (it := itR1 (var 1)) (t := tgN 12) (test := valB (op2 dNotIn (var 12) (lcE (itS (var 2)) (tgX [(tgN 15), (tgN 13)]) yesB (var 13) [15, 13]))) (elt := var 12) (vs := [12]) (ρ := bEn (.vl (nD m)) (.vl (.tup (cs.map cD))) (.vl (.lst ((trps cs m).map tD))) (.vl (.tup ((rnds cs m).map prN))) (.vl (judR (rnds cs m))) .no .no .no .no (.vl (nD b)) (.vl (nD s)) .no .no .no .no) (S := S5) (l := List.range m) nD nD (fun k => !(cs.any fun c => decide (c.2 = k))) (rng1 (n := m) (by omega) rfl) (fun k _ => ⟨bEn (.vl (nD m)) (.vl (.tup (cs.map cD))) (.vl (.lst ((trps cs m).map tD))) (.vl (.tup ((rnds cs m).map prN))) (.vl (judR (rnds cs m))) .no .no .no .no (.vl (nD b)) (.vl (nD s)) (.vl (nD k)) .no .no .no, rfl, by
      have l2 := lcA (it := itS (var 2)) (t := tgX [(tgN 15), (tgN 13)]) (elt := var 13) (vs := [15, 13]) (ρ := bEn (.vl (nD m)) (.vl (.tup (cs.map cD))) (.vl (.lst ((trps cs m).map tD))) (.vl (.tup ((rnds cs m).map prN))) (.vl (judR (rnds cs m))) .no .no .no .no (.vl (nD b)) (.vl (nD s)) (.vl (nD k)) .no .no .no) (S := S5) (l := cs) cD (fun c => nD c.2) (its_of (d := .tup (cs.map cD)) rfl rfl) (fun c _ => ⟨bEn (.vl (nD m)) (.vl (.tup (cs.map cD))) (.vl (.lst ((trps cs m).map tD))) (.vl (.tup ((rnds cs m).map prN))) (.vl (judR (rnds cs m))) .no .no .no .no (.vl (nD b)) (.vl (nD s)) (.vl (nD k)) (.vl (nD c.2)) .no (.vl (.int c.1)), rfl, rfl⟩) (by omega)
      have e : (cs.map fun c => nD c.2) = natL (cs.map (·.2)) := by
        rw [natL, List.map_map]
        rfl
      rw [e] at l2
      have z := val_of (op2_of (g := dNotIn) (f1 := var 12) (d1 := nD k) rfl l2 (notin_nat (cs.map (·.2)) k))
      rw [List.any_map] at z
      exact z, fun _ => rfl⟩) (by rw [List.length_range]; omega)
    exact asg_of (op1_of l rfl)
  have st8 : (asgS 7 (lstE (consA (callE m_rounds_for (consA (var 2) (consA (var 1) nilA))) (consA (callE m_judge_rounds (consA (var 2) (consA (var 1) nilA))) (consA (callE m_best_round (consA (var 2) (consA (var 1) nilA))) (consA (callE m_missing_marks (consA (var 2) (consA (var 1) nilA))) (consA (callE m_wrong_coins (consA (var 2) (consA (var 1) (consA (var 10) (consA (var 11) nilA))))) nilA))))))) (bEn (.vl (nD m)) (.vl (.tup (cs.map cD))) (.vl (.lst ((trps cs m).map tD))) (.vl (.tup ((rnds cs m).map prN))) (.vl (judR (rnds cs m))) (.vl (.tup (natL (misL cs m)))) .no .no .no (.vl (nD b)) (.vl (nD s)) .no .no .no .no) S5 = .ok (.nx (bEn (.vl (nD m)) (.vl (.tup (cs.map cD))) (.vl (.lst ((trps cs m).map tD))) (.vl (.tup ((rnds cs m).map prN))) (.vl (judR (rnds cs m))) (.vl (.tup (natL (misL cs m)))) (.vl (.lst [.tup ((rnds cs m).map prN), judR (rnds cs m), tD t, .tup (natL (misL cs m)), .tup (natL (wrgN cs m b s))])) .no .no (.vl (nD b)) (.vl (nD s)) .no .no .no .no)) S5 :=
    asg_of (lst5 (call2_of (d := .tup (cs.map cD)) (d2 := nD m) rfl rfl (v_rounds ok m1 m2 S5)) (call2_of (d := .tup (cs.map cD)) (d2 := nD m) rfl rfl (v_judge ok m1 m2 S5)) (call2_of (d := .tup (cs.map cD)) (d2 := nD m) rfl rfl (v_best ok m1 m2 et S5)) (call2_of (d := .tup (cs.map cD)) (d2 := nD m) rfl rfl (v_missing ok m1 m2 S5)) (call4_of (d := .tup (cs.map cD)) (d2 := nD m) (d3 := nD b) (d4 := nD s) rfl rfl rfl rfl (v_wrong ok m1 m2 b1 s1 S5)))
  generalize hT : D.lst [.tup ((rnds cs m).map prN), judR (rnds cs m), tD t, .tup (natL (misL cs m)), .tup (natL (wrgN cs m b s))] = T at st8
  have st9 : (asgS 8 (callE m__law_wrong (consA (var 2) (consA (var 1) (consA (var 10) (consA (var 11) nilA)))))) (bEn (.vl (nD m)) (.vl (.tup (cs.map cD))) (.vl (.lst ((trps cs m).map tD))) (.vl (.tup ((rnds cs m).map prN))) (.vl (judR (rnds cs m))) (.vl (.tup (natL (misL cs m)))) (.vl T) .no .no (.vl (nD b)) (.vl (nD s)) .no .no .no .no) S5 = .ok (.nx (bEn (.vl (nD m)) (.vl (.tup (cs.map cD))) (.vl (.lst ((trps cs m).map tD))) (.vl (.tup ((rnds cs m).map prN))) (.vl (judR (rnds cs m))) (.vl (.tup (natL (misL cs m)))) (.vl T) (.vl (.tup (natL (wrgN cs m b s)))) .no (.vl (nD b)) (.vl (nD s)) .no .no .no .no)) S5 :=
    asg_of (call4_of (d := .tup (cs.map cD)) (d2 := nD m) (d3 := nD b) (d4 := nD s) rfl rfl rfl rfl (v_lwrong ok.x m1 m2 s1 S5))
  have gT : Gd 4 (5 * 4301) T := by
    rw [← hT]
    refine gd_lst (h := 3) (n := 4300) (ds := [.tup ((rnds cs m).map prN), judR (rnds cs m), tD t, .tup (natL (misL cs m)), .tup (natL (wrgN cs m b s))]) fun d hd => ?_
    simp only [List.mem_cons, List.not_mem_nil, or_false] at hd
    rcases hd with rfl | rfl | rfl | rfl | rfl
    · exact (gd_rnds m1 m2).mono (by decide) (by decide)
    · exact gd_jud m1 m2
    · exact (gd_tD (by omega) (by omega) (by omega)).mono (by decide) (by decide)
    · exact (gd_natT mlt).mono (by decide) (by omega)
    · exact (gd_natT wlt).mono (by decide) (by omega)
  have st10 : (ifS (notB (truB (callE m__law_same (consA (var 7) (consA (lstE (consA (var 4) (consA (var 5) (consA (op1 dMinY (var 3)) (consA (var 6) (consA (var 8) nilA)))))) nilA))))) (retS (cst (.bl false))) skipS) (bEn (.vl (nD m)) (.vl (.tup (cs.map cD))) (.vl (.lst ((trps cs m).map tD))) (.vl (.tup ((rnds cs m).map prN))) (.vl (judR (rnds cs m))) (.vl (.tup (natL (misL cs m)))) (.vl T) (.vl (.tup (natL (wrgN cs m b s)))) .no (.vl (nD b)) (.vl (nD s)) .no .no .no .no) S5 = .ok (.nx (bEn (.vl (nD m)) (.vl (.tup (cs.map cD))) (.vl (.lst ((trps cs m).map tD))) (.vl (.tup ((rnds cs m).map prN))) (.vl (judR (rnds cs m))) (.vl (.tup (natL (misL cs m)))) (.vl T) (.vl (.tup (natL (wrgN cs m b s)))) .no (.vl (nD b)) (.vl (nD s)) .no .no .no .no)) S5 := by
    have q := call2_of (F := m__law_same) (f := var 7) (g := lstE (consA (var 4) (consA (var 5) (consA (op1 dMinY (var 3)) (consA (var 6) (consA (var 8) nilA)))))) (ρ := bEn (.vl (nD m)) (.vl (.tup (cs.map cD))) (.vl (.lst ((trps cs m).map tD))) (.vl (.tup ((rnds cs m).map prN))) (.vl (judR (rnds cs m))) (.vl (.tup (natL (misL cs m)))) (.vl T) (.vl (.tup (natL (wrgN cs m b s)))) .no (.vl (nD b)) (.vl (nD s)) .no .no .no .no) (S := S5) (d := T) (d2 := T) rfl (by
      rw [← hT]
      exact lst5 rfl rfl (op1_of (d := .lst ((trps cs m).map tD)) rfl et) rfl rfl) (v_same gT (by decide) (by decide) S5)
    exact if_f (not_of (tru_ofE q rfl))
  have st11 : (asgS 9 (lstE (consA (tupE (consA (lstE (consA (var 10) (consA (var 11) (consA (op1 dLen (var 8)) nilA)))) (consA (cst .non) nilA))) (consA (tupE (consA (lstE (consA (var 10) (consA (var 11) (consA (op2 dSub (op1 dLen (var 8)) (cst (.int 1))) nilA)))) (consA (cst (.str "paper wrong")) nilA))) (consA (tupE (consA (lstE (consA (var 1) (consA (var 11) (consA (cst (.int 9)) nilA)))) (consA (cst (.str "paper form")) nilA))) (consA (tupE (consA (lstE (consA (var 10) (consA (cst (.bl true)) (consA (cst (.int 9)) nilA)))) (consA (cst (.str "paper form")) nilA))) nilA)))))) (bEn (.vl (nD m)) (.vl (.tup (cs.map cD))) (.vl (.lst ((trps cs m).map tD))) (.vl (.tup ((rnds cs m).map prN))) (.vl (judR (rnds cs m))) (.vl (.tup (natL (misL cs m)))) (.vl T) (.vl (.tup (natL (wrgN cs m b s)))) .no (.vl (nD b)) (.vl (nD s)) .no .no .no .no) S5 = .ok (.nx (bEn (.vl (nD m)) (.vl (.tup (cs.map cD))) (.vl (.lst ((trps cs m).map tD))) (.vl (.tup ((rnds cs m).map prN))) (.vl (judR (rnds cs m))) (.vl (.tup (natL (misL cs m)))) (.vl T) (.vl (.tup (natL (wrgN cs m b s)))) (.vl (.lst ([([nD b, nD s, nD (misN cs m b s)], Wo.ok), ([nD b, nD s, .int ((misN cs m b s : Int) - 1)], .wrong), ([nD m, nD s, .int 9], .form), ([nD b, .bl true, .int 9], .form)].map ppD))) (.vl (nD b)) (.vl (nD s)) .no .no .no .no)) S5 := by
    have ln : ∀ {a9 : Slot}, op1 dLen (var 8) (bEn (.vl (nD m)) (.vl (.tup (cs.map cD))) (.vl (.lst ((trps cs m).map tD))) (.vl (.tup ((rnds cs m).map prN))) (.vl (judR (rnds cs m))) (.vl (.tup (natL (misL cs m)))) (.vl T) (.vl (.tup (natL (wrgN cs m b s)))) a9 (.vl (nD b)) (.vl (nD s)) .no .no .no .no) S5 = .ok (nD (misN cs m b s)) S5 := fun {a9} => op1_of (d := .tup (natL (wrgN cs m b s))) rfl (by
      show some (D.int (((natL (wrgN cs m b s)).length : Nat) : Int)) = _
      rw [natL_len, wl]
      rfl)
    exact asg_of (lst4 (tup2 (lst3 rfl rfl ln) rfl) (tup2 (lst3 rfl rfl (op2_of (d1 := nD (misN cs m b s)) (d2 := nD 1) ln rfl rfl)) rfl) (tup2 (lst3 rfl rfl rfl) rfl) (tup2 (lst3 rfl rfl rfl) rfl))
  have st12 : (asgS 9 (op2 dAdd (var 9) (lstE (consA (tupE (consA (lstE (consA (var 10) (consA (var 11) (consA (cst .non) nilA)))) (consA (cst (.str "paper form")) nilA))) nilA)))) (bEn (.vl (nD m)) (.vl (.tup (cs.map cD))) (.vl (.lst ((trps cs m).map tD))) (.vl (.tup ((rnds cs m).map prN))) (.vl (judR (rnds cs m))) (.vl (.tup (natL (misL cs m)))) (.vl T) (.vl (.tup (natL (wrgN cs m b s)))) (.vl (.lst ([([nD b, nD s, nD (misN cs m b s)], Wo.ok), ([nD b, nD s, .int ((misN cs m b s : Int) - 1)], .wrong), ([nD m, nD s, .int 9], .form), ([nD b, .bl true, .int 9], .form)].map ppD))) (.vl (nD b)) (.vl (nD s)) .no .no .no .no) S5 = .ok (.nx (bEn (.vl (nD m)) (.vl (.tup (cs.map cD))) (.vl (.lst ((trps cs m).map tD))) (.vl (.tup ((rnds cs m).map prN))) (.vl (judR (rnds cs m))) (.vl (.tup (natL (misL cs m)))) (.vl T) (.vl (.tup (natL (wrgN cs m b s)))) (.vl (.lst ([([nD b, nD s, nD (misN cs m b s)], Wo.ok), ([nD b, nD s, .int ((misN cs m b s : Int) - 1)], .wrong), ([nD m, nD s, .int 9], .form), ([nD b, .bl true, .int 9], .form), ([nD b, nD s, .non], .form)].map ppD))) (.vl (nD b)) (.vl (nD s)) .no .no .no .no)) S5 :=
    asg_of (op2_of (d1 := .lst ([([nD b, nD s, nD (misN cs m b s)], Wo.ok), ([nD b, nD s, .int ((misN cs m b s : Int) - 1)], .wrong), ([nD m, nD s, .int 9], .form), ([nD b, .bl true, .int 9], .form)].map ppD)) (d2 := .lst ([([nD b, nD s, D.non], Wo.form)].map ppD)) rfl (lst1 (tup2 (lst3 rfl rfl rfl) rfl)) (catL (by show 4 + 1 ≤ 16777216; omega)))
  have five : ∀ q ∈ [([nD b, nD s, nD (misN cs m b s)], Wo.ok), ([nD b, nD s, .int ((misN cs m b s : Int) - 1)], .wrong), ([nD m, nD s, .int 9], .form), ([nD b, .bl true, .int 9], .form), ([nD b, nD s, .non], .form)], q.1.length ≤ 3 ∧ ∀ S, m_accept_round (.tup (cs.map cD) :: nD m :: q.1) S = resW q.2 S := fun q hq => by
    simp only [List.mem_cons, List.not_mem_nil, or_false] at hq
    rcases hq with rfl | rfl | rfl | rfl | rfl
    · refine ⟨Nat.le_refl 3, fun S => (v_acc_num ok m1 m2 b1 s1 (misN cs m b s : Int) S).trans ?_⟩
      rw [if_neg (by omega)]
    · refine ⟨Nat.le_refl 3, fun S => (v_acc_num ok m1 m2 b1 s1 ((misN cs m b s : Int) - 1) S).trans ?_⟩
      rw [if_pos (by omega)]
    · refine ⟨Nat.le_refl 3, fun S => v_acc_form ok m1 m2 (x := nD m) (y := nD s) (w := .int 9) trivial trivial trivial (.inl ?_) S⟩
      have w0 : wh (nD m) 0 ((m : Int) - 1) = false := by
        show (decide ((0 : Int) ≤ (m : Int)) && decide ((m : Int) ≤ (m : Int) - 1)) = false
        rw [decide_eq_false (show ¬ (m : Int) ≤ (m : Int) - 1 by omega), Bool.and_false]
      rw [w0, Bool.false_and]
    · refine ⟨Nat.le_refl 3, fun S => v_acc_form ok m1 m2 (x := nD b) (y := .bl true) (w := .int 9) trivial trivial trivial (.inl ?_) S⟩
      show (wh (nD b) 0 ((m : Int) - 1) && (false && true)) = false
      rw [Bool.false_and, Bool.and_false]
    · exact ⟨Nat.le_refl 3, fun S => v_acc_form ok m1 m2 (x := nD b) (y := nD s) (w := .non) trivial trivial trivial (.inr rfl) S⟩
  generalize hP : [([nD b, nD s, nD (misN cs m b s)], Wo.ok), ([nD b, nD s, .int ((misN cs m b s : Int) - 1)], .wrong), ([nD m, nD s, .int 9], .form), ([nD b, .bl true, .int 9], .form), ([nD b, nD s, .non], .form)] = ps at st12 five
  have pl : ps.length ≤ 100 := by
    rw [← hP]
    show 5 ≤ 100
    omega
  have st13 : (ifS (notB (truB (callE m__law_shown (consA (fnE 13) (consA (lstE (consA (var 2) (consA (var 1) nilA))) (consA (var 9) nilA)))))) (retS (cst (.bl false))) skipS) (bEn (.vl (nD m)) (.vl (.tup (cs.map cD))) (.vl (.lst ((trps cs m).map tD))) (.vl (.tup ((rnds cs m).map prN))) (.vl (judR (rnds cs m))) (.vl (.tup (natL (misL cs m)))) (.vl T) (.vl (.tup (natL (wrgN cs m b s)))) (.vl (.lst (ps.map ppD))) (.vl (nD b)) (.vl (nD s)) .no .no .no .no) S5 = .ok (.nx (bEn (.vl (nD m)) (.vl (.tup (cs.map cD))) (.vl (.lst ((trps cs m).map tD))) (.vl (.tup ((rnds cs m).map prN))) (.vl (judR (rnds cs m))) (.vl (.tup (natL (misL cs m)))) (.vl T) (.vl (.tup (natL (wrgN cs m b s)))) (.vl (.lst (ps.map ppD))) (.vl (nD b)) (.vl (nD s)) .no .no .no .no)) S5 :=
    if_f (not_of (tru_ofE (call3_of (d := .fn 13) (d2 := .lst [.tup (cs.map cD), nD m]) (d3 := .lst (ps.map ppD)) rfl (lst2 rfl rfl) rfl (v_papers (n := 13) (F := m_accept_round) rfl ps pl five S5)) rfl))
  exact (seq_nx st1).trans ((seq_nx st2).trans ((seq_nx st3).trans ((seq_nx st4).trans ((seq_nx st5).trans ((seq_nx st6).trans ((seq_nx st7).trans ((seq_nx st8).trans ((seq_nx st9).trans ((seq_nx st10).trans ((seq_nx st11).trans ((seq_nx st12).trans ((seq_nx st13).trans (ret_of (call4_of (d := .st) (d2 := .tup (cs.map cD)) (d3 := nD m) (d4 := .tup ((rnds cs m).map prN)) rfl rfl rfl rfl e6))))))))))))))
end Hk21
namespace Hk21
open PySem Mini
open L2 (atI ixN atI_nat kitB Key)
/-! ## years -/
theorem slcX_hi {a b : FE} {ρ : En} {S S1 S2 : DS} {ds : List D} {h : Int} (h1 : a ρ S = .ok (.tup ds) S1) (h2 : b ρ S1 = .ok (.int h) S2) : slcX a noP (partP b) ρ S = .ok (.tup (cutG ds none (some h))) S2 := by
  simp only [slcX, noP, partP, bd, rt, h1, h2, isInt, Option.map_some, lift]
  rfl
theorem cut_init (ks : List Nat) (h : 1 ≤ ks.length) : (cutG ks none (some (-1))).length = ks.length - 1 := by
  unfold cutG
  rw [List.length_take, List.length_drop]
  have e1 : HT.sIx ks.length 0 none = 0 := rfl
  have e2 : HT.sIx ks.length ks.length (some (-1)) = ks.length - 1 := by
    show (if (-1 : Int) < 0 then (-1 + (ks.length : Int)).toNat else min (-1 : Int).toNat ks.length) = _
    rw [if_pos (by decide)]
    omega
  rw [e1, e2]
  omega
theorem mk_nat (m b s : Nat) (m1 : 1 ≤ m) (y : Int) : (((mkI m b s y).toNat : Nat) : Int) = mkI m b s y ∧ (mkI m b s y).toNat < m := by
  have a : 0 ≤ mkI m b s y := Int.emod_nonneg _ (by omega)
  have c : mkI m b s y < (m : Int) := Int.emod_lt_of_pos _ (by omega)
  omega
theorem gd_ints {is : List Int} (h : ∀ i ∈ is, i.natAbs ≤ 100000) : Gd 1 is.length (.tup (is.map D.int)) := by
  have z := gd_tup (h := 0) (n := 0) (ds := is.map D.int) fun d hd => by
    obtain ⟨i, hi, rfl⟩ := List.mem_map.mp hd
    exact gd_int (i := i) (Nat.lt_of_le_of_lt (h i hi) (by decide))
  rw [List.length_map] at z
  exact z.mono (Nat.le_refl _) (by omega)
theorem gd_26 {z : Nat} (h : z ≤ 26) : Gd 0 0 (nD z) := gd_int (i := (z : Int)) (by omega)
theorem v_years_hold {S : DS} (v : Vs S) : ∃ S', m__law_years_hold [.st] S = .ok (.bl true) S' ∧ Vs S' := by
  obtain ⟨m, S1, e1, m1, m2, v1⟩ := draw1 v
  obtain ⟨b, S2, e2, b1, v2⟩ := v_draw v1 (n := m) (by omega) (by omega)
  obtain ⟨s, S3, e3, s1, v3⟩ := v_draw v2 (n := m) (by omega) (by omega)
  obtain ⟨t, S4, e4, t1, v4⟩ := v_draw v3 (n := m) (by omega) (by omega)
  obtain ⟨r5, S5, e5, hr5, v5⟩ := v_draw v4 (n := 40) (by decide) (by decide)
  obtain ⟨x6, S6, e6, hx6, v6⟩ := v_pick v5 (ds := [.int ((r5 : Int) - 20), .int (-5000), .int 4900]) (by simp) (by show 3 ≤ 1000; decide)
  have hf : ∃ f : Int, x6 = .int f ∧ -5000 ≤ f ∧ f ≤ 4900 := by
    simp only [List.mem_cons, List.not_mem_nil, or_false] at hx6
    rcases hx6 with rfl | rfl | rfl
    · exact ⟨_, rfl, by omega, by omega⟩
    · exact ⟨_, rfl, by decide, by decide⟩
    · exact ⟨_, rfl, by decide, by decide⟩
  obtain ⟨f, rfl, f1, f2⟩ := hf
  obtain ⟨x7, S7, e7, hx7, v7⟩ := v_pick v6 (ds := [nD 9, nD 200]) (by simp) (by decide)
  obtain ⟨c, rfl, c1, c2⟩ := nat2 (lo := 9) (hi := 200) hx7 (by omega) (by omega)
  obtain ⟨g, S8, e8, hg, v8⟩ := v_draw v7 (n := c) (by omega) (by omega)
  obtain ⟨l, hl⟩ : ∃ l : Int, l = if f + (g : Int) < 5000 then f + (g : Int) else 5000 := ⟨_, rfl⟩
  have fl : f ≤ l ∧ l ≤ 5000 ∧ l ≤ f + 200 := by
    rw [hl]
    split <;> omega
  obtain ⟨y, S9, e9, hy, v9⟩ := v_draw v8 (n := 100) (by decide) (by decide)
  obtain ⟨x10, S10, e10, hx10, v10⟩ := v_pick v9 (ds := [nD 3, nD 60]) (by simp) (by decide)
  obtain ⟨c', rfl, c'1, c'2⟩ := nat2 (lo := 3) (hi := 60) hx10 (by omega) (by omega)
  obtain ⟨r11, S11, e11, hr11, v11⟩ := v_draw v10 (n := c') (by omega) (by omega)
  obtain ⟨k0, hk0⟩ : ∃ k0 : List Nat, k0 = (List.range (1 + r11)).map fun k => (mkI m b s ((y + k : Nat) : Int)).toNat := ⟨_, rfl⟩
  have k0l : k0.length = 1 + r11 := by rw [hk0, List.length_map, List.length_range]
  have k0m : ∀ k ∈ k0, k < m := fun k hk => by
    rw [hk0] at hk
    obtain ⟨j, _, rfl⟩ := List.mem_map.mp hk
    exact (mk_nat m b s m1 _).2
  obtain ⟨r12, S12, e12, hr12, v12⟩ := v_draw v11 (n := 3) (by decide) (by decide)
  rw [e__law_years_hold, b__law_years_hold]
  have st1 : (asgS 1 (op2 dAdd (cst (.int 1)) (callE m__law_draw (consA (var 0) (consA (callE m__law_pick (consA (var 0) (consA (lstE (consA (cst (.int 6)) (consA (cst (.int 26)) nilA))) nilA))) nilA))))) (bEn .no .no .no .no .no .no .no .no .no .no .no .no .no .no .no) S = .ok (.nx (bEn (.vl (nD m)) .no .no .no .no .no .no .no .no .no .no .no .no .no .no)) S1 := asg_of (e1 _ rfl)
  have st2 : (asgT (tgX [(tgN 11), (tgN 12), (tgN 13)]) (tupE (consA (callE m__law_draw (consA (var 0) (consA (var 1) nilA))) (consA (callE m__law_draw (consA (var 0) (consA (var 1) nilA))) (consA (callE m__law_draw (consA (var 0) (consA (var 1) nilA))) nilA))))) (bEn (.vl (nD m)) .no .no .no .no .no .no .no .no .no .no .no .no .no .no) S1 = .ok (.nx (bEn (.vl (nD m)) .no .no .no .no .no .no .no .no .no (.vl (nD b)) (.vl (nD s)) (.vl (nD t)) .no .no)) S4 :=
    asgT_of (d := .tup [nD b, nD s, nD t]) (tup3 (draw_of (k := m) rfl rfl e2) (draw_of (k := m) rfl rfl e3) (draw_of (k := m) rfl rfl e4)) rfl
  have st3 : (asgS 2 (callE m__law_pick (consA (var 0) (consA (lstE (consA (op2 dSub (callE m__law_draw (consA (var 0) (consA (cst (.int 40)) nilA))) (cst (.int 20))) (consA (op1 dNeg (cst (.int 5000))) (consA (cst (.int 4900)) nilA)))) nilA)))) (bEn (.vl (nD m)) .no .no .no .no .no .no .no .no .no (.vl (nD b)) (.vl (nD s)) (.vl (nD t)) .no .no) S4 = .ok (.nx (bEn (.vl (nD m)) (.vl (.int f)) .no .no .no .no .no .no .no .no (.vl (nD b)) (.vl (nD s)) (.vl (nD t)) .no .no)) S6 :=
    asg_of (pick_of rfl (lst3 (op2_of (d1 := nD r5) (d2 := nD 20) (draw_of (k := 40) rfl rfl e5) rfl rfl) (op1_of rfl rfl) rfl) e6)
  have st4 : (asgS 3 (op1 dMinY (lstE (consA (cst (.int 5000)) (consA (op2 dAdd (var 2) (callE m__law_draw (consA (var 0) (consA (callE m__law_pick (consA (var 0) (consA (lstE (consA (cst (.int 9)) (consA (cst (.int 200)) nilA))) nilA))) nilA)))) nilA))))) (bEn (.vl (nD m)) (.vl (.int f)) .no .no .no .no .no .no .no .no (.vl (nD b)) (.vl (nD s)) (.vl (nD t)) .no .no) S6 = .ok (.nx (bEn (.vl (nD m)) (.vl (.int f)) (.vl (.int l)) .no .no .no .no .no .no .no (.vl (nD b)) (.vl (nD s)) (.vl (nD t)) .no .no)) S8 := by
    rw [hl]
    exact asg_of (op1_of (lst2 rfl (op2_of (d1 := .int f) (d2 := nD g) rfl (draw_of (k := c) rfl (pick_of rfl (lst2 rfl rfl) e7) e8) rfl)) (dMinL_of (r := .int (if f + (g : Int) < 5000 then f + (g : Int) else 5000)) rfl))
  have rg : ∀ {a4 a5 a6 a7 a8 a9 a10 a14 a15 : Slot} {S : DS}, itR2 (var 2) (op2 dAdd (var 3) (cst (.int 1))) (bEn (.vl (nD m)) (.vl (.int f)) (.vl (.int l)) a4 a5 a6 a7 a8 a9 a10 (.vl (nD b)) (.vl (nD s)) (.vl (nD t)) a14 a15) S = .ok ((List.range (l + 1 - f).toNat).map fun k : Nat => D.int (f + (k : Int))) S := fun {a4 a5 a6 a7 a8 a9 a10 a14 a15 S} => rngI (by omega) (by omega) (by omega) (by omega) rfl (op2_of (d1 := .int l) (d2 := .int 1) rfl rfl rfl)
  have st5 : (asgS 4 (op1 dTuple (lcE (itR2 (var 2) (op2 dAdd (var 3) (cst (.int 1)))) (tgN 7) yesB (callE m__law_mark (consA (var 1) (consA (var 11) (consA (var 12) (consA (var 7) nilA))))) [7]))) (bEn (.vl (nD m)) (.vl (.int f)) (.vl (.int l)) .no .no .no .no .no .no .no (.vl (nD b)) (.vl (nD s)) (.vl (nD t)) .no .no) S8 = .ok (.nx (bEn (.vl (nD m)) (.vl (.int f)) (.vl (.int l)) (.vl (.tup (shwD m b s f l))) .no .no .no .no .no .no (.vl (nD b)) (.vl (nD s)) (.vl (nD t)) .no .no)) S8 :=
    asg_of (op1_of (lcA (fun k : Nat => D.int (f + (k : Int))) (fun k : Nat => D.int (mkI m b s (f + (k : Int)))) rg (fun k hk => by
      have hk := List.mem_range.mp hk
      exact ⟨bEn (.vl (nD m)) (.vl (.int f)) (.vl (.int l)) .no .no .no (.vl (.int (f + (k : Int)))) .no .no .no (.vl (nD b)) (.vl (nD s)) (.vl (nD t)) .no .no, rfl, lmark_of (m := m) (b := b) (s := s) (y := f + (k : Int)) rfl rfl rfl rfl m1 m2 s1 (by omega) (by omega)⟩) (by rw [List.length_range]; omega)) rfl)
  have st6 : (asgS 5 (op1 dTuple (lcE (itR2 (var 2) (op2 dAdd (var 3) (cst (.int 1)))) (tgN 7) (valB (op2 dEq (callE m__law_mark (consA (var 1) (consA (var 11) (consA (var 12) (consA (var 7) nilA))))) (var 13))) (var 7) [7]))) (bEn (.vl (nD m)) (.vl (.int f)) (.vl (.int l)) (.vl (.tup (shwD m b s f l))) .no .no .no .no .no .no (.vl (nD b)) (.vl (nD s)) (.vl (nD t)) .no .no) S8 = .ok (.nx (bEn (.vl (nD m)) (.vl (.int f)) (.vl (.int l)) (.vl (.tup (shwD m b s f l))) (.vl (.tup (yrsD m b s t f l))) .no .no .no .no .no (.vl (nD b)) (.vl (nD s)) (.vl (nD t)) .no .no)) S8 :=
    asg_of (op1_of (lcN (fun k : Nat => D.int (f + (k : Int))) (fun k : Nat => D.int (f + (k : Int))) (fun k : Nat => decide (mkI m b s (f + (k : Int)) = (t : Int))) rg (fun k hk => by
      have hk := List.mem_range.mp hk
      exact ⟨bEn (.vl (nD m)) (.vl (.int f)) (.vl (.int l)) (.vl (.tup (shwD m b s f l))) .no .no (.vl (.int (f + (k : Int)))) .no .no .no (.vl (nD b)) (.vl (nD s)) (.vl (nD t)) .no .no, rfl, val_of (op2_of (lmark_of (m := m) (b := b) (s := s) (y := f + (k : Int)) rfl rfl rfl rfl m1 m2 s1 (by omega) (by omega)) (d2 := nD t) rfl (dEq_int _ _)), fun _ => rfl⟩) (by rw [List.length_range]; omega)) rfl)
  have gl : m / Nat.gcd m s ≤ 26 := Nat.le_trans (Nat.div_le_self _ _) m2
  have st7 : (asgS 6 (op1 dLenSet (lcE (itR1 (var 1)) (tgN 7) yesB (callE m__law_mark (consA (var 1) (consA (cst (.int 0)) (consA (var 12) (consA (var 7) nilA))))) [7]))) (bEn (.vl (nD m)) (.vl (.int f)) (.vl (.int l)) (.vl (.tup (shwD m b s f l))) (.vl (.tup (yrsD m b s t f l))) .no .no .no .no .no (.vl (nD b)) (.vl (nD s)) (.vl (nD t)) .no .no) S8 = .ok (.nx (bEn (.vl (nD m)) (.vl (.int f)) (.vl (.int l)) (.vl (.tup (shwD m b s f l))) (.vl (.tup (yrsD m b s t f l))) (.vl (nD (m / Nat.gcd m s))) .no .no .no .no (.vl (nD b)) (.vl (nD s)) (.vl (nD t)) .no .no)) S8 := by
    have lc := lcA (it := itR1 (var 1)) (t := tgN 7) (elt := callE m__law_mark (consA (var 1) (consA (cst (.int 0)) (consA (var 12) (consA (var 7) nilA))))) (vs := [7]) (ρ := bEn (.vl (nD m)) (.vl (.int f)) (.vl (.int l)) (.vl (.tup (shwD m b s f l))) (.vl (.tup (yrsD m b s t f l))) .no .no .no .no .no (.vl (nD b)) (.vl (nD s)) (.vl (nD t)) .no .no) (S := S8) (l := List.range m) nD (fun k : Nat => D.int (mkI m 0 s (k : Int))) (rng1 (n := m) (by omega) rfl) (fun k hk => by
      have hk := List.mem_range.mp hk
      exact ⟨bEn (.vl (nD m)) (.vl (.int f)) (.vl (.int l)) (.vl (.tup (shwD m b s f l))) (.vl (.tup (yrsD m b s t f l))) .no (.vl (nD k)) .no .no .no (.vl (nD b)) (.vl (nD s)) (.vl (nD t)) .no .no, rfl, lmark_of (m := m) (b := 0) (s := s) (y := (k : Int)) rfl rfl rfl rfl m1 m2 s1 (by omega) (by omega)⟩) (by rw [List.length_range]; omega)
    refine asg_of (op1_of lc ?_)
    have e : ((List.range m).map fun k : Nat => D.int (mkI m 0 s (k : Int))) = ((List.range m).map fun k : Nat => mkI m 0 s (k : Int)).map D.int := by
      rw [List.map_map]
      rfl
    rw [e]
    show (if (((List.range m).map fun k : Nat => mkI m 0 s (k : Int)).map D.int).length < 64 then (intsOf (((List.range m).map fun k : Nat => mkI m 0 s (k : Int)).map D.int)).map (fun ns => D.int ((setN ns : Nat) : Int)) else none) = _
    rw [if_pos (by rw [List.length_map, List.length_map, List.length_range]; omega), intsOf_map, Option.map_some, set_goes m2 s1]
    rfl
  have st8 : (asgS 7 (callE m__law_draw (consA (var 0) (consA (cst (.int 100)) nilA)))) (bEn (.vl (nD m)) (.vl (.int f)) (.vl (.int l)) (.vl (.tup (shwD m b s f l))) (.vl (.tup (yrsD m b s t f l))) (.vl (nD (m / Nat.gcd m s))) .no .no .no .no (.vl (nD b)) (.vl (nD s)) (.vl (nD t)) .no .no) S8 = .ok (.nx (bEn (.vl (nD m)) (.vl (.int f)) (.vl (.int l)) (.vl (.tup (shwD m b s f l))) (.vl (.tup (yrsD m b s t f l))) (.vl (nD (m / Nat.gcd m s))) (.vl (nD y)) .no .no .no (.vl (nD b)) (.vl (nD s)) (.vl (nD t)) .no .no)) S9 := asg_of (draw_of (k := 100) rfl rfl e9)
  have st9 : (asgS 8 (op1 dTuple (lcE (itR1 (op2 dAdd (cst (.int 1)) (callE m__law_draw (consA (var 0) (consA (callE m__law_pick (consA (var 0) (consA (lstE (consA (cst (.int 3)) (consA (cst (.int 60)) nilA))) nilA))) nilA))))) (tgN 14) yesB (callE m__law_mark (consA (var 1) (consA (var 11) (consA (var 12) (consA (op2 dAdd (var 7) (var 14)) nilA))))) [14]))) (bEn (.vl (nD m)) (.vl (.int f)) (.vl (.int l)) (.vl (.tup (shwD m b s f l))) (.vl (.tup (yrsD m b s t f l))) (.vl (nD (m / Nat.gcd m s))) (.vl (nD y)) .no .no .no (.vl (nD b)) (.vl (nD s)) (.vl (nD t)) .no .no) S9 = .ok (.nx (bEn (.vl (nD m)) (.vl (.int f)) (.vl (.int l)) (.vl (.tup (shwD m b s f l))) (.vl (.tup (yrsD m b s t f l))) (.vl (nD (m / Nat.gcd m s))) (.vl (nD y)) (.vl (.tup (natL k0))) .no .no (.vl (nD b)) (.vl (nD s)) (.vl (nD t)) .no .no)) S11 := by
    have it := rng1 (n := 1 + r11) (S := S9) (S1 := S11) (a := op2 dAdd (cst (.int 1)) (callE m__law_draw (consA (var 0) (consA (callE m__law_pick (consA (var 0) (consA (lstE (consA (cst (.int 3)) (consA (cst (.int 60)) nilA))) nilA))) nilA)))) (ρ := bEn (.vl (nD m)) (.vl (.int f)) (.vl (.int l)) (.vl (.tup (shwD m b s f l))) (.vl (.tup (yrsD m b s t f l))) (.vl (nD (m / Nat.gcd m s))) (.vl (nD y)) .no .no .no (.vl (nD b)) (.vl (nD s)) (.vl (nD t)) .no .no) (by omega) (op2_of (d1 := nD 1) (d2 := nD r11) rfl (draw_of (k := c') rfl (pick_of rfl (lst2 rfl rfl) e10) e11) (addN 1 r11))
    have ll := lcL_nat (t := tgN 14) (test := yesB) (elt := callE m__law_mark (consA (var 1) (consA (var 11) (consA (var 12) (consA (op2 dAdd (var 7) (var 14)) nilA))))) (ρ := wipeR (bEn (.vl (nD m)) (.vl (.int f)) (.vl (.int l)) (.vl (.tup (shwD m b s f l))) (.vl (.tup (yrsD m b s t f l))) (.vl (nD (m / Nat.gcd m s))) (.vl (nD y)) .no .no .no (.vl (nD b)) (.vl (nD s)) (.vl (nD t)) .no .no) [14]) (S := S11) (f := nD) (g := fun k => nD (mkI m b s ((y + k : Nat) : Int)).toNat) (p := fun _ => true) (List.range (1 + r11)) [] (fun k hk => by
      have hk := List.mem_range.mp hk
      refine ⟨bEn (.vl (nD m)) (.vl (.int f)) (.vl (.int l)) (.vl (.tup (shwD m b s f l))) (.vl (.tup (yrsD m b s t f l))) (.vl (nD (m / Nat.gcd m s))) (.vl (nD y)) .no .no .no (.vl (nD b)) (.vl (nD s)) (.vl (nD t)) (.vl (nD k)) .no, rfl, rfl, fun _ => ?_⟩
      have z := lmark_of (f := var 1) (g := var 11) (k := var 12) (l := op2 dAdd (var 7) (var 14)) (ρ := bEn (.vl (nD m)) (.vl (.int f)) (.vl (.int l)) (.vl (.tup (shwD m b s f l))) (.vl (.tup (yrsD m b s t f l))) (.vl (nD (m / Nat.gcd m s))) (.vl (nD y)) .no .no .no (.vl (nD b)) (.vl (nD s)) (.vl (nD t)) (.vl (nD k)) .no) (S := S11) (m := m) (b := b) (s := s) (y := ((y + k : Nat) : Int)) rfl rfl rfl (op2_of (d1 := nD y) (d2 := nD k) rfl rfl (addN y k)) m1 m2 s1 (by omega) (by omega)
      rw [← (mk_nat m b s m1 _).1] at z
      exact z) (by rw [List.length_range]; simp; omega)
    refine asg_of (op1_of (lc_of it ll) ?_)
    rw [hk0]
    show some (D.tup ([] ++ _)) = some (D.tup (natL _))
    rw [List.nil_append, natL, List.map_map, List.filter_eq_self.mpr fun _ _ => rfl]
    rfl
  -- the marks that are told
  have st10 : ∃ (ks : List Nat) (S' : DS), (asgS 8 (iteE (valB (op2 dGt (callE m__law_draw (consA (var 0) (consA (cst (.int 3)) nilA))) (cst (.int 0)))) (var 8) (op2 dAdd (slcX (var 8) noP (partP (op1 dNeg (cst (.int 1))))) (tupE (consA (callE m__law_draw (consA (var 0) (consA (var 1) nilA))) nilA))))) (bEn (.vl (nD m)) (.vl (.int f)) (.vl (.int l)) (.vl (.tup (shwD m b s f l))) (.vl (.tup (yrsD m b s t f l))) (.vl (nD (m / Nat.gcd m s))) (.vl (nD y)) (.vl (.tup (natL k0))) .no .no (.vl (nD b)) (.vl (nD s)) (.vl (nD t)) .no .no) S11 = .ok (.nx (bEn (.vl (nD m)) (.vl (.int f)) (.vl (.int l)) (.vl (.tup (shwD m b s f l))) (.vl (.tup (yrsD m b s t f l))) (.vl (nD (m / Nat.gcd m s))) (.vl (nD y)) (.vl (.tup (natL ks))) .no .no (.vl (nD b)) (.vl (nD s)) (.vl (nD t)) .no .no)) S' ∧ ks.length = k0.length ∧ (∀ k ∈ ks, k < m) ∧ Vs S' := by
    have tt : valB (op2 dGt (callE m__law_draw (consA (var 0) (consA (cst (.int 3)) nilA))) (cst (.int 0))) (bEn (.vl (nD m)) (.vl (.int f)) (.vl (.int l)) (.vl (.tup (shwD m b s f l))) (.vl (.tup (yrsD m b s t f l))) (.vl (nD (m / Nat.gcd m s))) (.vl (nD y)) (.vl (.tup (natL k0))) .no .no (.vl (nD b)) (.vl (nD s)) (.vl (nD t)) .no .no) S11 = .ok (decide (0 < r12)) S12 := val_of (op2_of (d1 := nD r12) (d2 := nD 0) (draw_of (k := 3) rfl rfl e12) rfl (gtN _ _))
    by_cases h0 : 0 < r12
    · rw [decide_eq_true h0] at tt
      exact ⟨k0, S12, asg_of ((ite_t tt).trans rfl), rfl, k0m, v12⟩
    · rw [decide_eq_false h0] at tt
      obtain ⟨r13, S13, e13, hr13, v13⟩ := v_draw v12 (n := m) (by omega) (by omega)
      refine ⟨cutG k0 none (some (-1)) ++ [r13], S13, asg_of ((ite_f tt).trans (op2_of (d1 := .tup (natL (cutG k0 none (some (-1))))) (d2 := .tup [nD r13]) ?_ (tup1 (draw_of (k := m) rfl rfl e13)) ?_)), ?_, fun k hk => ?_, v13⟩
      · have z := slcX_hi (a := var 8) (b := op1 dNeg (cst (.int 1))) (ρ := bEn (.vl (nD m)) (.vl (.int f)) (.vl (.int l)) (.vl (.tup (shwD m b s f l))) (.vl (.tup (yrsD m b s t f l))) (.vl (nD (m / Nat.gcd m s))) (.vl (nD y)) (.vl (.tup (natL k0))) .no .no (.vl (nD b)) (.vl (nD s)) (.vl (nD t)) .no .no) (S := S12) (ds := natL k0) (h := -1) rfl (op1_of rfl rfl)
        rw [natL, cut_map] at z
        exact z
      · have ci := cut_init k0 (by omega)
        rw [cat_T (by rw [natL_len, ci]; show k0.length - 1 + 1 ≤ 10000; omega)]
        show some (D.tup (natL _ ++ natL [r13])) = some (D.tup (natL _))
        rw [natL, natL, natL, List.map_append]
      · rw [List.length_append, cut_init k0 (by omega), List.length_singleton]
        omega
      · rcases List.mem_append.mp hk with hk | hk
        · exact k0m k (cut_mem hk)
        · rw [List.mem_singleton.mp hk]
          exact hr13
  obtain ⟨ks, S', st10, kl, km, v'⟩ := st10
  have kl1 : 1 ≤ ks.length := by omega
  have kl2 : ks.length ≤ 60 := by omega
  have st11 : (asgS 9 (op1 dTuple (lcE (itR1 (var 6)) (tgN 15) (notB (truB (lcE (itR1 (op1 dLen (var 8))) (tgN 14) (valB (op2 dNe (callE m__law_mark (consA (var 1) (consA (var 11) (consA (var 12) (consA (op2 dAdd (var 15) (var 14)) nilA))))) (op2 dIxA (var 8) (var 14)))) (var 14) [14]))) (var 15) [15]))) (bEn (.vl (nD m)) (.vl (.int f)) (.vl (.int l)) (.vl (.tup (shwD m b s f l))) (.vl (.tup (yrsD m b s t f l))) (.vl (nD (m / Nat.gcd m s))) (.vl (nD y)) (.vl (.tup (natL ks))) .no .no (.vl (nD b)) (.vl (nD s)) (.vl (nD t)) .no .no) S' = .ok (.nx (bEn (.vl (nD m)) (.vl (.int f)) (.vl (.int l)) (.vl (.tup (shwD m b s f l))) (.vl (.tup (yrsD m b s t f l))) (.vl (nD (m / Nat.gcd m s))) (.vl (nD y)) (.vl (.tup (natL ks))) (.vl (.tup (natL (lefL m b s ks (m / Nat.gcd m s))))) .no (.vl (nD b)) (.vl (nD s)) (.vl (nD t)) .no .no)) S' := by
    generalize m / Nat.gcd m s = z at gl
    have lc := lcN (it := itR1 (var 6)) (t := tgN 15) (test := notB (truB (lcE (itR1 (op1 dLen (var 8))) (tgN 14) (valB (op2 dNe (callE m__law_mark (consA (var 1) (consA (var 11) (consA (var 12) (consA (op2 dAdd (var 15) (var 14)) nilA))))) (op2 dIxA (var 8) (var 14)))) (var 14) [14]))) (elt := var 15) (vs := [15]) (ρ := bEn (.vl (nD m)) (.vl (.int f)) (.vl (.int l)) (.vl (.tup (shwD m b s f l))) (.vl (.tup (yrsD m b s t f l))) (.vl (nD z)) (.vl (nD y)) (.vl (.tup (natL ks))) .no .no (.vl (nD b)) (.vl (nD s)) (.vl (nD t)) .no .no) (S := S') (l := List.range z) nD nD (fun r => (List.range ks.length).all fun a => decide (mkI m b s ((r + a : Nat) : Int) = ((ks.getD a 0 : Nat) : Int))) (rng1 (n := z) (by omega) rfl) (fun r hr => by
      have hr := List.mem_range.mp hr
      refine ⟨bEn (.vl (nD m)) (.vl (.int f)) (.vl (.int l)) (.vl (.tup (shwD m b s f l))) (.vl (.tup (yrsD m b s t f l))) (.vl (nD z)) (.vl (nD y)) (.vl (.tup (natL ks))) .no .no (.vl (nD b)) (.vl (nD s)) (.vl (nD t)) .no (.vl (nD r)), rfl, ?_, fun _ => rfl⟩
      have l2 := lcN (it := itR1 (op1 dLen (var 8))) (t := tgN 14) (test := valB (op2 dNe (callE m__law_mark (consA (var 1) (consA (var 11) (consA (var 12) (consA (op2 dAdd (var 15) (var 14)) nilA))))) (op2 dIxA (var 8) (var 14)))) (elt := var 14) (vs := [14]) (ρ := bEn (.vl (nD m)) (.vl (.int f)) (.vl (.int l)) (.vl (.tup (shwD m b s f l))) (.vl (.tup (yrsD m b s t f l))) (.vl (nD z)) (.vl (nD y)) (.vl (.tup (natL ks))) .no .no (.vl (nD b)) (.vl (nD s)) (.vl (nD t)) .no (.vl (nD r))) (S := S') (l := List.range ks.length) nD nD (fun a => !decide (mkI m b s ((r + a : Nat) : Int) = ((ks.getD a 0 : Nat) : Int))) (rng1 (n := ks.length) (by omega) (op1_of (d := .tup (natL ks)) rfl (by
        show some (D.int (((natL ks).length : Nat) : Int)) = _
        rw [natL_len]))) (fun a ha => by
        have ha := List.mem_range.mp ha
        exact ⟨bEn (.vl (nD m)) (.vl (.int f)) (.vl (.int l)) (.vl (.tup (shwD m b s f l))) (.vl (.tup (yrsD m b s t f l))) (.vl (nD z)) (.vl (nD y)) (.vl (.tup (natL ks))) .no .no (.vl (nD b)) (.vl (nD s)) (.vl (nD t)) (.vl (nD a)) (.vl (nD r)), rfl, val_of (op2_of (d2 := nD (ks.getD a 0)) (lmark_of (m := m) (b := b) (s := s) (y := ((r + a : Nat) : Int)) rfl rfl rfl (op2_of (d1 := nD r) (d2 := nD a) rfl rfl (addN r a)) m1 m2 s1 (by omega) (by omega)) (op2_of (d1 := .tup (natL ks)) (d2 := nD a) rfl rfl (at_natL ha)) (neI _ _)), fun _ => rfl⟩) (by rw [List.length_range]; omega)
      have q := not_of (tru_ofE (k := !((List.range ks.length).all fun a => decide (mkI m b s ((r + a : Nat) : Int) = ((ks.getD a 0 : Nat) : Int)))) l2 (by
        show some (!(((List.range ks.length).filter fun a => !decide (mkI m b s ((r + a : Nat) : Int) = ((ks.getD a 0 : Nat) : Int))).map nD).isEmpty) = _
        rw [emp_f]))
      rw [Bool.not_not] at q
      exact q) (by rw [List.length_range]; omega)
    exact asg_of (op1_of lc rfl)
  have shl : (shwD m b s f l).length ≤ 201 := by
    unfold shwD
    rw [List.length_map, List.length_range]
    omega
  have yrl : (yrsD m b s t f l).length ≤ 201 := by
    unfold yrsD
    rw [List.length_map]
    have := List.length_filter_le (fun k : Nat => decide (mkI m b s (f + (k : Int)) = (t : Int))) (List.range (l + 1 - f).toNat)
    rw [List.length_range] at this
    omega
  have g1 : Gd 1 201 (.tup (shwD m b s f l)) := by
    have z := gd_ints (is := (List.range (l + 1 - f).toNat).map fun k : Nat => mkI m b s (f + (k : Int))) fun i hi => by
      obtain ⟨k, _, rfl⟩ := List.mem_map.mp hi
      have := mk_nat m b s m1 (f + (k : Int))
      omega
    rw [List.map_map, List.length_map, List.length_range] at z
    exact z.mono (Nat.le_refl _) (by omega)
  have g2 : Gd 1 201 (.tup (yrsD m b s t f l)) := by
    have z := gd_ints (is := ((List.range (l + 1 - f).toNat).filter fun k : Nat => decide (mkI m b s (f + (k : Int)) = (t : Int))).map fun k : Nat => f + (k : Int)) fun i hi => by
      obtain ⟨k, hk, rfl⟩ := List.mem_map.mp hi
      have := List.mem_range.mp (List.mem_filter.mp hk).1
      omega
    rw [List.map_map, List.length_map] at z
    have := List.length_filter_le (fun k : Nat => decide (mkI m b s (f + (k : Int)) = (t : Int))) (List.range (l + 1 - f).toNat)
    rw [List.length_range] at this
    exact z.mono (Nat.le_refl _) (by omega)
  have g4 : Gd 1 26 (.tup (natL (lefL m b s ks (m / Nat.gcd m s)))) := by
    refine (gd_natT fun k hk => ?_).mono (Nat.le_refl _) ?_
    · have := List.mem_range.mp (List.mem_filter.mp hk).1
      omega
    · unfold lefL
      have := List.length_filter_le (fun r => (List.range ks.length).all fun a => decide (mkI m b s ((r + a : Nat) : Int) = ((ks.getD a 0 : Nat) : Int))) (List.range (m / Nat.gcd m s))
      rw [List.length_range] at this
      omega
  have gT : Gd 2 (4 * 202) (.lst [.tup (shwD m b s f l), .tup (yrsD m b s t f l), nD (m / Nat.gcd m s), .tup (natL (lefL m b s ks (m / Nat.gcd m s)))]) := by
    refine gd_lst (h := 1) (n := 201) (ds := [.tup (shwD m b s f l), .tup (yrsD m b s t f l), nD (m / Nat.gcd m s), .tup (natL (lefL m b s ks (m / Nat.gcd m s)))]) fun d hd => ?_
    simp only [List.mem_cons, List.not_mem_nil, or_false] at hd
    rcases hd with rfl | rfl | rfl | rfl
    · exact g1
    · exact g2
    · exact (gd_26 gl).mono (by decide) (by decide)
    · exact g4.mono (by decide) (by decide)
  have st12 : (asgS 10 (lstE (consA (callE m_marks_shown (consA (var 1) (consA (var 11) (consA (var 12) (consA (var 2) (consA (var 3) nilA)))))) (consA (callE m_years_of (consA (var 1) (consA (var 11) (consA (var 12) (consA (var 13) (consA (var 2) (consA (var 3) nilA))))))) (consA (callE m_goes_round (consA (var 1) (consA (var 12) nilA))) (consA (callE m_year_left (consA (var 1) (consA (var 11) (consA (var 12) (consA (var 8) nilA))))) nilA)))))) (bEn (.vl (nD m)) (.vl (.int f)) (.vl (.int l)) (.vl (.tup (shwD m b s f l))) (.vl (.tup (yrsD m b s t f l))) (.vl (nD (m / Nat.gcd m s))) (.vl (nD y)) (.vl (.tup (natL ks))) (.vl (.tup (natL (lefL m b s ks (m / Nat.gcd m s))))) .no (.vl (nD b)) (.vl (nD s)) (.vl (nD t)) .no .no) S' = .ok (.nx (bEn (.vl (nD m)) (.vl (.int f)) (.vl (.int l)) (.vl (.tup (shwD m b s f l))) (.vl (.tup (yrsD m b s t f l))) (.vl (nD (m / Nat.gcd m s))) (.vl (nD y)) (.vl (.tup (natL ks))) (.vl (.tup (natL (lefL m b s ks (m / Nat.gcd m s))))) (.vl (.lst [.tup (shwD m b s f l), .tup (yrsD m b s t f l), nD (m / Nat.gcd m s), .tup (natL (lefL m b s ks (m / Nat.gcd m s)))])) (.vl (nD b)) (.vl (nD s)) (.vl (nD t)) .no .no)) S' :=
    asg_of (lst4 (callA_of (a5_of (d := nD m) (e := nD b) (i := nD s) (j := .int f) (o := .int l) rfl rfl rfl rfl rfl) (v_shown m1 m2 b1 s1 f1 fl.1 fl.2.1 S')) (callA_of (a6_of (d := nD m) (e := nD b) (i := nD s) (j := nD t) (o := .int f) (p := .int l) rfl rfl rfl rfl rfl rfl) (v_years m1 m2 b1 s1 t1 f1 fl.1 fl.2.1 S')) (call2_of (d := nD m) (d2 := nD s) rfl rfl (v_goes m1 m2 s1 S')) (call4_of (d := nD m) (d2 := nD b) (d3 := nD s) (d4 := .tup (natL ks)) rfl rfl rfl rfl (v_left m1 m2 b1 s1 kl1 kl2 km S')))
  refine ⟨S', body_rt ((seq_nx st1).trans ((seq_nx st2).trans ((seq_nx st3).trans ((seq_nx st4).trans ((seq_nx st5).trans ((seq_nx st6).trans ((seq_nx st7).trans ((seq_nx st8).trans ((seq_nx st9).trans ((seq_nx st10).trans ((seq_nx st11).trans ((seq_nx st12).trans (ret_of ?_))))))))))))), v'⟩
  exact call2_of (d := .lst [.tup (shwD m b s f l), .tup (yrsD m b s t f l), nD (m / Nat.gcd m s), .tup (natL (lefL m b s ks (m / Nat.gcd m s)))]) (d2 := .lst [.tup (shwD m b s f l), .tup (yrsD m b s t f l), nD (m / Nat.gcd m s), .tup (natL (lefL m b s ks (m / Nat.gcd m s)))]) rfl (lst4 rfl rfl rfl rfl) (v_same gT (by decide) (by decide) S')
end Hk21
namespace Hk21
open PySem Mini
open L2 (atI ixN atI_nat kitB Key)
/-! ## sixty coins -/
theorem cut_take {α : Type} (l : List α) {k : Nat} (h : k ≤ l.length) : cutG l none (some ((k : Nat) : Int)) = l.take k := by
  unfold cutG
  have e1 : HT.sIx l.length 0 none = 0 := rfl
  rw [e1, HT.sIx_nat, List.drop_zero, Nat.sub_zero, Nat.min_eq_left h]
theorem sl_coins {cs : List Cn2} {i k : Nat} (h : k ≤ cs.length) {ρ : En} {S : DS} (hs : slot ρ i = some (.tup (cs.map cD))) : slcX (var i) noP (partP (cst (.int ((k : Nat) : Int)))) ρ S = .ok (.tup ((cs.take k).map cD)) S := by
  have z := slcX_hi (a := var i) (b := cst (.int ((k : Nat) : Int))) (ρ := ρ) (S := S) (ds := cs.map cD) (h := ((k : Nat) : Int)) (var_of hs) rfl
  rw [cut_map, cut_take cs h] at z
  exact z
theorem ok_take {cs : List Cn2} (ok : CsOk cs) (k : Nat) : CsOk (cs.take k) := ⟨by
  have := ok.len
  rw [List.length_take]
  omega, fun c hc => ok.r c (List.mem_of_mem_take hc), ok.mon.sublist (List.take_sublist _ _)⟩
theorem few_1 : fewD [] = nD 1 := by
  have e : ((List.range' 1 (27 - 1)).filter fun k => !(rnds [] k).isEmpty) = 1 :: ((List.range' 2 25).filter fun k => !(rnds [] k).isEmpty) := by decide +kernel
  unfold fewD
  rw [e]
theorem few_26 : fewD [(0, 25)] = nD 26 := by
  have e : ((List.range' 1 (27 - 1)).filter fun k => !(rnds [(0, 25)] k).isEmpty) = [26] := by decide +kernel
  unfold fewD
  rw [e]
theorem few_no : fewD [(0, 1), (0, 2)] = .non := by
  have e : ((List.range' 1 (27 - 1)).filter fun k => !(rnds [(0, 1), (0, 2)] k).isEmpty) = [] := by decide +kernel
  unfold fewD
  rw [e]
theorem ok_0 : CsOk [] := ⟨Nat.zero_le _, fun c hc => (by cases hc), List.Pairwise.nil⟩
theorem ok_1 : CsOk [(0, 25)] := ⟨by decide, fun c hc => (by rw [List.mem_singleton.mp hc]; decide), List.pairwise_singleton _ _⟩
theorem ok_2 : CsOk [(0, 1), (0, 2)] := ⟨by decide, fun c hc => (by
  simp only [List.mem_cons, List.not_mem_nil, or_false] at hc
  rcases hc with rfl | rfl <;> decide), by
  rw [List.pairwise_cons]
  exact ⟨fun a ha => by rw [List.mem_singleton.mp ha]; decide, List.pairwise_singleton _ _⟩⟩
theorem few_lt {cs : List Cn2} (h : fitE cs 26) : ∃ k ks, ((List.range' 1 (27 - 1)).filter fun k => !(rnds cs k).isEmpty) = k :: ks ∧ k ≤ 26 ∧ fewD cs = nD k := by
  have m26 : 26 ∈ (List.range' 1 (27 - 1)).filter fun k => !(rnds cs k).isEmpty := by
    refine List.mem_filter.mpr ⟨List.mem_range'_1.mpr ⟨by decide, by decide⟩, ?_⟩
    have z := (rnds_fit (cs := cs) (m := 26) (by decide)).mpr h
    cases q : rnds cs 26 with
    | nil => exact absurd q z
    | cons _ _ => rfl
  unfold fewD
  cases e : (List.range' 1 (27 - 1)).filter fun k => !(rnds cs k).isEmpty with
  | nil => rw [e] at m26; cases m26
  | cons k ks =>
    refine ⟨k, ks, rfl, ?_, rfl⟩
    have : k ∈ (List.range' 1 (27 - 1)).filter fun k => !(rnds cs k).isEmpty := by rw [e]; exact List.mem_cons_self ..
    have := (List.mem_range'_1.mp (List.mem_filter.mp this).1).2
    omega
theorem noF_emp {cs : List Cn2} {m : Nat} (m1 : 1 ≤ m) : (!noF cs m) = !(rnds cs m).isEmpty := by
  have e : noF cs m = (rnds cs m).isEmpty := by
    rw [Bool.eq_iff_iff, noF_iff, List.isEmpty_iff, ← rnds_fit m1]
    exact Classical.not_not
  rw [e]
abbrev hEn (a1 a2 a3 a4 a5 a6 a7 a8 a9 a10 a11 a12 : Slot) : En := [.vl .st, a1, a2, a3, a4, a5, a6, a7, a8, a9, a10, a11, a12]
theorem v_great {S : DS} (v : Vs S) : ∃ S', m__law_great_holds [.st] S = .ok (.bl true) S' ∧ Vs S' := by
  obtain ⟨b, S1, e1, b1, v1⟩ := v_draw v (n := 26) (by decide) (by decide)
  obtain ⟨r, S2, e2, hr, v2⟩ := v_draw v1 (n := 6) (by decide) (by decide)
  obtain ⟨s, hs⟩ : ∃ s, s = 1 + 2 * r := ⟨_, rfl⟩
  have s1 : s < 26 := by omega
  obtain ⟨xs, S3, e3, l3, p3, v3⟩ := lcL_st (t := tgN 11) (elt := op2 dSub (callE m__law_draw (consA (var 0) (consA (cst (.int 10001)) nilA))) (cst (.int 5000))) (ρ := hEn .no .no .no .no .no (.vl (nD 26)) (.vl (nD b)) (.vl (nD s)) .no .no .no .no) (fun x => ∃ i : Int, x = .int i ∧ -5000 ≤ i ∧ i ≤ 5000) ((List.range 58).map nD) [] S2 v2 (fun d hd S v => by
    obtain ⟨k, _, rfl⟩ := List.mem_map.mp hd
    obtain ⟨q, S2, e2, hq, v2⟩ := v_draw v (n := 10001) (by decide) (by decide)
    exact ⟨hEn .no .no .no .no .no (.vl (nD 26)) (.vl (nD b)) (.vl (nD s)) .no .no (.vl (nD k)) .no, .int ((q : Int) - 5000), S2, rfl, op2_of (d1 := nD q) (d2 := nD 5000) (draw_of (k := 10001) rfl rfl e2) rfl rfl, ⟨_, rfl, by omega, by omega⟩, v2⟩) (by rw [List.length_map, List.length_range]; simp)
  rw [List.nil_append] at e3
  rw [List.length_map, List.length_range] at l3
  obtain ⟨is, rfl, hi⟩ := ints_of_P p3
  rw [List.length_map] at l3
  obtain ⟨ys, hys⟩ : ∃ ys : List Int, ys = sortI (is ++ [-5000, 5000]) := ⟨_, rfl⟩
  have yp : ys.Perm (is ++ [-5000, 5000]) := by
    rw [hys]
    exact sortI_perm _
  have ysl : ys.length = 60 := by
    rw [yp.length_eq, List.length_append, l3]
    rfl
  have ysr : ∀ y ∈ ys, -5000 ≤ y ∧ y ≤ 5000 := fun y hy => by
    rcases List.mem_append.mp (yp.mem_iff.mp hy) with h | h
    · exact hi y h
    · simp only [List.mem_cons, List.not_mem_nil, or_false] at h
      omega
  have ysm : ys.Pairwise (· ≤ ·) := by
    rw [hys]
    exact sortI_sorted _
  have y59 : ys.getD 59 0 = 5000 := by
    have m5 : (5000 : Int) ∈ ys := yp.mem_iff.mpr (List.mem_append.mpr (.inr (by simp)))
    obtain ⟨k, hk, ek⟩ := List.getElem_of_mem m5
    rw [List.getD_eq_getElem?_getD, List.getElem?_eq_getElem (by omega)]
    show ys[59] = 5000
    have up := (ysr ys[59] (List.getElem_mem _)).2
    rcases Nat.lt_or_ge k 59 with c | c
    · have z := List.pairwise_iff_getElem.mp ysm k 59 hk (by omega) c
      omega
    · have e : k = 59 := by omega
      subst e
      exact ek
  obtain ⟨cs, hcs⟩ : ∃ cs : List Cn2, cs = ys.map fun y => (y, (mkI 26 b s y).toNat) := ⟨_, rfl⟩
  have cl : cs.length = 60 := by rw [hcs, List.length_map, ysl]
  have cy : cs.map (·.1) = ys := by
    rw [hcs, List.map_map]
    exact List.map_id' ys
  have hit : ∀ c ∈ cs, hitB 26 b s c = true ∧ c.2 ≤ 25 := fun c hc => by
    rw [hcs] at hc
    obtain ⟨y, _, rfl⟩ := List.mem_map.mp hc
    obtain ⟨h1, h2⟩ := mk_nat 26 b s (by decide) y
    exact ⟨decide_eq_true h1.symm, Nat.le_of_lt_succ h2⟩
  have ok : CsOk cs := by
    refine ⟨by omega, fun c hc => ?_, ?_⟩
    · have := ysr c.1 (by rw [← cy]; exact List.mem_map.mpr ⟨c, hc, rfl⟩)
      exact ⟨this.1, this.2, (hit c hc).2⟩
    · have z := ysm
      rw [← cy, List.pairwise_map] at z
      exact z
  obtain ⟨a, ha⟩ : ∃ a, a = (cs.getD 59 (0, 0)).2 := ⟨_, rfl⟩
  have c59 : cs.getD 59 (0, 0) ∈ cs := getD_mem (by omega)
  have c59y : (cs.getD 59 (0, 0)).1 = 5000 := by
    have z : (cs.map (·.1)).getD 59 0 = 5000 := by rw [cy]; exact y59
    rw [List.getD_eq_getElem?_getD, List.getElem?_map] at z
    rw [List.getD_eq_getElem?_getD]
    cases q : cs[59]? with
    | none => rw [q] at z; cases z
    | some c => rw [q] at z; exact z
  have a25 : a ≤ 25 := by rw [ha]; exact (hit _ c59).2
  have amk : mkI 26 b s 5000 = (a : Int) := by
    have z := of_decide_eq_true (hit _ c59).1
    rw [c59y, ← ha] at z
    exact z
  obtain ⟨bt, hbt⟩ : ∃ bt : List Cn2, bt = cs.take 59 ++ [((5000 : Int), (a + 1) % 26)] := ⟨_, rfl⟩
  have btl : bt.length = 60 := by
    rw [hbt, List.length_append, List.length_take, cl]
    rfl
  have okb : CsOk bt := by
    have okt := ok_take ok 59
    refine ⟨by omega, fun c hc => ?_, ?_⟩
    · rw [hbt] at hc
      rcases List.mem_append.mp hc with hc | hc
      · exact okt.r c hc
      · rw [List.mem_singleton.mp hc]
        exact ⟨by show (-5000 : Int) ≤ 5000; decide, by show (5000 : Int) ≤ 5000; decide, by show (a + 1) % 26 ≤ 25; omega⟩
    · rw [hbt, List.pairwise_append]
      refine ⟨okt.mon, List.pairwise_singleton _ _, fun x hx y hy => ?_⟩
      rw [List.mem_singleton.mp hy]
      exact (okt.r x hx).2.1
  have miss : hitB 26 b s ((5000 : Int), (a + 1) % 26) = false := by
    refine decide_eq_false ?_
    show ¬ mkI 26 b s 5000 = (((a + 1) % 26 : Nat) : Int)
    rw [amk]
    omega
  have wrg : wrgN bt 26 b s = [59] := by
    unfold wrgN
    rw [btl, List.range_succ, List.filter_append]
    have g1 : (List.range 59).filter (fun k => !hitB 26 b s (bt.getD k (0, 0))) = [] := by
      rw [List.filter_eq_nil_iff]
      intro k hk
      have hk := List.mem_range.mp hk
      have e : bt.getD k (0, 0) ∈ cs := by
        have tl : (cs.take 59).length = 59 := by rw [List.length_take, cl]; rfl
        rw [hbt, List.getD_eq_getElem?_getD, List.getElem?_append_left (by omega), ← List.getD_eq_getElem?_getD]
        exact List.mem_of_mem_take (getD_mem (by omega))
      rw [(hit _ e).1]
      simp
    have g2 : bt.getD 59 (0, 0) = ((5000 : Int), (a + 1) % 26) := by
      have tl : (cs.take 59).length = 59 := by rw [List.length_take, cl]; rfl
      rw [hbt, List.getD_eq_getElem?_getD, List.getElem?_append_right (by omega), tl]
      rfl
    rw [g1, List.nil_append, List.filter_cons, g2, miss]
    rfl
  have mis0 : misN cs 26 b s = 0 := mis_0.mpr fun c hc => (hit c hc).1
  have mis1 : misN bt 26 b s = 1 := by rw [← wrg_len, wrg]; rfl
  obtain ⟨t, ht, et, lt⟩ := min_trip (trps_ne cs (m := 26) (by decide))
  obtain ⟨t', ht', et', lt'⟩ := min_trip (trps_ne bt (m := 26) (by decide))
  have t0 : t.1 = 0 := by
    have z := lt _ (trps_mem.mpr ⟨b, s, b1, s1, rfl⟩)
    have z : t.1 ≤ misN cs 26 b s := z
    omega
  have t1 : t'.1 ≤ 1 := by
    have z := lt' _ (trps_mem.mpr ⟨b, s, b1, s1, rfl⟩)
    have z : t'.1 ≤ misN bt 26 b s := z
    omega
  have ok9 := ok_take ok 9
  have fit9 : fitE (cs.take 9) 26 := ⟨b, s, b1, s1, fun c hc => (hit c (List.mem_of_mem_take hc)).1⟩
  obtain ⟨k, ks, few, k26, fewE⟩ := few_lt fit9
  rw [e__law_great_holds, b__law_great_holds]
  have st1 : (asgT (tgX [(tgN 6), (tgN 7), (tgN 8)]) (tupE (consA (cst (.int 26)) (consA (callE m__law_draw (consA (var 0) (consA (cst (.int 26)) nilA))) (consA (op2 dAdd (cst (.int 1)) (op2 dMulX (cst (.int 2)) (callE m__law_draw (consA (var 0) (consA (cst (.int 6)) nilA))))) nilA))))) (hEn .no .no .no .no .no .no .no .no .no .no .no .no) S = .ok (.nx (hEn .no .no .no .no .no (.vl (nD 26)) (.vl (nD b)) (.vl (nD s)) .no .no .no .no)) S2 := by
    refine asgT_of (d := .tup [nD 26, nD b, nD s]) (tup3 rfl (draw_of (k := 26) rfl rfl e1) (op2_of (d1 := nD 1) (d2 := nD (2 * r)) rfl (op2_of (d1 := nD 2) (d2 := nD r) rfl (draw_of (k := 6) rfl rfl e2) (mul_ok (by decide) (by omega))) ?_)) rfl
    rw [hs]
    exact addN 1 (2 * r)
  have st2 : (asgS 1 (op1 dSorted (op2 dAdd (lcE (itR1 (cst (.int 58))) (tgN 11) yesB (op2 dSub (callE m__law_draw (consA (var 0) (consA (cst (.int 10001)) nilA))) (cst (.int 5000))) [11]) (lstE (consA (op1 dNeg (cst (.int 5000))) (consA (cst (.int 5000)) nilA)))))) (hEn .no .no .no .no .no (.vl (nD 26)) (.vl (nD b)) (.vl (nD s)) .no .no .no .no) S2 = .ok (.nx (hEn (.vl (.lst (ys.map D.int))) .no .no .no .no (.vl (nD 26)) (.vl (nD b)) (.vl (nD s)) .no .no .no .no)) S3 := by
    refine asg_of (op1_of (d := .lst ((is ++ [-5000, 5000]).map D.int)) ?_ ?_)
    · rw [List.map_append]
      exact op2_of (d1 := .lst (is.map D.int)) (d2 := .lst [.int (-5000), .int 5000]) (lc_of (rng1 (n := 58) (by decide) rfl) e3) (lst2 (op1_of rfl rfl) rfl) (catL (by rw [List.length_map, l3]; decide))
    · rw [hys]
      exact sort_ints _
  have st3 : (asgS 2 (op1 dTuple (lcE (itS (var 1)) (tgN 10) yesB (tupE (consA (var 10) (consA (callE m__law_mark (consA (var 6) (consA (var 7) (consA (var 8) (consA (var 10) nilA))))) nilA))) [10]))) (hEn (.vl (.lst (ys.map D.int))) .no .no .no .no (.vl (nD 26)) (.vl (nD b)) (.vl (nD s)) .no .no .no .no) S3 = .ok (.nx (hEn (.vl (.lst (ys.map D.int))) (.vl (.tup (cs.map cD))) .no .no .no (.vl (nD 26)) (.vl (nD b)) (.vl (nD s)) .no .no .no .no)) S3 := by
    have l := lcA (it := itS (var 1)) (t := tgN 10) (vs := [10]) (ρ := hEn (.vl (.lst (ys.map D.int))) .no .no .no .no (.vl (nD 26)) (.vl (nD b)) (.vl (nD s)) .no .no .no .no) (S := S3) (elt := tupE (consA (var 10) (consA (callE m__law_mark (consA (var 6) (consA (var 7) (consA (var 8) (consA (var 10) nilA))))) nilA))) D.int (fun y => cD (y, (mkI 26 b s y).toNat)) (l := ys) (its_of (d := .lst (ys.map D.int)) rfl rfl) (fun y hy => ⟨hEn (.vl (.lst (ys.map D.int))) .no .no .no .no (.vl (nD 26)) (.vl (nD b)) (.vl (nD s)) .no (.vl (.int y)) .no .no, rfl, by
      have hr := ysr y hy
      have z := tup2 (f := var 10) (g := callE m__law_mark (consA (var 6) (consA (var 7) (consA (var 8) (consA (var 10) nilA))))) (ρ := hEn (.vl (.lst (ys.map D.int))) .no .no .no .no (.vl (nD 26)) (.vl (nD b)) (.vl (nD s)) .no (.vl (.int y)) .no .no) (S := S3) (d := .int y) rfl (lmark_of (m := 26) (b := b) (s := s) (y := y) rfl rfl rfl rfl (by decide) (by decide) s1 (by omega) (by omega))
      rw [← (mk_nat 26 b s (by decide) y).1] at z
      exact z⟩) (by omega)
    rw [show ys.map (fun y => cD (y, (mkI 26 b s y).toNat)) = cs.map cD from by
      rw [hcs, List.map_map]
      rfl] at l
    exact asg_of (op1_of l rfl)
  have st4 : (asgS 3 (op2 dAdd (slcX (var 2) noP (partP (cst (.int 59)))) (tupE (consA (tupE (consA (cst (.int 5000)) (consA (op2 dMod (op1 dInt (op2 dAdd (op2 dIxA (op2 dIxA (var 2) (cst (.int 59))) (cst (.int 1))) (cst (.int 1)))) (cst (.int 26))) nilA))) nilA)))) (hEn (.vl (.lst (ys.map D.int))) (.vl (.tup (cs.map cD))) .no .no .no (.vl (nD 26)) (.vl (nD b)) (.vl (nD s)) .no .no .no .no) S3 = .ok (.nx (hEn (.vl (.lst (ys.map D.int))) (.vl (.tup (cs.map cD))) (.vl (.tup (bt.map cD))) .no .no (.vl (nD 26)) (.vl (nD b)) (.vl (nD s)) .no .no .no .no)) S3 := by
    have ix := op2_of (g := dIxA) (f1 := op2 dIxA (var 2) (cst (.int 59))) (f2 := cst (.int 1)) (ρ := hEn (.vl (.lst (ys.map D.int))) (.vl (.tup (cs.map cD))) .no .no .no (.vl (nD 26)) (.vl (nD b)) (.vl (nD s)) .no .no .no .no) (S := S3) (d2 := nD 1) (e := nD a) (op2_of (d1 := .tup (cs.map cD)) (d2 := nD 59) rfl rfl (ix_coin (by omega))) rfl (by rw [ha]; rfl)
    refine asg_of (op2_of (d1 := .tup ((cs.take 59).map cD)) (d2 := .tup [cD ((5000 : Int), (a + 1) % 26)]) (sl_coins (k := 59) (by omega) rfl) (tup1 (tup2 (d := .int 5000) (e := nD ((a + 1) % 26)) rfl (op2_of (d1 := nD (a + 1)) (d2 := nD 26) (op1_of (d := nD (a + 1)) (op2_of (d1 := nD a) (d2 := nD 1) ix rfl (addN a 1)) rfl) rfl ?_))) ?_)
    · rw [nD, modI _ (by decide)]
      rfl
    · rw [cat_T (by rw [List.length_map, List.length_take]; show min 59 cs.length + 1 ≤ 10000; omega), hbt, List.map_append]
      rfl
  have st5 : (asgS 4 (lstE (consA (op2 dIxA (callE m_best_round (consA (var 2) (consA (var 6) nilA))) (cst (.int 0))) (consA (callE m_wrong_coins (consA (var 3) (consA (var 6) (consA (var 7) (consA (var 8) nilA))))) (consA (op2 dLe (op2 dIxA (callE m_best_round (consA (var 3) (consA (var 6) nilA))) (cst (.int 0))) (cst (.int 1))) (consA (op1 dLen (callE m_marks_shown (consA (var 6) (consA (var 7) (consA (var 8) (consA (op1 dNeg (cst (.int 5000))) (consA (cst (.int 5000)) nilA))))))) nilA)))))) (hEn (.vl (.lst (ys.map D.int))) (.vl (.tup (cs.map cD))) (.vl (.tup (bt.map cD))) .no .no (.vl (nD 26)) (.vl (nD b)) (.vl (nD s)) .no .no .no .no) S3 = .ok (.nx (hEn (.vl (.lst (ys.map D.int))) (.vl (.tup (cs.map cD))) (.vl (.tup (bt.map cD))) (.vl (.lst [nD 0, .tup (natL [59]), .bl true, nD 10001])) .no (.vl (nD 26)) (.vl (nD b)) (.vl (nD s)) .no .no .no .no)) S3 := by
    have x1 := op2_of (g := dIxA) (f1 := callE m_best_round (consA (var 2) (consA (var 6) nilA))) (f2 := cst (.int 0)) (ρ := hEn (.vl (.lst (ys.map D.int))) (.vl (.tup (cs.map cD))) (.vl (.tup (bt.map cD))) .no .no (.vl (nD 26)) (.vl (nD b)) (.vl (nD s)) .no .no .no .no) (S := S3) (d1 := tD t) (d2 := nD 0) (e := nD t.1) (call2_of (d := .tup (cs.map cD)) (d2 := nD 26) rfl rfl (v_best ok (by decide) (by decide) et S3)) rfl rfl
    have x2 := call4_of (F := m_wrong_coins) (f := var 3) (g := var 6) (k := var 7) (l := var 8) (ρ := hEn (.vl (.lst (ys.map D.int))) (.vl (.tup (cs.map cD))) (.vl (.tup (bt.map cD))) .no .no (.vl (nD 26)) (.vl (nD b)) (.vl (nD s)) .no .no .no .no) (S := S3) (d := .tup (bt.map cD)) (d2 := nD 26) (d3 := nD b) (d4 := nD s) rfl rfl rfl rfl (v_wrong okb (by decide) (by decide) b1 s1 S3)
    have x3 := op2_of (g := dIxA) (f1 := callE m_best_round (consA (var 3) (consA (var 6) nilA))) (f2 := cst (.int 0)) (ρ := hEn (.vl (.lst (ys.map D.int))) (.vl (.tup (cs.map cD))) (.vl (.tup (bt.map cD))) .no .no (.vl (nD 26)) (.vl (nD b)) (.vl (nD s)) .no .no .no .no) (S := S3) (d1 := tD t') (d2 := nD 0) (e := nD t'.1) (call2_of (d := .tup (bt.map cD)) (d2 := nD 26) rfl rfl (v_best okb (by decide) (by decide) et' S3)) rfl rfl
    have x4 : op1 dLen (callE m_marks_shown (consA (var 6) (consA (var 7) (consA (var 8) (consA (op1 dNeg (cst (.int 5000))) (consA (cst (.int 5000)) nilA)))))) (hEn (.vl (.lst (ys.map D.int))) (.vl (.tup (cs.map cD))) (.vl (.tup (bt.map cD))) .no .no (.vl (nD 26)) (.vl (nD b)) (.vl (nD s)) .no .no .no .no) S3 = .ok (nD 10001) S3 := by
      have gen : ∀ (i j : Int), i = -5000 → j = 5000 → op1 dLen (callE m_marks_shown (consA (var 6) (consA (var 7) (consA (var 8) (consA (op1 dNeg (cst (.int 5000))) (consA (cst (.int 5000)) nilA)))))) (hEn (.vl (.lst (ys.map D.int))) (.vl (.tup (cs.map cD))) (.vl (.tup (bt.map cD))) .no .no (.vl (nD 26)) (.vl (nD b)) (.vl (nD s)) .no .no .no .no) S3 = .ok (nD (j + 1 - i).toNat) S3 := fun i j hi hj => by
        have n5 : op1 dNeg (cst (.int 5000)) (hEn (.vl (.lst (ys.map D.int))) (.vl (.tup (cs.map cD))) (.vl (.tup (bt.map cD))) .no .no (.vl (nD 26)) (.vl (nD b)) (.vl (nD s)) .no .no .no .no) S3 = .ok (.int i) S3 := by
          rw [hi]
          exact op1_of rfl rfl
        have p5 : cst (.int 5000) (hEn (.vl (.lst (ys.map D.int))) (.vl (.tup (cs.map cD))) (.vl (.tup (bt.map cD))) .no .no (.vl (nD 26)) (.vl (nD b)) (.vl (nD s)) .no .no .no .no) S3 = .ok (.int j) S3 := by
          rw [hj]
          rfl
        refine op1_of (d := .tup (shwD 26 b s i j)) (callA_of (a5_of (d := nD 26) (e := nD b) (i := nD s) (j := .int i) (o := .int j) rfl rfl rfl n5 p5) (v_shown (by decide) (by decide) b1 s1 (by omega) (by omega) (by omega) S3)) ?_
        show some (D.int (((shwD 26 b s i j).length : Nat) : Int)) = _
        unfold shwD
        rw [List.length_map, List.length_range]
        rfl
      have z := gen (-5000) 5000 rfl rfl
      rw [show ((5000 : Int) + 1 - -5000).toNat = 10001 from by decide] at z
      exact z
    rw [wrg] at x2
    rw [t0] at x1
    have x3' := op2_of (g := dLe) (f2 := cst (.int 1)) x3 (d2 := nD 1) rfl (leN _ _)
    rw [decide_eq_true t1] at x3'
    exact asg_of (lst4 x1 x2 x3' x4)
  have gT : Gd 2 (4 * 2) (.lst [nD 0, .tup (natL [59]), .bl true, nD 10001]) := by
    refine gd_lst (h := 1) (n := 1) (ds := [nD 0, .tup (natL [59]), .bl true, nD 10001]) fun d hd => ?_
    simp only [List.mem_cons, List.not_mem_nil, or_false] at hd
    rcases hd with rfl | rfl | rfl | rfl
    · exact (gd_int (i := 0) (by decide)).mono (by decide) (by decide)
    · exact (gd_natT (l := [59]) fun n hn => by rw [List.mem_singleton.mp hn]; decide)
    · exact (gd_bl true).mono (by decide) (by decide)
    · exact (gd_int (i := 10001) (Nat.lt_of_lt_of_le (show 10001 < 10 ^ 5 by decide) (Nat.pow_le_pow_right (by decide) (by decide)))).mono (by decide) (by decide)
  have st6 : (ifS (notB (truB (callE m__law_same (consA (var 4) (consA (lstE (consA (cst (.int 0)) (consA (tupE (consA (cst (.int 59)) nilA)) (consA (cst (.bl true)) (consA (cst (.int 10001)) nilA))))) nilA))))) (retS (cst (.bl false))) skipS) (hEn (.vl (.lst (ys.map D.int))) (.vl (.tup (cs.map cD))) (.vl (.tup (bt.map cD))) (.vl (.lst [nD 0, .tup (natL [59]), .bl true, nD 10001])) .no (.vl (nD 26)) (.vl (nD b)) (.vl (nD s)) .no .no .no .no) S3 = .ok (.nx (hEn (.vl (.lst (ys.map D.int))) (.vl (.tup (cs.map cD))) (.vl (.tup (bt.map cD))) (.vl (.lst [nD 0, .tup (natL [59]), .bl true, nD 10001])) .no (.vl (nD 26)) (.vl (nD b)) (.vl (nD s)) .no .no .no .no)) S3 :=
    if_f (not_of (tru_ofE (call2_of (d := .lst [nD 0, .tup (natL [59]), .bl true, nD 10001]) (d2 := .lst [nD 0, .tup (natL [59]), .bl true, nD 10001]) rfl (lst4 rfl (tup1 rfl) rfl rfl) (v_same gT (by decide) (by decide) S3)) rfl))
  generalize D.lst [nD 0, .tup (natL [59]), .bl true, nD 10001] = T at st5 st6
  have st7 : (asgS 5 (lcE (itR2 (cst (.int 1)) (cst (.int 27))) (tgN 9) (truB (lcE (itS (callE m__law_rounds (consA (slcX (var 2) noP (partP (cst (.int 9)))) (consA (var 9) nilA)))) (tgN 12) (valB (op2 dEq (op2 dIxA (var 12) (cst (.int 0))) (cst (.int 0)))) (var 12) [12])) (var 9) [9])) (hEn (.vl (.lst (ys.map D.int))) (.vl (.tup (cs.map cD))) (.vl (.tup (bt.map cD))) (.vl T) .no (.vl (nD 26)) (.vl (nD b)) (.vl (nD s)) .no .no .no .no) S3 = .ok (.nx (hEn (.vl (.lst (ys.map D.int))) (.vl (.tup (cs.map cD))) (.vl (.tup (bt.map cD))) (.vl T) (.vl (.lst (natL (k :: ks)))) (.vl (nD 26)) (.vl (nD b)) (.vl (nD s)) .no .no .no .no)) S3 := by
    have lc := lcN (it := itR2 (cst (.int 1)) (cst (.int 27))) (t := tgN 9) (test := truB (lcE (itS (callE m__law_rounds (consA (slcX (var 2) noP (partP (cst (.int 9)))) (consA (var 9) nilA)))) (tgN 12) (valB (op2 dEq (op2 dIxA (var 12) (cst (.int 0))) (cst (.int 0)))) (var 12) [12])) (elt := var 9) (vs := [9]) (ρ := hEn (.vl (.lst (ys.map D.int))) (.vl (.tup (cs.map cD))) (.vl (.tup (bt.map cD))) (.vl T) .no (.vl (nD 26)) (.vl (nD b)) (.vl (nD s)) .no .no .no .no) (S := S3) (l := List.range' 1 (27 - 1)) nD nD (fun k => !(rnds (cs.take 9) k).isEmpty) (rng2 (lo := 1) (hi := 27) (by decide) (by decide) rfl rfl) (fun j hj => by
      obtain ⟨j1, j2⟩ := List.mem_range'_1.mp hj
      refine ⟨hEn (.vl (.lst (ys.map D.int))) (.vl (.tup (cs.map cD))) (.vl (.tup (bt.map cD))) (.vl T) .no (.vl (nD 26)) (.vl (nD b)) (.vl (nD s)) (.vl (nD j)) .no .no .no, rfl, ?_, fun _ => rfl⟩
      have z := zero_of (it := callE m__law_rounds (consA (slcX (var 2) noP (partP (cst (.int 9)))) (consA (var 9) nilA))) (i := 12) (cs := cs.take 9) (m := j) (ρ := hEn (.vl (.lst (ys.map D.int))) (.vl (.tup (cs.map cD))) (.vl (.tup (bt.map cD))) (.vl T) .no (.vl (nD 26)) (.vl (nD b)) (.vl (nD s)) (.vl (nD j)) .no .no .no) (S := S3) (call2_of (d := .tup ((cs.take 9).map cD)) (d2 := nD j) (sl_coins (k := 9) (by omega) rfl) rfl (v_lrounds ok9.x j1 (by omega) S3)) (by omega) (fun t => ⟨rfl, rfl⟩)
      have q := tru_ofE (k := !noF (cs.take 9) j) z (by
        show some (!(((trps (cs.take 9) j).filter fun t => decide (t.1 = 0)).map tD).isEmpty) = _
        rw [emp_map]
        rfl)
      rw [noF_emp j1] at q
      exact q) (by rw [List.length_range']; decide)
    rw [few] at lc
    exact asg_of lc
  have sl9 : slcX (var 2) noP (partP (cst (.int 9))) (hEn (.vl (.lst (ys.map D.int))) (.vl (.tup (cs.map cD))) (.vl (.tup (bt.map cD))) (.vl T) (.vl (.lst (natL (k :: ks)))) (.vl (nD 26)) (.vl (nD b)) (.vl (nD s)) .no .no .no .no) S3 = .ok (.tup ((cs.take 9).map cD)) S3 := sl_coins (k := 9) (by omega) rfl
  have f1 := v_fewest ok9 S3
  have f2 := v_fewest ok_0 S3
  have f3 := v_fewest ok_1 S3
  have f4 := v_fewest ok_2 S3
  rw [fewE] at f1
  rw [few_1] at f2
  rw [few_26] at f3
  rw [few_no] at f4
  have gL : Gd 1 (4 * 1) (.lst [nD k, nD 1, nD 26, .non]) := by
    refine gd_lst (h := 0) (n := 0) (ds := [nD k, nD 1, nD 26, .non]) fun d hd => ?_
    simp only [List.mem_cons, List.not_mem_nil, or_false] at hd
    rcases hd with rfl | rfl | rfl | rfl
    · exact gd_26 k26
    · exact gd_26 (by decide)
    · exact gd_26 (by decide)
    · exact gd_non
  refine ⟨S3, body_rt ((seq_nx st1).trans ((seq_nx st2).trans ((seq_nx st3).trans ((seq_nx st4).trans ((seq_nx st5).trans ((seq_nx st6).trans ((seq_nx st7).trans (ret_of ?_)))))))), v3⟩
  exact call2_of (d := .lst [nD k, nD 1, nD 26, .non]) (d2 := .lst [nD k, nD 1, nD 26, .non]) (lst4 (call1_of sl9 f1) (call1_of (d := .tup (([] : List Cn2).map cD)) (tupE_of nil_of (Nat.zero_le _)) f2) (call1_of (d := .tup (([(0, 25)] : List Cn2).map cD)) (tup1 (tup2 rfl rfl)) f3) (call1_of (d := .tup (([(0, 1), (0, 2)] : List Cn2).map cD)) (tup2 (tup2 rfl rfl) (tup2 rfl rfl)) f4)) (lst4 (op2_of (d1 := .lst (natL (k :: ks))) (d2 := nD 0) rfl rfl (show atI (natL (k :: ks)) ((0 : Nat) : Int) = some (nD k) from atI_nat rfl)) rfl rfl rfl) (v_same gL (by decide) (by decide) S3)
/-! ## the law -/
theorem start_eq : m__law_start = fnO 1 3 startB := rfl
theorem val_ok : Val := by
  intro ns hl
  obtain ⟨ds, e1, v⟩ := start_ok ns (by omega)
  have a1 : mkS 1 m__law_start (consA (var 0) nilA) [.vl (.scr ns), .no, .no] none = .ok (.nx [.vl (.scr ns), .vl .st, .no]) (some ds) := by
    rw [start_eq]
    unfold mkS bd
    rw [show (consA (var 0) nilA) [.vl (.scr ns), .no, .no] none = .ok [.scr ns] none from rfl]
    show (match fnO 1 3 startB [.scr ns] none with
      | .ok (.lst ds) none => Res.ok (Fl.nx _) (some ds)
      | _ => .no) = _
    rw [e1]
    rfl
  obtain ⟨r, S1, e2, hr, v1⟩ := v_draw v (n := 8) (by decide) (by decide)
  have t : valB (op2 dEq (callE m__law_draw (consA (var 1) (consA (cst (.int 8)) nilA))) (cst (.int 0))) [.vl (.scr ns), .vl .st, .no] (some ds) = .ok (decide (r = 0)) S1 := val_of (op2_of (d1 := nD r) (d2 := nD 0) (draw_of (i := 1) (k := 8) rfl rfl e2) rfl (eqN _ _))
  rw [e_law]
  by_cases h0 : r = 0
  · rw [decide_eq_true h0] at t
    obtain ⟨S2, e3, v2⟩ := v_great v1
    refine ⟨S2, body_rt ?_⟩
    rw [b_law]
    exact (seq_nx a1).trans (seq_rt ((if_t t).trans (ret_of (call1_of (d := .st) rfl e3))))
  · rw [decide_eq_false h0] at t
    obtain ⟨ρ', S', b1, ⟨tn', rfl⟩, v'⟩ := forL_inv (t := tgN 2) (b := (ifS (orB (notB (truB (callE m__law_rounds_hold (consA (var 1) nilA)))) (notB (truB (callE m__law_years_hold (consA (var 1) nilA))))) (retS (cst (.bl false))) skipS)) (ds := (List.range 2).map nD) (fun _ ρ S => (∃ tn : Slot, ρ = [.vl (.scr ns), .vl .st, tn]) ∧ Vs S) (fun i x ρ S hx ⟨⟨tn, hρ⟩, vS⟩ => by
      subst hρ
      obtain ⟨S3, e3, v3⟩ := v_rounds_hold vS
      obtain ⟨S4, e4, v4⟩ := v_years_hold v3
      exact ⟨[.vl (.scr ns), .vl .st, .vl x], [.vl (.scr ns), .vl .st, .vl x], S4, rfl, .inl ((if_f ((or_f (not_of (tru_ofE (call1_of (d := .st) rfl e3) rfl))).trans (not_of (tru_ofE (call1_of (d := .st) rfl e4) rfl)))).trans rfl), ⟨_, rfl⟩, v4⟩) (ρ := [.vl (.scr ns), .vl .st, .no]) (S := S1) ⟨⟨.no, rfl⟩, v1⟩
    refine ⟨S', body_rt ?_⟩
    rw [b_law]
    exact (seq_nx a1).trans ((seq_nx (if_f t)).trans ((seq_nx ((for_of (rng1 (n := 2) (by decide) rfl)).trans b1)).trans (ret_of rfl)))
end Hk21
theorem PySem.Challenge.cw_hoardsread_k21_officinae_holds : PySem.Challenge.rw_hoardsread_k21_officinae.Holds := by
  exact Hk21.holds Hk21.val_ok
