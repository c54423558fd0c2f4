import PyProof.Rows.All
import Wide.All
import OpenK.AllK
import Wide.FinOn
import HandS.ForMost
import HandS.Exc
import HandS.Evl
import HandS.Wide
import HandS.TupAny
import HandS.Flow
import HandS.IsInst
import HandS.Deep
import HandS.RaiseMore
import HandS.Walk
import HandS.Dict
import HandS.More
import HandS.SortInts
import HandS.TupMul
import HandS.DictComp
import HandS.Small
import HandS.Style
import KE.KTupSum
import KE.DataFind
import PyProof.ReprRoads
import HandS.Defaults
import HandS.Head0
import HandS.Head1
import HandS.Head2
import HandS.HeadEnd
import HandS.HeadHook1
import HandS.HeadHook2
import PyProof.ReprBulk
import PyProof.FitsInt
import KE.DataEq
import PySem.Challenge.RW_hoardsread_k13_counts
set_option Elab.async false
set_option linter.all false
set_option autoImplicit false
set_option maxRecDepth 100000
namespace Mini
open PySem PySem.Spec PyProof.Rows L2 Evl

/-! ### data -/
inductive D where
  | non | bl (b : Bool) | int (i : Int) | str (s : Str) | tup (ds : List D) | tpx (ds : List D) | lst (ds : List D) | dic (es : List (Key × D)) | dit (es : List (List Key × D)) | fn (n : Nat) | st | scr (ns : List Int)
abbrev DS := Option (List D)
inductive Res (α : Type) where
  | ok (a : α) (S : DS) | er (n : Nat) (p : D) (S : DS) | no
abbrev M (α : Type) := DS → Res α
def rt {α : Type} (a : α) : M α := fun S => .ok a S
def no {α : Type} : M α := fun _ => .no
def bd {α β : Type} (m : M α) (f : α → M β) : M β := fun S => match m S with
  | .ok a S' => f a S'
  | .er n p S' => .er n p S'
  | .no => .no
def lift {α : Type} (o : Option α) : M α := match o with
  | some a => rt a
  | none => no
inductive Slot where
  | no | vl (d : D) | ow (d : D)
abbrev En := List Slot
abbrev FE := En → M D
abbrev FB := En → M Bool
abbrev FA := En → M (List D)
inductive Fl where
  | nx (ρ : En) | rt (d : D) | bk (ρ : En) | ct (ρ : En)
abbrev FS := En → M Fl

/-! ### which value stands for which data -/
structure Wd where
  H0 : Hp
  sa : Option Addr
structure Cn where
  fa : Nat → Option Addr
  ca : Nat → Addr
  fld : Nat → Str
def kD : Key → D
  | .inl i => .int i
  | .inr x => .str x
/-- a text within the model's bounds -/
abbrev SOk (s : Str) : Prop := s.length ≤ 16777216 ∧ PyData.strOk s = true
section
variable (K : PySem.W.Frag) (c : Cn) (W : Wd)
mutual
def Rep : D → V → Prop
  | .non, v => v = .non
  | .bl b, v => v = .bl b
  | .int i, v => v = .int i
  | .str s, v => v = .str s ∧ SOk s
  | .tup ds, v => ∃ a vs, v = .ref a ∧ W.H0 a = some (.tup vs) ∧ RepL ds vs
  | .tpx ds, v => ∃ a vs o, v = .ref a ∧ W.H0 a = some (.frz o (.tup vs)) ∧ o.dict = none ∧ RepL ds vs
  | .lst ds, v => ∃ a vs, v = .ref a ∧ W.H0 a = some (.lst vs) ∧ RepL ds vs
  | .dic es, v => ∃ a kvs, v = .ref a ∧ W.H0 a = some (.dK kvs) ∧ RepE es kvs
  | .dit es, v => ∃ a kvs, v = .ref a ∧ W.H0 a = some (.dT kvs) ∧ RepT es kvs
  | .fn n, v => ∃ a, v = .ref a ∧ c.fa n = some a
  | .st, v => ∃ a, v = .ref a ∧ W.sa = some a
  | .scr ns, v => ∃ a, v = .ref a ∧ SqL K W.H0 a (ns.map V.int)
def RepL : List D → List V → Prop
  | [], vs => vs = []
  | d :: ds, vs => ∃ v r, vs = v :: r ∧ Rep d v ∧ RepL ds r
def RepE : List (Key × D) → List (Key × V) → Prop
  | [], vs => vs = []
  | e :: es, vs => ∃ v r, vs = (e.1, v) :: r ∧ RepP e v ∧ RepE es r
def RepP : Key × D → V → Prop
  | (_, d), v => Rep d v
def RepT : List (List Key × D) → List (List Key × V) → Prop
  | [], vs => vs = []
  | e :: es, vs => ∃ v r, vs = (e.1, v) :: r ∧ RepQ e v ∧ RepT es r
def RepQ : List Key × D → V → Prop
  | (_, d), v => Rep d v
end
end
def WEx (W W' : Wd) : Prop := Ex W.H0 W'.H0 ∧ ∀ a, W.sa = some a → W'.sa = some a
theorem WEx.refl (W : Wd) : WEx W W := ⟨Ex.refl _, fun _ h => h⟩
theorem WEx.trans {W W1 W2 : Wd} (h : WEx W W1) (k : WEx W1 W2) : WEx W W2 := ⟨h.1.trans k.1, fun a e => k.2 a (h.2 a e)⟩
section
variable {K : PySem.W.Frag} {c : Cn} {W W' : Wd}
mutual
theorem Rep.ext (e : WEx W W') : ∀ (d : D) (v : V), Rep K c W d v → Rep K c W' d v
  | .non, v, h => h
  | .bl b, v, h => h
  | .int i, v, h => h
  | .str s, v, h => h
  | .tup ds, v, h => by
    obtain ⟨a, vs, h1, h2, h3⟩ := h
    exact ⟨a, vs, h1, e.1 _ _ h2, RepL.ext e ds vs h3⟩
  | .tpx ds, v, h => by
    obtain ⟨a, vs, o, h1, h2, h3, h4⟩ := h
    exact ⟨a, vs, o, h1, e.1 _ _ h2, h3, RepL.ext e ds vs h4⟩
  | .lst ds, v, h => by
    obtain ⟨a, vs, h1, h2, h3⟩ := h
    exact ⟨a, vs, h1, e.1 _ _ h2, RepL.ext e ds vs h3⟩
  | .dic es, v, h => by
    obtain ⟨a, kvs, h1, h2, h3⟩ := h
    exact ⟨a, kvs, h1, e.1 _ _ h2, RepE.ext e es _ h3⟩
  | .dit es, v, h => by
    obtain ⟨a, kvs, h1, h2, h3⟩ := h
    exact ⟨a, kvs, h1, e.1 _ _ h2, RepT.ext e es _ h3⟩
  | .fn n, v, h => h
  | .st, v, h => by
    obtain ⟨a, h1, h2⟩ := h
    exact ⟨a, h1, e.2 a h2⟩
  | .scr ns, v, h => by
    obtain ⟨a, h1, h2⟩ := h
    exact ⟨a, h1, ex_l e.1 h2⟩
theorem RepL.ext (e : WEx W W') : ∀ (ds : List D) (vs : List V), RepL K c W ds vs → RepL K c W' ds vs
  | [], vs, h => h
  | d :: ds, vs, h => by
    obtain ⟨v, r, h1, h2, h3⟩ := h
    exact ⟨v, r, h1, Rep.ext e d v h2, RepL.ext e ds r h3⟩
theorem RepE.ext (e : WEx W W') : ∀ (es : List (Key × D)) (vs : List (Key × V)), RepE K c W es vs → RepE K c W' es vs
  | [], vs, h => h
  | p :: es, vs, h => by
    obtain ⟨v, r, h1, h2, h3⟩ := h
    exact ⟨v, r, h1, RepP.ext e p v h2, RepE.ext e es r h3⟩
theorem RepP.ext (e : WEx W W') : ∀ (p : Key × D) (v : V), RepP K c W p v → RepP K c W' p v
  | (_, d), v, h => Rep.ext e d v h
theorem RepT.ext (e : WEx W W') : ∀ (es : List (List Key × D)) (vs : List (List Key × V)), RepT K c W es vs → RepT K c W' es vs
  | [], vs, h => h
  | p :: es, vs, h => by
    obtain ⟨v, r, h1, h2, h3⟩ := h
    exact ⟨v, r, h1, RepQ.ext e p v h2, RepT.ext e es r h3⟩
theorem RepQ.ext (e : WEx W W') : ∀ (p : List Key × D) (v : V), RepQ K c W p v → RepQ K c W' p v
  | (_, d), v, h => Rep.ext e d v h
end
end
end Mini
namespace Mini
open PySem PySem.Spec PyProof.Rows L2 Evl

/-! ### the state's relation -/
section
variable (K : PySem.W.Frag) (c : Cn)
/-- an object of our own: its content is known, it is not in the frozen part -/
def Own (W : Wd) (H : Hp) (a : Addr) : D → Prop
  | .lst ds => ∃ vs, H a = some (.lst vs) ∧ RepL K c W ds vs
  | .dic es => ∃ kvs, H a = some (.dK kvs) ∧ RepE K c W es kvs
  | .dit es => ∃ kvs, H a = some (.dT kvs) ∧ RepT K c W es kvs
  | _ => False
/-- the draws' state -/
def DsOk (W : Wd) (H : Hp) : DS → Prop
  | none => W.sa = none
  | some ds => ∃ a vs, W.sa = some a ∧ W.H0 a = none ∧ H a = some (.lst vs) ∧ RepL K c W ds vs
structure StOk (W : Wd) (H : Hp) (S : DS) : Prop where
  sub : Ex W.H0 H
  ds : DsOk K c W H S
structure EnvOk (W : Wd) (H : Hp) (σ : L2.St) (ρ : En) : Prop where
  len : ρ.length = σ.length
  vl : ∀ (i : Nat) (d : D), ρ[i]? = some (.vl d) → ∃ v, σ[i]? = some (some v) ∧ Rep K c W d v
  ow : ∀ (i : Nat) (d : D), ρ[i]? = some (.ow d) → ∃ a, σ[i]? = some (some (.ref a)) ∧ W.H0 a = none ∧ W.sa ≠ some a ∧ Own K c W H a d
  sep : ∀ (i j : Nat) (d e : D) (a : Addr), ρ[i]? = some (.ow d) → ρ[j]? = some (.ow e) → σ[i]? = some (some (.ref a)) → σ[j]? = some (some (.ref a)) → i = j
end
/-- what an evaluation leaves: all but the draws' state stands; what was not frozen and stood is not frozen behind it -/
structure Keep (W : Wd) (H : Hp) (W' : Wd) (H' : Hp) : Prop where
  wex : WEx W W'
  old : ∀ b o, H b = some o → W.sa ≠ some b → H' b = some o
  fr : ∀ b o, H b = some o → W.H0 b = none → W'.H0 b = none
  sa : ∀ b o, H b = some o → W'.sa = some b → W.sa = some b
theorem Keep.refl (W : Wd) (H : Hp) : Keep W H W H := ⟨WEx.refl W, fun _ _ h _ => h, fun _ _ _ h => h, fun _ _ _ h => h⟩
section
variable {K : PySem.W.Frag} {c : Cn} {W W1 W2 W' : Wd} {H H1 H2 H' : Hp} {S S1 : DS} {σ : L2.St} {ρ : En}
theorem DsOk.at (h : DsOk K c W H S) {a : Addr} (e : W.sa = some a) : ∃ o, H a = some o := by
  cases S with
  | none => rw [show W.sa = none from h] at e; cases e
  | some ds =>
    obtain ⟨b, vs, h1, h2, h3, h4⟩ := h
    rw [h1] at e
    cases e
    exact ⟨_, h3⟩
theorem Keep.trans (st : StOk K c W1 H1 S1) (k1 : Keep W H W1 H1) (k2 : Keep W1 H1 W2 H2) (hd : ∀ b, W.sa = some b → ∃ o, H1 b = some o) : Keep W H W2 H2 where
  wex := k1.wex.trans k2.wex
  old := fun b o h n => by
    have h1 := k1.old b o h n
    refine k2.old b o h1 fun e => n ?_
    exact k1.sa b o h e
  fr := fun b o h n => by
    by_cases hs : W.sa = some b
    · obtain ⟨o1, ho1⟩ := hd b hs
      exact k2.fr b o1 ho1 (k1.fr b o h n)
    · exact k2.fr b o (k1.old b o h hs) (k1.fr b o h n)
  sa := fun b o h e => by
    by_cases hs : W.sa = some b
    · exact hs
    · exact k1.sa b o h (k2.sa b o (k1.old b o h hs) e)
theorem Keep.tr (k1 : Keep W H W1 H1) (st : StOk K c W1 H1 S1) (k2 : Keep W1 H1 W2 H2) : Keep W H W2 H2 :=
  Keep.trans st k1 k2 fun b e => st.ds.at (k1.wex.2 b e)
theorem Own.ext (e : WEx W W') {a : Addr} (hH : ∀ o, H a = some o → H' a = some o) : ∀ {d : D}, Own K c W H a d → Own K c W' H' a d
  | .lst ds, h => by
    obtain ⟨vs, h1, h2⟩ := h
    exact ⟨vs, hH _ h1, RepL.ext e ds vs h2⟩
  | .dic es, h => by
    obtain ⟨vs, h1, h2⟩ := h
    exact ⟨vs, hH _ h1, RepE.ext e es vs h2⟩
  | .dit es, h => by
    obtain ⟨vs, h1, h2⟩ := h
    exact ⟨vs, hH _ h1, RepT.ext e es vs h2⟩
theorem Own.some : ∀ {d : D} {a : Addr}, Own K c W H a d → ∃ o, H a = some o
  | .lst ds, a, h => by obtain ⟨vs, h1, _⟩ := h; exact ⟨_, h1⟩
  | .dic es, a, h => by obtain ⟨vs, h1, _⟩ := h; exact ⟨_, h1⟩
  | .dit es, a, h => by obtain ⟨vs, h1, _⟩ := h; exact ⟨_, h1⟩
theorem EnvOk.ext (e : EnvOk K c W H σ ρ) (k : Keep W H W' H') : EnvOk K c W' H' σ ρ where
  len := e.len
  vl := fun i d h => by
    obtain ⟨v, h1, h2⟩ := e.vl i d h
    exact ⟨v, h1, Rep.ext k.wex d v h2⟩
  ow := fun i d h => by
    obtain ⟨a, h1, h2, h3, h4⟩ := e.ow i d h
    obtain ⟨o, ho⟩ := h4.some
    exact ⟨a, h1, k.fr a o ho h2, fun q => h3 (k.sa a o ho q), h4.ext k.wex fun o q => k.old a o q h3⟩
  sep := e.sep
/-- content view: frozen, or an object that stands -/
def RepB (K : PySem.W.Frag) (c : Cn) (W : Wd) (H : Hp) (d : D) (v : V) : Prop := Rep K c W d v ∨ ∃ a, v = .ref a ∧ W.sa ≠ some a ∧ Own K c W H a d
theorem RepB.ext (k : Keep W H W' H') {d : D} {v : V} (h : RepB K c W H d v) : RepB K c W' H' d v := by
  rcases h with h | ⟨a, h1, h2, h3⟩
  · exact .inl (Rep.ext k.wex d v h)
  · obtain ⟨o, ho⟩ := h3.some
    exact .inr ⟨a, h1, fun q => h2 (k.sa a o ho q), h3.ext k.wex fun o q => k.old a o q h2⟩
/-- a fresh object -/
def RepO (K : PySem.W.Frag) (c : Cn) (H0 : Hp) (W : Wd) (H : Hp) (d : D) (v : V) : Prop := ∃ a, v = .ref a ∧ H0 a = none ∧ W.H0 a = none ∧ W.sa ≠ some a ∧ Own K c W H a d
/-- freeze it -/
def Wd.frz (W : Wd) (a : Addr) (o : HO) : Wd := ⟨upd W.H0 a o, W.sa⟩
theorem frz_ex {a : Addr} {o : HO} (h : W.H0 a = none) : WEx W (W.frz a o) := ⟨Ex.new h, fun _ e => e⟩
theorem frz_st {a : Addr} {o : HO} (st : StOk K c W H S) (h : W.H0 a = none) (hs : W.sa ≠ some a) (ho : H a = some o) : StOk K c (W.frz a o) H S where
  sub := fun b u e => by
    by_cases hb : b = a
    · subst hb
      have e' : upd W.H0 b o b = some u := e
      rw [upd_same] at e'
      cases e'
      exact ho
    · have e' : upd W.H0 a o b = some u := e
      rw [upd_ne hb] at e'
      exact st.sub b u e'
  ds := by
    have d := st.ds
    cases S with
    | none => exact d
    | some ds =>
      obtain ⟨b, vs, h1, h2, h3, h4⟩ := d
      refine ⟨b, vs, h1, ?_, h3, RepL.ext (frz_ex h) ds vs h4⟩
      show upd W.H0 a o b = none
      rw [upd_ne (fun z => hs (by rw [← z]; exact h1))]
      exact h2
theorem frz_rep {a : Addr} {o : HO} (h : W.H0 a = none) (ho : H a = some o) : ∀ {d : D}, Own K c W H a d → Rep K c (W.frz a o) d (.ref a)
  | .lst ds, q => by
    obtain ⟨vs, h1, h2⟩ := q
    rw [ho] at h1
    cases h1
    exact ⟨a, vs, rfl, upd_same, RepL.ext (frz_ex h) ds vs h2⟩
  | .dic es, q => by
    obtain ⟨vs, h1, h2⟩ := q
    rw [ho] at h1
    cases h1
    exact ⟨a, vs, rfl, upd_same, RepE.ext (frz_ex h) es vs h2⟩
  | .dit es, q => by
    obtain ⟨vs, h1, h2⟩ := q
    rw [ho] at h1
    cases h1
    exact ⟨a, vs, rfl, upd_same, RepT.ext (frz_ex h) es vs h2⟩
theorem Keep.frz {a : Addr} {o : HO} (k : Keep W H W' H') (hn : H a = none) (h : W'.H0 a = none) : Keep W H (W'.frz a o) H' where
  wex := k.wex.trans (frz_ex h)
  old := k.old
  fr := fun b u hb e => by
    show upd W'.H0 a o b = none
    rw [upd_ne (ne_of_none hb hn)]
    exact k.fr b u hb e
  sa := k.sa
end

/-! ### readings that say: as the function says -/
/-- what is wanted of an error: class n, what it was given p -/
def ErQ (K : PySem.W.Frag) (c : Cn) (W : Wd) (H : Hp) (E : XK) (n : Nat) (p : D) (S : DS) : Prop :=
  ∀ W' H' dd v, StOk K c W' H' S → Keep W H W' H' → H' dd = some (.xd [(c.fld n, v)]) → Rep K c W' p v → E (.ref (c.ca n)) (some dd) H'
section
variable (K : PySem.W.Frag) (c : Cn) (E : XK)
def tM (f : FE) : TE := fun σ H Q => ∃ W ρ S, StOk K c W H S ∧ EnvOk K c W H σ ρ ∧ match f ρ S with
  | .ok d S' => ∀ W' H' v, StOk K c W' H' S' → Keep W H W' H' → Rep K c W' d v → Q v H'
  | .er n p S' => ErQ K c W H E n p S'
  | .no => False
def tB (f : FE) : TE := fun σ H Q => ∃ W ρ S, StOk K c W H S ∧ EnvOk K c W H σ ρ ∧ match f ρ S with
  | .ok d S' => ∀ W' H' v, StOk K c W' H' S' → Keep W H W' H' → RepB K c W' H' d v → Q v H'
  | .er n p S' => ErQ K c W H E n p S'
  | .no => False
def tO (f : FE) : TE := fun σ H Q => ∃ W ρ S, StOk K c W H S ∧ EnvOk K c W H σ ρ ∧ match f ρ S with
  | .ok d S' => ∀ W' H' v, StOk K c W' H' S' → Keep W H W' H' → RepO K c H W' H' d v → Q v H'
  | .er n p S' => ErQ K c W H E n p S'
  | .no => False
def tT (f : FB) : TT := fun σ H Q => ∃ W ρ S, StOk K c W H S ∧ EnvOk K c W H σ ρ ∧ match f ρ S with
  | .ok d S' => ∀ W' H', StOk K c W' H' S' → Keep W H W' H' → Q d H'
  | .er n p S' => ErQ K c W H E n p S'
  | .no => False
def tA (f : FA) : TA := fun σ H Q => ∃ W ρ S, StOk K c W H S ∧ EnvOk K c W H σ ρ ∧ match f ρ S with
  | .ok ds S' => ∀ W' H' vs, StOk K c W' H' S' → Keep W H W' H' → RepL K c W' ds vs → Q vs H'
  | .er n p S' => ErQ K c W H E n p S'
  | .no => False
end
section
variable {X : Cx} {c : Cn} {E : XK} {e a b : Expr} {f g : FE} {pos : Pos}
/-- a reading that is implied -/
theorem pe_imp {e : Expr} {t t' : TE} (h : PE X e t) (i : ∀ σ H Q, t' σ H Q → t σ H Q) : PE X e t' := ⟨fun pins s σ H Q I q => h.run pins s σ H Q I (i σ H Q q)⟩
theorem pt_imp {e : Expr} {t t' : TT} (h : PT X e t) (i : ∀ σ H Q, t' σ H Q → t σ H Q) : PT X e t' := ⟨fun pins s σ H Q I q => h.run pins s σ H Q I (i σ H Q q)⟩
theorem pa_imp {e : List Expr} {t t' : TA} (h : PA X e t) (i : ∀ σ H Q, t' σ H Q → t σ H Q) : PA X e t' := ⟨fun pos pins s σ H Q I q => h.run pos pins s σ H Q I (i σ H Q q)⟩
theorem ps_imp {e : Stmt} {t t' : TS} (h : PS X e t) (i : ∀ D σ H, t' D σ H → t D σ H) : PS X e t' := ⟨fun pins s σ H D I q => h.run pins s σ H D I (i D σ H q)⟩
/-- frozen is a content -/
theorem b_of (h : PE X e (tM X.K c E f)) : PE X e (tB X.K c E f) := pe_imp h fun σ H Q ⟨W, ρ, S, st, en, q⟩ => ⟨W, ρ, S, st, en, by
  cases hf : f ρ S with
  | ok d S' =>
    rw [hf] at q
    exact fun W' H' v st' k r => q W' H' v st' k (.inl r)
  | er n p S' =>
    rw [hf] at q
    exact q
  | no =>
    rw [hf] at q
    exact q⟩
/-- a fresh object, frozen -/
theorem m_imp : ∀ σ H Q, tM X.K c E f σ H Q → tO X.K c E f σ H Q := fun σ H Q ⟨W, ρ, S, st, en, q⟩ => ⟨W, ρ, S, st, en, by
  cases hf : f ρ S with
  | ok d S' =>
    rw [hf] at q
    rintro W' H' v st' k ⟨a, rfl, h1, h2, h3, h4⟩
    obtain ⟨o, ho⟩ := h4.some
    exact q (W'.frz a o) H' _ (frz_st st' h2 h3 ho) (k.frz h1 h2) (frz_rep h2 ho h4)
  | er n p S' =>
    rw [hf] at q
    exact q
  | no =>
    rw [hf] at q
    exact q⟩
theorem m_of (h : PE X e (tO X.K c E f)) : PE X e (tM X.K c E f) := pe_imp h m_imp
/-- .. or read as it is -/
theorem b_ofO (h : PE X e (tO X.K c E f)) : PE X e (tB X.K c E f) := pe_imp h fun σ H Q ⟨W, ρ, S, st, en, q⟩ => ⟨W, ρ, S, st, en, by
  cases hf : f ρ S with
  | ok d S' =>
    rw [hf] at q
    rintro W' H' v st' k ⟨a, rfl, h1, h2, h3, h4⟩
    exact q W' H' _ st' k (.inr ⟨a, rfl, h3, h4⟩)
  | er n p S' =>
    rw [hf] at q
    exact q
  | no =>
    rw [hf] at q
    exact q⟩
end
end Mini
namespace Mini
open PySem PySem.Spec PyProof.Rows L2 Evl

/-! ### defs that run where no repr runs: FnG -/
structure FnG (P : Program) (w : World) (K : PySem.W.Frag) (mg : Str → Option Value) (base : Heap) (T : CXT) (n : Nat) (f : Addr) (fd : FuncData) (ps : List Str) (sp : Sp) : Prop where
  len : ∀ vs H Q E, sp vs H Q E → vs.length = ps.length
  run : ∀ (A : Around) (fr : List Env) (s : Shared) (H : Hp) (args : Args) (us : List Value) (vs : List V) (Q : VK) (E : XK), Room n A → A.guards = some [] →
    Env0 P w K mg base A fr s H → BindsTo s fd args (ps.zip us) → Vals vs us → sp vs H Q E → codeAny (model P w) A (.call (.ref f) args) (CR T fr P w H s Q E) s
section
variable {P : Program} {w : World} {K : PySem.W.Frag} {mg : Str → Option Value} {base : Heap} {T : CXT} {m n : Nat} {f : Addr} {fd : FuncData} {ps : List Str} {sp sp' : Sp}
theorem FnG.mono (F : FnG P w K mg base T m f fd ps sp) (h : m ≤ n) : FnG P w K mg base T n f fd ps sp where
  len := F.len
  run := fun A fr s H args us vs Q E r => F.run A fr s H args us vs Q E (r.mono h)
theorem FnG.imp (F : FnG P w K mg base T m f fd ps sp) (h : ∀ vs H Q E, sp' vs H Q E → sp vs H Q E) : FnG P w K mg base T m f fd ps sp' where
  len := fun vs H Q E q => F.len vs H Q E (h vs H Q E q)
  run := fun A fr s H args us vs Q E r g e b v q => F.run A fr s H args us vs Q E r g e b v (h vs H Q E q)
theorem FnG.ofOk (F : FnOk P w K mg base T m f fd ps sp) : FnG P w K mg base T m f fd ps sp where
  len := F.len
  run := fun A fr s H args us vs Q E r _ e b v q => F.run A fr s H args us vs Q E r e b v q
end
/-- a def by its body -/
theorem fnG_of {T : CXT} {P : Program} {w : World} {K : PySem.W.Frag} {mg : Str → Option Value} {base : Heap} {n : Nat} {f : Addr} {nm qual : Str} {params : Arguments} {body : List Stmt} {sc : Scope}
    {dV kV doc pm cdv ct oc : Value} {an od : Option Addr} {osl : Array (Option Value)} {N ps : List Str} {sp : Sp}
    (look : K.lookup f = some ⟨oc, od, .func (PySem.W.fnOf nm qual params body sc dV kV doc pm an cdv ct), osl⟩) (code : PySem.W.codeIn K cdv qual = true) (scope : FnScope N ps sc)
    (len : ∀ vs H Q E, sp vs H Q E → vs.length = ps.length)
    (step : ∀ (A : Around) (fr : List Env) (s : Shared) (H : Hp) (vs : List V) (Q : VK) (E : XK), Room n (A.deeper (envOfC qual sc s.heap.objs.size f cdv)) → A.guards = some [] → sp vs H Q E →
      ∃ t, PSs (cxOf T P w K mg base N qual sc f cdv A fr s H E) body t ∧ t { nx := fun _ H2 => Q .non H2, rt := Q } (start N vs) H) :
    FnG P w K mg base T (n + 1) f (PySem.W.fnOf nm qual params body sc dV kV doc pm an cdv ct) ps sp where
  len := len
  run := by
    intro A fr s H args us vs Q E room gd e0 bind rel want
    have size := len _ _ _ _ want
    have stays : ∀ b o, base.get? b = some o → s.heap.get? b = some o := fun b o q => (e0.bs b o q).1
    have kin : K.In s.heap := e0.mod.kin.keeps stays
    have nol : s.heap.NoLimit := e0.mod.nolimit.keeps stays
    refine codeAny_call_function room.depth (kin _ _ look) rfl scope.co scope.gen rfl (PySem.W.codeRec_of kin code) (bind _ _ _ _ ?_)
    refine wpAny_newFunctionEnv_cells scope.kind (fun p hp => ?_) fun en he s1 inCall => ?_
    · obtain ⟨x, v⟩ := p
      have hx : x ∈ ps := (List.of_mem_zip hp).1
      cases scope.par x hx with
      | inl h => exact Or.inl h
      | inr h => exact Or.inr ⟨h, PySem.W.cellsFrom_some _ _ _ (Or.inl h)⟩
    · subst he
      refine ⟨nol.keeps inCall.toInCall.keep, codeAny_func ?_⟩
      obtain ⟨t, der, rd⟩ := step A fr s H vs Q E (room.deeper _) gd want
      have I0 := inv_start (CX := T) (mg := mg) (base := base) (E := E) scope room.hd e0 size rel inCall
      refine wpAny_mono (der.run [] s1 (start N vs) H _ I0 rd) (fun fl s2 out => ?_) fun e s2 out => out
      cases fl with
      | next =>
        obtain ⟨σ2, H2, J, q⟩ := out
        exact ⟨V.non, H2, J.os, J.bare, J.base, J.hok, rfl, q⟩
      | ret u =>
        obtain ⟨v, σ2, H2, J, rv, q⟩ := out
        exact ⟨v, H2, J.os, J.bare, J.base, J.hok, rv, q⟩
      | brk =>
        obtain ⟨_, _, _, q⟩ := out
        exact q.elim
      | cont =>
        obtain ⟨_, _, _, q⟩ := out
        exact q.elim
section
variable {X : Cx} {T : CXT} {n : Nat} {f : Addr} {fd : FuncData} {ps : List Str} {sp : Sp} {dvs : List V} {ds : List Value} {E : XK} {x : Str} {p pos : Pos} {e : Expr} {es : List Expr} {t : TA}
/-- the call of a value that is such a def -/
theorem runG {pins : List (Addr × Obj)} {σ : L2.St} {H : Hp} {s : Shared} {Q : VK} {us : List Value} {vs : List V} (F : FnG X.prog X.w X.K X.mg X.base T n f fd ps sp) (room : Room n X.A) (gd : X.A.guards = some [])
    (hb : Binds X.K fd ps ds) (hd : Vals dvs ds) (hx : Passes T X E) (I : Inv X pins σ H s) (r : Vals vs us) (want : sp (vs ++ dvs) H Q E) : wpAny (model X.prog X.w) X.A (call (.ref f) us) (EP X pins σ Q) X.xe s := by
  have all := r.append hd
  have size : (us ++ ds).length = ps.length := all.length.symm.trans (F.len _ _ _ _ want)
  refine wpAny_call (codeAny_mono (F.run X.A X.stack s H ⟨us, []⟩ (us ++ ds) (vs ++ dvs) Q E room gd I.env0 (hb s us I.kIn size) all want) fun res s2 out => ?_)
  match res, out with
  | .error e, out => exact hx pins σ H s e s2 I out
  | .ok (.ret u), out => exact I.after out
theorem pe_callG (F : FnG X.prog X.w X.K X.mg X.base T n f fd ps sp) (room : Room n X.A) (gd : X.A.guards = some []) (hg : Gl X x) (hm : X.mg x = some (.ref f)) (hk : PySem.W.keepIn X.K (.ref f) = true)
    (hb : Binds X.K fd ps ds) (hd : Vals dvs ds) (hx : Passes T X E) (ha : PA X (e :: es) t) (hdb : (x == ("__debug__" : Str)) = false := by decide)
    (he : starEach (e :: es) X.env = (false, eval e X.env) :: starEach es X.env := by rfl) (hpl : (backTo pos (starEach es X.env)).any (·.1) = false := by rfl) : PE X (.Call (.Name x p) (e :: es) [] pos) (tCall sp dvs E t) where
  run := fun pins s σ H Q I h => by
    refine wpAny_Call_Name_kw (ld_glob I hg hm (PySem.W.callWith_K (h₀ := X.base) I.ok.mod.kin hk (thn (ha.run pos pins s σ H _ I h) ?_) he hpl) hdb)
    rintro us s1 ⟨vs, H1, I1, r, q⟩
    exact ⟨I1.kIn, runG F room gd hb hd hx I1 r q⟩
end
end Mini
namespace Mini
open PySem PySem.Spec PyProof.Rows L2 Evl

/-! ### the combinators: names, constants, operators -/
def slot (ρ : En) (i : Nat) : Option D := match ρ[i]? with
  | some (.vl d) => some d
  | _ => none
def slotB (ρ : En) (i : Nat) : Option D := match ρ[i]? with
  | some (.vl d) => some d
  | some (.ow d) => some d
  | _ => none
def var (i : Nat) : FE := fun ρ => lift (slot ρ i)
def varB (i : Nat) : FE := fun ρ => lift (slotB ρ i)
def cst (d : D) : FE := fun _ => rt d
def op1 (f : D → Option D) (a : FE) : FE := fun ρ => bd (a ρ) fun x => lift (f x)
def op2 (f : D → D → Option D) (a b : FE) : FE := fun ρ => bd (a ρ) fun x => bd (b ρ) fun y => lift (f x y)
def nilA : FA := fun _ => rt []
def consA (a : FE) (r : FA) : FA := fun ρ => bd (a ρ) fun x => bd (r ρ) fun xs => rt (x :: xs)
def tupE (a : FA) : FE := fun ρ => bd (a ρ) fun xs => if xs.length ≤ 16777216 then rt (.tup xs) else no
def lstE (a : FA) : FE := fun ρ => bd (a ρ) fun xs => if xs.length ≤ 16777216 then rt (.lst xs) else no
def iteE (t : FB) (a b : FE) : FE := fun ρ => bd (t ρ) fun k => if k then a ρ else b ρ
def notB (t : FB) : FB := fun ρ => bd (t ρ) fun k => rt (!k)
def andB (t u : FB) : FB := fun ρ => bd (t ρ) fun k => if k then u ρ else rt false
def orB (t u : FB) : FB := fun ρ => bd (t ρ) fun k => if k then rt true else u ρ
def isBl : D → Option Bool
  | .bl b => some b
  | _ => none
def valB (a : FE) : FB := fun ρ => bd (a ρ) fun x => lift (isBl x)
def truth : D → Option Bool
  | .non => some false
  | .bl b => some b
  | .int i => some (i != 0)
  | .str s => some ((s.length : Int) != 0)
  | .tup ds => some (!ds.isEmpty)
  | .tpx ds => some (!ds.isEmpty)
  | .lst ds => some (!ds.isEmpty)
  | _ => none
def truB (a : FE) : FB := fun ρ => bd (a ρ) fun x => lift (truth x)
def fnE (n : Nat) : FE := cst (.fn n)

section
variable {K : PySem.W.Frag} {c : Cn} {W W1 W' : Wd} {H H1 H' : Hp} {S S1 : DS} {σ : L2.St} {ρ : En} {E : XK}
theorem ErQ.pre {n : Nat} {p : D} {S' : DS} (h : ErQ K c W H E n p S') (k : Keep W H W1 H1) (st : StOk K c W1 H1 S1) : ErQ K c W1 H1 E n p S' :=
  fun W' H' dd v st' k' e r => h W' H' dd v st' (k.tr st k') e r
theorem slot_some {i : Nat} {d : D} (h : slot ρ i = some d) : ρ[i]? = some (.vl d) := by
  unfold slot at h
  split at h
  · cases h
    assumption
  · cases h
theorem slotB_some {i : Nat} {d : D} (h : slotB ρ i = some d) : ρ[i]? = some (.vl d) ∨ ρ[i]? = some (.ow d) := by
  unfold slotB at h
  split at h
  · cases h
    exact Or.inl (by assumption)
  · cases h
    exact Or.inr (by assumption)
  · cases h
/-- what a reading must do for a result -/
def OutM (K : PySem.W.Frag) (c : Cn) (W : Wd) (H : Hp) (E : XK) (Q : VK) : Res D → Prop
  | .ok d S' => ∀ W' H' v, StOk K c W' H' S' → Keep W H W' H' → Rep K c W' d v → Q v H'
  | .er n p S' => ErQ K c W H E n p S'
  | .no => False
def OutB (K : PySem.W.Frag) (c : Cn) (W : Wd) (H : Hp) (E : XK) (Q : VK) : Res D → Prop
  | .ok d S' => ∀ W' H' v, StOk K c W' H' S' → Keep W H W' H' → RepB K c W' H' d v → Q v H'
  | .er n p S' => ErQ K c W H E n p S'
  | .no => False
def OutO (K : PySem.W.Frag) (c : Cn) (W : Wd) (H : Hp) (E : XK) (Q : VK) : Res D → Prop
  | .ok d S' => ∀ W' H' v, StOk K c W' H' S' → Keep W H W' H' → RepO K c H W' H' d v → Q v H'
  | .er n p S' => ErQ K c W H E n p S'
  | .no => False
def OutT (K : PySem.W.Frag) (c : Cn) (W : Wd) (H : Hp) (E : XK) (Q : Bool → Hp → Prop) : Res Bool → Prop
  | .ok d S' => ∀ W' H', StOk K c W' H' S' → Keep W H W' H' → Q d H'
  | .er n p S' => ErQ K c W H E n p S'
  | .no => False
def OutA (K : PySem.W.Frag) (c : Cn) (W : Wd) (H : Hp) (E : XK) (Q : List V → Hp → Prop) : Res (List D) → Prop
  | .ok ds S' => ∀ W' H' vs, StOk K c W' H' S' → Keep W H W' H' → RepL K c W' ds vs → Q vs H'
  | .er n p S' => ErQ K c W H E n p S'
  | .no => False
theorem tM_mk {f : FE} {Q : VK} (st : StOk K c W H S) (en : EnvOk K c W H σ ρ) (h : OutM K c W H E Q (f ρ S)) : tM K c E f σ H Q := ⟨W, ρ, S, st, en, by
  cases e : f ρ S <;> rw [e] at h <;> exact h⟩
theorem tB_mk {f : FE} {Q : VK} (st : StOk K c W H S) (en : EnvOk K c W H σ ρ) (h : OutB K c W H E Q (f ρ S)) : tB K c E f σ H Q := ⟨W, ρ, S, st, en, by
  cases e : f ρ S <;> rw [e] at h <;> exact h⟩
theorem tO_mk {f : FE} {Q : VK} (st : StOk K c W H S) (en : EnvOk K c W H σ ρ) (h : OutO K c W H E Q (f ρ S)) : tO K c E f σ H Q := ⟨W, ρ, S, st, en, by
  cases e : f ρ S <;> rw [e] at h <;> exact h⟩
theorem tT_mk {f : FB} {Q : Bool → Hp → Prop} (st : StOk K c W H S) (en : EnvOk K c W H σ ρ) (h : OutT K c W H E Q (f ρ S)) : tT K c E f σ H Q := ⟨W, ρ, S, st, en, by
  cases e : f ρ S <;> rw [e] at h <;> exact h⟩
theorem tA_mk {f : FA} {Q : List V → Hp → Prop} (st : StOk K c W H S) (en : EnvOk K c W H σ ρ) (h : OutA K c W H E Q (f ρ S)) : tA K c E f σ H Q := ⟨W, ρ, S, st, en, by
  cases e : f ρ S <;> rw [e] at h <;> exact h⟩
theorem tM_un {f : FE} {Q : VK} (h : tM K c E f σ H Q) : ∃ W ρ S, StOk K c W H S ∧ EnvOk K c W H σ ρ ∧ OutM K c W H E Q (f ρ S) := by
  obtain ⟨W, ρ, S, st, en, q⟩ := h
  exact ⟨W, ρ, S, st, en, by cases e : f ρ S <;> rw [e] at q <;> exact q⟩
theorem tB_un {f : FE} {Q : VK} (h : tB K c E f σ H Q) : ∃ W ρ S, StOk K c W H S ∧ EnvOk K c W H σ ρ ∧ OutB K c W H E Q (f ρ S) := by
  obtain ⟨W, ρ, S, st, en, q⟩ := h
  exact ⟨W, ρ, S, st, en, by cases e : f ρ S <;> rw [e] at q <;> exact q⟩
theorem tO_un {f : FE} {Q : VK} (h : tO K c E f σ H Q) : ∃ W ρ S, StOk K c W H S ∧ EnvOk K c W H σ ρ ∧ OutO K c W H E Q (f ρ S) := by
  obtain ⟨W, ρ, S, st, en, q⟩ := h
  exact ⟨W, ρ, S, st, en, by cases e : f ρ S <;> rw [e] at q <;> exact q⟩
theorem tT_un {f : FB} {Q : Bool → Hp → Prop} (h : tT K c E f σ H Q) : ∃ W ρ S, StOk K c W H S ∧ EnvOk K c W H σ ρ ∧ OutT K c W H E Q (f ρ S) := by
  obtain ⟨W, ρ, S, st, en, q⟩ := h
  exact ⟨W, ρ, S, st, en, by cases e : f ρ S <;> rw [e] at q <;> exact q⟩
theorem tA_un {f : FA} {Q : List V → Hp → Prop} (h : tA K c E f σ H Q) : ∃ W ρ S, StOk K c W H S ∧ EnvOk K c W H σ ρ ∧ OutA K c W H E Q (f ρ S) := by
  obtain ⟨W, ρ, S, st, en, q⟩ := h
  exact ⟨W, ρ, S, st, en, by cases e : f ρ S <;> rw [e] at q <;> exact q⟩
/-- one step, then the rest: for each kind of end (O: what the whole is to reach) -/
theorem then_M {f : FE} {β : Type} {g : D → M β} {Q : VK} {O : Res β → Prop} (st : StOk K c W H S) (en : EnvOk K c W H σ ρ) (hO : ∀ n p S', O (.er n p S') → ErQ K c W H E n p S') (hN : ¬ O .no)
    (h : O (bd (f ρ) g S)) (k : ∀ d S' W' H' v, StOk K c W' H' S' → Keep W H W' H' → Rep K c W' d v → O (g d S') → Q v H') : tM K c E f σ H Q := by
  refine tM_mk st en ?_
  unfold bd at h
  cases e : f ρ S with
  | ok d S' =>
    rw [e] at h
    exact fun W' H' v st' k' r => k d S' W' H' v st' k' r h
  | er n p S' =>
    rw [e] at h
    exact hO n p S' h
  | no =>
    rw [e] at h
    exact hN h
theorem then_B {f : FE} {β : Type} {g : D → M β} {Q : VK} {O : Res β → Prop} (st : StOk K c W H S) (en : EnvOk K c W H σ ρ) (hO : ∀ n p S', O (.er n p S') → ErQ K c W H E n p S') (hN : ¬ O .no)
    (h : O (bd (f ρ) g S)) (k : ∀ d S' W' H' v, StOk K c W' H' S' → Keep W H W' H' → RepB K c W' H' d v → O (g d S') → Q v H') : tB K c E f σ H Q := by
  refine tB_mk st en ?_
  unfold bd at h
  cases e : f ρ S with
  | ok d S' =>
    rw [e] at h
    exact fun W' H' v st' k' r => k d S' W' H' v st' k' r h
  | er n p S' =>
    rw [e] at h
    exact hO n p S' h
  | no =>
    rw [e] at h
    exact hN h
theorem then_T {f : FB} {β : Type} {g : Bool → M β} {Q : Bool → Hp → Prop} {O : Res β → Prop} (st : StOk K c W H S) (en : EnvOk K c W H σ ρ) (hO : ∀ n p S', O (.er n p S') → ErQ K c W H E n p S') (hN : ¬ O .no)
    (h : O (bd (f ρ) g S)) (k : ∀ d S' W' H', StOk K c W' H' S' → Keep W H W' H' → O (g d S') → Q d H') : tT K c E f σ H Q := by
  refine tT_mk st en ?_
  unfold bd at h
  cases e : f ρ S with
  | ok d S' =>
    rw [e] at h
    exact fun W' H' st' k' => k d S' W' H' st' k' h
  | er n p S' =>
    rw [e] at h
    exact hO n p S' h
  | no =>
    rw [e] at h
    exact hN h
theorem then_A {f : FA} {β : Type} {g : List D → M β} {Q : List V → Hp → Prop} {O : Res β → Prop} (st : StOk K c W H S) (en : EnvOk K c W H σ ρ) (hO : ∀ n p S', O (.er n p S') → ErQ K c W H E n p S') (hN : ¬ O .no)
    (h : O (bd (f ρ) g S)) (k : ∀ d S' W' H' v, StOk K c W' H' S' → Keep W H W' H' → RepL K c W' d v → O (g d S') → Q v H') : tA K c E f σ H Q := by
  refine tA_mk st en ?_
  unfold bd at h
  cases e : f ρ S with
  | ok d S' =>
    rw [e] at h
    exact fun W' H' v st' k' r => k d S' W' H' v st' k' r h
  | er n p S' =>
    rw [e] at h
    exact hO n p S' h
  | no =>
    rw [e] at h
    exact hN h
/-- a lifted end -/
theorem lift_ok {α β : Type} {o : Option α} {O : Res α → Prop} (hN : ¬ O .no) (h : O (lift o S)) : ∃ a, o = some a ∧ O (.ok a S) := by
  cases o with
  | none => exact absurd h hN
  | some a => exact ⟨a, rfl, h⟩
/-- the ends' errors behind a step -/
theorem OutM.pre {Q Q' : VK} {r : Res D} (h : OutM K c W H E Q r) (k : Keep W H W1 H1) (st : StOk K c W1 H1 S1) : OutM K c W1 H1 E Q r := by
  cases r with
  | ok d S' => exact fun W' H' v st' k' r => h W' H' v st' (k.tr st k') r
  | er n p S' => exact ErQ.pre h k st
  | no => exact h
theorem OutB.pre {Q : VK} {r : Res D} (h : OutB K c W H E Q r) (k : Keep W H W1 H1) (st : StOk K c W1 H1 S1) : OutB K c W1 H1 E Q r := by
  cases r with
  | ok d S' => exact fun W' H' v st' k' r => h W' H' v st' (k.tr st k') r
  | er n p S' => exact ErQ.pre h k st
  | no => exact h
theorem RepO.pre {H0 : Hp} {d : D} {v : V} (k : Keep W H W1 H1) (hs : ∀ b, W.sa = some b → ∃ o, H1 b = some o) (h : RepO K c H1 W' H' d v) : RepO K c H W' H' d v := by
  obtain ⟨a, e, h1, h2⟩ := h
  refine ⟨a, e, ?_, h2⟩
  cases q : H a with
  | none => rfl
  | some o =>
    by_cases z : W.sa = some a
    · obtain ⟨o', ho'⟩ := hs a z
      rw [h1] at ho'
      cases ho'
    · rw [k.old a o q z] at h1
      cases h1
theorem OutO.pre {Q : VK} {r : Res D} (h : OutO K c W H E Q r) (k : Keep W H W1 H1) (st : StOk K c W1 H1 S1) : OutO K c W1 H1 E Q r := by
  cases r with
  | ok d S' => exact fun W' H' v st' k' r => h W' H' v st' (k.tr st k') (RepO.pre (H0 := H) k (fun b e => st.ds.at (k.wex.2 b e)) r)
  | er n p S' => exact ErQ.pre h k st
  | no => exact h
theorem OutT.pre {Q : Bool → Hp → Prop} {r : Res Bool} (h : OutT K c W H E Q r) (k : Keep W H W1 H1) (st : StOk K c W1 H1 S1) : OutT K c W1 H1 E Q r := by
  cases r with
  | ok d S' => exact fun W' H' st' k' => h W' H' st' (k.tr st k')
  | er n p S' => exact ErQ.pre h k st
  | no => exact h
theorem OutA.pre {Q : List V → Hp → Prop} {r : Res (List D)} (h : OutA K c W H E Q r) (k : Keep W H W1 H1) (st : StOk K c W1 H1 S1) : OutA K c W1 H1 E Q r := by
  cases r with
  | ok d S' => exact fun W' H' v st' k' r => h W' H' v st' (k.tr st k') r
  | er n p S' => exact ErQ.pre h k st
  | no => exact h
end
/-! ### what an operator's rule gives, said of data -/
def OpM (K : PySem.W.Frag) (c : Cn) (r : R2) (f : D → D → Option D) : Prop := ∀ {W : Wd} {H : Hp} {S : DS} {d e d' : D} {v u : V} (Q : VK), StOk K c W H S → RepB K c W H d v → RepB K c W H e u → f d e = some d' →
  (∀ W' H' x, StOk K c W' H' S → Keep W H W' H' → Rep K c W' d' x → Q x H') → r v u H Q
def OpO (K : PySem.W.Frag) (c : Cn) (r : R2) (f : D → D → Option D) : Prop := ∀ {W : Wd} {H : Hp} {S : DS} {d e d' : D} {v u : V} (Q : VK), StOk K c W H S → RepB K c W H d v → RepB K c W H e u → f d e = some d' →
  (∀ W' H' x, StOk K c W' H' S → Keep W H W' H' → RepO K c H W' H' d' x → Q x H') → r v u H Q
section
variable {X : Cx} {c : Cn} {E : XK} {a b e : Expr} {fa fb : FE} {pos : Pos}
theorem op2_out {f : D → D → Option D} {r : R2} (hr : OpM X.K c r f) : ∀ σ H Q, tM X.K c E (op2 f fa fb) σ H Q → tOp r (tB X.K c E fa) (tB X.K c E fb) σ H Q := fun σ H Q h => by
  obtain ⟨W, ρ, S, st, en, q⟩ := tM_un h
  refine then_B (O := OutM X.K c W H E Q) st en (fun _ _ _ z => z) (fun z => z) q fun d S1 W1 H1 v st1 k1 r1 q1 => ?_
  refine then_B (O := OutM X.K c W1 H1 E Q) st1 (en.ext k1) (fun _ _ _ z => z) (fun z => z) (q1.pre (Q' := Q) k1 st1) fun d2 S2 W2 H2 u st2 k2 r2 q2 => ?_
  obtain ⟨d', e', q3⟩ := lift_ok (β := D) (O := OutM X.K c W1 H1 E Q) (fun z => z) q2
  exact hr Q st2 (r1.ext k2) r2 e' fun W' H' x st' k' rx => q3 W' H' x st' (k2.tr st2 k') rx
theorem op2_outO {f : D → D → Option D} {r : R2} (hr : OpO X.K c r f) : ∀ σ H Q, tO X.K c E (op2 f fa fb) σ H Q → tOp r (tB X.K c E fa) (tB X.K c E fb) σ H Q := fun σ H Q h => by
  obtain ⟨W, ρ, S, st, en, q⟩ := tO_un h
  refine then_B (O := OutO X.K c W H E Q) st en (fun _ _ _ z => z) (fun z => z) q fun d S1 W1 H1 v st1 k1 r1 q1 => ?_
  refine then_B (O := OutO X.K c W1 H1 E Q) st1 (en.ext k1) (fun _ _ _ z => z) (fun z => z) (q1.pre k1 st1) fun d2 S2 W2 H2 u st2 k2 r2 q2 => ?_
  obtain ⟨d', e', q3⟩ := lift_ok (β := D) (O := OutO X.K c W1 H1 E Q) (fun z => z) q2
  exact hr Q st2 (r1.ext k2) r2 e' fun W' H' x st' k' rx => q3 W' H' x st' (k2.tr st2 k') (RepO.pre (H0 := H1) k2 (fun b e => st2.ds.at (k2.wex.2 b e)) rx)
theorem me_bin {op : Operator} {f : D → D → Option D} {r : R2} (ho : OpR X (binaryOp op) r) (hr : OpM X.K c r f) (ha : PE X a (tB X.K c E fa)) (hb : PE X b (tB X.K c E fb)) : PE X (.BinOp a op b pos) (tM X.K c E (op2 f fa fb)) :=
  pe_imp (pe_op ho ha hb) (op2_out hr)
theorem me_binO {op : Operator} {f : D → D → Option D} {r : R2} (ho : OpR X (binaryOp op) r) (hr : OpO X.K c r f) (ha : PE X a (tB X.K c E fa)) (hb : PE X b (tB X.K c E fb)) : PE X (.BinOp a op b pos) (tO X.K c E (op2 f fa fb)) :=
  pe_imp (pe_op ho ha hb) (op2_outO hr)
theorem me_cmp {op : CmpOp} {f : D → D → Option D} {r : R2} (ho : OpR X (compareOp op) r) (hr : OpM X.K c r f) (ha : PE X a (tB X.K c E fa)) (hb : PE X b (tB X.K c E fb)) (hm : behindInMarks op b = false) : PE X (.Compare a [op] [b] pos) (tM X.K c E (op2 f fa fb)) :=
  pe_imp (pe_cmpR ho ha hb hm) (op2_out hr)
theorem me_ix {f : D → D → Option D} {r : R2} (ho : IxR X r) (hr : OpM X.K c r f) (ha : PE X a (tB X.K c E fa)) (hb : PE X b (tB X.K c E fb)) (hs : PlainIx b) : PE X (.Subscript a b pos) (tM X.K c E (op2 f fa fb)) :=
  pe_imp (pe_ix ho ha hb hs) (op2_out hr)
/-- a bool's value as a test -/
theorem val_out {te : TE} {f : FE} (h : ∀ σ H Q, tM X.K c E f σ H Q → te σ H Q) : ∀ σ H Q, tT X.K c E (valB f) σ H Q → tTest te σ H Q := fun σ H Q q => by
  obtain ⟨W, ρ, S, st, en, q⟩ := tT_un q
  refine h σ H _ (then_M (O := OutT X.K c W H E Q) st en (fun _ _ _ z => z) (fun z => z) q fun d S1 W1 H1 v st1 k1 r1 q1 => ?_)
  obtain ⟨k, e', q3⟩ := lift_ok (β := Bool) (O := OutT X.K c W H E Q) (fun z => z) q1
  cases d <;> first | (cases e'; done) | skip
  cases e'
  cases r1
  exact ⟨_, rfl, q3 W1 H1 st1 k1⟩
theorem mt_cmp {op : CmpOp} {f : D → D → Option D} {r : R2} (ho : OpR X (compareOp op) r) (hr : OpM X.K c r f) (ha : PE X a (tB X.K c E fa)) (hb : PE X b (tB X.K c E fb)) (hm : behindInMarks op b = false) : PT X (.Compare a [op] [b] pos) (tT X.K c E (valB (op2 f fa fb))) :=
  pt_imp (pt_cmpR ho ha hb hm) (val_out (op2_out hr))
/-! names, constants -/
theorem me_var {i : Nat} {x : Str} (hN : X.N[i]? = some x) (hv : Vis X.env.scope x) (hd : (x == ("__debug__" : Str)) = false := by decide) (hcd : (x == ("__classdict__" : Str)) = false := by decide) : PE X (.Name x pos) (tM X.K c E (var i)) :=
  pe_imp (pe_var hN hv hd hcd) fun σ H Q h => by
    obtain ⟨W, ρ, S, st, en, q⟩ := tM_un h
    obtain ⟨d, e', q1⟩ := lift_ok (β := D) (O := OutM X.K c W H E Q) (fun z => z) q
    obtain ⟨v, h1, h2⟩ := en.vl i d (slot_some e')
    exact ⟨v, h1, q1 W H v st (Keep.refl W H) h2⟩
theorem me_varB {i : Nat} {x : Str} (hN : X.N[i]? = some x) (hv : Vis X.env.scope x) (hd : (x == ("__debug__" : Str)) = false := by decide) (hcd : (x == ("__classdict__" : Str)) = false := by decide) : PE X (.Name x pos) (tB X.K c E (varB i)) :=
  pe_imp (pe_var hN hv hd hcd) fun σ H Q h => by
    obtain ⟨W, ρ, S, st, en, q⟩ := tB_un h
    obtain ⟨d, e', q1⟩ := lift_ok (β := D) (O := OutB X.K c W H E Q) (fun z => z) q
    rcases slotB_some e' with z | z
    · obtain ⟨v, h1, h2⟩ := en.vl i d z
      exact ⟨v, h1, q1 W H v st (Keep.refl W H) (Or.inl h2)⟩
    · obtain ⟨a, h1, _, h3, h4⟩ := en.ow i d z
      exact ⟨_, h1, q1 W H _ st (Keep.refl W H) (Or.inr ⟨a, rfl, h3, h4⟩)⟩
theorem me_cst {d : D} {v : V} (he : PE X e (tC v)) (hr : ∀ W, Rep X.K c W d v) : PE X e (tM X.K c E (cst d)) :=
  pe_imp he fun σ H Q h => by
    obtain ⟨W, ρ, S, st, en, q⟩ := tM_un h
    exact q W H v st (Keep.refl W H) (hr W)
theorem me_int {i : Int} {j : Nat} : PE X (.Constant (.int i) j pos) (tM X.K c E (cst (.int i))) := me_cst pe_int fun _ => rfl
theorem me_bl {i : Bool} {j : Nat} : PE X (.Constant (.bool i) j pos) (tM X.K c E (cst (.bl i))) := me_cst pe_bl fun _ => rfl
theorem me_non {j : Nat} : PE X (.Constant .none j pos) (tM X.K c E (cst .non)) := me_cst pe_non fun _ => rfl
theorem me_str {x : Str} {j : Nat} (h : SOk x := by decide +kernel) : PE X (.Constant (.str x) j pos) (tM X.K c E (cst (.str x))) := me_cst pe_str fun _ => ⟨rfl, h⟩
/-- a module's constant: an int, a text -/
theorem me_gint {x : Str} {i : Int} {u : Value} (hg : Gl X x) (hm : X.mg x = some u) (r : RelV (.int i) u) (hd : (x == ("__debug__" : Str)) = false := by decide) : PE X (.Name x pos) (tM X.K c E (cst (.int i))) := me_cst (pe_glob hg hm r hd) fun _ => rfl
theorem me_gstr {x y : Str} {u : Value} (hg : Gl X x) (hm : X.mg x = some u) (r : RelV (.str y) u) (h : SOk y := by decide +kernel) (hd : (x == ("__debug__" : Str)) = false := by decide) : PE X (.Name x pos) (tM X.K c E (cst (.str y))) := me_cst (pe_glob hg hm r hd) fun _ => ⟨rfl, h⟩
theorem me_gfn {x : Str} {n : Nat} {f : Addr} (hg : Gl X x) (hm : X.mg x = some (.ref f)) (r : c.fa n = some f) (hd : (x == ("__debug__" : Str)) = false := by decide) : PE X (.Name x pos) (tM X.K c E (fnE n)) :=
  me_cst (v := .ref f) (pe_glob hg hm rfl hd) fun _ => ⟨f, rfl, r⟩
/-! arguments, displays -/
theorem ma_nil : PA X [] (tA X.K c E nilA) := pa_imp pa_nil fun σ H Q h => by
  obtain ⟨W, ρ, S, st, en, q⟩ := tA_un h
  exact q W H [] st (Keep.refl W H) rfl
theorem ma_cons {es : List Expr} {r : FA} (ha : PE X e (tM X.K c E fa)) (hr : PA X es (tA X.K c E r)) (hs : starEach (e :: es) X.env = (false, eval e X.env) :: starEach es X.env := by rfl) : PA X (e :: es) (tA X.K c E (consA fa r)) :=
  pa_imp (pa_cons ha hr hs) fun σ H Q h => by
    obtain ⟨W, ρ, S, st, en, q⟩ := tA_un h
    refine then_M (O := OutA X.K c W H E Q) st en (fun _ _ _ z => z) (fun z => z) q fun d S1 W1 H1 v st1 k1 r1 q1 => ?_
    refine then_A (O := OutA X.K c W1 H1 E Q) st1 (en.ext k1) (fun _ _ _ z => z) (fun z => z) (q1.pre k1 st1) fun d2 S2 W2 H2 u st2 k2 r2 q2 => ?_
    exact q2 W2 H2 _ st2 k2 ⟨v, u, rfl, Rep.ext k2.wex d v r1, r2⟩
theorem RepL.length {K : PySem.W.Frag} {W : Wd} : ∀ {ds : List D} {vs : List V}, RepL K c W ds vs → vs.length = ds.length
  | [], vs, h => by cases h; rfl
  | d :: ds, vs, h => by
    obtain ⟨v, r, rfl, _, h3⟩ := h
    rw [List.length_cons, List.length_cons, RepL.length h3]
end
end Mini
namespace Mini
open PySem PySem.Spec PyProof.Rows L2 Evl
section
variable {K : PySem.W.Frag} {c : Cn} {W W1 W' : Wd} {H H1 H' : Hp} {S S1 : DS} {σ : L2.St} {ρ : En} {E : XK}
theorem line_le {n : Nat} (h : n ≤ 16777216) : n ≤ sizeLine := by rw [sizeLine_eq]; exact h
theorem line_lt {n : Nat} (h : n < 16777216) : n < sizeLine := by rw [sizeLine_eq]; exact h
theorem OutA.no_er {Q : List V → Hp → Prop} : ¬ OutA K c W H E Q .no := fun z => z
/-- a new tuple is laid: frozen -/
theorem lay_keep {p : Addr} {o : HO} (st : StOk K c W H S) (hp : H p = none) : Keep W H (W.frz p o) (upd H p o) where
  wex := ⟨Ex.new (fresh_back st.sub hp), fun _ e => e⟩
  old := fun b u h _ => by rw [upd_ne (ne_of_none h hp)]; exact h
  fr := fun b u h e => by
    show upd W.H0 p o b = none
    rw [upd_ne (ne_of_none h hp)]
    exact e
  sa := fun _ _ _ e => e
theorem DsOk.keep {W' : Wd} {H' : Hp} (d : DsOk K c W H S) (k : Keep W H W' H') (hs : W'.sa = W.sa) (hh : ∀ a, W.sa = some a → H' a = H a) : DsOk K c W' H' S := by
  cases S with
  | none => exact hs.trans d
  | some ds =>
    obtain ⟨a, vs, h1, h2, h3, h4⟩ := d
    exact ⟨a, vs, hs.trans h1, k.fr a _ h3 h2, (hh a h1).trans h3, RepL.ext k.wex ds vs h4⟩
theorem sa_ne {p : Addr} (st : StOk K c W H S) (hp : H p = none) : W.sa ≠ some p := fun e => by
  obtain ⟨o, ho⟩ := st.ds.at e
  rw [hp] at ho
  cases ho
theorem lay_st {p : Addr} {o : HO} (st : StOk K c W H S) (hp : H p = none) : StOk K c (W.frz p o) (upd H p o) S where
  sub := fun b u e => by
    have e' : upd W.H0 p o b = some u := e
    by_cases hb : b = p
    · subst hb
      rw [upd_same] at e' ⊢
      exact e'
    · rw [upd_ne hb] at e' ⊢
      exact st.sub b u e'
  ds := st.ds.keep (lay_keep st hp) rfl fun a e => upd_ne fun z => sa_ne st hp (by rw [← z]; exact e)
/-- a new object is laid: our own -/
theorem new_keep {p : Addr} {o : HO} (st : StOk K c W H S) (hp : H p = none) : Keep W H W (upd H p o) where
  wex := WEx.refl W
  old := fun b u h _ => by rw [upd_ne (ne_of_none h hp)]; exact h
  fr := fun _ _ _ e => e
  sa := fun _ _ _ e => e
theorem new_st {p : Addr} {o : HO} (st : StOk K c W H S) (hp : H p = none) : StOk K c W (upd H p o) S where
  sub := fun b u e => by
    have q := st.sub b u e
    rw [upd_ne (ne_of_none q hp)]
    exact q
  ds := st.ds.keep (new_keep st hp) rfl fun a e => upd_ne fun z => sa_ne st hp (by rw [← z]; exact e)
theorem new_own {p : Addr} {ds : List D} {vs : List V} (st : StOk K c W H S) (hp : H p = none) (r : RepL K c W ds vs) : RepO K c H W (upd H p (.lst vs)) (.lst ds) (.ref p) :=
  ⟨p, rfl, hp, fresh_back st.sub hp, sa_ne st hp, vs, upd_same, r⟩
theorem new_tup {p : Addr} {ds : List D} {vs : List V} (st : StOk K c W H S) (hp : H p = none) (r : RepL K c W ds vs) : Rep K c (W.frz p (.tup vs)) (.tup ds) (.ref p) :=
  ⟨p, vs, rfl, upd_same, RepL.ext (frz_ex (fresh_back st.sub hp)) ds vs r⟩
theorem repL_nil {ds : List D} {vs : List V} (r : RepL K c W ds vs) : vs.isEmpty = ds.isEmpty := by
  cases ds with
  | nil => cases r; rfl
  | cons d ds => obtain ⟨v, r', rfl, _⟩ := r; rfl
/-- a list's or a tuple's content -/
theorem RepB.lst {ds : List D} {v : V} (st : StOk K c W H S) (r : RepB K c W H (.lst ds) v) : ∃ a vs, v = .ref a ∧ H a = some (.lst vs) ∧ RepL K c W ds vs := by
  rcases r with ⟨a, vs, h1, h2, h3⟩ | ⟨a, h1, _, vs, h2, h3⟩
  · exact ⟨a, vs, h1, st.sub _ _ h2, h3⟩
  · exact ⟨a, vs, h1, h2, h3⟩
theorem RepB.tup {ds : List D} {v : V} (st : StOk K c W H S) (r : RepB K c W H (.tup ds) v) : ∃ a vs, v = .ref a ∧ H a = some (.tup vs) ∧ W.H0 a = some (.tup vs) ∧ RepL K c W ds vs := by
  rcases r with ⟨a, vs, h1, h2, h3⟩ | ⟨a, h1, _, h2⟩
  · exact ⟨a, vs, h1, st.sub _ _ h2, h2, h3⟩
  · cases h2
theorem RepB.tpx {ds : List D} {v : V} (st : StOk K c W H S) (r : RepB K c W H (.tpx ds) v) : ∃ a vs, v = .ref a ∧ SqT K H a vs ∧ RepL K c W ds vs := by
  rcases r with ⟨a, vs, o, h1, h2, h3, h4⟩ | ⟨a, h1, _, h2⟩
  · exact ⟨a, vs, h1, .inl (.inr ⟨o, st.sub _ _ h2⟩), h4⟩
  · cases h2
theorem RepB.tpo {ds : List D} {v : V} (st : StOk K c W H S) (r : RepB K c W H (.tpx ds) v) : ∃ a vs o, v = .ref a ∧ H a = some (.frz o (.tup vs)) ∧ o.dict = none ∧ RepL K c W ds vs := by
  rcases r with ⟨a, vs, o, h1, h2, h3, h4⟩ | ⟨a, h1, _, h2⟩
  · exact ⟨a, vs, o, h1, st.sub _ _ h2, h3, h4⟩
  · cases h2
theorem RepB.int {i : Int} {v : V} (r : RepB K c W H (.int i) v) : v = .int i := by
  rcases r with h | ⟨a, h1, _, h2⟩
  · exact h
  · cases h2
theorem RepB.bl {i : Bool} {v : V} (r : RepB K c W H (.bl i) v) : v = .bl i := by
  rcases r with h | ⟨a, h1, _, h2⟩
  · exact h
  · cases h2
theorem RepB.str {i : Str} {v : V} (r : RepB K c W H (.str i) v) : v = .str i ∧ SOk i := by
  rcases r with h | ⟨a, h1, _, h2⟩
  · exact h
  · cases h2
theorem RepB.non {v : V} (r : RepB K c W H .non v) : v = .non := by
  rcases r with h | ⟨a, h1, _, h2⟩
  · exact h
  · cases h2
/-- truth -/
theorem tru_of {d : D} {v : V} {b : Bool} (st : StOk K c W H S) (r : RepB K c W H d v) (h : truth d = some b) : TruV K v H b := by
  cases d with
  | non => rw [r.non]; cases h; rfl
  | bl k => rw [r.bl]; cases h; rfl
  | int i => rw [r.int]; cases h; rfl
  | str s =>
    obtain ⟨rfl, hs, _⟩ := r.str
    cases h
    exact ⟨line_le hs, rfl⟩
  | tpx ds =>
    obtain ⟨a, vs, rfl, h1, h2⟩ := r.tpx st
    cases h
    exact Or.inr (Or.inl ⟨vs, h1, by rw [repL_nil h2]⟩)
  | tup ds =>
    obtain ⟨a, vs, rfl, h1, _, h2⟩ := r.tup st
    cases h
    exact Or.inr (Or.inl ⟨vs, SqT.of h1, by rw [repL_nil h2]⟩)
  | lst ds =>
    obtain ⟨a, vs, rfl, h1, h2⟩ := r.lst st
    cases h
    exact Or.inl ⟨vs, SqL.of h1, by rw [repL_nil h2]⟩
  | dic es => cases h
  | dit es => cases h
  | fn n => cases h
  | st => cases h
  | scr ns => cases h
end
section
variable {X : Cx} {c : Cn} {E : XK} {a b e : Expr} {es rest : List Expr} {fa fb : FE} {ga : FA} {ta tb : FB} {pos : Pos}
theorem me_tup {x1} (h : PA X es (tA X.K c E ga)) : PE X (.Tuple es x1 pos) (tM X.K c E (tupE ga)) :=
  pe_imp (pe_tup h) fun σ H Q h => by
    obtain ⟨W, ρ, S, st, en, q⟩ := tM_un h
    refine then_A (O := OutM X.K c W H E Q) st en (fun _ _ _ z => z) (fun z => z) q fun ds S1 W1 H1 vs st1 k1 r1 q1 => ?_
    split at q1
    · refine ⟨line_le (by rw [RepL.length r1]; assumption), fun p hp => ?_⟩
      exact q1 _ _ _ (lay_st st1 hp) (k1.tr st1 (lay_keep st1 hp)) (new_tup st1 hp r1)
    · exact q1.elim
theorem me_lst (h : PA X es (tA X.K c E ga)) : PE X (.List es pos) (tO X.K c E (lstE ga)) :=
  pe_imp (pe_lst h) fun σ H Q h => by
    obtain ⟨W, ρ, S, st, en, q⟩ := tO_un h
    refine then_A (O := OutO X.K c W H E Q) st en (fun _ _ _ z => z) (fun z => z) q fun ds S1 W1 H1 vs st1 k1 r1 q1 => ?_
    split at q1
    · refine ⟨line_le (by rw [RepL.length r1]; assumption), fun p hp => ?_⟩
      exact q1 _ _ _ (new_st st1 hp) (k1.tr st1 (new_keep st1 hp)) (RepO.pre (H0 := H1) k1 (fun b e => st1.ds.at (k1.wex.2 b e)) (new_own st1 hp r1))
    · exact q1.elim
/-! tests -/
theorem mt_tru (ha : PE X e (tB X.K c E fa)) (he : ∀ whole, isTrue e X.env whole = (do let v ← whole; standAt e.pos; holding [v] (truthy v)) := by intro _; rfl) : PT X e (tT X.K c E (truB fa)) :=
  pt_imp (pt_truth ha he) fun σ H Q h => by
    obtain ⟨W, ρ, S, st, en, q⟩ := tT_un h
    refine then_B (O := OutT X.K c W H E Q) st en (fun _ _ _ z => z) (fun z => z) q fun d S1 W1 H1 v st1 k1 r1 q1 => ?_
    obtain ⟨k, e', q3⟩ := lift_ok (β := Bool) (O := OutT X.K c W H E Q) (fun z => z) q1
    exact ⟨k, tru_of st1 r1 e', q3 W1 H1 st1 k1⟩
theorem mt_not (ha : PT X e (tT X.K c E ta)) : PT X (.UnaryOp .Not e pos) (tT X.K c E (notB ta)) :=
  pt_imp (pt_not ha) fun σ H Q h => by
    obtain ⟨W, ρ, S, st, en, q⟩ := tT_un h
    exact then_T (O := OutT X.K c W H E Q) st en (fun _ _ _ z => z) (fun z => z) q fun d S1 W1 H1 st1 k1 q1 => q1 W1 H1 st1 k1
theorem mw_and1 (ha : PT X e (tT X.K c E ta)) : PW X (.BoolOp .And [e] pos) (tT X.K c E ta) := pw_and1 ha
theorem mw_or1 (ha : PT X e (tT X.K c E ta)) : PW X (.BoolOp .Or [e] pos) (tT X.K c E ta) := pw_or1 ha
theorem pw_imp {e : Expr} {t t' : TT} (h : PW X e t) (i : ∀ σ H Q, t' σ H Q → t σ H Q) : PW X e t' := ⟨fun wh pins s σ H Q I q => h.run wh pins s σ H Q I (i σ H Q q)⟩
theorem mw_and (ha : PT X a (tT X.K c E ta)) (hb : PW X (.BoolOp .And (b :: rest) pos) (tT X.K c E tb)) : PW X (.BoolOp .And (a :: b :: rest) pos) (tT X.K c E (andB ta tb)) :=
  pw_imp (pw_and ha hb) fun σ H Q h => by
    obtain ⟨W, ρ, S, st, en, q⟩ := tT_un h
    refine then_T (O := OutT X.K c W H E Q) st en (fun _ _ _ z => z) (fun z => z) q fun d S1 W1 H1 st1 k1 q1 => ?_
    cases d with
    | true => exact tT_mk st1 (en.ext k1) (OutT.pre q1 k1 st1)
    | false => exact q1 W1 H1 st1 k1
theorem mw_or (ha : PT X a (tT X.K c E ta)) (hb : PW X (.BoolOp .Or (b :: rest) pos) (tT X.K c E tb)) : PW X (.BoolOp .Or (a :: b :: rest) pos) (tT X.K c E (orB ta tb)) :=
  pw_imp (pw_or ha hb) fun σ H Q h => by
    obtain ⟨W, ρ, S, st, en, q⟩ := tT_un h
    refine then_T (O := OutT X.K c W H E Q) st en (fun _ _ _ z => z) (fun z => z) q fun d S1 W1 H1 st1 k1 q1 => ?_
    cases d with
    | false => exact tT_mk st1 (en.ext k1) (OutT.pre q1 k1 st1)
    | true => exact q1 W1 H1 st1 k1
theorem me_ite {t : Expr} (ht : PT X t (tT X.K c E ta)) (ha : PE X a (tM X.K c E fa)) (hb : PE X b (tM X.K c E fb)) : PE X (.IfExp t a b pos) (tM X.K c E (iteE ta fa fb)) :=
  pe_imp (pe_ifExp ht ha hb) fun σ H Q h => by
    obtain ⟨W, ρ, S, st, en, q⟩ := tM_un h
    refine then_T (O := OutM X.K c W H E Q) st en (fun _ _ _ z => z) (fun z => z) q fun d S1 W1 H1 st1 k1 q1 => ?_
    cases d with
    | true => exact tM_mk st1 (en.ext k1) (OutM.pre (Q' := Q) q1 k1 st1)
    | false => exact tM_mk st1 (en.ext k1) (OutM.pre (Q' := Q) q1 k1 st1)
theorem me_iteO {t : Expr} (ht : PT X t (tT X.K c E ta)) (ha : PE X a (tO X.K c E fa)) (hb : PE X b (tO X.K c E fb)) : PE X (.IfExp t a b pos) (tO X.K c E (iteE ta fa fb)) :=
  pe_imp (pe_ifExp ht ha hb) fun σ H Q h => by
    obtain ⟨W, ρ, S, st, en, q⟩ := tO_un h
    refine then_T (O := OutO X.K c W H E Q) st en (fun _ _ _ z => z) (fun z => z) q fun d S1 W1 H1 st1 k1 q1 => ?_
    cases d with
    | true => exact tO_mk st1 (en.ext k1) (OutO.pre q1 k1 st1)
    | false => exact tO_mk st1 (en.ext k1) (OutO.pre q1 k1 st1)
/-! and, or, not as values (of bools) -/
def blE (t : FB) : FE := fun ρ => bd (t ρ) fun k => rt (.bl k)
theorem me_one {op : BoolOp} {f : FE} (h : PE X a (tM X.K c E f)) : PE X (.BoolOp op [a] pos) (tM X.K c E f) := pe_one h
def andE (a b : FE) : FE := fun ρ => bd (a ρ) fun x => match x with
  | .bl true => b ρ
  | .bl false => rt (.bl false)
  | _ => no
def orE (a b : FE) : FE := fun ρ => bd (a ρ) fun x => match x with
  | .bl true => rt (.bl true)
  | .bl false => b ρ
  | _ => no
def notE (a : FE) : FE := fun ρ => bd (a ρ) fun x => lift ((truth x).map fun k => .bl (!k))
theorem me_and (ha : PE X a (tM X.K c E fa)) (hb : PE X (.BoolOp .And (b :: rest) pos) (tM X.K c E fb)) : PE X (.BoolOp .And (a :: b :: rest) pos) (tM X.K c E (andE fa fb)) :=
  pe_imp (pe_and ha hb) fun σ H Q h => by
    obtain ⟨W, ρ, S, st, en, q⟩ := tM_un h
    refine then_M (O := OutM X.K c W H E Q) st en (fun _ _ _ z => z) (fun z => z) q fun d S1 W1 H1 v st1 k1 r1 q1 => ?_
    cases d <;> first | exact (show False from q1).elim | skip
    rename_i k
    cases r1
    refine ⟨k, rfl, ?_⟩
    cases k with
    | true => exact tM_mk st1 (en.ext k1) (OutM.pre (Q' := Q) q1 k1 st1)
    | false => exact q1 W1 H1 _ st1 k1 rfl
theorem me_or (ha : PE X a (tM X.K c E fa)) (hb : PE X (.BoolOp .Or (b :: rest) pos) (tM X.K c E fb)) : PE X (.BoolOp .Or (a :: b :: rest) pos) (tM X.K c E (orE fa fb)) :=
  pe_imp (pe_or ha hb) fun σ H Q h => by
    obtain ⟨W, ρ, S, st, en, q⟩ := tM_un h
    refine then_M (O := OutM X.K c W H E Q) st en (fun _ _ _ z => z) (fun z => z) q fun d S1 W1 H1 v st1 k1 r1 q1 => ?_
    cases d <;> first | exact (show False from q1).elim | skip
    rename_i k
    cases r1
    refine ⟨k, rfl, ?_⟩
    cases k with
    | false => exact tM_mk st1 (en.ext k1) (OutM.pre (Q' := Q) q1 k1 st1)
    | true => exact q1 W1 H1 _ st1 k1 rfl
theorem me_not (ha : PE X e (tB X.K c E fa)) : PE X (.UnaryOp .Not e pos) (tM X.K c E (notE fa)) :=
  pe_imp (pe_notT ha) fun σ H Q h => by
    obtain ⟨W, ρ, S, st, en, q⟩ := tM_un h
    refine then_B (O := OutM X.K c W H E Q) st en (fun _ _ _ z => z) (fun z => z) q fun d S1 W1 H1 v st1 k1 r1 q1 => ?_
    obtain ⟨x, e', q3⟩ := lift_ok (β := D) (O := OutM X.K c W H E Q) (fun z => z) q1
    cases ht : truth d with
    | none => rw [ht] at e'; cases e'
    | some k =>
      rw [ht] at e'
      cases e'
      exact ⟨k, tru_of st1 r1 ht, q3 W1 H1 _ st1 k1 rfl⟩
end
end Mini
namespace Mini
open PySem PySem.Spec PyProof.Rows L2 Evl

/-! ### data for == -/
mutual
def D.pure : D → Bool
  | .non => true
  | .bl _ => true
  | .int _ => true
  | .str _ => true
  | .tup ds => pureL ds
  | .tpx ds => pureL ds
  | .lst ds => pureL ds
  | .dic _ => false
  | .dit _ => false
  | .fn _ => false
  | .st => false
  | .scr _ => false
def pureL : List D → Bool
  | [] => true
  | d :: ds => d.pure && pureL ds
end
mutual
def D.py : D → PyData
  | .non => .none
  | .bl b => .bool b
  | .int i => .int i
  | .str s => .str s
  | .tup ds => .tuple (pyL ds)
  | .tpx ds => .tuple (pyL ds)
  | .lst ds => .list (pyL ds)
  | .dic _ => .none
  | .dit _ => .none
  | .fn _ => .none
  | .st => .none
  | .scr _ => .none
def pyL : List D → List PyData
  | [] => []
  | d :: ds => d.py :: pyL ds
end
section
variable {K : PySem.W.Frag} {c : Cn} {W W' : Wd} {H H' : Hp} {S : DS}
mutual
theorem rep_dp (e : Ex W.H0 H) : ∀ (d : D) (v : V), Rep K c W d v → d.pure = true → Dp K H v d.py ∧ d.py.canLay0 = true
  | .non, v, h, _ => by
    cases h
    exact ⟨by simp only [D.py]; exact .non, by simp only [D.py, PyData.canLay0]⟩
  | .bl b, v, h, _ => by
    cases h
    exact ⟨by simp only [D.py]; exact .bl b, by simp only [D.py, PyData.canLay0]⟩
  | .int i, v, h, _ => by
    cases h
    exact ⟨by simp only [D.py]; exact .int i, by simp only [D.py, PyData.canLay0]⟩
  | .str s, v, h, _ => by
    obtain ⟨rfl, h1, h2⟩ := h
    exact ⟨by simp only [D.py]; exact .str s, by simp only [D.py, PyData.canLay0]; exact h2⟩
  | .tup ds, v, h, p => by
    obtain ⟨a, vs, rfl, h1, h2⟩ := h
    obtain ⟨q1, q2⟩ := repL_dp e ds vs h2 (by simpa only [D.pure] using p)
    exact ⟨by simp only [D.py]; exact .tup (SqT.of (e _ _ h1)) q1, by simp only [D.py, PyData.canLay0]; exact q2⟩
  | .tpx ds, v, h, p => by
    obtain ⟨a, vs, o, rfl, h1, _, h2⟩ := h
    obtain ⟨q1, q2⟩ := repL_dp e ds vs h2 (by simpa only [D.pure] using p)
    exact ⟨by simp only [D.py]; exact .tup (.inl (.inr ⟨o, e _ _ h1⟩)) q1, by simp only [D.py, PyData.canLay0]; exact q2⟩
  | .lst ds, v, h, p => by
    obtain ⟨a, vs, rfl, h1, h2⟩ := h
    obtain ⟨q1, q2⟩ := repL_dp e ds vs h2 (by simpa only [D.pure] using p)
    exact ⟨by simp only [D.py]; exact .lst (SqL.of (e _ _ h1)) q1, by simp only [D.py, PyData.canLay0]; exact q2⟩
  | .dic es, v, h, p => by simp [D.pure] at p
  | .dit es, v, h, p => by simp [D.pure] at p
  | .fn n, v, h, p => by simp [D.pure] at p
  | .st, v, h, p => by simp [D.pure] at p
  | .scr ns, v, h, p => by simp [D.pure] at p
theorem repL_dp (e : Ex W.H0 H) : ∀ (ds : List D) (vs : List V), RepL K c W ds vs → pureL ds = true → DpAll K H vs (pyL ds) ∧ PyData.canLayAll0 (pyL ds) = true
  | [], vs, h, _ => by
    cases h
    exact ⟨by simp only [pyL]; exact .nil, by simp only [pyL, PyData.canLayAll0]⟩
  | d :: ds, vs, h, p => by
    obtain ⟨v, r, rfl, h1, h2⟩ := h
    simp only [pureL, Bool.and_eq_true] at p
    obtain ⟨q1, q2⟩ := rep_dp e d v h1 p.1
    obtain ⟨q3, q4⟩ := repL_dp e ds r h2 p.2
    exact ⟨by simp only [pyL]; exact .cons q1 q3, by simp only [pyL, PyData.canLayAll0, q2, q4, Bool.and_self]⟩
end
theorem repB_dp (st : StOk K c W H S) {d : D} {v : V} (r : RepB K c W H d v) (p : d.pure = true) : Dp K H v d.py ∧ d.py.canLay0 = true := by
  rcases r with r | ⟨a, rfl, _, h⟩
  · exact rep_dp st.sub d v r p
  · cases d with
    | lst ds =>
      obtain ⟨vs, h1, h2⟩ := h
      obtain ⟨q1, q2⟩ := repL_dp st.sub ds vs h2 (by simpa only [D.pure] using p)
      exact ⟨by simp only [D.py]; exact .lst (SqL.of h1) q1, by simp only [D.py, PyData.canLay0]; exact q2⟩
    | dic es => simp [D.pure] at p
    | dit es => simp [D.pure] at p
    | _ => cases h
end
/-- may be compared: data, not too deep -/
def okEq (d : D) : Bool := d.pure && decide (d.py.depth ≤ 64)
theorem okEq_shaped {K : PySem.W.Frag} {c : Cn} {W : Wd} {H : Hp} {S : DS} (st : StOk K c W H S) {d : D} {v : V} (r : RepB K c W H d v) (h : okEq d = true) : Dp K H v d.py ∧ SeqAt.shaped d.py = true := by
  unfold okEq at h
  rw [Bool.and_eq_true] at h
  obtain ⟨q1, q2⟩ := repB_dp st r h.1
  refine ⟨q1, ?_⟩
  show (d.py.canLay0 && decide (d.py.depth ≤ 64)) = true
  rw [q2, h.2]
  rfl
def dEqv (x y : D) : Bool := PyData.eqv x.py y.py
def dEq (x y : D) : Option D := if okEq x && okEq y then some (.bl (dEqv x y)) else none
def dNe (x y : D) : Option D := if okEq x && okEq y then some (.bl (!dEqv x y)) else none
def intsOf : List D → Option (List Int)
  | [] => some []
  | .int i :: ds => (intsOf ds).map (i :: ·)
  | _ :: _ => none
def blsOf : List D → Option (List Bool)
  | [] => some []
  | .bl i :: ds => (blsOf ds).map (i :: ·)
  | _ :: _ => none
def strsOf : List D → Option (List Str)
  | [] => some []
  | .str i :: ds => (strsOf ds).map (i :: ·)
  | _ :: _ => none
def dAdd : D → D → Option D
  | .int i, .int j => some (.int (i + j))
  | .str a, .str b => if a.length + b.length ≤ 16777216 then some (.str (a ++ b)) else none
  | .tup a, .tup b => if a.length + b.length ≤ 16777216 then some (.tup (a ++ b)) else none
  | .lst a, .lst b => if a.length + b.length ≤ 16777216 then some (.lst (a ++ b)) else none
  | _, _ => none
def dSub : D → D → Option D
  | .int i, .int j => some (.int (i - j))
  | _, _ => none
def dMul : D → D → Option D
  | .int i, .int j => if i.natAbs.log2 + j.natAbs.log2 < 1000000 then some (.int (i * j)) else none
  | _, _ => none
def dDiv : D → D → Option D
  | .int i, .int j => if 0 < j ∧ j.natAbs.log2 < 9000 then some (.int (i / j)) else none
  | _, _ => none
def dMod : D → D → Option D
  | .int i, .int j => if 0 < j then some (.int (i % j)) else none
  | _, _ => none
def dPow : D → D → Option D
  | .int i, .int j => if 0 ≤ j ∧ j ≤ 1000000 ∧ i.natAbs < 2 ^ 64 then some (.int (i ^ j.toNat)) else none
  | _, _ => none
def dLt : D → D → Option D
  | .int i, .int j => some (.bl (decide (i < j)))
  | _, _ => none
def dLe : D → D → Option D
  | .int i, .int j => some (.bl (decide (i ≤ j)))
  | _, _ => none
def dGt : D → D → Option D
  | .int i, .int j => some (.bl (decide (j < i)))
  | _, _ => none
def dGe : D → D → Option D
  | .int i, .int j => some (.bl (decide (j ≤ i)))
  | _, _ => none
def isNon : D → Bool
  | .non => true
  | _ => false
def dIs : D → D → Option D
  | x, .non => some (.bl (isNon x))
  | _, _ => none
def dIsNot : D → D → Option D
  | x, .non => some (.bl (!isNon x))
  | _, _ => none
/-- x[i] of a list, a tuple, a text -/
def dIx : D → D → Option D
  | .lst ds, .int i => atI ds i
  | .tup ds, .int i => atI ds i
  | .tpx ds, .int i => atI ds i
  | .str s, .int i => (atI s.cps.toList i).map fun c => .str ⟨#[c]⟩
  | _, _ => none
section
variable {K : PySem.W.Frag} {c : Cn} {W W' : Wd} {H H' : Hp} {S : DS}
theorem ints_rep : ∀ {ds : List D} {ns : List Int} {vs : List V}, intsOf ds = some ns → RepL K c W ds vs → vs = ns.map V.int
  | [], ns, vs, h, r => by cases h; cases r; rfl
  | d :: ds, ns, vs, h, r => by
    obtain ⟨v, r', rfl, h1, h2⟩ := r
    cases d <;> first | (simp [intsOf] at h; done) | skip
    simp only [intsOf, Option.map_eq_some_iff] at h
    obtain ⟨ms, e1, rfl⟩ := h
    cases h1
    rw [List.map_cons, ints_rep e1 h2]
theorem bls_rep : ∀ {ds : List D} {ns : List Bool} {vs : List V}, blsOf ds = some ns → RepL K c W ds vs → vs = ns.map V.bl
  | [], ns, vs, h, r => by cases h; cases r; rfl
  | d :: ds, ns, vs, h, r => by
    obtain ⟨v, r', rfl, h1, h2⟩ := r
    cases d <;> first | (simp [blsOf] at h; done) | skip
    simp only [blsOf, Option.map_eq_some_iff] at h
    obtain ⟨ms, e1, rfl⟩ := h
    cases h1
    rw [List.map_cons, bls_rep e1 h2]
theorem strs_rep : ∀ {ds : List D} {ns : List Str} {vs : List V}, strsOf ds = some ns → RepL K c W ds vs → vs = ns.map V.str ∧ ∀ s ∈ ns, SOk s
  | [], ns, vs, h, r => by cases h; cases r; exact ⟨rfl, fun _ z => nomatch z⟩
  | d :: ds, ns, vs, h, r => by
    obtain ⟨v, r', rfl, h1, h2⟩ := r
    cases d <;> first | (simp [strsOf] at h; done) | skip
    simp only [strsOf, Option.map_eq_some_iff] at h
    obtain ⟨ms, e1, rfl⟩ := h
    obtain ⟨rfl, hs⟩ := h1
    obtain ⟨q1, q2⟩ := strs_rep e1 h2
    refine ⟨by rw [List.map_cons, q1], fun s hm => ?_⟩
    rcases List.mem_cons.mp hm with rfl | hm
    · exact hs
    · exact q2 s hm
theorem repL_get : ∀ {ds : List D} {vs : List V} {j : Nat} {d : D}, RepL K c W ds vs → ds[j]? = some d → ∃ v, vs[j]? = some v ∧ Rep K c W d v
  | [], _, _, _, _, h => by simp at h
  | d :: ds, vs, j, d', r, h => by
    obtain ⟨v, r', rfl, h1, h2⟩ := r
    cases j with
    | zero =>
      simp only [List.getElem?_cons_zero, Option.some.injEq] at h
      subst h
      exact ⟨v, rfl, h1⟩
    | succ j =>
      rw [List.getElem?_cons_succ] at h ⊢
      exact repL_get h2 h
theorem repL_at {ds : List D} {vs : List V} {i : Int} {d : D} (r : RepL K c W ds vs) (h : atI ds i = some d) : ∃ v, atI vs i = some v ∧ Rep K c W d v := by
  unfold atI at h ⊢
  rw [RepL.length r]
  cases e : ixN ds.length i with
  | none => rw [e] at h; cases h
  | some j =>
    rw [e] at h
    exact repL_get r h
theorem repL_append : ∀ {ds es : List D} {vs us : List V}, RepL K c W ds vs → RepL K c W es us → RepL K c W (ds ++ es) (vs ++ us)
  | [], _, vs, _, r, r2 => by cases r; exact r2
  | d :: ds, es, vs, us, r, r2 => by
    obtain ⟨v, r', rfl, h1, h2⟩ := r
    exact ⟨v, _, rfl, h1, repL_append h2 r2⟩
theorem repL_take : ∀ {ds : List D} {vs : List V} (n : Nat), RepL K c W ds vs → RepL K c W (ds.take n) (vs.take n)
  | [], vs, n, r => by cases r; simp only [List.take_nil]; rfl
  | d :: ds, vs, n, r => by
    obtain ⟨v, r', rfl, h1, h2⟩ := r
    cases n with
    | zero => exact (rfl : RepL K c W [] [])
    | succ n => exact ⟨v, _, rfl, h1, repL_take n h2⟩
theorem repL_drop : ∀ {ds : List D} {vs : List V} (n : Nat), RepL K c W ds vs → RepL K c W (ds.drop n) (vs.drop n)
  | [], vs, n, r => by cases r; simp only [List.drop_nil]; rfl
  | d :: ds, vs, n, r => by
    obtain ⟨v, r', rfl, h1, h2⟩ := r
    cases n with
    | zero => exact ⟨v, _, rfl, h1, h2⟩
    | succ n => exact repL_drop n h2
end
/-! ### the operators' rules -/
section
variable {X : Cx} {c : Cn} {r r' : R2} {f : D → D → Option D}
theorem OpM.or1 (h : OpM X.K c r f) : OpM X.K c (fun x y H Q => r x y H Q ∨ r' x y H Q) f := fun Q st a b e k => .inl (h Q st a b e k)
theorem opm_int2 {C : Int → Int → Prop} {g : Int → Int → V} (h : ∀ {d e d' : D}, f d e = some d' → ∃ i j, d = .int i ∧ e = .int j ∧ C i j ∧ ∀ W, Rep X.K c W d' (g i j)) : OpM X.K c (rI C g) f := fun {W H S d e d' v u} Q st a b q k => by
  obtain ⟨i, j, rfl, rfl, hc, hr⟩ := h q
  exact ⟨i, j, a.int, b.int, hc, k W H _ st (Keep.refl W H) (hr W)⟩
theorem opm_int0 {g : Int → Int → V} (h : ∀ {d e d' : D}, f d e = some d' → ∃ i j, d = .int i ∧ e = .int j ∧ ∀ W, Rep X.K c W d' (g i j)) : OpM X.K c (rI0 g) f := fun {W H S d e d' v u} Q st a b q k => by
  obtain ⟨i, j, rfl, rfl, hr⟩ := h q
  exact ⟨i, j, a.int, b.int, k W H _ st (Keep.refl W H) (hr W)⟩
theorem m_sub : OpM X.K c (rI0 fun i j => .int (i - j)) dSub := opm_int0 fun {d e d'} h => by
  cases d <;> cases e <;> first | (cases h; done) | skip
  cases h
  exact ⟨_, _, rfl, rfl, fun _ => rfl⟩
theorem m_mul : OpM X.K c (rI CMulW fun i j => .int (i * j)) dMul := opm_int2 fun {d e d'} h => by
  cases d <;> cases e <;> first | (cases h; done) | skip
  simp only [dMul] at h
  split at h
  · cases h
    exact ⟨_, _, rfl, rfl, by assumption, fun _ => rfl⟩
  · cases h
theorem m_div : OpM X.K c (rI CDivW fun i j => .int (i / j)) dDiv := opm_int2 fun {d e d'} h => by
  cases d <;> cases e <;> first | (cases h; done) | skip
  simp only [dDiv] at h
  split at h
  · cases h
    exact ⟨_, _, rfl, rfl, by assumption, fun _ => rfl⟩
  · cases h
theorem m_mod : OpM X.K c (rI (fun _ j => 0 < j) fun i j => .int (i % j)) dMod := opm_int2 fun {d e d'} h => by
  cases d <;> cases e <;> first | (cases h; done) | skip
  simp only [dMod] at h
  split at h
  · cases h
    exact ⟨_, _, rfl, rfl, by assumption, fun _ => rfl⟩
  · cases h
theorem m_pow : OpM X.K c (rI CPow fun i j => .int (i ^ j.toNat)) dPow := opm_int2 fun {d e d'} h => by
  cases d <;> cases e <;> first | (cases h; done) | skip
  simp only [dPow] at h
  split at h
  · cases h
    exact ⟨_, _, rfl, rfl, by assumption, fun _ => rfl⟩
  · cases h
theorem m_lt : OpM X.K c (rI0 fun i j => .bl (decide (i < j))) dLt := opm_int0 fun {d e d'} h => by
  cases d <;> cases e <;> first | (cases h; done) | skip
  cases h
  exact ⟨_, _, rfl, rfl, fun _ => rfl⟩
theorem m_le : OpM X.K c (rI0 fun i j => .bl (decide (i ≤ j))) dLe := opm_int0 fun {d e d'} h => by
  cases d <;> cases e <;> first | (cases h; done) | skip
  cases h
  exact ⟨_, _, rfl, rfl, fun _ => rfl⟩
theorem m_gt : OpM X.K c (rI0 fun i j => .bl (decide (j < i))) dGt := opm_int0 fun {d e d'} h => by
  cases d <;> cases e <;> first | (cases h; done) | skip
  cases h
  exact ⟨_, _, rfl, rfl, fun _ => rfl⟩
theorem m_ge : OpM X.K c (rI0 fun i j => .bl (decide (j ≤ i))) dGe := opm_int0 fun {d e d'} h => by
  cases d <;> cases e <;> first | (cases h; done) | skip
  cases h
  exact ⟨_, _, rfl, rfl, fun _ => rfl⟩
theorem m_eq : OpM X.K c (rEqD X.K) dEq := fun {W H S d e d' v u} Q st a b q k => by
  unfold dEq at q
  split at q
  · rename_i ho
    rw [Bool.and_eq_true] at ho
    cases q
    obtain ⟨q1, q2⟩ := okEq_shaped st a ho.1
    obtain ⟨q3, q4⟩ := okEq_shaped st b ho.2
    exact ⟨_, _, q1, q3, q2, q4, k W H _ st (Keep.refl W H) rfl⟩
  · cases q
theorem m_ne : OpM X.K c (rNeD X.K) dNe := fun {W H S d e d' v u} Q st a b q k => by
  unfold dNe at q
  split at q
  · rename_i ho
    rw [Bool.and_eq_true] at ho
    cases q
    obtain ⟨q1, q2⟩ := okEq_shaped st a ho.1
    obtain ⟨q3, q4⟩ := okEq_shaped st b ho.2
    exact ⟨_, _, q1, q3, q2, q4, k W H _ st (Keep.refl W H) rfl⟩
  · cases q
theorem repB_non {K : PySem.W.Frag} {W : Wd} {H : Hp} {d : D} {v : V} (r : RepB K c W H d v) : decide (v = .non) = isNon d := by
  rcases r with r | ⟨a, rfl, _, h⟩
  · cases d with
    | non => cases r; rfl
    | bl b => cases r; rfl
    | int i => cases r; rfl
    | str s => obtain ⟨rfl, _⟩ := r; rfl
    | tup ds => obtain ⟨_, _, rfl, _⟩ := r; rfl
    | tpx ds => obtain ⟨_, _, _, rfl, _⟩ := r; rfl
    | lst ds => obtain ⟨_, _, rfl, _⟩ := r; rfl
    | dic ds => obtain ⟨_, _, rfl, _⟩ := r; rfl
    | dit ds => obtain ⟨_, _, rfl, _⟩ := r; rfl
    | fn n => obtain ⟨_, rfl, _⟩ := r; rfl
    | st => obtain ⟨_, rfl, _⟩ := r; rfl
    | scr ns => obtain ⟨_, rfl, _⟩ := r; rfl
  · cases d with
    | lst ds => rfl
    | dic ds => rfl
    | dit ds => rfl
    | _ => cases h
theorem m_is : OpM X.K c (fun x y H Q => y = .non ∧ Q (.bl (decide (x = .non))) H) dIs := fun {W H S d e d' v u} Q st a b q k => by
  cases e <;> first | (cases q; done) | skip
  cases q
  exact ⟨b.non, k W H _ st (Keep.refl W H) (by rw [repB_non a]; rfl)⟩
theorem m_isnot : OpM X.K c (fun x y H Q => y = .non ∧ Q (.bl (!decide (x = .non))) H) dIsNot := fun {W H S d e d' v u} Q st a b q k => by
  cases e <;> first | (cases q; done) | skip
  cases q
  exact ⟨b.non, k W H _ st (Keep.refl W H) (by rw [repB_non a]; rfl)⟩
theorem sok_add {a b : Str} (ha : SOk a) (hb : SOk b) (h : a.length + b.length ≤ 16777216) : SOk (a ++ b) := by
  have e : (a ++ b).cps = a.cps ++ b.cps := rfl
  refine ⟨?_, ?_⟩
  · show (a ++ b).cps.size ≤ _
    rw [e, Array.size_append]
    exact h
  · show (a ++ b).cps.all _ = true
    have h1 : a.cps.all (· < 0x110000) = true := ha.2
    have h2 : b.cps.all (· < 0x110000) = true := hb.2
    rw [e, Array.all_append, h1, h2]
    rfl
/-- a + b -/
def rAddAll (K : PySem.W.Frag) : R2 := fun x y H Q => (rI0 (fun i j => .int (i + j))) x y H Q ∨ ((fun x y H Q => ∃ i j, x = .str i ∧ y = .str j ∧ i.length + j.length ≤ sizeLine ∧ Q (.str (i ++ j)) H) x y H Q ∨ (rCatA K x y H Q ∨ rCat x y H Q))
theorem op_addAll : OpR X (binaryOp .Add) (rAddAll X.K) := op_add.or (op_add_str.or (op_catA.or op_cat))
theorem repL_isNil {K : PySem.W.Frag} {W : Wd} {ds : List D} {vs : List V} (r : RepL K c W ds vs) : vs = [] ↔ ds = [] := by
  have h := RepL.length r
  constructor
  · intro e
    subst e
    exact List.eq_nil_of_length_eq_zero h.symm
  · intro e
    subst e
    exact List.eq_nil_of_length_eq_zero h
theorem cat_own {K : PySem.W.Frag} {W : Wd} {H : Hp} {S : DS} {a b : List D} {v u : V} {Q : VK} (st : StOk K c W H S) (ra : RepB K c W H (.lst a) v) (rb : RepB K c W H (.lst b) u) (hl : a.length + b.length ≤ 16777216)
    (k : ∀ p vs, H p = none → RepL K c W (a ++ b) vs → Q (.ref p) (upd H p (.lst vs))) : rCat v u H Q := by
  obtain ⟨p, vs, rfl, h1, r1⟩ := ra.lst st
  obtain ⟨q, us, rfl, h2, r2⟩ := rb.lst st
  exact ⟨p, q, vs, us, rfl, rfl, h1, h2, line_le (by rw [RepL.length r1, RepL.length r2]; exact hl), fun l hl' => k l _ hl' (repL_append r1 r2)⟩
theorem new_lst {K : PySem.W.Frag} {W : Wd} {H : Hp} {S : DS} {p : Addr} {ds : List D} {vs : List V} (st : StOk K c W H S) (hp : H p = none) (r : RepL K c W ds vs) : Rep K c (W.frz p (.lst vs)) (.lst ds) (.ref p) :=
  ⟨p, vs, rfl, upd_same, RepL.ext (frz_ex (fresh_back st.sub hp)) ds vs r⟩
theorem m_add : OpM X.K c (rAddAll X.K) dAdd := fun {W H S d e d' v u} Q st a b q k => by
  cases d <;> cases e <;> first | (cases q; done) | skip
  · cases q
    exact .inl ⟨_, _, a.int, b.int, k W H _ st (Keep.refl W H) rfl⟩
  · simp only [dAdd] at q
    split at q
    · rename_i hl
      cases q
      obtain ⟨rfl, h1⟩ := a.str
      obtain ⟨rfl, h2⟩ := b.str
      exact .inr (.inl ⟨_, _, rfl, rfl, line_le hl, k W H _ st (Keep.refl W H) ⟨rfl, sok_add h1 h2 hl⟩⟩)
    · cases q
  · simp only [dAdd] at q
    split at q
    · rename_i xs ys hl
      cases q
      obtain ⟨p, vs, rfl, h1, h1', r1⟩ := a.tup st
      obtain ⟨p2, us, rfl, h2, h2', r2⟩ := b.tup st
      refine .inr (.inr (.inl ⟨p, p2, vs, us, rfl, rfl, SqT.of h1, SqT.of h2, line_le (by rw [RepL.length r1, RepL.length r2]; exact hl), fun z => ?_, fun _ z => ?_, fun _ _ l hn => ?_⟩))
      · have z' := (repL_isNil r1).mp z
        subst z'
        exact k W H _ st (Keep.refl W H) ⟨p2, us, rfl, h2', r2⟩
      · have z' := (repL_isNil r2).mp z
        subst z'
        rw [List.append_nil] at k
        exact k W H _ st (Keep.refl W H) ⟨p, vs, rfl, h1', r1⟩
      · exact k _ _ _ (lay_st st hn) (lay_keep st hn) (new_tup st hn (repL_append r1 r2))
    · cases q
  · simp only [dAdd] at q
    split at q
    · rename_i xs ys hl
      cases q
      exact .inr (.inr (.inr (cat_own st a b hl fun p vs hn r => k _ _ _ (lay_st st hn) (lay_keep st hn) (new_lst st hn r))))
    · cases q
def dCat : D → D → Option D
  | .lst a, .lst b => if a.length + b.length ≤ 16777216 then some (.lst (a ++ b)) else none
  | _, _ => none
theorem o_cat : OpO X.K c rCat dCat := fun {W H S d e d' v u} Q st a b q k => by
  cases d <;> cases e <;> first | (cases q; done) | skip
  simp only [dCat] at q
  split at q
  · rename_i xs ys hl
    cases q
    exact cat_own st a b hl fun p vs hn r => k _ _ _ (new_st st hn) (new_keep st hn) (new_own st hn r)
  · cases q
theorem m_ix : OpM X.K c (rIx X.K) dIx := fun {W H S d e d' v u} Q st a b q k => by
  cases d <;> cases e <;> first | (cases q; done) | skip
  · rename_i s i
    simp only [dIx, Option.map_eq_some_iff] at q
    obtain ⟨x, h1, rfl⟩ := q
    obtain ⟨rfl, h2⟩ := a.str
    refine .inr (.inr ⟨s, i, x, rfl, b.int, line_le h2.1, h1, k W H _ st (Keep.refl W H) ⟨rfl, ?_⟩⟩)
    obtain ⟨j, _, hj, hlt, _⟩ := atI_get h1
    refine ⟨by show 1 ≤ 16777216; decide, ?_⟩
    have h3 : s.cps.all (· < 0x110000) = true := h2.2
    show (#[x] : Array Nat).all (· < 0x110000) = true
    rw [Array.all_eq_true'] at h3 ⊢
    intro y hy
    have hy' : y = x := by simpa using hy
    subst hy'
    exact h3 y (by simpa using List.mem_of_getElem? hj)
  · rename_i ds i
    obtain ⟨p, vs, rfl, h1, h1', r1⟩ := a.tup st
    obtain ⟨v, h2, h3⟩ := repL_at r1 q
    exact .inr (.inl ⟨p, vs, i, v, rfl, b.int, SqT.of h1, h2, k W H _ st (Keep.refl W H) h3⟩)
  · rename_i ds i
    obtain ⟨p, vs, rfl, h1, r1⟩ := a.tpx st
    obtain ⟨v, h2, h3⟩ := repL_at r1 q
    exact .inr (.inl ⟨p, vs, i, v, rfl, b.int, h1, h2, k W H _ st (Keep.refl W H) h3⟩)
  · rename_i ds i
    obtain ⟨p, vs, rfl, h1, r1⟩ := a.lst st
    obtain ⟨v, h2, h3⟩ := repL_at r1 q
    exact .inl ⟨p, vs, i, v, rfl, b.int, SqL.of h1, h2, k W H _ st (Keep.refl W H) h3⟩
end
end Mini
namespace Mini
open PySem PySem.Spec PyProof.Rows L2 Evl

/-! ### slices -/
abbrev FP := En → M (Option Int)
def noP : FP := fun _ => rt none
def isInt : D → Option Int
  | .int i => some i
  | _ => none
def partP (a : FE) : FP := fun ρ => bd (a ρ) fun x => lift ((isInt x).map some)
def cutG {α : Type} (xs : List α) (lo hi : Option Int) : List α := (xs.drop (HT.sIx xs.length 0 lo)).take (HT.sIx xs.length xs.length hi - HT.sIx xs.length 0 lo)
def dCut (lo hi : Option Int) : D → Option D
  | .lst ds => some (.lst (cutG ds lo hi))
  | .tup ds => some (.tup (cutG ds lo hi))
  | .str s => some (.str (cutS s lo hi))
  | _ => none
def dCutL (lo hi : Option Int) : D → Option D
  | .lst ds => some (.lst (cutG ds lo hi))
  | _ => none
def slcE (a : FE) (lo hi : FP) : FE := fun ρ => bd (a ρ) fun x => bd (lo ρ) fun l => bd (hi ρ) fun h => lift (dCut l h x)
def slcO (a : FE) (lo hi : FP) : FE := fun ρ => bd (a ρ) fun x => bd (lo ρ) fun l => bd (hi ρ) fun h => lift (dCutL l h x)
section
variable {K : PySem.W.Frag} {c : Cn} {W W1 W' : Wd} {H H1 H' : Hp} {S S1 : DS} {σ : L2.St} {ρ : En} {E : XK}
def OutP (K : PySem.W.Frag) (c : Cn) (W : Wd) (H : Hp) (E : XK) (Q : Option Int → Hp → Prop) : Res (Option Int) → Prop
  | .ok d S' => ∀ W' H', StOk K c W' H' S' → Keep W H W' H' → Q d H'
  | .er n p S' => ErQ K c W H E n p S'
  | .no => False
def tP (K : PySem.W.Frag) (c : Cn) (E : XK) (f : FP) : TO := fun σ H Q => ∃ W ρ S, StOk K c W H S ∧ EnvOk K c W H σ ρ ∧ OutP K c W H E Q (f ρ S)
theorem then_P {f : FP} {β : Type} {g : Option Int → M β} {Q : Option Int → Hp → Prop} {O : Res β → Prop} (st : StOk K c W H S) (en : EnvOk K c W H σ ρ) (hO : ∀ n p S', O (.er n p S') → ErQ K c W H E n p S') (hN : ¬ O .no)
    (h : O (bd (f ρ) g S)) (k : ∀ d S' W' H', StOk K c W' H' S' → Keep W H W' H' → O (g d S') → Q d H') : tP K c E f σ H Q := by
  refine ⟨W, ρ, S, st, en, ?_⟩
  unfold bd at h
  cases e : f ρ S with
  | ok d S' =>
    rw [e] at h
    exact fun W' H' st' k' => k d S' W' H' st' k' h
  | er n p S' =>
    rw [e] at h
    exact hO n p S' h
  | no =>
    rw [e] at h
    exact hN h
theorem cutG_length {α : Type} (xs : List α) (lo hi : Option Int) : (cutG xs lo hi).length ≤ xs.length := by
  unfold cutG
  rw [List.length_take, List.length_drop]
  omega
theorem repL_cut {ds : List D} {vs : List V} (lo hi : Option Int) (r : RepL K c W ds vs) : RepL K c W (cutG ds lo hi) (cutV vs lo hi) := by
  unfold cutG cutV
  rw [RepL.length r]
  exact repL_take _ (repL_drop _ r)
theorem all_drop_take {s : Array Nat} {p : Nat → Bool} (h : s.all p = true) (l : List Nat) (hl : ∀ x ∈ l, x ∈ s.toList) : (l.toArray).all p = true := by
  rw [Array.all_eq_true'] at h ⊢
  intro x hx
  exact h x (by simpa using hl x (by simpa using hx))
theorem sok_cut {s : Str} (h : SOk s) (lo hi : Option Int) : SOk (cutS s lo hi) := by
  refine ⟨Nat.le_trans (cutS_length s lo hi) h.1, ?_⟩
  have h2 : s.cps.all (· < 0x110000) = true := h.2
  refine all_drop_take (s := s.cps) (p := fun x => decide (x < 0x110000)) h2 _ fun x hx => ?_
  exact List.mem_of_mem_drop (List.mem_of_mem_take hx)
end
section
variable {X : Cx} {c : Cn} {E : XK} {a e : Expr} {lo hi : Option Expr} {fa : FE} {fl fh : FP} {pos p2 : Pos}
theorem mp_no : PO X none (tP X.K c E noP) := ⟨fun pins s σ H Q I h => by
  obtain ⟨W, ρ, S, st, en, q⟩ := h
  exact po_none.run pins s σ H Q I (q W H st (Keep.refl W H))⟩
theorem mp_some (h : PE X e (tB X.K c E fa)) : PO X (some e) (tP X.K c E (partP fa)) := ⟨fun pins s σ H Q I h' => by
  obtain ⟨W, ρ, S, st, en, q⟩ := h'
  refine (po_some h).run pins s σ H Q I ?_
  refine then_B (O := OutP X.K c W H E Q) st en (fun _ _ _ z => z) (fun z => z) q fun d S1 W1 H1 v st1 k1 r1 q1 => ?_
  obtain ⟨o, e', q3⟩ := lift_ok (β := Option Int) (O := OutP X.K c W H E Q) (fun z => z) q1
  cases d <;> first | (cases e'; done) | skip
  cases e'
  exact ⟨_, r1.int, q3 W1 H1 st1 k1⟩⟩
def rSlAll (K : PySem.W.Frag) : V → Option Int → Option Int → Hp → VK → Prop := fun x lo hi H Q => rSlL K x lo hi H Q ∨ (rSlA K x lo hi H Q ∨ rSlS x lo hi H Q)
theorem sl_all : SlR X (rSlAll X.K) := sl_list.or (sl_tupA.or sl_str)
theorem OutP.toB {W W1 : Wd} {H H1 : Hp} {S1 : DS} {Q : Option Int → Hp → Prop} {r : Res (Option Int)} (h : OutP X.K c W H E Q r) (k : Keep W H W1 H1) (st : StOk X.K c W1 H1 S1) : OutP X.K c W1 H1 E Q r := by
  cases r with
  | ok d S' => exact fun W' H' st' k' => h W' H' st' (k.tr st k')
  | er n p S' => exact ErQ.pre h k st
  | no => exact h
theorem slc_run {f : Option Int → Option Int → D → Option D} {r : V → Option Int → Option Int → Hp → VK → Prop} {O : Wd → Hp → VK → Res D → Prop} {σ : L2.St} {H : Hp} {Q : VK} {W : Wd} {ρ : En} {S : DS} (st : StOk X.K c W H S) (en : EnvOk X.K c W H σ ρ)
    (hO : ∀ W H n p S', O W H Q (.er n p S') → ErQ X.K c W H E n p S') (hN : ∀ W H, ¬ O W H Q .no) (pre : ∀ W H W1 H1 S1 r, O W H Q r → Keep W H W1 H1 → StOk X.K c W1 H1 S1 → O W1 H1 Q r)
    (q : O W H Q (bd (fa ρ) (fun x => bd (fl ρ) fun l => bd (fh ρ) fun h => lift (f l h x)) S))
    (hr : ∀ W H S v d d' l h, StOk X.K c W H S → RepB X.K c W H d v → f l h d = some d' → O W H Q (.ok d' S) → r v l h H Q) : tSl r (tB X.K c E fa) (tP X.K c E fl) (tP X.K c E fh) σ H Q := by
  refine then_B (O := O W H Q) st en (hO W H) (hN W H) q fun d S1 W1 H1 v st1 k1 r1 q1 => ?_
  refine then_P (O := O W1 H1 Q) st1 (en.ext k1) (hO W1 H1) (hN W1 H1) (pre _ _ _ _ _ _ q1 k1 st1) fun l S2 W2 H2 st2 k2 q2 => ?_
  refine then_P (O := O W2 H2 Q) st2 ((en.ext k1).ext k2) (hO W2 H2) (hN W2 H2) (pre _ _ _ _ _ _ q2 k2 st2) fun h S3 W3 H3 st3 k3 q3 => ?_
  obtain ⟨d', e', q4⟩ := lift_ok (β := D) (O := O W3 H3 Q) (hN W3 H3) (pre _ _ _ _ _ _ q3 k3 st3)
  exact hr W3 H3 S3 v d d' l h st3 ((r1.ext k2).ext k3) e' q4
theorem me_slc (ha : PE X e (tB X.K c E fa)) (hl : PO X lo (tP X.K c E fl)) (hh : PO X hi (tP X.K c E fh)) : PE X (.Subscript e (.Slice lo hi none p2) pos) (tM X.K c E (slcE fa fl fh)) :=
  pe_imp (pe_slice sl_all ha hl hh) fun σ H Q h => by
    obtain ⟨W, ρ, S, st, en, q⟩ := tM_un h
    refine slc_run (O := fun W H Q r => OutM X.K c W H E Q r) st en (fun _ _ _ _ _ z => z) (fun _ _ z => z) (fun _ _ _ _ _ _ z k s => OutM.pre (Q' := Q) z k s) q fun W H S v d d' l h st r e' k => ?_
    cases d <;> first | (cases e'; done) | skip
    · rename_i s
      cases e'
      obtain ⟨rfl, h1⟩ := r.str
      exact .inr (.inr ⟨s, rfl, line_le h1.1, k W H _ st (Keep.refl W H) ⟨rfl, sok_cut h1 l h⟩⟩)
    · rename_i ds
      cases e'
      obtain ⟨p, vs, rfl, h1, h1', r1⟩ := r.tup st
      refine .inr (.inl ⟨p, vs, rfl, SqT.of h1, fun hw => ?_, fun _ l' hn => ?_⟩)
      · have e2 : cutG ds l h = ds := by
          unfold cutG
          rw [← RepL.length r1, hw.1, hw.2, List.drop_zero, Nat.sub_zero, RepL.length r1, List.take_length]
        rw [e2] at k
        exact k W H _ st (Keep.refl W H) ⟨p, vs, rfl, h1', r1⟩
      · exact k _ _ _ (lay_st st hn) (lay_keep st hn) (new_tup st hn (repL_cut l h r1))
    · rename_i ds
      cases e'
      obtain ⟨p, vs, rfl, h1, r1⟩ := r.lst st
      exact .inl ⟨p, vs, rfl, SqL.of h1, fun l' hn => k _ _ _ (lay_st st hn) (lay_keep st hn) (new_lst st hn (repL_cut l h r1))⟩
theorem me_slcO (ha : PE X e (tB X.K c E fa)) (hl : PO X lo (tP X.K c E fl)) (hh : PO X hi (tP X.K c E fh)) : PE X (.Subscript e (.Slice lo hi none p2) pos) (tO X.K c E (slcO fa fl fh)) :=
  pe_imp (pe_slice sl_list ha hl hh) fun σ H Q h => by
    obtain ⟨W, ρ, S, st, en, q⟩ := tO_un h
    refine slc_run (O := fun W H Q r => OutO X.K c W H E Q r) st en (fun _ _ _ _ _ z => z) (fun _ _ z => z) (fun _ _ _ _ _ _ z k s => OutO.pre z k s) q fun W H S v d d' l h st r e' k => ?_
    cases d <;> first | (cases e'; done) | skip
    rename_i ds
    cases e'
    obtain ⟨p, vs, rfl, h1, r1⟩ := r.lst st
    exact ⟨p, vs, rfl, SqL.of h1, fun l' hn => k _ _ _ (new_st st hn) (new_keep st hn) (new_own st hn (repL_cut l h r1))⟩
end
/-! ### calls of built-ins with one value -/
abbrev R1 := List V → Hp → VK → Prop
def UnM (K : PySem.W.Frag) (c : Cn) (r : R1) (f : D → Option D) : Prop := ∀ {W : Wd} {H : Hp} {S : DS} {d d' : D} {v : V} (Q : VK), StOk K c W H S → RepB K c W H d v → f d = some d' →
  (∀ W' H' x, StOk K c W' H' S → Keep W H W' H' → Rep K c W' d' x → Q x H') → r [v] H Q
def UnO (K : PySem.W.Frag) (c : Cn) (r : R1) (f : D → Option D) : Prop := ∀ {W : Wd} {H : Hp} {S : DS} {d d' : D} {v : V} (Q : VK), StOk K c W H S → RepB K c W H d v → f d = some d' →
  (∀ W' H' x, StOk K c W' H' S → Keep W H W' H' → RepO K c H W' H' d' x → Q x H') → r [v] H Q
section
variable {X : Cx} {c : Cn} {E : XK} {a b e : Expr} {fa fb : FE} {x : Str} {p pos : Pos} {id T : String} {r : R1} {f : D → Option D}
theorem op1_out (hr : UnM X.K c r f) : ∀ σ H Q, tM X.K c E (op1 f fa) σ H Q → tCB r (tCons (tB X.K c E fa) tNil) σ H Q := fun σ H Q h => by
  obtain ⟨W, ρ, S, st, en, q⟩ := tM_un h
  refine then_B (O := OutM X.K c W H E Q) st en (fun _ _ _ z => z) (fun z => z) q fun d S1 W1 H1 v st1 k1 r1 q1 => ?_
  obtain ⟨d', e', q3⟩ := lift_ok (β := D) (O := OutM X.K c W H E Q) (fun z => z) q1
  exact hr Q st1 r1 e' fun W' H' x st' k' rx => q3 W' H' x st' (k1.tr st1 k') rx
theorem op1_outO (hr : UnO X.K c r f) : ∀ σ H Q, tO X.K c E (op1 f fa) σ H Q → tCB r (tCons (tB X.K c E fa) tNil) σ H Q := fun σ H Q h => by
  obtain ⟨W, ρ, S, st, en, q⟩ := tO_un h
  refine then_B (O := OutO X.K c W H E Q) st en (fun _ _ _ z => z) (fun z => z) q fun d S1 W1 H1 v st1 k1 r1 q1 => ?_
  obtain ⟨d', e', q3⟩ := lift_ok (β := D) (O := OutO X.K c W H E Q) (fun z => z) q1
  exact hr Q st1 r1 e' fun W' H' x st' k' rx => q3 W' H' x st' (k1.tr st1 k') (RepO.pre (H0 := H1) k1 (fun b e => st1.ds.at (k1.wex.2 b e)) rx)
theorem me_bl1 (hc : CallR X (.builtin id) r) (hr : UnM X.K c r f) (hg : Gl X x) (hm : X.mg x = none) (hv : bootBuiltins x = some (.builtin id)) (ha : PE X a (tB X.K c E fa)) (hn : x ≠ "__name__" := by decide) (hdb : (x == ("__debug__" : Str)) = false := by decide)
    (he : starEach [a] X.env = (false, eval a X.env) :: starEach [] X.env := by rfl) (hpl : (backTo pos (starEach [] X.env)).any (·.1) = false := by rfl) : PE X (.Call (.Name x p) [a] [] pos) (tM X.K c E (op1 f fa)) :=
  pe_imp (pe_callB hc hg hm hv (pa_cons ha pa_nil he) hn hdb he hpl) (op1_out hr)
theorem me_ty1 (hc : CallR X (.type T) r) (hr : UnM X.K c r f) (hg : Gl X x) (hm : X.mg x = none) (hv : bootBuiltins x = some (.type T)) (ha : PE X a (tB X.K c E fa)) (hn : x ≠ "__name__" := by decide) (hdb : (x == ("__debug__" : Str)) = false := by decide)
    (he : starEach [a] X.env = (false, eval a X.env) :: starEach [] X.env := by rfl) (hpl : (backTo pos (starEach [] X.env)).any (·.1) = false := by rfl) : PE X (.Call (.Name x p) [a] [] pos) (tM X.K c E (op1 f fa)) :=
  pe_imp (pe_callTy hc hg hm hv (pa_cons ha pa_nil he) hn hdb he hpl) (op1_out hr)
theorem me_bl1O (hc : CallR X (.builtin id) r) (hr : UnO X.K c r f) (hg : Gl X x) (hm : X.mg x = none) (hv : bootBuiltins x = some (.builtin id)) (ha : PE X a (tB X.K c E fa)) (hn : x ≠ "__name__" := by decide) (hdb : (x == ("__debug__" : Str)) = false := by decide)
    (he : starEach [a] X.env = (false, eval a X.env) :: starEach [] X.env := by rfl) (hpl : (backTo pos (starEach [] X.env)).any (·.1) = false := by rfl) : PE X (.Call (.Name x p) [a] [] pos) (tO X.K c E (op1 f fa)) :=
  pe_imp (pe_callB hc hg hm hv (pa_cons ha pa_nil he) hn hdb he hpl) (op1_outO hr)
theorem me_ty1O (hc : CallR X (.type T) r) (hr : UnO X.K c r f) (hg : Gl X x) (hm : X.mg x = none) (hv : bootBuiltins x = some (.type T)) (ha : PE X a (tB X.K c E fa)) (hn : x ≠ "__name__" := by decide) (hdb : (x == ("__debug__" : Str)) = false := by decide)
    (he : starEach [a] X.env = (false, eval a X.env) :: starEach [] X.env := by rfl) (hpl : (backTo pos (starEach [] X.env)).any (·.1) = false := by rfl) : PE X (.Call (.Name x p) [a] [] pos) (tO X.K c E (op1 f fa)) :=
  pe_imp (pe_callTy hc hg hm hv (pa_cons ha pa_nil he) hn hdb he hpl) (op1_outO hr)
/-- two values -/
def r2of (r : R1) : R2 := fun v u H Q => r [v, u] H Q
theorem me_bl2 {g : D → D → Option D} (hc : CallR X (.builtin id) r) (hr : OpM X.K c (r2of r) g) (hg : Gl X x) (hm : X.mg x = none) (hv : bootBuiltins x = some (.builtin id)) (ha : PE X a (tB X.K c E fa)) (hb : PE X b (tB X.K c E fb)) (hn : x ≠ "__name__" := by decide) (hdb : (x == ("__debug__" : Str)) = false := by decide)
    (he : starEach [a, b] X.env = (false, eval a X.env) :: starEach [b] X.env := by rfl) (he2 : starEach [b] X.env = (false, eval b X.env) :: starEach [] X.env := by rfl) (hpl : (backTo pos (starEach [b] X.env)).any (·.1) = false := by rfl) : PE X (.Call (.Name x p) [a, b] [] pos) (tM X.K c E (op2 g fa fb)) :=
  pe_imp (pe_callB hc hg hm hv (pa_cons ha (pa_cons hb pa_nil he2) he) hn hdb he hpl) fun σ H Q h => op2_out hr σ H Q h
/-- isinstance(e, T) -/
def isiD (T : String) : D → Option D
  | .non => (kitB "NoneType" T).map .bl
  | .bl _ => (kitB "bool" T).map .bl
  | .int _ => (kitB "int" T).map .bl
  | .str _ => (kitB "str" T).map .bl
  | .tup _ => (kitB "tuple" T).map .bl
  | .tpx _ => (kitB "tuple" T).map .bl
  | .lst _ => (kitB "list" T).map .bl
  | _ => none
theorem tyx_of {K : PySem.W.Frag} {W : Wd} {H : Hp} {S : DS} {d d' : D} {v : V} (st : StOk K c W H S) (r : RepB K c W H d v) (h : isiD T d = some d') : ∃ t k, TyX K H v (.type t) ∧ kitB t T = some k ∧ d' = .bl k := by
  cases d <;> first | (cases h; done) | skip
  all_goals (simp only [isiD, Option.map_eq_some_iff] at h; obtain ⟨k, h1, h2⟩ := h)
  · cases r.non; exact ⟨_, k, .base .non, h1, h2.symm⟩
  · cases r.bl; exact ⟨_, k, .base (.bl _), h1, h2.symm⟩
  · cases r.int; exact ⟨_, k, .base (.int _), h1, h2.symm⟩
  · obtain ⟨rfl, _⟩ := r.str; exact ⟨_, k, .base (.str _), h1, h2.symm⟩
  · obtain ⟨a, vs, rfl, q, _⟩ := r.tup st; exact ⟨_, k, .base (.tup q), h1, h2.symm⟩
  · obtain ⟨a, vs, o, rfl, q, _⟩ := r.tpo st; exact ⟨_, k, .fTuple q, h1, h2.symm⟩
  · obtain ⟨a, vs, rfl, q, _⟩ := r.lst st; exact ⟨_, k, .base (.lst q), h1, h2.symm⟩
theorem me_isi {y : Str} {p2 : Pos} (hg : Gl X "isinstance") (hm : X.mg "isinstance" = none) (hg2 : Gl X y) (hm2 : X.mg y = none) (hv2 : bootBuiltins y = some (.type T)) (ha : PE X a (tB X.K c E fa)) (hn2 : y ≠ "__name__" := by decide) (hdb2 : (y == ("__debug__" : Str)) = false := by decide)
    (he : starEach [a, .Name y p2] X.env = (false, eval a X.env) :: starEach [.Name y p2] X.env := by rfl) (he2 : starEach [.Name y p2] X.env = (false, eval (.Name y p2) X.env) :: starEach [] X.env := by rfl) (hpl : (backTo pos (starEach [.Name y p2] X.env)).any (·.1) = false := by rfl) :
    PE X (.Call (.Name "isinstance" p) [a, .Name y p2] [] pos) (tM X.K c E (op1 (isiD T) fa)) :=
  pe_imp (pe_callB call_isi hg hm boot_isinstance (pa_cons ha (pa_cons (pe_bltn (v := .ty T) hg2 hm2 hv2 rfl hn2 hdb2) pa_nil he2) he) (by decide) (by decide) he hpl) fun σ H Q h => by
    obtain ⟨W, ρ, S, st, en, q⟩ := tM_un h
    refine then_B (O := OutM X.K c W H E Q) st en (fun _ _ _ z => z) (fun z => z) q fun d S1 W1 H1 v st1 k1 r1 q1 => ?_
    obtain ⟨d', e', q3⟩ := lift_ok (β := D) (O := OutM X.K c W H E Q) (fun z => z) q1
    obtain ⟨t, k, h1, h2, rfl⟩ := tyx_of st1 r1 e'
    exact ⟨v, .ty T, _, _, k, rfl, .ty T, h1, kit_ty h2, q3 W1 H1 _ st1 k1 rfl⟩
end
/-! ### what the built-ins give -/
def dLen : D → Option D
  | .str s => some (.int s.length)
  | .tup ds => some (.int ds.length)
  | .tpx ds => some (.int ds.length)
  | .lst ds => some (.int ds.length)
  | _ => none
def dAbs : D → Option D
  | .int i => some (.int (if i < 0 then -i else i))
  | _ => none
def dInt : D → Option D
  | .int i => some (.int i)
  | .bl k => some (.int (if k then 1 else 0))
  | _ => none
def dTuple : D → Option D
  | .lst ds => some (.tup ds)
  | .tup ds => some (.tup ds)
  | _ => none
def dList : D → Option D
  | .lst ds => some (.lst ds)
  | .tup ds => some (.lst ds)
  | .scr ns => some (.lst (ns.map .int))
  | _ => none
def seqOf : D → Option (List D)
  | .lst ds => some ds
  | _ => none
def dSum (d : D) : Option D := (seqOf d).bind fun ds => (intsOf ds).map fun ns => .int ns.sum
def dAll (d : D) : Option D := (seqOf d).bind fun ds => (blsOf ds).map fun ns => .bl (ns.all id)
def dAny (d : D) : Option D := (seqOf d).bind fun ds => (blsOf ds).map fun ns => .bl (ns.any id)
def maxI : List Int → Option Int
  | [] => none
  | n :: ns => some (ns.foldl (fun a b => if b > a then b else a) n)
def minI : List Int → Option Int
  | [] => none
  | n :: ns => some (ns.foldl (fun a b => if b < a then b else a) n)
def dMax (d : D) : Option D := (seqOf d).bind fun ds => (intsOf ds).bind fun ns => (maxI ns).map .int
def dMin (d : D) : Option D := (seqOf d).bind fun ds => (intsOf ds).bind fun ns => (minI ns).map .int
def dMax2 : D → D → Option D
  | .int i, .int j => some (.int (if j > i then j else i))
  | _, _ => none
def dMin2 : D → D → Option D
  | .int i, .int j => some (.int (if j < i then j else i))
  | _, _ => none
theorem foldmax_spec (ns : List Int) : ∀ a : Int, (ns.foldl (fun a b => if b > a then b else a) a ∈ a :: ns) ∧ ∀ y ∈ a :: ns, y ≤ ns.foldl (fun a b => if b > a then b else a) a := by
  induction ns with
  | nil => intro a; exact ⟨List.mem_cons_self, fun y hy => by simp at hy; subst hy; exact Int.le_refl _⟩
  | cons n ns ih =>
    intro a
    simp only [List.foldl_cons]
    obtain ⟨h1, h2⟩ := ih (if n > a then n else a)
    refine ⟨?_, fun y hy => ?_⟩
    · rcases List.mem_cons.mp h1 with e | e
      · rw [e]
        split
        · exact List.mem_cons_of_mem _ List.mem_cons_self
        · exact List.mem_cons_self
      · exact List.mem_cons_of_mem _ (List.mem_cons_of_mem _ e)
    · have h3 := h2 _ List.mem_cons_self
      rcases List.mem_cons.mp hy with e | hy
      · subst e
        refine Int.le_trans ?_ h3
        split <;> omega
      · rcases List.mem_cons.mp hy with e | hy
        · subst e
          refine Int.le_trans ?_ h3
          split <;> omega
        · exact h2 y (List.mem_cons_of_mem _ hy)
theorem foldmin_spec (ns : List Int) : ∀ a : Int, (ns.foldl (fun a b => if b < a then b else a) a ∈ a :: ns) ∧ ∀ y ∈ a :: ns, ns.foldl (fun a b => if b < a then b else a) a ≤ y := by
  induction ns with
  | nil => intro a; exact ⟨List.mem_cons_self, fun y hy => by simp at hy; subst hy; exact Int.le_refl _⟩
  | cons n ns ih =>
    intro a
    simp only [List.foldl_cons]
    obtain ⟨h1, h2⟩ := ih (if n < a then n else a)
    refine ⟨?_, fun y hy => ?_⟩
    · rcases List.mem_cons.mp h1 with e | e
      · rw [e]
        split
        · exact List.mem_cons_of_mem _ List.mem_cons_self
        · exact List.mem_cons_self
      · exact List.mem_cons_of_mem _ (List.mem_cons_of_mem _ e)
    · have h3 := h2 _ List.mem_cons_self
      rcases List.mem_cons.mp hy with e | hy
      · subst e
        refine Int.le_trans h3 ?_
        split <;> omega
      · rcases List.mem_cons.mp hy with e | hy
        · subst e
          refine Int.le_trans h3 ?_
          split <;> omega
        · exact h2 y (List.mem_cons_of_mem _ hy)
section
variable {X : Cx} {c : Cn}
def rLenAll (K : PySem.W.Frag) : R1 := fun xs H Q => (∃ p ys, xs = [.ref p] ∧ (SqL K H p ys ∨ SqT K H p ys) ∧ Q (.int ys.length) H) ∨ (∃ z, xs = [.str z] ∧ z.length ≤ sizeLine ∧ Q (.int z.length) H)
theorem cr_lenAll : CallR X (.builtin "len") (rLenAll X.K) := call_len_seq.or call_len_str
theorem u_len : UnM X.K c (rLenAll X.K) dLen := fun {W H S d d' v} Q st a q k => by
  cases d <;> first | (cases q; done) | skip
  · cases q
    obtain ⟨rfl, h⟩ := a.str
    exact .inr ⟨_, rfl, line_le h.1, k W H _ st (Keep.refl W H) rfl⟩
  · cases q
    obtain ⟨p, vs, rfl, h1, _, r1⟩ := a.tup st
    exact .inl ⟨p, vs, rfl, .inr (SqT.of h1), k W H _ st (Keep.refl W H) (by rw [RepL.length r1]; rfl)⟩
  · cases q
    obtain ⟨p, vs, rfl, h1, r1⟩ := a.tpx st
    exact .inl ⟨p, vs, rfl, .inr h1, k W H _ st (Keep.refl W H) (by rw [RepL.length r1]; rfl)⟩
  · cases q
    obtain ⟨p, vs, rfl, h1, r1⟩ := a.lst st
    exact .inl ⟨p, vs, rfl, .inl (SqL.of h1), k W H _ st (Keep.refl W H) (by rw [RepL.length r1]; rfl)⟩
theorem u_abs : UnM X.K c (fun xs H Q => ∃ i, xs = [.int i] ∧ Q (.int (if i < 0 then -i else i)) H) dAbs := fun {W H S d d' v} Q st a q k => by
  cases d <;> first | (cases q; done) | skip
  cases q
  exact ⟨_, by rw [a.int], k W H _ st (Keep.refl W H) rfl⟩
theorem u_int : UnM X.K c (fun xs H Q => (∃ i, xs = [.int i] ∧ Q (.int i) H) ∨ ∃ k, xs = [.bl k] ∧ Q (.int (if k then 1 else 0)) H) dInt := fun {W H S d d' v} Q st a q k => by
  cases d <;> first | (cases q; done) | skip
  · cases q
    exact .inr ⟨_, by rw [a.bl], k W H _ st (Keep.refl W H) rfl⟩
  · cases q
    exact .inl ⟨_, by rw [a.int], k W H _ st (Keep.refl W H) rfl⟩
theorem u_tuple : UnM X.K c (fun xs H Q => ∃ p ys, xs = [.ref p] ∧ ((SqL X.K H p ys ∧ ∀ l, H l = none → Q (.ref l) (upd H l (.tup ys))) ∨ (SqT X.K H p ys ∧ Q (.ref p) H))) dTuple := fun {W H S d d' v} Q st a q k => by
  cases d <;> first | (cases q; done) | skip
  · cases q
    obtain ⟨p, vs, rfl, h1, h1', r1⟩ := a.tup st
    exact ⟨p, vs, rfl, .inr ⟨SqT.of h1, k W H _ st (Keep.refl W H) ⟨p, vs, rfl, h1', r1⟩⟩⟩
  · cases q
    obtain ⟨p, vs, rfl, h1, r1⟩ := a.lst st
    exact ⟨p, vs, rfl, .inl ⟨SqL.of h1, fun l hl => k _ _ _ (lay_st st hl) (lay_keep st hl) (new_tup st hl r1)⟩⟩
theorem repL_ints {K : PySem.W.Frag} {W : Wd} : ∀ ns : List Int, RepL K c W (ns.map D.int) (ns.map V.int)
  | [] => rfl
  | n :: ns => ⟨.int n, _, rfl, rfl, repL_ints ns⟩
theorem u_list : UnO X.K c (fun xs H Q => ∃ p ys, xs = [.ref p] ∧ (SqL X.K H p ys ∨ SqT X.K H p ys) ∧ ∀ l, H l = none → Q (.ref l) (upd H l (.lst ys))) dList := fun {W H S d d' v} Q st a q k => by
  cases d <;> first | (cases q; done) | skip
  · cases q
    obtain ⟨p, vs, rfl, h1, h1', r1⟩ := a.tup st
    exact ⟨p, vs, rfl, .inr (SqT.of h1), fun l hl => k _ _ _ (new_st st hl) (new_keep st hl) (new_own st hl r1)⟩
  · cases q
    obtain ⟨p, vs, rfl, h1, r1⟩ := a.lst st
    exact ⟨p, vs, rfl, .inl (SqL.of h1), fun l hl => k _ _ _ (new_st st hl) (new_keep st hl) (new_own st hl r1)⟩
  · cases q
    rename_i ns
    rcases a with ⟨p, rfl, h1⟩ | ⟨p, _, _, h⟩
    · exact ⟨p, _, rfl, .inl (ex_l st.sub h1), fun l hl => k _ _ _ (new_st st hl) (new_keep st hl) (new_own st hl (repL_ints ns))⟩
    · cases h
theorem lst_seq {K : PySem.W.Frag} {W : Wd} {H : Hp} {S : DS} {d : D} {ds : List D} {v : V} (st : StOk K c W H S) (a : RepB K c W H d v) (h : seqOf d = some ds) : ∃ p vs, v = .ref p ∧ H p = some (.lst vs) ∧ RepL K c W ds vs := by
  cases d <;> first | (cases h; done) | skip
  cases h
  exact a.lst st
theorem u_sum : UnM X.K c (rSum X.K) dSum := fun {W H S d d' v} Q st a q k => by
  unfold dSum at q
  obtain ⟨ds, e1, q⟩ := Option.bind_eq_some_iff.mp q
  obtain ⟨ns, e2, rfl⟩ := Option.map_eq_some_iff.mp q
  obtain ⟨p, vs, rfl, h1, r1⟩ := lst_seq st a e1
  have e3 := ints_rep e2 r1
  subst e3
  exact ⟨p, ns, rfl, SqL.of h1, k W H _ st (Keep.refl W H) rfl⟩
theorem u_all : UnM X.K c (rAll X.K) dAll := fun {W H S d d' v} Q st a q k => by
  unfold dAll at q
  obtain ⟨ds, e1, q⟩ := Option.bind_eq_some_iff.mp q
  obtain ⟨ns, e2, rfl⟩ := Option.map_eq_some_iff.mp q
  obtain ⟨p, vs, rfl, h1, r1⟩ := lst_seq st a e1
  have e3 := bls_rep e2 r1
  subst e3
  exact ⟨p, ns, rfl, SqL.of h1, k W H _ st (Keep.refl W H) rfl⟩
theorem u_any : UnM X.K c (rAny X.K) dAny := fun {W H S d d' v} Q st a q k => by
  unfold dAny at q
  obtain ⟨ds, e1, q⟩ := Option.bind_eq_some_iff.mp q
  obtain ⟨ns, e2, rfl⟩ := Option.map_eq_some_iff.mp q
  obtain ⟨p, vs, rfl, h1, r1⟩ := lst_seq st a e1
  have e3 := bls_rep e2 r1
  subst e3
  exact ⟨p, ns, rfl, SqL.of h1, k W H _ st (Keep.refl W H) rfl⟩
theorem u_max : UnM X.K c (rMax X.K) dMax := fun {W H S d d' v} Q st a q k => by
  unfold dMax at q
  obtain ⟨ds, e1, q⟩ := Option.bind_eq_some_iff.mp q
  obtain ⟨ns, e2, q⟩ := Option.bind_eq_some_iff.mp q
  obtain ⟨m, e4, rfl⟩ := Option.map_eq_some_iff.mp q
  obtain ⟨p, vs, rfl, h1, r1⟩ := lst_seq st a e1
  have e3 := ints_rep e2 r1
  subst e3
  cases ns with
  | nil => cases e4
  | cons n ns =>
    cases e4
    obtain ⟨s1, s2⟩ := foldmax_spec ns n
    refine ⟨p, n :: ns, rfl, SqL.of h1, by simp, fun z hz hle => ?_⟩
    have e : z = ns.foldl (fun a b => if b > a then b else a) n := Int.le_antisymm (s2 z hz) (hle _ s1)
    rw [e]
    exact k W H _ st (Keep.refl W H) rfl
theorem u_min : UnM X.K c (rMin X.K) dMin := fun {W H S d d' v} Q st a q k => by
  unfold dMin at q
  obtain ⟨ds, e1, q⟩ := Option.bind_eq_some_iff.mp q
  obtain ⟨ns, e2, q⟩ := Option.bind_eq_some_iff.mp q
  obtain ⟨m, e4, rfl⟩ := Option.map_eq_some_iff.mp q
  obtain ⟨p, vs, rfl, h1, r1⟩ := lst_seq st a e1
  have e3 := ints_rep e2 r1
  subst e3
  cases ns with
  | nil => cases e4
  | cons n ns =>
    cases e4
    obtain ⟨s1, s2⟩ := foldmin_spec ns n
    refine ⟨p, n :: ns, rfl, SqL.of h1, by simp, fun z hz hle => ?_⟩
    have e : z = ns.foldl (fun a b => if b < a then b else a) n := Int.le_antisymm (hle _ s1) (s2 z hz)
    rw [e]
    exact k W H _ st (Keep.refl W H) rfl
theorem m_max2 : OpM X.K c (r2of fun xs H Q => ∃ i j, xs = [.int i, .int j] ∧ Q (.int (if j > i then j else i)) H) dMax2 := fun {W H S d e d' v u} Q st a b q k => by
  cases d <;> cases e <;> first | (cases q; done) | skip
  cases q
  exact ⟨_, _, by rw [a.int, b.int], k W H _ st (Keep.refl W H) rfl⟩
theorem m_min2 : OpM X.K c (r2of fun xs H Q => ∃ i j, xs = [.int i, .int j] ∧ Q (.int (if j < i then j else i)) H) dMin2 := fun {W H S d e d' v u} Q st a b q k => by
  cases d <;> cases e <;> first | (cases q; done) | skip
  cases q
  exact ⟨_, _, by rw [a.int, b.int], k W H _ st (Keep.refl W H) rfl⟩
end
end Mini
namespace Mini
open PySem PySem.Spec PyProof.Rows L2 Evl

/-! ### statements -/
def skipS : FS := fun ρ => rt (.nx ρ)
def seqS (a b : FS) : FS := fun ρ => bd (a ρ) fun f => match f with
  | .nx ρ' => b ρ'
  | f => rt f
def setV (i : Nat) (d : D) (ρ : En) : En := ρ.set i (.vl d)
def setO (i : Nat) (d : D) (ρ : En) : En := ρ.set i (.ow d)
def asgS (i : Nat) (f : FE) : FS := fun ρ => bd (f ρ) fun d => rt (.nx (setV i d ρ))
def asgOS (i : Nat) (f : FE) : FS := fun ρ => bd (f ρ) fun d => rt (.nx (setO i d ρ))
def exprS (f : FE) : FS := fun ρ => bd (f ρ) fun _ => rt (.nx ρ)
def retS (f : FE) : FS := fun ρ => bd (f ρ) fun d => rt (.rt d)
def retNS : FS := fun _ => rt (.rt .non)
def ifS (t : FB) (a b : FS) : FS := fun ρ => bd (t ρ) fun k => if k then a ρ else b ρ
def brkS : FS := fun ρ => rt (.bk ρ)
def cntS : FS := fun ρ => rt (.ct ρ)
def whileS (t : FB) (b : FS) : Nat → FS
  | 0 => fun _ => no
  | w + 1 => fun ρ => bd (t ρ) fun k => if k then bd (b ρ) fun f => match f with
      | .nx ρ' => whileS t b w ρ'
      | .ct ρ' => whileS t b w ρ'
      | .bk ρ' => rt (.nx ρ')
      | .rt d => rt (.rt d)
    else rt (.nx ρ)
abbrev TGd := D → En → Option En
def tgN (i : Nat) : TGd := fun d ρ => some (setV i d ρ)
def tgs : List TGd → List D → En → Option En
  | [], [], ρ => some ρ
  | t :: ts, d :: ds, ρ => (t d ρ).bind (tgs ts ds)
  | _, _, _ => none
def tgT (ts : List TGd) : TGd := fun d ρ => match d with
  | .tup ds => tgs ts ds ρ
  | _ => none
def asgT (t : TGd) (f : FE) : FS := fun ρ => bd (f ρ) fun d => bd (lift (t d ρ)) fun ρ' => rt (.nx ρ')
def forL (t : TGd) (b : FS) : List D → FS
  | [] => fun ρ => rt (.nx ρ)
  | d :: ds => fun ρ => bd (lift (t d ρ)) fun ρ1 => bd (b ρ1) fun f => match f with
      | .nx ρ' => forL t b ds ρ'
      | .ct ρ' => forL t b ds ρ'
      | .bk ρ' => rt (.nx ρ')
      | .rt d => rt (.rt d)
abbrev FI := En → M (List D)
def forS (it : FI) (t : TGd) (b : FS) : FS := fun ρ => bd (it ρ) fun ds => forL t b ds ρ
def parS (i j : Nat) (a b : FE) : FS := fun ρ => bd (a ρ) fun x => bd (b ρ) fun y => rt (.nx (setV j y (setV i x ρ)))
def augS (f : D → D → Option D) (i : Nat) (a : FE) : FS := fun ρ => bd (lift (slot ρ i)) fun x => bd (a ρ) fun y => bd (lift (f x y)) fun z => rt (.nx (setV i z ρ))
def raiseS (n : Nat) (a : FE) : FS := fun ρ => bd (a ρ) fun d => fun S => .er n d S
/-- a ghost: what the name holds is frozen -/
def frzS (i : Nat) (b : FS) : FS := fun ρ => b (match ρ[i]? with
  | some (.ow d) => setV i d ρ
  | _ => ρ)
def enter (n : Nat) (ds : List D) : En := ds.map Slot.vl ++ List.replicate (n - ds.length) Slot.no
def leave : Fl → M D
  | .nx _ => rt .non
  | .rt d => rt d
  | _ => no
def body (n : Nat) (b : FS) (ds : List D) : M D := bd (b (enter n ds)) leave
def callE (F : List D → M D) (a : FA) : FE := fun ρ => bd (a ρ) F

def Owned (σ : L2.St) (ρ : En) (b : Addr) : Prop := ∃ (i : Nat) (d : D), ρ[i]? = some (.ow d) ∧ σ[i]? = some (some (.ref b))
structure KeepS (W : Wd) (H : Hp) (σ : L2.St) (ρ : En) (W' : Wd) (H' : Hp) : Prop where
  wex : WEx W W'
  old : ∀ b o, H b = some o → W.sa ≠ some b → ¬ Owned σ ρ b → H' b = some o
  fr : ∀ b o, H b = some o → ¬ Owned σ ρ b → W.H0 b = none → W'.H0 b = none
  sa : ∀ b o, H b = some o → W'.sa = some b → W.sa = some b
  there : ∀ b o, H b = some o → ∃ o', H' b = some o'
structure Step (W : Wd) (H : Hp) (σ : L2.St) (ρ : En) (W' : Wd) (H' : Hp) (σ' : L2.St) (ρ' : En) : Prop extends KeepS W H σ ρ W' H' where
  own : ∀ b, Owned σ' ρ' b → H b = none ∨ Owned σ ρ b
section
variable {K : PySem.W.Frag} {c : Cn} {W W1 W2 W' : Wd} {H H1 H2 H' : Hp} {S S1 S2 S' : DS} {σ σ1 σ2 σ' : L2.St} {ρ ρ1 ρ2 ρ' : En} {E : XK}
theorem Keep.toS (k : Keep W H W' H') (st : StOk K c W' H' S') : KeepS W H σ ρ W' H' := ⟨k.wex, fun b o h n _ => k.old b o h n, fun b o h _ n => k.fr b o h n, k.sa, fun b o h => by
  by_cases hs : W.sa = some b
  · exact st.ds.at (k.wex.2 b hs)
  · exact ⟨o, k.old b o h hs⟩⟩
theorem Keep.toStep (k : Keep W H W' H') (st : StOk K c W' H' S') : Step W H σ ρ W' H' σ ρ := ⟨k.toS st, fun _ h => .inr h⟩
theorem Step.refl (W : Wd) (H : Hp) (σ : L2.St) (ρ : En) : Step W H σ ρ W H σ ρ := ⟨⟨WEx.refl W, fun _ _ h _ _ => h, fun _ _ _ _ h => h, fun _ _ _ h => h, fun _ o h => ⟨o, h⟩⟩, fun _ h => .inr h⟩
theorem Step.keepS (k1 : Step W H σ ρ W1 H1 σ1 ρ1) (k2 : KeepS W1 H1 σ1 ρ1 W2 H2) : KeepS W H σ ρ W2 H2 where
  wex := k1.wex.trans k2.wex
  old := fun b o h n no => by
    refine k2.old b o (k1.old b o h n no) (fun e => n (k1.sa b o h e)) fun z => ?_
    rcases k1.own b z with q | q
    · rw [h] at q; cases q
    · exact no q
  fr := fun b o h no n => by
    have no1 : ¬ Owned σ1 ρ1 b := fun z => by
      rcases k1.own b z with q | q
      · rw [h] at q; cases q
      · exact no q
    obtain ⟨o1, ho1⟩ := k1.there b o h
    exact k2.fr b o1 ho1 no1 (k1.fr b o h no n)
  sa := fun b o h e => by
    obtain ⟨o1, ho1⟩ := k1.there b o h
    exact k1.sa b o h (k2.sa b o1 ho1 e)
  there := fun b o h => by
    obtain ⟨o1, ho1⟩ := k1.there b o h
    exact k2.there b o1 ho1
theorem Step.trans (k1 : Step W H σ ρ W1 H1 σ1 ρ1) (k2 : Step W1 H1 σ1 ρ1 W2 H2 σ2 ρ2) : Step W H σ ρ W2 H2 σ2 ρ2 where
  toKeepS := k1.keepS k2.toKeepS
  own := fun b h => by
    rcases k2.own b h with q | q
    · cases e : H b with
      | none => exact .inl rfl
      | some o =>
        obtain ⟨o1, ho1⟩ := k1.there b o e
        rw [q] at ho1
        cases ho1
    · exact k1.own b q
/-- what is wanted of an error behind statements -/
def ErS (K : PySem.W.Frag) (c : Cn) (W : Wd) (H : Hp) (σ : L2.St) (ρ : En) (E : XK) (n : Nat) (p : D) (S : DS) : Prop :=
  ∀ W' H' dd v, StOk K c W' H' S → KeepS W H σ ρ W' H' → H' dd = some (.xd [(c.fld n, v)]) → Rep K c W' p v → E (.ref (c.ca n)) (some dd) H'
def OutS (K : PySem.W.Frag) (c : Cn) (W : Wd) (H : Hp) (σ : L2.St) (ρ : En) (E : XK) (D : Ends) : Res Fl → Prop
  | .ok (.nx ρ') S' => ∀ W' H' σ', StOk K c W' H' S' → EnvOk K c W' H' σ' ρ' → Step W H σ ρ W' H' σ' ρ' → D.nx σ' H'
  | .ok (.bk ρ') S' => ∀ W' H' σ', StOk K c W' H' S' → EnvOk K c W' H' σ' ρ' → Step W H σ ρ W' H' σ' ρ' → D.bk σ' H'
  | .ok (.ct ρ') S' => ∀ W' H' σ', StOk K c W' H' S' → EnvOk K c W' H' σ' ρ' → Step W H σ ρ W' H' σ' ρ' → D.ct σ' H'
  | .ok (.rt d) S' => ∀ W' H' v, StOk K c W' H' S' → KeepS W H σ ρ W' H' → Rep K c W' d v → D.rt v H'
  | .er n p S' => ErS K c W H σ ρ E n p S'
  | .no => False
def tS (K : PySem.W.Frag) (c : Cn) (E : XK) (g : FS) : TS := fun D σ H => ∃ W ρ S, StOk K c W H S ∧ EnvOk K c W H σ ρ ∧ OutS K c W H σ ρ E D (g ρ S)
theorem ErS.pre {n : Nat} {p : D} (h : ErS K c W H σ ρ E n p S) (k : Step W H σ ρ W1 H1 σ1 ρ1) : ErS K c W1 H1 σ1 ρ1 E n p S :=
  fun W' H' dd v st' k' e r => h W' H' dd v st' (k.keepS k') e r
theorem ErS.q {n : Nat} {p : D} (h : ErS K c W H σ ρ E n p S) : ErQ K c W H E n p S := fun W' H' dd v st' k' e r => h W' H' dd v st' (k'.toS st') e r
theorem OutS.pre {D : Ends} {r : Res Fl} (h : OutS K c W H σ ρ E D r) (k : Step W H σ ρ W1 H1 σ1 ρ1) : OutS K c W1 H1 σ1 ρ1 E D r := by
  cases r with
  | ok f S' =>
    cases f with
    | nx ρ' => exact fun W' H' σ' st' en' k' => h W' H' σ' st' en' (k.trans k')
    | bk ρ' => exact fun W' H' σ' st' en' k' => h W' H' σ' st' en' (k.trans k')
    | ct ρ' => exact fun W' H' σ' st' en' k' => h W' H' σ' st' en' (k.trans k')
    | rt d => exact fun W' H' v st' k' r => h W' H' v st' (k.keepS k') r
  | er n p S' => exact ErS.pre h k
  | no => exact h
/-! ### storing -/
theorem EnvOk.setV (en : EnvOk K c W H σ ρ) {d : D} {v : V} (r : Rep K c W d v) (i : Nat) : EnvOk K c W H (σ.set i (some v)) (setV i d ρ) := by
  have hl := en.len
  refine ⟨by unfold Mini.setV; rw [List.length_set, List.length_set]; exact hl, fun j e h => ?_, fun j e h => ?_, fun j k d1 d2 a h1 h2 h3 h4 => ?_⟩
  · unfold Mini.setV at h
    by_cases hj : i = j
    · subst hj
      have hi : i < ρ.length := by
        have := (List.getElem?_eq_some_iff.mp h).1
        rwa [List.length_set] at this
      rw [List.getElem?_set_self hi] at h
      cases h
      exact ⟨v, List.getElem?_set_self (by rw [← hl]; exact hi), r⟩
    · rw [List.getElem?_set_ne hj] at h ⊢
      exact en.vl j e h
  · unfold Mini.setV at h
    by_cases hj : i = j
    · subst hj
      have hi : i < ρ.length := by
        have := (List.getElem?_eq_some_iff.mp h).1
        rwa [List.length_set] at this
      rw [List.getElem?_set_self hi] at h
      cases h
    · rw [List.getElem?_set_ne hj] at h ⊢
      exact en.ow j e h
  · unfold Mini.setV at h1 h2
    have n1 : i ≠ j := fun e => by
      subst e
      have hi : i < ρ.length := by
        have := (List.getElem?_eq_some_iff.mp h1).1
        rwa [List.length_set] at this
      rw [List.getElem?_set_self hi] at h1
      cases h1
    have n2 : i ≠ k := fun e => by
      subst e
      have hi : i < ρ.length := by
        have := (List.getElem?_eq_some_iff.mp h2).1
        rwa [List.length_set] at this
      rw [List.getElem?_set_self hi] at h2
      cases h2
    rw [List.getElem?_set_ne n1] at h1 h3
    rw [List.getElem?_set_ne n2] at h2 h4
    exact en.sep j k d1 d2 a h1 h2 h3 h4
theorem owned_setV {d : D} {v : Option V} {i : Nat} {b : Addr} (h : Owned (σ.set i v) (setV i d ρ) b) : Owned σ ρ b := by
  obtain ⟨j, e, h1, h2⟩ := h
  unfold setV at h1
  have n1 : i ≠ j := fun z => by
    subst z
    have hi : i < ρ.length := by
      have := (List.getElem?_eq_some_iff.mp h1).1
      rwa [List.length_set] at this
    rw [List.getElem?_set_self hi] at h1
    cases h1
  rw [List.getElem?_set_ne n1] at h1 h2
  exact ⟨j, e, h1, h2⟩
theorem EnvOk.own_some (en : EnvOk K c W H σ ρ) {b : Addr} (h : Owned σ ρ b) : ∃ o, H b = some o := by
  obtain ⟨i, d, h1, h2⟩ := h
  obtain ⟨a, h3, _, _, h4⟩ := en.ow i d h1
  rw [h2] at h3
  cases h3
  exact h4.some
theorem EnvOk.setO (en : EnvOk K c W H σ ρ) {d : D} {a : Addr} (hn : ¬ Owned σ ρ a) (h0 : W.H0 a = none) (hs : W.sa ≠ some a) (ho : Own K c W H a d) (i : Nat) : EnvOk K c W H (σ.set i (some (.ref a))) (setO i d ρ) := by
  have hl := en.len
  refine ⟨by unfold Mini.setO; rw [List.length_set, List.length_set]; exact hl, fun j e h => ?_, fun j e h => ?_, fun j k d1 d2 b h1 h2 h3 h4 => ?_⟩
  · unfold Mini.setO at h
    by_cases hj : i = j
    · subst hj
      have hi : i < ρ.length := by
        have := (List.getElem?_eq_some_iff.mp h).1
        rwa [List.length_set] at this
      rw [List.getElem?_set_self hi] at h
      cases h
    · rw [List.getElem?_set_ne hj] at h ⊢
      exact en.vl j e h
  · unfold Mini.setO at h
    by_cases hj : i = j
    · subst hj
      have hi : i < ρ.length := by
        have := (List.getElem?_eq_some_iff.mp h).1
        rwa [List.length_set] at this
      rw [List.getElem?_set_self hi] at h
      cases h
      exact ⟨a, List.getElem?_set_self (by rw [← hl]; exact hi), h0, hs, ho⟩
    · rw [List.getElem?_set_ne hj] at h ⊢
      exact en.ow j e h
  · unfold Mini.setO at h1 h2
    by_cases hj : i = j
    · by_cases hk : i = k
      · exact hj.symm.trans hk
      · subst hj
        have hi : i < σ.length := by
          have := (List.getElem?_eq_some_iff.mp h3).1
          rwa [List.length_set] at this
        rw [List.getElem?_set_self hi] at h3
        cases h3
        rw [List.getElem?_set_ne hk] at h2 h4
        exact absurd ⟨k, d2, h2, h4⟩ hn
    · by_cases hk : i = k
      · subst hk
        have hi : i < σ.length := by
          have := (List.getElem?_eq_some_iff.mp h4).1
          rwa [List.length_set] at this
        rw [List.getElem?_set_self hi] at h4
        cases h4
        rw [List.getElem?_set_ne hj] at h1 h3
        exact absurd ⟨j, d1, h1, h3⟩ hn
      · rw [List.getElem?_set_ne hj] at h1 h3
        rw [List.getElem?_set_ne hk] at h2 h4
        exact en.sep j k d1 d2 b h1 h2 h3 h4
theorem owned_setO {d : D} {a : Addr} {i : Nat} {b : Addr} (h : Owned (σ.set i (some (.ref a))) (setO i d ρ) b) : b = a ∨ Owned σ ρ b := by
  obtain ⟨j, e, h1, h2⟩ := h
  unfold setO at h1
  by_cases hj : i = j
  · subst hj
    have hi : i < σ.length := by
      have := (List.getElem?_eq_some_iff.mp h2).1
      rwa [List.length_set] at this
    rw [List.getElem?_set_self hi] at h2
    cases h2
    exact .inl rfl
  · rw [List.getElem?_set_ne hj] at h1 h2
    exact .inr ⟨j, e, h1, h2⟩
/-! ### expressions ahead of statements -/
theorem thenS_M {f : FE} {g : D → M Fl} {Q : VK} {D : Ends} (st : StOk K c W H S) (en : EnvOk K c W H σ ρ) (h : OutS K c W H σ ρ E D (bd (f ρ) g S))
    (k : ∀ d S' W' H' v, StOk K c W' H' S' → EnvOk K c W' H' σ ρ → Step W H σ ρ W' H' σ ρ → Rep K c W' d v → OutS K c W' H' σ ρ E D (g d S') → Q v H') : tM K c E f σ H Q :=
  then_M (O := OutS K c W H σ ρ E D) st en (fun _ _ _ z => ErS.q z) (fun z => z) h fun d S1 W1 H1 v st1 k1 r1 q1 =>
    k d S1 W1 H1 v st1 (en.ext k1) (k1.toStep st1) r1 (OutS.pre q1 (k1.toStep st1))
theorem thenS_T {f : FB} {g : Bool → M Fl} {Q : Bool → Hp → Prop} {D : Ends} (st : StOk K c W H S) (en : EnvOk K c W H σ ρ) (h : OutS K c W H σ ρ E D (bd (f ρ) g S))
    (k : ∀ d S' W' H', StOk K c W' H' S' → EnvOk K c W' H' σ ρ → Step W H σ ρ W' H' σ ρ → OutS K c W' H' σ ρ E D (g d S') → Q d H') : tT K c E f σ H Q :=
  then_T (O := OutS K c W H σ ρ E D) st en (fun _ _ _ z => ErS.q z) (fun z => z) h fun d S1 W1 H1 st1 k1 q1 =>
    k d S1 W1 H1 st1 (en.ext k1) (k1.toStep st1) (OutS.pre q1 (k1.toStep st1))
end
section
variable {X : Cx} {c : Cn} {E : XK} {st : Stmt} {rest : List Stmt} {a b e tg : Expr} {fa fb : FE} {ta : FB} {g h : FS} {pos : Pos} {td : TGd}
theorem ms_nil : PSs X [] (tS X.K c E skipS) := ⟨fun pins s σ H D I q => by
  obtain ⟨W, ρ, S, st, en, q⟩ := q
  exact pss_nil.run pins s σ H D I (q W H σ st en (Step.refl W H σ ρ))⟩
theorem ms_cons (h1 : PS X st (tS X.K c E g)) (h2 : PSs X rest (tS X.K c E h)) : PSs X (st :: rest) (tS X.K c E (seqS g h)) := ⟨fun pins s σ H D I q => by
  refine (pss_cons h1 h2).run pins s σ H D I ?_
  obtain ⟨W, ρ, S, st, en, q⟩ := q
  refine ⟨W, ρ, S, st, en, ?_⟩
  unfold seqS bd at q
  cases e : g ρ S with
  | ok f S' =>
    rw [e] at q
    cases f with
    | nx ρ' => exact fun W' H' σ' st' en' k' => ⟨W', ρ', S', st', en', OutS.pre q k'⟩
    | bk ρ' => exact q
    | ct ρ' => exact q
    | rt d => exact q
  | er n p S' =>
    rw [e] at q
    exact q
  | no =>
    rw [e] at q
    exact q⟩
theorem ms_one (h1 : PS X st (tS X.K c E g)) : PSs X [st] (tS X.K c E g) := pss_one h1
theorem ms_pass : PS X (.Pass pos) (tS X.K c E skipS) := ps_imp ps_pass fun D σ H q => by
  obtain ⟨W, ρ, S, st, en, q⟩ := q
  exact q W H σ st en (Step.refl W H σ ρ)
theorem ms_break : PS X (.Break pos) (tS X.K c E brkS) := ps_imp ps_break fun D σ H q => by
  obtain ⟨W, ρ, S, st, en, q⟩ := q
  exact q W H σ st en (Step.refl W H σ ρ)
theorem ms_continue : PS X (.Continue pos) (tS X.K c E cntS) := ps_imp ps_continue fun D σ H q => by
  obtain ⟨W, ρ, S, st, en, q⟩ := q
  exact q W H σ st en (Step.refl W H σ ρ)
theorem ms_expr (he : PE X e (tM X.K c E fa)) (hs : swapsWith e none pos.line X.env = pure false := by rfl) : PS X (.Expr e pos) (tS X.K c E (exprS fa)) := ps_imp (ps_expr he hs) fun D σ H q => by
  obtain ⟨W, ρ, S, st, en, q⟩ := q
  exact thenS_M st en q fun d S' W' H' v st' en' k r q' => q' W' H' σ st' en' (Step.refl W' H' σ ρ)
theorem ms_ret (he : PE X e (tM X.K c E fa)) : PS X (.Return (some e) pos) (tS X.K c E (retS fa)) := ps_imp (ps_ret he) fun D σ H q => by
  obtain ⟨W, ρ, S, st, en, q⟩ := q
  exact thenS_M st en q fun d S' W' H' v st' en' k r q' => q' W' H' v st' (Step.refl W' H' σ ρ).toKeepS r
theorem ms_retN : PS X (.Return none pos) (tS X.K c E retNS) := ps_imp ps_retN fun D σ H q => by
  obtain ⟨W, ρ, S, st, en, q⟩ := q
  exact q W H .non st (Step.refl W H σ ρ).toKeepS rfl
theorem ms_if {t : Expr} {x y : List Stmt} (ht : PT X t (tT X.K c E ta)) (hx : PSs X x (tS X.K c E g)) (hy : PSs X y (tS X.K c E h)) : PS X (.If t x y pos) (tS X.K c E (ifS ta g h)) := ps_imp (ps_if ht hx hy) fun D σ H q => by
  obtain ⟨W, ρ, S, st, en, q⟩ := q
  refine thenS_T st en q fun d S' W' H' st' en' k q' => ?_
  cases d with
  | true => exact ⟨W', ρ, S', st', en', q'⟩
  | false => exact ⟨W', ρ, S', st', en', q'⟩
theorem asg_out {i : Nat} {te : TE} (ht : ∀ σ H Q, tM X.K c E fa σ H Q → te σ H Q) : ∀ D σ H, tS X.K c E (asgS i fa) D σ H → tAsg te (gName i) D σ H := fun D σ H q => by
  obtain ⟨W, ρ, S, st, en, q⟩ := q
  exact ht σ H _ (thenS_M st en q fun d S' W' H' v st' en' k r q' => q' W' H' _ st' (en'.setV r i) ⟨(Step.refl W' H' σ ρ).toKeepS, fun b z => .inr (owned_setV z)⟩)
theorem ms_set {i : Nat} {x : Str} {pos' : Pos} (hN : X.N.Nodup) (hi : X.N[i]? = some x) (hx : Loc X.env.scope x) (he : PE X e (tM X.K c E fa)) (hs : swapsWith e (some (.Name x pos')) pos.line X.env = pure false := by rfl)
    (hf : X.fn x = true ∨ X.env.scope.names.lookup x = some .local := by first | exact .inl rfl | exact .inr rfl | assumption) : PS X (.Assign [.Name x pos'] e pos) (tS X.K c E (asgS i fa)) := ps_imp (ps_set hN hi hx he hs hf) (asg_out fun _ _ _ z => z)
theorem asgO_out {i : Nat} {te : TE} (ht : ∀ σ H Q, tO X.K c E fa σ H Q → te σ H Q) : ∀ D σ H, tS X.K c E (asgOS i fa) D σ H → tAsg te (gName i) D σ H := fun D σ H q => by
  obtain ⟨W, ρ, S, st, en, q⟩ := q
  refine ht σ H _ (tO_mk st en ?_)
  unfold asgOS bd at q
  cases e : fa ρ S with
  | ok d S' =>
    rw [e] at q
    rintro W' H' v st' k' ⟨p, rfl, n1, n2, n3, own⟩
    have en' := en.ext k'
    have no : ¬ Owned σ ρ p := fun z => by
      obtain ⟨o, ho⟩ := en.own_some z
      rw [n1] at ho
      cases ho
    refine q W' H' _ st' (en'.setO no n2 n3 own i) ⟨k'.toS st', fun b z => ?_⟩
    rcases owned_setO z with rfl | z
    · exact .inl n1
    · exact .inr z
  | er n p S' =>
    rw [e] at q
    exact ErS.q q
  | no =>
    rw [e] at q
    exact q
theorem ms_setO {i : Nat} {x : Str} {pos' : Pos} (hN : X.N.Nodup) (hi : X.N[i]? = some x) (hx : Loc X.env.scope x) (he : PE X e (tO X.K c E fa)) (hs : swapsWith e (some (.Name x pos')) pos.line X.env = pure false := by rfl)
    (hf : X.fn x = true ∨ X.env.scope.names.lookup x = some .local := by first | exact .inl rfl | exact .inr rfl | assumption) : PS X (.Assign [.Name x pos'] e pos) (tS X.K c E (asgOS i fa)) := ps_imp (ps_set hN hi hx he hs hf) (asgO_out fun _ _ _ z => z)
/-- a ghost ahead of a statement -/
theorem frz_out {i : Nat} {t : TS} (hg : ∀ D σ H, tS X.K c E g D σ H → t D σ H) : ∀ D σ H, tS X.K c E (frzS i g) D σ H → t D σ H := fun D σ H q => by
  refine hg D σ H ?_
  obtain ⟨W, ρ, S, st, en, q⟩ := q
  unfold frzS at q
  split at q
  · rename_i d hi
    obtain ⟨a, h1, h2, h3, h4⟩ := en.ow i d hi
    obtain ⟨o, ho⟩ := h4.some
    have st' := frz_st st h2 h3 ho
    have eσ : σ.set i (some (.ref a)) = σ := by
      obtain ⟨hl, hv⟩ := List.getElem?_eq_some_iff.mp h1
      rw [← hv]
      exact List.set_getElem_self hl
    have hil : i < ρ.length := (List.getElem?_eq_some_iff.mp hi).1
    -- the others stay ours
    have en' : EnvOk X.K c (W.frz a o) H σ (setV i d ρ) := by
      refine ⟨by unfold setV; rw [List.length_set]; exact en.len, fun j e hj => ?_, fun j e hj => ?_, fun j k d1 d2 b j1 j2 j3 j4 => ?_⟩
      · unfold setV at hj
        by_cases hji : i = j
        · subst hji
          rw [List.getElem?_set_self hil] at hj
          cases hj
          exact ⟨_, h1, frz_rep h2 ho h4⟩
        · rw [List.getElem?_set_ne hji] at hj
          obtain ⟨v, q1, q2⟩ := en.vl j e hj
          exact ⟨v, q1, Rep.ext (frz_ex h2) e v q2⟩
      · unfold setV at hj
        by_cases hji : i = j
        · subst hji
          rw [List.getElem?_set_self hil] at hj
          cases hj
        · rw [List.getElem?_set_ne hji] at hj
          obtain ⟨a2, q1, q2, q3, q4⟩ := en.ow j e hj
          have hne : a2 ≠ a := fun z => hji (en.sep i j d e a hi hj h1 (by rw [q1, z]))
          exact ⟨a2, q1, (show upd W.H0 a o a2 = none by rw [upd_ne hne]; exact q2), q3, q4.ext (frz_ex h2) fun _ z => z⟩
      · unfold setV at j1 j2
        have n1 : i ≠ j := fun z => by
          subst z
          rw [List.getElem?_set_self hil] at j1
          cases j1
        have n2 : i ≠ k := fun z => by
          subst z
          rw [List.getElem?_set_self hil] at j2
          cases j2
        rw [List.getElem?_set_ne n1] at j1
        rw [List.getElem?_set_ne n2] at j2
        exact en.sep j k d1 d2 b j1 j2 j3 j4
    refine ⟨W.frz a o, setV i d ρ, S, st', en', OutS.pre q ⟨⟨frz_ex h2, fun _ _ z _ _ => z, fun b u hb no e => ?_, fun _ _ _ z => z, fun _ u z => ⟨u, z⟩⟩, fun b z => .inr ?_⟩⟩
    · show upd W.H0 a o b = none
      rw [upd_ne fun z => no ⟨i, d, hi, by rw [h1, z]⟩]
      exact e
    · rw [← eσ] at z
      exact owned_setV z
  · exact ⟨W, ρ, S, st, en, q⟩
theorem ms_frz {i : Nat} (h1 : PS X st (tS X.K c E g)) : PS X st (tS X.K c E (frzS i g)) := ps_imp h1 (frz_out fun _ _ _ z => z)
/-! targets -/
theorem wipe_set {σ : L2.St} {i : Nat} {x : Option V} : ∀ {vs : List Nat}, i ∈ vs → L2.wipe (σ.set i x) vs = L2.wipe σ vs
  | [], h => by simp at h
  | v :: vs, h => by
    show (L2.wipe (σ.set i x) vs).set v none = (L2.wipe σ vs).set v none
    by_cases hm : i ∈ vs
    · rw [wipe_set hm]
    · rcases List.mem_cons.mp h with rfl | h
      · have comm : ∀ (us : List Nat), i ∉ us → L2.wipe (σ.set i x) us = (L2.wipe σ us).set i x := fun us => by
          induction us with
          | nil => intro _; rfl
          | cons u us ih =>
            intro hu
            have h1 : i ≠ u := fun e => hu (by simp [e])
            have h2 : i ∉ us := fun e => hu (List.mem_cons_of_mem _ e)
            show (L2.wipe (σ.set i x) us).set u none = ((L2.wipe σ us).set u none).set i x
            rw [ih h2, List.set_comm _ _ h1]
        rw [comm vs hm, List.set_set]
      · exact absurd h hm
def tGd (K : PySem.W.Frag) (c : Cn) (us : List Nat) (t : TGd) : TG := fun v σ H Q => ∃ W ρ S d ρ', StOk K c W H S ∧ EnvOk K c W H σ ρ ∧ Rep K c W d v ∧ t d ρ = some ρ' ∧ ∀ σ', EnvOk K c W H σ' ρ' → (∀ b, Owned σ' ρ' b → Owned σ ρ b) → L2.wipe σ' us = L2.wipe σ us → Q σ' H
def tGds (K : PySem.W.Frag) (c : Cn) (us : List Nat) (ts : List TGd) : TGs := fun vs σ H Q => ∃ W ρ S ds ρ', StOk K c W H S ∧ EnvOk K c W H σ ρ ∧ RepL K c W ds vs ∧ tgs ts ds ρ = some ρ' ∧ ∀ σ', EnvOk K c W H σ' ρ' → (∀ b, Owned σ' ρ' b → Owned σ ρ b) → L2.wipe σ' us = L2.wipe σ us → Q σ' H
theorem pg_imp {t t' : TG} (h : PG X tg t) (i : ∀ v σ H Q, t' v σ H Q → t v σ H Q) : PG X tg t' := ⟨fun pins s σ H v u Q I r q => h.run pins s σ H v u Q I r (i v σ H Q q)⟩
theorem pgs_imp {es : List Expr} {t t' : TGs} (h : PGs X es t) (i : ∀ v σ H Q, t' v σ H Q → t v σ H Q) : PGs X es t' := ⟨fun pins s σ H v u Q I r q => h.run pins s σ H v u Q I r (i v σ H Q q)⟩
theorem mg_name {i : Nat} {x : Str} {us : List Nat} (hN : X.N.Nodup) (hi : X.N[i]? = some x) (hx : Loc X.env.scope x) (hu : i ∈ us := by decide) (hf : X.fn x = true ∨ X.env.scope.names.lookup x = some .local := by first | exact .inl rfl | exact .inr rfl | assumption) : PG X (.Name x pos) (tGd X.K c us (tgN i)) :=
  pg_imp (pg_name hN hi hx hf) fun v σ H Q h => by
    obtain ⟨W, ρ, S, d, ρ', st, en, r, e, q⟩ := h
    cases e
    exact q _ (en.setV r i) (fun b z => owned_setV z) (wipe_set hu)
theorem mgs_nil {us : List Nat} : PGs X [] (tGds X.K c us []) := pgs_imp pgs_nil fun vs σ H Q h => by
  obtain ⟨W, ρ, S, ds, ρ', st, en, r, e, q⟩ := h
  cases ds with
  | nil =>
    cases r
    cases e
    exact ⟨rfl, q σ en (fun _ z => z) rfl⟩
  | cons d ds => cases e
theorem mgs_cons {us : List Nat} {es : List Expr} {t : TGd} {ts : List TGd} (h1 : PG X e (tGd X.K c us t)) (h2 : PGs X es (tGds X.K c us ts)) (hs : (assignEach (e :: es) X.env).map (·.2) = assign e X.env :: (assignEach es X.env).map (·.2) := by rfl) : PGs X (e :: es) (tGds X.K c us (t :: ts)) :=
  pgs_imp (pgs_cons h1 h2 hs) fun vs σ H Q h => by
    obtain ⟨W, ρ, S, ds, ρ', st, en, r, e, q⟩ := h
    cases ds with
    | nil => cases e
    | cons d ds =>
      obtain ⟨v, r', rfl, r1, r2⟩ := r
      obtain ⟨ρ1, e1, e2⟩ := Option.bind_eq_some_iff.mp e
      exact ⟨v, r', rfl, W, ρ, S, d, ρ1, st, en, r1, e1, fun σ1 en1 o1 w1 => ⟨W, ρ1, S, ds, ρ', st, en1, r2, e2, fun σ2 en2 o2 w2 => q σ2 en2 (fun b z => o1 b (o2 b z)) (w2.trans w1)⟩⟩
theorem tgs_len {ts : List TGd} {ds : List D} {ρ ρ' : En} (h : tgs ts ds ρ = some ρ') : ds.length = ts.length := by
  induction ts generalizing ds ρ with
  | nil =>
    cases ds with
    | nil => rfl
    | cons d ds => cases h
  | cons t ts ih =>
    cases ds with
    | nil => cases h
    | cons d ds =>
      obtain ⟨ρ1, e1, e2⟩ := Option.bind_eq_some_iff.mp h
      rw [List.length_cons, List.length_cons, ih e2]
theorem mg_tup {us : List Nat} {es : List Expr} {k : Nat} {ts : List TGd} (hc : X.calm = true) (h : PGs X es (tGds X.K c us ts)) (hn : (assignEach es X.env).length = ts.length := by rfl) (hst : (assignEach es X.env).findIdx? (·.1) = none := by rfl) : PG X (.Tuple es k pos) (tGd X.K c us (tgT ts)) :=
  pg_imp (pg_tup hc h hn hst) fun v σ H Q h => by
    obtain ⟨W, ρ, S, d, ρ', st, en, r, e, q⟩ := h
    cases d <;> first | (cases e; done) | skip
    obtain ⟨a, vs, rfl, h1, h2⟩ := r
    exact ⟨a, vs, rfl, SqT.of (st.sub _ _ h1), by rw [RepL.length h2]; exact tgs_len e, W, ρ, S, _, ρ', st, en, h2, e, q⟩
theorem ms_asg {us : List Nat} (he : PE X e (tM X.K c E fa)) (hg : PG X tg (tGd X.K c us td)) (hs : swapsWithSole [tg] e pos.line X.env = pure false := by rfl) (hw : swappedStores [tg] e X.env = pure none := by rfl)
    (h1 : (assignEach [tg] X.env).map (·.2) = [assign tg X.env] := by rfl) : PS X (.Assign [tg] e pos) (tS X.K c E (asgT td fa)) := ps_imp (ps_asg he hg hs hw h1) fun D σ H q => by
  obtain ⟨W, ρ, S, st, en, q⟩ := q
  refine thenS_M st en q fun d S' W' H' v st' en' k r q' => ?_
  unfold bd at q'
  cases e : td d ρ with
  | none => rw [e] at q'; exact q'.elim
  | some ρ' =>
    rw [e] at q'
    exact ⟨W', ρ, S', d, ρ', st', en', r, e, fun σ' en2 o2 _ => q' W' H' σ' st' en2 ⟨(Step.refl W' H' σ ρ).toKeepS, fun b z => .inr (o2 b z)⟩⟩
theorem ms_par {i j : Nat} {x y : Str} {px py pt : Pos} {kt k2 pt2} (hc : X.calm = true) (hN : X.N.Nodup) (hi : X.N[i]? = some x) (hj : X.N[j]? = some y) (hij : i ≠ j)
    (hx : X.env.scope.names.lookup x = some .local) (hy : X.env.scope.names.lookup y = some .local) (ha : PE X a (tM X.K c E fa)) (hb : PE X b (tM X.K c E fb)) 
    (hw : swappedStores [.Tuple [.Name x px, .Name y py] kt pt] (.Tuple [a, b] k2 pt2) X.env = pure (some [x, y]))
    (hs : swapsWithSole [.Tuple [.Name x px, .Name y py] kt pt] (.Tuple [a, b] k2 pt2) pos.line X.env = pure false := by rfl)
    (s1 : starEach [a, b] X.env = (false, eval a X.env) :: starEach [b] X.env := by rfl) (s2 : starEach [b] X.env = (false, eval b X.env) :: starEach [] X.env := by rfl) :
    PS X (.Assign [.Tuple [.Name x px, .Name y py] kt pt] (.Tuple [a, b] k2 pt2) pos) (tS X.K c E (parS i j fa fb)) :=
  ps_imp (ps_par hc hN hi hj hij hx hy (pa_cons ha (pa_cons hb pa_nil s2) s1) hw hs) fun D σ H q => by
    obtain ⟨W, ρ, S, st, en, q⟩ := q
    refine thenS_M st en q fun d S1 W1 H1 v st1 en1 k1 r1 q1 => ?_
    refine thenS_M st1 en1 q1 fun d2 S2 W2 H2 u st2 en2 k2 r2 q2 => ?_
    exact ⟨v, u, rfl, q2 W2 H2 _ st2 ((en2.setV (Rep.ext k2.wex d v r1) i).setV r2 j) ⟨(Step.refl W2 H2 σ ρ).toKeepS, fun b z => .inr (owned_setV (owned_setV z))⟩⟩
end
end Mini
namespace Mini
open PySem PySem.Spec PyProof.Rows L2 Evl

/-! ### what is walked -/
/-- the item x at the heap H', H the heap ahead: as it stood, or a new tuple of two -/
def Yld (K : PySem.W.Frag) (c : Cn) (W : Wd) (d : D) (H : Hp) (x : V) (H' : Hp) : Prop :=
  (H' = H ∧ Rep K c W d x) ∨ ∃ T x1 x2 d1 d2, x = .ref T ∧ H T = none ∧ H' = upd H T (.tup [x1, x2]) ∧ d = .tup [d1, d2] ∧ Rep K c W d1 x1 ∧ Rep K c W d2 x2
structure Itr2 (K : PySem.W.Frag) (c : Cn) (W : Wd) (J : It) (ds : List D) : Prop where
  go : ∀ i H, i < ds.length → Ex W.H0 H → J.go i H
  stop : ∀ H, Ex W.H0 H → J.stop ds.length H
  yld : ∀ i H x H' d, ds[i]? = some d → Ex W.H0 H → J.yld i H x H' → Yld K c W d H x H'
def OutI (K : PySem.W.Frag) (c : Cn) (W : Wd) (H : Hp) (E : XK) (R : It → Hp → Prop) : Res (List D) → Prop
  | .ok ds S' => ∀ W' H' J, StOk K c W' H' S' → Keep W H W' H' → Itr2 K c W' J ds → R J H'
  | .er n p S' => ErQ K c W H E n p S'
  | .no => False
def tI (K : PySem.W.Frag) (c : Cn) (E : XK) (g : FI) : TI := fun σ H R => ∃ W ρ S, StOk K c W H S ∧ EnvOk K c W H σ ρ ∧ OutI K c W H E R (g ρ S)
section
variable {K : PySem.W.Frag} {c : Cn} {W W1 W2 W' : Wd} {H H1 H2 H' : Hp} {S S1 S2 S' : DS} {σ σ1 σ2 σ' : L2.St} {ρ ρ1 ρ2 ρ' : En} {E : XK}
theorem repL_get' {ds : List D} {vs : List V} {j : Nat} {d : D} {v : V} (r : RepL K c W ds vs) (h : ds[j]? = some d) (hv : vs[j]? = some v) : Rep K c W d v := by
  obtain ⟨u, h1, h2⟩ := repL_get r h
  rw [hv] at h1
  cases h1
  exact h2
theorem itr_list {a : Addr} {vs : List V} {ds : List D} (h : W.H0 a = some (.lst vs)) (r : RepL K c W ds vs) : Itr2 K c W (Itl K a) ds where
  go := fun i H hi e => walk_list.goes i H (by rw [RepL.length r]; exact hi) (SqL.of (e _ _ h))
  stop := fun H e => by
    rw [← RepL.length r]
    exact walk_list.stops H (SqL.of (e _ _ h))
  yld := fun i H x H' d hd e y => by
    have hi : i < vs.length := by rw [RepL.length r]; exact (List.getElem?_eq_some_iff.mp hd).1
    obtain ⟨e1, e2⟩ := walk_list.yields i H x H' hi (SqL.of (e _ _ h)) y
    exact .inl ⟨e1, repL_get' r hd e2⟩
theorem itr_tup {a : Addr} {vs : List V} {ds : List D} (h : W.H0 a = some (.tup vs)) (r : RepL K c W ds vs) : Itr2 K c W (Itt K a) ds where
  go := fun i H hi e => walk_tup.goes i H (by rw [RepL.length r]; exact hi) (SqT.of (e _ _ h))
  stop := fun H e => by
    rw [← RepL.length r]
    exact walk_tup.stops H (SqT.of (e _ _ h))
  yld := fun i H x H' d hd e y => by
    have hi : i < vs.length := by rw [RepL.length r]; exact (List.getElem?_eq_some_iff.mp hd).1
    obtain ⟨e1, e2⟩ := walk_tup.yields i H x H' hi (SqT.of (e _ _ h)) y
    exact .inl ⟨e1, repL_get' r hd e2⟩
theorem itr_scr {a : Addr} {ns : List Int} (h : SqL K W.H0 a (ns.map V.int)) : Itr2 K c W (Itl K a) (ns.map D.int) where
  go := fun i H hi e => walk_list.goes i H (by rw [List.length_map] at hi ⊢; exact hi) (ex_l e h)
  stop := fun H e => by
    have q := walk_list.stops H (ex_l e h)
    rw [List.length_map] at q ⊢
    exact q
  yld := fun i H x H' d hd e y => by
    have hi : i < (ns.map V.int).length := by
      have := (List.getElem?_eq_some_iff.mp hd).1
      rw [List.length_map] at this ⊢
      exact this
    obtain ⟨e1, e2⟩ := walk_list.yields i H x H' hi (ex_l e h) y
    rw [List.getElem?_map] at hd e2
    cases q : ns[i]? with
    | none => rw [q] at hd; cases hd
    | some n =>
      rw [q] at hd e2
      cases hd
      cases e2
      exact .inl ⟨e1, rfl⟩
theorem itr_tpx {a : Addr} {o : Obj} {vs : List V} {ds : List D} (h : W.H0 a = some (.frz o (.tup vs))) (r : RepL K c W ds vs) : Itr2 K c W (Itt K a) ds where
  go := fun i H hi e => walk_tup.goes i H (by rw [RepL.length r]; exact hi) (.inl (.inr ⟨o, e _ _ h⟩))
  stop := fun H e => by
    rw [← RepL.length r]
    exact walk_tup.stops H (.inl (.inr ⟨o, e _ _ h⟩))
  yld := fun i H x H' d hd e y => by
    have hi : i < vs.length := by rw [RepL.length r]; exact (List.getElem?_eq_some_iff.mp hd).1
    obtain ⟨e1, e2⟩ := walk_tup.yields i H x H' hi (.inl (.inr ⟨o, e _ _ h⟩)) y
    exact .inl ⟨e1, repL_get' r hd e2⟩
def rngD (lo : Int) (n : Nat) : List D := (List.range n).map fun i => .int (lo + (i : Nat))
theorem rngD_length (lo : Int) (n : Nat) : (rngD lo n).length = n := by unfold rngD; rw [List.length_map, List.length_range]
theorem rngD_get {lo : Int} {n i : Nat} {d : D} (h : (rngD lo n)[i]? = some d) : i < n ∧ d = .int (lo + (i : Nat)) := by
  have hi := (List.getElem?_eq_some_iff.mp h).1
  rw [rngD_length] at hi
  unfold rngD at h
  rw [List.getElem?_map, List.getElem?_range hi] at h
  cases h
  exact ⟨hi, rfl⟩
theorem itr_rng {lo : Int} {n : Nat} : Itr2 K c W (L2.Itr lo n) (rngD lo n) where
  go := fun i H hi _ => by rw [rngD_length] at hi; exact hi
  stop := fun H _ => by rw [rngD_length]; exact Nat.le_refl _
  yld := fun i H x H' d hd _ y => by
    obtain ⟨_, rfl⟩ := rngD_get hd
    obtain ⟨e1, e2⟩ := y
    exact .inl ⟨e1, e2⟩
def rngC (lo k : Int) (n : Nat) : List D := (List.range n).map fun i => .int (lo + (i : Nat) * k)
theorem rngC_length (lo k : Int) (n : Nat) : (rngC lo k n).length = n := by unfold rngC; rw [List.length_map, List.length_range]
theorem itr_rngC {lo k : Int} {n : Nat} : Itr2 K c W (Itc lo k n) (rngC lo k n) where
  go := fun i H hi _ => by rw [rngC_length] at hi; exact hi
  stop := fun H _ => by rw [rngC_length]; exact Nat.le_refl _
  yld := fun i H x H' d hd _ y => by
    have hi := (List.getElem?_eq_some_iff.mp hd).1
    rw [rngC_length] at hi
    unfold rngC at hd
    rw [List.getElem?_map, List.getElem?_range hi] at hd
    cases hd
    obtain ⟨e1, e2⟩ := y
    exact .inl ⟨e1, e2⟩
def signsD (s : Str) : List D := s.cps.toList.map fun c => .str ⟨#[c]⟩
theorem sok_sign {s : Str} (h : SOk s) {x : Nat} (hx : x ∈ s.cps.toList) : SOk ⟨#[x]⟩ := by
  refine ⟨by show 1 ≤ 16777216; decide, ?_⟩
  have h3 : s.cps.all (· < 0x110000) = true := h.2
  exact all_drop_take (s := s.cps) (p := fun x => decide (x < 0x110000)) h3 [x] fun y hy => by
    have : y = x := by simpa using hy
    rw [this]; exact hx
theorem itr_str {s : Str} (h : SOk s) : Itr2 K c W (Its s) (signsD s) where
  go := fun i H hi _ => by
    refine walk_str.goes i H ?_ trivial
    unfold signsD at hi
    rw [List.length_map, Array.length_toList] at hi
    exact hi
  stop := fun H _ => by
    unfold signsD
    rw [List.length_map, Array.length_toList]
    exact walk_str.stops H trivial
  yld := fun i H x H' d hd _ y => by
    unfold signsD at hd
    have hi := (List.getElem?_eq_some_iff.mp hd).1
    rw [List.length_map, Array.length_toList] at hi
    obtain ⟨e1, c1, e2, rfl⟩ := walk_str.yields i H x H' hi trivial y
    rw [List.getElem?_map, Array.getElem?_toList, e2] at hd
    cases hd
    exact .inl ⟨e1, rfl, sok_sign h (List.mem_of_getElem? (by rw [Array.getElem?_toList]; exact e2))⟩
def enumD (ds : List D) : List D := (List.range ds.length).filterMap fun i => (ds[i]?).map fun d => .tup [.int (i : Nat), d]
def enumF : Nat → List D → List D
  | _, [] => []
  | n, d :: ds => .tup [.int (n : Nat), d] :: enumF (n + 1) ds
theorem enumF_get : ∀ {ds : List D} {n i : Nat} {e : D}, (enumF n ds)[i]? = some e → ∃ d, ds[i]? = some d ∧ e = .tup [.int ((n + i : Nat) : Int), d]
  | [], n, i, e, h => by simp [enumF] at h
  | d :: ds, n, 0, e, h => by
    simp only [enumF, List.getElem?_cons_zero, Option.some.injEq] at h
    exact ⟨d, rfl, h.symm⟩
  | d :: ds, n, i + 1, e, h => by
    simp only [enumF, List.getElem?_cons_succ] at h
    obtain ⟨d', h1, h2⟩ := enumF_get h
    exact ⟨d', by simpa using h1, by rw [h2]; congr 3; omega⟩
theorem enumF_length : ∀ (n : Nat) (ds : List D), (enumF n ds).length = ds.length
  | _, [] => rfl
  | n, d :: ds => by simp [enumF, enumF_length]
theorem itr_enum {a : Addr} {vs : List V} {ds : List D} (h : W.H0 a = some (.lst vs)) (r : RepL K c W ds vs) : Itr2 K c W (Ite K a) (enumF 0 ds) where
  go := fun i H hi e => walk_enum.goes i H (by rw [RepL.length r]; rwa [enumF_length] at hi) (SqL.of (e _ _ h))
  stop := fun H e => by
    rw [enumF_length, ← RepL.length r]
    exact walk_enum.stops H (SqL.of (e _ _ h))
  yld := fun i H x H' d hd e y => by
    obtain ⟨d2, h1, rfl⟩ := enumF_get hd
    have hi : i < vs.length := by rw [RepL.length r]; exact (List.getElem?_eq_some_iff.mp h1).1
    obtain ⟨T, x1, x2, q1, q2, q3, q4, q5⟩ := walk_enum.yields i H x H' hi (SqL.of (e _ _ h)) y
    cases q4
    exact .inr ⟨T, _, x2, _, _, q1, q2, q3, rfl, by rw [Nat.zero_add]; exact (rfl : Rep K c W (.int i) (.int i)), repL_get' r h1 q5⟩
def zipD : List D → List D → List D
  | d :: ds, e :: es => .tup [d, e] :: zipD ds es
  | _, _ => []
theorem zipD_get : ∀ {ds es : List D} {i : Nat} {x : D}, (zipD ds es)[i]? = some x → ∃ d e, ds[i]? = some d ∧ es[i]? = some e ∧ x = .tup [d, e]
  | [], es, i, x, h => by simp [zipD] at h
  | d :: ds, [], i, x, h => by simp [zipD] at h
  | d :: ds, e :: es, 0, x, h => by
    simp only [zipD, List.getElem?_cons_zero, Option.some.injEq] at h
    exact ⟨d, e, rfl, rfl, h.symm⟩
  | d :: ds, e :: es, i + 1, x, h => by
    simp only [zipD, List.getElem?_cons_succ] at h
    obtain ⟨d', e', h1, h2, h3⟩ := zipD_get h
    exact ⟨d', e', by simpa using h1, by simpa using h2, h3⟩
theorem zipD_length : ∀ (ds es : List D), (zipD ds es).length = min ds.length es.length
  | [], es => by simp [zipD]
  | d :: ds, [] => by simp [zipD]
  | d :: ds, e :: es => by simp [zipD, zipD_length, Nat.succ_min_succ]
theorem itr_zip {a b : Addr} {vs us : List V} {ds es : List D} (h : W.H0 a = some (.lst vs)) (h2 : W.H0 b = some (.lst us)) (r : RepL K c W ds vs) (r2 : RepL K c W es us) : Itr2 K c W (Itz K a b) (zipD ds es) where
  go := fun i H hi e => (walk_zip (xs := vs) (ys := us) rfl).goes i H (by rw [RepL.length r, RepL.length r2, ← zipD_length]; exact hi) ⟨SqL.of (e _ _ h), SqL.of (e _ _ h2)⟩
  stop := fun H e => by
    rw [zipD_length, ← RepL.length r, ← RepL.length r2]
    exact (walk_zip (xs := vs) (ys := us) rfl).stops H ⟨SqL.of (e _ _ h), SqL.of (e _ _ h2)⟩
  yld := fun i H x H' d hd e y => by
    have hi := (List.getElem?_eq_some_iff.mp hd).1
    rw [zipD_length, ← RepL.length r, ← RepL.length r2] at hi
    obtain ⟨d1, d2, h3, h4, rfl⟩ := zipD_get hd
    obtain ⟨T, x1, x2, q1, q2, q3, q4, q5⟩ := (walk_zip (xs := vs) (ys := us) rfl).yields i H x H' hi ⟨SqL.of (e _ _ h), SqL.of (e _ _ h2)⟩ y
    exact .inr ⟨T, x1, x2, _, _, q1, q2, q3, rfl, repL_get' r h3 q4, repL_get' r2 h4 q5⟩
/-- behind an item -/
theorem Yld.lay (st : StOk K c W1 H S) (e : WEx W W1) {d : D} {x : V} (y : Yld K c W d H x H') : ∃ W2, StOk K c W2 H' S ∧ Keep W1 H W2 H' ∧ Rep K c W2 d x := by
  rcases y with ⟨rfl, r⟩ | ⟨T, x1, x2, d1, d2, rfl, h1, rfl, rfl, r1, r2⟩
  · exact ⟨W1, st, Keep.refl _ _, Rep.ext e d x r⟩
  · exact ⟨_, lay_st st h1, lay_keep st h1, new_tup st h1 ⟨x1, _, rfl, Rep.ext e d1 x1 r1, x2, _, rfl, Rep.ext e d2 x2 r2, rfl⟩⟩
/-- the same where the step tells nothing is frozen anew -/
theorem KeepS.of_owned (k : KeepS W H σ1 ρ1 W' H') (h : ∀ b, Owned σ1 ρ1 b → Owned σ ρ b) : KeepS W H σ ρ W' H' := ⟨k.wex, fun b o q n no => k.old b o q n fun z => no (h b z), fun b o q no => k.fr b o q fun z => no (h b z), k.sa, k.there⟩
theorem Step.of_owned (k : Step W H σ1 ρ1 W' H' σ' ρ') (h : ∀ b, Owned σ1 ρ1 b → Owned σ ρ b) : Step W H σ ρ W' H' σ' ρ' := ⟨k.toKeepS.of_owned h, fun b z => (k.own b z).imp id (h b)⟩
end
section
variable {X : Cx} {c : Cn} {E : XK} {a b e tg iter : Expr} {fa fb : FE} {it : FI} {td : TGd} {g : FS} {bodyS : List Stmt} {pos : Pos}
theorem ms_for {us : List Nat} (hp : PassesOwn (model X.prog X.w) X.A X.env X.xe) (hc : X.calm = true) (hi : PI X tg iter (tI X.K c E it)) (hg : PG X tg (tGd X.K c us td)) (hb : PSs X bodyS (tS X.K c E g))
    (hs : ∀ x, foldedSetIterable iter X.env x = pure x := by intro _; rfl) : PS X (.For tg iter bodyS [] pos) (tS X.K c E (forS it td g)) := ps_imp (ps_for hp hc hi hg hb hs) fun D σ H q => by
  obtain ⟨W, ρ, S, st, en, q⟩ := q
  refine ⟨W, ρ, S, st, en, ?_⟩
  unfold forS bd at q
  cases e : it ρ S with
  | er n p S' =>
    rw [e] at q
    exact ErS.q q
  | no =>
    rw [e] at q
    exact q
  | ok ds S' =>
    rw [e] at q
    intro W' H' J st' k' wk
    have q0 : OutS X.K c W' H' σ ρ E D (forL td g ds ρ S') := OutS.pre q (k'.toStep st')
    have en' := en.ext k'
    refine ⟨fun i m σ1 H1 => m = ds.length - i ∧ i ≤ ds.length ∧ ∃ W1 ρ1 S1, StOk X.K c W1 H1 S1 ∧ EnvOk X.K c W1 H1 σ1 ρ1 ∧ Step W' H' σ ρ W1 H1 σ1 ρ1 ∧ OutS X.K c W' H' σ ρ E D (forL td g (ds.drop i) ρ1 S1),
      ⟨ds.length, rfl, Nat.zero_le _, W', ρ, S', st', en', Step.refl _ _ _ _, q0⟩, ?_⟩
    rintro i m σ1 H1 ⟨rfl, hi, W1, ρ1, S1, st1, en1, k1, q1⟩
    have ex1 : Ex W'.H0 H1 := k1.wex.1.trans st1.sub
    by_cases hlt : i < ds.length
    · refine .inr ⟨wk.go i H1 hlt ex1, fun σ2 H2 => ∃ W2 ρ2 S2, StOk X.K c W2 H2 S2 ∧ EnvOk X.K c W2 H2 σ2 ρ2 ∧ Step W' H' σ ρ W2 H2 σ2 ρ2 ∧ OutS X.K c W' H' σ ρ E D (forL td g (ds.drop (i + 1)) ρ2 S2), fun σ2 H2 n2 => ⟨ds.length - (i + 1), by omega, rfl, hlt, n2⟩, fun x H2 y => ?_⟩
      have hd : ds[i]? = some ds[i] := List.getElem?_eq_getElem hlt
      rw [List.drop_eq_getElem_cons hlt] at q1
      unfold forL bd at q1
      cases e1 : td ds[i] ρ1 with
      | none => rw [e1] at q1; exact q1.elim
      | some ρ2 =>
        rw [e1] at q1
        obtain ⟨W2, st2, kk2, r2⟩ := (wk.yld i H1 x H2 _ hd ex1 y).lay st1 k1.wex
        have en2 := en1.ext kk2
        refine ⟨W2, ρ1, S1, ds[i], ρ2, st2, en2, r2, e1, fun σ3 en3 o3 _ => ⟨W2, ρ2, S1, st2, en3, ?_⟩⟩
        have k2 : Step W' H' σ ρ W2 H2 σ3 ρ2 := k1.trans ((kk2.toStep st2).trans ⟨(Step.refl W2 H2 σ1 ρ1).toKeepS, fun b z => .inr (o3 b z)⟩)
        change OutS X.K c W' H' σ ρ E D (bd (g ρ2) _ S1) at q1
        unfold bd at q1
        cases e2 : g ρ2 S1 with
        | no => rw [e2] at q1; exact q1
        | er n p S2 => rw [e2] at q1; exact ErS.pre q1 k2
        | ok f S2 =>
          rw [e2] at q1
          cases f with
          | nx ρ4 => exact fun W4 H4 σ4 st4 en4 k4 => ⟨W4, ρ4, S2, st4, en4, k2.trans k4, q1⟩
          | ct ρ4 => exact fun W4 H4 σ4 st4 en4 k4 => ⟨W4, ρ4, S2, st4, en4, k2.trans k4, q1⟩
          | bk ρ4 => exact fun W4 H4 σ4 st4 en4 k4 => q1 W4 H4 σ4 st4 en4 (k2.trans k4)
          | rt d => exact fun W4 H4 v st4 k4 r4 => q1 W4 H4 v st4 (k2.keepS k4) r4
    · have ei : i = ds.length := by omega
      subst ei
      refine .inl ⟨wk.stop H1 ex1, ?_⟩
      rw [List.drop_length] at q1
      exact q1 W1 H1 σ1 st1 en1 k1
theorem ms_while {t : Expr} {ta : FB} {w : Nat} (hp : PassesOwn (model X.prog X.w) X.A X.env X.xe) (hc : PT X t (tT X.K c E ta)) (hb : PSs X bodyS (tS X.K c E g)) : PS X (.While t bodyS [] pos) (tS X.K c E (whileS ta g w)) := ps_imp (ps_while hp hc hb) fun D σ H q => by
  obtain ⟨W, ρ, S, st, en, q⟩ := q
  refine ⟨fun m σ1 H1 => ∃ W1 ρ1 S1, StOk X.K c W1 H1 S1 ∧ EnvOk X.K c W1 H1 σ1 ρ1 ∧ Step W H σ ρ W1 H1 σ1 ρ1 ∧ OutS X.K c W H σ ρ E D (whileS ta g m ρ1 S1), ⟨w, W, ρ, S, st, en, Step.refl _ _ _ _, q⟩, ?_⟩
  rintro m σ1 H1 ⟨W1, ρ1, S1, st1, en1, k1, q1⟩
  cases m with
  | zero => exact q1.elim
  | succ m =>
    unfold whileS at q1
    refine then_T (O := OutS X.K c W H σ ρ E D) st1 en1 (fun _ _ _ z => (ErS.pre z k1).q) (fun z => z) q1 fun d S2 W2 H2 st2 k2 q2 => ?_
    have k3 := k1.trans (k2.toStep st2)
    have en2 := en1.ext k2
    cases d with
    | false => exact q2 W2 H2 σ1 st2 en2 k3
    | true =>
      refine ⟨fun σ3 H3 => ∃ W3 ρ3 S3, StOk X.K c W3 H3 S3 ∧ EnvOk X.K c W3 H3 σ3 ρ3 ∧ Step W H σ ρ W3 H3 σ3 ρ3 ∧ OutS X.K c W H σ ρ E D (whileS ta g m ρ3 S3), fun σ3 H3 z => ⟨m, Nat.lt_succ_self m, z⟩, W2, ρ1, S2, st2, en2, ?_⟩
      change OutS X.K c W H σ ρ E D (bd (g ρ1) _ S2) at q2
      unfold bd at q2
      cases e2 : g ρ1 S2 with
      | no => rw [e2] at q2; exact q2
      | er n p S3 => rw [e2] at q2; exact ErS.pre q2 k3
      | ok f S3 =>
        rw [e2] at q2
        cases f with
        | nx ρ4 => exact fun W4 H4 σ4 st4 en4 k4 => ⟨W4, ρ4, S3, st4, en4, k3.trans k4, q2⟩
        | ct ρ4 => exact fun W4 H4 σ4 st4 en4 k4 => ⟨W4, ρ4, S3, st4, en4, k3.trans k4, q2⟩
        | bk ρ4 => exact fun W4 H4 σ4 st4 en4 k4 => q2 W4 H4 σ4 st4 en4 (k3.trans k4)
        | rt d => exact fun W4 H4 v st4 k4 r4 => q2 W4 H4 v st4 (k3.keepS k4) r4
/-! ### the iterators' rules -/
def seqAny : D → Option (List D)
  | .lst ds => some ds
  | .tup ds => some ds
  | .tpx ds => some ds
  | .str s => some (signsD s)
  | .scr ns => some (ns.map .int)
  | _ => none
def itS (a : FE) : FI := fun ρ => bd (a ρ) fun d => lift (seqAny d)
/-- a list, a tuple, a text -/
theorem mi_seq (he : PE X e (tM X.K c E fa)) : PI X tg e (tI X.K c E (itS fa)) := ⟨fun pins s σ H R I h => by
  obtain ⟨W, ρ, S, st, en, q⟩ := h
  -- which of them it is
  unfold itS bd at q
  cases e1 : fa ρ S with
  | no => rw [e1] at q; exact q.elim
  | er n p S' =>
    rw [e1] at q
    exact (pi_list he).run pins s σ H R I ⟨W, ρ, S, st, en, by rw [e1]; exact q⟩
  | ok d S' =>
    rw [e1] at q
    obtain ⟨ds, e2, q2⟩ := lift_ok (β := List D) (O := OutI X.K c W H E R) (fun z => z) q
    cases d <;> first | (cases e2; done) | skip
    · cases e2
      refine (pi_str he).run pins s σ H R I ⟨W, ρ, S, st, en, ?_⟩
      rw [e1]
      rintro W' H' v st' k' ⟨rfl, hs⟩
      exact ⟨_, rfl, q2 W' H' _ st' k' (itr_str hs)⟩
    · cases e2
      refine (pi_tup he).run pins s σ H R I ⟨W, ρ, S, st, en, ?_⟩
      rw [e1]
      rintro W' H' v st' k' ⟨a, vs, rfl, h1, r⟩
      exact ⟨a, rfl, ⟨vs, SqT.of (st'.sub _ _ h1)⟩, q2 W' H' _ st' k' (itr_tup h1 r)⟩
    · cases e2
      refine (pi_tup he).run pins s σ H R I ⟨W, ρ, S, st, en, ?_⟩
      rw [e1]
      rintro W' H' v st' k' ⟨a, vs, o, rfl, h1, _, r⟩
      exact ⟨a, rfl, ⟨vs, .inl (.inr ⟨o, st'.sub _ _ h1⟩)⟩, q2 W' H' _ st' k' (itr_tpx h1 r)⟩
    · cases e2
      refine (pi_list he).run pins s σ H R I ⟨W, ρ, S, st, en, ?_⟩
      rw [e1]
      rintro W' H' v st' k' ⟨a, vs, rfl, h1, r⟩
      exact ⟨a, rfl, ⟨vs, SqL.of (st'.sub _ _ h1)⟩, q2 W' H' _ st' k' (itr_list h1 r)⟩
    · cases e2
      refine (pi_list he).run pins s σ H R I ⟨W, ρ, S, st, en, ?_⟩
      rw [e1]
      rintro W' H' v st' k' ⟨a, rfl, h1⟩
      exact ⟨a, rfl, ⟨_, ex_l st'.sub h1⟩, q2 W' H' _ st' k' (itr_scr h1)⟩⟩
def big62 (i : Int) : Bool := decide (-(2 ^ 62) ≤ i ∧ i < 2 ^ 62)
def itR1 (a : FE) : FI := fun ρ => bd (a ρ) fun d => match d with
  | .int j => if big62 j then rt (rngD 0 j.toNat) else no
  | _ => no
def itR2 (a b : FE) : FI := fun ρ => bd (a ρ) fun d => bd (b ρ) fun e => match d, e with
  | .int i, .int j => if big62 i && big62 j then rt (rngD i (j - i).toNat) else no
  | _, _ => no
theorem mi_rng1 {p : Pos} (hg : Gl X "range") (hm : X.mg "range" = none) (ha : PE X a (tM X.K c E fa)) (hs : starEach [a] X.env = [(false, eval a X.env)] := by rfl) : PI X tg (.Call (.Name "range" p) [a] [] pos) (tI X.K c E (itR1 fa)) := ⟨fun pins s σ H R I h => by
  obtain ⟨W, ρ, S, st, en, q⟩ := h
  refine (pi_range1 hg hm (pa_cons ha pa_nil (by rw [hs]; rfl)) hs).run pins s σ H R I ?_
  refine then_M (O := OutI X.K c W H E R) st en (fun _ _ _ z => z) (fun z => z) q fun d S1 W1 H1 v st1 k1 r1 q1 => ?_
  cases d <;> first | exact (show False from q1).elim | skip
  rename_i j
  cases r1
  dsimp only at q1
  split at q1
  · rename_i hb
    unfold big62 at hb
    obtain ⟨h1, h2⟩ := of_decide_eq_true hb
    exact ⟨j, rfl, h1, h2, q1 W1 H1 _ st1 k1 itr_rng⟩
  · exact q1.elim⟩
theorem mi_rng2 {p : Pos} (hg : Gl X "range") (hm : X.mg "range" = none) (ha : PE X a (tM X.K c E fa)) (hb : PE X b (tM X.K c E fb)) (hs : starEach [a, b] X.env = [(false, eval a X.env), (false, eval b X.env)] := by rfl) (hs2 : starEach [b] X.env = [(false, eval b X.env)] := by rfl) : PI X tg (.Call (.Name "range" p) [a, b] [] pos) (tI X.K c E (itR2 fa fb)) := ⟨fun pins s σ H R I h => by
  obtain ⟨W, ρ, S, st, en, q⟩ := h
  refine (pi_range2 hg hm (pa_cons ha (pa_cons hb pa_nil (by rw [hs2]; rfl)) (by rw [hs, hs2])) hs hs2).run pins s σ H R I ?_
  refine then_M (O := OutI X.K c W H E R) st en (fun _ _ _ z => z) (fun z => z) q fun d S1 W1 H1 v st1 k1 r1 q1 => ?_
  refine then_M (O := OutI X.K c W H E R) st1 (en.ext k1) (fun _ _ _ z => ErQ.pre z k1 st1) (fun z => z) q1 fun d2 S2 W2 H2 u st2 k2 r2 q2 => ?_
  cases d <;> cases d2 <;> first | exact (show False from q2).elim | skip
  rename_i i j
  cases r1
  cases r2
  dsimp only at q2
  split at q2
  · rename_i hb
    unfold big62 at hb
    rw [Bool.and_eq_true] at hb
    obtain ⟨h1, h2⟩ := of_decide_eq_true hb.1
    obtain ⟨h3, h4⟩ := of_decide_eq_true hb.2
    exact ⟨i, j, rfl, ⟨h1, h2, h3, h4⟩, q2 W2 H2 _ st2 (k1.tr st1 k2) itr_rng⟩
  · exact q2.elim⟩
def lstOf : D → Option (List D)
  | .lst ds => some ds
  | _ => none
def itEn (a : FE) : FI := fun ρ => bd (a ρ) fun d => lift ((lstOf d).map (enumF 0))
theorem mi_enum {p tpos : Pos} {elts : List Expr} {kk : Nat} (hg : Gl X "enumerate") (hm : X.mg "enumerate" = none) (ha : PE X a (tM X.K c E fa)) (hs : starEach [a] X.env = [(false, eval a X.env)] := by rfl) : PI X (.Tuple elts kk tpos) (.Call (.Name "enumerate" p) [a] [] pos) (tI X.K c E (itEn fa)) := ⟨fun pins s σ H R I h => by
  obtain ⟨W, ρ, S, st, en, q⟩ := h
  refine (pi_enum hg hm (pa_cons ha pa_nil (by rw [hs]; rfl)) hs).run pins s σ H R I ?_
  refine then_M (O := OutI X.K c W H E R) st en (fun _ _ _ z => z) (fun z => z) q fun d S1 W1 H1 v st1 k1 r1 q1 => ?_
  cases d <;> first | exact (show False from q1).elim | skip
  obtain ⟨p, vs, rfl, h1, r⟩ := r1
  exact ⟨p, vs, rfl, SqL.of (st1.sub _ _ h1), q1 W1 H1 _ st1 k1 (itr_enum h1 r)⟩⟩
def itZp (a b : FE) : FI := fun ρ => bd (a ρ) fun d => bd (b ρ) fun e => match d, e with
  | .lst ds, .lst es => rt (zipD ds es)
  | _, _ => no
theorem mi_zip {p tpos : Pos} {elts : List Expr} {kk : Nat} (hg : Gl X "zip") (hm : X.mg "zip" = none) (ha : PE X a (tM X.K c E fa)) (hb : PE X b (tM X.K c E fb)) (hs : starEach [a, b] X.env = (false, eval a X.env) :: starEach [b] X.env := by rfl) (hs2 : starEach [b] X.env = (false, eval b X.env) :: starEach [] X.env := by rfl)
    (hpl : (backTo pos (starEach [b] X.env)).any (·.1) = false := by rfl) : PI X (.Tuple elts kk tpos) (.Call (.Name "zip" p) [a, b] [] pos) (tI X.K c E (itZp fa fb)) := ⟨fun pins s σ H R I h => by
  obtain ⟨W, ρ, S, st, en, q⟩ := h
  refine (pi_zip hg hm (pa_cons ha (pa_cons hb pa_nil hs2) hs) hs hpl).run pins s σ H R I ?_
  refine then_M (O := OutI X.K c W H E R) st en (fun _ _ _ z => z) (fun z => z) q fun d S1 W1 H1 v st1 k1 r1 q1 => ?_
  refine then_M (O := OutI X.K c W H E R) st1 (en.ext k1) (fun _ _ _ z => ErQ.pre z k1 st1) (fun z => z) q1 fun d2 S2 W2 H2 u st2 k2 r2 q2 => ?_
  cases d <;> cases d2 <;> first | exact (show False from q2).elim | skip
  obtain ⟨p, vs, rfl, h1, r⟩ := r1
  obtain ⟨p2, us, rfl, h2, r2⟩ := r2
  exact ⟨p, p2, vs, us, rfl, SqL.of (st2.sub _ _ (k2.wex.1 _ _ h1)), SqL.of (st2.sub _ _ h2), q2 W2 H2 _ st2 (k1.tr st1 k2) (itr_zip (k2.wex.1 _ _ h1) h2 (RepL.ext k2.wex _ _ r) r2)⟩⟩
end
end Mini
namespace Mini
open PySem PySem.Spec PyProof.Rows L2 Evl

/-! ### comprehensions -/
/-- the block's own names are put aside -/
def wipeR (ρ : En) : List Nat → En
  | [] => ρ
  | v :: vs => (wipeR ρ vs).set v .no
/-- an end without errors -/
def noEr {α : Type} (m : M α) : M α := fun S => match m S with
  | .er _ _ _ => .no
  | r => r
def lcL (t : TGd) (test : FB) (elt : FE) : List D → List D → En → M (List D)
  | [], acc, _ => rt acc
  | d :: ds, acc, ρ => bd (lift (t d ρ)) fun ρ1 => bd (noEr (test ρ1)) fun k =>
      if k then bd (noEr (elt ρ1)) fun x => if acc.length < 16777216 then lcL t test elt ds (acc ++ [x]) ρ else no
      else lcL t test elt ds acc ρ
def yesB : FB := fun _ => rt true
def lcE (it : FI) (t : TGd) (test : FB) (elt : FE) (vs : List Nat) : FE := fun ρ => bd (it ρ) fun ds => bd (lcL t test elt ds [] (wipeR ρ vs)) fun r => rt (.lst r)
abbrev EF : XK := fun _ _ _ => False
section
variable {K : PySem.W.Frag} {c : Cn} {W W1 W2 W' : Wd} {H H1 H2 H' : Hp} {S S1 S2 S' : DS} {σ σ1 σ2 σ' : L2.St} {ρ ρ1 ρ2 ρ' : En} {E : XK}
theorem EnvOk.setN (en : EnvOk K c W H σ ρ) (i : Nat) : EnvOk K c W H (σ.set i none) (ρ.set i .no) := by
  have hl := en.len
  have ne : ∀ {j : Nat} {s : Slot}, (ρ.set i .no)[j]? = some s → s ≠ .no → i ≠ j := fun {j s} h hs e => by
    subst e
    have hi : i < ρ.length := by
      have := (List.getElem?_eq_some_iff.mp h).1
      rwa [List.length_set] at this
    rw [List.getElem?_set_self hi] at h
    cases h
    exact hs rfl
  refine ⟨by rw [List.length_set, List.length_set]; exact hl, fun j e h => ?_, fun j e h => ?_, fun j k d1 d2 a h1 h2 h3 h4 => ?_⟩
  · have n := ne h (by intro z; cases z)
    rw [List.getElem?_set_ne n] at h ⊢
    exact en.vl j e h
  · have n := ne h (by intro z; cases z)
    rw [List.getElem?_set_ne n] at h ⊢
    exact en.ow j e h
  · have n1 := ne h1 (by intro z; cases z)
    have n2 := ne h2 (by intro z; cases z)
    rw [List.getElem?_set_ne n1] at h1 h3
    rw [List.getElem?_set_ne n2] at h2 h4
    exact en.sep j k d1 d2 a h1 h2 h3 h4
theorem EnvOk.wipe (en : EnvOk K c W H σ ρ) : ∀ vs : List Nat, EnvOk K c W H (L2.wipe σ vs) (wipeR ρ vs)
  | [] => en
  | v :: vs => (EnvOk.wipe en vs).setN v
/-- D holds the list so far, not frozen -/
def AccOk (K : PySem.W.Frag) (c : Cn) (W : Wd) (H : Hp) (D : Addr) (acc : List Mini.D) : Prop := W.H0 D = none ∧ W.sa ≠ some D ∧ ∃ vs, H D = some (.lst vs) ∧ RepL K c W acc vs
theorem AccOk.ext {D : Addr} {acc : List Mini.D} (a : AccOk K c W H D acc) (k : Keep W H W' H') : AccOk K c W' H' D acc := by
  obtain ⟨h1, h2, vs, h3, h4⟩ := a
  exact ⟨k.fr D _ h3 h1, fun e => h2 (k.sa D _ h3 e), vs, k.old D _ h3 h2, RepL.ext k.wex _ _ h4⟩
/-- a write to what we own alone -/
structure KeepD (W : Wd) (H : Hp) (D : Addr) (W' : Wd) (H' : Hp) : Prop where
  wex : WEx W W'
  old : ∀ b o, H b = some o → W.sa ≠ some b → b ≠ D → H' b = some o
  fr : ∀ b o, H b = some o → W.H0 b = none → W'.H0 b = none
  sa : ∀ b o, H b = some o → W'.sa = some b → W.sa = some b
  there : ∀ b o, H b = some o → ∃ o', H' b = some o'
theorem Keep.toD {D : Addr} (k : Keep W H W' H') (st : StOk K c W' H' S') : KeepD W H D W' H' := ⟨k.wex, fun b o h n _ => k.old b o h n, k.fr, k.sa, (k.toS (σ := []) (ρ := []) st).there⟩
theorem KeepD.trans {D : Addr} (k1 : KeepD W H D W1 H1) (k2 : KeepD W1 H1 D W2 H2) : KeepD W H D W2 H2 where
  wex := k1.wex.trans k2.wex
  old := fun b o h n nd => k2.old b o (k1.old b o h n nd) (fun e => n (k1.sa b o h e)) nd
  fr := fun b o h n => by
    obtain ⟨o1, ho1⟩ := k1.there b o h
    exact k2.fr b o1 ho1 (k1.fr b o h n)
  sa := fun b o h e => by
    obtain ⟨o1, ho1⟩ := k1.there b o h
    exact k1.sa b o h (k2.sa b o1 ho1 e)
  there := fun b o h => by
    obtain ⟨o1, ho1⟩ := k1.there b o h
    exact k2.there b o1 ho1
theorem upd_D {D : Addr} {o : HO} (st : StOk K c W H S) (h0 : W.H0 D = none) (hs : W.sa ≠ some D) (hD : ∃ u, H D = some u) : StOk K c W (upd H D o) S ∧ KeepD W H D W (upd H D o) := by
  have kd : KeepD W H D W (upd H D o) := ⟨WEx.refl W, fun b u h _ nd => by rw [upd_ne nd]; exact h, fun _ _ _ e => e, fun _ _ _ e => e, fun b u h => by
    by_cases hb : b = D
    · subst hb; exact ⟨o, upd_same⟩
    · exact ⟨u, by rw [upd_ne hb]; exact h⟩⟩
  refine ⟨⟨fun b u e => ?_, ?_⟩, kd⟩
  · rw [upd_ne fun z => by rw [z, h0] at e; cases e]
    exact st.sub b u e
  · have d := st.ds
    cases S with
    | none => exact d
    | some ds =>
      obtain ⟨a, vs, h1, h2, h3, h4⟩ := d
      exact ⟨a, vs, h1, h2, by rw [upd_ne fun z => hs (by rw [← z]; exact h1)]; exact h3, h4⟩
/-- the frame's slots behind writes to D, D none of theirs -/
theorem EnvOk.extD {D : Addr} (e : EnvOk K c W H σ ρ) (k : KeepD W H D W' H') (hD : ∀ (i : Nat) (d : Mini.D), ρ[i]? = some (.ow d) → σ[i]? ≠ some (some (.ref D))) : EnvOk K c W' H' σ ρ where
  len := e.len
  vl := fun i d h => by
    obtain ⟨v, h1, h2⟩ := e.vl i d h
    exact ⟨v, h1, Rep.ext k.wex d v h2⟩
  ow := fun i d h => by
    obtain ⟨a, h1, h2, h3, h4⟩ := e.ow i d h
    obtain ⟨o, ho⟩ := h4.some
    have nd : a ≠ D := fun z => hD i d h (by rw [h1, z])
    exact ⟨a, h1, k.fr a o ho h2, fun q => h3 (k.sa a o ho q), h4.ext k.wex fun o q => k.old a o q h3 nd⟩
  sep := e.sep
theorem noEr_ok {α : Type} {m : M α} {a : α} (h : noEr m S = .ok a S') : m S = .ok a S' := by
  unfold noEr at h
  split at h
  · cases h
  · exact h
/-- one reading within the block: no errors -/
theorem thenC_M {f : FE} {β : Type} {g : D → M β} {Q : VK} {O : Res β → Prop} (st : StOk K c W H S) (en : EnvOk K c W H σ ρ) (hN : ¬ O .no) (h : O (bd (noEr (f ρ)) g S))
    (k : ∀ d S' W' H' v, StOk K c W' H' S' → Keep W H W' H' → Rep K c W' d v → O (g d S') → Q v H') : tM K c E f σ H Q := by
  refine tM_mk st en ?_
  unfold bd noEr at h
  cases e : f ρ S with
  | ok d S' =>
    rw [e] at h
    exact fun W' H' v st' k' r => k d S' W' H' v st' k' r h
  | er n p S' =>
    rw [e] at h
    exact (hN h).elim
  | no =>
    rw [e] at h
    exact (hN h).elim
theorem thenC_T {f : FB} {β : Type} {g : Bool → M β} {Q : Bool → Hp → Prop} {O : Res β → Prop} (st : StOk K c W H S) (en : EnvOk K c W H σ ρ) (hN : ¬ O .no) (h : O (bd (noEr (f ρ)) g S))
    (k : ∀ d S' W' H', StOk K c W' H' S' → Keep W H W' H' → O (g d S') → Q d H') : tT K c E f σ H Q := by
  refine tT_mk st en ?_
  unfold bd noEr at h
  cases e : f ρ S with
  | ok d S' =>
    rw [e] at h
    exact fun W' H' st' k' => k d S' W' H' st' k' h
  | er n p S' =>
    rw [e] at h
    exact (hN h).elim
  | no =>
    rw [e] at h
    exact (hN h).elim
theorem lcL_noEr (t : TGd) (test : FB) (elt : FE) : ∀ (ds acc : List D) (ρ : En) (S : DS) (n : Nat) (p : D) (S' : DS), lcL t test elt ds acc ρ S ≠ .er n p S'
  | [], acc, ρ, S, n, p, S' => by intro h; cases h
  | d :: ds, acc, ρ, S, n, p, S' => by
    intro h
    unfold lcL bd at h
    cases e : t d ρ with
    | none => rw [e] at h; cases h
    | some ρ1 =>
      rw [e] at h
      change bd (noEr (test ρ1)) _ S = _ at h
      unfold bd noEr at h
      cases e1 : test ρ1 S with
      | no => rw [e1] at h; cases h
      | er n p S' => rw [e1] at h; cases h
      | ok k S1 =>
        rw [e1] at h
        cases k with
        | false => exact lcL_noEr t test elt ds acc ρ S1 n p S' h
        | true =>
          change bd (noEr (elt ρ1)) _ S1 = _ at h
          unfold bd noEr at h
          cases e2 : elt ρ1 S1 with
          | no => rw [e2] at h; cases h
          | er n p S' => rw [e2] at h; cases h
          | ok x S2 =>
            rw [e2] at h
            dsimp only at h
            split at h
            · exact lcL_noEr t test elt ds _ ρ S2 n p S' h
            · cases h
def OutL (K : PySem.W.Frag) (c : Cn) (W : Wd) (H : Hp) (D : Addr) (Qd : Hp → Prop) : Res (List Mini.D) → Prop
  | .ok r S' => ∀ W' H', StOk K c W' H' S' → KeepD W H D W' H' → AccOk K c W' H' D r → Qd H'
  | .er _ _ _ => False
  | .no => False
end
section
variable {X : Cx} {c : Cn} {E : XK} {elt tg iter : Expr} {ifs : List Expr} {scope : Scope} {own : List (Str × Nat)} {pos : Pos} {it : FI} {td : TGd} {test : FB} {fe : FE}
theorem mts_nil : PTs X [] (tT X.K c E yesB) := ⟨fun pins s σ H Q I h => by
  obtain ⟨W, ρ, S, st, en, q⟩ := tT_un h
  exact pts_nil.run pins s σ H Q I (q W H st (Keep.refl W H))⟩
theorem wipe_wipe {σ : L2.St} : ∀ (vs us : List Nat), (∀ v ∈ vs, v ∈ us) → L2.wipe (L2.wipe σ vs) us = L2.wipe σ us
  | [], _, _ => rfl
  | v :: vs, us, h => by
    show L2.wipe ((L2.wipe σ vs).set v none) us = _
    rw [wipe_set (h v List.mem_cons_self)]
    exact wipe_wipe vs us fun u hu => h u (List.mem_cons_of_mem _ hu)
theorem lc_out {own : List Nat} : ∀ σ H Q, tO X.K c E (lcE it td test fe own) σ H Q → tLc (tI X.K c E it) (tGd X.K c own td) (tT X.K c EF test) (tM X.K c EF fe) own σ H Q := fun σ H Q h => by
  obtain ⟨W, ρ, S, st, en, q⟩ := tO_un h
  refine ⟨W, ρ, S, st, en, ?_⟩
  unfold lcE bd at q
  cases e0 : it ρ S with
  | er n p S' => rw [e0] at q; exact q
  | no => rw [e0] at q; exact q
  | ok ds S0 =>
    rw [e0] at q
    intro W0 H0 J st0 k0 wk Dl hD
    have en0 := (en.ext k0).wipe own
    -- the new list
    have st1 := new_st (o := .lst []) st0 hD
    have kD : Keep W0 H0 W0 (upd H0 Dl (.lst [])) := new_keep st0 hD
    have noOwn : ∀ (i : Nat) (d : Mini.D), (wipeR ρ own)[i]? = some (.ow d) → (L2.wipe σ own)[i]? ≠ some (some (.ref Dl)) := fun i d h1 h2 => by
      obtain ⟨a, h3, _, _, h4⟩ := en0.ow i d h1
      rw [h2] at h3
      cases h3
      obtain ⟨o, ho⟩ := h4.some
      rw [hD] at ho
      cases ho
    have q0 : OutL X.K c W0 (upd H0 Dl (.lst [])) Dl (fun H1 => Q (.ref Dl) H1) (lcL td test fe ds [] (wipeR ρ own) S0) := by
      change OutO X.K c W H E Q (bd (lcL td test fe ds [] (wipeR ρ own)) (fun r => rt (.lst r)) S0) at q
      unfold bd at q
      cases e1 : lcL td test fe ds [] (wipeR ρ own) S0 with
      | no => rw [e1] at q; exact q
      | er n p S' => exact absurd e1 (lcL_noEr _ _ _ _ _ _ _ _ _ _)
      | ok r S' =>
        rw [e1] at q
        rintro W' H' st' k' ⟨a1, a2, vs, a3, a4⟩
        have there := (kD.toS (σ := []) (ρ := []) st1).there
        have kk : Keep W0 H0 W' H' := by
          refine ⟨k'.wex, fun b o h n => k'.old b o (kD.old b o h n) n fun z => ?_, fun b o h n => ?_, fun b o h e => ?_⟩
          · rw [z, hD] at h
            cases h
          · obtain ⟨o', ho'⟩ := there b o h
            exact k'.fr b o' ho' n
          · obtain ⟨o', ho'⟩ := there b o h
            exact k'.sa b o' ho' e
        refine q W' H' _ st' (k0.tr st0 kk) (RepO.pre (H0 := H) k0 (fun b e => st0.ds.at (k0.wex.2 b e)) ⟨Dl, rfl, hD, a1, a2, vs, a3, a4⟩)
    refine ⟨fun i m H1 => m = ds.length - i ∧ i ≤ ds.length ∧ ∃ W1 S1 acc, StOk X.K c W1 H1 S1 ∧ KeepD W0 (upd H0 Dl (.lst [])) Dl W1 H1 ∧ AccOk X.K c W1 H1 Dl acc ∧ OutL X.K c W0 (upd H0 Dl (.lst [])) Dl (fun H1 => Q (.ref Dl) H1) (lcL td test fe (ds.drop i) acc (wipeR ρ own) S1),
      ⟨ds.length, rfl, Nat.zero_le _, W0, S0, [], st1, (Keep.refl _ _).toD st1, ⟨fresh_back st0.sub hD, sa_ne st0 hD, [], upd_same, rfl⟩, q0⟩, ?_⟩
    rintro i m H1 ⟨rfl, hi, W1, S1, acc, st1, k1, ac1, q1⟩
    have ex1 : Ex W0.H0 H1 := k1.wex.1.trans st1.sub
    by_cases hlt : i < ds.length
    · refine .inr ⟨wk.go i H1 hlt ex1, fun H2 => ∃ W2 S2 acc2, StOk X.K c W2 H2 S2 ∧ KeepD W0 (upd H0 Dl (.lst [])) Dl W2 H2 ∧ AccOk X.K c W2 H2 Dl acc2 ∧ OutL X.K c W0 (upd H0 Dl (.lst [])) Dl (fun H1 => Q (.ref Dl) H1) (lcL td test fe (ds.drop (i + 1)) acc2 (wipeR ρ own) S2), fun H2 n2 => ⟨ds.length - (i + 1), by omega, rfl, hlt, n2⟩, fun x H2 y => ?_⟩
      have hd : ds[i]? = some ds[i] := List.getElem?_eq_getElem hlt
      rw [List.drop_eq_getElem_cons hlt] at q1
      unfold lcL bd at q1
      cases e1 : td ds[i] (wipeR ρ own) with
      | none => rw [e1] at q1; exact q1.elim
      | some ρ2 =>
        rw [e1] at q1
        obtain ⟨W2, st2, kk2, r2⟩ := (wk.yld i H1 x H2 _ hd ex1 y).lay st1 k1.wex
        have en1 : EnvOk X.K c W1 H1 (L2.wipe σ own) (wipeR ρ own) := (en0.ext kD).extD k1 noOwn
        refine ⟨W2, wipeR ρ own, S1, ds[i], ρ2, st2, en1.ext kk2, r2, e1, fun σ3 en3 o3 w3 => ⟨w3.trans (wipe_wipe own own fun _ z => z), ?_⟩⟩
        change OutL X.K c W0 (upd H0 Dl (.lst [])) Dl (fun H1 => Q (.ref Dl) H1) (bd (noEr (test ρ2)) _ S1) at q1
        refine thenC_T (O := OutL X.K c W0 (upd H0 Dl (.lst [])) Dl fun H1 => Q (.ref Dl) H1) st2 en3 (fun z => z) q1 fun k S3 W3 H3 st3 k3 q3 => ?_
        have ac3 := (ac1.ext kk2).ext k3
        have kk3 := (k1.trans (kk2.toD st2)).trans (k3.toD st3)
        cases k with
        | false => exact ⟨W3, S3, acc, st3, kk3, ac3, q3⟩
        | true =>
          refine thenC_M (O := OutL X.K c W0 (upd H0 Dl (.lst [])) Dl fun H1 => Q (.ref Dl) H1) st3 (en3.ext k3) (fun z => z) q3 fun d4 S4 W4 H4 v4 st4 k4 r4 q4 => ?_
          obtain ⟨a1, a2, vs, a3, a4⟩ := ac3.ext k4
          split at q4
          · rename_i hlen
            obtain ⟨s5, k5⟩ := upd_D (o := .lst (vs ++ [v4])) st4 a1 a2 ⟨_, a3⟩
            refine ⟨vs, a3, line_lt (by rw [RepL.length a4]; exact hlen), W4, S4, acc ++ [d4], s5, (kk3.trans (k4.toD st4)).trans k5, ⟨a1, a2, _, upd_same, repL_append a4 ⟨v4, [], rfl, r4, rfl⟩⟩, q4⟩
          · exact q4.elim
    · have ei : i = ds.length := by omega
      subst ei
      refine .inl ⟨wk.stop H1 ex1, ?_⟩
      rw [List.drop_length] at q1
      exact q1 W1 H1 st1 k1 ac1
theorem me_lc (hc : X.calm = true) (hN : X.N.Nodup) (hi : PI X tg iter (tI X.K c E it)) (ok : BlkOk X.N X.env.scope scope own)
    (hg : ∀ (s : Shared) (H : Hp) (C : Addr) (cl : List (Str × Addr)) (fp : List Addr), PG (X.blk s H scope (compEnvC scope cl C X.env) fp) tg (tGd X.K c (own.map (·.2)) td))
    (ht : ∀ (s : Shared) (H : Hp) (C : Addr) (cl : List (Str × Addr)) (fp : List Addr), PTs (X.blk s H scope (compEnvC scope cl C X.env) fp) ifs (tT X.K c EF test))
    (he : ∀ (s : Shared) (H : Hp) (C : Addr) (cl : List (Str × Addr)) (fp : List Addr), PE (X.blk s H scope (compEnvC scope cl C X.env) fp) elt (tM X.K c EF fe)) (hs : ∀ x, foldedSetIterable iter X.env x = pure x := by intro _; rfl) :
    PE X (.ListComp elt [⟨tg, iter, ifs, 0⟩] scope pos) (tO X.K c E (lcE it td test fe (own.map (·.2)))) := pe_imp (pe_lc hc hN hi ok hg ht he hs) lc_out
theorem ms_setLc {i : Nat} {y : Str} {py spos : Pos} (hc : X.calm = true) (hN : X.N.Nodup) (hy : X.N[i]? = some y) (hyl : X.env.scope.names.lookup y = some .local)
    (hsw : swapsWith (.ListComp elt [⟨tg, iter, ifs, 0⟩] scope pos) (some (.Name y py)) spos.line X.env = pure true) (hi : PI X tg iter (tI X.K c E it)) (ok : BlkOk X.N X.env.scope scope own)
    (hg : ∀ (s : Shared) (H : Hp) (C : Addr) (cl : List (Str × Addr)) (fp : List Addr), PG (X.blk s H scope (compEnvC scope cl C X.env) fp) tg (tGd X.K c (own.map (·.2)) td))
    (ht : ∀ (s : Shared) (H : Hp) (C : Addr) (cl : List (Str × Addr)) (fp : List Addr), PTs (X.blk s H scope (compEnvC scope cl C X.env) fp) ifs (tT X.K c EF test))
    (he : ∀ (s : Shared) (H : Hp) (C : Addr) (cl : List (Str × Addr)) (fp : List Addr), PE (X.blk s H scope (compEnvC scope cl C X.env) fp) elt (tM X.K c EF fe)) (hs : ∀ x, foldedSetIterable iter X.env x = pure x := by intro _; rfl) :
    PS X (.Assign [.Name y py] (.ListComp elt [⟨tg, iter, ifs, 0⟩] scope pos) spos) (tS X.K c E (asgS i (lcE it td test fe (own.map (·.2))))) :=
  ps_imp (L2.ps_setLc hc hN hy hyl hsw hi ok hg ht he hs) (asg_out fun σ H Q z => lc_out σ H Q (m_imp σ H Q z))
theorem ms_setLcO {i : Nat} {y : Str} {py spos : Pos} (hc : X.calm = true) (hN : X.N.Nodup) (hy : X.N[i]? = some y) (hyl : X.env.scope.names.lookup y = some .local)
    (hsw : swapsWith (.ListComp elt [⟨tg, iter, ifs, 0⟩] scope pos) (some (.Name y py)) spos.line X.env = pure true) (hi : PI X tg iter (tI X.K c E it)) (ok : BlkOk X.N X.env.scope scope own)
    (hg : ∀ (s : Shared) (H : Hp) (C : Addr) (cl : List (Str × Addr)) (fp : List Addr), PG (X.blk s H scope (compEnvC scope cl C X.env) fp) tg (tGd X.K c (own.map (·.2)) td))
    (ht : ∀ (s : Shared) (H : Hp) (C : Addr) (cl : List (Str × Addr)) (fp : List Addr), PTs (X.blk s H scope (compEnvC scope cl C X.env) fp) ifs (tT X.K c EF test))
    (he : ∀ (s : Shared) (H : Hp) (C : Addr) (cl : List (Str × Addr)) (fp : List Addr), PE (X.blk s H scope (compEnvC scope cl C X.env) fp) elt (tM X.K c EF fe)) (hs : ∀ x, foldedSetIterable iter X.env x = pure x := by intro _; rfl) :
    PS X (.Assign [.Name y py] (.ListComp elt [⟨tg, iter, ifs, 0⟩] scope pos) spos) (tS X.K c E (asgOS i (lcE it td test fe (own.map (·.2))))) :=
  ps_imp (L2.ps_setLc hc hN hy hyl hsw hi ok hg ht he hs) (asgO_out fun σ H Q z => lc_out σ H Q z)
theorem mts_one {e : Expr} {f : FB} (h : PT X e (tT X.K c E f)) : PTs X [e] (tT X.K c E f) := pts_one h
end
end Mini
namespace Mini
open PySem PySem.Spec PyProof.Rows L2 Evl

/-! ### defs -/
def fnD (np ns : Nat) (b : FS) : List D → M D := fun ds => if ds.length = np then body ns b ds else no
/-- the promise: as F says -/
def spM (K : PySem.W.Frag) (c : Cn) (F : List D → M D) : Sp := fun vs H Q E => ∃ W ds S, StOk K c W H S ∧ RepL K c W ds vs ∧ OutM K c W H E Q (F ds S)
/-- .. a fresh object -/
def spO (K : PySem.W.Frag) (c : Cn) (F : List D → M D) : Sp := fun vs H Q E => ∃ W ds S, StOk K c W H S ∧ RepL K c W ds vs ∧ OutO K c W H E Q (F ds S)
section
variable {K : PySem.W.Frag} {c : Cn} {W W1 W2 W' : Wd} {H H1 H2 H' : Hp} {S S1 S2 S' : DS} {σ σ1 σ2 σ' : L2.St} {ρ ρ1 ρ2 ρ' : En} {E : XK}
theorem enter_ok {N : List Str} {ds : List D} {vs : List V} (r : RepL K c W ds vs) (hl : vs.length ≤ N.length) : EnvOk K c W H (L2.start N vs) (enter N.length ds) := by
  have hlen := RepL.length r
  refine ⟨?_, fun i d h => ?_, fun i d h => ?_, fun i j d e a h1 h2 h3 h4 => ?_⟩
  · unfold L2.start enter
    simp only [List.length_append, List.length_map, List.length_replicate]
    omega
  · unfold enter at h
    by_cases hi : i < ds.length
    · rw [List.getElem?_append_left (by simpa using hi), List.getElem?_map] at h
      cases q : ds[i]? with
      | none => rw [q] at h; cases h
      | some e =>
        rw [q] at h
        cases h
        obtain ⟨v, h1, h2⟩ := repL_get r q
        refine ⟨v, ?_, h2⟩
        unfold L2.start
        rw [List.getElem?_append_left (by rw [List.length_map, hlen]; exact hi), List.getElem?_map, h1]
        rfl
    · rw [List.getElem?_append_right (by simpa using hi), List.getElem?_replicate] at h
      split at h <;> cases h
  · unfold enter at h
    by_cases hi : i < ds.length
    · rw [List.getElem?_append_left (by simpa using hi), List.getElem?_map] at h
      cases q : ds[i]? <;> rw [q] at h <;> cases h
    · rw [List.getElem?_append_right (by simpa using hi), List.getElem?_replicate] at h
      split at h <;> cases h
  · unfold enter at h1
    by_cases hi : i < ds.length
    · rw [List.getElem?_append_left (by simpa using hi), List.getElem?_map] at h1
      cases q : ds[i]? <;> rw [q] at h1 <;> cases h1
    · rw [List.getElem?_append_right (by simpa using hi), List.getElem?_replicate] at h1
      split at h1 <;> cases h1
theorem enter_owned {n : Nat} {ds : List D} {σ : L2.St} {b : Addr} : ¬ Owned σ (enter n ds) b := fun ⟨i, d, h, _⟩ => by
  unfold enter at h
  by_cases hi : i < ds.length
  · rw [List.getElem?_append_left (by simpa using hi), List.getElem?_map] at h
    cases q : ds[i]? <;> rw [q] at h <;> cases h
  · rw [List.getElem?_append_right (by simpa using hi), List.getElem?_replicate] at h
    split at h <;> cases h
theorem KeepS.toKeep (k : KeepS W H σ ρ W' H') (h : ∀ b, ¬ Owned σ ρ b) : Keep W H W' H' := ⟨k.wex, fun b o q n => k.old b o q n (h b), fun b o q => k.fr b o q (h b), k.sa⟩
theorem body_out {N : List Str} {g : FS} {ds : List D} {vs : List V} {Q : VK} (st : StOk K c W H S) (r : RepL K c W ds vs) (hl : vs.length ≤ N.length) (h : OutM K c W H E Q (body N.length g ds S)) :
    tS K c E g { nx := fun _ H2 => Q .non H2, rt := Q } (L2.start N vs) H := by
  refine ⟨W, enter N.length ds, S, st, enter_ok r hl, ?_⟩
  unfold body bd at h
  cases e : g (enter N.length ds) S with
  | no => rw [e] at h; exact h
  | er n p S' =>
    rw [e] at h
    exact fun W' H' dd v st' k' => h W' H' dd v st' (k'.toKeep fun b => enter_owned)
  | ok f S' =>
    rw [e] at h
    cases f with
    | nx ρ' => exact fun W' H' σ' st' en' k' => h W' H' .non st' (k'.toKeepS.toKeep fun b => enter_owned) rfl
    | rt d => exact fun W' H' v st' k' r' => h W' H' v st' (k'.toKeep fun b => enter_owned) r'
    | bk ρ' => exact h.elim
    | ct ρ' => exact h.elim
theorem spM_len {np ns : Nat} {b : FS} {vs : List V} {Q : VK} (h : spM K c (fnD np ns b) vs H Q E) : vs.length = np := by
  obtain ⟨W, ds, S, st, r, q⟩ := h
  unfold fnD at q
  split at q
  · rw [RepL.length r]; assumption
  · exact q.elim
theorem spO_len {np ns : Nat} {b : FS} {vs : List V} {Q : VK} (h : spO K c (fnD np ns b) vs H Q E) : vs.length = np := by
  obtain ⟨W, ds, S, st, r, q⟩ := h
  unfold fnD at q
  split at q
  · rw [RepL.length r]; assumption
  · exact q.elim
end
/-- a def of the text keeps its mirror's promise -/
theorem fn_mini {P : Program} {w : World} {K : PySem.W.Frag} {mg : Str → Option Value} {base : Heap} {c : Cn} {x qual : Str} {st : Stmt} {f : Addr} {fd : FuncData} {N ps : List Str} {k : Nat} {b : FS} (F : Fun K x qual st f fd) (S : FnScope N ps (defScope st))
    (hbody : ∀ (cdv : Value) (A : Around) (outer : List Env) (s : Shared) (H : Hp) (E : XK), Room k (A.deeper (envOfC qual (defScope st) s.heap.objs.size f cdv)) → A.guards = some [] →
      PSs (cxOf (L2.CX P w) P w K mg base N qual (defScope st) f cdv A outer s H E) (defBody st) (tS K c E b)) : FnG P w K mg base (L2.CX P w) (k + 1) f fd ps (spM K c (fnD ps.length N.length b)) := by
  obtain ⟨oc, od, kV, doc, pm, an, cdv, ct, osl, rfl, lk, hcd⟩ := F.ex
  have hpl : ps.length ≤ N.length := by
    have := congrArg List.length S.pre
    rw [List.length_take] at this
    omega
  refine fnG_of lk hcd S (fun vs H Q E h => spM_len h) fun A outer s H vs Q E hr hg h => ⟨_, hbody cdv A outer s H E hr hg, ?_⟩
  have hl := spM_len h
  obtain ⟨W, ds, S', st', r, q⟩ := h
  unfold fnD at q
  rw [if_pos (by rw [← RepL.length r]; exact hl)] at q
  exact body_out st' r (by omega) q
/-- the same for one with defaults -/
theorem fn_miniD {P : Program} {w : World} {K : PySem.W.Frag} {mg : Str → Option Value} {base : Heap} {c : Cn} {nm qual : Str} {params : Arguments} {bodyS : List Stmt} {sc : Scope} {dV kV doc pm cdv ct oc : Value} {an od : Option Addr} {osl : Array (Option Value)} {f : Addr} {N ps : List Str} {k : Nat} {b : FS}
    (lk : K.lookup f = some ⟨oc, od, .func (PySem.W.fnOf nm qual params bodyS sc dV kV doc pm an cdv ct), osl⟩) (hcd : PySem.W.codeIn K cdv qual = true) (S : FnScope N ps sc)
    (hbody : ∀ (A : Around) (outer : List Env) (s : Shared) (H : Hp) (E : XK), Room k (A.deeper (envOfC qual sc s.heap.objs.size f cdv)) → A.guards = some [] →
      PSs (cxOf (L2.CX P w) P w K mg base N qual sc f cdv A outer s H E) bodyS (tS K c E b)) : FnG P w K mg base (L2.CX P w) (k + 1) f (PySem.W.fnOf nm qual params bodyS sc dV kV doc pm an cdv ct) ps (spM K c (fnD ps.length N.length b)) := by
  have hpl : ps.length ≤ N.length := by
    have := congrArg List.length S.pre
    rw [List.length_take] at this
    omega
  refine fnG_of lk hcd S (fun vs H Q E h => spM_len h) fun A outer s H vs Q E hr hg h => ⟨_, hbody A outer s H E hr hg, ?_⟩
  have hl := spM_len h
  obtain ⟨W, ds, S', st', r, q⟩ := h
  unfold fnD at q
  rw [if_pos (by rw [← RepL.length r]; exact hl)] at q
  exact body_out st' r (by omega) q
section
variable {X : Cx} {c : Cn} {E : XK} {T : CXT} {k : Nat} {f : Addr} {fd : FuncData} {ps : List Str} {F : List D → M D} {x : Str} {p pos : Pos} {e a : Expr} {es : List Expr} {ga : FA} {fa fb : FE}
/-- f(e, ..) -/
theorem me_call (G : FnG X.prog X.w X.K X.mg X.base T k f fd ps (spM X.K c F)) (hr : Room k X.A) (gd : X.A.guards = some []) (hg : Gl X x) (hm : X.mg x = some (.ref f)) (hk : PySem.W.keepIn X.K (.ref f) = true) (hb : Binds X.K fd ps []) (hx : Passes T X E)
    (ha : PA X (e :: es) (tA X.K c E ga)) (hdb : (x == ("__debug__" : Str)) = false := by decide) (he : starEach (e :: es) X.env = (false, eval e X.env) :: starEach es X.env := by rfl) (hpl : (backTo pos (starEach es X.env)).any (·.1) = false := by rfl) :
    PE X (.Call (.Name x p) (e :: es) [] pos) (tM X.K c E (callE F ga)) :=
  pe_imp (pe_callG G hr gd hg hm hk hb .nil hx ha hdb he hpl) fun σ H Q h => by
    obtain ⟨W, ρ, S, st, en, q⟩ := tM_un h
    refine then_A (O := OutM X.K c W H E Q) st en (fun _ _ _ z => z) (fun z => z) q fun ds S1 W1 H1 vs st1 k1 r1 q1 => ?_
    rw [List.append_nil]
    exact ⟨W1, ds, S1, st1, r1, OutM.pre (Q' := Q) q1 k1 st1⟩
def appA (ga : FA) (ds : List D) : FA := fun ρ => bd (ga ρ) fun xs => rt (xs ++ ds)
/-- .. with a default text -/
theorem me_callS {y : Str} {t : Tok} (hy : SOk y) (G : FnG X.prog X.w X.K X.mg X.base T k f fd ps (spM X.K c F)) (hr : Room k X.A) (gd : X.A.guards = some []) (hg : Gl X x) (hm : X.mg x = some (.ref f)) (hk : PySem.W.keepIn X.K (.ref f) = true) (hb : Binds X.K fd ps [.str y t]) (hx : Passes T X E)
    (ha : PA X (e :: es) (tA X.K c E ga)) (hdb : (x == ("__debug__" : Str)) = false := by decide) (he : starEach (e :: es) X.env = (false, eval e X.env) :: starEach es X.env := by rfl) (hpl : (backTo pos (starEach es X.env)).any (·.1) = false := by rfl) :
    PE X (.Call (.Name x p) (e :: es) [] pos) (tM X.K c E (callE F (appA ga [.str y]))) :=
  pe_imp (pe_callG (dvs := [.str y]) G hr gd hg hm hk hb (.cons ⟨t, rfl⟩ .nil) hx ha hdb he hpl) fun σ H Q h => by
    obtain ⟨W, ρ, S, st, en, q⟩ := tM_un h
    have q' : OutM X.K c W H E Q (bd (ga ρ) (fun xs => F (xs ++ [.str y])) S) := by
      have e1 : callE F (appA ga [.str y]) ρ S = bd (ga ρ) (fun xs => F (xs ++ [.str y])) S := by
        unfold callE appA bd
        cases ga ρ S <;> rfl
      rw [← e1]
      exact q
    refine then_A (O := OutM X.K c W H E Q) st en (fun _ _ _ z => z) (fun z => z) q' fun ds S1 W1 H1 vs st1 k1 r1 q1 => ?_
    exact ⟨W1, ds ++ [.str y], S1, st1, repL_append (es := [.str y]) (us := [.str y]) r1 ⟨_, _, rfl, (⟨rfl, hy⟩ : Rep X.K c W1 (.str y) (.str y)), rfl⟩, OutM.pre (Q' := Q) q1 k1 st1⟩
/-- what is not come to -/
def neverS : FS := fun _ => no
theorem ms_never {st : Stmt} : PS X st (tS X.K c E neverS) := ps_imp ps_never fun D σ H q => by
  obtain ⟨W, ρ, S, st, en, q⟩ := q
  exact q.elim
/-! ### our own lists -/
section
variable {K : PySem.W.Frag} {W W1 W2 W' : Wd} {H H1 H2 H' : Hp} {S S1 S2 S' : DS} {σ σ1 σ2 σ' : L2.St} {ρ ρ1 ρ2 ρ' : En}
/-- the object of slot i is written -/
theorem own_write {i : Nat} {d d' : D} {ad : Addr} {o : HO} (st : StOk K c W H S) (en : EnvOk K c W H σ ρ) (hi : ρ[i]? = some (.ow d)) (ha : σ[i]? = some (some (.ref ad))) (ho : Own K c W (upd H ad o) ad d') :
    StOk K c W (upd H ad o) S ∧ EnvOk K c W (upd H ad o) σ (setO i d' ρ) ∧ Step W H σ ρ W (upd H ad o) σ (setO i d' ρ) := by
  obtain ⟨a2, q1, h0, hs, q4⟩ := en.ow i d hi
  rw [ha] at q1
  cases q1
  obtain ⟨s5, k5⟩ := upd_D (o := o) st h0 hs q4.some
  have hil : i < ρ.length := (List.getElem?_eq_some_iff.mp hi).1
  have eσ : σ.set i (some (.ref ad)) = σ := by
    obtain ⟨hl, hv⟩ := List.getElem?_eq_some_iff.mp ha
    rw [← hv]
    exact List.set_getElem_self hl
  -- the others
  have get : ∀ {j : Nat} {s : Slot}, (setO i d' ρ)[j]? = some s → i ≠ j → ρ[j]? = some s := fun {j s} h n => by
    unfold setO at h
    rwa [List.getElem?_set_ne n] at h
  have self : ∀ {s : Slot}, (setO i d' ρ)[i]? = some s → s = .ow d' := fun {s} h => by
    unfold setO at h
    rw [List.getElem?_set_self hil] at h
    exact (Option.some.inj h).symm
  refine ⟨s5, ⟨by unfold setO; rw [List.length_set]; exact en.len, fun j e h => ?_, fun j e h => ?_, fun j k d1 d2 b h1 h2 h3 h4 => ?_⟩, ⟨⟨k5.wex, fun b u q n no => k5.old b u q n fun z => no ⟨i, d, hi, by rw [ha, z]⟩, fun b u q _ => k5.fr b u q, k5.sa, k5.there⟩, fun b z => ?_⟩⟩
  · by_cases hj : i = j
    · subst hj
      cases self h
    · obtain ⟨v, z1, z2⟩ := en.vl j e (get h hj)
      exact ⟨v, z1, z2⟩
  · by_cases hj : i = j
    · subst hj
      cases self h
      exact ⟨ad, ha, h0, hs, ho⟩
    · obtain ⟨b, z1, z2, z3, z4⟩ := en.ow j e (get h hj)
      have nb : b ≠ ad := fun z => hj (en.sep i j d e ad hi (get h hj) ha (by rw [z1, z]))
      exact ⟨b, z1, z2, z3, z4.ext (WEx.refl W) fun u q => by rw [upd_ne nb]; exact q⟩
  · have own' : ∀ {m : Nat} {x : D}, (setO i d' ρ)[m]? = some (.ow x) → ∃ y, ρ[m]? = some (.ow y) := fun {m x} h => by
      by_cases hm : i = m
      · subst hm; exact ⟨d, hi⟩
      · exact ⟨x, get h hm⟩
    obtain ⟨y1, z1⟩ := own' h1
    obtain ⟨y2, z2⟩ := own' h2
    exact en.sep j k y1 y2 b z1 z2 h3 h4
  · rw [← eσ] at z
    rcases owned_setO z with z | z
    · exact .inr ⟨i, d, hi, by rw [ha, z]⟩
    · exact .inr z
end
def ownL (ρ : En) (i : Nat) : Option (List D) := match ρ[i]? with
  | some (.ow (.lst ds)) => some ds
  | _ => none
theorem ownL_some {ρ : En} {i : Nat} {ds : List D} (h : ownL ρ i = some ds) : ρ[i]? = some (.ow (.lst ds)) := by
  unfold ownL at h
  split at h
  · cases h; assumption
  · cases h
/-- x.append(e) -/
def appS (i : Nat) (f : FE) : FS := fun ρ => bd (lift (ownL ρ i)) fun ds => bd (f ρ) fun d => if ds.length < 16777216 then rt (.nx (setO i (.lst (ds ++ [d])) ρ)) else no
theorem ms_app {i : Nat} {y : Str} {py apos : Pos} (hN : X.N[i]? = some y) (hv : Vis X.env.scope y) (ha : PE X a (tM X.K c E fa))
    (pe : ∀ te : TE, PE X a te → PE X (.Call (.Attribute (.Name y py) "append" apos) [a] [] p) (tBM X.K "list" rAppend (tVar i) (tCons te tNil)))
    (hs : swapsWith (.Call (.Attribute (.Name y py) "append" apos) [a] [] p) none pos.line X.env = pure false := by rfl) :
    PS X (.Expr (.Call (.Attribute (.Name y py) "append" apos) [a] [] p) pos) (tS X.K c E (appS i fa)) := ps_imp (ps_expr (pe _ ha) hs) fun D σ H q => by
  obtain ⟨W, ρ, S, st, en, q⟩ := q
  unfold appS bd at q
  cases e1 : ownL ρ i with
  | none => rw [e1] at q; exact q.elim
  | some ds =>
    rw [e1] at q
    have hi := ownL_some e1
    obtain ⟨ad, h1, h2, h3, vs, h4, h5⟩ := en.ow i _ hi
    refine ⟨_, h1, .inl ⟨rfl, _, .inl (.inl h4)⟩, ?_⟩
    refine thenS_M st en q fun d S' W' H' v st' en' k r q' => ?_
    obtain ⟨ad2, h1', h2', h3', vs', h4', h5'⟩ := en'.ow i _ hi
    rw [h1] at h1'
    cases h1'
    split at q'
    · rename_i hlen
      obtain ⟨s5, e5, p5⟩ := own_write (o := .lst (vs' ++ [v])) (d' := .lst (ds ++ [d])) st' en' hi h1 ⟨_, upd_same, repL_append h5' ⟨v, [], rfl, r, rfl⟩⟩
      exact ⟨ad, vs', v, rfl, rfl, h4', line_lt (by rw [RepL.length h5']; exact hlen), q' W' _ σ s5 e5 p5⟩
    · exact q'.elim
end
end Mini
namespace Mini
open PySem PySem.Spec PyProof.Rows L2 Evl

/-! ### the end: a law's def keeps its mirror's promise, and the mirror gives True at every script -/
def atScript (a : Addr) (vs : List Value) (ns : List Int) : Hp := fun b => if b = a then some (.frz { cls := .type "list", data := .seq vs.toArray } (.lst (ns.map V.int))) else none
section
variable {P : Program} {w : World} {K : PySem.W.Frag} {mg mb : Str → Option Value} {c : Cn} {k : Nat} {fa a : Addr} {fd : FuncData} {x : Str} {F : List D → M D} {s₁ : Shared} {vs : List Value} {ns : List Int}
/-- from an abstract heap that tracks the script at most -/
theorem run_at {H : Hp} (KX : K.In s₁.heap) (hns : s₁.heap.Ns mainGlobals mg) (hb : s₁.heap.Ns builtinsNs mb) (hbb : ∀ x : Str, x ≠ "__name__" → mb x = bootBuiltins x) (hlim : s₁.heap.NoLimit) (hg : s₁.gens = #[])
    (hr : Room k callerA) (G : ∀ base : Heap, K.In base → base.Ns mainGlobals mg → FnG P w K mg base (L2.CX P w) k fa fd [x] (spM K c F)) (bind : ∀ (s : Shared) (u : Value), BindsTo s fd ⟨[u], []⟩ [(x, u)])
    (val : ∃ S', F [.scr ns] none = .ok (.bl true) S') (ok : HOk P w H s₁.heap) (sq : SqL K H a (ns.map V.int)) (only : ∀ b u, H b = some u → ∃ o xs, u = .frz o (.lst xs) ∧ s₁.heap.get? b = some { cls := .type "list", data := .seq vs.toArray } ∧ K.lookup b = none) :
    codeAny (model P w) callerA (.call (.ref fa) ⟨[.ref a], []⟩) (fun r s' => r = .ok (.ret (.bool true)) ∧ OldK s₁.heap s'.heap ∧ s'.os = s₁.os ∧ AllBare s'.gens) s₁ := by
  have into : ∀ {b : Addr} {o : Obj}, s₁.heap.get? b = some o → H b = none → (hidT s₁.heap H).get? b = some o := fun q n => hidT_get q n
  have dictFree : ∀ {b : Addr} {o : Obj} {es : Array DictEntry} {ep : Nat}, s₁.heap.get? b = some o → o.data = .dict es ep → H b = none := by
    intro b o es ep q d
    cases z : H b with
    | none => rfl
    | some u =>
      obtain ⟨_, _, _, q2, _⟩ := only b u z
      rw [q] at q2
      cases q2
      cases d
  have lift : ∀ {b : Addr} {m : Str → Option Value}, s₁.heap.Ns b m → (hidT s₁.heap H).Ns b m := by
    rintro b m ⟨o, es, ep, q, d, r⟩
    exact ⟨o, es, ep, into q (dictFree q d), d, r⟩
  have kin : K.In (hidT s₁.heap H) := fun b o q => by
    refine into (KX b o q) ?_
    cases z : H b with
    | none => rfl
    | some u =>
      obtain ⟨_, _, _, _, q2⟩ := only b u z
      rw [q] at q2
      cases q2
  have e0 : Env0 P w K mg (hidT s₁.heap H) callerA [] s₁ H := by
    refine { frames := rfl, mod := { kin := kin, glob := lift hns, blt := ⟨mb, lift hb, hbb⟩, nolimit := ?_ }, bs := fun b o q => of_hidT q, bsz := Nat.le_of_eq (hidT_size _ _), funs := trivial, frf := ?_, hok := ok, bare := .of_eq hg }
    · obtain ⟨mc, q1, q2⟩ := hlim
      exact ⟨mc, lift q1, q2⟩
    · intro b z
      exact absurd z (by simp [frs])
  obtain ⟨S', hF⟩ := val
  have want : spM K c F [.ref a] H (fun v _ => v = .bl true) EF := by
    refine ⟨⟨H, none⟩, [.scr ns], none, ⟨Ex.refl H, rfl⟩, ⟨_, [], rfl, ⟨a, rfl, sq⟩, rfl⟩, ?_⟩
    rw [hF]
    exact fun W' H' v _ _ r => r
  refine codeAny_mono ((G _ kin (lift hns)).run callerA [] s₁ H ⟨[.ref a], []⟩ [.ref a] [.ref a] _ _ hr rfl e0 (bind s₁ (.ref a)) (.cons rfl .nil) want) fun r s' out => ?_
  match r, out with
  | .error e, out =>
    obtain ⟨_, _, _, _, _, _, _, _, _, _, _, _, z⟩ := out
    exact z.elim
  | .ok (.ret u), out =>
    obtain ⟨v, H', os, bare, un, ok', rv, q⟩ := out
    subst q
    have eu : u = Value.bool true := rv
    subst eu
    refine ⟨rfl, OldK.of_keep fun b o q => ?_, os, bare⟩
    cases z : H b with
    | none => exact un.keep b o q z (by simp [frs]) (by simp)
    | some t =>
      obtain ⟨ob, xs, rfl, _⟩ := only b t z
      have h1 := ok b _ z
      have h2 := ok' b _ (un.frzs b ob _ z)
      have e1 : o = ob := by
        have := h1.1
        rw [q] at this
        exact Option.some.inj this
      rw [e1]
      exact h2.1
theorem run_law (KX : K.In s₁.heap) (hns : s₁.heap.Ns mainGlobals mg) (hb : s₁.heap.Ns builtinsNs mb) (hbb : ∀ x : Str, x ≠ "__name__" → mb x = bootBuiltins x) (hlim : s₁.heap.NoLimit) (hg : s₁.gens = #[])
    (ha : s₁.heap.get? a = some { cls := .type "list", data := .seq vs.toArray }) (hi : IntsAre vs ns) (hl : ns.length ≤ sizeLine) (hr : Room k callerA)
    (G : ∀ base : Heap, K.In base → base.Ns mainGlobals mg → FnG P w K mg base (L2.CX P w) k fa fd [x] (spM K c F)) (bind : ∀ (s : Shared) (u : Value), BindsTo s fd ⟨[u], []⟩ [(x, u)])
    (val : ∃ S', F [.scr ns] none = .ok (.bl true) S') :
    codeAny (model P w) callerA (.call (.ref fa) ⟨[.ref a], []⟩) (fun r s' => r = .ok (.ret (.bool true)) ∧ OldK s₁.heap s'.heap ∧ s'.os = s₁.os ∧ AllBare s'.gens) s₁ := by
  have rv := vals_ints hi
  have len := hi.length
  cases look : K.lookup a with
  | some o =>
    have q := KX a o look
    rw [ha] at q
    cases q
    refine run_at (vs := vs) (H := fun _ => none) KX hns hb hbb hlim hg hr G bind val (fun b u z => nomatch z) (.inr ⟨_, vs.toArray, _, look, rfl, rfl, rfl, ?_, ?_⟩) fun b u z => nomatch z
    · rw [List.size_toArray, len]
      exact hl
    · simpa using rv
  | none =>
    refine run_at (H := atScript a vs ns) (vs := vs) KX hns hb hbb hlim hg hr G bind val (fun b u z => ?_) (.inl (.inr ⟨_, if_pos rfl⟩)) fun b u z => ?_
    · unfold atScript at z
      split at z
      · rename_i eb
        subst eb
        cases z
        exact ⟨ha, by rw [List.length_map]; exact hl, vs, _, rv, ha⟩
      · cases z
    · unfold atScript at z
      split at z
      · rename_i eb
        subst eb
        cases z
        exact ⟨_, _, rfl, ha, look⟩
      · cases z
end
/-- what is left of the row behind its head -/
theorem mini_walk {l : PySem.W.OpenLaw} {n k : Nat} {q : Program} {loose : List Str} {XP : (Str → Option Value) → Heap → Prop} {YP : World → Heap → Prop} {d : DefRec} {K : Params → PySem.W.Frag} {x : Str} {F : List D → M D}
    (hn : l.most = some n) (hn2 : n ≤ sizeLine) (hdf : d.params.defaults = []) (hr : Room k callerA) (hY : ∀ (w : World) (h : Heap), YP w h → (K w.params).In h)
    (G : ∀ (w : World) (mg : Str → Option Value) (fa : Addr) (h : Heap), (K w.params).In h → h.Ns mainGlobals mg → mg d.name = some (.ref fa) →
      ∃ (c : Cn) (fd : FuncData), (∀ (s : Shared) (u : Value), BindsTo s fd ⟨[u], []⟩ [(x, u)]) ∧ ∀ base : Heap, (K w.params).In base → base.Ns mainGlobals mg → FnG l.prog w (K w.params) mg base (L2.CX l.prog w) k fa fd [x] (spM (K w.params) c F))
    (val : ∀ ns : List Int, ns.length ≤ n → ∃ S', F [.scr ns] none = .ok (.bl true) S') :
    PySem.W.WalkO q loose XP YP l.row.toRowW d [] (fun f vs => PySem.call f vs) := by
  refine Att.attach_call hn hdf fun w s₀ s₁ mg mb fa o pm cd doc a vs ns Gr Y ho hd hcd hmg hobj hints hlen hg => ?_
  have KX := hY w _ Y
  obtain ⟨c, fd, hb, hG⟩ := G w mg fa _ KX Gr.T.g hmg
  exact run_law KX Gr.T.g Gr.T.b Gr.T.builtins Gr.T.nolimit hg hobj hints (Nat.le_trans hlen hn2) hr hG hb (val ns hlen)
end Mini
namespace Mini
open PySem PySem.Spec PyProof.Rows L2 Evl

/-! ### the rules with their sides shown by the kernel -/
theorem ps_body {P : Program} {w : World} {K : PySem.W.Frag} {mg : Str → Option Value} {base : Heap} {N : List Str} {qual : Str} {sc : Scope} {f : Addr} {cd : Value} {A : Around} {outer : List Env} {s : Shared} {H : Hp} {E : XK} :
    Passes (L2.CX P w) (cxOf (L2.CX P w) P w K mg base N qual sc f cd A outer s H E) E := passes_call (takes_of rfl rfl rfl rfl) fun _ _ _ _ h => h
theorem ps_own {P : Program} {w : World} {K : PySem.W.Frag} {mg : Str → Option Value} {base : Heap} {N : List Str} {qual : Str} {sc : Scope} {f : Addr} {cd : Value} {A : Around} {outer : List Env} {s : Shared} {H : Hp} {E : XK} :
    PassesOwn (model P w) (cxOf (L2.CX P w) P w K mg base N qual sc f cd A outer s H E).A (cxOf (L2.CX P w) P w K mg base N qual sc f cd A outer s H E).env (cxOf (L2.CX P w) P w K mg base N qual sc f cd A outer s H E).xe := passes_of rfl
section
variable {X : Cx} {c : Cn} {E : XK} {a b e tg : Expr} {es : List Expr} {fa fb : FE} {ga : FA} {x y : Str} {p pos : Pos} {i : Nat}
theorem me_varL (hN : X.N[i]? = some x := by kernel_rfl) (hv : X.env.scope.names.lookup x = some .local := by kernel_rfl) (hd : (x == ("__debug__" : Str)) = false := by kernel_rfl) (hcd : (x == ("__classdict__" : Str)) = false := by kernel_rfl) : PE X (.Name x pos) (tM X.K c E (var i)) := me_var hN (.inl hv) hd hcd
theorem me_varC (hN : X.N[i]? = some x := by kernel_rfl) (hv : X.env.scope.names.lookup x = some .cell := by kernel_rfl) (hd : (x == ("__debug__" : Str)) = false := by kernel_rfl) (hcd : (x == ("__classdict__" : Str)) = false := by kernel_rfl) : PE X (.Name x pos) (tM X.K c E (var i)) := me_var hN (.inr (.inl hv)) hd hcd
theorem me_varF (hN : X.N[i]? = some x := by kernel_rfl) (hv : X.env.scope.names.lookup x = some .free := by kernel_rfl) (hd : (x == ("__debug__" : Str)) = false := by kernel_rfl) (hcd : (x == ("__classdict__" : Str)) = false := by kernel_rfl) : PE X (.Name x pos) (tM X.K c E (var i)) := me_var hN (.inr (.inr hv)) hd hcd
theorem me_varBL (hN : X.N[i]? = some x := by kernel_rfl) (hv : X.env.scope.names.lookup x = some .local := by kernel_rfl) (hd : (x == ("__debug__" : Str)) = false := by kernel_rfl) (hcd : (x == ("__classdict__" : Str)) = false := by kernel_rfl) : PE X (.Name x pos) (tB X.K c E (varB i)) := me_varB hN (.inl hv) hd hcd
theorem me_varBC (hN : X.N[i]? = some x := by kernel_rfl) (hv : X.env.scope.names.lookup x = some .cell := by kernel_rfl) (hd : (x == ("__debug__" : Str)) = false := by kernel_rfl) (hcd : (x == ("__classdict__" : Str)) = false := by kernel_rfl) : PE X (.Name x pos) (tB X.K c E (varB i)) := me_varB hN (.inr (.inl hv)) hd hcd
theorem me_varBF (hN : X.N[i]? = some x := by kernel_rfl) (hv : X.env.scope.names.lookup x = some .free := by kernel_rfl) (hd : (x == ("__debug__" : Str)) = false := by kernel_rfl) (hcd : (x == ("__classdict__" : Str)) = false := by kernel_rfl) : PE X (.Name x pos) (tB X.K c E (varB i)) := me_varB hN (.inr (.inr hv)) hd hcd
theorem gl_of (h : X.env.kindOf x = some .globalImplicit) : Gl X x := h
theorem me_gint' {n : Int} (hm : ∃ t, X.mg x = some (.int n t)) (hg : X.env.kindOf x = some .globalImplicit := by kernel_rfl) (hd : (x == ("__debug__" : Str)) = false := by kernel_rfl) : PE X (.Name x pos) (tM X.K c E (cst (.int n))) := by
  obtain ⟨t, hm⟩ := hm
  exact me_gint hg hm ⟨t, rfl⟩ hd
theorem me_gstr' {n : Str} (hm : ∃ t, X.mg x = some (.str n t)) (h : SOk n := by decide +kernel) (hg : X.env.kindOf x = some .globalImplicit := by kernel_rfl) (hd : (x == ("__debug__" : Str)) = false := by kernel_rfl) : PE X (.Name x pos) (tM X.K c E (cst (.str n))) := by
  obtain ⟨t, hm⟩ := hm
  exact me_gstr hg hm ⟨t, rfl⟩ h hd
theorem me_gfn' {n : Nat} {f : Addr} (hm : X.mg x = some (.ref f)) (r : c.fa n = some f) (hg : X.env.kindOf x = some .globalImplicit := by kernel_rfl) (hd : (x == ("__debug__" : Str)) = false := by kernel_rfl) : PE X (.Name x pos) (tM X.K c E (fnE n)) := me_gfn hg hm r hd
theorem ma_cons' {r : FA} (ha : PE X e (tM X.K c E fa)) (hr : PA X es (tA X.K c E r)) (hs : starEach (e :: es) X.env = (false, eval e X.env) :: starEach es X.env := by kernel_rfl) : PA X (e :: es) (tA X.K c E (consA fa r)) := ma_cons ha hr hs
theorem me_un {op : UnaryOp} {f : D → Option D} {r : V → Hp → VK → Prop} (ho : UnR X (unaryOp op) r) (hr : ∀ {W : Wd} {H : Hp} {S : DS} {d d' : D} {v : V} (Q : VK), StOk X.K c W H S → RepB X.K c W H d v → f d = some d' → (∀ W' H' x, StOk X.K c W' H' S → Keep W H W' H' → Rep X.K c W' d' x → Q x H') → r v H Q)
    (ha : PE X a (tB X.K c E fa)) : PE X (.UnaryOp op a pos) (tM X.K c E (op1 f fa)) := pe_imp (pe_un ho ha) fun σ H Q h => by
  obtain ⟨W, ρ, S, st, en, q⟩ := tM_un h
  refine then_B (O := OutM X.K c W H E Q) st en (fun _ _ _ z => z) (fun z => z) q fun d S1 W1 H1 v st1 k1 r1 q1 => ?_
  obtain ⟨d', e', q3⟩ := lift_ok (β := D) (O := OutM X.K c W H E Q) (fun z => z) q1
  exact hr Q st1 r1 e' fun W' H' x st' k' rx => q3 W' H' x st' (k1.tr st1 k') rx
def dNeg : D → Option D
  | .int i => some (.int (-i))
  | _ => none
theorem un_negM {W : Wd} {H : Hp} {S : DS} {d d' : D} {v : V} (Q : VK) (st : StOk X.K c W H S) (a : RepB X.K c W H d v) (q : dNeg d = some d') (k : ∀ W' H' x, StOk X.K c W' H' S → Keep W H W' H' → Rep X.K c W' d' x → Q x H') : (rU fun i => .int (-i)) v H Q := by
  cases d <;> first | (cases q; done) | skip
  cases q
  exact ⟨_, a.int, k W H _ st (Keep.refl W H) rfl⟩
theorem me_bl1' {id : String} {r : R1} {f : D → Option D} (hc : CallR X (.builtin id) r) (hr : UnM X.K c r f) (hm : X.mg x = none) (ha : PE X a (tB X.K c E fa)) (hv : bootBuiltins x = some (.builtin id) := by kernel_rfl) (hg : X.env.kindOf x = some .globalImplicit := by kernel_rfl) (hn : x ≠ "__name__" := by decide +kernel)
    (hdb : (x == ("__debug__" : Str)) = false := by kernel_rfl) (he : starEach [a] X.env = (false, eval a X.env) :: starEach [] X.env := by kernel_rfl) (hpl : (backTo pos (starEach [] X.env)).any (·.1) = false := by kernel_rfl) : PE X (.Call (.Name x p) [a] [] pos) (tM X.K c E (op1 f fa)) := me_bl1 hc hr hg hm hv ha hn hdb he hpl
theorem me_ty1' {T : String} {r : R1} {f : D → Option D} (hc : CallR X (.type T) r) (hr : UnM X.K c r f) (hm : X.mg x = none) (ha : PE X a (tB X.K c E fa)) (hv : bootBuiltins x = some (.type T) := by kernel_rfl) (hg : X.env.kindOf x = some .globalImplicit := by kernel_rfl) (hn : x ≠ "__name__" := by decide +kernel)
    (hdb : (x == ("__debug__" : Str)) = false := by kernel_rfl) (he : starEach [a] X.env = (false, eval a X.env) :: starEach [] X.env := by kernel_rfl) (hpl : (backTo pos (starEach [] X.env)).any (·.1) = false := by kernel_rfl) : PE X (.Call (.Name x p) [a] [] pos) (tM X.K c E (op1 f fa)) := me_ty1 hc hr hg hm hv ha hn hdb he hpl
theorem me_bl1O' {id : String} {r : R1} {f : D → Option D} (hc : CallR X (.builtin id) r) (hr : UnO X.K c r f) (hm : X.mg x = none) (ha : PE X a (tB X.K c E fa)) (hv : bootBuiltins x = some (.builtin id) := by kernel_rfl) (hg : X.env.kindOf x = some .globalImplicit := by kernel_rfl) (hn : x ≠ "__name__" := by decide +kernel)
    (hdb : (x == ("__debug__" : Str)) = false := by kernel_rfl) (he : starEach [a] X.env = (false, eval a X.env) :: starEach [] X.env := by kernel_rfl) (hpl : (backTo pos (starEach [] X.env)).any (·.1) = false := by kernel_rfl) : PE X (.Call (.Name x p) [a] [] pos) (tO X.K c E (op1 f fa)) := me_bl1O hc hr hg hm hv ha hn hdb he hpl
theorem me_ty1O' {T : String} {r : R1} {f : D → Option D} (hc : CallR X (.type T) r) (hr : UnO X.K c r f) (hm : X.mg x = none) (ha : PE X a (tB X.K c E fa)) (hv : bootBuiltins x = some (.type T) := by kernel_rfl) (hg : X.env.kindOf x = some .globalImplicit := by kernel_rfl) (hn : x ≠ "__name__" := by decide +kernel)
    (hdb : (x == ("__debug__" : Str)) = false := by kernel_rfl) (he : starEach [a] X.env = (false, eval a X.env) :: starEach [] X.env := by kernel_rfl) (hpl : (backTo pos (starEach [] X.env)).any (·.1) = false := by kernel_rfl) : PE X (.Call (.Name x p) [a] [] pos) (tO X.K c E (op1 f fa)) := me_ty1O hc hr hg hm hv ha hn hdb he hpl
theorem me_bl2' {id : String} {r : R1} {g : D → D → Option D} (hc : CallR X (.builtin id) r) (hr : OpM X.K c (r2of r) g) (hm : X.mg x = none) (ha : PE X a (tB X.K c E fa)) (hb : PE X b (tB X.K c E fb)) (hv : bootBuiltins x = some (.builtin id) := by kernel_rfl) (hg : X.env.kindOf x = some .globalImplicit := by kernel_rfl) (hn : x ≠ "__name__" := by decide +kernel)
    (hdb : (x == ("__debug__" : Str)) = false := by kernel_rfl) (he : starEach [a, b] X.env = (false, eval a X.env) :: starEach [b] X.env := by kernel_rfl) (he2 : starEach [b] X.env = (false, eval b X.env) :: starEach [] X.env := by kernel_rfl) (hpl : (backTo pos (starEach [b] X.env)).any (·.1) = false := by kernel_rfl) : PE X (.Call (.Name x p) [a, b] [] pos) (tM X.K c E (op2 g fa fb)) := me_bl2 hc hr hg hm hv ha hb hn hdb he he2 hpl
theorem me_isi' {T : String} {p2 : Pos} (hm : X.mg "isinstance" = none) (hm2 : X.mg y = none) (ha : PE X a (tB X.K c E fa)) (hv2 : bootBuiltins y = some (.type T) := by kernel_rfl) (hg : X.env.kindOf "isinstance" = some .globalImplicit := by kernel_rfl) (hg2 : X.env.kindOf y = some .globalImplicit := by kernel_rfl) (hn2 : y ≠ "__name__" := by decide +kernel)
    (hdb2 : (y == ("__debug__" : Str)) = false := by kernel_rfl) (he : starEach [a, .Name y p2] X.env = (false, eval a X.env) :: starEach [.Name y p2] X.env := by kernel_rfl) (he2 : starEach [.Name y p2] X.env = (false, eval (.Name y p2) X.env) :: starEach [] X.env := by kernel_rfl) (hpl : (backTo pos (starEach [.Name y p2] X.env)).any (·.1) = false := by kernel_rfl) :
    PE X (.Call (.Name "isinstance" p) [a, .Name y p2] [] pos) (tM X.K c E (op1 (isiD T) fa)) := me_isi hg hm hg2 hm2 hv2 ha hn2 hdb2 he he2 hpl
theorem me_call' {T : CXT} {k : Nat} {f : Addr} {fd : FuncData} {ps : List Str} {F : List D → M D} (G : FnG X.prog X.w X.K X.mg X.base T k f fd ps (spM X.K c F)) (hr : Room k X.A) (gd : X.A.guards = some []) (hm : X.mg x = some (.ref f)) (hk : PySem.W.keepIn X.K (.ref f) = true) (hb : Binds X.K fd ps []) (hx : Passes T X E)
    (ha : PA X (e :: es) (tA X.K c E ga)) (hg : X.env.kindOf x = some .globalImplicit := by kernel_rfl) (hdb : (x == ("__debug__" : Str)) = false := by kernel_rfl) (he : starEach (e :: es) X.env = (false, eval e X.env) :: starEach es X.env := by kernel_rfl) (hpl : (backTo pos (starEach es X.env)).any (·.1) = false := by kernel_rfl) :
    PE X (.Call (.Name x p) (e :: es) [] pos) (tM X.K c E (callE F ga)) := me_call G hr gd hg hm hk hb hx ha hdb he hpl
theorem me_callS' {T : CXT} {k : Nat} {f : Addr} {fd : FuncData} {ps : List Str} {F : List D → M D} {z : Str} (hz : SOk z) (G : FnG X.prog X.w X.K X.mg X.base T k f fd ps (spM X.K c F)) (hr : Room k X.A) (gd : X.A.guards = some []) (hm : X.mg x = some (.ref f)) (hk : PySem.W.keepIn X.K (.ref f) = true) (hb : ∃ t, Binds X.K fd ps [.str z t]) (hx : Passes T X E)
    (ha : PA X (e :: es) (tA X.K c E ga)) (hg : X.env.kindOf x = some .globalImplicit := by kernel_rfl) (hdb : (x == ("__debug__" : Str)) = false := by kernel_rfl) (he : starEach (e :: es) X.env = (false, eval e X.env) :: starEach es X.env := by kernel_rfl) (hpl : (backTo pos (starEach es X.env)).any (·.1) = false := by kernel_rfl) :
    PE X (.Call (.Name x p) (e :: es) [] pos) (tM X.K c E (callE F (appA ga [.str z]))) := by
  obtain ⟨t, hb⟩ := hb
  exact me_callS hz G hr gd hg hm hk hb hx ha hdb he hpl
theorem mt_tru' (ha : PE X e (tB X.K c E fa)) (he : ∀ whole, isTrue e X.env whole = (do let v ← whole; standAt e.pos; holding [v] (truthy v)) := by intro _; kernel_rfl) : PT X e (tT X.K c E (truB fa)) := mt_tru ha he
theorem mi_rng1' (hm : X.mg "range" = none) (ha : PE X a (tM X.K c E fa)) (hg : X.env.kindOf "range" = some .globalImplicit := by kernel_rfl) (hs : starEach [a] X.env = [(false, eval a X.env)] := by kernel_rfl) : PI X tg (.Call (.Name "range" p) [a] [] pos) (tI X.K c E (itR1 fa)) := mi_rng1 hg hm ha hs
theorem mi_rng2' (hm : X.mg "range" = none) (ha : PE X a (tM X.K c E fa)) (hb : PE X b (tM X.K c E fb)) (hg : X.env.kindOf "range" = some .globalImplicit := by kernel_rfl) (hs : starEach [a, b] X.env = [(false, eval a X.env), (false, eval b X.env)] := by kernel_rfl) (hs2 : starEach [b] X.env = [(false, eval b X.env)] := by kernel_rfl) : PI X tg (.Call (.Name "range" p) [a, b] [] pos) (tI X.K c E (itR2 fa fb)) := mi_rng2 hg hm ha hb hs hs2
theorem mi_enum' {tpos : Pos} {elts : List Expr} {kk : Nat} (hm : X.mg "enumerate" = none) (ha : PE X a (tM X.K c E fa)) (hg : X.env.kindOf "enumerate" = some .globalImplicit := by kernel_rfl) (hs : starEach [a] X.env = [(false, eval a X.env)] := by kernel_rfl) : PI X (.Tuple elts kk tpos) (.Call (.Name "enumerate" p) [a] [] pos) (tI X.K c E (itEn fa)) := mi_enum hg hm ha hs
theorem mi_zip' {tpos : Pos} {elts : List Expr} {kk : Nat} (hm : X.mg "zip" = none) (ha : PE X a (tM X.K c E fa)) (hb : PE X b (tM X.K c E fb)) (hg : X.env.kindOf "zip" = some .globalImplicit := by kernel_rfl) (hs : starEach [a, b] X.env = (false, eval a X.env) :: starEach [b] X.env := by kernel_rfl) (hs2 : starEach [b] X.env = (false, eval b X.env) :: starEach [] X.env := by kernel_rfl)
    (hpl : (backTo pos (starEach [b] X.env)).any (·.1) = false := by kernel_rfl) : PI X (.Tuple elts kk tpos) (.Call (.Name "zip" p) [a, b] [] pos) (tI X.K c E (itZp fa fb)) := mi_zip hg hm ha hb hs hs2 hpl
theorem mg_nameL {us : List Nat} (hN : X.N.Nodup) (hi : X.N[i]? = some x := by kernel_rfl) (hx : X.env.scope.names.lookup x = some .local := by kernel_rfl) (hu : i ∈ us := by decide) : PG X (.Name x pos) (tGd X.K c us (tgN i)) := mg_name hN hi (.inl hx) hu (.inr hx)
theorem mg_nameC {us : List Nat} (hN : X.N.Nodup) (hi : X.N[i]? = some x := by kernel_rfl) (hx : X.env.scope.names.lookup x = some .cell := by kernel_rfl) (hu : i ∈ us := by decide) (hf : X.fn x = true := by kernel_rfl) : PG X (.Name x pos) (tGd X.K c us (tgN i)) := mg_name hN hi (.inr hx) hu (.inl hf)
theorem mgs_cons' {us : List Nat} {t : TGd} {ts : List TGd} (h1 : PG X e (tGd X.K c us t)) (h2 : PGs X es (tGds X.K c us ts)) (hs : (assignEach (e :: es) X.env).map (·.2) = assign e X.env :: (assignEach es X.env).map (·.2) := by kernel_rfl) : PGs X (e :: es) (tGds X.K c us (t :: ts)) := mgs_cons h1 h2 hs
theorem ms_setL {pos' : Pos} (hN : X.N.Nodup) (he : PE X e (tM X.K c E fa)) (hi : X.N[i]? = some x := by kernel_rfl) (hx : X.env.scope.names.lookup x = some .local := by kernel_rfl) (hs : swapsWith e (some (.Name x pos')) pos.line X.env = pure false := by kernel_rfl) : PS X (.Assign [.Name x pos'] e pos) (tS X.K c E (asgS i fa)) := ms_set hN hi (.inl hx) he hs (.inr hx)
theorem ms_setC {pos' : Pos} (hN : X.N.Nodup) (he : PE X e (tM X.K c E fa)) (hi : X.N[i]? = some x := by kernel_rfl) (hx : X.env.scope.names.lookup x = some .cell := by kernel_rfl) (hs : swapsWith e (some (.Name x pos')) pos.line X.env = pure false := by kernel_rfl) (hf : X.fn x = true := by kernel_rfl) : PS X (.Assign [.Name x pos'] e pos) (tS X.K c E (asgS i fa)) := ms_set hN hi (.inr hx) he hs (.inl hf)
theorem ms_setOL {pos' : Pos} (hN : X.N.Nodup) (he : PE X e (tO X.K c E fa)) (hi : X.N[i]? = some x := by kernel_rfl) (hx : X.env.scope.names.lookup x = some .local := by kernel_rfl) (hs : swapsWith e (some (.Name x pos')) pos.line X.env = pure false := by kernel_rfl) : PS X (.Assign [.Name x pos'] e pos) (tS X.K c E (asgOS i fa)) := ms_setO hN hi (.inl hx) he hs (.inr hx)
theorem ms_setOC {pos' : Pos} (hN : X.N.Nodup) (he : PE X e (tO X.K c E fa)) (hi : X.N[i]? = some x := by kernel_rfl) (hx : X.env.scope.names.lookup x = some .cell := by kernel_rfl) (hs : swapsWith e (some (.Name x pos')) pos.line X.env = pure false := by kernel_rfl) (hf : X.fn x = true := by kernel_rfl) : PS X (.Assign [.Name x pos'] e pos) (tS X.K c E (asgOS i fa)) := ms_setO hN hi (.inr hx) he hs (.inl hf)
theorem sw_t {elt : Expr} {gs : List Comprehension} {scope : Scope} {pos py : Pos} {y : Str} {l : Nat} {env : Env} (hk : env.scope.kind = .function) (hy : env.scope.names.lookup y = some .local) (hl : (py.line == pos.line) = true)
    (ha : (scope.names.any fun (n, k) => n == y && (k == .local || k == .cell)) = false) : swapsWith (.ListComp elt gs scope pos) (some (.Name y py)) l env = pure true := sw_true hk hy hl ha
theorem blk_ok {N : List Str} {sc scope : Scope} {own : List (Str × Nat)} (h : blkC N sc scope own = true) : BlkOk N sc scope own := blkOk_by h
end
/-! ### chains of comparisons -/
def chn2 (f g : D → D → Option D) (a b c : FE) : FE := fun ρ => bd (a ρ) fun x => bd (b ρ) fun y => bd (lift (f x y)) fun z => match z with
  | .bl true => bd (c ρ) fun u => lift (g y u)
  | .bl false => rt (.bl false)
  | _ => no
section
variable {X : Cx} {cn : Cn} {E : XK} {a b c e : Expr} {fa fb fc : FE} {pos : Pos} {op op' : CmpOp} {f g : D → D → Option D} {r r' : R2}
theorem chn_out (h1 : OpM X.K cn r f) (h2 : OpM X.K cn r' g) : ∀ σ H Q, tM X.K cn E (chn2 f g fa fb fc) σ H Q → tChain r r' (tB X.K cn E fa) (tB X.K cn E fb) (tB X.K cn E fc) σ H Q := fun σ H Q h => by
  obtain ⟨W, ρ, S, st, en, q⟩ := tM_un h
  refine then_B (O := OutM X.K cn W H E Q) st en (fun _ _ _ z => z) (fun z => z) q fun d S1 W1 H1 v st1 k1 r1 q1 => ?_
  refine then_B (O := OutM X.K cn W H E Q) st1 (en.ext k1) (fun _ _ _ z => ErQ.pre z k1 st1) (fun z => z) q1 fun d2 S2 W2 H2 u st2 k2 r2 q2 => ?_
  change OutM X.K cn W H E Q (bd (lift (f d d2)) _ S2) at q2
  unfold bd at q2
  cases e1 : f d d2 with
  | none => rw [e1] at q2; exact q2.elim
  | some z =>
    rw [e1] at q2
    have k12 := k1.tr st1 k2
    refine h1 _ st2 (r1.ext k2) r2 e1 fun W3 H3 x st3 k3 rx => ?_
    cases z <;> first | exact (show False from q2).elim | skip
    rename_i kb
    cases rx
    refine ⟨kb, rfl, ?_⟩
    have k13 := k12.tr st2 k3
    cases kb with
    | false => exact q2 W3 H3 _ st3 k13 rfl
    | true =>
      refine then_B (O := OutM X.K cn W H E Q) st3 ((((en.ext k1).ext k2)).ext k3) (fun _ _ _ z => ErQ.pre z k13 st3) (fun z => z) q2 fun d4 S4 W4 H4 u4 st4 k4 r4 q4 => ?_
      obtain ⟨d', e', q5⟩ := lift_ok (β := D) (O := OutM X.K cn W H E Q) (fun z => z) q4
      exact h2 Q st4 ((r2.ext k3).ext k4) r4 e' fun W' H' x st' k' rx => q5 W' H' x st' ((k13.tr st3 k4).tr st4 k') rx
theorem me_chain (ho : OpR X (compareOp op) r) (ho' : OpR X (compareOp op') r') (h1 : OpM X.K cn r f) (h2 : OpM X.K cn r' g) (ha : PE X a (tB X.K cn E fa)) (hb : PE X b (tB X.K cn E fb)) (hc : PE X c (tB X.K cn E fc)) (hm : lastMarks [op, op'] [b, c] = false := by kernel_rfl) :
    PE X (.Compare a [op, op'] [b, c] pos) (tM X.K cn E (chn2 f g fa fb fc)) := pe_imp (pe_chain ho ho' ha hb hc hm) (chn_out h1 h2)
theorem mt_chain (ho : OpR X (compareOp op) r) (ho' : OpR X (compareOp op') r') (h1 : OpM X.K cn r f) (h2 : OpM X.K cn r' g) (ha : PE X a (tB X.K cn E fa)) (hb : PE X b (tB X.K cn E fb)) (hc : PE X c (tB X.K cn E fc)) (hm : lastMarks [op, op'] [b, c] = false := by kernel_rfl) :
    PT X (.Compare a [op, op'] [b, c] pos) (tT X.K cn E (valB (chn2 f g fa fb fc))) := pt_imp (pt_chain ho ho' ha hb hc hm) (val_out (chn_out h1 h2))
end
/-! ### names used by the printed texts (to be widened) -/
section
variable {X : Cx} {c : Cn}
theorem op_ltAll : OpR X (compareOp .Lt) (rI0 fun i j => .bl (decide (i < j))) := op_lt
theorem op_leAll : OpR X (compareOp .LtE) (rI0 fun i j => .bl (decide (i ≤ j))) := op_le
theorem op_gtAll : OpR X (compareOp .Gt) (rI0 fun i j => .bl (decide (j < i))) := op_gt
theorem op_geAll : OpR X (compareOp .GtE) (rI0 fun i j => .bl (decide (j ≤ i))) := op_ge
theorem m_ltAll : OpM X.K c (rI0 fun i j => .bl (decide (i < j))) dLt := m_lt
theorem m_leAll : OpM X.K c (rI0 fun i j => .bl (decide (i ≤ j))) dLe := m_le
theorem m_gtAll : OpM X.K c (rI0 fun i j => .bl (decide (j < i))) dGt := m_gt
theorem m_geAll : OpM X.K c (rI0 fun i j => .bl (decide (j ≤ i))) dGe := m_ge
end
def W0 : Nat := 2 ^ 4000
end Mini
namespace Mini
open PySem PySem.Spec PyProof.Rows L2 Evl

/-! ### small pieces -/
theorem passL {P : Program} {w : World} {X : Cx} (hP : P = X.prog := by rfl) (hw : w = X.w := by rfl) : Passes (L2.CX P w) X EF := fun pins σ H s e s' _ h => by
  obtain ⟨_, _, _, _, _, _, _, _, _, _, _, _, z⟩ := h
  exact z.elim
theorem Room.small {k : Nat} {A : Around} (r : Room k A) : A.units + 1 < cLine := by have := r.un; omega
theorem Room.u64 {k : Nat} {A : Around} (r : Room k A) : A.units + 66 < cLine := by have := r.un; omega
section
variable {X : Cx} {c : Cn} {E : XK} {a b e o tg : Expr} {es : List Expr} {fa fb fc : FE} {ga : FA} {x y : Str} {p pos apos cpos : Pos} {i : Nat}

/-! ### * -/
def dMulX : D → D → Option D
  | .int i, .int j => if i.natAbs.log2 + j.natAbs.log2 < 1000000 then some (.int (i * j)) else none
  | .lst xs, .int k => if k < 16777216 ∧ -16777216 < k ∧ xs.length * k.toNat ≤ 16777216 then some (.lst (List.replicate k.toNat xs).flatten) else none
  | _, _ => none
def dRep : D → D → Option D
  | .lst xs, .int k => if k < 16777216 ∧ -16777216 < k ∧ xs.length * k.toNat ≤ 16777216 then some (.lst (List.replicate k.toNat xs).flatten) else none
  | _, _ => none
theorem repL_rep {K : PySem.W.Frag} {W : Wd} {xs : List D} {vs : List V} (r : RepL K c W xs vs) : ∀ n : Nat, RepL K c W (List.replicate n xs).flatten (List.replicate n vs).flatten
  | 0 => rfl
  | n + 1 => by
    rw [List.replicate_succ, List.replicate_succ, List.flatten_cons, List.flatten_cons]
    exact repL_append r (repL_rep r n)
theorem op_mulAll : OpR X (binaryOp .Mult) (fun x y H Q => rI CMulW (fun i j => .int (i * j)) x y H Q ∨ rRep x y H Q) := op_mulW.or op_rep
theorem m_mulAll : OpM X.K c (fun x y H Q => rI CMulW (fun i j => .int (i * j)) x y H Q ∨ rRep x y H Q) dMulX := fun {W H S d e d' v u} Q st a b q k => by
  cases d <;> cases e <;> first | (cases q; done) | skip
  · exact .inl (m_mul (X := X) (c := c) Q st a b q k)
  · simp only [dMulX] at q
    split at q
    · rename_i xs i hl
      cases q
      obtain ⟨p, vs, rfl, h1, r1⟩ := a.lst st
      exact .inr ⟨p, i, vs, rfl, b.int, h1, by omega, by omega, line_le (by rw [RepL.length r1]; exact hl.2.2), fun l hn => k _ _ _ (lay_st st hn) (lay_keep st hn) (new_lst st hn (repL_rep r1 _))⟩
    · cases q
theorem o_rep : OpO X.K c rRep dRep := fun {W H S d e d' v u} Q st a b q k => by
  cases d <;> cases e <;> first | (cases q; done) | skip
  simp only [dRep] at q
  split at q
  · rename_i xs i hl
    cases q
    obtain ⟨p, vs, rfl, h1, r1⟩ := a.lst st
    exact ⟨p, i, vs, rfl, b.int, h1, by omega, by omega, line_le (by rw [RepL.length r1]; exact hl.2.2), fun l hn => k _ _ _ (new_st st hn) (new_keep st hn) (new_own st hn (repL_rep r1 _))⟩
  · cases q

/-! ### shifts, bits -/
def dShl : D → D → Option D
  | .int i, .int j => if 0 ≤ j ∧ j < 1000 ∧ i.natAbs.log2 < 900000 then some (.int (i * 2 ^ j.toNat)) else none
  | _, _ => none
def dShr : D → D → Option D
  | .int i, .int j => if 0 ≤ j then some (.int (i / 2 ^ j.toNat)) else none
  | _, _ => none
def dBand : D → D → Option D
  | .int i, .int j => some (.int (Builtin.bitAnd i j))
  | _, _ => none
def dBor : D → D → Option D
  | .int i, .int j => some (.int (Builtin.bitOr i j))
  | _, _ => none

/-! ### keys -/
def keyD : D → Option Key
  | .int i => some (.inl i)
  | .str s => some (.inr s)
  | _ => none
def keysL : List D → Option (List Key)
  | [] => some []
  | d :: ds => (keyD d).bind fun k => (keysL ds).map fun ks => k :: ks
theorem key_rep {K : PySem.W.Frag} {W : Wd} {H : Hp} {d : D} {k : Key} {v : V} (r : RepB K c W H d v) (h : keyD d = some k) : v = kV k := by
  cases d <;> first | (cases h; done) | skip
  · cases h; exact r.int
  · cases h; exact r.str.1
theorem key_rep' {K : PySem.W.Frag} {W : Wd} {d : D} {k : Key} {v : V} (r : Rep K c W d v) (h : keyD d = some k) : v = kV k := by
  cases d <;> first | (cases h; done) | skip
  · cases h; exact r
  · cases h; exact r.1
theorem keys_rep {K : PySem.W.Frag} {W : Wd} : ∀ {ds : List D} {ks : List Key} {vs : List V}, RepL K c W ds vs → keysL ds = some ks → vs = ks.map kV
  | [], ks, vs, r, h => by cases h; exact r
  | d :: ds, ks, vs, r, h => by
    obtain ⟨v, r', rfl, r1, r2⟩ := r
    simp only [keysL, Option.bind_eq_some_iff, Option.map_eq_some_iff] at h
    obtain ⟨k, h1, ks', h2, rfl⟩ := h
    rw [List.map_cons, key_rep' r1 h1, keys_rep r2 h2]
section
variable {κ : Type} [DecidableEq κ]
def valD (es : List (κ × D)) (k : κ) : Option D := (es.find? fun e => decide (e.1 = k)).map (·.2)
def putD (es : List (κ × D)) (k : κ) (d : D) : List (κ × D) := if (es.any fun e => decide (e.1 = k)) = true then es.map (fun e => if e.1 = k then (e.1, d) else e) else es ++ [(k, d)]
end
section
variable {K : PySem.W.Frag} {W : Wd} {H : Hp} {S : DS}
theorem RepB.dic {es : List (Key × D)} {v : V} (st : StOk K c W H S) (r : RepB K c W H (.dic es) v) : ∃ a kvs, v = .ref a ∧ H a = some (.dK kvs) ∧ RepE K c W es kvs := by
  rcases r with ⟨a, vs, h1, h2, h3⟩ | ⟨a, h1, _, vs, h2, h3⟩
  · exact ⟨a, vs, h1, st.sub _ _ h2, h3⟩
  · exact ⟨a, vs, h1, h2, h3⟩
theorem RepB.dit {es : List (List Key × D)} {v : V} (st : StOk K c W H S) (r : RepB K c W H (.dit es) v) : ∃ a kvs, v = .ref a ∧ H a = some (.dT kvs) ∧ RepT K c W es kvs := by
  rcases r with ⟨a, vs, h1, h2, h3⟩ | ⟨a, h1, _, vs, h2, h3⟩
  · exact ⟨a, vs, h1, st.sub _ _ h2, h3⟩
  · exact ⟨a, vs, h1, h2, h3⟩
theorem repP {p : Key × D} {v : V} (h : RepP K c W p v) : Rep K c W p.2 v := by cases p; exact h
theorem repQ {p : List Key × D} {v : V} (h : RepQ K c W p v) : Rep K c W p.2 v := by cases p; exact h
theorem repP' {k : Key} {d : D} {v : V} (h : Rep K c W d v) : RepP K c W (k, d) v := h
/-- both looks go alike -/
def RepOp (K : PySem.W.Frag) (c : Cn) (W : Wd) : Option D → Option V → Prop
  | none, none => True
  | some d, some v => Rep K c W d v
  | _, _ => False
theorem valD_rep : ∀ {es : List (Key × D)} {kvs : List (Key × V)} (k : Key), RepE K c W es kvs → RepOp K c W (valD es k) (valV kvs k)
  | [], kvs, k, r => by cases r; exact True.intro
  | p :: es, kvs, k, r => by
    obtain ⟨v, r', rfl, r1, r2⟩ := r
    by_cases e : p.1 = k
    · have e1 : valD (p :: es) k = some p.2 := by simp [valD, List.find?_cons, e]
      rw [e1, valV_pos (p := (p.1, v)) e]
      exact repP r1
    · have e1 : valD (p :: es) k = valD es k := by simp [valD, List.find?_cons, e]
      rw [e1, valV_neg (p := (p.1, v)) e]
      exact valD_rep k r2
theorem valT_rep : ∀ {es : List (List Key × D)} {kvs : List (List Key × V)} (k : List Key), RepT K c W es kvs → RepOp K c W (valD es k) (valV kvs k)
  | [], kvs, k, r => by cases r; exact True.intro
  | p :: es, kvs, k, r => by
    obtain ⟨v, r', rfl, r1, r2⟩ := r
    by_cases e : p.1 = k
    · have e1 : valD (p :: es) k = some p.2 := by simp [valD, List.find?_cons, e]
      rw [e1, valV_pos (p := (p.1, v)) e]
      exact repQ r1
    · have e1 : valD (p :: es) k = valD es k := by simp [valD, List.find?_cons, e]
      rw [e1, valV_neg (p := (p.1, v)) e]
      exact valT_rep k r2
theorem anyD_rep : ∀ {es : List (Key × D)} {kvs : List (Key × V)} (k : Key), RepE K c W es kvs → (es.any fun e => decide (e.1 = k)) = (kvs.any fun e => decide (e.1 = k))
  | [], kvs, k, r => by cases r; rfl
  | p :: es, kvs, k, r => by
    obtain ⟨v, r', rfl, r1, r2⟩ := r
    rw [List.any_cons, List.any_cons, anyD_rep k r2]
theorem anyT_rep : ∀ {es : List (List Key × D)} {kvs : List (List Key × V)} (k : List Key), RepT K c W es kvs → (es.any fun e => decide (e.1 = k)) = (kvs.any fun e => decide (e.1 = k))
  | [], kvs, k, r => by cases r; rfl
  | p :: es, kvs, k, r => by
    obtain ⟨v, r', rfl, r1, r2⟩ := r
    rw [List.any_cons, List.any_cons, anyT_rep k r2]
theorem repE_append : ∀ {es fs : List (Key × D)} {ks us : List (Key × V)}, RepE K c W es ks → RepE K c W fs us → RepE K c W (es ++ fs) (ks ++ us)
  | [], fs, ks, us, r, q => by cases r; exact q
  | p :: es, fs, ks, us, r, q => by
    obtain ⟨v, r', rfl, r1, r2⟩ := r
    exact ⟨v, _, rfl, r1, repE_append r2 q⟩
theorem repT_append : ∀ {es fs : List (List Key × D)} {ks us : List (List Key × V)}, RepT K c W es ks → RepT K c W fs us → RepT K c W (es ++ fs) (ks ++ us)
  | [], fs, ks, us, r, q => by cases r; exact q
  | p :: es, fs, ks, us, r, q => by
    obtain ⟨v, r', rfl, r1, r2⟩ := r
    exact ⟨v, _, rfl, r1, repT_append r2 q⟩
theorem repE_map {k : Key} {d : D} {v : V} (h : Rep K c W d v) : ∀ {es : List (Key × D)} {ks : List (Key × V)}, RepE K c W es ks → RepE K c W (es.map fun e => if e.1 = k then (e.1, d) else e) (ks.map fun e => if e.1 = k then (e.1, v) else e)
  | [], ks, r => by cases r; rfl
  | p :: es, ks, r => by
    obtain ⟨u, r', rfl, r1, r2⟩ := r
    rw [List.map_cons, List.map_cons]
    by_cases e : p.1 = k
    · rw [if_pos e, if_pos e]
      exact ⟨v, _, rfl, h, repE_map h r2⟩
    · rw [if_neg e, if_neg e]
      exact ⟨u, _, rfl, r1, repE_map h r2⟩
theorem repT_map {k : List Key} {d : D} {v : V} (h : Rep K c W d v) : ∀ {es : List (List Key × D)} {ks : List (List Key × V)}, RepT K c W es ks → RepT K c W (es.map fun e => if e.1 = k then (e.1, d) else e) (ks.map fun e => if e.1 = k then (e.1, v) else e)
  | [], ks, r => by cases r; rfl
  | p :: es, ks, r => by
    obtain ⟨u, r', rfl, r1, r2⟩ := r
    rw [List.map_cons, List.map_cons]
    by_cases e : p.1 = k
    · rw [if_pos e, if_pos e]
      exact ⟨v, _, rfl, h, repT_map h r2⟩
    · rw [if_neg e, if_neg e]
      exact ⟨u, _, rfl, r1, repT_map h r2⟩
theorem putE_rep {es : List (Key × D)} {kvs : List (Key × V)} {k : Key} {d : D} {v : V} (r : RepE K c W es kvs) (h : Rep K c W d v) : RepE K c W (putD es k d) (putK kvs k v) := by
  unfold putD putK
  rw [anyD_rep k r]
  split
  · exact repE_map h r
  · exact repE_append r ⟨v, [], rfl, h, rfl⟩
theorem putT_rep {es : List (List Key × D)} {kvs : List (List Key × V)} {k : List Key} {d : D} {v : V} (r : RepT K c W es kvs) (h : Rep K c W d v) : RepT K c W (putD es k d) (putK kvs k v) := by
  unfold putD putK
  rw [anyT_rep k r]
  split
  · exact repT_map h r
  · exact repT_append r ⟨v, [], rfl, h, rfl⟩
theorem repE_len : ∀ {es : List (Key × D)} {kvs : List (Key × V)}, RepE K c W es kvs → kvs.length = es.length
  | [], kvs, r => by cases r; rfl
  | p :: es, kvs, r => by
    obtain ⟨v, r', rfl, r1, r2⟩ := r
    rw [List.length_cons, List.length_cons, repE_len r2]
theorem repT_len : ∀ {es : List (List Key × D)} {kvs : List (List Key × V)}, RepT K c W es kvs → kvs.length = es.length
  | [], kvs, r => by cases r; rfl
  | p :: es, kvs, r => by
    obtain ⟨v, r', rfl, r1, r2⟩ := r
    rw [List.length_cons, List.length_cons, repT_len r2]
/-- what a dict holds at a key -/
def dGetO : D → D → Option (Option D)
  | .dic es, k => (keyD k).map fun k => valD es k
  | .dit es, .tup ds => (keysL ds).map fun ks => valD es ks
  | _, _ => none
theorem dget_rep {d k : D} {o : Option D} {v u : V} (st : StOk K c W H S) (r : RepB K c W H d v) (rk : RepB K c W H k u) (h : dGetO d k = some o) : ∃ a ov, v = .ref a ∧ IsD H a ∧ DGet H a u ov ∧ RepOp K c W o ov := by
  cases d <;> first | (cases h; done) | skip
  · simp only [dGetO, Option.map_eq_some_iff] at h
    obtain ⟨kk, h1, rfl⟩ := h
    obtain ⟨a, kvs, rfl, h2, h3⟩ := r.dic st
    have e := key_rep rk h1
    subst e
    exact ⟨a, _, rfl, .inl ⟨kvs, .inl h2⟩, DGet.k h2, valD_rep kk h3⟩
  · cases k <;> first | (cases h; done) | skip
    simp only [dGetO, Option.map_eq_some_iff] at h
    obtain ⟨kk, h1, rfl⟩ := h
    obtain ⟨a, kvs, rfl, h2, h3⟩ := r.dit st
    obtain ⟨b, vs, rfl, h4, _, h5⟩ := rk.tup st
    have e := keys_rep h5 h1
    subst e
    exact ⟨a, _, rfl, .inr ⟨kvs, .inl h2⟩, DGet.t h2 h4, valT_rep kk h3⟩
theorem RepOp.some_of {d : D} {ov : Option V} (h : RepOp K c W (some d) ov) : ∃ v, ov = some v ∧ Rep K c W d v := by
  cases ov with
  | none => exact h.elim
  | some v => exact ⟨v, rfl, h⟩
theorem RepOp.getD {o : Option D} {ov : Option V} {d : D} {v : V} (h : RepOp K c W o ov) (r : Rep K c W d v) : Rep K c W (o.getD d) (ov.getD v) := by
  cases o <;> cases ov <;> first | exact h.elim | skip
  · exact r
  · exact h
theorem RepOp.isSome {o : Option D} {ov : Option V} (h : RepOp K c W o ov) : ov.isSome = o.isSome := by
  cases o <;> cases ov <;> first | exact h.elim | rfl
end
/-! ### subscripts: sequences and dicts -/
def rIxG : R2 := fun x y H Q => ∃ a v, x = .ref a ∧ DGet H a y (some v) ∧ Q v H
theorem ix_dict {k : Nat} (hr : Room k X.A) : IxR X rIxG := by
  intro value slice pins s σ H x y v u Q I rx ry h hs
  obtain ⟨a, r, rfl, g, q⟩ := h
  obtain rfl : v = Value.ref a := rx
  exact tail_any (dict_typeIs I g) slot_dict_getitem.lookup (d_getItem (Room.small hr) I g ry fun w' s' I' rw' => ⟨r, H, I', rw', q⟩) hs
theorem ix_all {k : Nat} (hr : Room k X.A) : IxR X (fun x y H Q => rIx X.K x y H Q ∨ rIxG x y H Q) := ix_seq.or (ix_dict hr)
def dIxA : D → D → Option D
  | .dic es, k => (dGetO (.dic es) k).bind id
  | .dit es, k => (dGetO (.dit es) k).bind id
  | d, k => dIx d k
theorem m_ixD {W : Wd} {H : Hp} {S : DS} {d e d' : D} {v u : V} (Q : VK) (st : StOk X.K c W H S) (a : RepB X.K c W H d v) (b : RepB X.K c W H e u) (q : (dGetO d e).bind id = some d') (k : ∀ W' H' x, StOk X.K c W' H' S → Keep W H W' H' → Rep X.K c W' d' x → Q x H') : rIxG v u H Q := by
  cases h : dGetO d e with
  | none => rw [h] at q; cases q
  | some o =>
    rw [h] at q
    have q' : o = some d' := q
    subst q'
    obtain ⟨p, ov, rfl, _, g, r⟩ := dget_rep st a b h
    obtain ⟨w, rfl, rw'⟩ := r.some_of
    exact ⟨p, w, rfl, g, k W H w st (Keep.refl W H) rw'⟩
theorem m_ixAll : OpM X.K c (fun x y H Q => rIx X.K x y H Q ∨ rIxG x y H Q) dIxA := fun {W H S d e d' v u} Q st a b q k => by
  cases d
  case dic es => exact .inr (m_ixD Q st a b q k)
  case dit es => exact .inr (m_ixD Q st a b q k)
  all_goals exact .inl (m_ix (X := X) (c := c) Q st a b q k)

/-! ### name op= e -/
theorem ms_aug0 {f : D → D → Option D} {op : Operator} {r : R2} {pos' : Pos} (ho : OpR X (inplaceOp op) r) (hr : OpM X.K c r f) (hN : X.N.Nodup) (hi : X.N[i]? = some x) (hx : Loc X.env.scope x) (he : PE X e (tM X.K c E fa)) (hf : X.fn x = true ∨ X.env.scope.names.lookup x = some .local) :
    PS X (.AugAssign (.Name x pos') op e pos) (tS X.K c E (augS f i fa)) := ps_imp (ps_aug (ti := r) hN hi hx he ho hf) fun D σ H q => by
  obtain ⟨W, ρ, S, st, en, q⟩ := q
  unfold augS bd at q
  cases e1 : slot ρ i with
  | none => rw [e1] at q; exact q.elim
  | some d =>
    rw [e1] at q
    obtain ⟨v, h1, h2⟩ := en.vl i d (slot_some e1)
    refine ⟨v, h1, thenS_M st en q fun d2 S' W' H' u st' en' k r2 q' => ?_⟩
    unfold bd at q'
    cases e2 : f d d2 with
    | none => rw [e2] at q'; exact q'.elim
    | some d3 =>
      rw [e2] at q'
      refine hr _ st' (.inl (Rep.ext k.wex d v h2)) (.inl r2) e2 fun W2 H2 z st2 k2 r3 => ?_
      exact q' W2 H2 _ st2 ((en'.ext k2).setV r3 i) ⟨(k2.toS st2), fun b z => .inr (owned_setV z)⟩
theorem ms_augL {f : D → D → Option D} {op : Operator} {r : R2} {pos' : Pos} (ho : OpR X (inplaceOp op) r) (hr : OpM X.K c r f) (hN : X.N.Nodup) (he : PE X e (tM X.K c E fa)) (hi : X.N[i]? = some x := by kernel_rfl) (hx : X.env.scope.names.lookup x = some .local := by kernel_rfl) :
    PS X (.AugAssign (.Name x pos') op e pos) (tS X.K c E (augS f i fa)) := ms_aug0 ho hr hN hi (.inl hx) he (.inr hx)
theorem ms_augC {f : D → D → Option D} {op : Operator} {r : R2} {pos' : Pos} (ho : OpR X (inplaceOp op) r) (hr : OpM X.K c r f) (hN : X.N.Nodup) (he : PE X e (tM X.K c E fa)) (hi : X.N[i]? = some x := by kernel_rfl) (hx : X.env.scope.names.lookup x = some .cell := by kernel_rfl) (hf : X.fn x = true := by kernel_rfl) :
    PS X (.AugAssign (.Name x pos') op e pos) (tS X.K c E (augS f i fa)) := ms_aug0 ho hr hN hi (.inr hx) he (.inl hf)
theorem iop_mulW : OpR X (inplaceOp .Mult) (rI CMulW fun i j => .int (i * j)) := opI fun _ _ _ _ _ _ _ hc q => imul_int q hc.ok
def dAddI : D → D → Option D
  | .int i, .int j => some (.int (i + j))
  | .str a, .str b => if a.length + b.length ≤ 16777216 then some (.str (a ++ b)) else none
  | _, _ => none
theorem iop_addAll : OpR X (inplaceOp .Add) (fun x y H Q => rI0 (fun i j => .int (i + j)) x y H Q ∨ (fun x y H Q => ∃ i j, x = .str i ∧ y = .str j ∧ i.length + j.length ≤ sizeLine ∧ Q (.str (i ++ j)) H) x y H Q) := iop_add.or iop_add_str
theorem i_add : OpM X.K c (fun x y H Q => rI0 (fun i j => .int (i + j)) x y H Q ∨ (fun x y H Q => ∃ i j, x = .str i ∧ y = .str j ∧ i.length + j.length ≤ sizeLine ∧ Q (.str (i ++ j)) H) x y H Q) dAddI := fun {W H S d e d' v u} Q st a b q k => by
  cases d <;> cases e <;> first | (cases q; done) | skip
  · cases q
    exact .inl ⟨_, _, a.int, b.int, k W H _ st (Keep.refl W H) rfl⟩
  · simp only [dAddI] at q
    split at q
    · rename_i hl
      cases q
      obtain ⟨rfl, h1⟩ := a.str
      obtain ⟨rfl, h2⟩ := b.str
      exact .inr ⟨_, _, rfl, rfl, line_le hl, k W H _ st (Keep.refl W H) ⟨rfl, sok_add h1 h2 hl⟩⟩
    · cases q
end
end Mini
namespace Mini
open PySem PySem.Spec PyProof.Rows L2 Evl

/-! ### methods of built-ins -/
structure Mb (X : Cx) (o : Expr) (name : Str) (e : Expr) (es : List Expr) (apos cpos : Pos) : Prop where
  base : attributeBase o name X.env (eval o X.env) = eval o X.env
  few : ((backTo cpos (starEach (e :: es) X.env)).all (fun x => !x.1) && (backToKw cpos (keywordEach [] X.env)).all (fun x => x.1.isSome)
      && decide ((e :: es).length + ([] : List Keyword).length + (if ([] : List Keyword).isEmpty then 0 else 1) < 30)) = true
  line : (apos.endLine == cpos.line) = true
  st : starEach (e :: es) X.env = (false, eval e X.env) :: starEach es X.env
  pl : (backTo cpos (starEach es X.env)).any (·.1) = false
section
variable {X : Cx} {c : Cn} {E : XK} {a b e o tg : Expr} {es : List Expr} {fa fb fc : FE} {ga : FA} {x y : Str} {p pos apos cpos pa : Pos} {i : Nat}
theorem pe_bm' {T id : String} {name : Str} {r : V → List V → Hp → VK → Prop} {to : TE} {t : TA} (pt : PlainAttrs T) (slot : PySem.Slot T name id) (hty : typeOf (.builtin id) = pure (.type "method_descriptor")) (hm : MtR X id r) (ho : PE X o to) (ha : PA X (e :: es) t) (m : Mb X o name e es apos cpos) :
    PE X (.Call (.Attribute o name apos) (e :: es) [] cpos) (tBM X.K T r to t) := pe_bm pt slot hty hm ho ha m.base m.few m.line m.st m.pl
theorem Mb.one {name : Str} (m : Mb X o name e [] apos cpos) : starEach [e] X.env = (false, eval e X.env) :: starEach [] X.env := m.st
/-- x.append(e) -/
theorem ms_app1 (ha : PE X a (tM X.K c E fa)) (hN : X.N[i]? = some x) (hv : Vis X.env.scope x) (hd : (x == ("__debug__" : Str)) = false) (hcd : (x == ("__classdict__" : Str)) = false) (m : Mb X (.Name x pa) "append" a [] apos p)
    (hs : swapsWith (.Call (.Attribute (.Name x pa) "append" apos) [a] [] p) none pos.line X.env = pure false) : PS X (.Expr (.Call (.Attribute (.Name x pa) "append" apos) [a] [] p) pos) (tS X.K c E (appS i fa)) :=
  ms_app hN hv ha (fun te h => pe_bm' PySem.F.plainAttrs_list PySem.F.slot_list_append PySem.F.type_list_append mt_append (pe_var hN hv hd hcd) (pa_cons h pa_nil m.one) m) hs
theorem ms_appL (ha : PE X a (tM X.K c E fa)) (hN : X.N[i]? = some x := by kernel_rfl) (hv : X.env.scope.names.lookup x = some .local := by kernel_rfl) (hd : (x == ("__debug__" : Str)) = false := by kernel_rfl) (hcd : (x == ("__classdict__" : Str)) = false := by kernel_rfl)
    (m : Mb X (.Name x pa) "append" a [] apos p := by exact ⟨by kernel_rfl, by kernel_rfl, by kernel_rfl, by kernel_rfl, by kernel_rfl⟩) (hs : swapsWith (.Call (.Attribute (.Name x pa) "append" apos) [a] [] p) none pos.line X.env = pure false := by kernel_rfl) : PS X (.Expr (.Call (.Attribute (.Name x pa) "append" apos) [a] [] p) pos) (tS X.K c E (appS i fa)) := ms_app1 ha hN (.inl hv) hd hcd m hs
theorem ms_appC (ha : PE X a (tM X.K c E fa)) (hN : X.N[i]? = some x := by kernel_rfl) (hv : X.env.scope.names.lookup x = some .cell := by kernel_rfl) (hd : (x == ("__debug__" : Str)) = false := by kernel_rfl) (hcd : (x == ("__classdict__" : Str)) = false := by kernel_rfl)
    (m : Mb X (.Name x pa) "append" a [] apos p := by exact ⟨by kernel_rfl, by kernel_rfl, by kernel_rfl, by kernel_rfl, by kernel_rfl⟩) (hs : swapsWith (.Call (.Attribute (.Name x pa) "append" apos) [a] [] p) none pos.line X.env = pure false := by kernel_rfl) : PS X (.Expr (.Call (.Attribute (.Name x pa) "append" apos) [a] [] p) pos) (tS X.K c E (appS i fa)) := ms_app1 ha hN (.inr (.inl hv)) hd hcd m hs
/-- an expression whose content is read, ahead of a statement's end -/
theorem thenS_B {K : PySem.W.Frag} {W : Wd} {H : Hp} {S : DS} {σ : L2.St} {ρ : En} {f : FE} {g : D → M Fl} {Q : VK} {D' : Ends} (st : StOk K c W H S) (en : EnvOk K c W H σ ρ) (h : OutS K c W H σ ρ E D' (bd (f ρ) g S))
    (k : ∀ d S' W' H' v, StOk K c W' H' S' → EnvOk K c W' H' σ ρ → Step W H σ ρ W' H' σ ρ → RepB K c W' H' d v → OutS K c W' H' σ ρ E D' (g d S') → Q v H') : tB K c E f σ H Q :=
  then_B (O := OutS K c W H σ ρ E D') st en (fun _ _ _ z => ErS.q z) (fun z => z) h fun d S1 W1 H1 v st1 k1 r1 q1 =>
    k d S1 W1 H1 v st1 (en.ext k1) (k1.toStep st1) r1 (OutS.pre q1 (k1.toStep st1))
/-- x.extend(e), e a list -/
def extS (i : Nat) (f : FE) : FS := fun ρ => bd (lift (ownL ρ i)) fun ds => bd (f ρ) fun d => match d with
  | .lst es => if ds.length + es.length ≤ 16777216 then rt (.nx (setO i (.lst (ds ++ es)) ρ)) else no
  | _ => no
theorem ms_ext1 (ha : PE X a (tB X.K c E fa)) (hN : X.N[i]? = some x) (hv : Vis X.env.scope x) (hd : (x == ("__debug__" : Str)) = false) (hcd : (x == ("__classdict__" : Str)) = false) (m : Mb X (.Name x pa) "extend" a [] apos p)
    (hs : swapsWith (.Call (.Attribute (.Name x pa) "extend" apos) [a] [] p) none pos.line X.env = pure false) : PS X (.Expr (.Call (.Attribute (.Name x pa) "extend" apos) [a] [] p) pos) (tS X.K c E (extS i fa)) :=
  ps_imp (ps_expr (pe_bm' (T := "list") PySem.F.plainAttrs_list PySem.F.slot_list_extend PySem.F.type_list_extend mt_extend (pe_var hN hv hd hcd) (pa_cons ha pa_nil m.one) m) hs) fun D' σ H q => by
    obtain ⟨W, ρ, S, st, en, q⟩ := q
    unfold extS bd at q
    cases e1 : ownL ρ i with
    | none => rw [e1] at q; exact q.elim
    | some ds =>
      rw [e1] at q
      have hi := ownL_some e1
      obtain ⟨ad, h1, h2, h3, vs, h4, h5⟩ := en.ow i _ hi
      refine ⟨_, h1, .inl ⟨rfl, _, .inl (.inl h4)⟩, ?_⟩
      refine thenS_B st en q fun d S' W' H' v st' en' k r q' => ?_
      obtain ⟨ad2, h1', h2', h3', vs', h4', h5'⟩ := en'.ow i _ hi
      rw [h1] at h1'
      cases h1'
      cases d <;> first | exact (show False from q').elim | skip
      rename_i es'
      obtain ⟨b, us, rfl, hb, r2⟩ := r.lst st'
      dsimp only at q'
      split at q'
      · rename_i hlen
        obtain ⟨s5, e5, p5⟩ := own_write (o := .lst (vs' ++ us)) (d' := .lst (ds ++ es')) st' en' hi h1 ⟨_, upd_same, repL_append h5' r2⟩
        exact ⟨ad, b, vs', us, rfl, rfl, h4', hb, line_le (by rw [RepL.length h5', RepL.length r2]; exact hlen), q' W' _ σ s5 e5 p5⟩
      · exact q'.elim
theorem ms_extL (ha : PE X a (tB X.K c E fa)) (hN : X.N[i]? = some x := by kernel_rfl) (hv : X.env.scope.names.lookup x = some .local := by kernel_rfl) (hd : (x == ("__debug__" : Str)) = false := by kernel_rfl) (hcd : (x == ("__classdict__" : Str)) = false := by kernel_rfl)
    (m : Mb X (.Name x pa) "extend" a [] apos p := by exact ⟨by kernel_rfl, by kernel_rfl, by kernel_rfl, by kernel_rfl, by kernel_rfl⟩) (hs : swapsWith (.Call (.Attribute (.Name x pa) "extend" apos) [a] [] p) none pos.line X.env = pure false := by kernel_rfl) : PS X (.Expr (.Call (.Attribute (.Name x pa) "extend" apos) [a] [] p) pos) (tS X.K c E (extS i fa)) := ms_ext1 ha hN (.inl hv) hd hcd m hs
theorem ms_extC (ha : PE X a (tB X.K c E fa)) (hN : X.N[i]? = some x := by kernel_rfl) (hv : X.env.scope.names.lookup x = some .cell := by kernel_rfl) (hd : (x == ("__debug__" : Str)) = false := by kernel_rfl) (hcd : (x == ("__classdict__" : Str)) = false := by kernel_rfl)
    (m : Mb X (.Name x pa) "extend" a [] apos p := by exact ⟨by kernel_rfl, by kernel_rfl, by kernel_rfl, by kernel_rfl, by kernel_rfl⟩) (hs : swapsWith (.Call (.Attribute (.Name x pa) "extend" apos) [a] [] p) none pos.line X.env = pure false := by kernel_rfl) : PS X (.Expr (.Call (.Attribute (.Name x pa) "extend" apos) [a] [] p) pos) (tS X.K c E (extS i fa)) := ms_ext1 ha hN (.inr (.inl hv)) hd hcd m hs
/-! ### exact tuples: made by tuple(list) -/
def dTupX : D → Option D
  | .lst ds => some (.tpx ds)
  | _ => none
theorem call_tupX : CallR X (.type "tuple") (fun xs H Q => ∃ p ys, xs = [.ref p] ∧ SqL X.K H p ys ∧ ∀ l o, o.dict = none → H l = none → Q (.ref l) (upd H l (.frz o (.tup ys)))) := by
  intro pins s σ H xs us Q I r h
  obtain ⟨p, ys, rfl, hq, q⟩ := h
  obtain rfl := Vals.ref1 r
  obtain ⟨its, rv, pl, hz⟩ := I.list hq
  have hlen := rv.length
  refine call_tuple_list pl.isList (fun h2 kp => ?_) (by simp only [List.size_toArray] <;> omega)
  have J : Inv X pins σ H { s with heap := h2 } := I.kept (t' := s.toks) kp
  have hn := J.hok.fresh (Nat.le_refl _)
  exact ⟨.ref h2.objs.size, _, J.laid (o := .frz { cls := .type "tuple", data := .seq its.toArray } (.tup ys)) (t' := s.toks) (fun b o e => Heap.get?_push_of_some _ e) (Nat.le_refl _) ⟨Heap.get?_push_size _ rfl, hz, its, rv, IsTup.new _ _⟩, rfl, q _ _ rfl hn⟩
theorem u_tupX : UnM X.K c (fun xs H Q => ∃ p ys, xs = [.ref p] ∧ SqL X.K H p ys ∧ ∀ l o, o.dict = none → H l = none → Q (.ref l) (upd H l (.frz o (.tup ys)))) dTupX := fun {W H S d d' v} Q st a q k => by
  cases d <;> first | (cases q; done) | skip
  cases q
  obtain ⟨p, vs, rfl, h1, r1⟩ := a.lst st
  exact ⟨p, vs, rfl, SqL.of h1, fun l o ho hl => k _ _ _ (lay_st st hl) (lay_keep st hl) ⟨l, vs, o, rfl, upd_same, ho, RepL.ext (frz_ex (fresh_back st.sub hl)) _ vs r1⟩⟩
/-! ### sum -/
def rSumAll (K : PySem.W.Frag) : R1 := fun xs H Q => ∃ (a : Addr) (ns : List Int), xs = [V.ref a] ∧ (SqL K H a (ns.map V.int) ∨ SqT K H a (ns.map V.int)) ∧ Q (.int ns.sum) H
theorem cr_sumAll (hc : X.calm = true) : CallR X (.builtin "sum") (rSumAll X.K) := by
  intro pins s σ H vs us Q I r h
  obtain ⟨a, ns, rfl, hs, q⟩ := h
  rcases hs with hs | hs
  · exact cr_sum hc pins s σ H _ us Q I r ⟨a, ns, rfl, hs, q⟩
  · obtain ⟨its, rv, ht, hz⟩ := I.tuple hs
    rw [Vals.ref1 r]
    have hi := rv.ints
    obtain ⟨xs, e⟩ := hi.allInts.items
    have hn : numsOf (intItems xs).toList = ns := by rw [← e]; exact hi.numsOf
    rw [nums_intItems] at hn
    have ht' : s.heap.IsTuple a (intItems xs) := by rw [← e]; exact ht
    refine PySem.W.ktm_sumG (I.ok.hd hc) ht' fun h' tk t' hk => ?_
    refine ⟨.int ns.sum, H, I.kept hk, ⟨t', ?_⟩, q⟩
    rw [preSum_eq, List.take_of_length_le (by simp), hn]
def dSumA : D → Option D
  | .lst ds => (intsOf ds).map fun ns => .int ns.sum
  | .tup ds => (intsOf ds).map fun ns => .int ns.sum
  | .tpx ds => (intsOf ds).map fun ns => .int ns.sum
  | _ => none
theorem u_sumA : UnM X.K c (rSumAll X.K) dSumA := fun {W H S d d' v} Q st a q k => by
  cases d <;> first | (cases q; done) | skip
  all_goals
    obtain ⟨ns, e2, rfl⟩ := Option.map_eq_some_iff.mp q
  · obtain ⟨p, vs, rfl, h1, _, r1⟩ := a.tup st
    have e3 := ints_rep e2 r1
    subst e3
    exact ⟨p, ns, rfl, .inr (SqT.of h1), k W H _ st (Keep.refl W H) rfl⟩
  · obtain ⟨p, vs, rfl, h1, r1⟩ := a.tpx st
    have e3 := ints_rep e2 r1
    subst e3
    exact ⟨p, ns, rfl, .inr h1, k W H _ st (Keep.refl W H) rfl⟩
  · obtain ⟨p, vs, rfl, h1, r1⟩ := a.lst st
    have e3 := ints_rep e2 r1
    subst e3
    exact ⟨p, ns, rfl, .inl (SqL.of h1), k W H _ st (Keep.refl W H) rfl⟩
/-! ### repr -/
def rRepr (K : PySem.W.Frag) : R1 := fun xs H Q => ∃ v d, xs = [v] ∧ Dp K H v d ∧ d.showable = true ∧ d.depth ≤ 64 ∧ d.shown.length ≤ sizeLine ∧ Q (.str d.shown) H
theorem dp_noDict {K : PySem.W.Frag} {H : Hp} : ∀ {d : PyData} {v : V}, Dp K H v d → d.hasDict = false
  | .none, v, h => by simp only [PyData.hasDict]
  | .bool b, v, h => by simp only [PyData.hasDict]
  | .int i, v, h => by simp only [PyData.hasDict]
  | .str x, v, h => by simp only [PyData.hasDict]
  | .list ds, v, h => by
    cases h with
    | lst hs ha =>
      simp only [PyData.hasDict]
      exact dp_noDictL ha
  | .tuple ds, v, h => by
    cases h with
    | tup hs ha =>
      simp only [PyData.hasDict]
      exact dp_noDictL ha
  | .dict kvs, v, h => by cases h
where
  dp_noDictL {K : PySem.W.Frag} {H : Hp} : ∀ {ds : List PyData} {vs : List V}, DpAll K H vs ds → PyData.hasDictAll ds = false
  | [], vs, h => by simp only [PyData.hasDictAll]
  | d :: ds, vs, h => by
    cases h with
    | cons h1 h2 => simp only [PyData.hasDictAll, dp_noDict h1, dp_noDictL h2, Bool.or_self]
theorem cr_repr {k : Nat} (hr : Room k X.A) (gd : X.A.guards = some []) : CallR X (.builtin "repr") (rRepr X.K) := by
  intro pins s σ H xs us Q I r h
  obtain ⟨v, d, rfl, hd, hs, hdp, hz, q⟩ := h
  obtain ⟨u, rfl, ru⟩ := r.one
  obtain ⟨as, rr⟩ := Dp.reads I d v u hd ru
  have hu := Room.u64 hr
  cases rr with
  | none => exact PySem.P.repr_of_none ⟨.str _, H, I.tok _, ⟨_, by simp only [PyData.shown]; rfl⟩, q⟩
  | bool b => exact PySem.P.repr_of_bool ⟨.str _, H, I.tok _, ⟨_, by simp only [PyData.shown]; rfl⟩, q⟩
  | int i t => exact PySem.P.repr_of_int (by simpa [PyData.showable] using hs) ⟨.str _, H, I.tok _, ⟨_, by simp only [PyData.shown]; rfl⟩, q⟩
  | str x t => exact PySem.P.repr_of_str ⟨.str _, H, I.tok _, ⟨_, by simp only [PyData.shown]; rfl⟩, q⟩ (by simpa only [PyData.shown] using hz)
  | list h1 h2 h3 h4 =>
    exact repr_of_reads' (Reads.list h1 h2 h3 h4) hs (PyData.noDict_hsm (dp_noDict hd)) gd (by omega) (fun _ _ e => e) (fun h' u tk hk => ⟨.str _, H, I.kept hk, ⟨u, rfl⟩, q⟩) hz
  | tuple h1 h2 h3 h4 =>
    exact repr_of_reads' (Reads.tuple h1 h2 h3 h4) hs (PyData.noDict_hsm (dp_noDict hd)) gd (by omega) (fun _ _ e => e) (fun h' u tk hk => ⟨.str _, H, I.kept hk, ⟨u, rfl⟩, q⟩) hz
  | dict h1 h2 h3 h4 h5 => cases hd
/-- repr(a) == repr(b) -/
def okRepr (d : D) : Bool := okEq d && d.py.showable && decide (d.py.shown.length ≤ 16777216)
def reprEqE (fa fb : FE) : FE := fun ρ => bd (fa ρ) fun x => if okRepr x = true then bd (fb ρ) fun y => if okRepr y = true then rt (.bl (decide (x.py.shown = y.py.shown))) else no else no
theorem okRepr_of {d : D} (h : okRepr d = true) : okEq d = true ∧ d.py.showable = true ∧ d.py.depth ≤ 64 ∧ d.py.shown.length ≤ sizeLine := by
  unfold okRepr at h
  simp only [Bool.and_eq_true, decide_eq_true_eq] at h
  obtain ⟨⟨h1, h2⟩, h3⟩ := h
  refine ⟨h1, h2, ?_, line_le h3⟩
  unfold okEq at h1
  simp only [Bool.and_eq_true, decide_eq_true_eq] at h1
  exact h1.2
theorem me_reprEq {k : Nat} {p1 p2 pos1 pos2 : Pos} (hr : Room k X.A) (gd : X.A.guards = some []) (hm : X.mg "repr" = none) (ha : PE X a (tB X.K c E fa)) (hb : PE X b (tB X.K c E fb)) (hg : X.env.kindOf "repr" = some .globalImplicit := by kernel_rfl)
    (he : starEach [a] X.env = (false, eval a X.env) :: starEach [] X.env := by kernel_rfl) (hpl : (backTo pos1 (starEach [] X.env)).any (·.1) = false := by kernel_rfl) (he2 : starEach [b] X.env = (false, eval b X.env) :: starEach [] X.env := by kernel_rfl) (hpl2 : (backTo pos2 (starEach [] X.env)).any (·.1) = false := by kernel_rfl)
    (hmk : behindInMarks .Eq (.Call (.Name "repr" p2) [b] [] pos2) = false := by kernel_rfl) :
    PE X (.Compare (.Call (.Name "repr" p1) [a] [] pos1) [.Eq] [.Call (.Name "repr" p2) [b] [] pos2] pos) (tM X.K c E (reprEqE fa fb)) :=
  pe_imp (pe_cmpR op_eq (pe_callB (cr_repr hr gd) hg hm (by kernel_rfl) (pa_cons ha pa_nil he) (by decide +kernel) (by kernel_rfl) he hpl) (pe_callB (cr_repr hr gd) hg hm (by kernel_rfl) (pa_cons hb pa_nil he2) (by decide +kernel) (by kernel_rfl) he2 hpl2) hmk) fun σ H Q h => by
    obtain ⟨W, ρ, S, st, en, q⟩ := tM_un h
    refine then_B (O := OutM X.K c W H E Q) st en (fun _ _ _ z => z) (fun z => z) q fun d S1 W1 H1 v st1 k1 r1 q1 => ?_
    split at q1
    · rename_i ok1
      obtain ⟨z1, z2, z3, z4⟩ := okRepr_of ok1
      refine ⟨v, d.py, rfl, (okEq_shaped st1 r1 z1).1, z2, z3, z4, ?_⟩
      refine then_B (O := OutM X.K c W H E Q) st1 (en.ext k1) (fun _ _ _ z => ErQ.pre z k1 st1) (fun z => z) q1 fun d2 S2 W2 H2 u st2 k2 r2 q2 => ?_
      split at q2
      · rename_i ok2
        obtain ⟨y1, y2, y3, y4⟩ := okRepr_of ok2
        refine ⟨u, d2.py, rfl, (okEq_shaped st2 r2 y1).1, y2, y3, y4, rfl, ?_⟩
        have e : decide (V.str d.py.shown = V.str d2.py.shown) = decide (d.py.shown = d2.py.shown) := by
          rw [Bool.eq_iff_iff]
          simp
        rw [e]
        exact q2 W2 H2 _ st2 (k1.tr st1 k2) rfl
      · exact q2.elim
    · exact q1.elim
end
end Mini
namespace Mini
open PySem PySem.Spec PyProof.Rows L2 Evl
section
variable {X : Cx} {c : Cn} {E : XK} {a b e o tg : Expr} {es : List Expr} {fa fb fc fd : FE} {ga : FA} {x y : Str} {p pos apos cpos pa pos' : Pos} {i j : Nat}
/-! ### d.get(k, x) -/
def isDic : D → Bool
  | .dic _ => true
  | .dit _ => true
  | _ => false
def get2E (f g h : FE) : FE := fun ρ => bd (f ρ) fun d => if isDic d = true then bd (g ρ) fun k => bd (h ρ) fun z => lift ((dGetO d k).map fun o => o.getD z) else no
theorem isDic_at {K : PySem.W.Frag} {W : Wd} {H : Hp} {S : DS} {d : D} {v : V} (st : StOk K c W H S) (r : RepB K c W H d v) (h : isDic d = true) : ∃ a, v = .ref a ∧ IsD H a := by
  cases d <;> first | (cases h; done) | skip
  · obtain ⟨a, kvs, rfl, h1, _⟩ := r.dic st
    exact ⟨a, rfl, .inl ⟨kvs, .inl h1⟩⟩
  · obtain ⟨a, kvs, rfl, h1, _⟩ := r.dit st
    exact ⟨a, rfl, .inr ⟨kvs, .inl h1⟩⟩
theorem me_get2 {k : Nat} (hr : Room k X.A) (ho : PE X o (tB X.K c E fa)) (he : PE X e (tM X.K c E fb)) (hf : PE X b (tM X.K c E fc)) (m : M2 X o "get" apos e b cpos := by exact ⟨by kernel_rfl, by kernel_rfl, by kernel_rfl, by kernel_rfl⟩) :
    PE X (.Call (.Attribute o "get" apos) [e, b] [] cpos) (tM X.K c E (get2E fa fb fc)) := pe_imp (pe_dget2 (Room.small hr) ho he hf m) fun σ H Q h => by
  obtain ⟨W, ρ, S, st, en, q⟩ := tM_un h
  refine then_B (O := OutM X.K c W H E Q) st en (fun _ _ _ z => z) (fun z => z) q fun d S1 W1 H1 v st1 k1 r1 q1 => ?_
  split at q1
  · rename_i hd
    obtain ⟨ad, rfl, hI⟩ := isDic_at st1 r1 hd
    refine ⟨ad, rfl, hI, ?_⟩
    refine then_M (O := OutM X.K c W H E Q) st1 (en.ext k1) (fun _ _ _ z => ErQ.pre z k1 st1) (fun z => z) q1 fun kd S2 W2 H2 u st2 k2 r2 q2 => ?_
    have k12 := k1.tr st1 k2
    refine then_M (O := OutM X.K c W H E Q) st2 ((en.ext k1).ext k2) (fun _ _ _ z => ErQ.pre z k12 st2) (fun z => z) q2 fun zd S3 W3 H3 z st3 k3 r3 q3 => ?_
    have k13 := k12.tr st2 k3
    obtain ⟨d', e', q4⟩ := lift_ok (β := D) (O := OutM X.K c W H E Q) (fun z => z) q3
    obtain ⟨o, ho, rfl⟩ := Option.map_eq_some_iff.mp e'
    obtain ⟨a2, ov, ea, _, g, rr⟩ := dget_rep st3 ((r1.ext k2).ext k3) (.inl (Rep.ext k3.wex _ _ r2)) ho
    cases ea
    exact ⟨ov, g, q4 W3 H3 _ st3 k13 (rr.getD r3)⟩
  · exact q1.elim
/-! ### x[k] = v -/
def putO (o k d : D) : Option D := match o with
  | .lst ds => (match k with
    | .int n => (ixN ds.length n).map fun j => .lst (ds.set j d)
    | _ => none)
  | .dic es => (keyD k).bind fun kk => if es.length < 16777216 then some (.dic (putD es kk d)) else none
  | .dit es => (match k with
    | .tup ks => (keysL ks).bind fun kk => if es.length < 16777216 then some (.dit (putD es kk d)) else none
    | _ => none)
  | _ => none
def ownS (ρ : En) (i : Nat) : Option D := match ρ[i]? with
  | some (.ow d) => some d
  | _ => none
theorem ownS_some {ρ : En} {i : Nat} {d : D} (h : ownS ρ i = some d) : ρ[i]? = some (.ow d) := by
  unfold ownS at h
  split at h
  · cases h; assumption
  · cases h
def putS (i : Nat) (f fk : FE) : FS := fun ρ => bd (f ρ) fun d => bd (lift (ownS ρ i)) fun o => bd (fk ρ) fun k => bd (lift (putO o k d)) fun o' => rt (.nx (setO i o' ρ))
theorem repL_set {K : PySem.W.Frag} {W : Wd} : ∀ {ds : List D} {vs : List V} {d : D} {v : V} (j : Nat), RepL K c W ds vs → Rep K c W d v → RepL K c W (ds.set j d) (vs.set j v)
  | [], vs, d, v, j, r, h => by cases r; rfl
  | e :: ds, vs, d, v, 0, r, h => by
    obtain ⟨u, r', rfl, r1, r2⟩ := r
    exact ⟨v, r', rfl, h, r2⟩
  | e :: ds, vs, d, v, j + 1, r, h => by
    obtain ⟨u, r', rfl, r1, r2⟩ := r
    exact ⟨u, _, rfl, r1, repL_set j r2 h⟩
theorem set_all {k : Nat} (hr : Room k X.A) : PSet X (fun o i v H Q => rSetL o i v H Q ∨ rSetD o i v H Q) := by
  intro pins s σ H o i v ov iv u Q I r1 r2 r3 h
  rcases h with h | h
  · exact set_list pins s σ H o i v ov iv u Q I r1 r2 r3 h
  · exact set_dict (Room.small hr) pins s σ H o i v ov iv u Q I r1 r2 r3 h
theorem put_own {K : PySem.W.Frag} {W : Wd} {H : Hp} {S : DS} {ad : Addr} {o o' d k : D} {v u : V} (st : StOk K c W H S) (own : Own K c W H ad o) (rv : Rep K c W d v) (rk : Rep K c W k u) (h : putO o k d = some o') (Q : Hp → Prop) (q : ∀ ob, Own K c W (upd H ad ob) ad o' → Q (upd H ad ob)) :
    rSetL (.ref ad) u v H Q ∨ rSetD (.ref ad) u v H Q := by
  cases o <;> first | (cases h; done) | skip
  · cases k <;> first | (cases h; done) | skip
    obtain ⟨j, h1, rfl⟩ := Option.map_eq_some_iff.mp h
    obtain ⟨vs, h2, h3⟩ := own
    cases rk
    exact .inl ⟨ad, vs, _, j, rfl, rfl, h2, by rw [RepL.length h3]; exact h1, q _ ⟨_, upd_same, repL_set j h3 rv⟩⟩
  · obtain ⟨kk, h1, h2⟩ := Option.bind_eq_some_iff.mp h
    split at h2
    · rename_i hl
      cases h2
      obtain ⟨kvs, h3, h4⟩ := own
      have e := key_rep' rk h1
      subst e
      exact .inr ⟨ad, _, rfl, DPut.k h3 (line_lt (by rw [repE_len h4]; exact hl)), q _ ⟨_, upd_same, putE_rep h4 rv⟩⟩
    · cases h2
  · cases k <;> first | (cases h; done) | skip
    obtain ⟨kk, h1, h2⟩ := Option.bind_eq_some_iff.mp h
    split at h2
    · rename_i hl
      cases h2
      obtain ⟨kvs, h3, h4⟩ := own
      obtain ⟨b, vs, rfl, h5, h6⟩ := rk
      have e := keys_rep h6 h1
      subst e
      exact .inr ⟨ad, _, rfl, DPut.t h3 (st.sub _ _ h5) (line_lt (by rw [repT_len h4]; exact hl)), q _ ⟨_, upd_same, putT_rep h4 rv⟩⟩
    · cases h2
theorem ms_put1 {k : Nat} {kx : Expr} (hr : Room k X.A) (he : PE X e (tM X.K c E fa)) (hk : PE X kx (tM X.K c E fb)) (hN : X.N[i]? = some x) (hv : Vis X.env.scope x) (hd : (x == ("__debug__" : Str)) = false) (hcd : (x == ("__classdict__" : Str)) = false)
    (hA : ∀ v, assign (.Subscript (.Name x pa) kx pos') X.env v = (do
      let ov ← holding [v] (eval (.Name x pa) X.env)
      let iv ← holding [v, ov] (eval kx X.env)
      standAt pos'
      holding [v, ov, iv] (setItem ov iv v)
      release [v, ov, iv] []))
    (hs : swapsWithSole [.Subscript (.Name x pa) kx pos'] e pos.line X.env = pure false) (hw : swappedStores [.Subscript (.Name x pa) kx pos'] e X.env = pure none)
    (h1 : (assignEach [.Subscript (.Name x pa) kx pos'] X.env).map (·.2) = [assign (.Subscript (.Name x pa) kx pos') X.env]) : PS X (.Assign [.Subscript (.Name x pa) kx pos'] e pos) (tS X.K c E (putS i fa fb)) :=
  ps_imp (ps_asg he (pg_sub (pe_var hN hv hd hcd) hk (set_all hr) hA) hs hw h1) fun D' σ H q => by
    obtain ⟨W, ρ, S, st, en, q⟩ := q
    refine thenS_M st en q fun d S1 W1 H1 v st1 en1 k1 r1 q1 => ?_
    unfold bd at q1
    cases e1 : ownS ρ i with
    | none => rw [e1] at q1; exact q1.elim
    | some o =>
      rw [e1] at q1
      have hi := ownS_some e1
      obtain ⟨ad, a1, a2, a3, a4⟩ := en1.ow i _ hi
      refine ⟨_, a1, thenS_M st1 en1 q1 fun kd S2 W2 H2 u st2 en2 k2 r2 q2 => ?_⟩
      unfold bd at q2
      cases e2 : putO o kd d with
      | none => rw [e2] at q2; exact q2.elim
      | some o' =>
        rw [e2] at q2
        obtain ⟨ad2, b1, b2, b3, b4⟩ := en2.ow i _ hi
        rw [a1] at b1
        cases b1
        refine put_own st2 b4 (Rep.ext k2.wex d v r1) r2 e2 _ fun ob ow => ?_
        obtain ⟨s5, e5, p5⟩ := own_write (o := ob) (d' := o') st2 en2 hi a1 ow
        exact q2 W2 _ σ s5 e5 p5
theorem ms_putL {k : Nat} {kx : Expr} (hr : Room k X.A) (he : PE X e (tM X.K c E fa)) (hk : PE X kx (tM X.K c E fb)) (hN : X.N[i]? = some x := by kernel_rfl) (hv : X.env.scope.names.lookup x = some .local := by kernel_rfl) (hd : (x == ("__debug__" : Str)) = false := by kernel_rfl) (hcd : (x == ("__classdict__" : Str)) = false := by kernel_rfl)
    (hA : ∀ v, assign (.Subscript (.Name x pa) kx pos') X.env v = (do
      let ov ← holding [v] (eval (.Name x pa) X.env)
      let iv ← holding [v, ov] (eval kx X.env)
      standAt pos'
      holding [v, ov, iv] (setItem ov iv v)
      release [v, ov, iv] []) := by intro _; kernel_rfl)
    (hs : swapsWithSole [.Subscript (.Name x pa) kx pos'] e pos.line X.env = pure false := by kernel_rfl) (hw : swappedStores [.Subscript (.Name x pa) kx pos'] e X.env = pure none := by kernel_rfl)
    (h1 : (assignEach [.Subscript (.Name x pa) kx pos'] X.env).map (·.2) = [assign (.Subscript (.Name x pa) kx pos') X.env] := by kernel_rfl) : PS X (.Assign [.Subscript (.Name x pa) kx pos'] e pos) (tS X.K c E (putS i fa fb)) := ms_put1 hr he hk hN (.inl hv) hd hcd hA hs hw h1
theorem ms_putC {k : Nat} {kx : Expr} (hr : Room k X.A) (he : PE X e (tM X.K c E fa)) (hk : PE X kx (tM X.K c E fb)) (hN : X.N[i]? = some x := by kernel_rfl) (hv : X.env.scope.names.lookup x = some .cell := by kernel_rfl) (hd : (x == ("__debug__" : Str)) = false := by kernel_rfl) (hcd : (x == ("__classdict__" : Str)) = false := by kernel_rfl)
    (hA : ∀ v, assign (.Subscript (.Name x pa) kx pos') X.env v = (do
      let ov ← holding [v] (eval (.Name x pa) X.env)
      let iv ← holding [v, ov] (eval kx X.env)
      standAt pos'
      holding [v, ov, iv] (setItem ov iv v)
      release [v, ov, iv] []) := by intro _; kernel_rfl)
    (hs : swapsWithSole [.Subscript (.Name x pa) kx pos'] e pos.line X.env = pure false := by kernel_rfl) (hw : swappedStores [.Subscript (.Name x pa) kx pos'] e X.env = pure none := by kernel_rfl)
    (h1 : (assignEach [.Subscript (.Name x pa) kx pos'] X.env).map (·.2) = [assign (.Subscript (.Name x pa) kx pos') X.env] := by kernel_rfl) : PS X (.Assign [.Subscript (.Name x pa) kx pos'] e pos) (tS X.K c E (putS i fa fb)) := ms_put1 hr he hk hN (.inr (.inl hv)) hd hcd hA hs hw h1
/-! ### {} -/
def dicE : FE := fun _ => rt (.dic [])
def ditE : FE := fun _ => rt (.dit [])
theorem me_dicK : PE X (.Dict [] [] pos) (tO X.K c E dicE) := pe_imp pe_dnewK fun σ H Q h => by
  obtain ⟨W, ρ, S, st, en, q⟩ := tO_un h
  exact fun l hl => q W _ _ (new_st st hl) (new_keep st hl) ⟨l, rfl, hl, fresh_back st.sub hl, sa_ne st hl, [], upd_same, rfl⟩
theorem me_dicT : PE X (.Dict [] [] pos) (tO X.K c E ditE) := pe_imp pe_dnewT fun σ H Q h => by
  obtain ⟨W, ρ, S, st, en, q⟩ := tO_un h
  exact fun l hl => q W _ _ (new_st st hl) (new_keep st hl) ⟨l, rfl, hl, fresh_back st.sub hl, sa_ne st hl, [], upd_same, rfl⟩
/-! ### sorted: ints -/
def insI (n : Int) : List Int → List Int
  | [] => [n]
  | m :: ms => if n ≤ m then n :: m :: ms else m :: insI n ms
def sortI : List Int → List Int
  | [] => []
  | n :: ns => insI n (sortI ns)
theorem insI_perm (n : Int) : ∀ ms : List Int, (insI n ms).Perm (n :: ms)
  | [] => List.Perm.refl _
  | m :: ms => by
    unfold insI
    split
    · exact List.Perm.refl _
    · exact ((insI_perm n ms).cons m).trans (List.Perm.swap n m ms)
theorem insI_sorted (n : Int) : ∀ ms : List Int, ms.Pairwise (· ≤ ·) → (insI n ms).Pairwise (· ≤ ·)
  | [], _ => by simp [insI]
  | m :: ms, h => by
    rw [List.pairwise_cons] at h
    unfold insI
    split
    · rename_i hn
      refine List.pairwise_cons.mpr ⟨fun x hx => ?_, List.pairwise_cons.mpr h⟩
      rcases List.mem_cons.mp hx with rfl | hx
      · exact hn
      · exact Int.le_trans hn (h.1 x hx)
    · rename_i hn
      refine List.pairwise_cons.mpr ⟨fun x hx => ?_, insI_sorted n ms h.2⟩
      rcases List.mem_cons.mp ((insI_perm n ms).mem_iff.mp hx) with rfl | hx
      · omega
      · exact h.1 x hx
theorem sortI_perm : ∀ ns : List Int, (sortI ns).Perm ns
  | [] => List.Perm.refl _
  | n :: ns => (insI_perm n _).trans ((sortI_perm ns).cons n)
theorem sortI_sorted : ∀ ns : List Int, (sortI ns).Pairwise (· ≤ ·)
  | [] => List.Pairwise.nil
  | n :: ns => insI_sorted n _ (sortI_sorted ns)
theorem sortI_unique {ns ys : List Int} (h1 : ys.Perm ns) (h2 : ys.Pairwise (· ≤ ·)) : ys = sortI ns :=
  List.Perm.eq_of_pairwise (fun a b _ _ => Int.le_antisymm) h2 (sortI_sorted ns) (h1.trans (sortI_perm ns).symm)
def keyI : List (Key × D) → Option (List Int)
  | [] => some []
  | (.inl n, _) :: es => (keyI es).map fun ns => n :: ns
  | (.inr _, _) :: _ => none
def dSorted : D → Option D
  | .lst ds => (intsOf ds).map fun ns => .lst ((sortI ns).map .int)
  | .dic es => if es.length < 64 then (keyI es).map fun ns => .lst ((sortI ns).map .int) else none
  | _ => none
theorem keyI_rep {K : PySem.W.Frag} {W : Wd} : ∀ {es : List (Key × D)} {ns : List Int} {kvs : List (Key × V)}, RepE K c W es kvs → keyI es = some ns → kvs.map (·.1) = ns.map Sum.inl
  | [], ns, kvs, r, h => by cases r; cases h; rfl
  | (.inl n, d) :: es, ns, kvs, r, h => by
    obtain ⟨v, r', rfl, r1, r2⟩ := r
    obtain ⟨ms, h1, rfl⟩ := Option.map_eq_some_iff.mp h
    simp only [List.map_cons, keyI_rep r2 h1]
  | (.inr s, d) :: es, ns, kvs, r, h => by cases h
theorem keyI_len : ∀ {es : List (Key × D)} {ns : List Int}, keyI es = some ns → ns.length = es.length
  | [], ns, h => by cases h; rfl
  | (.inl n, d) :: es, ns, h => by
    obtain ⟨ms, h1, rfl⟩ := Option.map_eq_some_iff.mp h
    simp only [List.length_cons, keyI_len h1]
  | (.inr s, d) :: es, ns, h => by cases h
def rSortedAll (K : PySem.W.Frag) : R1 := fun vs H Q => rSortedI K vs H Q ∨ (∃ (a : Addr) (kvs : List (Key × V)) (ks : List Int), vs = [.ref a] ∧ Rd H a (.dK kvs) ∧ kvs.map (·.1) = ks.map Sum.inl ∧ ks.length < 64 ∧
    ∀ (ys : List Int) (p : Addr), ys.Perm ks → ys.Pairwise (· ≤ ·) → H p = none → Q (.ref p) (upd H p (.lst (ys.map V.int))))
theorem cr_sortedAll (hc : X.calm = true) : CallR X (.builtin "sorted") (rSortedAll X.K) := by
  intro pins s σ H xs us Q I r h
  rcases h with h | h
  · exact cr_sortedI pins s σ H xs us Q I r h
  · exact call_sortedD' pins s σ H xs us Q I r h
where call_sortedD' := @call_sortedDI X hc
theorem u_sorted : UnO X.K c (rSortedAll X.K) dSorted := fun {W H S d d' v} Q st a q k => by
  cases d <;> first | (cases q; done) | skip
  · obtain ⟨ns, e2, rfl⟩ := Option.map_eq_some_iff.mp q
    obtain ⟨p, vs, rfl, h1, r1⟩ := a.lst st
    have e3 := ints_rep e2 r1
    subst e3
    refine .inl ⟨p, ns, rfl, SqL.of h1, fun ys l hp hs hn => ?_⟩
    rw [sortI_unique hp hs]
    exact k _ _ _ (new_st st hn) (new_keep st hn) (new_own st hn (repL_ints _))
  · simp only [dSorted] at q
    split at q
    · rename_i hl
      obtain ⟨ns, e2, rfl⟩ := Option.map_eq_some_iff.mp q
      obtain ⟨p, kvs, rfl, h1, r1⟩ := a.dic st
      refine .inr ⟨p, kvs, ns, rfl, .inl h1, keyI_rep r1 e2, by rw [keyI_len e2]; exact hl, fun ys l hp hs hn => ?_⟩
      rw [sortI_unique hp hs]
      exact k _ _ _ (new_st st hn) (new_keep st hn) (new_own st hn (repL_ints _))
    · cases q
end
end Mini
namespace Mini
open PySem PySem.Spec PyProof.Rows L2 Evl
/-! ### dict comprehensions, keys ints or texts -/
def dcL (t : TGd) (test : FB) (kf vf : FE) : List D → List (Key × D) → En → M (List (Key × D))
  | [], acc, _ => rt acc
  | d :: ds, acc, ρ => bd (lift (t d ρ)) fun ρ1 => bd (noEr (test ρ1)) fun k =>
      if k = true then bd (noEr (kf ρ1)) fun kd => bd (noEr (vf ρ1)) fun x => match keyD kd with
        | some kk => if acc.length < 16777216 then dcL t test kf vf ds (putD acc kk x) ρ else no
        | none => no
      else dcL t test kf vf ds acc ρ
def dcE (it : FI) (t : TGd) (test : FB) (kf vf : FE) (vs : List Nat) : FE := fun ρ => bd (it ρ) fun ds => bd (noEr (dcL t test kf vf ds [] (wipeR ρ vs))) fun r => rt (.dic r)
section
variable {K : PySem.W.Frag} {c : Cn} {W W' : Wd} {H H' : Hp}
def AccE (K : PySem.W.Frag) (c : Cn) (W : Wd) (H : Hp) (D : Addr) (acc : List (Key × Mini.D)) : Prop := W.H0 D = none ∧ W.sa ≠ some D ∧ ∃ vs, H D = some (.dK vs) ∧ RepE K c W acc vs
theorem AccE.ext {D : Addr} {acc : List (Key × Mini.D)} (a : AccE K c W H D acc) (k : Keep W H W' H') : AccE K c W' H' D acc := by
  obtain ⟨h1, h2, vs, h3, h4⟩ := a
  exact ⟨k.fr D _ h3 h1, fun e => h2 (k.sa D _ h3 e), vs, k.old D _ h3 h2, RepE.ext k.wex acc vs h4⟩
def OutK (K : PySem.W.Frag) (c : Cn) (W : Wd) (H : Hp) (D : Addr) (Qd : Hp → Prop) : Res (List (Key × Mini.D)) → Prop
  | .ok r S' => ∀ W' H', StOk K c W' H' S' → KeepD W H D W' H' → AccE K c W' H' D r → Qd H'
  | .er _ _ _ => False
  | .no => False
end
section
variable {X : Cx} {c : Cn} {E : XK} {kx vx tg iter : Expr} {ifs : List Expr} {scope : Scope} {own : List (Str × Nat)} {pos : Pos} {it : FI} {td : TGd} {test : FB} {fk fv : FE}
theorem dc_out {own : List Nat} : ∀ σ H Q, tO X.K c E (dcE it td test fk fv own) σ H Q → tDc (tI X.K c E it) (tGd X.K c own td) (tT X.K c EF test) (tM X.K c EF fk) (tM X.K c EF fv) own σ H Q := fun σ H Q h => by
  obtain ⟨W, ρ, S, st, en, q⟩ := tO_un h
  refine ⟨W, ρ, S, st, en, ?_⟩
  unfold dcE bd at q
  cases e0 : it ρ S with
  | er n p S' => rw [e0] at q; exact q
  | no => rw [e0] at q; exact q
  | ok ds S0 =>
    rw [e0] at q
    intro W0 H0 J st0 k0 wk Dl hD
    have en0 := (en.ext k0).wipe own
    have st1 := new_st (o := .dK []) st0 hD
    have kD : Keep W0 H0 W0 (upd H0 Dl (.dK [])) := new_keep st0 hD
    have noOwn : ∀ (i : Nat) (d : Mini.D), (wipeR ρ own)[i]? = some (.ow d) → (L2.wipe σ own)[i]? ≠ some (some (.ref Dl)) := fun i d h1 h2 => by
      obtain ⟨a, h3, _, _, h4⟩ := en0.ow i d h1
      rw [h2] at h3
      cases h3
      obtain ⟨o, ho⟩ := h4.some
      rw [hD] at ho
      cases ho
    have q0 : OutK X.K c W0 (upd H0 Dl (.dK [])) Dl (fun H1 => Q (.ref Dl) H1) (dcL td test fk fv ds [] (wipeR ρ own) S0) := by
      change OutO X.K c W H E Q (bd (noEr (dcL td test fk fv ds [] (wipeR ρ own))) (fun r => rt (.dic r)) S0) at q
      unfold bd noEr at q
      cases e1 : dcL td test fk fv ds [] (wipeR ρ own) S0 with
      | no => rw [e1] at q; exact q
      | er n p S' => rw [e1] at q; exact q
      | ok r S' =>
        rw [e1] at q
        rintro W' H' st' k' ⟨a1, a2, vs, a3, a4⟩
        have there := (kD.toS (σ := []) (ρ := []) st1).there
        have kk : Keep W0 H0 W' H' := by
          refine ⟨k'.wex, fun b o h n => k'.old b o (kD.old b o h n) n fun z => ?_, fun b o h n => ?_, fun b o h e => ?_⟩
          · rw [z, hD] at h
            cases h
          · obtain ⟨o', ho'⟩ := there b o h
            exact k'.fr b o' ho' n
          · obtain ⟨o', ho'⟩ := there b o h
            exact k'.sa b o' ho' e
        refine q W' H' _ st' (k0.tr st0 kk) (RepO.pre (H0 := H) k0 (fun b e => st0.ds.at (k0.wex.2 b e)) ⟨Dl, rfl, hD, a1, a2, vs, a3, a4⟩)
    refine ⟨fun i m H1 => m = ds.length - i ∧ i ≤ ds.length ∧ ∃ W1 S1 acc, StOk X.K c W1 H1 S1 ∧ KeepD W0 (upd H0 Dl (.dK [])) Dl W1 H1 ∧ AccE X.K c W1 H1 Dl acc ∧ OutK X.K c W0 (upd H0 Dl (.dK [])) Dl (fun H1 => Q (.ref Dl) H1) (dcL td test fk fv (ds.drop i) acc (wipeR ρ own) S1),
      ⟨ds.length, rfl, Nat.zero_le _, W0, S0, [], st1, (Keep.refl _ _).toD st1, ⟨fresh_back st0.sub hD, sa_ne st0 hD, [], upd_same, rfl⟩, q0⟩, ?_⟩
    rintro i m H1 ⟨rfl, hi, W1, S1, acc, st1, k1, ac1, q1⟩
    have ex1 : Ex W0.H0 H1 := k1.wex.1.trans st1.sub
    by_cases hlt : i < ds.length
    · refine .inr ⟨wk.go i H1 hlt ex1, fun H2 => ∃ W2 S2 acc2, StOk X.K c W2 H2 S2 ∧ KeepD W0 (upd H0 Dl (.dK [])) Dl W2 H2 ∧ AccE X.K c W2 H2 Dl acc2 ∧ OutK X.K c W0 (upd H0 Dl (.dK [])) Dl (fun H1 => Q (.ref Dl) H1) (dcL td test fk fv (ds.drop (i + 1)) acc2 (wipeR ρ own) S2), fun H2 n2 => ⟨ds.length - (i + 1), by omega, rfl, hlt, n2⟩, fun x H2 y => ?_⟩
      have hd : ds[i]? = some ds[i] := List.getElem?_eq_getElem hlt
      rw [List.drop_eq_getElem_cons hlt] at q1
      unfold dcL bd at q1
      cases e1 : td ds[i] (wipeR ρ own) with
      | none => rw [e1] at q1; exact q1.elim
      | some ρ2 =>
        rw [e1] at q1
        obtain ⟨W2, st2, kk2, r2⟩ := (wk.yld i H1 x H2 _ hd ex1 y).lay st1 k1.wex
        have en1 : EnvOk X.K c W1 H1 (L2.wipe σ own) (wipeR ρ own) := (en0.ext kD).extD k1 noOwn
        refine ⟨W2, wipeR ρ own, S1, ds[i], ρ2, st2, en1.ext kk2, r2, e1, fun σ3 en3 o3 w3 => ⟨w3.trans (wipe_wipe own own fun _ z => z), ?_⟩⟩
        change OutK X.K c W0 (upd H0 Dl (.dK [])) Dl (fun H1 => Q (.ref Dl) H1) (bd (noEr (test ρ2)) _ S1) at q1
        refine thenC_T (O := OutK X.K c W0 (upd H0 Dl (.dK [])) Dl fun H1 => Q (.ref Dl) H1) st2 en3 (fun z => z) q1 fun k S3 W3 H3 st3 k3 q3 => ?_
        have ac3 := (ac1.ext kk2).ext k3
        have kk3 := (k1.trans (kk2.toD st2)).trans (k3.toD st3)
        cases k with
        | false => exact ⟨W3, S3, acc, st3, kk3, ac3, q3⟩
        | true =>
          refine thenC_M (O := OutK X.K c W0 (upd H0 Dl (.dK [])) Dl fun H1 => Q (.ref Dl) H1) st3 (en3.ext k3) (fun z => z) q3 fun d4 S4 W4 H4 v4 st4 k4 r4 q4 => ?_
          refine thenC_M (O := OutK X.K c W0 (upd H0 Dl (.dK [])) Dl fun H1 => Q (.ref Dl) H1) st4 ((en3.ext k3).ext k4) (fun z => z) q4 fun d5 S5 W5 H5 v5 st5 k5 r5 q5 => ?_
          obtain ⟨a1, a2, vs, a3, a4⟩ := (ac3.ext k4).ext k5
          cases ek : keyD d4 with
          | none => rw [ek] at q5; exact q5.elim
          | some kk =>
            rw [ek] at q5
            dsimp only at q5
            split at q5
            · rename_i hlen
              obtain ⟨s6, k6⟩ := upd_D (o := .dK (putK vs kk v5)) st5 a1 a2 ⟨_, a3⟩
              refine ⟨vs, kk, key_rep' r4 ek, a3, line_lt (by rw [repE_len a4]; exact hlen), W5, S5, putD acc kk d5, s6, ((kk3.trans (k4.toD st4)).trans (k5.toD st5)).trans k6, ⟨a1, a2, _, upd_same, putE_rep a4 r5⟩, q5⟩
            · exact q5.elim
    · have ei : i = ds.length := by omega
      subst ei
      refine .inl ⟨wk.stop H1 ex1, ?_⟩
      rw [List.drop_length] at q1
      exact q1 W1 H1 st1 k1 ac1
theorem me_dc (hc : X.calm = true) (hN : X.N.Nodup) (hi : PI X tg iter (tI X.K c E it)) (ok : BlkOk X.N X.env.scope scope own)
    (hg : ∀ (s : Shared) (H : Hp) (C : Addr) (cl : List (Str × Addr)) (fp : List Addr), PG (X.blk s H scope (compEnvC scope cl C X.env) fp) tg (tGd X.K c (own.map (·.2)) td))
    (ht : ∀ (s : Shared) (H : Hp) (C : Addr) (cl : List (Str × Addr)) (fp : List Addr), PTs (X.blk s H scope (compEnvC scope cl C X.env) fp) ifs (tT X.K c EF test))
    (hk : ∀ (s : Shared) (H : Hp) (C : Addr) (cl : List (Str × Addr)) (fp : List Addr), PE (X.blk s H scope (compEnvC scope cl C X.env) fp) kx (tM X.K c EF fk))
    (he : ∀ (s : Shared) (H : Hp) (C : Addr) (cl : List (Str × Addr)) (fp : List Addr), PE (X.blk s H scope (compEnvC scope cl C X.env) fp) vx (tM X.K c EF fv)) (hs : ∀ x, foldedSetIterable iter X.env x = pure x := by intro _; rfl) :
    PE X (.DictComp kx vx [⟨tg, iter, ifs, 0⟩] scope pos) (tO X.K c E (dcE it td test fk fv (own.map (·.2)))) := pe_imp (pe_dc hc hN hi ok hg ht hk he hs) dc_out
end
/-! ### three comparisons in a row -/
def cmpB (f : D → D → Option D) (x y : D) : Option Bool := (f x y).bind isBl
def chn3 (f g h : D → D → Option D) (a b c d : FE) : FB := fun ρ => bd (a ρ) fun x => bd (b ρ) fun y => bd (lift (cmpB f x y)) fun k =>
  if k = true then bd (c ρ) fun u => bd (lift (cmpB g y u)) fun k => if k = true then bd (d ρ) fun w => lift (cmpB h u w) else rt false else rt false
theorem cmpB_some {f : D → D → Option D} {x y : D} {k : Bool} (h : cmpB f x y = some k) : f x y = some (.bl k) := by
  unfold cmpB at h
  obtain ⟨z, h1, h2⟩ := Option.bind_eq_some_iff.mp h
  cases z <;> first | (cases h2; done) | skip
  cases h2
  exact h1
def tChn3 (r r' r'' : R2) (ta tb tc td : TE) : TT := fun σ H Q => ta σ H fun x H1 => tb σ H1 fun y H2 => r x y H2 fun z H3 => ∃ k, z = .bl k ∧
  (if k = true then tc σ H3 fun u H4 => r' y u H4 fun z H5 => ∃ k, z = .bl k ∧ (if k = true then td σ H5 fun w H6 => r'' u w H6 fun z H7 => ∃ k, z = .bl k ∧ Q k H7 else Q false H5) else Q false H3)
section
variable {X : Cx} {cn : Cn} {E : XK} {a b c d : Expr} {fa fb fc fd : FE} {ta tb tc td : TE} {pos : Pos} {op op' op'' : CmpOp} {f g h : D → D → Option D} {r r' r'' : R2}
theorem pt_chn3 (ho : OpR X (compareOp op) r) (ho' : OpR X (compareOp op') r') (ho'' : OpR X (compareOp op'') r'') (ha : PE X a ta) (hb : PE X b tb) (hc : PE X c tc) (hd : PE X d td) (hm : lastMarks [op, op', op''] [b, c, d] = false) :
    PT X (.Compare a [op, op', op''] [b, c, d] pos) (tChn3 r r' r'' ta tb tc td) := by
  refine ⟨fun pins s σ H Q I q => ?_⟩
  refine isTrue_chain (thn (ha.run pins s σ H _ I q) fun v s1 ⟨x, H1, I1, r1, q1⟩ => test_link (thn (hb.run pins s1 σ H1 _ I1 q1) fun u s2 ⟨y, H2, I2, r2, q2⟩ =>
    thn (ho pins s2 σ H2 x y v u _ I2 r1 r2 q2) fun _ s3 ⟨z, H3, I3, r3, k, e, q3⟩ => ?_)) hm
  subst e
  cases r3
  refine wpAny_truthy_bool ?_
  cases k with
  | false => exact ite_ff ⟨H3, I3, q3⟩
  | true =>
    refine ite_tt (test_link (thn (hc.run pins s3 σ H3 _ I3 q3) fun w s4 ⟨y', H4, I4, r4, q4⟩ => thn (ho' pins s4 σ H4 y y' u w _ I4 r2 r4 q4) fun _ s5 ⟨z2, H5, I5, r5, k2, e2, q5⟩ => ?_))
    subst e2
    cases r5
    refine wpAny_truthy_bool ?_
    cases k2 with
    | false => exact ite_ff ⟨H5, I5, q5⟩
    | true =>
      refine ite_tt (test_last (thn (hd.run pins s5 σ H5 _ I5 q5) fun w' s6 ⟨y3, H6, I6, r6, q6⟩ => thn (ho'' pins s6 σ H6 y' y3 w w' _ I6 r4 r6 q6) fun _ s7 ⟨z3, H7, I7, r7, k3, e3, q7⟩ => ?_))
      subst e3
      cases r7
      exact wpAny_truthy_bool ⟨H7, I7, q7⟩
theorem mt_chain3 (ho : OpR X (compareOp op) r) (ho' : OpR X (compareOp op') r') (ho'' : OpR X (compareOp op'') r'') (h1 : OpM X.K cn r f) (h2 : OpM X.K cn r' g) (h3 : OpM X.K cn r'' h) (ha : PE X a (tB X.K cn E fa)) (hb : PE X b (tB X.K cn E fb)) (hc : PE X c (tB X.K cn E fc)) (hd : PE X d (tB X.K cn E fd))
    (hm : lastMarks [op, op', op''] [b, c, d] = false := by kernel_rfl) : PT X (.Compare a [op, op', op''] [b, c, d] pos) (tT X.K cn E (chn3 f g h fa fb fc fd)) := pt_imp (pt_chn3 ho ho' ho'' ha hb hc hd hm) fun σ H Q z => by
  obtain ⟨W, ρ, S, st, en, q⟩ := tT_un z
  refine then_B (O := OutT X.K cn W H E Q) st en (fun _ _ _ z => z) (fun z => z) q fun d1 S1 W1 H1 v st1 k1 r1 q1 => ?_
  refine then_B (O := OutT X.K cn W H E Q) st1 (en.ext k1) (fun _ _ _ z => ErQ.pre z k1 st1) (fun z => z) q1 fun d2 S2 W2 H2 u st2 k2 r2 q2 => ?_
  have k12 := k1.tr st1 k2
  have en2 := (en.ext k1).ext k2
  change OutT X.K cn W H E Q (bd (lift (cmpB f d1 d2)) _ S2) at q2
  unfold bd at q2
  cases e1 : cmpB f d1 d2 with
  | none => rw [e1] at q2; exact q2.elim
  | some kb =>
    rw [e1] at q2
    refine h1 _ st2 (r1.ext k2) r2 (cmpB_some e1) fun W3 H3 x st3 k3 rx => ?_
    cases rx
    refine ⟨kb, rfl, ?_⟩
    have k13 := k12.tr st2 k3
    cases kb with
    | false => exact q2 W3 H3 st3 k13
    | true =>
      refine then_B (O := OutT X.K cn W H E Q) st3 (en2.ext k3) (fun _ _ _ z => ErQ.pre z k13 st3) (fun z => z) q2 fun d4 S4 W4 H4 u4 st4 k4 r4 q4 => ?_
      have k14 := k13.tr st3 k4
      change OutT X.K cn W H E Q (bd (lift (cmpB g d2 d4)) _ S4) at q4
      unfold bd at q4
      cases e2 : cmpB g d2 d4 with
      | none => rw [e2] at q4; exact q4.elim
      | some kb2 =>
        rw [e2] at q4
        refine h2 _ st4 ((r2.ext k3).ext k4) r4 (cmpB_some e2) fun W5 H5 x st5 k5 rx => ?_
        cases rx
        refine ⟨kb2, rfl, ?_⟩
        have k15 := k14.tr st4 k5
        cases kb2 with
        | false => exact q4 W5 H5 st5 k15
        | true =>
          refine then_B (O := OutT X.K cn W H E Q) st5 (((en2.ext k3).ext k4).ext k5) (fun _ _ _ z => ErQ.pre z k15 st5) (fun z => z) q4 fun d6 S6 W6 H6 u6 st6 k6 r6 q6 => ?_
          obtain ⟨kb3, e3, q7⟩ := lift_ok (β := Bool) (O := OutT X.K cn W H E Q) (fun z => z) q6
          refine h3 _ st6 ((r4.ext k5).ext k6) r6 (cmpB_some e3) fun W7 H7 x st7 k7 rx => ?_
          cases rx
          exact ⟨kb3, rfl, q7 W7 H7 st7 ((k15.tr st5 k6).tr st6 k7)⟩
end
end Mini
namespace Mini
open PySem PySem.Spec PyProof.Rows L2 Evl
section
variable {K : PySem.W.Frag} {c : Cn} {W W1 W2 W' : Wd} {H H1 H2 H' : Hp} {S S1 S2 S' : DS} {σ σ1 σ2 σ' : L2.St} {ρ ρ1 ρ2 ρ' : En} {E : XK}
theorem then_O {f : FE} {β : Type} {g : D → M β} {Q : VK} {O : Res β → Prop} (st : StOk K c W H S) (en : EnvOk K c W H σ ρ) (hO : ∀ n p S', O (.er n p S') → ErQ K c W H E n p S') (hN : ¬ O .no)
    (h : O (bd (f ρ) g S)) (k : ∀ d S' W' H' v, StOk K c W' H' S' → Keep W H W' H' → RepO K c H W' H' d v → O (g d S') → Q v H') : tO K c E f σ H Q := by
  refine tO_mk st en ?_
  unfold bd at h
  cases z : f ρ S with
  | no => rw [z] at h; exact hN h
  | er n p S' => rw [z] at h; exact hO n p S' h
  | ok d S' => rw [z] at h; exact fun W' H' v st' k' r => k d S' W' H' v st' k' r h
theorem RepO.ext {H0 : Hp} {d : D} {v : V} (k : Keep W H W' H') (r : RepO K c H0 W H d v) : RepO K c H0 W' H' d v := by
  obtain ⟨a, rfl, h1, h2, h3, h4⟩ := r
  obtain ⟨o, ho⟩ := h4.some
  exact ⟨a, rfl, h1, k.fr a o ho h2, fun z => h3 (k.sa a o ho z), h4.ext k.wex fun o q => k.old a o q h3⟩
theorem fresh_not {a : Addr} (en : EnvOk K c W H σ ρ) (h : H a = none) : ¬ Owned σ ρ a := fun z => by
  obtain ⟨o, ho⟩ := en.own_some z
  rw [h] at ho
  cases ho
end
/-! ### two names at once, some of them own objects -/
def parVO (i j : Nat) (a b : FE) : FS := fun ρ => bd (a ρ) fun x => bd (b ρ) fun y => rt (.nx (setO j y (setV i x ρ)))
def parOV (i j : Nat) (a b : FE) : FS := fun ρ => bd (a ρ) fun x => bd (b ρ) fun y => rt (.nx (setV j y (setO i x ρ)))
def parOO (i j : Nat) (a b : FE) : FS := fun ρ => bd (a ρ) fun x => bd (b ρ) fun y => rt (.nx (setO j y (setO i x ρ)))
section
variable {X : Cx} {c : Cn} {E : XK} {a b e o tg : Expr} {es : List Expr} {fa fb fc fd : FE} {ga : FA} {x y : Str} {p pos apos cpos pa pos' : Pos} {i j : Nat} {px py pt : Pos} {kt k2 : Nat} {pt2 : Pos}
structure Pr (X : Cx) (x y : Str) (i j : Nat) (a b : Expr) (px py pt pt2 pos : Pos) (kt k2 : Nat) : Prop where
  hi : X.N[i]? = some x
  hj : X.N[j]? = some y
  hij : i ≠ j
  hx : X.env.scope.names.lookup x = some .local
  hy : X.env.scope.names.lookup y = some .local
  hw : swappedStores [.Tuple [.Name x px, .Name y py] kt pt] (.Tuple [a, b] k2 pt2) X.env = pure (some [x, y])
  hs : swapsWithSole [.Tuple [.Name x px, .Name y py] kt pt] (.Tuple [a, b] k2 pt2) pos.line X.env = pure false
  s1 : starEach [a, b] X.env = (false, eval a X.env) :: starEach [b] X.env
  s2 : starEach [b] X.env = (false, eval b X.env) :: starEach [] X.env
theorem Pr.ps {ta tb : TE} (r : Pr X x y i j a b px py pt pt2 pos kt k2) (hc : X.calm = true) (hN : X.N.Nodup) (ha : PE X a ta) (hb : PE X b tb) : PS X (.Assign [.Tuple [.Name x px, .Name y py] kt pt] (.Tuple [a, b] k2 pt2) pos) (tPar i j (tCons ta (tCons tb tNil))) :=
  ps_par hc hN r.hi r.hj r.hij r.hx r.hy (pa_cons ha (pa_cons hb pa_nil r.s2) r.s1) r.hw r.hs
theorem ms_parVO (hc : X.calm = true) (hN : X.N.Nodup) (ha : PE X a (tM X.K c E fa)) (hb : PE X b (tO X.K c E fb)) (r : Pr X x y i j a b px py pt pt2 pos kt k2 := by exact ⟨by kernel_rfl, by kernel_rfl, by decide, by kernel_rfl, by kernel_rfl, by kernel_rfl, by kernel_rfl, by kernel_rfl, by kernel_rfl⟩) :
    PS X (.Assign [.Tuple [.Name x px, .Name y py] kt pt] (.Tuple [a, b] k2 pt2) pos) (tS X.K c E (parVO i j fa fb)) := ps_imp (r.ps hc hN ha hb) fun D' σ H q => by
  obtain ⟨W, ρ, S, st, en, q⟩ := q
  refine thenS_M st en q fun d S1 W1 H1 v st1 en1 k1 r1 q1 => ?_
  refine then_O (O := OutS X.K c W1 H1 σ ρ E D') st1 en1 (fun _ _ _ z => ErS.q z) (fun z => z) q1 fun d2 S2 W2 H2 u st2 k2 r2 q2 => ?_
  obtain ⟨ad, rfl, n1, n2, n3, own⟩ := r2
  have en2 := (en1.ext k2).setV (Rep.ext k2.wex d v r1) i
  refine ⟨v, _, rfl, q2 W2 H2 _ st2 (en2.setO (fun z => fresh_not en1 n1 (owned_setV z)) n2 n3 own j) ⟨k2.toS st2, fun b z => ?_⟩⟩
  rcases owned_setO z with rfl | z
  · exact .inl n1
  · exact .inr (owned_setV z)
theorem ms_parOV (hc : X.calm = true) (hN : X.N.Nodup) (ha : PE X a (tO X.K c E fa)) (hb : PE X b (tM X.K c E fb)) (r : Pr X x y i j a b px py pt pt2 pos kt k2 := by exact ⟨by kernel_rfl, by kernel_rfl, by decide, by kernel_rfl, by kernel_rfl, by kernel_rfl, by kernel_rfl, by kernel_rfl, by kernel_rfl⟩) :
    PS X (.Assign [.Tuple [.Name x px, .Name y py] kt pt] (.Tuple [a, b] k2 pt2) pos) (tS X.K c E (parOV i j fa fb)) := ps_imp (r.ps hc hN ha hb) fun D' σ H q => by
  obtain ⟨W, ρ, S, st, en, q⟩ := q
  refine then_O (O := OutS X.K c W H σ ρ E D') st en (fun _ _ _ z => ErS.q z) (fun z => z) q fun d S1 W1 H1 v st1 k1 r1 q1 => ?_
  refine then_M (O := OutS X.K c W H σ ρ E D') st1 (en.ext k1) (fun _ _ _ z => ErQ.pre (ErS.q z) k1 st1) (fun z => z) q1 fun d2 S2 W2 H2 u st2 k2 r2 q2 => ?_
  obtain ⟨ad, rfl, n1, n2, n3, own⟩ := RepO.ext k2 r1
  have k12 := k1.tr st1 k2
  have en2 := (en.ext k12).setO (fresh_not en n1) n2 n3 own i
  refine ⟨_, u, rfl, q2 W2 H2 _ st2 (en2.setV r2 j) ⟨k12.toS st2, fun b z => ?_⟩⟩
  rcases owned_setO (owned_setV z) with rfl | z
  · exact .inl n1
  · exact .inr z
theorem ms_parOO (hc : X.calm = true) (hN : X.N.Nodup) (ha : PE X a (tO X.K c E fa)) (hb : PE X b (tO X.K c E fb)) (r : Pr X x y i j a b px py pt pt2 pos kt k2 := by exact ⟨by kernel_rfl, by kernel_rfl, by decide, by kernel_rfl, by kernel_rfl, by kernel_rfl, by kernel_rfl, by kernel_rfl, by kernel_rfl⟩) :
    PS X (.Assign [.Tuple [.Name x px, .Name y py] kt pt] (.Tuple [a, b] k2 pt2) pos) (tS X.K c E (parOO i j fa fb)) := ps_imp (r.ps hc hN ha hb) fun D' σ H q => by
  obtain ⟨W, ρ, S, st, en, q⟩ := q
  refine then_O (O := OutS X.K c W H σ ρ E D') st en (fun _ _ _ z => ErS.q z) (fun z => z) q fun d S1 W1 H1 v st1 k1 r1 q1 => ?_
  refine then_O (O := OutS X.K c W H σ ρ E D') st1 (en.ext k1) (fun _ _ _ z => ErQ.pre (ErS.q z) k1 st1) (fun z => z) q1 fun d2 S2 W2 H2 u st2 k2 r2 q2 => ?_
  obtain ⟨ad, rfl, n1, n2, n3, own⟩ := RepO.ext k2 r1
  have r2' := RepO.pre (H0 := H1) k1 (fun b e => st1.ds.at (k1.wex.2 b e)) r2
  obtain ⟨ad2, rfl, m1, m2, m3, own2⟩ := id r2
  obtain ⟨ad3, e3, l1, _⟩ := r2'
  cases e3
  obtain ⟨_, e4, _, _, _, own0⟩ := r1
  cases e4
  obtain ⟨o, ho⟩ := own0.some
  have ne : ad2 ≠ ad := fun z => by rw [z, ho] at m1; cases m1
  have k12 := k1.tr st1 k2
  have en2 := (en.ext k12).setO (fresh_not en n1) n2 n3 own i
  have nn : ¬ Owned (σ.set i (some (.ref ad))) (setO i d ρ) ad2 := fun z => by
    rcases owned_setO z with z | z
    · exact ne z
    · exact fresh_not en l1 z
  refine ⟨_, _, rfl, q2 W2 H2 _ st2 (en2.setO nn m2 m3 own2 j) ⟨k12.toS st2, fun b z => ?_⟩⟩
  rcases owned_setO z with rfl | z
  · exact .inl l1
  · rcases owned_setO z with rfl | z
    · exact .inl n1
    · exact .inr z
/-! ### t.count(x), t exact; l.count(x) -/
def tyX (x : V) (H : Hp) : Prop := ∃ p o vs, x = .ref p ∧ H p = some (.frz o (.tup vs)) ∧ o.dict = none
def tBMX (r : V → List V → Hp → VK → Prop) (to : TE) (t : TA) : TE := fun σ H Q => to σ H fun x H1 => tyX x H1 ∧ t σ H1 fun xs H2 => r x xs H2 Q
theorem pe_bmX {id : String} {name : Str} {r : V → List V → Hp → VK → Prop} {to : TE} {t : TA} (sl : PySem.Slot "tuple" name id) (hty : typeOf (.builtin id) = pure (.type "method_descriptor")) (hm : MtR X id r) (ho : PE X o to) (ha : PA X (e :: es) t) (m : Mb X o name e es apos cpos) :
    PE X (.Call (.Attribute o name apos) (e :: es) [] cpos) (tBMX r to t) := ⟨fun pins s σ H Q I h => by
  refine wpAny_Call_method_late m.base m.few m.line rfl (thn (ho.run pins s σ H _ I h) fun v s1 ⟨xv, H1, I1, r1, ty, q1⟩ => ?_)
  obtain ⟨ad, ob, vs, rfl, hob, hd⟩ := ty
  cases r1
  obtain ⟨g, _, its, _, ot, hot, hcl, _⟩ := I1.hok ad _ hob
  rw [g] at hot
  cases hot
  refine ⟨"tuple", id, PySem.F.plainAttrs_tuple, sl, hty, ⟨_, g, hcl⟩, fun b e => ?_, ?_⟩
  · cases e
    exact ⟨_, g, hd⟩
  have hA := ha.run cpos pins s1 σ H1 _ I1 q1
  rw [m.st] at hA ⊢
  refine Calls.callWith_builtin (by show (false || (backTo cpos (starEach es X.env)).any (·.1)) = false; rw [m.pl, Bool.or_self]) (Calls.evalArgs_plain (thn hA fun us s2 ⟨ws, H2, I2, r2, q2⟩ => ?_))
  exact hm pins s2 σ H2 (.ref ad) ws (.ref ad) us Q I2 rfl r2 q2⟩
def rCntT (K : PySem.W.Frag) : V → List V → Hp → VK → Prop := fun x xs H Q => ∃ y d ds, xs = [y] ∧ Dp K H x (.tuple ds) ∧ Dp K H y d ∧ SeqAt.shaped d = true ∧ SeqAt.shaped (.tuple ds) = true ∧ Q (.int ((ds.countP fun z => PyData.eqv z d : Nat) : Int)) H
theorem mt_countT {k : Nat} (hr : Room k X.A) : MtR X "tuple.count" (rCntT X.K) := by
  intro pins s σ H x xs v us Q I rx rxs h
  obtain ⟨y, d, ds, rfl, hx, hy, sd, sl, q⟩ := h
  obtain ⟨u, rfl, ru⟩ := rxs.one
  obtain ⟨bs, r1⟩ := Dp.reads I d y u hy ru
  have hu := Room.u64 hr
  cases hx with
  | tup hs ha =>
    cases rx
    obtain ⟨its, rv, ht, hz⟩ := I.tuple hs
    obtain ⟨as, h4⟩ := Dp.readsAll I ds _ its ha rv
    have c1 : PyData.canLayAll0 ds = true := by
      have := SeqAt.canLay_of_shaped sl
      simpa only [PyData.canLay0] using this
    have c2 := SeqAt.canLay_of_shaped sd
    have c3 : d.depth ≤ 64 := by
      have z : (d.canLay0 && decide (d.depth ≤ 64)) = true := sd
      rw [Bool.and_eq_true] at z
      exact of_decide_eq_true z.2
    refine SeqAt.count_tuple_data (d := d) ht (show ReadsAll s.heap its.toArray.toList ds as from h4) r1 (plainAll_of c1) (PyData.plain_of_canLay0 d c2) (by omega) ?_
    exact ⟨.int _, H, I.tok _, ⟨_, rfl⟩, q⟩
where
  plainAll_of {ds : List PyData} (h : PyData.canLayAll0 ds = true) : PyData.plainAll ds = true := by
    have z := PyData.plain_of_canLay0 (.list ds) (by simpa only [PyData.canLay0] using h)
    simpa only [PyData.plain] using z
def dCount : D → D → Option D
  | .tpx ds, d => if okEq (.tpx ds) && okEq d then some (.int ((pyL ds).countP fun z => PyData.eqv z d.py : Nat)) else none
  | _, _ => none
def countE (fa fb : FE) : FE := fun ρ => bd (fa ρ) fun x => match x with
  | .tpx ds => bd (fb ρ) fun y => lift (dCount (.tpx ds) y)
  | _ => no
theorem me_count {k : Nat} (hr : Room k X.A) (ho : PE X o (tB X.K c E fa)) (he : PE X e (tB X.K c E fb)) (m : Mb X o "count" e [] apos cpos := by exact ⟨by kernel_rfl, by kernel_rfl, by kernel_rfl, by kernel_rfl, by kernel_rfl⟩) :
    PE X (.Call (.Attribute o "count" apos) [e] [] cpos) (tM X.K c E (countE fa fb)) :=
  pe_imp (pe_bmX PySem.F.slot_tuple_count PySem.F.type_tuple_count (mt_countT hr) ho (pa_cons he pa_nil m.one) m) fun σ H Q h => by
    obtain ⟨W, ρ, S, st, en, q⟩ := tM_un h
    refine then_B (O := OutM X.K c W H E Q) st en (fun _ _ _ z => z) (fun z => z) q fun d S1 W1 H1 v st1 k1 r1 q1 => ?_
    cases d <;> first | exact (show False from q1).elim | skip
    rename_i ds
    obtain ⟨ad, vs, ob, rfl, h1, h2, h3⟩ := r1.tpo st1
    refine ⟨⟨ad, ob, vs, rfl, h1, h2⟩, ?_⟩
    refine then_B (O := OutM X.K c W H E Q) st1 (en.ext k1) (fun _ _ _ z => ErQ.pre z k1 st1) (fun z => z) q1 fun d2 S2 W2 H2 u st2 k2 r2 q2 => ?_
    obtain ⟨d', e', q3⟩ := lift_ok (β := D) (O := OutM X.K c W H E Q) (fun z => z) q2
    simp only [dCount] at e'
    split at e'
    · rename_i z
      rw [Bool.and_eq_true] at z
      cases e'
      obtain ⟨y1, y2⟩ := okEq_shaped st2 (r1.ext k2) z.1
      obtain ⟨y3, y4⟩ := okEq_shaped st2 r2 z.2
      refine ⟨u, d2.py, pyL ds, rfl, ?_, y3, y4, ?_, q3 W2 H2 _ st2 (k1.tr st1 k2) rfl⟩
      · simpa only [D.py] using y1
      · simpa only [D.py] using y2
    · cases e'
end
end Mini
namespace Mini
open PySem PySem.Spec PyProof.Rows L2 Evl
/-! ### the draws' state -/
def stIx (i : Nat) (k : Int) : FE := fun ρ S => match slot ρ i, S with
  | some .st, some ds => (match atI ds k with
    | some d => .ok d S
    | none => .no)
  | _, _ => .no
def stSet (i : Nat) (k : Int) (f : FE) : FS := fun ρ => bd (f ρ) fun d S => match slot ρ i, S with
  | some .st, some ds => (match ixN ds.length k with
    | some j => .ok (.nx ρ) (some (ds.set j d))
    | none => .no)
  | _, _ => .no
section
variable {X : Cx} {c : Cn} {E : XK} {a b e o tg : Expr} {es : List Expr} {fa fb fc fd : FE} {ga : FA} {x y : Str} {p pos apos cpos pa pos' : Pos} {i j : Nat}
theorem st_at {K : PySem.W.Frag} {W : Wd} {H : Hp} {ds : List D} {v : V} (st : StOk K c W H (some ds)) (r : Rep K c W .st v) : ∃ ad vs, v = .ref ad ∧ W.sa = some ad ∧ W.H0 ad = none ∧ H ad = some (.lst vs) ∧ RepL K c W ds vs := by
  obtain ⟨ad, rfl, h1⟩ := r
  obtain ⟨ad2, vs, h2, h3, h4, h5⟩ := st.ds
  rw [h1] at h2
  cases h2
  exact ⟨ad, vs, rfl, h1, h3, h4, h5⟩
theorem me_stIx {k : Int} {jj : Nat} {p2 : Pos} (hN : X.N[i]? = some x := by kernel_rfl) (hv : X.env.scope.names.lookup x = some .local := by kernel_rfl) (hd : (x == ("__debug__" : Str)) = false := by kernel_rfl) (hcd : (x == ("__classdict__" : Str)) = false := by kernel_rfl) :
    PE X (.Subscript (.Name x pa) (.Constant (.int k) jj p2) pos) (tM X.K c E (stIx i k)) := pe_imp (pe_ix ix_seq (pe_var hN (.inl hv) hd hcd) pe_int (fun _ _ => rfl)) fun σ H Q h => by
  obtain ⟨W, ρ, S, st, en, q⟩ := tM_un h
  unfold stIx at q
  split at q
  · rename_i ds e1
    split at q
    · rename_i d e2
      obtain ⟨v, h1, h2⟩ := en.vl i _ (slot_some e1)
      obtain ⟨ad, vs, rfl, h3, h4, h5, h6⟩ := st_at st h2
      obtain ⟨u, g1, g2⟩ := repL_at h6 e2
      exact ⟨_, h1, .inl ⟨ad, vs, k, u, rfl, rfl, SqL.of h5, g1, q W H u st (Keep.refl W H) g2⟩⟩
    · exact q.elim
  · exact q.elim
theorem st_set {K : PySem.W.Frag} {W : Wd} {H : Hp} {ds : List D} {ad : Addr} {vs : List V} {d : D} {u : V} (n : Nat) (st : StOk K c W H (some ds)) (h1 : W.sa = some ad) (h2 : W.H0 ad = none) (h3 : H ad = some (.lst vs)) (h4 : RepL K c W ds vs) (r : Rep K c W d u) :
    StOk K c W (upd H ad (.lst (vs.set n u))) (some (ds.set n d)) ∧ Keep W H W (upd H ad (.lst (vs.set n u))) := by
  refine ⟨⟨fun b o q => ?_, ad, _, h1, h2, upd_same, repL_set n h4 r⟩, WEx.refl W, fun b o q ns => ?_, fun _ _ _ z => z, fun _ _ _ z => z⟩
  · rw [upd_ne fun z => by rw [z, h2] at q; cases q]
    exact st.sub b o q
  · rw [upd_ne fun z => ns (by rw [z]; exact h1)]
    exact q
theorem ms_stSet {k : Int} {jj : Nat} {p2 : Pos} (he : PE X e (tM X.K c E fa)) (hN : X.N[i]? = some x := by kernel_rfl) (hv : X.env.scope.names.lookup x = some .local := by kernel_rfl) (hd : (x == ("__debug__" : Str)) = false := by kernel_rfl) (hcd : (x == ("__classdict__" : Str)) = false := by kernel_rfl)
    (hA : ∀ v, assign (.Subscript (.Name x pa) (.Constant (.int k) jj p2) pos') X.env v = (do
      let ov ← holding [v] (eval (.Name x pa) X.env)
      let iv ← holding [v, ov] (eval (.Constant (.int k) jj p2) X.env)
      standAt pos'
      holding [v, ov, iv] (setItem ov iv v)
      release [v, ov, iv] []) := by intro _; kernel_rfl)
    (hs : swapsWithSole [.Subscript (.Name x pa) (.Constant (.int k) jj p2) pos'] e pos.line X.env = pure false := by kernel_rfl) (hw : swappedStores [.Subscript (.Name x pa) (.Constant (.int k) jj p2) pos'] e X.env = pure none := by kernel_rfl)
    (h1 : (assignEach [.Subscript (.Name x pa) (.Constant (.int k) jj p2) pos'] X.env).map (·.2) = [assign (.Subscript (.Name x pa) (.Constant (.int k) jj p2) pos') X.env] := by kernel_rfl) :
    PS X (.Assign [.Subscript (.Name x pa) (.Constant (.int k) jj p2) pos'] e pos) (tS X.K c E (stSet i k fa)) := ps_imp (ps_asg he (pg_sub (pe_var hN (.inl hv) hd hcd) pe_int set_list hA) hs hw h1) fun D' σ H q => by
  obtain ⟨W, ρ, S, st, en, q⟩ := q
  refine thenS_M st en q fun d S1 W1 H1 v st1 en1 k1 r1 q1 => ?_
  split at q1
  · rename_i ds e1
    split at q1
    · rename_i n e2
      obtain ⟨u, g1, g2⟩ := en1.vl i _ (slot_some e1)
      obtain ⟨ad, vs, rfl, h3, h4, h5, h6⟩ := st_at st1 g2
      obtain ⟨st2, k2⟩ := st_set n st1 h3 h4 h5 h6 r1
      exact ⟨_, g1, ad, vs, k, n, rfl, rfl, h5, by rw [RepL.length h6]; exact e2, q1 W1 _ σ st2 (en1.ext k2) (k2.toStep st2)⟩
    · exact q1.elim
  · exact q1.elim
end
/-! ### a def that hands on a fresh object -/
def OutSO (K : PySem.W.Frag) (c : Cn) (W : Wd) (H : Hp) (σ : L2.St) (ρ : En) (E : XK) (D : Ends) : Res Mini.D → Prop
  | .ok d S' => ∀ W' H' v, StOk K c W' H' S' → KeepS W H σ ρ W' H' → RepO K c H W' H' d v → D.rt v H'
  | .er n p S' => ErS K c W H σ ρ E n p S'
  | .no => False
def tSO (K : PySem.W.Frag) (c : Cn) (E : XK) (g : FE) : TS := fun D σ H => ∃ W ρ S, StOk K c W H S ∧ EnvOk K c W H σ ρ ∧ OutSO K c W H σ ρ E D (g ρ S)
def seqO (g : FS) (h : FE) : FE := fun ρ => bd (g ρ) fun f => match f with
  | .nx ρ' => h ρ'
  | _ => no
section
variable {K : PySem.W.Frag} {c : Cn} {W W1 W2 W' : Wd} {H H1 H2 H' : Hp} {S S1 S2 S' : DS} {σ σ1 σ2 σ' : L2.St} {ρ ρ1 ρ2 ρ' : En} {E : XK}
theorem OutSO.pre {D : Ends} {r : Res Mini.D} (h : OutSO K c W H σ ρ E D r) (k : Step W H σ ρ W1 H1 σ1 ρ1) : OutSO K c W1 H1 σ1 ρ1 E D r := by
  cases r with
  | no => exact h
  | er n p S' => exact ErS.pre h k
  | ok d S' =>
    rintro W' H' v st' k' ⟨a, rfl, n1, n2⟩
    refine h W' H' _ st' (k.keepS k') ⟨a, rfl, ?_, n2⟩
    cases z : H a with
    | none => rfl
    | some o =>
      obtain ⟨o', z'⟩ := k.there a o z
      rw [n1] at z'
      cases z'
end
section
variable {X : Cx} {c : Cn} {E : XK} {st : Stmt} {rest : List Stmt} {e : Expr} {g : FS} {h fa : FE} {pos : Pos}
theorem mo_cons (h1 : PS X st (tS X.K c E g)) (h2 : PSs X rest (tSO X.K c E h)) : PSs X (st :: rest) (tSO X.K c E (seqO g h)) := ⟨fun pins s σ H D I q => by
  refine (pss_cons h1 h2).run pins s σ H D I ?_
  obtain ⟨W, ρ, S, st, en, q⟩ := q
  refine ⟨W, ρ, S, st, en, ?_⟩
  unfold seqO bd at q
  cases e : g ρ S with
  | no => rw [e] at q; exact q
  | er n p S' => rw [e] at q; exact q
  | ok f S' =>
    rw [e] at q
    cases f with
    | nx ρ' => exact fun W' H' σ' st' en' k' => ⟨W', ρ', S', st', en', OutSO.pre q k'⟩
    | bk ρ' => exact (show False from q).elim
    | ct ρ' => exact (show False from q).elim
    | rt d => exact (show False from q).elim⟩
theorem mo_ret (he : PE X e (tO X.K c E fa)) : PSs X [.Return (some e) pos] (tSO X.K c E fa) := ⟨fun pins s σ H D I q => by
  refine (pss_one (ps_ret he)).run pins s σ H D I ?_
  obtain ⟨W, ρ, S, st, en, q⟩ := q
  refine tO_mk st en ?_
  cases e : fa ρ S with
  | no => rw [e] at q; exact q
  | er n p S' => rw [e] at q; exact ErS.q q
  | ok d S' => rw [e] at q; exact fun W' H' v st' k' r => q W' H' v st' (k'.toS st') r⟩
end
def fnO (np ns : Nat) (b : FE) : List D → M D := fun ds => if ds.length = np then b (enter ns ds) else no
theorem fn_miniO {P : Program} {w : World} {K : PySem.W.Frag} {mg : Str → Option Value} {base : Heap} {c : Cn} {x qual : Str} {st : Stmt} {f : Addr} {fd : FuncData} {N ps : List Str} {k : Nat} {b : FE} (F : Fun K x qual st f fd) (S : FnScope N ps (defScope st))
    (hbody : ∀ (cdv : Value) (A : Around) (outer : List Env) (s : Shared) (H : Hp) (E : XK), Room k (A.deeper (envOfC qual (defScope st) s.heap.objs.size f cdv)) → A.guards = some [] →
      PSs (cxOf (L2.CX P w) P w K mg base N qual (defScope st) f cdv A outer s H E) (defBody st) (tSO K c E b)) : FnG P w K mg base (L2.CX P w) (k + 1) f fd ps (spO K c (fnO ps.length N.length b)) := by
  obtain ⟨oc, od, kV, doc, pm, an, cdv, ct, osl, rfl, lk, hcd⟩ := F.ex
  have hpl : ps.length ≤ N.length := by
    have := congrArg List.length S.pre
    rw [List.length_take] at this
    omega
  have len : ∀ vs H Q E, spO K c (fnO ps.length N.length b) vs H Q E → vs.length = ps.length := fun vs H Q E h => by
    obtain ⟨W, ds, S', st', r, q⟩ := h
    unfold fnO at q
    split at q
    · rw [RepL.length r]; assumption
    · exact q.elim
  refine fnG_of lk hcd S len fun A outer s H vs Q E hr hg h => ⟨_, hbody cdv A outer s H E hr hg, ?_⟩
  have hl := len vs H Q E h
  obtain ⟨W, ds, S', st', r, q⟩ := h
  unfold fnO at q
  rw [if_pos (by rw [← RepL.length r]; exact hl)] at q
  refine ⟨W, enter N.length ds, S', st', enter_ok r (by omega), ?_⟩
  cases e : b (enter N.length ds) S' with
  | no => rw [e] at q; exact q
  | er n p S2 => rw [e] at q; exact fun W2 H2 dd v st2 k2 => q W2 H2 dd v st2 (k2.toKeep fun b => enter_owned)
  | ok d S2 => rw [e] at q; exact fun W2 H2 v st2 k2 r2 => q W2 H2 v st2 (k2.toKeep fun b => enter_owned) r2
/-- state = start(script) -/
def mkS (i : Nat) (F : List D → M D) (a : FA) : FS := fun ρ => bd (a ρ) fun xs S => match S with
  | none => (match F xs none with
    | .ok (.lst ds) none => .ok (.nx (setV i .st ρ)) (some ds)
    | _ => .no)
  | some _ => .no
section
variable {X : Cx} {c : Cn} {E : XK} {T : CXT} {k : Nat} {f : Addr} {fd : FuncData} {ps : List Str} {F : List D → M D} {x y : Str} {p pos pos' : Pos} {e : Expr} {es : List Expr} {ga : FA} {i : Nat}
theorem ms_mk (hN : X.N.Nodup) (G : FnG X.prog X.w X.K X.mg X.base T k f fd ps (spO X.K c F)) (hr : Room k X.A) (gd : X.A.guards = some []) (hm : X.mg x = some (.ref f)) (hk : PySem.W.keepIn X.K (.ref f) = true) (hb : Binds X.K fd ps []) (hx : Passes T X E)
    (ha : PA X (e :: es) (tA X.K c E ga)) (hi : X.N[i]? = some y := by kernel_rfl) (hy : X.env.scope.names.lookup y = some .local := by kernel_rfl) (hg : X.env.kindOf x = some .globalImplicit := by kernel_rfl) (hdb : (x == ("__debug__" : Str)) = false := by kernel_rfl) (he : starEach (e :: es) X.env = (false, eval e X.env) :: starEach es X.env := by kernel_rfl) (hpl : (backTo pos (starEach es X.env)).any (·.1) = false := by kernel_rfl)
    {spos : Pos} (hs' : swapsWith (.Call (.Name x p) (e :: es) [] pos) (some (.Name y pos')) spos.line X.env = pure false := by kernel_rfl) :
    PS X (.Assign [.Name y pos'] (.Call (.Name x p) (e :: es) [] pos) spos) (tS X.K c E (mkS i F ga)) :=
  ps_imp (ps_set hN hi (.inl hy) (pe_callG G hr gd hg hm hk hb .nil hx ha hdb he hpl) hs' (.inr hy)) fun D' σ H q => by
    obtain ⟨W, ρ, S, st, en, q⟩ := q
    refine then_A (O := OutS X.K c W H σ ρ E D') st en (fun _ _ _ z => ErS.q z) (fun z => z) q fun ds S1 W1 H1 vs st1 k1 r1 q1 => ?_
    rw [List.append_nil]
    cases S1 with
    | some _ => exact (show False from q1).elim
    | none =>
      dsimp only at q1
      refine ⟨W1, ds, none, st1, r1, ?_⟩
      cases e1 : F ds none with
      | no => rw [e1] at q1; exact (show False from q1).elim
      | er n pp S' => rw [e1] at q1; exact (show False from q1).elim
      | ok d S' =>
        rw [e1] at q1
        cases d <;> first | exact (show False from q1).elim | skip
        cases S' <;> first | exact (show False from q1).elim | skip
        rintro W2 H2 v st2 k2 ⟨ad, rfl, n1, n2, n3, us, n4, n5⟩
        have sn : W2.sa = none := st2.ds
        have wx : WEx W2 ⟨W2.H0, some ad⟩ := ⟨Ex.refl _, fun b z => by rw [sn] at z; cases z⟩
        have k12 := k1.tr st1 k2
        have s1n : W.sa = none := by
          cases z : W.sa with
          | none => rfl
          | some b => rw [k12.wex.2 b z] at sn; cases sn
        have n0 : H ad = none := by
          cases z : H ad with
          | none => rfl
          | some o => rw [k1.old ad o z (by rw [s1n]; intro q; cases q)] at n1; cases n1
        have st3 : StOk X.K c ⟨W2.H0, some ad⟩ H2 (some _) := ⟨st2.sub, ad, us, rfl, n2, n4, RepL.ext wx _ us n5⟩
        have k3 : Keep W H ⟨W2.H0, some ad⟩ H2 := ⟨k12.wex.trans wx, k12.old, k12.fr, fun b o z e => by cases e; rw [n0] at z; cases z⟩
        have rr : Rep X.K c ⟨W2.H0, some ad⟩ D.st (V.ref ad) := ⟨ad, rfl, rfl⟩
        exact q1 _ H2 _ st3 ((en.ext k3).setV rr i) ⟨k3.toS st3, fun b z => .inr (owned_setV z)⟩
end
end Mini
namespace Mini
open PySem PySem.Spec PyProof.Rows L2 Evl
/-! ### the end, by the head's facts -/
def fd0 : FuncData := PySem.W.fnOf "" "" ⟨[], [], none, [], [], none, []⟩ [] ⟨.function, [], false, false, []⟩ .none .none .none .none none .none .none
def fdA (K : PySem.W.Frag) (a : Addr) : FuncData := match K.lookup a with
  | some ⟨_, _, .func fd, _⟩ => fd
  | _ => fd0
theorem fdA_of {K : PySem.W.Frag} {x qual : Str} {params : Arguments} {bodyS : List Stmt} {sc : Scope} {dvs : List V} {kws : List (Str × V)} {f : Addr} (h : ∃ fd, FunD K x qual params bodyS sc dvs kws f fd) : FunD K x qual params bodyS sc dvs kws f (fdA K f) := by
  obtain ⟨fd, F⟩ := h
  have e : fdA K f = fd := by
    obtain ⟨oc, od, dV, kV, doc, pm, an, cdv, ct, osl, e1, lk, _⟩ := F.ex
    unfold fdA
    rw [lk]
  rw [e]
  exact F
theorem fn_miniDD {P : Program} {w : World} {K : PySem.W.Frag} {mg : Str → Option Value} {base : Heap} {c : Cn} {x qual : Str} {params : Arguments} {bodyS : List Stmt} {sc : Scope} {dvs : List V} {kws : List (Str × V)} {f : Addr} {fd : FuncData} {N ps : List Str} {k : Nat} {b : FS} (F : FunD K x qual params bodyS sc dvs kws f fd) (S : FnScope N ps sc)
    (hbody : ∀ (cdv : Value) (A : Around) (outer : List Env) (s : Shared) (H : Hp) (E : XK), Room k (A.deeper (envOfC qual sc s.heap.objs.size f cdv)) → A.guards = some [] →
      PSs (cxOf (L2.CX P w) P w K mg base N qual sc f cdv A outer s H E) bodyS (tS K c E b)) : FnG P w K mg base (L2.CX P w) (k + 1) f fd ps (spM K c (fnD ps.length N.length b)) := by
  obtain ⟨oc, od, dV, kV, doc, pm, an, cdv, ct, osl, rfl, lk, hcd, _⟩ := F.ex
  exact fn_miniD lk hcd S (hbody cdv)
theorem fn_miniOD {P : Program} {w : World} {K : PySem.W.Frag} {mg : Str → Option Value} {base : Heap} {c : Cn} {x qual : Str} {params : Arguments} {bodyS : List Stmt} {sc : Scope} {dvs : List V} {kws : List (Str × V)} {f : Addr} {fd : FuncData} {N ps : List Str} {k : Nat} {b : FE} (F : FunD K x qual params bodyS sc dvs kws f fd) (S : FnScope N ps sc)
    (hbody : ∀ (cdv : Value) (A : Around) (outer : List Env) (s : Shared) (H : Hp) (E : XK), Room k (A.deeper (envOfC qual sc s.heap.objs.size f cdv)) → A.guards = some [] →
      PSs (cxOf (L2.CX P w) P w K mg base N qual sc f cdv A outer s H E) bodyS (tSO K c E b)) : FnG P w K mg base (L2.CX P w) (k + 1) f fd ps (spO K c (fnO ps.length N.length b)) := by
  obtain ⟨oc, od, dV, kV, doc, pm, an, cdv, ct, osl, rfl, lk, hcd, _⟩ := F.ex
  have hpl : ps.length ≤ N.length := by
    have := congrArg List.length S.pre
    rw [List.length_take] at this
    omega
  have len : ∀ vs H Q E, spO K c (fnO ps.length N.length b) vs H Q E → vs.length = ps.length := fun vs H Q E h => by
    obtain ⟨W, ds, S', st', r, q⟩ := h
    unfold fnO at q
    split at q
    · rw [RepL.length r]; assumption
    · exact q.elim
  refine fnG_of lk hcd S len fun A outer s H vs Q E hr hg h => ⟨_, hbody cdv A outer s H E hr hg, ?_⟩
  have hl := len vs H Q E h
  obtain ⟨W, ds, S', st', r, q⟩ := h
  unfold fnO at q
  rw [if_pos (by rw [← RepL.length r]; exact hl)] at q
  refine ⟨W, enter N.length ds, S', st', enter_ok r (by omega), ?_⟩
  cases e : b (enter N.length ds) S' with
  | no => rw [e] at q; exact q
  | er n p S2 => rw [e] at q; exact fun W2 H2 dd v st2 k2 => q W2 H2 dd v st2 (k2.toKeep fun b => enter_owned)
  | ok d S2 => rw [e] at q; exact fun W2 H2 v st2 k2 r2 => q W2 H2 v st2 (k2.toKeep fun b => enter_owned) r2
theorem mini_walkE {l : PySem.W.OpenLaw} {n k : Nat} {q : Program} {loose : List Str} {XP : (Str → Option Value) → Heap → Prop} {YP : World → Heap → Prop} {d : DefRec} {x : Str} {F : List D → M D}
    (hn : l.most = some n) (hn2 : n ≤ sizeLine) (hdf : d.params.defaults = []) (hr : Room k callerA)
    (G : ∀ (w : World) (mg : Str → Option Value) (fa : Addr) (h : Heap), YP w h → h.Ns mainGlobals mg → mg d.name = some (.ref fa) →
      ∃ (K : PySem.W.Frag) (c : Cn) (fd : FuncData), K.In h ∧ (∀ (s : Shared) (u : Value), BindsTo s fd ⟨[u], []⟩ [(x, u)]) ∧ ∀ base : Heap, K.In base → base.Ns mainGlobals mg → FnG l.prog w K mg base (L2.CX l.prog w) k fa fd [x] (spM K c F))
    (val : ∀ ns : List Int, ns.length ≤ n → ∃ S', F [.scr ns] none = .ok (.bl true) S') :
    PySem.W.WalkO q loose XP YP l.row.toRowW d [] (fun f vs => PySem.call f vs) := by
  refine Att.attach_call hn hdf fun w s₀ s₁ mg mb fa o pm cd doc a vs ns Gr Y ho hd hcd hmg hobj hints hlen hg => ?_
  obtain ⟨K, c, fd, KX, hb, hG⟩ := G w mg fa _ Y Gr.T.g hmg
  exact run_law KX Gr.T.g Gr.T.b Gr.T.builtins Gr.T.nolimit hg hobj hints (Nat.le_trans hlen hn2) hr hG hb (val ns hlen)
end Mini
namespace Mini
open PySem PySem.Spec PyProof.Rows L2 Evl
/-! ### several names at once, own objects among them -/
def ownV : List Bool → List V → List V
  | true :: fs, v :: vs => v :: ownV fs vs
  | false :: fs, _ :: vs => ownV fs vs
  | _, _ => []
def RepF (K : PySem.W.Frag) (c : Cn) (H0 : Hp) (W : Wd) (H : Hp) : List Bool → List D → List V → Prop
  | [], [], [] => True
  | true :: fs, d :: ds, v :: vs => RepO K c H0 W H d v ∧ v ∉ ownV fs vs ∧ RepF K c H0 W H fs ds vs
  | false :: fs, d :: ds, v :: vs => Rep K c W d v ∧ RepF K c H0 W H fs ds vs
  | _, _, _ => False
def OutF (K : PySem.W.Frag) (c : Cn) (W : Wd) (H : Hp) (E : XK) (fs : List Bool) (Q : List V → Hp → Prop) : Res (List D) → Prop
  | .ok ds S' => ∀ W' H' vs, StOk K c W' H' S' → Keep W H W' H' → RepF K c H W' H' fs ds vs → Q vs H'
  | .er n p S' => ErQ K c W H E n p S'
  | .no => False
def tF (K : PySem.W.Frag) (c : Cn) (E : XK) (fs : List Bool) (g : FA) : TA := fun σ H Q => ∃ W ρ S, StOk K c W H S ∧ EnvOk K c W H σ ρ ∧ OutF K c W H E fs Q (g ρ S)
def stV : List Nat → List V → L2.St → L2.St
  | i :: is, v :: vs, σ => stV is vs (σ.set i (some v))
  | _, _, σ => σ
def stF : List Bool → List Nat → List D → En → En
  | true :: fs, i :: is, d :: ds, ρ => stF fs is ds (setO i d ρ)
  | false :: fs, i :: is, d :: ds, ρ => stF fs is ds (setV i d ρ)
  | _, _, _, ρ => ρ
def unpS (fs : List Bool) (is : List Nat) (a : FA) : FS := fun ρ => bd (a ρ) fun ds => if ds.length = is.length ∧ is.length ≤ 100 then rt (.nx (stF fs is ds ρ)) else no
section
variable {K : PySem.W.Frag} {c : Cn} {W W1 W2 W' : Wd} {H H1 H2 H' H0 : Hp} {S S1 S2 S' : DS} {σ σ1 σ2 σ' : L2.St} {ρ ρ1 ρ2 ρ' : En} {E : XK}
theorem RepF.ext (k : Keep W H W' H') : ∀ {fs : List Bool} {ds : List D} {vs : List V}, RepF K c H0 W H fs ds vs → RepF K c H0 W' H' fs ds vs
  | [], [], [], _ => True.intro
  | true :: fs, d :: ds, v :: vs, ⟨h1, h2, h3⟩ => ⟨RepO.ext k h1, h2, RepF.ext k h3⟩
  | false :: fs, d :: ds, v :: vs, ⟨h1, h2⟩ => ⟨Rep.ext k.wex d v h1, RepF.ext k h2⟩
  | [], d :: ds, vs, h => by cases h
  | [], [], v :: vs, h => by cases h
  | true :: fs, [], vs, h => by cases h
  | false :: fs, [], vs, h => by cases h
  | true :: fs, d :: ds, [], h => by cases h
  | false :: fs, d :: ds, [], h => by cases h
theorem RepF.pre (k : Keep W H W1 H1) (hs : ∀ b, W.sa = some b → ∃ o, H1 b = some o) : ∀ {fs : List Bool} {ds : List D} {vs : List V}, RepF K c H1 W' H' fs ds vs → RepF K c H W' H' fs ds vs
  | [], [], [], _ => True.intro
  | true :: fs, d :: ds, v :: vs, ⟨h1, h2, h3⟩ => ⟨RepO.pre (H0 := H) k hs h1, h2, RepF.pre k hs h3⟩
  | false :: fs, d :: ds, v :: vs, ⟨h1, h2⟩ => ⟨h1, RepF.pre k hs h2⟩
  | [], d :: ds, vs, h => by cases h
  | [], [], v :: vs, h => by cases h
  | true :: fs, [], vs, h => by cases h
  | false :: fs, [], vs, h => by cases h
  | true :: fs, d :: ds, [], h => by cases h
  | false :: fs, d :: ds, [], h => by cases h
theorem RepF.own : ∀ {fs : List Bool} {ds : List D} {vs : List V}, RepF K c H0 W H fs ds vs → ∀ v ∈ ownV fs vs, ∃ a, v = .ref a ∧ H0 a = none
  | [], [], [], _ => fun v h => by cases h
  | true :: fs, d :: ds, v :: vs, ⟨h1, h2, h3⟩ => fun u h => by
    rcases List.mem_cons.mp h with rfl | h
    · obtain ⟨a, e, n, _⟩ := h1
      exact ⟨a, e, n⟩
    · exact RepF.own h3 u h
  | false :: fs, d :: ds, v :: vs, ⟨h1, h2⟩ => fun u h => RepF.own h2 u h
  | [], d :: ds, vs, h => by cases h
  | [], [], v :: vs, h => by cases h
  | true :: fs, [], vs, h => by cases h
  | false :: fs, [], vs, h => by cases h
  | true :: fs, d :: ds, [], h => by cases h
  | false :: fs, d :: ds, [], h => by cases h
theorem RepF.length : ∀ {fs : List Bool} {ds : List D} {vs : List V}, RepF K c H0 W H fs ds vs → vs.length = ds.length
  | [], [], [], _ => rfl
  | true :: fs, d :: ds, v :: vs, ⟨h1, h2, h3⟩ => by rw [List.length_cons, List.length_cons, RepF.length h3]
  | false :: fs, d :: ds, v :: vs, ⟨h1, h2⟩ => by rw [List.length_cons, List.length_cons, RepF.length h2]
  | [], d :: ds, vs, h => by cases h
  | [], [], v :: vs, h => by cases h
  | true :: fs, [], vs, h => by cases h
  | false :: fs, [], vs, h => by cases h
  | true :: fs, d :: ds, [], h => by cases h
  | false :: fs, d :: ds, [], h => by cases h
theorem stF_ok : ∀ {fs : List Bool} {is : List Nat} {ds : List D} {vs : List V} {σ : L2.St} {ρ : En}, EnvOk K c W H σ ρ → RepF K c H0 W H fs ds vs → ds.length = is.length → (∀ a, V.ref a ∈ ownV fs vs → ¬ Owned σ ρ a) →
    EnvOk K c W H (stV is vs σ) (stF fs is ds ρ) ∧ ∀ b, Owned (stV is vs σ) (stF fs is ds ρ) b → H0 b = none ∨ Owned σ ρ b
  | [], is, [], [], σ, ρ, en, _, hl, _ => by
    cases is with
    | nil => exact ⟨en, fun b h => .inr h⟩
    | cons i is => cases hl
  | true :: fs, is, d :: ds, v :: vs, σ, ρ, en, ⟨h1, h2, h3⟩, hl, hn => by
    cases is with
    | nil => cases hl
    | cons i is =>
      obtain ⟨a, rfl, n1, n2, n3, ow⟩ := h1
      have na : ¬ Owned σ ρ a := hn a (List.mem_cons_self)
      obtain ⟨e1, e2⟩ := stF_ok (is := is) (en.setO na n2 n3 ow i) h3 (by simpa using hl) fun b hb z => by
        rcases owned_setO z with rfl | z
        · exact h2 hb
        · exact hn b (List.mem_cons_of_mem _ hb) z
      refine ⟨e1, fun b hb => ?_⟩
      rcases e2 b hb with z | z
      · exact .inl z
      · rcases owned_setO z with rfl | z
        · exact .inl n1
        · exact .inr z
  | false :: fs, is, d :: ds, v :: vs, σ, ρ, en, ⟨h1, h2⟩, hl, hn => by
    cases is with
    | nil => cases hl
    | cons i is =>
      obtain ⟨e1, e2⟩ := stF_ok (is := is) (en.setV h1 i) h2 (by simpa using hl) fun b hb z => hn b hb (owned_setV z)
      refine ⟨e1, fun b hb => ?_⟩
      rcases e2 b hb with z | z
      · exact .inl z
      · exact .inr (owned_setV z)
  | [], is, d :: ds, vs, σ, ρ, _, h, _, _ => by cases h
  | [], is, [], v :: vs, σ, ρ, _, h, _, _ => by cases h
  | true :: fs, is, [], vs, σ, ρ, _, h, _, _ => by cases h
  | false :: fs, is, [], vs, σ, ρ, _, h, _, _ => by cases h
  | true :: fs, is, d :: ds, [], σ, ρ, _, h, _, _ => by cases h
  | false :: fs, is, d :: ds, [], σ, ρ, _, h, _, _ => by cases h
theorem then_F {fs : List Bool} {f : FA} {β : Type} {g : List D → M β} {Q : List V → Hp → Prop} {O : Res β → Prop} (st : StOk K c W H S) (en : EnvOk K c W H σ ρ) (hO : ∀ n p S', O (.er n p S') → ErQ K c W H E n p S') (hN : ¬ O .no)
    (h : O (bd (f ρ) g S)) (k : ∀ d S' W' H' v, StOk K c W' H' S' → Keep W H W' H' → RepF K c H W' H' fs d v → O (g d S') → Q v H') : tF K c E fs f σ H Q := by
  refine ⟨W, ρ, S, st, en, ?_⟩
  unfold bd at h
  cases z : f ρ S with
  | no => rw [z] at h; exact hN h
  | er n p S' => rw [z] at h; exact hO n p S' h
  | ok d S' => rw [z] at h; exact fun W' H' v st' k' r => k d S' W' H' v st' k' r h
end
section
variable {X : Cx} {c : Cn} {E : XK} {a b e o tg : Expr} {es ts : List Expr} {fa fb fc fd : FE} {ga : FA} {x y z : Str} {p pos apos cpos pa pos' : Pos} {i j l : Nat} {fs : List Bool} {is : List Nat}
theorem mf_nil : PA X [] (tF X.K c E [] nilA) := pa_imp pa_nil fun σ H Q h => by
  obtain ⟨W, ρ, S, st, en, q⟩ := h
  exact q W H [] st (Keep.refl W H) True.intro
theorem mf_V (ha : PE X e (tM X.K c E fa)) (hr : PA X es (tF X.K c E fs ga)) (hs : starEach (e :: es) X.env = (false, eval e X.env) :: starEach es X.env := by kernel_rfl) : PA X (e :: es) (tF X.K c E (false :: fs) (consA fa ga)) :=
  pa_imp (pa_cons ha hr hs) fun σ H Q h => by
    obtain ⟨W, ρ, S, st, en, q⟩ := h
    refine then_M (O := OutF X.K c W H E (false :: fs) Q) st en (fun _ _ _ z => z) (fun z => z) q fun d S1 W1 H1 v st1 k1 r1 q1 => ?_
    refine then_F (O := OutF X.K c W H E (false :: fs) Q) st1 (en.ext k1) (fun _ _ _ z => ErQ.pre z k1 st1) (fun z => z) q1 fun ds S2 W2 H2 vs st2 k2 r2 q2 => ?_
    exact q2 W2 H2 _ st2 (k1.tr st1 k2) ⟨Rep.ext k2.wex d v r1, RepF.pre k1 (fun b e => st1.ds.at (k1.wex.2 b e)) r2⟩
theorem mf_O (ha : PE X e (tO X.K c E fa)) (hr : PA X es (tF X.K c E fs ga)) (hs : starEach (e :: es) X.env = (false, eval e X.env) :: starEach es X.env := by kernel_rfl) : PA X (e :: es) (tF X.K c E (true :: fs) (consA fa ga)) :=
  pa_imp (pa_cons ha hr hs) fun σ H Q h => by
    obtain ⟨W, ρ, S, st, en, q⟩ := h
    refine then_O (O := OutF X.K c W H E (true :: fs) Q) st en (fun _ _ _ z => z) (fun z => z) q fun d S1 W1 H1 v st1 k1 r1 q1 => ?_
    refine then_F (O := OutF X.K c W H E (true :: fs) Q) st1 (en.ext k1) (fun _ _ _ z => ErQ.pre z k1 st1) (fun z => z) q1 fun ds S2 W2 H2 vs st2 k2 r2 q2 => ?_
    refine q2 W2 H2 _ st2 (k1.tr st1 k2) ⟨RepO.ext k2 r1, fun hm => ?_, RepF.pre k1 (fun b e => st1.ds.at (k1.wex.2 b e)) r2⟩
    obtain ⟨ad, e1, n1⟩ := RepF.own r2 v hm
    obtain ⟨ad2, e2, _, _, _, ow⟩ := r1
    rw [e2] at e1
    cases e1
    obtain ⟨o, ho⟩ := ow.some
    rw [n1] at ho
    cases ho
def tNm (is : List Nat) : TGs := fun vs σ H Q => vs.length = is.length ∧ Q (stV is vs σ) H
theorem mn_nil : PGs X [] (tNm []) := pgs_imp pgs_nil fun vs σ H Q h => by
  obtain ⟨h1, h2⟩ := h
  cases vs with
  | nil => exact ⟨rfl, h2⟩
  | cons v vs => cases h1
theorem mn_cons0 (hN : X.N.Nodup) (hi : X.N[i]? = some x) (hx : Loc X.env.scope x) (hf : X.fn x = true ∨ X.env.scope.names.lookup x = some .local) (hr : PGs X es (tNm is)) (hs : (assignEach (.Name x p :: es) X.env).map (·.2) = assign (.Name x p) X.env :: (assignEach es X.env).map (·.2)) :
    PGs X (.Name x p :: es) (tNm (i :: is)) := pgs_imp (pgs_cons (pg_name hN hi hx hf) hr hs) fun vs σ H Q h => by
  obtain ⟨h1, h2⟩ := h
  cases vs with
  | nil => cases h1
  | cons v vs => exact ⟨v, vs, rfl, by simpa using h1, h2⟩
theorem mn_L (hN : X.N.Nodup) (hr : PGs X es (tNm is)) (hi : X.N[i]? = some x := by kernel_rfl) (hx : X.env.scope.names.lookup x = some .local := by kernel_rfl) (hs : (assignEach (.Name x p :: es) X.env).map (·.2) = assign (.Name x p) X.env :: (assignEach es X.env).map (·.2) := by kernel_rfl) :
    PGs X (.Name x p :: es) (tNm (i :: is)) := mn_cons0 hN hi (.inl hx) (.inr hx) hr hs
theorem mn_C (hN : X.N.Nodup) (hr : PGs X es (tNm is)) (hi : X.N[i]? = some x := by kernel_rfl) (hx : X.env.scope.names.lookup x = some .cell := by kernel_rfl) (hf : X.fn x = true := by kernel_rfl) (hs : (assignEach (.Name x p :: es) X.env).map (·.2) = assign (.Name x p) X.env :: (assignEach es X.env).map (·.2) := by kernel_rfl) :
    PGs X (.Name x p :: es) (tNm (i :: is)) := mn_cons0 hN hi (.inr hx) (.inl hf) hr hs
/-- by a tuple that is laid and taken apart -/
theorem ms_unp {kt k2 : Nat} {pt pt2 : Pos} (hc : X.calm = true) (ha : PA X es (tF X.K c E fs ga)) (hg : PGs X ts (tNm is)) (hn : (assignEach ts X.env).length = is.length := by kernel_rfl) (hst : (assignEach ts X.env).findIdx? (·.1) = none := by kernel_rfl)
    (hs : swapsWithSole [.Tuple ts kt pt] (.Tuple es k2 pt2) pos.line X.env = pure false := by kernel_rfl) (hw : swappedStores [.Tuple ts kt pt] (.Tuple es k2 pt2) X.env = pure none := by kernel_rfl)
    (h1 : (assignEach [.Tuple ts kt pt] X.env).map (·.2) = [assign (.Tuple ts kt pt) X.env] := by kernel_rfl) : PS X (.Assign [.Tuple ts kt pt] (.Tuple es k2 pt2) pos) (tS X.K c E (unpS fs is ga)) :=
  ps_imp (ps_asg (pe_tup ha) (pg_tup hc hg hn hst) hs hw h1) fun D' σ H q => by
    obtain ⟨W, ρ, S, st, en, q⟩ := q
    refine then_F (O := OutS X.K c W H σ ρ E D') st en (fun _ _ _ z => ErS.q z) (fun z => z) q fun ds S1 W1 H1 vs st1 k1 r1 q1 => ?_
    split at q1
    · rename_i hl
      have hv := RepF.length r1
      have few : vs.length ≤ sizeLine := by
        rw [hv, hl.1]
        exact line_le (Nat.le_trans hl.2 (by decide))
      refine ⟨few, fun t ht => ?_⟩
      have st2 := new_st (o := .tup vs) st1 ht
      have k2' : Keep W1 H1 W1 (upd H1 t (.tup vs)) := new_keep st1 ht
      have k12 := k1.tr st1 k2'
      obtain ⟨e1, e2⟩ := stF_ok (en.ext k12) (RepF.ext k2' r1) hl.1 fun ad hm => by
        obtain ⟨ad', e3, n3⟩ := RepF.own r1 _ hm
        cases e3
        exact fresh_not en n3
      refine ⟨t, vs, rfl, SqT.of upd_same, by rw [hv]; exact hl.1, by rw [hv]; exact hl.1, ?_⟩
      exact q1 W1 _ _ st2 e1 ⟨k12.toS st2, fun b z => e2 b z⟩
    · exact q1.elim
/-- three plain names, three values -/
theorem ms_par3 {kt k2 : Nat} {pt pt2 px py pz : Pos} {d : Expr} (hc : X.calm = true) (hN : X.N.Nodup) (ha : PA X [a, b, d] (tF X.K c E fs ga)) (hi : X.N[i]? = some x := by kernel_rfl) (hj : X.N[j]? = some y := by kernel_rfl) (hl : X.N[l]? = some z := by kernel_rfl) (hij : i ≠ j := by decide) (hil : i ≠ l := by decide) (hjl : j ≠ l := by decide)
    (hx : X.env.scope.names.lookup x = some .local := by kernel_rfl) (hy : X.env.scope.names.lookup y = some .local := by kernel_rfl) (hz : X.env.scope.names.lookup z = some .local := by kernel_rfl)
    (hw : swappedStores [.Tuple [.Name x px, .Name y py, .Name z pz] kt pt] (.Tuple [a, b, d] k2 pt2) X.env = pure (some [x, y, z]) := by kernel_rfl)
    (hs : swapsWithSole [.Tuple [.Name x px, .Name y py, .Name z pz] kt pt] (.Tuple [a, b, d] k2 pt2) pos.line X.env = pure false := by kernel_rfl) :
    PS X (.Assign [.Tuple [.Name x px, .Name y py, .Name z pz] kt pt] (.Tuple [a, b, d] k2 pt2) pos) (tS X.K c E (unpS fs [i, j, l] ga)) :=
  ps_imp (ps_par3 hc hN hi hj hl hij hil hjl hx hy hz ha hw hs) fun D' σ H q => by
    obtain ⟨W, ρ, S, st, en, q⟩ := q
    refine then_F (O := OutS X.K c W H σ ρ E D') st en (fun _ _ _ z => ErS.q z) (fun z => z) q fun ds S1 W1 H1 vs st1 k1 r1 q1 => ?_
    split at q1
    · rename_i hl
      have hv := (RepF.length r1).trans hl.1
      obtain ⟨e1, e2⟩ := stF_ok (en.ext k1) r1 hl.1 fun ad hm => by
        obtain ⟨ad', e3, n3⟩ := RepF.own r1 _ hm
        cases e3
        exact fresh_not en n3
      match vs, hv, e1, e2 with
      | [u, v, w], _, e1, e2 => exact ⟨u, v, w, rfl, q1 W1 H1 _ st1 e1 ⟨k1.toS st1, fun b z => e2 b z⟩⟩
    · exact q1.elim
end
end Mini
namespace Mini
open PySem PySem.Spec PyProof.Rows
open L2 (atI ixN atI_nat)
/-! ## plain part: loops -/
/-- a for loop by an invariant: no way out -/
theorem forL_inv {t : TGd} {b : FS} {ds : List D} (I : Nat → En → DS → Prop) (hs : ∀ i d ρ S, ds[i]? = some d → I i ρ S → ∃ ρ1 ρ' S', t d ρ = some ρ1 ∧ (b ρ1 S = .ok (.nx ρ') S' ∨ b ρ1 S = .ok (.ct ρ') S') ∧ I (i + 1) ρ' S') {ρ : En} {S : DS} (h0 : I 0 ρ S) :
    ∃ ρ' S', forL t b ds ρ S = .ok (.nx ρ') S' ∧ I ds.length ρ' S' := by
  have go : ∀ (es : List D) (k : Nat), (∀ j, es[j]? = ds[k + j]?) → k + es.length = ds.length → ∀ ρ S, I k ρ S → ∃ ρ' S', forL t b es ρ S = .ok (.nx ρ') S' ∧ I ds.length ρ' S' := by
    intro es
    induction es with
    | nil =>
      intro k _ hl ρ S h
      have e : k = ds.length := by simpa using hl
      subst e
      exact ⟨ρ, S, rfl, h⟩
    | cons d es ih =>
      intro k hk hl ρ S h
      have h1 := hk 0
      rw [List.getElem?_cons_zero, Nat.add_zero] at h1
      obtain ⟨ρ1, ρ', S', e1, e2, e3⟩ := hs k d ρ S h1.symm h
      obtain ⟨ρ2, S2, e4, e5⟩ := ih (k + 1) (fun j => by have := hk (j + 1); rw [List.getElem?_cons_succ] at this; rw [this]; congr 1; omega) (by rw [List.length_cons] at hl; omega) ρ' S' e3
      refine ⟨ρ2, S2, ?_, e5⟩
      rcases e2 with e2 | e2 <;> simp only [forL, bd, e1, lift, rt, e2, e4]
  exact go ds 0 (fun j => by rw [Nat.zero_add]) (by omega) ρ S h0
/-- .. or a way out by return -/
theorem forL_ret {t : TGd} {b : FS} {ds : List D} (I : Nat → En → DS → Prop) (R : D → DS → Prop) (hs : ∀ i d ρ S, ds[i]? = some d → I i ρ S → ∃ ρ1, t d ρ = some ρ1 ∧ ((∃ ρ' S', b ρ1 S = .ok (.nx ρ') S' ∧ I (i + 1) ρ' S') ∨ ∃ v S', b ρ1 S = .ok (.rt v) S' ∧ R v S')) {ρ : En} {S : DS} (h0 : I 0 ρ S) :
    (∃ ρ' S', forL t b ds ρ S = .ok (.nx ρ') S' ∧ I ds.length ρ' S') ∨ ∃ v S', forL t b ds ρ S = .ok (.rt v) S' ∧ R v S' := by
  have go : ∀ (es : List D) (k : Nat), (∀ j, es[j]? = ds[k + j]?) → k + es.length = ds.length → ∀ ρ S, I k ρ S → (∃ ρ' S', forL t b es ρ S = .ok (.nx ρ') S' ∧ I ds.length ρ' S') ∨ ∃ v S', forL t b es ρ S = .ok (.rt v) S' ∧ R v S' := by
    intro es
    induction es with
    | nil =>
      intro k _ hl ρ S h
      have e : k = ds.length := by simpa using hl
      subst e
      exact .inl ⟨ρ, S, rfl, h⟩
    | cons d es ih =>
      intro k hk hl ρ S h
      have h1 := hk 0
      rw [List.getElem?_cons_zero, Nat.add_zero] at h1
      obtain ⟨ρ1, e1, e2⟩ := hs k d ρ S h1.symm h
      rcases e2 with ⟨ρ', S', e2, e3⟩ | ⟨v, S', e2, e3⟩
      · have z := ih (k + 1) (fun j => by have := hk (j + 1); rw [List.getElem?_cons_succ] at this; rw [this]; congr 1; omega) (by rw [List.length_cons] at hl; omega) ρ' S' e3
        rcases z with ⟨ρ2, S2, e4, e5⟩ | ⟨v, S2, e4, e5⟩
        · exact .inl ⟨ρ2, S2, by simp only [forL, bd, e1, lift, rt, e2, e4], e5⟩
        · exact .inr ⟨v, S2, by simp only [forL, bd, e1, lift, rt, e2, e4], e5⟩
      · exact .inr ⟨v, S', by simp only [forL, bd, e1, lift, rt, e2], e3⟩
  exact go ds 0 (fun j => by rw [Nat.zero_add]) (by omega) ρ S h0
/-- a comprehension whose parts leave the draws alone -/
theorem lcL_map {t : TGd} {test : FB} {elt : FE} {ρ : En} {S : DS} (p : D → Bool) (g : D → D) : ∀ {ds acc : List D}, (∀ d ∈ ds, ∃ ρ1, t d ρ = some ρ1 ∧ test ρ1 S = .ok (p d) S ∧ (p d = true → elt ρ1 S = .ok (g d) S)) → acc.length + ds.length ≤ 16777216 →
    lcL t test elt ds acc ρ S = .ok (acc ++ (ds.filter p).map g) S
  | [], acc, _, _ => by simp [lcL, rt]
  | d :: ds, acc, h, hl => by
    obtain ⟨ρ1, e1, e2, e3⟩ := h d List.mem_cons_self
    rw [List.length_cons] at hl
    have h' : ∀ x ∈ ds, _ := fun x hx => h x (List.mem_cons_of_mem _ hx)
    cases hp : p d with
    | false =>
      rw [hp] at e2
      simp only [lcL, bd, e1, lift, rt, noEr, e2, Bool.false_eq_true, if_false, List.filter_cons, hp]
      exact lcL_map p g h' (by omega)
    | true =>
      rw [hp] at e2
      have l1 : acc.length < 16777216 := by omega
      have z := lcL_map (acc := acc ++ [g d]) p g h' (by rw [List.length_append, List.length_singleton]; omega)
      simp only [lcL, bd, e1, lift, rt, noEr, e2, e3 hp, if_true, List.filter_cons, hp, l1, List.map_cons]
      rw [z, List.append_assoc, List.singleton_append]
theorem lcL_all {t : TGd} {elt : FE} {ρ : En} {S : DS} (g : D → D) {ds : List D} (h : ∀ d ∈ ds, ∃ ρ1, t d ρ = some ρ1 ∧ elt ρ1 S = .ok (g d) S) (hl : ds.length ≤ 16777216) : lcL t yesB elt ds [] ρ S = .ok (ds.map g) S := by
  have z := lcL_map (t := t) (test := yesB) (elt := elt) (ρ := ρ) (S := S) (fun _ => true) g (ds := ds) (acc := []) (fun d hd => by
    obtain ⟨ρ1, e1, e2⟩ := h d hd
    exact ⟨ρ1, e1, rfl, fun _ => e2⟩) (by simpa using hl)
  rw [List.filter_eq_self.mpr (fun _ _ => rfl), List.nil_append] at z
  exact z
/-- a comprehension whose elements draw: each as wanted -/
theorem lcL_draw {t : TGd} {elt : FE} {ρ : En} (V : DS → Prop) (P : D → Prop) : ∀ {ds acc : List D} {S : DS}, (∀ d ∈ ds, ∀ S, V S → ∃ ρ1 x S', t d ρ = some ρ1 ∧ elt ρ1 S = .ok x S' ∧ P x ∧ V S') → acc.length + ds.length ≤ 16777216 → V S →
    ∃ r S', lcL t yesB elt ds acc ρ S = .ok (acc ++ r) S' ∧ r.length = ds.length ∧ (∀ x ∈ r, P x) ∧ V S'
  | [], acc, S, _, _, v => ⟨[], S, by simp [lcL, rt], rfl, (by simp), v⟩
  | d :: ds, acc, S, h, hl, v => by
    obtain ⟨ρ1, x, S', e1, e2, e3, v'⟩ := h d List.mem_cons_self S v
    rw [List.length_cons] at hl
    have l1 : acc.length < 16777216 := by omega
    obtain ⟨r, S2, z1, z2, z3, z4⟩ := lcL_draw V P (acc := acc ++ [x]) (fun y hy => h y (List.mem_cons_of_mem _ hy)) (by rw [List.length_append, List.length_singleton]; omega) v'
    refine ⟨x :: r, S2, ?_, by simp [z2], fun y hy => ?_, z4⟩
    · simp only [lcL, bd, e1, lift, rt, noEr, yesB, e2, if_true, l1]
      rw [z1, List.append_assoc, List.singleton_append]
    · rcases List.mem_cons.mp hy with rfl | hy
      · exact e3
      · exact z3 y hy
/-! ## plain part: data -/
theorem intsOf_map : ∀ ns : List Int, intsOf (ns.map D.int) = some ns
  | [] => rfl
  | n :: ns => by simp only [List.map_cons, intsOf, intsOf_map ns, Option.map_some]
theorem rngD_map (n : Nat) : rngD 0 n = (List.range n).map fun i => D.int ((i : Nat) : Int) := by
  unfold rngD
  simp
/-- data that may be compared and shown: h deep, n entries -/
structure Gd (h n : Nat) (d : D) : Prop where
  pu : d.pure = true
  de : d.py.depth ≤ h
  sh : d.py.showable = true
  lf : d.py.leavesShort 501 = true
  pl : d.py.plain = true
  bu : d.py.bulk ≤ n
theorem Gd.mono {h n h' n' : Nat} {d : D} (g : Gd h n d) (a : h ≤ h') (b : n ≤ n') : Gd h' n' d := ⟨g.pu, Nat.le_trans g.de a, g.sh, g.lf, g.pl, Nat.le_trans g.bu b⟩
theorem log2_small {n : Nat} (h : n < 10 ^ 500) : n.log2 < 1920 := by
  by_cases z : n = 0
  · subst z; decide
  · refine (Nat.log2_lt z).mpr (Nat.lt_trans h ?_)
    decide +kernel
theorem gd_int {i : Int} (h : i.natAbs < 10 ^ 500) : Gd 0 0 (.int i) where
  pu := rfl
  de := Nat.le_refl _
  sh := by
    simp only [D.py, PyData.showable, decide_eq_true_eq]
    exact log2_small h
  lf := by
    simp only [D.py, PyData.leavesShort, decide_eq_true_eq]
    have e := int_text_length_le10 (k := 500) (by decide) h
    show (Str.ofString (toString i)).length ≤ 501
    rw [PySem.ofString_length]
    exact e
  pl := rfl
  bu := Nat.le_refl _
theorem gd_non : Gd 0 0 .non := ⟨rfl, Nat.le_refl _, rfl, rfl, rfl, Nat.le_refl _⟩
theorem gd_bl (b : Bool) : Gd 0 0 (.bl b) := ⟨rfl, Nat.le_refl _, rfl, rfl, rfl, Nat.le_refl _⟩
theorem gd_str {s : Str} {n : Nat} (h1 : s.length ≤ n) (h2 : s.cps.toList.all (fun c => decide (c < 16 ^ 8)) = true) : Gd 0 n (.str s) := ⟨rfl, Nat.le_refl _, rfl, by simp only [D.py, PyData.leavesShort]; exact h2, rfl, h1⟩
theorem gdL {h n : Nat} : ∀ {ds : List D}, (∀ d ∈ ds, Gd h n d) → pureL ds = true ∧ PyData.depthAll (pyL ds) ≤ h ∧ PyData.showableAll (pyL ds) = true ∧ PyData.leavesShortAll 501 (pyL ds) = true ∧ PyData.plainAll (pyL ds) = true ∧ PyData.bulkAll (pyL ds) ≤ ds.length * (n + 1)
  | [], _ => ⟨rfl, Nat.zero_le _, rfl, rfl, rfl, Nat.zero_le _⟩
  | d :: ds, g => by
    obtain ⟨a1, a2, a3, a4, a5, a6⟩ := gdL (ds := ds) fun x hx => g x (List.mem_cons_of_mem _ hx)
    have b := g d List.mem_cons_self
    refine ⟨?_, ?_, ?_, ?_, ?_, ?_⟩
    · simp only [pureL, b.pu, a1, Bool.and_self]
    · simp only [pyL, PyData.depthAll]
      exact Nat.max_le.mpr ⟨b.de, a2⟩
    · simp only [pyL, PyData.showableAll, b.sh, a3, Bool.and_self]
    · simp only [pyL, PyData.leavesShortAll, b.lf, a4, Bool.and_self]
    · simp only [pyL, PyData.plainAll, b.pl, a5, Bool.and_self]
    · simp only [pyL, PyData.bulkAll, List.length_cons]
      have z := b.bu
      rw [Nat.succ_mul]
      omega
theorem gd_tup {h n : Nat} {ds : List D} (g : ∀ d ∈ ds, Gd h n d) : Gd (h + 1) (ds.length * (n + 1)) (.tup ds) := by
  obtain ⟨a1, a2, a3, a4, a5, a6⟩ := gdL g
  exact ⟨by simpa only [D.pure] using a1, by simpa only [D.py, PyData.depth, Nat.add_le_add_iff_right] using a2, by simpa only [D.py, PyData.showable] using a3, by simpa only [D.py, PyData.leavesShort] using a4, by simpa only [D.py, PyData.plain] using a5, by simpa only [D.py, PyData.bulk] using a6⟩
theorem gd_tpx {h n : Nat} {ds : List D} (g : ∀ d ∈ ds, Gd h n d) : Gd (h + 1) (ds.length * (n + 1)) (.tpx ds) := by
  obtain ⟨a1, a2, a3, a4, a5, a6⟩ := gdL g
  exact ⟨by simpa only [D.pure] using a1, by simpa only [D.py, PyData.depth, Nat.add_le_add_iff_right] using a2, by simpa only [D.py, PyData.showable] using a3, by simpa only [D.py, PyData.leavesShort] using a4, by simpa only [D.py, PyData.plain] using a5, by simpa only [D.py, PyData.bulk] using a6⟩
theorem gd_lst {h n : Nat} {ds : List D} (g : ∀ d ∈ ds, Gd h n d) : Gd (h + 1) (ds.length * (n + 1)) (.lst ds) := by
  obtain ⟨a1, a2, a3, a4, a5, a6⟩ := gdL g
  exact ⟨by simpa only [D.pure] using a1, by simpa only [D.py, PyData.depth, Nat.add_le_add_iff_right] using a2, by simpa only [D.py, PyData.showable] using a3, by simpa only [D.py, PyData.leavesShort] using a4, by simpa only [D.py, PyData.plain] using a5, by simpa only [D.py, PyData.bulk] using a6⟩
theorem gd_repr {h n : Nat} {d : D} (g : Gd h n d) (a : h ≤ 64) (b : n ≤ 30000) : okRepr d = true := by
  have e : d.py.shown.length ≤ 16777216 := by
    have z := PyData.shown_le_bulk 501 (by decide) d.py g.lf
    have y := g.bu
    omega
  unfold okRepr okEq
  simp only [g.pu, g.sh, Bool.true_and, Bool.and_true, Bool.and_eq_true, decide_eq_true_eq]
  exact ⟨Nat.le_trans g.de a, e⟩
theorem gd_eq {h n : Nat} {d : D} (g : Gd h n d) (a : h ≤ 64) : dEq d d = some (.bl true) := by
  have e : okEq d = true := by
    unfold okEq
    simp only [g.pu, Bool.true_and, decide_eq_true_eq]
    exact Nat.le_trans g.de a
  unfold dEq dEqv
  rw [e, SeqAt.eqv_refl_plain _ g.pl]
  rfl
theorem dEq_int (i j : Int) : dEq (.int i) (.int j) = some (.bl (decide (i = j))) := by
  have e : PyData.eqv (.int i) (.int j) = decide (i = j) := by
    rw [Bool.eq_iff_iff]
    simp [PyData.eqv]
  unfold dEq dEqv
  rw [show okEq (.int i) = true from rfl, show okEq (.int j) = true from rfl]
  simp only [D.py, e, Bool.and_self, if_true]
/-- _law_same -/
def sameB : FS := retS (andE (op2 dEq (var 0) (var 1)) (reprEqE (var 0) (var 1)))
theorem same_ok {h n : Nat} {d : D} (g : Gd h n d) (a : h ≤ 64) (b : n ≤ 30000) (S : DS) : fnD 2 2 sameB [d, d] S = .ok (.bl true) S := by
  have e1 := gd_eq g a
  have e2 := gd_repr g a b
  show bd (sameB [.vl d, .vl d]) leave S = _
  simp [sameB, retS, andE, op2, reprEqE, bd, var, slot, lift, rt, e1, e2, leave]
/-! ## plain part: the draws -/
def startB : FE := (seqO (asgS 1 (cst (.int 7)))
  (seqO (forS (itS (var 0)) (tgN 2) (asgS 1 (op2 dAdd (op2 dMod (op1 dInt (op2 dAdd (op2 dMulX (var 1) (cst (.int 48271))) (var 2))) (cst (.int 2147483629))) (cst (.int 1)))))
  (lstE (consA (op1 dList (var 0)) (consA (cst (.int 0)) (consA (cst (.int 0)) (consA (var 1) nilA)))))))
def drawB : FS := (seqS (ifS (andB (valB (op2 dEq (stIx 0 1) (cst (.int 0)))) (valB (op2 dGe (stIx 0 2) (op1 dLen (stIx 0 0))))) (seqS (stSet 0 3 (op2 dMod (op1 dInt (op2 dAdd (op2 dMulX (stIx 0 3) (cst (.int 48271))) (cst (.int 69621)))) (cst (.int 2147483629))))
  (retS (op2 dMod (op1 dInt (op2 dDiv (stIx 0 3) (cst (.int 13)))) (var 1)))) skipS)
  (seqS (ifS (valB (op2 dEq (stIx 0 1) (cst (.int 0)))) (seqS (stSet 0 1 (op1 dAbs (op2 dIxA (stIx 0 0) (stIx 0 2))))
  (stSet 0 2 (op2 dAdd (stIx 0 2) (cst (.int 1))))) skipS)
  (seqS (asgS 2 (op2 dMod (op1 dInt (stIx 0 1)) (var 1)))
  (seqS (stSet 0 1 (op2 dDiv (stIx 0 1) (var 1)))
  (retS (var 2))))))
/-- the state as it stands between draws -/
def Vs (S : DS) : Prop := ∃ (ls : List Int) (a : Int) (k : Nat) (sd : Int), S = some [.lst (ls.map .int), .int a, .int (k : Int), .int sd] ∧ 0 ≤ a ∧ 0 ≤ sd ∧ sd < 2 ^ 64
/-- a bound that no number of ours comes near -/
def Big : Nat := (2 ^ 250) ^ 16
theorem big_of {n : Nat} (h : n < 18446744073709551616) : n < Big := Nat.lt_trans h (by unfold Big; decide +kernel)
theorem big_pow {n a b : Nat} (h : n ≤ a ^ b) (h2 : a ^ b < Big) : n < Big := Nat.lt_of_le_of_lt h h2
theorem big_log {n : Nat} (h : n < Big) : n.log2 < 4000 := by
  by_cases z : n = 0
  · subst z; decide
  · exact (Nat.log2_lt z).mpr h
theorem mulX {i j : Int} (h1 : i.natAbs < Big) (h2 : j.natAbs < Big) : dMulX (.int i) (.int j) = some (.int (i * j)) := by
  have a := big_log h1
  have b := big_log h2
  unfold dMulX
  exact if_pos (by omega)
theorem mulI {i j : Int} (h1 : i.natAbs < Big) (h2 : j.natAbs < Big) : dMul (.int i) (.int j) = some (.int (i * j)) := by
  have a := big_log h1
  have b := big_log h2
  unfold dMul
  exact if_pos (by omega)
theorem divI {i j : Int} (h1 : 0 < j) (h2 : j.natAbs < Big) : dDiv (.int i) (.int j) = some (.int (i / j)) := by
  have b := big_log h2
  unfold dDiv
  exact if_pos ⟨h1, by omega⟩
theorem modI {i j : Int} (h1 : 0 < j) : dMod (.int i) (.int j) = some (.int (i % j)) := by
  unfold dMod
  exact if_pos h1
theorem addI (i j : Int) : dAdd (.int i) (.int j) = some (.int (i + j)) := rfl
theorem subI (i j : Int) : dSub (.int i) (.int j) = some (.int (i - j)) := rfl
theorem addI' (i j : Int) : dAddI (.int i) (.int j) = some (.int (i + j)) := rfl
theorem start_ok (ns : List Int) (hl : ns.length ≤ 16777216) : ∃ ds, fnO 1 3 startB [.scr ns] none = .ok (.lst ds) none ∧ Vs (some ds) := by
  obtain ⟨ρ', S', e1, sd, e2, h1, h2, z, e3⟩ := forL_inv (t := tgN 2) (b := (asgS 1 (op2 dAdd (op2 dMod (op1 dInt (op2 dAdd (op2 dMulX (var 1) (cst (.int 48271))) (var 2))) (cst (.int 2147483629))) (cst (.int 1))))) (ds := ns.map D.int)
    (fun _ ρ S => ∃ (sd : Int), S = none ∧ 0 ≤ sd ∧ sd < 2 ^ 63 ∧ ∃ z, ρ = [.vl (.scr ns), .vl (.int sd), z]) (fun i d ρ S hd ⟨sd, e1, h1, h2, z, e2⟩ => by
      subst e1 e2
      rw [List.getElem?_map] at hd
      obtain ⟨c, _, rfl⟩ := Option.map_eq_some_iff.mp hd
      have l1 := mulX (i := sd) (j := 48271) (big_of (by omega)) (big_of (by decide))
      refine ⟨[.vl (.scr ns), .vl (.int sd), .vl (.int c)], [.vl (.scr ns), .vl (.int ((sd * 48271 + c) % 2147483629 + 1)), .vl (.int c)], none, rfl, .inl ?_, _, rfl, by omega, by omega, _, rfl⟩
      simp [asgS, op2, op1, bd, var, slot, lift, rt, cst, l1, addI, modI, dInt, setV]) (ρ := [.vl (.scr ns), .vl (.int 7), .no]) (S := none) ⟨7, rfl, by decide, by decide, _, rfl⟩
  subst e2 e3
  refine ⟨[.lst (ns.map .int), .int 0, .int 0, .int sd], ?_, ns, 0, 0, sd, rfl, by decide, h1, by omega⟩
  show startB [.vl (.scr ns), .no, .no] none = _
  simp [startB, seqO, asgS, forS, itS, seqAny, bd, var, slot, lift, rt, cst, setV, e1, lstE, consA, nilA, op1, dList]
theorem ge_int (i j : Int) : dGe (.int i) (.int j) = some (.bl (decide (j ≤ i))) := rfl
theorem abs_nn (i : Int) : 0 ≤ (if i < 0 then -i else i) := by split <;> omega
theorem draw_ok {S : DS} (v : Vs S) {n : Int} (h : 0 < n) (hb : n < 2 ^ 63) : ∃ (r : Int) (S' : DS), fnD 2 3 drawB [.st, .int n] S = .ok (.int r) S' ∧ 0 ≤ r ∧ r < n ∧ Vs S' := by
  obtain ⟨ls, a, k, sd, rfl, h1, h2, h3⟩ := v
  have ix0 : ∀ {x0 x1 x2 x3 : D}, atI [x0, x1, x2, x3] 0 = some x0 := rfl
  have ix1 : ∀ {x0 x1 x2 x3 : D}, atI [x0, x1, x2, x3] 1 = some x1 := rfl
  have ix2 : ∀ {x0 x1 x2 x3 : D}, atI [x0, x1, x2, x3] 2 = some x2 := rfl
  have ix3 : ∀ {x0 x1 x2 x3 : D}, atI [x0, x1, x2, x3] 3 = some x3 := rfl
  have n1 : ixN 4 1 = some 1 := rfl
  have n2 : ixN 4 2 = some 2 := rfl
  have n3 : ixN 4 3 = some 3 := rfl
  have l1 := mulX (i := sd) (j := 48271) (big_of (by omega)) (big_of (by decide))
  have dv : ∀ i : Int, dDiv (.int i) (.int n) = some (.int (i / n)) := fun i => divI h (big_of (by omega))
  have md : ∀ i : Int, dMod (.int i) (.int n) = some (.int (i % n)) := fun i => modI h
  by_cases ha : a = 0
  · subst ha
    by_cases hk : ls.length ≤ k
    · have c1 : decide (((ls.length : Nat) : Int) ≤ (k : Int)) = true := decide_eq_true (by omega)
      refine ⟨((sd * 48271 + 69621) % 2147483629 / 13) % n, some [.lst (ls.map .int), .int 0, .int k, .int ((sd * 48271 + 69621) % 2147483629)], ?_, Int.emod_nonneg _ (by omega), Int.emod_lt_of_pos _ h, ls, 0, k, _, rfl, by omega, by omega, by omega⟩
      show bd (drawB [.vl .st, .vl (.int n), .no]) leave _ = _
      have d13 := fun i : Int => divI (i := i) (j := 13) (by decide) (big_of (by decide))
      simp [drawB, seqS, ifS, andB, valB, isBl, op2, op1, bd, var, slot, lift, rt, cst, stIx, stSet, ix0, ix1, ix2, ix3, n1, n2, n3, dEq_int, ge_int, dLen, c1, hk, l1, addI, modI, dInt, d13, md, retS, leave]
    · have hk' : k < ls.length := by omega
      have c1 : decide (((ls.length : Nat) : Int) ≤ (k : Int)) = false := decide_eq_false (by omega)
      have g1 : atI (ls.map D.int) (k : Int) = some (.int ls[k]) := atI_nat (by simp [hk'])
      refine ⟨(if ls[k] < 0 then -ls[k] else ls[k]) % n, some [.lst (ls.map .int), .int ((if ls[k] < 0 then -ls[k] else ls[k]) / n), .int ((k + 1 : Nat) : Int), .int sd], ?_, Int.emod_nonneg _ (by omega), Int.emod_lt_of_pos _ h, ls, _, k + 1, _, rfl, Int.ediv_nonneg (abs_nn _) (by omega), h2, h3⟩
      show bd (drawB [.vl .st, .vl (.int n), .no]) leave _ = _
      simp [drawB, seqS, ifS, andB, valB, isBl, op2, op1, bd, var, slot, lift, rt, cst, stIx, stSet, ix0, ix1, ix2, ix3, n1, n2, n3, dEq_int, ge_int, dLen, c1, Nat.not_le.mpr hk', addI, dInt, md, dv, retS, leave, dIxA, dIx, g1, dAbs, asgS, setV, skipS]
  · have c1 : decide (a = 0) = false := decide_eq_false ha
    refine ⟨a % n, some [.lst (ls.map .int), .int (a / n), .int k, .int sd], ?_, Int.emod_nonneg _ (by omega), Int.emod_lt_of_pos _ h, ls, _, k, _, rfl, Int.ediv_nonneg h1 (by omega), h2, h3⟩
    show bd (drawB [.vl .st, .vl (.int n), .no]) leave _ = _
    simp [drawB, seqS, ifS, andB, valB, isBl, op2, op1, bd, var, slot, lift, rt, cst, stIx, stSet, ix0, ix1, ix2, ix3, n1, n2, n3, dEq_int, c1, ha, dInt, md, dv, retS, leave, asgS, setV, skipS]
def pickB : FS := (retS (op2 dIxA (var 1) (callE (fnD 2 3 drawB) (consA (var 0) (consA (op1 dLen (var 1)) nilA)))))
theorem pick_ok {S : DS} (v : Vs S) {ds : List D} {d : D} (hd : d = .lst ds ∨ d = .tup ds) (h : ds ≠ []) (hl : ds.length ≤ 16777216) : ∃ (x : D) (S' : DS), fnD 2 2 pickB [.st, d] S = .ok x S' ∧ x ∈ ds ∧ Vs S' := by
  have h0 : 0 < ds.length := List.length_pos_iff.mpr h
  obtain ⟨r, S', e1, h1, h2, v'⟩ := draw_ok v (n := (ds.length : Int)) (by omega) (by omega)
  obtain ⟨j, rfl⟩ := Int.eq_ofNat_of_zero_le h1
  have hj : j < ds.length := by omega
  have g1 : atI ds (j : Int) = some ds[j] := atI_nat (by simp [hj])
  refine ⟨ds[j], S', ?_, List.getElem_mem hj, v'⟩
  show bd (pickB [.vl .st, .vl d]) leave S = _
  rcases hd with rfl | rfl
  · simp [pickB, retS, op2, op1, bd, var, slot, lift, rt, callE, consA, nilA, dLen, e1, dIxA, dIx, g1, leave]
  · simp [pickB, retS, op2, op1, bd, var, slot, lift, rt, callE, consA, nilA, dLen, e1, dIxA, dIx, g1, leave]
end Mini
namespace Hk13
open PySem PySem.Spec PyProof.Rows L2 Evl Mini
def top (i : Nat) : Stmt := PySem.Challenge.pw_hoardsread_k13_counts.main.body.getD i (.Pass ⟨0, 0, 0, 0⟩)
abbrev s_is_integer : Stmt := top 4
def b_is_integer : FS := (retS (andE (op1 (isiD "int") (var 0)) (notE (op1 (isiD "bool") (var 0)))))
def m_is_integer : List D → M D := fnD 1 1 b_is_integer
theorem sc_is_integer : FnScope ["value"] ["value"] (defScope s_is_integer) := ⟨rfl, rfl, rfl, by decide +kernel, rfl, by decide +kernel, by decide +kernel⟩
def d_is_integer : He.DefD := ⟨("is_integer", none), "is_integer", "is_integer", defArgs s_is_integer, defBody s_is_integer, defScope s_is_integer, [], []⟩
abbrev s_check_dies : Stmt := top 8
def b_check_dies : FS := (ifS (orB (notB (truB (callE m_is_integer (consA (var 0) nilA)))) (notB (valB (chn2 dLe dLe (cst (.int 1)) (var 0) (cst (.int 40)))))) neverS skipS)
def m_check_dies : List D → M D := fnD 2 2 b_check_dies
theorem sc_check_dies : FnScope ["dies", "reason"] ["dies", "reason"] (defScope s_check_dies) := ⟨rfl, rfl, rfl, by decide +kernel, rfl, by decide +kernel, by decide +kernel⟩
def d_check_dies : He.DefD := ⟨("check_dies", none), "check_dies", "check_dies", defArgs s_check_dies, defBody s_check_dies, defScope s_check_dies, [.str "dies"], []⟩
abbrev s_check_coins : Stmt := top 9
def b_check_coins : FS := (ifS (orB (notB (truB (callE m_is_integer (consA (var 0) nilA)))) (notB (valB (chn2 dLe dLe (cst (.int 0)) (var 0) (cst (.int 60)))))) neverS skipS)
def m_check_coins : List D → M D := fnD 1 1 b_check_coins
theorem sc_check_coins : FnScope ["coins"] ["coins"] (defScope s_check_coins) := ⟨rfl, rfl, rfl, by decide +kernel, rfl, by decide +kernel, by decide +kernel⟩
def d_check_coins : He.DefD := ⟨("check_coins", none), "check_coins", "check_coins", defArgs s_check_coins, defBody s_check_coins, defScope s_check_coins, [], []⟩
abbrev s_check_seen : Stmt := top 10
def b_check_seen : FS := (ifS (orB (notB (truB (callE m_is_integer (consA (var 0) nilA)))) (notB (valB (chn2 dLe dLe (cst (.int 0)) (var 0) (cst (.int 40)))))) neverS skipS)
def m_check_seen : List D → M D := fnD 1 1 b_check_seen
theorem sc_check_seen : FnScope ["seen"] ["seen"] (defScope s_check_seen) := ⟨rfl, rfl, rfl, by decide +kernel, rfl, by decide +kernel, by decide +kernel⟩
def d_check_seen : He.DefD := ⟨("check_seen", none), "check_seen", "check_seen", defArgs s_check_seen, defBody s_check_seen, defScope s_check_seen, [], []⟩
abbrev s_quotient : Stmt := top 11
def b_quotient : FS := (seqS (parS 2 3 (var 0) (var 1))
  (seqS (whileS (truB (var 3)) (parS 2 3 (var 3) (op2 dMod (var 2) (var 3))) W0)
  (retS (tupE (consA (op2 dDiv (var 0) (var 2)) (consA (op2 dDiv (var 1) (var 2)) nilA))))))
def m_quotient : List D → M D := fnD 2 4 b_quotient
theorem sc_quotient : FnScope ["up", "down", "one", "other"] ["up", "down"] (defScope s_quotient) := ⟨rfl, rfl, rfl, by decide +kernel, rfl, by decide +kernel, by decide +kernel⟩
def d_quotient : He.DefD := ⟨("quotient", none), "quotient", "quotient", defArgs s_quotient, defBody s_quotient, defScope s_quotient, [], []⟩
abbrev s_ways_table : Stmt := top 12
def b_ways_table : FS := (seqS (asgS 2 (op2 dAdd (lstE (consA (cst (.int 1)) nilA)) (op2 dMulX (lstE (consA (cst (.int 0)) nilA)) (var 0))))
  (seqS (asgS 3 (cst (.int 1)))
  (seqS (forS (itR1 (var 1)) (tgN 4) (seqS (asgS 2 (lcE (itR1 (op2 dAdd (var 0) (cst (.int 1)))) (tgN 5) yesB (op2 dAdd (op2 dMulX (op2 dIxA (var 2) (var 5)) (var 5)) (iteE (truB (var 5)) (op2 dMulX (op2 dIxA (var 2) (op2 dSub (var 5) (cst (.int 1)))) (op2 dAdd (op2 dSub (var 0) (var 5)) (cst (.int 1)))) (cst (.int 0)))) [5]))
  (augS dMul 3 (var 0))))
  (retS (tupE (consA (var 2) (consA (var 3) nilA)))))))
def m_ways_table : List D → M D := fnD 2 6 b_ways_table
theorem sc_ways_table : FnScope ["dies", "coins", "rows", "whole", "coin", "seen"] ["dies", "coins"] (defScope s_ways_table) := ⟨rfl, rfl, rfl, by decide +kernel, rfl, by decide +kernel, by decide +kernel⟩
def d_ways_table : He.DefD := ⟨("ways_table", none), "ways_table", "ways_table", defArgs s_ways_table, defBody s_ways_table, defScope s_ways_table, [], []⟩
abbrev s_chances_seen : Stmt := top 13
def b_chances_seen : FS := (seqS (exprS (callE m_check_dies (appA (consA (var 0) nilA) [.str "dies"])))
  (seqS (exprS (callE m_check_coins (consA (var 1) nilA)))
  (seqS (asgT (tgT [(tgN 2), (tgN 3)]) (callE m_ways_table (consA (var 0) (consA (var 1) nilA))))
  (retS (op1 dTuple (lcE (itS (var 2)) (tgN 4) yesB (callE m_quotient (consA (var 4) (consA (var 3) nilA))) [4]))))))
def m_chances_seen : List D → M D := fnD 2 5 b_chances_seen
theorem sc_chances_seen : FnScope ["dies", "coins", "rows", "whole", "own"] ["dies", "coins"] (defScope s_chances_seen) := ⟨rfl, rfl, rfl, by decide +kernel, rfl, by decide +kernel, by decide +kernel⟩
def d_chances_seen : He.DefD := ⟨("chances_seen", none), "chances_seen", "chances_seen", defArgs s_chances_seen, defBody s_chances_seen, defScope s_chances_seen, [], []⟩
abbrev s_mean_seen : Stmt := top 14
def b_mean_seen : FS := (seqS (exprS (callE m_check_dies (appA (consA (var 0) nilA) [.str "dies"])))
  (seqS (exprS (callE m_check_coins (consA (var 1) nilA)))
  (seqS (asgT (tgT [(tgN 2), (tgN 3)]) (callE m_ways_table (consA (var 0) (consA (var 1) nilA))))
  (retS (callE m_quotient (consA (op1 dSumA (lcE (itEn (var 2)) (tgT [(tgN 4), (tgN 5)]) yesB (op2 dMulX (var 4) (var 5)) [4, 5])) (consA (var 3) nilA)))))))
def m_mean_seen : List D → M D := fnD 2 6 b_mean_seen
theorem sc_mean_seen : FnScope ["dies", "coins", "rows", "whole", "seen", "own"] ["dies", "coins"] (defScope s_mean_seen) := ⟨rfl, rfl, rfl, by decide +kernel, rfl, by decide +kernel, by decide +kernel⟩
def d_mean_seen : He.DefD := ⟨("mean_seen", none), "mean_seen", "mean_seen", defArgs s_mean_seen, defBody s_mean_seen, defScope s_mean_seen, [], []⟩
abbrev s_likeliest_dies : Stmt := top 15
def b_likeliest_dies : FS := (seqS (exprS (callE m_check_coins (consA (var 0) nilA)))
  (seqS (exprS (callE m_check_seen (consA (var 1) nilA)))
  (seqS (exprS (callE m_check_dies (consA (var 2) (consA (cst (.str "most")) nilA))))
  (seqS (asgS 3 (cst .non))
  (seqS (forS (itR2 (op2 dMax2 (cst (.int 1)) (var 1)) (op2 dAdd (var 2) (cst (.int 1)))) (tgN 4) (seqS (asgT (tgT [(tgN 5), (tgN 6)]) (callE m_ways_table (consA (var 4) (consA (var 0) nilA))))
  (ifS (andB (truB (op2 dIxA (var 5) (var 1))) (orB (valB (op2 dIs (var 3) (cst .non))) (valB (op2 dGt (op2 dMulX (op2 dIxA (var 5) (var 1)) (op2 dIxA (var 3) (cst (.int 1)))) (op2 dMulX (op2 dIxA (var 3) (cst (.int 0))) (var 6)))))) (asgS 3 (tupE (consA (op2 dIxA (var 5) (var 1)) (consA (var 6) (consA (var 4) nilA))))) skipS)))
  (retS (iteE (valB (op2 dIs (var 3) (cst .non))) (cst .non) (op2 dIxA (var 3) (cst (.int 2))))))))))
def m_likeliest_dies : List D → M D := fnD 3 7 b_likeliest_dies
theorem sc_likeliest_dies : FnScope ["coins", "seen", "most", "best", "dies", "rows", "whole"] ["coins", "seen", "most"] (defScope s_likeliest_dies) := ⟨rfl, rfl, rfl, by decide +kernel, rfl, by decide +kernel, by decide +kernel⟩
def d_likeliest_dies : He.DefD := ⟨("likeliest_dies", none), "likeliest_dies", "likeliest_dies", defArgs s_likeliest_dies, defBody s_likeliest_dies, defScope s_likeliest_dies, [], []⟩
abbrev s_check_part : Stmt := top 17
def b_check_part : FS := (seqS (ifS (orB (notB (truB (op1 (isiD "tuple") (var 0)))) (orB (valB (op2 dNe (op1 dLen (var 0)) (cst (.int 2)))) (notB (truB (op1 dAll (lcE (itS (var 0)) (tgN 1) yesB (callE m_is_integer (consA (var 1) nilA)) [1])))))) neverS skipS)
  (ifS (orB (notB (chn3 dLe dLe dLe (cst (.int 1)) (op2 dIxA (var 0) (cst (.int 0))) (op2 dIxA (var 0) (cst (.int 1))) (cst (.int 1000)))) (valB (op2 dNe (callE m_quotient (consA (op2 dIxA (var 0) (cst (.int 0))) (consA (op2 dIxA (var 0) (cst (.int 1))) nilA))) (var 0)))) neverS skipS))
def m_check_part : List D → M D := fnD 1 2 b_check_part
theorem sc_check_part : FnScope ["part", "own"] ["part"] (defScope s_check_part) := ⟨rfl, rfl, rfl, by decide +kernel, rfl, by decide +kernel, by decide +kernel⟩
def d_check_part : He.DefD := ⟨("check_part", none), "check_part", "check_part", defArgs s_check_part, defBody s_check_part, defScope s_check_part, [], []⟩
abbrev s_dies_bounds : Stmt := top 16
def b_dies_bounds : FS := (seqS (exprS (callE m_check_coins (consA (var 0) nilA)))
  (seqS (exprS (callE m_check_seen (consA (var 1) nilA)))
  (seqS (exprS (callE m_check_part (consA (var 2) nilA)))
  (seqS (exprS (callE m_check_dies (consA (var 3) (consA (cst (.str "most")) nilA))))
  (seqS (asgOS 4 (lstE nilA))
  (seqS (forS (itR2 (op2 dMax2 (cst (.int 1)) (var 1)) (op2 dAdd (var 3) (cst (.int 1)))) (tgN 5) (seqS (asgT (tgT [(tgN 6), (tgN 7)]) (callE m_ways_table (consA (var 5) (consA (var 0) nilA))))
  (seqS (parS 8 9 (op1 dSumA (slcE (var 6) noP (partP (op2 dAdd (var 1) (cst (.int 1)))))) (op1 dSumA (slcE (var 6) (partP (var 1)) noP)))
  (ifS (valB (op2 dGe (op2 dMulX (op2 dMin2 (var 8) (var 9)) (op2 dIxA (var 2) (cst (.int 1)))) (op2 dMulX (op2 dIxA (var 2) (cst (.int 0))) (var 7)))) (appS 4 (var 5)) skipS))))
  (retS (iteE (truB (varB 4)) (tupE (consA (op2 dIxA (varB 4) (cst (.int 0))) (consA (op2 dIxA (varB 4) (op1 dNeg (cst (.int 1)))) nilA))) (cst .non)))))))))
def m_dies_bounds : List D → M D := fnD 4 10 b_dies_bounds
theorem sc_dies_bounds : FnScope ["coins", "seen", "part", "most", "good", "dies", "rows", "whole", "low", "high"] ["coins", "seen", "part", "most"] (defScope s_dies_bounds) := ⟨rfl, rfl, rfl, by decide +kernel, rfl, by decide +kernel, by decide +kernel⟩
def d_dies_bounds : He.DefD := ⟨("dies_bounds", none), "dies_bounds", "dies_bounds", defArgs s_dies_bounds, defBody s_dies_bounds, defScope s_dies_bounds, [], []⟩
abbrev s_check_counts : Stmt := top 18
def b_check_counts : FS := (seqS (ifS (orB (notB (truB (op1 (isiD "tuple") (var 0)))) (notB (valB (chn2 dLe dLe (cst (.int 1)) (op1 dLen (var 0)) (cst (.int 40)))))) neverS skipS)
  (ifS (notB (truB (op1 dAll (lcE (itS (var 0)) (tgN 1) yesB (andE (callE m_is_integer (consA (var 1) nilA)) (chn2 dLe dLe (cst (.int 1)) (var 1) (cst (.int 60)))) [1])))) neverS skipS))
def m_check_counts : List D → M D := fnD 1 2 b_check_counts
theorem sc_check_counts : FnScope ["counts", "own"] ["counts"] (defScope s_check_counts) := ⟨rfl, rfl, rfl, by decide +kernel, rfl, by decide +kernel, by decide +kernel⟩
def d_check_counts : He.DefD := ⟨("check_counts", none), "check_counts", "check_counts", defArgs s_check_counts, defBody s_check_counts, defScope s_check_counts, [], []⟩
abbrev s_coverage : Stmt := top 19
def b_coverage : FS := (seqS (exprS (callE m_check_counts (consA (var 0) nilA)))
  (seqS (asgS 1 (op1 dLen (lcE (itS (var 0)) (tgN 2) (valB (op2 dEq (var 2) (cst (.int 1)))) (var 2) [2])))
  (retS (callE m_quotient (consA (op2 dSub (op1 dSumA (var 0)) (var 1)) (consA (op1 dSumA (var 0)) nilA))))))
def m_coverage : List D → M D := fnD 1 3 b_coverage
theorem sc_coverage : FnScope ["counts", "single", "own"] ["counts"] (defScope s_coverage) := ⟨rfl, rfl, rfl, by decide +kernel, rfl, by decide +kernel, by decide +kernel⟩
def d_coverage : He.DefD := ⟨("coverage", none), "coverage", "coverage", defArgs s_coverage, defBody s_coverage, defScope s_coverage, [], []⟩
abbrev s_often_seen : Stmt := top 20
def b_often_seen : FS := (seqS (exprS (callE m_check_counts (consA (var 0) nilA)))
  (retS (op1 dTuple (lcE (itS (op1 dSorted (dcE (itS (var 0)) (tgN 2) yesB (var 2) (cst (.bl true)) [2]))) (tgN 1) yesB (tupE (consA (var 1) (consA (countE (var 0) (var 1)) nilA))) [1]))))
def m_often_seen : List D → M D := fnD 1 3 b_often_seen
theorem sc_often_seen : FnScope ["counts", "own", "one"] ["counts"] (defScope s_often_seen) := ⟨rfl, rfl, rfl, by decide +kernel, rfl, by decide +kernel, by decide +kernel⟩
def d_often_seen : He.DefD := ⟨("often_seen", none), "often_seen", "often_seen", defArgs s_often_seen, defBody s_often_seen, defScope s_often_seen, [], []⟩
abbrev s_least_for : Stmt := top 21
def b_least_for : FS := (seqS (exprS (callE m_check_dies (appA (consA (var 0) nilA) [.str "dies"])))
  (seqS (ifS (orB (notB (truB (callE m_is_integer (consA (var 1) nilA)))) (notB (valB (chn2 dLe dLe (cst (.int 0)) (var 1) (cst (.int 40)))))) neverS skipS)
  (seqS (forS (itR1 (op2 dAdd (cst (.int 60)) (cst (.int 1)))) (tgN 2) (seqS (asgT (tgT [(tgN 3), (tgN 4)]) (callE m_ways_table (consA (var 0) (consA (var 2) nilA))))
  (ifS (valB (op2 dGe (op1 dSumA (lcE (itEn (var 3)) (tgT [(tgN 5), (tgN 6)]) yesB (op2 dMulX (var 5) (var 6)) [5, 6])) (op2 dMulX (var 1) (var 4)))) (retS (var 2)) skipS)))
  (retS (cst .non)))))
def m_least_for : List D → M D := fnD 2 7 b_least_for
theorem sc_least_for : FnScope ["dies", "wanted", "coins", "rows", "whole", "seen", "own"] ["dies", "wanted"] (defScope s_least_for) := ⟨rfl, rfl, rfl, by decide +kernel, rfl, by decide +kernel, by decide +kernel⟩
def d_least_for : He.DefD := ⟨("least_for", none), "least_for", "least_for", defArgs s_least_for, defBody s_least_for, defScope s_least_for, [], []⟩
abbrev s_chance_alike : Stmt := top 22
def b_chance_alike : FS := (seqS (exprS (callE m_check_counts (consA (var 0) nilA)))
  (seqS (asgS 1 (op1 dSumA (var 0)))
  (seqS (ifS (valB (op2 dLt (var 1) (cst (.int 2)))) (retS (cst .non)) skipS)
  (retS (callE m_quotient (consA (op1 dSumA (lcE (itS (var 0)) (tgN 2) yesB (op2 dMulX (var 2) (op2 dSub (var 2) (cst (.int 1)))) [2])) (consA (op2 dMulX (var 1) (op2 dSub (var 1) (cst (.int 1)))) nilA)))))))
def m_chance_alike : List D → M D := fnD 1 3 b_chance_alike
theorem sc_chance_alike : FnScope ["counts", "whole", "own"] ["counts"] (defScope s_chance_alike) := ⟨rfl, rfl, rfl, by decide +kernel, rfl, by decide +kernel, by decide +kernel⟩
def d_chance_alike : He.DefD := ⟨("chance_alike", none), "chance_alike", "chance_alike", defArgs s_chance_alike, defBody s_chance_alike, defScope s_chance_alike, [], []⟩
abbrev s_check_more : Stmt := top 24
def b_check_more : FS := (seqS (ifS (valB (op2 dGt (var 1) (var 0))) neverS skipS)
  (ifS (orB (notB (truB (callE m_is_integer (consA (var 2) nilA)))) (notB (valB (chn2 dLe dLe (cst (.int 0)) (var 2) (cst (.int 60)))))) neverS skipS))
def m_check_more : List D → M D := fnD 3 3 b_check_more
theorem sc_check_more : FnScope ["dies", "seen", "more"] ["dies", "seen", "more"] (defScope s_check_more) := ⟨rfl, rfl, rfl, by decide +kernel, rfl, by decide +kernel, by decide +kernel⟩
def d_check_more : He.DefD := ⟨("check_more", none), "check_more", "check_more", defArgs s_check_more, defBody s_check_more, defScope s_check_more, [], []⟩
abbrev s_chance_new : Stmt := top 23
def b_chance_new : FS := (seqS (exprS (callE m_check_dies (appA (consA (var 0) nilA) [.str "dies"])))
  (seqS (exprS (callE m_check_seen (consA (var 1) nilA)))
  (seqS (exprS (callE m_check_more (consA (var 0) (consA (var 1) (consA (var 2) nilA)))))
  (seqS (asgT (tgT [(tgN 4), (tgN 5)]) (tupE (consA (cst (.int 1)) (consA (cst (.int 1)) nilA))))
  (seqS (forS (itR1 (var 2)) (tgN 3) (seqS (augS dMul 4 (var 1))
  (augS dMul 5 (var 0))))
  (retS (callE m_quotient (consA (op2 dSub (var 5) (var 4)) (consA (var 5) nilA)))))))))
def m_chance_new : List D → M D := fnD 3 6 b_chance_new
theorem sc_chance_new : FnScope ["dies", "seen", "more", "coin", "up", "down"] ["dies", "seen", "more"] (defScope s_chance_new) := ⟨rfl, rfl, rfl, by decide +kernel, rfl, by decide +kernel, by decide +kernel⟩
def d_chance_new : He.DefD := ⟨("chance_new", none), "chance_new", "chance_new", defArgs s_chance_new, defBody s_chance_new, defScope s_chance_new, [], []⟩
abbrev s_judge_counts : Stmt := top 25
def b_judge_counts : FS := (seqS (exprS (callE m_check_coins (consA (var 0) nilA)))
  (seqS (exprS (callE m_check_counts (consA (var 1) nilA)))
  (seqS (asgS 2 (op2 dSub (var 0) (op1 dSumA (var 1))))
  (retS (iteE (valB (op2 dEq (var 2) (cst (.int 0)))) (tupE (consA (cst (.str "right")) nilA)) (tupE (consA (cst (.str "gap")) (consA (var 2) nilA))))))))
def m_judge_counts : List D → M D := fnD 2 3 b_judge_counts
theorem sc_judge_counts : FnScope ["coins", "counts", "gap"] ["coins", "counts"] (defScope s_judge_counts) := ⟨rfl, rfl, rfl, by decide +kernel, rfl, by decide +kernel, by decide +kernel⟩
def d_judge_counts : He.DefD := ⟨("judge_counts", none), "judge_counts", "judge_counts", defArgs s_judge_counts, defBody s_judge_counts, defScope s_judge_counts, [], []⟩
abbrev s__law_start : Stmt := top 27
def b__law_start : FE := (seqO (asgS 1 (cst (.int 7)))
  (seqO (forS (itS (var 0)) (tgN 2) (asgS 1 (op2 dAdd (op2 dMod (op1 dInt (op2 dAdd (op2 dMulX (var 1) (cst (.int 48271))) (var 2))) (cst (.int 2147483629))) (cst (.int 1)))))
  (lstE (consA (op1 dList (var 0)) (consA (cst (.int 0)) (consA (cst (.int 0)) (consA (var 1) nilA)))))))
def m__law_start : List D → M D := fnO 1 3 b__law_start
theorem sc__law_start : FnScope ["script", "seed", "cell"] ["script"] (defScope s__law_start) := ⟨rfl, rfl, rfl, by decide +kernel, rfl, by decide +kernel, by decide +kernel⟩
def d__law_start : He.DefD := ⟨("_law_start", none), "_law_start", "_law_start", defArgs s__law_start, defBody s__law_start, defScope s__law_start, [], []⟩
abbrev s__law_draw : Stmt := top 28
def b__law_draw : FS := (seqS (ifS (andB (valB (op2 dEq (stIx 0 1) (cst (.int 0)))) (valB (op2 dGe (stIx 0 2) (op1 dLen (stIx 0 0))))) (seqS (stSet 0 3 (op2 dMod (op1 dInt (op2 dAdd (op2 dMulX (stIx 0 3) (cst (.int 48271))) (cst (.int 69621)))) (cst (.int 2147483629))))
  (retS (op2 dMod (op1 dInt (op2 dDiv (stIx 0 3) (cst (.int 13)))) (var 1)))) skipS)
  (seqS (ifS (valB (op2 dEq (stIx 0 1) (cst (.int 0)))) (seqS (stSet 0 1 (op1 dAbs (op2 dIxA (stIx 0 0) (stIx 0 2))))
  (stSet 0 2 (op2 dAdd (stIx 0 2) (cst (.int 1))))) skipS)
  (seqS (asgS 2 (op2 dMod (op1 dInt (stIx 0 1)) (var 1)))
  (seqS (stSet 0 1 (op2 dDiv (stIx 0 1) (var 1)))
  (retS (var 2))))))
def m__law_draw : List D → M D := fnD 2 3 b__law_draw
theorem sc__law_draw : FnScope ["state", "many", "taken"] ["state", "many"] (defScope s__law_draw) := ⟨rfl, rfl, rfl, by decide +kernel, rfl, by decide +kernel, by decide +kernel⟩
def d__law_draw : He.DefD := ⟨("_law_draw", none), "_law_draw", "_law_draw", defArgs s__law_draw, defBody s__law_draw, defScope s__law_draw, [], []⟩
abbrev s__law_pick : Stmt := top 29
def b__law_pick : FS := (retS (op2 dIxA (var 1) (callE m__law_draw (consA (var 0) (consA (op1 dLen (var 1)) nilA)))))
def m__law_pick : List D → M D := fnD 2 2 b__law_pick
theorem sc__law_pick : FnScope ["state", "some"] ["state", "some"] (defScope s__law_pick) := ⟨rfl, rfl, rfl, by decide +kernel, rfl, by decide +kernel, by decide +kernel⟩
def d__law_pick : He.DefD := ⟨("_law_pick", none), "_law_pick", "_law_pick", defArgs s__law_pick, defBody s__law_pick, defScope s__law_pick, [], []⟩
abbrev s__law_same : Stmt := top 30
def b__law_same : FS := (retS (andE (op2 dEq (var 0) (var 1)) (reprEqE (var 0) (var 1))))
def m__law_same : List D → M D := fnD 2 2 b__law_same
theorem sc__law_same : FnScope ["actual", "due"] ["actual", "due"] (defScope s__law_same) := ⟨rfl, rfl, rfl, by decide +kernel, rfl, by decide +kernel, by decide +kernel⟩
def d__law_same : He.DefD := ⟨("_law_same", none), "_law_same", "_law_same", defArgs s__law_same, defBody s__law_same, defScope s__law_same, [], []⟩
abbrev s__law_power : Stmt := top 31
def b__law_power : FS := (seqS (asgS 2 (cst (.int 1)))
  (seqS (forS (itR1 (var 1)) (tgN 3) (asgS 2 (op2 dMulX (var 2) (var 0))))
  (retS (var 2))))
def m__law_power : List D → M D := fnD 2 4 b__law_power
theorem sc__law_power : FnScope ["base", "many", "whole", "k"] ["base", "many"] (defScope s__law_power) := ⟨rfl, rfl, rfl, by decide +kernel, rfl, by decide +kernel, by decide +kernel⟩
def d__law_power : He.DefD := ⟨("_law_power", none), "_law_power", "_law_power", defArgs s__law_power, defBody s__law_power, defScope s__law_power, [], []⟩
abbrev s__law_lowest : Stmt := top 32
def b__law_lowest : FS := (seqS (parS 2 3 (var 0) (var 1))
  (seqS (whileS (valB (op2 dGt (var 3) (cst (.int 0)))) (parS 2 3 (var 3) (op2 dMod (op1 dInt (var 2)) (var 3))) W0)
  (retS (tupE (consA (op2 dDiv (var 0) (var 2)) (consA (op2 dDiv (var 1) (var 2)) nilA))))))
def m__law_lowest : List D → M D := fnD 2 4 b__law_lowest
theorem sc__law_lowest : FnScope ["up", "down", "one", "other"] ["up", "down"] (defScope s__law_lowest) := ⟨rfl, rfl, rfl, by decide +kernel, rfl, by decide +kernel, by decide +kernel⟩
def d__law_lowest : He.DefD := ⟨("_law_lowest", none), "_law_lowest", "_law_lowest", defArgs s__law_lowest, defBody s__law_lowest, defScope s__law_lowest, [], []⟩
abbrev s__law_choices : Stmt := top 33
def b__law_choices : FS := (seqS (asgOS 1 (lstE (consA (lstE (consA (cst (.int 1)) nilA)) nilA)))
  (seqS (forS (itR1 (var 0)) (tgN 2) (seqS (asgS 3 (op2 dIxA (varB 1) (op1 dNeg (cst (.int 1)))))
  (appS 1 (op2 dAdd (op2 dAdd (lstE (consA (cst (.int 1)) nilA)) (lcE (itR1 (var 2)) (tgN 4) yesB (op2 dAdd (op2 dIxA (var 3) (var 4)) (op2 dIxA (var 3) (op2 dAdd (var 4) (cst (.int 1))))) [4])) (lstE (consA (cst (.int 1)) nilA))))))
  (frzS 1 (retS (var 1)))))
def m__law_choices : List D → M D := fnD 1 5 b__law_choices
theorem sc__law_choices : FnScope ["most", "rows", "many", "last", "k"] ["most"] (defScope s__law_choices) := ⟨rfl, rfl, rfl, by decide +kernel, rfl, by decide +kernel, by decide +kernel⟩
def d__law_choices : He.DefD := ⟨("_law_choices", none), "_law_choices", "_law_choices", defArgs s__law_choices, defBody s__law_choices, defScope s__law_choices, [], []⟩
abbrev s__law_ways : Stmt := top 34
def b__law_ways : FS := (seqS (parS 4 5 (callE m__law_choices (consA (var 0) nilA)) (lcE (itR1 (op2 dAdd (var 0) (cst (.int 1)))) (tgN 9) yesB (callE m__law_power (consA (var 9) (consA (var 1) nilA))) [9]))
  (seqS (asgOS 2 (lstE nilA))
  (seqS (forS (itR1 (op2 dAdd (var 0) (cst (.int 1)))) (tgN 3) (seqS (asgT (tgT [(tgN 7), (tgN 8)]) (tupE (consA (cst (.int 0)) (consA (cst (.int 1)) nilA))))
  (seqS (forS (itR1 (op2 dAdd (var 3) (cst (.int 1)))) (tgN 6) (seqS (asgS 7 (op2 dAdd (var 7) (op2 dMulX (op2 dMulX (var 8) (op2 dIxA (op2 dIxA (var 4) (var 3)) (var 6))) (op2 dIxA (var 5) (op2 dSub (var 3) (var 6))))))
  (asgS 8 (op2 dSub (cst (.int 0)) (var 8)))))
  (appS 2 (op2 dMulX (op2 dIxA (op2 dIxA (var 4) (var 0)) (var 3)) (var 7))))))
  (frzS 2 (retS (var 2))))))
def m__law_ways : List D → M D := fnD 2 10 b__law_ways
theorem sc__law_ways : FnScope ["dies", "coins", "found", "seen", "choices", "powers", "missed", "whole", "sign", "own"] ["dies", "coins"] (defScope s__law_ways) := ⟨rfl, rfl, rfl, by decide +kernel, rfl, by decide +kernel, by decide +kernel⟩
def d__law_ways : He.DefD := ⟨("_law_ways", none), "_law_ways", "_law_ways", defArgs s__law_ways, defBody s__law_ways, defScope s__law_ways, [], []⟩
abbrev s__law_table : Stmt := top 35
def b__law_table : FS := (seqS (asgT (tgT [(tgN 4), (tgN 5)]) (tupE (consA (callE m__law_choices (consA (var 1) nilA)) (consA (lcE (itR1 (op2 dAdd (var 1) (cst (.int 1)))) (tgN 11) yesB (callE m__law_power (consA (var 11) (consA (var 0) nilA))) [11]) nilA))))
  (seqS (unpS [true, true] [6, 7] (consA (lstE nilA) (consA (lstE nilA) nilA)))
  (seqS (forS (itR1 (op2 dAdd (var 1) (cst (.int 1)))) (tgN 2) (seqS (asgT (tgT [(tgN 9), (tgN 10)]) (tupE (consA (cst (.int 0)) (consA (cst (.int 1)) nilA))))
  (seqS (forS (itR1 (op2 dAdd (var 2) (cst (.int 1)))) (tgN 8) (seqS (asgS 9 (op2 dAdd (var 9) (op2 dMulX (op2 dMulX (var 10) (op2 dIxA (op2 dIxA (var 4) (var 2)) (var 8))) (op2 dIxA (var 5) (op2 dSub (var 2) (var 8))))))
  (asgS 10 (op2 dSub (cst (.int 0)) (var 10)))))
  (appS 6 (var 9)))))
  (seqS (forS (itR1 (op2 dAdd (var 1) (cst (.int 1)))) (tgN 3) (appS 7 (lcE (itR1 (op2 dAdd (var 3) (cst (.int 1)))) (tgN 2) yesB (op2 dMulX (op2 dIxA (op2 dIxA (var 4) (var 3)) (var 2)) (op2 dIxA (varB 6) (var 2))) [2])))
  (frzS 7 (retS (tupE (consA (var 7) (consA (var 5) nilA)))))))))
def m__law_table : List D → M D := fnD 2 12 b__law_table
theorem sc__law_table : FnScope ["coins", "most", "seen", "dies", "choices", "powers", "every", "rows", "missed", "whole", "sign", "own"] ["coins", "most"] (defScope s__law_table) := ⟨rfl, rfl, rfl, by decide +kernel, rfl, by decide +kernel, by decide +kernel⟩
def d__law_table : He.DefD := ⟨("_law_table", none), "_law_table", "_law_table", defArgs s__law_table, defBody s__law_table, defScope s__law_table, [], []⟩
abbrev s__law_shown : Stmt := top 36
def b__law_shown : FS := (retS (op2 dMulX (var 0) (op2 dSub (callE m__law_power (consA (var 0) (consA (var 1) nilA))) (callE m__law_power (consA (op2 dSub (var 0) (cst (.int 1))) (consA (var 1) nilA))))))
def m__law_shown : List D → M D := fnD 2 2 b__law_shown
theorem sc__law_shown : FnScope ["dies", "coins"] ["dies", "coins"] (defScope s__law_shown) := ⟨rfl, rfl, rfl, by decide +kernel, rfl, by decide +kernel, by decide +kernel⟩
def d__law_shown : He.DefD := ⟨("_law_shown", none), "_law_shown", "_law_shown", defArgs s__law_shown, defBody s__law_shown, defScope s__law_shown, [], []⟩
abbrev s__law_chances_hold : Stmt := top 37
def b__law_chances_hold : FS := (seqS (asgT (tgT [(tgN 3), (tgN 4)]) (tupE (consA (callE m__law_ways (consA (var 0) (consA (var 1) nilA))) (consA (callE m__law_power (consA (var 0) (consA (var 1) nilA))) nilA))))
  (seqS (asgS 2 (op1 dTuple (lcE (itS (var 3)) (tgN 5) yesB (callE m__law_lowest (consA (var 5) (consA (var 4) nilA))) [5])))
  (retS (callE m__law_same (consA (lstE (consA (callE m_chances_seen (consA (var 0) (consA (var 1) nilA))) (consA (callE m_mean_seen (consA (var 0) (consA (var 1) nilA))) nilA))) (consA (lstE (consA (var 2) (consA (callE m__law_lowest (consA (callE m__law_shown (consA (var 0) (consA (var 1) nilA))) (consA (var 4) nilA))) nilA))) nilA))))))
def m__law_chances_hold : List D → M D := fnD 2 6 b__law_chances_hold
theorem sc__law_chances_hold : FnScope ["dies", "coins", "due", "ways", "whole", "own"] ["dies", "coins"] (defScope s__law_chances_hold) := ⟨rfl, rfl, rfl, by decide +kernel, rfl, by decide +kernel, by decide +kernel⟩
def d__law_chances_hold : He.DefD := ⟨("_law_chances_hold", none), "_law_chances_hold", "_law_chances_hold", defArgs s__law_chances_hold, defBody s__law_chances_hold, defScope s__law_chances_hold, [], []⟩
abbrev s__law_likely_holds : Stmt := top 38
def b__law_likely_holds : FS := (seqS (asgT (tgT [(tgN 7), (tgN 8)]) (callE m__law_table (consA (var 1) (consA (var 3) nilA))))
  (seqS (asgS 4 (callE m__law_lowest (consA (op2 dAdd (cst (.int 1)) (callE m__law_draw (consA (var 0) (consA (cst (.int 20)) nilA)))) (consA (callE m__law_pick (consA (var 0) (consA (lstE (consA (cst (.int 21)) (consA (cst (.int 40)) (consA (cst (.int 100)) (consA (cst (.int 1000)) nilA))))) nilA))) nilA))))
  (seqS (asgS 4 (callE m__law_pick (consA (var 0) (consA (lstE (consA (var 4) (consA (var 4) (consA (tupE (consA (cst (.int 1)) (consA (cst (.int 1)) nilA))) (consA (tupE (consA (cst (.int 1)) (consA (cst (.int 1000)) nilA))) (consA (tupE (consA (cst (.int 999)) (consA (cst (.int 1000)) nilA))) (consA (tupE (consA (cst (.int 1)) (consA (cst (.int 2)) nilA))) nilA))))))) nilA))))
  (seqS (parVO 9 10 (cst .non) (lstE nilA))
  (seqS (forS (itR2 (op1 dMax (lstE (consA (cst (.int 1)) (consA (var 2) nilA)))) (op2 dAdd (var 3) (cst (.int 1)))) (tgN 5) (seqS (ifS (andB (valB (op2 dGt (op2 dIxA (op2 dIxA (var 7) (var 5)) (var 2)) (cst (.int 0)))) (orB (valB (op2 dIs (var 9) (cst .non))) (valB (op2 dGt (op2 dMulX (op2 dIxA (op2 dIxA (var 7) (var 5)) (var 2)) (op2 dIxA (var 8) (var 9))) (op2 dMulX (op2 dIxA (op2 dIxA (var 7) (var 9)) (var 2)) (op2 dIxA (var 8) (var 5))))))) (asgS 9 (var 5)) skipS)
  (seqS (parS 11 12 (op1 dSumA (slcE (op2 dIxA (var 7) (var 5)) noP (partP (op2 dAdd (var 2) (cst (.int 1)))))) (op1 dSumA (slcE (op2 dIxA (var 7) (var 5)) (partP (var 2)) noP)))
  (extS 10 (iteE (andB (valB (op2 dGe (op2 dMulX (var 11) (op2 dIxA (var 4) (cst (.int 1)))) (op2 dMulX (op2 dIxA (var 4) (cst (.int 0))) (op2 dIxA (var 8) (var 5))))) (valB (op2 dGe (op2 dMulX (var 12) (op2 dIxA (var 4) (cst (.int 1)))) (op2 dMulX (op2 dIxA (var 4) (cst (.int 0))) (op2 dIxA (var 8) (var 5)))))) (lstE (consA (var 5) nilA)) (lstE nilA))))))
  (seqS (asgS 6 (iteE (truB (varB 10)) (tupE (consA (op2 dIxA (varB 10) (cst (.int 0))) (consA (op2 dIxA (varB 10) (op1 dNeg (cst (.int 1)))) nilA))) (cst .non)))
  (retS (callE m__law_same (consA (lstE (consA (callE m_likeliest_dies (consA (var 1) (consA (var 2) (consA (var 3) nilA)))) (consA (callE m_dies_bounds (consA (var 1) (consA (var 2) (consA (var 4) (consA (var 3) nilA))))) nilA))) (consA (lstE (consA (var 9) (consA (var 6) nilA))) nilA))))))))))
def m__law_likely_holds : List D → M D := fnD 4 13 b__law_likely_holds
theorem sc__law_likely_holds : FnScope ["state", "coins", "seen", "most", "part", "dies", "due", "rows", "powers", "best", "good", "less", "more"] ["state", "coins", "seen", "most"] (defScope s__law_likely_holds) := ⟨rfl, rfl, rfl, by decide +kernel, rfl, by decide +kernel, by decide +kernel⟩
def d__law_likely_holds : He.DefD := ⟨("_law_likely_holds", none), "_law_likely_holds", "_law_likely_holds", defArgs s__law_likely_holds, defBody s__law_likely_holds, defScope s__law_likely_holds, [], []⟩
abbrev s__law_least_holds : Stmt := top 39
def b__law_least_holds : FS := (seqS (asgS 2 (lcE (itR1 (cst (.int 61))) (tgN 3) (valB (op2 dGe (callE m__law_shown (consA (var 0) (consA (var 3) nilA))) (op2 dMulX (var 1) (callE m__law_power (consA (var 0) (consA (var 3) nilA)))))) (var 3) [3]))
  (retS (callE m__law_same (consA (callE m_least_for (consA (var 0) (consA (var 1) nilA))) (consA (iteE (truB (var 2)) (op2 dIxA (var 2) (cst (.int 0))) (cst .non)) nilA)))))
def m__law_least_holds : List D → M D := fnD 2 4 b__law_least_holds
theorem sc__law_least_holds : FnScope ["dies", "wanted", "good", "coins"] ["dies", "wanted"] (defScope s__law_least_holds) := ⟨rfl, rfl, rfl, by decide +kernel, rfl, by decide +kernel, by decide +kernel⟩
def d__law_least_holds : He.DefD := ⟨("_law_least_holds", none), "_law_least_holds", "_law_least_holds", defArgs s__law_least_holds, defBody s__law_least_holds, defScope s__law_least_holds, [], []⟩
abbrev s__law_new_holds : Stmt := top 40
def b__law_new_holds : FS := (seqS (asgS 3 (callE m__law_power (consA (var 0) (consA (var 2) nilA))))
  (retS (callE m__law_same (consA (callE m_chance_new (consA (var 0) (consA (var 1) (consA (var 2) nilA)))) (consA (callE m__law_lowest (consA (op2 dSub (var 3) (callE m__law_power (consA (var 1) (consA (var 2) nilA)))) (consA (var 3) nilA))) nilA)))))
def m__law_new_holds : List D → M D := fnD 3 4 b__law_new_holds
theorem sc__law_new_holds : FnScope ["dies", "seen", "more", "whole"] ["dies", "seen", "more"] (defScope s__law_new_holds) := ⟨rfl, rfl, rfl, by decide +kernel, rfl, by decide +kernel, by decide +kernel⟩
def d__law_new_holds : He.DefD := ⟨("_law_new_holds", none), "_law_new_holds", "_law_new_holds", defArgs s__law_new_holds, defBody s__law_new_holds, defScope s__law_new_holds, [], []⟩
abbrev s__law_counts_hold : Stmt := top 41
def b__law_counts_hold : FS := (seqS (asgT (tgT [(tgN 5), (tgN 6)]) (tupE (consA (callE m__law_pick (consA (var 0) (consA (lstE (consA (cst (.int 1)) (consA (cst (.int 2)) (consA (cst (.int 3)) (consA (cst (.int 6)) (consA (cst (.int 40)) nilA)))))) nilA))) (consA (callE m__law_pick (consA (var 0) (consA (lstE (consA (cst (.int 1)) (consA (cst (.int 2)) (consA (cst (.int 4)) (consA (cst (.int 60)) nilA))))) nilA))) nilA))))
  (seqS (asgS 1 (op1 dTupX (lcE (itR1 (var 5)) (tgN 11) yesB (op2 dAdd (cst (.int 1)) (callE m__law_draw (consA (var 0) (consA (var 6) nilA)))) [11])))
  (seqS (unpS [false, false, true] [7, 8, 9] (consA (op1 dSumA (var 1)) (consA (cst (.int 0)) (consA dicE nilA))))
  (seqS (forS (itS (var 1)) (tgN 2) (seqS (asgS 8 (op2 dAdd (var 8) (op2 dDiv (op2 dMulX (var 2) (op2 dSub (var 2) (cst (.int 1)))) (cst (.int 2)))))
  (putS 9 (op2 dAdd (get2E (varB 9) (var 2) (cst (.int 0))) (cst (.int 1))) (var 2))))
  (seqS (ifS (valB (op2 dLt (var 7) (cst (.int 61)))) (seqS (unpS [true, false] [4, 8] (consA (lstE nilA) (consA (cst (.int 0)) nilA)))
  (seqS (forS (itR1 (var 5)) (tgN 10) (extS 4 (op2 dMulX (lstE (consA (var 10) nilA)) (op2 dIxA (var 1) (var 10)))))
  (forS (itR1 (var 7)) (tgN 11) (asgS 8 (op2 dAdd (var 8) (op1 dLen (lcE (itS (slcE (varB 4) noP (partP (var 11)))) (tgN 2) (valB (op2 dEq (var 2) (op2 dIxA (varB 4) (var 11)))) (var 2) [2]))))))) skipS)
  (seqS (asgOS 3 (lstE (consA (callE m__law_lowest (consA (op2 dSub (var 7) (op1 dLen (lcE (itS (var 1)) (tgN 2) (valB (op2 dEq (var 2) (cst (.int 1)))) (var 2) [2]))) (consA (var 7) nilA))) (consA (op1 dTuple (lcE (itS (op1 dSorted (varB 9))) (tgN 2) yesB (tupE (consA (var 2) (consA (op2 dIxA (varB 9) (var 2)) nilA))) [2])) nilA))))
  (seqS (appS 3 (iteE (valB (op2 dEq (var 7) (cst (.int 1)))) (cst .non) (callE m__law_lowest (consA (var 8) (consA (op2 dDiv (op2 dMulX (var 7) (op2 dSub (var 7) (cst (.int 1)))) (cst (.int 2))) nilA)))))
  (seqS (frzS 3 (ifS (notB (truB (callE m__law_same (consA (lstE (consA (callE m_coverage (consA (var 1) nilA)) (consA (callE m_often_seen (consA (var 1) nilA)) (consA (callE m_chance_alike (consA (var 1) nilA)) nilA)))) (consA (var 3) nilA))))) (retS (cst (.bl false))) skipS))
  (seqS (asgS 4 (callE m__law_pick (consA (var 0) (consA (lstE (consA (op1 dMin (lstE (consA (cst (.int 60)) (consA (var 7) nilA)))) (consA (op1 dMin (lstE (consA (cst (.int 60)) (consA (op2 dAdd (var 7) (cst (.int 1))) nilA)))) (consA (op1 dMin (lstE (consA (cst (.int 60)) (consA (op2 dSub (var 7) (cst (.int 1))) nilA)))) (consA (callE m__law_draw (consA (var 0) (consA (cst (.int 61)) nilA))) (consA (cst (.int 0)) (consA (cst (.int 60)) nilA))))))) nilA))))
  (frzS 4 (retS (callE m__law_same (consA (callE m_judge_counts (consA (var 4) (consA (var 1) nilA))) (consA (iteE (valB (op2 dEq (varB 4) (var 7))) (tupE (consA (cst (.str "right")) nilA)) (tupE (consA (cst (.str "gap")) (consA (op2 dSub (varB 4) (var 7)) nilA)))) nilA))))))))))))))
def m__law_counts_hold : List D → M D := fnD 1 12 b__law_counts_hold
theorem sc__law_counts_hold : FnScope ["state", "counts", "own", "due", "coins", "many", "top", "whole", "alike", "rows", "at", "k"] ["state"] (defScope s__law_counts_hold) := ⟨rfl, rfl, rfl, by decide +kernel, rfl, by decide +kernel, by decide +kernel⟩
def d__law_counts_hold : He.DefD := ⟨("_law_counts_hold", none), "_law_counts_hold", "_law_counts_hold", defArgs s__law_counts_hold, defBody s__law_counts_hold, defScope s__law_counts_hold, [], []⟩
abbrev s_law : Stmt := top 42
def b_law : FS := (seqS (mkS 1 m__law_start (consA (var 0) nilA))
  (seqS (forS (itR1 (cst (.int 3))) (tgN 2) (seqS (parS 4 5 (op2 dAdd (cst (.int 1)) (callE m__law_draw (consA (var 1) (consA (callE m__law_pick (consA (var 1) (consA (lstE (consA (cst (.int 3)) (consA (cst (.int 8)) (consA (cst (.int 40)) nilA)))) nilA))) nilA)))) (callE m__law_draw (consA (var 1) (consA (callE m__law_pick (consA (var 1) (consA (lstE (consA (cst (.int 4)) (consA (cst (.int 9)) (consA (cst (.int 61)) nilA)))) nilA))) nilA))))
  (seqS (ifS (valB (op2 dEq (callE m__law_draw (consA (var 1) (consA (cst (.int 9)) nilA))) (cst (.int 0)))) (asgT (tgT [(tgN 4), (tgN 5)]) (callE m__law_pick (consA (var 1) (consA (lstE (consA (tupE (consA (cst (.int 40)) (consA (cst (.int 60)) nilA))) (consA (tupE (consA (cst (.int 1)) (consA (cst (.int 0)) nilA))) (consA (tupE (consA (cst (.int 1)) (consA (cst (.int 60)) nilA))) (consA (tupE (consA (cst (.int 40)) (consA (cst (.int 0)) nilA))) (consA (tupE (consA (cst (.int 40)) (consA (cst (.int 40)) nilA))) (consA (tupE (consA (cst (.int 39)) (consA (cst (.int 59)) nilA))) nilA))))))) nilA)))) skipS)
  (seqS (parS 6 7 (callE m__law_draw (consA (var 1) (consA (callE m__law_pick (consA (var 1) (consA (lstE (consA (cst (.int 4)) (consA (op2 dAdd (var 4) (cst (.int 1))) (consA (cst (.int 41)) nilA)))) nilA))) nilA))) (op2 dAdd (cst (.int 1)) (callE m__law_draw (consA (var 1) (consA (callE m__law_pick (consA (var 1) (consA (lstE (consA (cst (.int 8)) (consA (cst (.int 40)) nilA))) nilA))) nilA)))))
  (seqS (ifS (orB (notB (truB (callE m__law_chances_hold (consA (var 4) (consA (var 5) nilA))))) (notB (truB (callE m__law_likely_holds (consA (var 1) (consA (var 5) (consA (var 6) (consA (var 7) nilA)))))))) (retS (cst (.bl false))) skipS)
  (seqS (asgS 3 (callE m__law_draw (consA (var 1) (consA (callE m__law_pick (consA (var 1) (consA (lstE (consA (op2 dAdd (var 4) (cst (.int 1))) (consA (op2 dAdd (var 4) (cst (.int 1))) (consA (cst (.int 41)) nilA)))) nilA))) nilA))))
  (ifS (orB (notB (truB (callE m__law_least_holds (consA (var 4) (consA (var 3) nilA))))) (orB (notB (truB (callE m__law_new_holds (consA (var 4) (consA (callE m__law_draw (consA (var 1) (consA (op2 dAdd (var 4) (cst (.int 1))) nilA))) (consA (callE m__law_draw (consA (var 1) (consA (cst (.int 61)) nilA))) nilA)))))) (notB (truB (callE m__law_counts_hold (consA (var 1) nilA)))))) (retS (cst (.bl false))) skipS)))))))
  (retS (cst (.bl true)))))
def m_law : List D → M D := fnD 1 8 b_law
theorem sc_law : FnScope ["script", "state", "turn", "wanted", "dies", "coins", "seen", "most"] ["script"] (defScope s_law) := ⟨rfl, rfl, rfl, by decide +kernel, rfl, by decide +kernel, by decide +kernel⟩
def d_law : He.DefD := ⟨("law", none), "law", "law", defArgs s_law, defBody s_law, defScope s_law, [], []⟩
def nm : Nat → Str
  | 0 => "is_integer"
  | 1 => "check_dies"
  | 2 => "check_coins"
  | 3 => "check_seen"
  | 4 => "quotient"
  | 5 => "ways_table"
  | 6 => "chances_seen"
  | 7 => "mean_seen"
  | 8 => "likeliest_dies"
  | 10 => "check_part"
  | 9 => "dies_bounds"
  | 11 => "check_counts"
  | 12 => "coverage"
  | 13 => "often_seen"
  | 14 => "least_for"
  | 15 => "chance_alike"
  | 17 => "check_more"
  | 16 => "chance_new"
  | 18 => "judge_counts"
  | 19 => "_law_start"
  | 20 => "_law_draw"
  | 21 => "_law_pick"
  | 22 => "_law_same"
  | 23 => "_law_power"
  | 24 => "_law_lowest"
  | 25 => "_law_choices"
  | 26 => "_law_ways"
  | 27 => "_law_table"
  | 28 => "_law_shown"
  | 29 => "_law_chances_hold"
  | 30 => "_law_likely_holds"
  | 31 => "_law_least_holds"
  | 32 => "_law_new_holds"
  | 33 => "_law_counts_hold"
  | 34 => "law"
  | _ => ""
abbrev ad (K : PySem.W.Frag) (n : Nat) : Addr := He.ga K (nm n)
abbrev fd (K : PySem.W.Frag) (n : Nat) : FuncData := fdA K (ad K n)
structure Tx (K : PySem.W.Frag) (mg : Str → Option Value) : Prop where
  F_is_integer : FunD K "is_integer" "is_integer" (defArgs s_is_integer) (defBody s_is_integer) (defScope s_is_integer) [] [] (ad K 0) (fd K 0)
  b_is_integer : Binds K (fd K 0) ["value"] []
  g_is_integer : mg "is_integer" = some (.ref (ad K 0))
  F_check_dies : FunD K "check_dies" "check_dies" (defArgs s_check_dies) (defBody s_check_dies) (defScope s_check_dies) [.str "dies"] [] (ad K 1) (fd K 1)
  b_check_dies : Binds K (fd K 1) ["dies", "reason"] []
  bd_check_dies : ∃ t, Binds K (fd K 1) ["dies", "reason"] [.str "dies" t]
  g_check_dies : mg "check_dies" = some (.ref (ad K 1))
  F_check_coins : FunD K "check_coins" "check_coins" (defArgs s_check_coins) (defBody s_check_coins) (defScope s_check_coins) [] [] (ad K 2) (fd K 2)
  b_check_coins : Binds K (fd K 2) ["coins"] []
  g_check_coins : mg "check_coins" = some (.ref (ad K 2))
  F_check_seen : FunD K "check_seen" "check_seen" (defArgs s_check_seen) (defBody s_check_seen) (defScope s_check_seen) [] [] (ad K 3) (fd K 3)
  b_check_seen : Binds K (fd K 3) ["seen"] []
  g_check_seen : mg "check_seen" = some (.ref (ad K 3))
  F_quotient : FunD K "quotient" "quotient" (defArgs s_quotient) (defBody s_quotient) (defScope s_quotient) [] [] (ad K 4) (fd K 4)
  b_quotient : Binds K (fd K 4) ["up", "down"] []
  g_quotient : mg "quotient" = some (.ref (ad K 4))
  F_ways_table : FunD K "ways_table" "ways_table" (defArgs s_ways_table) (defBody s_ways_table) (defScope s_ways_table) [] [] (ad K 5) (fd K 5)
  b_ways_table : Binds K (fd K 5) ["dies", "coins"] []
  g_ways_table : mg "ways_table" = some (.ref (ad K 5))
  F_chances_seen : FunD K "chances_seen" "chances_seen" (defArgs s_chances_seen) (defBody s_chances_seen) (defScope s_chances_seen) [] [] (ad K 6) (fd K 6)
  b_chances_seen : Binds K (fd K 6) ["dies", "coins"] []
  g_chances_seen : mg "chances_seen" = some (.ref (ad K 6))
  F_mean_seen : FunD K "mean_seen" "mean_seen" (defArgs s_mean_seen) (defBody s_mean_seen) (defScope s_mean_seen) [] [] (ad K 7) (fd K 7)
  b_mean_seen : Binds K (fd K 7) ["dies", "coins"] []
  g_mean_seen : mg "mean_seen" = some (.ref (ad K 7))
  F_likeliest_dies : FunD K "likeliest_dies" "likeliest_dies" (defArgs s_likeliest_dies) (defBody s_likeliest_dies) (defScope s_likeliest_dies) [] [] (ad K 8) (fd K 8)
  b_likeliest_dies : Binds K (fd K 8) ["coins", "seen", "most"] []
  g_likeliest_dies : mg "likeliest_dies" = some (.ref (ad K 8))
  F_check_part : FunD K "check_part" "check_part" (defArgs s_check_part) (defBody s_check_part) (defScope s_check_part) [] [] (ad K 10) (fd K 10)
  b_check_part : Binds K (fd K 10) ["part"] []
  g_check_part : mg "check_part" = some (.ref (ad K 10))
  F_dies_bounds : FunD K "dies_bounds" "dies_bounds" (defArgs s_dies_bounds) (defBody s_dies_bounds) (defScope s_dies_bounds) [] [] (ad K 9) (fd K 9)
  b_dies_bounds : Binds K (fd K 9) ["coins", "seen", "part", "most"] []
  g_dies_bounds : mg "dies_bounds" = some (.ref (ad K 9))
  F_check_counts : FunD K "check_counts" "check_counts" (defArgs s_check_counts) (defBody s_check_counts) (defScope s_check_counts) [] [] (ad K 11) (fd K 11)
  b_check_counts : Binds K (fd K 11) ["counts"] []
  g_check_counts : mg "check_counts" = some (.ref (ad K 11))
  F_coverage : FunD K "coverage" "coverage" (defArgs s_coverage) (defBody s_coverage) (defScope s_coverage) [] [] (ad K 12) (fd K 12)
  b_coverage : Binds K (fd K 12) ["counts"] []
  g_coverage : mg "coverage" = some (.ref (ad K 12))
  F_often_seen : FunD K "often_seen" "often_seen" (defArgs s_often_seen) (defBody s_often_seen) (defScope s_often_seen) [] [] (ad K 13) (fd K 13)
  b_often_seen : Binds K (fd K 13) ["counts"] []
  g_often_seen : mg "often_seen" = some (.ref (ad K 13))
  F_least_for : FunD K "least_for" "least_for" (defArgs s_least_for) (defBody s_least_for) (defScope s_least_for) [] [] (ad K 14) (fd K 14)
  b_least_for : Binds K (fd K 14) ["dies", "wanted"] []
  g_least_for : mg "least_for" = some (.ref (ad K 14))
  F_chance_alike : FunD K "chance_alike" "chance_alike" (defArgs s_chance_alike) (defBody s_chance_alike) (defScope s_chance_alike) [] [] (ad K 15) (fd K 15)
  b_chance_alike : Binds K (fd K 15) ["counts"] []
  g_chance_alike : mg "chance_alike" = some (.ref (ad K 15))
  F_check_more : FunD K "check_more" "check_more" (defArgs s_check_more) (defBody s_check_more) (defScope s_check_more) [] [] (ad K 17) (fd K 17)
  b_check_more : Binds K (fd K 17) ["dies", "seen", "more"] []
  g_check_more : mg "check_more" = some (.ref (ad K 17))
  F_chance_new : FunD K "chance_new" "chance_new" (defArgs s_chance_new) (defBody s_chance_new) (defScope s_chance_new) [] [] (ad K 16) (fd K 16)
  b_chance_new : Binds K (fd K 16) ["dies", "seen", "more"] []
  g_chance_new : mg "chance_new" = some (.ref (ad K 16))
  F_judge_counts : FunD K "judge_counts" "judge_counts" (defArgs s_judge_counts) (defBody s_judge_counts) (defScope s_judge_counts) [] [] (ad K 18) (fd K 18)
  b_judge_counts : Binds K (fd K 18) ["coins", "counts"] []
  g_judge_counts : mg "judge_counts" = some (.ref (ad K 18))
  F__law_start : FunD K "_law_start" "_law_start" (defArgs s__law_start) (defBody s__law_start) (defScope s__law_start) [] [] (ad K 19) (fd K 19)
  b__law_start : Binds K (fd K 19) ["script"] []
  g__law_start : mg "_law_start" = some (.ref (ad K 19))
  F__law_draw : FunD K "_law_draw" "_law_draw" (defArgs s__law_draw) (defBody s__law_draw) (defScope s__law_draw) [] [] (ad K 20) (fd K 20)
  b__law_draw : Binds K (fd K 20) ["state", "many"] []
  g__law_draw : mg "_law_draw" = some (.ref (ad K 20))
  F__law_pick : FunD K "_law_pick" "_law_pick" (defArgs s__law_pick) (defBody s__law_pick) (defScope s__law_pick) [] [] (ad K 21) (fd K 21)
  b__law_pick : Binds K (fd K 21) ["state", "some"] []
  g__law_pick : mg "_law_pick" = some (.ref (ad K 21))
  F__law_same : FunD K "_law_same" "_law_same" (defArgs s__law_same) (defBody s__law_same) (defScope s__law_same) [] [] (ad K 22) (fd K 22)
  b__law_same : Binds K (fd K 22) ["actual", "due"] []
  g__law_same : mg "_law_same" = some (.ref (ad K 22))
  F__law_power : FunD K "_law_power" "_law_power" (defArgs s__law_power) (defBody s__law_power) (defScope s__law_power) [] [] (ad K 23) (fd K 23)
  b__law_power : Binds K (fd K 23) ["base", "many"] []
  g__law_power : mg "_law_power" = some (.ref (ad K 23))
  F__law_lowest : FunD K "_law_lowest" "_law_lowest" (defArgs s__law_lowest) (defBody s__law_lowest) (defScope s__law_lowest) [] [] (ad K 24) (fd K 24)
  b__law_lowest : Binds K (fd K 24) ["up", "down"] []
  g__law_lowest : mg "_law_lowest" = some (.ref (ad K 24))
  F__law_choices : FunD K "_law_choices" "_law_choices" (defArgs s__law_choices) (defBody s__law_choices) (defScope s__law_choices) [] [] (ad K 25) (fd K 25)
  b__law_choices : Binds K (fd K 25) ["most"] []
  g__law_choices : mg "_law_choices" = some (.ref (ad K 25))
  F__law_ways : FunD K "_law_ways" "_law_ways" (defArgs s__law_ways) (defBody s__law_ways) (defScope s__law_ways) [] [] (ad K 26) (fd K 26)
  b__law_ways : Binds K (fd K 26) ["dies", "coins"] []
  g__law_ways : mg "_law_ways" = some (.ref (ad K 26))
  F__law_table : FunD K "_law_table" "_law_table" (defArgs s__law_table) (defBody s__law_table) (defScope s__law_table) [] [] (ad K 27) (fd K 27)
  b__law_table : Binds K (fd K 27) ["coins", "most"] []
  g__law_table : mg "_law_table" = some (.ref (ad K 27))
  F__law_shown : FunD K "_law_shown" "_law_shown" (defArgs s__law_shown) (defBody s__law_shown) (defScope s__law_shown) [] [] (ad K 28) (fd K 28)
  b__law_shown : Binds K (fd K 28) ["dies", "coins"] []
  g__law_shown : mg "_law_shown" = some (.ref (ad K 28))
  F__law_chances_hold : FunD K "_law_chances_hold" "_law_chances_hold" (defArgs s__law_chances_hold) (defBody s__law_chances_hold) (defScope s__law_chances_hold) [] [] (ad K 29) (fd K 29)
  b__law_chances_hold : Binds K (fd K 29) ["dies", "coins"] []
  g__law_chances_hold : mg "_law_chances_hold" = some (.ref (ad K 29))
  F__law_likely_holds : FunD K "_law_likely_holds" "_law_likely_holds" (defArgs s__law_likely_holds) (defBody s__law_likely_holds) (defScope s__law_likely_holds) [] [] (ad K 30) (fd K 30)
  b__law_likely_holds : Binds K (fd K 30) ["state", "coins", "seen", "most"] []
  g__law_likely_holds : mg "_law_likely_holds" = some (.ref (ad K 30))
  F__law_least_holds : FunD K "_law_least_holds" "_law_least_holds" (defArgs s__law_least_holds) (defBody s__law_least_holds) (defScope s__law_least_holds) [] [] (ad K 31) (fd K 31)
  b__law_least_holds : Binds K (fd K 31) ["dies", "wanted"] []
  g__law_least_holds : mg "_law_least_holds" = some (.ref (ad K 31))
  F__law_new_holds : FunD K "_law_new_holds" "_law_new_holds" (defArgs s__law_new_holds) (defBody s__law_new_holds) (defScope s__law_new_holds) [] [] (ad K 32) (fd K 32)
  b__law_new_holds : Binds K (fd K 32) ["dies", "seen", "more"] []
  g__law_new_holds : mg "_law_new_holds" = some (.ref (ad K 32))
  F__law_counts_hold : FunD K "_law_counts_hold" "_law_counts_hold" (defArgs s__law_counts_hold) (defBody s__law_counts_hold) (defScope s__law_counts_hold) [] [] (ad K 33) (fd K 33)
  b__law_counts_hold : Binds K (fd K 33) ["state"] []
  g__law_counts_hold : mg "_law_counts_hold" = some (.ref (ad K 33))
  F_law : FunD K "law" "law" (defArgs s_law) (defBody s_law) (defScope s_law) [] [] (ad K 34) (fd K 34)
  b_law : Binds K (fd K 34) ["script"] []
  g_law : mg "law" = some (.ref (ad K 34))
  c_MAX_DIES : ∃ t, mg "MAX_DIES" = some (.int 40 t)
  c_MAX_COINS : ∃ t, mg "MAX_COINS" = some (.int 60 t)
  z_isinstance : mg "isinstance" = none
  z_bool : mg "bool" = none
  z_int : mg "int" = none
  z_range : mg "range" = none
  z_tuple : mg "tuple" = none
  z_enumerate : mg "enumerate" = none
  z_sum : mg "sum" = none
  z_max : mg "max" = none
  z_all : mg "all" = none
  z_len : mg "len" = none
  z_min : mg "min" = none
  z_sorted : mg "sorted" = none
  z_list : mg "list" = none
  z_abs : mg "abs" = none
  z_repr : mg "repr" = none
section
variable {P : Program} {w : World} {K : PySem.W.Frag} {mg : Str → Option Value} {base : Heap} {ca : Nat → Addr} {fld : Nat → Str}
abbrev cn (K : PySem.W.Frag) (ca : Nat → Addr) (fld : Nat → Str) : Cn := ⟨fun n => some (ad K n), ca, fld⟩
theorem ok_is_integer (T : Tx K mg) : FnG P w K mg base (L2.CX P w) 2 (ad K 0) (fd K 0) ["value"] (spM K (cn K ca fld) m_is_integer) :=
  fn_miniDD T.F_is_integer sc_is_integer fun cdv A outer s H E hr gd => (ms_one (ms_ret (me_and (me_isi' (T := "int") T.z_isinstance T.z_int (b_of (me_varL (i := 0)))) (me_one (me_not (b_of (me_isi' (T := "bool") T.z_isinstance T.z_bool (b_of (me_varL (i := 0))))))))))
theorem ok_check_dies (T : Tx K mg) : FnG P w K mg base (L2.CX P w) 3 (ad K 1) (fd K 1) ["dies", "reason"] (spM K (cn K ca fld) m_check_dies) :=
  fn_miniDD T.F_check_dies sc_check_dies fun cdv A outer s H E hr gd => (ms_one (ms_if (PW.pt (mw_or (mt_not (mt_tru' (b_of (me_call' (ok_is_integer T) (hr.mono (by decide)) gd T.g_is_integer T.F_is_integer.kp T.b_is_integer ps_body (ma_cons' (me_varL (i := 0)) ma_nil))))) (mw_or1 (mt_not (mt_chain op_leAll op_leAll m_leAll m_leAll (b_of me_int) (b_of (me_varL (i := 0))) (b_of (me_gint' T.c_MAX_DIES))))))) (ms_one ms_never) ms_nil))
theorem ok_check_coins (T : Tx K mg) : FnG P w K mg base (L2.CX P w) 3 (ad K 2) (fd K 2) ["coins"] (spM K (cn K ca fld) m_check_coins) :=
  fn_miniDD T.F_check_coins sc_check_coins fun cdv A outer s H E hr gd => (ms_one (ms_if (PW.pt (mw_or (mt_not (mt_tru' (b_of (me_call' (ok_is_integer T) (hr.mono (by decide)) gd T.g_is_integer T.F_is_integer.kp T.b_is_integer ps_body (ma_cons' (me_varL (i := 0)) ma_nil))))) (mw_or1 (mt_not (mt_chain op_leAll op_leAll m_leAll m_leAll (b_of me_int) (b_of (me_varL (i := 0))) (b_of (me_gint' T.c_MAX_COINS))))))) (ms_one ms_never) ms_nil))
theorem ok_check_seen (T : Tx K mg) : FnG P w K mg base (L2.CX P w) 3 (ad K 3) (fd K 3) ["seen"] (spM K (cn K ca fld) m_check_seen) :=
  fn_miniDD T.F_check_seen sc_check_seen fun cdv A outer s H E hr gd => (ms_one (ms_if (PW.pt (mw_or (mt_not (mt_tru' (b_of (me_call' (ok_is_integer T) (hr.mono (by decide)) gd T.g_is_integer T.F_is_integer.kp T.b_is_integer ps_body (ma_cons' (me_varL (i := 0)) ma_nil))))) (mw_or1 (mt_not (mt_chain op_leAll op_leAll m_leAll m_leAll (b_of me_int) (b_of (me_varL (i := 0))) (b_of (me_gint' T.c_MAX_DIES))))))) (ms_one ms_never) ms_nil))
theorem ok_quotient (T : Tx K mg) : FnG P w K mg base (L2.CX P w) 2 (ad K 4) (fd K 4) ["up", "down"] (spM K (cn K ca fld) m_quotient) :=
  fn_miniDD T.F_quotient sc_quotient fun cdv A outer s H E hr gd => (ms_cons (ms_par (i := 2) (j := 3) rfl sc_quotient.nd rfl rfl (by decide) (by kernel_rfl) (by kernel_rfl) (me_varL (i := 0)) (me_varL (i := 1)) (by kernel_rfl))
  (ms_cons (ms_while ps_own (mt_tru' (b_of (me_varL (i := 3)))) (ms_one (ms_par (i := 2) (j := 3) rfl sc_quotient.nd rfl rfl (by decide) (by kernel_rfl) (by kernel_rfl) (me_varL (i := 3)) (me_bin op_mod m_mod (b_of (me_varL (i := 2))) (b_of (me_varL (i := 3)))) (by kernel_rfl))))
  (ms_one (ms_ret (me_tup (ma_cons' (me_bin op_fdivW m_div (b_of (me_varL (i := 0))) (b_of (me_varL (i := 2)))) (ma_cons' (me_bin op_fdivW m_div (b_of (me_varL (i := 1))) (b_of (me_varL (i := 2)))) ma_nil)))))))
theorem ok_ways_table (T : Tx K mg) : FnG P w K mg base (L2.CX P w) 2 (ad K 5) (fd K 5) ["dies", "coins"] (spM K (cn K ca fld) m_ways_table) :=
  fn_miniDD T.F_ways_table sc_ways_table fun cdv A outer s H E hr gd => (ms_cons (ms_setC (i := 2) sc_ways_table.nd (me_bin op_addAll m_add (b_ofO (me_lst (ma_cons' me_int ma_nil))) (b_of (me_bin op_mulAll m_mulAll (b_ofO (me_lst (ma_cons' me_int ma_nil))) (b_of (me_varC (i := 0)))))))
  (ms_cons (ms_setL (i := 3) sc_ways_table.nd me_int)
  (ms_cons (ms_for (us := [4]) ps_own rfl (mi_rng1' T.z_range (me_varL (i := 1))) (mg_nameL (i := 4) sc_ways_table.nd) (ms_cons (ms_setC (i := 2) sc_ways_table.nd (m_of (me_lc rfl sc_ways_table.nd (mi_rng1' T.z_range (me_bin op_addAll m_add (b_of (me_varC (i := 0))) (b_of me_int))) (blk_ok (own := [("seen", 5)]) (by kernel_rfl)) (fun _ _ _ _ _ => (mg_nameL (i := 5) sc_ways_table.nd)) (fun _ _ _ _ _ => mts_nil) (fun _ _ _ _ _ => (me_bin op_addAll m_add (b_of (me_bin op_mulAll m_mulAll (b_of (me_ix (ix_all hr) m_ixAll (b_of (me_varC (i := 2))) (b_of (me_varL (i := 5))) (fun _ _ => rfl))) (b_of (me_varL (i := 5))))) (b_of (me_ite (mt_tru' (b_of (me_varL (i := 5)))) (me_bin op_mulAll m_mulAll (b_of (me_ix (ix_all hr) m_ixAll (b_of (me_varC (i := 2))) (b_of (me_bin op_sub m_sub (b_of (me_varL (i := 5))) (b_of me_int))) (fun _ _ => rfl))) (b_of (me_bin op_addAll m_add (b_of (me_bin op_sub m_sub (b_of (me_varC (i := 0))) (b_of (me_varL (i := 5))))) (b_of me_int)))) me_int)))))))
  (ms_one (ms_augL (i := 3) iop_mulW m_mul sc_ways_table.nd (me_varC (i := 0))))))
  (ms_one (ms_ret (me_tup (ma_cons' (me_varC (i := 2)) (ma_cons' (me_varL (i := 3)) ma_nil))))))))
theorem ok_chances_seen (T : Tx K mg) : FnG P w K mg base (L2.CX P w) 4 (ad K 6) (fd K 6) ["dies", "coins"] (spM K (cn K ca fld) m_chances_seen) :=
  fn_miniDD T.F_chances_seen sc_chances_seen fun cdv A outer s H E hr gd => (ms_cons (ms_expr (me_callS' (by decide +kernel) (ok_check_dies T) (hr.mono (by decide)) gd T.g_check_dies T.F_check_dies.kp T.bd_check_dies ps_body (ma_cons' (me_varL (i := 0)) ma_nil)))
  (ms_cons (ms_expr (me_call' (ok_check_coins T) (hr.mono (by decide)) gd T.g_check_coins T.F_check_coins.kp T.b_check_coins ps_body (ma_cons' (me_varL (i := 1)) ma_nil)))
  (ms_cons (ms_asg (us := [2, 3]) (me_call' (ok_ways_table T) (hr.mono (by decide)) gd T.g_ways_table T.F_ways_table.kp T.b_ways_table ps_body (ma_cons' (me_varL (i := 0)) (ma_cons' (me_varL (i := 1)) ma_nil))) (mg_tup rfl (mgs_cons' (mg_nameL (i := 2) sc_chances_seen.nd) (mgs_cons' (mg_nameC (i := 3) sc_chances_seen.nd) mgs_nil))))
  (ms_one (ms_ret (me_ty1' call_tuple_of u_tuple T.z_tuple (b_ofO (me_lc rfl sc_chances_seen.nd (mi_seq (me_varL (i := 2))) (blk_ok (own := [("own", 4)]) (by kernel_rfl)) (fun _ _ _ _ _ => (mg_nameL (i := 4) sc_chances_seen.nd)) (fun _ _ _ _ _ => mts_nil) (fun _ _ _ _ _ => (me_call' (ok_quotient T) (hr.mono (by decide)) gd T.g_quotient T.F_quotient.kp T.b_quotient passL (ma_cons' (me_varL (i := 4)) (ma_cons' (me_varC (i := 3)) ma_nil))))))))))))
theorem ok_mean_seen (T : Tx K mg) : FnG P w K mg base (L2.CX P w) 4 (ad K 7) (fd K 7) ["dies", "coins"] (spM K (cn K ca fld) m_mean_seen) :=
  fn_miniDD T.F_mean_seen sc_mean_seen fun cdv A outer s H E hr gd => (ms_cons (ms_expr (me_callS' (by decide +kernel) (ok_check_dies T) (hr.mono (by decide)) gd T.g_check_dies T.F_check_dies.kp T.bd_check_dies ps_body (ma_cons' (me_varL (i := 0)) ma_nil)))
  (ms_cons (ms_expr (me_call' (ok_check_coins T) (hr.mono (by decide)) gd T.g_check_coins T.F_check_coins.kp T.b_check_coins ps_body (ma_cons' (me_varL (i := 1)) ma_nil)))
  (ms_cons (ms_asg (us := [2, 3]) (me_call' (ok_ways_table T) (hr.mono (by decide)) gd T.g_ways_table T.F_ways_table.kp T.b_ways_table ps_body (ma_cons' (me_varL (i := 0)) (ma_cons' (me_varL (i := 1)) ma_nil))) (mg_tup rfl (mgs_cons' (mg_nameL (i := 2) sc_mean_seen.nd) (mgs_cons' (mg_nameL (i := 3) sc_mean_seen.nd) mgs_nil))))
  (ms_one (ms_ret (me_call' (ok_quotient T) (hr.mono (by decide)) gd T.g_quotient T.F_quotient.kp T.b_quotient ps_body (ma_cons' (me_bl1' (cr_sumAll rfl) u_sumA T.z_sum (b_ofO (me_lc rfl sc_mean_seen.nd (mi_enum' T.z_enumerate (me_varL (i := 2))) (blk_ok (own := [("seen", 4), ("own", 5)]) (by kernel_rfl)) (fun _ _ _ _ _ => (mg_tup rfl (mgs_cons' (mg_nameL (i := 4) sc_mean_seen.nd) (mgs_cons' (mg_nameL (i := 5) sc_mean_seen.nd) mgs_nil)))) (fun _ _ _ _ _ => mts_nil) (fun _ _ _ _ _ => (me_bin op_mulAll m_mulAll (b_of (me_varL (i := 4))) (b_of (me_varL (i := 5)))))))) (ma_cons' (me_varL (i := 3)) ma_nil))))))))
theorem ok_likeliest_dies (T : Tx K mg) : FnG P w K mg base (L2.CX P w) 4 (ad K 8) (fd K 8) ["coins", "seen", "most"] (spM K (cn K ca fld) m_likeliest_dies) :=
  fn_miniDD T.F_likeliest_dies sc_likeliest_dies fun cdv A outer s H E hr gd => (ms_cons (ms_expr (me_call' (ok_check_coins T) (hr.mono (by decide)) gd T.g_check_coins T.F_check_coins.kp T.b_check_coins ps_body (ma_cons' (me_varL (i := 0)) ma_nil)))
  (ms_cons (ms_expr (me_call' (ok_check_seen T) (hr.mono (by decide)) gd T.g_check_seen T.F_check_seen.kp T.b_check_seen ps_body (ma_cons' (me_varL (i := 1)) ma_nil)))
  (ms_cons (ms_expr (me_call' (ok_check_dies T) (hr.mono (by decide)) gd T.g_check_dies T.F_check_dies.kp T.b_check_dies ps_body (ma_cons' (me_varL (i := 2)) (ma_cons' me_str ma_nil))))
  (ms_cons (ms_setL (i := 3) sc_likeliest_dies.nd me_non)
  (ms_cons (ms_for (us := [4]) ps_own rfl (mi_rng2' T.z_range (me_bl2' (call_max2 rfl) m_max2 T.z_max (b_of me_int) (b_of (me_varL (i := 1)))) (me_bin op_addAll m_add (b_of (me_varL (i := 2))) (b_of me_int))) (mg_nameL (i := 4) sc_likeliest_dies.nd) (ms_cons (ms_asg (us := [5, 6]) (me_call' (ok_ways_table T) (hr.mono (by decide)) gd T.g_ways_table T.F_ways_table.kp T.b_ways_table ps_body (ma_cons' (me_varL (i := 4)) (ma_cons' (me_varL (i := 0)) ma_nil))) (mg_tup rfl (mgs_cons' (mg_nameL (i := 5) sc_likeliest_dies.nd) (mgs_cons' (mg_nameL (i := 6) sc_likeliest_dies.nd) mgs_nil))))
  (ms_one (ms_if (PW.pt (mw_and (mt_tru' (b_of (me_ix (ix_all hr) m_ixAll (b_of (me_varL (i := 5))) (b_of (me_varL (i := 1))) (fun _ _ => rfl)))) (mw_and1 (PW.pt (mw_or (mt_cmp op_isN m_is (b_of (me_varL (i := 3))) (b_of me_non) (nomark _)) (mw_or1 (mt_cmp op_gtAll m_gtAll (b_of (me_bin op_mulAll m_mulAll (b_of (me_ix (ix_all hr) m_ixAll (b_of (me_varL (i := 5))) (b_of (me_varL (i := 1))) (fun _ _ => rfl))) (b_of (me_ix (ix_all hr) m_ixAll (b_of (me_varL (i := 3))) (b_of me_int) (fun _ _ => rfl))))) (b_of (me_bin op_mulAll m_mulAll (b_of (me_ix (ix_all hr) m_ixAll (b_of (me_varL (i := 3))) (b_of me_int) (fun _ _ => rfl))) (b_of (me_varL (i := 6))))) (nomark _)))))))) (ms_one (ms_setL (i := 3) sc_likeliest_dies.nd (me_tup (ma_cons' (me_ix (ix_all hr) m_ixAll (b_of (me_varL (i := 5))) (b_of (me_varL (i := 1))) (fun _ _ => rfl)) (ma_cons' (me_varL (i := 6)) (ma_cons' (me_varL (i := 4)) ma_nil)))))) ms_nil))))
  (ms_one (ms_ret (me_ite (mt_cmp op_isN m_is (b_of (me_varL (i := 3))) (b_of me_non) (nomark _)) me_non (me_ix (ix_all hr) m_ixAll (b_of (me_varL (i := 3))) (b_of me_int) (fun _ _ => rfl))))))))))
theorem ok_check_part (T : Tx K mg) : FnG P w K mg base (L2.CX P w) 3 (ad K 10) (fd K 10) ["part"] (spM K (cn K ca fld) m_check_part) :=
  fn_miniDD T.F_check_part sc_check_part fun cdv A outer s H E hr gd => (ms_cons (ms_if (PW.pt (mw_or (mt_not (mt_tru' (b_of (me_isi' (T := "tuple") T.z_isinstance T.z_tuple (b_of (me_varL (i := 0))))))) (mw_or (mt_cmp (op_neD hr.units) m_ne (b_of (me_bl1' cr_lenAll u_len T.z_len (b_of (me_varL (i := 0))))) (b_of me_int) (nomark _)) (mw_or1 (mt_not (mt_tru' (b_of (me_bl1' (cr_all rfl) u_all T.z_all (b_ofO (me_lc rfl sc_check_part.nd (mi_seq (me_varL (i := 0))) (blk_ok (own := [("own", 1)]) (by kernel_rfl)) (fun _ _ _ _ _ => (mg_nameL (i := 1) sc_check_part.nd)) (fun _ _ _ _ _ => mts_nil) (fun _ _ _ _ _ => (me_call' (ok_is_integer T) (hr.mono (by decide)) gd T.g_is_integer T.F_is_integer.kp T.b_is_integer passL (ma_cons' (me_varL (i := 1)) ma_nil))))))))))))) (ms_one ms_never) ms_nil)
  (ms_one (ms_if (PW.pt (mw_or (mt_not (mt_chain3 op_leAll op_leAll op_leAll m_leAll m_leAll m_leAll (b_of me_int) (b_of (me_ix (ix_all hr) m_ixAll (b_of (me_varL (i := 0))) (b_of me_int) (fun _ _ => rfl))) (b_of (me_ix (ix_all hr) m_ixAll (b_of (me_varL (i := 0))) (b_of me_int) (fun _ _ => rfl))) (b_of me_int))) (mw_or1 (mt_cmp (op_neD hr.units) m_ne (b_of (me_call' (ok_quotient T) (hr.mono (by decide)) gd T.g_quotient T.F_quotient.kp T.b_quotient ps_body (ma_cons' (me_ix (ix_all hr) m_ixAll (b_of (me_varL (i := 0))) (b_of me_int) (fun _ _ => rfl)) (ma_cons' (me_ix (ix_all hr) m_ixAll (b_of (me_varL (i := 0))) (b_of me_int) (fun _ _ => rfl)) ma_nil)))) (b_of (me_varL (i := 0))) (nomark _))))) (ms_one ms_never) ms_nil)))
theorem ok_dies_bounds (T : Tx K mg) : FnG P w K mg base (L2.CX P w) 4 (ad K 9) (fd K 9) ["coins", "seen", "part", "most"] (spM K (cn K ca fld) m_dies_bounds) :=
  fn_miniDD T.F_dies_bounds sc_dies_bounds fun cdv A outer s H E hr gd => (ms_cons (ms_expr (me_call' (ok_check_coins T) (hr.mono (by decide)) gd T.g_check_coins T.F_check_coins.kp T.b_check_coins ps_body (ma_cons' (me_varL (i := 0)) ma_nil)))
  (ms_cons (ms_expr (me_call' (ok_check_seen T) (hr.mono (by decide)) gd T.g_check_seen T.F_check_seen.kp T.b_check_seen ps_body (ma_cons' (me_varL (i := 1)) ma_nil)))
  (ms_cons (ms_expr (me_call' (ok_check_part T) (hr.mono (by decide)) gd T.g_check_part T.F_check_part.kp T.b_check_part ps_body (ma_cons' (me_varL (i := 2)) ma_nil)))
  (ms_cons (ms_expr (me_call' (ok_check_dies T) (hr.mono (by decide)) gd T.g_check_dies T.F_check_dies.kp T.b_check_dies ps_body (ma_cons' (me_varL (i := 3)) (ma_cons' me_str ma_nil))))
  (ms_cons (ms_setOL (i := 4) sc_dies_bounds.nd (me_lst ma_nil))
  (ms_cons (ms_for (us := [5]) ps_own rfl (mi_rng2' T.z_range (me_bl2' (call_max2 rfl) m_max2 T.z_max (b_of me_int) (b_of (me_varL (i := 1)))) (me_bin op_addAll m_add (b_of (me_varL (i := 3))) (b_of me_int))) (mg_nameL (i := 5) sc_dies_bounds.nd) (ms_cons (ms_asg (us := [6, 7]) (me_call' (ok_ways_table T) (hr.mono (by decide)) gd T.g_ways_table T.F_ways_table.kp T.b_ways_table ps_body (ma_cons' (me_varL (i := 5)) (ma_cons' (me_varL (i := 0)) ma_nil))) (mg_tup rfl (mgs_cons' (mg_nameL (i := 6) sc_dies_bounds.nd) (mgs_cons' (mg_nameL (i := 7) sc_dies_bounds.nd) mgs_nil))))
  (ms_cons (ms_par (i := 8) (j := 9) rfl sc_dies_bounds.nd rfl rfl (by decide) (by kernel_rfl) (by kernel_rfl) (me_bl1' (cr_sumAll rfl) u_sumA T.z_sum (b_of (me_slc (b_of (me_varL (i := 6))) mp_no (mp_some (b_of (me_bin op_addAll m_add (b_of (me_varL (i := 1))) (b_of me_int))))))) (me_bl1' (cr_sumAll rfl) u_sumA T.z_sum (b_of (me_slc (b_of (me_varL (i := 6))) (mp_some (b_of (me_varL (i := 1)))) mp_no))) (by kernel_rfl))
  (ms_one (ms_if (mt_cmp op_geAll m_geAll (b_of (me_bin op_mulAll m_mulAll (b_of (me_bl2' (call_min2 rfl) m_min2 T.z_min (b_of (me_varL (i := 8))) (b_of (me_varL (i := 9))))) (b_of (me_ix (ix_all hr) m_ixAll (b_of (me_varL (i := 2))) (b_of me_int) (fun _ _ => rfl))))) (b_of (me_bin op_mulAll m_mulAll (b_of (me_ix (ix_all hr) m_ixAll (b_of (me_varL (i := 2))) (b_of me_int) (fun _ _ => rfl))) (b_of (me_varL (i := 7))))) (nomark _)) (ms_one (ms_appL (i := 4) (me_varL (i := 5)))) ms_nil)))))
  (ms_one (ms_ret (me_ite (mt_tru' (me_varBL (i := 4))) (me_tup (ma_cons' (me_ix (ix_all hr) m_ixAll (me_varBL (i := 4)) (b_of me_int) (fun _ _ => rfl)) (ma_cons' (me_ix (ix_all hr) m_ixAll (me_varBL (i := 4)) (b_of (me_un un_neg un_negM (b_of me_int))) (fun _ _ => rfl)) ma_nil))) me_non)))))))))
theorem ok_check_counts (T : Tx K mg) : FnG P w K mg base (L2.CX P w) 3 (ad K 11) (fd K 11) ["counts"] (spM K (cn K ca fld) m_check_counts) :=
  fn_miniDD T.F_check_counts sc_check_counts fun cdv A outer s H E hr gd => (ms_cons (ms_if (PW.pt (mw_or (mt_not (mt_tru' (b_of (me_isi' (T := "tuple") T.z_isinstance T.z_tuple (b_of (me_varL (i := 0))))))) (mw_or1 (mt_not (mt_chain op_leAll op_leAll m_leAll m_leAll (b_of me_int) (b_of (me_bl1' cr_lenAll u_len T.z_len (b_of (me_varL (i := 0))))) (b_of (me_gint' T.c_MAX_DIES))))))) (ms_one ms_never) ms_nil)
  (ms_one (ms_if (mt_not (mt_tru' (b_of (me_bl1' (cr_all rfl) u_all T.z_all (b_ofO (me_lc rfl sc_check_counts.nd (mi_seq (me_varL (i := 0))) (blk_ok (own := [("own", 1)]) (by kernel_rfl)) (fun _ _ _ _ _ => (mg_nameL (i := 1) sc_check_counts.nd)) (fun _ _ _ _ _ => mts_nil) (fun _ _ _ _ _ => (me_and (me_call' (ok_is_integer T) (hr.mono (by decide)) gd T.g_is_integer T.F_is_integer.kp T.b_is_integer passL (ma_cons' (me_varL (i := 1)) ma_nil)) (me_one (me_chain op_leAll op_leAll m_leAll m_leAll (b_of me_int) (b_of (me_varL (i := 1))) (b_of (me_gint' T.c_MAX_COINS)))))))))))) (ms_one ms_never) ms_nil)))
theorem ok_coverage (T : Tx K mg) : FnG P w K mg base (L2.CX P w) 4 (ad K 12) (fd K 12) ["counts"] (spM K (cn K ca fld) m_coverage) :=
  fn_miniDD T.F_coverage sc_coverage fun cdv A outer s H E hr gd => (ms_cons (ms_expr (me_call' (ok_check_counts T) (hr.mono (by decide)) gd T.g_check_counts T.F_check_counts.kp T.b_check_counts ps_body (ma_cons' (me_varL (i := 0)) ma_nil)))
  (ms_cons (ms_setL (i := 1) sc_coverage.nd (me_bl1' cr_lenAll u_len T.z_len (b_ofO (me_lc rfl sc_coverage.nd (mi_seq (me_varL (i := 0))) (blk_ok (own := [("own", 2)]) (by kernel_rfl)) (fun _ _ _ _ _ => (mg_nameL (i := 2) sc_coverage.nd)) (fun _ _ _ _ _ => (mts_one (mt_cmp (op_eqD hr.units) m_eq (b_of (me_varL (i := 2))) (b_of me_int) (nomark _)))) (fun _ _ _ _ _ => (me_varL (i := 2)))))))
  (ms_one (ms_ret (me_call' (ok_quotient T) (hr.mono (by decide)) gd T.g_quotient T.F_quotient.kp T.b_quotient ps_body (ma_cons' (me_bin op_sub m_sub (b_of (me_bl1' (cr_sumAll rfl) u_sumA T.z_sum (b_of (me_varL (i := 0))))) (b_of (me_varL (i := 1)))) (ma_cons' (me_bl1' (cr_sumAll rfl) u_sumA T.z_sum (b_of (me_varL (i := 0)))) ma_nil)))))))
theorem ok_often_seen (T : Tx K mg) : FnG P w K mg base (L2.CX P w) 4 (ad K 13) (fd K 13) ["counts"] (spM K (cn K ca fld) m_often_seen) :=
  fn_miniDD T.F_often_seen sc_often_seen fun cdv A outer s H E hr gd => (ms_cons (ms_expr (me_call' (ok_check_counts T) (hr.mono (by decide)) gd T.g_check_counts T.F_check_counts.kp T.b_check_counts ps_body (ma_cons' (me_varC (i := 0)) ma_nil)))
  (ms_one (ms_ret (me_ty1' call_tuple_of u_tuple T.z_tuple (b_ofO (me_lc rfl sc_often_seen.nd (mi_seq (m_of (me_bl1O' (cr_sortedAll rfl) u_sorted T.z_sorted (b_ofO (me_dc rfl sc_often_seen.nd (mi_seq (me_varC (i := 0))) (blk_ok (own := [("one", 2)]) (by kernel_rfl)) (fun _ _ _ _ _ => (mg_nameL (i := 2) sc_often_seen.nd)) (fun _ _ _ _ _ => mts_nil) (fun _ _ _ _ _ => (me_varL (i := 2))) (fun _ _ _ _ _ => me_bl)))))) (blk_ok (own := [("own", 1)]) (by kernel_rfl)) (fun _ _ _ _ _ => (mg_nameL (i := 1) sc_often_seen.nd)) (fun _ _ _ _ _ => mts_nil) (fun _ _ _ _ _ => (me_tup (ma_cons' (me_varL (i := 1)) (ma_cons' (me_count hr (b_of (me_varC (i := 0))) (b_of (me_varL (i := 1)))) ma_nil))))))))))
theorem ok_least_for (T : Tx K mg) : FnG P w K mg base (L2.CX P w) 4 (ad K 14) (fd K 14) ["dies", "wanted"] (spM K (cn K ca fld) m_least_for) :=
  fn_miniDD T.F_least_for sc_least_for fun cdv A outer s H E hr gd => (ms_cons (ms_expr (me_callS' (by decide +kernel) (ok_check_dies T) (hr.mono (by decide)) gd T.g_check_dies T.F_check_dies.kp T.bd_check_dies ps_body (ma_cons' (me_varL (i := 0)) ma_nil)))
  (ms_cons (ms_if (PW.pt (mw_or (mt_not (mt_tru' (b_of (me_call' (ok_is_integer T) (hr.mono (by decide)) gd T.g_is_integer T.F_is_integer.kp T.b_is_integer ps_body (ma_cons' (me_varL (i := 1)) ma_nil))))) (mw_or1 (mt_not (mt_chain op_leAll op_leAll m_leAll m_leAll (b_of me_int) (b_of (me_varL (i := 1))) (b_of (me_gint' T.c_MAX_DIES))))))) (ms_one ms_never) ms_nil)
  (ms_cons (ms_for (us := [2]) ps_own rfl (mi_rng1' T.z_range (me_bin op_addAll m_add (b_of (me_gint' T.c_MAX_COINS)) (b_of me_int))) (mg_nameL (i := 2) sc_least_for.nd) (ms_cons (ms_asg (us := [3, 4]) (me_call' (ok_ways_table T) (hr.mono (by decide)) gd T.g_ways_table T.F_ways_table.kp T.b_ways_table ps_body (ma_cons' (me_varL (i := 0)) (ma_cons' (me_varL (i := 2)) ma_nil))) (mg_tup rfl (mgs_cons' (mg_nameL (i := 3) sc_least_for.nd) (mgs_cons' (mg_nameL (i := 4) sc_least_for.nd) mgs_nil))))
  (ms_one (ms_if (mt_cmp op_geAll m_geAll (b_of (me_bl1' (cr_sumAll rfl) u_sumA T.z_sum (b_ofO (me_lc rfl sc_least_for.nd (mi_enum' T.z_enumerate (me_varL (i := 3))) (blk_ok (own := [("seen", 5), ("own", 6)]) (by kernel_rfl)) (fun _ _ _ _ _ => (mg_tup rfl (mgs_cons' (mg_nameL (i := 5) sc_least_for.nd) (mgs_cons' (mg_nameL (i := 6) sc_least_for.nd) mgs_nil)))) (fun _ _ _ _ _ => mts_nil) (fun _ _ _ _ _ => (me_bin op_mulAll m_mulAll (b_of (me_varL (i := 5))) (b_of (me_varL (i := 6))))))))) (b_of (me_bin op_mulAll m_mulAll (b_of (me_varL (i := 1))) (b_of (me_varL (i := 4))))) (nomark _)) (ms_one (ms_ret (me_varL (i := 2)))) ms_nil))))
  (ms_one (ms_ret me_non)))))
theorem ok_chance_alike (T : Tx K mg) : FnG P w K mg base (L2.CX P w) 4 (ad K 15) (fd K 15) ["counts"] (spM K (cn K ca fld) m_chance_alike) :=
  fn_miniDD T.F_chance_alike sc_chance_alike fun cdv A outer s H E hr gd => (ms_cons (ms_expr (me_call' (ok_check_counts T) (hr.mono (by decide)) gd T.g_check_counts T.F_check_counts.kp T.b_check_counts ps_body (ma_cons' (me_varL (i := 0)) ma_nil)))
  (ms_cons (ms_setL (i := 1) sc_chance_alike.nd (me_bl1' (cr_sumAll rfl) u_sumA T.z_sum (b_of (me_varL (i := 0)))))
  (ms_cons (ms_if (mt_cmp op_ltAll m_ltAll (b_of (me_varL (i := 1))) (b_of me_int) (nomark _)) (ms_one (ms_ret me_non)) ms_nil)
  (ms_one (ms_ret (me_call' (ok_quotient T) (hr.mono (by decide)) gd T.g_quotient T.F_quotient.kp T.b_quotient ps_body (ma_cons' (me_bl1' (cr_sumAll rfl) u_sumA T.z_sum (b_ofO (me_lc rfl sc_chance_alike.nd (mi_seq (me_varL (i := 0))) (blk_ok (own := [("own", 2)]) (by kernel_rfl)) (fun _ _ _ _ _ => (mg_nameL (i := 2) sc_chance_alike.nd)) (fun _ _ _ _ _ => mts_nil) (fun _ _ _ _ _ => (me_bin op_mulAll m_mulAll (b_of (me_varL (i := 2))) (b_of (me_bin op_sub m_sub (b_of (me_varL (i := 2))) (b_of me_int)))))))) (ma_cons' (me_bin op_mulAll m_mulAll (b_of (me_varL (i := 1))) (b_of (me_bin op_sub m_sub (b_of (me_varL (i := 1))) (b_of me_int)))) ma_nil))))))))
theorem ok_check_more (T : Tx K mg) : FnG P w K mg base (L2.CX P w) 3 (ad K 17) (fd K 17) ["dies", "seen", "more"] (spM K (cn K ca fld) m_check_more) :=
  fn_miniDD T.F_check_more sc_check_more fun cdv A outer s H E hr gd => (ms_cons (ms_if (mt_cmp op_gtAll m_gtAll (b_of (me_varL (i := 1))) (b_of (me_varL (i := 0))) (nomark _)) (ms_one ms_never) ms_nil)
  (ms_one (ms_if (PW.pt (mw_or (mt_not (mt_tru' (b_of (me_call' (ok_is_integer T) (hr.mono (by decide)) gd T.g_is_integer T.F_is_integer.kp T.b_is_integer ps_body (ma_cons' (me_varL (i := 2)) ma_nil))))) (mw_or1 (mt_not (mt_chain op_leAll op_leAll m_leAll m_leAll (b_of me_int) (b_of (me_varL (i := 2))) (b_of (me_gint' T.c_MAX_COINS))))))) (ms_one ms_never) ms_nil)))
theorem ok_chance_new (T : Tx K mg) : FnG P w K mg base (L2.CX P w) 4 (ad K 16) (fd K 16) ["dies", "seen", "more"] (spM K (cn K ca fld) m_chance_new) :=
  fn_miniDD T.F_chance_new sc_chance_new fun cdv A outer s H E hr gd => (ms_cons (ms_expr (me_callS' (by decide +kernel) (ok_check_dies T) (hr.mono (by decide)) gd T.g_check_dies T.F_check_dies.kp T.bd_check_dies ps_body (ma_cons' (me_varL (i := 0)) ma_nil)))
  (ms_cons (ms_expr (me_call' (ok_check_seen T) (hr.mono (by decide)) gd T.g_check_seen T.F_check_seen.kp T.b_check_seen ps_body (ma_cons' (me_varL (i := 1)) ma_nil)))
  (ms_cons (ms_expr (me_call' (ok_check_more T) (hr.mono (by decide)) gd T.g_check_more T.F_check_more.kp T.b_check_more ps_body (ma_cons' (me_varL (i := 0)) (ma_cons' (me_varL (i := 1)) (ma_cons' (me_varL (i := 2)) ma_nil)))))
  (ms_cons (ms_asg (us := [4, 5]) (me_tup (ma_cons' me_int (ma_cons' me_int ma_nil))) (mg_tup rfl (mgs_cons' (mg_nameL (i := 4) sc_chance_new.nd) (mgs_cons' (mg_nameL (i := 5) sc_chance_new.nd) mgs_nil))))
  (ms_cons (ms_for (us := [3]) ps_own rfl (mi_rng1' T.z_range (me_varL (i := 2))) (mg_nameL (i := 3) sc_chance_new.nd) (ms_cons (ms_augL (i := 4) iop_mulW m_mul sc_chance_new.nd (me_varL (i := 1)))
  (ms_one (ms_augL (i := 5) iop_mulW m_mul sc_chance_new.nd (me_varL (i := 0))))))
  (ms_one (ms_ret (me_call' (ok_quotient T) (hr.mono (by decide)) gd T.g_quotient T.F_quotient.kp T.b_quotient ps_body (ma_cons' (me_bin op_sub m_sub (b_of (me_varL (i := 5))) (b_of (me_varL (i := 4)))) (ma_cons' (me_varL (i := 5)) ma_nil))))))))))
theorem ok_judge_counts (T : Tx K mg) : FnG P w K mg base (L2.CX P w) 4 (ad K 18) (fd K 18) ["coins", "counts"] (spM K (cn K ca fld) m_judge_counts) :=
  fn_miniDD T.F_judge_counts sc_judge_counts fun cdv A outer s H E hr gd => (ms_cons (ms_expr (me_call' (ok_check_coins T) (hr.mono (by decide)) gd T.g_check_coins T.F_check_coins.kp T.b_check_coins ps_body (ma_cons' (me_varL (i := 0)) ma_nil)))
  (ms_cons (ms_expr (me_call' (ok_check_counts T) (hr.mono (by decide)) gd T.g_check_counts T.F_check_counts.kp T.b_check_counts ps_body (ma_cons' (me_varL (i := 1)) ma_nil)))
  (ms_cons (ms_setL (i := 2) sc_judge_counts.nd (me_bin op_sub m_sub (b_of (me_varL (i := 0))) (b_of (me_bl1' (cr_sumAll rfl) u_sumA T.z_sum (b_of (me_varL (i := 1)))))))
  (ms_one (ms_ret (me_ite (mt_cmp (op_eqD hr.units) m_eq (b_of (me_varL (i := 2))) (b_of me_int) (nomark _)) (me_tup (ma_cons' me_str ma_nil)) (me_tup (ma_cons' me_str (ma_cons' (me_varL (i := 2)) ma_nil)))))))))
theorem ok__law_start (T : Tx K mg) : FnG P w K mg base (L2.CX P w) 2 (ad K 19) (fd K 19) ["script"] (spO K (cn K ca fld) m__law_start) :=
  fn_miniOD T.F__law_start sc__law_start fun cdv A outer s H E hr gd => (mo_cons (ms_setL (i := 1) sc__law_start.nd me_int)
  (mo_cons (ms_for (us := [2]) ps_own rfl (mi_seq (me_varL (i := 0))) (mg_nameL (i := 2) sc__law_start.nd) (ms_one (ms_setL (i := 1) sc__law_start.nd (me_bin op_addAll m_add (b_of (me_bin op_mod m_mod (b_of (me_ty1' call_int1 u_int T.z_int (b_of (me_bin op_addAll m_add (b_of (me_bin op_mulAll m_mulAll (b_of (me_varL (i := 1))) (b_of me_int))) (b_of (me_varL (i := 2))))))) (b_of me_int))) (b_of me_int)))))
  (mo_ret (me_lst (ma_cons' (m_of (me_ty1O' call_list_of u_list T.z_list (b_of (me_varL (i := 0))))) (ma_cons' me_int (ma_cons' me_int (ma_cons' (me_varL (i := 1)) ma_nil))))))))
theorem ok__law_draw (T : Tx K mg) : FnG P w K mg base (L2.CX P w) 2 (ad K 20) (fd K 20) ["state", "many"] (spM K (cn K ca fld) m__law_draw) :=
  fn_miniDD T.F__law_draw sc__law_draw fun cdv A outer s H E hr gd => (ms_cons (ms_if (PW.pt (mw_and (mt_cmp (op_eqD hr.units) m_eq (b_of (me_stIx (i := 0) (k := 1))) (b_of me_int) (nomark _)) (mw_and1 (mt_cmp op_geAll m_geAll (b_of (me_stIx (i := 0) (k := 2))) (b_of (me_bl1' cr_lenAll u_len T.z_len (b_of (me_stIx (i := 0) (k := 0))))) (nomark _))))) (ms_cons (ms_stSet (i := 0) (k := 3) (me_bin op_mod m_mod (b_of (me_ty1' call_int1 u_int T.z_int (b_of (me_bin op_addAll m_add (b_of (me_bin op_mulAll m_mulAll (b_of (me_stIx (i := 0) (k := 3))) (b_of me_int))) (b_of me_int))))) (b_of me_int)))
  (ms_one (ms_ret (me_bin op_mod m_mod (b_of (me_ty1' call_int1 u_int T.z_int (b_of (me_bin op_fdivW m_div (b_of (me_stIx (i := 0) (k := 3))) (b_of me_int))))) (b_of (me_varL (i := 1))))))) ms_nil)
  (ms_cons (ms_if (mt_cmp (op_eqD hr.units) m_eq (b_of (me_stIx (i := 0) (k := 1))) (b_of me_int) (nomark _)) (ms_cons (ms_stSet (i := 0) (k := 1) (me_bl1' call_abs u_abs T.z_abs (b_of (me_ix (ix_all hr) m_ixAll (b_of (me_stIx (i := 0) (k := 0))) (b_of (me_stIx (i := 0) (k := 2))) (fun _ _ => rfl)))))
  (ms_one (ms_stSet (i := 0) (k := 2) (me_bin op_addAll m_add (b_of (me_stIx (i := 0) (k := 2))) (b_of me_int))))) ms_nil)
  (ms_cons (ms_setL (i := 2) sc__law_draw.nd (me_bin op_mod m_mod (b_of (me_ty1' call_int1 u_int T.z_int (b_of (me_stIx (i := 0) (k := 1))))) (b_of (me_varL (i := 1)))))
  (ms_cons (ms_stSet (i := 0) (k := 1) (me_bin op_fdivW m_div (b_of (me_stIx (i := 0) (k := 1))) (b_of (me_varL (i := 1)))))
  (ms_one (ms_ret (me_varL (i := 2))))))))
theorem ok__law_pick (T : Tx K mg) : FnG P w K mg base (L2.CX P w) 3 (ad K 21) (fd K 21) ["state", "some"] (spM K (cn K ca fld) m__law_pick) :=
  fn_miniDD T.F__law_pick sc__law_pick fun cdv A outer s H E hr gd => (ms_one (ms_ret (me_ix (ix_all hr) m_ixAll (b_of (me_varL (i := 1))) (b_of (me_call' (ok__law_draw T) (hr.mono (by decide)) gd T.g__law_draw T.F__law_draw.kp T.b__law_draw ps_body (ma_cons' (me_varL (i := 0)) (ma_cons' (me_bl1' cr_lenAll u_len T.z_len (b_of (me_varL (i := 1)))) ma_nil)))) (fun _ _ => rfl))))
theorem ok__law_same (T : Tx K mg) : FnG P w K mg base (L2.CX P w) 2 (ad K 22) (fd K 22) ["actual", "due"] (spM K (cn K ca fld) m__law_same) :=
  fn_miniDD T.F__law_same sc__law_same fun cdv A outer s H E hr gd => (ms_one (ms_ret (me_and (me_cmp (op_eqD hr.units) m_eq (b_of (me_varL (i := 0))) (b_of (me_varL (i := 1))) (nomark _)) (me_one (me_reprEq hr gd T.z_repr (b_of (me_varL (i := 0))) (b_of (me_varL (i := 1))))))))
theorem ok__law_power (T : Tx K mg) : FnG P w K mg base (L2.CX P w) 2 (ad K 23) (fd K 23) ["base", "many"] (spM K (cn K ca fld) m__law_power) :=
  fn_miniDD T.F__law_power sc__law_power fun cdv A outer s H E hr gd => (ms_cons (ms_setL (i := 2) sc__law_power.nd me_int)
  (ms_cons (ms_for (us := [3]) ps_own rfl (mi_rng1' T.z_range (me_varL (i := 1))) (mg_nameL (i := 3) sc__law_power.nd) (ms_one (ms_setL (i := 2) sc__law_power.nd (me_bin op_mulAll m_mulAll (b_of (me_varL (i := 2))) (b_of (me_varL (i := 0)))))))
  (ms_one (ms_ret (me_varL (i := 2))))))
theorem ok__law_lowest (T : Tx K mg) : FnG P w K mg base (L2.CX P w) 2 (ad K 24) (fd K 24) ["up", "down"] (spM K (cn K ca fld) m__law_lowest) :=
  fn_miniDD T.F__law_lowest sc__law_lowest fun cdv A outer s H E hr gd => (ms_cons (ms_par (i := 2) (j := 3) rfl sc__law_lowest.nd rfl rfl (by decide) (by kernel_rfl) (by kernel_rfl) (me_varL (i := 0)) (me_varL (i := 1)) (by kernel_rfl))
  (ms_cons (ms_while ps_own (mt_cmp op_gtAll m_gtAll (b_of (me_varL (i := 3))) (b_of me_int) (nomark _)) (ms_one (ms_par (i := 2) (j := 3) rfl sc__law_lowest.nd rfl rfl (by decide) (by kernel_rfl) (by kernel_rfl) (me_varL (i := 3)) (me_bin op_mod m_mod (b_of (me_ty1' call_int1 u_int T.z_int (b_of (me_varL (i := 2))))) (b_of (me_varL (i := 3)))) (by kernel_rfl))))
  (ms_one (ms_ret (me_tup (ma_cons' (me_bin op_fdivW m_div (b_of (me_varL (i := 0))) (b_of (me_varL (i := 2)))) (ma_cons' (me_bin op_fdivW m_div (b_of (me_varL (i := 1))) (b_of (me_varL (i := 2)))) ma_nil)))))))
theorem ok__law_choices (T : Tx K mg) : FnG P w K mg base (L2.CX P w) 2 (ad K 25) (fd K 25) ["most"] (spM K (cn K ca fld) m__law_choices) :=
  fn_miniDD T.F__law_choices sc__law_choices fun cdv A outer s H E hr gd => (ms_cons (ms_setOL (i := 1) sc__law_choices.nd (me_lst (ma_cons' (m_of (me_lst (ma_cons' me_int ma_nil))) ma_nil)))
  (ms_cons (ms_for (us := [2]) ps_own rfl (mi_rng1' T.z_range (me_varL (i := 0))) (mg_nameL (i := 2) sc__law_choices.nd) (ms_cons (ms_setC (i := 3) sc__law_choices.nd (me_ix (ix_all hr) m_ixAll (me_varBL (i := 1)) (b_of (me_un un_neg un_negM (b_of me_int))) (fun _ _ => rfl)))
  (ms_one (ms_appL (i := 1) (me_bin op_addAll m_add (b_of (me_bin op_addAll m_add (b_ofO (me_lst (ma_cons' me_int ma_nil))) (b_ofO (me_lc rfl sc__law_choices.nd (mi_rng1' T.z_range (me_varL (i := 2))) (blk_ok (own := [("k", 4)]) (by kernel_rfl)) (fun _ _ _ _ _ => (mg_nameL (i := 4) sc__law_choices.nd)) (fun _ _ _ _ _ => mts_nil) (fun _ _ _ _ _ => (me_bin op_addAll m_add (b_of (me_ix (ix_all hr) m_ixAll (b_of (me_varC (i := 3))) (b_of (me_varL (i := 4))) (fun _ _ => rfl))) (b_of (me_ix (ix_all hr) m_ixAll (b_of (me_varC (i := 3))) (b_of (me_bin op_addAll m_add (b_of (me_varL (i := 4))) (b_of me_int))) (fun _ _ => rfl))))))))) (b_ofO (me_lst (ma_cons' me_int ma_nil))))))))
  (ms_one (ms_frz (i := 1) (ms_ret (me_varL (i := 1)))))))
theorem ok__law_ways (T : Tx K mg) : FnG P w K mg base (L2.CX P w) 3 (ad K 26) (fd K 26) ["dies", "coins"] (spM K (cn K ca fld) m__law_ways) :=
  fn_miniDD T.F__law_ways sc__law_ways fun cdv A outer s H E hr gd => (ms_cons (ms_par (i := 4) (j := 5) rfl sc__law_ways.nd rfl rfl (by decide) (by kernel_rfl) (by kernel_rfl) (me_call' (ok__law_choices T) (hr.mono (by decide)) gd T.g__law_choices T.F__law_choices.kp T.b__law_choices ps_body (ma_cons' (me_varL (i := 0)) ma_nil)) (m_of (me_lc rfl sc__law_ways.nd (mi_rng1' T.z_range (me_bin op_addAll m_add (b_of (me_varL (i := 0))) (b_of me_int))) (blk_ok (own := [("own", 9)]) (by kernel_rfl)) (fun _ _ _ _ _ => (mg_nameL (i := 9) sc__law_ways.nd)) (fun _ _ _ _ _ => mts_nil) (fun _ _ _ _ _ => (me_call' (ok__law_power T) (hr.mono (by decide)) gd T.g__law_power T.F__law_power.kp T.b__law_power passL (ma_cons' (me_varL (i := 9)) (ma_cons' (me_varC (i := 1)) ma_nil)))))) (by kernel_rfl))
  (ms_cons (ms_setOL (i := 2) sc__law_ways.nd (me_lst ma_nil))
  (ms_cons (ms_for (us := [3]) ps_own rfl (mi_rng1' T.z_range (me_bin op_addAll m_add (b_of (me_varL (i := 0))) (b_of me_int))) (mg_nameL (i := 3) sc__law_ways.nd) (ms_cons (ms_asg (us := [7, 8]) (me_tup (ma_cons' me_int (ma_cons' me_int ma_nil))) (mg_tup rfl (mgs_cons' (mg_nameL (i := 7) sc__law_ways.nd) (mgs_cons' (mg_nameL (i := 8) sc__law_ways.nd) mgs_nil))))
  (ms_cons (ms_for (us := [6]) ps_own rfl (mi_rng1' T.z_range (me_bin op_addAll m_add (b_of (me_varL (i := 3))) (b_of me_int))) (mg_nameL (i := 6) sc__law_ways.nd) (ms_cons (ms_setL (i := 7) sc__law_ways.nd (me_bin op_addAll m_add (b_of (me_varL (i := 7))) (b_of (me_bin op_mulAll m_mulAll (b_of (me_bin op_mulAll m_mulAll (b_of (me_varL (i := 8))) (b_of (me_ix (ix_all hr) m_ixAll (b_of (me_ix (ix_all hr) m_ixAll (b_of (me_varL (i := 4))) (b_of (me_varL (i := 3))) (fun _ _ => rfl))) (b_of (me_varL (i := 6))) (fun _ _ => rfl))))) (b_of (me_ix (ix_all hr) m_ixAll (b_of (me_varL (i := 5))) (b_of (me_bin op_sub m_sub (b_of (me_varL (i := 3))) (b_of (me_varL (i := 6))))) (fun _ _ => rfl)))))))
  (ms_one (ms_setL (i := 8) sc__law_ways.nd (me_bin op_sub m_sub (b_of me_int) (b_of (me_varL (i := 8))))))))
  (ms_one (ms_appL (i := 2) (me_bin op_mulAll m_mulAll (b_of (me_ix (ix_all hr) m_ixAll (b_of (me_ix (ix_all hr) m_ixAll (b_of (me_varL (i := 4))) (b_of (me_varL (i := 0))) (fun _ _ => rfl))) (b_of (me_varL (i := 3))) (fun _ _ => rfl))) (b_of (me_varL (i := 7)))))))))
  (ms_one (ms_frz (i := 2) (ms_ret (me_varL (i := 2))))))))
theorem ok__law_table (T : Tx K mg) : FnG P w K mg base (L2.CX P w) 3 (ad K 27) (fd K 27) ["coins", "most"] (spM K (cn K ca fld) m__law_table) :=
  fn_miniDD T.F__law_table sc__law_table fun cdv A outer s H E hr gd => (ms_cons (ms_asg (us := [4, 5]) (me_tup (ma_cons' (me_call' (ok__law_choices T) (hr.mono (by decide)) gd T.g__law_choices T.F__law_choices.kp T.b__law_choices ps_body (ma_cons' (me_varL (i := 1)) ma_nil)) (ma_cons' (m_of (me_lc rfl sc__law_table.nd (mi_rng1' T.z_range (me_bin op_addAll m_add (b_of (me_varL (i := 1))) (b_of me_int))) (blk_ok (own := [("own", 11)]) (by kernel_rfl)) (fun _ _ _ _ _ => (mg_nameL (i := 11) sc__law_table.nd)) (fun _ _ _ _ _ => mts_nil) (fun _ _ _ _ _ => (me_call' (ok__law_power T) (hr.mono (by decide)) gd T.g__law_power T.F__law_power.kp T.b__law_power passL (ma_cons' (me_varL (i := 11)) (ma_cons' (me_varC (i := 0)) ma_nil)))))) ma_nil))) (mg_tup rfl (mgs_cons' (mg_nameC (i := 4) sc__law_table.nd) (mgs_cons' (mg_nameL (i := 5) sc__law_table.nd) mgs_nil))))
  (ms_cons (ms_unp (fs := [true, true]) (is := [6, 7]) rfl (mf_O (me_lst ma_nil) (mf_O (me_lst ma_nil) mf_nil)) (mn_C (i := 6) sc__law_table.nd (mn_L (i := 7) sc__law_table.nd mn_nil)))
  (ms_cons (ms_for (us := [2]) ps_own rfl (mi_rng1' T.z_range (me_bin op_addAll m_add (b_of (me_varL (i := 1))) (b_of me_int))) (mg_nameL (i := 2) sc__law_table.nd) (ms_cons (ms_asg (us := [9, 10]) (me_tup (ma_cons' me_int (ma_cons' me_int ma_nil))) (mg_tup rfl (mgs_cons' (mg_nameL (i := 9) sc__law_table.nd) (mgs_cons' (mg_nameL (i := 10) sc__law_table.nd) mgs_nil))))
  (ms_cons (ms_for (us := [8]) ps_own rfl (mi_rng1' T.z_range (me_bin op_addAll m_add (b_of (me_varL (i := 2))) (b_of me_int))) (mg_nameL (i := 8) sc__law_table.nd) (ms_cons (ms_setL (i := 9) sc__law_table.nd (me_bin op_addAll m_add (b_of (me_varL (i := 9))) (b_of (me_bin op_mulAll m_mulAll (b_of (me_bin op_mulAll m_mulAll (b_of (me_varL (i := 10))) (b_of (me_ix (ix_all hr) m_ixAll (b_of (me_ix (ix_all hr) m_ixAll (b_of (me_varC (i := 4))) (b_of (me_varL (i := 2))) (fun _ _ => rfl))) (b_of (me_varL (i := 8))) (fun _ _ => rfl))))) (b_of (me_ix (ix_all hr) m_ixAll (b_of (me_varL (i := 5))) (b_of (me_bin op_sub m_sub (b_of (me_varL (i := 2))) (b_of (me_varL (i := 8))))) (fun _ _ => rfl)))))))
  (ms_one (ms_setL (i := 10) sc__law_table.nd (me_bin op_sub m_sub (b_of me_int) (b_of (me_varL (i := 10))))))))
  (ms_one (ms_appC (i := 6) (me_varL (i := 9)))))))
  (ms_cons (ms_for (us := [3]) ps_own rfl (mi_rng1' T.z_range (me_bin op_addAll m_add (b_of (me_varL (i := 1))) (b_of me_int))) (mg_nameC (i := 3) sc__law_table.nd) (ms_one (ms_appL (i := 7) (m_of (me_lc rfl sc__law_table.nd (mi_rng1' T.z_range (me_bin op_addAll m_add (b_of (me_varC (i := 3))) (b_of me_int))) (blk_ok (own := [("seen", 2)]) (by kernel_rfl)) (fun _ _ _ _ _ => (mg_nameL (i := 2) sc__law_table.nd)) (fun _ _ _ _ _ => mts_nil) (fun _ _ _ _ _ => (me_bin op_mulAll m_mulAll (b_of (me_ix (ix_all hr) m_ixAll (b_of (me_ix (ix_all hr) m_ixAll (b_of (me_varC (i := 4))) (b_of (me_varC (i := 3))) (fun _ _ => rfl))) (b_of (me_varL (i := 2))) (fun _ _ => rfl))) (b_of (me_ix (ix_all hr) m_ixAll (me_varBC (i := 6)) (b_of (me_varL (i := 2))) (fun _ _ => rfl))))))))))
  (ms_one (ms_frz (i := 7) (ms_ret (me_tup (ma_cons' (me_varL (i := 7)) (ma_cons' (me_varL (i := 5)) ma_nil))))))))))
theorem ok__law_shown (T : Tx K mg) : FnG P w K mg base (L2.CX P w) 3 (ad K 28) (fd K 28) ["dies", "coins"] (spM K (cn K ca fld) m__law_shown) :=
  fn_miniDD T.F__law_shown sc__law_shown fun cdv A outer s H E hr gd => (ms_one (ms_ret (me_bin op_mulAll m_mulAll (b_of (me_varL (i := 0))) (b_of (me_bin op_sub m_sub (b_of (me_call' (ok__law_power T) (hr.mono (by decide)) gd T.g__law_power T.F__law_power.kp T.b__law_power ps_body (ma_cons' (me_varL (i := 0)) (ma_cons' (me_varL (i := 1)) ma_nil)))) (b_of (me_call' (ok__law_power T) (hr.mono (by decide)) gd T.g__law_power T.F__law_power.kp T.b__law_power ps_body (ma_cons' (me_bin op_sub m_sub (b_of (me_varL (i := 0))) (b_of me_int)) (ma_cons' (me_varL (i := 1)) ma_nil)))))))))
theorem ok__law_chances_hold (T : Tx K mg) : FnG P w K mg base (L2.CX P w) 5 (ad K 29) (fd K 29) ["dies", "coins"] (spM K (cn K ca fld) m__law_chances_hold) :=
  fn_miniDD T.F__law_chances_hold sc__law_chances_hold fun cdv A outer s H E hr gd => (ms_cons (ms_asg (us := [3, 4]) (me_tup (ma_cons' (me_call' (ok__law_ways T) (hr.mono (by decide)) gd T.g__law_ways T.F__law_ways.kp T.b__law_ways ps_body (ma_cons' (me_varL (i := 0)) (ma_cons' (me_varL (i := 1)) ma_nil))) (ma_cons' (me_call' (ok__law_power T) (hr.mono (by decide)) gd T.g__law_power T.F__law_power.kp T.b__law_power ps_body (ma_cons' (me_varL (i := 0)) (ma_cons' (me_varL (i := 1)) ma_nil))) ma_nil))) (mg_tup rfl (mgs_cons' (mg_nameL (i := 3) sc__law_chances_hold.nd) (mgs_cons' (mg_nameC (i := 4) sc__law_chances_hold.nd) mgs_nil))))
  (ms_cons (ms_setL (i := 2) sc__law_chances_hold.nd (me_ty1' call_tuple_of u_tuple T.z_tuple (b_ofO (me_lc rfl sc__law_chances_hold.nd (mi_seq (me_varL (i := 3))) (blk_ok (own := [("own", 5)]) (by kernel_rfl)) (fun _ _ _ _ _ => (mg_nameL (i := 5) sc__law_chances_hold.nd)) (fun _ _ _ _ _ => mts_nil) (fun _ _ _ _ _ => (me_call' (ok__law_lowest T) (hr.mono (by decide)) gd T.g__law_lowest T.F__law_lowest.kp T.b__law_lowest passL (ma_cons' (me_varL (i := 5)) (ma_cons' (me_varC (i := 4)) ma_nil))))))))
  (ms_one (ms_ret (me_call' (ok__law_same T) (hr.mono (by decide)) gd T.g__law_same T.F__law_same.kp T.b__law_same ps_body (ma_cons' (m_of (me_lst (ma_cons' (me_call' (ok_chances_seen T) (hr.mono (by decide)) gd T.g_chances_seen T.F_chances_seen.kp T.b_chances_seen ps_body (ma_cons' (me_varL (i := 0)) (ma_cons' (me_varL (i := 1)) ma_nil))) (ma_cons' (me_call' (ok_mean_seen T) (hr.mono (by decide)) gd T.g_mean_seen T.F_mean_seen.kp T.b_mean_seen ps_body (ma_cons' (me_varL (i := 0)) (ma_cons' (me_varL (i := 1)) ma_nil))) ma_nil)))) (ma_cons' (m_of (me_lst (ma_cons' (me_varL (i := 2)) (ma_cons' (me_call' (ok__law_lowest T) (hr.mono (by decide)) gd T.g__law_lowest T.F__law_lowest.kp T.b__law_lowest ps_body (ma_cons' (me_call' (ok__law_shown T) (hr.mono (by decide)) gd T.g__law_shown T.F__law_shown.kp T.b__law_shown ps_body (ma_cons' (me_varL (i := 0)) (ma_cons' (me_varL (i := 1)) ma_nil))) (ma_cons' (me_varC (i := 4)) ma_nil))) ma_nil)))) ma_nil)))))))
theorem ok__law_likely_holds (T : Tx K mg) : FnG P w K mg base (L2.CX P w) 5 (ad K 30) (fd K 30) ["state", "coins", "seen", "most"] (spM K (cn K ca fld) m__law_likely_holds) :=
  fn_miniDD T.F__law_likely_holds sc__law_likely_holds fun cdv A outer s H E hr gd => (ms_cons (ms_asg (us := [7, 8]) (me_call' (ok__law_table T) (hr.mono (by decide)) gd T.g__law_table T.F__law_table.kp T.b__law_table ps_body (ma_cons' (me_varL (i := 1)) (ma_cons' (me_varL (i := 3)) ma_nil))) (mg_tup rfl (mgs_cons' (mg_nameL (i := 7) sc__law_likely_holds.nd) (mgs_cons' (mg_nameL (i := 8) sc__law_likely_holds.nd) mgs_nil))))
  (ms_cons (ms_setL (i := 4) sc__law_likely_holds.nd (me_call' (ok__law_lowest T) (hr.mono (by decide)) gd T.g__law_lowest T.F__law_lowest.kp T.b__law_lowest ps_body (ma_cons' (me_bin op_addAll m_add (b_of me_int) (b_of (me_call' (ok__law_draw T) (hr.mono (by decide)) gd T.g__law_draw T.F__law_draw.kp T.b__law_draw ps_body (ma_cons' (me_varL (i := 0)) (ma_cons' me_int ma_nil))))) (ma_cons' (me_call' (ok__law_pick T) (hr.mono (by decide)) gd T.g__law_pick T.F__law_pick.kp T.b__law_pick ps_body (ma_cons' (me_varL (i := 0)) (ma_cons' (m_of (me_lst (ma_cons' me_int (ma_cons' me_int (ma_cons' me_int (ma_cons' me_int ma_nil)))))) ma_nil))) ma_nil))))
  (ms_cons (ms_setL (i := 4) sc__law_likely_holds.nd (me_call' (ok__law_pick T) (hr.mono (by decide)) gd T.g__law_pick T.F__law_pick.kp T.b__law_pick ps_body (ma_cons' (me_varL (i := 0)) (ma_cons' (m_of (me_lst (ma_cons' (me_varL (i := 4)) (ma_cons' (me_varL (i := 4)) (ma_cons' (me_tup (ma_cons' me_int (ma_cons' me_int ma_nil))) (ma_cons' (me_tup (ma_cons' me_int (ma_cons' me_int ma_nil))) (ma_cons' (me_tup (ma_cons' me_int (ma_cons' me_int ma_nil))) (ma_cons' (me_tup (ma_cons' me_int (ma_cons' me_int ma_nil))) ma_nil)))))))) ma_nil))))
  (ms_cons (ms_parVO (i := 9) (j := 10) rfl sc__law_likely_holds.nd me_non (me_lst ma_nil))
  (ms_cons (ms_for (us := [5]) ps_own rfl (mi_rng2' T.z_range (me_bl1' (cr_max rfl) u_max T.z_max (b_ofO (me_lst (ma_cons' me_int (ma_cons' (me_varL (i := 2)) ma_nil))))) (me_bin op_addAll m_add (b_of (me_varL (i := 3))) (b_of me_int))) (mg_nameL (i := 5) sc__law_likely_holds.nd) (ms_cons (ms_if (PW.pt (mw_and (mt_cmp op_gtAll m_gtAll (b_of (me_ix (ix_all hr) m_ixAll (b_of (me_ix (ix_all hr) m_ixAll (b_of (me_varL (i := 7))) (b_of (me_varL (i := 5))) (fun _ _ => rfl))) (b_of (me_varL (i := 2))) (fun _ _ => rfl))) (b_of me_int) (nomark _)) (mw_and1 (PW.pt (mw_or (mt_cmp op_isN m_is (b_of (me_varL (i := 9))) (b_of me_non) (nomark _)) (mw_or1 (mt_cmp op_gtAll m_gtAll (b_of (me_bin op_mulAll m_mulAll (b_of (me_ix (ix_all hr) m_ixAll (b_of (me_ix (ix_all hr) m_ixAll (b_of (me_varL (i := 7))) (b_of (me_varL (i := 5))) (fun _ _ => rfl))) (b_of (me_varL (i := 2))) (fun _ _ => rfl))) (b_of (me_ix (ix_all hr) m_ixAll (b_of (me_varL (i := 8))) (b_of (me_varL (i := 9))) (fun _ _ => rfl))))) (b_of (me_bin op_mulAll m_mulAll (b_of (me_ix (ix_all hr) m_ixAll (b_of (me_ix (ix_all hr) m_ixAll (b_of (me_varL (i := 7))) (b_of (me_varL (i := 9))) (fun _ _ => rfl))) (b_of (me_varL (i := 2))) (fun _ _ => rfl))) (b_of (me_ix (ix_all hr) m_ixAll (b_of (me_varL (i := 8))) (b_of (me_varL (i := 5))) (fun _ _ => rfl))))) (nomark _)))))))) (ms_one (ms_setL (i := 9) sc__law_likely_holds.nd (me_varL (i := 5)))) ms_nil)
  (ms_cons (ms_par (i := 11) (j := 12) rfl sc__law_likely_holds.nd rfl rfl (by decide) (by kernel_rfl) (by kernel_rfl) (me_bl1' (cr_sumAll rfl) u_sumA T.z_sum (b_of (me_slc (b_of (me_ix (ix_all hr) m_ixAll (b_of (me_varL (i := 7))) (b_of (me_varL (i := 5))) (fun _ _ => rfl))) mp_no (mp_some (b_of (me_bin op_addAll m_add (b_of (me_varL (i := 2))) (b_of me_int))))))) (me_bl1' (cr_sumAll rfl) u_sumA T.z_sum (b_of (me_slc (b_of (me_ix (ix_all hr) m_ixAll (b_of (me_varL (i := 7))) (b_of (me_varL (i := 5))) (fun _ _ => rfl))) (mp_some (b_of (me_varL (i := 2)))) mp_no))) (by kernel_rfl))
  (ms_one (ms_extL (i := 10) (b_of (me_ite (PW.pt (mw_and (mt_cmp op_geAll m_geAll (b_of (me_bin op_mulAll m_mulAll (b_of (me_varL (i := 11))) (b_of (me_ix (ix_all hr) m_ixAll (b_of (me_varL (i := 4))) (b_of me_int) (fun _ _ => rfl))))) (b_of (me_bin op_mulAll m_mulAll (b_of (me_ix (ix_all hr) m_ixAll (b_of (me_varL (i := 4))) (b_of me_int) (fun _ _ => rfl))) (b_of (me_ix (ix_all hr) m_ixAll (b_of (me_varL (i := 8))) (b_of (me_varL (i := 5))) (fun _ _ => rfl))))) (nomark _)) (mw_and1 (mt_cmp op_geAll m_geAll (b_of (me_bin op_mulAll m_mulAll (b_of (me_varL (i := 12))) (b_of (me_ix (ix_all hr) m_ixAll (b_of (me_varL (i := 4))) (b_of me_int) (fun _ _ => rfl))))) (b_of (me_bin op_mulAll m_mulAll (b_of (me_ix (ix_all hr) m_ixAll (b_of (me_varL (i := 4))) (b_of me_int) (fun _ _ => rfl))) (b_of (me_ix (ix_all hr) m_ixAll (b_of (me_varL (i := 8))) (b_of (me_varL (i := 5))) (fun _ _ => rfl))))) (nomark _))))) (m_of (me_lst (ma_cons' (me_varL (i := 5)) ma_nil))) (m_of (me_lst ma_nil)))))))))
  (ms_cons (ms_setL (i := 6) sc__law_likely_holds.nd (me_ite (mt_tru' (me_varBL (i := 10))) (me_tup (ma_cons' (me_ix (ix_all hr) m_ixAll (me_varBL (i := 10)) (b_of me_int) (fun _ _ => rfl)) (ma_cons' (me_ix (ix_all hr) m_ixAll (me_varBL (i := 10)) (b_of (me_un un_neg un_negM (b_of me_int))) (fun _ _ => rfl)) ma_nil))) me_non))
  (ms_one (ms_ret (me_call' (ok__law_same T) (hr.mono (by decide)) gd T.g__law_same T.F__law_same.kp T.b__law_same ps_body (ma_cons' (m_of (me_lst (ma_cons' (me_call' (ok_likeliest_dies T) (hr.mono (by decide)) gd T.g_likeliest_dies T.F_likeliest_dies.kp T.b_likeliest_dies ps_body (ma_cons' (me_varL (i := 1)) (ma_cons' (me_varL (i := 2)) (ma_cons' (me_varL (i := 3)) ma_nil)))) (ma_cons' (me_call' (ok_dies_bounds T) (hr.mono (by decide)) gd T.g_dies_bounds T.F_dies_bounds.kp T.b_dies_bounds ps_body (ma_cons' (me_varL (i := 1)) (ma_cons' (me_varL (i := 2)) (ma_cons' (me_varL (i := 4)) (ma_cons' (me_varL (i := 3)) ma_nil))))) ma_nil)))) (ma_cons' (m_of (me_lst (ma_cons' (me_varL (i := 9)) (ma_cons' (me_varL (i := 6)) ma_nil)))) ma_nil)))))))))))
theorem ok__law_least_holds (T : Tx K mg) : FnG P w K mg base (L2.CX P w) 5 (ad K 31) (fd K 31) ["dies", "wanted"] (spM K (cn K ca fld) m__law_least_holds) :=
  fn_miniDD T.F__law_least_holds sc__law_least_holds fun cdv A outer s H E hr gd => (ms_cons (ms_setLc (i := 2) rfl sc__law_least_holds.nd rfl (by kernel_rfl) (sw_t rfl (by kernel_rfl) rfl (by kernel_rfl)) (mi_rng1' T.z_range me_int) (blk_ok (own := [("coins", 3)]) (by kernel_rfl)) (fun _ _ _ _ _ => (mg_nameL (i := 3) sc__law_least_holds.nd)) (fun _ _ _ _ _ => (mts_one (mt_cmp op_geAll m_geAll (b_of (me_call' (ok__law_shown T) (hr.mono (by decide)) gd T.g__law_shown T.F__law_shown.kp T.b__law_shown passL (ma_cons' (me_varC (i := 0)) (ma_cons' (me_varL (i := 3)) ma_nil)))) (b_of (me_bin op_mulAll m_mulAll (b_of (me_varC (i := 1))) (b_of (me_call' (ok__law_power T) (hr.mono (by decide)) gd T.g__law_power T.F__law_power.kp T.b__law_power passL (ma_cons' (me_varC (i := 0)) (ma_cons' (me_varL (i := 3)) ma_nil)))))) (nomark _)))) (fun _ _ _ _ _ => (me_varL (i := 3))))
  (ms_one (ms_ret (me_call' (ok__law_same T) (hr.mono (by decide)) gd T.g__law_same T.F__law_same.kp T.b__law_same ps_body (ma_cons' (me_call' (ok_least_for T) (hr.mono (by decide)) gd T.g_least_for T.F_least_for.kp T.b_least_for ps_body (ma_cons' (me_varC (i := 0)) (ma_cons' (me_varC (i := 1)) ma_nil))) (ma_cons' (me_ite (mt_tru' (b_of (me_varL (i := 2)))) (me_ix (ix_all hr) m_ixAll (b_of (me_varL (i := 2))) (b_of me_int) (fun _ _ => rfl)) me_non) ma_nil))))))
theorem ok__law_new_holds (T : Tx K mg) : FnG P w K mg base (L2.CX P w) 5 (ad K 32) (fd K 32) ["dies", "seen", "more"] (spM K (cn K ca fld) m__law_new_holds) :=
  fn_miniDD T.F__law_new_holds sc__law_new_holds fun cdv A outer s H E hr gd => (ms_cons (ms_setL (i := 3) sc__law_new_holds.nd (me_call' (ok__law_power T) (hr.mono (by decide)) gd T.g__law_power T.F__law_power.kp T.b__law_power ps_body (ma_cons' (me_varL (i := 0)) (ma_cons' (me_varL (i := 2)) ma_nil))))
  (ms_one (ms_ret (me_call' (ok__law_same T) (hr.mono (by decide)) gd T.g__law_same T.F__law_same.kp T.b__law_same ps_body (ma_cons' (me_call' (ok_chance_new T) (hr.mono (by decide)) gd T.g_chance_new T.F_chance_new.kp T.b_chance_new ps_body (ma_cons' (me_varL (i := 0)) (ma_cons' (me_varL (i := 1)) (ma_cons' (me_varL (i := 2)) ma_nil)))) (ma_cons' (me_call' (ok__law_lowest T) (hr.mono (by decide)) gd T.g__law_lowest T.F__law_lowest.kp T.b__law_lowest ps_body (ma_cons' (me_bin op_sub m_sub (b_of (me_varL (i := 3))) (b_of (me_call' (ok__law_power T) (hr.mono (by decide)) gd T.g__law_power T.F__law_power.kp T.b__law_power ps_body (ma_cons' (me_varL (i := 1)) (ma_cons' (me_varL (i := 2)) ma_nil))))) (ma_cons' (me_varL (i := 3)) ma_nil))) ma_nil))))))
theorem ok__law_counts_hold (T : Tx K mg) : FnG P w K mg base (L2.CX P w) 5 (ad K 33) (fd K 33) ["state"] (spM K (cn K ca fld) m__law_counts_hold) :=
  fn_miniDD T.F__law_counts_hold sc__law_counts_hold fun cdv A outer s H E hr gd => (ms_cons (ms_asg (us := [5, 6]) (me_tup (ma_cons' (me_call' (ok__law_pick T) (hr.mono (by decide)) gd T.g__law_pick T.F__law_pick.kp T.b__law_pick ps_body (ma_cons' (me_varC (i := 0)) (ma_cons' (m_of (me_lst (ma_cons' me_int (ma_cons' me_int (ma_cons' me_int (ma_cons' me_int (ma_cons' me_int ma_nil))))))) ma_nil))) (ma_cons' (me_call' (ok__law_pick T) (hr.mono (by decide)) gd T.g__law_pick T.F__law_pick.kp T.b__law_pick ps_body (ma_cons' (me_varC (i := 0)) (ma_cons' (m_of (me_lst (ma_cons' me_int (ma_cons' me_int (ma_cons' me_int (ma_cons' me_int ma_nil)))))) ma_nil))) ma_nil))) (mg_tup rfl (mgs_cons' (mg_nameL (i := 5) sc__law_counts_hold.nd) (mgs_cons' (mg_nameC (i := 6) sc__law_counts_hold.nd) mgs_nil))))
  (ms_cons (ms_setL (i := 1) sc__law_counts_hold.nd (me_ty1' call_tupX u_tupX T.z_tuple (b_ofO (me_lc rfl sc__law_counts_hold.nd (mi_rng1' T.z_range (me_varL (i := 5))) (blk_ok (own := [("k", 11)]) (by kernel_rfl)) (fun _ _ _ _ _ => (mg_nameL (i := 11) sc__law_counts_hold.nd)) (fun _ _ _ _ _ => mts_nil) (fun _ _ _ _ _ => (me_bin op_addAll m_add (b_of me_int) (b_of (me_call' (ok__law_draw T) (hr.mono (by decide)) gd T.g__law_draw T.F__law_draw.kp T.b__law_draw passL (ma_cons' (me_varC (i := 0)) (ma_cons' (me_varC (i := 6)) ma_nil))))))))))
  (ms_cons (ms_unp (fs := [false, false, true]) (is := [7, 8, 9]) rfl (mf_V (me_bl1' (cr_sumAll rfl) u_sumA T.z_sum (b_of (me_varL (i := 1)))) (mf_V me_int (mf_O me_dicK mf_nil))) (mn_L (i := 7) sc__law_counts_hold.nd (mn_L (i := 8) sc__law_counts_hold.nd (mn_C (i := 9) sc__law_counts_hold.nd mn_nil))))
  (ms_cons (ms_for (us := [2]) ps_own rfl (mi_seq (me_varL (i := 1))) (mg_nameL (i := 2) sc__law_counts_hold.nd) (ms_cons (ms_setL (i := 8) sc__law_counts_hold.nd (me_bin op_addAll m_add (b_of (me_varL (i := 8))) (b_of (me_bin op_fdivW m_div (b_of (me_bin op_mulAll m_mulAll (b_of (me_varL (i := 2))) (b_of (me_bin op_sub m_sub (b_of (me_varL (i := 2))) (b_of me_int))))) (b_of me_int)))))
  (ms_one (ms_putC (i := 9) hr (me_bin op_addAll m_add (b_of (me_get2 hr (me_varBC (i := 9)) (me_varL (i := 2)) me_int)) (b_of me_int)) (me_varL (i := 2))))))
  (ms_cons (ms_if (mt_cmp op_ltAll m_ltAll (b_of (me_varL (i := 7))) (b_of me_int) (nomark _)) (ms_cons (ms_unp (fs := [true, false]) (is := [4, 8]) rfl (mf_O (me_lst ma_nil) (mf_V me_int mf_nil)) (mn_C (i := 4) sc__law_counts_hold.nd (mn_L (i := 8) sc__law_counts_hold.nd mn_nil)))
  (ms_cons (ms_for (us := [10]) ps_own rfl (mi_rng1' T.z_range (me_varL (i := 5))) (mg_nameL (i := 10) sc__law_counts_hold.nd) (ms_one (ms_extC (i := 4) (b_of (me_bin op_mulAll m_mulAll (b_ofO (me_lst (ma_cons' (me_varL (i := 10)) ma_nil))) (b_of (me_ix (ix_all hr) m_ixAll (b_of (me_varL (i := 1))) (b_of (me_varL (i := 10))) (fun _ _ => rfl))))))))
  (ms_one (ms_for (us := [11]) ps_own rfl (mi_rng1' T.z_range (me_varL (i := 7))) (mg_nameC (i := 11) sc__law_counts_hold.nd) (ms_one (ms_setL (i := 8) sc__law_counts_hold.nd (me_bin op_addAll m_add (b_of (me_varL (i := 8))) (b_of (me_bl1' cr_lenAll u_len T.z_len (b_ofO (me_lc rfl sc__law_counts_hold.nd (mi_seq (me_slc (me_varBC (i := 4)) mp_no (mp_some (b_of (me_varC (i := 11)))))) (blk_ok (own := [("own", 2)]) (by kernel_rfl)) (fun _ _ _ _ _ => (mg_nameL (i := 2) sc__law_counts_hold.nd)) (fun _ _ _ _ _ => (mts_one (mt_cmp (op_eqD hr.units) m_eq (b_of (me_varL (i := 2))) (b_of (me_ix (ix_all hr) m_ixAll (me_varBC (i := 4)) (b_of (me_varC (i := 11))) (fun _ _ => rfl))) (nomark _)))) (fun _ _ _ _ _ => (me_varL (i := 2)))))))))))))) ms_nil)
  (ms_cons (ms_setOL (i := 3) sc__law_counts_hold.nd (me_lst (ma_cons' (me_call' (ok__law_lowest T) (hr.mono (by decide)) gd T.g__law_lowest T.F__law_lowest.kp T.b__law_lowest ps_body (ma_cons' (me_bin op_sub m_sub (b_of (me_varL (i := 7))) (b_of (me_bl1' cr_lenAll u_len T.z_len (b_ofO (me_lc rfl sc__law_counts_hold.nd (mi_seq (me_varL (i := 1))) (blk_ok (own := [("own", 2)]) (by kernel_rfl)) (fun _ _ _ _ _ => (mg_nameL (i := 2) sc__law_counts_hold.nd)) (fun _ _ _ _ _ => (mts_one (mt_cmp (op_eqD hr.units) m_eq (b_of (me_varL (i := 2))) (b_of me_int) (nomark _)))) (fun _ _ _ _ _ => (me_varL (i := 2)))))))) (ma_cons' (me_varL (i := 7)) ma_nil))) (ma_cons' (me_ty1' call_tuple_of u_tuple T.z_tuple (b_ofO (me_lc rfl sc__law_counts_hold.nd (mi_seq (m_of (me_bl1O' (cr_sortedAll rfl) u_sorted T.z_sorted (me_varBC (i := 9))))) (blk_ok (own := [("own", 2)]) (by kernel_rfl)) (fun _ _ _ _ _ => (mg_nameL (i := 2) sc__law_counts_hold.nd)) (fun _ _ _ _ _ => mts_nil) (fun _ _ _ _ _ => (me_tup (ma_cons' (me_varL (i := 2)) (ma_cons' (me_ix (ix_all hr) m_ixAll (me_varBC (i := 9)) (b_of (me_varL (i := 2))) (fun _ _ => rfl)) ma_nil))))))) ma_nil))))
  (ms_cons (ms_appL (i := 3) (me_ite (mt_cmp (op_eqD hr.units) m_eq (b_of (me_varL (i := 7))) (b_of me_int) (nomark _)) me_non (me_call' (ok__law_lowest T) (hr.mono (by decide)) gd T.g__law_lowest T.F__law_lowest.kp T.b__law_lowest ps_body (ma_cons' (me_varL (i := 8)) (ma_cons' (me_bin op_fdivW m_div (b_of (me_bin op_mulAll m_mulAll (b_of (me_varL (i := 7))) (b_of (me_bin op_sub m_sub (b_of (me_varL (i := 7))) (b_of me_int))))) (b_of me_int)) ma_nil)))))
  (ms_cons (ms_frz (i := 3) (ms_if (mt_not (mt_tru' (b_of (me_call' (ok__law_same T) (hr.mono (by decide)) gd T.g__law_same T.F__law_same.kp T.b__law_same ps_body (ma_cons' (m_of (me_lst (ma_cons' (me_call' (ok_coverage T) (hr.mono (by decide)) gd T.g_coverage T.F_coverage.kp T.b_coverage ps_body (ma_cons' (me_varL (i := 1)) ma_nil)) (ma_cons' (me_call' (ok_often_seen T) (hr.mono (by decide)) gd T.g_often_seen T.F_often_seen.kp T.b_often_seen ps_body (ma_cons' (me_varL (i := 1)) ma_nil)) (ma_cons' (me_call' (ok_chance_alike T) (hr.mono (by decide)) gd T.g_chance_alike T.F_chance_alike.kp T.b_chance_alike ps_body (ma_cons' (me_varL (i := 1)) ma_nil)) ma_nil))))) (ma_cons' (me_varL (i := 3)) ma_nil)))))) (ms_one (ms_ret me_bl)) ms_nil))
  (ms_cons (ms_setC (i := 4) sc__law_counts_hold.nd (me_call' (ok__law_pick T) (hr.mono (by decide)) gd T.g__law_pick T.F__law_pick.kp T.b__law_pick ps_body (ma_cons' (me_varC (i := 0)) (ma_cons' (m_of (me_lst (ma_cons' (me_bl1' (cr_min rfl) u_min T.z_min (b_ofO (me_lst (ma_cons' me_int (ma_cons' (me_varL (i := 7)) ma_nil))))) (ma_cons' (me_bl1' (cr_min rfl) u_min T.z_min (b_ofO (me_lst (ma_cons' me_int (ma_cons' (me_bin op_addAll m_add (b_of (me_varL (i := 7))) (b_of me_int)) ma_nil))))) (ma_cons' (me_bl1' (cr_min rfl) u_min T.z_min (b_ofO (me_lst (ma_cons' me_int (ma_cons' (me_bin op_sub m_sub (b_of (me_varL (i := 7))) (b_of me_int)) ma_nil))))) (ma_cons' (me_call' (ok__law_draw T) (hr.mono (by decide)) gd T.g__law_draw T.F__law_draw.kp T.b__law_draw ps_body (ma_cons' (me_varC (i := 0)) (ma_cons' me_int ma_nil))) (ma_cons' me_int (ma_cons' me_int ma_nil)))))))) ma_nil))))
  (ms_one (ms_frz (i := 4) (ms_ret (me_call' (ok__law_same T) (hr.mono (by decide)) gd T.g__law_same T.F__law_same.kp T.b__law_same ps_body (ma_cons' (me_call' (ok_judge_counts T) (hr.mono (by decide)) gd T.g_judge_counts T.F_judge_counts.kp T.b_judge_counts ps_body (ma_cons' (me_varC (i := 4)) (ma_cons' (me_varL (i := 1)) ma_nil))) (ma_cons' (me_ite (mt_cmp (op_eqD hr.units) m_eq (me_varBC (i := 4)) (b_of (me_varL (i := 7))) (nomark _)) (me_tup (ma_cons' me_str ma_nil)) (me_tup (ma_cons' me_str (ma_cons' (me_bin op_sub m_sub (me_varBC (i := 4)) (b_of (me_varL (i := 7)))) ma_nil)))) ma_nil)))))))))))))))
theorem ok_law (T : Tx K mg) : FnG P w K mg base (L2.CX P w) 6 (ad K 34) (fd K 34) ["script"] (spM K (cn K ca fld) m_law) :=
  fn_miniDD T.F_law sc_law fun cdv A outer s H E hr gd => (ms_cons (ms_mk (i := 1) sc_law.nd (ok__law_start T) (hr.mono (by decide)) gd T.g__law_start T.F__law_start.kp T.b__law_start ps_body (ma_cons' (me_varL (i := 0)) ma_nil))
  (ms_cons (ms_for (us := [2]) ps_own rfl (mi_rng1' T.z_range me_int) (mg_nameL (i := 2) sc_law.nd) (ms_cons (ms_par (i := 4) (j := 5) rfl sc_law.nd rfl rfl (by decide) (by kernel_rfl) (by kernel_rfl) (me_bin op_addAll m_add (b_of me_int) (b_of (me_call' (ok__law_draw T) (hr.mono (by decide)) gd T.g__law_draw T.F__law_draw.kp T.b__law_draw ps_body (ma_cons' (me_varL (i := 1)) (ma_cons' (me_call' (ok__law_pick T) (hr.mono (by decide)) gd T.g__law_pick T.F__law_pick.kp T.b__law_pick ps_body (ma_cons' (me_varL (i := 1)) (ma_cons' (m_of (me_lst (ma_cons' me_int (ma_cons' me_int (ma_cons' me_int ma_nil))))) ma_nil))) ma_nil))))) (me_call' (ok__law_draw T) (hr.mono (by decide)) gd T.g__law_draw T.F__law_draw.kp T.b__law_draw ps_body (ma_cons' (me_varL (i := 1)) (ma_cons' (me_call' (ok__law_pick T) (hr.mono (by decide)) gd T.g__law_pick T.F__law_pick.kp T.b__law_pick ps_body (ma_cons' (me_varL (i := 1)) (ma_cons' (m_of (me_lst (ma_cons' me_int (ma_cons' me_int (ma_cons' me_int ma_nil))))) ma_nil))) ma_nil))) (by kernel_rfl))
  (ms_cons (ms_if (mt_cmp (op_eqD hr.units) m_eq (b_of (me_call' (ok__law_draw T) (hr.mono (by decide)) gd T.g__law_draw T.F__law_draw.kp T.b__law_draw ps_body (ma_cons' (me_varL (i := 1)) (ma_cons' me_int ma_nil)))) (b_of me_int) (nomark _)) (ms_one (ms_asg (us := [4, 5]) (me_call' (ok__law_pick T) (hr.mono (by decide)) gd T.g__law_pick T.F__law_pick.kp T.b__law_pick ps_body (ma_cons' (me_varL (i := 1)) (ma_cons' (m_of (me_lst (ma_cons' (me_tup (ma_cons' me_int (ma_cons' me_int ma_nil))) (ma_cons' (me_tup (ma_cons' me_int (ma_cons' me_int ma_nil))) (ma_cons' (me_tup (ma_cons' me_int (ma_cons' me_int ma_nil))) (ma_cons' (me_tup (ma_cons' me_int (ma_cons' me_int ma_nil))) (ma_cons' (me_tup (ma_cons' me_int (ma_cons' me_int ma_nil))) (ma_cons' (me_tup (ma_cons' me_int (ma_cons' me_int ma_nil))) ma_nil)))))))) ma_nil))) (mg_tup rfl (mgs_cons' (mg_nameL (i := 4) sc_law.nd) (mgs_cons' (mg_nameL (i := 5) sc_law.nd) mgs_nil))))) ms_nil)
  (ms_cons (ms_par (i := 6) (j := 7) rfl sc_law.nd rfl rfl (by decide) (by kernel_rfl) (by kernel_rfl) (me_call' (ok__law_draw T) (hr.mono (by decide)) gd T.g__law_draw T.F__law_draw.kp T.b__law_draw ps_body (ma_cons' (me_varL (i := 1)) (ma_cons' (me_call' (ok__law_pick T) (hr.mono (by decide)) gd T.g__law_pick T.F__law_pick.kp T.b__law_pick ps_body (ma_cons' (me_varL (i := 1)) (ma_cons' (m_of (me_lst (ma_cons' me_int (ma_cons' (me_bin op_addAll m_add (b_of (me_varL (i := 4))) (b_of me_int)) (ma_cons' me_int ma_nil))))) ma_nil))) ma_nil))) (me_bin op_addAll m_add (b_of me_int) (b_of (me_call' (ok__law_draw T) (hr.mono (by decide)) gd T.g__law_draw T.F__law_draw.kp T.b__law_draw ps_body (ma_cons' (me_varL (i := 1)) (ma_cons' (me_call' (ok__law_pick T) (hr.mono (by decide)) gd T.g__law_pick T.F__law_pick.kp T.b__law_pick ps_body (ma_cons' (me_varL (i := 1)) (ma_cons' (m_of (me_lst (ma_cons' me_int (ma_cons' me_int ma_nil)))) ma_nil))) ma_nil))))) (by kernel_rfl))
  (ms_cons (ms_if (PW.pt (mw_or (mt_not (mt_tru' (b_of (me_call' (ok__law_chances_hold T) (hr.mono (by decide)) gd T.g__law_chances_hold T.F__law_chances_hold.kp T.b__law_chances_hold ps_body (ma_cons' (me_varL (i := 4)) (ma_cons' (me_varL (i := 5)) ma_nil)))))) (mw_or1 (mt_not (mt_tru' (b_of (me_call' (ok__law_likely_holds T) (hr.mono (by decide)) gd T.g__law_likely_holds T.F__law_likely_holds.kp T.b__law_likely_holds ps_body (ma_cons' (me_varL (i := 1)) (ma_cons' (me_varL (i := 5)) (ma_cons' (me_varL (i := 6)) (ma_cons' (me_varL (i := 7)) ma_nil))))))))))) (ms_one (ms_ret me_bl)) ms_nil)
  (ms_cons (ms_setL (i := 3) sc_law.nd (me_call' (ok__law_draw T) (hr.mono (by decide)) gd T.g__law_draw T.F__law_draw.kp T.b__law_draw ps_body (ma_cons' (me_varL (i := 1)) (ma_cons' (me_call' (ok__law_pick T) (hr.mono (by decide)) gd T.g__law_pick T.F__law_pick.kp T.b__law_pick ps_body (ma_cons' (me_varL (i := 1)) (ma_cons' (m_of (me_lst (ma_cons' (me_bin op_addAll m_add (b_of (me_varL (i := 4))) (b_of me_int)) (ma_cons' (me_bin op_addAll m_add (b_of (me_varL (i := 4))) (b_of me_int)) (ma_cons' me_int ma_nil))))) ma_nil))) ma_nil))))
  (ms_one (ms_if (PW.pt (mw_or (mt_not (mt_tru' (b_of (me_call' (ok__law_least_holds T) (hr.mono (by decide)) gd T.g__law_least_holds T.F__law_least_holds.kp T.b__law_least_holds ps_body (ma_cons' (me_varL (i := 4)) (ma_cons' (me_varL (i := 3)) ma_nil)))))) (mw_or (mt_not (mt_tru' (b_of (me_call' (ok__law_new_holds T) (hr.mono (by decide)) gd T.g__law_new_holds T.F__law_new_holds.kp T.b__law_new_holds ps_body (ma_cons' (me_varL (i := 4)) (ma_cons' (me_call' (ok__law_draw T) (hr.mono (by decide)) gd T.g__law_draw T.F__law_draw.kp T.b__law_draw ps_body (ma_cons' (me_varL (i := 1)) (ma_cons' (me_bin op_addAll m_add (b_of (me_varL (i := 4))) (b_of me_int)) ma_nil))) (ma_cons' (me_call' (ok__law_draw T) (hr.mono (by decide)) gd T.g__law_draw T.F__law_draw.kp T.b__law_draw ps_body (ma_cons' (me_varL (i := 1)) (ma_cons' me_int ma_nil))) ma_nil))))))) (mw_or1 (mt_not (mt_tru' (b_of (me_call' (ok__law_counts_hold T) (hr.mono (by decide)) gd T.g__law_counts_hold T.F__law_counts_hold.kp T.b__law_counts_hold ps_body (ma_cons' (me_varL (i := 1)) ma_nil))))))))) (ms_one (ms_ret me_bl)) ms_nil))))))))
  (ms_one (ms_ret me_bl))))
end
def fn : List He.DefD := [d_is_integer, d_check_dies, d_check_coins, d_check_seen, d_quotient, d_ways_table, d_chances_seen, d_mean_seen, d_likeliest_dies, d_check_part, d_dies_bounds, d_check_counts, d_coverage, d_often_seen, d_least_for, d_chance_alike, d_check_more, d_chance_new, d_judge_counts, d__law_start, d__law_draw, d__law_pick, d__law_same, d__law_power, d__law_lowest, d__law_choices, d__law_ways, d__law_table, d__law_shown, d__law_chances_hold, d__law_likely_holds, d__law_least_holds, d__law_new_holds, d__law_counts_hold, d_law]
def fa : List He.Fa := ([.glo "is_integer", .glo "check_dies", .glo "check_coins", .glo "check_seen", .glo "quotient", .glo "ways_table", .glo "chances_seen", .glo "mean_seen", .glo "likeliest_dies", .glo "check_part", .glo "dies_bounds", .glo "check_counts", .glo "coverage", .glo "often_seen", .glo "least_for", .glo "chance_alike", .glo "check_more", .glo "chance_new", .glo "judge_counts", .glo "_law_start", .glo "_law_draw", .glo "_law_pick", .glo "_law_same", .glo "_law_power", .glo "_law_lowest", .glo "_law_choices", .glo "_law_ways", .glo "_law_table", .glo "_law_shown", .glo "_law_chances_hold"] : List He.Fa) ++ ([.glo "_law_likely_holds", .glo "_law_least_holds", .glo "_law_new_holds", .glo "_law_counts_hold", .glo "law", .int "MAX_DIES" 40, .int "MAX_COINS" 60, .free "isinstance", .free "bool", .free "int", .free "range", .free "tuple", .free "enumerate", .free "sum", .free "max", .free "all", .free "len", .free "min", .free "sorted", .free "list", .free "abs", .free "repr"] : List He.Fa)
abbrev R : PySem.W.OpenRow := PySem.W.OpenLaw.row PySem.Challenge.rw_hoardsread_k13_counts
abbrev hk : PySem.W.Hook := He.hookD 4 fa fn
def ob (s : PySem.W.SharedT) : He.AlD := He.obsDG 4 fa fn (HandSHeadRun.getT s)
theorem ob_eq (s : PySem.W.SharedT) : ob s = hk.obs s.abs := He.obsDG_eq (HandSHeadRun.getT_eq s)
def loose : List Str := (["__name__", "CabinetError", "ArgumentError", "is_integer", "MAX_COINS", "MAX_DIES", "check_dies", "check_coins", "check_seen", "quotient", "ways_table", "chances_seen", "mean_seen", "likeliest_dies", "dies_bounds", "check_part", "check_counts", "coverage", "often_seen", "least_for", "chance_alike", "chance_new", "check_more", "judge_counts", "_law_start", "_law_draw", "_law_pick", "_law_same", "_law_power", "_law_lowest"] : List Str) ++ (["_law_choices", "_law_ways", "_law_table", "_law_shown", "_law_chances_hold", "_law_likely_holds", "_law_least_holds", "_law_new_holds", "_law_counts_hold"] : List Str)
theorem run (w : World) : HandSHeadRun.RunEq R (PySem.W.view R.prog [42]) hk ob 4000 loose w := by
  intro os
  kernel_rfl
set_option maxHeartbeats 0 in
theorem tx {K : PySem.W.Frag} {h : Heap} {mg : Str → Option Value} (X : K.In h) (G : h.Ns mainGlobals mg) (c : He.SaysD fa fn K) : Tx K mg where
  F_is_integer := fdA_of (c.def_ 0 (d := d_is_integer) rfl)
  b_is_integer := FunD.bindsN (ps := ["value"]) (fdA_of (c.def_ 0 (d := d_is_integer) rfl)) fun _ _ _ _ _ _ us hl => match us, hl with | [_], _ => rfl
  g_is_integer := He.glo_ok X G (c.fact 0 (f := .glo "is_integer") rfl)
  F_check_dies := fdA_of (c.def_ 1 (d := d_check_dies) rfl)
  b_check_dies := by
    obtain ⟨ds, h1, h2⟩ := FunD.binds1 (ps := ["dies", "reason"]) (fdA_of (c.def_ 1 (d := d_check_dies) rfl)) 2 1 (by intro z; cases z) rfl fun _ _ _ _ _ _ _ us its hl hi => match us, hl, its, hi with | [_, _], _, [_], _ => ⟨_, rfl, rfl⟩
    cases h1; exact h2
  bd_check_dies := by
    obtain ⟨ds, h1, h2⟩ := FunD.binds1 (ps := ["dies", "reason"]) (fdA_of (c.def_ 1 (d := d_check_dies) rfl)) 1 0 (by intro z; cases z) rfl fun _ _ _ _ _ _ _ us its hl hi => match us, hl, its, hi with | [_], _, [_], _ => ⟨_, rfl, rfl⟩
    obtain ⟨u, rfl, t, rfl⟩ := vals1 h1
    exact ⟨t, h2⟩
  g_check_dies := He.glo_ok X G (c.fact 1 (f := .glo "check_dies") rfl)
  F_check_coins := fdA_of (c.def_ 2 (d := d_check_coins) rfl)
  b_check_coins := FunD.bindsN (ps := ["coins"]) (fdA_of (c.def_ 2 (d := d_check_coins) rfl)) fun _ _ _ _ _ _ us hl => match us, hl with | [_], _ => rfl
  g_check_coins := He.glo_ok X G (c.fact 2 (f := .glo "check_coins") rfl)
  F_check_seen := fdA_of (c.def_ 3 (d := d_check_seen) rfl)
  b_check_seen := FunD.bindsN (ps := ["seen"]) (fdA_of (c.def_ 3 (d := d_check_seen) rfl)) fun _ _ _ _ _ _ us hl => match us, hl with | [_], _ => rfl
  g_check_seen := He.glo_ok X G (c.fact 3 (f := .glo "check_seen") rfl)
  F_quotient := fdA_of (c.def_ 4 (d := d_quotient) rfl)
  b_quotient := FunD.bindsN (ps := ["up", "down"]) (fdA_of (c.def_ 4 (d := d_quotient) rfl)) fun _ _ _ _ _ _ us hl => match us, hl with | [_, _], _ => rfl
  g_quotient := He.glo_ok X G (c.fact 4 (f := .glo "quotient") rfl)
  F_ways_table := fdA_of (c.def_ 5 (d := d_ways_table) rfl)
  b_ways_table := FunD.bindsN (ps := ["dies", "coins"]) (fdA_of (c.def_ 5 (d := d_ways_table) rfl)) fun _ _ _ _ _ _ us hl => match us, hl with | [_, _], _ => rfl
  g_ways_table := He.glo_ok X G (c.fact 5 (f := .glo "ways_table") rfl)
  F_chances_seen := fdA_of (c.def_ 6 (d := d_chances_seen) rfl)
  b_chances_seen := FunD.bindsN (ps := ["dies", "coins"]) (fdA_of (c.def_ 6 (d := d_chances_seen) rfl)) fun _ _ _ _ _ _ us hl => match us, hl with | [_, _], _ => rfl
  g_chances_seen := He.glo_ok X G (c.fact 6 (f := .glo "chances_seen") rfl)
  F_mean_seen := fdA_of (c.def_ 7 (d := d_mean_seen) rfl)
  b_mean_seen := FunD.bindsN (ps := ["dies", "coins"]) (fdA_of (c.def_ 7 (d := d_mean_seen) rfl)) fun _ _ _ _ _ _ us hl => match us, hl with | [_, _], _ => rfl
  g_mean_seen := He.glo_ok X G (c.fact 7 (f := .glo "mean_seen") rfl)
  F_likeliest_dies := fdA_of (c.def_ 8 (d := d_likeliest_dies) rfl)
  b_likeliest_dies := FunD.bindsN (ps := ["coins", "seen", "most"]) (fdA_of (c.def_ 8 (d := d_likeliest_dies) rfl)) fun _ _ _ _ _ _ us hl => match us, hl with | [_, _, _], _ => rfl
  g_likeliest_dies := He.glo_ok X G (c.fact 8 (f := .glo "likeliest_dies") rfl)
  F_check_part := fdA_of (c.def_ 9 (d := d_check_part) rfl)
  b_check_part := FunD.bindsN (ps := ["part"]) (fdA_of (c.def_ 9 (d := d_check_part) rfl)) fun _ _ _ _ _ _ us hl => match us, hl with | [_], _ => rfl
  g_check_part := He.glo_ok X G (c.fact 9 (f := .glo "check_part") rfl)
  F_dies_bounds := fdA_of (c.def_ 10 (d := d_dies_bounds) rfl)
  b_dies_bounds := FunD.bindsN (ps := ["coins", "seen", "part", "most"]) (fdA_of (c.def_ 10 (d := d_dies_bounds) rfl)) fun _ _ _ _ _ _ us hl => match us, hl with | [_, _, _, _], _ => rfl
  g_dies_bounds := He.glo_ok X G (c.fact 10 (f := .glo "dies_bounds") rfl)
  F_check_counts := fdA_of (c.def_ 11 (d := d_check_counts) rfl)
  b_check_counts := FunD.bindsN (ps := ["counts"]) (fdA_of (c.def_ 11 (d := d_check_counts) rfl)) fun _ _ _ _ _ _ us hl => match us, hl with | [_], _ => rfl
  g_check_counts := He.glo_ok X G (c.fact 11 (f := .glo "check_counts") rfl)
  F_coverage := fdA_of (c.def_ 12 (d := d_coverage) rfl)
  b_coverage := FunD.bindsN (ps := ["counts"]) (fdA_of (c.def_ 12 (d := d_coverage) rfl)) fun _ _ _ _ _ _ us hl => match us, hl with | [_], _ => rfl
  g_coverage := He.glo_ok X G (c.fact 12 (f := .glo "coverage") rfl)
  F_often_seen := fdA_of (c.def_ 13 (d := d_often_seen) rfl)
  b_often_seen := FunD.bindsN (ps := ["counts"]) (fdA_of (c.def_ 13 (d := d_often_seen) rfl)) fun _ _ _ _ _ _ us hl => match us, hl with | [_], _ => rfl
  g_often_seen := He.glo_ok X G (c.fact 13 (f := .glo "often_seen") rfl)
  F_least_for := fdA_of (c.def_ 14 (d := d_least_for) rfl)
  b_least_for := FunD.bindsN (ps := ["dies", "wanted"]) (fdA_of (c.def_ 14 (d := d_least_for) rfl)) fun _ _ _ _ _ _ us hl => match us, hl with | [_, _], _ => rfl
  g_least_for := He.glo_ok X G (c.fact 14 (f := .glo "least_for") rfl)
  F_chance_alike := fdA_of (c.def_ 15 (d := d_chance_alike) rfl)
  b_chance_alike := FunD.bindsN (ps := ["counts"]) (fdA_of (c.def_ 15 (d := d_chance_alike) rfl)) fun _ _ _ _ _ _ us hl => match us, hl with | [_], _ => rfl
  g_chance_alike := He.glo_ok X G (c.fact 15 (f := .glo "chance_alike") rfl)
  F_check_more := fdA_of (c.def_ 16 (d := d_check_more) rfl)
  b_check_more := FunD.bindsN (ps := ["dies", "seen", "more"]) (fdA_of (c.def_ 16 (d := d_check_more) rfl)) fun _ _ _ _ _ _ us hl => match us, hl with | [_, _, _], _ => rfl
  g_check_more := He.glo_ok X G (c.fact 16 (f := .glo "check_more") rfl)
  F_chance_new := fdA_of (c.def_ 17 (d := d_chance_new) rfl)
  b_chance_new := FunD.bindsN (ps := ["dies", "seen", "more"]) (fdA_of (c.def_ 17 (d := d_chance_new) rfl)) fun _ _ _ _ _ _ us hl => match us, hl with | [_, _, _], _ => rfl
  g_chance_new := He.glo_ok X G (c.fact 17 (f := .glo "chance_new") rfl)
  F_judge_counts := fdA_of (c.def_ 18 (d := d_judge_counts) rfl)
  b_judge_counts := FunD.bindsN (ps := ["coins", "counts"]) (fdA_of (c.def_ 18 (d := d_judge_counts) rfl)) fun _ _ _ _ _ _ us hl => match us, hl with | [_, _], _ => rfl
  g_judge_counts := He.glo_ok X G (c.fact 18 (f := .glo "judge_counts") rfl)
  F__law_start := fdA_of (c.def_ 19 (d := d__law_start) rfl)
  b__law_start := FunD.bindsN (ps := ["script"]) (fdA_of (c.def_ 19 (d := d__law_start) rfl)) fun _ _ _ _ _ _ us hl => match us, hl with | [_], _ => rfl
  g__law_start := He.glo_ok X G (c.fact 19 (f := .glo "_law_start") rfl)
  F__law_draw := fdA_of (c.def_ 20 (d := d__law_draw) rfl)
  b__law_draw := FunD.bindsN (ps := ["state", "many"]) (fdA_of (c.def_ 20 (d := d__law_draw) rfl)) fun _ _ _ _ _ _ us hl => match us, hl with | [_, _], _ => rfl
  g__law_draw := He.glo_ok X G (c.fact 20 (f := .glo "_law_draw") rfl)
  F__law_pick := fdA_of (c.def_ 21 (d := d__law_pick) rfl)
  b__law_pick := FunD.bindsN (ps := ["state", "some"]) (fdA_of (c.def_ 21 (d := d__law_pick) rfl)) fun _ _ _ _ _ _ us hl => match us, hl with | [_, _], _ => rfl
  g__law_pick := He.glo_ok X G (c.fact 21 (f := .glo "_law_pick") rfl)
  F__law_same := fdA_of (c.def_ 22 (d := d__law_same) rfl)
  b__law_same := FunD.bindsN (ps := ["actual", "due"]) (fdA_of (c.def_ 22 (d := d__law_same) rfl)) fun _ _ _ _ _ _ us hl => match us, hl with | [_, _], _ => rfl
  g__law_same := He.glo_ok X G (c.fact 22 (f := .glo "_law_same") rfl)
  F__law_power := fdA_of (c.def_ 23 (d := d__law_power) rfl)
  b__law_power := FunD.bindsN (ps := ["base", "many"]) (fdA_of (c.def_ 23 (d := d__law_power) rfl)) fun _ _ _ _ _ _ us hl => match us, hl with | [_, _], _ => rfl
  g__law_power := He.glo_ok X G (c.fact 23 (f := .glo "_law_power") rfl)
  F__law_lowest := fdA_of (c.def_ 24 (d := d__law_lowest) rfl)
  b__law_lowest := FunD.bindsN (ps := ["up", "down"]) (fdA_of (c.def_ 24 (d := d__law_lowest) rfl)) fun _ _ _ _ _ _ us hl => match us, hl with | [_, _], _ => rfl
  g__law_lowest := He.glo_ok X G (c.fact 24 (f := .glo "_law_lowest") rfl)
  F__law_choices := fdA_of (c.def_ 25 (d := d__law_choices) rfl)
  b__law_choices := FunD.bindsN (ps := ["most"]) (fdA_of (c.def_ 25 (d := d__law_choices) rfl)) fun _ _ _ _ _ _ us hl => match us, hl with | [_], _ => rfl
  g__law_choices := He.glo_ok X G (c.fact 25 (f := .glo "_law_choices") rfl)
  F__law_ways := fdA_of (c.def_ 26 (d := d__law_ways) rfl)
  b__law_ways := FunD.bindsN (ps := ["dies", "coins"]) (fdA_of (c.def_ 26 (d := d__law_ways) rfl)) fun _ _ _ _ _ _ us hl => match us, hl with | [_, _], _ => rfl
  g__law_ways := He.glo_ok X G (c.fact 26 (f := .glo "_law_ways") rfl)
  F__law_table := fdA_of (c.def_ 27 (d := d__law_table) rfl)
  b__law_table := FunD.bindsN (ps := ["coins", "most"]) (fdA_of (c.def_ 27 (d := d__law_table) rfl)) fun _ _ _ _ _ _ us hl => match us, hl with | [_, _], _ => rfl
  g__law_table := He.glo_ok X G (c.fact 27 (f := .glo "_law_table") rfl)
  F__law_shown := fdA_of (c.def_ 28 (d := d__law_shown) rfl)
  b__law_shown := FunD.bindsN (ps := ["dies", "coins"]) (fdA_of (c.def_ 28 (d := d__law_shown) rfl)) fun _ _ _ _ _ _ us hl => match us, hl with | [_, _], _ => rfl
  g__law_shown := He.glo_ok X G (c.fact 28 (f := .glo "_law_shown") rfl)
  F__law_chances_hold := fdA_of (c.def_ 29 (d := d__law_chances_hold) rfl)
  b__law_chances_hold := FunD.bindsN (ps := ["dies", "coins"]) (fdA_of (c.def_ 29 (d := d__law_chances_hold) rfl)) fun _ _ _ _ _ _ us hl => match us, hl with | [_, _], _ => rfl
  g__law_chances_hold := He.glo_ok X G (c.fact 29 (f := .glo "_law_chances_hold") rfl)
  F__law_likely_holds := fdA_of (c.def_ 30 (d := d__law_likely_holds) rfl)
  b__law_likely_holds := FunD.bindsN (ps := ["state", "coins", "seen", "most"]) (fdA_of (c.def_ 30 (d := d__law_likely_holds) rfl)) fun _ _ _ _ _ _ us hl => match us, hl with | [_, _, _, _], _ => rfl
  g__law_likely_holds := He.glo_ok X G (c.fact 30 (f := .glo "_law_likely_holds") rfl)
  F__law_least_holds := fdA_of (c.def_ 31 (d := d__law_least_holds) rfl)
  b__law_least_holds := FunD.bindsN (ps := ["dies", "wanted"]) (fdA_of (c.def_ 31 (d := d__law_least_holds) rfl)) fun _ _ _ _ _ _ us hl => match us, hl with | [_, _], _ => rfl
  g__law_least_holds := He.glo_ok X G (c.fact 31 (f := .glo "_law_least_holds") rfl)
  F__law_new_holds := fdA_of (c.def_ 32 (d := d__law_new_holds) rfl)
  b__law_new_holds := FunD.bindsN (ps := ["dies", "seen", "more"]) (fdA_of (c.def_ 32 (d := d__law_new_holds) rfl)) fun _ _ _ _ _ _ us hl => match us, hl with | [_, _, _], _ => rfl
  g__law_new_holds := He.glo_ok X G (c.fact 32 (f := .glo "_law_new_holds") rfl)
  F__law_counts_hold := fdA_of (c.def_ 33 (d := d__law_counts_hold) rfl)
  b__law_counts_hold := FunD.bindsN (ps := ["state"]) (fdA_of (c.def_ 33 (d := d__law_counts_hold) rfl)) fun _ _ _ _ _ _ us hl => match us, hl with | [_], _ => rfl
  g__law_counts_hold := He.glo_ok X G (c.fact 33 (f := .glo "_law_counts_hold") rfl)
  F_law := fdA_of (c.def_ 34 (d := d_law) rfl)
  b_law := FunD.bindsN (ps := ["script"]) (fdA_of (c.def_ 34 (d := d_law) rfl)) fun _ _ _ _ _ _ us hl => match us, hl with | [_], _ => rfl
  g_law := He.glo_ok X G (c.fact 34 (f := .glo "law") rfl)
  c_MAX_DIES := He.int_ok X G (c.fact 35 (f := .int "MAX_DIES" 40) rfl)
  c_MAX_COINS := He.int_ok X G (c.fact 36 (f := .int "MAX_COINS" 60) rfl)
  z_isinstance := He.free_ok X G (c.fact 37 (f := .free "isinstance") rfl)
  z_bool := He.free_ok X G (c.fact 38 (f := .free "bool") rfl)
  z_int := He.free_ok X G (c.fact 39 (f := .free "int") rfl)
  z_range := He.free_ok X G (c.fact 40 (f := .free "range") rfl)
  z_tuple := He.free_ok X G (c.fact 41 (f := .free "tuple") rfl)
  z_enumerate := He.free_ok X G (c.fact 42 (f := .free "enumerate") rfl)
  z_sum := He.free_ok X G (c.fact 43 (f := .free "sum") rfl)
  z_max := He.free_ok X G (c.fact 44 (f := .free "max") rfl)
  z_all := He.free_ok X G (c.fact 45 (f := .free "all") rfl)
  z_len := He.free_ok X G (c.fact 46 (f := .free "len") rfl)
  z_min := He.free_ok X G (c.fact 47 (f := .free "min") rfl)
  z_sorted := He.free_ok X G (c.fact 48 (f := .free "sorted") rfl)
  z_list := He.free_ok X G (c.fact 49 (f := .free "list") rfl)
  z_abs := He.free_ok X G (c.fact 50 (f := .free "abs") rfl)
  z_repr := He.free_ok X G (c.fact 51 (f := .free "repr") rfl)
def Val : Prop := ∀ ns : List Int, ns.length ≤ 63 → ∃ S', m_law [.scr ns] none = .ok (.bl true) S'
set_option maxHeartbeats 0 in
theorem holds (val : Val) : PySem.Challenge.rw_hoardsread_k13_counts.Holds := by
  w_on; o_law
  refine HandSHeadRun.head_any (r := R) (q := PySem.W.view R.prog [42]) (H := hk) (ob := ob) (M := 4000) (loose := loose) (d := HandSHeadRun.topDef R.prog 42) (kwd := []) ob_eq
    (by kernel_rfl) (fun s => by kernel_rfl) run (by kernel_rfl) (by kernel_rfl) (by kernel_rfl) (by rfl) (by first | assumption | decide +kernel) (by decide +kernel) ⟨rfl, rfl, rfl, rfl, rfl, by decide +kernel⟩ ?hw ?hc
  case hw => w_witness2
  case hc =>
    refine Mini.mini_walkE (l := PySem.Challenge.rw_hoardsread_k13_counts) (n := 63) (k := 6) (x := "script") (F := m_law) rfl (by decide) (by kernel_rfl) ⟨rfl, by decide, by decide⟩ ?F val
    intro w mg fa h Y G hmg0
    obtain ⟨K, KX, c⟩ := Y
    have hmg : mg ("law" : PySem.Str) = some (.ref fa) := by
      have e : (HandSHeadRun.topDef R.prog 42).name = ("law" : PySem.Str) := by kernel_rfl
      rw [← e]
      exact hmg0
    have T := tx KX G c
    have e2 : fa = ad K 34 := by
      have z := T.g_law
      rw [hmg] at z
      exact Value.ref.inj (Option.some.inj z)
    subst e2
    have bA := FunD.bindsA (ps := ["script"]) T.F_law fun _ _ _ _ _ _ us hl => match us, hl with | [_], _ => rfl
    exact ⟨K, cn K (fun _ => 0) (fun _ => ""), fd K 34, KX, fun s v => bA s [v] rfl, fun base _ _ => ok_law T⟩
end Hk13
#print axioms Hk13.holds
namespace Hk13
/-! ## the numbers: ways that coins show so many dies -/
def sumTo : Nat → (Nat → Int) → Int
  | 0, _ => 0
  | n + 1, f => sumTo n f + f n
theorem sumTo_congr {f g : Nat → Int} : ∀ {n : Nat}, (∀ i, i < n → f i = g i) → sumTo n f = sumTo n g
  | 0, _ => rfl
  | n + 1, h => by rw [sumTo, sumTo, sumTo_congr fun i hi => h i (by omega), h n (by omega)]
theorem sumTo_add (f g : Nat → Int) : ∀ n : Nat, sumTo n (fun i => f i + g i) = sumTo n f + sumTo n g
  | 0 => rfl
  | n + 1 => by rw [sumTo, sumTo, sumTo, sumTo_add f g n]; omega
theorem sumTo_sub (f g : Nat → Int) : ∀ n : Nat, sumTo n (fun i => f i - g i) = sumTo n f - sumTo n g
  | 0 => rfl
  | n + 1 => by rw [sumTo, sumTo, sumTo, sumTo_sub f g n]; omega
theorem sumTo_mul (k : Int) (f : Nat → Int) : ∀ n : Nat, sumTo n (fun i => k * f i) = k * sumTo n f
  | 0 => by simp [sumTo]
  | n + 1 => by rw [sumTo, sumTo, sumTo_mul k f n, Int.mul_add]
theorem sumTo_first (f : Nat → Int) : ∀ n : Nat, sumTo (n + 1) f = f 0 + sumTo n fun i => f (i + 1)
  | 0 => by simp [sumTo]
  | n + 1 => by rw [sumTo, sumTo_first f n, sumTo]; omega
theorem sumTo_nonneg {f : Nat → Int} : ∀ {n : Nat}, (∀ i, i < n → 0 ≤ f i) → 0 ≤ sumTo n f
  | 0, _ => Int.le_refl _
  | n + 1, h => by
    have a := sumTo_nonneg (f := f) (n := n) fun i hi => h i (by omega)
    have b := h n (by omega)
    rw [sumTo]
    omega
theorem le_sumTo {f : Nat → Int} : ∀ {n i : Nat}, (∀ i, i < n → 0 ≤ f i) → i < n → f i ≤ sumTo n f
  | 0, i, _, hi => by omega
  | n + 1, i, h, hi => by
    rw [sumTo]
    have b := h n (by omega)
    by_cases e : i = n
    · subst e
      have a := sumTo_nonneg (n := i) fun j hj => h j (by omega)
      omega
    · have a := le_sumTo (f := f) (n := n) (i := i) (fun j hj => h j (by omega)) (by omega)
      omega
/-- Pascal -/
def ch : Nat → Nat → Int
  | _, 0 => 1
  | 0, _ + 1 => 0
  | n + 1, k + 1 => ch n k + ch n (k + 1)
theorem ch_zero (n : Nat) : ch n 0 = 1 := by cases n <;> rfl
theorem ch_over : ∀ n k : Nat, n < k → ch n k = 0
  | 0, k + 1, _ => rfl
  | n + 1, k + 1, h => by rw [ch, ch_over n k (by omega), ch_over n (k + 1) (by omega)]; rfl
theorem ch_self : ∀ n : Nat, ch n n = 1
  | 0 => rfl
  | n + 1 => by rw [ch, ch_self n, ch_over n (n + 1) (by omega)]; rfl
theorem ch_nonneg : ∀ n k : Nat, 0 ≤ ch n k
  | n, 0 => by rw [ch_zero]; decide
  | 0, k + 1 => Int.le_refl _
  | n + 1, k + 1 => Int.add_nonneg (ch_nonneg n k) (ch_nonneg n (k + 1))
theorem ch_absorb : ∀ n k : Nat, ((k : Int) + 1) * ch n (k + 1) = ((n : Int) - k) * ch n k
  | 0, 0 => by simp [ch]
  | 0, k + 1 => by simp [ch]
  | n + 1, 0 => by
    have a := ch_absorb n 0
    rw [ch_zero] at a
    have e : ch (n + 1) (0 + 1) = 1 + ch n 1 := by rw [ch, ch_zero]
    rw [e, ch_zero]
    push_cast at a ⊢
    omega
  | n + 1, k + 1 => by
    have a := ch_absorb n k
    have b := ch_absorb n (k + 1)
    have e1 : ch (n + 1) (k + 1 + 1) = ch n (k + 1) + ch n (k + 1 + 1) := rfl
    have e2 : ch (n + 1) (k + 1) = ch n k + ch n (k + 1) := rfl
    rw [e1, e2]
    push_cast at a b ⊢
    grind
/-- differences -/
def dif : Nat → (Nat → Int) → Nat → Int
  | 0, g, x => g x
  | s + 1, g, x => dif s g (x + 1) - dif s g x
def sgn : Nat → Int
  | 0 => 1
  | n + 1 => 0 - sgn n
theorem dif_sum (g : Nat → Int) : ∀ s x : Nat, sumTo (s + 1) (fun m => sgn m * ch s m * g (x + (s - m))) = dif s g x
  | 0, x => by simp [sumTo, sgn, ch, dif]
  | s + 1, x => by
    rw [dif, ← dif_sum g s (x + 1), ← dif_sum g s x, sumTo_first]
    have e1 : sumTo (s + 1) (fun i => sgn (i + 1) * ch (s + 1) (i + 1) * g (x + (s + 1 - (i + 1)))) = sumTo (s + 1) (fun i => (sgn (i + 1) * ch s (i + 1) * g (x + 1 + (s - (i + 1))))) - sumTo (s + 1) fun m => sgn m * ch s m * g (x + (s - m)) := by
      rw [← sumTo_sub]
      refine sumTo_congr fun i hi => ?_
      have e2 : ch (s + 1) (i + 1) = ch s i + ch s (i + 1) := rfl
      have e3 : s + 1 - (i + 1) = s - i := by omega
      have e4 : sgn (i + 1) = 0 - sgn i := rfl
      rw [e2, e3, e4]
      by_cases h : i = s
      · subst h
        rw [ch_over i (i + 1) (by omega)]
        grind
      · have e5 : x + (s - i) = x + 1 + (s - (i + 1)) := by omega
        rw [e5]
        grind
    rw [e1]
    have e6 : sumTo (s + 1) (fun m => sgn m * ch s m * g (x + 1 + (s - m))) = sgn 0 * ch s 0 * g (x + 1 + (s - 0)) + sumTo s (fun i => sgn (i + 1) * ch s (i + 1) * g (x + 1 + (s - (i + 1)))) := sumTo_first _ s
    rw [e6]
    have e7 : sumTo (s + 1) (fun i => (sgn (i + 1) * ch s (i + 1) * g (x + 1 + (s - (i + 1))))) = sumTo s (fun i => sgn (i + 1) * ch s (i + 1) * g (x + 1 + (s - (i + 1)))) := by
      rw [sumTo, ch_over s (s + 1) (by omega)]
      simp
    rw [e7, ch_zero, ch_zero]
    have e8 : x + (s + 1 - 0) = x + 1 + (s - 0) := by omega
    rw [e8]
    omega
theorem dif_one : ∀ s x : Nat, dif s (fun _ => 1) x = if s = 0 then 1 else 0
  | 0, x => rfl
  | s + 1, x => by rw [dif, dif_one s, dif_one s]; simp
theorem dif_leib (g : Nat → Int) : ∀ s x : Nat, dif (s + 1) (fun y => (y : Int) * g y) x = (x : Int) * dif (s + 1) g x + ((s : Int) + 1) * dif s g (x + 1)
  | 0, x => by simp only [dif]; push_cast; grind
  | s + 1, x => by
    rw [dif, dif_leib g s (x + 1), dif_leib g s x]
    have e1 : dif (s + 1 + 1) g x = dif (s + 1) g (x + 1) - dif (s + 1) g x := rfl
    have e2 : dif (s + 1) g (x + 1) = dif s g (x + 1 + 1) - dif s g (x + 1) := rfl
    rw [e1]
    push_cast
    grind
/-- ways that c coins show each of s given dies -/
def sur (c s : Nat) : Int := dif s (fun y => ((y : Int)) ^ c) 0
theorem sur_zero (s : Nat) : sur 0 s = if s = 0 then 1 else 0 := by
  unfold sur
  simp only [Int.pow_zero]
  exact dif_one s 0
theorem sur_first (c : Nat) : sur (c + 1) 0 = 0 := by
  unfold sur
  simp [dif, Int.pow_succ]
theorem sur_succ (c s : Nat) : sur (c + 1) (s + 1) = ((s : Int) + 1) * (sur c (s + 1) + sur c s) := by
  unfold sur
  have e : (fun y : Nat => ((y : Int)) ^ (c + 1)) = fun y : Nat => (y : Int) * ((y : Int)) ^ c := by
    funext y
    rw [Int.pow_succ, Int.mul_comm]
  rw [e, dif_leib]
  have e1 : dif (s + 1) (fun y : Nat => ((y : Int)) ^ c) 0 = dif s (fun y : Nat => ((y : Int)) ^ c) (0 + 1) - dif s (fun y : Nat => ((y : Int)) ^ c) 0 := rfl
  rw [e1]
  simp only [Nat.zero_add]
  push_cast
  grind
def occ (d : Nat) : Nat → Nat → Int
  | 0, s => if s = 0 then 1 else 0
  | c + 1, s => occ d c s * s + (if s = 0 then 0 else occ d c (s - 1) * ((d : Int) - s + 1))
theorem occ_ch (d : Nat) : ∀ c s : Nat, occ d c s = ch d s * sur c s
  | 0, s => by
    rw [occ, sur_zero]
    by_cases h : s = 0
    · subst h; simp [ch_zero]
    · simp [h]
  | c + 1, 0 => by
    rw [occ, sur_first]
    simp
  | c + 1, s + 1 => by
    rw [occ, occ_ch d c (s + 1), sur_succ]
    simp only [Nat.add_sub_cancel, Nat.succ_ne_zero, if_false, Nat.add_eq_zero_iff, Nat.one_ne_zero, and_false]
    rw [occ_ch d c s]
    have a := ch_absorb d s
    push_cast at a ⊢
    grind
theorem occ_sum (d : Nat) (h : Nat → Int) (c : Nat) : sumTo (d + 1) (fun s => h s * occ d (c + 1) s) = sumTo (d + 1) fun s => occ d c s * (h s * s + h (s + 1) * ((d : Int) - s)) := by
  have e1 : sumTo (d + 1) (fun s => h s * occ d (c + 1) s) = sumTo (d + 1) (fun s => occ d c s * (h s * s)) + sumTo (d + 1) (fun s => h s * (if s = 0 then 0 else occ d c (s - 1) * ((d : Int) - s + 1))) := by
    rw [← sumTo_add]
    refine sumTo_congr fun i hi => ?_
    rw [occ]
    grind
  have e2 : sumTo (d + 1) (fun s => h s * (if s = 0 then 0 else occ d c (s - 1) * ((d : Int) - s + 1))) = sumTo (d + 1) (fun s => occ d c s * (h (s + 1) * ((d : Int) - s))) := by
    rw [sumTo_first, sumTo]
    simp only [if_true, Int.mul_zero, Int.zero_add, Nat.add_eq_zero_iff, Nat.one_ne_zero, and_false, if_false, Nat.add_sub_cancel, Int.sub_self, Int.add_zero]
    refine sumTo_congr fun i hi => ?_
    push_cast
    grind
  rw [e1, e2, ← sumTo_add]
  refine sumTo_congr fun i hi => ?_
  grind
theorem occ_whole (d : Nat) : ∀ c : Nat, sumTo (d + 1) (fun s => occ d c s) = (d : Int) ^ c
  | 0 => by
    rw [sumTo_first]
    have e : sumTo d (fun i => occ d 0 (i + 1)) = sumTo d fun _ => 0 := sumTo_congr fun i hi => by simp [occ]
    have z : ∀ n, sumTo n (fun _ => 0) = 0 := fun n => by
      induction n with
      | zero => rfl
      | succ n ih => rw [sumTo, ih]; rfl
    rw [e, z]
    simp [occ]
  | c + 1 => by
    have a := occ_sum d (fun _ => 1) c
    simp only [Int.one_mul] at a
    rw [a]
    have e : sumTo (d + 1) (fun s => occ d c s * ((s : Int) + ((d : Int) - s))) = sumTo (d + 1) fun s => (d : Int) * occ d c s := sumTo_congr fun i hi => by grind
    rw [e, sumTo_mul, occ_whole d c, Int.pow_succ, Int.mul_comm]
theorem occ_mean (d : Nat) : ∀ c : Nat, sumTo (d + 1) (fun s => (s : Int) * occ d c s) = (d : Int) * ((d : Int) ^ c - ((d : Int) - 1) ^ c)
  | 0 => by
    rw [sumTo_first]
    have e : sumTo d (fun i => ((i + 1 : Nat) : Int) * occ d 0 (i + 1)) = sumTo d fun _ => 0 := sumTo_congr fun i hi => by simp [occ]
    have z : ∀ n, sumTo n (fun _ => 0) = 0 := fun n => by
      induction n with
      | zero => rfl
      | succ n ih => rw [sumTo, ih]; rfl
    rw [e, z]
    simp
  | c + 1 => by
    rw [occ_sum d (fun s => (s : Int)) c]
    have e : sumTo (d + 1) (fun s => occ d c s * ((s : Int) * s + ((s + 1 : Nat) : Int) * ((d : Int) - s))) = sumTo (d + 1) fun s => ((d : Int) - 1) * ((s : Int) * occ d c s) + (d : Int) * occ d c s := sumTo_congr fun i hi => by push_cast; grind
    rw [e, sumTo_add, sumTo_mul, sumTo_mul, occ_mean d c, occ_whole d c, Int.pow_succ, Int.pow_succ]
    grind
theorem occ_nonneg (d : Nat) : ∀ c s : Nat, s ≤ d → 0 ≤ occ d c s
  | 0, s, _ => by rw [occ]; split <;> decide
  | c + 1, s, h => by
    rw [occ]
    refine Int.add_nonneg (Int.mul_nonneg (occ_nonneg d c s h) (by omega)) ?_
    split
    · exact Int.le_refl _
    · exact Int.mul_nonneg (occ_nonneg d c (s - 1) (by omega)) (by omega)
theorem occ_le (d c s : Nat) (h : s ≤ d) : occ d c s ≤ (d : Int) ^ c := by
  rw [← occ_whole d c]
  exact le_sumTo (f := fun s => occ d c s) (fun i hi => occ_nonneg d c i (by omega)) (by omega)
end Hk13
namespace Hk13
open PySem Mini
open L2 (atI ixN atI_nat kitB)
theorem e_is_integer (a0 : D) (S : DS) : m_is_integer [a0] S = bd (b_is_integer [.vl a0]) leave S := rfl
theorem e_check_dies (a0 a1 : D) (S : DS) : m_check_dies [a0, a1] S = bd (b_check_dies [.vl a0, .vl a1]) leave S := rfl
theorem e_check_coins (a0 : D) (S : DS) : m_check_coins [a0] S = bd (b_check_coins [.vl a0]) leave S := rfl
theorem e_check_seen (a0 : D) (S : DS) : m_check_seen [a0] S = bd (b_check_seen [.vl a0]) leave S := rfl
theorem e_quotient (a0 a1 : D) (S : DS) : m_quotient [a0, a1] S = bd (b_quotient [.vl a0, .vl a1, .no, .no]) leave S := rfl
theorem e_ways_table (a0 a1 : D) (S : DS) : m_ways_table [a0, a1] S = bd (b_ways_table [.vl a0, .vl a1, .no, .no, .no, .no]) leave S := rfl
theorem e_chances_seen (a0 a1 : D) (S : DS) : m_chances_seen [a0, a1] S = bd (b_chances_seen [.vl a0, .vl a1, .no, .no, .no]) leave S := rfl
theorem e_mean_seen (a0 a1 : D) (S : DS) : m_mean_seen [a0, a1] S = bd (b_mean_seen [.vl a0, .vl a1, .no, .no, .no, .no]) leave S := rfl
theorem e_likeliest_dies (a0 a1 a2 : D) (S : DS) : m_likeliest_dies [a0, a1, a2] S = bd (b_likeliest_dies [.vl a0, .vl a1, .vl a2, .no, .no, .no, .no]) leave S := rfl
theorem e_check_part (a0 : D) (S : DS) : m_check_part [a0] S = bd (b_check_part [.vl a0, .no]) leave S := rfl
theorem e_dies_bounds (a0 a1 a2 a3 : D) (S : DS) : m_dies_bounds [a0, a1, a2, a3] S = bd (b_dies_bounds [.vl a0, .vl a1, .vl a2, .vl a3, .no, .no, .no, .no, .no, .no]) leave S := rfl
theorem e_check_counts (a0 : D) (S : DS) : m_check_counts [a0] S = bd (b_check_counts [.vl a0, .no]) leave S := rfl
theorem e_coverage (a0 : D) (S : DS) : m_coverage [a0] S = bd (b_coverage [.vl a0, .no, .no]) leave S := rfl
theorem e_often_seen (a0 : D) (S : DS) : m_often_seen [a0] S = bd (b_often_seen [.vl a0, .no, .no]) leave S := rfl
theorem e_least_for (a0 a1 : D) (S : DS) : m_least_for [a0, a1] S = bd (b_least_for [.vl a0, .vl a1, .no, .no, .no, .no, .no]) leave S := rfl
theorem e_chance_alike (a0 : D) (S : DS) : m_chance_alike [a0] S = bd (b_chance_alike [.vl a0, .no, .no]) leave S := rfl
theorem e_check_more (a0 a1 a2 : D) (S : DS) : m_check_more [a0, a1, a2] S = bd (b_check_more [.vl a0, .vl a1, .vl a2]) leave S := rfl
theorem e_chance_new (a0 a1 a2 : D) (S : DS) : m_chance_new [a0, a1, a2] S = bd (b_chance_new [.vl a0, .vl a1, .vl a2, .no, .no, .no]) leave S := rfl
theorem e_judge_counts (a0 a1 : D) (S : DS) : m_judge_counts [a0, a1] S = bd (b_judge_counts [.vl a0, .vl a1, .no]) leave S := rfl
theorem e__law_start (a0 : D) (S : DS) : m__law_start [a0] S = b__law_start [.vl a0, .no, .no] S := rfl
theorem e__law_draw (a0 a1 : D) (S : DS) : m__law_draw [a0, a1] S = bd (b__law_draw [.vl a0, .vl a1, .no]) leave S := rfl
theorem e__law_pick (a0 a1 : D) (S : DS) : m__law_pick [a0, a1] S = bd (b__law_pick [.vl a0, .vl a1]) leave S := rfl
theorem e__law_same (a0 a1 : D) (S : DS) : m__law_same [a0, a1] S = bd (b__law_same [.vl a0, .vl a1]) leave S := rfl
theorem e__law_power (a0 a1 : D) (S : DS) : m__law_power [a0, a1] S = bd (b__law_power [.vl a0, .vl a1, .no, .no]) leave S := rfl
theorem e__law_lowest (a0 a1 : D) (S : DS) : m__law_lowest [a0, a1] S = bd (b__law_lowest [.vl a0, .vl a1, .no, .no]) leave S := rfl
theorem e__law_choices (a0 : D) (S : DS) : m__law_choices [a0] S = bd (b__law_choices [.vl a0, .no, .no, .no, .no]) leave S := rfl
theorem e__law_ways (a0 a1 : D) (S : DS) : m__law_ways [a0, a1] S = bd (b__law_ways [.vl a0, .vl a1, .no, .no, .no, .no, .no, .no, .no, .no]) leave S := rfl
theorem e__law_table (a0 a1 : D) (S : DS) : m__law_table [a0, a1] S = bd (b__law_table [.vl a0, .vl a1, .no, .no, .no, .no, .no, .no, .no, .no, .no, .no]) leave S := rfl
theorem e__law_shown (a0 a1 : D) (S : DS) : m__law_shown [a0, a1] S = bd (b__law_shown [.vl a0, .vl a1]) leave S := rfl
theorem e__law_chances_hold (a0 a1 : D) (S : DS) : m__law_chances_hold [a0, a1] S = bd (b__law_chances_hold [.vl a0, .vl a1, .no, .no, .no, .no]) leave S := rfl
theorem e__law_likely_holds (a0 a1 a2 a3 : D) (S : DS) : m__law_likely_holds [a0, a1, a2, a3] S = bd (b__law_likely_holds [.vl a0, .vl a1, .vl a2, .vl a3, .no, .no, .no, .no, .no, .no, .no, .no, .no]) leave S := rfl
theorem e__law_least_holds (a0 a1 : D) (S : DS) : m__law_least_holds [a0, a1] S = bd (b__law_least_holds [.vl a0, .vl a1, .no, .no]) leave S := rfl
theorem e__law_new_holds (a0 a1 a2 : D) (S : DS) : m__law_new_holds [a0, a1, a2] S = bd (b__law_new_holds [.vl a0, .vl a1, .vl a2, .no]) leave S := rfl
theorem e__law_counts_hold (a0 : D) (S : DS) : m__law_counts_hold [a0] S = bd (b__law_counts_hold [.vl a0, .no, .no, .no, .no, .no, .no, .no, .no, .no, .no, .no]) leave S := rfl
theorem e_law (a0 : D) (S : DS) : m_law [a0] S = bd (b_law [.vl a0, .no, .no, .no, .no, .no, .no, .no]) leave S := rfl

/-! ## steps -/
theorem while_go {t : FB} {b : FS} {w : Nat} {ρ ρ' : En} {S S1 S2 : DS} (h1 : t ρ S = .ok true S1) (h2 : b ρ S1 = .ok (.nx ρ') S2) : whileS t b (w + 1) ρ S = whileS t b w ρ' S2 := by
  simp only [whileS, bd, h1, h2, if_true]
theorem while_end {t : FB} {b : FS} {w : Nat} {ρ : En} {S S1 : DS} (h1 : t ρ S = .ok false S1) : whileS t b (w + 1) ρ S = .ok (.nx ρ) S1 := by
  simp only [whileS, bd, h1, Bool.false_eq_true, if_false, rt]
theorem for_of {it : FI} {t : TGd} {b : FS} {ρ : En} {S S1 : DS} {ds : List D} (h : it ρ S = .ok ds S1) : forS it t b ρ S = forL t b ds ρ S1 := by
  simp only [forS, bd, h]
theorem seq_nx {a b : FS} {ρ ρ' : En} {S S' : DS} (h : a ρ S = .ok (.nx ρ') S') : seqS a b ρ S = b ρ' S' := by
  simp only [seqS, bd, h]
theorem lc_of {it : FI} {t : TGd} {test : FB} {elt : FE} {vs : List Nat} {ρ : En} {S S1 S2 : DS} {ds r : List D} (h1 : it ρ S = .ok ds S1) (h2 : lcL t test elt ds [] (wipeR ρ vs) S1 = .ok r S2) : lcE it t test elt vs ρ S = .ok (.lst r) S2 := by
  unfold lcE bd
  rw [h1]
  show bd (lcL t test elt ds [] (wipeR ρ vs)) (fun r => rt (D.lst r)) S1 = _
  unfold bd
  rw [h2]
  rfl
theorem asg_of {i : Nat} {f : FE} {ρ : En} {S S' : DS} {d : D} (h : f ρ S = .ok d S') : asgS i f ρ S = .ok (.nx (setV i d ρ)) S' := by
  unfold asgS bd
  rw [h]
  rfl
theorem asgO_of {i : Nat} {f : FE} {ρ : En} {S S' : DS} {d : D} (h : f ρ S = .ok d S') : asgOS i f ρ S = .ok (.nx (setO i d ρ)) S' := by
  unfold asgOS bd
  rw [h]
  rfl
theorem ret_of {f : FE} {ρ : En} {S S' : DS} {d : D} (h : f ρ S = .ok d S') : retS f ρ S = .ok (.rt d) S' := by
  unfold retS bd
  rw [h]
  rfl
theorem app_of {i : Nat} {f : FE} {ρ : En} {S S' : DS} {d : D} {ds : List D} (h0 : ownL ρ i = some ds) (h : f ρ S = .ok d S') (hl : ds.length < 16777216) : appS i f ρ S = .ok (.nx (setO i (.lst (ds ++ [d])) ρ)) S' := by
  unfold appS bd
  rw [h0]
  simp only [lift, rt, h]
  rw [if_pos hl]
  rfl
theorem ext_of {i : Nat} {f : FE} {ρ : En} {S S' : DS} {es ds : List D} (h0 : ownL ρ i = some ds) (h : f ρ S = .ok (.lst es) S') (hl : ds.length + es.length ≤ 16777216) : extS i f ρ S = .ok (.nx (setO i (.lst (ds ++ es)) ρ)) S' := by
  unfold extS bd
  rw [h0]
  simp only [lift, rt, h]
  exact congrFun (if_pos hl) S'
theorem expr_of {f : FE} {ρ : En} {S S' : DS} {d : D} (h : f ρ S = .ok d S') : exprS f ρ S = .ok (.nx ρ) S' := by
  unfold exprS bd
  rw [h]
  rfl
theorem op1_of {g : D → Option D} {f : FE} {ρ : En} {S S' : DS} {d e : D} (h : f ρ S = .ok d S') (hg : g d = some e) : op1 g f ρ S = .ok e S' := by
  unfold op1 bd
  rw [h]
  show lift (g d) S' = _
  rw [hg]
  rfl
theorem op2_of {g : D → D → Option D} {f1 f2 : FE} {ρ : En} {S S1 S2 : DS} {d1 d2 e : D} (h1 : f1 ρ S = .ok d1 S1) (h2 : f2 ρ S1 = .ok d2 S2) (hg : g d1 d2 = some e) : op2 g f1 f2 ρ S = .ok e S2 := by
  unfold op2 bd
  rw [h1]
  show bd (f2 ρ) (fun y => lift (g d1 y)) S1 = _
  unfold bd
  rw [h2]
  show lift (g d1 d2) S2 = _
  rw [hg]
  rfl
theorem call1_of {F : List D → M D} {f : FE} {ρ : En} {S S1 S2 : DS} {d e : D} (h : f ρ S = .ok d S1) (hF : F [d] S1 = .ok e S2) : callE F (consA f nilA) ρ S = .ok e S2 := by
  simp only [callE, consA, nilA, bd, rt, h, hF]
theorem call2_of {F : List D → M D} {f g : FE} {ρ : En} {S S1 S2 S3 : DS} {d d2 e : D} (h : f ρ S = .ok d S1) (h2 : g ρ S1 = .ok d2 S2) (hF : F [d, d2] S2 = .ok e S3) : callE F (consA f (consA g nilA)) ρ S = .ok e S3 := by
  simp only [callE, consA, nilA, bd, rt, h, h2, hF]
theorem call3_of {F : List D → M D} {f g k : FE} {ρ : En} {S S1 S2 S3 S4 : DS} {d d2 d3 e : D} (h : f ρ S = .ok d S1) (h2 : g ρ S1 = .ok d2 S2) (h3 : k ρ S2 = .ok d3 S3) (hF : F [d, d2, d3] S3 = .ok e S4) : callE F (consA f (consA g (consA k nilA))) ρ S = .ok e S4 := by
  simp only [callE, consA, nilA, bd, rt, h, h2, h3, hF]
theorem call4_of {F : List D → M D} {f g k l : FE} {ρ : En} {S S1 S2 S3 S4 S5 : DS} {d d2 d3 d4 e : D} (h : f ρ S = .ok d S1) (h2 : g ρ S1 = .ok d2 S2) (h3 : k ρ S2 = .ok d3 S3) (h4 : l ρ S3 = .ok d4 S4) (hF : F [d, d2, d3, d4] S4 = .ok e S5) : callE F (consA f (consA g (consA k (consA l nilA)))) ρ S = .ok e S5 := by
  simp only [callE, consA, nilA, bd, rt, h, h2, h3, h4, hF]
theorem callD1_of {F : List D → M D} {f : FE} {ρ : En} {S S1 S2 : DS} {d x e : D} (h : f ρ S = .ok d S1) (hF : F [d, x] S1 = .ok e S2) : callE F (appA (consA f nilA) [x]) ρ S = .ok e S2 := by
  simp only [callE, appA, consA, nilA, bd, rt, h, List.cons_append, List.nil_append, hF]
theorem cons_of {f : FE} {r : FA} {ρ : En} {S S1 S2 : DS} {d : D} {ds : List D} (h1 : f ρ S = .ok d S1) (h2 : r ρ S1 = .ok ds S2) : consA f r ρ S = .ok (d :: ds) S2 := by
  simp only [consA, bd, rt, h1, h2]
theorem nil_of {ρ : En} {S : DS} : nilA ρ S = .ok [] S := rfl
theorem lstE_of {a : FA} {ρ : En} {S S1 : DS} {ds : List D} (h : a ρ S = .ok ds S1) (hl : ds.length ≤ 16777216) : lstE a ρ S = .ok (.lst ds) S1 := by
  unfold lstE bd
  rw [h]
  simp only []
  rw [if_pos hl]
  rfl
theorem tupE_of {a : FA} {ρ : En} {S S1 : DS} {ds : List D} (h : a ρ S = .ok ds S1) (hl : ds.length ≤ 16777216) : tupE a ρ S = .ok (.tup ds) S1 := by
  unfold tupE bd
  rw [h]
  simp only []
  rw [if_pos hl]
  rfl
theorem lst0 {ρ : En} {S : DS} : lstE nilA ρ S = .ok (.lst []) S := lstE_of nil_of (Nat.zero_le _)
theorem lst1 {f : FE} {ρ : En} {S S1 : DS} {d : D} (h : f ρ S = .ok d S1) : lstE (consA f nilA) ρ S = .ok (.lst [d]) S1 := lstE_of (cons_of h nil_of) (by show 1 ≤ 16777216; decide)
theorem lst2 {f g : FE} {ρ : En} {S S1 S2 : DS} {d e : D} (h : f ρ S = .ok d S1) (h2 : g ρ S1 = .ok e S2) : lstE (consA f (consA g nilA)) ρ S = .ok (.lst [d, e]) S2 := lstE_of (cons_of h (cons_of h2 nil_of)) (by show 2 ≤ 16777216; decide)
theorem lst3 {f g k : FE} {ρ : En} {S S1 S2 S3 : DS} {d e i : D} (h : f ρ S = .ok d S1) (h2 : g ρ S1 = .ok e S2) (h3 : k ρ S2 = .ok i S3) : lstE (consA f (consA g (consA k nilA))) ρ S = .ok (.lst [d, e, i]) S3 := lstE_of (cons_of h (cons_of h2 (cons_of h3 nil_of))) (by show 3 ≤ 16777216; decide)
theorem lst4 {f g k l : FE} {ρ : En} {S S1 S2 S3 S4 : DS} {d e i j : D} (h : f ρ S = .ok d S1) (h2 : g ρ S1 = .ok e S2) (h3 : k ρ S2 = .ok i S3) (h4 : l ρ S3 = .ok j S4) : lstE (consA f (consA g (consA k (consA l nilA)))) ρ S = .ok (.lst [d, e, i, j]) S4 := lstE_of (cons_of h (cons_of h2 (cons_of h3 (cons_of h4 nil_of)))) (by show 4 ≤ 16777216; decide)
theorem lst5 {f g k l m : FE} {ρ : En} {S S1 S2 S3 S4 S5 : DS} {d e i j o : D} (h : f ρ S = .ok d S1) (h2 : g ρ S1 = .ok e S2) (h3 : k ρ S2 = .ok i S3) (h4 : l ρ S3 = .ok j S4) (h5 : m ρ S4 = .ok o S5) : lstE (consA f (consA g (consA k (consA l (consA m nilA))))) ρ S = .ok (.lst [d, e, i, j, o]) S5 := lstE_of (cons_of h (cons_of h2 (cons_of h3 (cons_of h4 (cons_of h5 nil_of))))) (by show 5 ≤ 16777216; decide)
theorem lst6 {f g k l m n : FE} {ρ : En} {S S1 S2 S3 S4 S5 S6 : DS} {d e i j o q : D} (h : f ρ S = .ok d S1) (h2 : g ρ S1 = .ok e S2) (h3 : k ρ S2 = .ok i S3) (h4 : l ρ S3 = .ok j S4) (h5 : m ρ S4 = .ok o S5) (h6 : n ρ S5 = .ok q S6) : lstE (consA f (consA g (consA k (consA l (consA m (consA n nilA)))))) ρ S = .ok (.lst [d, e, i, j, o, q]) S6 := lstE_of (cons_of h (cons_of h2 (cons_of h3 (cons_of h4 (cons_of h5 (cons_of h6 nil_of)))))) (by show 6 ≤ 16777216; decide)
theorem tup1 {f : FE} {ρ : En} {S S1 : DS} {d : D} (h : f ρ S = .ok d S1) : tupE (consA f nilA) ρ S = .ok (.tup [d]) S1 := tupE_of (cons_of h nil_of) (by show 1 ≤ 16777216; decide)
theorem tup2 {f g : FE} {ρ : En} {S S1 S2 : DS} {d e : D} (h : f ρ S = .ok d S1) (h2 : g ρ S1 = .ok e S2) : tupE (consA f (consA g nilA)) ρ S = .ok (.tup [d, e]) S2 := tupE_of (cons_of h (cons_of h2 nil_of)) (by show 2 ≤ 16777216; decide)
theorem tup3 {f g k : FE} {ρ : En} {S S1 S2 S3 : DS} {d e i : D} (h : f ρ S = .ok d S1) (h2 : g ρ S1 = .ok e S2) (h3 : k ρ S2 = .ok i S3) : tupE (consA f (consA g (consA k nilA))) ρ S = .ok (.tup [d, e, i]) S3 := tupE_of (cons_of h (cons_of h2 (cons_of h3 nil_of))) (by show 3 ≤ 16777216; decide)
theorem asgT_of {t : TGd} {f : FE} {ρ ρ' : En} {S S' : DS} {d : D} (h : f ρ S = .ok d S') (ht : t d ρ = some ρ') : asgT t f ρ S = .ok (.nx ρ') S' := by
  unfold asgT bd
  rw [h]
  show bd (lift (t d ρ)) (fun ρ' => rt (Fl.nx ρ')) S' = _
  rw [ht]
  rfl
theorem if_t {t : FB} {a b : FS} {ρ : En} {S S1 : DS} (h : t ρ S = .ok true S1) : ifS t a b ρ S = a ρ S1 := by
  unfold ifS bd
  rw [h]
  rfl
theorem if_f {t : FB} {a b : FS} {ρ : En} {S S1 : DS} (h : t ρ S = .ok false S1) : ifS t a b ρ S = b ρ S1 := by
  unfold ifS bd
  rw [h]
  rfl
theorem body_rt {b : FS} {ρ : En} {S S' : DS} {d : D} (h : b ρ S = .ok (.rt d) S') : bd (b ρ) leave S = .ok d S' := by
  unfold bd
  rw [h]
  rfl
theorem body_nx {b : FS} {ρ ρ' : En} {S S' : DS} (h : b ρ S = .ok (.nx ρ') S') : bd (b ρ) leave S = .ok .non S' := by
  unfold bd
  rw [h]
  rfl
theorem mulL {xs : List D} {n : Nat} (h : xs.length * n ≤ 16777216) (hn : n < 16777216) : dMulX (.lst xs) (.int (n : Int)) = some (.lst (List.replicate n xs).flatten) := by
  show (if (n : Int) < 16777216 ∧ -16777216 < (n : Int) ∧ xs.length * (n : Int).toNat ≤ 16777216 then some (D.lst (List.replicate (n : Int).toNat xs).flatten) else none) = _
  rw [Int.toNat_natCast, if_pos ⟨by omega, by omega, h⟩]
theorem catL {a b : List D} (h : a.length + b.length ≤ 16777216) : dAdd (.lst a) (.lst b) = some (.lst (a ++ b)) := if_pos h
/-! ## what each def gives -/
theorem kit_int_int : kitB "int" "int" = some true := by decide +kernel
theorem kit_int_bool : kitB "int" "bool" = some false := by decide +kernel
theorem kit_tup_tup : kitB "tuple" "tuple" = some true := by decide +kernel
theorem v_is_integer (i : Int) (S : DS) : m_is_integer [.int i] S = .ok (.bl true) S := by
  rw [e_is_integer]
  simp [b_is_integer, bd, lift, rt, var, varB, slot, slotB, truB, valB, isBl, truth, cst, op1, op2, parS, asgS, asgOS, asgT, seqS, retS, retNS, ifS, iteE, notB, notE, andB, orB, andE, orE, exprS, setV, setO, tgN, tgT, tgs, consA, nilA, leave, callE, frzS, augS, skipS, addI, subI, addI', appA, chn2, chn3, cmpB, dLe, dLt, dGe, dGt, isiD, kit_int_int, kit_int_bool]
theorem v_check_dies {i : Int} (r : Str) (h : 1 ≤ i) (h2 : i ≤ 40) (S : DS) : m_check_dies [.int i, .str r] S = .ok .non S := by
  rw [e_check_dies]
  simp [b_check_dies, bd, lift, rt, var, varB, slot, slotB, truB, valB, isBl, truth, cst, op1, op2, parS, asgS, asgOS, asgT, seqS, retS, retNS, ifS, iteE, notB, notE, andB, orB, andE, orE, exprS, setV, setO, tgN, tgT, tgs, consA, nilA, leave, callE, frzS, augS, skipS, addI, subI, addI', appA, chn2, chn3, cmpB, dLe, dLt, dGe, dGt, v_is_integer, h, h2]
theorem v_check_coins {i : Int} (h : 0 ≤ i) (h2 : i ≤ 60) (S : DS) : m_check_coins [.int i] S = .ok .non S := by
  rw [e_check_coins]
  simp [b_check_coins, bd, lift, rt, var, varB, slot, slotB, truB, valB, isBl, truth, cst, op1, op2, parS, asgS, asgOS, asgT, seqS, retS, retNS, ifS, iteE, notB, notE, andB, orB, andE, orE, exprS, setV, setO, tgN, tgT, tgs, consA, nilA, leave, callE, frzS, augS, skipS, addI, subI, addI', appA, chn2, chn3, cmpB, dLe, dLt, dGe, dGt, v_is_integer, h, h2]
theorem v_check_seen {i : Int} (h : 0 ≤ i) (h2 : i ≤ 40) (S : DS) : m_check_seen [.int i] S = .ok .non S := by
  rw [e_check_seen]
  simp [b_check_seen, bd, lift, rt, var, varB, slot, slotB, truB, valB, isBl, truth, cst, op1, op2, parS, asgS, asgOS, asgT, seqS, retS, retNS, ifS, iteE, notB, notE, andB, orB, andE, orE, exprS, setV, setO, tgN, tgT, tgs, consA, nilA, leave, callE, frzS, augS, skipS, addI, subI, addI', appA, chn2, chn3, cmpB, dLe, dLt, dGe, dGt, v_is_integer, h, h2]
theorem v_check_more {d s m : Int} (h : s ≤ d) (h1 : 0 ≤ m) (h2 : m ≤ 60) (S : DS) : m_check_more [.int d, .int s, .int m] S = .ok .non S := by
  rw [e_check_more]
  have h' : ¬ d < s := by omega
  simp [b_check_more, bd, lift, rt, var, varB, slot, slotB, truB, valB, isBl, truth, cst, op1, op2, parS, asgS, asgOS, asgT, seqS, retS, retNS, ifS, iteE, notB, notE, andB, orB, andE, orE, exprS, setV, setO, tgN, tgT, tgs, consA, nilA, leave, callE, frzS, augS, skipS, addI, subI, addI', appA, chn2, chn3, cmpB, dLe, dLt, dGe, dGt, v_is_integer, h', h1, h2]
/-! quotient, _law_lowest -/
theorem big_nat {n : Nat} (h : n < Big) : ((n : Nat) : Int).natAbs < Big := by simpa using h
theorem q_loop (S : DS) (u d : D) : ∀ (w a b : Nat), b < w → whileS (truB (var 3)) (parS 2 3 (var 3) (op2 dMod (var 2) (var 3))) w [.vl u, .vl d, .vl (.int (a : Int)), .vl (.int (b : Int))] S = .ok (.nx [.vl u, .vl d, .vl (.int (Nat.gcd a b : Nat)), .vl (.int 0)]) S
  | 0, a, b, h => by omega
  | w + 1, a, b, h => by
    by_cases hb : b = 0
    · subst hb
      rw [while_end (S1 := S) (by simp [bd, lift, rt, var, varB, slot, slotB, truB, valB, isBl, truth, cst, op1, op2, parS, asgS, asgOS, asgT, seqS, retS, retNS, ifS, iteE, notB, notE, andB, orB, andE, orE, exprS, setV, setO, tgN, tgT, tgs, consA, nilA, leave, callE, frzS, augS, skipS, addI, subI, addI', appA, chn2, chn3, cmpB, dLe, dLt, dGe, dGt]), Nat.gcd_zero_right]
      rfl
    · have e := q_loop S u d w b (a % b) (by have := Nat.mod_lt a (Nat.pos_of_ne_zero hb); omega)
      have h1 : (0 : Int) < b := by omega
      rw [while_go (S1 := S) (S2 := S) (ρ' := [.vl u, .vl d, .vl (.int (b : Int)), .vl (.int ((a % b : Nat) : Int))]) (by simp [bd, lift, rt, var, varB, slot, slotB, truB, valB, isBl, truth, cst, op1, op2, parS, asgS, asgOS, asgT, seqS, retS, retNS, ifS, iteE, notB, notE, andB, orB, andE, orE, exprS, setV, setO, tgN, tgT, tgs, consA, nilA, leave, callE, frzS, augS, skipS, addI, subI, addI', appA, chn2, chn3, cmpB, dLe, dLt, dGe, dGt, hb]) (by simp [bd, lift, rt, var, varB, slot, slotB, truB, valB, isBl, truth, cst, op1, op2, parS, asgS, asgOS, asgT, seqS, retS, retNS, ifS, iteE, notB, notE, andB, orB, andE, orE, exprS, setV, setO, tgN, tgT, tgs, consA, nilA, leave, callE, frzS, augS, skipS, addI, subI, addI', appA, chn2, chn3, cmpB, dLe, dLt, dGe, dGt, modI h1]), e]
      rw [Nat.gcd_comm a b, Nat.gcd_rec b a, Nat.gcd_comm]
theorem w_loop (S : DS) (u d : D) : ∀ (w a b : Nat), b < w → whileS (valB (op2 dGt (var 3) (cst (.int 0)))) (parS 2 3 (var 3) (op2 dMod (op1 dInt (var 2)) (var 3))) w [.vl u, .vl d, .vl (.int (a : Int)), .vl (.int (b : Int))] S = .ok (.nx [.vl u, .vl d, .vl (.int (Nat.gcd a b : Nat)), .vl (.int 0)]) S
  | 0, a, b, h => by omega
  | w + 1, a, b, h => by
    by_cases hb : b = 0
    · subst hb
      rw [while_end (S1 := S) (by simp [bd, lift, rt, var, varB, slot, slotB, truB, valB, isBl, truth, cst, op1, op2, parS, asgS, asgOS, asgT, seqS, retS, retNS, ifS, iteE, notB, notE, andB, orB, andE, orE, exprS, setV, setO, tgN, tgT, tgs, consA, nilA, leave, callE, frzS, augS, skipS, addI, subI, addI', appA, chn2, chn3, cmpB, dLe, dLt, dGe, dGt]), Nat.gcd_zero_right]
      rfl
    · have e := w_loop S u d w b (a % b) (by have := Nat.mod_lt a (Nat.pos_of_ne_zero hb); omega)
      have h1 : (0 : Int) < b := by omega
      have h2 : 0 < b := by omega
      rw [while_go (S1 := S) (S2 := S) (ρ' := [.vl u, .vl d, .vl (.int (b : Int)), .vl (.int ((a % b : Nat) : Int))]) (by simp [bd, lift, rt, var, varB, slot, slotB, truB, valB, isBl, truth, cst, op1, op2, parS, asgS, asgOS, asgT, seqS, retS, retNS, ifS, iteE, notB, notE, andB, orB, andE, orE, exprS, setV, setO, tgN, tgT, tgs, consA, nilA, leave, callE, frzS, augS, skipS, addI, subI, addI', appA, chn2, chn3, cmpB, dLe, dLt, dGe, dGt, h2]) (by simp [bd, lift, rt, var, varB, slot, slotB, truB, valB, isBl, truth, cst, op1, op2, parS, asgS, asgOS, asgT, seqS, retS, retNS, ifS, iteE, notB, notE, andB, orB, andE, orE, exprS, setV, setO, tgN, tgT, tgs, consA, nilA, leave, callE, frzS, augS, skipS, addI, subI, addI', appA, chn2, chn3, cmpB, dLe, dLt, dGe, dGt, dInt, modI h1]), e]
      rw [Nat.gcd_comm a b, Nat.gcd_rec b a, Nat.gcd_comm]
/-- in lowest terms -/
def low (u d : Nat) : D := .tup [.int ((u / Nat.gcd u d : Nat) : Int), .int ((d / Nat.gcd u d : Nat) : Int)]
theorem big_W0 {n : Nat} (h : n < Big) : n < W0 := h
theorem v_quotient {u d : Nat} (hd : 0 < d) (h : d < Big) (S : DS) : m_quotient [.int (u : Int), .int (d : Int)] S = .ok (low u d) S := by
  rw [e_quotient]
  have g0 : 0 < Nat.gcd u d := Nat.gcd_pos_of_pos_right u hd
  have g1 : Nat.gcd u d ≤ d := Nat.gcd_le_right u hd
  have q := q_loop S (.int u) (.int d) W0 u d (big_W0 h)
  have dv : ∀ i : Int, dDiv (.int i) (.int ((Nat.gcd u d : Nat) : Int)) = some (.int (i / (Nat.gcd u d : Nat))) := fun i => divI (by omega) (big_nat (Nat.lt_of_le_of_lt g1 h))
  exact body_rt ((seq_nx (ρ' := [.vl (.int u), .vl (.int d), .vl (.int u), .vl (.int d)]) (S' := S) rfl).trans ((seq_nx q).trans (ret_of (tup2 (op2_of rfl rfl ((dv _).trans (by rw [← Int.natCast_ediv]))) (op2_of rfl rfl ((dv _).trans (by rw [← Int.natCast_ediv])))))))
theorem v_lowest {u d : Nat} (hd : 0 < d) (h : d < Big) (S : DS) : m__law_lowest [.int (u : Int), .int (d : Int)] S = .ok (low u d) S := by
  rw [e__law_lowest]
  have g0 : 0 < Nat.gcd u d := Nat.gcd_pos_of_pos_right u hd
  have g1 : Nat.gcd u d ≤ d := Nat.gcd_le_right u hd
  have q := w_loop S (.int u) (.int d) W0 u d (big_W0 h)
  have dv : ∀ i : Int, dDiv (.int i) (.int ((Nat.gcd u d : Nat) : Int)) = some (.int (i / (Nat.gcd u d : Nat))) := fun i => divI (by omega) (big_nat (Nat.lt_of_le_of_lt g1 h))
  exact body_rt ((seq_nx (ρ' := [.vl (.int u), .vl (.int d), .vl (.int u), .vl (.int d)]) (S' := S) rfl).trans ((seq_nx q).trans (ret_of (tup2 (op2_of rfl rfl ((dv _).trans (by rw [← Int.natCast_ediv]))) (op2_of rfl rfl ((dv _).trans (by rw [← Int.natCast_ediv])))))))
/-! _law_power -/
theorem pow_big {b n : Nat} (hb : b ≤ 40) (hn : n ≤ 60) : b ^ n < Big := by
  have h1 : b ^ n ≤ 40 ^ n := Nat.pow_le_pow_left hb n
  have h2 : 40 ^ n ≤ 40 ^ 60 := Nat.pow_le_pow_right (by decide) hn
  have h3 : (40 : Nat) ^ 60 < Big := by unfold Big; decide +kernel
  omega
theorem big62_nat {n : Nat} (h : n ≤ 1000) : big62 ((n : Nat) : Int) = true := by
  unfold big62
  exact decide_eq_true ⟨by omega, by omega⟩
theorem rng_nat {a : FE} {ρ : En} {S S1 : DS} {n : Nat} (hn : n ≤ 1000) (h : a ρ S = .ok (.int (n : Int)) S1) : itR1 a ρ S = .ok (rngD 0 n) S1 := by
  unfold itR1 bd
  rw [h]
  show (if big62 (n : Int) = true then rt (rngD 0 (n : Int).toNat) else no) S1 = _
  rw [if_pos (big62_nat hn), Int.toNat_natCast]
  rfl
theorem pow_step {b i : Nat} (hb : b ≤ 40) (hi : i < 60) (u v : Slot) (S : DS) : asgS 2 (op2 dMulX (var 2) (var 0)) [.vl (.int b), u, .vl (.int ((b ^ i : Nat) : Int)), v] S = .ok (.nx [.vl (.int b), u, .vl (.int ((b ^ (i + 1) : Nat) : Int)), v]) S := by
  have m := mulX (i := ((b ^ i : Nat) : Int)) (j := (b : Int)) (big_nat (pow_big hb (by omega))) (big_nat (big_of (by omega)))
  have e : ((b ^ (i + 1) : Nat) : Int) = ((b ^ i : Nat) : Int) * (b : Int) := by rw [Nat.pow_succ]; exact Int.natCast_mul _ _
  simp only [bd, lift, rt, var, varB, slot, slotB, truB, valB, isBl, truth, cst, op1, op2, parS, asgS, asgOS, asgT, seqS, retS, retNS, ifS, iteE, notB, notE, andB, orB, andE, orE, exprS, setV, setO, tgN, tgT, tgs, consA, nilA, leave, callE, frzS, augS, skipS, addI, subI, addI', appA, chn2, chn3, cmpB, dLe, dLt, dGe, dGt, List.getElem?_cons_zero, List.getElem?_cons_succ, List.set_cons_zero, List.set_cons_succ, m, e]
theorem v_power {b n : Nat} (hb : b ≤ 40) (hn : n ≤ 60) (S : DS) : m__law_power [.int (b : Int), .int (n : Int)] S = .ok (.int ((b ^ n : Nat) : Int)) S := by
  rw [e__law_power, b__law_power, bd, seq_nx (ρ' := [.vl (.int b), .vl (.int n), .vl (.int 1), .no]) (S' := S) (by simp [bd, lift, rt, var, varB, slot, slotB, truB, valB, isBl, truth, cst, op1, op2, parS, asgS, asgOS, asgT, seqS, retS, retNS, ifS, iteE, notB, notE, andB, orB, andE, orE, exprS, setV, setO, tgN, tgT, tgs, consA, nilA, leave, callE, frzS, augS, skipS, addI, subI, addI', appA, chn2, chn3, cmpB, dLe, dLt, dGe, dGt])]
  obtain ⟨ρ', S', e1, e2, e3, z, e4⟩ := forL_inv (t := tgN 3) (b := asgS 2 (op2 dMulX (var 2) (var 0))) (ds := rngD 0 n) (fun i ρ S' => S' = S ∧ i ≤ n ∧ ∃ z, ρ = [.vl (.int b), .vl (.int n), .vl (.int ((b ^ i : Nat) : Int)), z])
    (fun i d ρ S1 hd ⟨h1, h2, z, h3⟩ => by
      subst h1 h3
      obtain ⟨hi, rfl⟩ := rngD_get hd
      exact ⟨_, _, S1, rfl, .inl (pow_step hb (by omega) _ _ _), rfl, by omega, _, rfl⟩) (ρ := [.vl (.int b), .vl (.int n), .vl (.int 1), .no]) (S := S) ⟨rfl, Nat.zero_le _, .no, by rw [Nat.pow_zero]; rfl⟩
  subst e2 e4
  rw [rngD_length] at e1
  rw [seq_nx ((for_of (rng_nat (S1 := S') (n := n) (by omega) rfl)).trans e1)]
  simp [bd, lift, rt, var, varB, slot, slotB, truB, valB, isBl, truth, cst, op1, op2, parS, asgS, asgOS, asgT, seqS, retS, retNS, ifS, iteE, notB, notE, andB, orB, andE, orE, exprS, setV, setO, tgN, tgT, tgs, consA, nilA, leave, callE, frzS, augS, skipS, addI, subI, addI', appA, chn2, chn3, cmpB, dLe, dLt, dGe, dGt]
end Hk13
namespace Hk13
open PySem Mini
open L2 (atI ixN atI_nat kitB)
/-! ways_table -/
theorem at_range {f : Nat → D} {n k : Nat} (h : k < n) : atI ((List.range n).map f) ((k : Nat) : Int) = some (f k) := atI_nat (by simp [h])
theorem occ_big {d c s : Nat} (hd : d ≤ 40) (hc : c ≤ 60) (hs : s ≤ d) : (occ d c s).natAbs < Big := by
  have h1 := occ_nonneg d c s hs
  have h2 := occ_le d c s hs
  have h3 : ((d : Int)) ^ c = ((d ^ c : Nat) : Int) := by push_cast; rfl
  have h4 := pow_big (b := d) (n := c) hd hc
  omega
def rowD (d c : Nat) : List D := (List.range (d + 1)).map fun s => .int (occ d c s)
theorem rowD_zero (d : Nat) : rowD d 0 = [.int 1] ++ List.replicate d (.int 0) := by
  unfold rowD
  rw [List.range_succ_eq_map, List.map_cons, List.map_map]
  have e : (List.range d).map ((fun s => D.int (occ d 0 s)) ∘ Nat.succ) = List.replicate d (.int 0) := by
    rw [List.eq_replicate_iff]
    refine ⟨by simp, fun b hb => ?_⟩
    obtain ⟨i, _, rfl⟩ := List.mem_map.mp hb
    simp [occ]
  rw [e]
  simp [occ]
theorem flat_one (d : Nat) (x : D) : (List.replicate d [x]).flatten = List.replicate d x := by
  induction d with
  | zero => rfl
  | succ n ih => rw [List.replicate_succ, List.flatten_cons, ih]; rfl
abbrev wBody : FS := (seqS (asgS 2 (lcE (itR1 (op2 dAdd (var 0) (cst (.int 1)))) (tgN 5) yesB (op2 dAdd (op2 dMulX (op2 dIxA (var 2) (var 5)) (var 5)) (iteE (truB (var 5)) (op2 dMulX (op2 dIxA (var 2) (op2 dSub (var 5) (cst (.int 1)))) (op2 dAdd (op2 dSub (var 0) (var 5)) (cst (.int 1)))) (cst (.int 0)))) [5]))
  (augS dMul 3 (var 0)))
abbrev wElt : FE := (op2 dAdd (op2 dMulX (op2 dIxA (var 2) (var 5)) (var 5)) (iteE (truB (var 5)) (op2 dMulX (op2 dIxA (var 2) (op2 dSub (var 5) (cst (.int 1)))) (op2 dAdd (op2 dSub (var 0) (var 5)) (cst (.int 1)))) (cst (.int 0))))
theorem ways_elt {d c i s : Nat} (hd : d ≤ 40) (hc : i ≤ 60) (hs : s < d + 1) (u v w : Slot) (S : DS) : wElt [.vl (.int d), u, .vl (.lst (rowD d i)), v, w, .vl (.int (s : Int))] S = .ok (.int (occ d (i + 1) s)) S := by
  have g1 : atI (rowD d i) ((s : Nat) : Int) = some (.int (occ d i s)) := at_range (f := fun s => D.int (occ d i s)) hs
  have m1 := mulX (i := occ d i s) (j := (s : Int)) (occ_big hd (by omega) (by omega)) (big_nat (big_of (by omega)))
  cases s with
  | zero =>
    simp at g1 m1
    simp [wElt, bd, lift, rt, var, varB, slot, slotB, truB, valB, isBl, truth, cst, op1, op2, parS, asgS, asgOS, asgT, seqS, retS, retNS, ifS, iteE, notB, notE, andB, orB, andE, orE, exprS, setV, setO, tgN, tgT, tgs, consA, nilA, leave, callE, frzS, augS, skipS, addI, subI, addI', appA, chn2, chn3, cmpB, dLe, dLt, dGe, dGt, dIxA, dIx, g1, m1, occ]
  | succ t =>
    have g2 : atI (rowD d i) (((t + 1 : Nat) : Int) - 1) = some (.int (occ d i t)) := by
      rw [show (((t + 1 : Nat) : Int) - 1) = ((t : Nat) : Int) by omega]
      exact at_range (f := fun s => D.int (occ d i s)) (by omega)
    have m2 := mulX (i := occ d i t) (j := (d : Int) - ((t + 1 : Nat) : Int) + 1) (occ_big hd (by omega) (by omega)) (big_of (by omega))
    have nz : (((t + 1 : Nat) : Int) != 0) = true := by
      rw [bne_iff_ne]
      omega
    simp only [wElt, bd, lift, rt, var, varB, slot, slotB, truB, valB, isBl, truth, cst, op1, op2, parS, asgS, asgOS, asgT, seqS, retS, retNS, ifS, iteE, notB, notE, andB, orB, andE, orE, exprS, setV, setO, tgN, tgT, tgs, consA, nilA, leave, callE, frzS, augS, skipS, addI, subI, addI', appA, chn2, chn3, cmpB, dLe, dLt, dGe, dGt, List.getElem?_cons_zero, List.getElem?_cons_succ, dIxA, dIx, g1, g2, m1, m2, nz, if_true]
    simp [occ]
theorem ways_rng {d : Nat} (hd : d ≤ 40) (u v w x z : Slot) (S : DS) : itR1 (op2 dAdd (var 0) (cst (.int 1))) [.vl (.int d), u, v, w, x, z] S = .ok (rngD 0 (d + 1)) S := rng_nat (n := d + 1) (by omega) rfl
def gInt (f : Nat → Int) : D → D
  | .int s => .int (f s.toNat)
  | x => x
theorem gInt_map (f : Nat → Int) (n : Nat) : (rngD 0 n).map (gInt f) = (List.range n).map fun s => .int (f s) := by
  rw [rngD_map, List.map_map]
  refine List.map_congr_left fun i _ => ?_
  show D.int (f (Int.toNat (i : Int))) = _
  rw [Int.toNat_natCast]
theorem ways_lc0 {d i : Nat} (hd : d ≤ 40) (hi : i ≤ 60) (u v w : Slot) (S : DS) : ∀ x ∈ rngD 0 (d + 1), ∃ ρ1, tgN 5 x [.vl (.int d), u, .vl (.lst (rowD d i)), v, w, .no] = some ρ1 ∧ wElt ρ1 S = .ok (gInt (occ d (i + 1)) x) S := fun x hx => by
  obtain ⟨s, hs0⟩ := List.getElem?_of_mem hx
  obtain ⟨hs, rfl⟩ := rngD_get hs0
  rw [Int.zero_add]
  exact ⟨_, rfl, ways_elt (c := 0) hd hi hs _ _ _ S⟩
theorem ways_lc1 {d : Nat} (hd : d ≤ 40) : (rngD 0 (d + 1)).length ≤ 16777216 := by
  rw [rngD_length]; omega
theorem ways_lc2 {d i : Nat} (hd : d ≤ 40) (hi : i ≤ 60) (u v w : Slot) (S : DS) : lcL (tgN 5) yesB wElt (rngD 0 (d + 1)) [] [.vl (.int d), u, .vl (.lst (rowD d i)), v, w, .no] S = .ok ((rngD 0 (d + 1)).map (gInt (occ d (i + 1)))) S := lcL_all (gInt (occ d (i + 1))) (ways_lc0 hd hi u v w S) (ways_lc1 hd)
theorem ways_lc3 (d i : Nat) : (rngD 0 (d + 1)).map (gInt (occ d (i + 1))) = rowD d (i + 1) := gInt_map _ _
theorem ways_step {d i : Nat} (hd : d ≤ 40) (hi : i ≤ 60) (u w z : Slot) (S : DS) : wBody [.vl (.int d), u, .vl (.lst (rowD d i)), .vl (.int ((d ^ i : Nat) : Int)), w, z] S = .ok (.nx [.vl (.int d), u, .vl (.lst (rowD d (i + 1))), .vl (.int ((d ^ (i + 1) : Nat) : Int)), w, z]) S := by
  have m3 := mulI (i := ((d ^ i : Nat) : Int)) (j := (d : Int)) (big_nat (pow_big hd hi)) (big_nat (big_of (by omega)))
  have e : ((d ^ (i + 1) : Nat) : Int) = ((d ^ i : Nat) : Int) * (d : Int) := by rw [Nat.pow_succ]; exact Int.natCast_mul _ _
  have s1 := asg_of (i := 2) (lc_of (vs := [5]) (ways_rng hd u (.vl (.lst (rowD d i))) (.vl (.int ((d ^ i : Nat) : Int))) w z S) ((ways_lc2 hd hi u (.vl (.int ((d ^ i : Nat) : Int))) w S).trans (congrArg (fun l => Res.ok l S) (ways_lc3 d i))))
  refine (seq_nx s1).trans ?_
  rw [e]
  simp only [bd, lift, rt, var, varB, slot, slotB, truB, valB, isBl, truth, cst, op1, op2, parS, asgS, asgOS, asgT, seqS, retS, retNS, ifS, iteE, notB, notE, andB, orB, andE, orE, exprS, setV, setO, tgN, tgT, tgs, consA, nilA, leave, callE, frzS, augS, skipS, addI, subI, addI', appA, chn2, chn3, cmpB, dLe, dLt, dGe, dGt, List.getElem?_cons_zero, List.getElem?_cons_succ, List.set_cons_zero, List.set_cons_succ, m3]
theorem wt1 (d : Nat) (hd : d ≤ 40) : dMulX (.lst [.int 0]) (.int (d : Int)) = some (.lst (List.replicate d (.int 0))) := by
    rw [mulL (by rw [List.length_singleton]; omega) (by omega), flat_one]
theorem wt2 (d : Nat) (hd : d ≤ 40) : dAdd (.lst [.int 1]) (.lst (List.replicate d (.int 0))) = some (.lst (rowD d 0)) := by
    rw [rowD_zero, catL (by rw [List.length_singleton, List.length_replicate]; omega)]
theorem wt3 (d c : Nat) (hd : d ≤ 40) (S : DS) : (asgS 2 (op2 dAdd (lstE (consA (cst (.int 1)) nilA)) (op2 dMulX (lstE (consA (cst (.int 0)) nilA)) (var 0)))) [.vl (.int d), .vl (.int c), .no, .no, .no, .no] S = .ok (.nx [.vl (.int d), .vl (.int c), .vl (.lst (rowD d 0)), .no, .no, .no]) S := asg_of (op2_of (lst1 rfl) (op2_of (lst1 rfl) rfl (wt1 d hd)) (wt2 d hd))
theorem ways_loop {d c : Nat} (hd : d ≤ 40) (hc : c ≤ 60) (S : DS) : ∃ z z2, forL (tgN 4) wBody (rngD 0 c) [.vl (.int d), .vl (.int c), .vl (.lst (rowD d 0)), .vl (.int 1), .no, .no] S = .ok (.nx [.vl (.int d), .vl (.int c), .vl (.lst (rowD d c)), .vl (.int ((d ^ c : Nat) : Int)), z, z2]) S := by
  obtain ⟨ρ', S', e1, e2, e3, z, z2, e4⟩ := forL_inv (t := tgN 4) (b := wBody) (ds := rngD 0 c) (fun i ρ S' => S' = S ∧ i ≤ c ∧ ∃ z z2, ρ = [.vl (.int d), .vl (.int c), .vl (.lst (rowD d i)), .vl (.int ((d ^ i : Nat) : Int)), z, z2])
    (fun i x ρ S1 hx ⟨h1, h2, z, z2, h3⟩ => by
      subst h1 h3
      obtain ⟨hi, rfl⟩ := rngD_get hx
      exact ⟨_, _, S1, rfl, .inl (ways_step hd (by omega) _ _ _ _), rfl, by omega, _, _, rfl⟩) (ρ := [.vl (.int d), .vl (.int c), .vl (.lst (rowD d 0)), .vl (.int 1), .no, .no]) (S := S) ⟨rfl, Nat.zero_le _, .no, .no, by rw [Nat.pow_zero]; rfl⟩
  subst e2 e4
  rw [rngD_length] at e1
  exact ⟨z, z2, e1⟩
theorem ways_rng2 {c : Nat} (hc : c ≤ 60) (u v w x z : Slot) (S : DS) : itR1 (var 1) [u, .vl (.int (c : Int)), v, w, x, z] S = .ok (rngD 0 c) S := rng_nat (n := c) (by omega) rfl
theorem v_ways_table {d c : Nat} (hd : d ≤ 40) (hc : c ≤ 60) (S : DS) : m_ways_table [.int (d : Int), .int (c : Int)] S = .ok (.tup [.lst (rowD d c), .int ((d ^ c : Nat) : Int)]) S := by
  obtain ⟨z, z2, e1⟩ := ways_loop hd hc S
  have a1 := wt3 d c hd S
  have a2 : asgS 3 (cst (.int 1)) [.vl (.int (d : Int)), .vl (.int (c : Int)), .vl (.lst (rowD d 0)), .no, .no, .no] S = .ok (.nx [.vl (.int d), .vl (.int c), .vl (.lst (rowD d 0)), .vl (.int 1), .no, .no]) S := rfl
  have a3 := (for_of (t := tgN 4) (b := wBody) (ways_rng2 hc (.vl (.int d)) (.vl (.lst (rowD d 0))) (.vl (.int 1)) .no .no S)).trans e1
  have a4 : retS (tupE (consA (var 2) (consA (var 3) nilA))) [.vl (.int d), .vl (.int c), .vl (.lst (rowD d c)), .vl (.int ((d ^ c : Nat) : Int)), z, z2] S = .ok (.rt (.tup [.lst (rowD d c), .int ((d ^ c : Nat) : Int)])) S := ret_of (tup2 rfl rfl)
  rw [e_ways_table]
  refine body_rt ?_
  rw [b_ways_table]
  exact (seq_nx a1).trans ((seq_nx a2).trans ((seq_nx a3).trans a4))
end Hk13
namespace Hk13
open PySem Mini
open L2 (atI ixN atI_nat kitB)
def occN (d c s : Nat) : Nat := (occ d c s).toNat
theorem occN_eq {d c s : Nat} (h : s ≤ d) : occ d c s = ((occN d c s : Nat) : Int) := (Int.toNat_of_nonneg (occ_nonneg d c s h)).symm
def chancesD (d c : Nat) : D := .tup ((List.range (d + 1)).map fun s => low (occN d c s) (d ^ c))
def gLow (w : Nat) : D → D
  | .int i => low i.toNat w
  | x => x
theorem gLow_row (d c : Nat) : (rowD d c).map (gLow (d ^ c)) = (List.range (d + 1)).map fun s => low (occN d c s) (d ^ c) := by
  unfold rowD
  rw [List.map_map]
  rfl
theorem row_mem {d c : Nat} {x : D} (h : x ∈ rowD d c) : ∃ s, s ≤ d ∧ x = .int ((occN d c s : Nat) : Int) := by
  obtain ⟨s, hs, rfl⟩ := List.mem_map.mp h
  have hs' : s ≤ d := by have := List.mem_range.mp hs; omega
  exact ⟨s, hs', by rw [occN_eq hs']⟩
theorem row_len (d c : Nat) : (rowD d c).length = d + 1 := by simp [rowD]
theorem pow_pos' {d c : Nat} (h : 1 ≤ d) : 0 < d ^ c := Nat.pow_pos h
theorem lc_chances {d c : Nat} (h : 1 ≤ d) (hd : d ≤ 40) (hc : c ≤ 60) (u v w : Slot) (S : DS) : lcL (tgN 4) yesB (callE m_quotient (consA (var 4) (consA (var 3) nilA))) (rowD d c) [] [u, v, w, .vl (.int ((d ^ c : Nat) : Int)), .no] S = .ok ((rowD d c).map (gLow (d ^ c))) S :=
  lcL_all (gLow (d ^ c)) (fun x hx => by
    obtain ⟨s, hs, rfl⟩ := row_mem hx
    exact ⟨_, rfl, call2_of rfl rfl (v_quotient (pow_pos' h) (pow_big hd hc) S)⟩) (by rw [row_len]; omega)
theorem lc_due {d c : Nat} (h : 1 ≤ d) (hd : d ≤ 40) (hc : c ≤ 60) (u v w x : Slot) (S : DS) : lcL (tgN 5) yesB (callE m__law_lowest (consA (var 5) (consA (var 4) nilA))) (rowD d c) [] [u, v, w, x, .vl (.int ((d ^ c : Nat) : Int)), .no] S = .ok ((rowD d c).map (gLow (d ^ c))) S :=
  lcL_all (gLow (d ^ c)) (fun x hx => by
    obtain ⟨s, hs, rfl⟩ := row_mem hx
    exact ⟨_, rfl, call2_of rfl rfl (v_lowest (pow_pos' h) (pow_big hd hc) S)⟩) (by rw [row_len]; omega)
theorem v_chances_seen {d c : Nat} (h : 1 ≤ d) (hd : d ≤ 40) (hc : c ≤ 60) (S : DS) : m_chances_seen [.int (d : Int), .int (c : Int)] S = .ok (chancesD d c) S := by
  have a1 : exprS (callE m_check_dies (appA (consA (var 0) nilA) [.str "dies"])) [.vl (.int (d : Int)), .vl (.int (c : Int)), .no, .no, .no] S = .ok (.nx [.vl (.int (d : Int)), .vl (.int (c : Int)), .no, .no, .no]) S := expr_of (callD1_of rfl (v_check_dies _ (by omega) (by omega) S))
  have a2 : exprS (callE m_check_coins (consA (var 1) nilA)) [.vl (.int (d : Int)), .vl (.int (c : Int)), .no, .no, .no] S = .ok (.nx [.vl (.int (d : Int)), .vl (.int (c : Int)), .no, .no, .no]) S := expr_of (call1_of rfl (v_check_coins (by omega) (by omega) S))
  have a3 : asgT (tgT [(tgN 2), (tgN 3)]) (callE m_ways_table (consA (var 0) (consA (var 1) nilA))) [.vl (.int (d : Int)), .vl (.int (c : Int)), .no, .no, .no] S = .ok (.nx [.vl (.int (d : Int)), .vl (.int (c : Int)), .vl (.lst (rowD d c)), .vl (.int ((d ^ c : Nat) : Int)), .no]) S := asgT_of (call2_of rfl rfl (v_ways_table hd hc S)) rfl
  have a4 := lc_of (it := itS (var 2)) (vs := [4]) (ρ := [.vl (.int (d : Int)), .vl (.int (c : Int)), .vl (.lst (rowD d c)), .vl (.int ((d ^ c : Nat) : Int)), .no]) rfl (lc_chances h hd hc (.vl (.int (d : Int))) (.vl (.int (c : Int))) (.vl (.lst (rowD d c))) S)
  have a5 := ret_of (op1_of (g := dTuple) a4 rfl)
  rw [e_chances_seen]
  refine body_rt ?_
  rw [b_chances_seen]
  rw [gLow_row] at a5
  exact (seq_nx a1).trans ((seq_nx a2).trans ((seq_nx a3).trans a5))
/-! enumerate -/
theorem enumF_at : ∀ (ds : List D) (k i : Nat), (enumF k ds)[i]? = (ds[i]?).map fun d => .tup [.int ((k + i : Nat) : Int), d]
  | [], k, i => by simp [enumF]
  | d :: ds, k, 0 => by simp [enumF]
  | d :: ds, k, i + 1 => by
    rw [enumF, List.getElem?_cons_succ, List.getElem?_cons_succ, enumF_at ds (k + 1) i]
    have e : k + 1 + i = k + (i + 1) := by omega
    rw [e]
theorem enumF_len : ∀ (ds : List D) (k : Nat), (enumF k ds).length = ds.length
  | [], k => rfl
  | d :: ds, k => by rw [enumF, List.length_cons, List.length_cons, enumF_len ds (k + 1)]
def gMul : D → D
  | .tup [.int i, .int j] => .int (i * j)
  | x => x
theorem gMul_row (d c : Nat) : (enumF 0 (rowD d c)).map gMul = ((List.range (d + 1)).map fun s : Nat => ((s : Int) * occ d c s)).map D.int := by
  refine List.ext_getElem? fun i => ?_
  rw [List.getElem?_map, enumF_at, List.getElem?_map, List.getElem?_map]
  unfold rowD
  rw [List.getElem?_map]
  by_cases h : i < d + 1
  · rw [List.getElem?_range h, Nat.zero_add]
    rfl
  · rw [List.getElem?_eq_none (by simpa using h)]
    rfl
theorem range_sum (f : Nat → Int) : ∀ n : Nat, ((List.range n).map f).sum = sumTo n f
  | 0 => rfl
  | n + 1 => by rw [List.range_succ, List.map_append, List.sum_append, range_sum f n, sumTo]; simp
def meanN (d c : Nat) : Nat := d * (d ^ c - (d - 1) ^ c)
theorem mean_eq {d : Nat} (h : 1 ≤ d) (c : Nat) : (d : Int) * ((d : Int) ^ c - ((d : Int) - 1) ^ c) = ((meanN d c : Nat) : Int) := by
  have e1 : (d : Int) - 1 = ((d - 1 : Nat) : Int) := by omega
  have e2 : (d - 1) ^ c ≤ d ^ c := Nat.pow_le_pow_left (by omega) c
  unfold meanN
  rw [e1, ← Int.natCast_pow, ← Int.natCast_pow, ← Int.natCast_sub e2, ← Int.natCast_mul]
theorem mean_sum {d : Nat} (h : 1 ≤ d) (c : Nat) : ((List.range (d + 1)).map fun s : Nat => ((s : Int) * occ d c s)).sum = ((meanN d c : Nat) : Int) := by
  rw [range_sum, occ_mean, mean_eq h]
theorem lc_mean {d c : Nat} (hd : d ≤ 40) (hc : c ≤ 60) (i j : Nat) (ρ : En) (S : DS) (hi : i < ρ.length) (hj : j < ρ.length) (hij : i ≠ j) : lcL (tgT [(tgN i), (tgN j)]) yesB (op2 dMulX (var i) (var j)) (enumF 0 (rowD d c)) [] ρ S = .ok ((enumF 0 (rowD d c)).map gMul) S :=
  lcL_all gMul (fun x hx => by
    obtain ⟨k, hk⟩ := List.getElem?_of_mem hx
    rw [enumF_at] at hk
    obtain ⟨y, hy, rfl⟩ := Option.map_eq_some_iff.mp hk
    have hkl : k < d + 1 := by
      have := (List.getElem?_eq_some_iff.mp hy).1
      rwa [row_len] at this
    have hy2 : y = .int (occ d c k) := by
      unfold rowD at hy
      rw [List.getElem?_map, List.getElem?_range hkl] at hy
      exact (Option.some.inj hy).symm
    subst hy2
    rw [Nat.zero_add]
    have m := mulX (i := (k : Int)) (j := occ d c k) (big_nat (big_of (by omega))) (occ_big hd hc (by omega))
    refine ⟨(ρ.set i (.vl (.int (k : Int)))).set j (.vl (.int (occ d c k))), rfl, op2_of (d1 := .int (k : Int)) (d2 := .int (occ d c k)) (S1 := S) ?_ ?_ m⟩
    · have z : ((ρ.set i (.vl (.int (k : Int)))).set j (.vl (.int (occ d c k))))[i]? = some (.vl (.int (k : Int))) := by rw [List.getElem?_set_ne (Ne.symm hij), List.getElem?_set_self hi]
      unfold var slot
      rw [z]
      rfl
    · have z : ((ρ.set i (.vl (.int (k : Int)))).set j (.vl (.int (occ d c k))))[j]? = some (.vl (.int (occ d c k))) := List.getElem?_set_self (by rw [List.length_set]; exact hj)
      unfold var slot
      rw [z]
      rfl) (by rw [enumF_len, row_len]; omega)
theorem sum_of {ds : List D} {ns : List Int} (h : ds = ns.map D.int) : dSumA (.lst ds) = some (.int ns.sum) := by
  subst h
  show (intsOf (ns.map D.int)).map (fun ns => D.int ns.sum) = _
  rw [intsOf_map]
  rfl
theorem v_mean_seen {d c : Nat} (h : 1 ≤ d) (hd : d ≤ 40) (hc : c ≤ 60) (S : DS) : m_mean_seen [.int (d : Int), .int (c : Int)] S = .ok (low (meanN d c) (d ^ c)) S := by
  have a1 : exprS (callE m_check_dies (appA (consA (var 0) nilA) [.str "dies"])) [.vl (.int (d : Int)), .vl (.int (c : Int)), .no, .no, .no, .no] S = .ok (.nx [.vl (.int (d : Int)), .vl (.int (c : Int)), .no, .no, .no, .no]) S := expr_of (callD1_of rfl (v_check_dies _ (by omega) (by omega) S))
  have a2 : exprS (callE m_check_coins (consA (var 1) nilA)) [.vl (.int (d : Int)), .vl (.int (c : Int)), .no, .no, .no, .no] S = .ok (.nx [.vl (.int (d : Int)), .vl (.int (c : Int)), .no, .no, .no, .no]) S := expr_of (call1_of rfl (v_check_coins (by omega) (by omega) S))
  have a3 : asgT (tgT [(tgN 2), (tgN 3)]) (callE m_ways_table (consA (var 0) (consA (var 1) nilA))) [.vl (.int (d : Int)), .vl (.int (c : Int)), .no, .no, .no, .no] S = .ok (.nx [.vl (.int (d : Int)), .vl (.int (c : Int)), .vl (.lst (rowD d c)), .vl (.int ((d ^ c : Nat) : Int)), .no, .no]) S := asgT_of (call2_of rfl rfl (v_ways_table hd hc S)) rfl
  have a4 := lc_of (it := itEn (var 2)) (vs := [4, 5]) (ρ := [.vl (.int (d : Int)), .vl (.int (c : Int)), .vl (.lst (rowD d c)), .vl (.int ((d ^ c : Nat) : Int)), .no, .no]) rfl (lc_mean hd hc 4 5 [.vl (.int (d : Int)), .vl (.int (c : Int)), .vl (.lst (rowD d c)), .vl (.int ((d ^ c : Nat) : Int)), .no, .no] S (by show 4 < 6; decide) (by show 5 < 6; decide) (by decide))
  have a5 := op1_of (g := dSumA) a4 ((sum_of (gMul_row d c)).trans (by rw [mean_sum h]))
  have a6 := ret_of (call2_of (F := m_quotient) a5 (g := var 3) rfl (v_quotient (u := meanN d c) (pow_pos' h) (pow_big hd hc) S))
  rw [e_mean_seen]
  refine body_rt ?_
  rw [b_mean_seen]
  exact (seq_nx a1).trans ((seq_nx a2).trans ((seq_nx a3).trans a6))
theorem mean_big {d c : Nat} (hd : d ≤ 40) (hc : c ≤ 60) : d ^ c - (d - 1) ^ c < Big := Nat.lt_of_le_of_lt (Nat.sub_le _ _) (pow_big hd hc)
theorem v_shown {d c : Nat} (h : 1 ≤ d) (hd : d ≤ 40) (hc : c ≤ 60) (S : DS) : m__law_shown [.int (d : Int), .int (c : Int)] S = .ok (.int ((meanN d c : Nat) : Int)) S := by
  have e1 : (d : Int) - 1 = ((d - 1 : Nat) : Int) := by omega
  have e2 : (d - 1) ^ c ≤ d ^ c := Nat.pow_le_pow_left (by omega) c
  have a1 : callE m__law_power (consA (var 0) (consA (var 1) nilA)) [.vl (.int (d : Int)), .vl (.int (c : Int))] S = _ := call2_of rfl rfl (v_power hd hc S)
  have a2 : callE m__law_power (consA (op2 dSub (var 0) (cst (.int 1))) (consA (var 1) nilA)) [.vl (.int (d : Int)), .vl (.int (c : Int))] S = _ := call2_of (op2_of rfl rfl ((subI _ _).trans (by rw [e1]))) rfl (v_power (b := d - 1) (by omega) hc S)
  have a3 := op2_of (g := dSub) a1 a2 ((subI _ _).trans (by rw [← Int.natCast_sub e2]))
  have m := mulX (i := (d : Int)) (j := ((d ^ c - (d - 1) ^ c : Nat) : Int)) (big_nat (big_of (by omega))) (big_nat (mean_big hd hc))
  have a4 := ret_of (op2_of (g := dMulX) (f1 := var 0) rfl a3 (m.trans (by rw [← Int.natCast_mul])))
  rw [e__law_shown]
  exact body_rt a4
/-! _law_choices -/
def chD (n : Nat) : D := .lst ((List.range (n + 1)).map fun k => .int (ch n k))
theorem ch_row (n : Nat) : [D.int 1] ++ ((List.range n).map fun k => D.int (ch n k + ch n (k + 1))) ++ [D.int 1] = (List.range (n + 1 + 1)).map fun k => .int (ch (n + 1) k) := by
  rw [List.range_succ, List.map_append, List.range_succ_eq_map, List.map_cons, List.map_map, ch_zero]
  simp only [List.map_cons, List.map_nil, ch_self]
  rfl
theorem ch_big {n k : Nat} (hn : n ≤ 40) (hk : k ≤ n) : (ch n k).natAbs < Big := by
  have key : ∀ n k : Nat, ch n k ≤ 2 ^ n := by
    intro n
    induction n with
    | zero => intro k; cases k <;> simp [ch]
    | succ n ih =>
      intro k
      cases k with
      | zero =>
        rw [ch_zero]
        exact Int.le_of_lt_add_one (by have : (0 : Int) < 2 ^ (n + 1) := Int.pow_pos (by decide); omega)
      | succ k =>
        have a := ih k
        have b := ih (k + 1)
        rw [ch, Int.pow_succ]
        omega
  have a := key n k
  have b := ch_nonneg n k
  have e : (2 : Int) ^ n = ((2 ^ n : Nat) : Int) := by rw [Int.natCast_pow]; rfl
  have c : 2 ^ n ≤ 2 ^ 40 := Nat.pow_le_pow_right (by decide) hn
  exact big_of (by omega)
theorem lc_ch {m : Nat} (hm : m ≤ 40) (u v w : Slot) (S : DS) : lcL (tgN 4) yesB (op2 dAdd (op2 dIxA (var 3) (var 4)) (op2 dIxA (var 3) (op2 dAdd (var 4) (cst (.int 1))))) (rngD 0 m) [] [u, v, w, .vl (chD m), .no] S = .ok ((rngD 0 m).map (gInt fun k => ch m k + ch m (k + 1))) S :=
  lcL_all _ (fun x hx => by
    obtain ⟨k, hk0⟩ := List.getElem?_of_mem hx
    obtain ⟨hk, rfl⟩ := rngD_get hk0
    rw [Int.zero_add]
    have g1 : dIxA (chD m) (.int (k : Int)) = some (.int (ch m k)) := at_range (f := fun k => D.int (ch m k)) (by omega)
    have g2 : dIxA (chD m) (.int ((k : Int) + 1)) = some (.int (ch m (k + 1))) := at_range (f := fun k => D.int (ch m k)) (k := k + 1) (by omega)
    exact ⟨_, rfl, op2_of (op2_of rfl rfl g1) (op2_of rfl (op2_of rfl rfl (addI _ _)) g2) rfl⟩) (by rw [rngD_length]; omega)
abbrev chBody : FS := (seqS (asgS 3 (op2 dIxA (varB 1) (op1 dNeg (cst (.int 1)))))
  (appS 1 (op2 dAdd (op2 dAdd (lstE (consA (cst (.int 1)) nilA)) (lcE (itR1 (var 2)) (tgN 4) yesB (op2 dAdd (op2 dIxA (var 3) (var 4)) (op2 dIxA (var 3) (op2 dAdd (var 4) (cst (.int 1))))) [4])) (lstE (consA (cst (.int 1)) nilA)))))
def chT (n : Nat) : List D := (List.range (n + 1)).map chD
theorem chT_succ (n : Nat) : chT (n + 1) = chT n ++ [chD (n + 1)] := by
  unfold chT
  rw [List.range_succ, List.map_append]
  rfl
theorem ch_step {i : Nat} (hi : i < 40) (u z : Slot) (S : DS) : chBody [u, .ow (.lst (chT i)), .vl (.int (i : Int)), z, .no] S = .ok (.nx [u, .ow (.lst (chT (i + 1))), .vl (.int (i : Int)), .vl (chD i), .no]) S := by
  have g : dIxA (.lst (chT i)) (.int (-1)) = some (chD i) := by
    show atI (chT i) (-1) = _
    cases i with
    | zero => rfl
    | succ n => rw [chT_succ]; exact L2.atI_last _ _
  have a1 : asgS 3 (op2 dIxA (varB 1) (op1 dNeg (cst (.int 1)))) [u, .ow (.lst (chT i)), .vl (.int (i : Int)), z, .no] S = .ok (.nx [u, .ow (.lst (chT i)), .vl (.int (i : Int)), .vl (chD i), .no]) S := asg_of (op2_of rfl rfl g)
  have l1 := lc_of (it := itR1 (var 2)) (vs := [4]) (ρ := [u, .ow (.lst (chT i)), .vl (.int (i : Int)), .vl (chD i), .no]) (rng_nat (S := S) (n := i) (by omega) rfl) (lc_ch (m := i) (by omega) u (.ow (.lst (chT i))) (.vl (.int (i : Int))) S)
  rw [gInt_map] at l1
  have c1 : dAdd (.lst [.int 1]) (.lst ((List.range i).map fun s => D.int (ch i s + ch i (s + 1)))) = some (.lst ([.int 1] ++ (List.range i).map fun s => D.int (ch i s + ch i (s + 1)))) := catL (by rw [List.length_singleton, List.length_map, List.length_range]; omega)
  have c2 : dAdd (.lst ([.int 1] ++ (List.range i).map fun s => D.int (ch i s + ch i (s + 1)))) (.lst [.int 1]) = some (chD (i + 1)) := (catL (by rw [List.length_append, List.length_singleton, List.length_map, List.length_range]; omega)).trans (by rw [ch_row]; rfl)
  have a2 := app_of (i := 1) (ds := chT i) (ρ := [u, .ow (.lst (chT i)), .vl (.int (i : Int)), .vl (chD i), .no]) rfl (op2_of (g := dAdd) (op2_of (g := dAdd) (lst1 (f := cst (.int 1)) rfl) l1 c1) (lst1 (f := cst (.int 1)) rfl) c2) (by unfold chT; rw [List.length_map, List.length_range]; omega)
  rw [← chT_succ] at a2
  exact (seq_nx a1).trans a2
theorem v_choices {n : Nat} (hn : n ≤ 40) (S : DS) : m__law_choices [.int (n : Int)] S = .ok (.lst (chT n)) S := by
  have a1 : asgOS 1 (lstE (consA (lstE (consA (cst (.int 1)) nilA)) nilA)) [.vl (.int (n : Int)), .no, .no, .no, .no] S = .ok (.nx [.vl (.int (n : Int)), .ow (.lst (chT 0)), .no, .no, .no]) S := asgO_of (lst1 (lst1 rfl))
  obtain ⟨ρ', S', e1, e2, e3, z, z2, e4⟩ := forL_inv (t := tgN 2) (b := chBody) (ds := rngD 0 n) (fun i ρ S' => S' = S ∧ i ≤ n ∧ ∃ z z2, ρ = [.vl (.int (n : Int)), .ow (.lst (chT i)), z, z2, .no])
    (fun i x ρ S1 hx ⟨h1, h2, z, z2, h3⟩ => by
      subst h1 h3
      obtain ⟨hi, rfl⟩ := rngD_get hx
      rw [Int.zero_add]
      exact ⟨_, _, S1, rfl, .inl (ch_step (by omega) _ _ _), rfl, by omega, _, _, rfl⟩) (ρ := [.vl (.int (n : Int)), .ow (.lst (chT 0)), .no, .no, .no]) (S := S) ⟨rfl, Nat.zero_le _, .no, .no, rfl⟩
  subst e2 e4
  rw [rngD_length] at e1
  have a2 := (for_of (t := tgN 2) (b := chBody) (rng_nat (a := var 0) (ρ := [.vl (.int (n : Int)), .ow (.lst (chT 0)), .no, .no, .no]) (S := S') (n := n) (by omega) rfl)).trans e1
  have a3 : frzS 1 (retS (var 1)) [.vl (.int (n : Int)), .ow (.lst (chT n)), z, z2, .no] S' = .ok (.rt (.lst (chT n))) S' := ret_of rfl
  rw [e__law_choices]
  refine body_rt ?_
  rw [b__law_choices]
  exact (seq_nx a1).trans ((seq_nx a2).trans a3)
end Hk13
namespace Hk13
open PySem Mini
open L2 (atI ixN atI_nat kitB)
/-! _law_ways -/
def term (c s m : Nat) : Int := sgn m * ch s m * (((0 + (s - m) : Nat)) : Int) ^ c
theorem term_sum (c s : Nat) : sumTo (s + 1) (term c s) = sur c s := dif_sum (fun y => ((y : Int)) ^ c) s 0
theorem sur_occ (c s : Nat) : sur c s = occ s c s := by rw [occ_ch, ch_self, Int.one_mul]
theorem sur_big {c s : Nat} (hs : s ≤ 40) (hc : c ≤ 60) : (sur c s).natAbs < Big := by
  rw [sur_occ]
  exact occ_big hs hc (Nat.le_refl s)
theorem sgn_abs : ∀ m : Nat, sgn m = 1 ∨ sgn m = -1
  | 0 => .inl rfl
  | m + 1 => by
    rcases sgn_abs m with h | h
    · exact .inr (by rw [sgn, h]; rfl)
    · exact .inl (by rw [sgn, h]; rfl)
theorem sgn_ch_big {s m : Nat} (hs : s ≤ 40) (hm : m ≤ s) : (sgn m * ch s m).natAbs < Big := by
  have b := ch_big hs hm
  rcases sgn_abs m with h | h
  · rw [h, Int.one_mul]; exact b
  · rw [h, Int.neg_mul, Int.one_mul, Int.natAbs_neg]; exact b
theorem sgn_big (m : Nat) : (sgn m).natAbs < Big := by
  rcases sgn_abs m with h | h
  · rw [h]; exact big_of (by decide)
  · rw [h]; exact big_of (by decide)
def pwD (n c : Nat) : D := .lst ((List.range (n + 1)).map fun k => .int (((k ^ c : Nat)) : Int))
theorem gInt_pow (n c : Nat) : (rngD 0 (n + 1)).map (gInt fun k => ((k ^ c : Nat) : Int)) = (List.range (n + 1)).map fun k => D.int ((k ^ c : Nat) : Int) := gInt_map _ _
theorem lc_pow {n c : Nat} (i j : Nat) (hn : n ≤ 40) (hc : c ≤ 60) (ρ : En) (S : DS) (hi : i < ρ.length) (hij : i ≠ j) (hj : ρ[j]? = some (.vl (.int (c : Int)))) : lcL (tgN i) yesB (callE m__law_power (consA (var i) (consA (var j) nilA))) (rngD 0 (n + 1)) [] ρ S = .ok ((rngD 0 (n + 1)).map (gInt fun k => ((k ^ c : Nat) : Int))) S :=
  lcL_all _ (fun x hx => by
    obtain ⟨k, hk0⟩ := List.getElem?_of_mem hx
    obtain ⟨hk, rfl⟩ := rngD_get hk0
    rw [Int.zero_add]
    refine ⟨ρ.set i (.vl (.int (k : Int))), rfl, call2_of (d := .int (k : Int)) (S1 := S) ?_ (d2 := .int (c : Int)) (S2 := S) ?_ (v_power (by omega) hc S)⟩
    · have z : (ρ.set i (.vl (.int (k : Int))))[i]? = some (.vl (.int (k : Int))) := List.getElem?_set_self hi
      unfold var slot
      rw [z]
      rfl
    · have z : (ρ.set i (.vl (.int (k : Int))))[j]? = some (.vl (.int (c : Int))) := by rw [List.getElem?_set_ne hij]; exact hj
      unfold var slot
      rw [z]
      rfl) (by rw [rngD_length]; omega)
theorem chT_at {d s : Nat} (h : s ≤ d) : dIxA (.lst (chT d)) (.int (s : Int)) = some (chD s) := at_range (f := chD) (by omega)
theorem chD_at {s m : Nat} (h : m ≤ s) : dIxA (chD s) (.int (m : Int)) = some (.int (ch s m)) := at_range (f := fun k => D.int (ch s k)) (by omega)
theorem pwD_at {n k c : Nat} (h : k ≤ n) : dIxA (pwD n c) (.int (k : Int)) = some (.int ((k ^ c : Nat) : Int)) := at_range (f := fun k => D.int ((k ^ c : Nat) : Int)) (by omega)
abbrev wIn : FS := (seqS (asgS 7 (op2 dAdd (var 7) (op2 dMulX (op2 dMulX (var 8) (op2 dIxA (op2 dIxA (var 4) (var 3)) (var 6))) (op2 dIxA (var 5) (op2 dSub (var 3) (var 6))))))
  (asgS 8 (op2 dSub (cst (.int 0)) (var 8))))
theorem w_in {d c s m : Nat} (hd : d ≤ 40) (hc : c ≤ 60) (hs : s ≤ d) (hm : m ≤ s) (u v o w : Slot) (S : DS) :
    wIn [u, v, o, .vl (.int (s : Int)), .vl (.lst (chT d)), .vl (pwD d c), .vl (.int (m : Int)), .vl (.int (sumTo m (term c s))), .vl (.int (sgn m)), w] S = .ok (.nx [u, v, o, .vl (.int (s : Int)), .vl (.lst (chT d)), .vl (pwD d c), .vl (.int (m : Int)), .vl (.int (sumTo (m + 1) (term c s))), .vl (.int (sgn (m + 1))), w]) S := by
  have m1 := mulX (i := sgn m) (j := ch s m) (sgn_big m) (ch_big (by omega) hm)
  have m2 := mulX (i := sgn m * ch s m) (j := (((s - m) ^ c : Nat) : Int)) (sgn_ch_big (by omega) hm) (big_nat (pow_big (by omega) hc))
  have e1 : (s : Int) - (m : Int) = ((s - m : Nat) : Int) := by omega
  have e2 : sumTo m (term c s) + sgn m * ch s m * (((s - m) ^ c : Nat) : Int) = sumTo (m + 1) (term c s) := by
    rw [sumTo, term, Nat.zero_add, Int.natCast_pow]
  have a1 : asgS 7 (op2 dAdd (var 7) (op2 dMulX (op2 dMulX (var 8) (op2 dIxA (op2 dIxA (var 4) (var 3)) (var 6))) (op2 dIxA (var 5) (op2 dSub (var 3) (var 6))))) [u, v, o, .vl (.int (s : Int)), .vl (.lst (chT d)), .vl (pwD d c), .vl (.int (m : Int)), .vl (.int (sumTo m (term c s))), .vl (.int (sgn m)), w] S = .ok (.nx [u, v, o, .vl (.int (s : Int)), .vl (.lst (chT d)), .vl (pwD d c), .vl (.int (m : Int)), .vl (.int (sumTo (m + 1) (term c s))), .vl (.int (sgn m)), w]) S :=
    asg_of (op2_of rfl (op2_of (op2_of rfl (op2_of (op2_of rfl rfl (chT_at hs)) rfl (chD_at hm)) m1) (op2_of rfl (op2_of rfl rfl ((subI _ _).trans (by rw [e1]))) (pwD_at (by omega))) m2) ((addI _ _).trans (by rw [e2])))
  exact (seq_nx a1).trans (asg_of (op2_of rfl rfl (subI _ _)))
theorem w_inner {d c s : Nat} (hd : d ≤ 40) (hc : c ≤ 60) (hs : s ≤ d) (u v o z w : Slot) (S : DS) :
    ∃ z1 z2, forS (itR1 (op2 dAdd (var 3) (cst (.int 1)))) (tgN 6) wIn [u, v, o, .vl (.int (s : Int)), .vl (.lst (chT d)), .vl (pwD d c), z, .vl (.int 0), .vl (.int 1), w] S = .ok (.nx [u, v, o, .vl (.int (s : Int)), .vl (.lst (chT d)), .vl (pwD d c), z1, .vl (.int (sur c s)), z2, w]) S := by
  obtain ⟨ρ', S', e1, e2, e3, z1, e4⟩ := forL_inv (t := tgN 6) (b := wIn) (ds := rngD 0 (s + 1)) (fun i ρ S' => S' = S ∧ i ≤ s + 1 ∧ ∃ z, ρ = [u, v, o, .vl (.int (s : Int)), .vl (.lst (chT d)), .vl (pwD d c), z, .vl (.int (sumTo i (term c s))), .vl (.int (sgn i)), w])
    (fun i x ρ S1 hx ⟨h1, h2, z, h3⟩ => by
      subst h1 h3
      obtain ⟨hi, rfl⟩ := rngD_get hx
      rw [Int.zero_add]
      exact ⟨_, _, S1, rfl, .inl (w_in hd hc hs (by omega) _ _ _ _ _), rfl, by omega, _, rfl⟩) (ρ := [u, v, o, .vl (.int (s : Int)), .vl (.lst (chT d)), .vl (pwD d c), z, .vl (.int 0), .vl (.int 1), w]) (S := S) ⟨rfl, Nat.zero_le _, z, rfl⟩
  subst e2 e4
  rw [rngD_length] at e1
  rw [term_sum] at e1
  exact ⟨z1, _, (for_of (rng_nat (S1 := S') (n := s + 1) (by omega) rfl)).trans e1⟩
abbrev wOut : FS := (seqS (asgT (tgT [(tgN 7), (tgN 8)]) (tupE (consA (cst (.int 0)) (consA (cst (.int 1)) nilA))))
  (seqS (forS (itR1 (op2 dAdd (var 3) (cst (.int 1)))) (tgN 6) wIn)
  (appS 2 (op2 dMulX (op2 dIxA (op2 dIxA (var 4) (var 0)) (var 3)) (var 7)))))
def rowTo (d c i : Nat) : List D := (List.range i).map fun s => .int (occ d c s)
theorem rowTo_succ (d c i : Nat) : rowTo d c (i + 1) = rowTo d c i ++ [.int (occ d c i)] := by
  unfold rowTo
  rw [List.range_succ, List.map_append]
  rfl
theorem w_out {d c s : Nat} (hd : d ≤ 40) (hc : c ≤ 60) (hs : s ≤ d) (v z z1 z2 w : Slot) (S : DS) :
    ∃ z3 z4 z5, wOut [.vl (.int (d : Int)), v, .ow (.lst (rowTo d c s)), .vl (.int (s : Int)), .vl (.lst (chT d)), .vl (pwD d c), z, z1, z2, w] S = .ok (.nx [.vl (.int (d : Int)), v, .ow (.lst (rowTo d c (s + 1))), .vl (.int (s : Int)), .vl (.lst (chT d)), .vl (pwD d c), z3, z4, z5, w]) S := by
  have a1 : asgT (tgT [(tgN 7), (tgN 8)]) (tupE (consA (cst (.int 0)) (consA (cst (.int 1)) nilA))) [.vl (.int (d : Int)), v, .ow (.lst (rowTo d c s)), .vl (.int (s : Int)), .vl (.lst (chT d)), .vl (pwD d c), z, z1, z2, w] S = .ok (.nx [.vl (.int (d : Int)), v, .ow (.lst (rowTo d c s)), .vl (.int (s : Int)), .vl (.lst (chT d)), .vl (pwD d c), z, .vl (.int 0), .vl (.int 1), w]) S := asgT_of (tup2 rfl rfl) rfl
  obtain ⟨z3, z4, a2⟩ := w_inner hd hc hs (.vl (.int (d : Int))) v (.ow (.lst (rowTo d c s))) z w S
  have m := mulX (i := ch d s) (j := sur c s) (ch_big hd hs) (sur_big (by omega) hc)
  have a3 := app_of (i := 2) (ds := rowTo d c s) (ρ := [.vl (.int (d : Int)), v, .ow (.lst (rowTo d c s)), .vl (.int (s : Int)), .vl (.lst (chT d)), .vl (pwD d c), z3, .vl (.int (sur c s)), z4, w]) (S := S) rfl (op2_of (g := dMulX) (f1 := op2 dIxA (op2 dIxA (var 4) (var 0)) (var 3)) (f2 := var 7) (op2_of (op2_of rfl rfl (chT_at (Nat.le_refl d))) rfl (chD_at hs)) rfl (m.trans (by rw [← occ_ch]))) (by unfold rowTo; rw [List.length_map, List.length_range]; omega)
  rw [← rowTo_succ] at a3
  exact ⟨_, _, _, (seq_nx a1).trans ((seq_nx a2).trans a3)⟩
theorem par_of {i j : Nat} {f g : FE} {ρ : En} {S S1 S2 : DS} {d e : D} (h1 : f ρ S = .ok d S1) (h2 : g ρ S1 = .ok e S2) : parS i j f g ρ S = .ok (.nx (setV j e (setV i d ρ))) S2 := by
  simp only [parS, bd, h1, h2, rt]
theorem v_law_ways {d c : Nat} (hd : d ≤ 40) (hc : c ≤ 60) (S : DS) : m__law_ways [.int (d : Int), .int (c : Int)] S = .ok (.lst (rowD d c)) S := by
  have l1 := lc_of (it := itR1 (op2 dAdd (var 0) (cst (.int 1)))) (vs := [9]) (ρ := [.vl (.int (d : Int)), .vl (.int (c : Int)), .no, .no, .no, .no, .no, .no, .no, .no]) (rng_nat (S := S) (n := d + 1) (by omega) rfl) (lc_pow 9 1 hd hc [.vl (.int (d : Int)), .vl (.int (c : Int)), .no, .no, .no, .no, .no, .no, .no, .no] S (by show 9 < 10; decide) (by decide) rfl)
  rw [gInt_pow] at l1
  have a1 : parS 4 5 (callE m__law_choices (consA (var 0) nilA)) (lcE (itR1 (op2 dAdd (var 0) (cst (.int 1)))) (tgN 9) yesB (callE m__law_power (consA (var 9) (consA (var 1) nilA))) [9]) [.vl (.int (d : Int)), .vl (.int (c : Int)), .no, .no, .no, .no, .no, .no, .no, .no] S = .ok (.nx [.vl (.int (d : Int)), .vl (.int (c : Int)), .no, .no, .vl (.lst (chT d)), .vl (pwD d c), .no, .no, .no, .no]) S := par_of (call1_of rfl (v_choices hd S)) l1
  have a2 : asgOS 2 (lstE nilA) [.vl (.int (d : Int)), .vl (.int (c : Int)), .no, .no, .vl (.lst (chT d)), .vl (pwD d c), .no, .no, .no, .no] S = .ok (.nx [.vl (.int (d : Int)), .vl (.int (c : Int)), .ow (.lst (rowTo d c 0)), .no, .vl (.lst (chT d)), .vl (pwD d c), .no, .no, .no, .no]) S := asgO_of lst0
  obtain ⟨ρ', S', e1, e2, e3, z1, z2, z3, z4, e4⟩ := forL_inv (t := tgN 3) (b := wOut) (ds := rngD 0 (d + 1)) (fun i ρ S' => S' = S ∧ i ≤ d + 1 ∧ ∃ z1 z2 z3 z4, ρ = [.vl (.int (d : Int)), .vl (.int (c : Int)), .ow (.lst (rowTo d c i)), z1, .vl (.lst (chT d)), .vl (pwD d c), z2, z3, z4, .no])
    (fun i x ρ S1 hx ⟨h1, h2, z1, z2, z3, z4, h3⟩ => by
      subst h1 h3
      obtain ⟨hi, rfl⟩ := rngD_get hx
      rw [Int.zero_add]
      obtain ⟨y1, y2, y3, q⟩ := w_out hd hc (s := i) (by omega) (.vl (.int (c : Int))) z2 z3 z4 .no S1
      exact ⟨_, _, S1, rfl, .inl q, rfl, by omega, _, _, _, _, rfl⟩) (ρ := [.vl (.int (d : Int)), .vl (.int (c : Int)), .ow (.lst (rowTo d c 0)), .no, .vl (.lst (chT d)), .vl (pwD d c), .no, .no, .no, .no]) (S := S) ⟨rfl, Nat.zero_le _, .no, .no, .no, .no, rfl⟩
  subst e2 e4
  rw [rngD_length] at e1
  have a3 := (for_of (t := tgN 3) (b := wOut) (rng_nat (a := op2 dAdd (var 0) (cst (.int 1))) (ρ := [.vl (.int (d : Int)), .vl (.int (c : Int)), .ow (.lst (rowTo d c 0)), .no, .vl (.lst (chT d)), .vl (pwD d c), .no, .no, .no, .no]) (S := S') (n := d + 1) (by omega) rfl)).trans e1
  have a4 : frzS 2 (retS (var 2)) [.vl (.int (d : Int)), .vl (.int (c : Int)), .ow (.lst (rowTo d c (d + 1))), z1, .vl (.lst (chT d)), .vl (pwD d c), z2, z3, z4, .no] S' = .ok (.rt (.lst (rowD d c))) S' := ret_of rfl
  rw [e__law_ways]
  refine body_rt ?_
  rw [b__law_ways]
  exact (seq_nx a1).trans ((seq_nx a2).trans ((seq_nx a3).trans a4))
/-! _law_chances_hold -/
theorem low_gd {u d : Nat} (hu : u < 10 ^ 500) (hd : d < 10 ^ 500) : Gd 1 2 (low u d) := by
  refine (gd_tup (h := 0) (n := 0) fun x hx => ?_).mono (Nat.le_refl _) (by show 2 * (0 + 1) ≤ 2; decide)
  rcases List.mem_cons.mp hx with rfl | hx
  · exact gd_int (by rw [Int.natAbs_natCast]; exact Nat.lt_of_le_of_lt (Nat.div_le_self _ _) hu)
  · rcases List.mem_cons.mp hx with rfl | hx
    · exact gd_int (by rw [Int.natAbs_natCast]; exact Nat.lt_of_le_of_lt (Nat.div_le_self _ _) hd)
    · cases hx
theorem pow_500 {b n : Nat} (hb : b ≤ 40) (hn : n ≤ 60) : b ^ n < 10 ^ 490 := by
  have h1 : b ^ n ≤ 40 ^ n := Nat.pow_le_pow_left hb n
  have h2 : 40 ^ n ≤ 40 ^ 60 := Nat.pow_le_pow_right (by decide) hn
  have h3 : (40 : Nat) ^ 60 < 10 ^ 490 := by decide +kernel
  omega
theorem occN_500 {d c s : Nat} (hd : d ≤ 40) (hc : c ≤ 60) (hs : s ≤ d) : occN d c s < 10 ^ 500 := by
  have h1 := occ_le d c s hs
  have h2 := pow_500 (b := d) (n := c) hd hc
  have h3 := occN_eq (d := d) (c := c) hs
  have h4 : ((d : Int)) ^ c = ((d ^ c : Nat) : Int) := (Int.natCast_pow _ _).symm
  have h5 : (10 : Nat) ^ 490 ≤ 10 ^ 500 := by decide +kernel
  omega
theorem mean_500 {d c : Nat} (hd : d ≤ 40) (hc : c ≤ 60) : meanN d c < 10 ^ 500 := by
  have h1 : meanN d c ≤ 40 * d ^ c := Nat.mul_le_mul hd (Nat.sub_le _ _)
  have h2 := pow_500 (b := d) (n := c) hd hc
  have h3 : 40 * (10 : Nat) ^ 490 ≤ 10 ^ 500 := by decide +kernel
  omega
theorem pow_500' {b n : Nat} (hb : b ≤ 40) (hn : n ≤ 60) : b ^ n < 10 ^ 500 := by
  have h2 := pow_500 (b := b) (n := n) hb hn
  have h3 : (10 : Nat) ^ 490 ≤ 10 ^ 500 := by decide +kernel
  omega
theorem chances_gd {d c : Nat} (hd : d ≤ 40) (hc : c ≤ 60) : Gd 2 200 (chancesD d c) := by
  refine (gd_tup (h := 1) (n := 2) fun x hx => ?_).mono (Nat.le_refl _) (by rw [List.length_map, List.length_range]; omega)
  obtain ⟨s, hs, rfl⟩ := List.mem_map.mp hx
  exact low_gd (occN_500 hd hc (by have := List.mem_range.mp hs; omega)) (pow_500' hd hc)
theorem gd_lst2 {h n : Nat} {d e : D} (a : Gd h n d) (b : Gd h n e) : Gd (h + 1) (2 * (n + 1)) (.lst [d, e]) := gd_lst (ds := [d, e]) fun x hx => by
  rcases List.mem_cons.mp hx with rfl | hx
  · exact a
  · rcases List.mem_cons.mp hx with rfl | hx
    · exact b
    · cases hx
theorem v_same {h n : Nat} {d : D} (g : Gd h n d) (a : h ≤ 64) (b : n ≤ 30000) (S : DS) : m__law_same [d, d] S = .ok (.bl true) S := same_ok g a b S
theorem v_chances_hold {d c : Nat} (h : 1 ≤ d) (hd : d ≤ 40) (hc : c ≤ 60) (S : DS) : m__law_chances_hold [.int (d : Int), .int (c : Int)] S = .ok (.bl true) S := by
  have a1 : asgT (tgT [(tgN 3), (tgN 4)]) (tupE (consA (callE m__law_ways (consA (var 0) (consA (var 1) nilA))) (consA (callE m__law_power (consA (var 0) (consA (var 1) nilA))) nilA))) [.vl (.int (d : Int)), .vl (.int (c : Int)), .no, .no, .no, .no] S = .ok (.nx [.vl (.int (d : Int)), .vl (.int (c : Int)), .no, .vl (.lst (rowD d c)), .vl (.int ((d ^ c : Nat) : Int)), .no]) S := asgT_of (tup2 (call2_of rfl rfl (v_law_ways hd hc S)) (call2_of rfl rfl (v_power hd hc S))) rfl
  have l1 := lc_of (it := itS (var 3)) (vs := [5]) (ρ := [.vl (.int (d : Int)), .vl (.int (c : Int)), .no, .vl (.lst (rowD d c)), .vl (.int ((d ^ c : Nat) : Int)), .no]) rfl (lc_due h hd hc (.vl (.int (d : Int))) (.vl (.int (c : Int))) .no (.vl (.lst (rowD d c))) S)
  rw [gLow_row] at l1
  have a2 := asg_of (i := 2) (op1_of (g := dTuple) (e := chancesD d c) l1 rfl)
  have g := gd_lst2 ((chances_gd (d := d) (c := c) hd hc)) ((low_gd (mean_500 hd hc) (pow_500' hd hc)).mono (h' := 2) (n' := 200) (by decide) (by decide))
  have a3 : retS (callE m__law_same (consA (lstE (consA (callE m_chances_seen (consA (var 0) (consA (var 1) nilA))) (consA (callE m_mean_seen (consA (var 0) (consA (var 1) nilA))) nilA))) (consA (lstE (consA (var 2) (consA (callE m__law_lowest (consA (callE m__law_shown (consA (var 0) (consA (var 1) nilA))) (consA (var 4) nilA))) nilA))) nilA))) [.vl (.int (d : Int)), .vl (.int (c : Int)), .vl (chancesD d c), .vl (.lst (rowD d c)), .vl (.int ((d ^ c : Nat) : Int)), .no] S = .ok (.rt (.bl true)) S :=
    ret_of (call2_of (lst2 (call2_of rfl rfl (v_chances_seen h hd hc S)) (call2_of rfl rfl (v_mean_seen h hd hc S))) (lst2 rfl (call2_of (call2_of rfl rfl (v_shown h hd hc S)) rfl (v_lowest (pow_pos' h) (pow_big hd hc) S))) (v_same g (by decide) (by decide) S))
  rw [e__law_chances_hold]
  refine body_rt ?_
  rw [b__law_chances_hold]
  exact (seq_nx a1).trans ((seq_nx a2).trans a3)
end Hk13
namespace Hk13
open PySem Mini
open L2 (atI ixN atI_nat kitB)
/-! _law_table -/
abbrev tIn : FS := (seqS (asgS 9 (op2 dAdd (var 9) (op2 dMulX (op2 dMulX (var 10) (op2 dIxA (op2 dIxA (var 4) (var 2)) (var 8))) (op2 dIxA (var 5) (op2 dSub (var 2) (var 8))))))
  (asgS 10 (op2 dSub (cst (.int 0)) (var 10))))
theorem t_in {d c s m : Nat} (hd : d ≤ 40) (hc : c ≤ 60) (hs : s ≤ d) (hm : m ≤ s) (u v x o r w : Slot) (S : DS) :
    tIn [u, v, .vl (.int (s : Int)), x, .vl (.lst (chT d)), .vl (pwD d c), o, r, .vl (.int (m : Int)), .vl (.int (sumTo m (term c s))), .vl (.int (sgn m)), w] S = .ok (.nx [u, v, .vl (.int (s : Int)), x, .vl (.lst (chT d)), .vl (pwD d c), o, r, .vl (.int (m : Int)), .vl (.int (sumTo (m + 1) (term c s))), .vl (.int (sgn (m + 1))), w]) S := by
  have m1 := mulX (i := sgn m) (j := ch s m) (sgn_big m) (ch_big (by omega) hm)
  have m2 := mulX (i := sgn m * ch s m) (j := (((s - m) ^ c : Nat) : Int)) (sgn_ch_big (by omega) hm) (big_nat (pow_big (by omega) hc))
  have e1 : (s : Int) - (m : Int) = ((s - m : Nat) : Int) := by omega
  have e2 : sumTo m (term c s) + sgn m * ch s m * (((s - m) ^ c : Nat) : Int) = sumTo (m + 1) (term c s) := by
    rw [sumTo, term, Nat.zero_add, Int.natCast_pow]
  have a1 : asgS 9 (op2 dAdd (var 9) (op2 dMulX (op2 dMulX (var 10) (op2 dIxA (op2 dIxA (var 4) (var 2)) (var 8))) (op2 dIxA (var 5) (op2 dSub (var 2) (var 8))))) [u, v, .vl (.int (s : Int)), x, .vl (.lst (chT d)), .vl (pwD d c), o, r, .vl (.int (m : Int)), .vl (.int (sumTo m (term c s))), .vl (.int (sgn m)), w] S = .ok (.nx [u, v, .vl (.int (s : Int)), x, .vl (.lst (chT d)), .vl (pwD d c), o, r, .vl (.int (m : Int)), .vl (.int (sumTo (m + 1) (term c s))), .vl (.int (sgn m)), w]) S :=
    asg_of (op2_of rfl (op2_of (op2_of rfl (op2_of (op2_of rfl rfl (chT_at hs)) rfl (chD_at hm)) m1) (op2_of rfl (op2_of rfl rfl ((subI _ _).trans (by rw [e1]))) (pwD_at (by omega))) m2) ((addI _ _).trans (by rw [e2])))
  exact (seq_nx a1).trans (asg_of (op2_of rfl rfl (subI _ _)))
theorem t_inner {d c s : Nat} (hd : d ≤ 40) (hc : c ≤ 60) (hs : s ≤ d) (u v x o r z w : Slot) (S : DS) :
    ∃ z1 z2, forS (itR1 (op2 dAdd (var 2) (cst (.int 1)))) (tgN 8) tIn [u, v, .vl (.int (s : Int)), x, .vl (.lst (chT d)), .vl (pwD d c), o, r, z, .vl (.int 0), .vl (.int 1), w] S = .ok (.nx [u, v, .vl (.int (s : Int)), x, .vl (.lst (chT d)), .vl (pwD d c), o, r, z1, .vl (.int (sur c s)), z2, w]) S := by
  obtain ⟨ρ', S', e1, e2, e3, z1, e4⟩ := forL_inv (t := tgN 8) (b := tIn) (ds := rngD 0 (s + 1)) (fun i ρ S' => S' = S ∧ i ≤ s + 1 ∧ ∃ z, ρ = [u, v, .vl (.int (s : Int)), x, .vl (.lst (chT d)), .vl (pwD d c), o, r, z, .vl (.int (sumTo i (term c s))), .vl (.int (sgn i)), w])
    (fun i y ρ S1 hx ⟨h1, h2, z, h3⟩ => by
      subst h1 h3
      obtain ⟨hi, rfl⟩ := rngD_get hx
      rw [Int.zero_add]
      exact ⟨_, _, S1, rfl, .inl (t_in hd hc hs (by omega) _ _ _ _ _ _ _), rfl, by omega, _, rfl⟩) (ρ := [u, v, .vl (.int (s : Int)), x, .vl (.lst (chT d)), .vl (pwD d c), o, r, z, .vl (.int 0), .vl (.int 1), w]) (S := S) ⟨rfl, Nat.zero_le _, z, rfl⟩
  subst e2 e4
  rw [rngD_length] at e1
  rw [term_sum] at e1
  exact ⟨z1, _, (for_of (rng_nat (S1 := S') (n := s + 1) (by omega) rfl)).trans e1⟩
abbrev tOut : FS := (seqS (asgT (tgT [(tgN 9), (tgN 10)]) (tupE (consA (cst (.int 0)) (consA (cst (.int 1)) nilA))))
  (seqS (forS (itR1 (op2 dAdd (var 2) (cst (.int 1)))) (tgN 8) tIn)
  (appS 6 (var 9))))
def surTo (c i : Nat) : List D := (List.range i).map fun s => .int (sur c s)
theorem surTo_succ (c i : Nat) : surTo c (i + 1) = surTo c i ++ [.int (sur c i)] := by
  unfold surTo
  rw [List.range_succ, List.map_append]
  rfl
theorem t_out {d c s : Nat} (hd : d ≤ 40) (hc : c ≤ 60) (hs : s ≤ d) (u v x r z z1 z2 w : Slot) (S : DS) :
    ∃ z3 z4 z5, tOut [u, v, .vl (.int (s : Int)), x, .vl (.lst (chT d)), .vl (pwD d c), .ow (.lst (surTo c s)), r, z, z1, z2, w] S = .ok (.nx [u, v, .vl (.int (s : Int)), x, .vl (.lst (chT d)), .vl (pwD d c), .ow (.lst (surTo c (s + 1))), r, z3, z4, z5, w]) S := by
  have a1 : asgT (tgT [(tgN 9), (tgN 10)]) (tupE (consA (cst (.int 0)) (consA (cst (.int 1)) nilA))) [u, v, .vl (.int (s : Int)), x, .vl (.lst (chT d)), .vl (pwD d c), .ow (.lst (surTo c s)), r, z, z1, z2, w] S = .ok (.nx [u, v, .vl (.int (s : Int)), x, .vl (.lst (chT d)), .vl (pwD d c), .ow (.lst (surTo c s)), r, z, .vl (.int 0), .vl (.int 1), w]) S := asgT_of (tup2 rfl rfl) rfl
  obtain ⟨z3, z4, a2⟩ := t_inner hd hc hs u v x (.ow (.lst (surTo c s))) r z w S
  have a3 := app_of (i := 6) (ds := surTo c s) (f := var 9) (d := .int (sur c s)) (ρ := [u, v, .vl (.int (s : Int)), x, .vl (.lst (chT d)), .vl (pwD d c), .ow (.lst (surTo c s)), r, z3, .vl (.int (sur c s)), z4, w]) (S := S) (S' := S) rfl rfl (by unfold surTo; rw [List.length_map, List.length_range]; omega)
  rw [← surTo_succ] at a3
  exact ⟨_, _, _, (seq_nx a1).trans ((seq_nx a2).trans a3)⟩
def tabTo (c i : Nat) : List D := (List.range i).map fun d => .lst (rowD d c)
theorem tabTo_succ (c i : Nat) : tabTo c (i + 1) = tabTo c i ++ [.lst (rowD i c)] := by
  unfold tabTo
  rw [List.range_succ, List.map_append]
  rfl
theorem lc_tab {n c d : Nat} (hn : n ≤ 40) (hc : c ≤ 60) (hd : d ≤ n) (u v p r z z1 z2 w : Slot) (S : DS) : lcL (tgN 2) yesB (op2 dMulX (op2 dIxA (op2 dIxA (var 4) (var 3)) (var 2)) (op2 dIxA (varB 6) (var 2))) (rngD 0 (d + 1)) [] [u, v, .no, .vl (.int (d : Int)), .vl (.lst (chT n)), p, .ow (.lst (surTo c (n + 1))), r, z, z1, z2, w] S = .ok ((rngD 0 (d + 1)).map (gInt (occ d c))) S :=
  lcL_all _ (fun x hx => by
    obtain ⟨s, hs0⟩ := List.getElem?_of_mem hx
    obtain ⟨hs, rfl⟩ := rngD_get hs0
    rw [Int.zero_add]
    have g : dIxA (.lst (surTo c (n + 1))) (.int (s : Int)) = some (.int (sur c s)) := at_range (f := fun s => D.int (sur c s)) (by omega)
    have m := mulX (i := ch d s) (j := sur c s) (ch_big (by omega) (by omega)) (sur_big (by omega) hc)
    exact ⟨_, rfl, op2_of (op2_of (op2_of rfl rfl (chT_at hd)) rfl (chD_at (by omega))) (op2_of rfl rfl g) (m.trans (by rw [← occ_ch]; rfl))⟩) (by rw [rngD_length]; omega)
abbrev tRow : FS := (appS 7 (lcE (itR1 (op2 dAdd (var 3) (cst (.int 1)))) (tgN 2) yesB (op2 dMulX (op2 dIxA (op2 dIxA (var 4) (var 3)) (var 2)) (op2 dIxA (varB 6) (var 2))) [2]))
theorem t_row {n c d : Nat} (hn : n ≤ 40) (hc : c ≤ 60) (hd : d ≤ n) (u v x p z z1 z2 w : Slot) (S : DS) :
    tRow [u, v, x, .vl (.int (d : Int)), .vl (.lst (chT n)), p, .ow (.lst (surTo c (n + 1))), .ow (.lst (tabTo c d)), z, z1, z2, w] S = .ok (.nx [u, v, x, .vl (.int (d : Int)), .vl (.lst (chT n)), p, .ow (.lst (surTo c (n + 1))), .ow (.lst (tabTo c (d + 1))), z, z1, z2, w]) S := by
  have l1 := lc_of (it := itR1 (op2 dAdd (var 3) (cst (.int 1)))) (vs := [2]) (ρ := [u, v, x, .vl (.int (d : Int)), .vl (.lst (chT n)), p, .ow (.lst (surTo c (n + 1))), .ow (.lst (tabTo c d)), z, z1, z2, w]) (rng_nat (S := S) (n := d + 1) (by omega) rfl) (lc_tab hn hc hd u v p (.ow (.lst (tabTo c d))) z z1 z2 w S)
  rw [gInt_map] at l1
  have a3 := app_of (i := 7) (ds := tabTo c d) rfl l1 (by unfold tabTo; rw [List.length_map, List.length_range]; omega)
  exact a3.trans (by rw [tabTo_succ]; rfl)
theorem unp2O {i j : Nat} {f g : FE} {ρ : En} {S S1 S2 : DS} {d e : D} (h1 : f ρ S = .ok d S1) (h2 : g ρ S1 = .ok e S2) : unpS [true, true] [i, j] (consA f (consA g nilA)) ρ S = .ok (.nx (setO j e (setO i d ρ))) S2 := by
  have z := cons_of h1 (cons_of h2 (nil_of (ρ := ρ)))
  unfold unpS bd
  rw [z]
  rfl
theorem v_table {n c : Nat} (hn : n ≤ 40) (hc : c ≤ 60) (S : DS) : m__law_table [.int (c : Int), .int (n : Int)] S = .ok (.tup [.lst (tabTo c (n + 1)), pwD n c]) S := by
  have l1 := lc_of (it := itR1 (op2 dAdd (var 1) (cst (.int 1)))) (vs := [11]) (ρ := [.vl (.int (c : Int)), .vl (.int (n : Int)), .no, .no, .no, .no, .no, .no, .no, .no, .no, .no]) (rng_nat (S := S) (n := n + 1) (by omega) rfl) (lc_pow 11 0 hn hc [.vl (.int (c : Int)), .vl (.int (n : Int)), .no, .no, .no, .no, .no, .no, .no, .no, .no, .no] S (by show 11 < 12; decide) (by decide) rfl)
  rw [gInt_pow] at l1
  have a1 : asgT (tgT [(tgN 4), (tgN 5)]) (tupE (consA (callE m__law_choices (consA (var 1) nilA)) (consA (lcE (itR1 (op2 dAdd (var 1) (cst (.int 1)))) (tgN 11) yesB (callE m__law_power (consA (var 11) (consA (var 0) nilA))) [11]) nilA))) [.vl (.int (c : Int)), .vl (.int (n : Int)), .no, .no, .no, .no, .no, .no, .no, .no, .no, .no] S = .ok (.nx [.vl (.int (c : Int)), .vl (.int (n : Int)), .no, .no, .vl (.lst (chT n)), .vl (pwD n c), .no, .no, .no, .no, .no, .no]) S := asgT_of (tup2 (call1_of rfl (v_choices hn S)) l1) rfl
  have a2 : unpS [true, true] [6, 7] (consA (lstE nilA) (consA (lstE nilA) nilA)) [.vl (.int (c : Int)), .vl (.int (n : Int)), .no, .no, .vl (.lst (chT n)), .vl (pwD n c), .no, .no, .no, .no, .no, .no] S = .ok (.nx [.vl (.int (c : Int)), .vl (.int (n : Int)), .no, .no, .vl (.lst (chT n)), .vl (pwD n c), .ow (.lst (surTo c 0)), .ow (.lst (tabTo c 0)), .no, .no, .no, .no]) S := unp2O lst0 lst0
  obtain ⟨ρ', S', e1, e2, e3, z1, z2, z3, z4, e4⟩ := forL_inv (t := tgN 2) (b := tOut) (ds := rngD 0 (n + 1)) (fun i ρ S' => S' = S ∧ i ≤ n + 1 ∧ ∃ z1 z2 z3 z4, ρ = [.vl (.int (c : Int)), .vl (.int (n : Int)), z1, .no, .vl (.lst (chT n)), .vl (pwD n c), .ow (.lst (surTo c i)), .ow (.lst (tabTo c 0)), z2, z3, z4, .no])
    (fun i x ρ S1 hx ⟨h1, h2, z1, z2, z3, z4, h3⟩ => by
      subst h1 h3
      obtain ⟨hi, rfl⟩ := rngD_get hx
      rw [Int.zero_add]
      obtain ⟨y1, y2, y3, q⟩ := t_out hn hc (s := i) (by omega) (.vl (.int (c : Int))) (.vl (.int (n : Int))) .no (.ow (.lst (tabTo c 0))) z2 z3 z4 .no S1
      exact ⟨_, _, S1, rfl, .inl q, rfl, by omega, _, _, _, _, rfl⟩) (ρ := [.vl (.int (c : Int)), .vl (.int (n : Int)), .no, .no, .vl (.lst (chT n)), .vl (pwD n c), .ow (.lst (surTo c 0)), .ow (.lst (tabTo c 0)), .no, .no, .no, .no]) (S := S) ⟨rfl, Nat.zero_le _, .no, .no, .no, .no, rfl⟩
  subst e2 e4
  rw [rngD_length] at e1
  have a3 := (for_of (t := tgN 2) (b := tOut) (rng_nat (a := op2 dAdd (var 1) (cst (.int 1))) (ρ := [.vl (.int (c : Int)), .vl (.int (n : Int)), .no, .no, .vl (.lst (chT n)), .vl (pwD n c), .ow (.lst (surTo c 0)), .ow (.lst (tabTo c 0)), .no, .no, .no, .no]) (S := S') (n := n + 1) (by omega) rfl)).trans e1
  obtain ⟨ρ2, S2, f1, f2, f3, y1, f4⟩ := forL_inv (t := tgN 3) (b := tRow) (ds := rngD 0 (n + 1)) (fun i ρ S2 => S2 = S' ∧ i ≤ n + 1 ∧ ∃ y, ρ = [.vl (.int (c : Int)), .vl (.int (n : Int)), z1, y, .vl (.lst (chT n)), .vl (pwD n c), .ow (.lst (surTo c (n + 1))), .ow (.lst (tabTo c i)), z2, z3, z4, .no])
    (fun i x ρ S1 hx ⟨h1, h2, y, h3⟩ => by
      subst h1 h3
      obtain ⟨hi, rfl⟩ := rngD_get hx
      rw [Int.zero_add]
      exact ⟨_, _, S1, rfl, .inl (t_row hn hc (by omega) _ _ _ _ _ _ _ _ _), rfl, by omega, _, rfl⟩) (ρ := [.vl (.int (c : Int)), .vl (.int (n : Int)), z1, .no, .vl (.lst (chT n)), .vl (pwD n c), .ow (.lst (surTo c (n + 1))), .ow (.lst (tabTo c 0)), z2, z3, z4, .no]) (S := S') ⟨rfl, Nat.zero_le _, .no, rfl⟩
  subst f2 f4
  rw [rngD_length] at f1
  have a4 := (for_of (t := tgN 3) (b := tRow) (rng_nat (a := op2 dAdd (var 1) (cst (.int 1))) (ρ := [.vl (.int (c : Int)), .vl (.int (n : Int)), z1, .no, .vl (.lst (chT n)), .vl (pwD n c), .ow (.lst (surTo c (n + 1))), .ow (.lst (tabTo c 0)), z2, z3, z4, .no]) (S := S2) (n := n + 1) (by omega) rfl)).trans f1
  have a5 : frzS 7 (retS (tupE (consA (var 7) (consA (var 5) nilA)))) [.vl (.int (c : Int)), .vl (.int (n : Int)), z1, y1, .vl (.lst (chT n)), .vl (pwD n c), .ow (.lst (surTo c (n + 1))), .ow (.lst (tabTo c (n + 1))), z2, z3, z4, .no] S2 = .ok (.rt (.tup [.lst (tabTo c (n + 1)), pwD n c])) S2 := ret_of (tup2 (ρ := [.vl (.int (c : Int)), .vl (.int (n : Int)), z1, y1, .vl (.lst (chT n)), .vl (pwD n c), .ow (.lst (surTo c (n + 1))), .vl (.lst (tabTo c (n + 1))), z2, z3, z4, .no]) rfl rfl)
  rw [e__law_table]
  refine body_rt ?_
  rw [b__law_table]
  exact (seq_nx a1).trans ((seq_nx a2).trans ((seq_nx a3).trans ((seq_nx a4).trans a5)))
end Hk13
namespace Hk13
open PySem Mini
open L2 (atI ixN atI_nat kitB)
/-! likeliest_dies -/
/-- the better one of b and d -/
def btr (c s : Nat) (b : Option Nat) (d : Nat) : Bool := decide (occ d c s ≠ 0) && (match b with
    | none => true
    | some e => decide (occ e c s * (d : Int) ^ c < occ d c s * (e : Int) ^ c))
def bst (c s : Nat) (b : Option Nat) (d : Nat) : Option Nat := if btr c s b d = true then some d else b
def bstTo (c s lo : Nat) : Nat → Option Nat
  | 0 => none
  | n + 1 => bst c s (bstTo c s lo n) (lo + n)
theorem bstTo_in (c s lo : Nat) : ∀ n e, bstTo c s lo n = some e → lo ≤ e ∧ e < lo + n
  | 0, e, h => by cases h
  | n + 1, e, h => by
    rw [bstTo, bst] at h
    split at h
    · cases h; omega
    · have := bstTo_in c s lo n e h; omega
theorem row_at {d c s : Nat} (h : s ≤ d) : dIxA (.lst (rowD d c)) (.int (s : Int)) = some (.int (occ d c s)) := at_range (f := fun s => D.int (occ d c s)) (by omega)
theorem pow_cast (d c : Nat) : ((d ^ c : Nat) : Int) = (d : Int) ^ c := Int.natCast_pow d c
def bD (c s : Nat) : Option Nat → D
  | none => .non
  | some e => .tup [.int (occ e c s), .int ((e ^ c : Nat) : Int), .int (e : Int)]
abbrev lkT : FB := (andB (truB (op2 dIxA (var 5) (var 1))) (orB (valB (op2 dIs (var 3) (cst .non))) (valB (op2 dGt (op2 dMulX (op2 dIxA (var 5) (var 1)) (op2 dIxA (var 3) (cst (.int 1)))) (op2 dMulX (op2 dIxA (var 3) (cst (.int 0))) (var 6))))))
abbrev lkB : FS := (seqS (asgT (tgT [(tgN 5), (tgN 6)]) (callE m_ways_table (consA (var 4) (consA (var 0) nilA))))
  (ifS lkT (asgS 3 (tupE (consA (op2 dIxA (var 5) (var 1)) (consA (var 6) (consA (var 4) nilA))))) skipS))
theorem and_f {a b : FB} {ρ : En} {S S1 : DS} (h : a ρ S = .ok false S1) : andB a b ρ S = .ok false S1 := by
  simp only [andB, bd, h, rt, Bool.false_eq_true, if_false]
theorem and_t {a b : FB} {ρ : En} {S S1 : DS} (h : a ρ S = .ok true S1) : andB a b ρ S = b ρ S1 := by
  simp only [andB, bd, h, if_true]
theorem or_t {a b : FB} {ρ : En} {S S1 : DS} (h : a ρ S = .ok true S1) : orB a b ρ S = .ok true S1 := by
  simp only [orB, bd, h, rt, if_true]
theorem or_f {a b : FB} {ρ : En} {S S1 : DS} (h : a ρ S = .ok false S1) : orB a b ρ S = b ρ S1 := by
  simp only [orB, bd, h, Bool.false_eq_true, if_false]
theorem val_of {f : FE} {ρ : En} {S S1 : DS} {k : Bool} (h : f ρ S = .ok (.bl k) S1) : valB f ρ S = .ok k S1 := by
  simp only [valB, bd, h, isBl, lift, rt]
theorem tru_ofE {f : FE} {ρ : En} {S S1 : DS} {d : D} {k : Bool} (h : f ρ S = .ok d S1) (ht : truth d = some k) : truB f ρ S = .ok k S1 := by
  simp only [truB, bd, h, ht, lift, rt]
theorem not_of {t : FB} {ρ : En} {S S1 : DS} {k : Bool} (h : t ρ S = .ok k S1) : notB t ρ S = .ok (!k) S1 := by
  simp only [notB, bd, h, rt]
theorem lk_test {c s d : Nat} {b : Option Nat} (hd : d ≤ 40) (hc : c ≤ 60) (hs : s ≤ d) (hb : ∀ e, b = some e → s ≤ e ∧ e ≤ 40) (m dd : Slot) (S : DS) :
    lkT [.vl (.int (c : Int)), .vl (.int (s : Int)), m, .vl (bD c s b), dd, .vl (.lst (rowD d c)), .vl (.int ((d ^ c : Nat) : Int))] S = .ok (btr c s b d) S := by
  have r : op2 dIxA (var 5) (var 1) [.vl (.int (c : Int)), .vl (.int (s : Int)), m, .vl (bD c s b), dd, .vl (.lst (rowD d c)), .vl (.int ((d ^ c : Nat) : Int))] S = .ok (.int (occ d c s)) S := op2_of rfl rfl (row_at hs)
  unfold btr
  by_cases h0 : occ d c s = 0
  · rw [decide_eq_false (fun z => z h0), Bool.false_and]
    exact and_f (tru_ofE r (by rw [h0]; rfl))
  · rw [decide_eq_true h0, Bool.true_and]
    refine (and_t (tru_ofE r (k := true) (by show some (occ d c s != 0) = _; rw [bne_iff_ne.mpr h0]))).trans ?_
    cases b with
    | none => exact or_t (val_of (op2_of (e := .bl true) rfl rfl rfl))
    | some e =>
      obtain ⟨h1, h2⟩ := hb e rfl
      refine (or_f (val_of (op2_of (e := .bl false) rfl rfl rfl))).trans ?_
      have m1 := mulX (i := occ d c s) (j := ((e ^ c : Nat) : Int)) (occ_big hd hc hs) (big_nat (pow_big h2 hc))
      have m2 := mulX (i := occ e c s) (j := ((d ^ c : Nat) : Int)) (occ_big h2 hc h1) (big_nat (pow_big hd hc))
      have z : valB (op2 dGt (op2 dMulX (op2 dIxA (var 5) (var 1)) (op2 dIxA (var 3) (cst (.int 1)))) (op2 dMulX (op2 dIxA (var 3) (cst (.int 0))) (var 6))) [.vl (.int (c : Int)), .vl (.int (s : Int)), m, .vl (bD c s (some e)), dd, .vl (.lst (rowD d c)), .vl (.int ((d ^ c : Nat) : Int))] S = .ok (decide (occ e c s * ((d ^ c : Nat) : Int) < occ d c s * ((e ^ c : Nat) : Int))) S :=
        val_of (op2_of (op2_of r (op2_of rfl rfl rfl) m1) (op2_of (op2_of rfl rfl rfl) rfl m2) rfl)
      refine z.trans ?_
      rw [pow_cast, pow_cast]
theorem lk_step {c s d : Nat} {b : Option Nat} (hd : d ≤ 40) (hc : c ≤ 60) (hs : s ≤ d) (hb : ∀ e, b = some e → s ≤ e ∧ e ≤ 40) (m z1 z2 : Slot) (S : DS) :
    ∃ z3 z4, lkB [.vl (.int (c : Int)), .vl (.int (s : Int)), m, .vl (bD c s b), .vl (.int (d : Int)), z1, z2] S = .ok (.nx [.vl (.int (c : Int)), .vl (.int (s : Int)), m, .vl (bD c s (bst c s b d)), .vl (.int (d : Int)), z3, z4]) S := by
  have a1 : asgT (tgT [(tgN 5), (tgN 6)]) (callE m_ways_table (consA (var 4) (consA (var 0) nilA))) [.vl (.int (c : Int)), .vl (.int (s : Int)), m, .vl (bD c s b), .vl (.int (d : Int)), z1, z2] S = .ok (.nx [.vl (.int (c : Int)), .vl (.int (s : Int)), m, .vl (bD c s b), .vl (.int (d : Int)), .vl (.lst (rowD d c)), .vl (.int ((d ^ c : Nat) : Int))]) S := asgT_of (call2_of rfl rfl (v_ways_table hd hc S)) rfl
  have t := lk_test hd hc hs hb m (.vl (.int (d : Int))) S
  refine ⟨.vl (.lst (rowD d c)), .vl (.int ((d ^ c : Nat) : Int)), (seq_nx a1).trans ?_⟩
  unfold bst
  cases h : btr c s b d with
  | true =>
    rw [h] at t
    exact (if_t t).trans (asg_of (tup3 (op2_of rfl rfl (row_at hs)) rfl rfl))
  | false =>
    rw [h] at t
    exact if_f t
/-- range(lo, hi) -/
theorem rng2_nat {a b : FE} {ρ : En} {S S1 S2 : DS} {lo hi : Nat} (h1 : lo ≤ 1000) (h2 : hi ≤ 1000) (ha : a ρ S = .ok (.int (lo : Int)) S1) (hb : b ρ S1 = .ok (.int (hi : Int)) S2) : itR2 a b ρ S = .ok (rngD (lo : Int) (hi - lo)) S2 := by
  have e : ((hi : Int) - (lo : Int)).toNat = hi - lo := by omega
  unfold itR2 bd
  rw [ha]
  simp only [hb]
  rw [big62_nat h1, big62_nat h2]
  simp only [Bool.and_self, if_true]
  rw [e]
  rfl
def bO : Option Nat → D
  | none => .non
  | some e => .int (e : Int)
theorem max_one {s : Nat} : dMax2 (.int 1) (.int (s : Int)) = some (.int ((max 1 s : Nat) : Int)) := by
  have e : (if (s : Int) > 1 then (s : Int) else 1) = ((max 1 s : Nat) : Int) := by split <;> omega
  show some (D.int (if (s : Int) > 1 then (s : Int) else 1)) = _
  rw [e]
theorem lk_loop {c s n lo : Nat} (hc : c ≤ 60) (hlo : s ≤ lo) (hl : lo + (n + 1 - lo) ≤ 41 ∨ n + 1 - lo = 0) (S : DS) : ∃ z1 z2 z3, forL (tgN 4) lkB (rngD (lo : Int) (n + 1 - lo)) [.vl (.int (c : Int)), .vl (.int (s : Int)), .vl (.int (n : Int)), .vl (bD c s none), .no, .no, .no] S = .ok (.nx [.vl (.int (c : Int)), .vl (.int (s : Int)), .vl (.int (n : Int)), .vl (bD c s (bstTo c s lo (n + 1 - lo))), z1, z2, z3]) S := by
  obtain ⟨k, hk⟩ : ∃ k, k = n + 1 - lo := ⟨_, rfl⟩
  rw [← hk] at hl ⊢
  obtain ⟨ρ', S', e1, e2, e3, z1, z2, z3, e4⟩ := forL_inv (t := tgN 4) (b := lkB) (ds := rngD (lo : Int) k) (fun i ρ S' => S' = S ∧ i ≤ k ∧ ∃ z1 z2 z3, ρ = [.vl (.int (c : Int)), .vl (.int (s : Int)), .vl (.int (n : Int)), .vl (bD c s (bstTo c s lo i)), z1, z2, z3])
    (fun i x ρ S1 hx ⟨h1, h2, z1, z2, z3, h3⟩ => by
      subst h1 h3
      obtain ⟨hi, rfl⟩ := rngD_get hx
      rw [← Int.natCast_add]
      have q0 : lo + i ≤ 40 := by omega
      have q1 : s ≤ lo + i := by omega
      have q2 : ∀ e, bstTo c s lo i = some e → s ≤ e ∧ e ≤ 40 := fun e he => by have := bstTo_in c s lo i e he; omega
      obtain ⟨y1, y2, q⟩ := lk_step q0 hc q1 q2 (.vl (.int (n : Int))) z2 z3 S1
      exact ⟨_, _, S1, rfl, .inl q, rfl, by omega, _, _, _, rfl⟩) (ρ := [.vl (.int (c : Int)), .vl (.int (s : Int)), .vl (.int (n : Int)), .vl (bD c s none), .no, .no, .no]) (S := S) ⟨rfl, Nat.zero_le _, .no, .no, .no, rfl⟩
  subst e2 e4
  rw [rngD_length] at e1
  exact ⟨z1, z2, z3, e1⟩
theorem v_likeliest {c s n lo : Nat} (hlo : lo = max 1 s) (hc : c ≤ 60) (hs : s ≤ 40) (hn1 : 1 ≤ n) (hn : n ≤ 40) (S : DS) : m_likeliest_dies [.int (c : Int), .int (s : Int), .int (n : Int)] S = .ok (bO (bstTo c s lo (n + 1 - lo))) S := by
  have a1 : exprS (callE m_check_coins (consA (var 0) nilA)) [.vl (.int (c : Int)), .vl (.int (s : Int)), .vl (.int (n : Int)), .no, .no, .no, .no] S = .ok (.nx [.vl (.int (c : Int)), .vl (.int (s : Int)), .vl (.int (n : Int)), .no, .no, .no, .no]) S := expr_of (call1_of rfl (v_check_coins (by omega) (by omega) S))
  have a2 : exprS (callE m_check_seen (consA (var 1) nilA)) [.vl (.int (c : Int)), .vl (.int (s : Int)), .vl (.int (n : Int)), .no, .no, .no, .no] S = .ok (.nx [.vl (.int (c : Int)), .vl (.int (s : Int)), .vl (.int (n : Int)), .no, .no, .no, .no]) S := expr_of (call1_of rfl (v_check_seen (by omega) (by omega) S))
  have a3 : exprS (callE m_check_dies (consA (var 2) (consA (cst (.str "most")) nilA))) [.vl (.int (c : Int)), .vl (.int (s : Int)), .vl (.int (n : Int)), .no, .no, .no, .no] S = .ok (.nx [.vl (.int (c : Int)), .vl (.int (s : Int)), .vl (.int (n : Int)), .no, .no, .no, .no]) S := expr_of (call2_of rfl rfl (v_check_dies _ (by omega) (by omega) S))
  have a4 : asgS 3 (cst .non) [.vl (.int (c : Int)), .vl (.int (s : Int)), .vl (.int (n : Int)), .no, .no, .no, .no] S = .ok (.nx [.vl (.int (c : Int)), .vl (.int (s : Int)), .vl (.int (n : Int)), .vl (bD c s none), .no, .no, .no]) S := asg_of rfl
  obtain ⟨z1, z2, z3, e1⟩ := lk_loop (c := c) (n := n) (lo := lo) (s := s) hc (by omega) (by omega) S
  have mx : dMax2 (.int 1) (.int (s : Int)) = some (.int (lo : Int)) := by rw [hlo]; exact max_one
  have a5 := (for_of (t := tgN 4) (b := lkB) (rng2_nat (a := op2 dMax2 (cst (.int 1)) (var 1)) (b := op2 dAdd (var 2) (cst (.int 1))) (ρ := [.vl (.int (c : Int)), .vl (.int (s : Int)), .vl (.int (n : Int)), .vl (bD c s none), .no, .no, .no]) (S := S) (lo := lo) (hi := n + 1) (by omega) (by omega) (op2_of rfl rfl mx) (op2_of rfl rfl (addI _ _)))).trans e1
  have a6 : retS (iteE (valB (op2 dIs (var 3) (cst .non))) (cst .non) (op2 dIxA (var 3) (cst (.int 2)))) [.vl (.int (c : Int)), .vl (.int (s : Int)), .vl (.int (n : Int)), .vl (bD c s (bstTo c s lo (n + 1 - lo))), z1, z2, z3] S = .ok (.rt (bO (bstTo c s lo (n + 1 - lo)))) S := by
    refine ret_of ?_
    cases bstTo c s lo (n + 1 - lo) with
    | none => rfl
    | some e => rfl
  rw [e_likeliest_dies]
  refine body_rt ?_
  rw [b_likeliest_dies]
  exact (seq_nx a1).trans ((seq_nx a2).trans ((seq_nx a3).trans ((seq_nx a4).trans ((seq_nx a5).trans a6))))
end Hk13
namespace Hk13
open PySem Mini
open L2 (atI ixN atI_nat kitB)
/-! dies_bounds -/
def rowI (d c : Nat) : List Int := (List.range (d + 1)).map (occ d c)
theorem rowD_I (d c : Nat) : rowD d c = (rowI d c).map D.int := by
  unfold rowD rowI
  rw [List.map_map]
  rfl
theorem cut_map {α β : Type} (f : α → β) (l : List α) (lo hi : Option Int) : cutG (l.map f) lo hi = (cutG l lo hi).map f := by
  unfold cutG
  rw [List.length_map, ← List.map_drop, ← List.map_take]
def lowS (d c s : Nat) : Int := (cutG (rowI d c) none (some ((s : Int) + 1))).sum
def highS (d c s : Nat) : Int := (cutG (rowI d c) (some (s : Int)) none).sum
theorem sum_nn : ∀ l : List Int, (∀ x ∈ l, 0 ≤ x) → 0 ≤ l.sum
  | [], _ => by simp
  | a :: l, h => by
    rw [List.sum_cons]
    have h1 := h a List.mem_cons_self
    have h2 := sum_nn l fun x hx => h x (List.mem_cons_of_mem _ hx)
    omega
theorem cut_bounds (l : List Int) (h : ∀ x ∈ l, 0 ≤ x) (lo hi : Option Int) : 0 ≤ (cutG l lo hi).sum ∧ (cutG l lo hi).sum ≤ l.sum := by
  unfold cutG
  generalize HT.sIx l.length 0 lo = a
  generalize HT.sIx l.length l.length hi - a = b
  have m : ∀ x ∈ (l.drop a).take b, 0 ≤ x := fun x hx => h x (List.mem_of_mem_drop (List.mem_of_mem_take hx))
  have e1 : l.sum = (l.take a).sum + (l.drop a).sum := by rw [← List.sum_append, List.take_append_drop]
  have e2 : (l.drop a).sum = ((l.drop a).take b).sum + ((l.drop a).drop b).sum := by rw [← List.sum_append, List.take_append_drop]
  have n1 := sum_nn (l.take a) fun x hx => h x (List.mem_of_mem_take hx)
  have n2 := sum_nn ((l.drop a).drop b) fun x hx => h x (List.mem_of_mem_drop (List.mem_of_mem_drop hx))
  have n3 := sum_nn _ m
  omega
theorem rowI_nn (d c : Nat) : ∀ x ∈ rowI d c, 0 ≤ x := fun x hx => by
  obtain ⟨s, hs, rfl⟩ := List.mem_map.mp hx
  exact occ_nonneg d c s (by have := List.mem_range.mp hs; omega)
theorem rowI_sum (d c : Nat) : (rowI d c).sum = ((d ^ c : Nat) : Int) := by
  unfold rowI
  rw [range_sum, occ_whole, pow_cast]
theorem low_big {d c : Nat} (hd : d ≤ 40) (hc : c ≤ 60) (s : Nat) : (lowS d c s).natAbs < Big := by
  have b := cut_bounds (rowI d c) (rowI_nn d c) none (some ((s : Int) + 1))
  rw [rowI_sum] at b
  have p := pow_big (b := d) (n := c) hd hc
  unfold lowS
  omega
theorem high_big {d c : Nat} (hd : d ≤ 40) (hc : c ≤ 60) (s : Nat) : (highS d c s).natAbs < Big := by
  have b := cut_bounds (rowI d c) (rowI_nn d c) (some (s : Int)) none
  rw [rowI_sum] at b
  have p := pow_big (b := d) (n := c) hd hc
  unfold highS
  omega
theorem slc_hi {a b : FE} {ρ : En} {S S1 S2 : DS} {d r : D} {h : Int} (h1 : a ρ S = .ok d S1) (h2 : b ρ S1 = .ok (.int h) S2) (hr : dCut none (some h) d = some r) : slcE a noP (partP b) ρ S = .ok r S2 := by
  simp only [slcE, noP, partP, bd, rt, h1, h2, isInt, Option.map_some, lift, hr]
theorem slc_lo {a b : FE} {ρ : En} {S S1 S2 : DS} {d r : D} {h : Int} (h1 : a ρ S = .ok d S1) (h2 : b ρ S1 = .ok (.int h) S2) (hr : dCut (some h) none d = some r) : slcE a (partP b) noP ρ S = .ok r S2 := by
  simp only [slcE, noP, partP, bd, rt, h1, h2, isInt, Option.map_some, lift, hr]
theorem cut_low (d c s : Nat) : (dCut none (some ((s : Int) + 1)) (.lst (rowD d c))).bind dSumA = some (.int (lowS d c s)) := by
  show dSumA (.lst (cutG (rowD d c) none (some ((s : Int) + 1)))) = _
  rw [rowD_I, cut_map]
  exact sum_of rfl
theorem cut_high (d c s : Nat) : (dCut (some (s : Int)) none (.lst (rowD d c))).bind dSumA = some (.int (highS d c s)) := by
  show dSumA (.lst (cutG (rowD d c) (some (s : Int)) none)) = _
  rw [rowD_I, cut_map]
  exact sum_of rfl
theorem sum_low {a b : FE} {ρ : En} {S : DS} {d c s : Nat} (h1 : a ρ S = .ok (.lst (rowD d c)) S) (h2 : b ρ S = .ok (.int ((s : Int) + 1)) S) : op1 dSumA (slcE a noP (partP b)) ρ S = .ok (.int (lowS d c s)) S := op1_of (slc_hi h1 h2 rfl) (cut_low d c s)
theorem sum_high {a b : FE} {ρ : En} {S : DS} {d c s : Nat} (h1 : a ρ S = .ok (.lst (rowD d c)) S) (h2 : b ρ S = .ok (.int (s : Int)) S) : op1 dSumA (slcE a (partP b) noP) ρ S = .ok (.int (highS d c s)) S := op1_of (slc_lo h1 h2 rfl) (cut_high d c s)
def okd (c s p q d : Nat) : Bool := decide ((p : Int) * ((d ^ c : Nat) : Int) ≤ lowS d c s * (q : Int)) && decide ((p : Int) * ((d ^ c : Nat) : Int) ≤ highS d c s * (q : Int))
def goodTo (c s p q lo : Nat) : Nat → List Nat
  | 0 => []
  | n + 1 => if okd c s p q (lo + n) = true then goodTo c s p q lo n ++ [lo + n] else goodTo c s p q lo n
theorem goodTo_len (c s p q lo : Nat) : ∀ n, (goodTo c s p q lo n).length ≤ n
  | 0 => Nat.le_refl _
  | n + 1 => by
    have := goodTo_len c s p q lo n
    rw [goodTo]
    split
    · rw [List.length_append, List.length_singleton]; omega
    · omega
theorem goodTo_in (c s p q lo : Nat) : ∀ n, ∀ e ∈ goodTo c s p q lo n, lo ≤ e ∧ e < lo + n
  | 0, e, h => by cases h
  | n + 1, e, h => by
    rw [goodTo] at h
    split at h
    · rcases List.mem_append.mp h with h | h
      · have := goodTo_in c s p q lo n e h; omega
      · have := List.mem_singleton.mp h; omega
    · have := goodTo_in c s p q lo n e h; omega
def natD (l : List Nat) : D := .lst (l.map fun d : Nat => .int (d : Int))
def goodR (l : List Nat) : D := match l with
  | [] => .non
  | a :: r => .tup [.int (a : Int), .int (((a :: r).getLast (List.cons_ne_nil a r) : Nat) : Int)]
def prt (p q : Nat) : D := .tup [.int (p : Int), .int (q : Int)]
theorem min_okd {a b m q : Int} (hq : 0 ≤ q) : decide (m ≤ (if b < a then b else a) * q) = (decide (m ≤ a * q) && decide (m ≤ b * q)) := by
  by_cases h : b < a
  · rw [if_pos h]
    have z : b * q ≤ a * q := Int.mul_le_mul_of_nonneg_right (by omega) hq
    rw [Bool.eq_iff_iff]
    simp only [Bool.and_eq_true, decide_eq_true_eq]
    omega
  · rw [if_neg h]
    have z : a * q ≤ b * q := Int.mul_le_mul_of_nonneg_right (by omega) hq
    rw [Bool.eq_iff_iff]
    simp only [Bool.and_eq_true, decide_eq_true_eq]
    omega
abbrev dbB : FS := (seqS (asgT (tgT [(tgN 6), (tgN 7)]) (callE m_ways_table (consA (var 5) (consA (var 0) nilA))))
  (seqS (parS 8 9 (op1 dSumA (slcE (var 6) noP (partP (op2 dAdd (var 1) (cst (.int 1)))))) (op1 dSumA (slcE (var 6) (partP (var 1)) noP)))
  (ifS (valB (op2 dGe (op2 dMulX (op2 dMin2 (var 8) (var 9)) (op2 dIxA (var 2) (cst (.int 1)))) (op2 dMulX (op2 dIxA (var 2) (cst (.int 0))) (var 7)))) (appS 4 (var 5)) skipS)))
theorem natD_app (l : List Nat) (d : Nat) : natD (l ++ [d]) = .lst ((l.map fun d : Nat => D.int (d : Int)) ++ [.int (d : Int)]) := by
  unfold natD
  rw [List.map_append]
  rfl
theorem db_step {c s d p q : Nat} {l : List Nat} (hd : d ≤ 40) (hc : c ≤ 60) (hp : p ≤ 1000) (hq : q ≤ 1000) (hl : l.length ≤ 1000) (m z1 z2 z3 z4 : Slot) (S : DS) :
    ∃ y1 y2 y3 y4, dbB [.vl (.int (c : Int)), .vl (.int (s : Int)), .vl (prt p q), m, .ow (natD l), .vl (.int (d : Int)), z1, z2, z3, z4] S = .ok (.nx [.vl (.int (c : Int)), .vl (.int (s : Int)), .vl (prt p q), m, .ow (natD (if okd c s p q d = true then l ++ [d] else l)), .vl (.int (d : Int)), y1, y2, y3, y4]) S := by
  have a1 : asgT (tgT [(tgN 6), (tgN 7)]) (callE m_ways_table (consA (var 5) (consA (var 0) nilA))) [.vl (.int (c : Int)), .vl (.int (s : Int)), .vl (prt p q), m, .ow (natD l), .vl (.int (d : Int)), z1, z2, z3, z4] S = .ok (.nx [.vl (.int (c : Int)), .vl (.int (s : Int)), .vl (prt p q), m, .ow (natD l), .vl (.int (d : Int)), .vl (.lst (rowD d c)), .vl (.int ((d ^ c : Nat) : Int)), z3, z4]) S := asgT_of (call2_of rfl rfl (v_ways_table hd hc S)) rfl
  have a2 : parS 8 9 (op1 dSumA (slcE (var 6) noP (partP (op2 dAdd (var 1) (cst (.int 1)))))) (op1 dSumA (slcE (var 6) (partP (var 1)) noP)) [.vl (.int (c : Int)), .vl (.int (s : Int)), .vl (prt p q), m, .ow (natD l), .vl (.int (d : Int)), .vl (.lst (rowD d c)), .vl (.int ((d ^ c : Nat) : Int)), z3, z4] S = .ok (.nx [.vl (.int (c : Int)), .vl (.int (s : Int)), .vl (prt p q), m, .ow (natD l), .vl (.int (d : Int)), .vl (.lst (rowD d c)), .vl (.int ((d ^ c : Nat) : Int)), .vl (.int (lowS d c s)), .vl (.int (highS d c s))]) S := par_of (sum_low rfl (op2_of rfl rfl (addI _ _))) (sum_high rfl rfl)
  have mb : (if highS d c s < lowS d c s then highS d c s else lowS d c s).natAbs < Big := by
    split
    · exact high_big hd hc s
    · exact low_big hd hc s
  have m1 := mulX (i := if highS d c s < lowS d c s then highS d c s else lowS d c s) (j := (q : Int)) mb (big_nat (big_of (by omega)))
  have m2 := mulX (i := (p : Int)) (j := ((d ^ c : Nat) : Int)) (big_nat (big_of (by omega))) (big_nat (pow_big hd hc))
  have t : valB (op2 dGe (op2 dMulX (op2 dMin2 (var 8) (var 9)) (op2 dIxA (var 2) (cst (.int 1)))) (op2 dMulX (op2 dIxA (var 2) (cst (.int 0))) (var 7))) [.vl (.int (c : Int)), .vl (.int (s : Int)), .vl (prt p q), m, .ow (natD l), .vl (.int (d : Int)), .vl (.lst (rowD d c)), .vl (.int ((d ^ c : Nat) : Int)), .vl (.int (lowS d c s)), .vl (.int (highS d c s))] S = .ok (okd c s p q d) S :=
    (val_of (op2_of (op2_of (op2_of rfl rfl rfl) (op2_of rfl rfl rfl) m1) (op2_of (op2_of rfl rfl rfl) rfl m2) rfl)).trans (by rw [min_okd (by omega)]; rfl)
  refine ⟨.vl (.lst (rowD d c)), .vl (.int ((d ^ c : Nat) : Int)), .vl (.int (lowS d c s)), .vl (.int (highS d c s)), (seq_nx a1).trans ((seq_nx a2).trans ?_)⟩
  cases h : okd c s p q d with
  | true =>
    rw [h] at t
    refine (if_t t).trans ((app_of (i := 4) (ds := l.map fun d : Nat => D.int (d : Int)) (d := .int (d : Int)) (S' := S) rfl rfl (by rw [List.length_map]; omega)).trans ?_)
    rw [if_pos rfl, natD_app]
    rfl
  | false =>
    rw [h] at t
    exact if_f t
theorem db_loop {c s n p q lo : Nat} (hc : c ≤ 60) (hp : p ≤ 1000) (hq : q ≤ 1000) (hl : lo + (n + 1 - lo) ≤ 41 ∨ n + 1 - lo = 0) (S : DS) : ∃ z1 z2 z3 z4 z5, forL (tgN 5) dbB (rngD (lo : Int) (n + 1 - lo)) [.vl (.int (c : Int)), .vl (.int (s : Int)), .vl (prt p q), .vl (.int (n : Int)), .ow (natD []), .no, .no, .no, .no, .no] S = .ok (.nx [.vl (.int (c : Int)), .vl (.int (s : Int)), .vl (prt p q), .vl (.int (n : Int)), .ow (natD (goodTo c s p q lo (n + 1 - lo))), z1, z2, z3, z4, z5]) S := by
  obtain ⟨k, hk⟩ : ∃ k, k = n + 1 - lo := ⟨_, rfl⟩
  rw [← hk] at hl ⊢
  obtain ⟨ρ', S', e1, e2, e3, z1, z2, z3, z4, z5, e4⟩ := forL_inv (t := tgN 5) (b := dbB) (ds := rngD (lo : Int) k) (fun i ρ S' => S' = S ∧ i ≤ k ∧ ∃ z1 z2 z3 z4 z5, ρ = [.vl (.int (c : Int)), .vl (.int (s : Int)), .vl (prt p q), .vl (.int (n : Int)), .ow (natD (goodTo c s p q lo i)), z1, z2, z3, z4, z5])
    (fun i x ρ S1 hx ⟨h1, h2, z1, z2, z3, z4, z5, h3⟩ => by
      subst h1 h3
      obtain ⟨hi, rfl⟩ := rngD_get hx
      rw [← Int.natCast_add]
      have q0 : lo + i ≤ 40 := by omega
      have q1 := goodTo_len c s p q lo i
      obtain ⟨y1, y2, y3, y4, qq⟩ := db_step (l := goodTo c s p q lo i) (s := s) q0 hc hp hq (by omega) (.vl (.int (n : Int))) z2 z3 z4 z5 S1
      exact ⟨_, _, S1, rfl, .inl qq, rfl, by omega, _, _, _, _, _, rfl⟩) (ρ := [.vl (.int (c : Int)), .vl (.int (s : Int)), .vl (prt p q), .vl (.int (n : Int)), .ow (natD []), .no, .no, .no, .no, .no]) (S := S) ⟨rfl, Nat.zero_le _, .no, .no, .no, .no, .no, rfl⟩
  subst e2 e4
  rw [rngD_length] at e1
  exact ⟨z1, z2, z3, z4, z5, e1⟩
/-! check_part -/
theorem low_self {p q : Nat} (hg : Nat.gcd p q = 1) : low p q = prt p q := by
  unfold low prt
  rw [hg, Nat.div_one, Nat.div_one]
theorem prt_eq (p q : Nat) : dNe (prt p q) (prt p q) = some (.bl false) := by
  have e1 : okEq (prt p q) = true := by
    unfold prt okEq
    rfl
  have e2 : PyData.eqv (prt p q).py (prt p q).py = true := SeqAt.eqv_refl_plain _ rfl
  unfold dNe dEqv
  rw [e1, e2]
  rfl
theorem v_check_part {p q : Nat} (h1 : 1 ≤ p) (h2 : p ≤ q) (h3 : q ≤ 1000) (hg : Nat.gcd p q = 1) (S : DS) : m_check_part [prt p q] S = .ok .non S := by
  have l1 : lcE (itS (var 0)) (tgN 1) yesB (callE m_is_integer (consA (var 1) nilA)) [1] [.vl (prt p q), .no] S = .ok (.lst [.bl true, .bl true]) S :=
    lc_of (S1 := S) (ds := [.int (p : Int), .int (q : Int)]) rfl (lcL_all (fun _ => D.bl true) (fun x hx => by
      rcases List.mem_cons.mp hx with rfl | hx
      · exact ⟨_, rfl, call1_of rfl (v_is_integer _ S)⟩
      · rcases List.mem_cons.mp hx with rfl | hx
        · exact ⟨_, rfl, call1_of rfl (v_is_integer _ S)⟩
        · cases hx) (by show 2 ≤ 16777216; decide))
  have t1 : orB (notB (truB (op1 (isiD "tuple") (var 0)))) (orB (valB (op2 dNe (op1 dLen (var 0)) (cst (.int 2)))) (notB (truB (op1 dAll (lcE (itS (var 0)) (tgN 1) yesB (callE m_is_integer (consA (var 1) nilA)) [1]))))) [.vl (prt p q), .no] S = .ok false S := by
    have i1 : isiD "tuple" (prt p q) = some (.bl true) := by
      show (kitB "tuple" "tuple").map D.bl = _
      rw [kit_tup_tup]
      rfl
    have n2 : dNe (.int ((2 : Nat) : Int)) (.int 2) = some (.bl false) := by
      unfold dNe dEqv
      rfl
    have b0 : truB (op1 (isiD "tuple") (var 0)) [.vl (prt p q), .no] S = .ok true S := tru_ofE (op1_of (d := prt p q) rfl i1) rfl
    have b1 : truB (op1 dAll (lcE (itS (var 0)) (tgN 1) yesB (callE m_is_integer (consA (var 1) nilA)) [1])) [.vl (prt p q), .no] S = .ok true S := tru_ofE (op1_of (g := dAll) (e := .bl true) l1 rfl) rfl
    have b2 : valB (op2 dNe (op1 dLen (var 0)) (cst (.int 2))) [.vl (prt p q), .no] S = .ok false S := val_of (op2_of (d1 := .int ((2 : Nat) : Int)) (d2 := .int 2) (op1_of (g := dLen) (d := prt p q) rfl rfl) rfl n2)
    exact (or_f (not_of b0)).trans ((or_f b2).trans (not_of b1))
  have t2 : orB (notB (chn3 dLe dLe dLe (cst (.int 1)) (op2 dIxA (var 0) (cst (.int 0))) (op2 dIxA (var 0) (cst (.int 1))) (cst (.int 1000)))) (valB (op2 dNe (callE m_quotient (consA (op2 dIxA (var 0) (cst (.int 0))) (consA (op2 dIxA (var 0) (cst (.int 1))) nilA))) (var 0))) [.vl (prt p q), .no] S = .ok false S := by
    have c1 : chn3 dLe dLe dLe (cst (.int 1)) (op2 dIxA (var 0) (cst (.int 0))) (op2 dIxA (var 0) (cst (.int 1))) (cst (.int 1000)) [.vl (prt p q), .no] S = .ok true S := by
      have x0 : op2 dIxA (var 0) (cst (.int 0)) [.vl (prt p q), .no] S = .ok (.int (p : Int)) S := op2_of rfl rfl rfl
      have x1 : op2 dIxA (var 0) (cst (.int 1)) [.vl (prt p q), .no] S = .ok (.int (q : Int)) S := op2_of rfl rfl rfl
      have d1 : decide ((1 : Int) ≤ (p : Int)) = true := decide_eq_true (by omega)
      have d2 : decide ((p : Int) ≤ (q : Int)) = true := decide_eq_true (by omega)
      have d3 : decide ((q : Int) ≤ 1000) = true := decide_eq_true (by omega)
      simp only [chn3, bd, cst, rt, x0, x1, cmpB, dLe, Option.bind_some, isBl, lift, d1, d2, d3, if_true]
    have qv := v_quotient (u := p) (d := q) (by omega) (big_of (by omega)) S
    rw [low_self hg] at qv
    exact (or_f (not_of c1)).trans (val_of (op2_of (call2_of (op2_of rfl rfl rfl) (op2_of rfl rfl rfl) qv) rfl (prt_eq p q)))
  rw [e_check_part]
  refine body_nx (ρ' := [.vl (prt p q), .no]) ?_
  rw [b_check_part]
  exact (seq_nx (if_f t1)).trans (if_f t2)
theorem last_get : ∀ (a : Nat) (r : List Nat), atI ((a :: r).map fun d : Nat => D.int (d : Int)) (-1) = some (.int (((a :: r).getLast (List.cons_ne_nil a r) : Nat) : Int)) := fun a r => by
  have e : (a :: r) = (a :: r).dropLast ++ [(a :: r).getLast (List.cons_ne_nil a r)] := (List.dropLast_concat_getLast _).symm
  conv => lhs; rw [e]
  rw [List.map_append]
  exact L2.atI_last _ _
theorem good_ret {i : Nat} {ρ : En} {l : List Nat} (h : ρ[i]? = some (.ow (natD l))) (S : DS) : iteE (truB (varB i)) (tupE (consA (op2 dIxA (varB i) (cst (.int 0))) (consA (op2 dIxA (varB i) (op1 dNeg (cst (.int 1)))) nilA))) (cst .non) ρ S = .ok (goodR l) S := by
  have v : varB i ρ S = .ok (natD l) S := by
    unfold varB slotB
    rw [h]
    rfl
  cases l with
  | nil =>
    have t : truB (varB i) ρ S = .ok false S := tru_ofE v rfl
    simp only [iteE, bd, t, Bool.false_eq_true, if_false]
    rfl
  | cons a r =>
    have t : truB (varB i) ρ S = .ok true S := tru_ofE v rfl
    have x0 : op2 dIxA (varB i) (cst (.int 0)) ρ S = .ok (.int (a : Int)) S := op2_of v (d2 := .int ((0 : Nat) : Int)) rfl (show atI _ ((0 : Nat) : Int) = _ from atI_nat rfl)
    have x1 : op2 dIxA (varB i) (op1 dNeg (cst (.int 1))) ρ S = .ok (.int (((a :: r).getLast (List.cons_ne_nil a r) : Nat) : Int)) S := op2_of v rfl (last_get a r)
    have u := tup2 x0 x1
    simp only [iteE, bd, t, if_true]
    exact u
theorem v_bounds {c s n p q lo : Nat} (hlo : lo = max 1 s) (hc : c ≤ 60) (hs : s ≤ 40) (hn1 : 1 ≤ n) (hn : n ≤ 40) (h1 : 1 ≤ p) (h2 : p ≤ q) (h3 : q ≤ 1000) (hg : Nat.gcd p q = 1) (S : DS) : m_dies_bounds [.int (c : Int), .int (s : Int), prt p q, .int (n : Int)] S = .ok (goodR (goodTo c s p q lo (n + 1 - lo))) S := by
  have a1 : exprS (callE m_check_coins (consA (var 0) nilA)) [.vl (.int (c : Int)), .vl (.int (s : Int)), .vl (prt p q), .vl (.int (n : Int)), .no, .no, .no, .no, .no, .no] S = .ok (.nx [.vl (.int (c : Int)), .vl (.int (s : Int)), .vl (prt p q), .vl (.int (n : Int)), .no, .no, .no, .no, .no, .no]) S := expr_of (call1_of rfl (v_check_coins (by omega) (by omega) S))
  have a2 : exprS (callE m_check_seen (consA (var 1) nilA)) [.vl (.int (c : Int)), .vl (.int (s : Int)), .vl (prt p q), .vl (.int (n : Int)), .no, .no, .no, .no, .no, .no] S = .ok (.nx [.vl (.int (c : Int)), .vl (.int (s : Int)), .vl (prt p q), .vl (.int (n : Int)), .no, .no, .no, .no, .no, .no]) S := expr_of (call1_of rfl (v_check_seen (by omega) (by omega) S))
  have a2b : exprS (callE m_check_part (consA (var 2) nilA)) [.vl (.int (c : Int)), .vl (.int (s : Int)), .vl (prt p q), .vl (.int (n : Int)), .no, .no, .no, .no, .no, .no] S = .ok (.nx [.vl (.int (c : Int)), .vl (.int (s : Int)), .vl (prt p q), .vl (.int (n : Int)), .no, .no, .no, .no, .no, .no]) S := expr_of (call1_of rfl (v_check_part h1 h2 h3 hg S))
  have a3 : exprS (callE m_check_dies (consA (var 3) (consA (cst (.str "most")) nilA))) [.vl (.int (c : Int)), .vl (.int (s : Int)), .vl (prt p q), .vl (.int (n : Int)), .no, .no, .no, .no, .no, .no] S = .ok (.nx [.vl (.int (c : Int)), .vl (.int (s : Int)), .vl (prt p q), .vl (.int (n : Int)), .no, .no, .no, .no, .no, .no]) S := expr_of (call2_of rfl rfl (v_check_dies _ (by omega) (by omega) S))
  have a4 : asgOS 4 (lstE nilA) [.vl (.int (c : Int)), .vl (.int (s : Int)), .vl (prt p q), .vl (.int (n : Int)), .no, .no, .no, .no, .no, .no] S = .ok (.nx [.vl (.int (c : Int)), .vl (.int (s : Int)), .vl (prt p q), .vl (.int (n : Int)), .ow (natD []), .no, .no, .no, .no, .no]) S := asgO_of lst0
  obtain ⟨z1, z2, z3, z4, z5, e1⟩ := db_loop (c := c) (n := n) (lo := lo) (s := s) hc (p := p) (q := q) (by omega) h3 (by omega) S
  have mx : dMax2 (.int 1) (.int (s : Int)) = some (.int (lo : Int)) := by rw [hlo]; exact max_one
  have a5 := (for_of (t := tgN 5) (b := dbB) (rng2_nat (a := op2 dMax2 (cst (.int 1)) (var 1)) (b := op2 dAdd (var 3) (cst (.int 1))) (ρ := [.vl (.int (c : Int)), .vl (.int (s : Int)), .vl (prt p q), .vl (.int (n : Int)), .ow (natD []), .no, .no, .no, .no, .no]) (S := S) (lo := lo) (hi := n + 1) (by omega) (by omega) (op2_of rfl rfl mx) (op2_of rfl rfl (addI _ _)))).trans e1
  have a6 := ret_of (good_ret (i := 4) (ρ := [.vl (.int (c : Int)), .vl (.int (s : Int)), .vl (prt p q), .vl (.int (n : Int)), .ow (natD (goodTo c s p q lo (n + 1 - lo))), z1, z2, z3, z4, z5]) rfl S)
  rw [e_dies_bounds]
  refine body_rt ?_
  rw [b_dies_bounds]
  exact (seq_nx a1).trans ((seq_nx a2).trans ((seq_nx a2b).trans ((seq_nx a3).trans ((seq_nx a4).trans ((seq_nx a5).trans a6)))))
end Hk13
namespace Hk13
open PySem Mini
open L2 (atI ixN atI_nat kitB)
/-! _law_likely_holds -/
theorem tab_at {n d c : Nat} (h : d ≤ n) : dIxA (.lst (tabTo c (n + 1))) (.int (d : Int)) = some (.lst (rowD d c)) := at_range (f := fun d => D.lst (rowD d c)) (by omega)
abbrev lhT : FB := (andB (valB (op2 dGt (op2 dIxA (op2 dIxA (var 7) (var 5)) (var 2)) (cst (.int 0)))) (orB (valB (op2 dIs (var 9) (cst .non))) (valB (op2 dGt (op2 dMulX (op2 dIxA (op2 dIxA (var 7) (var 5)) (var 2)) (op2 dIxA (var 8) (var 9))) (op2 dMulX (op2 dIxA (op2 dIxA (var 7) (var 9)) (var 2)) (op2 dIxA (var 8) (var 5)))))))
abbrev lhB : FS := (seqS (ifS lhT (asgS 9 (var 5)) skipS)
  (seqS (parS 11 12 (op1 dSumA (slcE (op2 dIxA (var 7) (var 5)) noP (partP (op2 dAdd (var 2) (cst (.int 1)))))) (op1 dSumA (slcE (op2 dIxA (var 7) (var 5)) (partP (var 2)) noP)))
  (extS 10 (iteE (andB (valB (op2 dGe (op2 dMulX (var 11) (op2 dIxA (var 4) (cst (.int 1)))) (op2 dMulX (op2 dIxA (var 4) (cst (.int 0))) (op2 dIxA (var 8) (var 5))))) (valB (op2 dGe (op2 dMulX (var 12) (op2 dIxA (var 4) (cst (.int 1)))) (op2 dMulX (op2 dIxA (var 4) (cst (.int 0))) (op2 dIxA (var 8) (var 5)))))) (lstE (consA (var 5) nilA)) (lstE nilA)))))
theorem lh_test {c s d n : Nat} {b : Option Nat} (hn : n ≤ 40) (hd : d ≤ n) (hc : c ≤ 60) (hs : s ≤ d) (hb : ∀ e, b = some e → s ≤ e ∧ e ≤ n) (u v m pr du g l1 l2 : Slot) (S : DS) :
    lhT [u, v, .vl (.int (s : Int)), m, pr, .vl (.int (d : Int)), du, .vl (.lst (tabTo c (n + 1))), .vl (pwD n c), .vl (bO b), g, l1, l2] S = .ok (btr c s b d) S := by
  have r : op2 dIxA (op2 dIxA (var 7) (var 5)) (var 2) [u, v, .vl (.int (s : Int)), m, pr, .vl (.int (d : Int)), du, .vl (.lst (tabTo c (n + 1))), .vl (pwD n c), .vl (bO b), g, l1, l2] S = .ok (.int (occ d c s)) S := op2_of (op2_of rfl rfl (tab_at hd)) rfl (row_at hs)
  have r0 : valB (op2 dGt (op2 dIxA (op2 dIxA (var 7) (var 5)) (var 2)) (cst (.int 0))) [u, v, .vl (.int (s : Int)), m, pr, .vl (.int (d : Int)), du, .vl (.lst (tabTo c (n + 1))), .vl (pwD n c), .vl (bO b), g, l1, l2] S = .ok (decide (0 < occ d c s)) S := val_of (op2_of r rfl rfl)
  have nn := occ_nonneg d c s hs
  unfold btr
  by_cases h0 : occ d c s = 0
  · rw [decide_eq_false (fun z => z h0), Bool.false_and]
    rw [decide_eq_false (by omega)] at r0
    exact and_f r0
  · rw [decide_eq_true h0, Bool.true_and]
    rw [decide_eq_true (by omega)] at r0
    refine (and_t r0).trans ?_
    cases b with
    | none => exact or_t (val_of (op2_of (e := .bl true) rfl rfl rfl))
    | some e =>
      obtain ⟨h1, h2⟩ := hb e rfl
      refine (or_f (val_of (op2_of (e := .bl false) rfl rfl rfl))).trans ?_
      have m1 := mulX (i := occ d c s) (j := ((e ^ c : Nat) : Int)) (occ_big (by omega) hc hs) (big_nat (pow_big (by omega) hc))
      have m2 := mulX (i := occ e c s) (j := ((d ^ c : Nat) : Int)) (occ_big (by omega) hc h1) (big_nat (pow_big (by omega) hc))
      have z : valB (op2 dGt (op2 dMulX (op2 dIxA (op2 dIxA (var 7) (var 5)) (var 2)) (op2 dIxA (var 8) (var 9))) (op2 dMulX (op2 dIxA (op2 dIxA (var 7) (var 9)) (var 2)) (op2 dIxA (var 8) (var 5)))) [u, v, .vl (.int (s : Int)), m, pr, .vl (.int (d : Int)), du, .vl (.lst (tabTo c (n + 1))), .vl (pwD n c), .vl (bO (some e)), g, l1, l2] S = .ok (decide (occ e c s * ((d ^ c : Nat) : Int) < occ d c s * ((e ^ c : Nat) : Int))) S :=
        val_of (op2_of (op2_of r (op2_of rfl rfl (pwD_at h2)) m1) (op2_of (op2_of (op2_of rfl rfl (tab_at h2)) rfl (row_at h1)) (op2_of rfl rfl (pwD_at hd)) m2) rfl)
      refine z.trans ?_
      rw [pow_cast, pow_cast]
theorem ite_t {t : FB} {a b : FE} {ρ : En} {S S1 : DS} (h : t ρ S = .ok true S1) : iteE t a b ρ S = a ρ S1 := by
  simp only [iteE, bd, h, if_true]
theorem ite_f {t : FB} {a b : FE} {ρ : En} {S S1 : DS} (h : t ρ S = .ok false S1) : iteE t a b ρ S = b ρ S1 := by
  simp only [iteE, bd, h, Bool.false_eq_true, if_false]
theorem lh_step {c s d n p q : Nat} {b : Option Nat} {l : List Nat} (hn : n ≤ 40) (hd : d ≤ n) (hc : c ≤ 60) (hs : s ≤ d) (hb : ∀ e, b = some e → s ≤ e ∧ e ≤ n) (hp : p ≤ 1000) (hq : q ≤ 1000) (hl : l.length ≤ 1000) (u v m du z1 z2 : Slot) (S : DS) :
    lhB [u, v, .vl (.int (s : Int)), m, .vl (prt p q), .vl (.int (d : Int)), du, .vl (.lst (tabTo c (n + 1))), .vl (pwD n c), .vl (bO b), .ow (natD l), z1, z2] S = .ok (.nx [u, v, .vl (.int (s : Int)), m, .vl (prt p q), .vl (.int (d : Int)), du, .vl (.lst (tabTo c (n + 1))), .vl (pwD n c), .vl (bO (bst c s b d)), .ow (natD (if okd c s p q d = true then l ++ [d] else l)), .vl (.int (lowS d c s)), .vl (.int (highS d c s))]) S := by
  have t := lh_test hn hd hc hs hb u v m (.vl (prt p q)) du (.ow (natD l)) z1 z2 S
  have a1 : ifS lhT (asgS 9 (var 5)) skipS [u, v, .vl (.int (s : Int)), m, .vl (prt p q), .vl (.int (d : Int)), du, .vl (.lst (tabTo c (n + 1))), .vl (pwD n c), .vl (bO b), .ow (natD l), z1, z2] S = .ok (.nx [u, v, .vl (.int (s : Int)), m, .vl (prt p q), .vl (.int (d : Int)), du, .vl (.lst (tabTo c (n + 1))), .vl (pwD n c), .vl (bO (bst c s b d)), .ow (natD l), z1, z2]) S := by
    unfold bst
    cases h : btr c s b d with
    | true =>
      rw [h] at t
      exact (if_t t).trans (asg_of rfl)
    | false =>
      rw [h] at t
      exact if_f t
  generalize bst c s b d = b2 at a1 ⊢
  have a2 : parS 11 12 (op1 dSumA (slcE (op2 dIxA (var 7) (var 5)) noP (partP (op2 dAdd (var 2) (cst (.int 1)))))) (op1 dSumA (slcE (op2 dIxA (var 7) (var 5)) (partP (var 2)) noP)) [u, v, .vl (.int (s : Int)), m, .vl (prt p q), .vl (.int (d : Int)), du, .vl (.lst (tabTo c (n + 1))), .vl (pwD n c), .vl (bO b2), .ow (natD l), z1, z2] S = .ok (.nx [u, v, .vl (.int (s : Int)), m, .vl (prt p q), .vl (.int (d : Int)), du, .vl (.lst (tabTo c (n + 1))), .vl (pwD n c), .vl (bO b2), .ow (natD l), .vl (.int (lowS d c s)), .vl (.int (highS d c s))]) S := par_of (sum_low (op2_of rfl rfl (tab_at hd)) (op2_of rfl rfl (addI _ _))) (sum_high (op2_of rfl rfl (tab_at hd)) rfl)
  have m1 := mulX (i := lowS d c s) (j := (q : Int)) (low_big (by omega) hc s) (big_nat (big_of (by omega)))
  have m1' := mulX (i := highS d c s) (j := (q : Int)) (high_big (by omega) hc s) (big_nat (big_of (by omega)))
  have m2 := mulX (i := (p : Int)) (j := ((d ^ c : Nat) : Int)) (big_nat (big_of (by omega))) (big_nat (pow_big (b := d) (n := c) (by omega) hc))
  have t1 : valB (op2 dGe (op2 dMulX (var 11) (op2 dIxA (var 4) (cst (.int 1)))) (op2 dMulX (op2 dIxA (var 4) (cst (.int 0))) (op2 dIxA (var 8) (var 5)))) [u, v, .vl (.int (s : Int)), m, .vl (prt p q), .vl (.int (d : Int)), du, .vl (.lst (tabTo c (n + 1))), .vl (pwD n c), .vl (bO b2), .ow (natD l), .vl (.int (lowS d c s)), .vl (.int (highS d c s))] S = .ok (decide ((p : Int) * ((d ^ c : Nat) : Int) ≤ lowS d c s * (q : Int))) S := val_of (op2_of (op2_of rfl (op2_of rfl rfl rfl) m1) (op2_of (op2_of rfl rfl rfl) (op2_of rfl rfl (pwD_at hd)) m2) rfl)
  have t2 : valB (op2 dGe (op2 dMulX (var 12) (op2 dIxA (var 4) (cst (.int 1)))) (op2 dMulX (op2 dIxA (var 4) (cst (.int 0))) (op2 dIxA (var 8) (var 5)))) [u, v, .vl (.int (s : Int)), m, .vl (prt p q), .vl (.int (d : Int)), du, .vl (.lst (tabTo c (n + 1))), .vl (pwD n c), .vl (bO b2), .ow (natD l), .vl (.int (lowS d c s)), .vl (.int (highS d c s))] S = .ok (decide ((p : Int) * ((d ^ c : Nat) : Int) ≤ highS d c s * (q : Int))) S := val_of (op2_of (op2_of rfl (op2_of rfl rfl rfl) m1') (op2_of (op2_of rfl rfl rfl) (op2_of rfl rfl (pwD_at hd)) m2) rfl)
  have t3 : andB (valB (op2 dGe (op2 dMulX (var 11) (op2 dIxA (var 4) (cst (.int 1)))) (op2 dMulX (op2 dIxA (var 4) (cst (.int 0))) (op2 dIxA (var 8) (var 5))))) (valB (op2 dGe (op2 dMulX (var 12) (op2 dIxA (var 4) (cst (.int 1)))) (op2 dMulX (op2 dIxA (var 4) (cst (.int 0))) (op2 dIxA (var 8) (var 5))))) [u, v, .vl (.int (s : Int)), m, .vl (prt p q), .vl (.int (d : Int)), du, .vl (.lst (tabTo c (n + 1))), .vl (pwD n c), .vl (bO b2), .ow (natD l), .vl (.int (lowS d c s)), .vl (.int (highS d c s))] S = .ok (okd c s p q d) S := by
    unfold okd
    generalize decide ((p : Int) * ((d ^ c : Nat) : Int) ≤ lowS d c s * (q : Int)) = k1 at t1 ⊢
    cases k1 with
    | false => rw [Bool.false_and]; exact and_f t1
    | true => rw [Bool.true_and]; exact (and_t t1).trans t2
  refine (seq_nx a1).trans ((seq_nx a2).trans ?_)
  cases h : okd c s p q d with
  | true =>
    rw [h] at t3
    have x := (ite_t (a := lstE (consA (var 5) nilA)) (b := lstE nilA) t3).trans (lst1 (f := var 5) (d := .int (d : Int)) rfl)
    refine (ext_of (i := 10) (ds := l.map fun d : Nat => D.int (d : Int)) rfl x (by rw [List.length_map, List.length_singleton]; omega)).trans ?_
    rw [if_pos rfl, natD_app]
    rfl
  | false =>
    rw [h] at t3
    have x := (ite_f (a := lstE (consA (var 5) nilA)) (b := lstE nilA) t3).trans lst0
    refine (ext_of (i := 10) (ds := l.map fun d : Nat => D.int (d : Int)) rfl x (by rw [List.length_map, List.length_nil]; omega)).trans ?_
    rw [List.append_nil]
    rfl
theorem lh_loop {c s n p q lo : Nat} (hn : n ≤ 40) (hc : c ≤ 60) (hlo : s ≤ lo) (hp : p ≤ 1000) (hq : q ≤ 1000) (u v : Slot) (S : DS) : ∃ z1 z2 z3, forL (tgN 5) lhB (rngD (lo : Int) (n + 1 - lo)) [u, v, .vl (.int (s : Int)), .vl (.int (n : Int)), .vl (prt p q), .no, .no, .vl (.lst (tabTo c (n + 1))), .vl (pwD n c), .vl (bO none), .ow (natD []), .no, .no] S = .ok (.nx [u, v, .vl (.int (s : Int)), .vl (.int (n : Int)), .vl (prt p q), z1, .no, .vl (.lst (tabTo c (n + 1))), .vl (pwD n c), .vl (bO (bstTo c s lo (n + 1 - lo))), .ow (natD (goodTo c s p q lo (n + 1 - lo))), z2, z3]) S := by
  obtain ⟨k, hk⟩ : ∃ k, k = n + 1 - lo := ⟨_, rfl⟩
  rw [← hk]
  obtain ⟨ρ', S', e1, e2, e3, z1, z2, z3, e4⟩ := forL_inv (t := tgN 5) (b := lhB) (ds := rngD (lo : Int) k) (fun i ρ S' => S' = S ∧ i ≤ k ∧ ∃ z1 z2 z3, ρ = [u, v, .vl (.int (s : Int)), .vl (.int (n : Int)), .vl (prt p q), z1, .no, .vl (.lst (tabTo c (n + 1))), .vl (pwD n c), .vl (bO (bstTo c s lo i)), .ow (natD (goodTo c s p q lo i)), z2, z3])
    (fun i x ρ S1 hx ⟨h1, h2, z1, z2, z3, h3⟩ => by
      subst h1 h3
      obtain ⟨hi, rfl⟩ := rngD_get hx
      rw [← Int.natCast_add]
      have q0 : lo + i ≤ n := by omega
      have q1 := goodTo_len c s p q lo i
      have q2 : ∀ e, bstTo c s lo i = some e → s ≤ e ∧ e ≤ n := fun e he => by have := bstTo_in c s lo i e he; omega
      exact ⟨_, _, S1, rfl, .inl (lh_step (l := goodTo c s p q lo i) hn q0 hc (by omega) q2 hp hq (by omega) u v (.vl (.int (n : Int))) .no z2 z3 S1), rfl, by omega, _, _, _, rfl⟩) (ρ := [u, v, .vl (.int (s : Int)), .vl (.int (n : Int)), .vl (prt p q), .no, .no, .vl (.lst (tabTo c (n + 1))), .vl (pwD n c), .vl (bO none), .ow (natD []), .no, .no]) (S := S) ⟨rfl, Nat.zero_le _, .no, .no, .no, rfl⟩
  subst e2 e4
  rw [rngD_length] at e1
  exact ⟨z1, z2, z3, e1⟩
theorem bO_gd {b : Option Nat} (h : ∀ e, b = some e → e ≤ 1000) : Gd 0 0 (bO b) := by
  cases b with
  | none => exact gd_non
  | some e =>
    have := h e rfl
    have z : (1001 : Nat) ≤ 10 ^ 500 := by decide +kernel
    exact gd_int (by rw [Int.natAbs_natCast]; omega)
theorem gd_tup2 {h n : Nat} {d e : D} (a : Gd h n d) (b : Gd h n e) : Gd (h + 1) (2 * (n + 1)) (.tup [d, e]) := gd_tup (ds := [d, e]) fun x hx => by
  rcases List.mem_cons.mp hx with rfl | hx
  · exact a
  · rcases List.mem_cons.mp hx with rfl | hx
    · exact b
    · cases hx
theorem goodR_gd {l : List Nat} (h : ∀ e ∈ l, e ≤ 1000) : Gd 1 2 (goodR l) := by
  have z : (1001 : Nat) ≤ 10 ^ 500 := by decide +kernel
  cases l with
  | nil => exact gd_non.mono (by decide) (by decide)
  | cons a r =>
    have h1 := h a List.mem_cons_self
    have h2 := h _ (List.getLast_mem (List.cons_ne_nil a r))
    exact gd_tup2 (gd_int (by rw [Int.natAbs_natCast]; omega)) (gd_int (by rw [Int.natAbs_natCast]; omega))
theorem v_draw {S : DS} (v : Vs S) {n : Nat} (h : 0 < n) (hb : n < 10000) : ∃ (r : Nat) (S' : DS), m__law_draw [.st, .int (n : Int)] S = .ok (.int (r : Int)) S' ∧ r < n ∧ Vs S' := by
  obtain ⟨r, S', e, h1, h2, v'⟩ := draw_ok v (n := (n : Int)) (by omega) (by omega)
  obtain ⟨k, rfl⟩ := Int.eq_ofNat_of_zero_le h1
  exact ⟨k, S', e, by omega, v'⟩
theorem v_pick {S : DS} (v : Vs S) {ds : List D} (h : ds ≠ []) (hl : ds.length ≤ 1000) : ∃ (x : D) (S' : DS), m__law_pick [.st, .lst ds] S = .ok x S' ∧ x ∈ ds ∧ Vs S' := pick_ok v (.inl rfl) h (by omega)
/-- a part that the checks let in -/
def Prt (d : D) : Prop := ∃ p q : Nat, d = prt p q ∧ 1 ≤ p ∧ p ≤ q ∧ q ≤ 1000 ∧ Nat.gcd p q = 1
theorem low_prt {u d : Nat} (hu : 1 ≤ u) (h : u ≤ d) (hd : d ≤ 1000) : Prt (low u d) := by
  have g0 : 0 < Nat.gcd u d := Nat.gcd_pos_of_pos_left d hu
  refine ⟨u / Nat.gcd u d, d / Nat.gcd u d, rfl, ?_, Nat.div_le_div_right h, Nat.le_trans (Nat.div_le_self _ _) hd, (by rw [Nat.gcd_div (Nat.gcd_dvd_left u d) (Nat.gcd_dvd_right u d), Nat.div_self g0])⟩
  exact Nat.div_pos (Nat.gcd_le_left d hu) g0
theorem max_lst {s lo : Nat} (h : lo = max 1 s) : dMax (.lst [.int 1, .int (s : Int)]) = some (.int (lo : Int)) := by
  have e : (if (s : Int) > 1 then (s : Int) else 1) = (lo : Int) := by split <;> omega
  show some (D.int (if (s : Int) > 1 then (s : Int) else 1)) = _
  rw [e]
theorem v_likely_holds {S : DS} (v : Vs S) {c s n : Nat} (hc : c ≤ 60) (hs : s ≤ 40) (hn1 : 1 ≤ n) (hn : n ≤ 40) : ∃ S', m__law_likely_holds [.st, .int (c : Int), .int (s : Int), .int (n : Int)] S = .ok (.bl true) S' ∧ Vs S' := by
  obtain ⟨lo, hlo⟩ : ∃ lo, lo = max 1 s := ⟨_, rfl⟩
  have a1 : asgT (tgT [(tgN 7), (tgN 8)]) (callE m__law_table (consA (var 1) (consA (var 3) nilA))) [.vl .st, .vl (.int (c : Int)), .vl (.int (s : Int)), .vl (.int (n : Int)), .no, .no, .no, .no, .no, .no, .no, .no, .no] S = .ok (.nx [.vl .st, .vl (.int (c : Int)), .vl (.int (s : Int)), .vl (.int (n : Int)), .no, .no, .no, .vl (.lst (tabTo c (n + 1))), .vl (pwD n c), .no, .no, .no, .no]) S := asgT_of (call2_of rfl rfl (v_table hn hc S)) rfl
  -- the part
  obtain ⟨r, S1, d1, d2, v1⟩ := v_draw v (n := 20) (by decide) (by decide)
  obtain ⟨y, S2, k1, k2, v2⟩ := v_pick v1 (ds := [.int 21, .int 40, .int 100, .int 1000]) (by simp) (by simp)
  obtain ⟨w, hw, w1, w2⟩ : ∃ w : Nat, y = .int (w : Int) ∧ 21 ≤ w ∧ w ≤ 1000 := by
    simp only [List.mem_cons, List.not_mem_nil, or_false] at k2
    rcases k2 with rfl | rfl | rfl | rfl
    · exact ⟨21, rfl, by decide, by decide⟩
    · exact ⟨40, rfl, by decide, by decide⟩
    · exact ⟨100, rfl, by decide, by decide⟩
    · exact ⟨1000, rfl, by decide, by decide⟩
  subst hw
  have a2 : asgS 4 (callE m__law_lowest (consA (op2 dAdd (cst (.int 1)) (callE m__law_draw (consA (var 0) (consA (cst (.int 20)) nilA)))) (consA (callE m__law_pick (consA (var 0) (consA (lstE (consA (cst (.int 21)) (consA (cst (.int 40)) (consA (cst (.int 100)) (consA (cst (.int 1000)) nilA))))) nilA))) nilA))) [.vl .st, .vl (.int (c : Int)), .vl (.int (s : Int)), .vl (.int (n : Int)), .no, .no, .no, .vl (.lst (tabTo c (n + 1))), .vl (pwD n c), .no, .no, .no, .no] S = .ok (.nx [.vl .st, .vl (.int (c : Int)), .vl (.int (s : Int)), .vl (.int (n : Int)), .vl (low (1 + r) w), .no, .no, .vl (.lst (tabTo c (n + 1))), .vl (pwD n c), .no, .no, .no, .no]) S2 :=
    asg_of (call2_of (d := .int ((1 + r : Nat) : Int)) (op2_of rfl (call2_of rfl rfl d1) ((addI _ _).trans (by rw [Int.natCast_add]; rfl))) (call2_of rfl (lst4 rfl rfl rfl rfl) k1) (v_lowest (by omega) (big_of (by omega)) S2))
  have p0 := low_prt (u := 1 + r) (d := w) (by omega) (by omega) w2
  obtain ⟨x, S3, j1, j2, v3⟩ := v_pick v2 (ds := [low (1 + r) w, low (1 + r) w, prt 1 1, prt 1 1000, prt 999 1000, prt 1 2]) (by simp) (by simp)
  have hx : Prt x := by
    simp only [List.mem_cons, List.not_mem_nil, or_false] at j2
    rcases j2 with rfl | rfl | rfl | rfl | rfl | rfl
    · exact p0
    · exact p0
    · exact ⟨1, 1, rfl, by decide, by decide, by decide, by decide⟩
    · exact ⟨1, 1000, rfl, by decide, by decide, by decide, by decide⟩
    · exact ⟨999, 1000, rfl, by decide, by decide, by decide, by decide +kernel⟩
    · exact ⟨1, 2, rfl, by decide, by decide, by decide, by decide⟩
  obtain ⟨p, q, rfl, g1, g2, g3, g4⟩ := hx
  have a3 : asgS 4 (callE m__law_pick (consA (var 0) (consA (lstE (consA (var 4) (consA (var 4) (consA (tupE (consA (cst (.int 1)) (consA (cst (.int 1)) nilA))) (consA (tupE (consA (cst (.int 1)) (consA (cst (.int 1000)) nilA))) (consA (tupE (consA (cst (.int 999)) (consA (cst (.int 1000)) nilA))) (consA (tupE (consA (cst (.int 1)) (consA (cst (.int 2)) nilA))) nilA))))))) nilA))) [.vl .st, .vl (.int (c : Int)), .vl (.int (s : Int)), .vl (.int (n : Int)), .vl (low (1 + r) w), .no, .no, .vl (.lst (tabTo c (n + 1))), .vl (pwD n c), .no, .no, .no, .no] S2 = .ok (.nx [.vl .st, .vl (.int (c : Int)), .vl (.int (s : Int)), .vl (.int (n : Int)), .vl (prt p q), .no, .no, .vl (.lst (tabTo c (n + 1))), .vl (pwD n c), .no, .no, .no, .no]) S3 :=
    asg_of (call2_of rfl (lst6 rfl rfl (tup2 rfl rfl) (tup2 rfl rfl) (tup2 rfl rfl) (tup2 rfl rfl)) j1)
  have a4 : parVO 9 10 (cst .non) (lstE nilA) [.vl .st, .vl (.int (c : Int)), .vl (.int (s : Int)), .vl (.int (n : Int)), .vl (prt p q), .no, .no, .vl (.lst (tabTo c (n + 1))), .vl (pwD n c), .no, .no, .no, .no] S3 = .ok (.nx [.vl .st, .vl (.int (c : Int)), .vl (.int (s : Int)), .vl (.int (n : Int)), .vl (prt p q), .no, .no, .vl (.lst (tabTo c (n + 1))), .vl (pwD n c), .vl (bO none), .ow (natD []), .no, .no]) S3 := by
    simp only [parVO, bd, lst0, cst, rt]
    rfl
  obtain ⟨z1, z2, z3, e1⟩ := lh_loop (c := c) (n := n) (lo := lo) (s := s) (p := p) (q := q) hn hc (by omega) (by omega) g3 (.vl .st) (.vl (.int (c : Int))) S3
  have a5 := (for_of (t := tgN 5) (b := lhB) (rng2_nat (a := op1 dMax (lstE (consA (cst (.int 1)) (consA (var 2) nilA)))) (b := op2 dAdd (var 3) (cst (.int 1))) (ρ := [.vl .st, .vl (.int (c : Int)), .vl (.int (s : Int)), .vl (.int (n : Int)), .vl (prt p q), .no, .no, .vl (.lst (tabTo c (n + 1))), .vl (pwD n c), .vl (bO none), .ow (natD []), .no, .no]) (S := S3) (lo := lo) (hi := n + 1) (by omega) (by omega) (op1_of (lst2 rfl rfl) (max_lst hlo)) (op2_of rfl rfl (addI _ _)))).trans e1
  have a6 := asg_of (i := 6) (good_ret (i := 10) (ρ := [.vl .st, .vl (.int (c : Int)), .vl (.int (s : Int)), .vl (.int (n : Int)), .vl (prt p q), z1, .no, .vl (.lst (tabTo c (n + 1))), .vl (pwD n c), .vl (bO (bstTo c s lo (n + 1 - lo))), .ow (natD (goodTo c s p q lo (n + 1 - lo))), z2, z3]) rfl S3)
  have gg := gd_lst2 ((bO_gd (b := bstTo c s lo (n + 1 - lo)) (fun e he => by have := bstTo_in c s lo _ e he; omega)).mono (h' := 1) (n' := 2) (by decide) (by decide)) (goodR_gd (l := goodTo c s p q lo (n + 1 - lo)) (fun e he => by have := goodTo_in c s p q lo _ e he; omega))
  have a7 : retS (callE m__law_same (consA (lstE (consA (callE m_likeliest_dies (consA (var 1) (consA (var 2) (consA (var 3) nilA)))) (consA (callE m_dies_bounds (consA (var 1) (consA (var 2) (consA (var 4) (consA (var 3) nilA))))) nilA))) (consA (lstE (consA (var 9) (consA (var 6) nilA))) nilA))) [.vl .st, .vl (.int (c : Int)), .vl (.int (s : Int)), .vl (.int (n : Int)), .vl (prt p q), z1, .vl (goodR (goodTo c s p q lo (n + 1 - lo))), .vl (.lst (tabTo c (n + 1))), .vl (pwD n c), .vl (bO (bstTo c s lo (n + 1 - lo))), .ow (natD (goodTo c s p q lo (n + 1 - lo))), z2, z3] S3 = .ok (.rt (.bl true)) S3 :=
    ret_of (call2_of (lst2 (call3_of rfl rfl rfl (v_likeliest hlo hc hs hn1 hn S3)) (call4_of rfl rfl rfl rfl (v_bounds hlo hc hs hn1 hn g1 g2 g3 g4 S3))) (lst2 rfl rfl) (v_same gg (by decide) (by decide) S3))
  refine ⟨S3, ?_, v3⟩
  rw [e__law_likely_holds]
  refine body_rt ?_
  rw [b__law_likely_holds]
  exact (seq_nx a1).trans ((seq_nx a2).trans ((seq_nx a3).trans ((seq_nx a4).trans ((seq_nx a5).trans ((seq_nx a6).trans a7)))))
end Hk13
namespace Hk13
open PySem Mini
open L2 (atI ixN atI_nat kitB)
/-! least_for -/
def okL (d w c : Nat) : Bool := decide ((w : Int) * ((d ^ c : Nat) : Int) ≤ ((meanN d c : Nat) : Int))
abbrev lfB : FS := (seqS (asgT (tgT [(tgN 3), (tgN 4)]) (callE m_ways_table (consA (var 0) (consA (var 2) nilA))))
  (ifS (valB (op2 dGe (op1 dSumA (lcE (itEn (var 3)) (tgT [(tgN 5), (tgN 6)]) yesB (op2 dMulX (var 5) (var 6)) [5, 6])) (op2 dMulX (var 1) (var 4)))) (retS (var 2)) skipS))
theorem lf_step {d w c : Nat} (h : 1 ≤ d) (hd : d ≤ 40) (hw : w ≤ 40) (hc : c ≤ 60) (z1 z2 : Slot) (S : DS) :
    lfB [.vl (.int (d : Int)), .vl (.int (w : Int)), .vl (.int (c : Int)), z1, z2, .no, .no] S = if okL d w c = true then .ok (.rt (.int (c : Int))) S else .ok (.nx [.vl (.int (d : Int)), .vl (.int (w : Int)), .vl (.int (c : Int)), .vl (.lst (rowD d c)), .vl (.int ((d ^ c : Nat) : Int)), .no, .no]) S := by
  have a1 : asgT (tgT [(tgN 3), (tgN 4)]) (callE m_ways_table (consA (var 0) (consA (var 2) nilA))) [.vl (.int (d : Int)), .vl (.int (w : Int)), .vl (.int (c : Int)), z1, z2, .no, .no] S = .ok (.nx [.vl (.int (d : Int)), .vl (.int (w : Int)), .vl (.int (c : Int)), .vl (.lst (rowD d c)), .vl (.int ((d ^ c : Nat) : Int)), .no, .no]) S := asgT_of (call2_of rfl rfl (v_ways_table hd hc S)) rfl
  have a4 := lc_of (it := itEn (var 3)) (vs := [5, 6]) (ρ := [.vl (.int (d : Int)), .vl (.int (w : Int)), .vl (.int (c : Int)), .vl (.lst (rowD d c)), .vl (.int ((d ^ c : Nat) : Int)), .no, .no]) rfl (lc_mean hd hc 5 6 [.vl (.int (d : Int)), .vl (.int (w : Int)), .vl (.int (c : Int)), .vl (.lst (rowD d c)), .vl (.int ((d ^ c : Nat) : Int)), .no, .no] S (by show 5 < 7; decide) (by show 6 < 7; decide) (by decide))
  have a5 := op1_of (g := dSumA) a4 ((sum_of (gMul_row d c)).trans (by rw [mean_sum h]))
  have m := mulX (i := (w : Int)) (j := ((d ^ c : Nat) : Int)) (big_nat (big_of (by omega))) (big_nat (pow_big hd hc))
  have t : valB (op2 dGe (op1 dSumA (lcE (itEn (var 3)) (tgT [(tgN 5), (tgN 6)]) yesB (op2 dMulX (var 5) (var 6)) [5, 6])) (op2 dMulX (var 1) (var 4))) [.vl (.int (d : Int)), .vl (.int (w : Int)), .vl (.int (c : Int)), .vl (.lst (rowD d c)), .vl (.int ((d ^ c : Nat) : Int)), .no, .no] S = .ok (okL d w c) S := val_of (op2_of a5 (op2_of rfl rfl m) rfl)
  refine (seq_nx a1).trans ?_
  cases k : okL d w c with
  | true =>
    rw [k] at t
    rw [if_pos rfl]
    exact (if_t t).trans (ret_of rfl)
  | false =>
    rw [k] at t
    rw [if_neg (by decide)]
    exact if_f t
theorem seq_rt {a b : FS} {ρ : En} {S S' : DS} {d : D} (h : a ρ S = .ok (.rt d) S') : seqS a b ρ S = .ok (.rt d) S' := by
  simp only [seqS, bd, h, rt]
theorem lf_wanted {d w : Nat} (hw : w ≤ 40) (S : DS) : ifS (orB (notB (truB (callE m_is_integer (consA (var 1) nilA)))) (notB (valB (chn2 dLe dLe (cst (.int 0)) (var 1) (cst (.int 40)))))) neverS skipS [.vl (.int (d : Int)), .vl (.int (w : Int)), .no, .no, .no, .no, .no] S = .ok (.nx [.vl (.int (d : Int)), .vl (.int (w : Int)), .no, .no, .no, .no, .no]) S := by
  have h1 : decide ((0 : Int) ≤ (w : Int)) = true := decide_eq_true (by omega)
  have h2 : decide ((w : Int) ≤ 40) = true := decide_eq_true (by omega)
  have t : valB (chn2 dLe dLe (cst (.int 0)) (var 1) (cst (.int 40))) [.vl (.int (d : Int)), .vl (.int (w : Int)), .no, .no, .no, .no, .no] S = .ok true S := by
    simp only [valB, chn2, bd, cst, rt, var, slot, lift, List.getElem?_cons_zero, List.getElem?_cons_succ, dLe, h1, h2, isBl]
  exact if_f ((or_f (not_of (tru_ofE (call1_of rfl (v_is_integer _ S)) rfl))).trans (not_of t))
theorem lf_it (d w : Nat) (S : DS) : itR1 (op2 dAdd (cst (.int 60)) (cst (.int 1))) [.vl (.int (d : Int)), .vl (.int (w : Int)), .no, .no, .no, .no, .no] S = .ok (rngD 0 61) S := rng_nat (n := 61) (by decide) (op2_of rfl rfl (addI _ _))
theorem lf_loop {d w : Nat} (h : 1 ≤ d) (hd : d ≤ 40) (hw : w ≤ 40) (S : DS) : (∃ ρ', forL (tgN 2) lfB (rngD 0 61) [.vl (.int (d : Int)), .vl (.int (w : Int)), .no, .no, .no, .no, .no] S = .ok (.nx ρ') S ∧ ∀ j, j < 61 → okL d w j = false) ∨ ∃ c, forL (tgN 2) lfB (rngD 0 61) [.vl (.int (d : Int)), .vl (.int (w : Int)), .no, .no, .no, .no, .no] S = .ok (.rt (.int ((c : Nat) : Int))) S ∧ c < 61 ∧ okL d w c = true ∧ ∀ j, j < c → okL d w j = false := by
  rcases forL_ret (t := tgN 2) (b := lfB) (ds := rngD 0 61) (fun i ρ S' => S' = S ∧ (∀ j, j < i → okL d w j = false) ∧ ∃ z0 z1 z2, ρ = [.vl (.int (d : Int)), .vl (.int (w : Int)), z0, z1, z2, .no, .no]) (fun v S' => S' = S ∧ ∃ c, c < 61 ∧ v = .int ((c : Nat) : Int) ∧ okL d w c = true ∧ ∀ j, j < c → okL d w j = false)
    (fun i x ρ S1 hx ⟨h1, h2, z0, z1, z2, h3⟩ => by
      subst h1 h3
      obtain ⟨hi, rfl⟩ := rngD_get hx
      rw [Int.zero_add]
      refine ⟨_, rfl, ?_⟩
      have st := lf_step h hd hw (c := i) (by omega) z1 z2 S1
      cases k : okL d w i with
      | true =>
        rw [k, if_pos rfl] at st
        exact .inr ⟨_, _, st, rfl, i, hi, rfl, k, h2⟩
      | false =>
        rw [k, if_neg (by decide)] at st
        refine .inl ⟨_, _, st, rfl, fun j hj => ?_, _, _, _, rfl⟩
        by_cases e : j = i
        · rw [e]; exact k
        · exact h2 j (by omega)) (ρ := [.vl (.int (d : Int)), .vl (.int (w : Int)), .no, .no, .no, .no, .no]) (S := S) ⟨rfl, (fun j hj => by omega), .no, .no, .no, rfl⟩ with ⟨ρ', S', e1, e2, e3, z0, z1, z2, e4⟩ | ⟨v, S', e1, e2, c, e3, e4, e5, e6⟩
  · subst e2
    rw [rngD_length] at e3
    exact .inl ⟨ρ', e1, e3⟩
  · subst e2 e4
    exact .inr ⟨c, e1, e3, e5, e6⟩
theorem v_least_for {d w : Nat} (h : 1 ≤ d) (hd : d ≤ 40) (hw : w ≤ 40) (S : DS) : m_least_for [.int (d : Int), .int (w : Int)] S = .ok (bO ((List.range 61).find? (okL d w))) S := by
  have a1 : exprS (callE m_check_dies (appA (consA (var 0) nilA) [.str "dies"])) [.vl (.int (d : Int)), .vl (.int (w : Int)), .no, .no, .no, .no, .no] S = .ok (.nx [.vl (.int (d : Int)), .vl (.int (w : Int)), .no, .no, .no, .no, .no]) S := expr_of (callD1_of rfl (v_check_dies _ (by omega) (by omega) S))
  have a2 := lf_wanted (d := d) hw S
  have it := lf_it d w S
  rcases lf_loop h hd hw S with ⟨ρ', e1, e3⟩ | ⟨c, e1, e3, e5, e6⟩
  · have f : (List.range 61).find? (okL d w) = none := by
      rw [List.find?_eq_none]
      intro j hj
      rw [e3 j (List.mem_range.mp hj)]
      decide
    rw [f, e_least_for]
    refine body_rt ?_
    rw [b_least_for]
    exact (seq_nx a1).trans ((seq_nx a2).trans ((seq_nx ((for_of it).trans e1)).trans (ret_of rfl)))
  · have f : (List.range 61).find? (okL d w) = some c := by
      rw [List.find?_range_eq_some]
      exact ⟨e5, List.mem_range.mpr e3, fun j hj => by rw [e6 j hj]; rfl⟩
    rw [f, e_least_for]
    refine body_rt ?_
    rw [b_least_for]
    exact (seq_nx a1).trans ((seq_nx a2).trans (seq_rt ((for_of it).trans e1)))
theorem head_of {l : List Nat} {i : Nat} {ρ : En} (hv : ρ[i]? = some (.vl (natD l))) (S : DS) : iteE (truB (var i)) (op2 dIxA (var i) (cst (.int 0))) (cst .non) ρ S = .ok (bO l.head?) S := by
  have v : var i ρ S = .ok (natD l) S := by
    unfold var slot
    rw [hv]
    rfl
  cases l with
  | nil => exact (ite_f (tru_ofE v rfl)).trans rfl
  | cons a r => exact (ite_t (tru_ofE v rfl)).trans (op2_of v (d2 := .int ((0 : Nat) : Int)) rfl (show atI _ ((0 : Nat) : Int) = _ from atI_nat rfl))
theorem lc_least {d w : Nat} (h : 1 ≤ d) (hd : d ≤ 40) (hw : w ≤ 40) (S : DS) : lcL (tgN 3) (valB (op2 dGe (callE m__law_shown (consA (var 0) (consA (var 3) nilA))) (op2 dMulX (var 1) (callE m__law_power (consA (var 0) (consA (var 3) nilA)))))) (var 3) (rngD 0 61) [] [.vl (.int (d : Int)), .vl (.int (w : Int)), .no, .no] S = .ok (((List.range 61).filter (okL d w)).map fun c : Nat => D.int (c : Int)) S := by
  have z := lcL_map (t := tgN 3) (test := valB (op2 dGe (callE m__law_shown (consA (var 0) (consA (var 3) nilA))) (op2 dMulX (var 1) (callE m__law_power (consA (var 0) (consA (var 3) nilA)))))) (elt := var 3) (ρ := [.vl (.int (d : Int)), .vl (.int (w : Int)), .no, .no]) (S := S) (fun x => match x with
    | .int c => okL d w c.toNat
    | _ => false) id (ds := rngD 0 61) (acc := []) (fun x hx => by
      obtain ⟨c, hc0⟩ := List.getElem?_of_mem hx
      obtain ⟨hc, rfl⟩ := rngD_get hc0
      rw [Int.zero_add]
      have m := mulX (i := (w : Int)) (j := ((d ^ c : Nat) : Int)) (big_nat (big_of (by omega))) (big_nat (pow_big hd (by omega)))
      refine ⟨_, rfl, ?_, fun _ => rfl⟩
      exact val_of (op2_of (call2_of rfl rfl (v_shown h hd (by omega) S)) (op2_of rfl (call2_of rfl rfl (v_power hd (by omega) S)) m) rfl)) (by rw [rngD_length]; decide)
  rw [z, List.nil_append, rngD_map, List.filter_map, List.map_map]
  congr 1
theorem v_least_holds {d w : Nat} (h : 1 ≤ d) (hd : d ≤ 40) (hw : w ≤ 40) (S : DS) : m__law_least_holds [.int (d : Int), .int (w : Int)] S = .ok (.bl true) S := by
  have a1 : asgS 2 (lcE (itR1 (cst (.int 61))) (tgN 3) (valB (op2 dGe (callE m__law_shown (consA (var 0) (consA (var 3) nilA))) (op2 dMulX (var 1) (callE m__law_power (consA (var 0) (consA (var 3) nilA)))))) (var 3) [3]) [.vl (.int (d : Int)), .vl (.int (w : Int)), .no, .no] S = .ok (.nx [.vl (.int (d : Int)), .vl (.int (w : Int)), .vl (natD ((List.range 61).filter (okL d w))), .no]) S := asg_of (lc_of (rng_nat (S1 := S) (n := 61) (by decide) rfl) (lc_least h hd hw S))
  have hh := head_of (l := (List.range 61).filter (okL d w)) (i := 2) (ρ := [.vl (.int (d : Int)), .vl (.int (w : Int)), .vl (natD ((List.range 61).filter (okL d w))), .no]) rfl S
  rw [List.head?_filter] at hh
  have g : Gd 0 0 (bO ((List.range 61).find? (okL d w))) := bO_gd fun e he => by
    have := List.mem_range.mp (List.mem_of_find?_eq_some he)
    omega
  rw [e__law_least_holds]
  refine body_rt ?_
  rw [b__law_least_holds]
  exact (seq_nx a1).trans (ret_of (call2_of (call2_of rfl rfl (v_least_for h hd hw S)) hh (v_same g (by decide) (by decide) S)))
/-! chance_new -/
abbrev cnB : FS := (seqS (augS dMul 4 (var 1)) (augS dMul 5 (var 0)))
theorem aug_of {f : D → D → Option D} {i : Nat} {a : FE} {ρ : En} {S S1 : DS} {x y z : D} (h0 : slot ρ i = some x) (h1 : a ρ S = .ok y S1) (h2 : f x y = some z) : augS f i a ρ S = .ok (.nx (setV i z ρ)) S1 := by
  simp only [augS, bd, h0, lift, rt, h1, h2]
theorem cn_step {d s i : Nat} (hd : d ≤ 40) (hs : s ≤ d) (hi : i < 60) (u k : Slot) (S : DS) : cnB [.vl (.int (d : Int)), .vl (.int (s : Int)), u, k, .vl (.int ((s ^ i : Nat) : Int)), .vl (.int ((d ^ i : Nat) : Int))] S = .ok (.nx [.vl (.int (d : Int)), .vl (.int (s : Int)), u, k, .vl (.int ((s ^ (i + 1) : Nat) : Int)), .vl (.int ((d ^ (i + 1) : Nat) : Int))]) S := by
  have m1 := mulI (i := ((s ^ i : Nat) : Int)) (j := (s : Int)) (big_nat (pow_big (by omega) (by omega))) (big_nat (big_of (by omega)))
  have m2 := mulI (i := ((d ^ i : Nat) : Int)) (j := (d : Int)) (big_nat (pow_big hd (by omega))) (big_nat (big_of (by omega)))
  have e1 : ((s ^ (i + 1) : Nat) : Int) = ((s ^ i : Nat) : Int) * (s : Int) := by rw [Nat.pow_succ]; exact Int.natCast_mul _ _
  have e2 : ((d ^ (i + 1) : Nat) : Int) = ((d ^ i : Nat) : Int) * (d : Int) := by rw [Nat.pow_succ]; exact Int.natCast_mul _ _
  rw [e1, e2]
  exact (seq_nx (aug_of rfl rfl m1)).trans (aug_of rfl rfl m2)
theorem v_chance_new {d s m : Nat} (h : 1 ≤ d) (hd : d ≤ 40) (hs : s ≤ d) (hm : m ≤ 60) (S : DS) : m_chance_new [.int (d : Int), .int (s : Int), .int (m : Int)] S = .ok (low (d ^ m - s ^ m) (d ^ m)) S := by
  have a1 : exprS (callE m_check_dies (appA (consA (var 0) nilA) [.str "dies"])) [.vl (.int (d : Int)), .vl (.int (s : Int)), .vl (.int (m : Int)), .no, .no, .no] S = .ok (.nx [.vl (.int (d : Int)), .vl (.int (s : Int)), .vl (.int (m : Int)), .no, .no, .no]) S := expr_of (callD1_of rfl (v_check_dies _ (by omega) (by omega) S))
  have a2 : exprS (callE m_check_seen (consA (var 1) nilA)) [.vl (.int (d : Int)), .vl (.int (s : Int)), .vl (.int (m : Int)), .no, .no, .no] S = .ok (.nx [.vl (.int (d : Int)), .vl (.int (s : Int)), .vl (.int (m : Int)), .no, .no, .no]) S := expr_of (call1_of rfl (v_check_seen (by omega) (by omega) S))
  have a3 : exprS (callE m_check_more (consA (var 0) (consA (var 1) (consA (var 2) nilA)))) [.vl (.int (d : Int)), .vl (.int (s : Int)), .vl (.int (m : Int)), .no, .no, .no] S = .ok (.nx [.vl (.int (d : Int)), .vl (.int (s : Int)), .vl (.int (m : Int)), .no, .no, .no]) S := expr_of (call3_of rfl rfl rfl (v_check_more (by omega) (by omega) (by omega) S))
  have a4 : asgT (tgT [(tgN 4), (tgN 5)]) (tupE (consA (cst (.int 1)) (consA (cst (.int 1)) nilA))) [.vl (.int (d : Int)), .vl (.int (s : Int)), .vl (.int (m : Int)), .no, .no, .no] S = .ok (.nx [.vl (.int (d : Int)), .vl (.int (s : Int)), .vl (.int (m : Int)), .no, .vl (.int ((s ^ 0 : Nat) : Int)), .vl (.int ((d ^ 0 : Nat) : Int))]) S := asgT_of (tup2 rfl rfl) (by rw [Nat.pow_zero, Nat.pow_zero]; rfl)
  obtain ⟨ρ', S', e1, e2, e3, z, e4⟩ := forL_inv (t := tgN 3) (b := cnB) (ds := rngD 0 m) (fun i ρ S' => S' = S ∧ i ≤ m ∧ ∃ z, ρ = [.vl (.int (d : Int)), .vl (.int (s : Int)), .vl (.int (m : Int)), z, .vl (.int ((s ^ i : Nat) : Int)), .vl (.int ((d ^ i : Nat) : Int))])
    (fun i x ρ S1 hx ⟨h1, h2, z, h3⟩ => by
      subst h1 h3
      obtain ⟨hi, rfl⟩ := rngD_get hx
      exact ⟨_, _, S1, rfl, .inl (cn_step hd hs (by omega) _ _ _), rfl, by omega, _, rfl⟩) (ρ := [.vl (.int (d : Int)), .vl (.int (s : Int)), .vl (.int (m : Int)), .no, .vl (.int ((s ^ 0 : Nat) : Int)), .vl (.int ((d ^ 0 : Nat) : Int))]) (S := S) ⟨rfl, Nat.zero_le _, .no, rfl⟩
  subst e2 e4
  rw [rngD_length] at e1
  have a5 := (for_of (t := tgN 3) (b := cnB) (rng_nat (a := var 2) (ρ := [.vl (.int (d : Int)), .vl (.int (s : Int)), .vl (.int (m : Int)), .no, .vl (.int ((s ^ 0 : Nat) : Int)), .vl (.int ((d ^ 0 : Nat) : Int))]) (S := S') (n := m) (by omega) rfl)).trans e1
  have le : s ^ m ≤ d ^ m := Nat.pow_le_pow_left hs m
  have a6 : retS (callE m_quotient (consA (op2 dSub (var 5) (var 4)) (consA (var 5) nilA))) [.vl (.int (d : Int)), .vl (.int (s : Int)), .vl (.int (m : Int)), z, .vl (.int ((s ^ m : Nat) : Int)), .vl (.int ((d ^ m : Nat) : Int))] S' = .ok (.rt (low (d ^ m - s ^ m) (d ^ m))) S' := ret_of (call2_of (op2_of rfl rfl ((subI _ _).trans (by rw [← Int.natCast_sub le]))) rfl (v_quotient (pow_pos' h) (pow_big hd hm) S'))
  rw [e_chance_new]
  refine body_rt ?_
  rw [b_chance_new]
  exact (seq_nx a1).trans ((seq_nx a2).trans ((seq_nx a3).trans ((seq_nx a4).trans ((seq_nx a5).trans a6))))
theorem v_new_holds {d s m : Nat} (h : 1 ≤ d) (hd : d ≤ 40) (hs : s ≤ d) (hm : m ≤ 60) (S : DS) : m__law_new_holds [.int (d : Int), .int (s : Int), .int (m : Int)] S = .ok (.bl true) S := by
  have le : s ^ m ≤ d ^ m := Nat.pow_le_pow_left hs m
  have a1 : asgS 3 (callE m__law_power (consA (var 0) (consA (var 2) nilA))) [.vl (.int (d : Int)), .vl (.int (s : Int)), .vl (.int (m : Int)), .no] S = .ok (.nx [.vl (.int (d : Int)), .vl (.int (s : Int)), .vl (.int (m : Int)), .vl (.int ((d ^ m : Nat) : Int))]) S := asg_of (call2_of rfl rfl (v_power hd hm S))
  have g : Gd 1 2 (low (d ^ m - s ^ m) (d ^ m)) := low_gd (Nat.lt_of_le_of_lt (Nat.sub_le _ _) (pow_500' hd hm)) (pow_500' hd hm)
  rw [e__law_new_holds]
  refine body_rt ?_
  rw [b__law_new_holds]
  exact (seq_nx a1).trans (ret_of (call2_of (call3_of rfl rfl rfl (v_chance_new h hd hs hm S)) (call2_of (op2_of rfl (call2_of rfl rfl (v_power (by omega) hm S)) ((subI _ _).trans (by rw [← Int.natCast_sub le]))) rfl (v_lowest (pow_pos' h) (pow_big hd hm) S)) (v_same g (by decide) (by decide) S)))
end Hk13
namespace Hk13
open PySem Mini
open L2 (atI ixN atI_nat kitB)
/-! counts -/
def cL (ns : List Nat) : List D := ns.map fun n : Nat => .int (n : Int)
def cD (ns : List Nat) : D := .tpx (cL ns)
structure Cs (ns : List Nat) : Prop where
  n1 : 1 ≤ ns.length
  n2 : ns.length ≤ 40
  r : ∀ n ∈ ns, 1 ≤ n ∧ n ≤ 60
theorem cL_len (ns : List Nat) : (cL ns).length = ns.length := by unfold cL; rw [List.length_map]
theorem cL_mem {ns : List Nat} {x : D} (h : x ∈ cL ns) : ∃ n, n ∈ ns ∧ x = .int ((n : Nat) : Int) := by
  obtain ⟨n, hn, rfl⟩ := List.mem_map.mp h
  exact ⟨n, hn, rfl⟩
theorem cL_int (ns : List Nat) : cL ns = (ns.map fun n : Nat => (n : Int)).map D.int := by
  unfold cL
  rw [List.map_map]
  rfl
theorem cast_sum : ∀ ns : List Nat, (ns.map fun n : Nat => (n : Int)).sum = ((ns.sum : Nat) : Int)
  | [] => rfl
  | n :: ns => by rw [List.map_cons, List.sum_cons, List.sum_cons, cast_sum ns, Int.natCast_add]
theorem c_sum (ns : List Nat) : dSumA (cD ns) = some (.int ((ns.sum : Nat) : Int)) := by
  show (intsOf (cL ns)).map (fun ns => D.int ns.sum) = _
  rw [cL_int, intsOf_map, Option.map_some, cast_sum]
theorem sum_le {ns : List Nat} (h : ∀ n ∈ ns, n ≤ 60) : ns.sum ≤ 60 * ns.length := by
  induction ns with
  | nil => simp
  | cons n ns ih =>
    have a := h n List.mem_cons_self
    have b := ih fun x hx => h x (List.mem_cons_of_mem _ hx)
    rw [List.sum_cons, List.length_cons]
    omega
theorem Cs.sum_le {ns : List Nat} (c : Cs ns) : ns.sum ≤ 2400 := by
  have := Hk13.sum_le fun n hn => (c.r n hn).2
  have := c.n2
  omega
theorem len_le_sum {ns : List Nat} (h : ∀ n ∈ ns, 1 ≤ n) : ns.length ≤ ns.sum := by
  induction ns with
  | nil => simp
  | cons n ns ih =>
    have a := h n List.mem_cons_self
    have b := ih fun x hx => h x (List.mem_cons_of_mem _ hx)
    rw [List.sum_cons, List.length_cons]
    omega
theorem Cs.pos {ns : List Nat} (c : Cs ns) : 1 ≤ ns.sum := Nat.le_trans c.n1 (len_le_sum fun n hn => (c.r n hn).1)
theorem blsOf_true : ∀ l : List D, blsOf (l.map fun _ => D.bl true) = some (l.map fun _ => true)
  | [] => rfl
  | d :: ds => by
    rw [List.map_cons, List.map_cons, blsOf, blsOf_true ds]
    rfl
theorem all_true (l : List D) : dAll (.lst (l.map fun _ => D.bl true)) = some (.bl true) := by
  show (blsOf (l.map fun _ => D.bl true)).map (fun ns => D.bl (ns.all id)) = _
  rw [blsOf_true, Option.map_some]
  congr 2
  rw [List.all_eq_true]
  intro x hx
  obtain ⟨_, _, rfl⟩ := List.mem_map.mp hx
  rfl
theorem cc_elt {n : Nat} (h1 : 1 ≤ n) (h2 : n ≤ 60) (u : Slot) (S : DS) : andE (callE m_is_integer (consA (var 1) nilA)) (chn2 dLe dLe (cst (.int 1)) (var 1) (cst (.int 60))) [u, .vl (.int (n : Int))] S = .ok (.bl true) S := by
  have d1 : decide ((1 : Int) ≤ (n : Int)) = true := decide_eq_true (by omega)
  have d2 : decide ((n : Int) ≤ 60) = true := decide_eq_true (by omega)
  have a : callE m_is_integer (consA (var 1) nilA) [u, .vl (.int (n : Int))] S = .ok (.bl true) S := call1_of rfl (v_is_integer _ S)
  simp only [andE, bd, a, chn2, cst, rt, var, slot, lift, List.getElem?_cons_zero, List.getElem?_cons_succ, dLe, d1, d2]
theorem cc_all {ns : List Nat} (c : Cs ns) (S : DS) : lcE (itS (var 0)) (tgN 1) yesB (andE (callE m_is_integer (consA (var 1) nilA)) (chn2 dLe dLe (cst (.int 1)) (var 1) (cst (.int 60)))) [1] [.vl (cD ns), .no] S = .ok (.lst ((cL ns).map fun _ => D.bl true)) S :=
  lc_of (S1 := S) (ds := cL ns) rfl (lcL_all (fun _ => D.bl true) (fun x hx => by
    obtain ⟨n, hn, rfl⟩ := cL_mem hx
    obtain ⟨r1, r2⟩ := c.r n hn
    exact ⟨_, rfl, cc_elt r1 r2 _ S⟩) (by rw [cL_len]; have := c.n2; omega))
theorem v_check_counts {ns : List Nat} (c : Cs ns) (S : DS) : m_check_counts [cD ns] S = .ok .non S := by
  have i1 : isiD "tuple" (cD ns) = some (.bl true) := by
    show (kitB "tuple" "tuple").map D.bl = _
    rw [kit_tup_tup]
    rfl
  have b0 : truB (op1 (isiD "tuple") (var 0)) [.vl (cD ns), .no] S = .ok true S := tru_ofE (op1_of (d := cD ns) rfl i1) rfl
  have l0 : op1 dLen (var 0) [.vl (cD ns), .no] S = .ok (.int ((ns.length : Nat) : Int)) S := op1_of (g := dLen) (d := cD ns) rfl (by show some (D.int (((cL ns).length : Nat) : Int)) = _; rw [cL_len])
  have d1 : decide ((1 : Int) ≤ ((ns.length : Nat) : Int)) = true := decide_eq_true (by have := c.n1; omega)
  have d2 : decide (((ns.length : Nat) : Int) ≤ 40) = true := decide_eq_true (by have := c.n2; omega)
  have b1 : valB (chn2 dLe dLe (cst (.int 1)) (op1 dLen (var 0)) (cst (.int 40))) [.vl (cD ns), .no] S = .ok true S := by
    simp only [valB, chn2, bd, cst, rt, l0, lift, dLe, d1, d2, isBl]
  have b2 : truB (op1 dAll (lcE (itS (var 0)) (tgN 1) yesB (andE (callE m_is_integer (consA (var 1) nilA)) (chn2 dLe dLe (cst (.int 1)) (var 1) (cst (.int 60)))) [1])) [.vl (cD ns), .no] S = .ok true S := tru_ofE (op1_of (cc_all c S) (all_true _)) rfl
  rw [e_check_counts]
  refine body_nx (ρ' := [.vl (cD ns), .no]) ?_
  rw [b_check_counts]
  exact (seq_nx (if_f ((or_f (not_of b0)).trans (not_of b1)))).trans (if_f (not_of b2))
/-! ones -/
def ones (ns : List Nat) : Nat := (ns.filter fun n => decide (n = 1)).length
theorem ones_le {ns : List Nat} (c : Cs ns) : ones ns ≤ ns.sum := Nat.le_trans (List.length_filter_le _ _) (len_le_sum fun n hn => (c.r n hn).1)
theorem eq_one (n : Nat) : dEq (.int (n : Int)) (.int 1) = some (.bl (decide (n = 1))) := by
  rw [dEq_int]
  congr 2
  rw [Bool.eq_iff_iff]
  simp only [decide_eq_true_eq]
  omega
theorem lc_ones {ns : List Nat} (c : Cs ns) (i : Nat) (ρ : En) (S : DS) (hi : i < ρ.length) : lcL (tgN i) (valB (op2 dEq (var i) (cst (.int 1)))) (var i) (cL ns) [] ρ S = .ok (cL (ns.filter fun n => decide (n = 1))) S := by
  have z := lcL_map (t := tgN i) (test := valB (op2 dEq (var i) (cst (.int 1)))) (elt := var i) (ρ := ρ) (S := S) (fun x => match x with
    | .int n => decide (n.toNat = 1)
    | _ => false) id (ds := cL ns) (acc := []) (fun x hx => by
      obtain ⟨n, hn, rfl⟩ := cL_mem hx
      have v : var i (ρ.set i (.vl (.int (n : Int)))) S = .ok (.int (n : Int)) S := by
        have g : (ρ.set i (.vl (.int (n : Int))))[i]? = some (.vl (.int (n : Int))) := List.getElem?_set_self hi
        unfold var slot
        rw [g]
        rfl
      exact ⟨_, rfl, val_of (op2_of v rfl (eq_one n)), fun _ => v⟩) (by rw [cL_len]; have := c.n2; show 0 + ns.length ≤ _; omega)
  rw [z, List.nil_append]
  unfold cL
  rw [List.filter_map, List.map_map]
  congr 1
theorem len_ones {f : FE} {ρ : En} {ns : List Nat} {S : DS} (h : f ρ S = .ok (.lst (cL (ns.filter fun n => decide (n = 1)))) S) : op1 dLen f ρ S = .ok (.int ((ones ns : Nat) : Int)) S := op1_of h (by show some (D.int (((cL (ns.filter fun n => decide (n = 1))).length : Nat) : Int)) = _; rw [cL_len]; rfl)
theorem v_coverage {ns : List Nat} (c : Cs ns) (S : DS) : m_coverage [cD ns] S = .ok (low (ns.sum - ones ns) ns.sum) S := by
  have a1 : exprS (callE m_check_counts (consA (var 0) nilA)) [.vl (cD ns), .no, .no] S = .ok (.nx [.vl (cD ns), .no, .no]) S := expr_of (call1_of rfl (v_check_counts c S))
  have l1 := len_ones (lc_of (it := itS (var 0)) (vs := [2]) (ρ := [.vl (cD ns), .no, .no]) (ds := cL ns) rfl (lc_ones c 2 [.vl (cD ns), .no, .no] S (by show 2 < 3; decide)))
  have a2 := asg_of (i := 1) l1
  have a3 : retS (callE m_quotient (consA (op2 dSub (op1 dSumA (var 0)) (var 1)) (consA (op1 dSumA (var 0)) nilA))) [.vl (cD ns), .vl (.int ((ones ns : Nat) : Int)), .no] S = .ok (.rt (low (ns.sum - ones ns) ns.sum)) S :=
    ret_of (call2_of (op2_of (op1_of rfl (c_sum ns)) rfl ((subI _ _).trans (by rw [← Int.natCast_sub (ones_le c)]))) (op1_of rfl (c_sum ns)) (v_quotient (by have := c.pos; omega) (big_of (by have := c.sum_le; omega)) S))
  rw [e_coverage]
  refine body_rt ?_
  rw [b_coverage]
  exact (seq_nx a1).trans ((seq_nx a2).trans a3)
/-! chance_alike -/
def prs (ns : List Nat) : Nat := (ns.map fun n => n * (n - 1) / 2).sum
theorem two_prs : ∀ n : Nat, n * (n - 1) / 2 * 2 = n * (n - 1) := fun n => by
  have h : n * (n - 1) % 2 = 0 := by
    rcases Nat.mod_two_eq_zero_or_one n with h | h
    · rw [Nat.mul_mod, h, Nat.zero_mul, Nat.zero_mod]
    · by_cases z : n = 0
      · subst z; rfl
      · have : (n - 1) % 2 = 0 := by omega
        rw [Nat.mul_mod, this, Nat.mul_zero, Nat.zero_mod]
  omega
def gSq : D → D
  | .int i => .int (i * (i - 1))
  | x => x
theorem sq_cast (n : Nat) : (n : Int) * ((n : Int) - 1) = ((n * (n - 1) : Nat) : Int) := by
  cases n with
  | zero => rfl
  | succ k =>
    rw [Int.natCast_mul]
    congr 1
    omega
theorem sq_sum : ∀ ns : List Nat, ((ns.map fun n : Nat => ((n : Int) * ((n : Int) - 1)))).sum = ((prs ns * 2 : Nat) : Int)
  | [] => rfl
  | n :: ns => by
    have e : prs (n :: ns) * 2 = n * (n - 1) + prs ns * 2 := by
      show (n * (n - 1) / 2 + (ns.map fun n => n * (n - 1) / 2).sum) * 2 = _
      rw [Nat.add_mul, two_prs]
      rfl
    rw [List.map_cons, List.sum_cons, sq_sum ns, e, Int.natCast_add, sq_cast]
theorem low_two (u d : Nat) : low (u * 2) (d * 2) = low u d := by
  unfold low
  rw [Nat.gcd_mul_right, Nat.mul_div_mul_right _ _ (by decide), Nat.mul_div_mul_right _ _ (by decide)]
theorem lc_sq {ns : List Nat} (c : Cs ns) (u v : Slot) (S : DS) : lcL (tgN 2) yesB (op2 dMulX (var 2) (op2 dSub (var 2) (cst (.int 1)))) (cL ns) [] [u, v, .no] S = .ok ((cL ns).map gSq) S :=
  lcL_all gSq (fun x hx => by
    obtain ⟨n, hn, rfl⟩ := cL_mem hx
    obtain ⟨r1, r2⟩ := c.r n hn
    exact ⟨_, rfl, op2_of rfl (op2_of rfl rfl (subI _ _)) (mulX (big_nat (big_of (by omega))) (big_of (by omega)))⟩) (by rw [cL_len]; have := c.n2; omega)
theorem v_chance_alike {ns : List Nat} (c : Cs ns) (S : DS) : m_chance_alike [cD ns] S = .ok (if ns.sum = 1 then .non else low (prs ns) (ns.sum * (ns.sum - 1) / 2)) S := by
  have hp := c.pos
  have hm := c.sum_le
  have a1 : exprS (callE m_check_counts (consA (var 0) nilA)) [.vl (cD ns), .no, .no] S = .ok (.nx [.vl (cD ns), .no, .no]) S := expr_of (call1_of rfl (v_check_counts c S))
  have a2 : asgS 1 (op1 dSumA (var 0)) [.vl (cD ns), .no, .no] S = .ok (.nx [.vl (cD ns), .vl (.int ((ns.sum : Nat) : Int)), .no]) S := asg_of (op1_of rfl (c_sum ns))
  have t : valB (op2 dLt (var 1) (cst (.int 2))) [.vl (cD ns), .vl (.int ((ns.sum : Nat) : Int)), .no] S = .ok (decide (((ns.sum : Nat) : Int) < 2)) S := val_of (op2_of rfl rfl rfl)
  rw [e_chance_alike]
  refine body_rt ?_
  rw [b_chance_alike]
  refine (seq_nx a1).trans ((seq_nx a2).trans ?_)
  by_cases h : ns.sum = 1
  · rw [if_pos h]
    rw [decide_eq_true (by omega)] at t
    exact seq_rt ((if_t t).trans (ret_of rfl))
  · rw [if_neg h]
    rw [decide_eq_false (by omega)] at t
    have l1 := lc_of (it := itS (var 0)) (vs := [2]) (ρ := [.vl (cD ns), .vl (.int ((ns.sum : Nat) : Int)), .no]) (ds := cL ns) rfl (lc_sq c (.vl (cD ns)) (.vl (.int ((ns.sum : Nat) : Int))) S)
    have e1 : (cL ns).map gSq = (ns.map fun n : Nat => ((n : Int) * ((n : Int) - 1))).map D.int := by
      unfold cL
      rw [List.map_map, List.map_map]
      rfl
    have s1 := op1_of (g := dSumA) l1 ((sum_of e1).trans (by rw [sq_sum]))
    have m := mulX (i := ((ns.sum : Nat) : Int)) (j := ((ns.sum : Nat) : Int) - 1) (big_nat (big_of (by omega))) (big_of (by omega))
    have e2 : ns.sum * (ns.sum - 1) = ns.sum * (ns.sum - 1) / 2 * 2 := (two_prs _).symm
    have pos : 0 < ns.sum * (ns.sum - 1) := Nat.mul_pos (by omega) (by omega)
    have lt : ns.sum * (ns.sum - 1) ≤ 2400 * 2400 := Nat.mul_le_mul hm (by omega)
    have q := v_quotient (u := prs ns * 2) (d := ns.sum * (ns.sum - 1)) pos (big_of (by omega)) S
    have lw : low (prs ns * 2) (ns.sum * (ns.sum - 1)) = low (prs ns) (ns.sum * (ns.sum - 1) / 2) := by
      conv => lhs; rw [e2]
      exact low_two _ _
    rw [lw] at q
    exact (seq_nx (if_f t)).trans (ret_of (call2_of s1 (op2_of rfl (op2_of rfl rfl (subI _ _)) (m.trans (by rw [sq_cast]))) q))
/-! judge_counts -/
def judgeD (c w : Nat) : D := if c = w then .tup [.str "right"] else .tup [.str "gap", .int ((c : Int) - (w : Int))]
theorem judge_tail {t : FB} {a : FE} {ρ : En} {c w : Nat} {S : DS} (h : t ρ S = .ok (decide (c = w)) S) (ha : a ρ S = .ok (.int ((c : Int) - (w : Int))) S) : iteE t (tupE (consA (cst (.str "right")) nilA)) (tupE (consA (cst (.str "gap")) (consA a nilA))) ρ S = .ok (judgeD c w) S := by
  unfold judgeD
  by_cases e : c = w
  · rw [decide_eq_true e] at h
    rw [if_pos e]
    exact (ite_t h).trans (tup1 rfl)
  · rw [decide_eq_false e] at h
    rw [if_neg e]
    exact (ite_f h).trans (tup2 rfl ha)
theorem v_judge {ns : List Nat} (c : Cs ns) {k : Nat} (hk : k ≤ 60) (S : DS) : m_judge_counts [.int (k : Int), cD ns] S = .ok (judgeD k ns.sum) S := by
  have a1 : exprS (callE m_check_coins (consA (var 0) nilA)) [.vl (.int (k : Int)), .vl (cD ns), .no] S = .ok (.nx [.vl (.int (k : Int)), .vl (cD ns), .no]) S := expr_of (call1_of rfl (v_check_coins (by omega) (by omega) S))
  have a2 : exprS (callE m_check_counts (consA (var 1) nilA)) [.vl (.int (k : Int)), .vl (cD ns), .no] S = .ok (.nx [.vl (.int (k : Int)), .vl (cD ns), .no]) S := expr_of (call1_of rfl (v_check_counts c S))
  have a3 : asgS 2 (op2 dSub (var 0) (op1 dSumA (var 1))) [.vl (.int (k : Int)), .vl (cD ns), .no] S = .ok (.nx [.vl (.int (k : Int)), .vl (cD ns), .vl (.int ((k : Int) - ((ns.sum : Nat) : Int)))]) S := asg_of (op2_of rfl (op1_of rfl (c_sum ns)) (subI _ _))
  have t : valB (op2 dEq (var 2) (cst (.int 0))) [.vl (.int (k : Int)), .vl (cD ns), .vl (.int ((k : Int) - ((ns.sum : Nat) : Int)))] S = .ok (decide (k = ns.sum)) S := (val_of (op2_of rfl rfl (dEq_int _ _))).trans (by
    congr 1
    rw [Bool.eq_iff_iff]
    simp only [decide_eq_true_eq]
    omega)
  rw [e_judge_counts]
  refine body_rt ?_
  rw [b_judge_counts]
  exact (seq_nx a1).trans ((seq_nx a2).trans ((seq_nx a3).trans (ret_of (judge_tail t rfl))))
end Hk13
namespace Hk13
open PySem Mini
open L2 (atI ixN atI_nat kitB)
open L2 (Key)
/-! dicts by ints -/
abbrev Ky (n : Int) : Key := Sum.inl n
def kput (ks : List Int) (n : Int) : List Int := if n ∈ ks then ks else ks ++ [n]
def keysF (l : List Int) : List Int := l.foldl kput []
theorem keysF_app (l : List Int) (x : Int) : keysF (l ++ [x]) = kput (keysF l) x := by
  unfold keysF
  rw [List.foldl_append]
  rfl
theorem keyI_any {n : Int} : ∀ {es : List (Key × D)} {ks : List Int}, keyI es = some ks → (es.any fun e => decide (e.1 = Ky n)) = decide (n ∈ ks)
  | [], ks, h => by cases h; rfl
  | (.inl m, d) :: es, ks, h => by
    obtain ⟨ms, h1, rfl⟩ := Option.map_eq_some_iff.mp h
    rw [List.any_cons, keyI_any h1, Bool.eq_iff_iff]
    simp only [Bool.or_eq_true, decide_eq_true_eq, List.mem_cons]
    constructor
    · rintro (e | e)
      · exact .inl (Sum.inl.inj e).symm
      · exact .inr e
    · rintro (e | e)
      · exact .inl (by rw [e])
      · exact .inr e
  | (.inr s, d) :: es, ks, h => by cases h
theorem keyI_map {n : Int} {d : D} : ∀ {es : List (Key × D)}, keyI (es.map fun e => if e.1 = Ky n then (e.1, d) else e) = keyI es
  | [] => rfl
  | (.inl m, d') :: es => by
    rw [List.map_cons]
    by_cases e : m = n
    · subst e
      rw [if_pos rfl]
      simp only [keyI, keyI_map]
    · rw [if_neg (fun z => e (Sum.inl.inj z))]
      simp only [keyI, keyI_map]
  | (.inr s, d') :: es => by
    rw [List.map_cons, if_neg (fun z => by cases z)]
    rfl
theorem keyI_app {n : Int} {d : D} : ∀ {es : List (Key × D)} {ks : List Int}, keyI es = some ks → keyI (es ++ [(Ky n, d)]) = some (ks ++ [n])
  | [], ks, h => by cases h; rfl
  | (.inl m, d') :: es, ks, h => by
    obtain ⟨ms, h1, rfl⟩ := Option.map_eq_some_iff.mp h
    rw [List.cons_append, keyI, keyI_app h1]
    rfl
  | (.inr s, d') :: es, ks, h => by cases h
theorem keyI_put {n : Int} {d : D} {es : List (Key × D)} {ks : List Int} (h : keyI es = some ks) : keyI (putD es (Ky n) d) = some (kput ks n) := by
  unfold putD kput
  rw [keyI_any h]
  by_cases e : n ∈ ks
  · rw [if_pos (decide_eq_true e), if_pos e, keyI_map, h]
  · rw [if_neg (by rw [decide_eq_false e]; decide), if_neg e, keyI_app h]
theorem valD_map (k j : Key) (d : D) : ∀ es : List (Key × D), valD (es.map fun e => if e.1 = k then (e.1, d) else e) j = (valD es j).map fun x => if j = k then d else x
  | [] => rfl
  | p :: es => by
    rw [List.map_cons]
    have ih := valD_map k j d es
    unfold valD at ih ⊢
    by_cases h2 : p.1 = k
    · rw [if_pos h2, List.find?_cons, List.find?_cons]
      by_cases h : p.1 = j
      · simp only [decide_eq_true h, Option.map_some]
        rw [if_pos (h.symm.trans h2)]
      · simp only [decide_eq_false h]
        exact ih
    · rw [if_neg h2, List.find?_cons, List.find?_cons]
      by_cases h : p.1 = j
      · simp only [decide_eq_true h, Option.map_some]
        rw [if_neg fun z => h2 (h.trans z)]
      · simp only [decide_eq_false h]
        exact ih
theorem valD_any (k : Key) : ∀ es : List (Key × D), (es.any fun e => decide (e.1 = k)) = (valD es k).isSome
  | [] => rfl
  | p :: es => by
    rw [List.any_cons, valD_any k es]
    unfold valD
    rw [List.find?_cons]
    by_cases h : p.1 = k
    · simp [h]
    · simp [h]
theorem valD_app (k j : Key) (d : D) (es : List (Key × D)) (h : valD es k = none) : valD (es ++ [(k, d)]) j = if j = k then some d else valD es j := by
  unfold valD at *
  rw [List.find?_append]
  by_cases e : j = k
  · subst e
    rw [if_pos rfl]
    cases z : es.find? (fun e => decide (e.1 = j)) with
    | none => simp
    | some p => rw [z] at h; cases h
  · rw [if_neg e]
    cases z : es.find? (fun e => decide (e.1 = j)) with
    | none => simp [Ne.symm e]
    | some p => rfl
theorem valD_put (es : List (Key × D)) (k j : Key) (d : D) : valD (putD es k d) j = if j = k then some d else valD es j := by
  unfold putD
  rw [valD_any]
  by_cases a : (valD es k).isSome = true
  · rw [if_pos a, valD_map]
    by_cases e : j = k
    · subst e
      obtain ⟨x, hx⟩ := Option.isSome_iff_exists.mp a
      rw [hx, if_pos rfl]
      simp
    · rw [if_neg e]
      cases valD es j with
      | none => rfl
      | some x => simp [e]
  · rw [if_neg a]
    exact valD_app k j d es (by simpa using a)
theorem putD_len (es : List (Key × D)) (k : Key) (d : D) : (putD es k d).length ≤ es.length + 1 := by
  unfold putD
  split
  · rw [List.length_map]; omega
  · rw [List.length_append, List.length_singleton]; omega
/-- the counts' dict -/
structure Dc (l : List Int) (es : List (Key × D)) : Prop where
  ks : keyI es = some (keysF l)
  len : es.length ≤ l.length
  val : ∀ n : Int, valD es (Ky n) = if n ∈ keysF l then some (.int ((l.count n : Nat) : Int)) else none
  cnt : ∀ n : Int, n ∉ keysF l → l.count n = 0
theorem Dc.nil : Dc [] [] := ⟨rfl, Nat.le_refl _, fun n => rfl, fun n _ => rfl⟩
theorem Dc.getD {l : List Int} {es : List (Key × D)} (h : Dc l es) (n : Int) : (valD es (Ky n)).getD (.int 0) = .int ((l.count n : Nat) : Int) := by
  rw [h.val]
  by_cases e : n ∈ keysF l
  · rw [if_pos e]; rfl
  · rw [if_neg e, h.cnt n e]; rfl
theorem kput_mem {ks : List Int} {n m : Int} : m ∈ kput ks n ↔ m = n ∨ m ∈ ks := by
  unfold kput
  split
  · rename_i h
    constructor
    · exact .inr
    · rintro (rfl | e)
      · exact h
      · exact e
  · rw [List.mem_append, List.mem_singleton]
    exact ⟨fun z => z.symm, fun z => z.symm⟩
theorem Dc.put {l : List Int} {es : List (Key × D)} (h : Dc l es) (n : Int) : Dc (l ++ [n]) (putD es (Ky n) (.int (((l.count n : Nat) : Int) + 1))) where
  ks := by rw [keyI_put h.ks, keysF_app]
  len := by
    have := putD_len es (Ky n) (.int (((l.count n : Nat) : Int) + 1))
    have := h.len
    rw [List.length_append, List.length_singleton]
    omega
  val := fun m => by
    rw [valD_put, keysF_app, List.count_append]
    by_cases e : m = n
    · subst e
      rw [if_pos rfl, if_pos (kput_mem.mpr (.inl rfl)), List.count_singleton_self]
      rfl
    · rw [if_neg (fun z => e (Sum.inl.inj z)), h.val]
      have c0 : [n].count m = 0 := List.count_eq_zero.mpr (by rw [List.mem_singleton]; exact e)
      rw [c0, Nat.add_zero]
      by_cases k : m ∈ keysF l
      · rw [if_pos k, if_pos (kput_mem.mpr (.inr k))]
      · rw [if_neg k, if_neg (fun z => by rcases kput_mem.mp z with z | z; exact e z; exact k z)]
  cnt := fun m hm => by
    rw [keysF_app, kput_mem] at hm
    rw [List.count_append, h.cnt m (fun z => hm (.inr z)), List.count_eq_zero.mpr (by rw [List.mem_singleton]; exact fun z => hm (.inl z))]
theorem kput_len (ks : List Int) (n : Int) : (kput ks n).length ≤ ks.length + 1 := by
  unfold kput
  split
  · omega
  · rw [List.length_append, List.length_singleton]; omega
theorem its_of {f : FE} {ρ : En} {S S1 : DS} {d : D} {ds : List D} (h : f ρ S = .ok d S1) (hs : seqAny d = some ds) : itS f ρ S = .ok ds S1 := by
  simp only [itS, bd, h, hs, lift, rt]
/-! often_seen -/
def ci (ns : List Nat) : List Int := ns.map fun n : Nat => (n : Int)
theorem dc_ok (u v : Slot) (S : DS) : ∀ (l : List Int) (acc : List (Key × D)) (ks : List Int), keyI acc = some ks → acc.length + l.length ≤ 1000 → ∃ es, dcL (tgN 2) yesB (var 2) (cst (.bl true)) (l.map D.int) acc [u, v, .no] S = .ok es S ∧ keyI es = some (l.foldl kput ks) ∧ es.length ≤ acc.length + l.length
  | [], acc, ks, h, _ => ⟨acc, rfl, h, Nat.le_refl _⟩
  | n :: l, acc, ks, h, hl => by
    rw [List.length_cons] at hl
    have l1 : acc.length < 16777216 := by omega
    have pl := putD_len acc (Ky n) (.bl true)
    obtain ⟨es, e1, e2, e3⟩ := dc_ok u v S l (putD acc (Ky n) (.bl true)) (kput ks n) (keyI_put h) (by omega)
    refine ⟨es, ?_, e2, by rw [List.length_cons]; omega⟩
    rw [List.map_cons]
    have s1 : dcL (tgN 2) yesB (var 2) (cst (.bl true)) (.int n :: l.map D.int) acc [u, v, .no] S = (if acc.length < 16777216 then dcL (tgN 2) yesB (var 2) (cst (.bl true)) (l.map D.int) (putD acc (Ky n) (.bl true)) [u, v, .no] else no) S := rfl
    rw [s1, if_pos l1]
    exact e1
def rowsD (ns : List Nat) : D := .tup ((sortI (keysF (ci ns))).map fun k => .tup [.int k, .int (((ci ns).count k : Nat) : Int)])
theorem eqv_int (a k : Int) : PyData.eqv (.int a) (.int k) = (a == k) := by
  rw [Bool.eq_iff_iff]
  simp [PyData.eqv]
theorem pyL_int : ∀ l : List Int, pyL (l.map D.int) = l.map PyData.int
  | [] => rfl
  | n :: l => by rw [List.map_cons, List.map_cons, pyL, pyL_int l]; rfl
theorem count_py (l : List Int) (k : Int) : (pyL (l.map D.int)).countP (fun z => PyData.eqv z (.int k)) = l.count k := by
  rw [pyL_int, List.countP_map]
  unfold List.count
  congr 1
theorem gd_okEq {h n : Nat} {d : D} (g : Gd h n d) (a : h ≤ 64) : okEq d = true := by
  unfold okEq
  rw [g.pu, Bool.true_and]
  exact decide_eq_true (Nat.le_trans g.de a)
theorem cL_gd {ns : List Nat} (c : Cs ns) : Gd 1 40 (cD ns) := by
  refine (gd_tpx (ds := cL ns) (h := 0) (n := 0) fun x hx => ?_).mono (Nat.le_refl _) (by rw [cL_len]; have := c.n2; omega)
  obtain ⟨n, hn, rfl⟩ := cL_mem hx
  have := c.r n hn
  have z : (1001 : Nat) ≤ 10 ^ 500 := by decide +kernel
  exact gd_int (by rw [Int.natAbs_natCast]; omega)
theorem mem_keysF {l : List Int} {n : Int} : n ∈ keysF l ↔ n ∈ l := by
  have key : ∀ (l ks : List Int), n ∈ l.foldl kput ks ↔ n ∈ ks ∨ n ∈ l := by
    intro l
    induction l with
    | nil => intro ks; simp
    | cons m l ih =>
      intro ks
      rw [List.foldl_cons, ih, kput_mem, List.mem_cons]
      constructor
      · rintro ((e | e) | e)
        · exact .inr (.inl e)
        · exact .inl e
        · exact .inr (.inr e)
      · rintro (e | e | e)
        · exact .inl (.inr e)
        · exact .inl (.inl e)
        · exact .inr e
  have := key l []
  simpa [keysF] using this
theorem keysF_len : ∀ l : List Int, (keysF l).length ≤ l.length := by
  have key : ∀ (l ks : List Int), (l.foldl kput ks).length ≤ ks.length + l.length := by
    intro l
    induction l with
    | nil => intro ks; exact Nat.le_refl _
    | cons m l ih =>
      intro ks
      have a := ih (kput ks m)
      have b := kput_len ks m
      rw [List.foldl_cons, List.length_cons]
      omega
  intro l
  have := key l []
  rw [List.length_nil, Nat.zero_add] at this
  exact this
theorem key_small {ns : List Nat} (c : Cs ns) {k : Int} (h : k ∈ sortI (keysF (ci ns))) : 1 ≤ k ∧ k ≤ 60 := by
  have h1 := mem_keysF.mp ((sortI_perm _).mem_iff.mp h)
  obtain ⟨n, hn, rfl⟩ := List.mem_map.mp h1
  have := c.r n hn
  omega
theorem lc_seen {ns : List Nat} (c : Cs ns) (S : DS) : lcL (tgN 1) yesB (tupE (consA (var 1) (consA (countE (var 0) (var 1)) nilA))) ((sortI (keysF (ci ns))).map D.int) [] [.vl (cD ns), .no, .no] S = .ok (((sortI (keysF (ci ns))).map D.int).map fun x => match x with
    | .int k => .tup [.int k, .int (((ci ns).count k : Nat) : Int)]
    | x => x) S :=
  lcL_all _ (fun x hx => by
    obtain ⟨k, hk, rfl⟩ := List.mem_map.mp hx
    have ks := key_small c hk
    have z : (1001 : Nat) ≤ 10 ^ 500 := by decide +kernel
    have g1 : okEq (.tpx (cL ns)) = true := gd_okEq (cL_gd c) (by decide)
    have g2 : okEq (.int k) = true := rfl
    have ct : dCount (.tpx (cL ns)) (.int k) = some (.int (((ci ns).count k : Nat) : Int)) := by
      unfold dCount
      simp only [g1, g2, Bool.and_self, if_true]
      rw [cL_int]
      show some (D.int (((pyL ((ci ns).map D.int)).countP fun z => PyData.eqv z (.int k) : Nat) : Int)) = _
      rw [count_py]
    have cv : countE (var 0) (var 1) [.vl (cD ns), .vl (.int k), .no] S = .ok (.int (((ci ns).count k : Nat) : Int)) S := by
      show lift (dCount (.tpx (cL ns)) (.int k)) S = _
      rw [ct]
      rfl
    exact ⟨_, rfl, tup2 rfl cv⟩) (by
      have a := (sortI_perm (keysF (ci ns))).length_eq
      have b := keysF_len (ci ns)
      have d : (ci ns).length = ns.length := by unfold ci; rw [List.length_map]
      have e := c.n2
      rw [List.length_map]
      omega)
theorem v_often {ns : List Nat} (c : Cs ns) (S : DS) : m_often_seen [cD ns] S = .ok (rowsD ns) S := by
  have a1 : exprS (callE m_check_counts (consA (var 0) nilA)) [.vl (cD ns), .no, .no] S = .ok (.nx [.vl (cD ns), .no, .no]) S := expr_of (call1_of rfl (v_check_counts c S))
  have ln : (ci ns).length = ns.length := by unfold ci; rw [List.length_map]
  have hn := c.n2
  obtain ⟨es, e1, e2, e3⟩ := dc_ok (.vl (cD ns)) .no S (ci ns) [] [] rfl (by rw [List.length_nil, ln]; omega)
  have d1 : dcE (itS (var 0)) (tgN 2) yesB (var 2) (cst (.bl true)) [2] [.vl (cD ns), .no, .no] S = .ok (.dic es) S := by
    have i1 : itS (var 0) [.vl (cD ns), .no, .no] S = .ok ((ci ns).map D.int) S := by
      show Res.ok (cL ns) S = _
      rw [cL_int]
      rfl
    have w : wipeR [.vl (cD ns), .no, .no] [2] = [.vl (cD ns), .no, .no] := rfl
    unfold dcE bd
    rw [i1]
    simp only [w, noEr, e1]
    rfl
  have es64 : es.length < 64 := by rw [List.length_nil, ln] at e3; omega
  have s1 : dSorted (.dic es) = some (.lst ((sortI (keysF (ci ns))).map D.int)) := by
    show (if es.length < 64 then (keyI es).map fun ns => D.lst ((sortI ns).map .int) else none) = _
    rw [if_pos es64, e2]
    rfl
  have l1 := lc_of (it := itS (op1 dSorted (dcE (itS (var 0)) (tgN 2) yesB (var 2) (cst (.bl true)) [2]))) (vs := [1]) (ρ := [.vl (cD ns), .no, .no]) (S := S) (S1 := S) (ds := (sortI (keysF (ci ns))).map D.int) (its_of (op1_of (g := dSorted) d1 s1) rfl) (lc_seen c S)
  rw [List.map_map] at l1
  rw [e_often_seen]
  refine body_rt ?_
  rw [b_often_seen]
  exact (seq_nx a1).trans (ret_of (op1_of (g := dTuple) l1 rfl))
end Hk13
namespace Hk13
open PySem Mini
open L2 (atI ixN atI_nat kitB)
open L2 (Key)
/-! pairs of coins alike -/
def prTo (l : List Nat) : Nat → Nat
  | 0 => 0
  | k + 1 => prTo l k + (l.take k).count (l[k]?.getD 0)
theorem prTo_app (l m : List Nat) : ∀ k, k ≤ l.length → prTo (l ++ m) k = prTo l k
  | 0, _ => rfl
  | k + 1, h => by
    rw [prTo, prTo, prTo_app l m k (by omega), List.take_append_of_le_length (by omega), List.getElem?_append_left (by omega)]
def pT (l : List Nat) : Nat := prTo l l.length
theorem pT_app (l : List Nat) (x : Nat) : pT (l ++ [x]) = pT l + l.count x := by
  unfold pT
  rw [List.length_append, List.length_singleton, prTo, prTo_app l [x] l.length (Nat.le_refl _), List.take_left, List.getElem?_append_right (Nat.le_refl _), Nat.sub_self]
  rfl
theorem tri (n : Nat) : n * (n - 1) / 2 + n = (n + 1) * (n + 1 - 1) / 2 := by
  have a := two_prs n
  have b := two_prs (n + 1)
  rw [Nat.add_sub_cancel] at b ⊢
  have c : (n + 1) * n = n * (n - 1) + 2 * n := by
    cases n with
    | zero => rfl
    | succ k =>
      rw [Nat.add_sub_cancel, Nat.add_mul, Nat.mul_add (k + 1) k 1, Nat.mul_one, Nat.one_mul]
      omega
  omega
theorem pT_rep (l : List Nat) (a : Nat) (h : a ∉ l) : ∀ n, pT (l ++ List.replicate n a) = pT l + n * (n - 1) / 2
  | 0 => by rw [List.replicate_zero, List.append_nil]; simp
  | n + 1 => by
    rw [List.replicate_succ', ← List.append_assoc, pT_app, pT_rep l a h n, List.count_append, List.count_eq_zero.mpr h, List.count_replicate_self, Nat.zero_add, Nat.add_assoc, tri]
theorem prs_app (l : List Nat) (n : Nat) : prs (l ++ [n]) = prs l + n * (n - 1) / 2 := by
  unfold prs
  rw [List.map_append, List.sum_append]
  simp
def coinsT (ns : List Nat) : Nat → List Nat
  | 0 => []
  | i + 1 => coinsT ns i ++ List.replicate (ns[i]?.getD 0) i
theorem coinsT_lt (ns : List Nat) : ∀ i, ∀ x ∈ coinsT ns i, x < i
  | 0, x, h => by cases h
  | i + 1, x, h => by
    rcases List.mem_append.mp h with h | h
    · have := coinsT_lt ns i x h; omega
    · have := (List.mem_replicate.mp h).2; omega
theorem take_get {ns : List Nat} {i : Nat} (h : i < ns.length) : ns.take (i + 1) = ns.take i ++ [ns[i]?.getD 0] := by
  rw [List.take_succ, List.getElem?_eq_getElem h]
  rfl
theorem coinsT_len (ns : List Nat) : ∀ i, i ≤ ns.length → (coinsT ns i).length = (ns.take i).sum
  | 0, _ => rfl
  | i + 1, h => by
    rw [coinsT, List.length_append, List.length_replicate, coinsT_len ns i (by omega), take_get (by omega), List.sum_append]
    simp
theorem coinsT_pT (ns : List Nat) : ∀ i, i ≤ ns.length → pT (coinsT ns i) = prs (ns.take i)
  | 0, _ => rfl
  | i + 1, h => by
    rw [coinsT, pT_rep _ _ (fun z => by have := coinsT_lt ns i i z; omega), coinsT_pT ns i (by omega), take_get (by omega), prs_app]
/-! the first loop -/
abbrev k1B : FS := (seqS (asgS 8 (op2 dAdd (var 8) (op2 dDiv (op2 dMulX (var 2) (op2 dSub (var 2) (cst (.int 1)))) (cst (.int 2)))))
  (putS 9 (op2 dAdd (get2E (varB 9) (var 2) (cst (.int 0))) (cst (.int 1))) (var 2)))
theorem put_of {i : Nat} {f fk : FE} {ρ : En} {S S1 S2 : DS} {d o k o' : D} (h : f ρ S = .ok d S1) (ho : ownS ρ i = some o) (hk : fk ρ S1 = .ok k S2) (hp : putO o k d = some o') : putS i f fk ρ S = .ok (.nx (setO i o' ρ)) S2 := by
  simp only [putS, bd, h, ho, lift, rt, hk, hp]
theorem k1_step {n a : Nat} {l : List Int} {es : List (Key × D)} (h1 : 1 ≤ n) (h2 : n ≤ 60) (dc : Dc l es) (hl : l.length ≤ 1000) (s0 s1 s3 s4 s5 s6 s7 s10 s11 : Slot) (S : DS) :
    k1B [s0, s1, .vl (.int (n : Int)), s3, s4, s5, s6, s7, .vl (.int (a : Int)), .ow (.dic es), s10, s11] S = .ok (.nx [s0, s1, .vl (.int (n : Int)), s3, s4, s5, s6, s7, .vl (.int ((a + n * (n - 1) / 2 : Nat) : Int)), .ow (.dic (putD es (Ky (n : Int)) (.int (((l.count (n : Int) : Nat) : Int) + 1)))), s10, s11]) S := by
  have m := mulX (i := (n : Int)) (j := (n : Int) - 1) (big_nat (big_of (by omega))) (big_of (by omega))
  have dv := divI (i := ((n * (n - 1) : Nat) : Int)) (j := 2) (by decide) (big_of (by decide))
  have e1 : ((n * (n - 1) : Nat) : Int) / 2 = ((n * (n - 1) / 2 : Nat) : Int) := by rw [Int.natCast_ediv]; rfl
  have a1 : asgS 8 (op2 dAdd (var 8) (op2 dDiv (op2 dMulX (var 2) (op2 dSub (var 2) (cst (.int 1)))) (cst (.int 2)))) [s0, s1, .vl (.int (n : Int)), s3, s4, s5, s6, s7, .vl (.int (a : Int)), .ow (.dic es), s10, s11] S = .ok (.nx [s0, s1, .vl (.int (n : Int)), s3, s4, s5, s6, s7, .vl (.int ((a + n * (n - 1) / 2 : Nat) : Int)), .ow (.dic es), s10, s11]) S :=
    asg_of (op2_of rfl (op2_of (op2_of rfl (op2_of rfl rfl (subI _ _)) (m.trans (by rw [sq_cast]))) rfl (dv.trans (by rw [e1]))) ((addI _ _).trans (by rw [← Int.natCast_add])))
  have g : get2E (varB 9) (var 2) (cst (.int 0)) [s0, s1, .vl (.int (n : Int)), s3, s4, s5, s6, s7, .vl (.int ((a + n * (n - 1) / 2 : Nat) : Int)), .ow (.dic es), s10, s11] S = .ok (.int ((l.count (n : Int) : Nat) : Int)) S := by
    show Res.ok ((valD es (Ky (n : Int))).getD (.int 0)) S = _
    rw [dc.getD]
  have p : putO (.dic es) (.int (n : Int)) (.int (((l.count (n : Int) : Nat) : Int) + 1)) = some (.dic (putD es (Ky (n : Int)) (.int (((l.count (n : Int) : Nat) : Int) + 1)))) := by
    show (if es.length < 16777216 then some (D.dic (putD es (Ky (n : Int)) (.int (((l.count (n : Int) : Nat) : Int) + 1)))) else none) = _
    rw [if_pos (by have := dc.len; omega)]
  exact (seq_nx a1).trans (put_of (op2_of g rfl (addI _ _)) rfl rfl p)
theorem ci_take (ns : List Nat) (i : Nat) : (ci ns).take i = (ns.take i).map fun n : Nat => (n : Int) := by
  unfold ci
  rw [List.map_take]
theorem k1_loop {ns : List Nat} (c : Cs ns) (s0 s1 s2 s3 s4 s5 s6 s7 s10 s11 : Slot) (S : DS) : ∃ es z, forL (tgN 2) k1B (cL ns) [s0, s1, s2, s3, s4, s5, s6, s7, .vl (.int 0), .ow (.dic []), s10, s11] S = .ok (.nx [s0, s1, z, s3, s4, s5, s6, s7, .vl (.int ((prs ns : Nat) : Int)), .ow (.dic es), s10, s11]) S ∧ Dc (ci ns) es := by
  obtain ⟨ρ', S', e1, e2, z, es, dc, e4⟩ := forL_inv (t := tgN 2) (b := k1B) (ds := cL ns) (fun i ρ S' => S' = S ∧ ∃ z es, Dc ((ci ns).take i) es ∧ ρ = [s0, s1, z, s3, s4, s5, s6, s7, .vl (.int ((prs (ns.take i) : Nat) : Int)), .ow (.dic es), s10, s11])
    (fun i x ρ S1 hx ⟨h1, z, es, dc, h3⟩ => by
      subst h1 h3
      have hi : i < ns.length := by
        have := (List.getElem?_eq_some_iff.mp hx).1
        rwa [cL_len] at this
      have hx2 : x = .int ((ns[i]?.getD 0 : Nat) : Int) := by
        unfold cL at hx
        rw [List.getElem?_map, List.getElem?_eq_getElem hi] at hx
        rw [List.getElem?_eq_getElem hi]
        exact (Option.some.inj hx).symm
      subst hx2
      have hm : ns[i]?.getD 0 ∈ ns := by
        rw [List.getElem?_eq_getElem hi]
        exact List.getElem_mem hi
      obtain ⟨r1, r2⟩ := c.r _ hm
      have hlen : ((ci ns).take i).length ≤ 1000 := by
        have ln : (ci ns).length = ns.length := by unfold ci; rw [List.length_map]
        have h40 := c.n2
        rw [List.length_take]
        omega
      have st := k1_step (a := prs (ns.take i)) r1 r2 dc hlen s0 s1 s3 s4 s5 s6 s7 s10 s11 S1
      have p := dc.put ((ns[i]?.getD 0 : Nat) : Int)
      have e5 : (ci ns).take (i + 1) = (ci ns).take i ++ [((ns[i]?.getD 0 : Nat) : Int)] := by
        rw [ci_take, ci_take, take_get hi, List.map_append]
        rfl
      rw [← e5] at p
      rw [← prs_app, ← take_get hi] at st
      exact ⟨_, _, S1, rfl, .inl st, rfl, _, _, p, rfl⟩) (ρ := [s0, s1, s2, s3, s4, s5, s6, s7, .vl (.int 0), .ow (.dic []), s10, s11]) (S := S) ⟨rfl, s2, [], Dc.nil, rfl⟩
  subst e2 e4
  rw [cL_len, List.take_length] at e1
  have ln : (ci ns).length = ns.length := by unfold ci; rw [List.length_map]
  rw [cL_len, ← ln, List.take_length] at dc
  exact ⟨es, z, e1, dc⟩
/-! the coins -/
abbrev k2B : FS := (extS 4 (op2 dMulX (lstE (consA (var 10) nilA)) (op2 dIxA (var 1) (var 10))))
theorem c_at {ns : List Nat} {i : Nat} (hi : i < ns.length) : dIxA (cD ns) (.int (i : Int)) = some (.int ((ns[i]?.getD 0 : Nat) : Int)) := by
  show atI (cL ns) (i : Int) = _
  refine atI_nat ?_
  unfold cL
  rw [List.getElem?_map, List.getElem?_eq_getElem hi]
  rfl
theorem k2_step {ns : List Nat} {i : Nat} (c : Cs ns) (hi : i < ns.length) (hb : (coinsT ns i).length ≤ 3000) (s0 s2 s3 s5 s6 s7 s8 s9 s11 : Slot) (S : DS) : k2B [s0, .vl (cD ns), s2, s3, .ow (natD (coinsT ns i)), s5, s6, s7, s8, s9, .vl (.int (i : Int)), s11] S = .ok (.nx [s0, .vl (cD ns), s2, s3, .ow (natD (coinsT ns (i + 1))), s5, s6, s7, s8, s9, .vl (.int (i : Int)), s11]) S := by
  have hm : ns[i]?.getD 0 ∈ ns := by
    rw [List.getElem?_eq_getElem hi]
    exact List.getElem_mem hi
  obtain ⟨r1, r2⟩ := c.r _ hm
  have ml : dMulX (.lst [.int (i : Int)]) (.int ((ns[i]?.getD 0 : Nat) : Int)) = some (.lst (List.replicate (ns[i]?.getD 0) (.int (i : Int)))) := by
    rw [mulL (by rw [List.length_singleton]; omega) (by omega), flat_one]
  refine (ext_of (i := 4) (ds := (coinsT ns i).map fun d : Nat => D.int (d : Int)) rfl (op2_of (lst1 rfl) (op2_of rfl rfl (c_at hi)) ml) (by rw [List.length_map, List.length_replicate]; omega)).trans ?_
  have e : natD (coinsT ns (i + 1)) = .lst ((coinsT ns i).map (fun d : Nat => D.int (d : Int)) ++ List.replicate (ns[i]?.getD 0) (.int (i : Int))) := by
    unfold natD
    rw [coinsT, List.map_append, List.map_replicate]
  rw [e]
  rfl
theorem coins_le {ns : List Nat} (c : Cs ns) {i : Nat} (hi : i ≤ ns.length) : (coinsT ns i).length ≤ 2400 := by
  rw [coinsT_len ns i hi]
  have a := Hk13.sum_le (ns := ns.take i) fun n hn => (c.r n (List.mem_of_mem_take hn)).2
  have b : (ns.take i).length ≤ 40 := by
    rw [List.length_take]
    have := c.n2
    omega
  omega
theorem k2_loop {ns : List Nat} (c : Cs ns) (s0 s2 s3 s5 s6 s7 s8 s9 s10 s11 : Slot) (S : DS) : ∃ z, forL (tgN 10) k2B (rngD 0 ns.length) [s0, .vl (cD ns), s2, s3, .ow (natD []), s5, s6, s7, s8, s9, s10, s11] S = .ok (.nx [s0, .vl (cD ns), s2, s3, .ow (natD (coinsT ns ns.length)), s5, s6, s7, s8, s9, z, s11]) S := by
  obtain ⟨ρ', S', e1, e2, e3, z, e4⟩ := forL_inv (t := tgN 10) (b := k2B) (ds := rngD 0 ns.length) (fun i ρ S' => S' = S ∧ i ≤ ns.length ∧ ∃ z, ρ = [s0, .vl (cD ns), s2, s3, .ow (natD (coinsT ns i)), s5, s6, s7, s8, s9, z, s11])
    (fun i x ρ S1 hx ⟨h1, h2, z, h3⟩ => by
      subst h1 h3
      obtain ⟨hi, rfl⟩ := rngD_get hx
      rw [Int.zero_add]
      exact ⟨_, _, S1, rfl, .inl (k2_step c hi (by have := coins_le c h2; omega) _ _ _ _ _ _ _ _ _ _), rfl, by omega, _, rfl⟩) (ρ := [s0, .vl (cD ns), s2, s3, .ow (natD []), s5, s6, s7, s8, s9, s10, s11]) (S := S) ⟨rfl, Nat.zero_le _, s10, rfl⟩
  subst e2 e4
  rw [rngD_length] at e1
  exact ⟨z, e1⟩
/-! pair by pair -/
abbrev k3B : FS := (asgS 8 (op2 dAdd (var 8) (op1 dLen (lcE (itS (slcE (varB 4) noP (partP (var 11)))) (tgN 2) (valB (op2 dEq (var 2) (op2 dIxA (varB 4) (var 11)))) (var 2) [2]))))
theorem natD_at {l : List Nat} {k : Nat} (h : k < l.length) : dIxA (natD l) (.int (k : Int)) = some (.int ((l[k]?.getD 0 : Nat) : Int)) := by
  show atI (l.map fun d : Nat => D.int (d : Int)) (k : Int) = _
  refine atI_nat ?_
  rw [List.getElem?_map, List.getElem?_eq_getElem h]
  rfl
theorem cut_take (l : List Nat) (k : Nat) : dCut none (some (k : Int)) (natD l) = some (natD (l.take k)) := by
  show some (D.lst (cutG (l.map fun d : Nat => D.int (d : Int)) none (some (k : Int)))) = _
  rw [cut_map]
  unfold cutG natD
  rw [HT.sIx_none, HT.sIx_nat, List.drop_zero, Nat.sub_zero]
  congr 3
  rw [List.take_eq_take_iff]
  omega
theorem k3_step {l : List Nat} {k a : Nat} (hk : k < l.length) (hl : l.length ≤ 3000) (s0 s1 s2 s3 s5 s6 s7 s9 s10 : Slot) (S : DS) : k3B [s0, s1, s2, s3, .ow (natD l), s5, s6, s7, .vl (.int (a : Int)), s9, s10, .vl (.int (k : Int))] S = .ok (.nx [s0, s1, s2, s3, .ow (natD l), s5, s6, s7, .vl (.int ((a + (l.take k).count (l[k]?.getD 0) : Nat) : Int)), s9, s10, .vl (.int (k : Int))]) S := by
  have i1 : itS (slcE (varB 4) noP (partP (var 11))) [s0, s1, s2, s3, .ow (natD l), s5, s6, s7, .vl (.int (a : Int)), s9, s10, .vl (.int (k : Int))] S = .ok (cL (l.take k)) S := its_of (slc_hi rfl rfl (cut_take l k)) rfl
  have z := lcL_map (t := tgN 2) (test := valB (op2 dEq (var 2) (op2 dIxA (varB 4) (var 11)))) (elt := var 2) (ρ := [s0, s1, .no, s3, .ow (natD l), s5, s6, s7, .vl (.int (a : Int)), s9, s10, .vl (.int (k : Int))]) (S := S) (fun x => match x with
    | .int n => decide (n = ((l[k]?.getD 0 : Nat) : Int))
    | _ => false) id (ds := cL (l.take k)) (acc := []) (fun x hx => by
      obtain ⟨n, hn, rfl⟩ := cL_mem hx
      exact ⟨_, rfl, val_of (op2_of rfl (op2_of rfl rfl (natD_at hk)) (dEq_int _ _)), fun _ => rfl⟩) (by rw [cL_len, List.length_take]; show 0 + min k l.length ≤ _; omega)
  rw [List.nil_append, List.map_id] at z
  have lc := lc_of (vs := [2]) i1 z
  have cnt : (((cL (l.take k)).filter fun x => match x with
    | .int n => decide (n = ((l[k]?.getD 0 : Nat) : Int))
    | _ => false).length) = (l.take k).count (l[k]?.getD 0) := by
    unfold cL
    rw [List.filter_map, List.length_map]
    unfold List.count
    rw [List.countP_eq_length_filter]
    congr 2
    funext y
    show decide (((y : Nat) : Int) = ((l[k]?.getD 0 : Nat) : Int)) = (y == l[k]?.getD 0)
    rw [Bool.eq_iff_iff]
    simp only [decide_eq_true_eq, beq_iff_eq]
    omega
  have ln := op1_of (g := dLen) lc (e := .int (((l.take k).count (l[k]?.getD 0) : Nat) : Int)) (by
    rw [← cnt]
    rfl)
  exact asg_of (op2_of rfl ln ((addI _ _).trans (by rw [← Int.natCast_add])))
theorem k3_loop {l : List Nat} (hl : l.length ≤ 1000) (s0 s1 s2 s3 s5 s6 s7 s9 s10 s11 : Slot) (S : DS) : ∃ z, forL (tgN 11) k3B (rngD 0 l.length) [s0, s1, s2, s3, .ow (natD l), s5, s6, s7, .vl (.int 0), s9, s10, s11] S = .ok (.nx [s0, s1, s2, s3, .ow (natD l), s5, s6, s7, .vl (.int ((pT l : Nat) : Int)), s9, s10, z]) S := by
  obtain ⟨ρ', S', e1, e2, e3, z, e4⟩ := forL_inv (t := tgN 11) (b := k3B) (ds := rngD 0 l.length) (fun i ρ S' => S' = S ∧ i ≤ l.length ∧ ∃ z, ρ = [s0, s1, s2, s3, .ow (natD l), s5, s6, s7, .vl (.int ((prTo l i : Nat) : Int)), s9, s10, z])
    (fun i x ρ S1 hx ⟨h1, h2, z, h3⟩ => by
      subst h1 h3
      obtain ⟨hi, rfl⟩ := rngD_get hx
      rw [Int.zero_add]
      exact ⟨_, _, S1, rfl, .inl (k3_step hi (by omega) _ _ _ _ _ _ _ _ _ _), rfl, by omega, _, rfl⟩) (ρ := [s0, s1, s2, s3, .ow (natD l), s5, s6, s7, .vl (.int 0), s9, s10, s11]) (S := S) ⟨rfl, Nat.zero_le _, s11, rfl⟩
  subst e2 e4
  rw [rngD_length] at e1
  exact ⟨z, e1⟩
end Hk13
namespace Hk13
open PySem Mini
open L2 (atI ixN atI_nat kitB)
open L2 (Key)
/-! _law_counts_hold -/
theorem nats_of {P : Nat → Prop} : ∀ {r : List D}, (∀ x ∈ r, ∃ n : Nat, P n ∧ x = .int (n : Int)) → ∃ ns, r = cL ns ∧ ∀ n ∈ ns, P n
  | [], _ => ⟨[], rfl, fun n h => by cases h⟩
  | x :: r, h => by
    obtain ⟨n, hn, rfl⟩ := h x List.mem_cons_self
    obtain ⟨ns, rfl, h2⟩ := nats_of fun y hy => h y (List.mem_cons_of_mem _ hy)
    exact ⟨n :: ns, rfl, fun m hm => by
      rcases List.mem_cons.mp hm with rfl | hm
      · exact hn
      · exact h2 m hm⟩
theorem unp3 {i j l : Nat} {f g k : FE} {ρ : En} {S S1 S2 S3 : DS} {d e o : D} (h1 : f ρ S = .ok d S1) (h2 : g ρ S1 = .ok e S2) (h3 : k ρ S2 = .ok o S3) : unpS [false, false, true] [i, j, l] (consA f (consA g (consA k nilA))) ρ S = .ok (.nx (setO l o (setV j e (setV i d ρ)))) S3 := by
  have z := cons_of h1 (cons_of h2 (cons_of h3 (nil_of (ρ := ρ))))
  unfold unpS bd
  rw [z]
  rfl
theorem unpOV {i j : Nat} {f g : FE} {ρ : En} {S S1 S2 : DS} {d e : D} (h1 : f ρ S = .ok d S1) (h2 : g ρ S1 = .ok e S2) : unpS [true, false] [i, j] (consA f (consA g nilA)) ρ S = .ok (.nx (setV j e (setO i d ρ))) S2 := by
  have z := cons_of h1 (cons_of h2 (nil_of (ρ := ρ)))
  unfold unpS bd
  rw [z]
  rfl
theorem a5_ok {ns : List Nat} (c : Cs ns) (s0 s2 s3 s6 s9 s10 : Slot) (S : DS) : ∃ z4 z10 z11, ifS (valB (op2 dLt (var 7) (cst (.int 61)))) (seqS (unpS [true, false] [4, 8] (consA (lstE nilA) (consA (cst (.int 0)) nilA)))
  (seqS (forS (itR1 (var 5)) (tgN 10) k2B)
  (forS (itR1 (var 7)) (tgN 11) k3B))) skipS [s0, .vl (cD ns), s2, s3, .no, .vl (.int (ns.length : Int)), s6, .vl (.int (ns.sum : Int)), .vl (.int ((prs ns : Nat) : Int)), s9, s10, .no] S = .ok (.nx [s0, .vl (cD ns), s2, s3, z4, .vl (.int (ns.length : Int)), s6, .vl (.int (ns.sum : Int)), .vl (.int ((prs ns : Nat) : Int)), s9, z10, z11]) S := by
  have t : valB (op2 dLt (var 7) (cst (.int 61))) [s0, .vl (cD ns), s2, s3, .no, .vl (.int (ns.length : Int)), s6, .vl (.int (ns.sum : Int)), .vl (.int ((prs ns : Nat) : Int)), s9, s10, .no] S = .ok (decide ((ns.sum : Int) < 61)) S := val_of (op2_of rfl rfl rfl)
  by_cases h : (ns.sum : Int) < 61
  · rw [decide_eq_true h] at t
    have b1 : unpS [true, false] [4, 8] (consA (lstE nilA) (consA (cst (.int 0)) nilA)) [s0, .vl (cD ns), s2, s3, .no, .vl (.int (ns.length : Int)), s6, .vl (.int (ns.sum : Int)), .vl (.int ((prs ns : Nat) : Int)), s9, s10, .no] S = .ok (.nx [s0, .vl (cD ns), s2, s3, .ow (natD []), .vl (.int (ns.length : Int)), s6, .vl (.int (ns.sum : Int)), .vl (.int 0), s9, s10, .no]) S := unpOV lst0 rfl
    obtain ⟨z10, b2⟩ := k2_loop c s0 s2 s3 (.vl (.int (ns.length : Int))) s6 (.vl (.int (ns.sum : Int))) (.vl (.int 0)) s9 s10 .no S
    have b2' := (for_of (t := tgN 10) (b := k2B) (rng_nat (a := var 5) (ρ := [s0, .vl (cD ns), s2, s3, .ow (natD []), .vl (.int (ns.length : Int)), s6, .vl (.int (ns.sum : Int)), .vl (.int 0), s9, s10, .no]) (S := S) (n := ns.length) (by have := c.n2; omega) rfl)).trans b2
    have ln : (coinsT ns ns.length).length = ns.sum := by rw [coinsT_len ns _ (Nat.le_refl _), List.take_length]
    have pt : pT (coinsT ns ns.length) = prs ns := by rw [coinsT_pT ns _ (Nat.le_refl _), List.take_length]
    obtain ⟨z11, b3⟩ := k3_loop (l := coinsT ns ns.length) (by omega) s0 (.vl (cD ns)) s2 s3 (.vl (.int (ns.length : Int))) s6 (.vl (.int (ns.sum : Int))) s9 z10 .no S
    rw [ln, pt] at b3
    have b3' := (for_of (t := tgN 11) (b := k3B) (rng_nat (a := var 7) (ρ := [s0, .vl (cD ns), s2, s3, .ow (natD (coinsT ns ns.length)), .vl (.int (ns.length : Int)), s6, .vl (.int (ns.sum : Int)), .vl (.int 0), s9, z10, .no]) (S := S) (n := ns.sum) (by omega) rfl)).trans b3
    exact ⟨_, _, _, (if_t t).trans ((seq_nx b1).trans ((seq_nx b2').trans b3'))⟩
  · rw [decide_eq_false h] at t
    exact ⟨.no, s10, .no, (if_f t).trans rfl⟩
theorem lc_rows {ns : List Nat} (c : Cs ns) {es : List (Key × D)} (dc : Dc (ci ns) es) (s0 s1 s3 s4 s5 s6 s7 s8 s10 s11 : Slot) (S : DS) : lcL (tgN 2) yesB (tupE (consA (var 2) (consA (op2 dIxA (varB 9) (var 2)) nilA))) ((sortI (keysF (ci ns))).map D.int) [] [s0, s1, .no, s3, s4, s5, s6, s7, s8, .ow (.dic es), s10, s11] S = .ok (((sortI (keysF (ci ns))).map D.int).map fun x => match x with
    | .int k => .tup [.int k, .int (((ci ns).count k : Nat) : Int)]
    | x => x) S :=
  lcL_all _ (fun x hx => by
    obtain ⟨k, hk, rfl⟩ := List.mem_map.mp hx
    have hk2 : k ∈ keysF (ci ns) := (sortI_perm _).mem_iff.mp hk
    have g : dIxA (.dic es) (.int k) = some (.int (((ci ns).count k : Nat) : Int)) := by
      show valD es (Ky k) = _
      rw [dc.val, if_pos hk2]
    exact ⟨_, rfl, tup2 rfl (op2_of rfl rfl g)⟩) (by
      have a := (sortI_perm (keysF (ci ns))).length_eq
      have b := keysF_len (ci ns)
      have d : (ci ns).length = ns.length := by unfold ci; rw [List.length_map]
      have e := c.n2
      rw [List.length_map]
      omega)
theorem rows_gd {ns : List Nat} (c : Cs ns) : Gd 2 200 (rowsD ns) := by
  have a := (sortI_perm (keysF (ci ns))).length_eq
  have b := keysF_len (ci ns)
  have d : (ci ns).length = ns.length := by unfold ci; rw [List.length_map]
  have e := c.n2
  refine (gd_tup (h := 1) (n := 2) fun x hx => ?_).mono (Nat.le_refl _) (by rw [List.length_map]; omega)
  obtain ⟨k, hk, rfl⟩ := List.mem_map.mp hx
  have ks := key_small c hk
  have z : (1001 : Nat) ≤ 10 ^ 500 := by decide +kernel
  have ct := List.count_le_length (a := k) (l := ci ns)
  exact gd_tup2 (gd_int (by omega)) (gd_int (by rw [Int.natAbs_natCast]; omega))
theorem pick_min {w : Nat} : dMin (.lst [.int 60, .int (w : Int)]) = some (.int ((min 60 w : Nat) : Int)) := by
  have e : (if (w : Int) < 60 then (w : Int) else 60) = ((min 60 w : Nat) : Int) := by split <;> omega
  show some (D.int (if (w : Int) < 60 then (w : Int) else 60)) = _
  rw [e]
theorem judge_gd (k w : Nat) (hk : k ≤ 60) (hw : w ≤ 2400) : Gd 1 10 (judgeD k w) := by
  have z : (2 ^ 30 : Nat) ≤ 10 ^ 500 := by decide +kernel
  unfold judgeD
  split
  · refine (gd_tup (h := 0) (n := 5) (ds := [.str "right"]) fun x hx => ?_).mono (Nat.le_refl _) (by show 1 * (5 + 1) ≤ 10; decide)
    rcases List.mem_cons.mp hx with rfl | hx
    · exact gd_str (by decide +kernel) (by decide +kernel)
    · cases hx
  · refine (gd_tup (h := 0) (n := 3) (ds := [.str "gap", .int ((k : Int) - (w : Int))]) fun x hx => ?_).mono (Nat.le_refl _) (by show 2 * (3 + 1) ≤ 10; decide)
    rcases List.mem_cons.mp hx with rfl | hx
    · exact gd_str (by decide +kernel) (by decide +kernel)
    · rcases List.mem_cons.mp hx with rfl | hx
      · exact (gd_int (by omega)).mono (Nat.le_refl _) (by decide)
      · cases hx
def alikeD (ns : List Nat) : D := if ns.sum = 1 then .non else low (prs ns) (ns.sum * (ns.sum - 1) / 2)
theorem prs_le {ns : List Nat} (c : Cs ns) : prs ns ≤ 100000 := by
  have key : ∀ l : List Nat, (∀ n ∈ l, n ≤ 60) → prs l ≤ 2000 * l.length := by
    intro l
    induction l with
    | nil => intro _; exact Nat.le_refl _
    | cons n l ih =>
      intro h
      have a := ih fun x hx => h x (List.mem_cons_of_mem _ hx)
      have b := h n List.mem_cons_self
      have d : n * (n - 1) ≤ 60 * 60 := Nat.mul_le_mul b (by omega)
      have e : prs (n :: l) = n * (n - 1) / 2 + prs l := rfl
      rw [e, List.length_cons]
      omega
  have a := key ns fun n hn => (c.r n hn).2
  have b := c.n2
  omega
theorem alike_gd {ns : List Nat} (c : Cs ns) : Gd 1 2 (alikeD ns) := by
  have z : (100000000 : Nat) ≤ 10 ^ 500 := by decide +kernel
  unfold alikeD
  split
  · exact gd_non.mono (by decide) (by decide)
  · have a := prs_le c
    have b := c.sum_le
    have d : ns.sum * (ns.sum - 1) ≤ 2400 * 2400 := Nat.mul_le_mul b (by omega)
    exact low_gd (by omega) (by omega)
theorem gd_lst3 {h n : Nat} {d e f : D} (a : Gd h n d) (b : Gd h n e) (c : Gd h n f) : Gd (h + 1) (3 * (n + 1)) (.lst [d, e, f]) := gd_lst (ds := [d, e, f]) fun x hx => by
  rcases List.mem_cons.mp hx with rfl | hx
  · exact a
  · rcases List.mem_cons.mp hx with rfl | hx
    · exact b
    · rcases List.mem_cons.mp hx with rfl | hx
      · exact c
      · cases hx
end Hk13
namespace Hk13
open PySem Mini
open L2 (atI ixN atI_nat kitB)
open L2 (Key)
theorem frz_vl {i : Nat} {b : FS} {ρ : En} {S : DS} {d : D} (h : ρ[i]? = some (.vl d)) : frzS i b ρ S = b ρ S := by
  unfold frzS
  rw [h]
theorem frz_ow {i : Nat} {b : FS} {ρ : En} {S : DS} {d : D} (h : ρ[i]? = some (.ow d)) : frzS i b ρ S = b (setV i d ρ) S := by
  unfold frzS
  rw [h]
theorem v_counts_hold {S : DS} (v : Vs S) : ∃ S', m__law_counts_hold [.st] S = .ok (.bl true) S' ∧ Vs S' := by
  obtain ⟨y, S1, k1, k2, v1⟩ := v_pick v (ds := [.int 1, .int 2, .int 3, .int 6, .int 40]) (by simp) (by simp)
  obtain ⟨m, hm, m1, m2⟩ : ∃ m : Nat, y = .int (m : Int) ∧ 1 ≤ m ∧ m ≤ 40 := by
    simp only [List.mem_cons, List.not_mem_nil, or_false] at k2
    rcases k2 with rfl | rfl | rfl | rfl | rfl
    · exact ⟨1, rfl, by decide, by decide⟩
    · exact ⟨2, rfl, by decide, by decide⟩
    · exact ⟨3, rfl, by decide, by decide⟩
    · exact ⟨6, rfl, by decide, by decide⟩
    · exact ⟨40, rfl, by decide, by decide⟩
  subst hm
  obtain ⟨y, S2, k3, k4, v2⟩ := v_pick v1 (ds := [.int 1, .int 2, .int 4, .int 60]) (by simp) (by simp)
  obtain ⟨t, ht, t1, t2⟩ : ∃ t : Nat, y = .int (t : Int) ∧ 1 ≤ t ∧ t ≤ 60 := by
    simp only [List.mem_cons, List.not_mem_nil, or_false] at k4
    rcases k4 with rfl | rfl | rfl | rfl
    · exact ⟨1, rfl, by decide, by decide⟩
    · exact ⟨2, rfl, by decide, by decide⟩
    · exact ⟨4, rfl, by decide, by decide⟩
    · exact ⟨60, rfl, by decide, by decide⟩
  subst ht
  have a1 : asgT (tgT [(tgN 5), (tgN 6)]) (tupE (consA (callE m__law_pick (consA (var 0) (consA (lstE (consA (cst (.int 1)) (consA (cst (.int 2)) (consA (cst (.int 3)) (consA (cst (.int 6)) (consA (cst (.int 40)) nilA)))))) nilA))) (consA (callE m__law_pick (consA (var 0) (consA (lstE (consA (cst (.int 1)) (consA (cst (.int 2)) (consA (cst (.int 4)) (consA (cst (.int 60)) nilA))))) nilA))) nilA))) [.vl .st, .no, .no, .no, .no, .no, .no, .no, .no, .no, .no, .no] S = .ok (.nx [.vl .st, .no, .no, .no, .no, .vl (.int (m : Int)), .vl (.int (t : Int)), .no, .no, .no, .no, .no]) S2 := asgT_of (tup2 (call2_of rfl (lst5 rfl rfl rfl rfl rfl) k1) (call2_of rfl (lst4 rfl rfl rfl rfl) k3)) rfl
  obtain ⟨r, S3, l1, l2, l3, v3⟩ := lcL_draw (t := tgN 11) (elt := op2 dAdd (cst (.int 1)) (callE m__law_draw (consA (var 0) (consA (var 6) nilA)))) (ρ := [.vl .st, .no, .no, .no, .no, .vl (.int (m : Int)), .vl (.int (t : Int)), .no, .no, .no, .no, .no]) Vs (fun x => ∃ n : Nat, (1 ≤ n ∧ n ≤ 60) ∧ x = .int (n : Int)) (ds := rngD 0 m) (acc := []) (S := S2) (fun x hx S vS => by
    obtain ⟨q, Sq, d1, d2, vq⟩ := v_draw vS (n := t) (by omega) (by omega)
    exact ⟨_, .int ((1 + q : Nat) : Int), Sq, rfl, op2_of rfl (call2_of rfl rfl d1) ((addI _ _).trans (by rw [Int.natCast_add]; rfl)), ⟨1 + q, by omega, rfl⟩, vq⟩) (by rw [rngD_length]; show 0 + m ≤ _; omega) v2
  rw [List.nil_append] at l1
  rw [rngD_length] at l2
  obtain ⟨ns, rfl, hns⟩ := nats_of l3
  rw [cL_len] at l2
  subst l2
  have c : Cs ns := ⟨m1, m2, hns⟩
  have cp := c.pos
  have cs := c.sum_le
  have a2 : asgS 1 (op1 dTupX (lcE (itR1 (var 5)) (tgN 11) yesB (op2 dAdd (cst (.int 1)) (callE m__law_draw (consA (var 0) (consA (var 6) nilA)))) [11])) [.vl .st, .no, .no, .no, .no, .vl (.int (ns.length : Int)), .vl (.int (t : Int)), .no, .no, .no, .no, .no] S2 = .ok (.nx [.vl .st, .vl (cD ns), .no, .no, .no, .vl (.int (ns.length : Int)), .vl (.int (t : Int)), .no, .no, .no, .no, .no]) S3 := asg_of (op1_of (lc_of (rng_nat (n := ns.length) (by omega) rfl) l1) rfl)
  have a3 : unpS [false, false, true] [7, 8, 9] (consA (op1 dSumA (var 1)) (consA (cst (.int 0)) (consA dicE nilA))) [.vl .st, .vl (cD ns), .no, .no, .no, .vl (.int (ns.length : Int)), .vl (.int (t : Int)), .no, .no, .no, .no, .no] S3 = .ok (.nx [.vl .st, .vl (cD ns), .no, .no, .no, .vl (.int (ns.length : Int)), .vl (.int (t : Int)), .vl (.int (ns.sum : Int)), .vl (.int 0), .ow (.dic []), .no, .no]) S3 := unp3 (op1_of rfl (c_sum ns)) rfl rfl
  obtain ⟨es, z2, b1, dc⟩ := k1_loop c (.vl .st) (.vl (cD ns)) .no .no .no (.vl (.int (ns.length : Int))) (.vl (.int (t : Int))) (.vl (.int (ns.sum : Int))) .no .no S3
  have a4 := (for_of (it := itS (var 1)) (t := tgN 2) (b := k1B) (ρ := [.vl .st, .vl (cD ns), .no, .no, .no, .vl (.int (ns.length : Int)), .vl (.int (t : Int)), .vl (.int (ns.sum : Int)), .vl (.int 0), .ow (.dic []), .no, .no]) (S := S3) (S1 := S3) (ds := cL ns) rfl).trans b1
  obtain ⟨z4, z10, z11, a5⟩ := a5_ok c (.vl .st) z2 .no (.vl (.int (t : Int))) (.ow (.dic es)) .no S3
  -- the due answers
  have o1 := len_ones (lc_of (it := itS (var 1)) (vs := [2]) (ρ := [.vl .st, .vl (cD ns), z2, .no, z4, .vl (.int (ns.length : Int)), .vl (.int (t : Int)), .vl (.int (ns.sum : Int)), .vl (.int ((prs ns : Nat) : Int)), .ow (.dic es), z10, z11]) (S := S3) (S1 := S3) (ds := cL ns) rfl (lc_ones c 2 [.vl .st, .vl (cD ns), .no, .no, z4, .vl (.int (ns.length : Int)), .vl (.int (t : Int)), .vl (.int (ns.sum : Int)), .vl (.int ((prs ns : Nat) : Int)), .ow (.dic es), z10, z11] S3 (by show 2 < 12; decide)))
  have x1 : callE m__law_lowest (consA (op2 dSub (var 7) (op1 dLen (lcE (itS (var 1)) (tgN 2) (valB (op2 dEq (var 2) (cst (.int 1)))) (var 2) [2]))) (consA (var 7) nilA)) [.vl .st, .vl (cD ns), z2, .no, z4, .vl (.int (ns.length : Int)), .vl (.int (t : Int)), .vl (.int (ns.sum : Int)), .vl (.int ((prs ns : Nat) : Int)), .ow (.dic es), z10, z11] S3 = .ok (low (ns.sum - ones ns) ns.sum) S3 := call2_of (op2_of rfl o1 ((subI _ _).trans (by rw [← Int.natCast_sub (ones_le c)]))) rfl (v_lowest (by omega) (big_of (by omega)) S3)
  have es64 : es.length < 64 := by
    have := dc.len
    have ln : (ci ns).length = ns.length := by unfold ci; rw [List.length_map]
    omega
  have sd : dSorted (.dic es) = some (.lst ((sortI (keysF (ci ns))).map D.int)) := by
    show (if es.length < 64 then (keyI es).map fun ns => D.lst ((sortI ns).map .int) else none) = _
    rw [if_pos es64, dc.ks]
    rfl
  have l4 := lc_of (it := itS (op1 dSorted (varB 9))) (vs := [2]) (ρ := [.vl .st, .vl (cD ns), z2, .no, z4, .vl (.int (ns.length : Int)), .vl (.int (t : Int)), .vl (.int (ns.sum : Int)), .vl (.int ((prs ns : Nat) : Int)), .ow (.dic es), z10, z11]) (S := S3) (S1 := S3) (ds := (sortI (keysF (ci ns))).map D.int) (its_of (op1_of (g := dSorted) (d := .dic es) rfl sd) rfl) (lc_rows c dc (.vl .st) (.vl (cD ns)) .no z4 (.vl (.int (ns.length : Int))) (.vl (.int (t : Int))) (.vl (.int (ns.sum : Int))) (.vl (.int ((prs ns : Nat) : Int))) z10 z11 S3)
  rw [List.map_map] at l4
  have a6 := asgO_of (i := 3) (lst2 x1 (op1_of (g := dTuple) (e := rowsD ns) l4 rfl))
  have t7 : valB (op2 dEq (var 7) (cst (.int 1))) [.vl .st, .vl (cD ns), z2, .ow (.lst [low (ns.sum - ones ns) ns.sum, rowsD ns]), z4, .vl (.int (ns.length : Int)), .vl (.int (t : Int)), .vl (.int (ns.sum : Int)), .vl (.int ((prs ns : Nat) : Int)), .ow (.dic es), z10, z11] S3 = .ok (decide (ns.sum = 1)) S3 := val_of (op2_of rfl rfl (eq_one ns.sum))
  have x7 : iteE (valB (op2 dEq (var 7) (cst (.int 1)))) (cst .non) (callE m__law_lowest (consA (var 8) (consA (op2 dDiv (op2 dMulX (var 7) (op2 dSub (var 7) (cst (.int 1)))) (cst (.int 2))) nilA))) [.vl .st, .vl (cD ns), z2, .ow (.lst [low (ns.sum - ones ns) ns.sum, rowsD ns]), z4, .vl (.int (ns.length : Int)), .vl (.int (t : Int)), .vl (.int (ns.sum : Int)), .vl (.int ((prs ns : Nat) : Int)), .ow (.dic es), z10, z11] S3 = .ok (alikeD ns) S3 := by
    unfold alikeD
    by_cases h : ns.sum = 1
    · rw [decide_eq_true h] at t7
      rw [if_pos h]
      exact (ite_t t7).trans rfl
    · rw [decide_eq_false h] at t7
      rw [if_neg h]
      have mm := mulX (i := (ns.sum : Int)) (j := (ns.sum : Int) - 1) (big_nat (big_of (by omega))) (big_of (by omega))
      have dv := divI (i := ((ns.sum * (ns.sum - 1) : Nat) : Int)) (j := 2) (by decide) (big_of (by decide))
      have e1 : ((ns.sum * (ns.sum - 1) : Nat) : Int) / 2 = ((ns.sum * (ns.sum - 1) / 2 : Nat) : Int) := by rw [Int.natCast_ediv]; rfl
      have lt : ns.sum * (ns.sum - 1) ≤ 2400 * 2400 := Nat.mul_le_mul cs (by omega)
      have gt : 2 * 1 ≤ ns.sum * (ns.sum - 1) := Nat.mul_le_mul (by omega) (by omega)
      exact (ite_f t7).trans (call2_of rfl (op2_of (op2_of rfl (op2_of rfl rfl (subI _ _)) (mm.trans (by rw [sq_cast]))) rfl (dv.trans (by rw [e1]))) (v_lowest (by omega) (big_of (by omega)) S3))
  have a7 := app_of (i := 3) (ds := [low (ns.sum - ones ns) ns.sum, rowsD ns]) rfl x7 (by show 2 < 16777216; decide)
  have z500 : (10000000 : Nat) ≤ 10 ^ 500 := by decide +kernel
  have gg := gd_lst3 ((low_gd (u := ns.sum - ones ns) (d := ns.sum) (by omega) (by omega)).mono (h' := 2) (n' := 200) (by decide) (by decide)) (rows_gd c) ((alike_gd c).mono (h' := 2) (n' := 200) (by decide) (by decide))
  have x8 : callE m__law_same (consA (lstE (consA (callE m_coverage (consA (var 1) nilA)) (consA (callE m_often_seen (consA (var 1) nilA)) (consA (callE m_chance_alike (consA (var 1) nilA)) nilA)))) (consA (var 3) nilA)) [.vl .st, .vl (cD ns), z2, .vl (.lst [low (ns.sum - ones ns) ns.sum, rowsD ns, alikeD ns]), z4, .vl (.int (ns.length : Int)), .vl (.int (t : Int)), .vl (.int (ns.sum : Int)), .vl (.int ((prs ns : Nat) : Int)), .ow (.dic es), z10, z11] S3 = .ok (.bl true) S3 := call2_of (lst3 (call1_of rfl (v_coverage c S3)) (call1_of rfl (v_often c S3)) (call1_of rfl (v_chance_alike c S3))) rfl (v_same gg (by decide) (by decide) S3)
  have a8 : frzS 3 (ifS (notB (truB (callE m__law_same (consA (lstE (consA (callE m_coverage (consA (var 1) nilA)) (consA (callE m_often_seen (consA (var 1) nilA)) (consA (callE m_chance_alike (consA (var 1) nilA)) nilA)))) (consA (var 3) nilA))))) (retS (cst (.bl false))) skipS) [.vl .st, .vl (cD ns), z2, .ow (.lst [low (ns.sum - ones ns) ns.sum, rowsD ns, alikeD ns]), z4, .vl (.int (ns.length : Int)), .vl (.int (t : Int)), .vl (.int (ns.sum : Int)), .vl (.int ((prs ns : Nat) : Int)), .ow (.dic es), z10, z11] S3 = .ok (.nx [.vl .st, .vl (cD ns), z2, .vl (.lst [low (ns.sum - ones ns) ns.sum, rowsD ns, alikeD ns]), z4, .vl (.int (ns.length : Int)), .vl (.int (t : Int)), .vl (.int (ns.sum : Int)), .vl (.int ((prs ns : Nat) : Int)), .ow (.dic es), z10, z11]) S3 := (frz_ow rfl).trans (if_f (not_of (tru_ofE x8 rfl)))
  -- the last pick
  obtain ⟨q, S4, q1, q2, v4⟩ := v_draw v3 (n := 61) (by decide) (by decide)
  obtain ⟨x, S5, j1, j2, v5⟩ := v_pick v4 (ds := [.int ((min 60 ns.sum : Nat) : Int), .int ((min 60 (ns.sum + 1) : Nat) : Int), .int ((min 60 (ns.sum - 1) : Nat) : Int), .int (q : Int), .int 0, .int 60]) (by simp) (by simp)
  obtain ⟨k, hk, hk2⟩ : ∃ k : Nat, x = .int (k : Int) ∧ k ≤ 60 := by
    simp only [List.mem_cons, List.not_mem_nil, or_false] at j2
    rcases j2 with rfl | rfl | rfl | rfl | rfl | rfl
    · exact ⟨_, rfl, by omega⟩
    · exact ⟨_, rfl, by omega⟩
    · exact ⟨_, rfl, by omega⟩
    · exact ⟨q, rfl, by omega⟩
    · exact ⟨0, rfl, by decide⟩
    · exact ⟨60, rfl, by decide⟩
  subst hk
  have pm1 : dMin (.lst [.int 60, .int ((ns.sum : Int) + 1)]) = some (.int ((min 60 (ns.sum + 1) : Nat) : Int)) := by
    rw [show ((ns.sum : Int) + 1) = ((ns.sum + 1 : Nat) : Int) by omega]
    exact pick_min
  have pm2 : dMin (.lst [.int 60, .int ((ns.sum : Int) - 1)]) = some (.int ((min 60 (ns.sum - 1) : Nat) : Int)) := by
    rw [show ((ns.sum : Int) - 1) = ((ns.sum - 1 : Nat) : Int) by omega]
    exact pick_min
  have a9 : asgS 4 (callE m__law_pick (consA (var 0) (consA (lstE (consA (op1 dMin (lstE (consA (cst (.int 60)) (consA (var 7) nilA)))) (consA (op1 dMin (lstE (consA (cst (.int 60)) (consA (op2 dAdd (var 7) (cst (.int 1))) nilA)))) (consA (op1 dMin (lstE (consA (cst (.int 60)) (consA (op2 dSub (var 7) (cst (.int 1))) nilA)))) (consA (callE m__law_draw (consA (var 0) (consA (cst (.int 61)) nilA))) (consA (cst (.int 0)) (consA (cst (.int 60)) nilA))))))) nilA))) [.vl .st, .vl (cD ns), z2, .vl (.lst [low (ns.sum - ones ns) ns.sum, rowsD ns, alikeD ns]), z4, .vl (.int (ns.length : Int)), .vl (.int (t : Int)), .vl (.int (ns.sum : Int)), .vl (.int ((prs ns : Nat) : Int)), .ow (.dic es), z10, z11] S3 = .ok (.nx [.vl .st, .vl (cD ns), z2, .vl (.lst [low (ns.sum - ones ns) ns.sum, rowsD ns, alikeD ns]), .vl (.int (k : Int)), .vl (.int (ns.length : Int)), .vl (.int (t : Int)), .vl (.int (ns.sum : Int)), .vl (.int ((prs ns : Nat) : Int)), .ow (.dic es), z10, z11]) S5 :=
    asg_of (call2_of rfl (lst6 (op1_of (lst2 rfl rfl) pick_min) (op1_of (lst2 rfl (op2_of rfl rfl (addI _ _))) pm1) (op1_of (lst2 rfl (op2_of rfl rfl (subI _ _))) pm2) (call2_of rfl rfl q1) rfl rfl) j1)
  have hd10 : decide ((k : Int) = (ns.sum : Int)) = decide (k = ns.sum) := by
    rw [Bool.eq_iff_iff]
    simp only [decide_eq_true_eq]
    omega
  have t10 : valB (op2 dEq (varB 4) (var 7)) [.vl .st, .vl (cD ns), z2, .vl (.lst [low (ns.sum - ones ns) ns.sum, rowsD ns, alikeD ns]), .vl (.int (k : Int)), .vl (.int (ns.length : Int)), .vl (.int (t : Int)), .vl (.int (ns.sum : Int)), .vl (.int ((prs ns : Nat) : Int)), .ow (.dic es), z10, z11] S5 = .ok (decide (k = ns.sum)) S5 := val_of (op2_of rfl rfl ((dEq_int _ _).trans (by rw [hd10])))
  have x10 := judge_tail (a := op2 dSub (varB 4) (var 7)) t10 (op2_of rfl rfl (subI _ _))
  have a10 : frzS 4 (retS (callE m__law_same (consA (callE m_judge_counts (consA (var 4) (consA (var 1) nilA))) (consA (iteE (valB (op2 dEq (varB 4) (var 7))) (tupE (consA (cst (.str "right")) nilA)) (tupE (consA (cst (.str "gap")) (consA (op2 dSub (varB 4) (var 7)) nilA)))) nilA)))) [.vl .st, .vl (cD ns), z2, .vl (.lst [low (ns.sum - ones ns) ns.sum, rowsD ns, alikeD ns]), .vl (.int (k : Int)), .vl (.int (ns.length : Int)), .vl (.int (t : Int)), .vl (.int (ns.sum : Int)), .vl (.int ((prs ns : Nat) : Int)), .ow (.dic es), z10, z11] S5 = .ok (.rt (.bl true)) S5 :=
    (frz_vl rfl).trans (ret_of (call2_of (call2_of rfl rfl (v_judge c hk2 S5)) x10 (v_same (judge_gd k ns.sum hk2 cs) (by decide) (by decide) S5)))
  refine ⟨S5, ?_, v5⟩
  rw [e__law_counts_hold]
  refine body_rt ?_
  rw [b__law_counts_hold]
  exact (seq_nx a1).trans ((seq_nx a2).trans ((seq_nx a3).trans ((seq_nx a4).trans ((seq_nx a5).trans ((seq_nx a6).trans ((seq_nx a7).trans ((seq_nx a8).trans ((seq_nx a9).trans a10))))))))
end Hk13
namespace Hk13
open PySem Mini
open L2 (atI ixN atI_nat kitB)
open L2 (Key)
def lawB : FS := (seqS (parS 4 5 (op2 dAdd (cst (.int 1)) (callE m__law_draw (consA (var 1) (consA (callE m__law_pick (consA (var 1) (consA (lstE (consA (cst (.int 3)) (consA (cst (.int 8)) (consA (cst (.int 40)) nilA)))) nilA))) nilA)))) (callE m__law_draw (consA (var 1) (consA (callE m__law_pick (consA (var 1) (consA (lstE (consA (cst (.int 4)) (consA (cst (.int 9)) (consA (cst (.int 61)) nilA)))) nilA))) nilA))))
  (seqS (ifS (valB (op2 dEq (callE m__law_draw (consA (var 1) (consA (cst (.int 9)) nilA))) (cst (.int 0)))) (asgT (tgT [(tgN 4), (tgN 5)]) (callE m__law_pick (consA (var 1) (consA (lstE (consA (tupE (consA (cst (.int 40)) (consA (cst (.int 60)) nilA))) (consA (tupE (consA (cst (.int 1)) (consA (cst (.int 0)) nilA))) (consA (tupE (consA (cst (.int 1)) (consA (cst (.int 60)) nilA))) (consA (tupE (consA (cst (.int 40)) (consA (cst (.int 0)) nilA))) (consA (tupE (consA (cst (.int 40)) (consA (cst (.int 40)) nilA))) (consA (tupE (consA (cst (.int 39)) (consA (cst (.int 59)) nilA))) nilA))))))) nilA)))) skipS)
  (seqS (parS 6 7 (callE m__law_draw (consA (var 1) (consA (callE m__law_pick (consA (var 1) (consA (lstE (consA (cst (.int 4)) (consA (op2 dAdd (var 4) (cst (.int 1))) (consA (cst (.int 41)) nilA)))) nilA))) nilA))) (op2 dAdd (cst (.int 1)) (callE m__law_draw (consA (var 1) (consA (callE m__law_pick (consA (var 1) (consA (lstE (consA (cst (.int 8)) (consA (cst (.int 40)) nilA))) nilA))) nilA)))))
  (seqS (ifS (orB (notB (truB (callE m__law_chances_hold (consA (var 4) (consA (var 5) nilA))))) (notB (truB (callE m__law_likely_holds (consA (var 1) (consA (var 5) (consA (var 6) (consA (var 7) nilA)))))))) (retS (cst (.bl false))) skipS)
  (seqS (asgS 3 (callE m__law_draw (consA (var 1) (consA (callE m__law_pick (consA (var 1) (consA (lstE (consA (op2 dAdd (var 4) (cst (.int 1))) (consA (op2 dAdd (var 4) (cst (.int 1))) (consA (cst (.int 41)) nilA)))) nilA))) nilA))))
  (ifS (orB (notB (truB (callE m__law_least_holds (consA (var 4) (consA (var 3) nilA))))) (orB (notB (truB (callE m__law_new_holds (consA (var 4) (consA (callE m__law_draw (consA (var 1) (consA (op2 dAdd (var 4) (cst (.int 1))) nilA))) (consA (callE m__law_draw (consA (var 1) (consA (cst (.int 61)) nilA))) nilA)))))) (notB (truB (callE m__law_counts_hold (consA (var 1) nilA)))))) (retS (cst (.bl false))) skipS))))))
theorem b_law_eq : b_law = seqS (mkS 1 m__law_start (consA (var 0) nilA)) (seqS (forS (itR1 (cst (.int 3))) (tgN 2) lawB) (retS (cst (.bl true)))) := rfl
theorem nat3 {a b c lo hi : Nat} {y : D} (h : y ∈ [D.int (a : Int), .int (b : Int), .int (c : Int)]) (ha : lo ≤ a ∧ a ≤ hi) (hb : lo ≤ b ∧ b ≤ hi) (hc : lo ≤ c ∧ c ≤ hi) : ∃ n : Nat, y = .int (n : Int) ∧ lo ≤ n ∧ n ≤ hi := by
  simp only [List.mem_cons, List.not_mem_nil, or_false] at h
  rcases h with rfl | rfl | rfl
  · exact ⟨a, rfl, ha⟩
  · exact ⟨b, rfl, hb⟩
  · exact ⟨c, rfl, hc⟩
theorem nat2 {a b lo hi : Nat} {y : D} (h : y ∈ [D.int (a : Int), .int (b : Int)]) (ha : lo ≤ a ∧ a ≤ hi) (hb : lo ≤ b ∧ b ≤ hi) : ∃ n : Nat, y = .int (n : Int) ∧ lo ≤ n ∧ n ≤ hi := by
  simp only [List.mem_cons, List.not_mem_nil, or_false] at h
  rcases h with rfl | rfl
  · exact ⟨a, rfl, ha⟩
  · exact ⟨b, rfl, hb⟩
theorem one_add (r : Nat) : dAdd (.int 1) (.int (r : Int)) = some (.int ((1 + r : Nat) : Int)) := (addI _ _).trans (by rw [Int.natCast_add]; rfl)
theorem add_one' (r : Nat) : dAdd (.int (r : Int)) (.int 1) = some (.int ((r + 1 : Nat) : Int)) := (addI _ _).trans (by rw [Int.natCast_add]; rfl)
theorem swap_ok {S : DS} (v : Vs S) (sc tn w s m : Slot) {d c : Nat} (d1 : 1 ≤ d) (d2 : d ≤ 40) (c2 : c ≤ 60) : ∃ (d' c' : Nat) (S' : DS), (ifS (valB (op2 dEq (callE m__law_draw (consA (var 1) (consA (cst (.int 9)) nilA))) (cst (.int 0)))) (asgT (tgT [(tgN 4), (tgN 5)]) (callE m__law_pick (consA (var 1) (consA (lstE (consA (tupE (consA (cst (.int 40)) (consA (cst (.int 60)) nilA))) (consA (tupE (consA (cst (.int 1)) (consA (cst (.int 0)) nilA))) (consA (tupE (consA (cst (.int 1)) (consA (cst (.int 60)) nilA))) (consA (tupE (consA (cst (.int 40)) (consA (cst (.int 0)) nilA))) (consA (tupE (consA (cst (.int 40)) (consA (cst (.int 40)) nilA))) (consA (tupE (consA (cst (.int 39)) (consA (cst (.int 59)) nilA))) nilA))))))) nilA)))) skipS) [sc, .vl .st, tn, w, .vl (.int (d : Int)), .vl (.int (c : Int)), s, m] S = .ok (.nx [sc, .vl .st, tn, w, .vl (.int (d' : Int)), .vl (.int (c' : Int)), s, m]) S' ∧ 1 ≤ d' ∧ d' ≤ 40 ∧ c' ≤ 60 ∧ Vs S' := by
  obtain ⟨r, S1, e1, e2, v1⟩ := v_draw v (n := 9) (by decide) (by decide)
  by_cases h : r = 0
  · subst h
    obtain ⟨y, S2, k1, k2, v2⟩ := v_pick v1 (ds := [.tup [.int 40, .int 60], .tup [.int 1, .int 0], .tup [.int 1, .int 60], .tup [.int 40, .int 0], .tup [.int 40, .int 40], .tup [.int 39, .int 59]]) (by simp) (by simp)
    obtain ⟨a, b, hy, ha, hb, hc⟩ : ∃ a b : Nat, y = .tup [.int (a : Int), .int (b : Int)] ∧ 1 ≤ a ∧ a ≤ 40 ∧ b ≤ 60 := by
      simp only [List.mem_cons, List.not_mem_nil, or_false] at k2
      rcases k2 with rfl | rfl | rfl | rfl | rfl | rfl
      · exact ⟨40, 60, rfl, by decide, by decide, by decide⟩
      · exact ⟨1, 0, rfl, by decide, by decide, by decide⟩
      · exact ⟨1, 60, rfl, by decide, by decide, by decide⟩
      · exact ⟨40, 0, rfl, by decide, by decide, by decide⟩
      · exact ⟨40, 40, rfl, by decide, by decide, by decide⟩
      · exact ⟨39, 59, rfl, by decide, by decide, by decide⟩
    subst hy
    refine ⟨a, b, S2, ?_, ha, hb, hc, v2⟩
    have t : valB (op2 dEq (callE m__law_draw (consA (var 1) (consA (cst (.int 9)) nilA))) (cst (.int 0))) [sc, .vl .st, tn, w, .vl (.int (d : Int)), .vl (.int (c : Int)), s, m] S = .ok true S1 := val_of (op2_of (call2_of rfl rfl e1) rfl (dEq_int _ _))
    exact (if_t t).trans (asgT_of (call2_of rfl (lst6 (tup2 rfl rfl) (tup2 rfl rfl) (tup2 rfl rfl) (tup2 rfl rfl) (tup2 rfl rfl) (tup2 rfl rfl)) k1) rfl)
  · refine ⟨d, c, S1, ?_, d1, d2, c2, v1⟩
    have hd : decide ((r : Int) = 0) = false := decide_eq_false (by omega)
    have t : valB (op2 dEq (callE m__law_draw (consA (var 1) (consA (cst (.int 9)) nilA))) (cst (.int 0))) [sc, .vl .st, tn, w, .vl (.int (d : Int)), .vl (.int (c : Int)), s, m] S = .ok false S1 := val_of (op2_of (call2_of rfl rfl e1) rfl ((dEq_int _ _).trans (by rw [hd])))
    exact (if_f t).trans rfl
theorem law_step {S : DS} (v : Vs S) (sc tn w d c s m : Slot) : ∃ (w' d' c' s' m' : Slot) (S' : DS), lawB [sc, .vl .st, tn, w, d, c, s, m] S = .ok (.nx [sc, .vl .st, tn, w', d', c', s', m']) S' ∧ Vs S' := by
  obtain ⟨y, S1, k1, k2, v1⟩ := v_pick v (ds := [.int 3, .int 8, .int 40]) (by simp) (by simp)
  obtain ⟨n1, rfl, p1, p2⟩ := nat3 (a := 3) (b := 8) (c := 40) (lo := 1) (hi := 40) k2 (by decide) (by decide) (by decide)
  obtain ⟨r, S2, e1, e2, v2⟩ := v_draw v1 (n := n1) (by omega) (by omega)
  obtain ⟨y, S3, k3, k4, v3⟩ := v_pick v2 (ds := [.int 4, .int 9, .int 61]) (by simp) (by simp)
  obtain ⟨n2, rfl, p3, p4⟩ := nat3 (a := 4) (b := 9) (c := 61) (lo := 1) (hi := 61) k4 (by decide) (by decide) (by decide)
  obtain ⟨c0, S4, e3, e4, v4⟩ := v_draw v3 (n := n2) (by omega) (by omega)
  have a1 : (parS 4 5 (op2 dAdd (cst (.int 1)) (callE m__law_draw (consA (var 1) (consA (callE m__law_pick (consA (var 1) (consA (lstE (consA (cst (.int 3)) (consA (cst (.int 8)) (consA (cst (.int 40)) nilA)))) nilA))) nilA)))) (callE m__law_draw (consA (var 1) (consA (callE m__law_pick (consA (var 1) (consA (lstE (consA (cst (.int 4)) (consA (cst (.int 9)) (consA (cst (.int 61)) nilA)))) nilA))) nilA)))) [sc, .vl .st, tn, w, d, c, s, m] S = .ok (.nx [sc, .vl .st, tn, w, .vl (.int ((1 + r : Nat) : Int)), .vl (.int (c0 : Int)), s, m]) S4 := par_of (op2_of rfl (call2_of rfl (call2_of rfl (lst3 rfl rfl rfl) k1) e1) (one_add r)) (call2_of rfl (call2_of rfl (lst3 rfl rfl rfl) k3) e3)
  obtain ⟨d', c', S5, a2, q1, q2, q3, v5⟩ := swap_ok v4 sc tn w s m (d := 1 + r) (c := c0) (by omega) (by omega) (by omega)
  obtain ⟨y, S6, k5, k6, v6⟩ := v_pick v5 (ds := [.int 4, .int ((d' + 1 : Nat) : Int), .int 41]) (by simp) (by simp)
  obtain ⟨n3, rfl, p5, p6⟩ := nat3 (a := 4) (b := d' + 1) (c := 41) (lo := 1) (hi := 41) k6 (by decide) (by omega) (by decide)
  obtain ⟨s', S7, e5, e6, v7⟩ := v_draw v6 (n := n3) (by omega) (by omega)
  obtain ⟨y, S8, k7, k8, v8⟩ := v_pick v7 (ds := [.int 8, .int 40]) (by simp) (by simp)
  obtain ⟨n4, rfl, p7, p8⟩ := nat2 (a := 8) (b := 40) (lo := 1) (hi := 40) k8 (by decide) (by decide)
  obtain ⟨m0, S9, e7, e8, v9⟩ := v_draw v8 (n := n4) (by omega) (by omega)
  have a3 : (parS 6 7 (callE m__law_draw (consA (var 1) (consA (callE m__law_pick (consA (var 1) (consA (lstE (consA (cst (.int 4)) (consA (op2 dAdd (var 4) (cst (.int 1))) (consA (cst (.int 41)) nilA)))) nilA))) nilA))) (op2 dAdd (cst (.int 1)) (callE m__law_draw (consA (var 1) (consA (callE m__law_pick (consA (var 1) (consA (lstE (consA (cst (.int 8)) (consA (cst (.int 40)) nilA))) nilA))) nilA))))) [sc, .vl .st, tn, w, .vl (.int (d' : Int)), .vl (.int (c' : Int)), s, m] S5 = .ok (.nx [sc, .vl .st, tn, w, .vl (.int (d' : Int)), .vl (.int (c' : Int)), .vl (.int (s' : Int)), .vl (.int ((1 + m0 : Nat) : Int))]) S9 := par_of (call2_of rfl (call2_of rfl (lst3 rfl (op2_of rfl rfl (add_one' d')) rfl) k5) e5) (op2_of rfl (call2_of rfl (call2_of rfl (lst2 rfl rfl) k7) e7) (one_add m0))
  obtain ⟨S10, f1, v10⟩ := v_likely_holds v9 (c := c') (s := s') (n := 1 + m0) q3 (by omega) (by omega) (by omega)
  have a4 : (ifS (orB (notB (truB (callE m__law_chances_hold (consA (var 4) (consA (var 5) nilA))))) (notB (truB (callE m__law_likely_holds (consA (var 1) (consA (var 5) (consA (var 6) (consA (var 7) nilA)))))))) (retS (cst (.bl false))) skipS) [sc, .vl .st, tn, w, .vl (.int (d' : Int)), .vl (.int (c' : Int)), .vl (.int (s' : Int)), .vl (.int ((1 + m0 : Nat) : Int))] S9 = .ok (.nx [sc, .vl .st, tn, w, .vl (.int (d' : Int)), .vl (.int (c' : Int)), .vl (.int (s' : Int)), .vl (.int ((1 + m0 : Nat) : Int))]) S10 := (if_f ((or_f (not_of (tru_ofE (call2_of rfl rfl (v_chances_hold q1 q2 q3 S9)) rfl))).trans (not_of (tru_ofE (call4_of rfl rfl rfl rfl f1) rfl)))).trans rfl
  obtain ⟨y, S11, k9, k10, v11⟩ := v_pick v10 (ds := [.int ((d' + 1 : Nat) : Int), .int ((d' + 1 : Nat) : Int), .int 41]) (by simp) (by simp)
  obtain ⟨n5, rfl, p9, p10⟩ := nat3 (a := d' + 1) (b := d' + 1) (c := 41) (lo := 1) (hi := 41) k10 (by omega) (by omega) (by decide)
  obtain ⟨w', S12, e9, e10, v12⟩ := v_draw v11 (n := n5) (by omega) (by omega)
  have a5 : (asgS 3 (callE m__law_draw (consA (var 1) (consA (callE m__law_pick (consA (var 1) (consA (lstE (consA (op2 dAdd (var 4) (cst (.int 1))) (consA (op2 dAdd (var 4) (cst (.int 1))) (consA (cst (.int 41)) nilA)))) nilA))) nilA)))) [sc, .vl .st, tn, w, .vl (.int (d' : Int)), .vl (.int (c' : Int)), .vl (.int (s' : Int)), .vl (.int ((1 + m0 : Nat) : Int))] S10 = .ok (.nx [sc, .vl .st, tn, .vl (.int (w' : Int)), .vl (.int (d' : Int)), .vl (.int (c' : Int)), .vl (.int (s' : Int)), .vl (.int ((1 + m0 : Nat) : Int))]) S12 := asg_of (call2_of rfl (call2_of rfl (lst3 (op2_of rfl rfl (add_one' d')) (op2_of rfl rfl (add_one' d')) rfl) k9) e9)
  obtain ⟨s2, S13, g1, g2, v13⟩ := v_draw v12 (n := d' + 1) (by omega) (by omega)
  obtain ⟨m2, S14, g3, g4, v14⟩ := v_draw v13 (n := 61) (by decide) (by decide)
  obtain ⟨S15, f2, v15⟩ := v_counts_hold v14
  have a6 : (ifS (orB (notB (truB (callE m__law_least_holds (consA (var 4) (consA (var 3) nilA))))) (orB (notB (truB (callE m__law_new_holds (consA (var 4) (consA (callE m__law_draw (consA (var 1) (consA (op2 dAdd (var 4) (cst (.int 1))) nilA))) (consA (callE m__law_draw (consA (var 1) (consA (cst (.int 61)) nilA))) nilA)))))) (notB (truB (callE m__law_counts_hold (consA (var 1) nilA)))))) (retS (cst (.bl false))) skipS) [sc, .vl .st, tn, .vl (.int (w' : Int)), .vl (.int (d' : Int)), .vl (.int (c' : Int)), .vl (.int (s' : Int)), .vl (.int ((1 + m0 : Nat) : Int))] S12 = .ok (.nx [sc, .vl .st, tn, .vl (.int (w' : Int)), .vl (.int (d' : Int)), .vl (.int (c' : Int)), .vl (.int (s' : Int)), .vl (.int ((1 + m0 : Nat) : Int))]) S15 :=
    (if_f ((or_f (not_of (tru_ofE (call2_of rfl rfl (v_least_holds q1 q2 (by omega) S12)) rfl))).trans ((or_f (not_of (tru_ofE (call3_of rfl (call2_of rfl (op2_of rfl rfl (add_one' d')) g1) (call2_of rfl rfl g3) (v_new_holds q1 q2 (by omega) (by omega) S14)) rfl))).trans (not_of (tru_ofE (call1_of rfl f2) rfl))))).trans rfl
  exact ⟨_, _, _, _, _, S15, (seq_nx a1).trans ((seq_nx a2).trans ((seq_nx a3).trans ((seq_nx a4).trans ((seq_nx a5).trans a6)))), v15⟩
theorem start_eq : m__law_start = fnO 1 3 startB := rfl
theorem val_ok : Val := by
  intro ns hl
  obtain ⟨ds, e1, v⟩ := start_ok ns (by omega)
  have a1 : mkS 1 m__law_start (consA (var 0) nilA) [.vl (.scr ns), .no, .no, .no, .no, .no, .no, .no] none = .ok (.nx [.vl (.scr ns), .vl .st, .no, .no, .no, .no, .no, .no]) (some ds) := by
    rw [start_eq]
    unfold mkS bd
    rw [show (consA (var 0) nilA) [.vl (.scr ns), .no, .no, .no, .no, .no, .no, .no] none = .ok [.scr ns] none from rfl]
    show (match fnO 1 3 startB [.scr ns] none with
      | .ok (.lst ds) none => Res.ok (Fl.nx _) (some ds)
      | _ => .no) = _
    rw [e1]
    rfl
  obtain ⟨ρ', S', b1, w', d', c', s', m', tn', rfl, v'⟩ := forL_inv (t := tgN 2) (b := lawB) (ds := rngD 0 3) (fun _ ρ S => ∃ w d c s m tn : Slot, ρ = [.vl (.scr ns), .vl .st, tn, w, d, c, s, m] ∧ Vs S) (fun i x ρ S _ ⟨w, d, c, s, m, tn, hρ, vS⟩ => by
    subst hρ
    obtain ⟨w', d', c', s', m', S', hb, vS'⟩ := law_step vS (.vl (.scr ns)) (.vl x) w d c s m
    exact ⟨_, _, S', rfl, .inl hb, w', d', c', s', m', .vl x, rfl, vS'⟩) (ρ := [.vl (.scr ns), .vl .st, .no, .no, .no, .no, .no, .no]) (S := some ds) ⟨.no, .no, .no, .no, .no, .no, rfl, v⟩
  refine ⟨S', ?_⟩
  have a2 := (for_of (it := itR1 (cst (.int 3))) (t := tgN 2) (b := lawB) (ρ := [.vl (.scr ns), .vl .st, .no, .no, .no, .no, .no, .no]) (S := some ds) (rng_nat (n := 3) (by decide) rfl)).trans b1
  show bd (b_law [.vl (.scr ns), .no, .no, .no, .no, .no, .no, .no]) leave none = _
  refine body_rt ?_
  rw [b_law_eq]
  exact (seq_nx a1).trans ((seq_nx a2).trans rfl)
end Hk13
theorem PySem.Challenge.cw_hoardsread_k13_counts_holds : PySem.Challenge.rw_hoardsread_k13_counts.Holds := by
  exact Hk13.holds Hk13.val_ok
