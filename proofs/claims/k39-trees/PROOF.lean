import PyProof.Rows.All
import Wide.All
import OpenK.AllK
import Wide.FinOn
import HandS.ForMost
import HandS.Exc
import HandS.Flow
import HandS.Style
import HandS.IsInst
import HandS.Conv
import HandS.More
import HandS.DictComp
import HandS.ListItems
import HandS.TupAny
import HandS.TupLe
import HandS.TupMul
import HandS.TupLen
import HandS.Deep
import HandS.Zip
import HandS.Rev
import KE.SortData
import KE.GoesEnum
import KE.KDictDisplayH
import HandS.EndBits
import KE.DataMinMax
import PySem.Challenge.RW_nowayleft_k39_trees_worked_out
set_option Elab.async false
set_option linter.all false
set_option maxRecDepth 100000
set_option maxHeartbeats 2000000
/-! Fz: programs as functions on plain data. D: data that never change; W: data, or the number of a thing that changes; O: such a thing. -/
namespace Fz
open PySem L2

inductive D where
  | non | bl (b : Bool) | int (i : Int) | str (s : List Nat) | tup (l : List D) | lst (l : List D)
inductive W where
  | d (x : D) | r (n : Nat)
inductive O where
  | lst (l : List W)
  | dk (l : List (D × W))
  | dt (l : List (D × W))
  | ins (c : Nat) (fs : List (Nat × W))
abbrev Hh := List O
abbrev Ev := List (Option W)
inductive R (α : Type) where
  | ok (a : α) (h : Hh)
  | ex (c : Nat) (p : W) (h : Hh)
  | no
def R.bind {α β : Type} (m : R α) (f : α → Hh → R β) : R β := match m with
  | .ok a h => f a h
  | .ex c p h => .ex c p h
  | .no => .no
@[simp] theorem R.bind_ok {α β : Type} {a : α} {h : Hh} {f : α → Hh → R β} : (R.ok a h).bind f = f a h := rfl
@[simp] theorem R.bind_ex {α β : Type} {c p h} {f : α → Hh → R β} : (R.ex c p h : R α).bind f = .ex c p h := rfl
@[simp] theorem R.bind_no {α β : Type} {f : α → Hh → R β} : (R.no : R α).bind f = .no := rfl

/-- the names of fields, the places of classes -/
structure Tb where
  fld : Nat → Str
  cad : Nat → Addr
  efl : Nat → Str

def toStr (l : List Nat) : Str := ⟨l.toArray⟩
theorem toStr_len (l : List Nat) : (toStr l).length = l.length := by simp [toStr, Str.length]
theorem toStr_inj {a b : List Nat} (h : toStr a = toStr b) : a = b := by
  have := congrArg (fun s : Str => s.cps.toList) h
  simpa [toStr] using this

def FL (K : PySem.W.Frag) (M : List Addr) (H : Hp) (a : Addr) (xs : List V) : Prop := Rd H a (.lst xs) ∧ a ∉ M
def FT (K : PySem.W.Frag) (M : List Addr) (H : Hp) (a : Addr) (xs : List V) : Prop := H a = some (.tup xs) ∧ a ∉ M
theorem FL.sq {K M H a xs} (h : FL K M H a xs) : SqL K H a xs := .inl h.1
theorem FT.sq {K M H a xs} (h : FT K M H a xs) : SqT K H a xs := .inl (.inl h.1)

mutual
inductive Rp (K : PySem.W.Frag) (M : List Addr) (H : Hp) : D → V → Prop
  | non : Rp K M H .non .non
  | bl (b : Bool) : Rp K M H (.bl b) (.bl b)
  | int (i : Int) : Rp K M H (.int i) (.int i)
  | str (l : List Nat) (z : l.length ≤ sizeLine) : Rp K M H (.str l) (.str (toStr l))
  | tup {a : Addr} {vs : List V} {ds : List D} : FT K M H a vs → ds.length ≤ sizeLine → RpL K M H ds vs → Rp K M H (.tup ds) (.ref a)
  | lst {a : Addr} {vs : List V} {ds : List D} : FL K M H a vs → ds.length ≤ sizeLine → RpL K M H ds vs → Rp K M H (.lst ds) (.ref a)
inductive RpL (K : PySem.W.Frag) (M : List Addr) (H : Hp) : List D → List V → Prop
  | nil : RpL K M H [] []
  | cons {d : D} {v : V} {ds : List D} {vs : List V} : Rp K M H d v → RpL K M H ds vs → RpL K M H (d :: ds) (v :: vs)
end

/-- what stands still from (M, H) to (M', H'): what is tracked and no mutable thing of ours is as it was; new mutable things were not tracked -/
structure Keep (M : List Addr) (H : Hp) (M' : List Addr) (H' : Hp) : Prop where
  keep : ∀ a o, H a = some o → a ∉ M → H' a = some o
  new : ∀ a, a ∈ M' → a ∉ M → H a = none
theorem Rd.keep {M H M' H'} (k : Keep M H M' H') {a : Addr} {u : HO} (h : Rd H a u) (n : a ∉ M) : Rd H' a u ∧ a ∉ M' := by
  have e : ∃ o, H a = some o := by
    rcases h with h | ⟨o, h⟩ <;> exact ⟨_, h⟩
  obtain ⟨o, e⟩ := e
  refine ⟨?_, fun q => ?_⟩
  · rcases h with h | ⟨o', h⟩
    · exact .inl (k.keep _ _ h n)
    · exact .inr ⟨o', k.keep _ _ h n⟩
  · rw [k.new a q n] at e
    cases e
theorem FL.keep {K M H M' H' a xs} (k : Keep M H M' H') (h : FL K M H a xs) : FL K M' H' a xs := Rd.keep k h.1 h.2
theorem FT.keep {K M H M' H' a xs} (k : Keep M H M' H') (h : FT K M H a xs) : FT K M' H' a xs := ⟨k.keep _ _ h.1 h.2, (Rd.keep k (.inl h.1) h.2).2⟩
mutual
theorem Rp.keep {K M H M' H'} (k : Keep M H M' H') : ∀ {d : D} {v : V}, Rp K M H d v → Rp K M' H' d v
  | _, _, .non => .non
  | _, _, .bl b => .bl b
  | _, _, .int i => .int i
  | _, _, .str l z => .str l z
  | _, _, .tup h z r => .tup (h.keep k) z (RpL.keep k r)
  | _, _, .lst h z r => .lst (h.keep k) z (RpL.keep k r)
theorem RpL.keep {K M H M' H'} (k : Keep M H M' H') : ∀ {d : List D} {v : List V}, RpL K M H d v → RpL K M' H' d v
  | _, _, .nil => .nil
  | _, _, .cons a b => .cons (Rp.keep k a) (RpL.keep k b)
end
theorem RpL.length {K M H} : ∀ {d : List D} {v : List V}, RpL K M H d v → d.length = v.length
  | _, _, .nil => rfl
  | _, _, .cons _ b => by simp [RpL.length b]

/-- a value -/
inductive RW (K : PySem.W.Frag) (F ρ : List Addr) (H : Hp) : W → V → Prop
  | d {x : D} {v : V} : Rp K (F ++ ρ) H x v → RW K F ρ H (.d x) v
  | r {n : Nat} {a : Addr} : ρ[n]? = some a → RW K F ρ H (.r n) (.ref a)
abbrev RWs (K : PySem.W.Frag) (F ρ : List Addr) (H : Hp) : List W → List V → Prop := Paired (RW K F ρ H)
/-- a key: the datum and the key of the layer -/
inductive Rk : D → Key → Prop
  | int (i : Int) : Rk (.int i) (.inl i)
  | str (l : List Nat) : Rk (.str l) (.inr (toStr l))
inductive Rks : List D → List Key → Prop
  | nil : Rks [] []
  | cons {d k ds ks} : Rk d k → Rks ds ks → Rks (d :: ds) (k :: ks)
def RkT (d : D) (ks : List Key) : Prop := ∃ ds, d = .tup ds ∧ Rks ds ks
/-- a thing that changes -/
inductive RO (K : PySem.W.Frag) (T : Tb) (F ρ : List Addr) (H : Hp) : O → HO → Prop
  | lst {l : List W} {vs : List V} : l.length ≤ sizeLine → RWs K F ρ H l vs → RO K T F ρ H (.lst l) (.lst vs)
  | dk {l : List (D × W)} {kvs : List (Key × V)} : Paired (fun p q => Rk p.1 q.1 ∧ RW K F ρ H p.2 q.2) l kvs → RO K T F ρ H (.dk l) (.dK kvs)
  | dt {l : List (D × W)} {kvs : List (List Key × V)} : Paired (fun p q => RkT p.1 q.1 ∧ RW K F ρ H p.2 q.2) l kvs → RO K T F ρ H (.dt l) (.dT kvs)
  | ins {c : Nat} {fs : List (Nat × W)} {dx : Addr} {vs : List (Str × V)} : Paired (fun p q => q.1 = T.fld p.1 ∧ RW K F ρ H p.2 q.2) fs vs → fs.length < 900 → RO K T F ρ H (.ins c fs) (.ins (T.cad c) dx vs)
/-- the heap -/
structure HR (K : PySem.W.Frag) (T : Tb) (F ρ : List Addr) (ih : Hh) (H : Hp) : Prop where
  len : ρ.length = ih.length
  nd : ρ.Nodup
  fr : ∀ a ∈ ρ, a ∉ F
  trF : ∀ a ∈ F, H a ≠ none
  obj : ∀ (n : Nat) (o : O), ih[n]? = some o → ∃ a ho, ρ[n]? = some a ∧ H a = some ho ∧ RO K T F ρ H o ho
/-- the slots -/
def RE (K : PySem.W.Frag) (F ρ : List Addr) (H : Hp) (e : Ev) (σ : L2.St) : Prop :=
  e.length = σ.length ∧ ∀ (i : Nat) (w : W), e[i]? = some (some w) → ∃ v, σ[i]? = some (some v) ∧ RW K F ρ H w v

/-- a heap behind another one: more things, the others stand still -/
structure Grow (F ρ : List Addr) (H : Hp) (ρ' : List Addr) (H' : Hp) : Prop where
  more : ∃ m, ρ' = ρ ++ m
  keep : ∀ a o, H a = some o → a ∉ ρ → H' a = some o
  new : ∀ a ∈ ρ', a ∉ ρ → H a = none
theorem Grow.refl {F ρ H} : Grow F ρ H ρ H := ⟨⟨[], by simp⟩, fun _ _ h _ => h, fun _ h n => absurd h n⟩
theorem Grow.get {F ρ H ρ' H'} (g : Grow F ρ H ρ' H') {n : Nat} {a : Addr} (h : ρ[n]? = some a) : ρ'[n]? = some a := by
  obtain ⟨m, rfl⟩ := g.more
  rw [List.getElem?_append_left (List.getElem?_eq_some_iff.mp h).1]
  exact h
theorem Grow.mem {F ρ H ρ' H'} (g : Grow F ρ H ρ' H') {a : Addr} (h : a ∈ ρ) : a ∈ ρ' := by
  obtain ⟨m, rfl⟩ := g.more
  exact List.mem_append_left _ h
theorem HR.tr {K T F ρ ih H} (h : HR K T F ρ ih H) {a : Addr} (m : a ∈ ρ) : H a ≠ none := by
  obtain ⟨n, hn, e⟩ := List.getElem_of_mem m
  have hn' : n < ih.length := by rw [← h.len]; exact hn
  obtain ⟨b, ho, e1, e2, _⟩ := h.obj n ih[n] (List.getElem?_eq_getElem hn')
  rw [List.getElem?_eq_getElem hn, e] at e1
  cases e1
  rw [e2]
  exact fun q => nomatch q
theorem Grow.keepM {K T F ρ H ρ' H' ih} (g : Grow F ρ H ρ' H') (h : HR K T F ρ ih H) : Keep (F ++ ρ) H (F ++ ρ') H' where
  keep := fun a o e n => g.keep a o e fun q => n (List.mem_append_right _ q)
  new := fun a m n => by
    rcases List.mem_append.mp m with q | q
    · exact absurd (List.mem_append_left _ q) n
    · exact g.new a q fun z => n (List.mem_append_right _ z)
theorem RW.grow {K T F ρ H ρ' H' ih} (g : Grow F ρ H ρ' H') (h : HR K T F ρ ih H) {w : W} {v : V} (r : RW K F ρ H w v) : RW K F ρ' H' w v := by
  cases r with
  | d r => exact .d (r.keep (g.keepM h))
  | r e => exact .r (g.get e)
theorem Paired.mapP' {α β : Type} {A B : α → β → Prop} (f : ∀ a b, A a b → B a b) {l : List α} {m : List β} (h : Paired A l m) : Paired B l m := Paired.mapP h f
theorem RWs.grow {K T F ρ H ρ' H' ih} (g : Grow F ρ H ρ' H') (h : HR K T F ρ ih H) {w : List W} {v : List V} (r : RWs K F ρ H w v) : RWs K F ρ' H' w v :=
  Paired.mapP r fun _ _ x => x.grow g h
theorem RE.grow {K T F ρ H ρ' H' ih e σ} (g : Grow F ρ H ρ' H') (h : HR K T F ρ ih H) (r : RE K F ρ H e σ) : RE K F ρ' H' e σ :=
  ⟨r.1, fun i w q => let ⟨v, a, b⟩ := r.2 i w q; ⟨v, a, b.grow g h⟩⟩
theorem Grow.trans {K T F ρ H ρ1 H1 ρ2 H2 ih1} (a : Grow F ρ H ρ1 H1) (h1 : HR K T F ρ1 ih1 H1) (b : Grow F ρ1 H1 ρ2 H2) : Grow F ρ H ρ2 H2 where
  more := by
    obtain ⟨m, rfl⟩ := a.more
    obtain ⟨n, rfl⟩ := b.more
    exact ⟨m ++ n, by simp⟩
  keep := fun x o e n => b.keep x o (a.keep x o e n) fun q => by
    rw [a.new x q n] at e
    cases e
  new := fun x m n => by
    by_cases q : x ∈ ρ1
    · exact a.new x q n
    · have := b.new x m q
      cases e : H x with
      | none => rfl
      | some o =>
        rw [a.keep x o e n] at this
        cases this
end Fz
set_option Elab.async false
set_option linter.all false
set_option maxRecDepth 100000
set_option maxHeartbeats 2000000
/-! Fz: judgements. FE X T Wx e c: the expression e is walked, and does what the function c says. -/
namespace Fz
open PySem L2

/-- an own exception: its class, what it holds -/
def XR (K : PySem.W.Frag) (T : Tb) (F ρ : List Addr) (H : Hp) (c : Nat) (p : W) (cls : Value) (dx : Option Addr) : Prop :=
  cls = .ref (T.cad c) ∧ ∃ d v, dx = some d ∧ H d = some (.xd [(T.efl c, v)]) ∧ d ∉ F ++ ρ ∧ RW K F ρ H p v

section
variable (K : PySem.W.Frag) (T : Tb) (Wx : WX)
def Pst {α : Type} (σ : L2.St) (F ρ : List Addr) (H : Hp) (m : R α) (k : List Addr → Hp → Hh → α → Prop) : Prop :=
  match m with
  | .ok a ih' => ∀ ρ' H', Grow F ρ H ρ' H' → HR K T F ρ' ih' H' → k ρ' H' ih' a
  | .ex c p ih' => ∀ ρ' H' cls dx, Grow F ρ H ρ' H' → HR K T F ρ' ih' H' → XR K T F ρ' H' c p cls dx → Wx cls dx σ H'
  | .no => False
end
section
variable {K : PySem.W.Frag} {T : Tb} {Wx : WX} {σ : L2.St} {F ρ : List Addr} {H : Hp} {α β : Type}
theorem Pst.bind {m : R α} {f : α → Hh → R β} {k : List Addr → Hp → Hh → β → Prop} (h : Pst K T Wx σ F ρ H (m.bind f) k) :
    Pst K T Wx σ F ρ H m fun ρ1 H1 ih1 a => Pst K T Wx σ F ρ1 H1 (f a ih1) k := by
  cases m with
  | no => exact h
  | ex c p ih' => exact h
  | ok a ih1 =>
    intro ρ1 H1 g1 hr1
    have h' : Pst K T Wx σ F ρ H (f a ih1) k := h
    cases e : f a ih1 with
    | no => rw [e] at h'; exact h'.elim
    | ok b ih2 =>
      rw [e] at h'
      exact fun ρ2 H2 g2 hr2 => h' ρ2 H2 (g1.trans hr1 g2) hr2
    | ex c p ih2 =>
      rw [e] at h'
      exact fun ρ2 H2 cls dx g2 hr2 x => h' ρ2 H2 cls dx (g1.trans hr1 g2) hr2 x
theorem Pst.mono {m : R α} {k k' : List Addr → Hp → Hh → α → Prop} (h : Pst K T Wx σ F ρ H m k)
    (f : ∀ ρ' H' ih' a, Grow F ρ H ρ' H' → HR K T F ρ' ih' H' → k ρ' H' ih' a → k' ρ' H' ih' a) : Pst K T Wx σ F ρ H m k' := by
  cases m with
  | no => exact h
  | ex c p ih' => exact h
  | ok a ih1 => exact fun ρ' H' g hr => f _ _ _ _ g hr (h ρ' H' g hr)
theorem Pst.ok {a : α} {ih : Hh} {k : List Addr → Hp → Hh → α → Prop} (hr : HR K T F ρ ih H) (h : Pst K T Wx σ F ρ H (.ok a ih) k) : k ρ H ih a := h ρ H Grow.refl hr
end

abbrev Cd := Ev → Hh → R W
abbrev Cb := Ev → Hh → R Bool
abbrev Ca := Ev → Hh → R (List W)
section
variable (K : PySem.W.Frag) (T : Tb) (Wx : WX)
def tOf (c : Cd) : TE := fun σ H Q => ∃ F ρ e ih, HR K T F ρ ih H ∧ RE K F ρ H e σ ∧ Pst K T Wx σ F ρ H (c e ih) fun ρ' H' _ w => ∀ v, RW K F ρ' H' w v → Q v H'
def bOf (c : Cb) : TT := fun σ H Q => ∃ F ρ e ih, HR K T F ρ ih H ∧ RE K F ρ H e σ ∧ Pst K T Wx σ F ρ H (c e ih) fun _ H' _ b => Q b H'
def aOf (c : Ca) : TA := fun σ H Q => ∃ F ρ e ih, HR K T F ρ ih H ∧ RE K F ρ H e σ ∧ Pst K T Wx σ F ρ H (c e ih) fun ρ' H' _ ws => ∀ vs, RWs K F ρ' H' ws vs → Q vs H'
end
def FE (X : Cx) (T : Tb) (Wx : WX) (e : Expr) (c : Cd) : Prop := PE X e (tOf X.K T Wx c)
def FT' (X : Cx) (T : Tb) (Wx : WX) (e : Expr) (c : Cb) : Prop := PT X e (bOf X.K T Wx c)
def FW (X : Cx) (T : Tb) (Wx : WX) (e : Expr) (c : Cb) : Prop := PW X e (bOf X.K T Wx c)
def FA (X : Cx) (T : Tb) (Wx : WX) (es : List Expr) (c : Ca) : Prop := PA X es (aOf X.K T Wx c)

section
variable {X : Cx} {T : Tb} {Wx : WX} {e a b : Expr} {es : List Expr} {pos : Pos}
theorem PE.imp {t t' : TE} (h : PE X e t) (f : ∀ σ H Q, t' σ H Q → t σ H Q) : PE X e t' := ⟨fun pins s σ H Q I q => h.run pins s σ H Q I (f _ _ _ q)⟩
theorem PT.imp {t t' : TT} (h : PT X e t) (f : ∀ σ H Q, t' σ H Q → t σ H Q) : PT X e t' := ⟨fun pins s σ H Q I q => h.run pins s σ H Q I (f _ _ _ q)⟩
theorem PW.imp {t t' : TT} (h : PW X e t) (f : ∀ σ H Q, t' σ H Q → t σ H Q) : PW X e t' := ⟨fun wh pins s σ H Q I q => h.run wh pins s σ H Q I (f _ _ _ q)⟩
theorem PA.imp {t t' : TA} (h : PA X es t) (f : ∀ σ H Q, t' σ H Q → t σ H Q) : PA X es t' := ⟨fun p pins s σ H Q I q => h.run p pins s σ H Q I (f _ _ _ q)⟩

/-! ### names, constants -/
def cv (i : Nat) : Cd := fun e h => match e[i]? with
  | some (some w) => .ok w h
  | _ => .no
def cc (x : D) : Cd := fun _ h => .ok (.d x) h
theorem fe_v {i : Nat} (h : PE X e (tVar i)) : FE X T Wx e (cv i) := PE.imp h fun σ H Q q => by
  obtain ⟨F, ρ, ev, ih, hr, re, hp⟩ := q
  unfold cv at hp
  cases he : ev[i]? with
  | none => rw [he] at hp; exact hp.elim
  | some o =>
    cases o with
    | none => rw [he] at hp; exact hp.elim
    | some w =>
      rw [he] at hp
      obtain ⟨v, e1, r1⟩ := re.2 i w he
      exact ⟨v, e1, hp.ok hr v r1⟩
/-- a datum and the value that needs no heap for it -/
inductive Sm : D → V → Prop
  | non : Sm .non .non
  | bl (b : Bool) : Sm (.bl b) (.bl b)
  | int (i : Int) : Sm (.int i) (.int i)
  | str (l : List Nat) (z : l.length ≤ sizeLine) : Sm (.str l) (.str (toStr l))
theorem Sm.rp {K M H x v} (h : Sm x v) : Rp K M H x v := by
  cases h
  · exact .non
  · exact .bl _
  · exact .int _
  · exact .str _ (by assumption)
theorem Sm.rw {K F ρ H x v} (h : Sm x v) : RW K F ρ H (.d x) v := .d h.rp
theorem fe_c {x : D} {v : V} (s : Sm x v) (h : PE X e (tC v)) : FE X T Wx e (cc x) := PE.imp h fun σ H Q q => by
  obtain ⟨F, ρ, ev, ih, hr, re, hp⟩ := q
  exact hp.ok hr v s.rw

/-! ### operations by values -/
def FOp (K : PySem.W.Frag) (T : Tb) (op : W → W → Hh → R W) (r : R2) : Prop := ∀ (Wx : WX) (σ : L2.St) (F ρ : List Addr) (ih : Hh) (H : Hp) (x y : W) (v1 v2 : V) (Q : VK), HR K T F ρ ih H → RW K F ρ H x v1 → RW K F ρ H y v2 →
  Pst K T Wx σ F ρ H (op x y ih) (fun ρ' H' _ w => ∀ v, RW K F ρ' H' w v → Q v H') → r v1 v2 H Q
def FUn (K : PySem.W.Frag) (T : Tb) (op : W → Hh → R W) (r : V → Hp → VK → Prop) : Prop := ∀ (Wx : WX) (σ : L2.St) (F ρ : List Addr) (ih : Hh) (H : Hp) (x : W) (v1 : V) (Q : VK), HR K T F ρ ih H → RW K F ρ H x v1 →
  Pst K T Wx σ F ρ H (op x ih) (fun ρ' H' _ w => ∀ v, RW K F ρ' H' w v → Q v H') → r v1 H Q
def FCl (K : PySem.W.Frag) (T : Tb) (op : List W → Hh → R W) (r : List V → Hp → VK → Prop) : Prop := ∀ (Wx : WX) (σ : L2.St) (F ρ : List Addr) (ih : Hh) (H : Hp) (xs : List W) (vs : List V) (Q : VK), HR K T F ρ ih H → RWs K F ρ H xs vs →
  Pst K T Wx σ F ρ H (op xs ih) (fun ρ' H' _ w => ∀ v, RW K F ρ' H' w v → Q v H') → r vs H Q
def c2 (op : W → W → Hh → R W) (a b : Cd) : Cd := fun e h => (a e h).bind fun x h => (b e h).bind fun y h => op x y h
def c1 (op : W → Hh → R W) (a : Cd) : Cd := fun e h => (a e h).bind op
theorem op2 {op : W → W → Hh → R W} {r : R2} {ca cb : Cd} (ho : FOp X.K T op r) {σ H Q} (q : tOf X.K T Wx (c2 op ca cb) σ H Q) : tOp r (tOf X.K T Wx ca) (tOf X.K T Wx cb) σ H Q := by
  obtain ⟨F, ρ, ev, ih, hr, re, hp⟩ := q
  refine ⟨F, ρ, ev, ih, hr, re, hp.bind.mono fun ρ1 H1 ih1 w1 g1 hr1 hp1 v1 r1 => ?_⟩
  refine ⟨F, ρ1, ev, ih1, hr1, re.grow g1 hr, hp1.bind.mono fun ρ2 H2 ih2 w2 g2 hr2 hp2 v2 r2 => ?_⟩
  exact ho Wx σ F ρ2 ih2 H2 w1 w2 v1 v2 Q hr2 (r1.grow g2 hr1) r2 hp2
theorem fe_op {o : Operator} {op : W → W → Hh → R W} {r : R2} {ca cb : Cd} (ho : OpR X (binaryOp o) r) (hf : FOp X.K T op r) (ha : FE X T Wx a ca) (hb : FE X T Wx b cb) : FE X T Wx (.BinOp a o b pos) (c2 op ca cb) :=
  PE.imp (pe_op ho ha hb) fun _ _ _ q => op2 hf q
theorem fe_un {o : UnaryOp} {op : W → Hh → R W} {r : V → Hp → VK → Prop} {ca : Cd} (ho : UnR X (unaryOp o) r) (hf : FUn X.K T op r) (ha : FE X T Wx a ca) : FE X T Wx (.UnaryOp o a pos) (c1 op ca) :=
  PE.imp (pe_un ho ha) fun σ H Q q => by
    obtain ⟨F, ρ, ev, ih, hr, re, hp⟩ := q
    exact ⟨F, ρ, ev, ih, hr, re, hp.bind.mono fun ρ1 H1 ih1 w1 g1 hr1 hp1 v1 r1 => hf Wx σ F ρ1 ih1 H1 w1 v1 Q hr1 r1 hp1⟩
theorem fe_cmp {o : CmpOp} {op : W → W → Hh → R W} {r : R2} {ca cb : Cd} (ho : OpR X (compareOp o) r) (hf : FOp X.K T op r) (hm : behindInMarks o b = false) (ha : FE X T Wx a ca) (hb : FE X T Wx b cb) : FE X T Wx (.Compare a [o] [b] pos) (c2 op ca cb) :=
  PE.imp (pe_cmpR ho ha hb hm) fun _ _ _ q => op2 hf q
/-- what is True or False -/
def asB (m : R W) : R Bool := m.bind fun w h => match w with
  | .d (.bl b) => .ok b h
  | _ => .no
theorem tst {t : TE} {c : Cd} (f : ∀ σ H Q, tOf X.K T Wx c σ H Q → t σ H Q) {σ H Q} (q : bOf X.K T Wx (fun e h => asB (c e h)) σ H Q) : tTest t σ H Q := by
  obtain ⟨F, ρ, ev, ih, hr, re, hp⟩ := q
  refine f _ _ _ ⟨F, ρ, ev, ih, hr, re, hp.bind.mono fun ρ1 H1 ih1 w1 g1 hr1 hp1 v1 r1 => ?_⟩
  cases r1 with
  | r _ => exact hp1.elim
  | d r1 =>
    cases r1 with
    | bl b => exact ⟨b, rfl, hp1.ok hr1⟩
    | _ => exact hp1.elim
theorem ft_cmp {o : CmpOp} {op : W → W → Hh → R W} {r : R2} {ca cb : Cd} (ho : OpR X (compareOp o) r) (hf : FOp X.K T op r) (hm : behindInMarks o b = false) (ha : FE X T Wx a ca) (hb : FE X T Wx b cb) :
    FT' X T Wx (.Compare a [o] [b] pos) (fun e h => asB (c2 op ca cb e h)) := PT.imp (pt_cmpR ho ha hb hm) fun _ _ _ q => tst (fun _ _ _ q => op2 hf q) q
/-- a chain of two comparisons -/
def cch (op op' : W → W → Hh → R W) (a b c : Cd) : Cd := fun e h => (a e h).bind fun x h => (b e h).bind fun y h => (asB (op x y h)).bind fun k h => if k then (c e h).bind fun z h => op' y z h else .ok (.d (.bl false)) h
theorem chain {op op' : W → W → Hh → R W} {r r' : R2} {ca cb cd : Cd} (hf : FOp X.K T op r) (hf' : FOp X.K T op' r') {σ H Q} (q : tOf X.K T Wx (cch op op' ca cb cd) σ H Q) :
    tChain r r' (tOf X.K T Wx ca) (tOf X.K T Wx cb) (tOf X.K T Wx cd) σ H Q := by
  obtain ⟨F, ρ, ev, ih, hr, re, hp⟩ := q
  refine ⟨F, ρ, ev, ih, hr, re, hp.bind.mono fun ρ1 H1 ih1 w1 g1 hr1 hp1 v1 r1 => ?_⟩
  have re1 := re.grow g1 hr
  refine ⟨F, ρ1, ev, ih1, hr1, re1, hp1.bind.mono fun ρ2 H2 ih2 w2 g2 hr2 hp2 v2 r2 => ?_⟩
  have re2 := re1.grow g2 hr1
  refine hf Wx σ F ρ2 ih2 H2 w1 w2 v1 v2 _ hr2 (r1.grow g2 hr1) r2 (hp2.bind.bind.mono fun ρ3 H3 ih3 w3 g3 hr3 hp3 v3 r3 => ?_)
  have re3 := re2.grow g3 hr2
  cases r3 with
  | r _ => exact hp3.elim
  | d r3 =>
    cases r3 with
    | bl k =>
      have hp4 := hp3.ok hr3
      refine ⟨k, rfl, ?_⟩
      cases k with
      | false =>
        rw [if_neg Bool.false_ne_true]
        rw [if_neg Bool.false_ne_true] at hp4
        exact hp4.ok hr3 _ (.d (.bl false))
      | true =>
        rw [if_pos rfl]
        rw [if_pos rfl] at hp4
        refine ⟨F, ρ3, ev, ih3, hr3, re3, hp4.bind.mono fun ρ5 H5 ih5 w5 g5 hr5 hp5 v5 r5 => ?_⟩
        exact hf' Wx σ F ρ5 ih5 H5 w2 w5 v2 v5 Q hr5 ((r2.grow g3 hr2).grow g5 hr3) r5 hp5
    | _ => exact hp3.elim
theorem fe_chain {o o' : CmpOp} {op op' : W → W → Hh → R W} {r r' : R2} {c : Expr} {ca cb cd : Cd} (ho : OpR X (compareOp o) r) (hf : FOp X.K T op r) (ho' : OpR X (compareOp o') r') (hf' : FOp X.K T op' r')
    (hm : lastMarks [o, o'] [b, c] = false) (ha : FE X T Wx a ca) (hb : FE X T Wx b cb) (hc : FE X T Wx c cd) : FE X T Wx (.Compare a [o, o'] [b, c] pos) (cch op op' ca cb cd) :=
  PE.imp (pe_chain ho ho' ha hb hc hm) fun _ _ _ q => chain hf hf' q
theorem ft_chain {o o' : CmpOp} {op op' : W → W → Hh → R W} {r r' : R2} {c : Expr} {ca cb cd : Cd} (ho : OpR X (compareOp o) r) (hf : FOp X.K T op r) (ho' : OpR X (compareOp o') r') (hf' : FOp X.K T op' r')
    (hm : lastMarks [o, o'] [b, c] = false) (ha : FE X T Wx a ca) (hb : FE X T Wx b cb) (hc : FE X T Wx c cd) : FT' X T Wx (.Compare a [o, o'] [b, c] pos) (fun e h => asB (cch op op' ca cb cd e h)) :=
  PT.imp (pt_chain ho ho' ha hb hc hm) fun _ _ _ q => tst (fun _ _ _ q => chain hf hf' q) q

/-! ### truth -/
def tru (w : W) (h : Hh) : R Bool := match w with
  | .d .non => .ok false h
  | .d (.bl b) => .ok b h
  | .d (.int i) => .ok (i != 0) h
  | .d (.str l) => .ok (!l.isEmpty) h
  | .d (.tup l) => .ok (!l.isEmpty) h
  | .d (.lst l) => .ok (!l.isEmpty) h
  | .r n => match h[n]? with
    | some (.lst l) => .ok (!l.isEmpty) h
    | some (.dk l) => .ok (!l.isEmpty) h
    | _ => .no
theorem len_ne (n : Nat) : ((n : Int) != 0) = !(n == 0) := by cases n <;> rfl
theorem isE_len {α : Type} (l : List α) : l.isEmpty = (l.length == 0) := by cases l <;> rfl
theorem Paired.len {α β : Type} {A : α → β → Prop} {l : List α} {m : List β} (h : Paired A l m) : l.length = m.length := Paired.length h
theorem tru_ok' {K : PySem.W.Frag} {σ : L2.St} {F ρ : List Addr} {ih : Hh} {H : Hp} {w : W} {v : V} {Q : Bool → Hp → Prop} (hr : HR K T F ρ ih H) (r : RW K F ρ H w v)
    (hp : Pst K T Wx σ F ρ H (tru w ih) fun _ H' _ b => Q b H') : ∃ k, TruV K v H k ∧ Q k H := by
  cases r with
  | d r =>
    cases r with
    | non => exact ⟨_, rfl, hp.ok hr⟩
    | bl b => exact ⟨_, rfl, hp.ok hr⟩
    | int i => exact ⟨_, rfl, hp.ok hr⟩
    | str l z => exact ⟨_, ⟨by rw [toStr_len]; exact z, rfl⟩, by rw [toStr_len, len_ne, ← isE_len]; exact hp.ok hr⟩
    | tup h z rl => exact ⟨_, .inr (.inl ⟨_, h.sq, rfl⟩), by rw [isE_len, ← rl.length, ← isE_len]; exact hp.ok hr⟩
    | lst h z rl => exact ⟨_, .inl ⟨_, h.sq, rfl⟩, by rw [isE_len, ← rl.length, ← isE_len]; exact hp.ok hr⟩
  | r e =>
    rename_i n a
    unfold tru at hp
    dsimp only at hp
    cases ho : ih[n]? with
    | none => rw [ho] at hp; exact hp.elim
    | some o =>
      obtain ⟨a', u, e', eH, ro⟩ := hr.obj n o ho
      rw [e] at e'; cases e'
      cases ro with
      | lst z rs =>
        rw [ho] at hp
        exact ⟨_, .inl ⟨_, .inl (.inl eH), rfl⟩, by rw [isE_len, ← Paired.len rs, ← isE_len]; exact hp.ok hr⟩
      | dk rs =>
        rw [ho] at hp
        exact ⟨_, .inr (.inr ⟨_, eH, rfl⟩), by rw [isE_len, ← Paired.len rs, ← isE_len]; exact hp.ok hr⟩
      | dt rs => rw [ho] at hp; exact hp.elim
      | ins rs _ => rw [ho] at hp; exact hp.elim
def cT (c : Cd) : Cb := fun e h => (c e h).bind tru
theorem ft_truth {c : Cd} (he : ∀ whole, isTrue e X.env whole = (do let v ← whole; standAt e.pos; holding [v] (truthy v))) (h : FE X T Wx e c) : FT' X T Wx e (cT c) :=
  PT.imp (pt_truth h he) fun σ H Q q => by
    obtain ⟨F, ρ, ev, ih, hr, re, hp⟩ := q
    exact ⟨F, ρ, ev, ih, hr, re, hp.bind.mono fun ρ1 H1 ih1 w1 g1 hr1 hp1 v1 r1 => tru_ok' hr1 r1 hp1⟩
def bAnd (a b : Cb) : Cb := fun e h => (a e h).bind fun k h => if k then b e h else .ok false h
def bOr (a b : Cb) : Cb := fun e h => (a e h).bind fun k h => if k then .ok true h else b e h
def bNot (a : Cb) : Cb := fun e h => (a e h).bind fun k h => .ok (!k) h
theorem fw_1 {o : BoolOp} {ca : Cb} (ha : FT' X T Wx a ca) : FW X T Wx (.BoolOp o [a] pos) ca := by
  cases o
  · exact pw_and1 ha
  · exact pw_or1 ha
theorem fw_and {rest : List Expr} {ca cb : Cb} (ha : FT' X T Wx a ca) (hb : FW X T Wx (.BoolOp .And (b :: rest) pos) cb) : FW X T Wx (.BoolOp .And (a :: b :: rest) pos) (bAnd ca cb) :=
  PW.imp (pw_and ha hb) fun σ H Q q => by
    obtain ⟨F, ρ, ev, ih, hr, re, hp⟩ := q
    refine ⟨F, ρ, ev, ih, hr, re, hp.bind.mono fun ρ1 H1 ih1 k g1 hr1 hp1 => ?_⟩
    cases k with
    | true => exact iteT ⟨F, ρ1, ev, ih1, hr1, re.grow g1 hr, hp1⟩
    | false => exact iteF ((show Pst X.K T Wx σ F ρ1 H1 (.ok false ih1) _ from hp1).ok hr1)
theorem fw_or {rest : List Expr} {ca cb : Cb} (ha : FT' X T Wx a ca) (hb : FW X T Wx (.BoolOp .Or (b :: rest) pos) cb) : FW X T Wx (.BoolOp .Or (a :: b :: rest) pos) (bOr ca cb) :=
  PW.imp (pw_or ha hb) fun σ H Q q => by
    obtain ⟨F, ρ, ev, ih, hr, re, hp⟩ := q
    refine ⟨F, ρ, ev, ih, hr, re, hp.bind.mono fun ρ1 H1 ih1 k g1 hr1 hp1 => ?_⟩
    cases k with
    | true => exact iteT ((show Pst X.K T Wx σ F ρ1 H1 (.ok true ih1) _ from hp1).ok hr1)
    | false => exact iteF ⟨F, ρ1, ev, ih1, hr1, re.grow g1 hr, hp1⟩
theorem ft_w {c : Cb} (h : FW X T Wx e c) : FT' X T Wx e c := PW.pt h
theorem ft_not {ca : Cb} (ha : FT' X T Wx a ca) : FT' X T Wx (.UnaryOp .Not a pos) (bNot ca) :=
  PT.imp (pt_not ha) fun σ H Q q => by
    obtain ⟨F, ρ, ev, ih, hr, re, hp⟩ := q
    exact ⟨F, ρ, ev, ih, hr, re, hp.bind.mono fun ρ1 H1 ih1 k g1 hr1 hp1 => (show Pst X.K T Wx σ F ρ1 H1 (.ok (!k) ih1) _ from hp1).ok hr1⟩
/-- and, or, not as values -/
def cAnd (a b : Cd) : Cd := fun e h => (a e h).bind fun x h => (tru x h).bind fun k h => if k then b e h else .ok x h
def cOr (a b : Cd) : Cd := fun e h => (a e h).bind fun x h => (tru x h).bind fun k h => if k then .ok x h else b e h
def cNot (a : Cd) : Cd := fun e h => (a e h).bind fun x h => (tru x h).bind fun k h => .ok (.d (.bl (!k))) h
theorem fe_one {o : BoolOp} {c : Cd} (h : FE X T Wx a c) : FE X T Wx (.BoolOp o [a] pos) c := pe_one h
/-- the truth of a value, without a change -/
theorem tru_at {K : PySem.W.Frag} {σ : L2.St} {F ρ : List Addr} {ih : Hh} {H : Hp} {w : W} {v : V} {β : Type} {f : Bool → Hh → R β} {k : List Addr → Hp → Hh → β → Prop} (hr : HR K T F ρ ih H) (r : RW K F ρ H w v)
    (hp : Pst K T Wx σ F ρ H ((tru w ih).bind f) k) : ∃ b, TruV K v H b ∧ Pst K T Wx σ F ρ H (f b ih) k := by
  have key : ∀ m, tru w ih = m → (∃ b, m = .ok b ih) ∨ m = .no := by
    intro m hm
    subst hm
    unfold tru
    split <;> first | exact .inl ⟨_, rfl⟩ | skip
    split <;> first | exact .inl ⟨_, rfl⟩ | exact .inr rfl
  rcases key _ rfl with ⟨b, e⟩ | e
  · rw [e] at hp
    obtain ⟨k', h1, h2⟩ := tru_ok' (Wx := Wx) (σ := σ) (Q := fun c _ => c = b) hr r (by rw [e]; exact fun _ _ _ _ => rfl)
    subst h2
    exact ⟨_, h1, hp⟩
  · rw [e] at hp
    exact hp.elim
theorem fe_and {rest : List Expr} {ca cb : Cd} (ha : FE X T Wx a ca) (hb : FE X T Wx (.BoolOp .And (b :: rest) pos) cb) : FE X T Wx (.BoolOp .And (a :: b :: rest) pos) (cAnd ca cb) :=
  PE.imp (pe_andT ha hb) fun σ H Q q => by
    obtain ⟨F, ρ, ev, ih, hr, re, hp⟩ := q
    refine ⟨F, ρ, ev, ih, hr, re, hp.bind.mono fun ρ1 H1 ih1 w g1 hr1 hp1 v r => ?_⟩
    obtain ⟨k, tv, hp2⟩ := tru_at hr1 r hp1
    refine ⟨k, tv, ?_⟩
    cases k with
    | true => exact iteT ⟨F, ρ1, ev, ih1, hr1, re.grow g1 hr, hp2⟩
    | false => exact iteF ((show Pst X.K T Wx σ F ρ1 H1 (.ok w ih1) _ from hp2).ok hr1 v r)
theorem fe_or {rest : List Expr} {ca cb : Cd} (ha : FE X T Wx a ca) (hb : FE X T Wx (.BoolOp .Or (b :: rest) pos) cb) : FE X T Wx (.BoolOp .Or (a :: b :: rest) pos) (cOr ca cb) :=
  PE.imp (pe_orT ha hb) fun σ H Q q => by
    obtain ⟨F, ρ, ev, ih, hr, re, hp⟩ := q
    refine ⟨F, ρ, ev, ih, hr, re, hp.bind.mono fun ρ1 H1 ih1 w g1 hr1 hp1 v r => ?_⟩
    obtain ⟨k, tv, hp2⟩ := tru_at hr1 r hp1
    refine ⟨k, tv, ?_⟩
    cases k with
    | true => exact iteT ((show Pst X.K T Wx σ F ρ1 H1 (.ok w ih1) _ from hp2).ok hr1 v r)
    | false => exact iteF ⟨F, ρ1, ev, ih1, hr1, re.grow g1 hr, hp2⟩
theorem fe_not {ca : Cd} (ha : FE X T Wx a ca) : FE X T Wx (.UnaryOp .Not a pos) (cNot ca) :=
  PE.imp (pe_notT ha) fun σ H Q q => by
    obtain ⟨F, ρ, ev, ih, hr, re, hp⟩ := q
    refine ⟨F, ρ, ev, ih, hr, re, hp.bind.mono fun ρ1 H1 ih1 w g1 hr1 hp1 v r => ?_⟩
    obtain ⟨k, tv, hp2⟩ := tru_at hr1 r hp1
    have hp3 : Pst X.K T Wx σ F ρ1 H1 (R.ok (W.d (D.bl (!k))) ih1) (fun ρ' H' _ w => ∀ v, RW X.K F ρ' H' w v → Q v H') := hp2
    exact ⟨k, tv, hp3.ok hr1 _ (.d (.bl _))⟩
def cIf (t : Cb) (a b : Cd) : Cd := fun e h => (t e h).bind fun k h => if k then a e h else b e h
theorem fe_if {t : Expr} {ct : Cb} {ca cb : Cd} (ht : FT' X T Wx t ct) (ha : FE X T Wx a ca) (hb : FE X T Wx b cb) : FE X T Wx (.IfExp t a b pos) (cIf ct ca cb) :=
  PE.imp (pe_ifExp ht ha hb) fun σ H Q q => by
    obtain ⟨F, ρ, ev, ih, hr, re, hp⟩ := q
    refine ⟨F, ρ, ev, ih, hr, re, hp.bind.mono fun ρ1 H1 ih1 k g1 hr1 hp1 => ?_⟩
    cases k with
    | true => exact iteT ⟨F, ρ1, ev, ih1, hr1, re.grow g1 hr, hp1⟩
    | false => exact iteF ⟨F, ρ1, ev, ih1, hr1, re.grow g1 hr, hp1⟩

/-! ### arguments, displays, calls of built-in things -/
def aNil : Ca := fun _ h => .ok [] h
def aCons (a : Cd) (r : Ca) : Ca := fun e h => (a e h).bind fun x h => (r e h).bind fun xs h => .ok (x :: xs) h
theorem fa_nil : FA X T Wx [] aNil := PA.imp pa_nil fun σ H Q q => by
  obtain ⟨F, ρ, ev, ih, hr, re, hp⟩ := q
  exact hp.ok hr [] .nil
theorem fa_cons {c : Cd} {cr : Ca} (hs : starEach (e :: es) X.env = (false, eval e X.env) :: starEach es X.env) (h : FE X T Wx e c) (hr : FA X T Wx es cr) : FA X T Wx (e :: es) (aCons c cr) :=
  PA.imp (pa_cons h hr hs) fun σ H Q q => by
    obtain ⟨F, ρ, ev, ih, hr, re, hp⟩ := q
    refine ⟨F, ρ, ev, ih, hr, re, hp.bind.mono fun ρ1 H1 ih1 w1 g1 hr1 hp1 v1 r1 => ?_⟩
    refine ⟨F, ρ1, ev, ih1, hr1, re.grow g1 hr, hp1.bind.mono fun ρ2 H2 ih2 ws g2 hr2 hp2 vs rs => ?_⟩
    exact (show Pst X.K T Wx σ F ρ2 H2 (.ok (w1 :: ws) ih2) _ from hp2).ok hr2 _ (.cons (r1.grow g2 hr1) rs)
def cCl (op : List W → Hh → R W) (a : Ca) : Cd := fun e h => (a e h).bind op
theorem clOf {op : List W → Hh → R W} {r : List V → Hp → VK → Prop} {ca : Ca} (hf : FCl X.K T op r) {σ H Q} (q : tOf X.K T Wx (cCl op ca) σ H Q) : tCB r (aOf X.K T Wx ca) σ H Q := by
  obtain ⟨F, ρ, ev, ih, hr, re, hp⟩ := q
  exact ⟨F, ρ, ev, ih, hr, re, hp.bind.mono fun ρ1 H1 ih1 ws g1 hr1 hp1 vs rs => hf Wx σ F ρ1 ih1 H1 ws vs Q hr1 rs hp1⟩
end
end Fz
set_option Elab.async false
set_option linter.all false
set_option maxRecDepth 100000
set_option maxHeartbeats 2000000
/-! Fz: heaps that grow, things made and changed. -/
namespace Fz
open PySem L2
section
variable {K : PySem.W.Frag} {T : Tb} {F ρ ρ' : List Addr} {H H' : Hp} {ih : Hh}
theorem RO.grow (g : Grow F ρ H ρ' H') (h : HR K T F ρ ih H) {o : O} {u : HO} (r : RO K T F ρ H o u) : RO K T F ρ' H' o u := by
  cases r with
  | lst z rs => exact .lst z (RWs.grow g h rs)
  | dk rs => exact .dk (Paired.mapP rs fun _ _ x => ⟨x.1, x.2.grow g h⟩)
  | dt rs => exact .dt (Paired.mapP rs fun _ _ x => ⟨x.1, x.2.grow g h⟩)
  | ins rs z => exact .ins (Paired.mapP rs fun _ _ x => ⟨x.1, x.2.grow g h⟩) z
theorem HR.ne (h : HR K T F ρ ih H) {p : Addr} (hp : H p = none) : p ∉ ρ := fun m => h.tr m hp
theorem HR.neF (h : HR K T F ρ ih H) {p : Addr} (hp : H p = none) : p ∉ F := fun m => h.trF p m hp
/-- a new thing that never changes -/
theorem grow_new {p : Addr} {o : HO} (hp : H p = none) : Grow F ρ H ρ (upd H p o) :=
  ⟨⟨[], by simp⟩, fun a u e _ => by rw [upd_ne (ne_of_none e hp)]; exact e, fun a m n => absurd m n⟩
theorem HR.new (h : HR K T F ρ ih H) {p : Addr} {o : HO} (hp : H p = none) : HR K T F ρ ih (upd H p o) where
  len := h.len
  nd := h.nd
  fr := h.fr
  trF := fun a m => by
    by_cases e : a = p
    · subst e; rw [upd_same]; exact fun q => nomatch q
    · rw [upd_ne e]; exact h.trF a m
  obj := fun n o e => by
    obtain ⟨a, ho, e1, e2, r⟩ := h.obj n o e
    exact ⟨a, ho, e1, by rw [upd_ne (ne_of_none e2 hp)]; exact e2, r.grow (grow_new hp) h⟩
/-- a new thing that may change -/
theorem grow_add {p : Addr} {o : HO} (hp : H p = none) : Grow F ρ H (ρ ++ [p]) (upd H p o) :=
  ⟨⟨[p], rfl⟩, fun a u e _ => by rw [upd_ne (ne_of_none e hp)]; exact e, fun a m n => by
    rcases List.mem_append.mp m with q | q
    · exact absurd q n
    · rw [List.mem_singleton.mp q]; exact hp⟩
theorem HR.add (h : HR K T F ρ ih H) {p : Addr} {o : O} {u : HO} (hp : H p = none) (r : RO K T F (ρ ++ [p]) (upd H p u) o u) : HR K T F (ρ ++ [p]) (ih ++ [o]) (upd H p u) where
  len := by simp [h.len]
  nd := by
    refine List.nodup_append.mpr ⟨h.nd, by simp, fun a ha b hb => ?_⟩
    rw [List.mem_singleton.mp hb]
    exact fun e => h.ne hp (e ▸ ha)
  fr := fun a m => by
    rcases List.mem_append.mp m with q | q
    · exact h.fr a q
    · rw [List.mem_singleton.mp q]; exact h.neF hp
  trF := fun a m => by
    by_cases e : a = p
    · subst e; rw [upd_same]; exact fun q => nomatch q
    · rw [upd_ne e]; exact h.trF a m
  obj := fun n o' e => by
    by_cases hn : n < ih.length
    · rw [List.getElem?_append_left hn] at e
      obtain ⟨a, ho, e1, e2, r'⟩ := h.obj n o' e
      exact ⟨a, ho, by rw [List.getElem?_append_left (by rw [h.len]; exact hn)]; exact e1, by rw [upd_ne (ne_of_none e2 hp)]; exact e2, r'.grow (grow_add hp) h⟩
    · have hn' : n = ih.length := by
        have := (List.getElem?_eq_some_iff.mp e).1
        rw [List.length_append] at this
        simp at this
        omega
      subst hn'
      simp at e
      subst e
      exact ⟨p, u, by rw [← h.len]; simp, upd_same, r⟩
/-- a thing changed -/
theorem grow_set {a : Addr} {u : HO} (m : a ∈ ρ) : Grow F ρ H ρ (upd H a u) :=
  ⟨⟨[], by simp⟩, fun b o e n => by
    have nb : b ≠ a := fun q => n (by rw [q]; exact m)
    rw [upd_ne nb]; exact e, fun b m n => absurd m n⟩
theorem nodup_get {ρ : List Addr} (nd : ρ.Nodup) {n m : Nat} {a : Addr} (h1 : ρ[n]? = some a) (h2 : ρ[m]? = some a) : n = m := by
  exact (List.getElem?_inj (List.getElem?_eq_some_iff.mp h1).1 nd).mp (h1.trans h2.symm)
theorem HR.set (h : HR K T F ρ ih H) {n : Nat} {a : Addr} {o : O} {u : HO} (e : ρ[n]? = some a) (r : RO K T F ρ (upd H a u) o u) : HR K T F ρ (ih.set n o) (upd H a u) where
  len := by simp [h.len]
  nd := h.nd
  fr := h.fr
  trF := fun b m => by
    by_cases q : b = a
    · subst q; rw [upd_same]; exact fun q => nomatch q
    · rw [upd_ne q]; exact h.trF b m
  obj := fun m o' e' => by
    by_cases q : m = n
    · subst q
      have hm : m < ih.length := by
        rw [← h.len]; exact (List.getElem?_eq_some_iff.mp e).1
      rw [List.getElem?_set_self hm] at e'
      cases e'
      exact ⟨a, u, e, upd_same, r⟩
    · rw [List.getElem?_set_ne (Ne.symm q)] at e'
      obtain ⟨b, ho, e1, e2, r'⟩ := h.obj m o' e'
      have nb : b ≠ a := fun z => by
        subst z
        exact q (nodup_get h.nd e1 e)
      exact ⟨b, ho, e1, by rw [upd_ne nb]; exact e2, r'.grow (grow_set (List.mem_of_getElem? e)) h⟩
theorem HR.at (h : HR K T F ρ ih H) {n : Nat} {a : Addr} {o : O} (e : ρ[n]? = some a) (ho : ih[n]? = some o) : ∃ u, H a = some u ∧ RO K T F ρ H o u := by
  obtain ⟨b, u, e1, e2, r⟩ := h.obj n o ho
  rw [e] at e1
  cases e1
  exact ⟨u, e2, r⟩
theorem not_new {p : Addr} (h : HR K T F ρ ih H) (hp : H p = none) : p ∉ F ++ ρ := fun m => by
  rcases List.mem_append.mp m with q | q
  · exact h.neF hp q
  · exact h.ne hp q

/-! ### lists of values -/
theorem RpL.rws : ∀ {ds : List D} {vs : List V}, RpL K (F ++ ρ) H ds vs → RWs K F ρ H (ds.map .d) vs
  | _, _, .nil => .nil
  | _, _, .cons a b => .cons (.d a) (RpL.rws b)
def allD : List W → Option (List D)
  | [] => some []
  | .d x :: r => (allD r).map (x :: ·)
  | .r _ :: _ => none
theorem allD_map (ds : List D) : allD (ds.map .d) = some ds := by
  induction ds with
  | nil => rfl
  | cons x r ih => simp [allD, ih]
theorem allD_eq : ∀ {ws : List W} {ds : List D}, allD ws = some ds → ws = ds.map .d
  | [], ds, h => by simp [allD] at h; subst h; rfl
  | .d x :: r, ds, h => by
    simp only [allD, Option.map_eq_some_iff] at h
    obtain ⟨l, e, rfl⟩ := h
    rw [allD_eq e, List.map_cons]
  | .r _ :: r, ds, h => by simp [allD] at h
theorem RWs.rp : ∀ {ds : List D} {vs : List V}, RWs K F ρ H (ds.map .d) vs → RpL K (F ++ ρ) H ds vs
  | [], _, h => by cases h; exact .nil
  | d :: ds, _, h => by
    rw [List.map_cons] at h
    cases h with
    | cons a b =>
      cases a with
      | d a => exact .cons a (RWs.rp b)
theorem allD_rp {ws : List W} {ds : List D} {vs : List V} (e : allD ws = some ds) (r : RWs K F ρ H ws vs) : RpL K (F ++ ρ) H ds vs := by
  rw [allD_eq e] at r
  exact r.rp
/-- the items of a list, be it one that changes or not -/
def lstW (w : W) (h : Hh) : Option (List W) := match w with
  | .d (.lst l) => some (l.map .d)
  | .r n => match h[n]? with
    | some (.lst l) => some l
    | _ => none
  | _ => none
def seqW (w : W) (h : Hh) : Option (List W) := match w with
  | .d (.tup l) => some (l.map .d)
  | w => lstW w h
theorem lstW_at (hr : HR K T F ρ ih H) {w : W} {v : V} (r : RW K F ρ H w v) {l : List W} (e : lstW w ih = some l) :
    ∃ a vs, v = .ref a ∧ Rd H a (.lst vs) ∧ RWs K F ρ H l vs ∧ l.length ≤ sizeLine := by
  cases r with
  | d r =>
    cases r with
    | lst h z rl =>
      simp only [lstW, Option.some.injEq] at e
      subst e
      exact ⟨_, _, rfl, h.1, rl.rws, by simpa using z⟩
    | _ => simp [lstW] at e
  | r hn =>
    simp only [lstW] at e
    rename_i n a
    cases ho : ih[n]? with
    | none => rw [ho] at e; cases e
    | some o =>
      rw [ho] at e
      cases o with
      | lst l' =>
        cases e
        obtain ⟨u, eH, ro⟩ := hr.at hn ho
        cases ro with
        | lst z rs => exact ⟨_, _, rfl, .inl eH, rs, z⟩
      | _ => cases e
theorem seqW_at (hr : HR K T F ρ ih H) {w : W} {v : V} (r : RW K F ρ H w v) {l : List W} (e : seqW w ih = some l) :
    ∃ a vs, v = .ref a ∧ (Rd H a (.lst vs) ∨ Rd H a (.tup vs)) ∧ RWs K F ρ H l vs ∧ l.length ≤ sizeLine := by
  unfold seqW at e
  split at e
  · cases r with
    | d r =>
      cases r with
      | tup h z rl =>
        simp only [Option.some.injEq] at e
        subst e
        exact ⟨_, _, rfl, .inr (.inl h.1), rl.rws, by simpa using z⟩
  · obtain ⟨a, vs, e1, e2, e3, e4⟩ := lstW_at hr r e
    exact ⟨a, vs, e1, .inl e2, e3, e4⟩
/-- a new list that never changes, of data -/
theorem new_lst (hr : HR K T F ρ ih H) {Wx : WX} {σ : L2.St} {ds : List D} {vs : List V} {p : Addr} {k : List Addr → Hp → Hh → W → Prop} (hp : H p = none) (r : RpL K (F ++ ρ) H ds vs) (z : ds.length ≤ sizeLine)
    (h : Pst K T Wx σ F ρ H (.ok (.d (.lst ds)) ih) k) : k ρ (upd H p (.lst vs)) ih (.d (.lst ds)) ∧ RW K F ρ (upd H p (.lst vs)) (.d (.lst ds)) (.ref p) := by
  refine ⟨h _ _ (grow_new hp) (hr.new hp), .d (.lst ⟨.inl upd_same, not_new hr hp⟩ z (r.keep (Grow.keepM (grow_new hp) hr)))⟩
theorem new_tup (hr : HR K T F ρ ih H) {Wx : WX} {σ : L2.St} {ds : List D} {vs : List V} {p : Addr} {k : List Addr → Hp → Hh → W → Prop} (hp : H p = none) (r : RpL K (F ++ ρ) H ds vs) (z : ds.length ≤ sizeLine)
    (h : Pst K T Wx σ F ρ H (.ok (.d (.tup ds)) ih) k) : k ρ (upd H p (.tup vs)) ih (.d (.tup ds)) ∧ RW K F ρ (upd H p (.tup vs)) (.d (.tup ds)) (.ref p) := by
  refine ⟨h _ _ (grow_new hp) (hr.new hp), .d (.tup ⟨upd_same, not_new hr hp⟩ z (r.keep (Grow.keepM (grow_new hp) hr)))⟩
end

/-! ### displays -/
def mkT (ws : List W) (h : Hh) : R W := match allD ws with
  | some ds => if ds.length ≤ 16777216 then .ok (.d (.tup ds)) h else .no
  | none => .no
def mkL (ws : List W) (h : Hh) : R W := match allD ws with
  | some ds => if ds.length ≤ 16777216 then .ok (.d (.lst ds)) h else .no
  | none => .no
/-- a list that will change -/
def mkM (ws : List W) (h : Hh) : R W := if ws.length ≤ 16777216 then .ok (.r h.length) (h ++ [.lst ws]) else .no
section
variable {X : Cx} {T : Tb} {Wx : WX} {es : List Expr} {pos : Pos} {ca : Ca}
theorem fe_tup {x1} (h : FA X T Wx es ca) : FE X T Wx (.Tuple es x1 pos) (cCl mkT ca) := PE.imp (pe_tup h) fun σ H Q q => by
  obtain ⟨F, ρ, ev, ih, hr, re, hp⟩ := q
  refine ⟨F, ρ, ev, ih, hr, re, hp.bind.mono fun ρ1 H1 ih1 ws g1 hr1 hp1 vs rs => ?_⟩
  unfold mkT at hp1
  cases e : allD ws with
  | none => rw [e] at hp1; exact hp1.elim
  | some ds =>
    rw [e] at hp1
    dsimp only at hp1
    split at hp1
    · rename_i z
      have rp := allD_rp e rs
      refine ⟨by rw [← rp.length]; exact z, fun p np => ?_⟩
      obtain ⟨a, b⟩ := new_tup hr1 np rp z hp1
      exact a _ b
    · exact hp1.elim
theorem fe_lst (h : FA X T Wx es ca) : FE X T Wx (.List es pos) (cCl mkL ca) := PE.imp (pe_lst h) fun σ H Q q => by
  obtain ⟨F, ρ, ev, ih, hr, re, hp⟩ := q
  refine ⟨F, ρ, ev, ih, hr, re, hp.bind.mono fun ρ1 H1 ih1 ws g1 hr1 hp1 vs rs => ?_⟩
  unfold mkL at hp1
  cases e : allD ws with
  | none => rw [e] at hp1; exact hp1.elim
  | some ds =>
    rw [e] at hp1
    dsimp only at hp1
    split at hp1
    · rename_i z
      have rp := allD_rp e rs
      refine ⟨by rw [← rp.length]; exact z, fun p np => ?_⟩
      obtain ⟨a, b⟩ := new_lst hr1 np rp z hp1
      exact a _ b
    · exact hp1.elim
theorem get_last {ρ : List Addr} {ih : Hh} (h : ρ.length = ih.length) {p : Addr} : (ρ ++ [p])[ih.length]? = some p := by rw [← h]; simp
theorem fe_lstM (h : FA X T Wx es ca) : FE X T Wx (.List es pos) (cCl mkM ca) := PE.imp (pe_lst h) fun σ H Q q => by
  obtain ⟨F, ρ, ev, ih, hr, re, hp⟩ := q
  refine ⟨F, ρ, ev, ih, hr, re, hp.bind.mono fun ρ1 H1 ih1 ws g1 hr1 hp1 vs rs => ?_⟩
  unfold mkM at hp1
  split at hp1
  · rename_i z
    refine ⟨by rw [← Paired.length rs]; exact z, fun p np => ?_⟩
    exact hp1 _ _ (grow_add np) (hr1.add np (.lst z (RWs.grow (grow_add np) hr1 rs))) _ (.r (get_last hr1.len))
  · exact hp1.elim
theorem fe_dK : FE X T Wx (.Dict [] [] pos) (fun _ h => .ok (.r h.length) (h ++ [.dk []])) := PE.imp pe_dnewK fun σ H Q q => by
  obtain ⟨F, ρ, ev, ih, hr, re, hp⟩ := q
  exact fun p np => hp _ _ (grow_add np) (hr.add np (.dk .nil)) _ (.r (get_last hr.len))
theorem fe_dT : FE X T Wx (.Dict [] [] pos) (fun _ h => .ok (.r h.length) (h ++ [.dt []])) := PE.imp pe_dnewT fun σ H Q q => by
  obtain ⟨F, ρ, ev, ih, hr, re, hp⟩ := q
  exact fun p np => hp _ _ (grow_add np) (hr.add np (.dt .nil)) _ (.r (get_last hr.len))
end
end Fz
set_option Elab.async false
set_option linter.all false
set_option maxRecDepth 100000
set_option maxHeartbeats 2000000
/-! Fz: operators by values. -/
namespace Fz
open PySem L2 PyProof.Rows

/-! ### lists that are made -/
def fin (m : Bool) (ws : List W) (h : Hh) : R W := if m then mkM ws h else mkL ws h
section
variable {K : PySem.W.Frag} {T : Tb} {Wx : WX} {σ : L2.St} {F ρ : List Addr} {H : Hp} {ih : Hh} {Q : VK}
theorem fin_len {m : Bool} {ws : List W} {k : List Addr → Hp → Hh → W → Prop} (hp : Pst K T Wx σ F ρ H (fin m ws ih) k) : ws.length ≤ sizeLine := by
  unfold fin at hp
  split at hp
  · unfold mkM at hp
    split at hp
    · assumption
    · exact hp.elim
  · unfold mkL at hp
    cases e : allD ws with
    | none => rw [e] at hp; exact hp.elim
    | some ds =>
      rw [e] at hp
      dsimp only at hp
      split at hp
      · rw [allD_eq e, List.length_map]; assumption
      · exact hp.elim
theorem fin_ok {m : Bool} {ws : List W} {vs : List V} {p : Addr} (hr : HR K T F ρ ih H) (rs : RWs K F ρ H ws vs) (np : H p = none)
    (hp : Pst K T Wx σ F ρ H (fin m ws ih) fun ρ' H' _ w => ∀ v, RW K F ρ' H' w v → Q v H') : Q (.ref p) (upd H p (.lst vs)) := by
  have hl := fin_len hp
  unfold fin at hp
  split at hp
  · unfold mkM at hp
    split at hp
    · exact hp _ _ (grow_add np) (hr.add np (.lst hl (RWs.grow (grow_add np) hr rs))) _ (.r (get_last hr.len))
    · exact hp.elim
  · unfold mkL at hp
    cases e : allD ws with
    | none => rw [e] at hp; exact hp.elim
    | some ds =>
      rw [e] at hp
      dsimp only at hp
      split at hp
      · rename_i z
        obtain ⟨a, b⟩ := new_lst hr np (allD_rp e rs) z hp
        exact a _ b
      · exact hp.elim
end

/-! ### int, text, tuple, list: + - * // % -/
section
variable {X : Cx} {pins : List (Addr × Obj)} {σ : L2.St} {H : Hp} {s : Shared}
theorem Inv.lstR {l : Addr} {xs : List V} (I : L2.Inv X pins σ H s) (h : Rd H l (.lst xs)) : xs.length ≤ sizeLine ∧ ∃ (its : List Value) (n : Nat), Vals xs its ∧ xs.length = its.length ∧ s.heap.get? l = some { cls := .type "list", data := .seq its.toArray n } := by
  obtain ⟨z, its, n, r, e⟩ := h.ok I.hok
  exact ⟨z, its, n, r, r.length, e⟩
def rCatR : R2 := fun x y H Q => ∃ l b xs zs, x = .ref l ∧ y = .ref b ∧ Rd H l (.lst xs) ∧ Rd H b (.lst zs) ∧ xs.length + zs.length ≤ sizeLine ∧ ∀ p, H p = none → Q (.ref p) (upd H p (.lst (xs ++ zs)))
theorem op_catR : OpR X (binaryOp .Add) rCatR := by
  intro pins s σ H x y v u Q I rx ry h
  obtain ⟨l, b, xs, zs, rfl, rfl, h1, h2, hz, q⟩ := h
  cases rx
  cases ry
  obtain ⟨_, its, n, r, hl, e⟩ := Inv.lstR I h1
  obtain ⟨_, jts, m, r2, hl2, e2⟩ := Inv.lstR I h2
  refine PySem.P.add_list e e2 ?_ (by simp; omega)
  have ea : its.toArray ++ jts.toArray = (its ++ jts).toArray := by simp
  rw [ea]
  exact ⟨.ref _, _, I.lnew (t' := s.toks) (r.append r2) (by simp; omega), rfl, q _ I.fresh⟩
end
def rAddF (K : PySem.W.Frag) : R2 := fun x y H Q => rI0 (fun i j => .int (i + j)) x y H Q ∨ (∃ i j, x = .str i ∧ y = .str j ∧ i.length + j.length ≤ sizeLine ∧ Q (.str (i ++ j)) H) ∨ rCatA K x y H Q ∨ rCatR x y H Q
theorem opr_add {X : Cx} : OpR X (binaryOp .Add) (rAddF X.K) := op_add.or (op_add_str.or (op_catA.or op_catR))
def opAdd (m : Bool) (x y : W) (h : Hh) : R W := match x, y with
  | .d (.int i), .d (.int j) => .ok (.d (.int (i + j))) h
  | .d (.str a), .d (.str b) => if a.length + b.length ≤ 16777216 then .ok (.d (.str (a ++ b))) h else .no
  | .d (.tup a), .d (.tup b) => if a.length + b.length ≤ 16777216 then .ok (.d (.tup (a ++ b))) h else .no
  | _, _ => match lstW x h, lstW y h with
    | some a, some b => fin m (a ++ b) h
    | _, _ => .no
theorem RpL.app {K M H} : ∀ {a b : List D} {vs ws : List V}, RpL K M H a vs → RpL K M H b ws → RpL K M H (a ++ b) (vs ++ ws)
  | _, _, _, _, .nil, r => r
  | _, _, _, _, .cons x y, r => .cons x (RpL.app y r)
theorem RWs.app {K F ρ H} : ∀ {a b : List W} {vs ws : List V}, RWs K F ρ H a vs → RWs K F ρ H b ws → RWs K F ρ H (a ++ b) (vs ++ ws)
  | _, _, _, _, .nil, r => r
  | _, _, _, _, .cons x y, r => .cons x (RWs.app y r)
theorem RWs.length {K F ρ H} {a : List W} {vs : List V} (h : RWs K F ρ H a vs) : a.length = vs.length := Paired.length h
theorem RpL.nil_iff {K M H a vs} (h : RpL K M H a vs) : vs = [] ↔ a = [] := by
  have := h.length
  constructor
  · intro e; subst e; exact List.eq_nil_of_length_eq_zero this
  · intro e; subst e; exact List.eq_nil_of_length_eq_zero this.symm
theorem str_app (a b : List Nat) : toStr a ++ toStr b = toStr (a ++ b) := by
  show Str.append _ _ = _
  simp [Str.append, toStr]
section
variable {K : PySem.W.Frag} {T : Tb}
/-- cases on what two values are: where no case of the operator fits -/
theorem fop_add {m : Bool} : FOp K T (opAdd m) (rAddF K) := by
  intro Wx σ F ρ ih H x y v1 v2 Q hr r1 r2 hp
  unfold opAdd at hp
  split at hp
  · cases r1 with | d r1 => cases r2 with | d r2 => cases r1; cases r2; exact .inl ⟨_, _, rfl, rfl, hp.ok hr _ (.d (.int _))⟩
  · cases r1 with | d r1 => cases r2 with | d r2 =>
      cases r1 with | str a za => cases r2 with | str b zb =>
        split at hp
        · rename_i z
          refine .inr (.inl ⟨_, _, rfl, rfl, by rw [toStr_len, toStr_len]; exact z, ?_⟩)
          rw [str_app]
          exact hp.ok hr _ (.d (.str _ (by rw [List.length_append]; exact z)))
        · exact hp.elim
  · cases r1 with | d r1 => cases r2 with | d r2 =>
      cases r1 with | tup t1 z1 l1 => cases r2 with | tup t2 z2 l2 =>
        split at hp
        · rename_i a b z
          refine .inr (.inr (.inl ⟨_, _, _, _, rfl, rfl, t1.sq, t2.sq, by rw [← l1.length, ← l2.length]; exact z, fun e => ?_, fun e e2 => ?_, fun e e2 p np => ?_⟩))
          · have := l1.nil_iff.mp e
            subst this
            exact hp.ok hr _ (.d (.tup t2 z2 l2))
          · have := l2.nil_iff.mp e2
            subst this
            rw [List.append_nil] at hp
            exact hp.ok hr _ (.d (.tup t1 z1 l1))
          · obtain ⟨q1, q2⟩ := new_tup hr np (l1.app l2) (by rw [List.length_append]; exact z) hp
            exact q1 _ q2
        · exact hp.elim
  · split at hp
    · rename_i e1 e2
      obtain ⟨a, vs, rfl, s1, rs1, _⟩ := lstW_at hr r1 e1
      obtain ⟨b, ws, rfl, s2, rs2, _⟩ := lstW_at hr r2 e2
      have hl := fin_len hp
      rw [List.length_append, rs1.length, rs2.length] at hl
      exact .inr (.inr (.inr ⟨_, _, _, _, rfl, rfl, s1, s2, hl, fun p np => fin_ok hr (rs1.app rs2) np hp⟩))
    · exact hp.elim
def opI (g : Int → Int → Int) (c : Int → Int → Bool) (x y : W) (h : Hh) : R W := match x, y with
  | .d (.int i), .d (.int j) => if c i j then .ok (.d (.int (g i j))) h else .no
  | _, _ => .no
theorem fop_I {g : Int → Int → Int} {c : Int → Int → Bool} {C : Int → Int → Prop} (hc : ∀ i j, c i j = true → C i j) : FOp K T (opI g c) (rI C fun i j => .int (g i j)) := by
  intro Wx σ F ρ ih H x y v1 v2 Q hr r1 r2 hp
  unfold opI at hp
  split at hp
  · cases r1 with | d r1 => cases r2 with | d r2 => cases r1; cases r2; split at hp <;> first | exact ⟨_, _, rfl, rfl, hc _ _ (by assumption), hp.ok hr _ (.d (.int _))⟩ | exact hp.elim
  · exact hp.elim
theorem fop_I0 {g : Int → Int → Int} : FOp K T (opI g fun _ _ => true) (rI0 fun i j => .int (g i j)) := by
  intro Wx σ F ρ ih H x y v1 v2 Q hr r1 r2 hp
  obtain ⟨i, j, a, b, _, q⟩ := fop_I (C := fun _ _ => True) (fun _ _ _ => trivial) Wx σ F ρ ih H x y v1 v2 Q hr r1 r2 hp
  exact ⟨i, j, a, b, q⟩
def opSub : W → W → Hh → R W := opI (· - ·) fun _ _ => true
theorem fop_sub : FOp K T opSub (rI0 fun i j => .int (i - j)) := fop_I0
def opFdiv : W → W → Hh → R W := opI (fun i j => i / j) fun i j => decide (0 < j ∧ j < 1073741824)
theorem fop_fdiv : FOp K T opFdiv (rI CDiv fun i j => .int (i / j)) := fop_I fun i j h => show CDiv i j from of_decide_eq_true (p := 0 < j ∧ j < 1073741824) h
def opMod : W → W → Hh → R W := opI (fun i j => i % j) fun i j => decide (0 < j)
theorem fop_mod : FOp K T opMod (rI (fun _ j => 0 < j) fun i j => .int (i % j)) := fop_I fun _ _ h => of_decide_eq_true h
def opPow : W → W → Hh → R W := opI (fun i j => i ^ j.toNat) fun i j => decide (0 ≤ j ∧ j ≤ 1000000 ∧ i.natAbs < 2 ^ 64)
theorem fop_pow : FOp K T opPow (rI CPow fun i j => .int (i ^ j.toNat)) := fop_I fun i j h => show CPow i j from of_decide_eq_true (p := 0 ≤ j ∧ j ≤ 1000000 ∧ i.natAbs < 2 ^ 64) h
def opShl : W → W → Hh → R W := opI (fun i j => i * 2 ^ j.toNat) fun i j => decide (0 ≤ j ∧ j ≤ 1000000 ∧ i.natAbs < 2 ^ 64)
theorem fop_shl : FOp K T opShl (rI CPow fun i j => .int (i * 2 ^ j.toNat)) := fop_I fun i j h => show CPow i j from of_decide_eq_true (p := 0 ≤ j ∧ j ≤ 1000000 ∧ i.natAbs < 2 ^ 64) h
def opShr : W → W → Hh → R W := opI (fun i j => i / 2 ^ j.toNat) fun _ j => decide (0 ≤ j)
theorem fop_shr : FOp K T opShr (rI (fun _ j => 0 ≤ j) fun i j => .int (i / 2 ^ j.toNat)) := fop_I fun _ _ h => of_decide_eq_true h
def opAnd : W → W → Hh → R W := opI (fun i j => Builtin.bitAnd i j) fun _ _ => true
theorem fop_and : FOp K T opAnd (rI0 fun i j => .int (Builtin.bitAnd i j)) := fop_I0
end
/-- a list or a tuple times an int -/
def rRepR : R2 := fun x y H Q => ∃ l k xs, x = .ref l ∧ y = .int k ∧ H l = some (.lst xs) ∧ -(2 ^ 63) ≤ k ∧ k < 2 ^ 63 ∧ xs.length * k.toNat ≤ sizeLine ∧
  ∀ p, H p = none → Q (.ref p) (upd H p (.lst (List.replicate k.toNat xs).flatten))
def rMulF (K : PySem.W.Frag) : R2 := fun x y H Q => rI CMul (fun i j => .int (i * j)) x y H Q ∨ rRep x y H Q ∨ rRepT K x y H Q
theorem opr_mul {X : Cx} : OpR X (binaryOp .Mult) (rMulF X.K) := op_mul.or (op_rep.or op_repT)
def opMul (m : Bool) (x y : W) (h : Hh) : R W := match x, y with
  | .d (.int i), .d (.int j) => if (-(2 ^ 64) < i ∧ i < 2 ^ 64) ∨ (-(2 ^ 64) < j ∧ j < 2 ^ 64) then .ok (.d (.int (i * j))) h else .no
  | .d (.tup a), .d (.int k) => if a ≠ [] ∧ 2 ≤ k ∧ k ≤ 1000 ∧ a.length ≤ 1000 then .ok (.d (.tup (List.replicate k.toNat a).flatten)) h else .no
  | .r n, .d (.int k) => match h[n]? with
    | some (.lst a) => if -(2 ^ 63) ≤ k ∧ k < 2 ^ 63 ∧ a.length * k.toNat ≤ 16777216 then fin m (List.replicate k.toNat a).flatten h else .no
    | _ => .no
  | _, _ => .no
theorem RpL.rep {K M H} {a : List D} {vs : List V} (h : RpL K M H a vs) : ∀ k : Nat, RpL K M H (List.replicate k a).flatten (List.replicate k vs).flatten
  | 0 => .nil
  | k + 1 => by simp only [List.replicate_succ, List.flatten_cons]; exact h.app (RpL.rep h k)
theorem RWs.rep {K F ρ H} {a : List W} {vs : List V} (h : RWs K F ρ H a vs) : ∀ k : Nat, RWs K F ρ H (List.replicate k a).flatten (List.replicate k vs).flatten
  | 0 => .nil
  | k + 1 => by simp only [List.replicate_succ, List.flatten_cons]; exact h.app (RWs.rep h k)
theorem fop_mul {K : PySem.W.Frag} {T : Tb} {m : Bool} : FOp K T (opMul m) (rMulF K) := by
  intro Wx σ F ρ ih H x y v1 v2 Q hr r1 r2 hp
  unfold opMul at hp
  split at hp
  · cases r1 with | d r1 => cases r2 with | d r2 => cases r1; cases r2; split at hp <;> first | exact .inl ⟨_, _, rfl, rfl, by assumption, hp.ok hr _ (.d (.int _))⟩ | exact hp.elim
  · rename_i a k
    split at hp
    · rename_i z
      cases r1 with | d r1 => cases r2 with | d r2 =>
        cases r2
        cases r1 with | tup t1 z1 l1 =>
          have hl := l1.length
          refine .inr (.inr ⟨_, _, _, rfl, rfl, t1.sq, fun e => z.1 (l1.nil_iff.mp e), z.2.1, z.2.2.1, by rw [← hl]; exact z.2.2.2, fun p np => ?_⟩)
          obtain ⟨q1, q2⟩ := new_tup hr np (l1.rep k.toNat) (by
            rw [PyProof.Rows.lm_len_rep_flat]
            have h1 : k.toNat ≤ 1000 := by omega
            exact Nat.le_trans (Nat.mul_le_mul h1 z.2.2.2) (by decide)) hp
          exact q1 _ q2
    · exact hp.elim
  · rename_i n k
    split at hp
    · rename_i a ho
      split at hp
      · rename_i c
        cases r1 with | r e => cases r2 with | d r2 =>
          cases r2
          obtain ⟨u, eH, ro⟩ := hr.at e ho
          cases ro with
          | lst z rs => exact .inr (.inl ⟨_, _, _, rfl, rfl, eH, c.1, c.2.1, by rw [← rs.length]; exact c.2.2, fun p np => fin_ok hr (rs.rep k.toNat) np hp⟩)
      · exact hp.elim
    · exact hp.elim
  · exact hp.elim

/-! ### equality of data -/
mutual
def D.py : D → PyData
  | .non => .none | .bl b => .bool b | .int i => .int i | .str l => .str (toStr l) | .tup l => .tuple (pyL l) | .lst l => .list (pyL l)
def pyL : List D → List PyData
  | [] => []
  | d :: r => d.py :: pyL r
end
theorem pyL_map (l : List D) : pyL l = l.map D.py := by induction l with | nil => rfl | cons a r ih => simp [pyL, ih]
mutual
theorem Rp.dp {K M H} : ∀ {d : D} {v : V}, Rp K M H d v → Dp K H v d.py
  | _, _, .non => by simp only [D.py]; exact .non
  | _, _, .bl b => by simp only [D.py]; exact .bl b
  | _, _, .int i => by simp only [D.py]; exact .int i
  | _, _, .str l z => by simp only [D.py]; exact .str _
  | _, _, .tup h z r => by simp only [D.py]; exact .tup h.sq (RpL.dp r)
  | _, _, .lst h z r => by simp only [D.py]; exact .lst h.sq (RpL.dp r)
theorem RpL.dp {K M H} : ∀ {d : List D} {v : List V}, RpL K M H d v → DpAll K H v (pyL d)
  | _, _, .nil => .nil
  | _, _, .cons a b => by simp only [pyL]; exact .cons (Rp.dp a) (RpL.dp b)
end
mutual
/-- Python's == -/
def D.eqv : D → D → Bool
  | .non, .non => true
  | .bl a, .bl b => a == b
  | .bl a, .int j => (if a then 1 else 0) == j
  | .int i, .bl b => i == (if b then 1 else 0)
  | .int i, .int j => i == j
  | .str x, .str y => x == y
  | .tup x, .tup y => eqvL x y
  | .lst x, .lst y => eqvL x y
  | _, _ => false
def eqvL : List D → List D → Bool
  | [], [] => true
  | x :: xs, y :: ys => D.eqv x y && eqvL xs ys
  | _, _ => false
end
theorem str_beq (x y : List Nat) : (toStr x == toStr y) = (x == y) := by
  by_cases h : x = y
  · subst h; simp
  · rw [beq_eq_false_iff_ne.mpr h, beq_eq_false_iff_ne]
    exact fun e => h (toStr_inj e)
mutual
theorem eqv_py : ∀ a b : D, PyData.eqv a.py b.py = D.eqv a b
  | .non, b => by cases b <;> simp [D.py, PyData.eqv, D.eqv]
  | .bl x, b => by cases b <;> simp [D.py, PyData.eqv, D.eqv]
  | .int x, b => by cases b <;> simp [D.py, PyData.eqv, D.eqv]
  | .str x, b => by cases b <;> simp [D.py, PyData.eqv, D.eqv, str_beq]
  | .tup x, b => by
    cases b with
    | tup y => simp only [D.py, PyData.eqv, D.eqv]; exact eqvL_py x y
    | _ => simp [D.py, PyData.eqv, D.eqv]
  | .lst x, b => by
    cases b with
    | lst y => simp only [D.py, PyData.eqv, D.eqv]; exact eqvL_py x y
    | _ => simp [D.py, PyData.eqv, D.eqv]
theorem eqvL_py : ∀ a b : List D, PyData.eqvAll (pyL a) (pyL b) = eqvL a b
  | [], [] => by simp [pyL, PyData.eqvAll, eqvL]
  | [], y :: ys => by simp [pyL, PyData.eqvAll, eqvL]
  | x :: xs, [] => by simp [pyL, PyData.eqvAll, eqvL]
  | x :: xs, y :: ys => by simp only [pyL, PyData.eqvAll, eqvL]; rw [eqv_py x y, eqvL_py xs ys]
end
/-- data that are not too deep, of signs that there are -/
def sh : Nat → D → Bool
  | _, .non | _, .bl _ | _, .int _ => true
  | _, .str l => l.all (· < 1114112)
  | n + 1, .tup l => l.all (sh n)
  | n + 1, .lst l => l.all (sh n)
  | 0, .tup _ | 0, .lst _ => false
theorem strOk_to (l : List Nat) : PySem.PyData.strOk (toStr l) = l.all (· < 1114112) := by
  simp [PySem.PyData.strOk, toStr]
theorem sh_all : ∀ {n : Nat} (ds : List D), (∀ d ∈ ds, sh n d = true → d.py.canLay0 = true ∧ d.py.depth ≤ n) → ds.all (sh n) = true → PyData.canLayAll0 (pyL ds) = true ∧ PyData.depthAll (pyL ds) ≤ n
  | _, [], _, _ => by simp [pyL, PyData.canLayAll0, PyData.depthAll]
  | n, d :: ds, h, e => by
    rw [List.all_cons, Bool.and_eq_true] at e
    have h1 := h d (by simp) e.1
    have h2 := sh_all ds (fun x hx => h x (by simp [hx])) e.2
    simp only [pyL, PyData.canLayAll0, PyData.depthAll, Bool.and_eq_true]
    exact ⟨⟨h1.1, h2.1⟩, Nat.max_le.mpr ⟨h1.2, h2.2⟩⟩
theorem sh_lay : ∀ (n : Nat) (d : D), sh n d = true → d.py.canLay0 = true ∧ d.py.depth ≤ n
  | _, .non, _ => by simp [D.py, PyData.canLay0, PyData.depth]
  | _, .bl _, _ => by simp [D.py, PyData.canLay0, PyData.depth]
  | _, .int _, _ => by simp [D.py, PyData.canLay0, PyData.depth]
  | n, .str l, h => by
    have h' : l.all (· < 1114112) = true := by cases n <;> exact h
    simp only [D.py, PyData.canLay0, PyData.depth]
    exact ⟨by rw [strOk_to]; exact h', Nat.zero_le _⟩
  | 0, .tup _, h => by simp [sh] at h
  | 0, .lst _, h => by simp [sh] at h
  | n + 1, .tup l, h => by
    have := sh_all l (fun d _ => sh_lay n d) h
    simp only [D.py, PyData.canLay0, PyData.depth]
    exact ⟨this.1, Nat.succ_le_succ this.2⟩
  | n + 1, .lst l, h => by
    have := sh_all l (fun d _ => sh_lay n d) h
    simp only [D.py, PyData.canLay0, PyData.depth]
    exact ⟨this.1, Nat.succ_le_succ this.2⟩
theorem sh_shaped {d : D} (h : sh 64 d = true) : SeqAt.shaped d.py = true := by
  obtain ⟨a, b⟩ := sh_lay 64 d h
  simp [SeqAt.shaped, a, b]
/-- the datum that a value is now -/
def valD (w : W) (h : Hh) : Option D := match w with
  | .d x => some x
  | .r n => match h[n]? with
    | some (.lst l) => (allD l).map .lst
    | _ => none
section
variable {K : PySem.W.Frag} {T : Tb} {F ρ : List Addr} {H : Hp} {ih : Hh}
theorem valD_dp (hr : HR K T F ρ ih H) {w : W} {v : V} (r : RW K F ρ H w v) {x : D} (e : valD w ih = some x) : Dp K H v x.py := by
  cases r with
  | d r =>
    simp only [valD, Option.some.injEq] at e
    subst e
    exact r.dp
  | r hn =>
    rename_i n a
    simp only [valD] at e
    cases ho : ih[n]? with
    | none => rw [ho] at e; cases e
    | some o =>
      rw [ho] at e
      cases o with
      | lst l =>
        simp only [Option.map_eq_some_iff] at e
        obtain ⟨ds, e1, rfl⟩ := e
        obtain ⟨u, eH, ro⟩ := hr.at hn ho
        cases ro with
        | lst z rs =>
          simp only [D.py]
          exact .lst (.inl (.inl eH)) (allD_rp e1 rs).dp
      | _ => cases e
def opEq (neg : Bool) (x y : W) (h : Hh) : R W := match valD x h, valD y h with
  | some a, some b => if sh 64 a && sh 64 b then .ok (.d (.bl (if neg then !(D.eqv a b) else D.eqv a b))) h else .no
  | _, _ => .no
theorem opEq_at {neg : Bool} {Wx : WX} {σ : L2.St} {x y : W} {v1 v2 : V} {Q : VK} (hr : HR K T F ρ ih H) (r1 : RW K F ρ H x v1) (r2 : RW K F ρ H y v2)
    (hp : Pst K T Wx σ F ρ H (opEq neg x y ih) fun ρ' H' _ w => ∀ v, RW K F ρ' H' w v → Q v H') :
    ∃ d e, Dp K H v1 d ∧ Dp K H v2 e ∧ SeqAt.shaped d = true ∧ SeqAt.shaped e = true ∧ Q (.bl (if neg then !(PyData.eqv d e) else PyData.eqv d e)) H := by
  unfold opEq at hp
  split at hp
  · rename_i a b e1 e2
    split at hp
    · rename_i c
      rw [Bool.and_eq_true] at c
      refine ⟨_, _, valD_dp hr r1 e1, valD_dp hr r2 e2, sh_shaped c.1, sh_shaped c.2, ?_⟩
      rw [eqv_py]
      exact hp.ok hr _ (.d (.bl _))
    · exact hp.elim
  · exact hp.elim
theorem fop_eq : FOp K T (opEq false) (rEqD K) := fun _ _ _ _ _ _ _ _ _ _ _ hr r1 r2 hp => opEq_at hr r1 r2 hp
theorem fop_ne : FOp K T (opEq true) (rNeD K) := fun _ _ _ _ _ _ _ _ _ _ _ hr r1 r2 hp => opEq_at hr r1 r2 hp
def opC (p : Int → Int → Bool) (x y : W) (h : Hh) : R W := match x, y with
  | .d (.int i), .d (.int j) => .ok (.d (.bl (p i j))) h
  | _, _ => .no
theorem fop_C {p : Int → Int → Bool} : FOp K T (opC p) (rI0 fun i j => .bl (p i j)) := by
  intro Wx σ F ρ ih H x y v1 v2 Q hr r1 r2 hp
  unfold opC at hp
  split at hp
  · cases r1 with | d r1 => cases r2 with | d r2 => cases r1; cases r2; exact ⟨_, _, rfl, rfl, hp.ok hr _ (.d (.bl _))⟩
  · exact hp.elim
abbrev opLt := opC fun i j => decide (i < j)
abbrev opLe := opC fun i j => decide (i ≤ j)
abbrev opGt := opC fun i j => decide (j < i)
abbrev opGe := opC fun i j => decide (j ≤ i)
def W.isN : W → Bool
  | .d .non => true
  | _ => false
def opNone (neg : Bool) (x y : W) (h : Hh) : R W := match y with
  | .d .non => .ok (.d (.bl (if neg then !x.isN else x.isN))) h
  | _ => .no
theorem isNon {F ρ : List Addr} {H : Hp} {x : W} {v : V} (r : RW K F ρ H x v) : decide (v = .non) = x.isN := by
  cases r with
  | r e => rfl
  | d r => cases r <;> rfl
theorem fop_isN : FOp K T (opNone false) (fun x y H Q => y = .non ∧ Q (.bl (decide (x = .non))) H) := by
  intro Wx σ F ρ ih H x y v1 v2 Q hr r1 r2 hp
  unfold opNone at hp
  split at hp
  · cases r2 with | d r2 => cases r2; exact ⟨rfl, by rw [isNon r1]; exact hp.ok hr _ (.d (.bl _))⟩
  · exact hp.elim
theorem fop_notN : FOp K T (opNone true) (fun x y H Q => y = .non ∧ Q (.bl (!decide (x = .non))) H) := by
  intro Wx σ F ρ ih H x y v1 v2 Q hr r1 r2 hp
  unfold opNone at hp
  split at hp
  · cases r2 with | d r2 => cases r2; exact ⟨rfl, by rw [isNon r1]; exact hp.ok hr _ (.d (.bl _))⟩
  · exact hp.elim
end
end Fz
set_option Elab.async false
set_option linter.all false
set_option maxRecDepth 100000
set_option maxHeartbeats 2000000
/-! Fz: in, items, slices, built-in calls. -/
namespace Fz
open PySem L2 PyProof.Rows

/-! ### x in a list or tuple of data, in a text -/
def rInF (K : PySem.W.Frag) (neg : Bool) : R2 := fun x y H Q => ∃ d e ds, Dp K H x d ∧ Dp K H y e ∧ (e = .list ds ∨ e = .tuple ds) ∧ SeqAt.shaped d = true ∧ SeqAt.shaped e = true ∧ Q (.bl (if neg then !(ds.any fun z => PyData.eqv z d) else ds.any fun z => PyData.eqv z d)) H
section
variable {X : Cx}
theorem roomIn {A : Around} {n : Nat} {d : PyData} (hd : SeqAt.shaped d = true) (hu : A.units + 65 < cLine) : A.units + 1 + min n d.depth < cLine := by
  have h1 := SeqAt.depth_of_shaped hd
  have h2 : min n d.depth ≤ d.depth := Nat.min_le_right _ _
  omega
theorem opr_in (hu : X.A.units + 65 < cLine) : OpR X (compareOp .In) (rInF X.K false) := by
  intro pins s σ H x y v u Q I rx ry h
  obtain ⟨d, e, ds, hd, he, k, sd, se, q⟩ := h
  obtain ⟨as, r1⟩ := Dp.reads I d x v hd rx
  obtain ⟨bs, r2⟩ := Dp.reads I e y u he ry
  rcases k with rfl | rfl
  · exact SeqAt.in_list_reads r2 r1 (SeqAt.canLay_of_shaped se) (SeqAt.canLay_of_shaped sd) (roomIn sd hu) ⟨.bl _, H, I, rfl, q⟩
  · exact SeqAt.in_tuple_reads r2 r1 (SeqAt.canLay_of_shaped se) (SeqAt.canLay_of_shaped sd) (roomIn sd hu) ⟨.bl _, H, I, rfl, q⟩
theorem opr_notin (hu : X.A.units + 65 < cLine) : OpR X (compareOp .NotIn) (rInF X.K true) := by
  intro pins s σ H x y v u Q I rx ry h
  obtain ⟨d, e, ds, hd, he, k, sd, se, q⟩ := h
  obtain ⟨as, r1⟩ := Dp.reads I d x v hd rx
  obtain ⟨bs, r2⟩ := Dp.reads I e y u he ry
  rcases k with rfl | rfl
  · exact SeqAt.notIn_list_reads r2 r1 (SeqAt.canLay_of_shaped se) (SeqAt.canLay_of_shaped sd) (roomIn sd hu) ⟨.bl _, H, I, rfl, q⟩
  · exact SeqAt.notIn_tuple_reads r2 r1 (SeqAt.canLay_of_shaped se) (SeqAt.canLay_of_shaped sd) (roomIn sd hu) ⟨.bl _, H, I, rfl, q⟩
end
def D.items : D → Option (List D)
  | .tup l => some l
  | .lst l => some l
  | _ => none
def opIn (neg : Bool) (x y : W) (h : Hh) : R W := match valD x h, valD y h with
  | some a, some b => match b.items with
    | some l => if sh 64 a && sh 64 b then .ok (.d (.bl (if neg then !(l.any fun z => D.eqv z a) else l.any fun z => D.eqv z a))) h else .no
    | none => .no
  | _, _ => .no
theorem any_py (l : List D) (a : D) : ((pyL l).any fun z => PyData.eqv z a.py) = l.any fun z => D.eqv z a := by
  rw [pyL_map, List.any_map]
  congr 1
  funext z
  exact eqv_py z a
section
variable {K : PySem.W.Frag} {T : Tb} {F ρ : List Addr} {H : Hp} {ih : Hh}
theorem fop_in {neg : Bool} : FOp K T (opIn neg) (rInF K neg) := by
  intro Wx σ F ρ ih H x y v1 v2 Q hr r1 r2 hp
  unfold opIn at hp
  split at hp
  · rename_i a b e1 e2
    split at hp
    · rename_i l hl
      split at hp
      · rename_i c
        rw [Bool.and_eq_true] at c
        refine ⟨_, _, pyL l, valD_dp hr r1 e1, valD_dp hr r2 e2, ?_, sh_shaped c.1, sh_shaped c.2, ?_⟩
        · cases b with
          | tup l' => cases hl; simp [D.py]
          | lst l' => cases hl; simp [D.py]
          | _ => cases hl
        · rw [any_py]
          exact hp.ok hr _ (.d (.bl _))
      · exact hp.elim
    · exact hp.elim
  · exact hp.elim

/-! ### items -/
theorem RWs.get {a : List W} {vs : List V} (h : RWs K F ρ H a vs) : ∀ {n : Nat} {w : W}, a[n]? = some w → ∃ v, vs[n]? = some v ∧ RW K F ρ H w v := by
  induction h with
  | nil => intro n w e; simp at e
  | cons r t ih =>
    intro n w e
    cases n with
    | zero => simp at e; subst e; exact ⟨_, rfl, r⟩
    | succ n => simp at e; obtain ⟨v, e1, r1⟩ := ih e; exact ⟨v, by simpa using e1, r1⟩
theorem RWs.at {a : List W} {vs : List V} (h : RWs K F ρ H a vs) {i : Int} {w : W} (e : atI a i = some w) : ∃ v, atI vs i = some v ∧ RW K F ρ H w v := by
  unfold atI at e ⊢
  rw [h.length] at e
  cases q : ixN vs.length i with
  | none => rw [q] at e; cases e
  | some j =>
    rw [q] at e
    simp only [Option.bind_some] at e
    exact h.get e
def opIx (x y : W) (h : Hh) : R W := match y with
  | .d (.int i) => match x with
    | .d (.str l) => match atI l i with
      | some c => .ok (.d (.str [c])) h
      | none => .no
    | x => match seqW x h with
      | some l => match atI l i with
        | some w => .ok w h
        | none => .no
      | none => .no
  | _ => .no
theorem fop_ix : FOp K T opIx (rIx K) := by
  intro Wx σ F ρ ih H x y v1 v2 Q hr r1 r2 hp
  unfold opIx at hp
  split at hp
  · rename_i i
    cases r2 with | d r2 =>
    cases r2
    split at hp
    · rename_i l
      split at hp
      · rename_i c e
        cases r1 with | d r1 =>
        cases r1 with | str l' z =>
        refine .inr (.inr ⟨_, _, c, rfl, rfl, by rw [toStr_len]; exact z, by simpa [toStr] using e, ?_⟩)
        exact hp.ok hr _ (.d (.str [c] (by show 1 ≤ sizeLine; decide)))
      · exact hp.elim
    · split at hp
      · rename_i l e
        split at hp
        · rename_i w e2
          obtain ⟨a, vs, rfl, s, rs, _⟩ := seqW_at hr r1 e
          obtain ⟨v, e3, r3⟩ := rs.at e2
          rcases s with s | s
          · exact .inl ⟨_, _, _, _, rfl, rfl, .inl s, e3, hp.ok hr _ r3⟩
          · exact .inr (.inl ⟨_, _, _, _, rfl, rfl, .inl s, e3, hp.ok hr _ r3⟩)
        · exact hp.elim
      · exact hp.elim
  · exact hp.elim
end
section
variable {X : Cx} {T : Tb} {Wx : WX} {a b : Expr} {pos : Pos} {ca cb : Cd}
theorem fe_ix (hs : PlainIx b) (ha : FE X T Wx a ca) (hb : FE X T Wx b cb) : FE X T Wx (.Subscript a b pos) (c2 opIx ca cb) :=
  PE.imp (pe_ix ix_seq ha hb hs) fun _ _ _ q => op2 fop_ix q
end

/-! ### slices -/
abbrev Co := Ev → Hh → R (Option Int)
def oOf (K : PySem.W.Frag) (T : Tb) (Wx : WX) (c : Co) : TO := fun σ H Q => ∃ F ρ e ih, HR K T F ρ ih H ∧ RE K F ρ H e σ ∧ Pst K T Wx σ F ρ H (c e ih) fun _ H' _ o => Q o H'
def FO (X : Cx) (T : Tb) (Wx : WX) (e : Option Expr) (c : Co) : Prop := PO X e (oOf X.K T Wx c)
def oN : Co := fun _ h => .ok none h
def oS (c : Cd) : Co := fun e h => (c e h).bind fun w h => match w with
  | .d (.int i) => .ok (some i) h
  | _ => .no
section
variable {X : Cx} {T : Tb} {Wx : WX} {e : Expr}
theorem PO.imp {o : Option Expr} {t t' : TO} (h : PO X o t) (f : ∀ σ H Q, t' σ H Q → t σ H Q) : PO X o t' := ⟨fun pins s σ H Q I q => h.run pins s σ H Q I (f _ _ _ q)⟩
theorem fo_n : FO X T Wx none oN := PO.imp po_none fun σ H Q q => by
  obtain ⟨F, ρ, ev, ih, hr, re, hp⟩ := q
  exact hp.ok hr
theorem fo_s {c : Cd} (h : FE X T Wx e c) : FO X T Wx (some e) (oS c) := PO.imp (po_some h) fun σ H Q q => by
  obtain ⟨F, ρ, ev, ih, hr, re, hp⟩ := q
  refine ⟨F, ρ, ev, ih, hr, re, hp.bind.mono fun ρ1 H1 ih1 w g1 hr1 hp1 v r => ?_⟩
  split at hp1
  · cases r with | d r => cases r; exact ⟨_, rfl, hp1.ok hr1⟩
  · exact hp1.elim
end
/-- a cut of a list -/
def cut {α : Type} (xs : List α) (lo hi : Option Int) : List α := (xs.drop (HT.sIx xs.length 0 lo)).take (HT.sIx xs.length xs.length hi - HT.sIx xs.length 0 lo)
theorem cut_len {α : Type} (xs : List α) (lo hi : Option Int) : (cut xs lo hi).length ≤ xs.length := by
  simp only [cut, List.length_take, List.length_drop]; omega
def opSl (m : Bool) (x : W) (lo hi : Option Int) (h : Hh) : R W := match x with
  | .d (.str l) => .ok (.d (.str (cut l lo hi))) h
  | .d (.tup l) => .ok (.d (.tup (cut l lo hi))) h
  | x => match lstW x h with
    | some l => fin m (cut l lo hi) h
    | none => .no
def rSlF (K : PySem.W.Frag) : V → Option Int → Option Int → Hp → VK → Prop := fun x lo hi H Q => rSlL K x lo hi H Q ∨ rSlA K x lo hi H Q ∨ rSlS x lo hi H Q
theorem slr {X : Cx} : SlR X (rSlF X.K) := sl_list.or (sl_tupA.or sl_str)
theorem RWs.cut {K F ρ H} {a : List W} {vs : List V} (h : RWs K F ρ H a vs) (lo hi : Option Int) : RWs K F ρ H (Fz.cut a lo hi) (cutV vs lo hi) := by
  have tk : ∀ {a : List W} {vs : List V} (n : Nat), RWs K F ρ H a vs → RWs K F ρ H (a.take n) (vs.take n) := by
    intro a vs n h
    induction h generalizing n with
    | nil => simp; exact .nil
    | cons r t ih => cases n with
      | zero => exact .nil
      | succ n => exact .cons r (ih n)
  have dr : ∀ {a : List W} {vs : List V} (n : Nat), RWs K F ρ H a vs → RWs K F ρ H (a.drop n) (vs.drop n) := by
    intro a vs n h
    induction h generalizing n with
    | nil => simp; exact .nil
    | cons r t ih => cases n with
      | zero => exact .cons r t
      | succ n => exact ih n
  unfold Fz.cut cutV
  rw [h.length]
  exact tk _ (dr _ h)
theorem RpL.cut {K M H} {a : List D} {vs : List V} (h : RpL K M H a vs) (lo hi : Option Int) : RpL K M H (Fz.cut a lo hi) (cutV vs lo hi) := by
  have tk : ∀ (n : Nat) {a : List D} {vs : List V}, RpL K M H a vs → RpL K M H (a.take n) (vs.take n) := by
    intro n
    induction n with
    | zero => intro a vs h; exact .nil
    | succ n ih =>
      intro a vs h
      cases h with
      | nil => exact .nil
      | cons r t => exact .cons r (ih t)
  have dr : ∀ (n : Nat) {a : List D} {vs : List V}, RpL K M H a vs → RpL K M H (a.drop n) (vs.drop n) := by
    intro n
    induction n with
    | zero => intro a vs h; exact h
    | succ n ih =>
      intro a vs h
      cases h with
      | nil => exact .nil
      | cons r t => exact ih t
  unfold Fz.cut cutV
  rw [h.length]
  exact tk _ (dr _ h)
theorem cut_all {α : Type} {l : List α} {lo hi : Option Int} (h : HT.sIx l.length 0 lo = 0 ∧ HT.sIx l.length l.length hi = l.length) : cut l lo hi = l := by
  unfold cut
  rw [h.1, h.2]
  simp
def cSl (m : Bool) (a : Cd) (lo hi : Co) : Cd := fun e h => (a e h).bind fun x h => (lo e h).bind fun l h => (hi e h).bind fun u h => opSl m x l u h
section
variable {X : Cx} {T : Tb} {Wx : WX} {e : Expr} {lo hi : Option Expr} {pos p2 : Pos} {c : Cd} {cl cu : Co}
theorem fe_sl {m : Bool} (he : FE X T Wx e c) (hl : FO X T Wx lo cl) (hu : FO X T Wx hi cu) : FE X T Wx (.Subscript e (.Slice lo hi none p2) pos) (cSl m c cl cu) := PE.imp (pe_slice slr he hl hu) fun σ H Q q => by
  obtain ⟨F, ρ, ev, ih, hr, re, hp⟩ := q
  refine ⟨F, ρ, ev, ih, hr, re, hp.bind.mono fun ρ1 H1 ih1 w g1 hr1 hp1 v r => ?_⟩
  have re1 := re.grow g1 hr
  refine ⟨F, ρ1, ev, ih1, hr1, re1, hp1.bind.mono fun ρ2 H2 ih2 l g2 hr2 hp2 => ?_⟩
  have re2 := re1.grow g2 hr1
  refine ⟨F, ρ2, ev, ih2, hr2, re2, hp2.bind.mono fun ρ3 H3 ih3 u g3 hr3 hp3 => ?_⟩
  have r3 := (r.grow g2 hr1).grow g3 hr2
  unfold opSl at hp3
  split at hp3
  · rename_i l'
    cases r3 with | d r3 => cases r3 with | str _ z =>
      refine .inr (.inr ⟨_, rfl, by rw [toStr_len]; exact z, ?_⟩)
      have e : cutS (toStr l') l u = toStr (cut l' l u) := by
        unfold cutS cut
        rw [toStr_len]
        simp [toStr]
      rw [e]
      exact hp3.ok hr3 _ (.d (.str _ (Nat.le_trans (cut_len _ _ _) z)))
  · cases r3 with | d r3 => cases r3 with | tup t z rl =>
      refine .inr (.inl ⟨_, _, rfl, t.sq, fun hw => ?_, fun hw p np => ?_⟩)
      · rw [← rl.length] at hw
        rw [cut_all hw] at hp3
        exact hp3.ok hr3 _ (.d (.tup t z rl))
      · obtain ⟨a, b⟩ := new_tup hr3 np (rl.cut l u) (Nat.le_trans (cut_len _ _ _) z) hp3
        exact a _ b
  · split at hp3
    · rename_i l' e
      obtain ⟨a, vs, rfl, s, rs, _⟩ := lstW_at hr3 r3 e
      exact .inl ⟨_, _, rfl, .inl s, fun p np => fin_ok hr3 (rs.cut l u) np hp3⟩
    · exact hp3.elim
/-- x[::-1] of a list -/
def opRev (m : Bool) (x : W) (h : Hh) : R W := match lstW x h with
  | some l => fin m l.reverse h
  | none => .no
theorem RWs.rev {K F ρ H} {a : List W} {vs : List V} (h : RWs K F ρ H a vs) : RWs K F ρ H a.reverse vs.reverse := by
  induction h with
  | nil => exact .nil
  | cons r t ih => simp only [List.reverse_cons]; exact ih.app (.cons r .nil)
theorem fe_rev {m : Bool} {k : Nat} {p1 p3 : Pos} (he : FE X T Wx e c) : FE X T Wx (.Subscript e (.Slice none none (some (.UnaryOp .USub (.Constant (.int 1) k p1) p2)) p3) pos) (c1 (opRev m) c) := PE.imp (pe_revL he) fun σ H Q q => by
  obtain ⟨F, ρ, ev, ih, hr, re, hp⟩ := q
  refine ⟨F, ρ, ev, ih, hr, re, hp.bind.mono fun ρ1 H1 ih1 w g1 hr1 hp1 v r => ?_⟩
  unfold opRev at hp1
  split at hp1
  · rename_i l' e
    obtain ⟨a, vs, rfl, s, rs, _⟩ := lstW_at hr1 r e
    exact ⟨_, _, rfl, .inl s, fun p np => fin_ok hr1 rs.rev np hp1⟩
  · exact hp1.elim
end
end Fz
set_option Elab.async false
set_option linter.all false
set_option maxRecDepth 100000
set_option maxHeartbeats 2000000
/-! Fz: the defs of the text: what is promised of one, calls. -/
namespace Fz
open PySem L2 PyProof.Rows

/-- as FnOk, where no repr is under way -/
structure FnG (P : Program) (w : World) (K : PySem.W.Frag) (mg : Str → Option Value) (base : Heap) (k : Nat) (f : Addr) (fd : FuncData) (ps : List Str) (sp : Sp) : Prop where
  len : ∀ vs H Q E, sp vs H Q E → vs.length = ps.length
  run : ∀ (A : Around) (outer : List Env) (s : Shared) (H : Hp) (args : Args) (us : List Value) (vs : List V) (Q : VK) (E : XK), Room k A → A.guards = some [] → Env0 P w K mg base A outer s H → BindsTo s fd args (ps.zip us) → Vals vs us → sp vs H Q E →
    codeAny (model P w) A (.call (.ref f) args) (CR (L2.CX P w) outer P w H s Q E) s
theorem FnG.imp {P w K mg base k f fd ps} {sp sp' : Sp} (F : FnG P w K mg base k f fd ps sp) (h : ∀ vs H Q E, sp' vs H Q E → sp vs H Q E) : FnG P w K mg base k f fd ps sp' :=
  ⟨fun vs H Q E q => F.len vs H Q E (h _ _ _ _ q), fun A outer s H args us vs Q E hr hg e0 hb r q => F.run A outer s H args us vs Q E hr hg e0 hb r (h _ _ _ _ q)⟩
theorem FnG.mono {P w K mg base j k f fd ps} {sp : Sp} (F : FnG P w K mg base j f fd ps sp) (h : j ≤ k) : FnG P w K mg base k f fd ps sp :=
  ⟨F.len, fun A outer s H args us vs Q E hr hg e0 hb r q => F.run A outer s H args us vs Q E (hr.mono h) hg e0 hb r q⟩
/-- a def by its body -/
theorem fnG_of {P : Program} {w : World} {K : PySem.W.Frag} {mg : Str → Option Value} {base : Heap} {k : Nat} {x qual : Str} {st : Stmt} {f : Addr} {fd : FuncData} {N ps : List Str} {sp : Sp} (Fu : Fun K x qual st f fd) (S : FnScope N ps (defScope st))
    (len : ∀ vs H Q E, sp vs H Q E → vs.length = ps.length)
    (hbody : ∀ (cdv : Value) (A : Around) (outer : List Env) (s : Shared) (H : Hp) (vs : List V) (Q : VK) (E : XK), Room k (A.deeper (envOfC qual (defScope st) s.heap.objs.size f cdv)) → A.guards = some [] → sp vs H Q E →
      ∃ t, PSs (cxOf (L2.CX P w) P w K mg base N qual (defScope st) f cdv A outer s H E) (defBody st) t ∧ t { nx := fun _ H' => Q .non H', rt := Q } (start N vs) H) :
    FnG P w K mg base (k + 1) f fd ps sp := by
  obtain ⟨oc, od, kV, doc, pm, an, cdv, ct, osl, rfl, lk, hcd⟩ := Fu.ex
  refine ⟨len, fun A outer s H args us vs Q E hr hg e0 hb r hsp => ?_⟩
  have KX : K.In s.heap := e0.mod.kin.keeps fun b o e => (e0.bs b o e).1
  have lim : s.heap.NoLimit := e0.mod.nolimit.keeps fun b o e => (e0.bs b o e).1
  have hkind : ∀ y ∈ ps.zip us, (defScope st).names.lookup y.1 = some .local ∨ ((defScope st).names.lookup y.1 = some .cell ∧ ((cellsFrom (s.heap.objs.size + 1) (defScope st).names []).lookup y.1).isSome = true) := fun ⟨n, v⟩ hy => by
    rcases S.par n (List.of_mem_zip hy).1 with q | q
    · exact .inl q
    · exact .inr ⟨q, PySem.W.cellsFrom_some _ _ _ (.inl q)⟩
  refine codeAny_call_function hr.depth (KX _ _ lk) rfl S.co S.gen rfl (PySem.W.codeRec_of KX hcd) (hb _ _ _ _ ?_)
  refine wpAny_newFunctionEnv_cells S.kind hkind fun env he s1 x => ?_
  subst he
  refine ⟨lim.keeps x.toInCall.keep, codeAny_func ?_⟩
  obtain ⟨t, ht, hq⟩ := hbody cdv A outer s H vs Q E (hr.deeper _) hg hsp
  have I : L2.Inv (cxOf (L2.CX P w) P w K mg base N qual (defScope st) f cdv A outer s H E) [] (start N vs) H s1 := inv_start S hr.hd e0 (len _ _ _ _ hsp) r x
  refine wpAny_mono (ht.run [] s1 (start N vs) H _ I hq) (fun fl s' hs => ?_) fun e s' hs => hs
  have fin : ∀ {σ' : L2.St} {H' : Hp} {v : V} {u : Value}, L2.Inv (cxOf (L2.CX P w) P w K mg base N qual (defScope st) f cdv A outer s H E) [] σ' H' s' → RelV v u → Q v H' → CE outer P w H s Q u s' :=
    fun {σ' H' v u} J rv q => ⟨v, H', J.os, J.bare, J.base, J.hok, rv, q⟩
  cases fl with
  | ret u =>
    obtain ⟨v, σ', H', J, rv, q⟩ := hs
    exact fin J rv q
  | next =>
    obtain ⟨σ', H', J, q⟩ := hs
    exact fin (v := V.non) (u := Value.none) J rfl q
  | brk =>
    obtain ⟨_, _, _, q⟩ := hs
    exact False.elim q
  | cont =>
    obtain ⟨_, _, _, q⟩ := hs
    exact False.elim q

/-- where one stands -/
structure Cg (X : Cx) (Wx : WX) (k : Nat) : Prop where
  calm : X.calm = true
  room : Room k X.A
  gd : X.A.guards = some []
  tk : Takes X Wx
  nd : X.N.Nodup
  po : PassesOwn (model X.prog X.w) X.A X.env X.xe

section
variable {X : Cx} {T : Tb} {Wx : WX} {k j : Nat} {f C : Addr} {fd : FuncData} {ps : List Str} {sp : Sp} {pins : List (Addr × Obj)} {σ : L2.St} {H : Hp} {s : Shared} {Q : VK} {us : List Value} {vs : List V}
theorem run_g (G : Cg X Wx k) (F : FnG X.prog X.w X.K X.mg X.base k f fd ps sp) (hb : Binds X.K fd ps []) (I : L2.Inv X pins σ H s) (r : Vals vs us) (h : sp vs H Q fun cls d H' => Wx cls d σ H') :
    wpAny (model X.prog X.w) X.A (call (.ref f) us) (EP X pins σ Q) X.xe s := by
  have hl : (us ++ []).length = ps.length := by rw [List.append_nil, ← r.length]; exact F.len _ _ _ _ h
  have hb' := hb s us I.kIn hl
  rw [List.append_nil] at hb'
  refine wpAny_call (codeAny_mono (F.run X.A X.stack s H ⟨us, []⟩ us vs Q _ G.room G.gd I.env0 hb' r h) fun r s' hq => ?_)
  cases r with
  | error e => exact G.tk e s' (XE.of_call I (fun _ _ _ q => q) hq)
  | ok fl =>
    cases fl with
    | ret u => exact I.after hq
    | next => exact False.elim hq
    | brk => exact False.elim hq
    | cont => exact False.elim hq
theorem run_mk (G : Cg X Wx (k + 1)) (M : Mk X.K C f) (F : FnG X.prog X.w X.K X.mg X.base k f fd ps sp) (hb : Binds X.K fd ps []) (I : L2.Inv X pins σ H s) (r : Vals vs us)
    (h : ∀ x dx, H x = none → H dx = none → dx ≠ x → sp (.ref x :: vs) (upd (upd H dx (.own x)) x (.ins C dx [])) (fun v H2 => v = .non ∧ Q (.ref x) H2) fun cls d H' => Wx cls d σ H') :
    wpAny (model X.prog X.w) X.A (call (.ref C) us) (EP X pins σ Q) X.xe s := by
  have hq := h (s.heap.objs.size + 1) s.heap.objs.size (I.hok.fresh (Nat.le_succ _)) (I.hok.fresh (Nat.le_refl _)) (Nat.ne_of_lt (Nat.lt_succ_self _))
  have I2 := Inv.made (C := C) I
  have r2 : Vals (V.ref (s.heap.objs.size + 1) :: vs) (Value.ref (s.heap.objs.size + 1) :: us) := .cons rfl r
  have hl : (Value.ref (s.heap.objs.size + 1) :: us ++ []).length = ps.length := by
    rw [List.append_nil, ← r2.length]; exact F.len _ _ _ _ hq
  have hb' := hb _ (Value.ref (s.heap.objs.size + 1) :: us) I2.kIn hl
  rw [List.append_nil] at hb'
  refine wpAny_call (make_map (f := f) I.kIn M.makes M.init (beq_iff_eq.mp M.fn) (codeAny_mono (F.run _ X.stack _ _ ⟨Value.ref (s.heap.objs.size + 1) :: us, []⟩ (Value.ref (s.heap.objs.size + 1) :: us) _ _ _ (G.room.make C us [])
    (by unfold Around.under; dsimp only; rw [G.gd]; rfl) (I2.env0.make C us []) hb' r2 hq) fun r s' hq' => ?_))
  cases r with
  | error e => exact G.tk e s' (XE.of_call I2 (fun _ _ _ q => q) hq')
  | ok fl =>
    cases fl with
    | ret u =>
      obtain ⟨v, H', I3, rv, ev, q3⟩ := I2.after hq'
      subst ev
      exact ⟨rv, ⟨V.ref (s.heap.objs.size + 1), H', I3, rfl, q3⟩⟩
    | next => exact False.elim hq'
    | brk => exact False.elim hq'
    | cont => exact False.elim hq'
end

/-! ### what a def promises: it does what a function says -/
abbrev Fn := List W → Hh → R W
def spF (K : PySem.W.Frag) (T : Tb) (n : Nat) (g : Fn) : Sp := fun vs H Q E => vs.length = n ∧ ∃ F ρ ws ih, HR K T F ρ ih H ∧ RWs K F ρ H ws vs ∧ Pst K T (fun cls d _ H' => E cls d H') [] F ρ H (g ws ih) fun ρ' H' _ w => ∀ v, RW K F ρ' H' w v → Q v H'
/-- a call that sees data alone: nothing of ours changes -/
def pure' (g : Fn) (ws : List W) (h : Hh) : R W := match allD ws with
  | none => .no
  | some _ => match g ws [] with
    | .ok (.d x) _ => .ok (.d x) h
    | .ex c (.d x) _ => .ex c (.d x) h
    | _ => .no
section
variable {K : PySem.W.Frag} {T : Tb} {F ρ : List Addr} {H : Hp} {ih : Hh}
mutual
theorem Rp.less {M M' : List Addr} (h : ∀ a, a ∈ M' → a ∈ M) : ∀ {d : D} {v : V}, Rp K M H d v → Rp K M' H d v
  | _, _, .non => .non
  | _, _, .bl b => .bl b
  | _, _, .int i => .int i
  | _, _, .str l z => .str l z
  | _, _, .tup q z r => .tup ⟨q.1, fun m => q.2 (h _ m)⟩ z (RpL.less h r)
  | _, _, .lst q z r => .lst ⟨q.1, fun m => q.2 (h _ m)⟩ z (RpL.less h r)
theorem RpL.less {M M' : List Addr} (h : ∀ a, a ∈ M' → a ∈ M) : ∀ {d : List D} {v : List V}, RpL K M H d v → RpL K M' H d v
  | _, _, .nil => .nil
  | _, _, .cons a b => .cons (Rp.less h a) (RpL.less h b)
end
theorem spF_pure {n : Nat} {g : Fn} {ws : List W} {vs : List V} {Q : VK} {Wx : WX} {σ : L2.St} (hn : vs.length = n) (hr : HR K T F ρ ih H) (rs : RWs K F ρ H ws vs)
    (hp : Pst K T Wx σ F ρ H (pure' g ws ih) fun ρ' H' _ w => ∀ v, RW K F ρ' H' w v → Q v H') : spF K T n g vs H Q fun cls d H' => Wx cls d σ H' := by
  unfold pure' at hp
  cases e : allD ws with
  | none => rw [e] at hp; exact hp.elim
  | some ds =>
    rw [e] at hp
    dsimp only at hp
    have hr0 : HR K T (F ++ ρ) [] [] H := ⟨rfl, List.nodup_nil, fun a m => absurd m (by simp), fun a m => (List.mem_append.mp m).elim (hr.trF a) fun q => hr.tr q, fun n o q => by simp at q⟩
    have rs0 : RWs K (F ++ ρ) [] H ws vs := by
      have rp := allD_rp e rs
      rw [allD_eq e]
      have rp' : RpL K ((F ++ ρ) ++ []) H ds vs := by rw [List.append_nil]; exact rp
      exact rp'.rws
    refine ⟨hn, F ++ ρ, [], ws, [], hr0, rs0, ?_⟩
    have back : ∀ {ρ2 : List Addr} {H2 : Hp}, Grow (F ++ ρ) [] H ρ2 H2 → Grow F ρ H ρ H2 := fun g => ⟨⟨[], by simp⟩, fun a o q _ => g.keep a o q (by simp), fun a m n => absurd m n⟩
    have hback : ∀ {ρ2 : List Addr} {H2 : Hp}, Grow (F ++ ρ) [] H ρ2 H2 → HR K T F ρ ih H2 := fun {ρ2 H2} g => ⟨hr.len, hr.nd, hr.fr, fun a m => by
        cases q : H a with
        | none => exact absurd q (hr.trF a m)
        | some o =>
          rw [g.keep a o q (by simp)]
          simp, fun n o q => by
        obtain ⟨a, u, e1, e2, ro⟩ := hr.obj n o q
        exact ⟨a, u, e1, g.keep a u e2 (by simp), ro.grow (back g) hr⟩⟩
    have val : ∀ {ρ2 : List Addr} {H2 : Hp} {x : D} {v : V}, RW K (F ++ ρ) ρ2 H2 (.d x) v → RW K F ρ H2 (.d x) v := fun r => by
      cases r with
      | d r => exact .d (r.less fun a m => List.mem_append_left _ m)
    cases eg : g ws [] with
    | no => rw [eg] at hp; exact hp.elim
    | ok w h2 =>
      cases w with
      | r n => rw [eg] at hp; exact hp.elim
      | d x =>
        rw [eg] at hp
        exact fun ρ2 H2 g2 hr2 v r => hp ρ H2 (back g2) (hback g2) v (val r)
    | ex c p h2 =>
      cases p with
      | r n => rw [eg] at hp; exact hp.elim
      | d x =>
        rw [eg] at hp
        intro ρ2 H2 cls dx g2 hr2 xr
        obtain ⟨a, d, v, b1, b2, b3, b4⟩ := xr
        exact hp ρ H2 cls dx (back g2) (hback g2) ⟨a, d, v, b1, b2, fun m => b3 (List.mem_append_left _ m), val b4⟩
theorem spF_of {n : Nat} {g : Fn} {ws : List W} {vs : List V} {Q : VK} {Wx : WX} {σ : L2.St} (hn : vs.length = n) (hr : HR K T F ρ ih H) (rs : RWs K F ρ H ws vs)
    (hp : Pst K T Wx σ F ρ H (g ws ih) fun ρ' H' _ w => ∀ v, RW K F ρ' H' w v → Q v H') : spF K T n g vs H Q fun cls d H' => Wx cls d σ H' := by
  refine ⟨hn, F, ρ, ws, ih, hr, rs, ?_⟩
  cases e : g ws ih with
  | no => rw [e] at hp; exact hp.elim
  | ok w h2 => rw [e] at hp; exact hp
  | ex c p h2 => rw [e] at hp; exact hp
end
/-- a call: of a def that may change things, or of one that sees data alone (p) -/
def cCall (p : Bool) (n : Nat) (g : Fn) (a : Ca) : Cd := fun e h => (a e h).bind fun ws h => if ws.length = n then (if p then pure' g ws h else g ws h) else .no
section
variable {X : Cx} {T : Tb} {Wx : WX} {k : Nat} {f C : Addr} {fd : FuncData} {ps : List Str} {x m : Str} {p pos apos : Pos} {e o : Expr} {es : List Expr} {ca : Ca} {co : Cd} {g : Fn} {n : Nat} {pu : Bool}
theorem call_at {σ : L2.St} {F ρ : List Addr} {H : Hp} {ih : Hh} {ws : List W} {vs : List V} {Q : VK} (hr : HR X.K T F ρ ih H) (rs : RWs X.K F ρ H ws vs)
    (hp : Pst X.K T Wx σ F ρ H (if ws.length = n then (if pu then pure' g ws ih else g ws ih) else .no) fun ρ' H' _ w => ∀ v, RW X.K F ρ' H' w v → Q v H') : spF X.K T n g vs H Q fun cls d H' => Wx cls d σ H' := by
  split at hp
  · rename_i hn
    rw [rs.length] at hn
    cases pu with
    | true => exact spF_pure hn hr rs hp
    | false => exact spF_of hn hr rs hp
  · exact hp.elim
def tClG (Wx : WX) (sp : Sp) (t : TA) : TE := fun σ H Q => t σ H fun vs H1 => sp vs H1 Q fun cls d H' => Wx cls d σ H'
theorem pe_callG {t : TA} {sp : Sp} (G : Cg X Wx k) (F : FnG X.prog X.w X.K X.mg X.base k f fd ps sp) (hg : Gl X x) (hm : X.mg x = some (.ref f)) (hk : PySem.W.keepIn X.K (.ref f) = true) (hb : Binds X.K fd ps [])
    (hdb : (x == ("__debug__" : Str)) = false) (he : starEach (e :: es) X.env = (false, eval e X.env) :: starEach es X.env) (hpl : (backTo pos (starEach es X.env)).any (·.1) = false) (ha : PA X (e :: es) t) :
    PE X (.Call (.Name x p) (e :: es) [] pos) (tClG Wx sp t) := by
  refine ⟨fun pins s σ H Q I h => ?_⟩
  refine wpAny_Call_Name_kw (ld_glob I hg hm ?_ hdb)
  refine PySem.W.callWith_K (h₀ := X.base) I.ok.mod.kin hk (thn (ha.run pos pins s σ H _ I h) fun us s1 ⟨vs, H1, I1, r, q⟩ => ⟨I1.kIn, ?_⟩) he hpl
  exact run_g G F hb I1 r q
theorem clG {σ H Q} (q : tOf X.K T Wx (cCall pu n g ca) σ H Q) : tClG Wx (spF X.K T n g) (aOf X.K T Wx ca) σ H Q := by
  obtain ⟨F', ρ, ev, ih, hr, re, hp⟩ := q
  exact ⟨F', ρ, ev, ih, hr, re, hp.bind.mono fun ρ1 H1 ih1 ws g1 hr1 hp1 vs rs => call_at hr1 rs hp1⟩
theorem fe_call (G : Cg X Wx k) (F : FnG X.prog X.w X.K X.mg X.base k f fd ps (spF X.K T n g)) (hg : Gl X x) (hm : X.mg x = some (.ref f)) (hk : PySem.W.keepIn X.K (.ref f) = true) (hb : Binds X.K fd ps [])
    (hdb : (x == ("__debug__" : Str)) = false) (he : starEach (e :: es) X.env = (false, eval e X.env) :: starEach es X.env) (hpl : (backTo pos (starEach es X.env)).any (·.1) = false) (ha : FA X T Wx (e :: es) ca) :
    FE X T Wx (.Call (.Name x p) (e :: es) [] pos) (cCall pu n g ca) := PE.imp (pe_callG G F hg hm hk hb hdb he hpl ha) fun _ _ _ q => clG q
theorem fe_call0 (G : Cg X Wx k) (F : FnG X.prog X.w X.K X.mg X.base k f fd ps (spF X.K T n g)) (hg : Gl X x) (hm : X.mg x = some (.ref f)) (hk : PySem.W.keepIn X.K (.ref f) = true) (hb : Binds X.K fd ps [])
    (hdb : (x == ("__debug__" : Str)) = false) : FE X T Wx (.Call (.Name x p) [] [] pos) (cCall pu n g aNil) := by
  refine PE.imp (t := tClG Wx (spF X.K T n g) tNil) ⟨fun pins s σ H Q I h => ?_⟩ fun σ H Q q => ?_
  · refine wpAny_Call_Name_kw (ld_glob I hg hm ?_ hdb)
    exact PySem.W.callWith_K0 I.kIn hk (run_g (us := []) G F hb I .nil h)
  · obtain ⟨F', ρ, ev, ih, hr, re, hp⟩ := q
    exact call_at hr .nil hp

/-! ### methods of own classes -/
/-- the object is of class c, and has no field of the method's name -/
def cMeth (c : Nat) (n : Nat) (g : Fn) (o : Cd) (a : Ca) : Cd := fun e h => (o e h).bind fun x h => match x with
  | .r i => match h[i]? with
    | some (.ins c' _) => if c' = c then (a e h).bind fun ws h => if (W.r i :: ws).length = n then g (.r i :: ws) h else .no else .no
    | _ => .no
  | _ => .no
theorem no_field {K : PySem.W.Frag} {F ρ : List Addr} {H : Hp} {fs : List (Nat × W)} {vs : List (Str × V)} (nm : ∀ i, T.fld i ≠ m) (r : Paired (fun p q => q.1 = T.fld p.1 ∧ RW K F ρ H p.2 q.2) fs vs) : vs.lookup m = none := by
  induction r with
  | nil => rfl
  | @cons a b l l2 x t ih =>
    obtain ⟨s, v⟩ := b
    have hb : (m == s) = false := by
      rw [beq_eq_false_iff_ne]
      exact fun z => nm a.1 (by rw [z]; exact x.1.symm)
    rw [List.lookup_cons, hb]
    exact ih
def tMtG (Wx : WX) (C : Addr) (m : Str) (sp : Sp) (ta : TE) (t : TA) : TE := fun σ H Q => ta σ H fun x H1 => ∃ a dx fs, x = .ref a ∧ H1 a = some (.ins C dx fs) ∧ fs.lookup m = none ∧ t σ H1 fun vs H2 => sp (x :: vs) H2 Q fun cls d H' => Wx cls d σ H'
theorem mtG {c : Nat} (nm : ∀ i, T.fld i ≠ m) {σ H Q} (q : tOf X.K T Wx (cMeth c n g co ca) σ H Q) : tMtG Wx (T.cad c) m (spF X.K T n g) (tOf X.K T Wx co) (aOf X.K T Wx ca) σ H Q := by
  obtain ⟨F, ρ, ev, ih, hr, re, hp⟩ := q
  refine ⟨F, ρ, ev, ih, hr, re, hp.bind.mono fun ρ1 H1 ih1 w g1 hr1 hp1 v r => ?_⟩
  split at hp1
  · rename_i i
    split at hp1
    · rename_i c' fs ho
      split at hp1
      · rename_i hc
        subst hc
        cases r with
        | r e =>
          obtain ⟨u, eH, ro⟩ := hr1.at e ho
          cases ro with
          | ins rs z =>
            refine ⟨_, _, _, rfl, eH, no_field nm rs, F, ρ1, ev, ih1, hr1, re.grow g1 hr, hp1.bind.mono fun ρ2 H2 ih2 ws g2 hr2 hp2 vs rs2 => ?_⟩
            have rs3 : RWs X.K F ρ2 H2 (W.r i :: ws) (V.ref _ :: vs) := .cons (.r (g2.get e)) rs2
            split at hp2
            · rename_i hn
              exact spF_of (by rw [← rs3.length]; exact hn) hr2 rs3 hp2
            · exact hp2.elim
      · exact hp1.elim
    · exact hp1.elim
  · exact hp1.elim
theorem fe_meth {c : Nat} (nm : ∀ i, T.fld i ≠ m) (G : Cg X Wx k) (cl : Cls X.K (T.cad c)) (hm : Meth X.K (T.cad c) m f) (F : FnG X.prog X.w X.K X.mg X.base k f fd ps (spF X.K T n g)) (hb : Binds X.K fd ps []) {pl : Sem Bool}
    (hst : starEach (e :: es) X.env = (false, eval e X.env) :: starEach es X.env) (hpl : (backTo pos (starEach es X.env)).any (·.1) = false)
    (ht : eval (.Call (.Attribute o m apos) (e :: es) [] pos) X.env = (do
      let ov ← eval o X.env
      standAt apos.atName
      let (f, first) ← holding [ov] (getMethod ov m pl)
      callWith pos f first (backTo pos (starEach (e :: es) X.env)) (backToKw pos (keywordEach [] X.env))))
    (ho : FE X T Wx o co) (ha : FA X T Wx (e :: es) ca) : FE X T Wx (.Call (.Attribute o m apos) (e :: es) [] pos) (cMeth c n g co ca) := by
  refine PE.imp (t := tMtG Wx (T.cad c) m (spF X.K T n g) (tOf X.K T Wx co) (aOf X.K T Wx ca)) ⟨fun pins s σ H Q I h => ?_⟩ fun _ _ _ q => mtG nm q
  refine PySem.W.methodCall_KW (pl := pl) (thn (ho.run pins s σ H _ I h) fun u s1 ⟨x, H1, I1, rx, a, dx, fs, ex, ea, l, q⟩ => ?_) ht
  subst ex
  obtain rfl : u = Value.ref a := rx
  refine getmeth_ok I1 ea cl hm l ?_
  refine PySem.W.callWith_K (first := [.ref a]) (h₀ := X.base) I.ok.mod.kin hm.kp (thn (ha.run pos pins s1 σ H1 _ I1 q) fun us s2 ⟨vs, H2, I2, r, q2⟩ => ⟨I2.kIn, ?_⟩) hst hpl
  exact run_g (us := .ref a :: us) (vs := .ref a :: vs) G F hb I2 (.cons rfl r) q2
theorem fe_meth0 {c : Nat} (nm : ∀ i, T.fld i ≠ m) (G : Cg X Wx k) (cl : Cls X.K (T.cad c)) (hm : Meth X.K (T.cad c) m f) (F : FnG X.prog X.w X.K X.mg X.base k f fd ps (spF X.K T n g)) (hb : Binds X.K fd ps []) {pl : Sem Bool}
    (ht : eval (.Call (.Attribute o m apos) [] [] pos) X.env = (do
      let ov ← eval o X.env
      standAt apos.atName
      let (f, first) ← holding [ov] (getMethod ov m pl)
      callWith pos f first (backTo pos (starEach [] X.env)) (backToKw pos (keywordEach [] X.env))))
    (ho : FE X T Wx o co) : FE X T Wx (.Call (.Attribute o m apos) [] [] pos) (cMeth c n g co aNil) := by
  refine PE.imp (t := tMtG Wx (T.cad c) m (spF X.K T n g) (tOf X.K T Wx co) (aOf X.K T Wx aNil)) ⟨fun pins s σ H Q I h => ?_⟩ fun _ _ _ q => mtG nm q
  refine PySem.W.methodCall_KW (pl := pl) (thn (ho.run pins s σ H _ I h) fun u s1 ⟨x, H1, I1, rx, a, dx, fs, ex, ea, l, q⟩ => ?_) ht
  subst ex
  obtain rfl : u = Value.ref a := rx
  refine getmeth_ok I1 ea cl hm l ?_
  obtain ⟨F', ρ, ev, ih, hr, re, hp⟩ := q
  exact PySem.W.callWith_K0 (first := [.ref a]) I1.kIn hm.kp (run_g (us := [.ref a]) (vs := [.ref a]) G F hb I1 (.cons rfl .nil) (hp.ok hr [] .nil))
/-! ### a new instance -/
def cNew (c : Nat) (n : Nat) (g : Fn) (a : Ca) : Cd := fun e h => (a e h).bind fun ws h => if (W.r h.length :: ws).length = n then (g (.r h.length :: ws) (h ++ [.ins c []])).bind fun w h' => match w with
  | .d .non => .ok (.r h.length) h'
  | _ => .no else .no
def tMkG (Wx : WX) (C : Addr) (sp : Sp) (t : TA) : TE := fun σ H Q => t σ H fun vs H1 => ∀ x dx, H1 x = none → H1 dx = none → dx ≠ x →
  sp (.ref x :: vs) (upd (upd H1 dx (.own x)) x (.ins C dx [])) (fun v H2 => v = .non ∧ Q (.ref x) H2) fun cls d H' => Wx cls d σ H'
theorem mkG {c : Nat} {σ H Q} (q : tOf X.K T Wx (cNew c n g ca) σ H Q) : tMkG Wx (T.cad c) (spF X.K T n g) (aOf X.K T Wx ca) σ H Q := by
  obtain ⟨F, ρ, ev, ih, hr, re, hp⟩ := q
  refine ⟨F, ρ, ev, ih, hr, re, hp.bind.mono fun ρ1 H1 ih1 ws g1 hr1 hp1 vs rs => ?_⟩
  intro x dx nx ndx ne
  split at hp1
  · rename_i hn
    have nx' : upd H1 dx (.own x) x = none := by rw [upd_ne (Ne.symm ne)]; exact nx
    have hr2 := hr1.new (o := .own x) ndx
    have gA : Grow F ρ1 H1 ρ1 (upd H1 dx (.own x)) := grow_new ndx
    have gB : Grow F ρ1 (upd H1 dx (.own x)) (ρ1 ++ [x]) (upd (upd H1 dx (.own x)) x (.ins (T.cad c) dx [])) := grow_add nx'
    have gC := gA.trans hr2 gB
    have hr3 := hr2.add (o := .ins c []) (u := .ins (T.cad c) dx []) nx' (.ins .nil (by decide))
    have rs3 : RWs X.K F (ρ1 ++ [x]) (upd (upd H1 dx (.own x)) x (.ins (T.cad c) dx [])) (W.r ih1.length :: ws) (V.ref x :: vs) := .cons (.r (get_last hr1.len)) (RWs.grow gC hr1 rs)
    refine spF_of (by rw [← rs3.length]; exact hn) hr3 rs3 ?_
    have hp2 := hp1.bind
    cases e : g (W.r ih1.length :: ws) (ih1 ++ [.ins c []]) with
    | no => rw [e] at hp2; exact hp2.elim
    | ex c' p h2 =>
      rw [e] at hp2
      exact fun ρ4 H4 cls d g4 hr4 xr => hp2 ρ4 H4 cls d (gC.trans hr3 g4) hr4 xr
    | ok w h2 =>
      rw [e] at hp2
      intro ρ4 H4 g4 hr4 v r
      have hp3 := hp2 ρ4 H4 (gC.trans hr3 g4) hr4
      dsimp only at hp3
      split at hp3
      · cases r with | d r => cases r; exact ⟨rfl, hp3.ok hr4 _ (.r (g4.get (get_last hr1.len)))⟩
      · exact hp3.elim
  · exact hp1.elim
theorem fe_new {c : Nat} (G : Cg X Wx (k + 1)) (M : Mk X.K (T.cad c) f) (F : FnG X.prog X.w X.K X.mg X.base k f fd ps (spF X.K T n g)) (hg : Gl X x) (hm : X.mg x = some (.ref (T.cad c))) (hb : Binds X.K fd ps [])
    (hdb : (x == ("__debug__" : Str)) = false) (he : starEach (e :: es) X.env = (false, eval e X.env) :: starEach es X.env) (hpl : (backTo pos (starEach es X.env)).any (·.1) = false) (ha : FA X T Wx (e :: es) ca) :
    FE X T Wx (.Call (.Name x p) (e :: es) [] pos) (cNew c n g ca) := by
  refine PE.imp (t := tMkG Wx (T.cad c) (spF X.K T n g) (aOf X.K T Wx ca)) ⟨fun pins s σ H Q I h => ?_⟩ fun _ _ _ q => mkG q
  refine wpAny_Call_Name_kw (ld_glob I hg hm ?_ hdb)
  refine PySem.W.callWith_K (h₀ := X.base) I.ok.mod.kin M.kp (thn (ha.run pos pins s σ H _ I h) fun us s1 ⟨vs, H1, I1, r, q⟩ => ⟨I1.kIn, ?_⟩) he hpl
  exact run_mk G M F hb I1 r q
theorem fe_new0 {c : Nat} (G : Cg X Wx (k + 1)) (M : Mk X.K (T.cad c) f) (F : FnG X.prog X.w X.K X.mg X.base k f fd ps (spF X.K T n g)) (hg : Gl X x) (hm : X.mg x = some (.ref (T.cad c))) (hb : Binds X.K fd ps [])
    (hdb : (x == ("__debug__" : Str)) = false) : FE X T Wx (.Call (.Name x p) [] [] pos) (cNew c n g aNil) := by
  refine PE.imp (t := tMkG Wx (T.cad c) (spF X.K T n g) (aOf X.K T Wx aNil)) ⟨fun pins s σ H Q I h => ?_⟩ fun _ _ _ q => mkG q
  refine wpAny_Call_Name_kw (ld_glob I hg hm ?_ hdb)
  obtain ⟨F', ρ, ev, ih, hr, re, hp⟩ := h
  exact PySem.W.callWith_K0 I.kIn M.kp (run_mk (us := []) (vs := []) G M F hb I .nil (hp.ok hr [] .nil))
/-! ### fields -/
def lkf (f : Nat) (fs : List (Nat × W)) : Option W := fs.lookup f
def putf (f : Nat) (w : W) : List (Nat × W) → List (Nat × W)
  | [] => [(f, w)]
  | (g, x) :: r => if g = f then (g, w) :: r else (g, x) :: putf f w r
def cFld (f : Nat) (o : Cd) : Cd := fun e h => (o e h).bind fun x h => match x with
  | .r i => match h[i]? with
    | some (.ins _ fs) => match lkf f fs with
      | some w => .ok w h
      | none => .no
    | _ => .no
  | _ => .no
theorem lkf_at {K : PySem.W.Frag} {F ρ : List Addr} {H : Hp} {fl : Nat} {fs : List (Nat × W)} {vs : List (Str × V)} {w : W} (inj : ∀ i, T.fld i = T.fld fl → i = fl) (r : Paired (fun p q => q.1 = T.fld p.1 ∧ RW K F ρ H p.2 q.2) fs vs) (e : lkf fl fs = some w) :
    ∃ v, vs.lookup (T.fld fl) = some v ∧ RW K F ρ H w v := by
  induction r with
  | nil => cases e
  | @cons a b l l2 x t ih =>
    obtain ⟨s, v⟩ := b
    obtain ⟨i, w'⟩ := a
    obtain ⟨x1, x2⟩ := x
    simp only at x1 x2
    unfold lkf at e ih
    rw [List.lookup_cons] at e
    by_cases hi : fl = i
    · subst hi
      rw [beq_self_eq_true] at e
      cases e
      exact ⟨v, by rw [List.lookup_cons, x1, beq_self_eq_true], x2⟩
    · rw [beq_eq_false_iff_ne.mpr hi] at e
      obtain ⟨v', e1, r1⟩ := ih e
      refine ⟨v', ?_, r1⟩
      have hb : (T.fld fl == s) = false := by
        rw [beq_eq_false_iff_ne, x1]
        exact fun z => hi (inj i z.symm).symm
      rw [List.lookup_cons, hb]
      exact e1
theorem fe_fld {fl : Nat} (inj : ∀ i, T.fld i = T.fld fl → i = fl) (cl : ∀ c, Cls X.K (T.cad c)) (na : ∀ c, NoAttr X.K (T.cad c) (T.fld fl)) (hb : attributeBase o (T.fld fl) X.env (eval o X.env) = eval o X.env) (ho : FE X T Wx o co) :
    FE X T Wx (.Attribute o (T.fld fl) pos) (cFld fl co) := PE.imp (pe_fld ho hb) fun σ H Q q => by
  obtain ⟨F, ρ, ev, ih, hr, re, hp⟩ := q
  refine ⟨F, ρ, ev, ih, hr, re, hp.bind.mono fun ρ1 H1 ih1 w g1 hr1 hp1 v r => ?_⟩
  split at hp1
  · rename_i i
    split at hp1
    · rename_i c' fs ho
      split at hp1
      · rename_i w' hw
        cases r with
        | r e =>
          obtain ⟨u, eH, ro⟩ := hr1.at e ho
          cases ro with
          | ins rs z =>
            obtain ⟨v', e1, r1⟩ := lkf_at inj rs hw
            exact ⟨_, _, _, _, v', rfl, eH, cl _, na _, e1, hp1.ok hr1 _ r1⟩
      · exact hp1.elim
    · exact hp1.elim
  · exact hp1.elim
theorem putf_at {K : PySem.W.Frag} {F ρ : List Addr} {H : Hp} {fl : Nat} {w : W} {v : V} (inj : ∀ i, T.fld i = T.fld fl → i = fl) (rv : RW K F ρ H w v) {fs : List (Nat × W)} {vs : List (Str × V)} (r : Paired (fun p q => q.1 = T.fld p.1 ∧ RW K F ρ H p.2 q.2) fs vs) :
    Paired (fun p q => q.1 = T.fld p.1 ∧ RW K F ρ H p.2 q.2) (putf fl w fs) (putF (T.fld fl) v vs) := by
  induction r with
  | nil => exact .cons ⟨rfl, rv⟩ .nil
  | @cons a b l l2 x t ih =>
    obtain ⟨s, v'⟩ := b
    obtain ⟨i, w'⟩ := a
    obtain ⟨x1, x2⟩ := x
    simp only at x1 x2
    unfold putf putF
    by_cases hi : i = fl
    · subst hi
      rw [if_pos rfl, if_pos x1]
      exact .cons ⟨x1, rv⟩ t
    · rw [if_neg hi, if_neg (fun z => hi (inj i (x1.symm.trans z)))]
      exact .cons ⟨x1, x2⟩ ih
theorem putf_len (f : Nat) (w : W) (fs : List (Nat × W)) : (putf f w fs).length ≤ fs.length + 1 := by
  induction fs with
  | nil => simp [putf]
  | cons a r ih =>
    unfold putf
    split
    · simp
    · simp only [List.length_cons]; omega
end
end Fz
set_option Elab.async false
set_option linter.all false
set_option maxRecDepth 100000
set_option maxHeartbeats 2000000
/-! Fz: statements. -/
namespace Fz
open PySem L2 PyProof.Rows

inductive SR where
  | nx (e : Ev) (h : Hh) | rt (w : W) (h : Hh) | bk (e : Ev) (h : Hh) | ct (e : Ev) (h : Hh) | ex (c : Nat) (p : W) (e : Ev) (h : Hh) | no
abbrev Cs := Ev → Hh → SR
def SR.bind (m : SR) (f : Cs) : SR := match m with
  | .nx e h => f e h
  | m => m
@[simp] theorem SR.bind_nx {e h f} : (SR.nx e h).bind f = f e h := rfl
@[simp] theorem SR.bind_rt {w h f} : (SR.rt w h).bind f = .rt w h := rfl
@[simp] theorem SR.bind_bk {e h f} : (SR.bk e h).bind f = .bk e h := rfl
@[simp] theorem SR.bind_ct {e h f} : (SR.ct e h).bind f = .ct e h := rfl
@[simp] theorem SR.bind_ex {c p e h f} : (SR.ex c p e h).bind f = .ex c p e h := rfl
@[simp] theorem SR.bind_no {f} : SR.no.bind f = .no := rfl
def lift {α : Type} (m : R α) (e : Ev) (f : α → Hh → SR) : SR := match m with
  | .ok a h => f a h
  | .ex c p h => .ex c p e h
  | .no => .no
@[simp] theorem lift_ok {α : Type} {a : α} {h e f} : lift (.ok a h) e f = f a h := rfl
@[simp] theorem lift_ex {α : Type} {c p h e} {f : α → Hh → SR} : lift (.ex c p h) e f = .ex c p e h := rfl
@[simp] theorem lift_no {α : Type} {e} {f : α → Hh → SR} : lift .no e f = .no := rfl

section
variable (K : PySem.W.Frag) (T : Tb) (Wx : WX)
def Pss (F ρ : List Addr) (H : Hp) (m : SR) (D : Ends) : Prop := match m with
  | .nx e' ih' => ∀ ρ' H' σ', Grow F ρ H ρ' H' → HR K T F ρ' ih' H' → RE K F ρ' H' e' σ' → D.nx σ' H'
  | .rt w ih' => ∀ ρ' H' v, Grow F ρ H ρ' H' → HR K T F ρ' ih' H' → RW K F ρ' H' w v → D.rt v H'
  | .bk e' ih' => ∀ ρ' H' σ', Grow F ρ H ρ' H' → HR K T F ρ' ih' H' → RE K F ρ' H' e' σ' → D.bk σ' H'
  | .ct e' ih' => ∀ ρ' H' σ', Grow F ρ H ρ' H' → HR K T F ρ' ih' H' → RE K F ρ' H' e' σ' → D.ct σ' H'
  | .ex c p e' ih' => ∀ ρ' H' σ' cls dx, Grow F ρ H ρ' H' → HR K T F ρ' ih' H' → RE K F ρ' H' e' σ' → XR K T F ρ' H' c p cls dx → Wx cls dx σ' H'
  | .no => False
def sOf (c : Cs) : TS := fun D σ H => ∃ F ρ e ih, HR K T F ρ ih H ∧ RE K F ρ H e σ ∧ Pss K T Wx F ρ H (c e ih) D
end
def FS (X : Cx) (T : Tb) (Wx : WX) (st : Stmt) (c : Cs) : Prop := PS X st (sOf X.K T Wx c)
def FSs (X : Cx) (T : Tb) (Wx : WX) (st : List Stmt) (c : Cs) : Prop := PSs X st (sOf X.K T Wx c)
section
variable {K : PySem.W.Frag} {T : Tb} {Wx : WX} {σ : L2.St} {F ρ ρ1 : List Addr} {H H1 : Hp} {α β : Type} {D : Ends} {ih ih1 : Hh}
theorem Pss.from (g : Grow F ρ H ρ1 H1) (hr : HR K T F ρ1 ih1 H1) {m : SR} (h : Pss K T Wx F ρ H m D) : Pss K T Wx F ρ1 H1 m D := by
  cases m with
  | no => exact h
  | nx e' ih' => exact fun ρ' H' σ' g' => h ρ' H' σ' (g.trans hr g')
  | rt e' ih' => exact fun ρ' H' σ' g' => h ρ' H' σ' (g.trans hr g')
  | bk e' ih' => exact fun ρ' H' σ' g' => h ρ' H' σ' (g.trans hr g')
  | ct e' ih' => exact fun ρ' H' σ' g' => h ρ' H' σ' (g.trans hr g')
  | ex c p e' ih' => exact fun ρ' H' σ' cls dx g' => h ρ' H' σ' cls dx (g.trans hr g')
theorem Pss.lift {m : R α} {e : Ev} {f : α → Hh → SR} (hr : HR K T F ρ ih H) (re : RE K F ρ H e σ) (h : Pss K T Wx F ρ H (Fz.lift m e f) D) :
    Pst K T Wx σ F ρ H m fun ρ1 H1 ih1 a => Pss K T Wx F ρ1 H1 (f a ih1) D := by
  cases m with
  | no => exact h
  | ok a h1 => exact fun ρ1 H1 g1 hr1 => Pss.from g1 hr1 h
  | ex c p h1 => exact fun ρ1 H1 cls dx g1 hr1 x => h ρ1 H1 σ cls dx g1 hr1 (re.grow g1 hr) x
theorem Pss.nx {e : Ev} {ih : Hh} (h : Pss K T Wx F ρ H (.nx e ih) D) (hr : HR K T F ρ ih H) (re : RE K F ρ H e σ) : D.nx σ H := h ρ H σ Grow.refl hr re
theorem Pss.bind {m : SR} {f : Cs} (h : Pss K T Wx F ρ H (m.bind f) D) : Pss K T Wx F ρ H m { D with nx := sOf K T Wx f D } := by
  cases m with
  | no => exact h
  | nx e' ih' => exact fun ρ' H' σ' g' hr re => ⟨F, ρ', e', ih', hr, re, Pss.from g' hr h⟩
  | rt e' ih' => exact h
  | bk e' ih' => exact h
  | ct e' ih' => exact h
  | ex c p e' ih' => exact h
end
section
variable {X : Cx} {T : Tb} {Wx : WX} {st : Stmt} {sts : List Stmt} {e : Expr} {pos : Pos} {c : Cd} {cs cs' : Cs}
theorem PS.imp {t t' : TS} (h : PS X st t) (f : ∀ D σ H, t' D σ H → t D σ H) : PS X st t' := ⟨fun pins s σ H D I q => h.run pins s σ H D I (f _ _ _ q)⟩
theorem PSs.imp {t t' : TS} (h : PSs X sts t) (f : ∀ D σ H, t' D σ H → t D σ H) : PSs X sts t' := ⟨fun pins s σ H D I q => h.run pins s σ H D I (f _ _ _ q)⟩
def sNx : Cs := fun e h => .nx e h
def sSeq (a b : Cs) : Cs := fun e h => (a e h).bind b
theorem nx_at {D : Ends} {σ H} (q : sOf X.K T Wx sNx D σ H) : D.nx σ H := by
  obtain ⟨F, ρ, ev, ih, hr, re, hp⟩ := q
  exact Pss.nx hp hr re
theorem fss_nil : FSs X T Wx [] sNx := PSs.imp pss_nil fun D σ H q => nx_at q
theorem fss_cons (h : FS X T Wx st cs) (hs : FSs X T Wx sts cs') : FSs X T Wx (st :: sts) (sSeq cs cs') := PSs.imp (pss_cons h hs) fun D σ H q => by
  obtain ⟨F, ρ, ev, ih, hr, re, hp⟩ := q
  exact ⟨F, ρ, ev, ih, hr, re, hp.bind⟩
theorem fss_one (h : FS X T Wx st cs) : FSs X T Wx [st] cs := pss_one h
theorem fs_pass : FS X T Wx (.Pass pos) sNx := PS.imp ps_pass fun D σ H q => nx_at q
theorem fs_doc {x j pos'} : FS X T Wx (.Expr (.Constant (.str x) j pos) pos') sNx := PS.imp ps_doc fun D σ H q => nx_at q
def sBk : Cs := fun e h => .bk e h
def sCt : Cs := fun e h => .ct e h
theorem fs_break : FS X T Wx (.Break pos) sBk := PS.imp ps_break fun D σ H q => by
  obtain ⟨F, ρ, ev, ih, hr, re, hp⟩ := q
  exact hp _ _ _ Grow.refl hr re
theorem fs_continue : FS X T Wx (.Continue pos) sCt := PS.imp ps_continue fun D σ H q => by
  obtain ⟨F, ρ, ev, ih, hr, re, hp⟩ := q
  exact hp _ _ _ Grow.refl hr re
def sNo : Cs := fun _ _ => .no
theorem fs_never : FS X T Wx st sNo := PS.imp ps_never fun D σ H q => by
  obtain ⟨F, ρ, ev, ih, hr, re, hp⟩ := q
  exact hp.elim
def sExpr (c : Cd) : Cs := fun e h => lift (c e h) e fun _ h => .nx e h
theorem fs_expr (hs : swapsWith e none pos.line X.env = pure false) (h : FE X T Wx e c) : FS X T Wx (.Expr e pos) (sExpr c) := PS.imp (ps_expr h hs) fun D σ H q => by
  obtain ⟨F, ρ, ev, ih, hr, re, hp⟩ := q
  exact ⟨F, ρ, ev, ih, hr, re, (Pss.lift hr re hp).mono fun ρ1 H1 ih1 w g1 hr1 hp1 v r => Pss.nx hp1 hr1 (re.grow g1 hr)⟩
def sRet (c : Cd) : Cs := fun e h => lift (c e h) e fun w h => .rt w h
theorem fs_ret (h : FE X T Wx e c) : FS X T Wx (.Return (some e) pos) (sRet c) := PS.imp (ps_ret h) fun D σ H q => by
  obtain ⟨F, ρ, ev, ih, hr, re, hp⟩ := q
  exact ⟨F, ρ, ev, ih, hr, re, (Pss.lift hr re hp).mono fun ρ1 H1 ih1 w g1 hr1 hp1 v r => hp1 _ _ _ Grow.refl hr1 r⟩
def sRetN : Cs := fun _ h => .rt (.d .non) h
theorem fs_retN : FS X T Wx (.Return none pos) sRetN := PS.imp ps_retN fun D σ H q => by
  obtain ⟨F, ρ, ev, ih, hr, re, hp⟩ := q
  exact hp _ _ _ Grow.refl hr (.d .non)
def sIf (t : Cb) (a b : Cs) : Cs := fun e h => lift (t e h) e fun k h => if k then a e h else b e h
theorem fs_if {t : Expr} {a b : List Stmt} {ct : Cb} {ca cb : Cs} (ht : FT' X T Wx t ct) (ha : FSs X T Wx a ca) (hb : FSs X T Wx b cb) : FS X T Wx (.If t a b pos) (sIf ct ca cb) := PS.imp (ps_if ht ha hb) fun D σ H q => by
  obtain ⟨F, ρ, ev, ih, hr, re, hp⟩ := q
  refine ⟨F, ρ, ev, ih, hr, re, (Pss.lift hr re hp).mono fun ρ1 H1 ih1 k g1 hr1 hp1 => ?_⟩
  have re1 := re.grow g1 hr
  cases k with
  | true => exact iteT ⟨F, ρ1, ev, ih1, hr1, re1, hp1⟩
  | false => exact iteF ⟨F, ρ1, ev, ih1, hr1, re1, hp1⟩

/-! ### targets -/
abbrev Ct := W → Ev → Hh → Option Ev
abbrev Cts := List W → Ev → Hh → Option Ev
/-- only the slots vs may differ -/
def Mod (vs : List Nat) (σ σ' : L2.St) : Prop := σ'.length = σ.length ∧ ∀ j, j ∉ vs → σ'[j]? = σ[j]?
theorem Mod.refl {vs σ} : Mod vs σ σ := ⟨rfl, fun _ _ => rfl⟩
theorem Mod.trans {vs σ σ1 σ2} (a : Mod vs σ σ1) (b : Mod vs σ1 σ2) : Mod vs σ σ2 := ⟨b.1.trans a.1, fun j h => (b.2 j h).trans (a.2 j h)⟩
theorem Mod.mono {vs vs' σ σ1} (a : Mod vs σ σ1) (h : ∀ j, j ∈ vs → j ∈ vs') : Mod vs' σ σ1 := ⟨a.1, fun j n => a.2 j fun m => n (h j m)⟩
theorem Mod.set {σ : L2.St} {i : Nat} {v : Option V} : Mod [i] σ (σ.set i v) := ⟨by simp, fun j h => by rw [List.getElem?_set_ne (fun e => h (by simp [e]))]⟩
def gOf (K : PySem.W.Frag) (T : Tb) (vs : List Nat) (c : Ct) : TG := fun v σ H Q => ∃ F ρ e ih w e', HR K T F ρ ih H ∧ RE K F ρ H e σ ∧ RW K F ρ H w v ∧ c w e ih = some e' ∧ ∀ σ', RE K F ρ H e' σ' → Mod vs σ σ' → Q σ' H
def gsOf (K : PySem.W.Frag) (T : Tb) (is : List Nat) (c : Cts) : TGs := fun vs σ H Q => ∃ F ρ e ih ws e', HR K T F ρ ih H ∧ RE K F ρ H e σ ∧ RWs K F ρ H ws vs ∧ c ws e ih = some e' ∧ ∀ σ', RE K F ρ H e' σ' → Mod is σ σ' → Q σ' H
def FG (X : Cx) (T : Tb) (tg : Expr) (vs : List Nat) (c : Ct) : Prop := PG X tg (gOf X.K T vs c)
def FGs (X : Cx) (T : Tb) (tg : List Expr) (vs : List Nat) (c : Cts) : Prop := PGs X tg (gsOf X.K T vs c)
theorem PG.imp {tg : Expr} {t t' : TG} (h : PG X tg t) (f : ∀ v σ H Q, t' v σ H Q → t v σ H Q) : PG X tg t' := ⟨fun pins s σ H v u Q I r q => h.run pins s σ H v u Q I r (f _ _ _ _ q)⟩
theorem PGs.imp {tg : List Expr} {t t' : TGs} (h : PGs X tg t) (f : ∀ v σ H Q, t' v σ H Q → t v σ H Q) : PGs X tg t' := ⟨fun pins s σ H v u Q I r q => h.run pins s σ H v u Q I r (f _ _ _ _ q)⟩
def tN (i : Nat) : Ct := fun w e _ => some (e.set i (some w))
theorem RE.set {K F ρ H e σ} (r : RE K F ρ H e σ) (i : Nat) {w : W} {v : V} (rv : RW K F ρ H w v) : RE K F ρ H (e.set i (some w)) (σ.set i (some v)) := by
  refine ⟨by simp [r.1], fun j w' q => ?_⟩
  by_cases hj : i = j
  · subst hj
    by_cases hl : i < e.length
    · rw [List.getElem?_set_self hl] at q
      cases q
      exact ⟨v, by rw [List.getElem?_set_self (by rw [← r.1]; exact hl)], rv⟩
    · rw [List.getElem?_eq_none (by simpa using hl)] at q
      cases q
  · rw [List.getElem?_set_ne hj] at q
    obtain ⟨v', e1, r1⟩ := r.2 j w' q
    exact ⟨v', by rw [List.getElem?_set_ne hj]; exact e1, r1⟩
theorem fg_n {i : Nat} {x : Str} (h : PG X (.Name x pos) (gName i)) : FG X T (.Name x pos) [i] (tN i) := PG.imp h fun v σ H Q q => by
  obtain ⟨F, ρ, e, ih, w, e', hr, re, r, he, hq⟩ := q
  cases he
  exact hq _ (re.set i r) Mod.set
def tNil : Cts := fun ws e _ => match ws with
  | [] => some e
  | _ => none
def tCns (a : Ct) (b : Cts) : Cts := fun ws e h => match ws with
  | [] => none
  | w :: r => (a w e h).bind fun e => b r e h
theorem fgs_nil : FGs X T [] [] Fz.tNil := PGs.imp pgs_nil fun vs σ H Q q => by
  obtain ⟨F, ρ, e, ih, ws, e', hr, re, r, he, hq⟩ := q
  unfold Fz.tNil at he
  split at he
  · cases he
    cases r
    exact ⟨rfl, hq _ re Mod.refl⟩
  · cases he
theorem fgs_cons {tg : Expr} {tgs : List Expr} {is js : List Nat} {ca : Ct} {cb : Cts} (hs : (assignEach (tg :: tgs) X.env).map (·.2) = assign tg X.env :: (assignEach tgs X.env).map (·.2)) (h1 : FG X T tg is ca) (h2 : FGs X T tgs js cb) : FGs X T (tg :: tgs) (is ++ js) (tCns ca cb) :=
  PGs.imp (pgs_cons h1 h2 hs) fun vs σ H Q q => by
    obtain ⟨F, ρ, e, ih, ws, e', hr, re, r, he, hq⟩ := q
    unfold tCns at he
    split at he
    · cases he
    · rename_i w ws'
      cases r with
      | cons rv rs =>
        rw [Option.bind_eq_some_iff] at he
        obtain ⟨e1, q1, q2⟩ := he
        exact ⟨_, _, rfl, F, ρ, e, ih, w, e1, hr, re, rv, q1, fun σ1 re1 m1 => ⟨F, ρ, e1, ih, ws', e', hr, re1, rs, q2, fun σ2 re2 m2 => hq σ2 re2 ((m1.mono fun j m => List.mem_append_left _ m).trans (m2.mono fun j m => List.mem_append_right _ m))⟩⟩
def tTp (c : Cts) : Ct := fun w e h => match w with
  | .d (.tup l) => c (l.map .d) e h
  | _ => none
/-- a tuple's target: it asks just so many -/
structure Len (c : Cts) (n : Nat) : Prop where
  len : ∀ ws e h e', c ws e h = some e' → ws.length = n
theorem len_nil : Len Fz.tNil 0 := ⟨fun ws e h e' q => by unfold Fz.tNil at q; split at q <;> simp_all⟩
theorem len_cns {a : Ct} {b : Cts} {n : Nat} (h : Len b n) : Len (tCns a b) (n + 1) := ⟨fun ws e h' e' q => by
  unfold tCns at q
  split at q
  · cases q
  · rw [Option.bind_eq_some_iff] at q
    obtain ⟨e1, q1, q2⟩ := q
    simp [h.len _ _ _ _ q2]⟩
theorem fg_t {tgs : List Expr} {k n : Nat} {is : List Nat} {cb : Cts} (hc : X.calm = true) (ln : Len cb n) (hn : (assignEach tgs X.env).length = n) (hst : (assignEach tgs X.env).findIdx? (·.1) = none) (h : FGs X T tgs is cb) : FG X T (.Tuple tgs k pos) is (tTp cb) :=
  PG.imp (pg_tup hc h hn hst) fun v σ H Q q => by
    obtain ⟨F, ρ, e, ih, w, e', hr, re, r, he, hq⟩ := q
    unfold tTp at he
    split at he
    · rename_i l
      cases r with | d r => cases r with | tup t z rl =>
        have hl := ln.len _ _ _ _ he
        refine ⟨_, _, rfl, t.sq, by rw [← rl.rws.length]; exact hl, F, ρ, e, ih, _, e', hr, re, rl.rws, he, hq⟩
    · cases he
/-! ### assignments -/
def sAsg (c : Cd) (t : Ct) : Cs := fun e h => lift (c e h) e fun w h => match t w e h with
  | some e' => .nx e' h
  | none => .no
theorem asg_at {D : Ends} {t : Ct} {F ρ : List Addr} {H : Hp} {e : Ev} {ih : Hh} {w : W} {v : V} {σ : L2.St} (hr : HR X.K T F ρ ih H) (re : RE X.K F ρ H e σ) (r : RW X.K F ρ H w v)
    (hp : Pss X.K T Wx F ρ H (match t w e ih with
      | some e' => .nx e' ih
      | none => .no) D) {vs : List Nat} : gOf X.K T vs t v σ H D.nx := by
  cases q : t w e ih with
  | none => rw [q] at hp; exact hp.elim
  | some e' =>
    rw [q] at hp
    exact ⟨F, ρ, e, ih, w, e', hr, re, r, q, fun σ' re' _ => Pss.nx hp hr re'⟩
theorem fs_asg {tg : Expr} {is : List Nat} {t : Ct} (hs : swapsWithSole [tg] e pos.line X.env = pure false) (hw : swappedStores [tg] e X.env = pure none) (h1 : (assignEach [tg] X.env).map (·.2) = [assign tg X.env]) (he : FE X T Wx e c) (hg : FG X T tg is t) :
    FS X T Wx (.Assign [tg] e pos) (sAsg c t) := PS.imp (ps_asg he hg hs hw h1) fun D σ H q => by
  obtain ⟨F, ρ, ev, ih, hr, re, hp⟩ := q
  exact ⟨F, ρ, ev, ih, hr, re, (Pss.lift hr re hp).mono fun ρ1 H1 ih1 w g1 hr1 hp1 v r => asg_at hr1 (re.grow g1 hr) r hp1⟩
theorem fs_set {i : Nat} {x : Str} {pos' : Pos} (h : ∀ te, PE X e te → PS X (.Assign [.Name x pos'] e pos) (tAsg te (gName i))) (he : FE X T Wx e c) : FS X T Wx (.Assign [.Name x pos'] e pos) (sAsg c (tN i)) := PS.imp (h _ he) fun D σ H q => by
  obtain ⟨F, ρ, ev, ih, hr, re, hp⟩ := q
  refine ⟨F, ρ, ev, ih, hr, re, (Pss.lift hr re hp).mono fun ρ1 H1 ih1 w g1 hr1 hp1 v r => ?_⟩
  exact Pss.nx hp1 hr1 ((re.grow g1 hr).set i r)
/-- a, b, .. = x, y, .. -/
def sPar (a : Ca) (t : Cts) : Cs := fun e h => lift (a e h) e fun ws h => match t ws e h with
  | some e' => .nx e' h
  | none => .no
theorem fs_par {es tgs : List Expr} {is : List Nat} {k1 k2 : Nat} {p1 p2 : Pos} {ca : Ca} {cb : Cts} {n : Nat} (hc : X.calm = true) (ln : Len cb n) (hn : (assignEach tgs X.env).length = n) (hst : (assignEach tgs X.env).findIdx? (·.1) = none) (hz : n ≤ sizeLine)
    (hs : swapsWithSole [.Tuple tgs k1 p1] (.Tuple es k2 p2) pos.line X.env = pure false) (hw : swappedStores [.Tuple tgs k1 p1] (.Tuple es k2 p2) X.env = pure none)
    (h1 : (assignEach [.Tuple tgs k1 p1] X.env).map (·.2) = [assign (.Tuple tgs k1 p1) X.env]) (ha : FA X T Wx es ca) (hg : FGs X T tgs is cb) : FS X T Wx (.Assign [.Tuple tgs k1 p1] (.Tuple es k2 p2) pos) (sPar ca cb) :=
  PS.imp (ps_asg (pe_tup ha) (pg_tup hc hg hn hst) hs hw h1) fun D σ H q => by
    obtain ⟨F, ρ, ev, ih, hr, re, hp⟩ := q
    refine ⟨F, ρ, ev, ih, hr, re, (Pss.lift hr re hp).mono fun ρ1 H1 ih1 ws g1 hr1 hp1 vs rs => ?_⟩
    have re1 := re.grow g1 hr
    cases q : cb ws ev ih1 with
    | none => rw [q] at hp1; exact hp1.elim
    | some e' =>
      rw [q] at hp1
      have hl := ln.len _ _ _ _ q
      refine ⟨by rw [← rs.length, hl]; exact hz, fun p np => ⟨p, vs, rfl, .inl (.inl upd_same), by rw [← rs.length]; exact hl, ?_⟩⟩
      have gn : Grow F ρ1 H1 ρ1 (upd H1 p (.tup vs)) := grow_new np
      exact ⟨F, ρ1, ev, ih1, ws, e', hr1.new np, re1.grow gn hr1, RWs.grow gn hr1 rs, q, fun σ' re' _ => hp1 _ _ _ gn (hr1.new np) re'⟩
theorem fs_par2 {es tgs : List Expr} {k1 k2 : Nat} {p1 p2 : Pos} {ca : Ca} {i j : Nat} (h : ∀ ta, PA X es ta → PS X (.Assign [.Tuple tgs k1 p1] (.Tuple es k2 p2) pos) (tPar i j ta)) (ha : FA X T Wx es ca) :
    FS X T Wx (.Assign [.Tuple tgs k1 p1] (.Tuple es k2 p2) pos) (sPar ca (tCns (tN i) (tCns (tN j) Fz.tNil))) := PS.imp (h _ ha) fun D σ H q => by
  obtain ⟨F, ρ, ev, ih, hr, re, hp⟩ := q
  refine ⟨F, ρ, ev, ih, hr, re, (Pss.lift hr re hp).mono fun ρ1 H1 ih1 ws g1 hr1 hp1 vs rs => ?_⟩
  have re1 := re.grow g1 hr
  match ws, vs, rs, hp1 with
  | [a, b], [v, w], .cons r1 (.cons r2 .nil), hp1 => exact ⟨v, w, rfl, Pss.nx hp1 hr1 ((re1.set i r1).set j r2)⟩
  | [], _, _, hp1 => exact hp1.elim
  | [a], _, _, hp1 => exact hp1.elim
  | _ :: _ :: _ :: _, _, _, hp1 => exact hp1.elim
theorem fs_par3 {es tgs : List Expr} {k1 k2 : Nat} {p1 p2 : Pos} {ca : Ca} {i j l : Nat} (h : ∀ ta, PA X es ta → PS X (.Assign [.Tuple tgs k1 p1] (.Tuple es k2 p2) pos) (tPar3 i j l ta)) (ha : FA X T Wx es ca) :
    FS X T Wx (.Assign [.Tuple tgs k1 p1] (.Tuple es k2 p2) pos) (sPar ca (tCns (tN i) (tCns (tN j) (tCns (tN l) Fz.tNil)))) := PS.imp (h _ ha) fun D σ H q => by
  obtain ⟨F, ρ, ev, ih, hr, re, hp⟩ := q
  refine ⟨F, ρ, ev, ih, hr, re, (Pss.lift hr re hp).mono fun ρ1 H1 ih1 ws g1 hr1 hp1 vs rs => ?_⟩
  have re1 := re.grow g1 hr
  match ws, vs, rs, hp1 with
  | [a, b, c], [u, v, w], .cons r1 (.cons r2 (.cons r3 .nil)), hp1 => exact ⟨u, v, w, rfl, Pss.nx hp1 hr1 (((re1.set i r1).set j r2).set l r3)⟩
  | [], _, _, hp1 => exact hp1.elim
  | [a], _, _, hp1 => exact hp1.elim
  | [a, b], _, _, hp1 => exact hp1.elim
  | _ :: _ :: _ :: _ :: _, _, _, hp1 => exact hp1.elim
/-- x op= e -/
def sAug (i : Nat) (op : W → W → Hh → R W) (c : Cd) : Cs := fun e h => match e[i]? with
  | some (some x) => lift ((c e h).bind fun y h => op x y h) e fun w h => .nx (e.set i (some w)) h
  | _ => .no
theorem fs_aug {i : Nat} {x : Str} {o : Operator} {ti : TIp} {op : W → W → Hh → R W} {pos' : Pos} (hf : FOp X.K T op ti) (h : ∀ te, PE X e te → PS X (.AugAssign (.Name x pos') o e pos) (tAug i te ti)) (he : FE X T Wx e c) :
    FS X T Wx (.AugAssign (.Name x pos') o e pos) (sAug i op c) := PS.imp (h _ he) fun D σ H q => by
  obtain ⟨F, ρ, ev, ih, hr, re, hp⟩ := q
  unfold sAug at hp
  split at hp
  · rename_i x hx
    obtain ⟨v, e1, r1⟩ := re.2 i x hx
    refine ⟨v, e1, F, ρ, ev, ih, hr, re, ((Pss.lift hr re hp).bind).mono fun ρ1 H1 ih1 y g1 hr1 hp1 u r2 => ?_⟩
    have re1 := re.grow g1 hr
    exact hf Wx σ F ρ1 ih1 H1 x y v u _ hr1 (r1.grow g1 hr) r2 (hp1.mono fun ρ2 H2 ih2 w g2 hr2 hp2 v' r' => Pss.nx hp2 hr2 ((re1.grow g2 hr1).set i r'))
  · exact hp.elim
/-- o.f = e -/
def putF' (x : W) (f : Nat) (w : W) (h : Hh) : Option Hh := match x with
  | .r i => match h[i]? with
    | some (.ins c fs) => if fs.length < 800 then some (h.set i (.ins c (putf f w fs))) else none
    | _ => none
  | _ => none
def sFld (f : Nat) (o c : Cd) : Cs := fun e h => lift (c e h) e fun w h => lift (o e h) e fun x h => match putF' x f w h with
  | some h' => .nx e h'
  | none => .no
theorem putF_at {F ρ : List Addr} {H : Hp} {ih ih' : Hh} {x w : W} {v u : V} {fl : Nat} (inj : ∀ i, T.fld i = T.fld fl → i = fl) (hr : HR X.K T F ρ ih H) (rx : RW X.K F ρ H x v) (rw : RW X.K F ρ H w u) (e : putF' x fl w ih = some ih') :
    ∃ a c dx fs, v = .ref a ∧ H a = some (.ins (T.cad c) dx fs) ∧ fs.length < 1000 ∧ a ∈ ρ ∧ HR X.K T F ρ ih' (upd H a (.ins (T.cad c) dx (putF (T.fld fl) u fs))) := by
  unfold putF' at e
  split at e
  · rename_i i
    split at e
    · rename_i c fs ho
      split at e
      · rename_i hl
        cases e
        cases rx with
        | r ei =>
          obtain ⟨o, eH, ro⟩ := hr.at ei ho
          cases ro with
          | ins rs z =>
            have m := List.mem_of_getElem? ei
            refine ⟨_, _, _, _, rfl, eH, by rw [← Paired.length rs]; omega, m, hr.set ei (.ins (putf_at inj (rw.grow (grow_set m) hr) (Paired.mapP rs fun _ _ y => ⟨y.1, y.2.grow (grow_set m) hr⟩)) ?_)⟩
            exact Nat.lt_of_le_of_lt (putf_len _ _ _) (by omega)
      · cases e
    · cases e
  · cases e
theorem fs_fld {o : Expr} {co : Cd} {fl : Nat} {f : Str} {pos' : Pos} (hf : T.fld fl = f) (inj : ∀ i, T.fld i = T.fld fl → i = fl) (cl : ∀ c, Cls X.K (T.cad c)) (na : ∀ c, NoAttr X.K (T.cad c) f) (hs : swapsWith e (some (.Attribute o f pos')) pos.line X.env = pure false)
    (ho : FE X T Wx o co) (he : FE X T Wx e c) : FS X T Wx (.Assign [.Attribute o f pos'] e pos) (Fz.sFld fl co c) := PS.imp (ps_fld ho he hs) fun D σ H q => by
  subst hf
  obtain ⟨F, ρ, ev, ih, hr, re, hp⟩ := q
  refine ⟨F, ρ, ev, ih, hr, re, (Pss.lift hr re hp).mono fun ρ1 H1 ih1 w g1 hr1 hp1 u r1 => ?_⟩
  have re1 := re.grow g1 hr
  refine ⟨F, ρ1, ev, ih1, hr1, re1, (Pss.lift hr1 re1 hp1).mono fun ρ2 H2 ih2 x g2 hr2 hp2 v r2 => ?_⟩
  split at hp2
  · rename_i h' q
    obtain ⟨a, c', dx, fs, rfl, eH, hl, m, hr3⟩ := putF_at inj hr2 r2 (r1.grow g2 hr1) q
    exact ⟨_, _, _, _, rfl, eH, cl _, na _, hl, hp2 _ _ _ (grow_set m) hr3 ((re1.grow g2 hr1).grow (grow_set m) hr2)⟩
  · exact hp2.elim
end
end Fz
set_option Elab.async false
set_option linter.all false
set_option maxRecDepth 100000
set_option maxHeartbeats 2000000
/-! Fz: what is walked, for and while. -/
namespace Fz
open PySem L2 PyProof.Rows

/-- an item: a value, or a new tuple of values -/
inductive Y where
  | w (x : W) | t (l : List W)
inductive YR (K : PySem.W.Frag) (F ρ : List Addr) (H : Hp) : Y → V → Prop
  | w {x : W} {v : V} : RW K F ρ H x v → YR K F ρ H (.w x) v
  | t {l : List W} {p : Addr} {vs : List V} : H p = some (.tup vs) → p ∉ F ++ ρ → RWs K F ρ H l vs → YR K F ρ H (.t l) (.ref p)
/-- what is walked: its items as they stand in a heap -/
abbrev Src := Hh → Option (List Y)
/-- what stood stands, other things may have become foreign -/
structure Ext (F ρ : List Addr) (H : Hp) (F' ρ' : List Addr) (H' : Hp) : Prop where
  more : ∃ m, ρ' = ρ ++ m
  k : Keep (F ++ ρ) H (F' ++ ρ') H'
theorem Ext.get {F ρ H F' ρ' H'} (g : Ext F ρ H F' ρ' H') {n : Nat} {a : Addr} (h : ρ[n]? = some a) : ρ'[n]? = some a := by
  obtain ⟨m, rfl⟩ := g.more
  rw [List.getElem?_append_left (List.getElem?_eq_some_iff.mp h).1]
  exact h
theorem Grow.ext {K T F ρ H ρ' H' ih} (g : Grow F ρ H ρ' H') (h : HR K T F ρ ih H) : Ext F ρ H F ρ' H' := ⟨g.more, g.keepM h⟩
structure Good (K : PySem.W.Frag) (T : Tb) (J : It) (src : Src) (F ρ : List Addr) (H : Hp) : Prop where
  goes : ∀ F' ρ' H' ih' l i y, Ext F ρ H F' ρ' H' → HR K T F' ρ' ih' H' → src ih' = some l → l[i]? = some y → J.go i H' ∧ ∀ x H'', J.yld i H' x H'' → Grow F' ρ' H' ρ' H'' ∧ HR K T F' ρ' ih' H'' ∧ YR K F' ρ' H'' y x
  stops : ∀ F' ρ' H' ih' l i, Ext F ρ H F' ρ' H' → HR K T F' ρ' ih' H' → src ih' = some l → l.length ≤ i → J.stop i H'
abbrev Ci := Ev → Hh → R Src
def iOf (K : PySem.W.Frag) (T : Tb) (Wx : WX) (c : Ci) : TI := fun σ H R => ∃ F ρ e ih, HR K T F ρ ih H ∧ RE K F ρ H e σ ∧ Pst K T Wx σ F ρ H (c e ih) fun ρ' H' _ src => ∀ J, Good K T J src F ρ' H' → R J H'
def FI (X : Cx) (T : Tb) (Wx : WX) (tg iter : Expr) (c : Ci) : Prop := PI X tg iter (iOf X.K T Wx c)
section
variable {X : Cx} {T : Tb} {Wx : WX} {tg iter e : Expr} {pos : Pos} {c : Cd}
theorem PI.imp {t t' : TI} (h : PI X tg iter t) (f : ∀ σ H Q, t' σ H Q → t σ H Q) : PI X tg iter t' := ⟨fun pins s σ H R I q => h.run pins s σ H R I (f _ _ _ q)⟩
theorem pi_or {t t' : TI} (h : PI X tg iter t) (h' : PI X tg iter t') : PI X tg iter fun σ H Q => t σ H Q ∨ t' σ H Q := ⟨fun pins s σ H R I q => q.elim (h.run pins s σ H R I) (h'.run pins s σ H R I)⟩
def fixS (l : List Y) : Src := fun _ => some l
def refS (n : Nat) : Src := fun h => match h[n]? with
  | some (.lst l) => some (l.map .w)
  | _ => none
/-- the items of a value -/
def srcOf (w : W) (h : Hh) : R Src := match w with
  | .d (.lst l) => .ok (fixS (l.map fun x => .w (.d x))) h
  | .d (.tup l) => .ok (fixS (l.map fun x => .w (.d x))) h
  | .d (.str l) => .ok (fixS (l.map fun x => .w (.d (.str [x])))) h
  | .r n => match h[n]? with
    | some (.lst _) => .ok (refS n) h
    | _ => .no
  | _ => .no
def cIt (c : Cd) : Ci := fun e h => (c e h).bind srcOf
theorem Rd.lst_inj {H : Hp} {a : Addr} {xs ys : List V} (h : Rd H a (.lst xs)) (h' : Rd H a (.lst ys)) : xs = ys := by
  rcases h with h | ⟨o, h⟩ <;> rcases h' with h' | ⟨o', h'⟩ <;> rw [h] at h' <;> cases h' <;> rfl
theorem Rd.tup_inj {H : Hp} {a : Addr} {xs ys : List V} (h : Rd H a (.tup xs)) (h' : Rd H a (.tup ys)) : xs = ys := by
  rcases h with h | ⟨o, h⟩ <;> rcases h' with h' | ⟨o', h'⟩ <;> rw [h] at h' <;> cases h' <;> rfl
theorem RpL.get {K M H} {a : List D} {vs : List V} (h : RpL K M H a vs) : ∀ {n : Nat} {x : D}, a[n]? = some x → ∃ v, vs[n]? = some v ∧ Rp K M H x v := by
  intro n
  induction n generalizing a vs with
  | zero => intro x e; cases h with
    | nil => simp at e
    | cons r t => simp at e; subst e; exact ⟨_, rfl, r⟩
  | succ n ih => intro x e; cases h with
    | nil => simp at e
    | cons r t => simp at e; obtain ⟨v, e1, r1⟩ := ih t e; exact ⟨v, by simpa using e1, r1⟩
theorem good_lst {K : PySem.W.Frag} {F ρ : List Addr} {H : Hp} {ih : Hh} {ds : List D} {a : Addr} {vs : List V} (hr : HR K T F ρ ih H) (h : FL K (F ++ ρ) H a vs) (rl : RpL K (F ++ ρ) H ds vs) : Good K T (Itl K a) (fixS (ds.map fun x => .w (.d x))) F ρ H where
  goes := fun F' ρ' H' ih' l i y g hr' e hy => by
    cases e
    have h' := h.keep g.k
    have rl' := rl.keep g.k
    rw [List.getElem?_map, Option.map_eq_some_iff] at hy
    obtain ⟨x, hx, rfl⟩ := hy
    obtain ⟨v, e1, r1⟩ := rl'.get hx
    refine ⟨⟨_, _, h'.sq, e1⟩, fun u H'' q => ?_⟩
    obtain ⟨rfl, q2⟩ := q
    have := q2 _ h'.sq
    rw [e1] at this
    cases this
    exact ⟨Grow.refl, hr', .w (.d r1)⟩
  stops := fun F' ρ' H' ih' l i g hr' e hl => by
    cases e
    exact ⟨_, (h.keep g.k).sq, by rw [← rl.length]; simpa using hl⟩
theorem good_tup {K : PySem.W.Frag} {F ρ : List Addr} {H : Hp} {ih : Hh} {ds : List D} {a : Addr} {vs : List V} (hr : HR K T F ρ ih H) (h : FT K (F ++ ρ) H a vs) (rl : RpL K (F ++ ρ) H ds vs) : Good K T (Itt K a) (fixS (ds.map fun x => .w (.d x))) F ρ H where
  goes := fun F' ρ' H' ih' l i y g hr' e hy => by
    cases e
    have h' := h.keep g.k
    have rl' := rl.keep g.k
    rw [List.getElem?_map, Option.map_eq_some_iff] at hy
    obtain ⟨x, hx, rfl⟩ := hy
    obtain ⟨v, e1, r1⟩ := rl'.get hx
    refine ⟨⟨_, _, h'.sq, e1⟩, fun u H'' q => ?_⟩
    obtain ⟨rfl, q2⟩ := q
    have := q2 _ h'.sq
    rw [e1] at this
    cases this
    exact ⟨Grow.refl, hr', .w (.d r1)⟩
  stops := fun F' ρ' H' ih' l i g hr' e hl => by
    cases e
    exact ⟨_, (h.keep g.k).sq, by rw [← rl.length]; simpa using hl⟩
theorem refS_at {n : Nat} {h : Hh} {l : List Y} (e : refS n h = some l) : ∃ ws, h[n]? = some (.lst ws) ∧ l = ws.map .w := by
  unfold refS at e
  split at e
  · cases e; exact ⟨_, by assumption, rfl⟩
  · cases e
theorem good_ref {K : PySem.W.Frag} {F ρ : List Addr} {H : Hp} {n : Nat} {a : Addr} (hn : ρ[n]? = some a) : Good K T (Itl K a) (refS n) F ρ H where
  goes := fun F' ρ' H' ih' l i y g hr' e hy => by
    obtain ⟨ws, ho, rfl⟩ := refS_at e
    obtain ⟨u, eH, ro⟩ := hr'.at (g.get hn) ho
    cases ro with
    | lst z rs =>
      rw [List.getElem?_map, Option.map_eq_some_iff] at hy
      obtain ⟨x, hx, rfl⟩ := hy
      obtain ⟨v, e1, r1⟩ := rs.get hx
      refine ⟨⟨_, _, .inl (.inl eH), e1⟩, fun u H'' q => ?_⟩
      obtain ⟨rfl, q2⟩ := q
      have := q2 _ (.inl (.inl eH))
      rw [e1] at this
      cases this
      exact ⟨Grow.refl, hr', .w r1⟩
  stops := fun F' ρ' H' ih' l i g hr' e hl => by
    obtain ⟨ws, ho, rfl⟩ := refS_at e
    obtain ⟨u, eH, ro⟩ := hr'.at (g.get hn) ho
    cases ro with
    | lst z rs => exact ⟨_, .inl (.inl eH), by rw [← rs.length]; simpa using hl⟩
theorem good_str {K : PySem.W.Frag} {F ρ : List Addr} {H : Hp} (z : List Nat) : Good K T (Its (toStr z)) (fixS (z.map fun x => .w (.d (.str [x])))) F ρ H where
  goes := fun F' ρ' H' ih' l i y g hr' e hy => by
    cases e
    rw [List.getElem?_map, Option.map_eq_some_iff] at hy
    obtain ⟨x, hx, rfl⟩ := hy
    refine ⟨by show i < (toStr z).cps.size; have := (List.getElem?_eq_some_iff.mp hx).1; simpa [toStr] using this, fun u H'' q => ?_⟩
    obtain ⟨rfl, ch, q2, rfl⟩ := q
    have q3 : z[i]? = some ch := by simpa [toStr] using q2
    rw [hx] at q3
    cases q3
    exact ⟨Grow.refl, hr', .w (.d (.str [x] (by show 1 ≤ sizeLine; decide)))⟩
  stops := fun F' ρ' H' ih' l i g hr' e hl => by
    cases e
    show (toStr z).cps.size ≤ i
    simpa [toStr] using hl
theorem fi_it (h : FE X T Wx e c) : FI X T Wx tg e (cIt c) := PI.imp (pi_or (pi_list h) (pi_or (pi_tup h) (pi_str h))) fun σ H R q => by
  obtain ⟨F, ρ, ev, ih, hr, re, hp⟩ := q
  unfold cIt at hp
  have hp' := hp.bind
  cases q : c ev ih with
  | no => rw [q] at hp'; exact hp'.elim
  | ex a b d =>
    refine .inl ⟨F, ρ, ev, ih, hr, re, ?_⟩
    rw [q] at hp' ⊢
    exact hp'
  | ok w h1 =>
    rw [q] at hp'
    have key : ∀ ρ1 H1, Grow F ρ H ρ1 H1 → HR X.K T F ρ1 h1 H1 → Pst X.K T Wx σ F ρ1 H1 (srcOf w h1) fun ρ' H' _ src => ∀ J, Good X.K T J src F ρ' H' → R J H' := hp'
    cases w with
    | r n =>
      refine .inl ⟨F, ρ, ev, ih, hr, re, ?_⟩
      rw [q]
      intro ρ1 H1 g1 hr1 v r
      have hp1 := key ρ1 H1 g1 hr1
      unfold srcOf at hp1
      dsimp only at hp1
      split at hp1
      · rename_i l ho
        cases r with
        | r hn =>
          obtain ⟨u, eH, ro⟩ := hr1.at hn ho
          cases ro with
          | lst z rs => exact ⟨_, rfl, ⟨_, .inl (.inl eH)⟩, hp1.ok hr1 _ (good_ref hn)⟩
      · exact hp1.elim
    | d x =>
      cases x with
      | tup l =>
        refine .inr (.inl ⟨F, ρ, ev, ih, hr, re, ?_⟩)
        rw [q]
        intro ρ1 H1 g1 hr1 v r
        cases r with | d r => cases r with | tup t z rl =>
          exact ⟨_, rfl, ⟨_, t.sq⟩, (key ρ1 H1 g1 hr1).ok hr1 _ (good_tup hr1 t rl)⟩
      | lst l =>
        refine .inl ⟨F, ρ, ev, ih, hr, re, ?_⟩
        rw [q]
        intro ρ1 H1 g1 hr1 v r
        cases r with | d r => cases r with | lst t z rl =>
          exact ⟨_, rfl, ⟨_, t.sq⟩, (key ρ1 H1 g1 hr1).ok hr1 _ (good_lst hr1 t rl)⟩
      | str l =>
        refine .inr (.inr ⟨F, ρ, ev, ih, hr, re, ?_⟩)
        rw [q]
        intro ρ1 H1 g1 hr1 v r
        cases r with | d r => cases r with | str _ z =>
          exact ⟨_, rfl, (key ρ1 H1 g1 hr1).ok hr1 _ (good_str l)⟩
      | _ =>
        refine .inl ⟨F, ρ, ev, ih, hr, re, ?_⟩
        rw [q]
        intro ρ1 H1 g1 hr1 v r
        exact (key ρ1 H1 g1 hr1).elim

/-! ### range -/
def rngS (lo hi : Int) : Src := fixS ((List.range (hi - lo).toNat).map fun i => .w (.d (.int (lo + (i : Nat)))))
theorem good_rng {K : PySem.W.Frag} {F ρ : List Addr} {H : Hp} (lo hi : Int) : Good K T (Itr lo (hi - lo).toNat) (rngS lo hi) F ρ H where
  goes := fun F' ρ' H' ih' l i y g hr' e hy => by
    cases e
    rw [List.getElem?_map, Option.map_eq_some_iff] at hy
    obtain ⟨x, hx, rfl⟩ := hy
    have hi := (List.getElem?_eq_some_iff.mp hx).1
    rw [List.length_range] at hi
    rw [List.getElem?_range hi] at hx
    cases hx
    refine ⟨hi, fun u H'' q => ?_⟩
    obtain ⟨rfl, rfl⟩ := q
    exact ⟨Grow.refl, hr', .w (.d (.int _))⟩
  stops := fun F' ρ' H' ih' l i g hr' e hl => by
    cases e
    rw [List.length_map, List.length_range] at hl
    exact hl
def cR1 (a : Ca) : Ci := fun e h => (a e h).bind fun ws h => match ws with
  | [.d (.int j)] => if -(2 ^ 62) ≤ j ∧ j < 2 ^ 62 then .ok (rngS 0 j) h else .no
  | _ => .no
def cR2 (a : Ca) : Ci := fun e h => (a e h).bind fun ws h => match ws with
  | [.d (.int i), .d (.int j)] => if -(2 ^ 62) ≤ i ∧ i < 2 ^ 62 ∧ -(2 ^ 62) ≤ j ∧ j < 2 ^ 62 then .ok (rngS i j) h else .no
  | _ => .no
theorem fi_r1 {es : List Expr} {ca : Ca} (h : ∀ ta, PA X es ta → PI X tg iter (iRng1 ta)) (ha : FA X T Wx es ca) : FI X T Wx tg iter (cR1 ca) := PI.imp (h _ ha) fun σ H R q => by
  obtain ⟨F, ρ, ev, ih, hr, re, hp⟩ := q
  refine ⟨F, ρ, ev, ih, hr, re, hp.bind.mono fun ρ1 H1 ih1 ws g1 hr1 hp1 vs rs => ?_⟩
  split at hp1
  · rename_i j
    split at hp1
    · rename_i z
      match vs, rs with
      | [_], .cons (.d (.int _)) .nil =>
        refine ⟨j, rfl, z.1, z.2, ?_⟩
        have := hp1.ok hr1 _ (good_rng 0 j)
        rw [Int.sub_zero] at this
        exact this
    · exact hp1.elim
  · exact hp1.elim
theorem fi_r2 {es : List Expr} {ca : Ca} (h : ∀ ta, PA X es ta → PI X tg iter (iRng2 ta)) (ha : FA X T Wx es ca) : FI X T Wx tg iter (cR2 ca) := PI.imp (h _ ha) fun σ H R q => by
  obtain ⟨F, ρ, ev, ih, hr, re, hp⟩ := q
  refine ⟨F, ρ, ev, ih, hr, re, hp.bind.mono fun ρ1 H1 ih1 ws g1 hr1 hp1 vs rs => ?_⟩
  split at hp1
  · rename_i i j
    split at hp1
    · rename_i z
      match vs, rs with
      | [_, _], .cons (.d (.int _)) (.cons (.d (.int _)) .nil) => exact ⟨i, j, rfl, z, hp1.ok hr1 _ (good_rng i j)⟩
    · exact hp1.elim
  · exact hp1.elim

/-! ### for -/
abbrev Cy := Y → Ev → Hh → Option Ev
/-- a target's function on an item -/
def yOf (K : PySem.W.Frag) (T : Tb) (vs : List Nat) (c : Cy) : TG := fun v σ H Q => ∃ F ρ e ih y e', HR K T F ρ ih H ∧ RE K F ρ H e σ ∧ YR K F ρ H y v ∧ c y e ih = some e' ∧ ∀ σ', RE K F ρ H e' σ' → Mod vs σ σ' → Q σ' H
def FY (X : Cx) (T : Tb) (tg : Expr) (vs : List Nat) (c : Cy) : Prop := PG X tg (yOf X.K T vs c)
/-- a value that an item is -/
def yw (y : Y) : Option W := match y with
  | .w x => some x
  | .t l => (allD l).bind fun ds => if ds.length ≤ 16777216 then some (.d (.tup ds)) else none
def yN (t : Ct) : Cy := fun y e h => (yw y).bind fun w => t w e h
theorem yw_at {K : PySem.W.Frag} {F ρ : List Addr} {H : Hp} {y : Y} {w : W} {v : V} (e : yw y = some w) (r : YR K F ρ H y v) : RW K F ρ H w v := by
  cases r with
  | w r => cases e; exact r
  | t h1 h2 rs =>
    simp only [yw, Option.bind_eq_some_iff] at e
    obtain ⟨ds, e1, e2⟩ := e
    split at e2
    · rename_i z
      cases e2
      exact .d (.tup ⟨h1, h2⟩ z (allD_rp e1 rs))
    · cases e2
theorem fy_n {is : List Nat} {t : Ct} (h : FG X T tg is t) : FY X T tg is (yN t) := PG.imp h fun v σ H Q q => by
  obtain ⟨F, ρ, e, ih, y, e', hr, re, r, he, hq⟩ := q
  unfold yN at he
  rw [Option.bind_eq_some_iff] at he
  obtain ⟨w, e1, e2⟩ := he
  exact ⟨F, ρ, e, ih, w, e', hr, re, yw_at e1 r, e2, hq⟩
/-- a tuple's target on an item: its parts need be no data -/
def yT (c : Cts) : Cy := fun y e h => match y with
  | .t l => c l e h
  | .w x => tTp c x e h
theorem fy_t {tgs : List Expr} {is : List Nat} {k n : Nat} {cb : Cts} (hc : X.calm = true) (ln : Len cb n) (hn : (assignEach tgs X.env).length = n) (hst : (assignEach tgs X.env).findIdx? (·.1) = none) (h : FGs X T tgs is cb) : FY X T (.Tuple tgs k pos) is (yT cb) :=
  PG.imp (pg_tup hc h hn hst) fun v σ H Q q => by
    obtain ⟨F, ρ, e, ih, y, e', hr, re, r, he, hq⟩ := q
    cases r with
    | t h1 h2 rs =>
      have he' : cb _ e ih = some e' := he
      have hl := ln.len _ _ _ _ he'
      exact ⟨_, _, rfl, .inl (.inl h1), by rw [← rs.length]; exact hl, F, ρ, e, ih, _, e', hr, re, rs, he', hq⟩
    | @w x v r =>
      have he' : tTp cb x e ih = some e' := he
      unfold tTp at he'
      split at he'
      · rename_i l
        cases r with | d r => cases r with | tup t z rl =>
          have hl := ln.len _ _ _ _ he'
          exact ⟨_, _, rfl, t.sq, by rw [← rl.rws.length]; exact hl, F, ρ, e, ih, _, e', hr, re, rl.rws, he', hq⟩
      · cases he'
def loop (src : Src) (t : Cy) (b : Cs) : Nat → Nat → Cs
  | 0, _ => fun _ _ => .no
  | m + 1, i => fun e h => match src h with
    | none => .no
    | some l => match l[i]? with
      | none => .nx e h
      | some y => match t y e h with
        | none => .no
        | some e1 => match b e1 h with
          | .nx e2 h2 => loop src t b m (i + 1) e2 h2
          | .ct e2 h2 => loop src t b m (i + 1) e2 h2
          | .bk e2 h2 => .nx e2 h2
          | r => r
def srcLen (s : Src) (h : Hh) : Nat := match s h with
  | some l => l.length
  | none => 0
def sFor (i : Ci) (t : Cy) (b : Cs) : Cs := fun e h => lift (i e h) e fun src h => loop src t b (srcLen src h + 1) 0 e h
theorem fs_for {body : List Stmt} {is : List Nat} {ci : Ci} {ct : Cy} {cb : Cs} (hp : PassesOwn (model X.prog X.w) X.A X.env X.xe) (hc : X.calm = true) (hs : ∀ x, foldedSetIterable iter X.env x = pure x) (hi : FI X T Wx tg iter ci) (ht : FY X T tg is ct) (hb : FSs X T Wx body cb) :
    FS X T Wx (.For tg iter body [] pos) (sFor ci ct cb) := PS.imp (ps_for hp hc hi ht hb hs) fun D σ H q => by
  obtain ⟨F, ρ, ev, ih, hr, re, hp⟩ := q
  refine ⟨F, ρ, ev, ih, hr, re, (Pss.lift hr re hp).mono fun ρ1 H1 ih1 src g1 hr1 hp1 J good => ?_⟩
  refine ⟨fun i m σ' H' => ∃ ρ' e' ih', Grow F ρ1 H1 ρ' H' ∧ HR X.K T F ρ' ih' H' ∧ RE X.K F ρ' H' e' σ' ∧ Pss X.K T Wx F ρ' H' (loop src ct cb m i e' ih') D, ⟨srcLen src ih1 + 1, ρ1, ev, ih1, Grow.refl, hr1, re.grow g1 hr, hp1⟩, ?_⟩
  rintro i m σ2 H2 ⟨ρ2, e2, ih2, g2, hr2, re2, hp2⟩
  cases m with
  | zero => exact hp2.elim
  | succ m =>
    unfold loop at hp2
    cases hs : src ih2 with
    | none => rw [hs] at hp2; exact hp2.elim
    | some l =>
      rw [hs] at hp2
      dsimp only at hp2
      cases hl : l[i]? with
      | none =>
        rw [hl] at hp2
        exact .inl ⟨good.stops F ρ2 H2 ih2 l i (g2.ext hr1) hr2 hs (List.getElem?_eq_none_iff.mp hl), Pss.nx hp2 hr2 re2⟩
      | some y =>
        rw [hl] at hp2
        dsimp only at hp2
        obtain ⟨go, yl⟩ := good.goes F ρ2 H2 ih2 l i y (g2.ext hr1) hr2 hs hl
        refine .inr ⟨go, fun σ3 H3 => ∃ ρ3 e3 ih3, Grow F ρ1 H1 ρ3 H3 ∧ HR X.K T F ρ3 ih3 H3 ∧ RE X.K F ρ3 H3 e3 σ3 ∧ Pss X.K T Wx F ρ3 H3 (loop src ct cb m (i + 1) e3 ih3) D, fun σ3 H3 q3 => ⟨m, Nat.lt_succ_self _, q3⟩, fun x H3 yx => ?_⟩
        obtain ⟨g3, hr3, r3⟩ := yl x H3 yx
        cases ht : ct y e2 ih2 with
        | none => rw [ht] at hp2; exact hp2.elim
        | some e4 =>
          rw [ht] at hp2
          dsimp only at hp2
          refine ⟨F, ρ2, e2, ih2, y, e4, hr3, re2.grow g3 hr2, r3, ht, fun σ4 re4 _ => ?_⟩
          have hp3 := Pss.from g3 hr3 hp2
          have g13 := g2.trans hr2 g3
          refine ⟨F, ρ2, e4, ih2, hr3, re4, ?_⟩
          cases hb : cb e4 ih2 with
          | no => rw [hb] at hp3; exact hp3.elim
          | nx e5 h5 => rw [hb] at hp3; exact fun ρ5 H5 σ5 g5 hr5 re5 => ⟨ρ5, e5, h5, g13.trans hr3 g5, hr5, re5, Pss.from g5 hr5 hp3⟩
          | ct e5 h5 => rw [hb] at hp3; exact fun ρ5 H5 σ5 g5 hr5 re5 => ⟨ρ5, e5, h5, g13.trans hr3 g5, hr5, re5, Pss.from g5 hr5 hp3⟩
          | bk e5 h5 => rw [hb] at hp3; exact fun ρ5 H5 σ5 g5 hr5 re5 => hp3 ρ5 H5 σ5 g5 hr5 re5
          | rt w5 h5 => rw [hb] at hp3; exact hp3
          | ex a5 b5 e5 h5 => rw [hb] at hp3; exact hp3
/-! ### while -/
def wloop (t : Cb) (b : Cs) : Nat → Cs
  | 0 => fun _ _ => .no
  | m + 1 => fun e h => lift (t e h) e fun k h => if k then (match b e h with
      | .nx e2 h2 => wloop t b m e2 h2
      | .ct e2 h2 => wloop t b m e2 h2
      | .bk e2 h2 => .nx e2 h2
      | r => r) else .nx e h
def sWhile (n : Nat) (t : Cb) (b : Cs) : Cs := wloop t b n
theorem fs_while {t : Expr} {body : List Stmt} {ct : Cb} {cb : Cs} {n : Nat} (hp : PassesOwn (model X.prog X.w) X.A X.env X.xe) (ht : FT' X T Wx t ct) (hb : FSs X T Wx body cb) : FS X T Wx (.While t body [] pos) (sWhile n ct cb) :=
  PS.imp (ps_while hp ht hb) fun D σ H q => by
    refine ⟨fun m σ' H' => ∃ F ρ' e' ih', HR X.K T F ρ' ih' H' ∧ RE X.K F ρ' H' e' σ' ∧ Pss X.K T Wx F ρ' H' (wloop ct cb m e' ih') D, ⟨n, q⟩, ?_⟩
    rintro m σ2 H2 ⟨F, ρ2, e2, ih2, hr2, re2, hp2⟩
    cases m with
    | zero => exact hp2.elim
    | succ m =>
      unfold wloop at hp2
      refine ⟨F, ρ2, e2, ih2, hr2, re2, (Pss.lift hr2 re2 hp2).mono fun ρ3 H3 ih3 k g3 hr3 hp3 => ?_⟩
      have re3 := re2.grow g3 hr2
      cases k with
      | false =>
        rw [if_neg Bool.false_ne_true] at hp3
        exact iteF (Pss.nx hp3 hr3 re3)
      | true =>
        rw [if_pos rfl] at hp3
        refine iteT ⟨fun σ4 H4 => ∃ F ρ4 e4 ih4, HR X.K T F ρ4 ih4 H4 ∧ RE X.K F ρ4 H4 e4 σ4 ∧ Pss X.K T Wx F ρ4 H4 (wloop ct cb m e4 ih4) D, fun σ4 H4 q4 => ⟨m, Nat.lt_succ_self _, q4⟩, F, ρ3, e2, ih3, hr3, re3, ?_⟩
        cases hb : cb e2 ih3 with
        | no => rw [hb] at hp3; exact hp3.elim
        | nx e5 h5 => rw [hb] at hp3; exact fun ρ5 H5 σ5 g5 hr5 re5 => ⟨F, ρ5, e5, h5, hr5, re5, Pss.from g5 hr5 hp3⟩
        | ct e5 h5 => rw [hb] at hp3; exact fun ρ5 H5 σ5 g5 hr5 re5 => ⟨F, ρ5, e5, h5, hr5, re5, Pss.from g5 hr5 hp3⟩
        | bk e5 h5 => rw [hb] at hp3; exact fun ρ5 H5 σ5 g5 hr5 re5 => hp3 ρ5 H5 σ5 g5 hr5 re5
        | rt w5 h5 => rw [hb] at hp3; exact hp3
        | ex a5 b5 e5 h5 => rw [hb] at hp3; exact hp3
end
end Fz
set_option Elab.async false
set_option linter.all false
set_option maxRecDepth 100000
set_option maxHeartbeats 2000000
/-! Fz: comprehensions. -/
namespace Fz
open PySem L2 PyProof.Rows

def ew (e : Ev) : List Nat → Ev
  | [] => e
  | v :: vs => (ew e vs).set v none
theorem ew_some {e : Ev} {i : Nat} {w : W} : ∀ {vs : List Nat}, (ew e vs)[i]? = some (some w) → e[i]? = some (some w) ∧ i ∉ vs
  | [], h => ⟨h, by simp⟩
  | v :: vs, h => by
    unfold ew at h
    by_cases hi : v = i
    · subst hi
      by_cases hl : v < (ew e vs).length
      · rw [List.getElem?_set_self hl] at h; cases h
      · rw [List.getElem?_eq_none (by simpa using hl)] at h; cases h
    · rw [List.getElem?_set_ne hi] at h
      obtain ⟨a, b⟩ := ew_some h
      exact ⟨a, by simp [b, Ne.symm hi]⟩
theorem ew_len (e : Ev) : ∀ vs : List Nat, (ew e vs).length = e.length
  | [] => rfl
  | v :: vs => by unfold ew; rw [List.length_set, ew_len e vs]
theorem wipe_in {σ : L2.St} {j : Nat} : ∀ {vs : List Nat}, j ∈ vs → (wipe σ vs)[j]? = if j < σ.length then some none else none
  | v :: vs, h => by
    unfold wipe
    by_cases hj : v = j
    · subst hj
      by_cases hl : v < σ.length
      · rw [List.getElem?_set_self (by rw [wipe_length]; exact hl), if_pos hl]
      · rw [List.getElem?_eq_none (by rw [List.length_set, wipe_length]; omega), if_neg hl]
    · rw [List.getElem?_set_ne hj]
      exact wipe_in ((List.mem_cons.mp h).resolve_left (Ne.symm hj))
theorem Mod.wipe {vs : List Nat} {σ σ2 : L2.St} (m : Mod vs (L2.wipe σ vs) σ2) : L2.wipe σ2 vs = L2.wipe σ vs := by
  apply List.ext_getElem?
  intro j
  have hl : σ2.length = σ.length := by rw [m.1, wipe_length]
  by_cases hj : j ∈ vs
  · rw [wipe_in hj, wipe_in hj, hl]
  · rw [wipe_out hj, m.2 j hj]
def noX {α : Type} (m : R α) : R α := match m with
  | .ex _ _ _ => .no
  | m => m
def lcl (src : Src) (t : Cy) (q : Cb) (c : Cd) (e : Ev) : Nat → Nat → List W → Hh → R (List W)
  | 0, _, _, _ => .no
  | m + 1, i, acc, h => match src h with
    | none => .no
    | some l => match l[i]? with
      | none => .ok acc h
      | some y => match t y e h with
        | none => .no
        | some e1 => (q e1 h).bind fun k h => if k then (c e1 h).bind fun w h => if acc.length < 16777216 then lcl src t q c e m (i + 1) (acc ++ [w]) h else .no else lcl src t q c e m (i + 1) acc h
def cLc (mt : Bool) (vs : List Nat) (i : Ci) (t : Cy) (q : Cb) (c : Cd) : Cd := fun e h => (i e h).bind fun src h => (noX (lcl src t q c (ew e vs) (srcLen src h + 1) 0 [] h)).bind fun ws h => fin mt ws h
abbrev W0 : WX := fun _ _ _ _ => False
section
variable {K : PySem.W.Frag} {T : Tb} {F ρ : List Addr} {H : Hp} {ih : Hh} {D : Addr}
theorem RW.less {F F' : List Addr} (h : ∀ a, a ∈ F' → a ∈ F) {w : W} {v : V} (r : RW K F ρ H w v) : RW K F' ρ H w v := by
  cases r with
  | d r => exact .d (r.less fun a m => by
      rcases List.mem_append.mp m with q | q
      · exact List.mem_append_left _ (h a q)
      · exact List.mem_append_right _ q)
  | r e => exact .r e
theorem RO.less {F F' : List Addr} (h : ∀ a, a ∈ F' → a ∈ F) {o : O} {u : HO} (r : RO K T F ρ H o u) : RO K T F' ρ H o u := by
  cases r with
  | lst z rs => exact .lst z (Paired.mapP rs fun _ _ x => x.less h)
  | dk rs => exact .dk (Paired.mapP rs fun _ _ x => ⟨x.1, x.2.less h⟩)
  | dt rs => exact .dt (Paired.mapP rs fun _ _ x => ⟨x.1, x.2.less h⟩)
  | ins rs z => exact .ins (Paired.mapP rs fun _ _ x => ⟨x.1, x.2.less h⟩) z
theorem HR.less {F F' : List Addr} (h : ∀ a, a ∈ F' → a ∈ F) (r : HR K T F ρ ih H) : HR K T F' ρ ih H :=
  ⟨r.len, r.nd, fun a m n => r.fr a m (h a n), fun a m => r.trF a (h a m), fun n o e => let ⟨a, u, e1, e2, ro⟩ := r.obj n o e; ⟨a, u, e1, e2, ro.less h⟩⟩
/-- the new list of a comprehension is changed -/
theorem keepD {o : HO} : Keep ((D :: F) ++ ρ) H ((D :: F) ++ ρ) (upd H D o) :=
  ⟨fun a u e n => by rw [upd_ne (fun q => n (by simp [q]))]; exact e, fun a m n => absurd m n⟩
theorem RW.kp {F F' ρ' : List Addr} {H' : Hp} (k : Keep (F ++ ρ) H (F' ++ ρ') H') (g : ∀ (n : Nat) (a : Addr), ρ[n]? = some a → ρ'[n]? = some a) {w : W} {v : V} (r : RW K F ρ H w v) : RW K F' ρ' H' w v := by
  cases r with
  | d r => exact .d (r.keep k)
  | r e => exact .r (g _ _ e)
theorem RO.kp {F F' ρ' : List Addr} {H' : Hp} (k : Keep (F ++ ρ) H (F' ++ ρ') H') (g : ∀ (n : Nat) (a : Addr), ρ[n]? = some a → ρ'[n]? = some a) {o : O} {u : HO} (r : RO K T F ρ H o u) : RO K T F' ρ' H' o u := by
  cases r with
  | lst z rs => exact .lst z (Paired.mapP rs fun _ _ x => x.kp k g)
  | dk rs => exact .dk (Paired.mapP rs fun _ _ x => ⟨x.1, x.2.kp k g⟩)
  | dt rs => exact .dt (Paired.mapP rs fun _ _ x => ⟨x.1, x.2.kp k g⟩)
  | ins rs z => exact .ins (Paired.mapP rs fun _ _ x => ⟨x.1, x.2.kp k g⟩) z
theorem HR.setD {o : HO} (r : HR K T (D :: F) ρ ih H) : HR K T (D :: F) ρ ih (upd H D o) where
  len := r.len
  nd := r.nd
  fr := r.fr
  trF := fun a m => by
    by_cases q : a = D
    · subst q; rw [upd_same]; simp
    · rw [upd_ne q]; exact r.trF a m
  obj := fun n o' e => by
    obtain ⟨a, u, e1, e2, ro⟩ := r.obj n o' e
    have na : a ≠ D := fun q => r.fr a (List.mem_of_getElem? e1) (by simp [q])
    exact ⟨a, u, e1, by rw [upd_ne na]; exact e2, ro.kp keepD fun _ _ q => q⟩
theorem HR.newD {o : HO} (r : HR K T F ρ ih H) (hD : H D = none) : HR K T (D :: F) ρ ih (upd H D o) := by
  have k : Keep (F ++ ρ) H ((D :: F) ++ ρ) (upd H D o) := ⟨fun a u e n => by rw [upd_ne (ne_of_none e hD)]; exact e, fun a m n => by
    rcases List.mem_cons.mp m with q | q
    · rw [q]; exact hD
    · exact absurd q n⟩
  refine ⟨r.len, r.nd, fun a m n => ?_, fun a m => ?_, fun n o' e => ?_⟩
  · rcases List.mem_cons.mp n with q | q
    · exact r.ne hD (q ▸ m)
    · exact r.fr a m q
  · rcases List.mem_cons.mp m with q | q
    · rw [q, upd_same]; simp
    · by_cases z : a = D
      · rw [z, upd_same]; simp
      · rw [upd_ne z]; exact r.trF a q
  · obtain ⟨a, u, e1, e2, ro⟩ := r.obj n o' e
    exact ⟨a, u, e1, by rw [upd_ne (ne_of_none e2 hD)]; exact e2, ro.kp k fun _ _ q => q⟩
/-- what is wanted of the whole, whatever the heap is by then -/
def Fin (K : PySem.W.Frag) (T : Tb) (F ρ1 : List Addr) (H1 : Hp) (D : Addr) {α : Type} (m : R α) (k : List Addr → Hp → Hh → α → Prop) : Prop := match m with
  | .ok a ih' => ∀ ρ' H', Grow F ρ1 H1 ρ' H' → HR K T (D :: F) ρ' ih' H' → k ρ' H' ih' a
  | _ => False
theorem Fin.bind {α β : Type} {m : R α} {f : α → Hh → R β} {k : List Addr → Hp → Hh → β → Prop} (h : Fin K T F ρ H D (m.bind f) k) : ∃ a ih', m = .ok a ih' ∧ Fin K T F ρ H D (f a ih') k := by
  cases m with
  | ok a ih' => exact ⟨a, ih', rfl, h⟩
  | ex c p ih' => exact h.elim
  | no => exact h.elim
theorem Grow.setD {ρ' : List Addr} {H' : Hp} {o : HO} (hD : H D = none) (g : Grow F ρ H ρ' H') : Grow F ρ H ρ' (upd H' D o) :=
  ⟨g.more, fun a u e n => by rw [upd_ne (ne_of_none e hD)]; exact g.keep a u e n, g.new⟩
theorem Grow.extD {ρ' : List Addr} {H' : Hp} (hr : HR K T F ρ ih H) (hD : H D = none) (g : Grow F ρ H ρ' H') : Ext F ρ H (D :: F) ρ' H' :=
  ⟨g.more, ⟨fun a u e n => g.keep a u e fun q => n (List.mem_append_right _ q), fun a m n => by
    rcases List.mem_append.mp m with q | q
    · rcases List.mem_cons.mp q with z | z
      · rw [z]; exact hD
      · exact absurd (List.mem_append_left _ z) n
    · exact g.new a q fun z => n (List.mem_append_right _ z)⟩⟩
theorem RE.ext {F' ρ' : List Addr} {H' : Hp} {e : Ev} {σ : L2.St} (x : Ext F ρ H F' ρ' H') (r : RE K F ρ H e σ) (vs : List Nat) : RE K F' ρ' H' (ew e vs) (wipe σ vs) := by
  refine ⟨by rw [ew_len, wipe_length]; exact r.1, fun i w q => ?_⟩
  obtain ⟨q1, q2⟩ := ew_some q
  obtain ⟨v, e1, r1⟩ := r.2 i w q1
  exact ⟨v, by rw [wipe_out q2]; exact e1, r1.kp x.k fun _ _ h => x.get h⟩
/-- the end: the list at D is ours -/
theorem fin_at {Wx : WX} {σ : L2.St} {mt : Bool} {ws : List W} {vs : List V} {ρ1 ρ' : List Addr} {H1 H' : Hp} {ih' : Hh} {Q : VK} (hD : H1 D = none) (hr1 : HR K T F ρ1 ih H1) (g : Grow F ρ1 H1 ρ' H') (hr : HR K T (D :: F) ρ' ih' H') (e : H' D = some (.lst vs)) (rs : RWs K (D :: F) ρ' H' ws vs)
    (hp : Pst K T Wx σ F ρ1 H1 (fin mt ws ih') fun ρ' H' _ w => ∀ v, RW K F ρ' H' w v → Q v H') : Q (.ref D) H' := by
  have hl := fin_len hp
  have nF : D ∉ F := fun m => hr1.trF D m hD
  have nρ : D ∉ ρ' := fun m => hr.fr D m (by simp)
  have hr' : HR K T F ρ' ih' H' := hr.less fun a m => List.mem_cons_of_mem _ m
  have rs' : RWs K F ρ' H' ws vs := Paired.mapP rs fun _ _ x => x.less fun a m => List.mem_cons_of_mem _ m
  unfold Fz.fin at hp
  split at hp
  · unfold mkM at hp
    split at hp
    · have g2 : Grow F ρ1 H1 (ρ' ++ [D]) H' := ⟨by obtain ⟨m, rfl⟩ := g.more; exact ⟨m ++ [D], by simp⟩, g.keep, fun a m n => by
        rcases List.mem_append.mp m with q | q
        · exact g.new a q n
        · rw [List.mem_singleton.mp q]; exact hD⟩
      have k2 : Keep ((D :: F) ++ ρ') H' (F ++ (ρ' ++ [D])) H' := ⟨fun _ _ e _ => e, fun a m n => by
        exfalso
        apply n
        simp only [List.mem_append, List.mem_cons, List.mem_singleton, List.not_mem_nil, or_false] at m ⊢
        rcases m with m | m | m <;> simp [m]⟩
      have gt : ∀ (n : Nat) (a : Addr), ρ'[n]? = some a → (ρ' ++ [D])[n]? = some a := fun n a q => by
        rw [List.getElem?_append_left (List.getElem?_eq_some_iff.mp q).1]; exact q
      have hr2 : HR K T F (ρ' ++ [D]) (ih' ++ [.lst ws]) H' := by
        refine ⟨by simp [hr.len], List.nodup_append.mpr ⟨hr.nd, by simp, fun a ha b hb => ?_⟩, fun a m => ?_, hr'.trF, fun n o q => ?_⟩
        · rw [List.mem_singleton.mp hb]; exact fun z => nρ (z ▸ ha)
        · rcases List.mem_append.mp m with q | q
          · exact hr'.fr a q
          · rw [List.mem_singleton.mp q]; exact nF
        · by_cases hn : n < ih'.length
          · rw [List.getElem?_append_left hn] at q
            obtain ⟨a, u, e1, e2, ro⟩ := hr.obj n o q
            exact ⟨a, u, gt n a e1, e2, ro.kp k2 gt⟩
          · have hn' : n = ih'.length := by
              have := (List.getElem?_eq_some_iff.mp q).1
              simp at this
              omega
            subst hn'
            simp at q
            subst q
            exact ⟨D, _, by rw [← hr.len]; simp, e, .lst hl (Paired.mapP rs fun _ _ x => x.kp k2 gt)⟩
      exact hp _ _ g2 hr2 _ (.r (get_last hr.len))
    · exact hp.elim
  · unfold mkL at hp
    cases ea : allD ws with
    | none => rw [ea] at hp; exact hp.elim
    | some ds =>
      rw [ea] at hp
      dsimp only at hp
      split at hp
      · rename_i z
        exact hp _ _ g hr' _ (.d (.lst ⟨.inl e, fun m => (List.mem_append.mp m).elim nF nρ⟩ z (allD_rp ea rs')))
      · exact hp.elim
end
section
variable {X : Cx} {T : Tb} {Wx : WX} {tg iter elt : Expr} {ifs : List Expr} {pos : Pos}
def FTs (X : Cx) (T : Tb) (Wx : WX) (ifs : List Expr) (c : Cb) : Prop := PTs X ifs (bOf X.K T Wx c)
def bYes : Cb := fun _ h => .ok true h
theorem PTs.imp {t t' : TT} (h : PTs X ifs t) (f : ∀ σ H Q, t' σ H Q → t σ H Q) : PTs X ifs t' := ⟨fun pins s σ H Q I q => h.run pins s σ H Q I (f _ _ _ q)⟩
theorem fts_nil : FTs X T Wx [] bYes := PTs.imp pts_nil fun σ H Q q => by
  obtain ⟨F, ρ, ev, ih, hr, re, hp⟩ := q
  exact hp.ok hr
theorem fts_one {c : Expr} {cb : Cb} (h : FT' X T Wx c cb) : FTs X T Wx [c] cb := pts_one h
theorem ifk {A B : Prop} {k : Bool} (h1 : k = true → A) (h2 : k = false → B) : if k = true then A else B := by
  cases k with
  | true => exact iteT (h1 rfl)
  | false => exact iteF (h2 rfl)
/-- the reading of a comprehension is what its function does -/
theorem lc_at {K : PySem.W.Frag} {mt : Bool} {vs is : List Nat} {ci : Ci} {t : Cy} {q : Cb} {c : Cd} (his : ∀ j ∈ is, j ∈ vs) {σ : L2.St} {H : Hp} {Q : VK} (hq : tOf K T Wx (cLc mt vs ci t q c) σ H Q) :
    tLc (iOf K T Wx ci) (yOf K T is t) (bOf K T W0 q) (tOf K T W0 c) vs σ H Q := by
  obtain ⟨F, ρ, ev, ih, hr, re, hp⟩ := hq
  refine ⟨F, ρ, ev, ih, hr, re, hp.bind.mono fun ρ1 H1 ih1 src g1 hr1 hp1 J good => ?_⟩
  intro D hD
  have re1 := re.grow g1 hr
  -- what is wanted of the list at the end
  have want : Fin K T F ρ1 H1 D (lcl src t q c (ew ev vs) (srcLen src ih1 + 1) 0 [] ih1) fun ρ' H' ih' ws => ∀ xs, H' D = some (.lst xs) → RWs K (D :: F) ρ' H' ws xs → Q (.ref D) H' := by
    cases e : lcl src t q c (ew ev vs) (srcLen src ih1 + 1) 0 [] ih1 with
    | no => rw [e] at hp1; exact hp1.elim
    | ex a b h2 => rw [e] at hp1; exact hp1.elim
    | ok ws h2 =>
      rw [e] at hp1
      exact fun ρ' H' g hr' xs ex rs => fin_at (Wx := Wx) (σ := σ) hD hr1 g hr' ex rs hp1
  refine ⟨fun i m H' => ∃ ρ' ih' acc xs, Grow F ρ1 H1 ρ' H' ∧ HR K T (D :: F) ρ' ih' H' ∧ H' D = some (.lst xs) ∧ RWs K (D :: F) ρ' H' acc xs ∧
    Fin K T F ρ1 H1 D (lcl src t q c (ew ev vs) m i acc ih') fun ρ' H' ih' ws => ∀ xs, H' D = some (.lst xs) → RWs K (D :: F) ρ' H' ws xs → Q (.ref D) H',
    ⟨srcLen src ih1 + 1, ρ1, ih1, [], [], grow_new hD, hr1.newD hD, upd_same, .nil, want⟩, ?_⟩
  rintro i m H2 ⟨ρ2, ih2, acc, xs, g2, hr2, e2, rs2, hf⟩
  have hr2' : HR K T F ρ2 ih2 H2 := hr2.less fun a m => List.mem_cons_of_mem _ m
  cases m with
  | zero => exact hf.elim
  | succ m =>
    unfold lcl at hf
    cases hs : src ih2 with
    | none => rw [hs] at hf; exact hf.elim
    | some l =>
      rw [hs] at hf
      dsimp only at hf
      cases hl : l[i]? with
      | none =>
        rw [hl] at hf
        exact .inl ⟨good.stops _ ρ2 H2 ih2 l i (g2.extD hr1 hD) hr2 hs (List.getElem?_eq_none_iff.mp hl), hf ρ2 H2 g2 hr2 xs e2 rs2⟩
      | some y =>
        rw [hl] at hf
        dsimp only at hf
        obtain ⟨go, yl⟩ := good.goes _ ρ2 H2 ih2 l i y (g2.extD hr1 hD) hr2 hs hl
        refine .inr ⟨go, fun H3 => ∃ ρ' ih' acc xs, Grow F ρ1 H1 ρ' H3 ∧ HR K T (D :: F) ρ' ih' H3 ∧ H3 D = some (.lst xs) ∧ RWs K (D :: F) ρ' H3 acc xs ∧
          Fin K T F ρ1 H1 D (lcl src t q c (ew ev vs) m (i + 1) acc ih') fun ρ' H' ih' ws => ∀ xs, H' D = some (.lst xs) → RWs K (D :: F) ρ' H' ws xs → Q (.ref D) H', fun H3 q3 => ⟨m, Nat.lt_succ_self _, q3⟩, fun x H3 yx => ?_⟩
        obtain ⟨g3, hr3, r3⟩ := yl x H3 yx
        have nD : D ∉ ρ2 := fun z => hr2.fr D z (by simp)
        have e3 : H3 D = some (.lst xs) := g3.keep D _ e2 nD
        have k13 : ∀ a u, H1 a = some u → a ∉ ρ1 → H3 a = some u := fun a u ea na => by
          refine g3.keep a u (g2.keep a u ea na) fun z => ?_
          have := g2.new a z na
          rw [ea] at this
          cases this
        have g13 : Grow F ρ1 H1 ρ2 H3 := ⟨g2.more, k13, g2.new⟩
        have rs3 : RWs K (D :: F) ρ2 H3 acc xs := RWs.grow g3 hr2 rs2
        cases ht : t y (ew ev vs) ih2 with
        | none => rw [ht] at hf; exact hf.elim
        | some e1 =>
          rw [ht] at hf
          dsimp only at hf
          have reW : RE K (D :: F) ρ2 H3 (ew ev vs) (wipe σ vs) := re1.ext (g13.extD hr1 hD) vs
          refine ⟨D :: F, ρ2, ew ev vs, ih2, y, e1, hr3, reW, r3, ht, fun σ2 re2 m2 => ⟨(m2.mono his).wipe, ?_⟩⟩
          obtain ⟨k, ih4, eq, hf⟩ := hf.bind
          refine ⟨D :: F, ρ2, e1, ih2, hr3, re2, ?_⟩
          rw [eq]
          intro ρ4 H4 g4 hr4
          have e4 : H4 D = some (.lst xs) := g4.keep D _ e3 nD
          have g14 : Grow F ρ1 H1 ρ4 H4 := Grow.trans (K := K) (T := T) (ih1 := ih2) g13 (hr3.less fun a m => List.mem_cons_of_mem _ m) ⟨g4.more, g4.keep, g4.new⟩
          have rs4 : RWs K (D :: F) ρ4 H4 acc xs := RWs.grow g4 hr3 rs3
          refine ifk (fun hk => ?_) fun hk => ?_
          · subst hk
            rw [if_pos rfl] at hf
            obtain ⟨w, ih5, eq5, hf⟩ := hf.bind
            refine ⟨D :: F, ρ4, e1, ih4, hr4, re2.grow g4 hr3, ?_⟩
            rw [eq5]
            intro ρ5 H5 g5 hr5 v rv
            have nD4 : D ∉ ρ4 := fun z => hr4.fr D z (by simp)
            have e5 : H5 D = some (.lst xs) := g5.keep D _ e4 nD4
            have g15 : Grow F ρ1 H1 ρ5 H5 := Grow.trans (K := K) (T := T) (ih1 := ih4) g14 (hr4.less fun a m => List.mem_cons_of_mem _ m) ⟨g5.more, g5.keep, g5.new⟩
            have rs5 : RWs K (D :: F) ρ5 H5 acc xs := RWs.grow g5 hr4 rs4
            split at hf
            · rename_i hlen
              refine ⟨xs, e5, by rw [← rs5.length]; exact hlen, ρ5, ih5, acc ++ [w], xs ++ [v], g15.setD hD, hr5.setD, upd_same, ?_, hf⟩
              exact Paired.mapP (rs5.app (.cons rv .nil)) fun _ _ z => z.kp keepD fun _ _ q => q
            · exact hf.elim
          · subst hk
            rw [if_neg Bool.false_ne_true] at hf
            exact ⟨ρ4, ih4, acc, xs, g14, hr4, e4, rs4, hf⟩
theorem fe_lc {mt : Bool} {scope : Scope} {own : List (Str × Nat)} {is : List Nat} {ci : Ci} {t : Cy} {q : Cb} {c : Cd} (hc : X.calm = true) (hN : X.N.Nodup) (ok : BlkOk X.N X.env.scope scope own) (his : ∀ j ∈ is, j ∈ own.map (·.2)) (hs : ∀ x, foldedSetIterable iter X.env x = pure x)
    (hi : FI X T Wx tg iter ci)
    (hg : ∀ (s : Shared) (H : Hp) (C : Addr) (cl : List (Str × Addr)) (fp : List Addr), FY (X.blk s H scope (compEnvC scope cl C X.env) fp) T tg is t)
    (ht : ∀ (s : Shared) (H : Hp) (C : Addr) (cl : List (Str × Addr)) (fp : List Addr), FTs (X.blk s H scope (compEnvC scope cl C X.env) fp) T W0 ifs q)
    (he : ∀ (s : Shared) (H : Hp) (C : Addr) (cl : List (Str × Addr)) (fp : List Addr), FE (X.blk s H scope (compEnvC scope cl C X.env) fp) T W0 elt c) :
    FE X T Wx (.ListComp elt [⟨tg, iter, ifs, 0⟩] scope pos) (cLc mt (own.map (·.2)) ci t q c) := PE.imp (pe_lc (wi := iOf X.K T Wx ci) (g := yOf X.K T is t) (tt := bOf X.K T W0 q) (te := tOf X.K T W0 c) hc hN hi ok hg ht he hs) fun _ _ _ h => lc_at his h
/-- y = [..] where the list goes into y's place within the comprehension -/
theorem fs_setLc {mt : Bool} {i : Nat} {y : Str} {py spos : Pos} {scope : Scope} {own : List (Str × Nat)} {is : List Nat} {ci : Ci} {t : Cy} {q : Cb} {c : Cd} (hc : X.calm = true) (hN : X.N.Nodup) (hy : X.N[i]? = some y) (hyl : X.env.scope.names.lookup y = some .local)
    (hsw : swapsWith (.ListComp elt [⟨tg, iter, ifs, 0⟩] scope pos) (some (.Name y py)) spos.line X.env = pure true)
    (ok : BlkOk X.N X.env.scope scope own) (his : ∀ j ∈ is, j ∈ own.map (·.2)) (hs : ∀ x, foldedSetIterable iter X.env x = pure x)
    (hi : FI X T Wx tg iter ci)
    (hg : ∀ (s : Shared) (H : Hp) (C : Addr) (cl : List (Str × Addr)) (fp : List Addr), FY (X.blk s H scope (compEnvC scope cl C X.env) fp) T tg is t)
    (ht : ∀ (s : Shared) (H : Hp) (C : Addr) (cl : List (Str × Addr)) (fp : List Addr), FTs (X.blk s H scope (compEnvC scope cl C X.env) fp) T W0 ifs q)
    (he : ∀ (s : Shared) (H : Hp) (C : Addr) (cl : List (Str × Addr)) (fp : List Addr), FE (X.blk s H scope (compEnvC scope cl C X.env) fp) T W0 elt c) :
    FS X T Wx (.Assign [.Name y py] (.ListComp elt [⟨tg, iter, ifs, 0⟩] scope pos) spos) (sAsg (cLc mt (own.map (·.2)) ci t q c) (tN i)) := PS.imp (ps_setLc (wi := iOf X.K T Wx ci) (g := yOf X.K T is t) (tt := bOf X.K T W0 q) (te := tOf X.K T W0 c) hc hN hy hyl hsw hi ok hg ht he hs) fun D σ H q => by
  obtain ⟨F, ρ, ev, ih, hr, re, hp⟩ := q
  refine lc_at his ⟨F, ρ, ev, ih, hr, re, (Pss.lift hr re hp).mono fun ρ1 H1 ih1 w g1 hr1 hp1 v r => ?_⟩
  exact Pss.nx hp1 hr1 ((re.grow g1 hr).set i r)
end
end Fz
set_option Elab.async false
set_option linter.all false
set_option maxRecDepth 100000
set_option maxHeartbeats 2000000
/-! Fz: built-in calls by values. -/
namespace Fz
open PySem L2 PyProof.Rows

section
variable {X : Cx} {T : Tb} {Wx : WX} {x : Str} {p pos : Pos} {e : Expr} {es : List Expr} {ca : Ca} {id TY : String} {r : List V → Hp → VK → Prop} {op : List W → Hh → R W}
theorem fe_bi (hc : CallR X (.builtin id) r) (hf : FCl X.K T op r) (hg : Gl X x) (hm : X.mg x = none) (hv : bootBuiltins x = some (.builtin id)) (hn : x ≠ "__name__") (hdb : (x == ("__debug__" : Str)) = false)
    (he : starEach (e :: es) X.env = (false, eval e X.env) :: starEach es X.env) (hpl : (backTo pos (starEach es X.env)).any (·.1) = false) (ha : FA X T Wx (e :: es) ca) : FE X T Wx (.Call (.Name x p) (e :: es) [] pos) (cCl op ca) :=
  PE.imp (pe_callB hc hg hm hv ha hn hdb he hpl) fun _ _ _ q => clOf hf q
theorem fe_ty (hc : CallR X (.type TY) r) (hf : FCl X.K T op r) (hg : Gl X x) (hm : X.mg x = none) (hv : bootBuiltins x = some (.type TY)) (hn : x ≠ "__name__") (hdb : (x == ("__debug__" : Str)) = false)
    (he : starEach (e :: es) X.env = (false, eval e X.env) :: starEach es X.env) (hpl : (backTo pos (starEach es X.env)).any (·.1) = false) (ha : FA X T Wx (e :: es) ca) : FE X T Wx (.Call (.Name x p) (e :: es) [] pos) (cCl op ca) :=
  PE.imp (pe_callTy hc hg hm hv ha hn hdb he hpl) fun _ _ _ q => clOf hf q
end
section
variable {K : PySem.W.Frag} {T : Tb}
/-! ### len -/
def lenW (w : W) (h : Hh) : Option Nat := match w with
  | .d (.str l) => some l.length
  | .d (.tup l) => some l.length
  | .d (.lst l) => some l.length
  | .r n => match h[n]? with
    | some (.lst l) => some l.length
    | some (.dk l) => some l.length
    | _ => none
  | _ => none
def biLen (ws : List W) (h : Hh) : R W := match ws with
  | [w] => match lenW w h with
    | some n => .ok (.d (.int n)) h
    | none => .no
  | _ => .no
def rLenF (K : PySem.W.Frag) : List V → Hp → VK → Prop := fun xs H Q => (∃ x n, xs = [x] ∧ LenV K x H n ∧ Q (.int n) H) ∨ ∃ a kvs, xs = [.ref a] ∧ Rd H a (.dK kvs) ∧ Q (.int kvs.length) H
theorem cr_lenD {X : Cx} : CallR X (.builtin "len") fun xs H Q => ∃ a kvs, xs = [.ref a] ∧ Rd H a (.dK kvs) ∧ Q (.int kvs.length) H := by
  intro pins s σ H xs us Q I r h
  obtain ⟨a, kvs, rfl, hd, q⟩ := h
  obtain ⟨u, rfl, ru⟩ := vals1 r
  cases ru
  exact d_len I hd fun t s' I' => ⟨.int _, H, I', ⟨_, rfl⟩, q⟩
theorem cr_len {X : Cx} : CallR X (.builtin "len") (rLenF X.K) := CallR.or call_len cr_lenD
theorem fc_len : FCl K T biLen (rLenF K) := by
  intro Wx σ F ρ ih H xs vs Q hr rs hp
  unfold biLen at hp
  split at hp
  · rename_i w
    cases rs with | cons r t => cases t with | nil =>
      unfold lenW at hp
      split at hp
      · rename_i n e
        split at e
        · cases e; cases r with | d r => cases r with | str _ z => exact .inl ⟨_, _, rfl, ⟨by rw [toStr_len]; exact z, rfl⟩, by rw [toStr_len]; exact hp.ok hr _ (.d (.int _))⟩
        · cases e; cases r with | d r => cases r with | tup h z rl => exact .inl ⟨_, _, rfl, .inr ⟨_, h.sq, rfl⟩, by rw [← rl.length]; exact hp.ok hr _ (.d (.int _))⟩
        · cases e; cases r with | d r => cases r with | lst h z rl => exact .inl ⟨_, _, rfl, .inl ⟨_, h.sq, rfl⟩, by rw [← rl.length]; exact hp.ok hr _ (.d (.int _))⟩
        · cases r with | r hn =>
            split at e
            · rename_i l ho
              cases e
              obtain ⟨u, eH, ro⟩ := hr.at hn ho
              cases ro with | lst z rs => exact .inl ⟨_, _, rfl, .inl ⟨_, .inl (.inl eH), rfl⟩, by rw [← rs.length]; exact hp.ok hr _ (.d (.int _))⟩
            · rename_i l ho
              cases e
              obtain ⟨u, eH, ro⟩ := hr.at hn ho
              cases ro with | dk rs => exact .inr ⟨_, _, rfl, .inl eH, by rw [← Paired.length rs]; exact hp.ok hr _ (.d (.int _))⟩
            · cases e
        · cases e
      · exact hp.elim
  · exact hp.elim
/-! ### abs, int -/
def biAbs (ws : List W) (h : Hh) : R W := match ws with
  | [.d (.int i)] => .ok (.d (.int (if i < 0 then -i else i))) h
  | _ => .no
theorem fc_abs : FCl K T biAbs (fun xs H Q => ∃ i, xs = [.int i] ∧ Q (.int (if i < 0 then -i else i)) H) := by
  intro Wx σ F ρ ih H xs vs Q hr rs hp
  unfold biAbs at hp
  split at hp
  · cases rs with | cons r t => cases t; cases r with | d r => cases r; exact ⟨_, rfl, hp.ok hr _ (.d (.int _))⟩
  · exact hp.elim
def biInt (ws : List W) (h : Hh) : R W := match ws with
  | [.d (.int i)] => .ok (.d (.int i)) h
  | [.d (.bl k)] => .ok (.d (.int (if k then 1 else 0))) h
  | _ => .no
theorem fc_int : FCl K T biInt (fun xs H Q => (∃ i, xs = [.int i] ∧ Q (.int i) H) ∨ ∃ k, xs = [.bl k] ∧ Q (.int (if k then 1 else 0)) H) := by
  intro Wx σ F ρ ih H xs vs Q hr rs hp
  unfold biInt at hp
  split at hp
  · cases rs with | cons r t => cases t; cases r with | d r => cases r; exact .inl ⟨_, rfl, hp.ok hr _ (.d (.int _))⟩
  · cases rs with | cons r t => cases t; cases r with | d r => cases r; exact .inr ⟨_, rfl, hp.ok hr _ (.d (.int _))⟩
  · exact hp.elim
/-! ### list, tuple -/
def biList (m : Bool) (ws : List W) (h : Hh) : R W := match ws with
  | [w] => match seqW w h with
    | some l => fin m l h
    | none => .no
  | _ => .no
theorem fc_list {m : Bool} : FCl K T (biList m) (fun xs H Q => ∃ p ys, xs = [.ref p] ∧ (SqL K H p ys ∨ SqT K H p ys) ∧ ∀ l, H l = none → Q (.ref l) (upd H l (.lst ys))) := by
  intro Wx σ F ρ ih H xs vs Q hr rs hp
  unfold biList at hp
  split at hp
  · cases rs with | cons r t => cases t with | nil =>
      split at hp
      · rename_i l e
        obtain ⟨a, us, rfl, s, rs, _⟩ := seqW_at hr r e
        exact ⟨_, _, rfl, s.imp .inl .inl, fun p np => fin_ok hr rs np hp⟩
      · exact hp.elim
  · exact hp.elim
def biTuple (ws : List W) (h : Hh) : R W := match ws with
  | [.d (.tup l)] => .ok (.d (.tup l)) h
  | [w] => match lstW w h with
    | some l => mkT l h
    | none => .no
  | _ => .no
theorem fc_tuple : FCl K T biTuple (fun xs H Q => ∃ p ys, xs = [.ref p] ∧ ((SqL K H p ys ∧ ∀ l, H l = none → Q (.ref l) (upd H l (.tup ys))) ∨ (SqT K H p ys ∧ Q (.ref p) H))) := by
  intro Wx σ F ρ ih H xs vs Q hr rs hp
  unfold biTuple at hp
  split at hp
  · cases rs with | cons r t => cases t with | nil => cases r with | d r => cases r with | tup h z rl => exact ⟨_, _, rfl, .inr ⟨h.sq, hp.ok hr _ (.d (.tup h z rl))⟩⟩
  · cases rs with | cons r t => cases t with | nil =>
      split at hp
      · rename_i l e
        obtain ⟨a, us, rfl, s, rs, _⟩ := lstW_at hr r e
        refine ⟨_, _, rfl, .inl ⟨.inl s, fun p np => ?_⟩⟩
        unfold mkT at hp
        cases ea : allD l with
        | none => rw [ea] at hp; exact hp.elim
        | some ds =>
          rw [ea] at hp
          dsimp only at hp
          split at hp
          · rename_i z
            obtain ⟨q1, q2⟩ := new_tup hr np (allD_rp ea rs) z hp
            exact q1 _ q2
          · exact hp.elim
      · exact hp.elim
  · exact hp.elim
/-! ### all, any -/
def bools : List W → Option (List Bool)
  | [] => some []
  | .d (.bl b) :: r => (bools r).map (b :: ·)
  | _ :: _ => none
theorem bools_at {F ρ : List Addr} {H : Hp} : ∀ {ws : List W} {bs : List Bool} {vs : List V}, bools ws = some bs → RWs K F ρ H ws vs → vs = bs.map V.bl
  | [], bs, vs, e, r => by cases r; simp [bools] at e; subst e; rfl
  | .d (.bl b) :: t, bs, vs, e, r => by
    simp only [bools, Option.map_eq_some_iff] at e
    obtain ⟨l, e1, rfl⟩ := e
    cases r with | cons a c => cases a with | d a => cases a; rw [bools_at e1 c]; rfl
  | .d .non :: _, _, _, e, _ => by simp [bools] at e
  | .d (.int _) :: _, _, _, e, _ => by simp [bools] at e
  | .d (.str _) :: _, _, _, e, _ => by simp [bools] at e
  | .d (.tup _) :: _, _, _, e, _ => by simp [bools] at e
  | .d (.lst _) :: _, _, _, e, _ => by simp [bools] at e
  | .r _ :: _, _, _, e, _ => by simp [bools] at e
def biAll (ws : List W) (h : Hh) : R W := match ws with
  | [w] => match (lstW w h).bind bools with
    | some bs => .ok (.d (.bl (bs.all id))) h
    | none => .no
  | _ => .no
theorem fc_all : FCl K T biAll (rAll K) := by
  intro Wx σ F ρ ih H xs vs Q hr rs hp
  unfold biAll at hp
  split at hp
  · cases rs with | cons r t => cases t with | nil =>
      split at hp
      · rename_i bs e
        rw [Option.bind_eq_some_iff] at e
        obtain ⟨l, e1, e2⟩ := e
        obtain ⟨a, us, rfl, s, rs, _⟩ := lstW_at hr r e1
        have := bools_at e2 rs
        subst this
        exact ⟨_, bs, rfl, .inl s, hp.ok hr _ (.d (.bl _))⟩
      · exact hp.elim
  · exact hp.elim
def biAny (ws : List W) (h : Hh) : R W := match ws with
  | [w] => match (lstW w h).bind bools with
    | some bs => .ok (.d (.bl (bs.any id))) h
    | none => .no
  | _ => .no
theorem fc_any : FCl K T biAny (rAny K) := by
  intro Wx σ F ρ ih H xs vs Q hr rs hp
  unfold biAny at hp
  split at hp
  · cases rs with | cons r t => cases t with | nil =>
      split at hp
      · rename_i bs e
        rw [Option.bind_eq_some_iff] at e
        obtain ⟨l, e1, e2⟩ := e
        obtain ⟨a, us, rfl, s, rs, _⟩ := lstW_at hr r e1
        have := bools_at e2 rs
        subst this
        exact ⟨_, bs, rfl, .inl s, hp.ok hr _ (.d (.bl _))⟩
      · exact hp.elim
  · exact hp.elim
/-! ### max, min, sum of whole numbers -/
def intsW : List W → Option (List Int)
  | [] => some []
  | .d (.int b) :: r => (intsW r).map (b :: ·)
  | _ :: _ => none
theorem intsW_at {F ρ : List Addr} {H : Hp} : ∀ {ws : List W} {bs : List Int} {vs : List V}, intsW ws = some bs → RWs K F ρ H ws vs → vs = bs.map V.int
  | [], bs, vs, e, r => by cases r; simp [intsW] at e; subst e; rfl
  | .d (.int b) :: t, bs, vs, e, r => by
    simp only [intsW, Option.map_eq_some_iff] at e
    obtain ⟨l, e1, rfl⟩ := e
    cases r with | cons a c => cases a with | d a => cases a; rw [intsW_at e1 c]; rfl
  | .d .non :: _, _, _, e, _ => by simp [intsW] at e
  | .d (.bl _) :: _, _, _, e, _ => by simp [intsW] at e
  | .d (.str _) :: _, _, _, e, _ => by simp [intsW] at e
  | .d (.tup _) :: _, _, _, e, _ => by simp [intsW] at e
  | .d (.lst _) :: _, _, _, e, _ => by simp [intsW] at e
  | .r _ :: _, _, _, e, _ => by simp [intsW] at e
def maxI : List Int → Int
  | [] => 0
  | x :: r => r.foldl max x
def minI : List Int → Int
  | [] => 0
  | x :: r => r.foldl min x
theorem foldl_max_le (r : List Int) : ∀ x : Int, x ≤ r.foldl max x ∧ (∀ y ∈ r, y ≤ r.foldl max x) ∧ (r.foldl max x = x ∨ r.foldl max x ∈ r) := by
  induction r with
  | nil => intro x; simp
  | cons a r ih =>
    intro x
    obtain ⟨h1, h2, h3⟩ := ih (max x a)
    simp only [List.foldl_cons]
    refine ⟨by omega, fun y hy => ?_, ?_⟩
    · rcases List.mem_cons.mp hy with e | e
      · subst e; omega
      · exact h2 y e
    · rcases h3 with e | e
      · by_cases hx : a ≤ x
        · left; rw [e]; omega
        · right; rw [e]; simp; left; omega
      · right; exact List.mem_cons_of_mem _ e
theorem foldl_min_le (r : List Int) : ∀ x : Int, r.foldl min x ≤ x ∧ (∀ y ∈ r, r.foldl min x ≤ y) ∧ (r.foldl min x = x ∨ r.foldl min x ∈ r) := by
  induction r with
  | nil => intro x; simp
  | cons a r ih =>
    intro x
    obtain ⟨h1, h2, h3⟩ := ih (min x a)
    simp only [List.foldl_cons]
    refine ⟨by omega, fun y hy => ?_, ?_⟩
    · rcases List.mem_cons.mp hy with e | e
      · subst e; omega
      · exact h2 y e
    · rcases h3 with e | e
      · by_cases hx : x ≤ a
        · left; rw [e]; omega
        · right; rw [e]; simp; left; omega
      · right; exact List.mem_cons_of_mem _ e
theorem maxI_is {l : List Int} {m : Int} (hm : m ∈ l) (h : ∀ y ∈ l, y ≤ m) : m = maxI l := by
  cases l with
  | nil => cases hm
  | cons x r =>
    obtain ⟨h1, h2, h3⟩ := foldl_max_le r x
    have a : maxI (x :: r) ≤ m := by
      show r.foldl max x ≤ m
      rcases h3 with e | e
      · rw [e]; exact h x (by simp)
      · exact h _ (List.mem_cons_of_mem _ e)
    have b : m ≤ maxI (x :: r) := by
      show m ≤ r.foldl max x
      rcases List.mem_cons.mp hm with e | e
      · rw [e]; exact h1
      · exact h2 m e
    omega
theorem minI_is {l : List Int} {m : Int} (hm : m ∈ l) (h : ∀ y ∈ l, m ≤ y) : m = minI l := by
  cases l with
  | nil => cases hm
  | cons x r =>
    obtain ⟨h1, h2, h3⟩ := foldl_min_le r x
    have a : m ≤ minI (x :: r) := by
      show m ≤ r.foldl min x
      rcases h3 with e | e
      · rw [e]; exact h x (by simp)
      · exact h _ (List.mem_cons_of_mem _ e)
    have b : minI (x :: r) ≤ m := by
      show r.foldl min x ≤ m
      rcases List.mem_cons.mp hm with e | e
      · rw [e]; exact h1
      · exact h2 m e
    omega
def biMax (ws : List W) (h : Hh) : R W := match ws with
  | [w] => match (lstW w h).bind intsW with
    | some (x :: r) => .ok (.d (.int (maxI (x :: r)))) h
    | _ => .no
  | _ => .no
theorem fc_max : FCl K T biMax (rMax K) := by
  intro Wx σ F ρ ih H xs vs Q hr rs hp
  unfold biMax at hp
  split at hp
  · cases rs with | cons r t => cases t with | nil =>
      split at hp
      · rename_i x' r' e
        rw [Option.bind_eq_some_iff] at e
        obtain ⟨l, e1, e2⟩ := e
        obtain ⟨a, us, rfl, s, rs, _⟩ := lstW_at hr r e1
        have := intsW_at e2 rs
        subst this
        exact ⟨_, _, rfl, .inl s, by simp, fun m hm hle => by rw [maxI_is hm hle]; exact hp.ok hr _ (.d (.int _))⟩
      · exact hp.elim
  · exact hp.elim
def biMin (ws : List W) (h : Hh) : R W := match ws with
  | [w] => match (lstW w h).bind intsW with
    | some (x :: r) => .ok (.d (.int (minI (x :: r)))) h
    | _ => .no
  | _ => .no
theorem fc_min : FCl K T biMin (rMin K) := by
  intro Wx σ F ρ ih H xs vs Q hr rs hp
  unfold biMin at hp
  split at hp
  · cases rs with | cons r t => cases t with | nil =>
      split at hp
      · rename_i x' r' e
        rw [Option.bind_eq_some_iff] at e
        obtain ⟨l, e1, e2⟩ := e
        obtain ⟨a, us, rfl, s, rs, _⟩ := lstW_at hr r e1
        have := intsW_at e2 rs
        subst this
        exact ⟨_, _, rfl, .inl s, by simp, fun m hm hle => by rw [minI_is hm hle]; exact hp.ok hr _ (.d (.int _))⟩
      · exact hp.elim
  · exact hp.elim
def biSum (ws : List W) (h : Hh) : R W := match ws with
  | [w] => match (lstW w h).bind intsW with
    | some l => .ok (.d (.int l.sum)) h
    | _ => .no
  | _ => .no
theorem fc_sum : FCl K T biSum (rSum K) := by
  intro Wx σ F ρ ih H xs vs Q hr rs hp
  unfold biSum at hp
  split at hp
  · cases rs with | cons r t => cases t with | nil =>
      split at hp
      · rename_i l' e
        rw [Option.bind_eq_some_iff] at e
        obtain ⟨l, e1, e2⟩ := e
        obtain ⟨a, us, rfl, s, rs, _⟩ := lstW_at hr r e1
        have := intsW_at e2 rs
        subst this
        exact ⟨_, _, rfl, .inl s, hp.ok hr _ (.d (.int _))⟩
      · exact hp.elim
  · exact hp.elim
def biMax2 (ws : List W) (h : Hh) : R W := match ws with
  | [.d (.int i), .d (.int j)] => .ok (.d (.int (if j > i then j else i))) h
  | _ => .no
theorem fc_max2 : FCl K T biMax2 (fun xs H Q => ∃ i j, xs = [.int i, .int j] ∧ Q (.int (if j > i then j else i)) H) := by
  intro Wx σ F ρ ih H xs vs Q hr rs hp
  unfold biMax2 at hp
  split at hp
  · cases rs with | cons r t => cases t with | cons r2 t => cases t; cases r with | d r => cases r2 with | d r2 => cases r; cases r2; exact ⟨_, _, rfl, hp.ok hr _ (.d (.int _))⟩
  · exact hp.elim
end

/-! ### isinstance(x, T), T a built-in type -/
inductive Ty where
  | int | bool | str | tup | lst
def Ty.nm : Ty → String
  | .int => "int" | .bool => "bool" | .str => "str" | .tup => "tuple" | .lst => "list"
def isD (t : Ty) : D → Bool
  | .non => false
  | .bl _ => match t with | .int => true | .bool => true | _ => false
  | .int _ => match t with | .int => true | _ => false
  | .str _ => match t with | .str => true | _ => false
  | .tup _ => match t with | .tup => true | _ => false
  | .lst _ => match t with | .lst => true | _ => false
def cIsi (t : Ty) (c : Cd) : Cd := fun e h => (c e h).bind fun w h => match w with
  | .d x => .ok (.d (.bl (isD t x))) h
  | .r n => match h[n]? with
    | some (.lst _) => .ok (.d (.bl (match t with | .lst => true | _ => false))) h
    | _ => .no
def tyB (t : Ty) (a : String) : Bool := match t with
  | .int => a == "int" || a == "bool" | .bool => a == "bool" | .str => a == "str" | .tup => a == "tuple" | .lst => a == "list"
theorem kit_tab : ∀ (a : String) (t : Ty), a ∈ ["NoneType", "bool", "int", "str", "tuple", "list"] → kitB a t.nm = some (tyB t a) := by
  intro a t h
  simp only [List.mem_cons, List.not_mem_nil, or_false] at h
  rcases h with rfl | rfl | rfl | rfl | rfl | rfl <;> cases t <;> decide +kernel
theorem isi_at {K : PySem.W.Frag} {T : Tb} {Wx : WX} {σ : L2.St} {F ρ : List Addr} {H : Hp} {ih : Hh} {t : Ty} {w : W} {v : V} {Q : VK} (hr : HR K T F ρ ih H) (r : RW K F ρ H w v)
    (hp : Pst K T Wx σ F ρ H (match w with
      | .d x => .ok (.d (.bl (isD t x))) ih
      | .r n => match ih[n]? with
        | some (.lst _) => .ok (.d (.bl (match t with | .lst => true | _ => false))) ih
        | _ => .no) fun ρ' H' _ w => ∀ v, RW K F ρ' H' w v → Q v H') : rIsi K [v, .ty t.nm] H Q := by
  cases r with
  | d r =>
    have k : ∀ (a : String) (b : Bool), a ∈ ["NoneType", "bool", "int", "str", "tuple", "list"] → TyX K H v (.type a) → tyB t a = b → Q (.bl b) H → rIsi K [v, .ty t.nm] H Q := fun a b ha ty e q =>
      ⟨v, .ty t.nm, .type a, .type t.nm, b, rfl, .ty _, ty, kit_ty (by rw [kit_tab a t ha, e]), q⟩
    have q := hp.ok hr
    cases r with
    | non => exact k "NoneType" _ (by simp) (.base .non) (by cases t <;> rfl) (q _ (.d (.bl _)))
    | bl b => exact k "bool" _ (by simp) (.base (.bl b)) (by cases t <;> rfl) (q _ (.d (.bl _)))
    | int i => exact k "int" _ (by simp) (.base (.int i)) (by cases t <;> rfl) (q _ (.d (.bl _)))
    | str l z => exact k "str" _ (by simp) (.base (.str _)) (by cases t <;> rfl) (q _ (.d (.bl _)))
    | tup h z rl =>
      have ty : TyX K H (.ref _) (.type "tuple") := .base (.tup h.1)
      exact k "tuple" _ (by simp) ty (by cases t <;> rfl) (q _ (.d (.bl _)))
    | lst h z rl =>
      have ty : TyX K H (.ref _) (.type "list") := h.1.elim (fun e => .base (.lst e)) fun ⟨o, e⟩ => .base (.frz e)
      exact k "list" _ (by simp) ty (by cases t <;> rfl) (q _ (.d (.bl _)))
  | r hn =>
    dsimp only at hp
    split at hp
    · rename_i l ho
      obtain ⟨u, eH, ro⟩ := hr.at hn ho
      cases ro with
      | lst z rs => exact ⟨_, .ty t.nm, .type "list", .type t.nm, _, rfl, .ty _, .base (.lst eH), kit_ty (by rw [kit_tab "list" t (by simp)]), (by
          have := hp.ok hr _ (.d (.bl _))
          cases t <;> exact this)⟩
    · exact hp.elim
section
variable {X : Cx} {T : Tb} {Wx : WX} {x y : Str} {p p2 pos : Pos} {e : Expr} {c : Cd}
theorem fe_isi {t : Ty} (hg : Gl X x) (hm : X.mg x = none) (hv : bootBuiltins x = some (.builtin "isinstance")) (hn : x ≠ "__name__") (hdb : (x == ("__debug__" : Str)) = false) (hty : PE X (.Name y p2) (tC (.ty t.nm)))
    (he : starEach (e :: [.Name y p2]) X.env = (false, eval e X.env) :: starEach [.Name y p2] X.env) (he2 : starEach [.Name y p2] X.env = (false, eval (.Name y p2) X.env) :: starEach [] X.env)
    (hpl : (backTo pos (starEach [.Name y p2] X.env)).any (·.1) = false) (h : FE X T Wx e c) : FE X T Wx (.Call (.Name x p) [e, .Name y p2] [] pos) (cIsi t c) :=
  PE.imp (pe_callB call_isi hg hm hv (pa_cons h (pa_cons hty pa_nil he2) he) hn hdb he hpl) fun σ H Q q => by
    obtain ⟨F, ρ, ev, ih, hr, re, hp⟩ := q
    exact ⟨F, ρ, ev, ih, hr, re, hp.bind.mono fun ρ1 H1 ih1 w g1 hr1 hp1 v r => isi_at hr1 r hp1⟩
end
end Fz
set_option Elab.async false
set_option linter.all false
set_option maxRecDepth 100000
set_option maxHeartbeats 2000000
/-! Fz: methods of lists, stores by place, dicts. -/
namespace Fz
open PySem L2 PyProof.Rows

def FMt (K : PySem.W.Frag) (T : Tb) (op : W → List W → Hh → R W) (r : V → List V → Hp → VK → Prop) : Prop := ∀ (Wx : WX) (σ : L2.St) (F ρ : List Addr) (ih : Hh) (H : Hp) (x : W) (xs : List W) (v : V) (vs : List V) (Q : VK), HR K T F ρ ih H → RW K F ρ H x v → RWs K F ρ H xs vs →
  Pst K T Wx σ F ρ H (op x xs ih) (fun ρ' H' _ w => ∀ v, RW K F ρ' H' w v → Q v H') → r v vs H Q
/-- a method of a list -/
def cLm (op : W → List W → Hh → R W) (o : Cd) (a : Ca) : Cd := fun e h => (o e h).bind fun x h => match lstW x h with
  | some _ => (a e h).bind fun ws h => op x ws h
  | none => .no
section
variable {X : Cx} {T : Tb} {Wx : WX} {o e : Expr} {es : List Expr} {name : Str} {apos cpos : Pos} {id : String} {r : V → List V → Hp → VK → Prop} {op : W → List W → Hh → R W} {co : Cd} {ca : Ca}
theorem fe_lm (slot : Slot "list" name id) (hty : typeOf (.builtin id) = pure (.type "method_descriptor")) (hm : MtR X id r) (hf : FMt X.K T op r)
    (hbase : attributeBase o name X.env (eval o X.env) = eval o X.env)
    (hfew : ((backTo cpos (starEach (e :: es) X.env)).all (fun x => !x.1) && (backToKw cpos (keywordEach [] X.env)).all (fun x => x.1.isSome)
      && decide ((e :: es).length + ([] : List Keyword).length + (if ([] : List Keyword).isEmpty then 0 else 1) < 30)) = true)
    (hline : (apos.endLine == cpos.line) = true) (hs : starEach (e :: es) X.env = (false, eval e X.env) :: starEach es X.env) (hplain : (backTo cpos (starEach es X.env)).any (·.1) = false)
    (ho : FE X T Wx o co) (ha : FA X T Wx (e :: es) ca) : FE X T Wx (.Call (.Attribute o name apos) (e :: es) [] cpos) (cLm op co ca) :=
  PE.imp (pe_bm PySem.F.plainAttrs_list slot hty hm ho ha hbase hfew hline hs hplain) fun σ H Q q => by
    obtain ⟨F, ρ, ev, ih, hr, re, hp⟩ := q
    refine ⟨F, ρ, ev, ih, hr, re, hp.bind.mono fun ρ1 H1 ih1 w g1 hr1 hp1 v r1 => ?_⟩
    split at hp1
    · rename_i l e1
      obtain ⟨a, us, rfl, s, rs, _⟩ := lstW_at hr1 r1 e1
      refine ⟨.inl ⟨rfl, _, .inl s⟩, F, ρ1, ev, ih1, hr1, re.grow g1 hr, hp1.bind.mono fun ρ2 H2 ih2 ws g2 hr2 hp2 vs rs2 => ?_⟩
      exact hf Wx σ F ρ2 ih2 H2 w ws _ vs Q hr2 (r1.grow g2 hr1) rs2 hp2
    · exact hp1.elim
theorem fe_lm0 (slot : Slot "list" name id) (hty : typeOf (.builtin id) = pure (.type "method_descriptor")) (hm : MtR X id r) (hf : FMt X.K T op r)
    (hbase : attributeBase o name X.env (eval o X.env) = eval o X.env) (hline : (apos.endLine == cpos.line) = true) (ho : FE X T Wx o co) : FE X T Wx (.Call (.Attribute o name apos) [] [] cpos) (cLm op co aNil) :=
  PE.imp (pe_bm0 PySem.F.plainAttrs_list slot hty hm ho hbase hline) fun σ H Q q => by
    obtain ⟨F, ρ, ev, ih, hr, re, hp⟩ := q
    refine ⟨F, ρ, ev, ih, hr, re, hp.bind.mono fun ρ1 H1 ih1 w g1 hr1 hp1 v r1 => ?_⟩
    split at hp1
    · rename_i l e1
      obtain ⟨a, us, rfl, s, rs, _⟩ := lstW_at hr1 r1 e1
      exact ⟨.inl ⟨rfl, _, .inl s⟩, hf Wx σ F ρ1 ih1 H1 w [] _ [] Q hr1 r1 .nil hp1⟩
    · exact hp1.elim
end
section
variable {K : PySem.W.Frag} {T : Tb} {F ρ : List Addr} {H : Hp} {ih : Hh}
/-- the list n gets other items -/
theorem lset {Wx : WX} {σ : L2.St} {n : Nat} {a : Addr} {l' : List W} {vs' : List V} {w : W} {k : List Addr → Hp → Hh → W → Prop} (hr : HR K T F ρ ih H) (hn : ρ[n]? = some a) (z : l'.length ≤ sizeLine)
    (rs : ∀ H', Keep (F ++ ρ) H (F ++ ρ) H' → RWs K F ρ H' l' vs') (hp : Pst K T Wx σ F ρ H (.ok w (ih.set n (.lst l'))) k) : k ρ (upd H a (.lst vs')) (ih.set n (.lst l')) w := by
  have m := List.mem_of_getElem? hn
  have g : Grow F ρ H ρ (upd H a (.lst vs')) := grow_set m
  exact hp _ _ g (hr.set hn (.lst z (rs _ (g.keepM hr))))
def mAppend (x : W) (ws : List W) (h : Hh) : R W := match x, ws with
  | .r n, [w] => match h[n]? with
    | some (.lst l) => if l.length < 16777216 then .ok (.d .non) (h.set n (.lst (l ++ [w]))) else .no
    | _ => .no
  | _, _ => .no
theorem RWs.kp {F' ρ' : List Addr} {H' : Hp} (k : Keep (F ++ ρ) H (F' ++ ρ') H') (g : ∀ (n : Nat) (a : Addr), ρ[n]? = some a → ρ'[n]? = some a) {w : List W} {v : List V} (r : RWs K F ρ H w v) : RWs K F' ρ' H' w v := Paired.mapP r fun _ _ x => x.kp k g
theorem fm_append : FMt K T mAppend rAppend := by
  intro Wx σ F ρ ih H x xs v vs Q hr r rs hp
  unfold mAppend at hp
  split at hp
  · rename_i n w
    split at hp
    · rename_i l ho
      split at hp
      · rename_i z
        cases r with | r hn =>
        cases rs with | cons rw t => cases t with | nil =>
          obtain ⟨u, eH, ro⟩ := hr.at hn ho
          cases ro with
          | lst z' rl =>
            refine ⟨_, _, _, rfl, rfl, eH, by rw [← rl.length]; exact z, ?_⟩
            exact lset hr hn (by simp; exact z) (fun H' k => RWs.kp k (fun _ _ q => q) (rl.app (.cons rw .nil))) hp _ (.d .non)
      · exact hp.elim
    · exact hp.elim
  · exact hp.elim
def mPop (x : W) (ws : List W) (h : Hh) : R W := match x, ws with
  | .r n, [] => match h[n]? with
    | some (.lst l) => match l[l.length - 1]? with
      | some w => .ok w (h.set n (.lst l.dropLast))
      | none => .no
    | _ => .no
  | _, _ => .no
theorem RWs.dropLast {l : List W} {vs : List V} (h : RWs K F ρ H l vs) : RWs K F ρ H l.dropLast vs.dropLast := by
  induction h with
  | nil => exact .nil
  | cons r t ih =>
    cases t with
    | nil => exact .nil
    | cons r2 t2 => exact .cons r ih
theorem fm_pop : FMt K T mPop rPop := by
  intro Wx σ F ρ ih H x xs v vs Q hr r rs hp
  unfold mPop at hp
  split at hp
  · rename_i n
    split at hp
    · rename_i l ho
      split at hp
      · rename_i w hw
        cases r with | r hn =>
        cases rs with | nil =>
          obtain ⟨u, eH, ro⟩ := hr.at hn ho
          cases ro with
          | lst z' rl =>
            obtain ⟨y, e1, r1⟩ := rl.get hw
            refine ⟨_, _, y, rfl, rfl, eH, by rw [← rl.length]; exact e1, ?_⟩
            have m := List.mem_of_getElem? hn
            have key := lset hr hn (by simp; omega) (fun H' k => RWs.kp k (fun _ _ q => q) rl.dropLast) hp
            exact key y (r1.grow (grow_set m) hr)
      · exact hp.elim
    · exact hp.elim
  · exact hp.elim
end
/-- xs.extend(ys): ys any list -/
def rExtR : V → List V → Hp → VK → Prop := fun x vs H Q => ∃ l b xs zs, x = .ref l ∧ vs = [.ref b] ∧ H l = some (.lst xs) ∧ Rd H b (.lst zs) ∧ xs.length + zs.length ≤ sizeLine ∧ Q .non (upd H l (.lst (xs ++ zs)))
theorem mt_extR {X : Cx} : MtR X "list.extend" rExtR := by
  intro pins s σ H x vs v us Q I rx rv h
  obtain ⟨l, b, xs, zs, rfl, rfl, hH, hB, hz, q⟩ := h
  cases rx
  obtain ⟨u, rfl, ru⟩ := rv.one
  cases ru
  obtain ⟨_, its, n, r, hl, e⟩ := I.lstM hH
  obtain ⟨_, jts, m, r2, hl2, e2⟩ := Inv.lstR I hB
  have hsz : its.toArray.size + jts.toArray.size ≤ sizeLine := by simp; omega
  have hlong : ¬ (!its.toArray.isEmpty && Builtin.List.listTooLong (its.toArray.size + jts.toArray.size)) = true := by
    rw [notLongL hsz, Bool.and_false]; simp
  refine call_meets F.slot_list_extend ⟨_, e, rfl⟩ F.entry_list_extend (F.args_list_extend_2 _ _)
    (AutoSeq1.list_extend_list_list_0 l its.toArray n b jts.toArray m hlong (by simp; omega) (by omega)) ⟨e, e2, ?_⟩
  exact ⟨.non, _, I.lset (its' := its ++ jts) hH e (by simp) (r.append r2) (by simp; omega), rfl, q⟩
section
variable {K : PySem.W.Frag} {T : Tb}
def mExtend (x : W) (ws : List W) (h : Hh) : R W := match x, ws with
  | .r n, [w] => match h[n]?, lstW w h with
    | some (.lst l), some k => if l.length + k.length ≤ 16777216 then .ok (.d .non) (h.set n (.lst (l ++ k))) else .no
    | _, _ => .no
  | _, _ => .no
theorem fm_extend : FMt K T mExtend rExtR := by
  intro Wx σ F ρ ih H x xs v vs Q hr r rs hp
  unfold mExtend at hp
  split at hp
  · rename_i n w
    split at hp
    · rename_i l k ho hk
      split at hp
      · rename_i z
        cases r with | r hn =>
        cases rs with | cons rw t => cases t with | nil =>
          obtain ⟨u, eH, ro⟩ := hr.at hn ho
          obtain ⟨a, us, rfl, s, rk, _⟩ := lstW_at hr rw hk
          cases ro with
          | lst z' rl =>
            refine ⟨_, _, _, _, rfl, rfl, eH, s, by rw [← rl.length, ← rk.length]; exact z, ?_⟩
            exact lset hr hn (by simp; exact z) (fun H' k => RWs.kp k (fun _ _ q => q) (rl.app rk)) hp _ (.d .non)
      · exact hp.elim
    · exact hp.elim
  · exact hp.elim
/-- xs.index(y) -/
def findD (y : D) : List D → Option Nat
  | [] => none
  | x :: r => if D.eqv x y then some 0 else (findD y r).map (· + 1)
theorem findD_at {y : D} : ∀ {l : List D} {j : Nat}, findD y l = some j → (∃ z, l[j]? = some z ∧ D.eqv z y = true) ∧ ∀ m z, m < j → l[m]? = some z → D.eqv z y = false
  | [], j, h => by simp [findD] at h
  | x :: r, j, h => by
    unfold findD at h
    split at h
    · rename_i c
      cases h
      exact ⟨⟨x, rfl, c⟩, fun m z hm => absurd hm (Nat.not_lt_zero _)⟩
    · rename_i c
      rw [Option.map_eq_some_iff] at h
      obtain ⟨i, hi, rfl⟩ := h
      obtain ⟨⟨z, h1, h2⟩, h3⟩ := findD_at hi
      refine ⟨⟨z, by simpa using h1, h2⟩, fun m u hm hu => ?_⟩
      cases m with
      | zero => simp at hu; subst hu; simpa using c
      | succ m => exact h3 m u (by omega) (by simpa using hu)
def mIndex (x : W) (ws : List W) (h : Hh) : R W := match ws with
  | [w] => match valD x h, valD w h with
    | some (.lst l), some y => if sh 64 (.lst l) && sh 64 y then (match findD y l with
      | some j => .ok (.d (.int j)) h
      | none => .no) else .no
    | _, _ => .no
  | _ => .no
theorem fm_index : FMt K T mIndex (rIndexD K) := by
  intro Wx σ F ρ ih H x xs v vs Q hr r rs hp
  unfold mIndex at hp
  split at hp
  · rename_i w
    split at hp
    · rename_i l y e1 e2
      split at hp
      · rename_i c
        rw [Bool.and_eq_true] at c
        split at hp
        · rename_i j hj
          cases rs with | cons rw t => cases t with | nil =>
            obtain ⟨⟨z, h1, h2⟩, h3⟩ := findD_at hj
            have dx := valD_dp hr r e1
            have hx : ∃ a, v = V.ref a := by
              simp only [D.py] at dx
              cases dx
              exact ⟨_, rfl⟩
            obtain ⟨a, rfl⟩ := hx
            refine ⟨a, _, y.py, pyL l, j, z.py, rfl, rfl, by simpa [D.py] using dx, valD_dp hr rw e2, by simpa [D.py] using sh_shaped c.1, sh_shaped c.2, by rw [pyL_map, List.getElem?_map, h1]; rfl, by rw [eqv_py]; exact h2, fun m z' hm hz => ?_, hp.ok hr _ (.d (.int _))⟩
            rw [pyL_map, List.getElem?_map, Option.map_eq_some_iff] at hz
            obtain ⟨u, hu, rfl⟩ := hz
            rw [eqv_py]
            exact h3 m u hm hu
        · exact hp.elim
      · exact hp.elim
    · exact hp.elim
  · exact hp.elim
end
/-! ### xs[i] = e -/
def setAt (x y w : W) (h : Hh) : Option Hh := match x, y with
  | .r n, .d (.int k) => match h[n]? with
    | some (.lst l) => (ixN l.length k).map fun j => h.set n (.lst (l.set j w))
    | _ => none
  | _, _ => none
def sSet (c o i : Cd) : Cs := fun e h => lift (c e h) e fun w h => lift (o e h) e fun x h => lift (i e h) e fun y h => match setAt x y w h with
  | some h' => .nx e h'
  | none => .no
section
variable {X : Cx} {T : Tb} {Wx : WX} {o i e : Expr} {pos pos' tpos : Pos} {c co ci : Cd}
theorem RWs.set {K : PySem.W.Frag} {F ρ : List Addr} {H : Hp} {l : List W} {vs : List V} (h : RWs K F ρ H l vs) {w : W} {v : V} (r : RW K F ρ H w v) : ∀ j : Nat, RWs K F ρ H (l.set j w) (vs.set j v) := by
  induction h with
  | nil => intro j; simp; exact .nil
  | cons r1 t ih => intro j; cases j with
    | zero => exact .cons r t
    | succ j => exact .cons r1 (ih j)
theorem setAt_at {K : PySem.W.Frag} {F ρ : List Addr} {H : Hp} {ih ih' : Hh} {x y w : W} {v1 v2 v3 : V} (hr : HR K T F ρ ih H) (r1 : RW K F ρ H x v1) (r2 : RW K F ρ H y v2) (r3 : RW K F ρ H w v3) (e : setAt x y w ih = some ih') :
    ∃ p xs k j, v1 = .ref p ∧ v2 = .int k ∧ H p = some (.lst xs) ∧ ixN xs.length k = some j ∧ p ∈ ρ ∧ HR K T F ρ ih' (upd H p (.lst (xs.set j v3))) := by
  unfold setAt at e
  split at e
  · rename_i n k
    split at e
    · rename_i l ho
      rw [Option.map_eq_some_iff] at e
      obtain ⟨j, hj, rfl⟩ := e
      cases r1 with | r hn =>
      cases r2 with | d r2 => cases r2 with | int =>
        obtain ⟨u, eH, ro⟩ := hr.at hn ho
        cases ro with
        | lst z rl =>
          have m := List.mem_of_getElem? hn
          refine ⟨_, _, k, j, rfl, rfl, eH, by rw [← rl.length]; exact hj, m, hr.set hn (.lst (by simpa using z) ?_)⟩
          exact RWs.kp (Grow.keepM (grow_set m) hr) (fun _ _ q => q) (rl.set r3 j)
    · cases e
  · cases e
theorem fs_setL (ha : ∀ v, assign (.Subscript o i tpos) X.env v = (do
      let ov ← holding [v] (eval o X.env)
      let iv ← holding [v, ov] (eval i X.env)
      standAt tpos
      holding [v, ov, iv] (setItem ov iv v)
      release [v, ov, iv] []))
    (hs : swapsWithSole [.Subscript o i tpos] e pos.line X.env = pure false) (hw : swappedStores [.Subscript o i tpos] e X.env = pure none) (h1 : (assignEach [.Subscript o i tpos] X.env).map (·.2) = [assign (.Subscript o i tpos) X.env])
    (he : FE X T Wx e c) (ho : FE X T Wx o co) (hi : FE X T Wx i ci) : FS X T Wx (.Assign [.Subscript o i tpos] e pos) (sSet c co ci) := PS.imp (ps_asg he (pg_sub ho hi set_list ha) hs hw h1) fun D σ H q => by
  obtain ⟨F, ρ, ev, ih, hr, re, hp⟩ := q
  refine ⟨F, ρ, ev, ih, hr, re, (Pss.lift hr re hp).mono fun ρ1 H1 ih1 w g1 hr1 hp1 v3 r3 => ?_⟩
  have re1 := re.grow g1 hr
  refine ⟨F, ρ1, ev, ih1, hr1, re1, (Pss.lift hr1 re1 hp1).mono fun ρ2 H2 ih2 x g2 hr2 hp2 v1 r1 => ?_⟩
  have re2 := re1.grow g2 hr1
  refine ⟨F, ρ2, ev, ih2, hr2, re2, (Pss.lift hr2 re2 hp2).mono fun ρ3 H3 ih3 y g3 hr3 hp3 v2 r2 => ?_⟩
  have re3 := re2.grow g3 hr2
  split at hp3
  · rename_i h' q
    obtain ⟨p, xs, k, j, rfl, rfl, eH, hj, m, hr4⟩ := setAt_at hr3 (r1.grow g3 hr2) r2 ((r3.grow g2 hr1).grow g3 hr2) q
    exact ⟨_, _, _, _, rfl, rfl, eH, hj, hp3 _ _ _ (grow_set m) hr4 (re3.grow (grow_set m) hr3)⟩
  · exact hp3.elim
/-! ### o.f op= e -/
def putAs (c : Nat) (n f : Nat) (w : W) (h : Hh) : Option Hh := match h[n]? with
  | some (.ins c' fs) => if c' = c ∧ fs.length < 800 then some (h.set n (.ins c (putf f w fs))) else none
  | _ => none
def sFldAug' (f : Nat) (op : W → W → Hh → R W) (o c : Cd) : Cs := fun e h => lift (o e h) e fun x h => match x with
  | .r n => match h[n]? with
    | some (.ins k fs) => match lkf f fs with
      | some v => lift ((c e h).bind fun y h => op v y h) e fun z h => match putAs k n f z h with
        | some h' => .nx e h'
        | none => .no
      | none => .no
    | _ => .no
  | _ => .no
theorem putAs_at {K : PySem.W.Frag} {F ρ : List Addr} {H : Hp} {ih ih' : Hh} {c n fl : Nat} {a : Addr} {w : W} {u : V} (inj : ∀ i, T.fld i = T.fld fl → i = fl) (hr : HR K T F ρ ih H) (hn : ρ[n]? = some a) (rw : RW K F ρ H w u) (e : putAs c n fl w ih = some ih') :
    ∃ dx fs, H a = some (.ins (T.cad c) dx fs) ∧ fs.length < 1000 ∧ HR K T F ρ ih' (upd H a (.ins (T.cad c) dx (putF (T.fld fl) u fs))) := by
  unfold putAs at e
  split at e
  · rename_i c' fs ho
    split at e
    · rename_i hc
      obtain ⟨rfl, hc⟩ := hc
      cases e
      obtain ⟨o, eH, ro⟩ := hr.at hn ho
      cases ro with
      | ins rs z =>
        have m := List.mem_of_getElem? hn
        refine ⟨_, _, eH, by rw [← Paired.length rs]; omega, hr.set hn (.ins (putf_at inj (rw.grow (grow_set m) hr) (Paired.mapP rs fun _ _ y => ⟨y.1, y.2.grow (grow_set m) hr⟩)) ?_)⟩
        exact Nat.lt_of_le_of_lt (putf_len _ _ _) (by omega)
    · cases e
  · cases e
theorem fs_fldAug {op : Operator} {rd : V → V → Hp → VK → Prop} {opf : W → W → Hh → R W} {fl : Nat} {f : Str} (hf : T.fld fl = f) (inj : ∀ i, T.fld i = T.fld fl → i = fl) (cl : ∀ c, Cls X.K (T.cad c)) (na : ∀ c, NoAttr X.K (T.cad c) f) (hop : InOp X op rd) (hfo : FOp X.K T opf rd)
    (ho : FE X T Wx o co) (he : FE X T Wx e c) : FS X T Wx (.AugAssign (.Attribute o f tpos) op e pos) (sFldAug' fl opf co c) := PS.imp (ps_fldaug ho he hop) fun D σ H q => by
  subst hf
  obtain ⟨F, ρ, ev, ih, hr, re, hp⟩ := q
  refine ⟨F, ρ, ev, ih, hr, re, (Pss.lift hr re hp).mono fun ρ1 H1 ih1 x g1 hr1 hp1 u r1 => ?_⟩
  have re1 := re.grow g1 hr
  split at hp1
  · rename_i n
    split at hp1
    · rename_i k fs hk
      split at hp1
      · rename_i v hv
        cases r1 with | r hn =>
          obtain ⟨uo, eH, ro⟩ := hr1.at hn hk
          cases ro with
          | ins rs z =>
            obtain ⟨v', e1, rv⟩ := lkf_at inj rs hv
            refine ⟨_, _, _, _, v', rfl, eH, cl _, na _, e1, F, ρ1, ev, ih1, hr1, re1, ((Pss.lift hr1 re1 hp1).bind).mono fun ρ2 H2 ih2 y g2 hr2 hp2 y' ry => ?_⟩
            have re2 := re1.grow g2 hr1
            refine hfo Wx σ F ρ2 ih2 H2 v y v' y' _ hr2 (rv.grow g2 hr1) ry (hp2.mono fun ρ3 H3 ih3 w g3 hr3 hp3 w' rw' => ?_)
            have re3 := re2.grow g3 hr2
            split at hp3
            · rename_i h' q
              have hn3 := g3.get (g2.get hn)
              obtain ⟨dx, fs', eH3, hl, hr4⟩ := putAs_at inj hr3 hn3 rw' q
              exact ⟨_, _, eH3, hl, Pss.nx (Pss.from (grow_set (List.mem_of_getElem? hn3)) hr4 hp3) hr4 (re3.grow (grow_set (List.mem_of_getElem? hn3)) hr3)⟩
            · exact hp3.elim
      · exact hp1.elim
    · exact hp1.elim
  · exact hp1.elim
end
/-! ### dicts -/
mutual
def D.beq0 : D → D → Bool
  | .non, .non => true
  | .bl a, .bl b => a == b
  | .int a, .int b => a == b
  | .str a, .str b => a == b
  | .tup a, .tup b => beqL0 a b
  | .lst a, .lst b => beqL0 a b
  | _, _ => false
def beqL0 : List D → List D → Bool
  | [], [] => true
  | x :: xs, y :: ys => D.beq0 x y && beqL0 xs ys
  | _, _ => false
end
mutual
theorem D.beq0_iff : ∀ a b : D, D.beq0 a b = true ↔ a = b
  | .non, b => by cases b <;> simp [D.beq0]
  | .bl x, b => by cases b <;> simp [D.beq0]
  | .int x, b => by cases b <;> simp [D.beq0]
  | .str x, b => by cases b <;> simp [D.beq0]
  | .tup x, b => by
    cases b with
    | tup y => simp only [D.beq0, D.tup.injEq]; exact beqL0_iff x y
    | _ => simp [D.beq0]
  | .lst x, b => by
    cases b with
    | lst y => simp only [D.beq0, D.lst.injEq]; exact beqL0_iff x y
    | _ => simp [D.beq0]
theorem beqL0_iff : ∀ a b : List D, beqL0 a b = true ↔ a = b
  | [], [] => by simp [beqL0]
  | [], y :: ys => by simp [beqL0]
  | x :: xs, [] => by simp [beqL0]
  | x :: xs, y :: ys => by simp only [beqL0, Bool.and_eq_true, List.cons.injEq]; rw [D.beq0_iff x y, beqL0_iff xs ys]
end
/-- a number of a datum, to tell data apart quickly -/
def fpL : List D → Nat
  | .int i :: r => i.toNat + 1 + 64 * fpL r
  | _ => 0
def fp : D → Nat
  | .tup l => fpL l
  | _ => 0
def D.beq (a b : D) : Bool := Nat.beq (fp a) (fp b) && D.beq0 a b
theorem D.beq_iff (a b : D) : D.beq a b = true ↔ a = b := by
  unfold D.beq
  rw [Bool.and_eq_true, D.beq0_iff]
  exact ⟨fun h => h.2, fun h => ⟨by rw [h]; exact Nat.beq_refl _, h⟩⟩
instance : DecidableEq D := fun a b => if h : D.beq a b = true then isTrue ((D.beq_iff a b).mp h) else isFalse fun e => h ((D.beq_iff a b).mpr e)
def lkd (k : D) : List (D × W) → Option W
  | [] => none
  | (a, w) :: r => if D.beq a k then some w else lkd k r
def putd (k : D) (w : W) (l : List (D × W)) : List (D × W) := if l.any (fun p => D.beq p.1 k) then l.map (fun p => if D.beq p.1 k then (p.1, w) else p) else l ++ [(k, w)]
def dropd (k : D) (l : List (D × W)) : List (D × W) := l.filter fun p => !(D.beq p.1 k)
/-- a datum that may be a key: a number, a text -/
def D.isK : D → Bool
  | .int _ => true
  | .str _ => true
  | _ => false
def D.isKT : D → Bool
  | .tup l => l.all D.isK
  | _ => false
def kOf : D → Key
  | .int i => .inl i
  | .str l => .inr (toStr l)
  | _ => .inl 0
theorem Rk.eq {d : D} {k : Key} (h : Rk d k) : k = kOf d ∧ d.isK = true := by cases h <;> exact ⟨rfl, rfl⟩
theorem Rk.of : ∀ {d : D}, d.isK = true → Rk d (kOf d)
  | .int i, _ => .int i
  | .str l, _ => .str l
  | .non, h => by simp [D.isK] at h
  | .bl _, h => by simp [D.isK] at h
  | .tup _, h => by simp [D.isK] at h
  | .lst _, h => by simp [D.isK] at h
theorem kOf_inj {a b : D} (ha : a.isK = true) (hb : b.isK = true) : kOf a = kOf b ↔ a = b := by
  cases a <;> cases b <;> simp [D.isK, kOf] at *
  exact ⟨fun h => toStr_inj h, fun h => by rw [h]⟩
theorem Rks.eq : ∀ {ds : List D} {ks : List Key}, Rks ds ks → ks = ds.map kOf ∧ ds.all D.isK = true
  | _, _, .nil => ⟨rfl, rfl⟩
  | _, _, .cons a b => by
    obtain ⟨e1, e2⟩ := a.eq
    obtain ⟨e3, e4⟩ := Rks.eq b
    exact ⟨by rw [List.map_cons, e1, e3], by rw [List.all_cons, e2, e4]; rfl⟩
theorem Rks.of : ∀ {ds : List D}, ds.all D.isK = true → Rks ds (ds.map kOf)
  | [], _ => .nil
  | d :: ds, h => by
    rw [List.all_cons, Bool.and_eq_true] at h
    exact .cons (Rk.of h.1) (Rks.of h.2)
theorem kOfs_inj : ∀ {a b : List D}, a.all D.isK = true → b.all D.isK = true → (a.map kOf = b.map kOf ↔ a = b)
  | [], [], _, _ => by simp
  | [], _ :: _, _, _ => by simp
  | _ :: _, [], _, _ => by simp
  | x :: xs, y :: ys, ha, hb => by
    rw [List.all_cons, Bool.and_eq_true] at ha hb
    simp only [List.map_cons, List.cons.injEq]
    rw [kOf_inj ha.1 hb.1, kOfs_inj ha.2 hb.2]
theorem Paired.app' {α β : Type} {A : α → β → Prop} : ∀ {l l2 : List α} {m m2 : List β}, Paired A l m → Paired A l2 m2 → Paired A (l ++ l2) (m ++ m2)
  | _, _, _, _, .nil, r => r
  | _, _, _, _, .cons x y, r => .cons x (Paired.app' y r)
/-- kinds of keys -/
def ktOf : D → List Key
  | .tup l => l.map kOf
  | _ => []
theorem RkT.eq {d : D} {ks : List Key} (h : RkT d ks) : ks = ktOf d ∧ d.isKT = true := by
  obtain ⟨ds, rfl, r⟩ := h
  exact r.eq
theorem RkT.of : ∀ {d : D}, d.isKT = true → RkT d (ktOf d)
  | .tup l, h => ⟨l, rfl, Rks.of h⟩
  | .non, h => by simp [D.isKT] at h
  | .bl _, h => by simp [D.isKT] at h
  | .int _, h => by simp [D.isKT] at h
  | .str _, h => by simp [D.isKT] at h
  | .lst _, h => by simp [D.isKT] at h
theorem ktOf_inj : ∀ {a b : D}, a.isKT = true → b.isKT = true → (ktOf a = ktOf b ↔ a = b) := by
  intro a b ha hb
  cases a <;> cases b <;> simp [D.isKT] at ha hb
  simp only [ktOf, D.tup.injEq]
  exact kOfs_inj (by simpa using ha) (by simpa using hb)
section
variable {K : PySem.W.Frag} {T : Tb} {F ρ : List Addr} {H : Hp} {κ : Type} [DecidableEq κ] {kf : D → κ} {ok : D → Bool}
/-- entries: by their keys and values -/
abbrev RD (K : PySem.W.Frag) (F ρ : List Addr) (H : Hp) (kf : D → κ) (ok : D → Bool) : List (D × W) → List (κ × V) → Prop := Paired fun p q => (q.1 = kf p.1 ∧ ok p.1 = true) ∧ RW K F ρ H p.2 q.2
variable (inj : ∀ {a b : D}, ok a = true → ok b = true → (kf a = kf b ↔ a = b))
include inj
theorem key_eq {a k : D} {q : κ} (ha : q = kf a ∧ ok a = true) (hk : ok k = true) : decide (q = kf k) = D.beq a k := by
  obtain ⟨rfl, ha⟩ := ha
  by_cases e : a = k
  · subst e; rw [decide_eq_true rfl]; exact ((D.beq_iff a a).mpr rfl).symm
  · have n1 : ¬ kf a = kf k := fun z => e ((inj ha hk).mp z)
    rw [decide_eq_false n1]
    cases q : D.beq a k with
    | false => rfl
    | true => exact absurd ((D.beq_iff a k).mp q) e
theorem RD.look {l : List (D × W)} {kvs : List (κ × V)} {k : D} (hk : ok k = true) (r : RD K F ρ H kf ok l kvs) : (∀ w, lkd k l = some w → ∃ v, valV kvs (kf k) = some v ∧ RW K F ρ H w v) ∧ (lkd k l = none → valV kvs (kf k) = none) := by
  induction r with
  | nil => exact ⟨fun w e => (by cases e), fun _ => rfl⟩
  | @cons p q l kvs x t ih =>
    have e := key_eq inj x.1 hk
    unfold lkd
    by_cases c : q.1 = kf k
    · rw [decide_eq_true c] at e
      rw [← e, if_pos rfl, valV_pos c]
      exact ⟨fun w z => (by cases z; exact ⟨_, rfl, x.2⟩), fun z => (by cases z)⟩
    · rw [decide_eq_false c] at e
      rw [← e, if_neg Bool.false_ne_true, valV_neg c]
      exact ih
theorem RD.any {l : List (D × W)} {kvs : List (κ × V)} {k : D} (hk : ok k = true) (r : RD K F ρ H kf ok l kvs) : (kvs.any fun kv => decide (kv.1 = kf k)) = l.any fun p => D.beq p.1 k := by
  induction r with
  | nil => rfl
  | cons x t ih => rw [List.any_cons, List.any_cons, ih, key_eq inj x.1 hk]
theorem RD.repl {l : List (D × W)} {kvs : List (κ × V)} {k : D} {w : W} {v : V} (hk : ok k = true) (r : RD K F ρ H kf ok l kvs) (rv : RW K F ρ H w v) : RD K F ρ H kf ok (l.map fun p => if D.beq p.1 k = true then (p.1, w) else p) (kvs.map fun kv => if kv.1 = kf k then (kv.1, v) else kv) := by
  induction r with
  | nil => exact .nil
  | @cons p q l kvs x t ih =>
    rw [List.map_cons, List.map_cons]
    have e := key_eq inj x.1 hk
    refine .cons ?_ ih
    cases c : D.beq p.1 k with
    | true =>
      rw [c] at e
      have e' := of_decide_eq_true e
      simp only [e', if_true]
      rw [← e']
      exact ⟨x.1, rv⟩
    | false =>
      rw [c] at e
      have e' := of_decide_eq_false e
      simp only [e', if_false, Bool.false_eq_true]
      exact x
theorem RD.put {l : List (D × W)} {kvs : List (κ × V)} {k : D} {w : W} {v : V} (hk : ok k = true) (r : RD K F ρ H kf ok l kvs) (rv : RW K F ρ H w v) : RD K F ρ H kf ok (putd k w l) (putK kvs (kf k) v) := by
  unfold putd putK
  rw [RD.any inj hk r]
  split
  · exact RD.repl inj hk r rv
  · exact Paired.app' r (.cons ⟨⟨rfl, hk⟩, rv⟩ .nil)
theorem RD.drop {l : List (D × W)} {kvs : List (κ × V)} {k : D} (hk : ok k = true) (r : RD K F ρ H kf ok l kvs) : RD K F ρ H kf ok (dropd k l) (dropK kvs (kf k)) := by
  unfold dropd dropK
  induction r with
  | nil => exact .nil
  | @cons p q l kvs x t ih =>
    have e := key_eq inj x.1 hk
    rw [List.filter_cons, List.filter_cons]
    cases c : D.beq p.1 k with
    | true =>
      rw [c] at e
      have e' := of_decide_eq_true e
      simp only [e', ne_eq, not_true_eq_false, decide_false, Bool.not_true, Bool.false_eq_true, if_false]
      exact ih
    | false =>
      rw [c] at e
      have e' := of_decide_eq_false e
      simp only [e', ne_eq, not_false_eq_true, decide_true, Bool.not_false, if_true]
      exact .cons x ih
end
end Fz
set_option Elab.async false
set_option linter.all false
set_option maxRecDepth 100000
set_option maxHeartbeats 2000000
/-! Fz: dicts in expressions and statements. -/
namespace Fz
open PySem L2 PyProof.Rows

section
variable {K : PySem.W.Frag} {T : Tb} {F ρ : List Addr} {H : Hp} {ih : Hh}
theorem dk_rd {l : List (D × W)} {kvs : List (Key × V)} (r : Paired (fun p q => Rk p.1 q.1 ∧ RW K F ρ H p.2 q.2) l kvs) : RD K F ρ H kOf D.isK l kvs := Paired.mapP r fun _ _ x => ⟨x.1.eq, x.2⟩
theorem rd_dk {l : List (D × W)} {kvs : List (Key × V)} (r : RD K F ρ H kOf D.isK l kvs) : Paired (fun p q => Rk p.1 q.1 ∧ RW K F ρ H p.2 q.2) l kvs := Paired.mapP r fun p q x => ⟨by rw [x.1.1]; exact Rk.of x.1.2, x.2⟩
theorem dt_rd {l : List (D × W)} {kvs : List (List Key × V)} (r : Paired (fun p q => RkT p.1 q.1 ∧ RW K F ρ H p.2 q.2) l kvs) : RD K F ρ H ktOf D.isKT l kvs := Paired.mapP r fun _ _ x => ⟨x.1.eq, x.2⟩
theorem rd_dt {l : List (D × W)} {kvs : List (List Key × V)} (r : RD K F ρ H ktOf D.isKT l kvs) : Paired (fun p q => RkT p.1 q.1 ∧ RW K F ρ H p.2 q.2) l kvs := Paired.mapP r fun p q x => ⟨by rw [x.1.1]; exact RkT.of x.1.2, x.2⟩
theorem RD.kp {κ : Type} [DecidableEq κ] {kf : D → κ} {ok : D → Bool} {F' ρ' : List Addr} {H' : Hp} (k : Keep (F ++ ρ) H (F' ++ ρ') H') (g : ∀ (n : Nat) (a : Addr), ρ[n]? = some a → ρ'[n]? = some a) {l : List (D × W)} {kvs : List (κ × V)}
    (r : RD K F ρ H kf ok l kvs) : RD K F' ρ' H' kf ok l kvs := Paired.mapP r fun _ _ x => ⟨x.1, x.2.kp k g⟩
/-- a key's value -/
theorem key_v {k : D} {v : V} (h : k.isK = true) (r : RW K F ρ H (.d k) v) : v = kV (kOf k) := by
  cases r with | d r =>
  cases r with
  | int i => rfl
  | str l z => rfl
  | _ => simp [D.isK] at h
theorem keys_v : ∀ {ds : List D} {vs : List V}, ds.all D.isK = true → RpL K (F ++ ρ) H ds vs → vs = (ds.map kOf).map kV
  | [], _, _, .nil => rfl
  | d :: ds, _, h, .cons a b => by
    rw [List.all_cons, Bool.and_eq_true] at h
    rw [key_v h.1 (.d a), keys_v h.2 b]
    rfl
theorem keyT_v {k : D} {v : V} (h : k.isKT = true) (r : RW K F ρ H (.d k) v) : ∃ b, v = .ref b ∧ H b = some (.tup ((ktOf k).map kV)) := by
  cases r with | d r =>
  cases r with
  | tup t z rl =>
    refine ⟨_, rfl, ?_⟩
    rename_i a vs ds
    have := keys_v (K := K) (F := F) (ρ := ρ) (H := H) h rl
    show H a = some (.tup ((ds.map kOf).map kV))
    rw [← this]
    exact t.1
  | _ => simp [D.isKT] at h
/-- what a dict has: none where it is no such dict -/
def dLook (x y : W) (h : Hh) : Option (Option W) := match x, y with
  | .r n, .d k => match h[n]? with
    | some (.dk l) => if k.isK then some (lkd k l) else none
    | some (.dt l) => if k.isKT then some (lkd k l) else none
    | _ => none
  | _, _ => none
theorem dLook_at {x y : W} {v1 v2 : V} {o : Option W} (hr : HR K T F ρ ih H) (r1 : RW K F ρ H x v1) (r2 : RW K F ρ H y v2) (e : dLook x y ih = some o) :
    ∃ a ov, v1 = .ref a ∧ DGet H a v2 ov ∧ IsD H a ∧ (∀ w, o = some w → ∃ v, ov = some v ∧ RW K F ρ H w v) ∧ (o = none → ov = none) := by
  unfold dLook at e
  split at e
  · rename_i n k
    cases r1 with | r hn =>
    split at e
    · rename_i l ho
      split at e
      · rename_i hk
        cases e
        obtain ⟨u, eH, ro⟩ := hr.at hn ho
        cases ro with
        | dk rs =>
          obtain ⟨p1, p2⟩ := RD.look kOf_inj hk (dk_rd rs)
          refine ⟨_, _, rfl, ?_, .inl ⟨_, .inl eH⟩, p1, p2⟩
          rw [key_v hk r2]
          exact DGet.k eH
      · cases e
    · rename_i l ho
      split at e
      · rename_i hk
        cases e
        obtain ⟨u, eH, ro⟩ := hr.at hn ho
        cases ro with
        | dt rs =>
          obtain ⟨p1, p2⟩ := RD.look ktOf_inj hk (dt_rd rs)
          obtain ⟨b, rfl, eb⟩ := keyT_v hk r2
          exact ⟨_, _, rfl, DGet.t eH eb, .inr ⟨_, .inl eH⟩, p1, p2⟩
      · cases e
    · cases e
  · cases e
def opDx (x y : W) (h : Hh) : R W := match dLook x y h with
  | some (some w) => .ok w h
  | _ => .no
def opDin (neg : Bool) (y x : W) (h : Hh) : R W := match dLook x y h with
  | some o => .ok (.d (.bl (if neg then !o.isSome else o.isSome))) h
  | none => .no
def dPut (x y w : W) (h : Hh) : Option Hh := match x, y with
  | .r n, .d k => match h[n]? with
    | some (.dk l) => if k.isK ∧ l.length < 16777216 then some (h.set n (.dk (putd k w l))) else none
    | some (.dt l) => if k.isKT ∧ l.length < 16777216 then some (h.set n (.dt (putd k w l))) else none
    | _ => none
  | _, _ => none
theorem dPut_at {x y w : W} {v1 v2 v3 : V} {ih' : Hh} (hr : HR K T F ρ ih H) (r1 : RW K F ρ H x v1) (r2 : RW K F ρ H y v2) (r3 : RW K F ρ H w v3) (e : dPut x y w ih = some ih') :
    ∃ a H', v1 = .ref a ∧ DPut H a v2 v3 H' ∧ Grow F ρ H ρ H' ∧ HR K T F ρ ih' H' := by
  unfold dPut at e
  split at e
  · rename_i n k
    cases r1 with | r hn =>
    have m := List.mem_of_getElem? hn
    split at e
    · rename_i l ho
      split at e
      · rename_i hk
        cases e
        obtain ⟨u, eH, ro⟩ := hr.at hn ho
        cases ro with
        | dk rs =>
          have rp := RD.put kOf_inj hk.1 (dk_rd rs) r3
          refine ⟨_, _, rfl, by rw [key_v hk.1 r2]; exact DPut.k eH (by rw [← Paired.length rs]; exact hk.2), grow_set m, hr.set hn (.dk (rd_dk (RD.kp (Grow.keepM (grow_set m) hr) (fun _ _ q => q) rp)))⟩
      · cases e
    · rename_i l ho
      split at e
      · rename_i hk
        cases e
        obtain ⟨u, eH, ro⟩ := hr.at hn ho
        cases ro with
        | dt rs =>
          have rp := RD.put ktOf_inj hk.1 (dt_rd rs) r3
          obtain ⟨b, rfl, eb⟩ := keyT_v hk.1 r2
          refine ⟨_, _, rfl, DPut.t eH eb (by rw [← Paired.length rs]; exact hk.2), grow_set m, hr.set hn (.dt (rd_dt (RD.kp (Grow.keepM (grow_set m) hr) (fun _ _ q => q) rp)))⟩
      · cases e
    · cases e
  · cases e
end
section
variable {X : Cx} {T : Tb} {Wx : WX} {o i e f : Expr} {pos pos' tpos apos cpos : Pos} {c co ci cx : Cd}
theorem fe_dx (hu : X.A.units + 1 < cLine) (hs : NoSl i) (ho : FE X T Wx o co) (hi : FE X T Wx i ci) : FE X T Wx (.Subscript o i pos) (c2 opDx co ci) := PE.imp (pe_dget hu ho hi hs) fun σ H Q q => by
  obtain ⟨F, ρ, ev, ih, hr, re, hp⟩ := q
  refine ⟨F, ρ, ev, ih, hr, re, hp.bind.mono fun ρ1 H1 ih1 x g1 hr1 hp1 v1 r1 => ?_⟩
  refine ⟨F, ρ1, ev, ih1, hr1, re.grow g1 hr, hp1.bind.mono fun ρ2 H2 ih2 y g2 hr2 hp2 v2 r2 => ?_⟩
  unfold opDx at hp2
  split at hp2
  · rename_i w hd
    obtain ⟨a, ov, rfl, dg, _, p1, _⟩ := dLook_at hr2 (r1.grow g2 hr1) r2 hd
    obtain ⟨v, rfl, rv⟩ := p1 w rfl
    exact ⟨a, v, rfl, dg, hp2.ok hr2 _ rv⟩
  · exact hp2.elim
theorem din_at {neg : Bool} {σ H Q} (q : tOf X.K T Wx (c2 (opDin neg) ci co) σ H Q) : (tOf X.K T Wx ci σ H fun y H1 => tOf X.K T Wx co σ H1 fun x H2 => ∃ a ov, x = .ref a ∧ DGet H2 a y ov ∧ Q (.bl (if neg then !ov.isSome else ov.isSome)) H2) := by
  obtain ⟨F, ρ, ev, ih, hr, re, hp⟩ := q
  refine ⟨F, ρ, ev, ih, hr, re, hp.bind.mono fun ρ1 H1 ih1 y g1 hr1 hp1 v1 r1 => ?_⟩
  refine ⟨F, ρ1, ev, ih1, hr1, re.grow g1 hr, hp1.bind.mono fun ρ2 H2 ih2 x g2 hr2 hp2 v2 r2 => ?_⟩
  unfold opDin at hp2
  split at hp2
  · rename_i ow hd
    obtain ⟨a, ov, rfl, dg, _, p1, p2⟩ := dLook_at hr2 r2 (r1.grow g2 hr1) hd
    refine ⟨a, ov, rfl, dg, ?_⟩
    have e : ov.isSome = ow.isSome := by
      cases ow with
      | none => rw [p2 rfl]; rfl
      | some w => obtain ⟨v, rfl, _⟩ := p1 w rfl; rfl
    rw [e]
    exact hp2.ok hr2 _ (.d (.bl _))
  · exact hp2.elim
theorem fe_din (hu : X.A.units + 1 < cLine) (hm : behindInMarks .In o = false) (hi : FE X T Wx i ci) (ho : FE X T Wx o co) : FE X T Wx (.Compare i [.In] [o] pos) (c2 (opDin false) ci co) := PE.imp (pe_cmp (pc_din hu hi ho) hm) fun _ _ _ q => din_at q
theorem fe_dnin (hu : X.A.units + 1 < cLine) (hm : behindInMarks .NotIn o = false) (hi : FE X T Wx i ci) (ho : FE X T Wx o co) : FE X T Wx (.Compare i [.NotIn] [o] pos) (c2 (opDin true) ci co) := PE.imp (pe_cmp (pc_dnotin hu hi ho) hm) fun _ _ _ q => din_at q
theorem ft_din (hu : X.A.units + 1 < cLine) (hm : behindInMarks .In o = false) (hi : FE X T Wx i ci) (ho : FE X T Wx o co) : FT' X T Wx (.Compare i [.In] [o] pos) (fun e h => asB (c2 (opDin false) ci co e h)) := PT.imp (pt_cmp (pc_din hu hi ho) hm) fun _ _ _ q => tst (fun _ _ _ q => din_at q) q
theorem ft_dnin (hu : X.A.units + 1 < cLine) (hm : behindInMarks .NotIn o = false) (hi : FE X T Wx i ci) (ho : FE X T Wx o co) : FT' X T Wx (.Compare i [.NotIn] [o] pos) (fun e h => asB (c2 (opDin true) ci co e h)) := PT.imp (pt_cmp (pc_dnotin hu hi ho) hm) fun _ _ _ q => tst (fun _ _ _ q => din_at q) q
/-- d[k] = e -/
def sDSet (c o i : Cd) : Cs := fun e h => lift (c e h) e fun w h => lift (o e h) e fun x h => lift (i e h) e fun y h => match dPut x y w h with
  | some h' => .nx e h'
  | none => .no
theorem fs_setD (hu : X.A.units + 1 < cLine) (hs : swapsWith e (some (.Subscript o i pos')) pos.line X.env = pure false) (he : FE X T Wx e c) (ho : FE X T Wx o co) (hi : FE X T Wx i ci) : FS X T Wx (.Assign [.Subscript o i pos'] e pos) (sDSet c co ci) := PS.imp (ps_dput hu ho hi he hs) fun D σ H q => by
  obtain ⟨F, ρ, ev, ih, hr, re, hp⟩ := q
  refine ⟨F, ρ, ev, ih, hr, re, (Pss.lift hr re hp).mono fun ρ1 H1 ih1 w g1 hr1 hp1 v3 r3 => ?_⟩
  have re1 := re.grow g1 hr
  refine ⟨F, ρ1, ev, ih1, hr1, re1, (Pss.lift hr1 re1 hp1).mono fun ρ2 H2 ih2 x g2 hr2 hp2 v1 r1 => ?_⟩
  have re2 := re1.grow g2 hr1
  refine ⟨F, ρ2, ev, ih2, hr2, re2, (Pss.lift hr2 re2 hp2).mono fun ρ3 H3 ih3 y g3 hr3 hp3 v2 r2 => ?_⟩
  have re3 := re2.grow g3 hr2
  split at hp3
  · rename_i h' q
    obtain ⟨a, H', rfl, dp, g4, hr4⟩ := dPut_at hr3 (r1.grow g3 hr2) r2 ((r3.grow g2 hr1).grow g3 hr2) q
    exact ⟨_, _, rfl, dp, hp3 _ _ _ g4 hr4 (re3.grow g4 hr3)⟩
  · exact hp3.elim
/-- d[k] op= e -/
def sDAug' (op : W → W → Hh → R W) (o i c : Cd) : Cs := fun e h => lift (o e h) e fun x h => lift (i e h) e fun y h => match dLook x y h with
  | some (some v) => lift ((c e h).bind fun y2 h => op v y2 h) e fun z h => match dPut x y z h with
    | some h' => .nx e h'
    | none => .no
  | _ => .no
theorem fs_augD {op : Operator} {rd : V → V → Hp → VK → Prop} {opf : W → W → Hh → R W} (hu : X.A.units + 1 < cLine) (ha : ∀ ov iv new, augStore i ov iv new = (do holding [new, ov, iv] (setItem ov iv new); release [new, ov, iv] []; pure .next)) (hop : InOp X op rd) (hfo : FOp X.K T opf rd)
    (ho : FE X T Wx o co) (hi : FE X T Wx i ci) (he : FE X T Wx e c) : FS X T Wx (.AugAssign (.Subscript o i tpos) op e pos) (sDAug' opf co ci c) := PS.imp (ps_daug hu ho hi he hop ha) fun D σ H q => by
  obtain ⟨F, ρ, ev, ih, hr, re, hp⟩ := q
  refine ⟨F, ρ, ev, ih, hr, re, (Pss.lift hr re hp).mono fun ρ1 H1 ih1 x g1 hr1 hp1 v1 r1 => ?_⟩
  have re1 := re.grow g1 hr
  refine ⟨F, ρ1, ev, ih1, hr1, re1, (Pss.lift hr1 re1 hp1).mono fun ρ2 H2 ih2 y g2 hr2 hp2 v2 r2 => ?_⟩
  have re2 := re1.grow g2 hr1
  split at hp2
  · rename_i v hd
    obtain ⟨a, ov, rfl, dg, _, p1, _⟩ := dLook_at hr2 (r1.grow g2 hr1) r2 hd
    obtain ⟨v', rfl, rv⟩ := p1 v rfl
    refine ⟨a, v', rfl, dg, F, ρ2, ev, ih2, hr2, re2, ((Pss.lift hr2 re2 hp2).bind).mono fun ρ3 H3 ih3 y2 g3 hr3 hp3 u2 ru2 => ?_⟩
    have re3 := re2.grow g3 hr2
    refine hfo Wx σ F ρ3 ih3 H3 v y2 v' u2 _ hr3 (rv.grow g3 hr2) ru2 (hp3.mono fun ρ4 H4 ih4 z g4 hr4 hp4 z' rz => ?_)
    have re4 := re3.grow g4 hr3
    split at hp4
    · rename_i h' q
      obtain ⟨a', H', ea, dp, g5, hr5⟩ := dPut_at hr4 (((r1.grow g2 hr1).grow g3 hr2).grow g4 hr3) ((r2.grow g3 hr2).grow g4 hr3) rz q
      cases ea
      exact ⟨_, dp, hp4 _ _ _ g5 hr5 (re4.grow g5 hr4)⟩
    · exact hp4.elim
  · exact hp2.elim
/-- del d[k] -/
def sDDel' (o i : Cd) : Cs := fun e h => lift (o e h) e fun x h => lift (i e h) e fun y h => match x, y with
  | .r n, .d k => match h[n]? with
    | some (.dk l) => if k.isK ∧ (lkd k l).isSome then .nx e (h.set n (.dk (dropd k l))) else .no
    | _ => .no
  | _, _ => .no
theorem fs_delD (ho : FE X T Wx o co) (hi : FE X T Wx i ci) : FS X T Wx (.Delete [.Subscript o i tpos] pos) (sDDel' co ci) := PS.imp (ps_ddel ho hi) fun D σ H q => by
  obtain ⟨F, ρ, ev, ih, hr, re, hp⟩ := q
  refine ⟨F, ρ, ev, ih, hr, re, (Pss.lift hr re hp).mono fun ρ1 H1 ih1 x g1 hr1 hp1 v1 r1 => ?_⟩
  have re1 := re.grow g1 hr
  refine ⟨F, ρ1, ev, ih1, hr1, re1, (Pss.lift hr1 re1 hp1).mono fun ρ2 H2 ih2 y g2 hr2 hp2 v2 r2 => ?_⟩
  have re2 := re1.grow g2 hr1
  split at hp2
  · rename_i n k
    split at hp2
    · rename_i l ho
      split at hp2
      · rename_i hk
        cases r1 with | r hn =>
          have hn2 := g2.get hn
          have m := List.mem_of_getElem? hn2
          obtain ⟨u, eH, ro⟩ := hr2.at hn2 ho
          cases ro with
          | dk rs =>
            obtain ⟨p1, p2⟩ := RD.look kOf_inj hk.1 (dk_rd rs)
            obtain ⟨w, hw⟩ := Option.isSome_iff_exists.mp hk.2
            obtain ⟨v, e1, _⟩ := p1 w hw
            have hr3 := hr2.set (T := T) (o := .dk (dropd k l)) hn2 (.dk (rd_dk (RD.kp (Grow.keepM (grow_set m) hr2) (fun _ _ q => q) (RD.drop kOf_inj hk.1 (dk_rd rs)))))
            exact ⟨_, _, kOf k, rfl, eH, key_v hk.1 r2, by rw [e1]; rfl, hp2 _ _ _ (grow_set m) hr3 (re2.grow (grow_set m) hr2)⟩
      · exact hp2.elim
    · exact hp2.elim
  · exact hp2.elim
/-- d.get(k), d.get(k, x) -/
def isDc (x : W) (h : Hh) : Bool := match x with
  | .r n => match h[n]? with
    | some (.dk _) => true
    | some (.dt _) => true
    | _ => false
  | _ => false
theorem isDc_at {K : PySem.W.Frag} {F ρ : List Addr} {H : Hp} {ih : Hh} {x : W} {v : V} (hr : HR K T F ρ ih H) (r : RW K F ρ H x v) (e : isDc x ih = true) : ∃ a, v = .ref a ∧ IsD H a := by
  unfold isDc at e
  split at e
  · cases r with | r hn =>
    split at e
    · rename_i ho
      obtain ⟨u, eH, ro⟩ := hr.at hn ho
      cases ro with | dk rs => exact ⟨_, rfl, .inl ⟨_, .inl eH⟩⟩
    · rename_i ho
      obtain ⟨u, eH, ro⟩ := hr.at hn ho
      cases ro with | dt rs => exact ⟨_, rfl, .inr ⟨_, .inl eH⟩⟩
    · cases e
  · cases e
def cGet1 (o k : Cd) : Cd := fun e h => (o e h).bind fun x h => if isDc x h then (k e h).bind fun y h => match dLook x y h with
  | some r => .ok (r.getD (.d .non)) h
  | none => .no else .no
def cGet2 (o k z : Cd) : Cd := fun e h => (o e h).bind fun x h => if isDc x h then (k e h).bind fun y h => (z e h).bind fun w h => match dLook x y h with
  | some r => .ok (r.getD w) h
  | none => .no else .no
theorem getD_at {K : PySem.W.Frag} {F ρ : List Addr} {H : Hp} {o : Option W} {ov : Option V} {w : W} {v : V} (p1 : ∀ w, o = some w → ∃ v, ov = some v ∧ RW K F ρ H w v) (p2 : o = none → ov = none) (r : RW K F ρ H w v) : RW K F ρ H (o.getD w) (ov.getD v) := by
  cases o with
  | none => rw [p2 rfl]; exact r
  | some w => obtain ⟨v, rfl, r⟩ := p1 w rfl; exact r
theorem fe_get1 (hu : X.A.units + 1 < cLine) (m : M1 X o "get" apos e cpos) (ho : FE X T Wx o co) (he : FE X T Wx e c) : FE X T Wx (.Call (.Attribute o "get" apos) [e] [] cpos) (cGet1 co c) := PE.imp (pe_dget1 hu ho he m) fun σ H Q q => by
  obtain ⟨F, ρ, ev, ih, hr, re, hp⟩ := q
  refine ⟨F, ρ, ev, ih, hr, re, hp.bind.mono fun ρ1 H1 ih1 x g1 hr1 hp1 v1 r1 => ?_⟩
  split at hp1
  · rename_i hd
    obtain ⟨a, rfl, da⟩ := isDc_at hr1 r1 hd
    refine ⟨a, rfl, da, F, ρ1, ev, ih1, hr1, re.grow g1 hr, hp1.bind.mono fun ρ2 H2 ih2 y g2 hr2 hp2 v2 r2 => ?_⟩
    split at hp2
    · rename_i r hl
      obtain ⟨a', ov, ea, dg, _, p1, p2⟩ := dLook_at hr2 (r1.grow g2 hr1) r2 hl
      cases ea
      exact ⟨ov, dg, hp2.ok hr2 _ (getD_at p1 p2 (.d .non))⟩
    · exact hp2.elim
  · exact hp1.elim
theorem fe_get2 (hu : X.A.units + 1 < cLine) (m : M2 X o "get" apos e f cpos) (ho : FE X T Wx o co) (he : FE X T Wx e c) (hf : FE X T Wx f cx) : FE X T Wx (.Call (.Attribute o "get" apos) [e, f] [] cpos) (cGet2 co c cx) := PE.imp (pe_dget2 hu ho he hf m) fun σ H Q q => by
  obtain ⟨F, ρ, ev, ih, hr, re, hp⟩ := q
  refine ⟨F, ρ, ev, ih, hr, re, hp.bind.mono fun ρ1 H1 ih1 x g1 hr1 hp1 v1 r1 => ?_⟩
  split at hp1
  · rename_i hd
    obtain ⟨a, rfl, da⟩ := isDc_at hr1 r1 hd
    have re1 := re.grow g1 hr
    refine ⟨a, rfl, da, F, ρ1, ev, ih1, hr1, re1, hp1.bind.mono fun ρ2 H2 ih2 y g2 hr2 hp2 v2 r2 => ?_⟩
    refine ⟨F, ρ2, ev, ih2, hr2, re1.grow g2 hr1, hp2.bind.mono fun ρ3 H3 ih3 w g3 hr3 hp3 v3 r3 => ?_⟩
    split at hp3
    · rename_i r hl
      obtain ⟨a', ov, ea, dg, _, p1, p2⟩ := dLook_at hr3 ((r1.grow g2 hr1).grow g3 hr2) (r2.grow g3 hr2) hl
      cases ea
      exact ⟨ov, dg, hp3.ok hr3 _ (getD_at p1 p2 r3)⟩
    · exact hp3.elim
  · exact hp1.elim
end
end Fz
set_option Elab.async false
set_option linter.all false
set_option maxRecDepth 100000
set_option maxHeartbeats 2000000
/-! Fz: sorted, repr, tuples turned round, list(range). -/
namespace Fz
open PySem PySem.W L2 PyProof.Rows

/-! ### sorted(list), sorted(tuple) of data -/
section
variable {prog : Program} {w : World} {A : Around} {E : Value → Shared → Prop} {s : Shared}
theorem collect_tup {l : Addr} {vs : List Value} {Q : List Value → Shared → Prop} (hl : IsTup s.heap l vs.toArray)
    (h : Q vs { s with heap := (s.heap.push (seqObj "list" #[] 0)).update s.heap.objs.size (Obj.mapSeq (· ++ vs.toArray)) }) (hsz : vs.length ≤ sizeLine) :
    wpAny (model prog w) A (collect (.ref l)) Q E s := by
  obtain ⟨o, ho, hc, n, hd⟩ := id hl
  unfold collect
  refine wpAny_bind (wpAny_runValue (codeAny_builtin entry_proto_collect' ?_))
  show wpAny _ _ (do again (.builtin "list.__iadd__" ⟨[← newList [], .ref l], []⟩)) _ _ s
  refine wpAny_bind (wpAny_newList (wpAny_pure ⟨Code.quiet_builtin _ (by decide +kernel), codeAny_builtin entry_list_iadd' ?_⟩))
  show wpAny _ _ (Builtin.List.listExtendWith (.ref s.heap.objs.size) (.ref l) (.ref s.heap.objs.size)) _ _ { s with heap := s.heap.push (seqObj "list" #[] 0) }
  unfold Builtin.List.listExtendWith
  have ho' : (s.heap.push (seqObj "list" #[] 0)).get? l = some o := Heap.get?_push_of_some _ ho
  refine wpAny_bind (wpAny_typeOf (T := "tuple") ⟨o, ho', hc⟩ ?_)
  have ht : (Value.type "tuple" == Value.type "tuple") = true := by rfl
  rw [if_pos (by rw [ht]; simp)]
  refine wpAny_bind (listItems_at ho' hd ?_)
  refine wpAny_bind (listItems_at (xs := #[]) (n := 0) (Heap.get?_push_size _ rfl) rfl ?_)
  rw [if_neg (by simp)]
  refine wpAny_bind (listUpdate_at (xs := #[]) (n := 0) (Heap.get?_push_size _ rfl) rfl ?_ (Nat.zero_le _) (by show (#[] ++ vs.toArray).size ≤ sizeLine + 1; simp only [Array.size_append, List.size_toArray]; simp; omega))
  refine wpAny_pure ?_
  show wpAny (model prog w) A (do
      let o ← load s.heap.objs.size
      match o.data with
      | .seq xs _ => pure xs.toList
      | _ => unsupported "internal:collect") Q E { s with heap := (s.heap.push (seqObj "list" #[] 0)).update s.heap.objs.size (Obj.mapSeq (· ++ vs.toArray)) }
  refine wpAny_bind (wpAny_load (get?_update_seq (Heap.get?_push_size _ rfl) _) ?_)
  show wpAny _ _ (pure ((#[] : Array Value) ++ vs.toArray).toList) Q E _
  rw [show ((#[] : Array Value) ++ vs.toArray).toList = vs by simp]
  exact wpAny_pure h
theorem sorted_tup_vals {κ : PyProof.Rows.KeyKind} {l : Addr} {vs : List Value} {Q : Value → Shared → Prop} (hl : IsTup s.heap l vs.toArray) (S : SortsAt prog w A.in1.in1 { s with heap := sortingHeap (copyHeap s.heap vs) (s.heap.objs.size + 1) vs } κ vs) (hL : vs.length ≤ sizeLine)
    (h : Q (.ref (s.heap.objs.size + 1)) { s with heap := sortedAll s.heap vs (sortVals κ false vs vs).toArray }) : wpAny (model prog w) A (call (.builtin "sorted") [.ref l]) Q E s := by
  refine call_function_entry_kw kind_sorted plain_sorted entry_sorted (args_sorted1 _) ?_
  unfold Builtin.«sorted»
  refine wpAny_bind (m := checkCount "sorted" 1 1 _) (wpAny_pure ?_)
  refine wpAny_bind (collect_tup hl ?_ hL)
  refine wpAny_bind (wpAny_newList ?_ hL)
  have hsz : ((s.heap.push (seqObj "list" #[] 0)).update s.heap.objs.size (Obj.mapSeq (· ++ vs.toArray))).objs.size = s.heap.objs.size + 1 := by
    rw [Heap.size_update, size_push']
  show wpAny _ _ _ _ _ { s with heap := copyHeap s.heap vs }
  rw [hsz]
  refine wpAny_bind (wpAny_holding (wpAny_call_entry_kw slot_list_sort ⟨_, copyHeap_at s.heap vs, rfl⟩ entry_list_sort
    (list_sort_vals (A := A.in1.in1) (s := { s with heap := copyHeap s.heap vs }) (copyHeap_at s.heap vs) S hL ⟨_, rfl, wpAny_pure ⟨_, rfl, h⟩⟩) (args_list_sort _)))
end
/-- sorted(xs), xs of data that can be compared -/
def rSortD (K : PySem.W.Frag) : List V → Hp → VK → Prop := fun xs H Q => ∃ (a : Addr) (ps : List (V × PyData)), xs = [.ref a] ∧ (SqL K H a (ps.map (·.1)) ∨ SqT K H a (ps.map (·.1))) ∧ DpAll K H (ps.map (·.1)) (ps.map (·.2)) ∧ AllAlike (ps.map (·.2)) ∧ Sortable (ps.map (·.2)) ∧
  (∀ p ∈ ps, (p.2 : PyData).depth ≤ 64) ∧ ∀ l, H l = none → Q (.ref l) (upd H l (.lst ((ps.mergeSort (dataLe false Prod.snd)).map (·.1))))
theorem each_zip {α β : Type} {R : α → β → Prop} : ∀ {as : List α} {bs : List β}, as.length = bs.length → (∀ p ∈ as.zip bs, R p.1 p.2) → EachIs R as bs
  | [], [], _, _ => .nil
  | a :: as, b :: bs, h, q => .cons (q (a, b) (by simp)) (each_zip (by simpa using h) fun p m => q p (by simp [m]))
theorem each_vals {s : Shared} : ∀ {us : List Value} {ps : List (V × PyData)}, Vals (ps.map (·.1)) us → EachIs (fun (u : Value) (p : V × PyData) => RelV p.1 u) us ps
  | _, [], h => by cases h; exact .nil
  | _, p :: ps, h => by cases h with | cons a b => exact .cons a (each_vals (s := s) b)
theorem vals_each : ∀ {us : List Value} {ps : List (V × PyData)}, EachIs (fun (u : Value) (p : V × PyData) => RelV p.1 u) us ps → Vals (ps.map (·.1)) us
  | _, _, .nil => .nil
  | _, _, .cons a b => .cons a (vals_each b)
theorem each_reads {X : Cx} {pins : List (Addr × Obj)} {σ : L2.St} {H : Hp} {s : Shared} (I : L2.Inv X pins σ H s) : ∀ {us : List Value} {ps : List (V × PyData)}, Vals (ps.map (·.1)) us → DpAll X.K H (ps.map (·.1)) (ps.map (·.2)) → EachIs (fun (u : Value) (p : V × PyData) => ∃ as, Reads s.heap u p.2 as) us ps
  | _, [], h, _ => by cases h; exact .nil
  | _, p :: ps, h, d => by
    cases h with
    | cons a b =>
      rw [List.map_cons, List.map_cons] at d
      cases d with
      | cons d1 d2 => exact .cons (Dp.reads I _ _ _ d1 a) (each_reads I b d2)
theorem cr_sortD {X : Cx} (hu : X.A.units + 66 < cLine) : CallR X (.builtin "sorted") (rSortD X.K) := by
  intro pins s σ H xs us Q I r h
  obtain ⟨a, ps, rfl, hs, hd, hal, hk, hdp, q⟩ := h
  have e2 : us = [.ref a] := Vals.ref1 r
  subst e2
  have hz : ps.length ≤ sizeLine ∧ ∃ its : List Value, Vals (ps.map (·.1)) its ∧ (PlainL s.heap a its.toArray ∨ IsTup s.heap a its.toArray) := by
    rcases hs with hs | hs
    · obtain ⟨its, rv, hl, z⟩ := I.list hs
      exact ⟨by simpa using z, its, rv, .inl hl⟩
    · obtain ⟨its, rv, hl, z⟩ := I.tuple hs
      exact ⟨by simpa using z, its, rv, .inr hl⟩
  obtain ⟨hz, its, rv, hl⟩ := hz
  have hlen : its.length = ps.length := by rw [← rv.length, List.length_map]
  have er : EachIs (fun (u : Value) (p : V × PyData) => ∃ as, Reads s.heap u p.2 as) its ps := each_reads I rv hd
  have er' : EachIs (fun (v : Value) (b : V × PyData) => ∃ as, Reads (sortingHeap (copyHeap s.heap its) (s.heap.objs.size + 1) its) v b.2 as) its ps := er.mono fun _ _ ⟨as, r⟩ => ⟨as, PyProof.Rows.Reads.keeps (fun _ _ => sorting_copy_old) r⟩
  have S : SortsAt X.prog X.w X.A.in1.in1 { s with heap := sortingHeap (copyHeap s.heap its) (s.heap.objs.size + 1) its } (dataKind (sortingHeap (copyHeap s.heap its) (s.heap.objs.size + 1) its) (ps.map Prod.snd)) its :=
    SortsAt.data (s := { s with heap := sortingHeap (copyHeap s.heap its) (s.heap.objs.size + 1) its }) (each_map (R := fun v d => ∃ as, Reads (sortingHeap (copyHeap s.heap its) (s.heap.objs.size + 1) its) v d as) Prod.snd er') hal hk
      (bound_map fun b hb => by have := hdp b hb; show X.A.units + 1 + 1 + _ < _; omega)
  have e : EachIs (fun (u : Value) (p : V × PyData) => RelV p.1 u) its ps := each_vals (s := s) rv
  have fin := sortVals_data (h' := sortingHeap (copyHeap s.heap its) (s.heap.objs.size + 1) its) (R := fun (u : Value) (p : V × PyData) => RelV p.1 u) (enc := Prod.snd) false e er' hal
  obtain ⟨ep, he'⟩ := PyProof.Rows.sortedAll_at s.heap its (sortVals (dataKind (sortingHeap (copyHeap s.heap its) (s.heap.objs.size + 1) its) (ps.map Prod.snd)) false its its).toArray
  have fv := vals_each fin
  have hlen2 : ((ps.mergeSort (dataLe false Prod.snd)).map (·.1)).length ≤ sizeLine := by rw [List.length_map, List.length_mergeSort]; exact hz
  have done : EP X pins σ Q (.ref (s.heap.objs.size + 1)) { s with heap := sortedAll s.heap its (sortVals (dataKind (sortingHeap (copyHeap s.heap its) (s.heap.objs.size + 1) its) (ps.map Prod.snd)) false its its).toArray } :=
    ⟨.ref _, upd H (s.heap.objs.size + 1) (.lst ((ps.mergeSort (dataLe false Prod.snd)).map (·.1))), I.laid (t' := s.toks) (fun _ _ => PyProof.Rows.sortedAll_old) (Nat.le_succ _) ⟨hlen2, _, ep, fv, he'⟩, rfl, q _ (I.hok.fresh (Nat.le_succ _))⟩
  rcases hl with hl | hl
  · exact sorted_vals hl.isList S (by rw [hlen]; exact hz) done
  · exact sorted_tup_vals hl S (by rw [hlen]; exact hz) done
/-! ### the order of data -/
mutual
def D.al : D → D → Bool
  | .non, .non => true
  | .bl _, .bl _ => true
  | .int _, .int _ => true
  | .str _, .str _ => true
  | .tup x, .tup y => alL x y
  | .lst x, .lst y => alL x y
  | _, _ => false
def alL : List D → List D → Bool
  | x :: xs, y :: ys => D.al x y && alL xs ys
  | [], _ => true
  | _ :: _, [] => true
end
mutual
theorem al_py : ∀ a b : D, alike a.py b.py = D.al a b
  | .non, b => by cases b <;> simp [D.py, alike, D.al]
  | .bl x, b => by cases b <;> simp [D.py, alike, D.al]
  | .int x, b => by cases b <;> simp [D.py, alike, D.al]
  | .str x, b => by cases b <;> simp [D.py, alike, D.al]
  | .tup x, b => by
    cases b with
    | tup y => simp only [D.py, alike, D.al]; exact alL_py x y
    | _ => simp [D.py, alike, D.al]
  | .lst x, b => by
    cases b with
    | lst y => simp only [D.py, alike, D.al]; exact alL_py x y
    | _ => simp [D.py, alike, D.al]
theorem alL_py : ∀ a b : List D, alikeAll (pyL a) (pyL b) = alL a b
  | [], [] => by simp [pyL, alikeAll, alL]
  | [], y :: ys => by simp [pyL, alikeAll, alL]
  | x :: xs, [] => by simp [pyL, alikeAll, alL]
  | x :: xs, y :: ys => by simp only [pyL, alikeAll, alL]; rw [al_py x y, alL_py xs ys]
end
def ltS : List Nat → List Nat → Bool
  | [], [] => false
  | [], _ :: _ => true
  | _ :: _, [] => false
  | x :: xs, y :: ys => if x < y then true else if y < x then false else ltS xs ys
theorem ltS_eq : ∀ a b : List Nat, ltS a b = decide (a < b)
  | [], [] => by simp [ltS]
  | [], y :: ys => by simp [ltS]
  | x :: xs, [] => by simp [ltS]
  | x :: xs, y :: ys => by
    simp only [ltS, List.cons_lt_cons_iff, ltS_eq xs ys]
    by_cases h1 : x < y
    · simp [h1]
    · by_cases h2 : y < x
      · have : x ≠ y := by omega
        simp [h1, h2, this]
      · have : x = y := by omega
        simp [this]
mutual
def D.lt : D → D → Bool
  | .bl a, .bl b => !a && b
  | .int a, .int b => decide (a < b)
  | .str a, .str b => ltS a b
  | .tup x, .tup y => ltL x y
  | .lst x, .lst y => ltL x y
  | _, _ => false
def ltL : List D → List D → Bool
  | [], [] => false
  | [], _ :: _ => true
  | _ :: _, [] => false
  | x :: xs, y :: ys => if D.eqv x y then ltL xs ys else D.lt x y
end
mutual
theorem lt_py : ∀ a b : D, D.al a b = true → dataLt a.py b.py = D.lt a b
  | .non, b, h => by cases b <;> simp [D.al] at h; simp only [D.py, D.lt]; exact lex_irrefl _
  | .bl x, b, h => by cases b <;> simp [D.al] at h; rename_i y; cases x <;> cases y <;> simp only [D.py, D.lt] <;> decide
  | .int x, b, h => by cases b <;> simp [D.al] at h; simp only [D.py, D.lt]; exact dataLt_int _ _
  | .str x, b, h => by cases b <;> simp [D.al] at h; simp only [D.py, D.lt]; rw [dataLt_str, ltS_eq]; rfl
  | .tup x, b, h => by
    cases b with
    | tup y => simp only [D.py, D.lt]; rw [dataLt_tuple]; exact ltL_py x y (by simpa [D.al] using h)
    | _ => simp [D.al] at h
  | .lst x, b, h => by
    cases b with
    | lst y => simp only [D.py, D.lt]; rw [dataLt_list]; exact ltL_py x y (by simpa [D.al] using h)
    | _ => simp [D.al] at h
theorem ltL_py : ∀ a b : List D, alL a b = true → PyProof.Rows.lexLt itemOrd (keyToksAll (pyL a)) (keyToksAll (pyL b)) = ltL a b
  | [], [], _ => by simp only [pyL, ltL]; exact lex_irrefl _
  | [], y :: ys, _ => by
    simp only [pyL, ltL, keyToksAll]
    exact (lex_diff (O := itemOrd) (by decide)).trans (by decide)
  | x :: xs, [], _ => by
    simp only [pyL, ltL, keyToksAll]
    exact (lex_diff (O := itemOrd) (by decide)).trans (by decide)
  | x :: xs, y :: ys, h => by
    simp only [alL, Bool.and_eq_true] at h
    simp only [pyL, ltL]
    rw [dataLt_cons (by rw [al_py]; exact h.1), eqv_py, lt_py x y h.1, ltL_py xs ys h.2]
end
/-! ### isort -/
def ins {α : Type} (le : α → α → Bool) (a : α) : List α → List α
  | [] => [a]
  | x :: l => if le a x then a :: x :: l else x :: ins le a l
def isort {α : Type} (le : α → α → Bool) : List α → List α
  | [] => []
  | a :: l => ins le a (isort le l)
theorem ins_app {α : Type} {le : α → α → Bool} {a : α} {m : List α} (hm : ∀ b ∈ m, le a b = true) : ∀ {l : List α}, (∀ b ∈ l, le a b = false) → ins le a (l ++ m) = l ++ a :: m
  | [], _ => by
    cases m with
    | nil => rfl
    | cons x m => show (if le a x = true then _ else _) = _; rw [if_pos (hm x (by simp))]; rfl
  | x :: l, h => by
    show (if le a x = true then _ else _) = _
    rw [if_neg (by rw [h x (by simp)]; exact Bool.false_ne_true)]
    exact congrArg (x :: ·) (ins_app hm fun b hb => h b (by simp [hb]))
theorem isort_merge {α : Type} {le : α → α → Bool} (trans : ∀ (a b c : α), le a b → le b c → le a c) (total : ∀ (a b : α), le a b || le b a) : ∀ l : List α, l.mergeSort le = isort le l
  | [] => by simp [isort]
  | a :: l => by
    obtain ⟨l1, l2, e1, e2, h⟩ := List.mergeSort_cons trans total a l
    have srt := List.pairwise_mergeSort trans total (a :: l)
    rw [e1] at srt ⊢
    have hm : ∀ b ∈ l2, le a b = true := fun b hb => by
      have := (List.pairwise_append.mp srt).2.1
      exact (List.pairwise_cons.mp this).1 b hb
    show _ = ins le a (isort le l)
    rw [← isort_merge trans total l, e2, ins_app hm fun b hb => by have := h b hb; simpa using this]
theorem ins_congr {α : Type} {le le' : α → α → Bool} {a : α} : ∀ {l : List α}, (∀ b ∈ l, le a b = le' a b) → ins le a l = ins le' a l
  | [], _ => rfl
  | x :: l, h => by
    show (if le a x = true then _ else _) = (if le' a x = true then _ else _)
    rw [h x (by simp), ins_congr fun b hb => h b (by simp [hb])]
theorem ins_mem {α : Type} {le : α → α → Bool} {a b : α} : ∀ {l : List α}, b ∈ ins le a l ↔ b = a ∨ b ∈ l
  | [] => by simp [ins]
  | x :: l => by
    unfold ins
    split
    · simp
    · simp [ins_mem (l := l)]
      constructor
      · rintro (h | h | h) <;> simp [h]
      · rintro (h | h | h) <;> simp [h]
theorem isort_mem {α : Type} {le : α → α → Bool} {b : α} : ∀ {l : List α}, b ∈ isort le l ↔ b ∈ l
  | [] => by simp [isort]
  | a :: l => by unfold isort; rw [ins_mem, isort_mem]; simp
theorem isort_congr {α : Type} {le le' : α → α → Bool} : ∀ {l : List α}, (∀ a ∈ l, ∀ b ∈ l, le a b = le' a b) → isort le l = isort le' l
  | [], _ => rfl
  | a :: l, h => by
    unfold isort
    rw [isort_congr (le := le) (le' := le') (l := l) fun x hx y hy => h x (by simp [hx]) y (by simp [hy])]
    exact ins_congr fun b hb => h a (by simp) b (by simp [isort_mem.mp hb])
def D.le (a b : D) : Bool := !(D.lt b a)
def allAl (l : List D) : Bool := l.all fun a => l.all fun b => D.al a b
theorem allAl_py {l : List D} (h : allAl l = true) : AllAlike (pyL l) := by
  rw [pyL_map]
  intro d hd d' hd'
  obtain ⟨a, ha, rfl⟩ := List.mem_map.mp hd
  obtain ⟨b, hb, rfl⟩ := List.mem_map.mp hd'
  rw [al_py]
  exact List.all_eq_true.mp (List.all_eq_true.mp h a ha) b hb
theorem sort_D {l : List D} (h : allAl l = true) : (l.mergeSort (dataLe false D.py)) = isort D.le l := by
  have T := PySem.W.sortLe_total (listOrd itemOrd) false fun b : D => keyToks b.py
  have e : l.mergeSort (dataLe false D.py) = isort (dataLe false D.py) l := isort_merge (fun a b c => T.trans a b c) (fun a b => by rcases T.total a b with q | q <;> simp [dataLe, q]) l
  rw [e]
  refine isort_congr fun a ha b hb => ?_
  show (!dataLt b.py a.py) = D.le a b
  unfold D.le
  rw [lt_py b a (List.all_eq_true.mp (List.all_eq_true.mp h b hb) a ha)]
def canSort (l : List D) : Bool := (l.all fun d => match d with
  | .tup (_ :: _) => true
  | _ => false) || l.all fun d => match d with
  | .non => false
  | .tup _ => false
  | _ => true
theorem canSort_py {l : List D} (h : canSort l = true) : Sortable (pyL l) := by
  rw [pyL_map]
  unfold canSort at h
  rw [Bool.or_eq_true] at h
  rcases h with h | h
  · left
    intro d hd
    obtain ⟨a, ha, rfl⟩ := List.mem_map.mp hd
    have := List.all_eq_true.mp h a ha
    split at this
    · rename_i x r
      exact ⟨x.py, pyL r, by simp only [D.py, pyL]⟩
    · cases this
  · right
    intro d hd
    obtain ⟨a, ha, rfl⟩ := List.mem_map.mp hd
    have := List.all_eq_true.mp h a ha
    cases a <;> simp at this <;> simp [D.py]
def biSort (m : Bool) (ws : List W) (h : Hh) : R W := match ws with
  | [w] => match (seqW w h).bind allD with
    | some l => if allAl l && canSort l && l.all (sh 63) then fin m ((isort D.le l).map .d) h else .no
    | none => .no
  | _ => .no
theorem RpL.zip {K M H} : ∀ {ds : List D} {vs : List V}, RpL K M H ds vs → ∃ ps : List (D × V), ds = ps.map Prod.fst ∧ vs = ps.map Prod.snd ∧ ∀ p ∈ ps, Rp K M H p.1 p.2
  | _, _, .nil => ⟨[], rfl, rfl, by simp⟩
  | d :: ds, v :: vs, .cons a b => by
    obtain ⟨ps, e1, e2, h⟩ := RpL.zip b
    refine ⟨(d, v) :: ps, by simp [e1], by simp [e2], ?_⟩
    intro p hp
    rcases List.mem_cons.mp hp with rfl | hp
    · exact a
    · exact h p hp
theorem RpL.unzip {K M H} : ∀ {ps : List (D × V)}, (∀ p ∈ ps, Rp K M H p.1 p.2) → RpL K M H (ps.map Prod.fst) (ps.map Prod.snd)
  | [], _ => .nil
  | p :: ps, h => .cons (h p (by simp)) (RpL.unzip fun q hq => h q (by simp [hq]))
theorem fc_sort {K : PySem.W.Frag} {T : Tb} {m : Bool} : FCl K T (biSort m) (rSortD K) := by
  intro Wx σ F ρ ih H xs vs Q hr rs hp
  unfold biSort at hp
  split at hp
  · cases rs with | cons r t => cases t with | nil =>
      split at hp
      · rename_i l e
        rw [Option.bind_eq_some_iff] at e
        obtain ⟨ws, e1, e2⟩ := e
        obtain ⟨a, us, rfl, s, rs, _⟩ := seqW_at hr r e1
        have rl := allD_rp e2 rs
        split at hp
        · rename_i c
          simp only [Bool.and_eq_true] at c
          obtain ⟨ps, e3, e4, hps⟩ := rl.zip
          subst e3 e4
          have em : (ps.map fun p => (p.2, p.1.py)).map Prod.fst = ps.map Prod.snd := by rw [List.map_map]; rfl
          have em2 : (ps.map fun p => (p.2, p.1.py)).map Prod.snd = pyL (ps.map Prod.fst) := by rw [List.map_map, pyL_map, List.map_map]; rfl
          refine ⟨a, ps.map fun p => (p.2, p.1.py), rfl, ?_, ?_, ?_, ?_, ?_, fun p np => ?_⟩
          · rw [em]; exact s.imp .inl .inl
          · rw [em, em2]; exact rl.dp
          · rw [em2]; exact allAl_py c.1.1
          · rw [em2]; exact canSort_py c.1.2
          · intro p hp
            obtain ⟨q, hq, rfl⟩ := List.mem_map.mp hp
            have := List.all_eq_true.mp c.2 q.1 (List.mem_map.mpr ⟨q, hq, rfl⟩)
            have := (sh_lay 63 _ this).2
            show q.1.py.depth ≤ 64
            omega
          · have srt : ((ps.map fun p => (p.2, p.1.py)).mergeSort (dataLe false Prod.snd)).map Prod.fst = (ps.mergeSort fun x y => dataLe false D.py x.1 y.1).map Prod.snd := by
              rw [← sort_maps (r := fun x y : D × V => dataLe false D.py x.1 y.1) (f := fun p : D × V => (p.2, p.1.py)) fun a _ b _ => rfl, List.map_map]
              rfl
            have srt2 : (ps.mergeSort fun x y => dataLe false D.py x.1 y.1).map Prod.fst = isort D.le (ps.map Prod.fst) := by
              rw [sort_maps (s := dataLe false D.py) (f := Prod.fst) fun a _ b _ => rfl, sort_D c.1.1]
            rw [srt]
            refine fin_ok hr (RpL.rws ?_) np (by rw [← srt2] at hp; exact hp)
            exact RpL.unzip fun p hp => hps p ((List.mergeSort_perm _ _).mem_iff.mp hp)
        · exact hp.elim
      · exact hp.elim
  · exact hp.elim
end Fz
set_option Elab.async false
set_option linter.all false
set_option maxRecDepth 100000
set_option maxHeartbeats 2000000
/-! Fz: tuples turned round, list(range), lists as targets, displays of dicts by tuples. -/
namespace Fz
open PySem PySem.W L2 PyProof.Rows HT

/-! ### t[::-1] -/
section
variable {prog : Program} {w : World} {A : Around} {E : Value → Shared → Prop} {s : Shared}
theorem pick_rev (xs : Array Value) : ((List.range xs.size).filterMap fun (m : Nat) => xs[(((xs.size : Int) - 1) + (m : Int) * (-1)).toNat]?).toArray = xs.toList.reverse.toArray := by
  congr 1
  have fm : ∀ {f g : Nat → Option Value} (l : List Nat), (∀ m ∈ l, f m = g m) → l.filterMap f = l.filterMap g := fun {f g} l => by
    induction l with
    | nil => intro _; rfl
    | cons a l ih => intro h; rw [List.filterMap_cons, List.filterMap_cons, h a (by simp), ih fun m hm => h m (by simp [hm])]
  have e : ((List.range xs.size).filterMap fun (m : Nat) => xs[(((xs.size : Int) - 1) + (m : Int) * (-1)).toNat]?) = ((List.range xs.size).map fun m => xs.size - 1 - m).filterMap (xs[·]?) := by
    rw [List.filterMap_map]
    refine fm _ fun m hm => ?_
    have := List.mem_range.mp hm
    show xs[_]? = xs[xs.size - 1 - m]?
    congr 1
    omega
  rw [e, PySem.W.krv_range, List.filterMap_reverse, PySem.W.krv_all]
theorem getItem_tuple_rev {t sl : Addr} {items : Array Value} {vs : Value} {Q : Value → Shared → Prop} (ht : IsTup s.heap t items) (hs : s.heap.IsSliceOf sl .none .none vs) (ps : IsPart vs (some (-1)))
    (h : Q (.ref s.heap.objs.size) { s with heap := s.heap.push { cls := .type "tuple", data := .seq items.toList.reverse.toArray } })
    (hsz : items.size ≤ sizeLine) : wpAny (model prog w) A (getItem (.ref t) (.ref sl)) Q E s := by
  have htake : sizeOk (.seq items.toList.reverse.toArray) := by
    show (items.toList.reverse).toArray.size ≤ sizeLine
    simpa using hsz
  obtain ⟨os, hos, hcs, hds⟩ := id hs
  have hTs : s.TypeIs (.ref sl) "slice" := ⟨os, hos, hcs⟩
  unfold getItem
  try with_reducible refine wpAny_holding ?_
  first | refine wpAny_bind (wpAny_pure ?_) | skip
  refine wpAny_bind (wpAny_sequenceKey ht.typeIs (by decide) ?_)
  refine wpAny_bind (wpAny_callSpecial?_slot (name := Str.ofString "__getitem__") ht.typeIs PyProof.Rows.slot_tuple_getitem
    (wpAny_call_entry PyProof.Rows.slot_tuple_getitem ht.typeIs entry_tuple_getitem ?_ (args_tuple_getitem _ _)))
  show wpAny _ _ (Builtin.Tuple.tupleItemsOf (.ref t) >>= _) _ _ s
  refine wpAny_bind (tupleItemsOf_ ht ?_)
  refine wpAny_bind (wpAny_typeOf hTs ?_)
  rw [if_pos (by decide)]
  refine wpAny_bind (m := Builtin.Slice.sliceApplied (.ref sl) (pure (items.size : Int))) ?_
  unfold Builtin.Slice.sliceApplied Builtin.Slice.sliceFields
  refine wpAny_bind (wpAny_bind (wpAny_field hos hds (x := .none) rfl (wpAny_bind (wpAny_field hos hds (x := .none) rfl (wpAny_bind (wpAny_field hos hds (x := vs) rfl (wpAny_pure ?_)))))))
  refine wpAny_bind (slicePart_ ps ?_)
  show wpAny _ _ (if ((-1 : Int) == 0) = true then _ else _) _ _ s
  rw [if_neg (by decide)]
  refine wpAny_bind (slicePart_ .none (wpAny_bind (slicePart_ .none (wpAny_bind (wpAny_pure ?_)))))
  show wpAny _ _ (match Builtin.Slice.sliceAdjust none none (-1) (items.size : Int) with | (lo, hi) => pure (lo, (-1 : Int), Builtin.Slice.slicePlaces lo hi (-1))) _ _ s
  have ea : Builtin.Slice.sliceAdjust none none (-1) (items.size : Int) = ((items.size : Int) - 1, -1) := rfl
  rw [ea]
  have ep : Builtin.Slice.slicePlaces ((items.size : Int) - 1) (-1) (-1) = items.size := by
    unfold Builtin.Slice.slicePlaces
    have h1 : ¬ ((-1 : Int) > 0) := by omega
    simp only [h1, if_false, Int.neg_neg, Int.ediv_one]
    split <;> omega
  show wpAny _ _ (pure ((items.size : Int) - 1, (-1 : Int), Builtin.Slice.slicePlaces ((items.size : Int) - 1) (-1) (-1))) _ _ s
  rw [ep]
  refine wpAny_pure ?_
  have hno : ¬ ((((items.size : Int) - 1) == 0 && (-1 : Int) == 1 && items.size == items.size) = true) := by
    intro q
    rw [Bool.and_eq_true, Bool.and_eq_true] at q
    exact absurd (eq_of_beq q.1.2) (by decide)
  show wpAny _ _ (if (((items.size : Int) - 1) == 0 && (-1 : Int) == 1 && items.size == items.size) = true then _ else _) _ _ s
  rw [if_neg hno, pick_rev]
  first
    | exact wpAny_bind (m := Builtin.Tuple.tupleExact _) (wpAny_newObj_type (wpAny_pure ⟨_, rfl, wpAny_pure h⟩) htake)
    | exact wpAny_bind (m := Builtin.Tuple.tupleExact _) (wpAny_newObj_type (wpAny_bind (wpAny_pure (wpAny_pure ⟨_, rfl, wpAny_pure h⟩))) htake)
end
section
variable {X : Cx}
def tRevT (K : PySem.W.Frag) (te : TE) : TE := fun σ H Q => te σ H fun x H1 => ∃ a xs, x = .ref a ∧ SqT K H1 a xs ∧ ∀ p, H1 p = none → Q (.ref p) (upd H1 p (.tup xs.reverse))
theorem pe_revT {e : Expr} {te : TE} {k : Nat} {p1 p2 p3 pos : Pos} (he : PE X e te) : PE X (.Subscript e (.Slice none none (some (.UnaryOp .USub (.Constant (.int 1) k p1) p2)) p3) pos) (tRevT X.K te) := by
  refine ⟨fun pins s σ H Q I h => ?_⟩
  refine Subscript_ (thn (he.run pins s σ H _ I h) fun v s1 ⟨x, H1, I1, r1, q1⟩ => ?_)
  obtain ⟨a, xs, ex, hx, q⟩ := q1
  subst ex
  cases r1
  have hst : PO X (some (.UnaryOp .USub (.Constant (.int 1) k p1) p2)) (tPart (tUn (rU fun i => .int (-i)) (tC (.int 1)))) := po_some (pe_un un_neg pe_int)
  refine wpAny_Slice (thn (po_none.run pins s1 σ H1 (fun o H2 => o = none ∧ H2 = H1) I1 ⟨rfl, rfl⟩) fun vl s2 ⟨l, H2, I2, pl, el, e2⟩ => ?_)
  subst el e2
  refine thn (po_none.run pins s2 σ H2 (fun o H3 => o = none ∧ H3 = H2) I2 ⟨rfl, rfl⟩) fun vu s3 ⟨u, H3, I3, pu, eu, e3⟩ => ?_
  subst eu e3
  refine thn (hst.run pins s3 σ H3 (fun o H4 => o = some (-1) ∧ H4 = H3) I3 ⟨1, rfl, -1, rfl, rfl, rfl⟩) fun vs s4 ⟨o, H4, I4, ps, eo, e4⟩ => ?_
  subst eo e4
  cases pl
  cases pu
  have I5 : Inv X pins σ H4 { s4 with heap := s4.heap.push { cls := .type "slice", data := .fields #[.none, .none, vs] } } := I4.kept (t' := s4.toks) fun b ob q => Heap.get?_push_of_some _ q
  obtain ⟨its, r, ht, hz⟩ := I5.tuple hx
  have hlen := r.length
  show wpAny (model X.prog X.w) X.A (subscriptTail e (.Slice none none (some (.UnaryOp .USub (.Constant (.int 1) k p1) p2)) p3) (.ref a) (.ref s4.heap.objs.size)) (EP X pins σ Q) X.xe { s4 with heap := s4.heap.push { cls := .type "slice", data := .fields #[.none, .none, vs] } }
  refine tail_any (ops := [.ref a, .ref s4.heap.objs.size]) ht.typeIs (PyProof.Rows.slot_tuple_getitem.lookup) ?_ (by with_unfolding_all rfl)
  refine getItem_tuple_rev ht (Heap.IsSliceOf.new _ .none .none vs) ps ?_ (by rw [List.size_toArray]; omega)
  refine ⟨.ref _, _, I5.laid (t' := s4.toks) (o := .tup xs.reverse) (fun b ob q => Heap.get?_push_of_some _ q) (Nat.le_refl _) ?_, rfl, q _ (I5.hok.fresh (Nat.le_refl _))⟩
  exact ⟨by rw [List.length_reverse]; exact hz, _, by simpa using r.reverse, IsTup.new _ _⟩
def opRevT (x : W) (h : Hh) : R W := match x with
  | .d (.tup l) => .ok (.d (.tup l.reverse)) h
  | _ => .no
theorem RpL.rev {K M H} : ∀ {ds : List D} {vs : List V}, RpL K M H ds vs → RpL K M H ds.reverse vs.reverse
  | _, _, .nil => .nil
  | _, _, .cons a b => by simp only [List.reverse_cons]; exact b.rev.app (.cons a .nil)
variable {T : Tb} {Wx : WX} {e : Expr} {c : Cd} {pos p2 : Pos}
theorem fe_revT {k : Nat} {p1 p3 : Pos} (he : FE X T Wx e c) : FE X T Wx (.Subscript e (.Slice none none (some (.UnaryOp .USub (.Constant (.int 1) k p1) p2)) p3) pos) (c1 opRevT c) := PE.imp (pe_revT he) fun σ H Q q => by
  obtain ⟨F, ρ, ev, ih, hr, re, hp⟩ := q
  refine ⟨F, ρ, ev, ih, hr, re, hp.bind.mono fun ρ1 H1 ih1 w g1 hr1 hp1 v r => ?_⟩
  unfold opRevT at hp1
  split at hp1
  · cases r with | d r => cases r with | tup t z rl =>
      refine ⟨_, _, rfl, t.sq, fun p np => ?_⟩
      obtain ⟨a, b⟩ := new_tup hr1 np rl.rev (by simpa using z) hp1
      exact a _ b
  · exact hp1.elim

/-! ### list(range(..)) -/
def lrg (m : Bool) (ws : List W) (h : Hh) : R W := match ws with
  | [.d (.int j)] => if -(2 ^ 62) ≤ j ∧ j < 2 ^ 62 ∧ j.toNat ≤ 2 ^ 24 then fin m ((List.range j.toNat).map fun i => .d (.int (i : Nat))) h else .no
  | [.d (.int i), .d (.int j)] => if -(2 ^ 62) ≤ i ∧ i < 2 ^ 62 ∧ -(2 ^ 62) ≤ j ∧ j < 2 ^ 62 ∧ (j - i).toNat ≤ 2 ^ 24 then fin m ((List.range (j - i).toNat).map fun k => .d (.int (i + (k : Nat)))) h else .no
  | _ => .no
def cLr (m : Bool) (a : Ca) : Cd := fun e h => (a e h).bind (lrg m)
theorem lrg_ok {K : PySem.W.Frag} {σ : L2.St} {F ρ : List Addr} {H : Hp} {ih : Hh} {Q : VK} {m : Bool} {i j : Int} (hr : HR K T F ρ ih H)
    (hp : Pst K T Wx σ F ρ H (if -(2 ^ 62) ≤ i ∧ i < 2 ^ 62 ∧ -(2 ^ 62) ≤ j ∧ j < 2 ^ 62 ∧ (j - i).toNat ≤ 2 ^ 24 then fin m ((List.range (j - i).toNat).map fun k => .d (.int (i + (k : Nat)))) ih else .no) fun ρ' H' _ w => ∀ v, RW K F ρ' H' w v → Q v H') :
    RgOk i j ∧ ∀ q, H q = none → Q (.ref q) (upd H q (.lst (rgV i j))) := by
  split at hp
  · rename_i z
    refine ⟨z, fun q nq => fin_ok hr ?_ nq hp⟩
    unfold rgV
    have : ∀ l : List Nat, RWs K F ρ H (l.map fun k => W.d (D.int (i + (k : Nat)))) (l.map fun k => V.int (i + (k : Nat))) := fun l => by
      induction l with
      | nil => exact .nil
      | cons a l ih => exact .cons (.d (.int _)) ih
    exact this _
  · exact hp.elim
theorem fe_lr1 {a : Expr} {m : Bool} {ca : Cd} {p q pos pos1 : Pos} (hc : X.calm = true) (hl : Gl X "list") (hml : X.mg "list" = none) (hg : Gl X "range") (hm : X.mg "range" = none)
    (na : starEach [Expr.Call (.Name "range" p) [a] [] pos] X.env = (false, eval (Expr.Call (.Name "range" p) [a] [] pos) X.env) :: starEach [] X.env) (na2 : starEach [a] X.env = (false, eval a X.env) :: starEach [] X.env)
    (ha : FE X T Wx a ca) : FE X T Wx (.Call (.Name "list" q) [.Call (.Name "range" p) [a] [] pos] [] pos1) (cLr m (aCons ca aNil)) := PE.imp (pe_listRg hc hl hml (prg_1 hg hm ha na2) na) fun σ H Q q => by
  obtain ⟨F, ρ, ev, ih, hr, re, hp⟩ := q
  have hp' : Pst X.K T Wx σ F ρ H ((ca ev ih).bind fun x h => lrg m [x] h) fun ρ' H' _ w => ∀ v, RW X.K F ρ' H' w v → Q v H' := by
    have e : cLr m (aCons ca aNil) ev ih = (ca ev ih).bind fun x h => lrg m [x] h := by
      unfold cLr aCons aNil
      cases ca ev ih <;> rfl
    rw [← e]; exact hp
  refine ⟨F, ρ, ev, ih, hr, re, hp'.bind.mono fun ρ1 H1 ih1 w g1 hr1 hp1 v r => ?_⟩
  unfold lrg at hp1
  split at hp1
  · rename_i j hj
    cases hj
    cases r with | d r =>
    cases r with | int =>
    refine ⟨_, rfl, lrg_ok (Wx := Wx) (σ := σ) (m := m) hr1 ?_⟩
    split at hp1
    · rename_i z
      rw [if_pos (by simp only [Int.sub_zero]; exact ⟨by decide, by decide, z.1, z.2.1, z.2.2⟩)]
      simpa using hp1
    · exact hp1.elim
  · rename_i hj; cases hj
  · exact hp1.elim
theorem fe_lr2 {a b : Expr} {m : Bool} {ca cb : Cd} {p q pos pos1 : Pos} (hc : X.calm = true) (hl : Gl X "list") (hml : X.mg "list" = none) (hg : Gl X "range") (hm : X.mg "range" = none)
    (na : starEach [Expr.Call (.Name "range" p) [a, b] [] pos] X.env = (false, eval (Expr.Call (.Name "range" p) [a, b] [] pos) X.env) :: starEach [] X.env) (na2 : starEach [a, b] X.env = (false, eval a X.env) :: starEach [b] X.env)
    (nb : starEach [b] X.env = (false, eval b X.env) :: starEach [] X.env) (hpl : (backTo pos (starEach [b] X.env)).any (·.1) = false)
    (ha : FE X T Wx a ca) (hb : FE X T Wx b cb) : FE X T Wx (.Call (.Name "list" q) [.Call (.Name "range" p) [a, b] [] pos] [] pos1) (cLr m (aCons ca (aCons cb aNil))) := PE.imp (pe_listRg hc hl hml (prg_2 hg hm ha hb na2 nb hpl) na) fun σ H Q q => by
  obtain ⟨F, ρ, ev, ih, hr, re, hp⟩ := q
  have hp' : Pst X.K T Wx σ F ρ H ((ca ev ih).bind fun x h => (cb ev h).bind fun y h => lrg m [x, y] h) fun ρ' H' _ w => ∀ v, RW X.K F ρ' H' w v → Q v H' := by
    have e : cLr m (aCons ca (aCons cb aNil)) ev ih = (ca ev ih).bind fun x h => (cb ev h).bind fun y h => lrg m [x, y] h := by
      unfold cLr aCons aNil
      cases ca ev ih with
      | ok x h => simp only [R.bind_ok]; cases cb ev h <;> rfl
      | _ => rfl
    rw [← e]; exact hp
  refine ⟨F, ρ, ev, ih, hr, re, hp'.bind.mono fun ρ1 H1 ih1 w g1 hr1 hp1 v r => ?_⟩
  refine ⟨F, ρ1, ev, ih1, hr1, re.grow g1 hr, hp1.bind.mono fun ρ2 H2 ih2 w2 g2 hr2 hp2 v2 r2 => ?_⟩
  unfold lrg at hp2
  split at hp2
  · rename_i hj; cases hj
  · rename_i hj
    cases hj
    cases r with | d r =>
    cases r with | int =>
    cases r2 with | d r2 =>
    cases r2 with | int =>
    exact ⟨_, _, rfl, rfl, lrg_ok hr2 hp2⟩
  · exact hp2.elim

/-! ### (a, b, ..) = a list -/
theorem kun_list' {prog : Program} {w : World} {A : Around} {E : Value → Shared → Prop} {s : Shared} {env : Env} {elts : List Expr} {x1 : Nat} {l : Addr} {items : Array Value} {Q : Unit → Shared → Prop} (hl : s.heap.IsList l items) (hh : A.handled = none) (hn : (assignEach elts env).length = items.size)
    (hstar : (assignEach elts env).findIdx? (·.1) = none)
    (h : ∀ h', (∀ b o, s.heap.get? b = some o → h'.get? b = some o) → wpAny (model prog w) A (assignInOrder ((assignEach elts env).map (·.2)) items.toList) Q E { s with heap := h' }) :
    wpAny (model prog w) A (assign (.Tuple elts x1 pos) env (.ref l)) Q E s := by
  rw [assign_Tuple]
  refine wpAny_bind (wpAny_standAt ?_)
  unfold unpack
  rw [hn, hstar]
  exact wpAny_bind (wpAny_holding (kun_itemsOf hh hl fun h' he => h h' fun b o e => he b o (Nat.ne_of_lt (Heap.lt_size e)) e))
def gLst (K : PySem.W.Frag) (n : Nat) (t : TGs) : TG := fun v σ H Q => ∃ a xs, v = .ref a ∧ SqL K H a xs ∧ xs.length = n ∧ t xs σ H Q
theorem pg_lst {es : List Expr} {k : Nat} {t : TGs} {n : Nat} (hc : X.calm = true) (h : PGs X es t)
    (hn : (assignEach es X.env).length = n) (hst : (assignEach es X.env).findIdx? (·.1) = none) : PG X (.Tuple es k pos) (gLst X.K n t) := by
  refine ⟨fun pins s σ H v u Q I r hw => ?_⟩
  obtain ⟨a, xs, e1, hq, hl, hw⟩ := hw
  subst e1
  cases r
  obtain ⟨its, rv, ht, hz⟩ := I.list hq
  refine kun_list' ht.isList (I.ok.hd hc) (by simp [hn, ← hl, rv.length]) hst fun h' hx => ?_
  have I1 : Inv X pins σ H { s with heap := h' } := I.kept (t' := s.toks) fun b o e => hx b o e
  exact h.run pins _ σ H xs _ Q I1 (by simpa using rv) hw
theorem PG.or {tg : Expr} {t t' : TG} (h : PG X tg t) (h' : PG X tg t') : PG X tg fun v σ H Q => t v σ H Q ∨ t' v σ H Q := ⟨fun pins s σ H v u Q I r q => q.elim (h.run pins s σ H v u Q I r) (h'.run pins s σ H v u Q I r)⟩
def tLs (c : Cts) : Ct := fun w e h => match w with
  | .d (.tup l) => c (l.map .d) e h
  | w => match lstW w h with
    | some l => c l e h
    | none => none
theorem fg_l {tgs : List Expr} {k n : Nat} {is : List Nat} {cb : Cts} (hc : X.calm = true) (ln : Len cb n) (hn : (assignEach tgs X.env).length = n) (hst : (assignEach tgs X.env).findIdx? (·.1) = none) (h : FGs X T tgs is cb) : FG X T (.Tuple tgs k pos) is (tLs cb) :=
  PG.imp (PG.or (pg_tup hc h hn hst) (pg_lst hc h hn hst)) fun v σ H Q q => by
    obtain ⟨F, ρ, e, ih, w, e', hr, re, r, he, hq⟩ := q
    unfold tLs at he
    split at he
    · rename_i l
      cases r with | d r => cases r with | tup t z rl =>
        have hl := ln.len _ _ _ _ he
        exact .inl ⟨_, _, rfl, t.sq, by rw [← rl.rws.length]; exact hl, F, ρ, e, ih, _, e', hr, re, rl.rws, he, hq⟩
    · split at he
      · rename_i l e1
        obtain ⟨a, vs, rfl, s, rs, _⟩ := lstW_at hr r e1
        have hl := ln.len _ _ _ _ he
        exact .inr ⟨_, _, rfl, .inl s, by rw [← rs.length]; exact hl, F, ρ, e, ih, _, e', hr, re, rs, he, hq⟩
      · cases he
end
end Fz
set_option Elab.async false
set_option linter.all false
set_option maxRecDepth 100000
set_option maxHeartbeats 2000000
/-! Fz: displays of dicts. -/
namespace Fz
open PySem PySem.W L2 PyProof.Rows

abbrev Cps := List (Cd × Cd)
def pOf : Cps → Ev → Hh → R (List (W × W))
  | [], _, h => .ok [] h
  | (a, b) :: r, e, h => (a e h).bind fun x h => (b e h).bind fun y h => (pOf r e h).bind fun ps h => .ok ((x, y) :: ps) h
def FPs (X : Cx) (T : Tb) (Wx : WX) (pos : Pos) (keys : List (Option Expr)) (values : List Expr) (cs : Cps) : Prop := PPs X pos keys values (cs.map fun c => (tOf X.K T Wx c.1, tOf X.K T Wx c.2))
section
variable {X : Cx} {T : Tb} {Wx : WX} {k v : Expr} {ks : List (Option Expr)} {vs : List Expr} {pos : Pos} {ca cb : Cd} {cs : Cps}
theorem fps_nil : FPs X T Wx pos [] [] [] := pps_nil
theorem fps_cons (hk : FE X T Wx k ca) (hv : FE X T Wx v cb) (hr : FPs X T Wx pos ks vs cs) : FPs X T Wx pos (some k :: ks) (v :: vs) ((ca, cb) :: cs) := pps_cons hk hv hr
abbrev RPs (K : PySem.W.Frag) (F ρ : List Addr) (H : Hp) : List (W × W) → List (V × V) → Prop := Paired fun p q => RW K F ρ H p.1 q.1 ∧ RW K F ρ H p.2 q.2
theorem RPs.grow {K F ρ H ρ' H' ih} (g : Grow F ρ H ρ' H') (h : HR K T F ρ ih H) {w : List (W × W)} {v : List (V × V)} (r : RPs K F ρ H w v) : RPs K F ρ' H' w v :=
  Paired.mapP r fun _ _ x => ⟨x.1.grow g h, x.2.grow g h⟩
theorem tPairs_at {K : PySem.W.Frag} : ∀ {cs : Cps} {σ : L2.St} {F ρ : List Addr} {H : Hp} {ev : Ev} {ih : Hh} {Q : List (V × V) → Hp → Prop}, HR K T F ρ ih H → RE K F ρ H ev σ →
    Pst K T Wx σ F ρ H (pOf cs ev ih) (fun ρ' H' _ ps => ∀ vs, RPs K F ρ' H' ps vs → Q vs H') → tPairs (cs.map fun c => (tOf K T Wx c.1, tOf K T Wx c.2)) σ H Q
  | [], σ, F, ρ, H, ev, ih, Q, hr, re, hp => hp.ok hr [] .nil
  | (a, b) :: cs, σ, F, ρ, H, ev, ih, Q, hr, re, hp => by
    have hp' : Pst K T Wx σ F ρ H ((a ev ih).bind fun x h => (b ev h).bind fun y h => (pOf cs ev h).bind fun ps h => .ok ((x, y) :: ps) h) _ := hp
    refine ⟨F, ρ, ev, ih, hr, re, hp'.bind.mono fun ρ1 H1 ih1 x g1 hr1 hp1 v1 r1 => ?_⟩
    have re1 := re.grow g1 hr
    refine ⟨F, ρ1, ev, ih1, hr1, re1, hp1.bind.mono fun ρ2 H2 ih2 y g2 hr2 hp2 v2 r2 => ?_⟩
    refine tPairs_at hr2 (re1.grow g2 hr1) (hp2.bind.mono fun ρ3 H3 ih3 ps g3 hr3 hp3 vs rs => ?_)
    exact hp3.ok hr3 _ (.cons ⟨(r1.grow g2 hr1).grow g3 hr2, r2.grow g3 hr2⟩ rs)
end
/-! ### keys: numbers, texts -/
def keysW : List (W × W) → Option (List (D × W))
  | [] => some []
  | (.d k, w) :: r => if k.isK then (keysW r).map ((k, w) :: ·) else none
  | _ :: _ => none
def mergeD (l more : List (D × W)) : List (D × W) := more.foldl (fun acc p => putd p.1 p.2 acc) l
def cDis (cs : Cps) : Cd := fun e h => (pOf cs e (h ++ [.dk []])).bind fun ps h' => match keysW ps, h'[h.length]? with
  | some kvs, some (.dk []) => if kvs.length ≤ 15 then .ok (.r h.length) (h'.set h.length (.dk (mergeD [] kvs))) else .no
  | _, _ => .no
theorem keysW_at {K : PySem.W.Frag} {F ρ : List Addr} {H : Hp} : ∀ {ps : List (W × W)} {vs : List (V × V)} {kvs : List (D × W)}, keysW ps = some kvs → RPs K F ρ H ps vs → ∃ ks : List (Key × V), vs = ks.map (fun kv => (kV kv.1, kv.2)) ∧ RD K F ρ H kOf D.isK kvs ks
  | [], vs, kvs, e, r => by cases r; simp [keysW] at e; subst e; exact ⟨[], rfl, .nil⟩
  | (.d k, w) :: ps, vs, kvs, e, r => by
    simp only [keysW] at e
    split at e
    · rename_i hk
      rw [Option.map_eq_some_iff] at e
      obtain ⟨l, e1, rfl⟩ := e
      cases r with
      | @cons _ q _ qs a b =>
        obtain ⟨ks, rfl, rl⟩ := keysW_at e1 b
        obtain ⟨q1, q2⟩ := q
        refine ⟨(kOf k, q2) :: ks, ?_, .cons ⟨⟨rfl, hk⟩, a.2⟩ rl⟩
        rw [List.map_cons, ← key_v hk a.1]
    · cases e
  | (.r _, w) :: ps, vs, kvs, e, r => by simp [keysW] at e
theorem RD.merge {K : PySem.W.Frag} {F ρ : List Addr} {H : Hp} : ∀ {more : List (D × W)} {ks : List (Key × V)} {l : List (D × W)} {kvs : List (Key × V)}, RD K F ρ H kOf D.isK more ks → RD K F ρ H kOf D.isK l kvs → RD K F ρ H kOf D.isK (mergeD l more) (mergeK kvs ks)
  | [], _, l, kvs, r, q => by cases r; exact q
  | p :: more, _, l, kvs, r, q => by
    cases r with
    | @cons _ b _ bs a t =>
      have q' : RD K F ρ H kOf D.isK (putd p.1 p.2 l) (putK kvs b.1 b.2) := by
        rw [a.1.1]; exact RD.put kOf_inj a.1.2 q a.2
      show RD K F ρ H kOf D.isK (mergeD (putd p.1 p.2 l) more) (mergeK (putK kvs b.1 b.2) bs)
      exact RD.merge (more := more) t q'
section
variable {X : Cx} {T : Tb} {Wx : WX} {keys : List (Option Expr)} {values : List Expr} {pos : Pos} {cs : Cps}
theorem fe_dis (h : FPs X T Wx pos keys values cs) (hall : keys.all (·.isSome) = true) (hl : keys.length = values.length) (h0 : keys ≠ []) (h15 : keys.length ≤ 15) : FE X T Wx (.Dict keys values pos) (cDis cs) := PE.imp (pe_disp h hall hl h0 h15) fun σ H Q q => by
  obtain ⟨F, ρ, ev, ih, hr, re, hp⟩ := q
  intro p np
  have g0 : Grow F ρ H (ρ ++ [p]) (upd H p (.dK [])) := grow_add np
  have hr0 : HR X.K T F (ρ ++ [p]) (ih ++ [.dk []]) (upd H p (.dK [])) := hr.add np (.dk .nil)
  have hp0 : Pst X.K T Wx σ F (ρ ++ [p]) (upd H p (.dK [])) ((pOf cs ev (ih ++ [.dk []])).bind fun ps h' => match keysW ps, h'[ih.length]? with
      | some kvs, some (.dk []) => if kvs.length ≤ 15 then R.ok (W.r ih.length) (h'.set ih.length (.dk (mergeD [] kvs))) else .no
      | _, _ => .no) fun ρ' H' _ w => ∀ v, RW X.K F ρ' H' w v → Q v H' := by
    unfold cDis at hp
    revert hp
    generalize ((pOf cs ev (ih ++ [.dk []])).bind fun ps h' => match keysW ps, h'[ih.length]? with
      | some kvs, some (.dk []) => if kvs.length ≤ 15 then R.ok (W.r ih.length) (h'.set ih.length (.dk (mergeD [] kvs))) else .no
      | _, _ => .no) = m
    intro hp
    cases m with
    | no => exact hp
    | ok a h2 => exact fun ρ2 H2 g2 hr2 => hp ρ2 H2 (g0.trans hr0 g2) hr2
    | ex c p h2 => exact fun ρ2 H2 cls dx g2 hr2 x => hp ρ2 H2 cls dx (g0.trans hr0 g2) hr2 x
  refine tPairs_at hr0 (re.grow g0 hr) (hp0.bind.mono fun ρ1 H1 ih1 ps g1 hr1 hp1 vs rs => ?_)
  have hn : ρ1[ih.length]? = some p := g1.get (get_last hr.len)
  split at hp1
  · rename_i kvs e1 e2
    split at hp1
    · rename_i z
      obtain ⟨ks, rfl, rl⟩ := keysW_at e1 rs
      obtain ⟨u, eH, ro⟩ := hr1.at hn e2
      cases ro with | dk r0 =>
      cases r0
      have m := List.mem_of_getElem? hn
      refine ⟨eH, ks, rfl, by rw [← Paired.length rl]; exact z, ?_⟩
      exact hp1 _ _ (grow_set m) (hr1.set hn (.dk (rd_dk (RD.kp (Grow.keepM (grow_set m) hr1) (fun _ _ q => q) (RD.merge rl .nil))))) _ (.r hn)
    · exact hp1.elim
  · exact hp1.elim
/-! ### one key: a tuple -/
def cDisT (ca cb : Cd) : Cd := fun e h => (pOf [(ca, cb)] e (h ++ [.dt []])).bind fun ps h' => match ps, h'[h.length]? with
  | [(.d k, w)], some (.dt []) => if k.isKT then .ok (.r h.length) (h'.set h.length (.dt [(k, w)])) else .no
  | _, _ => .no
def tDisT (tk tv : TE) : TE := fun σ H Q => ∀ p, H p = none → tPairs [(tk, tv)] σ (upd H p (.dT [])) fun ps H2 => H2 p = some (.dT []) ∧ ∃ (ks : List Key) (b : Addr) (v : V), ps = [(.ref b, v)] ∧ H2 b = some (.tup (ks.map kV)) ∧ Q (.ref p) (upd H2 p (.dT [(ks, v)]))
theorem pe_dispT {k v : Expr} {tk tv : TE} (hu : X.A.units + 1 < cLine) (h : PPs X pos [some k] [v] [(tk, tv)]) : PE X (.Dict [some k] [v] pos) (tDisT tk tv) := by
  refine ⟨fun pins s σ H Q I q => ?_⟩
  have hn := I.hok.fresh (Nat.le_refl s.heap.objs.size)
  have I1 := I.laid (a := s.heap.objs.size) (o := .dT []) (h' := s.heap.push { cls := .type "dict", data := .dict #[] }) (t' := s.toks) (fun _ _ q => Heap.get?_push_of_some _ q) (Nat.le_refl _) (dt_empty s.heap I.big)
  rw [arm_eval_Dict, zip_pairTrees [some k] [v] X.env pos rfl rfl, dictDisplay_pairs (pairTrees [some k] [v] X.env pos) ?h0 (by rw [pairTrees_length [some k] [v] X.env pos rfl rfl]; simp)]
  case h0 =>
    have := pairTrees_length [some k] [v] X.env pos rfl rfl
    intro he
    rw [he] at this
    cases this
  refine wpAny_bind (wpAny_standAt (wpAny_bind (wpAny_subDictH (knd := tupleKind (mixKind X.prog X.w)) (show X.A.units < cLine from Nat.lt_of_succ_lt hu) (by rw [pairTrees_length [some k] [v] X.env pos rfl rfl]; simp) (thn (h.run pins _ σ _ _ I1 (q _ hn)) fun ws s2 ⟨ps, H2, I2, rel, e, ks, b, v', ep, eb, q2⟩ => ?_))))
  subst ep
  cases rel with
  | @cons _ w1 _ ws1 a t =>
  cases t
  obtain ⟨w1, w2⟩ := w1
  obtain ⟨a1, a2⟩ := a
  cases (show w1 = Value.ref b from a1)
  obtain ⟨z, hd, xs, r0, dd⟩ := dt_of I2.hok e
  cases r0
  refine ⟨[(ks, b, w2)], ⟨rfl, rfl, key_of I2.hok eb, trivial⟩, dd, fun h' tk' dd' hs => wpAny_pure ⟨.ref s.heap.objs.size, _, ?_, rfl, q2⟩⟩
  obtain ⟨q, es, ep, hq, h2, h3, h4, _, h5⟩ := dd'
  refine d_write I2 (by rw [e]; exact True.intro) hs ⟨q, hq⟩ ⟨by show 1 ≤ sizeLine; decide, hd, _, ?_, q, es, ep, hq, h2, h3, h4, h5⟩
  refine .cons ⟨rfl, ?_, a2⟩ .nil
  show upd H2 _ _ b = _
  rw [upd_ne (ne_of eb e (fun z => nomatch z))]
  exact eb
theorem fe_disT {k v : Expr} {ca cb : Cd} (hu : X.A.units + 1 < cLine) (h : FPs X T Wx pos [some k] [v] [(ca, cb)]) : FE X T Wx (.Dict [some k] [v] pos) (cDisT ca cb) := PE.imp (pe_dispT hu h) fun σ H Q q => by
  obtain ⟨F, ρ, ev, ih, hr, re, hp⟩ := q
  intro p np
  have g0 : Grow F ρ H (ρ ++ [p]) (upd H p (.dT [])) := grow_add np
  have hr0 : HR X.K T F (ρ ++ [p]) (ih ++ [.dt []]) (upd H p (.dT [])) := hr.add np (.dt .nil)
  have hp0 : Pst X.K T Wx σ F (ρ ++ [p]) (upd H p (.dT [])) ((pOf [(ca, cb)] ev (ih ++ [.dt []])).bind fun ps h' => match ps, h'[ih.length]? with
      | [(.d k, w)], some (.dt []) => if k.isKT then R.ok (W.r ih.length) (h'.set ih.length (.dt [(k, w)])) else .no
      | _, _ => .no) fun ρ' H' _ w => ∀ v, RW X.K F ρ' H' w v → Q v H' := by
    unfold cDisT at hp
    revert hp
    generalize ((pOf [(ca, cb)] ev (ih ++ [.dt []])).bind fun ps h' => match ps, h'[ih.length]? with
      | [(.d k, w)], some (.dt []) => if k.isKT then R.ok (W.r ih.length) (h'.set ih.length (.dt [(k, w)])) else .no
      | _, _ => .no) = m
    intro hp
    cases m with
    | no => exact hp
    | ok a h2 => exact fun ρ2 H2 g2 hr2 => hp ρ2 H2 (g0.trans hr0 g2) hr2
    | ex c p h2 => exact fun ρ2 H2 cls dx g2 hr2 x => hp ρ2 H2 cls dx (g0.trans hr0 g2) hr2 x
  refine tPairs_at hr0 (re.grow g0 hr) (hp0.bind.mono fun ρ1 H1 ih1 ps g1 hr1 hp1 vs rs => ?_)
  have hn : ρ1[ih.length]? = some p := g1.get (get_last hr.len)
  split at hp1
  · rename_i kd w e2
    split at hp1
    · rename_i hk
      cases rs with | @cons _ b _ bs a t =>
      cases t
      obtain ⟨v1, v2⟩ := b
      obtain ⟨b, rfl, eb⟩ := keyT_v hk a.1
      obtain ⟨u, eH, ro⟩ := hr1.at hn e2
      cases ro with | dt r0 =>
      cases r0
      have m := List.mem_of_getElem? hn
      refine ⟨eH, ktOf kd, b, v2, rfl, eb, ?_⟩
      exact hp1 _ _ (grow_set m) (hr1.set hn (.dt (rd_dt (RD.kp (Grow.keepM (grow_set m) hr1) (fun _ _ q => q) (.cons ⟨⟨rfl, hk⟩, a.2⟩ .nil))))) _ (.r hn)
    · exact hp1.elim
  · exact hp1.elim
end
end Fz
set_option Elab.async false
set_option linter.all false
set_option maxRecDepth 100000
set_option maxHeartbeats 2000000
/-! Fz: repr of data; actual == due and repr(actual) == repr(due). -/
namespace Fz
open PySem PySem.W L2 PyProof.Rows

mutual
def D.sz : D → Nat
  | .non => 4
  | .bl _ => 5
  | .int i => i.natAbs.log2 + 2
  | .str l => 10 * l.length + 2
  | .tup l => 2 + szL l
  | .lst l => 2 + szL l
def szL : List D → Nat
  | [] => 0
  | d :: r => (D.sz d + 2) + szL r
end
mutual
/-- whole numbers that repr can write -/
def D.shw : D → Bool
  | .int i => decide (i.natAbs.log2 < 1920)
  | .tup l => shwL l
  | .lst l => shwL l
  | _ => true
def shwL : List D → Bool
  | [] => true
  | d :: r => D.shw d && shwL r
end
theorem listText_le (ts : List Str) : (listText ts).length ≤ 2 + piled ts := by
  cases ts with
  | nil => show 2 ≤ 2 + 0; omega
  | cons t r =>
    have e : (textFrom 0 "[" (t :: r)).length = (("[" : Str) ++ ("" : Str) ++ t).length + piled r := textFrom_length_pos r 1 _ (Nat.succ_pos 0)
    show (textFrom 0 "[" (t :: r) ++ ("]" : Str)).length ≤ _
    rw [strLen_append, e, strLen_append, strLen_append, piled_cons]
    have e1 : ("[" : Str).length = 1 := rfl
    have e2 : ("]" : Str).length = 1 := rfl
    have e3 : ("" : Str).length = 0 := rfl
    omega
theorem tupleText_le (ts : List Str) : (tupleText ts).length ≤ 2 + piled ts := by
  show (("(" : Str) ++ Str.join ", " ts ++ ((if ts.length == 1 then ",)" else ")" : String) : Str)).length ≤ _
  rw [strLen_append, strLen_append]
  have e1 : ("(" : Str).length = 1 := rfl
  have e2 : ((if ts.length == 1 then ",)" else ")" : String) : Str).length ≤ 2 := by split <;> decide
  cases ts with
  | nil =>
    have e3 : (Str.join ", " []).length = 0 := rfl
    have e4 : ((if ([] : List Str).length == 1 then ",)" else ")" : String) : Str).length = 1 := rfl
    rw [e3, e4, e1]; omega
  | cons t r =>
    have := join_length_add (t :: r) (by simp)
    omega
mutual
theorem shown_le : ∀ (n : Nat) (d : D), sh n d = true → d.py.shown.length ≤ D.sz d
  | _, .non, _ => by simp only [D.py, PyData.shown, D.sz]; decide
  | _, .bl b, _ => by simp only [D.py, PyData.shown, D.sz]; cases b <;> decide
  | _, .int i, _ => by
    simp only [D.py, PyData.shown, D.sz]
    have := int_text_length_le (a := i) (k := i.natAbs.log2 + 1) (Nat.succ_pos _) (Nat.lt_succ_self _)
    rw [PySem.ofString_length]
    omega
  | n, .str l, h => by
    have h' : l.all (· < 1114112) = true := by cases n <;> exact h
    simp only [D.py, PyData.shown, D.sz]
    have := StrLaws.reprText_len (toStr l) fun c hc => by
      have := List.all_eq_true.mp h' c (by simpa [toStr] using hc)
      have := of_decide_eq_true this
      omega
    rw [toStr_len] at this
    exact this
  | n + 1, .tup l, h => by
    simp only [D.py, PyData.shown, D.sz]
    have := tupleText_le (PyData.shownAll (pyL l))
    have := shownL_le n l h
    omega
  | n + 1, .lst l, h => by
    simp only [D.py, PyData.shown, D.sz]
    have := listText_le (PyData.shownAll (pyL l))
    have := shownL_le n l h
    omega
  | 0, .tup _, h => by simp [sh] at h
  | 0, .lst _, h => by simp [sh] at h
theorem shownL_le : ∀ (n : Nat) (l : List D), l.all (sh n) = true → piled (PyData.shownAll (pyL l)) ≤ szL l
  | _, [], _ => by simp only [pyL, PyData.shownAll, szL]; exact Nat.le_refl _
  | n, d :: r, h => by
    rw [List.all_cons, Bool.and_eq_true] at h
    simp only [pyL, PyData.shownAll, szL, piled_cons]
    have := shown_le n d h.1
    have := shownL_le n r h.2
    omega
end
mutual
theorem shw_py : ∀ d : D, d.py.showable = D.shw d
  | .non => by simp only [D.py, PyData.showable, D.shw]
  | .bl _ => by simp only [D.py, PyData.showable, D.shw]
  | .int i => by simp only [D.py, PyData.showable, D.shw]
  | .str l => by simp only [D.py, PyData.showable, D.shw]
  | .tup l => by simp only [D.py, PyData.showable, D.shw]; exact shwL_py l
  | .lst l => by simp only [D.py, PyData.showable, D.shw]; exact shwL_py l
theorem shwL_py : ∀ l : List D, PyData.showableAll (pyL l) = shwL l
  | [] => by simp only [pyL, PyData.showableAll, shwL]
  | d :: r => by simp only [pyL, PyData.showableAll, shwL, shw_py d, shwL_py r]
end
def canShow (d : D) : Bool := sh 60 d && D.shw d && decide (D.sz d ≤ 16777216)
theorem sh_up : ∀ (n m : Nat), n ≤ m → ∀ d : D, sh n d = true → sh m d = true
  | n, m, h, .non, _ => by cases m <;> rfl
  | n, m, h, .bl _, _ => by cases m <;> rfl
  | n, m, h, .int _, _ => by cases m <;> rfl
  | n, m, h, .str l, e => by cases n <;> cases m <;> exact e
  | n + 1, m + 1, h, .tup l, e => List.all_eq_true.mpr fun x hx => sh_up n m (by omega) x (List.all_eq_true.mp (show l.all (sh n) = true from e) x hx)
  | n + 1, m + 1, h, .lst l, e => List.all_eq_true.mpr fun x hx => sh_up n m (by omega) x (List.all_eq_true.mp (show l.all (sh n) = true from e) x hx)
  | n + 1, 0, h, _, _ => absurd h (by omega)
  | 0, _, _, .tup _, e => by simp [sh] at e
  | 0, _, _, .lst _, e => by simp [sh] at e
def rp (d : D) : List Nat := d.py.shown.cps.toList
theorem toStr_rp (d : D) : toStr (rp d) = d.py.shown := by
  unfold toStr rp
  rw [Array.toArray_toList]
def biRepr (ws : List W) (h : Hh) : R W := match ws with
  | [w] => match valD w h with
    | some d => if canShow d then .ok (.d (.str (rp d))) h else .no
    | none => .no
  | _ => .no
def rRepr (K : PySem.W.Frag) : List V → Hp → VK → Prop := fun xs H Q => ∃ (v : V) (d : PyData), xs = [v] ∧ Dp K H v d ∧ d.showable = true ∧ d.hasDict = false ∧ d.depth ≤ 60 ∧ d.shown.length ≤ sizeLine ∧ Q (.str d.shown) H
theorem cr_repr {X : Cx} (hg : X.A.guards = some []) (hu : X.A.units + 64 < cLine) : CallR X (.builtin "repr") (rRepr X.K) := by
  intro pins s σ H xs us Q I r h
  obtain ⟨v, d, rfl, hd, hs, hn, hdp, hz, q⟩ := h
  obtain ⟨u, rfl, rv⟩ := vals1 r
  obtain ⟨as, rd⟩ := Dp.reads I d v u hd rv
  have fin : ∀ (h' : Heap) (t tk : Tok), (∀ b o, s.heap.get? b = some o → h'.get? b = some o) → EP X pins σ Q (.str d.shown t) { s with heap := h', toks := tk } :=
    fun h' t tk hk => ⟨.str d.shown, H, I.kept hk, ⟨_, rfl⟩, q⟩
  cases rd with
  | none => exact P.repr_of_none (fin _ _ _ fun _ _ e => e)
  | bool b => exact P.repr_of_bool (by have := fin s.heap s.toks (s.toks + 1) fun _ _ e => e; simpa [PyData.shown] using this)
  | int i t => exact P.repr_of_int (by simpa [PyData.showable] using hs) (fin _ _ _ fun _ _ e => e)
  | str x t => exact P.repr_of_str (fin _ _ _ fun _ _ e => e) hz
  | list h1 h2 h3 h4 => exact repr_of_reads' (.list h1 h2 h3 h4) hs (PyData.noDict_hsm hn) hg (by omega) (fun _ _ e => e) (fun h' u tk hk => fin h' u tk hk) hz
  | tuple h1 h2 h3 h4 => exact repr_of_reads' (.tuple h1 h2 h3 h4) hs (PyData.noDict_hsm hn) hg (by omega) (fun _ _ e => e) (fun h' u tk hk => fin h' u tk hk) hz
  | dict _ _ _ _ _ => simp [PyData.hasDict] at hn
theorem fc_repr {K : PySem.W.Frag} {T : Tb} : FCl K T biRepr (rRepr K) := by
  intro Wx σ F ρ ih H xs vs Q hr rs hp
  unfold biRepr at hp
  split at hp
  · cases rs with | cons r t => cases t with | nil =>
      split at hp
      · rename_i d e
        split at hp
        · rename_i c
          unfold canShow at c
          simp only [Bool.and_eq_true, decide_eq_true_eq] at c
          obtain ⟨l1, l2⟩ := sh_lay 60 d c.1.1
          have hz := Nat.le_trans (shown_le 60 d c.1.1) c.2
          refine ⟨_, d.py, rfl, valD_dp hr r e, by rw [shw_py]; exact c.1.2, PyData.hasDict_of_canLay _ l1, l2, hz, ?_⟩
          rw [← toStr_rp]
          refine hp.ok hr _ (.d (.str _ ?_))
          rw [← toStr_len, toStr_rp]
          exact hz
        · exact hp.elim
      · exact hp.elim
  · exact hp.elim
/-! ### actual == due and repr(actual) == repr(due) -/
def opEqS (x y : W) (h : Hh) : R W := match x, y with
  | .d (.str a), .d (.str b) => .ok (.d (.bl (a == b))) h
  | _, _ => .no
theorem fop_eqS {K : PySem.W.Frag} {T : Tb} : FOp K T opEqS rEq := by
  intro Wx σ F ρ ih H x y v1 v2 Q hr r1 r2 hp
  unfold opEqS at hp
  split at hp
  · cases r1 with | d r1 => cases r2 with | d r2 => cases r1 with | str a za => cases r2 with | str b zb =>
      refine ⟨rfl, ?_⟩
      rw [dec_str, str_beq]
      exact hp.ok hr _ (.d (.bl _))
  · exact hp.elim
section
variable {X : Cx} {T : Tb} {Wx : WX} {e : Expr}
/-- a function that says less -/
theorem FE.ref {c c' : Cd} (h : FE X T Wx e c) (r : ∀ ev ih, c' ev ih = .no ∨ c' ev ih = c ev ih) : FE X T Wx e c' := PE.imp h fun σ H Q q => by
  obtain ⟨F, ρ, ev, ih, hr, re, hp⟩ := q
  refine ⟨F, ρ, ev, ih, hr, re, ?_⟩
  rcases r ev ih with e | e
  · rw [e] at hp; exact hp.elim
  · rw [e] at hp; exact hp
end
mutual
theorem eqv_refl : ∀ d : D, D.eqv d d = true
  | .non => by simp [D.eqv]
  | .bl _ => by simp [D.eqv]
  | .int _ => by simp [D.eqv]
  | .str _ => by simp [D.eqv]
  | .tup l => by simp only [D.eqv]; exact eqvL_refl l
  | .lst l => by simp only [D.eqv]; exact eqvL_refl l
theorem eqvL_refl : ∀ l : List D, eqvL l l = true
  | [] => by simp [eqvL]
  | d :: r => by simp only [eqvL, eqv_refl d, eqvL_refl r]; rfl
end
def cSame (i j : Nat) : Cd := fun e h => match e[i]?, e[j]? with
  | some (some x), some (some y) => match valD x h, valD y h with
    | some a, some b => if D.beq a b && canShow a then .ok (.d (.bl true)) h else if sh 64 a && sh 64 b && !(D.eqv a b) then .ok (.d (.bl false)) h else .no
    | _, _ => .no
  | _, _ => .no
def cSame' (i j : Nat) : Cd := cAnd (c2 (opEq false) (cv i) (cv j)) (c2 opEqS (cCl biRepr (aCons (cv i) aNil)) (cCl biRepr (aCons (cv j) aNil)))
theorem same_ref (i j : Nat) (e : Ev) (h : Hh) : cSame i j e h = .no ∨ cSame i j e h = cSame' i j e h := by
  unfold cSame cSame' cAnd c2 cv cCl aCons aNil
  cases e1 : e[i]? with
  | none => simp
  | some o1 =>
    cases o1 with
    | none => simp
    | some x =>
      cases e2 : e[j]? with
      | none => simp
      | some o2 =>
        cases o2 with
        | none => simp
        | some y =>
          simp only [R.bind_ok]
          cases v1 : valD x h with
          | none => simp
          | some a =>
            cases v2 : valD y h with
            | none => simp
            | some b =>
              dsimp only
              split
              · rename_i c
                rw [Bool.and_eq_true] at c
                obtain ⟨c1, c2⟩ := c
                have := (D.beq_iff a b).mp c1
                subst this
                right
                have c3 := c2
                unfold canShow at c3
                simp only [Bool.and_eq_true, decide_eq_true_eq] at c3
                have s64 : sh 64 a = true := sh_up 60 64 (by omega) a c3.1.1
                have q1 : opEq false x y h = .ok (.d (.bl true)) h := by
                  unfold opEq
                  rw [v1, v2]
                  simp [s64, eqv_refl]
                have q2 : biRepr [x] h = .ok (.d (.str (rp a))) h := by unfold biRepr; simp [v1, c2]
                have q3 : biRepr [y] h = .ok (.d (.str (rp a))) h := by unfold biRepr; simp [v2, c2]
                rw [q1]
                simp [tru, q2, q3, opEqS, e1, e2]
              · split
                · rename_i c
                  simp only [Bool.and_eq_true, Bool.not_eq_true'] at c
                  right
                  have q1 : opEq false x y h = .ok (.d (.bl false)) h := by
                    unfold opEq
                    rw [v1, v2]
                    simp [c.1.1, c.1.2, c.2]
                  rw [q1]
                  simp [tru]
                · left; rfl
theorem fe_same {X : Cx} {T : Tb} {Wx : WX} {e : Expr} {i j : Nat} (h : FE X T Wx e (cSame' i j)) : FE X T Wx e (cSame i j) := h.ref (same_ref i j)
end Fz
set_option Elab.async false
set_option linter.all false
set_option maxRecDepth 100000
set_option maxHeartbeats 2000000
/-! Fz: defs by tables of functions; the law's call. -/
namespace Fz
open PySem PySem.W L2 PyProof.Rows

/-- a def: n arguments, N slots -/
def mkFn (n N : Nat) (body : Cs) : Fn := fun ws h => if ws.length = n then match body (ws.map some ++ List.replicate (N - n) none) h with
  | .rt w h => .ok w h
  | .nx _ h => .ok (.d .non) h
  | .ex c p _ h => .ex c p h
  | _ => .no else .no
theorem RE.start {K : PySem.W.Frag} {F ρ : List Addr} {H : Hp} {ws : List W} {vs : List V} (r : RWs K F ρ H ws vs) (m : Nat) : RE K F ρ H (ws.map some ++ List.replicate m none) (vs.map some ++ List.replicate m none) := by
  refine ⟨by simp [r.length], fun i w q => ?_⟩
  by_cases hi : i < ws.length
  · rw [List.getElem?_append_left (by simpa using hi), List.getElem?_map] at q
    rw [List.getElem?_append_left (by rw [List.length_map, ← r.length]; exact hi), List.getElem?_map]
    cases e : ws[i]? with
    | none => rw [e] at q; cases q
    | some w' =>
      rw [e] at q
      cases q
      obtain ⟨v, e1, r1⟩ := r.get e
      exact ⟨v, by rw [e1]; rfl, r1⟩
  · rw [List.getElem?_append_right (by simpa using hi)] at q
    have := List.mem_of_getElem? q
    rw [List.mem_replicate] at this
    cases this.2
section
variable {P : Program} {w : World} {K : PySem.W.Frag} {mg : Str → Option Value} {base : Heap} {T : Tb}
/-- what a def's body is walked in -/
abbrev cxF (P : Program) (w : World) (K : PySem.W.Frag) (mg : Str → Option Value) (base : Heap) (N : List Str) (qual : Str) (sc : Scope) (f : Addr) (cdv : Value) (A : Around) (outer : List Env) (s : Shared) (H : Hp) (E : XK) : Cx := cxOf (L2.CX P w) P w K mg base N qual sc f cdv A outer s H E
abbrev wxF (E : XK) : WX := fun cls d _ H' => E cls d H'
theorem cg_of {k : Nat} {N ps : List Str} {qual : Str} {sc : Scope} {f : Addr} {cdv : Value} {A : Around} {outer : List Env} {s : Shared} {H : Hp} {E : XK} (S : FnScope N ps sc) (hr : Room k (A.deeper (envOfC qual sc s.heap.objs.size f cdv))) (hg : A.guards = some []) :
    Cg (cxF P w K mg base N qual sc f cdv A outer s H E) (wxF E) k where
  calm := rfl
  room := hr
  gd := hg
  tk := takes_of rfl rfl rfl rfl
  nd := S.nd
  po := passes_of rfl
theorem fn_of {k : Nat} {x qual : Str} {st : Stmt} {f : Addr} {fd : FuncData} {N ps : List Str} {code : Cs} (Fu : Fun K x qual st f fd) (S : FnScope N ps (defScope st))
    (hb : ∀ (cdv : Value) (A : Around) (outer : List Env) (s : Shared) (H : Hp) (E : XK), Cg (cxF P w K mg base N qual (defScope st) f cdv A outer s H E) (wxF E) k →
      FSs (cxF P w K mg base N qual (defScope st) f cdv A outer s H E) T (wxF E) (defBody st) code) :
    FnG P w K mg base (k + 1) f fd ps (spF K T ps.length (mkFn ps.length N.length code)) := by
  refine fnG_of Fu S (fun vs H Q E h => h.1) fun cdv A outer s H vs Q E hr hg h => ?_
  refine ⟨_, hb cdv A outer s H E (cg_of S hr hg), ?_⟩
  obtain ⟨hn, F, ρ, ws, ih, hh, rs, hp⟩ := h
  have hw : ws.length = ps.length := by rw [rs.length, hn]
  have hm : mkFn ps.length N.length code ws ih = match code (ws.map some ++ List.replicate (N.length - ps.length) none) ih with
      | .rt w h => .ok w h
      | .nx _ h => .ok (.d .non) h
      | .ex c p _ h => .ex c p h
      | _ => .no := by unfold mkFn; rw [if_pos hw] <;> rfl
  rw [hm] at hp
  refine ⟨F, ρ, ws.map some ++ List.replicate (N.length - ps.length) none, ih, hh, ?_, ?_⟩
  · have := RE.start rs (N.length - ps.length)
    unfold L2.start
    rw [hn]
    exact this
  cases e : code (ws.map some ++ List.replicate (N.length - ps.length) none) ih with
  | no => rw [e] at hp; exact hp.elim
  | bk _ _ => rw [e] at hp; exact hp.elim
  | ct _ _ => rw [e] at hp; exact hp.elim
  | nx e2 h2 => rw [e] at hp; exact fun ρ' H' σ' g hr2 re => hp ρ' H' g hr2 _ (.d .non)
  | rt w2 h2 => rw [e] at hp; exact fun ρ' H' v g hr2 rw' => hp ρ' H' g hr2 v rw'
  | ex c p e2 h2 => rw [e] at hp; exact fun ρ' H' σ' cls dx g hr2 re xr => hp ρ' H' cls dx g hr2 xr
end
/-! ### the law -/
def scr (ns : List Int) : W := .d (.lst (ns.map .int))
theorem RpL.scr {K M H} : ∀ ns : List Int, RpL K M H (ns.map .int) (ns.map V.int)
  | [] => .nil
  | n :: ns => .cons (.int n) (RpL.scr ns)
/-- nothing of the written part is a list -/
def NoLst (K : PySem.W.Frag) : Prop := ∀ a o, K.lookup a = some o → o.cls ≠ .type "list"
theorem noLst_of {K : PySem.W.Frag} (h : (K.all fun p => !(p.2.cls == .type "list")) = true) : NoLst K := by
  intro a o e
  have : (a, o) ∈ K := by
    induction K with
    | nil => cases e
    | cons p K ih =>
      obtain ⟨b, q⟩ := p
      rw [List.lookup_cons] at e
      split at e
      · rename_i hb
        cases e
        have := eq_of_beq hb
        subst this
        exact List.mem_cons_self
      · exact List.mem_cons_of_mem _ (ih (by rw [List.all_cons, Bool.and_eq_true] at h; exact h.2) e)
  have := List.all_eq_true.mp h _ this
  simpa using this
theorem callG {P : Program} {w : World} {K : PySem.W.Frag} {mg mb : Str → Option Value} {k : Nat} {fa a : Addr} {fd : FuncData} {x : Str} {T : Tb} {g : Fn} {s : Shared} {vs : List Value} {ns : List Int}
    (KX : K.In s.heap) (nl : NoLst K) (hns : s.heap.Ns mainGlobals mg) (hb : s.heap.Ns builtinsNs mb) (hbb : ∀ x : Str, x ≠ "__name__" → mb x = bootBuiltins x) (hlim : s.heap.NoLimit) (hg : s.gens = #[])
    (ha : s.heap.get? a = some { cls := .type "list", data := .seq vs.toArray }) (hi : IntsAre vs ns) (hl : ns.length ≤ sizeLine) (hr : Room k callerA)
    (F : ∀ base : Heap, K.In base → base.Ns mainGlobals mg → FnG P w K mg base k fa fd [x] (spF K T 1 g)) (hbind : ∀ (s : Shared) (u : Value), BindsTo s fd ⟨[u], []⟩ [(x, u)])
    (hv : ∃ h', g [scr ns] [] = .ok (.d (.bl true)) h') :
    codeAny (model P w) callerA (.call (.ref fa) ⟨[.ref a], []⟩) (fun r s' => r = .ok (.ret (.bool true)) ∧ OldK s.heap s'.heap ∧ s'.os = s.os ∧ AllBare s'.gens) s := by
  have hk : K.lookup a = none := by
    cases e : K.lookup a with
    | none => rfl
    | some o =>
      have := KX a o e
      rw [ha] at this
      cases this
      exact absurd rfl (nl a _ e)
  let ob : Obj := { cls := .type "list", data := .seq vs.toArray }
  let H : Hp := fun b => if b = a then some (.frz ob (.lst (ns.map V.int))) else none
  have hHa : H a = some (.frz ob (.lst (ns.map V.int))) := if_pos rfl
  have hHn : ∀ b, b ≠ a → H b = none := fun b n => if_neg n
  have hok : HOk P w H s.heap := fun b u z => by
    by_cases e : b = a
    · subst e
      rw [hHa] at z
      cases z
      exact ⟨ha, by rw [List.length_map]; exact hl, vs, _, vals_ints hi, ha⟩
    · rw [hHn b e] at z; cases z
  have base_of : ∀ {b : Addr} {o : Obj}, s.heap.get? b = some o → b ≠ a → (hidT s.heap H).get? b = some o := fun e n => hidT_get e (hHn _ n)
  have nsK : ∀ {b : Addr} {m : Str → Option Value}, s.heap.Ns b m → (hidT s.heap H).Ns b m := fun {b m} ⟨o, es, ep, e, d, r⟩ => ⟨o, es, ep, base_of e (fun z => by
    subst z
    rw [ha] at e
    cases e
    have d' : Data.seq vs.toArray _ = Data.dict es ep := d
    cases d'), d, r⟩
  have hKb : K.In (hidT s.heap H) := fun b o e => base_of (KX b o e) fun z => by
    subst z
    rw [hk] at e
    cases e
  have hM : L2.Mod K mg (hidT s.heap H) := ⟨hKb, nsK hns, ⟨mb, nsK hb, hbb⟩, let ⟨mc, h1, h2⟩ := hlim; ⟨mc, nsK h1, h2⟩⟩
  have e0 : Env0 P w K mg (hidT s.heap H) callerA [] s H := ⟨rfl, hM, fun b o e => of_hidT e, Nat.le_of_eq (hidT_size _ _), trivial, fun b hb => absurd (show b ∈ ([] : List Addr) from hb) (by simp), hok, .of_eq hg⟩
  have hsp : spF K T 1 g [.ref a] H (fun v _ => v = .bl true) fun _ _ _ => False := by
    obtain ⟨h', e⟩ := hv
    refine ⟨rfl, [], [], [scr ns], [], ⟨rfl, List.nodup_nil, fun a m => absurd m (by simp), fun a m => absurd m (by simp), fun n o q => by simp at q⟩, ?_, ?_⟩
    · refine .cons (.d (.lst ⟨.inr ⟨ob, hHa⟩, by simp⟩ (by rw [List.length_map]; exact hl) (RpL.scr ns))) .nil
    · rw [e]
      intro ρ' H' _ _ v r
      cases r with | d r => cases r; rfl
  refine codeAny_mono ((F _ hKb (nsK hns)).run callerA [] s H ⟨[.ref a], []⟩ [.ref a] [.ref a] _ _ hr rfl e0 (hbind s (.ref a)) (.cons rfl .nil) hsp) fun r s' h => ?_
  cases r with
  | error e =>
    obtain ⟨_, _, _, _, _, _, _, _, _, _, _, _, h⟩ := h
    exact h.elim
  | ok fl =>
    cases fl with
    | next => exact False.elim h
    | brk => exact False.elim h
    | cont => exact False.elim h
    | ret u =>
      obtain ⟨v, H', os, bare, un, hok', r', q⟩ := h
      have q' : v = .bl true := q
      subst q'
      obtain rfl : u = Value.bool true := r'
      refine ⟨rfl, OldK.of_keep fun b o e => ?_, os, bare⟩
      by_cases z : b = a
      · subst z
        have z2 := un.frzs b ob _ hHa
        obtain ⟨e1, _⟩ := hok b _ hHa
        obtain ⟨e2, _⟩ := hok' b _ z2
        rw [e] at e1
        cases e1
        exact e2
      · exact un.keep b o e (hHn b z) (by intro z; exact absurd (show b ∈ ([] : List Addr) from z) (by simp)) (by simp)

theorem walkG {l : PySem.W.OpenLaw} {n k : Nat} {q : Program} {loose : List Str} {XP : (Str → Option Value) → Heap → Prop} {YP : World → Heap → Prop} {d : DefRec} {K : Params → PySem.W.Frag} {x : Str} {g : Fn}
    (hn : l.most = some n) (hn2 : n ≤ sizeLine) (hdf : d.params.defaults = []) (hr : Room k callerA)
    (hY : ∀ (w : World) (h : Heap), YP w h → (K w.params).In h) (nl : ∀ w : World, NoLst (K w.params))
    (F : ∀ (w : World) (mg : Str → Option Value) (fa : Addr) (h : Heap), (K w.params).In h → h.Ns mainGlobals mg → mg d.name = some (.ref fa) →
      ∃ (fd : FuncData) (T : Tb), (∀ (s : Shared) (u : Value), BindsTo s fd ⟨[u], []⟩ [(x, u)]) ∧
        ∀ base : Heap, (K w.params).In base → base.Ns mainGlobals mg → FnG l.prog w (K w.params) mg base k fa fd [x] (spF (K w.params) T 1 g))
    (hv : ∀ ns : List Int, ns.length ≤ n → (∀ z ∈ ns, Builtin.Int.intBits z ≤ 1048576) → ∃ h', g [scr ns] [] = .ok (.d (.bl true)) h') :
    PySem.W.WalkO q loose XP YP l.row.toRowW d [] (fun f vs => PySem.call f vs) := by
  refine Att.attach_callB hn hdf fun w s₀ s₁ mg mb fa o pm cd doc a vs ns G Y ho hd hcd hmg hobj hints hlen hbits hg => ?_
  have KX := hY w _ Y
  obtain ⟨fd, T, hb, hF⟩ := F w mg fa _ KX G.T.g hmg
  exact callG KX (nl w) G.T.g G.T.b G.T.builtins G.T.nolimit hg hobj hints (Nat.le_trans hlen hn2) hr hF hb (hv ns hlen hbits)
end Fz
set_option Elab.async false
set_option linter.all false
set_option maxRecDepth 100000
set_option maxHeartbeats 2000000
/-! Fz: the judgements' rules, their premises filled by rfl. -/
namespace Fz
open PySem PySem.W L2 PyProof.Rows

/-- what stands at a def's name -/
structure Inf (K : PySem.W.Frag) (mg : Str → Option Value) (x : Str) (f : Addr) (fd : FuncData) (ps : List Str) : Prop where
  mg : mg x = some (.ref f)
  kp : PySem.W.keepIn K (.ref f) = true
  bn : Binds K fd ps []
section
variable {X : Cx} {T : Tb} {Wx : WX} {k : Nat}
theorem Cg.hu (G : Cg X Wx k) : X.A.units + 66 < cLine := by have := G.room.un; omega
theorem Cg.hu1 (G : Cg X Wx k) : X.A.units + 1 < cLine := by have := G.room.un; omega
theorem Cg.hu64 (G : Cg X Wx k) : X.A.units + 64 < cLine := by have := G.room.un; omega
theorem Cg.hu65 (G : Cg X Wx k) : X.A.units + 65 < cLine := by have := G.room.un; omega
theorem Cg.mono {j : Nat} (G : Cg X Wx k) (h : j ≤ k) : Cg X Wx j := ⟨G.calm, G.room.mono h, G.gd, G.tk, G.nd, G.po⟩
/-- within a comprehension -/
theorem Cg.blk (G : Cg X Wx k) (s : Shared) (H : Hp) (scope : Scope) (cenv : Env) (fp : List Addr) : Cg (X.blk s H scope cenv fp) W0 k where
  calm := G.calm
  room := G.room
  gd := G.gd
  tk := fun u s' ⟨a, B, sI, pins, σ, H, cls, d, e, I, nb, up, sky, na, os, ag, w⟩ => w
  nd := G.nd
  po := PassesOwn.never
variable {e a b c o : Expr} {es : List Expr} {ca cb cd co : Cd} {aa : Ca} {pos p p1 p2 apos cpos : Pos} {x y z : Str} {i j l m n : Nat}
theorem e_v (i : Nat) (hN : X.N[i]? = some x := by rfl) (hv : Vis X.env.scope x := by first | exact Or.inl rfl | exact Or.inr (Or.inl rfl) | exact Or.inr (Or.inr rfl)) (hd : (x == ("__debug__" : Str)) = false := by decide)
    (hcd : (x == ("__classdict__" : Str)) = false := by decide) : FE X T Wx (.Name x pos) (cv i) := fe_v (pe_var hN hv hd hcd)
theorem e_int {i : Int} {j : Nat} : FE X T Wx (.Constant (.int i) j pos) (cc (.int i)) := fe_c (.int i) pe_int
theorem e_bl {b : Bool} {j : Nat} : FE X T Wx (.Constant (.bool b) j pos) (cc (.bl b)) := fe_c (.bl b) pe_bl
theorem e_non {j : Nat} : FE X T Wx (.Constant .none j pos) (cc .non) := fe_c .non pe_non
theorem e_str {j : Nat} (l : List Nat) (h : toStr l = x) (z : l.length ≤ sizeLine) : FE X T Wx (.Constant (.str x) j pos) (cc (.str l)) := by
  subst h
  exact fe_c (.str l z) pe_str
theorem e_add (m : Bool) (ha : FE X T Wx a ca) (hb : FE X T Wx b cb) : FE X T Wx (.BinOp a .Add b pos) (c2 (opAdd m) ca cb) := fe_op opr_add fop_add ha hb
theorem e_sub (ha : FE X T Wx a ca) (hb : FE X T Wx b cb) : FE X T Wx (.BinOp a .Sub b pos) (c2 opSub ca cb) := fe_op op_sub fop_sub ha hb
theorem e_mul (m : Bool) (ha : FE X T Wx a ca) (hb : FE X T Wx b cb) : FE X T Wx (.BinOp a .Mult b pos) (c2 (opMul m) ca cb) := fe_op opr_mul fop_mul ha hb
theorem e_fdiv (ha : FE X T Wx a ca) (hb : FE X T Wx b cb) : FE X T Wx (.BinOp a .FloorDiv b pos) (c2 opFdiv ca cb) := fe_op op_fdiv fop_fdiv ha hb
theorem e_mod (ha : FE X T Wx a ca) (hb : FE X T Wx b cb) : FE X T Wx (.BinOp a .Mod b pos) (c2 opMod ca cb) := fe_op op_mod fop_mod ha hb
theorem e_pow (ha : FE X T Wx a ca) (hb : FE X T Wx b cb) : FE X T Wx (.BinOp a .Pow b pos) (c2 opPow ca cb) := fe_op op_pow fop_pow ha hb
def opNeg (x : W) (h : Hh) : R W := match x with
  | .d (.int i) => .ok (.d (.int (-i))) h
  | _ => .no
theorem fun_neg {K : PySem.W.Frag} {T : Tb} : FUn K T opNeg (rU fun i => .int (-i)) := by
  intro Wx σ F ρ ih H x v1 Q hr r1 hp
  unfold opNeg at hp
  split at hp
  · cases r1 with | d r1 => cases r1; exact ⟨_, rfl, hp.ok hr _ (.d (.int _))⟩
  · exact hp.elim
theorem e_neg (ha : FE X T Wx a ca) : FE X T Wx (.UnaryOp .USub a pos) (c1 opNeg ca) := fe_un un_neg fun_neg ha
/-- comparisons: o the operator, op its function -/
structure Cmp (X : Cx) (T : Tb) (o : CmpOp) (op : W → W → Hh → R W) : Prop where
  ex : ∃ r : R2, OpR X (compareOp o) r ∧ FOp X.K T op r
theorem k_eq (G : Cg X Wx k) : Cmp X T .Eq (opEq false) := ⟨_, op_eqD G.hu64, fop_eq⟩
theorem k_ne (G : Cg X Wx k) : Cmp X T .NotEq (opEq true) := ⟨_, op_neD G.hu64, fop_ne⟩
theorem k_eqS : Cmp X T .Eq opEqS := ⟨_, op_eq, fop_eqS⟩
theorem k_lt : Cmp X T .Lt opLt := ⟨_, op_lt, fop_C⟩
theorem k_le : Cmp X T .LtE opLe := ⟨_, op_le, fop_C⟩
theorem k_gt : Cmp X T .Gt opGt := ⟨_, op_gt, fop_C⟩
theorem k_ge : Cmp X T .GtE opGe := ⟨_, op_ge, fop_C⟩
theorem k_in (G : Cg X Wx k) : Cmp X T .In (opIn false) := ⟨_, opr_in G.hu65, fop_in⟩
theorem k_nin (G : Cg X Wx k) : Cmp X T .NotIn (opIn true) := ⟨_, opr_notin G.hu65, fop_in⟩
theorem k_isN : Cmp X T .Is (opNone false) := ⟨_, op_isN, fop_isN⟩
theorem k_notN : Cmp X T .IsNot (opNone true) := ⟨_, op_notN, fop_notN⟩
theorem e_cmp {o : CmpOp} {op : W → W → Hh → R W} (hc : Cmp X T o op) (ha : FE X T Wx a ca) (hb : FE X T Wx b cb) (hm : behindInMarks o b = false := by rfl) : FE X T Wx (.Compare a [o] [b] pos) (c2 op ca cb) := by
  obtain ⟨r, h1, h2⟩ := hc.ex
  exact fe_cmp h1 h2 hm ha hb
def bC (op : W → W → Hh → R W) (ca cb : Cd) : Cb := fun e h => asB (c2 op ca cb e h)
theorem t_cmp {o : CmpOp} {op : W → W → Hh → R W} (hc : Cmp X T o op) (ha : FE X T Wx a ca) (hb : FE X T Wx b cb) (hm : behindInMarks o b = false := by rfl) : FT' X T Wx (.Compare a [o] [b] pos) (bC op ca cb) := by
  obtain ⟨r, h1, h2⟩ := hc.ex
  exact ft_cmp h1 h2 hm ha hb
theorem e_ch {o o' : CmpOp} {op op' : W → W → Hh → R W} (h1 : Cmp X T o op) (h2 : Cmp X T o' op') (ha : FE X T Wx a ca) (hb : FE X T Wx b cb) (hc : FE X T Wx c cd) (hm : lastMarks [o, o'] [b, c] = false := by rfl) : FE X T Wx (.Compare a [o, o'] [b, c] pos) (cch op op' ca cb cd) := by
  obtain ⟨r, a1, a2⟩ := h1.ex
  obtain ⟨r', b1, b2⟩ := h2.ex
  exact fe_chain a1 a2 b1 b2 hm ha hb hc
def bCh (op op' : W → W → Hh → R W) (ca cb cd : Cd) : Cb := fun e h => asB (cch op op' ca cb cd e h)
theorem t_ch {o o' : CmpOp} {op op' : W → W → Hh → R W} (h1 : Cmp X T o op) (h2 : Cmp X T o' op') (ha : FE X T Wx a ca) (hb : FE X T Wx b cb) (hc : FE X T Wx c cd) (hm : lastMarks [o, o'] [b, c] = false := by rfl) : FT' X T Wx (.Compare a [o, o'] [b, c] pos) (bCh op op' ca cb cd) := by
  obtain ⟨r, a1, a2⟩ := h1.ex
  obtain ⟨r', b1, b2⟩ := h2.ex
  exact ft_chain a1 a2 b1 b2 hm ha hb hc
theorem e_din (neg : Bool) (G : Cg X Wx k) (ha : FE X T Wx a ca) (hb : FE X T Wx b cb) (hm : behindInMarks .In b = false := by rfl) : FE X T Wx (.Compare a [.In] [b] pos) (c2 (opDin false) ca cb) := fe_din G.hu1 hm ha hb
theorem e_dnin (G : Cg X Wx k) (ha : FE X T Wx a ca) (hb : FE X T Wx b cb) (hm : behindInMarks .NotIn b = false := by rfl) : FE X T Wx (.Compare a [.NotIn] [b] pos) (c2 (opDin true) ca cb) := fe_dnin G.hu1 hm ha hb
theorem t_din (G : Cg X Wx k) (ha : FE X T Wx a ca) (hb : FE X T Wx b cb) (hm : behindInMarks .In b = false := by rfl) : FT' X T Wx (.Compare a [.In] [b] pos) (bC (opDin false) ca cb) := ft_din G.hu1 hm ha hb
theorem t_dnin (G : Cg X Wx k) (ha : FE X T Wx a ca) (hb : FE X T Wx b cb) (hm : behindInMarks .NotIn b = false := by rfl) : FT' X T Wx (.Compare a [.NotIn] [b] pos) (bC (opDin true) ca cb) := ft_dnin G.hu1 hm ha hb
theorem t_tru (h : FE X T Wx e ca) (he : ∀ whole, isTrue e X.env whole = (do let v ← whole; standAt e.pos; holding [v] (truthy v)) := by intro _; rfl) : FT' X T Wx e (cT ca) := ft_truth he h
theorem a_cons (h : FE X T Wx e ca) (hr : FA X T Wx es aa) (hs : starEach (e :: es) X.env = (false, eval e X.env) :: starEach es X.env := by rfl) : FA X T Wx (e :: es) (aCons ca aa) := fa_cons hs h hr
theorem e_ix (ha : FE X T Wx a ca) (hb : FE X T Wx b cb) (hs : PlainIx b := by intro _ _; rfl) : FE X T Wx (.Subscript a b pos) (c2 opIx ca cb) := fe_ix hs ha hb
theorem e_dx (G : Cg X Wx k) (ha : FE X T Wx a ca) (hb : FE X T Wx b cb) (hs : NoSl b := by intro _ _; rfl) : FE X T Wx (.Subscript a b pos) (c2 opDx ca cb) := fe_dx G.hu1 hs ha hb
/-! calls -/
theorem e_call (pu : Bool) {f : Addr} {fd : FuncData} {ps : List Str} {g : Fn} (G : Cg X Wx (k + 1)) (F : FnG X.prog X.w X.K X.mg X.base k f fd ps (spF X.K T n g)) (I : Inf X.K X.mg x f fd ps) (ha : FA X T Wx (e :: es) aa) (hg : Gl X x := by rfl)
    (hdb : (x == ("__debug__" : Str)) = false := by decide) (he : starEach (e :: es) X.env = (false, eval e X.env) :: starEach es X.env := by rfl) (hpl : (backTo pos (starEach es X.env)).any (·.1) = false := by rfl) :
    FE X T Wx (.Call (.Name x p) (e :: es) [] pos) (cCall pu n g aa) := fe_call (G.mono (Nat.le_succ k)) F hg I.mg I.kp I.bn hdb he hpl ha
theorem e_call0 (pu : Bool) {f : Addr} {fd : FuncData} {ps : List Str} {g : Fn} (G : Cg X Wx (k + 1)) (F : FnG X.prog X.w X.K X.mg X.base k f fd ps (spF X.K T n g)) (I : Inf X.K X.mg x f fd ps) (hg : Gl X x := by rfl)
    (hdb : (x == ("__debug__" : Str)) = false := by decide) : FE X T Wx (.Call (.Name x p) [] [] pos) (cCall pu n g aNil) := fe_call0 (G.mono (Nat.le_succ k)) F hg I.mg I.kp I.bn hdb
/-- a built-in function of a name -/
structure Bi (X : Cx) (T : Tb) (x : Str) (op : List W → Hh → R W) : Prop where
  ex : (∃ (id : String) (r : List V → Hp → VK → Prop), CallR X (.builtin id) r ∧ FCl X.K T op r ∧ bootBuiltins x = some (.builtin id)) ∨ ∃ (id : String) (r : List V → Hp → VK → Prop), CallR X (.type id) r ∧ FCl X.K T op r ∧ bootBuiltins x = some (.type id)
  nn : x ≠ "__name__"
  nd : (x == ("__debug__" : Str)) = false
theorem u_len : Bi X T "len" biLen := ⟨.inl ⟨_, _, cr_len, fc_len, by decide +kernel⟩, by decide, by decide⟩
theorem u_abs : Bi X T "abs" biAbs := ⟨.inl ⟨_, _, call_abs, fc_abs, by decide +kernel⟩, by decide, by decide⟩
theorem u_int : Bi X T "int" biInt := ⟨.inr ⟨_, _, call_int1, fc_int, by decide +kernel⟩, by decide, by decide⟩
theorem u_list (m : Bool) : Bi X T "list" (biList m) := ⟨.inr ⟨_, _, call_list_of, fc_list, by decide +kernel⟩, by decide, by decide⟩
theorem u_tuple : Bi X T "tuple" biTuple := ⟨.inr ⟨_, _, call_tuple_of, fc_tuple, by decide +kernel⟩, by decide, by decide⟩
theorem u_all (G : Cg X Wx k) : Bi X T "all" biAll := ⟨.inl ⟨_, _, cr_all G.calm, fc_all, by decide +kernel⟩, by decide, by decide⟩
theorem u_any (G : Cg X Wx k) : Bi X T "any" biAny := ⟨.inl ⟨_, _, cr_any G.calm, fc_any, by decide +kernel⟩, by decide, by decide⟩
theorem u_max (G : Cg X Wx k) : Bi X T "max" biMax := ⟨.inl ⟨_, _, cr_max G.calm, fc_max, by decide +kernel⟩, by decide, by decide⟩
theorem u_min (G : Cg X Wx k) : Bi X T "min" biMin := ⟨.inl ⟨_, _, cr_min G.calm, fc_min, by decide +kernel⟩, by decide, by decide⟩
theorem u_sum (G : Cg X Wx k) : Bi X T "sum" biSum := ⟨.inl ⟨_, _, cr_sum G.calm, fc_sum, by decide +kernel⟩, by decide, by decide⟩
theorem u_max2 (G : Cg X Wx k) : Bi X T "max" biMax2 := ⟨.inl ⟨_, _, call_max2 G.calm, fc_max2, by decide +kernel⟩, by decide, by decide⟩
theorem u_sort (m : Bool) (G : Cg X Wx k) : Bi X T "sorted" (biSort m) := ⟨.inl ⟨_, _, cr_sortD G.hu, fc_sort, by decide +kernel⟩, by decide, by decide⟩
theorem u_repr (G : Cg X Wx k) : Bi X T "repr" biRepr := ⟨.inl ⟨_, _, cr_repr G.gd G.hu64, fc_repr, by decide +kernel⟩, by decide, by decide⟩
theorem e_bi {op : List W → Hh → R W} (B : Bi X T x op) (hm : X.mg x = none) (ha : FA X T Wx (e :: es) aa) (hg : Gl X x := by rfl) (he : starEach (e :: es) X.env = (false, eval e X.env) :: starEach es X.env := by rfl)
    (hpl : (backTo pos (starEach es X.env)).any (·.1) = false := by rfl) : FE X T Wx (.Call (.Name x p) (e :: es) [] pos) (cCl op aa) := by
  rcases B.ex with ⟨id, r, h1, h2, h3⟩ | ⟨id, r, h1, h2, h3⟩
  · exact fe_bi h1 h2 hg hm h3 B.nn B.nd he hpl ha
  · exact fe_ty h1 h2 hg hm h3 B.nn B.nd he hpl ha
theorem e_isi (t : Ty) (hm : X.mg "isinstance" = none) (hmt : X.mg t.nm = none) (h : FE X T Wx e ca) (hy : Str.ofString t.nm = y := by rfl) (hg : Gl X "isinstance" := by rfl) (hgt : Gl X t.nm := by rfl)
    (he : starEach (e :: [.Name t.nm p2]) X.env = (false, eval e X.env) :: starEach [.Name t.nm p2] X.env := by rfl) (he2 : starEach [.Name t.nm p2] X.env = (false, eval (.Name t.nm p2) X.env) :: starEach [] X.env := by rfl)
    (hpl : (backTo pos (starEach [.Name t.nm p2] X.env)).any (·.1) = false := by rfl) : FE X T Wx (.Call (.Name "isinstance" p) [e, .Name y p2] [] pos) (cIsi t ca) := by
  subst hy
  refine fe_isi hg hm (by decide +kernel) (by decide) (by decide) ?_ he he2 hpl h
  cases t
  · exact pe_bltn (u := .type "int") hgt hmt (by decide +kernel) rfl (by decide) (by decide)
  · exact pe_bltn (u := .type "bool") hgt hmt (by decide +kernel) rfl (by decide) (by decide)
  · exact pe_bltn (u := .type "str") hgt hmt (by decide +kernel) rfl (by decide) (by decide)
  · exact pe_bltn (u := .type "tuple") hgt hmt (by decide +kernel) rfl (by decide) (by decide)
  · exact pe_bltn (u := .type "list") hgt hmt (by decide +kernel) rfl (by decide) (by decide)
/-! slices -/
theorem e_lr1 (m : Bool) {q pos1 : Pos} (G : Cg X Wx k) (hml : X.mg "list" = none) (hm : X.mg "range" = none) (ha : FE X T Wx a ca) (hl : Gl X "list" := by rfl) (hg : Gl X "range" := by rfl)
    (na : starEach [Expr.Call (.Name "range" p) [a] [] pos] X.env = (false, eval (Expr.Call (.Name "range" p) [a] [] pos) X.env) :: starEach [] X.env := by rfl) (na2 : starEach [a] X.env = (false, eval a X.env) :: starEach [] X.env := by rfl) :
    FE X T Wx (.Call (.Name "list" q) [.Call (.Name "range" p) [a] [] pos] [] pos1) (cLr m (aCons ca aNil)) := fe_lr1 G.calm hl hml hg hm na na2 ha
theorem e_lr2 (m : Bool) {q pos1 : Pos} (G : Cg X Wx k) (hml : X.mg "list" = none) (hm : X.mg "range" = none) (ha : FE X T Wx a ca) (hb : FE X T Wx b cb) (hl : Gl X "list" := by rfl) (hg : Gl X "range" := by rfl)
    (na : starEach [Expr.Call (.Name "range" p) [a, b] [] pos] X.env = (false, eval (Expr.Call (.Name "range" p) [a, b] [] pos) X.env) :: starEach [] X.env := by rfl) (na2 : starEach [a, b] X.env = (false, eval a X.env) :: starEach [b] X.env := by rfl)
    (nb : starEach [b] X.env = (false, eval b X.env) :: starEach [] X.env := by rfl) (hpl : (backTo pos (starEach [b] X.env)).any (·.1) = false := by rfl) :
    FE X T Wx (.Call (.Name "list" q) [.Call (.Name "range" p) [a, b] [] pos] [] pos1) (cLr m (aCons ca (aCons cb aNil))) := fe_lr2 G.calm hl hml hg hm na na2 nb hpl ha hb
/-! methods of lists -/
structure Lm (X : Cx) (T : Tb) (name : Str) (op : W → List W → Hh → R W) : Prop where
  ex : ∃ (id : String) (r : V → List V → Hp → VK → Prop), Slot "list" name id ∧ typeOf (.builtin id) = pure (.type "method_descriptor") ∧ MtR X id r ∧ FMt X.K T op r
theorem l_append : Lm X T "append" mAppend := ⟨_, _, PySem.F.slot_list_append, PySem.F.type_list_append, mt_append, fm_append⟩
theorem l_extend : Lm X T "extend" mExtend := ⟨_, _, PySem.F.slot_list_extend, PySem.F.type_list_extend, mt_extR, fm_extend⟩
theorem l_index (G : Cg X Wx k) : Lm X T "index" mIndex := ⟨_, _, PySem.F.slot_list_index, PySem.F.type_list_index, mt_indexD G.hu65, fm_index⟩
theorem l_pop : Lm X T "pop" mPop := ⟨_, _, PySem.F.slot_list_pop, PySem.F.type_list_pop, mt_pop, fm_pop⟩
theorem e_lm {op : W → List W → Hh → R W} (L : Lm X T x op) (ho : FE X T Wx o co) (ha : FA X T Wx (e :: es) aa) (hbase : attributeBase o x X.env (eval o X.env) = eval o X.env := by rfl)
    (hfew : ((backTo cpos (starEach (e :: es) X.env)).all (fun x => !x.1) && (backToKw cpos (keywordEach [] X.env)).all (fun x => x.1.isSome)
      && decide ((e :: es).length + ([] : List Keyword).length + (if ([] : List Keyword).isEmpty then 0 else 1) < 30)) = true := by rfl)
    (hline : (apos.endLine == cpos.line) = true := by rfl) (hs : starEach (e :: es) X.env = (false, eval e X.env) :: starEach es X.env := by rfl) (hplain : (backTo cpos (starEach es X.env)).any (·.1) = false := by rfl) :
    FE X T Wx (.Call (.Attribute o x apos) (e :: es) [] cpos) (cLm op co aa) := by
  obtain ⟨id, r, h1, h2, h3, h4⟩ := L.ex
  exact fe_lm h1 h2 h3 h4 hbase hfew hline hs hplain ho ha
theorem e_lm0 {op : W → List W → Hh → R W} (L : Lm X T x op) (ho : FE X T Wx o co) (hbase : attributeBase o x X.env (eval o X.env) = eval o X.env := by rfl)
    (hline : (apos.endLine == cpos.line) = true := by rfl) : FE X T Wx (.Call (.Attribute o x apos) [] [] cpos) (cLm op co aNil) := by
  obtain ⟨id, r, h1, h2, h3, h4⟩ := L.ex
  exact fe_lm0 h1 h2 h3 h4 hbase hline ho
/-! comprehensions, loops -/
theorem g_n (i : Nat) (G : Cg X Wx k) (hi : X.N[i]? = some x := by rfl) (hx : Loc X.env.scope x := by first | exact .inl rfl | exact .inr rfl) (hf : X.fn x = true ∨ X.env.scope.names.lookup x = some .local := by first | exact .inl rfl | exact .inr rfl) :
    FG X T (.Name x pos) [i] (tN i) := fg_n (pg_name G.nd hi hx hf)
theorem gs_cons {tg : Expr} {tgs : List Expr} {is js : List Nat} {ta : Ct} {tb : Cts} (h1 : FG X T tg is ta) (h2 : FGs X T tgs js tb) (hs : (assignEach (tg :: tgs) X.env).map (·.2) = assign tg X.env :: (assignEach tgs X.env).map (·.2) := by rfl) : FGs X T (tg :: tgs) (is ++ js) (tCns ta tb) := fgs_cons hs h1 h2
theorem g_t (G : Cg X Wx k) {tgs : List Expr} {is : List Nat} {tb : Cts} (ln : Len tb n) (h : FGs X T tgs is tb) (hn : (assignEach tgs X.env).length = n := by rfl) (hst : (assignEach tgs X.env).findIdx? (·.1) = none := by rfl) : FG X T (.Tuple tgs j pos) is (tTp tb) := fg_t G.calm ln hn hst h
theorem g_l (G : Cg X Wx k) {tgs : List Expr} {is : List Nat} {tb : Cts} (ln : Len tb n) (h : FGs X T tgs is tb) (hn : (assignEach tgs X.env).length = n := by rfl) (hst : (assignEach tgs X.env).findIdx? (·.1) = none := by rfl) : FG X T (.Tuple tgs j pos) is (tLs tb) := fg_l G.calm ln hn hst h
theorem y_t (G : Cg X Wx k) {tgs : List Expr} {is : List Nat} {tb : Cts} (ln : Len tb n) (h : FGs X T tgs is tb) (hn : (assignEach tgs X.env).length = n := by rfl) (hst : (assignEach tgs X.env).findIdx? (·.1) = none := by rfl) : FY X T (.Tuple tgs j pos) is (yT tb) := fy_t G.calm ln hn hst h
variable {tg iter elt : Expr} {ifs : List Expr}
theorem i_r1 (hm : X.mg "range" = none) (ha : FE X T Wx a ca) (hg : Gl X "range" := by rfl) (hs : starEach [a] X.env = [(false, eval a X.env)] := by rfl) (hc : starEach [a] X.env = (false, eval a X.env) :: starEach [] X.env := by rfl) :
    FI X T Wx tg (.Call (.Name "range" p) [a] [] pos) (cR1 (aCons ca aNil)) := fi_r1 (fun _ h => pi_range1 hg hm h hs) (fa_cons hc ha fa_nil)
theorem i_r2 (hm : X.mg "range" = none) (ha : FE X T Wx a ca) (hb : FE X T Wx b cb) (hg : Gl X "range" := by rfl) (hs : starEach [a, b] X.env = [(false, eval a X.env), (false, eval b X.env)] := by rfl) (hs2 : starEach [b] X.env = [(false, eval b X.env)] := by rfl)
    (hc : starEach [a, b] X.env = (false, eval a X.env) :: starEach [b] X.env := by rfl) (hc2 : starEach [b] X.env = (false, eval b X.env) :: starEach [] X.env := by rfl) :
    FI X T Wx tg (.Call (.Name "range" p) [a, b] [] pos) (cR2 (aCons ca (aCons cb aNil))) := fi_r2 (fun _ h => pi_range2 hg hm h hs hs2) (fa_cons hc ha (fa_cons hc2 hb fa_nil))
theorem e_lc (mt : Bool) {scope : Scope} (own : List (Str × Nat)) {is : List Nat} {ci : Ci} {t : Cy} {q : Cb} (G : Cg X Wx k) (ok : blkC X.N X.env.scope scope own = true) (his : ∀ j ∈ is, j ∈ own.map (·.2)) (hi : FI X T Wx tg iter ci)
    (hg : ∀ (s : Shared) (H : Hp) (C : Addr) (cl : List (Str × Addr)) (fp : List Addr), Cg (X.blk s H scope (compEnvC scope cl C X.env) fp) W0 k → FY (X.blk s H scope (compEnvC scope cl C X.env) fp) T tg is t)
    (ht : ∀ (s : Shared) (H : Hp) (C : Addr) (cl : List (Str × Addr)) (fp : List Addr), Cg (X.blk s H scope (compEnvC scope cl C X.env) fp) W0 k → FTs (X.blk s H scope (compEnvC scope cl C X.env) fp) T W0 ifs q)
    (he : ∀ (s : Shared) (H : Hp) (C : Addr) (cl : List (Str × Addr)) (fp : List Addr), Cg (X.blk s H scope (compEnvC scope cl C X.env) fp) W0 k → FE (X.blk s H scope (compEnvC scope cl C X.env) fp) T W0 elt ca) (hs : ∀ x, foldedSetIterable iter X.env x = pure x := by intro _; rfl) :
    FE X T Wx (.ListComp elt [⟨tg, iter, ifs, 0⟩] scope pos) (cLc mt (own.map (·.2)) ci t q ca) := fe_lc G.calm G.nd (blkOk_by ok) his hs hi (fun s H C cl fp => hg s H C cl fp (G.blk s H _ _ fp)) (fun s H C cl fp => ht s H C cl fp (G.blk s H _ _ fp)) (fun s H C cl fp => he s H C cl fp (G.blk s H _ _ fp))
theorem s_setLc (i : Nat) (mt : Bool) {y : Str} {py spos : Pos} {scope : Scope} (own : List (Str × Nat)) {is : List Nat} {ci : Ci} {t : Cy} {q : Cb} (G : Cg X Wx k) (ok : blkC X.N X.env.scope scope own = true) (his : ∀ j ∈ is, j ∈ own.map (·.2)) (ha : (scope.names.any fun (n, k) => n == y && (k == .local || k == .cell)) = false) (hi : FI X T Wx tg iter ci)
    (hg : ∀ (s : Shared) (H : Hp) (C : Addr) (cl : List (Str × Addr)) (fp : List Addr), Cg (X.blk s H scope (compEnvC scope cl C X.env) fp) W0 k → FY (X.blk s H scope (compEnvC scope cl C X.env) fp) T tg is t)
    (ht : ∀ (s : Shared) (H : Hp) (C : Addr) (cl : List (Str × Addr)) (fp : List Addr), Cg (X.blk s H scope (compEnvC scope cl C X.env) fp) W0 k → FTs (X.blk s H scope (compEnvC scope cl C X.env) fp) T W0 ifs q)
    (he : ∀ (s : Shared) (H : Hp) (C : Addr) (cl : List (Str × Addr)) (fp : List Addr), Cg (X.blk s H scope (compEnvC scope cl C X.env) fp) W0 k → FE (X.blk s H scope (compEnvC scope cl C X.env) fp) T W0 elt ca) (hk : X.env.scope.kind = .function := by rfl) (hy : X.N[i]? = some y := by rfl) (hyl : X.env.scope.names.lookup y = some .local := by rfl) (hl : (py.line == pos.line) = true := by rfl)
    (hs : ∀ x, foldedSetIterable iter X.env x = pure x := by intro _; rfl) :
    FS X T Wx (.Assign [.Name y py] (.ListComp elt [⟨tg, iter, ifs, 0⟩] scope pos) spos) (sAsg (cLc mt (own.map (·.2)) ci t q ca) (tN i)) := fs_setLc G.calm G.nd hy hyl (sw_true hk hyl hl ha) (blkOk_by ok) his hs hi (fun s H C cl fp => hg s H C cl fp (G.blk s H _ _ fp)) (fun s H C cl fp => ht s H C cl fp (G.blk s H _ _ fp)) (fun s H C cl fp => he s H C cl fp (G.blk s H _ _ fp))
/-! statements -/
variable {cs : Cs} {st : Stmt} {sts body : List Stmt}
theorem s_expr (h : FE X T Wx e ca) (hs : swapsWith e none pos.line X.env = pure false := by rfl) : FS X T Wx (.Expr e pos) (sExpr ca) := fs_expr hs h
theorem s_set (i : Nat) (G : Cg X Wx k) (he : FE X T Wx e ca) (hi : X.N[i]? = some x := by rfl) (hx : Loc X.env.scope x := by first | exact .inl rfl | exact .inr rfl) (hs : swapsWith e (some (.Name x p)) pos.line X.env = pure false := by rfl)
    (hf : X.fn x = true ∨ X.env.scope.names.lookup x = some .local := by first | exact .inl rfl | exact .inr rfl) : FS X T Wx (.Assign [.Name x p] e pos) (sAsg ca (tN i)) := fs_set (fun _ h => ps_set G.nd hi hx h hs hf) he
theorem s_asg {is : List Nat} {t : Ct} (he : FE X T Wx e ca) (hg : FG X T tg is t) (hs : swapsWithSole [tg] e pos.line X.env = pure false := by rfl) (hw : swappedStores [tg] e X.env = pure none := by rfl) (h1 : (assignEach [tg] X.env).map (·.2) = [assign tg X.env] := by rfl) :
    FS X T Wx (.Assign [tg] e pos) (sAsg ca t) := fs_asg hs hw h1 he hg
theorem s_par2 (i j : Nat) {px py pt : Pos} {kt k2 : Nat} {pt2 : Pos} (G : Cg X Wx k) (ha : FA X T Wx [a, b] aa) (hi : X.N[i]? = some x := by rfl) (hj : X.N[j]? = some y := by rfl) (hij : i ≠ j := by decide) (hx : X.env.scope.names.lookup x = some .local := by rfl) (hy : X.env.scope.names.lookup y = some .local := by rfl)
    (hw : swappedStores [.Tuple [.Name x px, .Name y py] kt pt] (.Tuple [a, b] k2 pt2) X.env = pure (some [x, y]) := by rfl)
    (hs : swapsWithSole [.Tuple [.Name x px, .Name y py] kt pt] (.Tuple [a, b] k2 pt2) pos.line X.env = pure false := by rfl) :
    FS X T Wx (.Assign [.Tuple [.Name x px, .Name y py] kt pt] (.Tuple [a, b] k2 pt2) pos) (sPar aa (tCns (tN i) (tCns (tN j) Fz.tNil))) := fs_par2 (fun _ h => ps_par G.calm G.nd hi hj hij hx hy h hw hs) ha
theorem s_par3 (i j l : Nat) {px py pz pt : Pos} {kt k2 : Nat} {pt2 : Pos} (G : Cg X Wx k) (ha : FA X T Wx [a, b, c] aa) (hi : X.N[i]? = some x := by rfl) (hj : X.N[j]? = some y := by rfl) (hl : X.N[l]? = some z := by rfl) (hij : i ≠ j := by decide) (hil : i ≠ l := by decide) (hjl : j ≠ l := by decide)
    (hx : X.env.scope.names.lookup x = some .local := by rfl) (hy : X.env.scope.names.lookup y = some .local := by rfl) (hz : X.env.scope.names.lookup z = some .local := by rfl)
    (hw : swappedStores [.Tuple [.Name x px, .Name y py, .Name z pz] kt pt] (.Tuple [a, b, c] k2 pt2) X.env = pure (some [x, y, z]) := by rfl)
    (hs : swapsWithSole [.Tuple [.Name x px, .Name y py, .Name z pz] kt pt] (.Tuple [a, b, c] k2 pt2) pos.line X.env = pure false := by rfl) :
    FS X T Wx (.Assign [.Tuple [.Name x px, .Name y py, .Name z pz] kt pt] (.Tuple [a, b, c] k2 pt2) pos) (sPar aa (tCns (tN i) (tCns (tN j) (tCns (tN l) Fz.tNil)))) :=
  fs_par3 (fun _ h => ps_par3 G.calm G.nd hi hj hl hij hil hjl hx hy hz h hw hs) ha
theorem s_par {es tgs : List Expr} {is : List Nat} {k1 k2 : Nat} {tb : Cts} (G : Cg X Wx k) (ln : Len tb n) (ha : FA X T Wx es aa) (hg : FGs X T tgs is tb) (hz : n ≤ sizeLine := by decide) (hn : (assignEach tgs X.env).length = n := by rfl) (hst : (assignEach tgs X.env).findIdx? (·.1) = none := by rfl)
    (hs : swapsWithSole [.Tuple tgs k1 p1] (.Tuple es k2 p2) pos.line X.env = pure false := by rfl) (hw : swappedStores [.Tuple tgs k1 p1] (.Tuple es k2 p2) X.env = pure none := by rfl)
    (h1 : (assignEach [.Tuple tgs k1 p1] X.env).map (·.2) = [assign (.Tuple tgs k1 p1) X.env] := by rfl) : FS X T Wx (.Assign [.Tuple tgs k1 p1] (.Tuple es k2 p2) pos) (sPar aa tb) := fs_par G.calm ln hn hst hz hs hw h1 ha hg
theorem s_setL {i : Expr} {ci : Cd} {tpos : Pos} (he : FE X T Wx e ca) (ho : FE X T Wx o co) (hi : FE X T Wx i ci) (ha : ∀ v, assign (.Subscript o i tpos) X.env v = (do
      let ov ← holding [v] (eval o X.env)
      let iv ← holding [v, ov] (eval i X.env)
      standAt tpos
      holding [v, ov, iv] (setItem ov iv v)
      release [v, ov, iv] []) := by intro _; rfl)
    (hs : swapsWithSole [.Subscript o i tpos] e pos.line X.env = pure false := by rfl) (hw : swappedStores [.Subscript o i tpos] e X.env = pure none := by rfl) (h1 : (assignEach [.Subscript o i tpos] X.env).map (·.2) = [assign (.Subscript o i tpos) X.env] := by rfl) :
    FS X T Wx (.Assign [.Subscript o i tpos] e pos) (sSet ca co ci) := fs_setL ha hs hw h1 he ho hi
theorem s_setD {i : Expr} {ci : Cd} {tpos : Pos} (G : Cg X Wx k) (he : FE X T Wx e ca) (ho : FE X T Wx o co) (hi : FE X T Wx i ci) (hs : swapsWith e (some (.Subscript o i tpos)) pos.line X.env = pure false := by rfl) :
    FS X T Wx (.Assign [.Subscript o i tpos] e pos) (sDSet ca co ci) := fs_setD G.hu1 hs he ho hi
theorem s_for {is : List Nat} {ci : Ci} {ct : Cy} (G : Cg X Wx k) (hi : FI X T Wx tg iter ci) (ht : FY X T tg is ct) (hb : FSs X T Wx body cs) (hs : ∀ x, foldedSetIterable iter X.env x = pure x := by intro _; rfl) :
    FS X T Wx (.For tg iter body [] pos) (sFor ci ct cs) := fs_for G.po G.calm hs hi ht hb
theorem s_while (n : Nat) {t : Expr} {ct : Cb} (G : Cg X Wx k) (ht : FT' X T Wx t ct) (hb : FSs X T Wx body cs) : FS X T Wx (.While t body [] pos) (sWhile n ct cs) := fs_while G.po ht hb
/-- a global number -/
theorem e_gi (i : Int) (h : ∃ t, X.mg x = some (.int i t)) (hg : Gl X x := by rfl) (hd : (x == ("__debug__" : Str)) = false := by decide) : FE X T Wx (.Name x pos) (cc (.int i)) := by
  obtain ⟨t, h⟩ := h
  exact fe_c (.int i) (pe_glob hg h ⟨t, rfl⟩ hd)
end
def cDK : Cd := fun _ h => .ok (.r h.length) (h ++ [.dk []])
def cDT : Cd := fun _ h => .ok (.r h.length) (h ++ [.dt []])
theorem fn_zero {P : Program} {w : World} {K : PySem.W.Frag} {mg : Str → Option Value} {base : Heap} {k n : Nat} {f : Addr} {fd : FuncData} {ps : List Str} {T : Tb} (hn : ps.length = n := by rfl) : FnG P w K mg base k f fd ps (spF K T n fun _ _ => .no) := by
  refine ⟨fun vs H Q E h => by rw [hn]; exact h.1, fun A outer s H args us vs Q E _ _ _ _ _ h => ?_⟩
  obtain ⟨_, _, _, _, _, _, _, hp⟩ := h
  exact hp.elim
theorem fn_of' {P : Program} {w : World} {K : PySem.W.Frag} {mg : Str → Option Value} {base : Heap} {T : Tb} {k j n m : Nat} {x qual : Str} {st : Stmt} {f : Addr} {fd : FuncData} {N ps : List Str} {code : Cs} {g : Fn} (Fu : Fun K x qual st f fd) (S : FnScope N ps (defScope st))
    (hg : g = mkFn n m code) (hj : j = k + 1) (hn : ps.length = n) (hm : N.length = m)
    (hb : ∀ (cdv : Value) (A : Around) (outer : List Env) (s : Shared) (H : Hp) (E : XK), Cg (cxF P w K mg base N qual (defScope st) f cdv A outer s H E) (wxF E) k →
      FSs (cxF P w K mg base N qual (defScope st) f cdv A outer s H E) T (wxF E) (defBody st) code) :
    FnG P w K mg base j f fd ps (spF K T n g) := by
  subst hg hj hn hm
  exact fn_of Fu S hb
end Fz
set_option Elab.async false
set_option linter.all false
set_option maxRecDepth 100000
set_option maxHeartbeats 2000000
/-! Fz: max, min of data, lists and tuples. -/
namespace Fz
open PySem PySem.W L2 PyProof.Rows

def foldB (lt : PyData → PyData → Bool) (x : PyData) (xs : List PyData) : PyData := xs.foldl (fun a y => if lt a y then y else a) x
theorem foldB_mem {lt : PyData → PyData → Bool} : ∀ {xs : List PyData} {x : PyData}, foldB lt x xs ∈ x :: xs
  | [], x => by simp [foldB]
  | y :: ys, x => by
    have := foldB_mem (lt := lt) (xs := ys) (x := if lt x y then y else x)
    unfold foldB at *
    rw [List.foldl_cons]
    rcases List.mem_cons.mp this with e | e
    · rw [e]; split <;> simp
    · simp [e]
/-- the first best: lt a y says that y is better -/
def rBest (K : PySem.W.Frag) (lt : PyData → PyData → Bool) : List V → Hp → VK → Prop := fun xs H Q => ∃ (a : Addr) (p : V × PyData) (ps : List (V × PyData)), xs = [.ref a] ∧ (SqL K H a ((p :: ps).map (·.1)) ∨ SqT K H a ((p :: ps).map (·.1))) ∧ DpAll K H ((p :: ps).map (·.1)) ((p :: ps).map (·.2)) ∧
  AlikeAll ((p :: ps).map (·.2)) ∧ (∀ q ∈ p :: ps, (q.2 : PyData).depth ≤ 64) ∧ ∀ q ∈ p :: ps, q.2 = foldB lt p.2 (ps.map (·.2)) → Q q.1 H
theorem depthAll_le : ∀ {xs : List PyData} {n : Nat}, (∀ d ∈ xs, d.depth ≤ n) → PyData.depthAll xs ≤ n
  | [], n, _ => by simp [PyData.depthAll]
  | x :: xs, n, h => by
    simp only [PyData.depthAll]
    exact Nat.max_le.mpr ⟨h x (by simp), depthAll_le fun d hd => h d (by simp [hd])⟩
theorem vals_at : ∀ {vs : List V} {us : List Value}, Vals vs us → ∀ {i : Nat} {u : Value}, us[i]? = some u → ∃ v, vs[i]? = some v ∧ RelV v u := by
  intro vs us h
  induction h with
  | nil => intro i u e; simp at e
  | cons a b ih =>
    intro i u e
    cases i with
    | zero => simp at e; subst e; exact ⟨_, rfl, a⟩
    | succ i => simp at e; obtain ⟨v, e1, r⟩ := ih e; exact ⟨v, by simpa using e1, r⟩
theorem dp_at {K : PySem.W.Frag} {H : Hp} : ∀ {vs : List V} {ds : List PyData}, DpAll K H vs ds → ∀ {i : Nat} {v : V} {d : PyData}, vs[i]? = some v → ds[i]? = some d → Dp K H v d
  | [], _, h, i, v, d, e, _ => by simp at e
  | v' :: vs, ds, h, i, v, d, e, e2 => by
    cases h with
    | cons a b =>
      cases i with
      | zero => simp at e e2; subst e e2; exact a
      | succ i => simp at e e2; exact dp_at b e e2
theorem best_fin {X : Cx} {pins : List (Addr × Obj)} {σ : L2.St} {H : Hp} {s : Shared} {Q : VK} {lt : PyData → PyData → Bool} {p : V × PyData} {ps : List (V × PyData)} {its : List Value} (I : L2.Inv X pins σ H s) (rv : Vals ((p :: ps).map (·.1)) its)
    (hd : DpAll X.K H ((p :: ps).map (·.1)) ((p :: ps).map (·.2))) (hal : AlikeAll ((p :: ps).map (·.2))) (q : ∀ q ∈ p :: ps, q.2 = foldB lt p.2 (ps.map (·.2)) → Q q.1 H)
    {i : Nat} {v : Value} {h' : Heap} {tk : Tok} {bs : List Addr} (hi : its.toArray[i]? = some v) (r : Reads h' v (foldB lt p.2 (ps.map (·.2))) bs) (hk : ∀ b o, s.heap.get? b = some o → h'.get? b = some o) : EP X pins σ Q v { s with heap := h', toks := tk } := by
  rw [List.getElem?_toArray] at hi
  obtain ⟨x, hx, rx⟩ := vals_at rv hi
  rw [List.getElem?_map, Option.map_eq_some_iff] at hx
  obtain ⟨y, hy, rfl⟩ := hx
  have hm := List.mem_of_getElem? hy
  have dy : Dp X.K H y.1 y.2 := dp_at hd (i := i) (by rw [List.getElem?_map, hy]; rfl) (by rw [List.getElem?_map, hy]; rfl)
  obtain ⟨as, ry⟩ := Dp.reads I _ _ _ dy rx
  have e : y.2 = foldB lt p.2 (ps.map (·.2)) := alike_unique _ _ v as bs (hal.1 _ (List.mem_map.mpr ⟨y, hm, rfl⟩) _ (by rw [List.map_cons]; exact foldB_mem)) (Reads.keeps hk ry) r
  exact ⟨y.1, H, I.kept hk, rx, q y hm e⟩
section
variable {X : Cx}
theorem cr_minD (hc : X.calm = true) (hu : X.A.units + 66 < cLine) : CallR X (.builtin "min") (rBest X.K fun a y => dataLt y a) := by
  intro pins s σ H xs us Q I r h
  obtain ⟨a, p, ps, rfl, hs, hd, hal, hdp, q⟩ := h
  have e2 : us = [.ref a] := Vals.ref1 r
  subst e2
  have hu2 : X.A.units + 1 + PyData.depthAll ((p :: ps).map (·.2)) < cLine := by
    have := depthAll_le (xs := (p :: ps).map (·.2)) (n := 64) fun d hd => by obtain ⟨y, hy, rfl⟩ := List.mem_map.mp hd; exact hdp y hy
    omega
  rcases hs with hs | hs
  · obtain ⟨its, rv, hl, z⟩ := I.list hs
    obtain ⟨as, rr⟩ := Dp.readsAll I _ _ _ hd rv
    exact min_list_data (I.ok.hd hc) hl.isList (by simpa using rr) (by simpa using hal) (by simpa using hu2) fun i v h' tk bs hi r hk => best_fin I rv hd hal q hi r hk
  · obtain ⟨its, rv, hl, z⟩ := I.tuple hs
    obtain ⟨as, rr⟩ := Dp.readsAll I _ _ _ hd rv
    exact min_tuple_data (I.ok.hd hc) hl (by simpa using rr) (by simpa using hal) (by simpa using hu2) fun i v h' tk bs hi r hk => best_fin I rv hd hal q hi r hk
theorem cr_maxD (hc : X.calm = true) (hu : X.A.units + 66 < cLine) : CallR X (.builtin "max") (rBest X.K dataLt) := by
  intro pins s σ H xs us Q I r h
  obtain ⟨a, p, ps, rfl, hs, hd, hal, hdp, q⟩ := h
  have e2 : us = [.ref a] := Vals.ref1 r
  subst e2
  have hu2 : X.A.units + 1 + PyData.depthAll ((p :: ps).map (·.2)) < cLine := by
    have := depthAll_le (xs := (p :: ps).map (·.2)) (n := 64) fun d hd => by obtain ⟨y, hy, rfl⟩ := List.mem_map.mp hd; exact hdp y hy
    omega
  rcases hs with hs | hs
  · obtain ⟨its, rv, hl, z⟩ := I.list hs
    obtain ⟨as, rr⟩ := Dp.readsAll I _ _ _ hd rv
    exact max_list_data (I.ok.hd hc) hl.isList (by simpa using rr) (by simpa using hal) (by simpa using hu2) fun i v h' tk bs hi r hk => best_fin I rv hd hal q hi r hk
  · obtain ⟨its, rv, hl, z⟩ := I.tuple hs
    obtain ⟨as, rr⟩ := Dp.readsAll I _ _ _ hd rv
    exact max_tuple_data (I.ok.hd hc) hl (by simpa using rr) (by simpa using hal) (by simpa using hu2) fun i v h' tk bs hi r hk => best_fin I rv hd hal q hi r hk
end
def dBest (lt : D → D → Bool) (x : D) (xs : List D) : D := xs.foldl (fun a y => if lt a y then y else a) x
def noNone (l : List D) : Bool := l.all fun d => match d with
  | .non => false
  | _ => true
def biBest (lt : D → D → Bool) (ws : List W) (h : Hh) : R W := match ws with
  | [w] => match (seqW w h).bind allD with
    | some (x :: xs) => if allAl (x :: xs) && noNone (x :: xs) && (x :: xs).all (sh 64) then .ok (.d (dBest lt x xs)) h else .no
    | _ => .no
  | _ => .no
mutual
theorem py_inj : ∀ a b : D, a.py = b.py → a = b
  | .non, b, h => by cases b <;> simp [D.py] at h; rfl
  | .bl x, b, h => by cases b <;> simp [D.py] at h; rw [h]
  | .int x, b, h => by cases b <;> simp [D.py] at h; rw [h]
  | .str x, b, h => by cases b <;> simp [D.py] at h; rw [toStr_inj h]
  | .tup x, b, h => by cases b <;> simp [D.py] at h; rw [pyL_inj _ _ h]
  | .lst x, b, h => by cases b <;> simp [D.py] at h; rw [pyL_inj _ _ h]
theorem pyL_inj : ∀ a b : List D, pyL a = pyL b → a = b
  | [], [], _ => rfl
  | [], y :: ys, h => by simp [pyL] at h
  | x :: xs, [], h => by simp [pyL] at h
  | x :: xs, y :: ys, h => by
    simp only [pyL, List.cons.injEq] at h
    rw [py_inj x y h.1, pyL_inj xs ys h.2]
end
theorem best_py {lt : D → D → Bool} {ltp : PyData → PyData → Bool} {l : List D} (hl : ∀ a ∈ l, ∀ b ∈ l, ltp a.py b.py = lt a b) : ∀ (xs : List D) (x : D), x ∈ l → (∀ y ∈ xs, y ∈ l) → foldB ltp x.py (xs.map D.py) = (dBest lt x xs).py ∧ dBest lt x xs ∈ l
  | [], x, hx, _ => ⟨rfl, hx⟩
  | y :: ys, x, hx, h => by
    have hy := h y (by simp)
    have e : (if ltp x.py y.py then y.py else x.py) = (if lt x y then y else x).py := by rw [hl x hx y hy]; split <;> rfl
    have hm : (if lt x y then y else x) ∈ l := by split <;> assumption
    have ⟨a, b⟩ := best_py hl ys (if lt x y then y else x) hm fun z hz => h z (by simp [hz])
    unfold foldB dBest at *
    rw [List.map_cons, List.foldl_cons, List.foldl_cons, e]
    exact ⟨a, b⟩
theorem fc_best {K : PySem.W.Frag} {T : Tb} {lt : D → D → Bool} {ltp : PyData → PyData → Bool} (hl : ∀ a b : D, D.al a b = true → D.al b a = true → ltp a.py b.py = lt a b) : FCl K T (biBest lt) (rBest K ltp) := by
  intro Wx σ F ρ ih H xs vs Q hr rs hp
  unfold biBest at hp
  split at hp
  · cases rs with | cons r t => cases t with | nil =>
      split at hp
      · rename_i x l e
        rw [Option.bind_eq_some_iff] at e
        obtain ⟨ws, e1, e2⟩ := e
        obtain ⟨a, us, rfl, s, rs, _⟩ := seqW_at hr r e1
        have rl := allD_rp e2 rs
        split at hp
        · rename_i c
          simp only [Bool.and_eq_true] at c
          obtain ⟨⟨c1, c2⟩, c3⟩ := c
          obtain ⟨ps, e3, e4, hps⟩ := rl.zip
          cases ps with
          | nil => cases e3
          | cons p ps =>
            rw [List.map_cons, List.cons.injEq] at e3
            obtain ⟨rfl, rfl⟩ := e3
            subst e4
            have em : ((p :: ps).map fun p => (p.2, p.1.py)).map Prod.fst = (p :: ps).map Prod.snd := by rw [List.map_map]; rfl
            have em2 : ((p :: ps).map fun p => (p.2, p.1.py)).map Prod.snd = pyL ((p :: ps).map Prod.fst) := by rw [List.map_map, pyL_map, List.map_map]; rfl
            let f : D × V → V × PyData := fun p => (p.2, p.1.py)
            refine ⟨a, (p.2, p.1.py), ps.map f, rfl, ?_, ?_, ?_, ?_, ?_⟩
            · rw [← List.map_cons (f := fun p : D × V => (p.2, p.1.py)), em]
              exact s.imp .inl .inl
            · rw [← List.map_cons (f := fun p : D × V => (p.2, p.1.py)), em, em2]
              exact rl.dp
            · rw [← List.map_cons (f := fun p : D × V => (p.2, p.1.py)), em2]
              refine And.intro (fun x hx y hy => allAl_py c1 x hx y hy) fun x hx => ?_
              rw [pyL_map] at hx
              obtain ⟨z, hz, rfl⟩ := List.mem_map.mp hx
              have := List.all_eq_true.mp c2 z hz
              cases z <;> simp at this <;> simp [D.py]
            · intro q hq
              rw [← List.map_cons (f := fun p : D × V => (p.2, p.1.py))] at hq
              obtain ⟨z, hz, rfl⟩ := List.mem_map.mp hq
              have := List.all_eq_true.mp c3 z.1 (List.mem_map.mpr ⟨z, hz, rfl⟩)
              exact (sh_lay 64 _ this).2
            · intro q hq e
              rw [← List.map_cons (f := fun p : D × V => (p.2, p.1.py))] at hq
              obtain ⟨z, hz, rfl⟩ := List.mem_map.mp hq
              have hall : ∀ a ∈ p.1 :: ps.map Prod.fst, ∀ b ∈ p.1 :: ps.map Prod.fst, ltp a.py b.py = lt a b := fun a ha b hb =>
                hl a b (List.all_eq_true.mp (List.all_eq_true.mp c1 a ha) b hb) (List.all_eq_true.mp (List.all_eq_true.mp c1 b hb) a ha)
              have hb := best_py hall (ps.map Prod.fst) p.1 (by simp) fun y hy => List.mem_cons_of_mem _ hy
              have e' : z.1.py = (dBest lt p.1 (ps.map Prod.fst)).py := by
                rw [← hb.1]
                have : (ps.map fun p => (p.2, p.1.py)).map Prod.snd = (ps.map Prod.fst).map D.py := by rw [List.map_map, List.map_map]; rfl
                rw [← this]
                exact e
              have e3 := py_inj _ _ e'
              rw [← e3] at hp
              exact hp.ok hr _ (.d (hps z hz))
        · exact hp.elim
      · exact hp.elim
  · exact hp.elim
abbrev biMaxD := biBest D.lt
abbrev biMinD := biBest fun a y => D.lt y a
section
variable {X : Cx} {T : Tb} {Wx : WX} {k : Nat}
theorem u_maxD (G : Cg X Wx k) : Bi X T "max" biMaxD := ⟨.inl ⟨_, _, cr_maxD G.calm G.hu, fc_best fun a b h _ => lt_py a b h, by decide +kernel⟩, by decide, by decide⟩
theorem u_minD (G : Cg X Wx k) : Bi X T "min" biMinD := ⟨.inl ⟨_, _, cr_minD G.calm G.hu, fc_best fun a b _ h => lt_py b a h, by decide +kernel⟩, by decide, by decide⟩
end
end Fz
set_option Elab.async false
set_option linter.all false
set_option maxRecDepth 100000
set_option maxHeartbeats 2000000
/-! Fz: plain laws of the functions: loops over lists, words for simp. -/
namespace Fz

def forL (t : Cy) (b : Cs) : List Y → Ev → Hh → SR
  | [], e, h => .nx e h
  | y :: ys, e, h => match t y e h with
    | none => .no
    | some e1 => match b e1 h with
      | .nx e2 h2 => forL t b ys e2 h2
      | .ct e2 h2 => forL t b ys e2 h2
      | .bk e2 h2 => .nx e2 h2
      | r => r
theorem loop_fix {l : List Y} {t : Cy} {b : Cs} : ∀ (m i : Nat) (e : Ev) (h : Hh), l.length + 1 = m + i ∨ l.length + 1 < m + i ∧ 0 < m → 0 < m → loop (fixS l) t b m i e h = forL t b (l.drop i) e h
  | 0, i, e, h, hl, hp => absurd hp (by omega)
  | m + 1, i, e, h, hl, hp => by
    unfold loop
    have ef : fixS l h = some l := rfl
    rw [ef]
    dsimp only
    cases hi : l[i]? with
    | none =>
      have := List.getElem?_eq_none_iff.mp hi
      rw [List.drop_eq_nil_of_le this]
      rfl
    | some y =>
      obtain ⟨hlt, hy⟩ := List.getElem?_eq_some_iff.mp hi
      rw [List.drop_eq_getElem_cons hlt, hy]
      dsimp only [forL]
      have rec' : ∀ e2 h2, loop (fixS l) t b m (i + 1) e2 h2 = forL t b (l.drop (i + 1)) e2 h2 := fun e2 h2 => loop_fix m (i + 1) e2 h2 (by omega) (by omega)
      cases t y e h with
      | none => rfl
      | some e1 =>
        dsimp only
        cases b e1 h <;> simp only [rec']
theorem sFor_fix {ci : Ci} {t : Cy} {b : Cs} {e : Ev} {h h' : Hh} {l : List Y} (hc : ci e h = .ok (fixS l) h') : sFor ci t b e h = forL t b l e h' := by
  unfold sFor
  rw [hc, lift_ok]
  have := loop_fix (l := l) (t := t) (b := b) (srcLen (fixS l) h' + 1) 0 e h' (.inl (by simp [srcLen, fixS])) (by omega)
  rw [this, List.drop_zero]
theorem forL_app {t : Cy} {b : Cs} : ∀ (l1 l2 : List Y) (e : Ev) (h : Hh) {e1 : Ev} {h1 : Hh} {r : SR}, forL t b l1 e h = .nx e1 h1 → (∀ y ∈ l1, ∀ e h e2 h2, b e h = .bk e2 h2 → False) → forL t b l2 e1 h1 = r → forL t b (l1 ++ l2) e h = r
  | [], l2, e, h, e1, h1, r, h3, hb, h4 => by
    cases h3
    exact h4
  | y :: ys, l2, e, h, e1, h1, r, h3, hb, h4 => by
    show forL t b (y :: (ys ++ l2)) e h = r
    unfold forL at h3 ⊢
    cases ht : t y e h with
    | none => rw [ht] at h3; cases h3
    | some e2 =>
      rw [ht] at h3
      dsimp only at h3 ⊢
      cases hbb : b e2 h with
      | nx e3 h5 => rw [hbb] at h3; exact forL_app ys l2 e3 h5 h3 (fun y hy => hb y (by simp [hy])) h4
      | ct e3 h5 => rw [hbb] at h3; exact forL_app ys l2 e3 h5 h3 (fun y hy => hb y (by simp [hy])) h4
      | bk e3 h5 => exact (hb y (by simp) _ _ _ _ hbb).elim
      | rt w h5 => rw [hbb] at h3; cases h3
      | ex c p e3 h5 => rw [hbb] at h3; cases h3
      | no => rw [hbb] at h3; cases h3
/-- the same; a break stays one -/
def forK (t : Cy) (b : Cs) : List Y → Ev → Hh → SR
  | [], e, h => .nx e h
  | y :: ys, e, h => match t y e h with
    | none => .no
    | some e1 => match b e1 h with
      | .nx e2 h2 => forK t b ys e2 h2
      | .ct e2 h2 => forK t b ys e2 h2
      | r => r
def unbk : SR → SR
  | .bk e h => .nx e h
  | r => r
theorem forL_K {t : Cy} {b : Cs} : ∀ (l : List Y) (e : Ev) (h : Hh), forL t b l e h = unbk (forK t b l e h)
  | [], _, _ => rfl
  | y :: ys, e, h => by
    unfold forL forK
    cases t y e h with
    | none => rfl
    | some e1 =>
      dsimp only
      cases b e1 h with
      | nx e2 h2 => exact forL_K ys e2 h2
      | ct e2 h2 => exact forL_K ys e2 h2
      | bk e2 h2 => rfl
      | rt w h2 => rfl
      | ex c p e2 h2 => rfl
      | no => rfl
theorem sFor_K {ci : Ci} {t : Cy} {b : Cs} {e : Ev} {h h' : Hh} {l : List Y} (hc : ci e h = .ok (fixS l) h') : sFor ci t b e h = unbk (forK t b l e h') := by rw [sFor_fix hc, forL_K]
theorem forK_app {t : Cy} {b : Cs} (l2 : List Y) : ∀ (l1 : List Y) (e : Ev) (h : Hh), forK t b (l1 ++ l2) e h = (forK t b l1 e h).bind (forK t b l2)
  | [], _, _ => rfl
  | y :: ys, e, h => by
    show forK t b (y :: (ys ++ l2)) e h = _
    unfold forK
    cases t y e h with
    | none => rfl
    | some e1 =>
      dsimp only
      cases b e1 h with
      | nx e2 h2 => exact forK_app l2 ys e2 h2
      | ct e2 h2 => exact forK_app l2 ys e2 h2
      | bk e2 h2 => rfl
      | rt w h2 => rfl
      | ex c p e2 h2 => rfl
      | no => rfl
theorem forK_one {t : Cy} {b : Cs} {y : Y} {e e1 : Ev} {h : Hh} (ht : t y e h = some e1) {e2 : Ev} {h2 : Hh} (hb : b e1 h = .nx e2 h2) : forK t b [y] e h = .nx e2 h2 := by
  unfold forK; rw [ht]; dsimp only; rw [hb]; rfl
def lcL (t : Cy) (q : Cb) (c : Cd) (e : Ev) : List Y → List W → Hh → R (List W)
  | [], acc, h => .ok acc h
  | y :: ys, acc, h => match t y e h with
    | none => .no
    | some e1 => (q e1 h).bind fun k h => if k then (c e1 h).bind fun w h => if acc.length < 16777216 then lcL t q c e ys (acc ++ [w]) h else .no else lcL t q c e ys acc h
theorem lcl_fix {l : List Y} {t : Cy} {q : Cb} {c : Cd} {e : Ev} : ∀ (m i : Nat) (acc : List W) (h : Hh), l.length + 1 = m + i ∨ l.length + 1 < m + i ∧ 0 < m → 0 < m → lcl (fixS l) t q c e m i acc h = lcL t q c e (l.drop i) acc h
  | 0, i, acc, h, hl, hp => absurd hp (by omega)
  | m + 1, i, acc, h, hl, hp => by
    unfold lcl
    have ef : fixS l h = some l := rfl
    rw [ef]
    dsimp only
    cases hi : l[i]? with
    | none =>
      have := List.getElem?_eq_none_iff.mp hi
      rw [List.drop_eq_nil_of_le this]
      rfl
    | some y =>
      obtain ⟨hlt, hy⟩ := List.getElem?_eq_some_iff.mp hi
      rw [List.drop_eq_getElem_cons hlt, hy]
      dsimp only [lcL]
      have rec' : ∀ acc h2, lcl (fixS l) t q c e m (i + 1) acc h2 = lcL t q c e (l.drop (i + 1)) acc h2 := fun e2 h2 => lcl_fix m (i + 1) e2 h2 (by omega) (by omega)
      cases t y e h with
      | none => rfl
      | some e1 => simp only [rec']
theorem cLc_fix {mt : Bool} {vs : List Nat} {ci : Ci} {t : Cy} {q : Cb} {c : Cd} {e : Ev} {h h' : Hh} {l : List Y} (hc : ci e h = .ok (fixS l) h') : cLc mt vs ci t q c e h = (noX (lcL t q c (ew e vs) l [] h')).bind fun ws h => fin mt ws h := by
  unfold cLc
  rw [hc, R.bind_ok]
  have := lcl_fix (l := l) (t := t) (q := q) (c := c) (e := ew e vs) (srcLen (fixS l) h' + 1) 0 [] h' (.inl (by simp [srcLen, fixS])) (by omega)
  rw [this, List.drop_zero]
/-- a comprehension whose parts leave the heap as it is -/
theorem lcL_pure {t : Cy} {q : Cb} {c : Cd} {e : Ev} {h : Hh} (f : Y → Bool) (g : Y → W) : ∀ (l : List Y) (acc : List W), acc.length + l.length ≤ 16777216 → (∀ y ∈ l, ∃ e1, t y e h = some e1 ∧ q e1 h = .ok (f y) h ∧ (f y = true → c e1 h = .ok (g y) h)) →
    lcL t q c e l acc h = .ok (acc ++ (l.filter f).map g) h
  | [], acc, _, _ => by simp [lcL]
  | y :: ys, acc, hl, hy => by
    obtain ⟨e1, a1, a2, a3⟩ := hy y (by simp)
    rw [List.length_cons] at hl
    unfold lcL
    rw [a1]
    dsimp only
    rw [a2, R.bind_ok]
    cases hf : f y with
    | true =>
      rw [if_pos rfl, a3 hf, R.bind_ok, if_pos (by omega), lcL_pure f g ys _ (by simp; omega) fun z hz => hy z (by simp [hz])]
      simp [hf]
    | false =>
      rw [if_neg Bool.false_ne_true, lcL_pure f g ys _ (by omega) fun z hz => hy z (by simp [hz])]
      simp [hf]
section
variable {e : Ev} {h : Hh} {a b c : Cd} {t u : Cb} {x y z : Cs} {i j : Nat} {n m : Int} {w : W} {l : List D} {op op' : W → W → Hh → R W} {k : Bool} {aa : Ca} {g : Fn}
@[simp] theorem z_seq : sSeq x y e h = (x e h).bind y := rfl
@[simp] theorem z_ret : sRet a e h = lift (a e h) e fun w h => .rt w h := rfl
@[simp] theorem z_retN : sRetN e h = .rt (.d .non) h := rfl
@[simp] theorem z_nx : sNx e h = .nx e h := rfl
@[simp] theorem z_no : sNo e h = .no := rfl
@[simp] theorem z_if : sIf t x y e h = lift (t e h) e fun k h => if k then x e h else y e h := rfl
@[simp] theorem z_asg {tg : Ct} : sAsg a tg e h = lift (a e h) e fun w h => match tg w e h with
  | some e' => .nx e' h
  | none => .no := rfl
@[simp] theorem z_expr : sExpr a e h = lift (a e h) e fun _ h => .nx e h := rfl
@[simp] theorem z_par {tg : Cts} : sPar aa tg e h = lift (aa e h) e fun ws h => match tg ws e h with
  | some e' => .nx e' h
  | none => .no := rfl
@[simp] theorem z_set : sSet a b c e h = lift (a e h) e fun w h => lift (b e h) e fun x h => lift (c e h) e fun y h => match setAt x y w h with
  | some h' => .nx e h'
  | none => .no := rfl
@[simp] theorem z_tN : tN i w e h = some (e.set i (some w)) := rfl
@[simp] theorem z_tNil : Fz.tNil [] e h = some e := rfl
@[simp] theorem z_tCns {ta : Ct} {tb : Cts} {ws : List W} : tCns ta tb (w :: ws) e h = (ta w e h).bind fun e => tb ws e h := rfl
@[simp] theorem z_tTp {tb : Cts} : tTp tb (.d (.tup l)) e h = tb (l.map .d) e h := rfl
@[simp] theorem z_tLsT {tb : Cts} : tLs tb (.d (.tup l)) e h = tb (l.map .d) e h := rfl
@[simp] theorem z_tLsL {tb : Cts} : tLs tb (.d (.lst l)) e h = tb (l.map .d) e h := rfl
@[simp] theorem z_cc {d : D} : cc d e h = .ok (.d d) h := rfl
@[simp] theorem z_c1 {o : W → Hh → R W} : c1 o a e h = (a e h).bind o := rfl
@[simp] theorem z_c2 : c2 op a b e h = (a e h).bind fun x h => (b e h).bind fun y h => op x y h := rfl
@[simp] theorem z_cl {o : List W → Hh → R W} : cCl o aa e h = (aa e h).bind o := rfl
@[simp] theorem z_aNil : aNil e h = .ok [] h := rfl
@[simp] theorem z_aCons : aCons a aa e h = (a e h).bind fun x h => (aa e h).bind fun xs h => .ok (x :: xs) h := rfl
@[simp] theorem z_cIf : cIf t a b e h = (t e h).bind fun k h => if k then a e h else b e h := rfl
@[simp] theorem z_cT : cT a e h = (a e h).bind tru := rfl
@[simp] theorem z_bAnd : bAnd t u e h = (t e h).bind fun k h => if k then u e h else .ok false h := rfl
@[simp] theorem z_bOr : bOr t u e h = (t e h).bind fun k h => if k then .ok true h else u e h := rfl
@[simp] theorem z_bNot : bNot t e h = (t e h).bind fun k h => .ok (!k) h := rfl
@[simp] theorem z_bC : bC op a b e h = asB (c2 op a b e h) := rfl
@[simp] theorem z_asB {k : Bool} : asB (.ok (.d (.bl k)) h) = .ok k h := rfl
@[simp] theorem z_bCh : bCh op op' a b c e h = asB (cch op op' a b c e h) := rfl
@[simp] theorem z_and : cAnd a b e h = (a e h).bind fun x h => (tru x h).bind fun k h => if k then b e h else .ok x h := rfl
@[simp] theorem z_or : cOr a b e h = (a e h).bind fun x h => (tru x h).bind fun k h => if k then .ok x h else b e h := rfl
@[simp] theorem z_not : cNot a e h = (a e h).bind fun x h => (tru x h).bind fun k h => .ok (.d (.bl (!k))) h := rfl
@[simp] theorem z_truN : tru (.d .non) h = .ok false h := rfl
@[simp] theorem z_truB : tru (.d (.bl k)) h = .ok k h := rfl
@[simp] theorem z_truI : tru (.d (.int n)) h = .ok (n != 0) h := rfl
@[simp] theorem z_truT : tru (.d (.tup l)) h = .ok (!l.isEmpty) h := rfl
@[simp] theorem z_truL : tru (.d (.lst l)) h = .ok (!l.isEmpty) h := rfl
@[simp] theorem z_isi {t : Ty} : cIsi t a e h = (a e h).bind fun w h => match w with
  | .d x => .ok (.d (.bl (isD t x))) h
  | .r n => match h[n]? with
    | some (.lst _) => .ok (.d (.bl (match t with | .lst => true | _ => false))) h
    | _ => .no := rfl
@[simp] theorem z_sub : opSub (.d (.int n)) (.d (.int m)) h = .ok (.d (.int (n - m))) h := rfl
@[simp] theorem z_add : opAdd k (.d (.int n)) (.d (.int m)) h = .ok (.d (.int (n + m))) h := rfl
@[simp] theorem z_mod (hm : 0 < m) : opMod (.d (.int n)) (.d (.int m)) h = .ok (.d (.int (n % m))) h := by unfold opMod opI; simp [hm]
@[simp] theorem z_fdiv (hm : 0 < m ∧ m < 1073741824) : opFdiv (.d (.int n)) (.d (.int m)) h = .ok (.d (.int (n / m))) h := by unfold opFdiv opI; simp [hm]
@[simp] theorem z_opC {p : Int → Int → Bool} : opC p (.d (.int n)) (.d (.int m)) h = .ok (.d (.bl (p n m))) h := rfl
@[simp] theorem z_eqI : opEq k (.d (.int n)) (.d (.int m)) h = .ok (.d (.bl (if k then !(n == m) else n == m))) h := by
  unfold opEq; simp [valD, sh, D.eqv]
@[simp] theorem z_len1 : biLen [.d (.tup l)] h = .ok (.d (.int l.length)) h := rfl
@[simp] theorem z_len2 : biLen [.d (.lst l)] h = .ok (.d (.int l.length)) h := rfl
@[simp] theorem z_max2 : biMax2 [.d (.int n), .d (.int m)] h = .ok (.d (.int (if m > n then m else n))) h := rfl
@[simp] theorem z_int : biInt [.d (.int n)] h = .ok (.d (.int n)) h := rfl
@[simp] theorem z_abs : biAbs [.d (.int n)] h = .ok (.d (.int (if n < 0 then -n else n))) h := rfl
@[simp] theorem z_neg : opNeg (.d (.int n)) h = .ok (.d (.int (-n))) h := rfl
@[simp] theorem z_allD0 : allD [] = some [] := rfl
@[simp] theorem z_allD {d : D} {ws : List W} : allD (.d d :: ws) = (allD ws).map (d :: ·) := rfl
@[simp] theorem z_call {n : Nat} {p : Bool} : cCall p n g aa e h = (aa e h).bind fun ws h => if ws.length = n then (if p then pure' g ws h else g ws h) else .no := rfl
@[simp] theorem z_revT : opRevT (.d (.tup l)) h = .ok (.d (.tup l.reverse)) h := rfl
@[simp] theorem z_isN1 : opNone k (.d .non) (.d .non) h = .ok (.d (.bl (if k then false else true))) h := by cases k <;> rfl
theorem z_cv (h1 : e[i]? = some (some w)) : cv i e h = .ok w h := by unfold cv; rw [h1]
@[simp] theorem z_cv0 {w : Option W} {r : Ev} : cv 0 (w :: r) h = match w with
  | some w => .ok w h
  | none => .no := by unfold cv; cases w <;> rfl
@[simp] theorem z_cvS {w : Option W} {r : Ev} : cv (i + 1) (w :: r) h = cv i r h := rfl
/-- a call of a def that sees data alone -/
theorem pure_ok {ws : List W} {ds : List D} {d : D} {h' : Hh} (ha : allD ws = some ds) (hg : g ws [] = .ok (.d d) h') : pure' g ws h = .ok (.d d) h := by
  unfold pure'
  rw [ha]
  dsimp only
  rw [hg]
end
section
theorem ixN_at {n j : Nat} (h : j < n) : L2.ixN n (j : Int) = some j := by
  unfold L2.ixN
  rw [if_pos (by omega), if_pos (by omega)]
  simp
theorem atI_at {α : Type} {l : List α} {j : Nat} {x : α} (e : l[j]? = some x) : L2.atI l (j : Int) = some x := by
  unfold L2.atI
  rw [ixN_at (List.getElem?_eq_some_iff.mp e).1]
  exact e
theorem ix_l {l : List D} {j : Nat} {x : D} {h : Hh} (e : l[j]? = some x) : opIx (.d (.lst l)) (.d (.int j)) h = .ok (.d x) h := by
  have : L2.atI (l.map W.d) (j : Int) = some (.d x) := atI_at (by rw [List.getElem?_map, e]; rfl)
  simp [opIx, seqW, lstW, this]
theorem ix_t {l : List D} {j : Nat} {x : D} {h : Hh} (e : l[j]? = some x) : opIx (.d (.tup l)) (.d (.int j)) h = .ok (.d x) h := by
  have : L2.atI (l.map W.d) (j : Int) = some (.d x) := atI_at (by rw [List.getElem?_map, e]; rfl)
  simp [opIx, seqW, this]
theorem ix_r {n : Nat} {l : List W} {j : Nat} {x : W} {h : Hh} (hn : h[n]? = some (.lst l)) (e : l[j]? = some x) : opIx (.r n) (.d (.int j)) h = .ok x h := by
  have : L2.atI l (j : Int) = some x := atI_at e
  simp [opIx, seqW, lstW, hn, this]
theorem set_r {n : Nat} {l : List W} {j : Nat} {x : W} {h : Hh} (hn : h[n]? = some (.lst l)) (hj : j < l.length) : setAt (.r n) (.d (.int j)) x h = some (h.set n (.lst (l.set j x))) := by
  simp [setAt, hn, ixN_at hj]
theorem cut_from {α : Type} {l : List α} {j : Nat} (hj : j ≤ l.length) : cut l (some (j : Int)) none = l.drop j := by
  unfold cut
  have h1 : HT.sIx l.length 0 (some (j : Int)) = j := by simp only [HT.sIx]; split <;> omega
  have h2 : HT.sIx l.length l.length none = l.length := rfl
  rw [h1, h2]
  exact List.take_of_length_le (by simp)
end
end Fz
set_option Elab.async false
set_option linter.all false
set_option maxRecDepth 100000
set_option maxHeartbeats 4000000
namespace K39
open PySem L2 Fz PyProof.Rows
def top (i : Nat) : Stmt := PySem.Challenge.pw_nowayleft_k39_trees_worked_out.main.body.getD i (.Pass ⟨0, 0, 0, 0⟩)
/-! ### what the defs do -/
/-- is_integer -/
def c_0 (r : Nat → Fn) : Cs := (sRet (cAnd (cIsi .int (cv 0)) (cNot (cIsi .bool (cv 0)))))
/-- is_tree -/
def c_1 (r : Nat → Fn) : Cs := (sSeq (sIf (cT (cCall true 1 (r 0) (aCons (cv 0) aNil)))
    (sRet (cc (.bl true)))
    sNx)
    (sSeq (sIf (bOr (bNot (cT (cIsi .tup (cv 0)))) (bOr (bC (opEq true) (cCl biLen (aCons (cv 0) aNil)) (cc (.int 2))) (bC (opEq false) (cv 1) (cc (.int 0)))))
    (sRet (cc (.bl false)))
    sNx)
    (sRet (cAnd (cCall true 2 (r 1) (aCons (c2 opIx (cv 0) (cc (.int 0))) (aCons (c2 opSub (cv 1) (cc (.int 1))) aNil))) (cCall true 2 (r 1) (aCons (c2 opIx (cv 0) (cc (.int 1))) (aCons (c2 opSub (cv 1) (cc (.int 1))) aNil)))))))
/-- check_tree -/
def c_2 (r : Nat → Fn) : Cs := (sIf (bNot (cT (cCall true 2 (r 1) (aCons (cv 0) (aCons (cc (.int 12)) aNil)))))
    sNo
    sNx)
/-- needed_of -/
def c_3 (r : Nat → Fn) : Cs := (sSeq (sIf (bNot (cT (cIsi .tup (cv 0))))
    (sRet (cc (.int 1)))
    sNx)
    (sSeq (sPar (aCons (cCall true 1 (r 3) (aCons (c2 opIx (cv 0) (cc (.int 0))) aNil)) (aCons (cCall true 1 (r 3) (aCons (c2 opIx (cv 0) (cc (.int 1))) aNil)) aNil)) (tCns (tN 1) (tCns (tN 2) Fz.tNil)))
    (sRet (cIf (bC (opEq false) (cv 1) (cv 2)) (c2 (opAdd false) (cv 1) (cc (.int 1))) (cCl biMax2 (aCons (cv 1) (aCons (cv 2) aNil)))))))
/-- needed -/
def c_4 (r : Nat → Fn) : Cs := (sSeq (sExpr (cCall true 1 (r 2) (aCons (cv 0) aNil)))
    (sRet (cCall true 1 (r 3) (aCons (cv 0) aNil))))
/-- worked -/
def c_5 (r : Nat → Fn) : Cs := (sSeq (sIf (bNot (cT (cIsi .tup (cv 0))))
    (sRet (cCl mkL (aCons (cCl mkT (aCons (cc (.str [108, 111, 97, 100])) (aCons (c2 opIx (cv 1) (cc (.int 0))) (aCons (cv 0) aNil)))) aNil)))
    sNx)
    (sSeq (sAsg (cv 0) (tTp (tCns (tN 2) (tCns (tN 3) Fz.tNil))))
    (sSeq (sIf (bC opGe (cCall true 1 (r 3) (aCons (cv 2) aNil)) (cCall true 1 (r 3) (aCons (cv 3) aNil)))
    (sSeq (sAsg (c2 (opAdd false) (cCall true 2 (r 5) (aCons (cv 2) (aCons (cv 1) aNil))) (cCall true 2 (r 5) (aCons (cv 3) (aCons (cSl false (cv 1) (oS (cc (.int 1))) oN) aNil)))) (tN 4))
    (sRet (c2 (opAdd false) (cv 4) (cCl mkL (aCons (cCl mkT (aCons (cc (.str [106, 111, 105, 110])) (aCons (c2 opIx (cv 1) (cc (.int 0))) (aCons (c2 opIx (cv 1) (cc (.int 0))) (aCons (c2 opIx (cv 1) (cc (.int 1))) aNil))))) aNil)))))
    sNx)
    (sSeq (sAsg (c2 (opAdd false) (cCall true 2 (r 5) (aCons (cv 3) (aCons (cv 1) aNil))) (cCall true 2 (r 5) (aCons (cv 2) (aCons (cSl false (cv 1) (oS (cc (.int 1))) oN) aNil)))) (tN 4))
    (sRet (c2 (opAdd false) (cv 4) (cCl mkL (aCons (cCl mkT (aCons (cc (.str [106, 111, 105, 110])) (aCons (c2 opIx (cv 1) (cc (.int 0))) (aCons (c2 opIx (cv 1) (cc (.int 1))) (aCons (c2 opIx (cv 1) (cc (.int 0))) aNil))))) aNil))))))))
/-- deeds_for -/
def c_6 (r : Nat → Fn) : Cs := (sSeq (sExpr (cCall true 1 (r 2) (aCons (cv 0) aNil)))
    (sRet (cCl biTuple (aCons (cCall true 2 (r 5) (aCons (cv 0) (aCons (cLr false (aCons (cCall true 1 (r 3) (aCons (cv 0) aNil)) aNil)) aNil))) aNil))))
/-- run_deeds -/
def c_7 (r : Nat → Fn) : Cs := (sSeq (sIf (bOr (bNot (cT (cCall true 1 (r 0) (aCons (cv 0) aNil)))) (bNot (bCh opLe opLe (cc (.int 0)) (cv 0) (cc (.int 60)))))
    sNo
    sNx)
    (sSeq (sAsg (cCall false 2 (r 8) (aCons (cv 0) (aCons (cv 1) aNil))) (tN 2))
    (sSeq (sIf (bC (opNone false) (cv 2) (cc .non))
    sNo
    sNx)
    (sRet (cCl biTuple (aCons (cv 2) aNil))))))
def c_8_0 (r : Nat → Fn) : Cs := (sSeq (sIf (bOr (bNot (cT (cIsi .tup (cv 3)))) (bOr (bC (opIn true) (cCl biLen (aCons (cv 3) aNil)) (cCl mkT (aCons (cc (.int 3)) (aCons (cc (.int 4)) aNil)))) (bNot (cT (cCl biAll (aCons (cLc false [4] (cIt (cSl false (cv 3) (oS (cc (.int 1))) oN)) (yN (tN 4)) bYes (cCall true 1 (r 0) (aCons (cv 4) aNil))) aNil))))))
    (sRet (cc .non))
    sNx)
    (sSeq (sIf (bNot (bCh opLe opLt (cc (.int 0)) (c2 opIx (cv 3) (cc (.int 1))) (cv 0)))
    (sRet (cc .non))
    sNx)
    (sIf (bAnd (bC (opEq false) (c2 opIx (cv 3) (cc (.int 0))) (cc (.str [108, 111, 97, 100]))) (bC (opEq false) (cCl biLen (aCons (cv 3) aNil)) (cc (.int 3))))
    (sSet (c2 opIx (cv 3) (cc (.int 2))) (cv 2) (c2 opIx (cv 3) (cc (.int 1))))
    (sIf (bAnd (bC (opEq false) (c2 opIx (cv 3) (cc (.int 0))) (cc (.str [106, 111, 105, 110]))) (bAnd (bC (opEq false) (cCl biLen (aCons (cv 3) aNil)) (cc (.int 4))) (bAnd (bCh opLe opLt (cc (.int 0)) (c2 opIx (cv 3) (cc (.int 2))) (cv 0)) (bCh opLe opLt (cc (.int 0)) (c2 opIx (cv 3) (cc (.int 3))) (cv 0)))))
    (sSeq (sAsg (cCl mkT (aCons (c2 opIx (cv 2) (c2 opIx (cv 3) (cc (.int 2)))) (aCons (c2 opIx (cv 2) (c2 opIx (cv 3) (cc (.int 3)))) aNil))) (tN 5))
    (sSeq (sIf (bOr (bC (opIn false) (cc .non) (cv 5)) (bNot (cT (cCall true 2 (r 1) (aCons (cv 5) (aCons (cc (.int 12)) aNil))))))
    (sRet (cc .non))
    sNx)
    (sSet (cv 5) (cv 2) (c2 opIx (cv 3) (cc (.int 1))))))
    (sRet (cc .non))))))
/-- run_of -/
def c_8 (r : Nat → Fn) : Cs := (sSeq (sIf (bNot (cT (cIsi .tup (cv 1))))
    (sRet (cc .non))
    sNx)
    (sSeq (sAsg (c2 (opMul true) (cCl mkM (aCons (cc .non) aNil)) (cv 0)) (tN 2))
    (sSeq (sFor (cIt (cv 1)) (yN (tN 3))
    (c_8_0 r))
    (sRet (cv 2)))))
/-- accept_deeds -/
def c_9 (r : Nat → Fn) : Cs := (sSeq (sExpr (cCall true 1 (r 2) (aCons (cv 0) aNil)))
    (sSeq (sIf (bOr (bNot (cT (cCall true 1 (r 0) (aCons (cv 1) aNil)))) (bNot (bCh opLe opLe (cc (.int 0)) (cv 1) (cc (.int 60)))))
    sNo
    sNx)
    (sSeq (sAsg (cCall false 2 (r 8) (aCons (cv 1) (aCons (cv 2) aNil))) (tN 3))
    (sSeq (sIf (bC (opNone false) (cv 3) (cc .non))
    sNo
    sNx)
    (sIf (bOr (bNot (cT (cv 3))) (bC (opEq true) (c2 opIx (cv 3) (cc (.int 0))) (cv 0)))
    sNo
    sNx)))))
/-- numbered -/
def c_10 (r : Nat → Fn) : Cs := (sSeq (sExpr (cCall true 1 (r 2) (aCons (cv 0) aNil)))
    (sRet (cCall true 1 (r 11) (aCons (cv 0) aNil))))
/-- numbers_of -/
def c_11 (r : Nat → Fn) : Cs := (sSeq (sIf (bNot (cT (cIsi .tup (cv 0))))
    (sRet (cc (.int 1)))
    sNx)
    (sRet (cCl mkT (aCons (cCall true 1 (r 3) (aCons (cv 0) aNil)) (aCons (cCall true 1 (r 11) (aCons (c2 opIx (cv 0) (cc (.int 0))) aNil)) (aCons (cCall true 1 (r 11) (aCons (c2 opIx (cv 0) (cc (.int 1))) aNil)) aNil))))))
/-- accept_numbers -/
def c_12 (r : Nat → Fn) : Cs := (sSeq (sExpr (cCall true 1 (r 2) (aCons (cv 0) aNil)))
    (sIf (bNot (cT (cCall true 2 (r 13) (aCons (cv 0) (aCons (cv 1) aNil)))))
    sNo
    sNx))
/-- are_numbers -/
def c_13 (r : Nat → Fn) : Cs := (sSeq (sIf (bNot (cT (cIsi .tup (cv 0))))
    (sRet (cAnd (cCall true 1 (r 0) (aCons (cv 1) aNil)) (c2 (opEq false) (cv 1) (cc (.int 1)))))
    sNx)
    (sSeq (sIf (bOr (bNot (cT (cIsi .tup (cv 1)))) (bOr (bC (opEq true) (cCl biLen (aCons (cv 1) aNil)) (cc (.int 3))) (bNot (cT (cCall true 1 (r 0) (aCons (c2 opIx (cv 1) (cc (.int 0))) aNil))))))
    (sRet (cc (.bl false)))
    sNx)
    (sSeq (sIf (bOr (bNot (cT (cCall true 2 (r 13) (aCons (c2 opIx (cv 0) (cc (.int 0))) (aCons (c2 opIx (cv 1) (cc (.int 1))) aNil))))) (bNot (cT (cCall true 2 (r 13) (aCons (c2 opIx (cv 0) (cc (.int 1))) (aCons (c2 opIx (cv 1) (cc (.int 2))) aNil))))))
    (sRet (cc (.bl false)))
    sNx)
    (sSeq (sAsg (cLc false [4] (cIt (cSl false (cv 1) (oS (cc (.int 1))) oN)) (yN (tN 4)) bYes (cIf (cT (cCall true 1 (r 0) (aCons (cv 4) aNil))) (cv 4) (c2 opIx (cv 4) (cc (.int 0))))) (tLs (tCns (tN 2) (tCns (tN 3) Fz.tNil))))
    (sRet (c2 (opEq false) (c2 opIx (cv 1) (cc (.int 0))) (cIf (bC (opEq false) (cv 2) (cv 3)) (c2 (opAdd false) (cv 2) (cc (.int 1))) (cCl biMax2 (aCons (cv 2) (aCons (cv 3) aNil))))))))))
def c_14_0 (r : Nat → Fn) : Cs := (sAsg (c2 (opAdd false) (c2 opMod (cCl biInt (aCons (c2 (opAdd false) (c2 (opMul false) (cv 1) (cc (.int 48271))) (cv 2)) aNil)) (cc (.int 2147483629))) (cc (.int 1))) (tN 1))
/-- _law_start -/
def c_14 (r : Nat → Fn) : Cs := (sSeq (sAsg (cc (.int 7)) (tN 1))
    (sSeq (sFor (cIt (cv 0)) (yN (tN 2))
    (c_14_0 r))
    (sRet (cCl mkM (aCons (cCl (biList false) (aCons (cv 0) aNil)) (aCons (cc (.int 0)) (aCons (cc (.int 0)) (aCons (cv 1) aNil))))))))
/-- _law_draw -/
def c_15 (r : Nat → Fn) : Cs := (sSeq (sIf (bAnd (bC (opEq false) (c2 opIx (cv 0) (cc (.int 1))) (cc (.int 0))) (bC opGe (c2 opIx (cv 0) (cc (.int 2))) (cCl biLen (aCons (c2 opIx (cv 0) (cc (.int 0))) aNil))))
    (sSeq (sSet (c2 opMod (cCl biInt (aCons (c2 (opAdd false) (c2 (opMul false) (c2 opIx (cv 0) (cc (.int 3))) (cc (.int 48271))) (cc (.int 69621))) aNil)) (cc (.int 2147483629))) (cv 0) (cc (.int 3)))
    (sRet (c2 opMod (cCl biInt (aCons (c2 opFdiv (c2 opIx (cv 0) (cc (.int 3))) (cc (.int 13))) aNil)) (cv 1))))
    sNx)
    (sSeq (sIf (bC (opEq false) (c2 opIx (cv 0) (cc (.int 1))) (cc (.int 0)))
    (sSeq (sSet (cCl biAbs (aCons (c2 opIx (c2 opIx (cv 0) (cc (.int 0))) (c2 opIx (cv 0) (cc (.int 2)))) aNil)) (cv 0) (cc (.int 1)))
    (sSet (c2 (opAdd false) (c2 opIx (cv 0) (cc (.int 2))) (cc (.int 1))) (cv 0) (cc (.int 2))))
    sNx)
    (sSeq (sAsg (c2 opMod (cCl biInt (aCons (c2 opIx (cv 0) (cc (.int 1))) aNil)) (cv 1)) (tN 2))
    (sSeq (sSet (c2 opFdiv (c2 opIx (cv 0) (cc (.int 1))) (cv 1)) (cv 0) (cc (.int 1)))
    (sRet (cv 2))))))
/-- _law_pick -/
def c_16 (r : Nat → Fn) : Cs := (sRet (c2 opIx (cv 1) (cCall false 2 (r 15) (aCons (cv 0) (aCons (cCl biLen (aCons (cv 1) aNil)) aNil)))))
/-- _law_same -/
def c_17 (r : Nat → Fn) : Cs := (sRet (cSame 0 1))
/-- _law_tree -/
def c_18 (r : Nat → Fn) : Cs := (sSeq (sIf (bOr (bC (opEq false) (cv 1) (cc (.int 0))) (bAnd (bNot (cT (cv 2))) (bC (opEq false) (cCall false 2 (r 15) (aCons (cv 0) (aCons (cc (.int 4)) aNil))) (cc (.int 0)))))
    (sRet (cCall false 2 (r 16) (aCons (cv 0) (aCons (cCl mkL (aCons (cc (.int 0)) (aCons (cc (.int 1)) (aCons (c1 opNeg (cc (.int 5))) (aCons (c2 opPow (cc (.int 10)) (cc (.int 30))) (aCons (cCall false 2 (r 15) (aCons (cv 0) (aCons (cc (.int 100)) aNil))) aNil)))))) aNil))))
    sNx)
    (sSeq (sAsg (cCall false 2 (r 16) (aCons (cv 0) (aCons (cCl mkL (aCons (c2 opSub (cv 1) (cc (.int 1))) (aCons (c2 opSub (cv 1) (cc (.int 1))) (aCons (cc (.int 0)) (aCons (cCall false 2 (r 15) (aCons (cv 0) (aCons (cv 1) aNil))) aNil))))) aNil))) (tN 3))
    (sSeq (sAsg (cCl mkT (aCons (cCall false 3 (r 18) (aCons (cv 0) (aCons (c2 opSub (cv 1) (cc (.int 1))) (aCons (cv 2) aNil)))) (aCons (cCall false 3 (r 18) (aCons (cv 0) (aCons (cv 3) (aCons (cv 2) aNil)))) aNil))) (tN 4))
    (sRet (cIf (bC (opEq false) (cCall false 2 (r 15) (aCons (cv 0) (aCons (cc (.int 2)) aNil))) (cc (.int 0))) (cv 4) (c1 opRevT (cv 4)))))))
/-- _law_need -/
def c_19 (r : Nat → Fn) : Cs := (sSeq (sIf (bNot (cT (cIsi .tup (cv 0))))
    (sRet (cc (.int 1)))
    sNx)
    (sSeq (sAsg (cCl (biSort false) (aCons (cCl mkL (aCons (cCall true 1 (r 19) (aCons (c2 opIx (cv 0) (cc (.int 0))) aNil)) (aCons (cCall true 1 (r 19) (aCons (c2 opIx (cv 0) (cc (.int 1))) aNil)) aNil))) aNil)) (tLs (tCns (tN 1) (tCns (tN 2) Fz.tNil))))
    (sRet (cIf (bC opLt (cv 1) (cv 2)) (cv 2) (c2 (opAdd false) (cv 1) (cc (.int 1)))))))
/-- _law_deeds -/
def c_20 (r : Nat → Fn) : Cs := (sSeq (sIf (bNot (cT (cIsi .tup (cv 0))))
    (sRet (cCl mkT (aCons (cCl mkT (aCons (cc (.str [108, 111, 97, 100])) (aCons (cv 1) (aCons (cv 0) aNil)))) aNil)))
    sNx)
    (sSeq (sIf (bC opLt (cCall true 1 (r 19) (aCons (c2 opIx (cv 0) (cc (.int 0))) aNil)) (cCall true 1 (r 19) (aCons (c2 opIx (cv 0) (cc (.int 1))) aNil)))
    (sRet (c2 (opAdd false) (c2 (opAdd false) (cCall true 2 (r 20) (aCons (c2 opIx (cv 0) (cc (.int 1))) (aCons (cv 1) aNil))) (cCall true 2 (r 20) (aCons (c2 opIx (cv 0) (cc (.int 0))) (aCons (c2 (opAdd false) (cv 1) (cc (.int 1))) aNil)))) (cCl mkT (aCons (cCl mkT (aCons (cc (.str [106, 111, 105, 110])) (aCons (cv 1) (aCons (c2 (opAdd false) (cv 1) (cc (.int 1))) (aCons (cv 1) aNil))))) aNil))))
    sNx)
    (sRet (c2 (opAdd false) (c2 (opAdd false) (cCall true 2 (r 20) (aCons (c2 opIx (cv 0) (cc (.int 0))) (aCons (cv 1) aNil))) (cCall true 2 (r 20) (aCons (c2 opIx (cv 0) (cc (.int 1))) (aCons (c2 (opAdd false) (cv 1) (cc (.int 1))) aNil)))) (cCl mkT (aCons (cCl mkT (aCons (cc (.str [106, 111, 105, 110])) (aCons (cv 1) (aCons (cv 1) (aCons (c2 (opAdd false) (cv 1) (cc (.int 1))) aNil))))) aNil))))))
/-- _law_numbers -/
def c_21 (r : Nat → Fn) : Cs := (sRet (cIf (cT (cIsi .tup (cv 0))) (cCl mkT (aCons (cCall true 1 (r 19) (aCons (cv 0) aNil)) (aCons (cCall true 1 (r 21) (aCons (c2 opIx (cv 0) (cc (.int 0))) aNil)) (aCons (cCall true 1 (r 21) (aCons (c2 opIx (cv 0) (cc (.int 1))) aNil)) aNil)))) (cc (.int 1))))
def c_22_0 (r : Nat → Fn) : Cs := (sSet (cIf (bC (opEq false) (c2 opIx (cv 3) (cc (.int 0))) (cc (.str [108, 111, 97, 100]))) (c2 opIx (cv 3) (cc (.int 2))) (cCl mkT (aCons (c2 opIx (cv 2) (c2 opIx (cv 3) (cc (.int 2)))) (aCons (c2 opIx (cv 2) (c2 opIx (cv 3) (cc (.int 3)))) aNil)))) (cv 2) (c2 opIx (cv 3) (cc (.int 1))))
/-- _law_run -/
def c_22 (r : Nat → Fn) : Cs := (sSeq (sAsg (c2 (opMul true) (cCl mkM (aCons (cc .non) aNil)) (cv 0)) (tN 2))
    (sSeq (sFor (cIt (cv 1)) (yN (tN 3))
    (c_22_0 r))
    (sRet (cCl biTuple (aCons (cv 2) aNil)))))
def c_23_0 (r : Nat → Fn) : Cs := (sSeq (sIf (cT (cIsi .tup (c2 opIx (cv 1) (cv 2))))
    (sExpr (cLm mExtend (cv 1) (aCons (cLc false [3] (cIt (c2 opIx (cv 1) (cv 2))) (yN (tN 3)) (bC (opIn true) (cv 3) (cv 1)) (cv 3)) aNil)))
    sNx)
    (sAsg (c2 (opAdd false) (cv 2) (cc (.int 1))) (tN 2)))
/-- _law_parts -/
def c_23 (r : Nat → Fn) : Cs := (sSeq (sAsg (cCl mkM (aCons (cv 0) aNil)) (tN 1))
    (sSeq (sAsg (cc (.int 0)) (tN 2))
    (sSeq (sWhile 100000 (bC opLt (cv 2) (cCl biLen (aCons (cv 1) aNil)))
    (c_23_0 r))
    (sRet (cv 1)))))
def c_24_0 (r : Nat → Fn) : Cs := (sSeq (sAsg (cCl biTuple (aCons (cCl (biSort false) (aCons (c2 (opAdd false) (cv 13) (cCl mkT (aCons (cv 9) aNil))) aNil)) aNil)) (tN 14))
    (sIf (bC (opDin true) (cv 14) (cv 6))
    (sSeq (sDSet (cc (.bl true)) (cv 6) (cv 14))
    (sExpr (cLm mAppend (cv 5) (aCons (cv 14) aNil))))
    sNx))
def c_24_1 (r : Nat → Fn) : Cs := (sSeq (sAsg (c2 (opAdd false) (cLc false [10] (cR1 (aCons (cCl biLen (aCons (cv 8) aNil)) aNil)) (yN (tN 10)) bYes (c2 (opAdd false) (cSl false (cv 8) oN (oS (cv 10))) (cSl false (cv 8) (oS (c2 (opAdd false) (cv 10) (cc (.int 1)))) oN))) (cIf (bC opLt (cCl biLen (aCons (cv 8) aNil)) (cv 1)) (cCl mkL (aCons (cv 8) aNil)) (cCl mkL aNil))) (tN 12))
    (sFor (cIt (cv 12)) (yN (tN 13))
    (c_24_0 r)))
def c_24_2 (r : Nat → Fn) : Cs := (sSeq (sAsg (c2 opIx (cv 5) (cv 7)) (tN 8))
    (sSeq (sAsg (c2 (opAdd false) (cv 7) (cc (.int 1))) (tN 7))
    (sSeq (sIf (bC (opIn false) (cc (.int 0)) (cv 8))
    (sRet (cc (.bl true)))
    sNx)
    (sFor (cIt (cLc false [10] (cR1 (aCons (cCl biLen (aCons (cv 3) aNil)) aNil)) (yN (tN 10)) (bAnd (bC (opIn true) (cv 10) (cv 8)) (bNot (cT (cLc false [11] (cIt (c2 opIx (cv 3) (cv 10))) (yN (tN 11)) (bC (opIn true) (cv 11) (cv 8)) (cv 11))))) (cv 10))) (yN (tN 9))
    (c_24_1 r)))))
/-- _law_can -/
def c_24 (r : Nat → Fn) : Cs := (sSeq (sAsg (cCall false 1 (r 23) (aCons (cv 0) aNil)) (tN 2))
    (sSeq (sAsg (cLc false [4] (cIt (cv 2)) (yN (tN 4)) bYes (cIf (cT (cIsi .tup (cv 4))) (cCl mkT (aCons (cLm mIndex (cv 2) (aCons (c2 opIx (cv 4) (cc (.int 0))) aNil)) (aCons (cLm mIndex (cv 2) (aCons (c2 opIx (cv 4) (cc (.int 1))) aNil)) aNil))) (cCl mkT aNil))) (tN 3))
    (sSeq (sPar (aCons (cCl mkM (aCons (cCl mkT aNil) aNil)) (aCons (cDisT (cCl mkT aNil) (cc (.bl true))) (aCons (cc (.int 0)) aNil))) (tCns (tN 5) (tCns (tN 6) (tCns (tN 7) Fz.tNil))))
    (sSeq (sWhile 100000 (bC opLt (cv 7) (cCl biLen (aCons (cv 5) aNil)))
    (c_24_2 r))
    (sRet (cc (.bl false)))))))
/-- _law_unlike -/
def c_25 (r : Nat → Fn) : Cs := (sSeq (sIf (cT (cIsi .tup (cv 1)))
    (sRet (cCl mkT (aCons (cCall false 2 (r 25) (aCons (cv 0) (aCons (c2 opIx (cv 1) (cc (.int 0))) aNil))) (aCons (cCall false 2 (r 25) (aCons (cv 0) (aCons (c2 opIx (cv 1) (cc (.int 1))) aNil))) aNil))))
    sNx)
    (sSeq (sSet (c2 (opAdd false) (c2 opIx (cv 0) (cc (.int 4))) (cc (.int 1))) (cv 0) (cc (.int 4)))
    (sRet (c2 opIx (cv 0) (cc (.int 4))))))
def c_26_0 (r : Nat → Fn) : Cs := (sSeq (sAsg (cIf (bC opLt (cv 2) (cc (.int 3))) (cCall false 3 (r 18) (aCons (cv 1) (aCons (cCall false 2 (r 16) (aCons (cv 1) (aCons (cCl mkL (aCons (cc (.int 0)) (aCons (cc (.int 1)) (aCons (cc (.int 2)) (aCons (cc (.int 4)) (aCons (cc (.int 12)) aNil)))))) aNil))) (aCons (cc (.bl false)) aNil)))) (cCall false 3 (r 18) (aCons (cv 1) (aCons (cCall false 2 (r 15) (aCons (cv 1) (aCons (cc (.int 5)) aNil))) (aCons (cc (.bl true)) aNil))))) (tN 3))
    (sSeq (sPar (aCons (cCall true 1 (r 19) (aCons (cv 3) aNil)) (aCons (cCall true 2 (r 20) (aCons (cv 3) (aCons (cc (.int 0)) aNil))) aNil)) (tCns (tN 4) (tCns (tN 5) Fz.tNil)))
    (sSeq (sIf (bNot (cT (cCall true 2 (r 17) (aCons (cCl mkL (aCons (cCall true 1 (r 4) (aCons (cv 3) aNil)) (aCons (cCall true 1 (r 10) (aCons (cv 3) aNil)) (aCons (cCall true 1 (r 6) (aCons (cv 3) aNil)) aNil)))) (aCons (cCl mkL (aCons (cv 4) (aCons (cCall true 1 (r 21) (aCons (cv 3) aNil)) (aCons (cv 5) aNil)))) aNil)))))
    (sRet (cc (.bl false)))
    sNx)
    (sSeq (sAsg (cCall true 2 (r 7) (aCons (cv 4) (aCons (cv 5) aNil))) (tN 6))
    (sSeq (sIf (bOr (bNot (cT (cCall true 2 (r 17) (aCons (cv 6) (aCons (cCall true 2 (r 22) (aCons (cv 4) (aCons (cv 5) aNil))) aNil))))) (bOr (bC (opEq true) (c2 opIx (cv 6) (cc (.int 0))) (cv 3)) (bC opGt (cCl biLen (aCons (cLc false [7] (cIt (cv 5)) (yN (tN 7)) (bC opGe (cCl biMaxD (aCons (cIf (bC (opEq false) (c2 opIx (cv 7) (cc (.int 0))) (cc (.str [106, 111, 105, 110]))) (c2 (opAdd false) (cSl false (cv 7) (oS (cc (.int 1))) (oS (cc (.int 2)))) (cSl false (cv 7) (oS (cc (.int 2))) oN)) (cSl false (cv 7) (oS (cc (.int 1))) (oS (cc (.int 2))))) aNil)) (cv 4)) (cv 7)) aNil)) (cc (.int 0)))))
    (sRet (cc (.bl false)))
    sNx)
    (sIf (bOr (bC (opNone true) (cCall true 3 (r 9) (aCons (cv 3) (aCons (cv 4) (aCons (cv 5) aNil)))) (cc .non)) (bC (opNone true) (cCall true 2 (r 12) (aCons (cv 3) (aCons (cCall true 1 (r 10) (aCons (cv 3) aNil)) aNil))) (cc .non)))
    (sRet (cc (.bl false)))
    sNx))))))
/-- law -/
def c_26 (r : Nat → Fn) : Cs := (sSeq (sAsg (cCall false 1 (r 14) (aCons (cv 0) aNil)) (tN 1))
    (sSeq (sFor (cR1 (aCons (cc (.int 4)) aNil)) (yN (tN 2))
    (c_26_0 r))
    (sSeq (sExpr (cLm mAppend (cv 1) (aCons (cc (.int 0)) aNil)))
    (sSeq (sAsg (cCall false 2 (r 25) (aCons (cv 1) (aCons (cCall false 3 (r 18) (aCons (cv 1) (aCons (cCall false 2 (r 16) (aCons (cv 1) (aCons (cCl mkL (aCons (cc (.int 2)) (aCons (cc (.int 2)) (aCons (cc (.int 3)) aNil)))) aNil))) (aCons (cc (.bl false)) aNil)))) aNil))) (tN 3))
    (sSeq (sAsg (cCall true 1 (r 4) (aCons (cv 3) aNil)) (tN 4))
    (sRet (cIf (bC opGt (cv 4) (cc (.int 1))) (cAnd (cNot (cCall true 2 (r 24) (aCons (cv 3) (aCons (c2 opSub (cv 4) (cc (.int 1))) aNil)))) (cCall true 2 (r 24) (aCons (cv 3) (aCons (cv 4) aNil)))) (cc (.bl true)))))))))
def step (r : Nat → Fn) : Nat → Fn
  | 0 => mkFn 1 1 (c_0 r)
  | 1 => mkFn 2 2 (c_1 r)
  | 2 => mkFn 1 1 (c_2 r)
  | 3 => mkFn 1 3 (c_3 r)
  | 4 => mkFn 1 1 (c_4 r)
  | 5 => mkFn 2 5 (c_5 r)
  | 6 => mkFn 1 1 (c_6 r)
  | 7 => mkFn 2 3 (c_7 r)
  | 8 => mkFn 2 6 (c_8 r)
  | 9 => mkFn 3 4 (c_9 r)
  | 10 => mkFn 1 1 (c_10 r)
  | 11 => mkFn 1 1 (c_11 r)
  | 12 => mkFn 2 2 (c_12 r)
  | 13 => mkFn 2 5 (c_13 r)
  | 14 => mkFn 1 3 (c_14 r)
  | 15 => mkFn 2 3 (c_15 r)
  | 16 => mkFn 2 2 (c_16 r)
  | 17 => mkFn 2 2 (c_17 r)
  | 18 => mkFn 3 5 (c_18 r)
  | 19 => mkFn 1 3 (c_19 r)
  | 20 => mkFn 2 2 (c_20 r)
  | 21 => mkFn 1 1 (c_21 r)
  | 22 => mkFn 2 4 (c_22 r)
  | 23 => mkFn 1 4 (c_23 r)
  | 24 => mkFn 2 15 (c_24 r)
  | 25 => mkFn 2 2 (c_25 r)
  | 26 => mkFn 1 8 (c_26 r)
  | _ => fun _ _ => .no
/-- the defs, k calls deep -/
def run : Nat → Nat → Fn
  | 0 => fun _ _ _ => .no
  | k + 1 => step (run k)
theorem run_0 (k : Nat) : run (k + 1) 0 = mkFn 1 1 (c_0 (run k)) := rfl
theorem run_1 (k : Nat) : run (k + 1) 1 = mkFn 2 2 (c_1 (run k)) := rfl
theorem run_2 (k : Nat) : run (k + 1) 2 = mkFn 1 1 (c_2 (run k)) := rfl
theorem run_3 (k : Nat) : run (k + 1) 3 = mkFn 1 3 (c_3 (run k)) := rfl
theorem run_4 (k : Nat) : run (k + 1) 4 = mkFn 1 1 (c_4 (run k)) := rfl
theorem run_5 (k : Nat) : run (k + 1) 5 = mkFn 2 5 (c_5 (run k)) := rfl
theorem run_6 (k : Nat) : run (k + 1) 6 = mkFn 1 1 (c_6 (run k)) := rfl
theorem run_7 (k : Nat) : run (k + 1) 7 = mkFn 2 3 (c_7 (run k)) := rfl
theorem run_8 (k : Nat) : run (k + 1) 8 = mkFn 2 6 (c_8 (run k)) := rfl
theorem run_9 (k : Nat) : run (k + 1) 9 = mkFn 3 4 (c_9 (run k)) := rfl
theorem run_10 (k : Nat) : run (k + 1) 10 = mkFn 1 1 (c_10 (run k)) := rfl
theorem run_11 (k : Nat) : run (k + 1) 11 = mkFn 1 1 (c_11 (run k)) := rfl
theorem run_12 (k : Nat) : run (k + 1) 12 = mkFn 2 2 (c_12 (run k)) := rfl
theorem run_13 (k : Nat) : run (k + 1) 13 = mkFn 2 5 (c_13 (run k)) := rfl
theorem run_14 (k : Nat) : run (k + 1) 14 = mkFn 1 3 (c_14 (run k)) := rfl
theorem run_15 (k : Nat) : run (k + 1) 15 = mkFn 2 3 (c_15 (run k)) := rfl
theorem run_16 (k : Nat) : run (k + 1) 16 = mkFn 2 2 (c_16 (run k)) := rfl
theorem run_17 (k : Nat) : run (k + 1) 17 = mkFn 2 2 (c_17 (run k)) := rfl
theorem run_18 (k : Nat) : run (k + 1) 18 = mkFn 3 5 (c_18 (run k)) := rfl
theorem run_19 (k : Nat) : run (k + 1) 19 = mkFn 1 3 (c_19 (run k)) := rfl
theorem run_20 (k : Nat) : run (k + 1) 20 = mkFn 2 2 (c_20 (run k)) := rfl
theorem run_21 (k : Nat) : run (k + 1) 21 = mkFn 1 1 (c_21 (run k)) := rfl
theorem run_22 (k : Nat) : run (k + 1) 22 = mkFn 2 4 (c_22 (run k)) := rfl
theorem run_23 (k : Nat) : run (k + 1) 23 = mkFn 1 4 (c_23 (run k)) := rfl
theorem run_24 (k : Nat) : run (k + 1) 24 = mkFn 2 15 (c_24 (run k)) := rfl
theorem run_25 (k : Nat) : run (k + 1) 25 = mkFn 2 2 (c_25 (run k)) := rfl
theorem run_26 (k : Nat) : run (k + 1) 26 = mkFn 1 8 (c_26 (run k)) := rfl
/-! ### the text -/
structure Ad where
  f0 : Addr
  d0 : FuncData
  f1 : Addr
  d1 : FuncData
  f2 : Addr
  d2 : FuncData
  f3 : Addr
  d3 : FuncData
  f4 : Addr
  d4 : FuncData
  f5 : Addr
  d5 : FuncData
  f6 : Addr
  d6 : FuncData
  f7 : Addr
  d7 : FuncData
  f8 : Addr
  d8 : FuncData
  f9 : Addr
  d9 : FuncData
  f10 : Addr
  d10 : FuncData
  f11 : Addr
  d11 : FuncData
  f12 : Addr
  d12 : FuncData
  f13 : Addr
  d13 : FuncData
  f14 : Addr
  d14 : FuncData
  f15 : Addr
  d15 : FuncData
  f16 : Addr
  d16 : FuncData
  f17 : Addr
  d17 : FuncData
  f18 : Addr
  d18 : FuncData
  f19 : Addr
  d19 : FuncData
  f20 : Addr
  d20 : FuncData
  f21 : Addr
  d21 : FuncData
  f22 : Addr
  d22 : FuncData
  f23 : Addr
  d23 : FuncData
  f24 : Addr
  d24 : FuncData
  f25 : Addr
  d25 : FuncData
  f26 : Addr
  d26 : FuncData
structure Tx (K : PySem.W.Frag) (mg : Str → Option Value) (a : Ad) : Prop where
  i_0 : Inf K mg "is_integer" a.f0 a.d0 ["value"]
  u_0 : Fun K "is_integer" "is_integer" (top 5) a.f0 a.d0
  i_1 : Inf K mg "is_tree" a.f1 a.d1 ["value", "depth"]
  u_1 : Fun K "is_tree" "is_tree" (top 9) a.f1 a.d1
  i_2 : Inf K mg "check_tree" a.f2 a.d2 ["tree"]
  u_2 : Fun K "check_tree" "check_tree" (top 10) a.f2 a.d2
  i_3 : Inf K mg "needed_of" a.f3 a.d3 ["tree"]
  u_3 : Fun K "needed_of" "needed_of" (top 11) a.f3 a.d3
  i_4 : Inf K mg "needed" a.f4 a.d4 ["tree"]
  u_4 : Fun K "needed" "needed" (top 12) a.f4 a.d4
  i_5 : Inf K mg "worked" a.f5 a.d5 ["tree", "free"]
  u_5 : Fun K "worked" "worked" (top 13) a.f5 a.d5
  i_6 : Inf K mg "deeds_for" a.f6 a.d6 ["tree"]
  u_6 : Fun K "deeds_for" "deeds_for" (top 14) a.f6 a.d6
  i_7 : Inf K mg "run_deeds" a.f7 a.d7 ["many", "deeds"]
  u_7 : Fun K "run_deeds" "run_deeds" (top 15) a.f7 a.d7
  i_8 : Inf K mg "run_of" a.f8 a.d8 ["many", "deeds"]
  u_8 : Fun K "run_of" "run_of" (top 16) a.f8 a.d8
  i_9 : Inf K mg "accept_deeds" a.f9 a.d9 ["tree", "many", "deeds"]
  u_9 : Fun K "accept_deeds" "accept_deeds" (top 17) a.f9 a.d9
  i_10 : Inf K mg "numbered" a.f10 a.d10 ["tree"]
  u_10 : Fun K "numbered" "numbered" (top 18) a.f10 a.d10
  i_11 : Inf K mg "numbers_of" a.f11 a.d11 ["tree"]
  u_11 : Fun K "numbers_of" "numbers_of" (top 19) a.f11 a.d11
  i_12 : Inf K mg "accept_numbers" a.f12 a.d12 ["tree", "numbers"]
  u_12 : Fun K "accept_numbers" "accept_numbers" (top 20) a.f12 a.d12
  i_13 : Inf K mg "are_numbers" a.f13 a.d13 ["tree", "numbers"]
  u_13 : Fun K "are_numbers" "are_numbers" (top 21) a.f13 a.d13
  i_14 : Inf K mg "_law_start" a.f14 a.d14 ["script"]
  u_14 : Fun K "_law_start" "_law_start" (top 23) a.f14 a.d14
  i_15 : Inf K mg "_law_draw" a.f15 a.d15 ["state", "many"]
  u_15 : Fun K "_law_draw" "_law_draw" (top 24) a.f15 a.d15
  i_16 : Inf K mg "_law_pick" a.f16 a.d16 ["state", "some"]
  u_16 : Fun K "_law_pick" "_law_pick" (top 25) a.f16 a.d16
  i_17 : Inf K mg "_law_same" a.f17 a.d17 ["actual", "due"]
  u_17 : Fun K "_law_same" "_law_same" (top 26) a.f17 a.d17
  i_18 : Inf K mg "_law_tree" a.f18 a.d18 ["state", "depth", "full"]
  u_18 : Fun K "_law_tree" "_law_tree" (top 27) a.f18 a.d18
  i_19 : Inf K mg "_law_need" a.f19 a.d19 ["tree"]
  u_19 : Fun K "_law_need" "_law_need" (top 28) a.f19 a.d19
  i_20 : Inf K mg "_law_deeds" a.f20 a.d20 ["tree", "first"]
  u_20 : Fun K "_law_deeds" "_law_deeds" (top 29) a.f20 a.d20
  i_21 : Inf K mg "_law_numbers" a.f21 a.d21 ["tree"]
  u_21 : Fun K "_law_numbers" "_law_numbers" (top 30) a.f21 a.d21
  i_22 : Inf K mg "_law_run" a.f22 a.d22 ["many", "deeds"]
  u_22 : Fun K "_law_run" "_law_run" (top 32) a.f22 a.d22
  i_23 : Inf K mg "_law_parts" a.f23 a.d23 ["tree"]
  u_23 : Fun K "_law_parts" "_law_parts" (top 33) a.f23 a.d23
  i_24 : Inf K mg "_law_can" a.f24 a.d24 ["tree", "many"]
  u_24 : Fun K "_law_can" "_law_can" (top 34) a.f24 a.d24
  i_25 : Inf K mg "_law_unlike" a.f25 a.d25 ["state", "tree"]
  u_25 : Fun K "_law_unlike" "_law_unlike" (top 35) a.f25 a.d25
  i_26 : Inf K mg "law" a.f26 a.d26 ["script"]
  u_26 : Fun K "law" "law" (top 36) a.f26 a.d26
  z_abs : mg "abs" = none
  z_all : mg "all" = none
  z_bool : mg "bool" = none
  z_int : mg "int" = none
  z_isinstance : mg "isinstance" = none
  z_len : mg "len" = none
  z_list : mg "list" = none
  z_max : mg "max" = none
  z_range : mg "range" = none
  z_repr : mg "repr" = none
  z_sorted : mg "sorted" = none
  z_tuple : mg "tuple" = none
  c_MAX_DEPTH : ∃ t, mg "MAX_DEPTH" = some (.int 12 t)
  c_MAX_SPANS : ∃ t, mg "MAX_SPANS" = some (.int 60 t)
structure Al (P : Program) (w : World) (K : PySem.W.Frag) (mg : Str → Option Value) (base : Heap) (T : Tb) (a : Ad) (k : Nat) : Prop where
  g_0 : FnG P w K mg base (2 * k) a.f0 a.d0 ["value"] (spF K T 1 (run k 0))
  g_1 : FnG P w K mg base (2 * k) a.f1 a.d1 ["value", "depth"] (spF K T 2 (run k 1))
  g_2 : FnG P w K mg base (2 * k) a.f2 a.d2 ["tree"] (spF K T 1 (run k 2))
  g_3 : FnG P w K mg base (2 * k) a.f3 a.d3 ["tree"] (spF K T 1 (run k 3))
  g_4 : FnG P w K mg base (2 * k) a.f4 a.d4 ["tree"] (spF K T 1 (run k 4))
  g_5 : FnG P w K mg base (2 * k) a.f5 a.d5 ["tree", "free"] (spF K T 2 (run k 5))
  g_6 : FnG P w K mg base (2 * k) a.f6 a.d6 ["tree"] (spF K T 1 (run k 6))
  g_7 : FnG P w K mg base (2 * k) a.f7 a.d7 ["many", "deeds"] (spF K T 2 (run k 7))
  g_8 : FnG P w K mg base (2 * k) a.f8 a.d8 ["many", "deeds"] (spF K T 2 (run k 8))
  g_9 : FnG P w K mg base (2 * k) a.f9 a.d9 ["tree", "many", "deeds"] (spF K T 3 (run k 9))
  g_10 : FnG P w K mg base (2 * k) a.f10 a.d10 ["tree"] (spF K T 1 (run k 10))
  g_11 : FnG P w K mg base (2 * k) a.f11 a.d11 ["tree"] (spF K T 1 (run k 11))
  g_12 : FnG P w K mg base (2 * k) a.f12 a.d12 ["tree", "numbers"] (spF K T 2 (run k 12))
  g_13 : FnG P w K mg base (2 * k) a.f13 a.d13 ["tree", "numbers"] (spF K T 2 (run k 13))
  g_14 : FnG P w K mg base (2 * k) a.f14 a.d14 ["script"] (spF K T 1 (run k 14))
  g_15 : FnG P w K mg base (2 * k) a.f15 a.d15 ["state", "many"] (spF K T 2 (run k 15))
  g_16 : FnG P w K mg base (2 * k) a.f16 a.d16 ["state", "some"] (spF K T 2 (run k 16))
  g_17 : FnG P w K mg base (2 * k) a.f17 a.d17 ["actual", "due"] (spF K T 2 (run k 17))
  g_18 : FnG P w K mg base (2 * k) a.f18 a.d18 ["state", "depth", "full"] (spF K T 3 (run k 18))
  g_19 : FnG P w K mg base (2 * k) a.f19 a.d19 ["tree"] (spF K T 1 (run k 19))
  g_20 : FnG P w K mg base (2 * k) a.f20 a.d20 ["tree", "first"] (spF K T 2 (run k 20))
  g_21 : FnG P w K mg base (2 * k) a.f21 a.d21 ["tree"] (spF K T 1 (run k 21))
  g_22 : FnG P w K mg base (2 * k) a.f22 a.d22 ["many", "deeds"] (spF K T 2 (run k 22))
  g_23 : FnG P w K mg base (2 * k) a.f23 a.d23 ["tree"] (spF K T 1 (run k 23))
  g_24 : FnG P w K mg base (2 * k) a.f24 a.d24 ["tree", "many"] (spF K T 2 (run k 24))
  g_25 : FnG P w K mg base (2 * k) a.f25 a.d25 ["state", "tree"] (spF K T 2 (run k 25))
  g_26 : FnG P w K mg base (2 * k) a.f26 a.d26 ["script"] (spF K T 1 (run k 26))
section
variable {P : Program} {w : World} {K : PySem.W.Frag} {mg : Str → Option Value} {base : Heap} {T : Tb} {a : Ad} {k : Nat}
theorem sc_0 : FnScope ["value"] ["value"] (defScope (top 5)) := ⟨rfl, rfl, rfl, by decide +kernel, rfl, by decide +kernel, by decide +kernel⟩
/-- is_integer -/
theorem ok_0 (Z : Tx K mg a) (Q : Al P w K mg base T a k) : FnG P w K mg base (2 * (k + 1)) a.f0 a.d0 ["value"] (spF K T 1 (run (k + 1) 0)) := by
  refine fn_of' (k := 2 * k + 1) (code := c_0 (run k)) Z.u_0 sc_0 (run_0 k) rfl rfl rfl fun cdv A outer s H E G => ?_
  exact (fss_one (fs_ret (fe_and (e_isi .int Z.z_isinstance Z.z_int (e_v 0)) (fe_one (fe_not (e_isi .bool Z.z_isinstance Z.z_bool (e_v 0)))))))
theorem sc_1 : FnScope ["value", "depth"] ["value", "depth"] (defScope (top 9)) := ⟨rfl, rfl, rfl, by decide +kernel, rfl, by decide +kernel, by decide +kernel⟩
/-- is_tree -/
theorem ok_1 (Z : Tx K mg a) (Q : Al P w K mg base T a k) : FnG P w K mg base (2 * (k + 1)) a.f1 a.d1 ["value", "depth"] (spF K T 2 (run (k + 1) 1)) := by
  refine fn_of' (k := 2 * k + 1) (code := c_1 (run k)) Z.u_1 sc_1 (run_1 k) rfl rfl rfl fun cdv A outer s H E G => ?_
  exact (fss_cons (fs_if (t_tru (e_call true G Q.g_0 Z.i_0 (a_cons (e_v 0) fa_nil)))
    (fss_one (fs_ret e_bl))
    fss_nil)
    (fss_cons (fs_if (ft_w (fw_or (ft_not (t_tru (e_isi .tup Z.z_isinstance Z.z_tuple (e_v 0)))) (fw_or (t_cmp (k_ne G) (e_bi u_len Z.z_len (a_cons (e_v 0) fa_nil)) e_int) (fw_1 (t_cmp (k_eq G) (e_v 1) e_int)))))
    (fss_one (fs_ret e_bl))
    fss_nil)
    (fss_one (fs_ret (fe_and (e_call true G Q.g_1 Z.i_1 (a_cons (e_ix (e_v 0) e_int) (a_cons (e_sub (e_v 1) e_int) fa_nil))) (fe_one (e_call true G Q.g_1 Z.i_1 (a_cons (e_ix (e_v 0) e_int) (a_cons (e_sub (e_v 1) e_int) fa_nil)))))))))
theorem sc_2 : FnScope ["tree"] ["tree"] (defScope (top 10)) := ⟨rfl, rfl, rfl, by decide +kernel, rfl, by decide +kernel, by decide +kernel⟩
/-- check_tree -/
theorem ok_2 (Z : Tx K mg a) (Q : Al P w K mg base T a k) : FnG P w K mg base (2 * (k + 1)) a.f2 a.d2 ["tree"] (spF K T 1 (run (k + 1) 2)) := by
  refine fn_of' (k := 2 * k + 1) (code := c_2 (run k)) Z.u_2 sc_2 (run_2 k) rfl rfl rfl fun cdv A outer s H E G => ?_
  exact (fss_one (fs_if (ft_not (t_tru (e_call true G Q.g_1 Z.i_1 (a_cons (e_v 0) (a_cons (e_gi 12 Z.c_MAX_DEPTH) fa_nil)))))
    (fss_one fs_never)
    fss_nil))
theorem sc_3 : FnScope ["tree", "one", "other"] ["tree"] (defScope (top 11)) := ⟨rfl, rfl, rfl, by decide +kernel, rfl, by decide +kernel, by decide +kernel⟩
/-- needed_of -/
theorem ok_3 (Z : Tx K mg a) (Q : Al P w K mg base T a k) : FnG P w K mg base (2 * (k + 1)) a.f3 a.d3 ["tree"] (spF K T 1 (run (k + 1) 3)) := by
  refine fn_of' (k := 2 * k + 1) (code := c_3 (run k)) Z.u_3 sc_3 (run_3 k) rfl rfl rfl fun cdv A outer s H E G => ?_
  exact (fss_cons (fs_if (ft_not (t_tru (e_isi .tup Z.z_isinstance Z.z_tuple (e_v 0))))
    (fss_one (fs_ret e_int))
    fss_nil)
    (fss_cons (s_par2 1 2 G (a_cons (e_call true G Q.g_3 Z.i_3 (a_cons (e_ix (e_v 0) e_int) fa_nil)) (a_cons (e_call true G Q.g_3 Z.i_3 (a_cons (e_ix (e_v 0) e_int) fa_nil)) fa_nil)))
    (fss_one (fs_ret (fe_if (t_cmp (k_eq G) (e_v 1) (e_v 2)) (e_add false (e_v 1) e_int) (e_bi (u_max2 G) Z.z_max (a_cons (e_v 1) (a_cons (e_v 2) fa_nil))))))))
theorem sc_4 : FnScope ["tree"] ["tree"] (defScope (top 12)) := ⟨rfl, rfl, rfl, by decide +kernel, rfl, by decide +kernel, by decide +kernel⟩
/-- needed -/
theorem ok_4 (Z : Tx K mg a) (Q : Al P w K mg base T a k) : FnG P w K mg base (2 * (k + 1)) a.f4 a.d4 ["tree"] (spF K T 1 (run (k + 1) 4)) := by
  refine fn_of' (k := 2 * k + 1) (code := c_4 (run k)) Z.u_4 sc_4 (run_4 k) rfl rfl rfl fun cdv A outer s H E G => ?_
  exact (fss_cons (s_expr (e_call true G Q.g_2 Z.i_2 (a_cons (e_v 0) fa_nil)))
    (fss_one (fs_ret (e_call true G Q.g_3 Z.i_3 (a_cons (e_v 0) fa_nil)))))
theorem sc_5 : FnScope ["tree", "free", "first", "second", "rows"] ["tree", "free"] (defScope (top 13)) := ⟨rfl, rfl, rfl, by decide +kernel, rfl, by decide +kernel, by decide +kernel⟩
/-- worked -/
theorem ok_5 (Z : Tx K mg a) (Q : Al P w K mg base T a k) : FnG P w K mg base (2 * (k + 1)) a.f5 a.d5 ["tree", "free"] (spF K T 2 (run (k + 1) 5)) := by
  refine fn_of' (k := 2 * k + 1) (code := c_5 (run k)) Z.u_5 sc_5 (run_5 k) rfl rfl rfl fun cdv A outer s H E G => ?_
  exact (fss_cons (fs_if (ft_not (t_tru (e_isi .tup Z.z_isinstance Z.z_tuple (e_v 0))))
    (fss_one (fs_ret (fe_lst (a_cons (fe_tup (a_cons (e_str [108, 111, 97, 100] (by decide +kernel) (by decide)) (a_cons (e_ix (e_v 1) e_int) (a_cons (e_v 0) fa_nil)))) fa_nil))))
    fss_nil)
    (fss_cons (s_asg (e_v 0) (g_t G (len_cns (len_cns len_nil)) (gs_cons (g_n 2 G) (gs_cons (g_n 3 G) fgs_nil))))
    (fss_cons (fs_if (t_cmp (k_ge) (e_call true G Q.g_3 Z.i_3 (a_cons (e_v 2) fa_nil)) (e_call true G Q.g_3 Z.i_3 (a_cons (e_v 3) fa_nil)))
    (fss_cons (s_set 4 G (e_add false (e_call true G Q.g_5 Z.i_5 (a_cons (e_v 2) (a_cons (e_v 1) fa_nil))) (e_call true G Q.g_5 Z.i_5 (a_cons (e_v 3) (a_cons (fe_sl (m := false) (e_v 1) (fo_s e_int) fo_n) fa_nil)))))
    (fss_one (fs_ret (e_add false (e_v 4) (fe_lst (a_cons (fe_tup (a_cons (e_str [106, 111, 105, 110] (by decide +kernel) (by decide)) (a_cons (e_ix (e_v 1) e_int) (a_cons (e_ix (e_v 1) e_int) (a_cons (e_ix (e_v 1) e_int) fa_nil))))) fa_nil))))))
    fss_nil)
    (fss_cons (s_set 4 G (e_add false (e_call true G Q.g_5 Z.i_5 (a_cons (e_v 3) (a_cons (e_v 1) fa_nil))) (e_call true G Q.g_5 Z.i_5 (a_cons (e_v 2) (a_cons (fe_sl (m := false) (e_v 1) (fo_s e_int) fo_n) fa_nil)))))
    (fss_one (fs_ret (e_add false (e_v 4) (fe_lst (a_cons (fe_tup (a_cons (e_str [106, 111, 105, 110] (by decide +kernel) (by decide)) (a_cons (e_ix (e_v 1) e_int) (a_cons (e_ix (e_v 1) e_int) (a_cons (e_ix (e_v 1) e_int) fa_nil))))) fa_nil)))))))))
theorem sc_6 : FnScope ["tree"] ["tree"] (defScope (top 14)) := ⟨rfl, rfl, rfl, by decide +kernel, rfl, by decide +kernel, by decide +kernel⟩
/-- deeds_for -/
theorem ok_6 (Z : Tx K mg a) (Q : Al P w K mg base T a k) : FnG P w K mg base (2 * (k + 1)) a.f6 a.d6 ["tree"] (spF K T 1 (run (k + 1) 6)) := by
  refine fn_of' (k := 2 * k + 1) (code := c_6 (run k)) Z.u_6 sc_6 (run_6 k) rfl rfl rfl fun cdv A outer s H E G => ?_
  exact (fss_cons (s_expr (e_call true G Q.g_2 Z.i_2 (a_cons (e_v 0) fa_nil)))
    (fss_one (fs_ret (e_bi u_tuple Z.z_tuple (a_cons (e_call true G Q.g_5 Z.i_5 (a_cons (e_v 0) (a_cons (e_lr1 false G Z.z_list Z.z_range (e_call true G Q.g_3 Z.i_3 (a_cons (e_v 0) fa_nil))) fa_nil))) fa_nil)))))
theorem sc_7 : FnScope ["many", "deeds", "found"] ["many", "deeds"] (defScope (top 15)) := ⟨rfl, rfl, rfl, by decide +kernel, rfl, by decide +kernel, by decide +kernel⟩
/-- run_deeds -/
theorem ok_7 (Z : Tx K mg a) (Q : Al P w K mg base T a k) : FnG P w K mg base (2 * (k + 1)) a.f7 a.d7 ["many", "deeds"] (spF K T 2 (run (k + 1) 7)) := by
  refine fn_of' (k := 2 * k + 1) (code := c_7 (run k)) Z.u_7 sc_7 (run_7 k) rfl rfl rfl fun cdv A outer s H E G => ?_
  exact (fss_cons (fs_if (ft_w (fw_or (ft_not (t_tru (e_call true G Q.g_0 Z.i_0 (a_cons (e_v 0) fa_nil)))) (fw_1 (ft_not (t_ch (k_le) (k_le) e_int (e_v 0) (e_gi 60 Z.c_MAX_SPANS))))))
    (fss_one fs_never)
    fss_nil)
    (fss_cons (s_set 2 G (e_call false G Q.g_8 Z.i_8 (a_cons (e_v 0) (a_cons (e_v 1) fa_nil))))
    (fss_cons (fs_if (t_cmp (k_isN) (e_v 2) e_non)
    (fss_one fs_never)
    fss_nil)
    (fss_one (fs_ret (e_bi u_tuple Z.z_tuple (a_cons (e_v 2) fa_nil)))))))
theorem sc_8 : FnScope ["many", "deeds", "found", "deed", "part", "pair"] ["many", "deeds"] (defScope (top 16)) := ⟨rfl, rfl, rfl, by decide +kernel, rfl, by decide +kernel, by decide +kernel⟩
/-- run_of -/
theorem ok_8 (Z : Tx K mg a) (Q : Al P w K mg base T a k) : FnG P w K mg base (2 * (k + 1)) a.f8 a.d8 ["many", "deeds"] (spF K T 2 (run (k + 1) 8)) := by
  refine fn_of' (k := 2 * k + 1) (code := c_8 (run k)) Z.u_8 sc_8 (run_8 k) rfl rfl rfl fun cdv A outer s H E G => ?_
  exact (fss_cons (fs_if (ft_not (t_tru (e_isi .tup Z.z_isinstance Z.z_tuple (e_v 1))))
    (fss_one (fs_ret e_non))
    fss_nil)
    (fss_cons (s_set 2 G (e_mul true (fe_lstM (a_cons e_non fa_nil)) (e_v 0)))
    (fss_cons (s_for G (fi_it (e_v 1)) (fy_n (g_n 3 G))
    (fss_cons (fs_if (ft_w (fw_or (ft_not (t_tru (e_isi .tup Z.z_isinstance Z.z_tuple (e_v 3)))) (fw_or (t_cmp (k_nin G) (e_bi u_len Z.z_len (a_cons (e_v 3) fa_nil)) (fe_tup (a_cons e_int (a_cons e_int fa_nil)))) (fw_1 (ft_not (t_tru (e_bi (u_all G) Z.z_all (a_cons (e_lc false [("part", 4)] G (by rfl) (by decide) (fi_it (fe_sl (m := false) (e_v 3) (fo_s e_int) fo_n)) (fun _ _ _ _ _ G => (fy_n (g_n 4 G))) (fun _ _ _ _ _ G => fts_nil) (fun _ _ _ _ _ G => (e_call true G Q.g_0 Z.i_0 (a_cons (e_v 4) fa_nil)))) fa_nil))))))))
    (fss_one (fs_ret e_non))
    fss_nil)
    (fss_cons (fs_if (ft_not (t_ch (k_le) (k_lt) e_int (e_ix (e_v 3) e_int) (e_v 0)))
    (fss_one (fs_ret e_non))
    fss_nil)
    (fss_one (fs_if (ft_w (fw_and (t_cmp (k_eq G) (e_ix (e_v 3) e_int) (e_str [108, 111, 97, 100] (by decide +kernel) (by decide))) (fw_1 (t_cmp (k_eq G) (e_bi u_len Z.z_len (a_cons (e_v 3) fa_nil)) e_int))))
    (fss_one (s_setL (e_ix (e_v 3) e_int) (e_v 2) (e_ix (e_v 3) e_int)))
    (fss_one (fs_if (ft_w (fw_and (t_cmp (k_eq G) (e_ix (e_v 3) e_int) (e_str [106, 111, 105, 110] (by decide +kernel) (by decide))) (fw_and (t_cmp (k_eq G) (e_bi u_len Z.z_len (a_cons (e_v 3) fa_nil)) e_int) (fw_and (t_ch (k_le) (k_lt) e_int (e_ix (e_v 3) e_int) (e_v 0)) (fw_1 (t_ch (k_le) (k_lt) e_int (e_ix (e_v 3) e_int) (e_v 0)))))))
    (fss_cons (s_set 5 G (fe_tup (a_cons (e_ix (e_v 2) (e_ix (e_v 3) e_int)) (a_cons (e_ix (e_v 2) (e_ix (e_v 3) e_int)) fa_nil))))
    (fss_cons (fs_if (ft_w (fw_or (t_cmp (k_in G) e_non (e_v 5)) (fw_1 (ft_not (t_tru (e_call true G Q.g_1 Z.i_1 (a_cons (e_v 5) (a_cons (e_gi 12 Z.c_MAX_DEPTH) fa_nil))))))))
    (fss_one (fs_ret e_non))
    fss_nil)
    (fss_one (s_setL (e_v 5) (e_v 2) (e_ix (e_v 3) e_int)))))
    (fss_one (fs_ret e_non)))))))))
    (fss_one (fs_ret (e_v 2))))))
theorem sc_9 : FnScope ["tree", "many", "deeds", "found"] ["tree", "many", "deeds"] (defScope (top 17)) := ⟨rfl, rfl, rfl, by decide +kernel, rfl, by decide +kernel, by decide +kernel⟩
/-- accept_deeds -/
theorem ok_9 (Z : Tx K mg a) (Q : Al P w K mg base T a k) : FnG P w K mg base (2 * (k + 1)) a.f9 a.d9 ["tree", "many", "deeds"] (spF K T 3 (run (k + 1) 9)) := by
  refine fn_of' (k := 2 * k + 1) (code := c_9 (run k)) Z.u_9 sc_9 (run_9 k) rfl rfl rfl fun cdv A outer s H E G => ?_
  exact (fss_cons (s_expr (e_call true G Q.g_2 Z.i_2 (a_cons (e_v 0) fa_nil)))
    (fss_cons (fs_if (ft_w (fw_or (ft_not (t_tru (e_call true G Q.g_0 Z.i_0 (a_cons (e_v 1) fa_nil)))) (fw_1 (ft_not (t_ch (k_le) (k_le) e_int (e_v 1) (e_gi 60 Z.c_MAX_SPANS))))))
    (fss_one fs_never)
    fss_nil)
    (fss_cons (s_set 3 G (e_call false G Q.g_8 Z.i_8 (a_cons (e_v 1) (a_cons (e_v 2) fa_nil))))
    (fss_cons (fs_if (t_cmp (k_isN) (e_v 3) e_non)
    (fss_one fs_never)
    fss_nil)
    (fss_one (fs_if (ft_w (fw_or (ft_not (t_tru (e_v 3))) (fw_1 (t_cmp (k_ne G) (e_ix (e_v 3) e_int) (e_v 0)))))
    (fss_one fs_never)
    fss_nil))))))
theorem sc_10 : FnScope ["tree"] ["tree"] (defScope (top 18)) := ⟨rfl, rfl, rfl, by decide +kernel, rfl, by decide +kernel, by decide +kernel⟩
/-- numbered -/
theorem ok_10 (Z : Tx K mg a) (Q : Al P w K mg base T a k) : FnG P w K mg base (2 * (k + 1)) a.f10 a.d10 ["tree"] (spF K T 1 (run (k + 1) 10)) := by
  refine fn_of' (k := 2 * k + 1) (code := c_10 (run k)) Z.u_10 sc_10 (run_10 k) rfl rfl rfl fun cdv A outer s H E G => ?_
  exact (fss_cons (s_expr (e_call true G Q.g_2 Z.i_2 (a_cons (e_v 0) fa_nil)))
    (fss_one (fs_ret (e_call true G Q.g_11 Z.i_11 (a_cons (e_v 0) fa_nil)))))
theorem sc_11 : FnScope ["tree"] ["tree"] (defScope (top 19)) := ⟨rfl, rfl, rfl, by decide +kernel, rfl, by decide +kernel, by decide +kernel⟩
/-- numbers_of -/
theorem ok_11 (Z : Tx K mg a) (Q : Al P w K mg base T a k) : FnG P w K mg base (2 * (k + 1)) a.f11 a.d11 ["tree"] (spF K T 1 (run (k + 1) 11)) := by
  refine fn_of' (k := 2 * k + 1) (code := c_11 (run k)) Z.u_11 sc_11 (run_11 k) rfl rfl rfl fun cdv A outer s H E G => ?_
  exact (fss_cons (fs_if (ft_not (t_tru (e_isi .tup Z.z_isinstance Z.z_tuple (e_v 0))))
    (fss_one (fs_ret e_int))
    fss_nil)
    (fss_one (fs_ret (fe_tup (a_cons (e_call true G Q.g_3 Z.i_3 (a_cons (e_v 0) fa_nil)) (a_cons (e_call true G Q.g_11 Z.i_11 (a_cons (e_ix (e_v 0) e_int) fa_nil)) (a_cons (e_call true G Q.g_11 Z.i_11 (a_cons (e_ix (e_v 0) e_int) fa_nil)) fa_nil)))))))
theorem sc_12 : FnScope ["tree", "numbers"] ["tree", "numbers"] (defScope (top 20)) := ⟨rfl, rfl, rfl, by decide +kernel, rfl, by decide +kernel, by decide +kernel⟩
/-- accept_numbers -/
theorem ok_12 (Z : Tx K mg a) (Q : Al P w K mg base T a k) : FnG P w K mg base (2 * (k + 1)) a.f12 a.d12 ["tree", "numbers"] (spF K T 2 (run (k + 1) 12)) := by
  refine fn_of' (k := 2 * k + 1) (code := c_12 (run k)) Z.u_12 sc_12 (run_12 k) rfl rfl rfl fun cdv A outer s H E G => ?_
  exact (fss_cons (s_expr (e_call true G Q.g_2 Z.i_2 (a_cons (e_v 0) fa_nil)))
    (fss_one (fs_if (ft_not (t_tru (e_call true G Q.g_13 Z.i_13 (a_cons (e_v 0) (a_cons (e_v 1) fa_nil)))))
    (fss_one fs_never)
    fss_nil)))
theorem sc_13 : FnScope ["tree", "numbers", "one", "other", "part"] ["tree", "numbers"] (defScope (top 21)) := ⟨rfl, rfl, rfl, by decide +kernel, rfl, by decide +kernel, by decide +kernel⟩
/-- are_numbers -/
theorem ok_13 (Z : Tx K mg a) (Q : Al P w K mg base T a k) : FnG P w K mg base (2 * (k + 1)) a.f13 a.d13 ["tree", "numbers"] (spF K T 2 (run (k + 1) 13)) := by
  refine fn_of' (k := 2 * k + 1) (code := c_13 (run k)) Z.u_13 sc_13 (run_13 k) rfl rfl rfl fun cdv A outer s H E G => ?_
  exact (fss_cons (fs_if (ft_not (t_tru (e_isi .tup Z.z_isinstance Z.z_tuple (e_v 0))))
    (fss_one (fs_ret (fe_and (e_call true G Q.g_0 Z.i_0 (a_cons (e_v 1) fa_nil)) (fe_one (e_cmp (k_eq G) (e_v 1) e_int)))))
    fss_nil)
    (fss_cons (fs_if (ft_w (fw_or (ft_not (t_tru (e_isi .tup Z.z_isinstance Z.z_tuple (e_v 1)))) (fw_or (t_cmp (k_ne G) (e_bi u_len Z.z_len (a_cons (e_v 1) fa_nil)) e_int) (fw_1 (ft_not (t_tru (e_call true G Q.g_0 Z.i_0 (a_cons (e_ix (e_v 1) e_int) fa_nil))))))))
    (fss_one (fs_ret e_bl))
    fss_nil)
    (fss_cons (fs_if (ft_w (fw_or (ft_not (t_tru (e_call true G Q.g_13 Z.i_13 (a_cons (e_ix (e_v 0) e_int) (a_cons (e_ix (e_v 1) e_int) fa_nil))))) (fw_1 (ft_not (t_tru (e_call true G Q.g_13 Z.i_13 (a_cons (e_ix (e_v 0) e_int) (a_cons (e_ix (e_v 1) e_int) fa_nil))))))))
    (fss_one (fs_ret e_bl))
    fss_nil)
    (fss_cons (s_asg (e_lc false [("part", 4)] G (by rfl) (by decide) (fi_it (fe_sl (m := false) (e_v 1) (fo_s e_int) fo_n)) (fun _ _ _ _ _ G => (fy_n (g_n 4 G))) (fun _ _ _ _ _ G => fts_nil) (fun _ _ _ _ _ G => (fe_if (t_tru (e_call true G Q.g_0 Z.i_0 (a_cons (e_v 4) fa_nil))) (e_v 4) (e_ix (e_v 4) e_int)))) (g_l G (len_cns (len_cns len_nil)) (gs_cons (g_n 2 G) (gs_cons (g_n 3 G) fgs_nil))))
    (fss_one (fs_ret (e_cmp (k_eq G) (e_ix (e_v 1) e_int) (fe_if (t_cmp (k_eq G) (e_v 2) (e_v 3)) (e_add false (e_v 2) e_int) (e_bi (u_max2 G) Z.z_max (a_cons (e_v 2) (a_cons (e_v 3) fa_nil)))))))))))
theorem sc_14 : FnScope ["script", "seed", "cell"] ["script"] (defScope (top 23)) := ⟨rfl, rfl, rfl, by decide +kernel, rfl, by decide +kernel, by decide +kernel⟩
/-- _law_start -/
theorem ok_14 (Z : Tx K mg a) (Q : Al P w K mg base T a k) : FnG P w K mg base (2 * (k + 1)) a.f14 a.d14 ["script"] (spF K T 1 (run (k + 1) 14)) := by
  refine fn_of' (k := 2 * k + 1) (code := c_14 (run k)) Z.u_14 sc_14 (run_14 k) rfl rfl rfl fun cdv A outer s H E G => ?_
  exact (fss_cons (s_set 1 G e_int)
    (fss_cons (s_for G (fi_it (e_v 0)) (fy_n (g_n 2 G))
    (fss_one (s_set 1 G (e_add false (e_mod (e_bi u_int Z.z_int (a_cons (e_add false (e_mul false (e_v 1) e_int) (e_v 2)) fa_nil)) e_int) e_int))))
    (fss_one (fs_ret (fe_lstM (a_cons (e_bi (u_list false) Z.z_list (a_cons (e_v 0) fa_nil)) (a_cons e_int (a_cons e_int (a_cons (e_v 1) fa_nil)))))))))
theorem sc_15 : FnScope ["state", "many", "value"] ["state", "many"] (defScope (top 24)) := ⟨rfl, rfl, rfl, by decide +kernel, rfl, by decide +kernel, by decide +kernel⟩
/-- _law_draw -/
theorem ok_15 (Z : Tx K mg a) (Q : Al P w K mg base T a k) : FnG P w K mg base (2 * (k + 1)) a.f15 a.d15 ["state", "many"] (spF K T 2 (run (k + 1) 15)) := by
  refine fn_of' (k := 2 * k + 1) (code := c_15 (run k)) Z.u_15 sc_15 (run_15 k) rfl rfl rfl fun cdv A outer s H E G => ?_
  exact (fss_cons (fs_if (ft_w (fw_and (t_cmp (k_eq G) (e_ix (e_v 0) e_int) e_int) (fw_1 (t_cmp (k_ge) (e_ix (e_v 0) e_int) (e_bi u_len Z.z_len (a_cons (e_ix (e_v 0) e_int) fa_nil))))))
    (fss_cons (s_setL (e_mod (e_bi u_int Z.z_int (a_cons (e_add false (e_mul false (e_ix (e_v 0) e_int) e_int) e_int) fa_nil)) e_int) (e_v 0) e_int)
    (fss_one (fs_ret (e_mod (e_bi u_int Z.z_int (a_cons (e_fdiv (e_ix (e_v 0) e_int) e_int) fa_nil)) (e_v 1)))))
    fss_nil)
    (fss_cons (fs_if (t_cmp (k_eq G) (e_ix (e_v 0) e_int) e_int)
    (fss_cons (s_setL (e_bi u_abs Z.z_abs (a_cons (e_ix (e_ix (e_v 0) e_int) (e_ix (e_v 0) e_int)) fa_nil)) (e_v 0) e_int)
    (fss_one (s_setL (e_add false (e_ix (e_v 0) e_int) e_int) (e_v 0) e_int)))
    fss_nil)
    (fss_cons (s_set 2 G (e_mod (e_bi u_int Z.z_int (a_cons (e_ix (e_v 0) e_int) fa_nil)) (e_v 1)))
    (fss_cons (s_setL (e_fdiv (e_ix (e_v 0) e_int) (e_v 1)) (e_v 0) e_int)
    (fss_one (fs_ret (e_v 2)))))))
theorem sc_16 : FnScope ["state", "some"] ["state", "some"] (defScope (top 25)) := ⟨rfl, rfl, rfl, by decide +kernel, rfl, by decide +kernel, by decide +kernel⟩
/-- _law_pick -/
theorem ok_16 (Z : Tx K mg a) (Q : Al P w K mg base T a k) : FnG P w K mg base (2 * (k + 1)) a.f16 a.d16 ["state", "some"] (spF K T 2 (run (k + 1) 16)) := by
  refine fn_of' (k := 2 * k + 1) (code := c_16 (run k)) Z.u_16 sc_16 (run_16 k) rfl rfl rfl fun cdv A outer s H E G => ?_
  exact (fss_one (fs_ret (e_ix (e_v 1) (e_call false G Q.g_15 Z.i_15 (a_cons (e_v 0) (a_cons (e_bi u_len Z.z_len (a_cons (e_v 1) fa_nil)) fa_nil))))))
theorem sc_17 : FnScope ["actual", "due"] ["actual", "due"] (defScope (top 26)) := ⟨rfl, rfl, rfl, by decide +kernel, rfl, by decide +kernel, by decide +kernel⟩
/-- _law_same -/
theorem ok_17 (Z : Tx K mg a) (Q : Al P w K mg base T a k) : FnG P w K mg base (2 * (k + 1)) a.f17 a.d17 ["actual", "due"] (spF K T 2 (run (k + 1) 17)) := by
  refine fn_of' (k := 2 * k + 1) (code := c_17 (run k)) Z.u_17 sc_17 (run_17 k) rfl rfl rfl fun cdv A outer s H E G => ?_
  exact (fss_one (fs_ret (fe_same (fe_and (e_cmp (k_eq G) (e_v 0) (e_v 1)) (fe_one (e_cmp k_eqS (e_bi (u_repr G) Z.z_repr (a_cons (e_v 0) fa_nil)) (e_bi (u_repr G) Z.z_repr (a_cons (e_v 1) fa_nil))))))))
theorem sc_18 : FnScope ["state", "depth", "full", "low", "pair"] ["state", "depth", "full"] (defScope (top 27)) := ⟨rfl, rfl, rfl, by decide +kernel, rfl, by decide +kernel, by decide +kernel⟩
/-- _law_tree -/
theorem ok_18 (Z : Tx K mg a) (Q : Al P w K mg base T a k) : FnG P w K mg base (2 * (k + 1)) a.f18 a.d18 ["state", "depth", "full"] (spF K T 3 (run (k + 1) 18)) := by
  refine fn_of' (k := 2 * k + 1) (code := c_18 (run k)) Z.u_18 sc_18 (run_18 k) rfl rfl rfl fun cdv A outer s H E G => ?_
  exact (fss_cons (fs_if (ft_w (fw_or (t_cmp (k_eq G) (e_v 1) e_int) (fw_1 (ft_w (fw_and (ft_not (t_tru (e_v 2))) (fw_1 (t_cmp (k_eq G) (e_call false G Q.g_15 Z.i_15 (a_cons (e_v 0) (a_cons e_int fa_nil))) e_int)))))))
    (fss_one (fs_ret (e_call false G Q.g_16 Z.i_16 (a_cons (e_v 0) (a_cons (fe_lst (a_cons e_int (a_cons e_int (a_cons (e_neg e_int) (a_cons (e_pow e_int e_int) (a_cons (e_call false G Q.g_15 Z.i_15 (a_cons (e_v 0) (a_cons e_int fa_nil))) fa_nil)))))) fa_nil)))))
    fss_nil)
    (fss_cons (s_set 3 G (e_call false G Q.g_16 Z.i_16 (a_cons (e_v 0) (a_cons (fe_lst (a_cons (e_sub (e_v 1) e_int) (a_cons (e_sub (e_v 1) e_int) (a_cons e_int (a_cons (e_call false G Q.g_15 Z.i_15 (a_cons (e_v 0) (a_cons (e_v 1) fa_nil))) fa_nil))))) fa_nil))))
    (fss_cons (s_set 4 G (fe_tup (a_cons (e_call false G Q.g_18 Z.i_18 (a_cons (e_v 0) (a_cons (e_sub (e_v 1) e_int) (a_cons (e_v 2) fa_nil)))) (a_cons (e_call false G Q.g_18 Z.i_18 (a_cons (e_v 0) (a_cons (e_v 3) (a_cons (e_v 2) fa_nil)))) fa_nil))))
    (fss_one (fs_ret (fe_if (t_cmp (k_eq G) (e_call false G Q.g_15 Z.i_15 (a_cons (e_v 0) (a_cons e_int fa_nil))) e_int) (e_v 4) (fe_revT (e_v 4))))))))
theorem sc_19 : FnScope ["tree", "one", "other"] ["tree"] (defScope (top 28)) := ⟨rfl, rfl, rfl, by decide +kernel, rfl, by decide +kernel, by decide +kernel⟩
/-- _law_need -/
theorem ok_19 (Z : Tx K mg a) (Q : Al P w K mg base T a k) : FnG P w K mg base (2 * (k + 1)) a.f19 a.d19 ["tree"] (spF K T 1 (run (k + 1) 19)) := by
  refine fn_of' (k := 2 * k + 1) (code := c_19 (run k)) Z.u_19 sc_19 (run_19 k) rfl rfl rfl fun cdv A outer s H E G => ?_
  exact (fss_cons (fs_if (ft_not (t_tru (e_isi .tup Z.z_isinstance Z.z_tuple (e_v 0))))
    (fss_one (fs_ret e_int))
    fss_nil)
    (fss_cons (s_asg (e_bi (u_sort false G) Z.z_sorted (a_cons (fe_lst (a_cons (e_call true G Q.g_19 Z.i_19 (a_cons (e_ix (e_v 0) e_int) fa_nil)) (a_cons (e_call true G Q.g_19 Z.i_19 (a_cons (e_ix (e_v 0) e_int) fa_nil)) fa_nil))) fa_nil)) (g_l G (len_cns (len_cns len_nil)) (gs_cons (g_n 1 G) (gs_cons (g_n 2 G) fgs_nil))))
    (fss_one (fs_ret (fe_if (t_cmp (k_lt) (e_v 1) (e_v 2)) (e_v 2) (e_add false (e_v 1) e_int))))))
theorem sc_20 : FnScope ["tree", "first"] ["tree", "first"] (defScope (top 29)) := ⟨rfl, rfl, rfl, by decide +kernel, rfl, by decide +kernel, by decide +kernel⟩
/-- _law_deeds -/
theorem ok_20 (Z : Tx K mg a) (Q : Al P w K mg base T a k) : FnG P w K mg base (2 * (k + 1)) a.f20 a.d20 ["tree", "first"] (spF K T 2 (run (k + 1) 20)) := by
  refine fn_of' (k := 2 * k + 1) (code := c_20 (run k)) Z.u_20 sc_20 (run_20 k) rfl rfl rfl fun cdv A outer s H E G => ?_
  exact (fss_cons (fs_if (ft_not (t_tru (e_isi .tup Z.z_isinstance Z.z_tuple (e_v 0))))
    (fss_one (fs_ret (fe_tup (a_cons (fe_tup (a_cons (e_str [108, 111, 97, 100] (by decide +kernel) (by decide)) (a_cons (e_v 1) (a_cons (e_v 0) fa_nil)))) fa_nil))))
    fss_nil)
    (fss_cons (fs_if (t_cmp (k_lt) (e_call true G Q.g_19 Z.i_19 (a_cons (e_ix (e_v 0) e_int) fa_nil)) (e_call true G Q.g_19 Z.i_19 (a_cons (e_ix (e_v 0) e_int) fa_nil)))
    (fss_one (fs_ret (e_add false (e_add false (e_call true G Q.g_20 Z.i_20 (a_cons (e_ix (e_v 0) e_int) (a_cons (e_v 1) fa_nil))) (e_call true G Q.g_20 Z.i_20 (a_cons (e_ix (e_v 0) e_int) (a_cons (e_add false (e_v 1) e_int) fa_nil)))) (fe_tup (a_cons (fe_tup (a_cons (e_str [106, 111, 105, 110] (by decide +kernel) (by decide)) (a_cons (e_v 1) (a_cons (e_add false (e_v 1) e_int) (a_cons (e_v 1) fa_nil))))) fa_nil)))))
    fss_nil)
    (fss_one (fs_ret (e_add false (e_add false (e_call true G Q.g_20 Z.i_20 (a_cons (e_ix (e_v 0) e_int) (a_cons (e_v 1) fa_nil))) (e_call true G Q.g_20 Z.i_20 (a_cons (e_ix (e_v 0) e_int) (a_cons (e_add false (e_v 1) e_int) fa_nil)))) (fe_tup (a_cons (fe_tup (a_cons (e_str [106, 111, 105, 110] (by decide +kernel) (by decide)) (a_cons (e_v 1) (a_cons (e_v 1) (a_cons (e_add false (e_v 1) e_int) fa_nil))))) fa_nil)))))))
theorem sc_21 : FnScope ["tree"] ["tree"] (defScope (top 30)) := ⟨rfl, rfl, rfl, by decide +kernel, rfl, by decide +kernel, by decide +kernel⟩
/-- _law_numbers -/
theorem ok_21 (Z : Tx K mg a) (Q : Al P w K mg base T a k) : FnG P w K mg base (2 * (k + 1)) a.f21 a.d21 ["tree"] (spF K T 1 (run (k + 1) 21)) := by
  refine fn_of' (k := 2 * k + 1) (code := c_21 (run k)) Z.u_21 sc_21 (run_21 k) rfl rfl rfl fun cdv A outer s H E G => ?_
  exact (fss_one (fs_ret (fe_if (t_tru (e_isi .tup Z.z_isinstance Z.z_tuple (e_v 0))) (fe_tup (a_cons (e_call true G Q.g_19 Z.i_19 (a_cons (e_v 0) fa_nil)) (a_cons (e_call true G Q.g_21 Z.i_21 (a_cons (e_ix (e_v 0) e_int) fa_nil)) (a_cons (e_call true G Q.g_21 Z.i_21 (a_cons (e_ix (e_v 0) e_int) fa_nil)) fa_nil)))) e_int)))
theorem sc_22 : FnScope ["many", "deeds", "found", "deed"] ["many", "deeds"] (defScope (top 32)) := ⟨rfl, rfl, rfl, by decide +kernel, rfl, by decide +kernel, by decide +kernel⟩
/-- _law_run -/
theorem ok_22 (Z : Tx K mg a) (Q : Al P w K mg base T a k) : FnG P w K mg base (2 * (k + 1)) a.f22 a.d22 ["many", "deeds"] (spF K T 2 (run (k + 1) 22)) := by
  refine fn_of' (k := 2 * k + 1) (code := c_22 (run k)) Z.u_22 sc_22 (run_22 k) rfl rfl rfl fun cdv A outer s H E G => ?_
  exact (fss_cons (s_set 2 G (e_mul true (fe_lstM (a_cons e_non fa_nil)) (e_v 0)))
    (fss_cons (s_for G (fi_it (e_v 1)) (fy_n (g_n 3 G))
    (fss_one (s_setL (fe_if (t_cmp (k_eq G) (e_ix (e_v 3) e_int) (e_str [108, 111, 97, 100] (by decide +kernel) (by decide))) (e_ix (e_v 3) e_int) (fe_tup (a_cons (e_ix (e_v 2) (e_ix (e_v 3) e_int)) (a_cons (e_ix (e_v 2) (e_ix (e_v 3) e_int)) fa_nil)))) (e_v 2) (e_ix (e_v 3) e_int))))
    (fss_one (fs_ret (e_bi u_tuple Z.z_tuple (a_cons (e_v 2) fa_nil))))))
theorem sc_23 : FnScope ["tree", "found", "at", "part"] ["tree"] (defScope (top 33)) := ⟨rfl, rfl, rfl, by decide +kernel, rfl, by decide +kernel, by decide +kernel⟩
/-- _law_parts -/
theorem ok_23 (Z : Tx K mg a) (Q : Al P w K mg base T a k) : FnG P w K mg base (2 * (k + 1)) a.f23 a.d23 ["tree"] (spF K T 1 (run (k + 1) 23)) := by
  refine fn_of' (k := 2 * k + 1) (code := c_23 (run k)) Z.u_23 sc_23 (run_23 k) rfl rfl rfl fun cdv A outer s H E G => ?_
  exact (fss_cons (s_set 1 G (fe_lstM (a_cons (e_v 0) fa_nil)))
    (fss_cons (s_set 2 G e_int)
    (fss_cons (s_while 100000 G (t_cmp (k_lt) (e_v 2) (e_bi u_len Z.z_len (a_cons (e_v 1) fa_nil)))
    (fss_cons (fs_if (t_tru (e_isi .tup Z.z_isinstance Z.z_tuple (e_ix (e_v 1) (e_v 2))))
    (fss_one (s_expr (e_lm l_extend (e_v 1) (a_cons (e_lc false [("part", 3)] G (by rfl) (by decide) (fi_it (e_ix (e_v 1) (e_v 2))) (fun _ _ _ _ _ G => (fy_n (g_n 3 G))) (fun _ _ _ _ _ G => (fts_one (t_cmp (k_nin G) (e_v 3) (e_v 1)))) (fun _ _ _ _ _ G => (e_v 3))) fa_nil))))
    fss_nil)
    (fss_one (s_set 2 G (e_add false (e_v 2) e_int)))))
    (fss_one (fs_ret (e_v 1))))))
theorem sc_24 : FnScope ["tree", "many", "parts", "rows", "part", "known", "seen", "at", "here", "number", "k", "one", "rest", "some", "further"] ["tree", "many"] (defScope (top 34)) := ⟨rfl, rfl, rfl, by decide +kernel, rfl, by decide +kernel, by decide +kernel⟩
/-- _law_can -/
theorem ok_24 (Z : Tx K mg a) (Q : Al P w K mg base T a k) : FnG P w K mg base (2 * (k + 1)) a.f24 a.d24 ["tree", "many"] (spF K T 2 (run (k + 1) 24)) := by
  refine fn_of' (k := 2 * k + 1) (code := c_24 (run k)) Z.u_24 sc_24 (run_24 k) rfl rfl rfl fun cdv A outer s H E G => ?_
  exact (fss_cons (s_set 2 G (e_call false G Q.g_23 Z.i_23 (a_cons (e_v 0) fa_nil)))
    (fss_cons (s_set 3 G (e_lc false [("part", 4)] G (by rfl) (by decide) (fi_it (e_v 2)) (fun _ _ _ _ _ G => (fy_n (g_n 4 G))) (fun _ _ _ _ _ G => fts_nil) (fun _ _ _ _ _ G => (fe_if (t_tru (e_isi .tup Z.z_isinstance Z.z_tuple (e_v 4))) (fe_tup (a_cons (e_lm (l_index G) (e_v 2) (a_cons (e_ix (e_v 4) e_int) fa_nil)) (a_cons (e_lm (l_index G) (e_v 2) (a_cons (e_ix (e_v 4) e_int) fa_nil)) fa_nil))) (fe_tup fa_nil)))))
    (fss_cons (s_par3 5 6 7 G (a_cons (fe_lstM (a_cons (fe_tup fa_nil) fa_nil)) (a_cons (fe_disT G.hu1 (fps_cons (fe_tup fa_nil) e_bl fps_nil)) (a_cons e_int fa_nil))))
    (fss_cons (s_while 100000 G (t_cmp (k_lt) (e_v 7) (e_bi u_len Z.z_len (a_cons (e_v 5) fa_nil)))
    (fss_cons (s_set 8 G (e_ix (e_v 5) (e_v 7)))
    (fss_cons (s_set 7 G (e_add false (e_v 7) e_int))
    (fss_cons (fs_if (t_cmp (k_in G) e_int (e_v 8))
    (fss_one (fs_ret e_bl))
    fss_nil)
    (fss_one (s_for G (fi_it (e_lc false [("k", 10)] G (by rfl) (by decide) (i_r1 Z.z_range (e_bi u_len Z.z_len (a_cons (e_v 3) fa_nil))) (fun _ _ _ _ _ G => (fy_n (g_n 10 G))) (fun _ _ _ _ _ G => (fts_one (ft_w (fw_and (t_cmp (k_nin G) (e_v 10) (e_v 8)) (fw_1 (ft_not (t_tru (e_lc false [("one", 11)] G (by rfl) (by decide) (fi_it (e_ix (e_v 3) (e_v 10))) (fun _ _ _ _ _ G => (fy_n (g_n 11 G))) (fun _ _ _ _ _ G => (fts_one (t_cmp (k_nin G) (e_v 11) (e_v 8)))) (fun _ _ _ _ _ G => (e_v 11)))))))))) (fun _ _ _ _ _ G => (e_v 10)))) (fy_n (g_n 9 G))
    (fss_cons (s_set 12 G (e_add false (e_lc false [("k", 10)] G (by rfl) (by decide) (i_r1 Z.z_range (e_bi u_len Z.z_len (a_cons (e_v 8) fa_nil))) (fun _ _ _ _ _ G => (fy_n (g_n 10 G))) (fun _ _ _ _ _ G => fts_nil) (fun _ _ _ _ _ G => (e_add false (fe_sl (m := false) (e_v 8) fo_n (fo_s (e_v 10))) (fe_sl (m := false) (e_v 8) (fo_s (e_add false (e_v 10) e_int)) fo_n)))) (fe_if (t_cmp (k_lt) (e_bi u_len Z.z_len (a_cons (e_v 8) fa_nil)) (e_v 1)) (fe_lst (a_cons (e_v 8) fa_nil)) (fe_lst fa_nil))))
    (fss_one (s_for G (fi_it (e_v 12)) (fy_n (g_n 13 G))
    (fss_cons (s_set 14 G (e_bi u_tuple Z.z_tuple (a_cons (e_bi (u_sort false G) Z.z_sorted (a_cons (e_add false (e_v 13) (fe_tup (a_cons (e_v 9) fa_nil))) fa_nil)) fa_nil)))
    (fss_one (fs_if (t_dnin G (e_v 14) (e_v 6))
    (fss_cons (s_setD G e_bl (e_v 6) (e_v 14))
    (fss_one (s_expr (e_lm l_append (e_v 5) (a_cons (e_v 14) fa_nil)))))
    fss_nil))))))))))))
    (fss_one (fs_ret e_bl))))))
theorem sc_25 : FnScope ["state", "tree"] ["state", "tree"] (defScope (top 35)) := ⟨rfl, rfl, rfl, by decide +kernel, rfl, by decide +kernel, by decide +kernel⟩
/-- _law_unlike -/
theorem ok_25 (Z : Tx K mg a) (Q : Al P w K mg base T a k) : FnG P w K mg base (2 * (k + 1)) a.f25 a.d25 ["state", "tree"] (spF K T 2 (run (k + 1) 25)) := by
  refine fn_of' (k := 2 * k + 1) (code := c_25 (run k)) Z.u_25 sc_25 (run_25 k) rfl rfl rfl fun cdv A outer s H E G => ?_
  exact (fss_cons (fs_if (t_tru (e_isi .tup Z.z_isinstance Z.z_tuple (e_v 1)))
    (fss_one (fs_ret (fe_tup (a_cons (e_call false G Q.g_25 Z.i_25 (a_cons (e_v 0) (a_cons (e_ix (e_v 1) e_int) fa_nil))) (a_cons (e_call false G Q.g_25 Z.i_25 (a_cons (e_v 0) (a_cons (e_ix (e_v 1) e_int) fa_nil))) fa_nil)))))
    fss_nil)
    (fss_cons (s_setL (e_add false (e_ix (e_v 0) e_int) e_int) (e_v 0) e_int)
    (fss_one (fs_ret (e_ix (e_v 0) e_int)))))
theorem sc_26 : FnScope ["script", "state", "turn", "tree", "need", "deeds", "told", "deed"] ["script"] (defScope (top 36)) := ⟨rfl, rfl, rfl, by decide +kernel, rfl, by decide +kernel, by decide +kernel⟩
/-- law -/
theorem ok_26 (Z : Tx K mg a) (Q : Al P w K mg base T a k) : FnG P w K mg base (2 * (k + 1)) a.f26 a.d26 ["script"] (spF K T 1 (run (k + 1) 26)) := by
  refine fn_of' (k := 2 * k + 1) (code := c_26 (run k)) Z.u_26 sc_26 (run_26 k) rfl rfl rfl fun cdv A outer s H E G => ?_
  exact (fss_cons (s_set 1 G (e_call false G Q.g_14 Z.i_14 (a_cons (e_v 0) fa_nil)))
    (fss_cons (s_for G (i_r1 Z.z_range e_int) (fy_n (g_n 2 G))
    (fss_cons (s_set 3 G (fe_if (t_cmp (k_lt) (e_v 2) e_int) (e_call false G Q.g_18 Z.i_18 (a_cons (e_v 1) (a_cons (e_call false G Q.g_16 Z.i_16 (a_cons (e_v 1) (a_cons (fe_lst (a_cons e_int (a_cons e_int (a_cons e_int (a_cons e_int (a_cons e_int fa_nil)))))) fa_nil))) (a_cons e_bl fa_nil)))) (e_call false G Q.g_18 Z.i_18 (a_cons (e_v 1) (a_cons (e_call false G Q.g_15 Z.i_15 (a_cons (e_v 1) (a_cons e_int fa_nil))) (a_cons e_bl fa_nil))))))
    (fss_cons (s_par G (len_cns (len_cns len_nil)) (a_cons (e_call true G Q.g_19 Z.i_19 (a_cons (e_v 3) fa_nil)) (a_cons (e_call true G Q.g_20 Z.i_20 (a_cons (e_v 3) (a_cons e_int fa_nil))) fa_nil)) (gs_cons (g_n 4 G) (gs_cons (g_n 5 G) fgs_nil)))
    (fss_cons (fs_if (ft_not (t_tru (e_call true G Q.g_17 Z.i_17 (a_cons (fe_lst (a_cons (e_call true G Q.g_4 Z.i_4 (a_cons (e_v 3) fa_nil)) (a_cons (e_call true G Q.g_10 Z.i_10 (a_cons (e_v 3) fa_nil)) (a_cons (e_call true G Q.g_6 Z.i_6 (a_cons (e_v 3) fa_nil)) fa_nil)))) (a_cons (fe_lst (a_cons (e_v 4) (a_cons (e_call true G Q.g_21 Z.i_21 (a_cons (e_v 3) fa_nil)) (a_cons (e_v 5) fa_nil)))) fa_nil)))))
    (fss_one (fs_ret e_bl))
    fss_nil)
    (fss_cons (s_set 6 G (e_call true G Q.g_7 Z.i_7 (a_cons (e_v 4) (a_cons (e_v 5) fa_nil))))
    (fss_cons (fs_if (ft_w (fw_or (ft_not (t_tru (e_call true G Q.g_17 Z.i_17 (a_cons (e_v 6) (a_cons (e_call true G Q.g_22 Z.i_22 (a_cons (e_v 4) (a_cons (e_v 5) fa_nil))) fa_nil))))) (fw_or (t_cmp (k_ne G) (e_ix (e_v 6) e_int) (e_v 3)) (fw_1 (t_cmp (k_gt) (e_bi u_len Z.z_len (a_cons (e_lc false [("deed", 7)] G (by rfl) (by decide) (fi_it (e_v 5)) (fun _ _ _ _ _ G => (fy_n (g_n 7 G))) (fun _ _ _ _ _ G => (fts_one (t_cmp (k_ge) (e_bi (u_maxD G) Z.z_max (a_cons (fe_if (t_cmp (k_eq G) (e_ix (e_v 7) e_int) (e_str [106, 111, 105, 110] (by decide +kernel) (by decide))) (e_add false (fe_sl (m := false) (e_v 7) (fo_s e_int) (fo_s e_int)) (fe_sl (m := false) (e_v 7) (fo_s e_int) fo_n)) (fe_sl (m := false) (e_v 7) (fo_s e_int) (fo_s e_int))) fa_nil)) (e_v 4)))) (fun _ _ _ _ _ G => (e_v 7))) fa_nil)) e_int)))))
    (fss_one (fs_ret e_bl))
    fss_nil)
    (fss_one (fs_if (ft_w (fw_or (t_cmp (k_notN) (e_call true G Q.g_9 Z.i_9 (a_cons (e_v 3) (a_cons (e_v 4) (a_cons (e_v 5) fa_nil)))) e_non) (fw_1 (t_cmp (k_notN) (e_call true G Q.g_12 Z.i_12 (a_cons (e_v 3) (a_cons (e_call true G Q.g_10 Z.i_10 (a_cons (e_v 3) fa_nil)) fa_nil))) e_non))))
    (fss_one (fs_ret e_bl))
    fss_nil))))))))
    (fss_cons (s_expr (e_lm l_append (e_v 1) (a_cons e_int fa_nil)))
    (fss_cons (s_set 3 G (e_call false G Q.g_25 Z.i_25 (a_cons (e_v 1) (a_cons (e_call false G Q.g_18 Z.i_18 (a_cons (e_v 1) (a_cons (e_call false G Q.g_16 Z.i_16 (a_cons (e_v 1) (a_cons (fe_lst (a_cons e_int (a_cons e_int (a_cons e_int fa_nil)))) fa_nil))) (a_cons e_bl fa_nil)))) fa_nil))))
    (fss_cons (s_set 4 G (e_call true G Q.g_4 Z.i_4 (a_cons (e_v 3) fa_nil)))
    (fss_one (fs_ret (fe_if (t_cmp (k_gt) (e_v 4) e_int) (fe_and (fe_not (e_call true G Q.g_24 Z.i_24 (a_cons (e_v 3) (a_cons (e_sub (e_v 4) e_int) fa_nil)))) (fe_one (e_call true G Q.g_24 Z.i_24 (a_cons (e_v 3) (a_cons (e_v 4) fa_nil))))) e_bl))))))))
theorem al (Z : Tx K mg a) : ∀ k, Al P w K mg base T a k
  | 0 => by constructor <;> exact fn_zero
  | k + 1 => ⟨ok_0 Z (al Z k), ok_1 Z (al Z k), ok_2 Z (al Z k), ok_3 Z (al Z k), ok_4 Z (al Z k), ok_5 Z (al Z k), ok_6 Z (al Z k), ok_7 Z (al Z k), ok_8 Z (al Z k), ok_9 Z (al Z k), ok_10 Z (al Z k), ok_11 Z (al Z k), ok_12 Z (al Z k), ok_13 Z (al Z k), ok_14 Z (al Z k), ok_15 Z (al Z k), ok_16 Z (al Z k), ok_17 Z (al Z k), ok_18 Z (al Z k), ok_19 Z (al Z k), ok_20 Z (al Z k), ok_21 Z (al Z k), ok_22 Z (al Z k), ok_23 Z (al Z k), ok_24 Z (al Z k), ok_25 Z (al Z k), ok_26 Z (al Z k)⟩
end
theorem all_mk {l : PySem.W.OpenLaw} {w : World} {K : PySem.W.Frag} {h : Heap} {mg : Str → Option Value} {fa : Addr} (X : K.In h) (G : h.Ns mainGlobals mg) (hfa : mg "law" = some (.ref fa))
    {f0 : Addr} {od0 an0 : Option Addr} {sl0 : Array (Option Value)} {oc0 kV0 dc0 pm0 cd0 ct0 : Value}
    {f1 : Addr} {od1 an1 : Option Addr} {sl1 : Array (Option Value)} {oc1 kV1 dc1 pm1 cd1 ct1 : Value}
    {f2 : Addr} {od2 an2 : Option Addr} {sl2 : Array (Option Value)} {oc2 kV2 dc2 pm2 cd2 ct2 : Value}
    {f3 : Addr} {od3 an3 : Option Addr} {sl3 : Array (Option Value)} {oc3 kV3 dc3 pm3 cd3 ct3 : Value}
    {f4 : Addr} {od4 an4 : Option Addr} {sl4 : Array (Option Value)} {oc4 kV4 dc4 pm4 cd4 ct4 : Value}
    {f5 : Addr} {od5 an5 : Option Addr} {sl5 : Array (Option Value)} {oc5 kV5 dc5 pm5 cd5 ct5 : Value}
    {f6 : Addr} {od6 an6 : Option Addr} {sl6 : Array (Option Value)} {oc6 kV6 dc6 pm6 cd6 ct6 : Value}
    {f7 : Addr} {od7 an7 : Option Addr} {sl7 : Array (Option Value)} {oc7 kV7 dc7 pm7 cd7 ct7 : Value}
    {f8 : Addr} {od8 an8 : Option Addr} {sl8 : Array (Option Value)} {oc8 kV8 dc8 pm8 cd8 ct8 : Value}
    {f9 : Addr} {od9 an9 : Option Addr} {sl9 : Array (Option Value)} {oc9 kV9 dc9 pm9 cd9 ct9 : Value}
    {f10 : Addr} {od10 an10 : Option Addr} {sl10 : Array (Option Value)} {oc10 kV10 dc10 pm10 cd10 ct10 : Value}
    {f11 : Addr} {od11 an11 : Option Addr} {sl11 : Array (Option Value)} {oc11 kV11 dc11 pm11 cd11 ct11 : Value}
    {f12 : Addr} {od12 an12 : Option Addr} {sl12 : Array (Option Value)} {oc12 kV12 dc12 pm12 cd12 ct12 : Value}
    {f13 : Addr} {od13 an13 : Option Addr} {sl13 : Array (Option Value)} {oc13 kV13 dc13 pm13 cd13 ct13 : Value}
    {f14 : Addr} {od14 an14 : Option Addr} {sl14 : Array (Option Value)} {oc14 kV14 dc14 pm14 cd14 ct14 : Value}
    {f15 : Addr} {od15 an15 : Option Addr} {sl15 : Array (Option Value)} {oc15 kV15 dc15 pm15 cd15 ct15 : Value}
    {f16 : Addr} {od16 an16 : Option Addr} {sl16 : Array (Option Value)} {oc16 kV16 dc16 pm16 cd16 ct16 : Value}
    {f17 : Addr} {od17 an17 : Option Addr} {sl17 : Array (Option Value)} {oc17 kV17 dc17 pm17 cd17 ct17 : Value}
    {f18 : Addr} {od18 an18 : Option Addr} {sl18 : Array (Option Value)} {oc18 kV18 dc18 pm18 cd18 ct18 : Value}
    {f19 : Addr} {od19 an19 : Option Addr} {sl19 : Array (Option Value)} {oc19 kV19 dc19 pm19 cd19 ct19 : Value}
    {f20 : Addr} {od20 an20 : Option Addr} {sl20 : Array (Option Value)} {oc20 kV20 dc20 pm20 cd20 ct20 : Value}
    {f21 : Addr} {od21 an21 : Option Addr} {sl21 : Array (Option Value)} {oc21 kV21 dc21 pm21 cd21 ct21 : Value}
    {f22 : Addr} {od22 an22 : Option Addr} {sl22 : Array (Option Value)} {oc22 kV22 dc22 pm22 cd22 ct22 : Value}
    {f23 : Addr} {od23 an23 : Option Addr} {sl23 : Array (Option Value)} {oc23 kV23 dc23 pm23 cd23 ct23 : Value}
    {f24 : Addr} {od24 an24 : Option Addr} {sl24 : Array (Option Value)} {oc24 kV24 dc24 pm24 cd24 ct24 : Value}
    {f25 : Addr} {od25 an25 : Option Addr} {sl25 : Array (Option Value)} {oc25 kV25 dc25 pm25 cd25 ct25 : Value}
    {f26 : Addr} {od26 an26 : Option Addr} {sl26 : Array (Option Value)} {oc26 kV26 dc26 pm26 cd26 ct26 : Value}
    {t_MAX_DEPTH : Tok}
    {t_MAX_SPANS : Tok}
    (a0 : PySem.W.nsIn K mainGlobals "is_integer" = some (some (.ref f0)))
    (l0 : K.lookup f0 = some ⟨oc0, od0, .func (PySem.W.fnOf "is_integer" "is_integer" (defArgs (top 5)) (defBody (top 5)) (defScope (top 5)) .none kV0 dc0 pm0 an0 cd0 ct0), sl0⟩)
    (c0 : PySem.W.codeIn K cd0 "is_integer" = true)
    (k0 : PySem.W.keepIn K (.ref f0) = true)
    (a1 : PySem.W.nsIn K mainGlobals "is_tree" = some (some (.ref f1)))
    (l1 : K.lookup f1 = some ⟨oc1, od1, .func (PySem.W.fnOf "is_tree" "is_tree" (defArgs (top 9)) (defBody (top 9)) (defScope (top 9)) .none kV1 dc1 pm1 an1 cd1 ct1), sl1⟩)
    (c1 : PySem.W.codeIn K cd1 "is_tree" = true)
    (k1 : PySem.W.keepIn K (.ref f1) = true)
    (a2 : PySem.W.nsIn K mainGlobals "check_tree" = some (some (.ref f2)))
    (l2 : K.lookup f2 = some ⟨oc2, od2, .func (PySem.W.fnOf "check_tree" "check_tree" (defArgs (top 10)) (defBody (top 10)) (defScope (top 10)) .none kV2 dc2 pm2 an2 cd2 ct2), sl2⟩)
    (c2 : PySem.W.codeIn K cd2 "check_tree" = true)
    (k2 : PySem.W.keepIn K (.ref f2) = true)
    (a3 : PySem.W.nsIn K mainGlobals "needed_of" = some (some (.ref f3)))
    (l3 : K.lookup f3 = some ⟨oc3, od3, .func (PySem.W.fnOf "needed_of" "needed_of" (defArgs (top 11)) (defBody (top 11)) (defScope (top 11)) .none kV3 dc3 pm3 an3 cd3 ct3), sl3⟩)
    (c3 : PySem.W.codeIn K cd3 "needed_of" = true)
    (k3 : PySem.W.keepIn K (.ref f3) = true)
    (a4 : PySem.W.nsIn K mainGlobals "needed" = some (some (.ref f4)))
    (l4 : K.lookup f4 = some ⟨oc4, od4, .func (PySem.W.fnOf "needed" "needed" (defArgs (top 12)) (defBody (top 12)) (defScope (top 12)) .none kV4 dc4 pm4 an4 cd4 ct4), sl4⟩)
    (c4 : PySem.W.codeIn K cd4 "needed" = true)
    (k4 : PySem.W.keepIn K (.ref f4) = true)
    (a5 : PySem.W.nsIn K mainGlobals "worked" = some (some (.ref f5)))
    (l5 : K.lookup f5 = some ⟨oc5, od5, .func (PySem.W.fnOf "worked" "worked" (defArgs (top 13)) (defBody (top 13)) (defScope (top 13)) .none kV5 dc5 pm5 an5 cd5 ct5), sl5⟩)
    (c5 : PySem.W.codeIn K cd5 "worked" = true)
    (k5 : PySem.W.keepIn K (.ref f5) = true)
    (a6 : PySem.W.nsIn K mainGlobals "deeds_for" = some (some (.ref f6)))
    (l6 : K.lookup f6 = some ⟨oc6, od6, .func (PySem.W.fnOf "deeds_for" "deeds_for" (defArgs (top 14)) (defBody (top 14)) (defScope (top 14)) .none kV6 dc6 pm6 an6 cd6 ct6), sl6⟩)
    (c6 : PySem.W.codeIn K cd6 "deeds_for" = true)
    (k6 : PySem.W.keepIn K (.ref f6) = true)
    (a7 : PySem.W.nsIn K mainGlobals "run_deeds" = some (some (.ref f7)))
    (l7 : K.lookup f7 = some ⟨oc7, od7, .func (PySem.W.fnOf "run_deeds" "run_deeds" (defArgs (top 15)) (defBody (top 15)) (defScope (top 15)) .none kV7 dc7 pm7 an7 cd7 ct7), sl7⟩)
    (c7 : PySem.W.codeIn K cd7 "run_deeds" = true)
    (k7 : PySem.W.keepIn K (.ref f7) = true)
    (a8 : PySem.W.nsIn K mainGlobals "run_of" = some (some (.ref f8)))
    (l8 : K.lookup f8 = some ⟨oc8, od8, .func (PySem.W.fnOf "run_of" "run_of" (defArgs (top 16)) (defBody (top 16)) (defScope (top 16)) .none kV8 dc8 pm8 an8 cd8 ct8), sl8⟩)
    (c8 : PySem.W.codeIn K cd8 "run_of" = true)
    (k8 : PySem.W.keepIn K (.ref f8) = true)
    (a9 : PySem.W.nsIn K mainGlobals "accept_deeds" = some (some (.ref f9)))
    (l9 : K.lookup f9 = some ⟨oc9, od9, .func (PySem.W.fnOf "accept_deeds" "accept_deeds" (defArgs (top 17)) (defBody (top 17)) (defScope (top 17)) .none kV9 dc9 pm9 an9 cd9 ct9), sl9⟩)
    (c9 : PySem.W.codeIn K cd9 "accept_deeds" = true)
    (k9 : PySem.W.keepIn K (.ref f9) = true)
    (a10 : PySem.W.nsIn K mainGlobals "numbered" = some (some (.ref f10)))
    (l10 : K.lookup f10 = some ⟨oc10, od10, .func (PySem.W.fnOf "numbered" "numbered" (defArgs (top 18)) (defBody (top 18)) (defScope (top 18)) .none kV10 dc10 pm10 an10 cd10 ct10), sl10⟩)
    (c10 : PySem.W.codeIn K cd10 "numbered" = true)
    (k10 : PySem.W.keepIn K (.ref f10) = true)
    (a11 : PySem.W.nsIn K mainGlobals "numbers_of" = some (some (.ref f11)))
    (l11 : K.lookup f11 = some ⟨oc11, od11, .func (PySem.W.fnOf "numbers_of" "numbers_of" (defArgs (top 19)) (defBody (top 19)) (defScope (top 19)) .none kV11 dc11 pm11 an11 cd11 ct11), sl11⟩)
    (c11 : PySem.W.codeIn K cd11 "numbers_of" = true)
    (k11 : PySem.W.keepIn K (.ref f11) = true)
    (a12 : PySem.W.nsIn K mainGlobals "accept_numbers" = some (some (.ref f12)))
    (l12 : K.lookup f12 = some ⟨oc12, od12, .func (PySem.W.fnOf "accept_numbers" "accept_numbers" (defArgs (top 20)) (defBody (top 20)) (defScope (top 20)) .none kV12 dc12 pm12 an12 cd12 ct12), sl12⟩)
    (c12 : PySem.W.codeIn K cd12 "accept_numbers" = true)
    (k12 : PySem.W.keepIn K (.ref f12) = true)
    (a13 : PySem.W.nsIn K mainGlobals "are_numbers" = some (some (.ref f13)))
    (l13 : K.lookup f13 = some ⟨oc13, od13, .func (PySem.W.fnOf "are_numbers" "are_numbers" (defArgs (top 21)) (defBody (top 21)) (defScope (top 21)) .none kV13 dc13 pm13 an13 cd13 ct13), sl13⟩)
    (c13 : PySem.W.codeIn K cd13 "are_numbers" = true)
    (k13 : PySem.W.keepIn K (.ref f13) = true)
    (a14 : PySem.W.nsIn K mainGlobals "_law_start" = some (some (.ref f14)))
    (l14 : K.lookup f14 = some ⟨oc14, od14, .func (PySem.W.fnOf "_law_start" "_law_start" (defArgs (top 23)) (defBody (top 23)) (defScope (top 23)) .none kV14 dc14 pm14 an14 cd14 ct14), sl14⟩)
    (c14 : PySem.W.codeIn K cd14 "_law_start" = true)
    (k14 : PySem.W.keepIn K (.ref f14) = true)
    (a15 : PySem.W.nsIn K mainGlobals "_law_draw" = some (some (.ref f15)))
    (l15 : K.lookup f15 = some ⟨oc15, od15, .func (PySem.W.fnOf "_law_draw" "_law_draw" (defArgs (top 24)) (defBody (top 24)) (defScope (top 24)) .none kV15 dc15 pm15 an15 cd15 ct15), sl15⟩)
    (c15 : PySem.W.codeIn K cd15 "_law_draw" = true)
    (k15 : PySem.W.keepIn K (.ref f15) = true)
    (a16 : PySem.W.nsIn K mainGlobals "_law_pick" = some (some (.ref f16)))
    (l16 : K.lookup f16 = some ⟨oc16, od16, .func (PySem.W.fnOf "_law_pick" "_law_pick" (defArgs (top 25)) (defBody (top 25)) (defScope (top 25)) .none kV16 dc16 pm16 an16 cd16 ct16), sl16⟩)
    (c16 : PySem.W.codeIn K cd16 "_law_pick" = true)
    (k16 : PySem.W.keepIn K (.ref f16) = true)
    (a17 : PySem.W.nsIn K mainGlobals "_law_same" = some (some (.ref f17)))
    (l17 : K.lookup f17 = some ⟨oc17, od17, .func (PySem.W.fnOf "_law_same" "_law_same" (defArgs (top 26)) (defBody (top 26)) (defScope (top 26)) .none kV17 dc17 pm17 an17 cd17 ct17), sl17⟩)
    (c17 : PySem.W.codeIn K cd17 "_law_same" = true)
    (k17 : PySem.W.keepIn K (.ref f17) = true)
    (a18 : PySem.W.nsIn K mainGlobals "_law_tree" = some (some (.ref f18)))
    (l18 : K.lookup f18 = some ⟨oc18, od18, .func (PySem.W.fnOf "_law_tree" "_law_tree" (defArgs (top 27)) (defBody (top 27)) (defScope (top 27)) .none kV18 dc18 pm18 an18 cd18 ct18), sl18⟩)
    (c18 : PySem.W.codeIn K cd18 "_law_tree" = true)
    (k18 : PySem.W.keepIn K (.ref f18) = true)
    (a19 : PySem.W.nsIn K mainGlobals "_law_need" = some (some (.ref f19)))
    (l19 : K.lookup f19 = some ⟨oc19, od19, .func (PySem.W.fnOf "_law_need" "_law_need" (defArgs (top 28)) (defBody (top 28)) (defScope (top 28)) .none kV19 dc19 pm19 an19 cd19 ct19), sl19⟩)
    (c19 : PySem.W.codeIn K cd19 "_law_need" = true)
    (k19 : PySem.W.keepIn K (.ref f19) = true)
    (a20 : PySem.W.nsIn K mainGlobals "_law_deeds" = some (some (.ref f20)))
    (l20 : K.lookup f20 = some ⟨oc20, od20, .func (PySem.W.fnOf "_law_deeds" "_law_deeds" (defArgs (top 29)) (defBody (top 29)) (defScope (top 29)) .none kV20 dc20 pm20 an20 cd20 ct20), sl20⟩)
    (c20 : PySem.W.codeIn K cd20 "_law_deeds" = true)
    (k20 : PySem.W.keepIn K (.ref f20) = true)
    (a21 : PySem.W.nsIn K mainGlobals "_law_numbers" = some (some (.ref f21)))
    (l21 : K.lookup f21 = some ⟨oc21, od21, .func (PySem.W.fnOf "_law_numbers" "_law_numbers" (defArgs (top 30)) (defBody (top 30)) (defScope (top 30)) .none kV21 dc21 pm21 an21 cd21 ct21), sl21⟩)
    (c21 : PySem.W.codeIn K cd21 "_law_numbers" = true)
    (k21 : PySem.W.keepIn K (.ref f21) = true)
    (a22 : PySem.W.nsIn K mainGlobals "_law_run" = some (some (.ref f22)))
    (l22 : K.lookup f22 = some ⟨oc22, od22, .func (PySem.W.fnOf "_law_run" "_law_run" (defArgs (top 32)) (defBody (top 32)) (defScope (top 32)) .none kV22 dc22 pm22 an22 cd22 ct22), sl22⟩)
    (c22 : PySem.W.codeIn K cd22 "_law_run" = true)
    (k22 : PySem.W.keepIn K (.ref f22) = true)
    (a23 : PySem.W.nsIn K mainGlobals "_law_parts" = some (some (.ref f23)))
    (l23 : K.lookup f23 = some ⟨oc23, od23, .func (PySem.W.fnOf "_law_parts" "_law_parts" (defArgs (top 33)) (defBody (top 33)) (defScope (top 33)) .none kV23 dc23 pm23 an23 cd23 ct23), sl23⟩)
    (c23 : PySem.W.codeIn K cd23 "_law_parts" = true)
    (k23 : PySem.W.keepIn K (.ref f23) = true)
    (a24 : PySem.W.nsIn K mainGlobals "_law_can" = some (some (.ref f24)))
    (l24 : K.lookup f24 = some ⟨oc24, od24, .func (PySem.W.fnOf "_law_can" "_law_can" (defArgs (top 34)) (defBody (top 34)) (defScope (top 34)) .none kV24 dc24 pm24 an24 cd24 ct24), sl24⟩)
    (c24 : PySem.W.codeIn K cd24 "_law_can" = true)
    (k24 : PySem.W.keepIn K (.ref f24) = true)
    (a25 : PySem.W.nsIn K mainGlobals "_law_unlike" = some (some (.ref f25)))
    (l25 : K.lookup f25 = some ⟨oc25, od25, .func (PySem.W.fnOf "_law_unlike" "_law_unlike" (defArgs (top 35)) (defBody (top 35)) (defScope (top 35)) .none kV25 dc25 pm25 an25 cd25 ct25), sl25⟩)
    (c25 : PySem.W.codeIn K cd25 "_law_unlike" = true)
    (k25 : PySem.W.keepIn K (.ref f25) = true)
    (a26 : PySem.W.nsIn K mainGlobals "law" = some (some (.ref f26)))
    (l26 : K.lookup f26 = some ⟨oc26, od26, .func (PySem.W.fnOf "law" "law" (defArgs (top 36)) (defBody (top 36)) (defScope (top 36)) .none kV26 dc26 pm26 an26 cd26 ct26), sl26⟩)
    (c26 : PySem.W.codeIn K cd26 "law" = true)
    (k26 : PySem.W.keepIn K (.ref f26) = true)
    (z_abs : PySem.W.nsIn K mainGlobals "abs" = some none)
    (z_all : PySem.W.nsIn K mainGlobals "all" = some none)
    (z_bool : PySem.W.nsIn K mainGlobals "bool" = some none)
    (z_int : PySem.W.nsIn K mainGlobals "int" = some none)
    (z_isinstance : PySem.W.nsIn K mainGlobals "isinstance" = some none)
    (z_len : PySem.W.nsIn K mainGlobals "len" = some none)
    (z_list : PySem.W.nsIn K mainGlobals "list" = some none)
    (z_max : PySem.W.nsIn K mainGlobals "max" = some none)
    (z_range : PySem.W.nsIn K mainGlobals "range" = some none)
    (z_repr : PySem.W.nsIn K mainGlobals "repr" = some none)
    (z_sorted : PySem.W.nsIn K mainGlobals "sorted" = some none)
    (z_tuple : PySem.W.nsIn K mainGlobals "tuple" = some none)
    (q_MAX_DEPTH : PySem.W.nsIn K mainGlobals "MAX_DEPTH" = some (some (.int 12 t_MAX_DEPTH)))
    (q_MAX_SPANS : PySem.W.nsIn K mainGlobals "MAX_SPANS" = some (some (.int 60 t_MAX_SPANS))) :
    ∃ (fd : FuncData) (T : Tb), (∀ (s : Shared) (v : Value), BindsTo s fd ⟨[v], []⟩ [("script", v)]) ∧ ∀ base : Heap, K.In base → base.Ns mainGlobals mg → FnG l.prog w K mg base (2 * 40) fa fd ["script"] (spF K T 1 (run 40 26)) := by
  have e := hfa.symm.trans (PySem.W.mg_of X G a26)
  cases e
  have F0 := fun_mk (st := top 5) l0 c0 k0
  have b0 := F0.binds (ps := ["value"]) fun _ _ _ _ _ _ us hl => match us, hl with | [_], _ => rfl
  have F1 := fun_mk (st := top 9) l1 c1 k1
  have b1 := F1.binds (ps := ["value", "depth"]) fun _ _ _ _ _ _ us hl => match us, hl with | [_, _], _ => rfl
  have F2 := fun_mk (st := top 10) l2 c2 k2
  have b2 := F2.binds (ps := ["tree"]) fun _ _ _ _ _ _ us hl => match us, hl with | [_], _ => rfl
  have F3 := fun_mk (st := top 11) l3 c3 k3
  have b3 := F3.binds (ps := ["tree"]) fun _ _ _ _ _ _ us hl => match us, hl with | [_], _ => rfl
  have F4 := fun_mk (st := top 12) l4 c4 k4
  have b4 := F4.binds (ps := ["tree"]) fun _ _ _ _ _ _ us hl => match us, hl with | [_], _ => rfl
  have F5 := fun_mk (st := top 13) l5 c5 k5
  have b5 := F5.binds (ps := ["tree", "free"]) fun _ _ _ _ _ _ us hl => match us, hl with | [_, _], _ => rfl
  have F6 := fun_mk (st := top 14) l6 c6 k6
  have b6 := F6.binds (ps := ["tree"]) fun _ _ _ _ _ _ us hl => match us, hl with | [_], _ => rfl
  have F7 := fun_mk (st := top 15) l7 c7 k7
  have b7 := F7.binds (ps := ["many", "deeds"]) fun _ _ _ _ _ _ us hl => match us, hl with | [_, _], _ => rfl
  have F8 := fun_mk (st := top 16) l8 c8 k8
  have b8 := F8.binds (ps := ["many", "deeds"]) fun _ _ _ _ _ _ us hl => match us, hl with | [_, _], _ => rfl
  have F9 := fun_mk (st := top 17) l9 c9 k9
  have b9 := F9.binds (ps := ["tree", "many", "deeds"]) fun _ _ _ _ _ _ us hl => match us, hl with | [_, _, _], _ => rfl
  have F10 := fun_mk (st := top 18) l10 c10 k10
  have b10 := F10.binds (ps := ["tree"]) fun _ _ _ _ _ _ us hl => match us, hl with | [_], _ => rfl
  have F11 := fun_mk (st := top 19) l11 c11 k11
  have b11 := F11.binds (ps := ["tree"]) fun _ _ _ _ _ _ us hl => match us, hl with | [_], _ => rfl
  have F12 := fun_mk (st := top 20) l12 c12 k12
  have b12 := F12.binds (ps := ["tree", "numbers"]) fun _ _ _ _ _ _ us hl => match us, hl with | [_, _], _ => rfl
  have F13 := fun_mk (st := top 21) l13 c13 k13
  have b13 := F13.binds (ps := ["tree", "numbers"]) fun _ _ _ _ _ _ us hl => match us, hl with | [_, _], _ => rfl
  have F14 := fun_mk (st := top 23) l14 c14 k14
  have b14 := F14.binds (ps := ["script"]) fun _ _ _ _ _ _ us hl => match us, hl with | [_], _ => rfl
  have F15 := fun_mk (st := top 24) l15 c15 k15
  have b15 := F15.binds (ps := ["state", "many"]) fun _ _ _ _ _ _ us hl => match us, hl with | [_, _], _ => rfl
  have F16 := fun_mk (st := top 25) l16 c16 k16
  have b16 := F16.binds (ps := ["state", "some"]) fun _ _ _ _ _ _ us hl => match us, hl with | [_, _], _ => rfl
  have F17 := fun_mk (st := top 26) l17 c17 k17
  have b17 := F17.binds (ps := ["actual", "due"]) fun _ _ _ _ _ _ us hl => match us, hl with | [_, _], _ => rfl
  have F18 := fun_mk (st := top 27) l18 c18 k18
  have b18 := F18.binds (ps := ["state", "depth", "full"]) fun _ _ _ _ _ _ us hl => match us, hl with | [_, _, _], _ => rfl
  have F19 := fun_mk (st := top 28) l19 c19 k19
  have b19 := F19.binds (ps := ["tree"]) fun _ _ _ _ _ _ us hl => match us, hl with | [_], _ => rfl
  have F20 := fun_mk (st := top 29) l20 c20 k20
  have b20 := F20.binds (ps := ["tree", "first"]) fun _ _ _ _ _ _ us hl => match us, hl with | [_, _], _ => rfl
  have F21 := fun_mk (st := top 30) l21 c21 k21
  have b21 := F21.binds (ps := ["tree"]) fun _ _ _ _ _ _ us hl => match us, hl with | [_], _ => rfl
  have F22 := fun_mk (st := top 32) l22 c22 k22
  have b22 := F22.binds (ps := ["many", "deeds"]) fun _ _ _ _ _ _ us hl => match us, hl with | [_, _], _ => rfl
  have F23 := fun_mk (st := top 33) l23 c23 k23
  have b23 := F23.binds (ps := ["tree"]) fun _ _ _ _ _ _ us hl => match us, hl with | [_], _ => rfl
  have F24 := fun_mk (st := top 34) l24 c24 k24
  have b24 := F24.binds (ps := ["tree", "many"]) fun _ _ _ _ _ _ us hl => match us, hl with | [_, _], _ => rfl
  have F25 := fun_mk (st := top 35) l25 c25 k25
  have b25 := F25.binds (ps := ["state", "tree"]) fun _ _ _ _ _ _ us hl => match us, hl with | [_, _], _ => rfl
  have F26 := fun_mk (st := top 36) l26 c26 k26
  have b26 := F26.binds (ps := ["script"]) fun _ _ _ _ _ _ us hl => match us, hl with | [_], _ => rfl
  have Z : Tx K mg ⟨f0, _, f1, _, f2, _, f3, _, f4, _, f5, _, f6, _, f7, _, f8, _, f9, _, f10, _, f11, _, f12, _, f13, _, f14, _, f15, _, f16, _, f17, _, f18, _, f19, _, f20, _, f21, _, f22, _, f23, _, f24, _, f25, _, fa, _⟩ := ⟨⟨PySem.W.mg_of X G a0, k0, b0⟩,
    F0,
    ⟨PySem.W.mg_of X G a1, k1, b1⟩,
    F1,
    ⟨PySem.W.mg_of X G a2, k2, b2⟩,
    F2,
    ⟨PySem.W.mg_of X G a3, k3, b3⟩,
    F3,
    ⟨PySem.W.mg_of X G a4, k4, b4⟩,
    F4,
    ⟨PySem.W.mg_of X G a5, k5, b5⟩,
    F5,
    ⟨PySem.W.mg_of X G a6, k6, b6⟩,
    F6,
    ⟨PySem.W.mg_of X G a7, k7, b7⟩,
    F7,
    ⟨PySem.W.mg_of X G a8, k8, b8⟩,
    F8,
    ⟨PySem.W.mg_of X G a9, k9, b9⟩,
    F9,
    ⟨PySem.W.mg_of X G a10, k10, b10⟩,
    F10,
    ⟨PySem.W.mg_of X G a11, k11, b11⟩,
    F11,
    ⟨PySem.W.mg_of X G a12, k12, b12⟩,
    F12,
    ⟨PySem.W.mg_of X G a13, k13, b13⟩,
    F13,
    ⟨PySem.W.mg_of X G a14, k14, b14⟩,
    F14,
    ⟨PySem.W.mg_of X G a15, k15, b15⟩,
    F15,
    ⟨PySem.W.mg_of X G a16, k16, b16⟩,
    F16,
    ⟨PySem.W.mg_of X G a17, k17, b17⟩,
    F17,
    ⟨PySem.W.mg_of X G a18, k18, b18⟩,
    F18,
    ⟨PySem.W.mg_of X G a19, k19, b19⟩,
    F19,
    ⟨PySem.W.mg_of X G a20, k20, b20⟩,
    F20,
    ⟨PySem.W.mg_of X G a21, k21, b21⟩,
    F21,
    ⟨PySem.W.mg_of X G a22, k22, b22⟩,
    F22,
    ⟨PySem.W.mg_of X G a23, k23, b23⟩,
    F23,
    ⟨PySem.W.mg_of X G a24, k24, b24⟩,
    F24,
    ⟨PySem.W.mg_of X G a25, k25, b25⟩,
    F25,
    ⟨PySem.W.mg_of X G a26, k26, b26⟩,
    F26,
    PySem.W.mg_none_of X G z_abs,
    PySem.W.mg_none_of X G z_all,
    PySem.W.mg_none_of X G z_bool,
    PySem.W.mg_none_of X G z_int,
    PySem.W.mg_none_of X G z_isinstance,
    PySem.W.mg_none_of X G z_len,
    PySem.W.mg_none_of X G z_list,
    PySem.W.mg_none_of X G z_max,
    PySem.W.mg_none_of X G z_range,
    PySem.W.mg_none_of X G z_repr,
    PySem.W.mg_none_of X G z_sorted,
    PySem.W.mg_none_of X G z_tuple,
    ⟨_, PySem.W.mg_of X G q_MAX_DEPTH⟩,
    ⟨_, PySem.W.mg_of X G q_MAX_SPANS⟩⟩
  exact ⟨_, ⟨fun _ => "", fun _ => 0, fun _ => ""⟩, fun s v => .of_eq rfl, fun base _ _ => (al Z 40).g_26⟩
end K39
set_option Elab.async false
set_option linter.all false
set_option maxRecDepth 100000
set_option maxHeartbeats 1000000
namespace K39
open Fz
inductive Tr where
  | leaf (i : Int) | node (a b : Tr)
def Tr.d : Tr → D
  | .leaf i => .int i
  | .node a b => .tup [a.d, b.d]
def Tr.dep : Tr → Nat
  | .leaf _ => 0
  | .node a b => max a.dep b.dep + 1
def nd (a b : Int) : Int := if a = b then a + 1 else if b > a then b else a
def Tr.need : Tr → Int
  | .leaf _ => 1
  | .node a b => nd a.need b.need
theorem s0i {k : Nat} {i : Int} {h : Hh} : run (k + 1) 0 [.d (.int i)] h = .ok (.d (.bl true)) h := by
  rw [run_0]; simp [mkFn, c_0, isD]
theorem s0t {k : Nat} {l : List D} {h : Hh} : run (k + 1) 0 [.d (.tup l)] h = .ok (.d (.bl false)) h := by
  rw [run_0]; simp [mkFn, c_0, isD]
theorem p0i {k : Nat} {i : Int} {h : Hh} : pure' (run (k + 1) 0) [.d (.int i)] h = .ok (.d (.bl true)) h := pure_ok rfl s0i
theorem p0t {k : Nat} {l : List D} {h : Hh} : pure' (run (k + 1) 0) [.d (.tup l)] h = .ok (.d (.bl false)) h := pure_ok rfl s0t
theorem ix0 {a b : D} {h : Hh} : opIx (.d (.tup [a, b])) (.d (.int 0)) h = .ok (.d a) h := rfl
theorem ix1 {a b : D} {h : Hh} : opIx (.d (.tup [a, b])) (.d (.int 1)) h = .ok (.d b) h := rfl
theorem s1 : ∀ (t : Tr) (n k : Nat) (h : Hh), t.dep ≤ n → t.dep + 2 ≤ k → run k 1 [.d t.d, .d (.int n)] h = .ok (.d (.bl true)) h
  | .leaf i, n, k + 2, h, _, _ => by
    rw [run_1]; simp [mkFn, c_1, Tr.d, p0i]
  | .node a b, n, k + 2, h, hn, hk => by
    simp only [Tr.dep] at hn hk
    have e1 := s1 a (n - 1) (k + 1) [] (by omega) (by omega)
    have e2 := s1 b (n - 1) (k + 1) [] (by omega) (by omega)
    have hn0 : ((n : Int) == 0) = false := by simp; omega
    have hs : ((n : Int) - 1) = ((n - 1 : Nat) : Int) := by omega
    rw [run_1]
    simp [mkFn, c_1, Tr.d, p0t, isD, hn0, ix0, ix1, hs, pure_ok rfl e1, pure_ok rfl e2]
  | .leaf i, n, 0, h, _, hk => by simp [Tr.dep] at hk
  | .leaf i, n, 1, h, _, hk => by simp [Tr.dep] at hk
  | .node a b, n, 0, h, _, hk => by simp [Tr.dep] at hk
  | .node a b, n, 1, h, _, hk => by simp [Tr.dep] at hk
theorem p1 {t : Tr} {n k : Nat} {h : Hh} (h1 : t.dep ≤ n) (h2 : t.dep + 2 ≤ k) : pure' (run k 1) [.d t.d, .d (.int n)] h = .ok (.d (.bl true)) h := pure_ok rfl (s1 t n k [] h1 h2)
theorem s2 {t : Tr} {k : Nat} {h : Hh} (h1 : t.dep ≤ 12) (h2 : t.dep + 3 ≤ k) : run k 2 [.d t.d] h = .ok (.d .non) h := by
  obtain ⟨k, rfl⟩ : ∃ j, k = j + 1 := ⟨k - 1, by omega⟩
  rw [run_2]
  have q : pure' (run k 1) [.d t.d, .d (.int 12)] h = .ok (.d (.bl true)) h := p1 (t := t) (n := 12) (k := k) (h := h) h1 (by omega)
  simp [mkFn, c_2, q]
theorem p2 {t : Tr} {k : Nat} {h : Hh} (h1 : t.dep ≤ 12) (h2 : t.dep + 3 ≤ k) : pure' (run k 2) [.d t.d] h = .ok (.d .non) h := pure_ok rfl (s2 h1 h2)
theorem s3 : ∀ (t : Tr) (k : Nat) (h : Hh), t.dep + 1 ≤ k → run k 3 [.d t.d] h = .ok (.d (.int t.need)) h
  | .leaf i, k + 1, h, _ => by
    rw [run_3]; simp [mkFn, c_3, Tr.d, isD, Tr.need]
  | .node a b, k + 1, h, hk => by
    simp only [Tr.dep] at hk
    have e1 := s3 a k [] (by omega)
    have e2 := s3 b k [] (by omega)
    rw [run_3]
    by_cases q : a.need = b.need <;> simp [mkFn, c_3, Tr.d, isD, Tr.need, ix0, ix1, pure_ok rfl e1, pure_ok rfl e2, nd, q]
  | .leaf i, 0, h, hk => by omega
  | .node a b, 0, h, hk => by omega
theorem p3 {t : Tr} {k : Nat} {h : Hh} (h2 : t.dep + 1 ≤ k) : pure' (run k 3) [.d t.d] h = .ok (.d (.int t.need)) h := pure_ok rfl (s3 t k [] h2)
theorem s4 {t : Tr} {k : Nat} {h : Hh} (h1 : t.dep ≤ 12) (h2 : t.dep + 4 ≤ k) : run k 4 [.d t.d] h = .ok (.d (.int t.need)) h := by
  obtain ⟨k, rfl⟩ : ∃ j, k = j + 1 := ⟨k - 1, by omega⟩
  rw [run_4]
  simp [mkFn, c_4, p2 (t := t) (k := k) h1 (by omega), p3 (t := t) (k := k) (by omega)]
/-- the told deeds -/
def row3 (r : Int) (v : D) : D := .tup [.str [108, 111, 97, 100], .int r, v]
def row4 (r a b : Int) : D := .tup [.str [106, 111, 105, 110], .int r, .int a, .int b]
def Tr.deeds : Tr → Int → List D
  | .leaf i, f => [row3 f (.int i)]
  | .node a b, f => if a.need < b.need then b.deeds f ++ a.deeds (f + 1) ++ [row4 f (f + 1) f] else a.deeds f ++ b.deeds (f + 1) ++ [row4 f f (f + 1)]
def Tr.size : Tr → Nat
  | .leaf _ => 1
  | .node a b => a.size + b.size + 1
theorem deeds_len : ∀ (t : Tr) (f : Int), (t.deeds f).length = t.size
  | .leaf _, _ => rfl
  | .node a b, f => by
    unfold Tr.deeds Tr.size
    split <;> simp [deeds_len a, deeds_len b] <;> omega
theorem size_le : ∀ t : Tr, t.size + 1 ≤ 2 ^ (t.dep + 1)
  | .leaf _ => by simp [Tr.size, Tr.dep]
  | .node a b => by
    have h1 := size_le a
    have h2 := size_le b
    have m1 : 2 ^ (a.dep + 1) ≤ 2 ^ (max a.dep b.dep + 1) := Nat.pow_le_pow_right (by decide) (by omega)
    have m2 : 2 ^ (b.dep + 1) ≤ 2 ^ (max a.dep b.dep + 1) := Nat.pow_le_pow_right (by decide) (by omega)
    simp only [Tr.size, Tr.dep]
    rw [Nat.pow_succ 2 (max a.dep b.dep + 1)]
    omega
theorem size_small {t : Tr} (h : t.dep ≤ 12) : t.size ≤ 8191 := by
  have := size_le t
  have : 2 ^ (t.dep + 1) ≤ 2 ^ 13 := Nat.pow_le_pow_right (by decide) (by omega)
  omega
theorem need_pos : ∀ t : Tr, 1 ≤ t.need
  | .leaf _ => by simp [Tr.need]
  | .node a b => by
    have := need_pos a
    have := need_pos b
    simp only [Tr.need, nd]
    split
    · omega
    · split <;> omega
theorem need_le : ∀ t : Tr, t.need ≤ t.dep + 1
  | .leaf _ => by simp [Tr.need, Tr.dep]
  | .node a b => by
    have := need_le a
    have := need_le b
    simp only [Tr.need, nd, Tr.dep]
    split
    · omega
    · split <;> omega
/-- registers f, f + 1, .. -/
def free (f : Int) (n : Nat) : List D := (List.range n).map fun (i : Nat) => .int (f + i)
theorem free_get {f : Int} {n j : Nat} (h : j < n) : (free f n)[j]? = some (.int (f + j)) := by
  simp [free, List.getElem?_map, List.getElem?_range h]
theorem free_drop {f : Int} {n : Nat} : (free f (n + 1)).drop 1 = free (f + 1) n := by
  unfold free
  rw [List.range_succ_eq_map, List.map_cons, List.map_map]
  simp only [List.drop_succ_cons, List.drop_zero]
  refine List.map_congr_left fun i _ => ?_
  simp only [Function.comp]
  congr 1
  omega
theorem fr0 {f : Int} {n : Nat} {h : Hh} : opIx (.d (.lst (free f (n + 1)))) (.d (.int 0)) h = .ok (.d (.int f)) h := by
  have := ix_l (l := free f (n + 1)) (j := 0) (h := h) (free_get (by omega))
  simpa using this
theorem fr1 {f : Int} {n : Nat} {h : Hh} : opIx (.d (.lst (free f (n + 2)))) (.d (.int 1)) h = .ok (.d (.int (f + 1))) h := by
  have := ix_l (l := free f (n + 2)) (j := 1) (h := h) (free_get (by omega))
  simpa using this
theorem frS {f : Int} {n : Nat} {h : Hh} (hn : n ≤ 16777216) : opSl false (.d (.lst (free f (n + 1)))) (some 1) none h = .ok (.d (.lst (free (f + 1) n))) h := by
  have e : cut ((free f (n + 1)).map W.d) (some 1) none = (free (f + 1) n).map .d := by
    have := cut_from (l := (free f (n + 1)).map W.d) (j := 1) (by simp [free])
    rw [← List.map_drop, free_drop] at this
    exact this
  simp only [opSl, lstW, e, fin, mkL, allD_map]
  rw [if_neg Bool.false_ne_true, if_pos (by simp [free]; exact hn)]
theorem addL {a b : List D} {h : Hh} (hl : (a ++ b).length ≤ 16777216) : opAdd false (.d (.lst a)) (.d (.lst b)) h = .ok (.d (.lst (a ++ b))) h := by
  simp only [opAdd, lstW, ← List.map_append, fin, mkL, allD_map]
  rw [if_neg Bool.false_ne_true, if_pos hl]
theorem mkT_d {l : List D} {h : Hh} (hl : l.length ≤ 16777216) : mkT (l.map .d) h = .ok (.d (.tup l)) h := by
  unfold mkT; rw [allD_map]; dsimp only; rw [if_pos hl]
theorem s5 : ∀ (t : Tr) (f : Int) (n k : Nat) (h : Hh), t.dep ≤ 12 → t.need ≤ n → n ≤ 100 → t.dep + 2 ≤ k → run k 5 [.d t.d, .d (.lst (free f n))] h = .ok (.d (.lst (t.deeds f))) h
  | .leaf i, f, n, k + 1, h, _, hn, hb, hk => by
    simp only [Tr.need] at hn
    obtain ⟨n, rfl⟩ : ∃ j, n = j + 1 := ⟨n - 1, by omega⟩
    rw [run_5]
    simp [mkFn, c_5, Tr.d, isD, fr0, mkT, mkL, Tr.deeds, row3]
  | .node a b, f, n, k + 1, h, hd, hn, hb, hk => by
    simp only [Tr.dep] at hk hd
    have pa := need_pos a
    have pb := need_pos b
    have na := p3 (t := a) (k := k) (h := h) (by omega)
    have nb := p3 (t := b) (k := k) (h := h) (by omega)
    have sz := size_small (t := .node a b) (by simp only [Tr.dep]; omega)
    simp only [Tr.size] at sz
    rw [run_5]
    by_cases q : a.need < b.need
    · have hn' : b.need ≤ n ∧ a.need + 1 ≤ n := by
        simp only [Tr.need, nd] at hn
        rw [if_neg (by omega), if_pos q] at hn
        omega
      obtain ⟨n, rfl⟩ : ∃ j, n = j + 2 := ⟨n - 2, by omega⟩
      have e1 := pure_ok (h := h) rfl (s5 b f (n + 2) k [] (by omega) hn'.1 hb (by omega))
      have e2 := pure_ok (h := h) rfl (s5 a (f + 1) (n + 1) k [] (by omega) (by omega) (by omega) (by omega))
      have l1 := addL (a := b.deeds f) (b := a.deeds (f + 1)) (h := h) (by simp [deeds_len]; omega)
      have l2 := addL (a := b.deeds f ++ a.deeds (f + 1)) (b := [row4 f (f + 1) f]) (h := h) (by simp [deeds_len]; omega)
      simp only [row4, List.append_assoc] at l2
      simp [mkFn, c_5, Tr.d, isD, na, nb, q, fr0, fr1, cSl, oS, oN, frS, e1, e2, l1, l2, mkT, mkL, Tr.deeds, row4, show n + 1 ≤ 16777216 by omega, show ¬ b.need ≤ a.need by omega]
    · have hn' : a.need ≤ n ∧ b.need + 1 ≤ n := by
        simp only [Tr.need, nd] at hn
        by_cases q2 : a.need = b.need
        · rw [if_pos q2] at hn; omega
        · rw [if_neg q2, if_neg q] at hn; omega
      obtain ⟨n, rfl⟩ : ∃ j, n = j + 2 := ⟨n - 2, by omega⟩
      have e1 := pure_ok (h := h) rfl (s5 a f (n + 2) k [] (by omega) hn'.1 hb (by omega))
      have e2 := pure_ok (h := h) rfl (s5 b (f + 1) (n + 1) k [] (by omega) (by omega) (by omega) (by omega))
      have l1 := addL (a := a.deeds f) (b := b.deeds (f + 1)) (h := h) (by simp [deeds_len]; omega)
      have l2 := addL (a := a.deeds f ++ b.deeds (f + 1)) (b := [row4 f f (f + 1)]) (h := h) (by simp [deeds_len]; omega)
      simp only [row4, List.append_assoc] at l2
      simp [mkFn, c_5, Tr.d, isD, na, nb, q, fr0, fr1, cSl, oS, oN, frS, e1, e2, l1, l2, mkT, mkL, Tr.deeds, row4, show n + 1 ≤ 16777216 by omega, show b.need ≤ a.need by omega]
  | .leaf i, f, n, 0, h, _, hn, hb, hk => by omega
  | .node a b, f, n, 0, h, _, hn, hb, hk => by omega
theorem s6 {t : Tr} {k : Nat} {h : Hh} (h1 : t.dep ≤ 12) (h2 : t.dep + 4 ≤ k) : run k 6 [.d t.d] h = .ok (.d (.tup (t.deeds 0))) h := by
  obtain ⟨k, rfl⟩ : ∃ j, k = j + 1 := ⟨k - 1, by omega⟩
  have nl := need_le t
  have np := need_pos t
  rw [run_6]
  have e3 := p3 (t := t) (k := k) (h := h) (by omega)
  have ef : lrg false [.d (.int t.need)] h = .ok (.d (.lst (free 0 t.need.toNat))) h := by
    unfold lrg
    dsimp only
    rw [if_pos (by omega)]
    have : ((List.range t.need.toNat).map fun (i : Nat) => W.d (D.int i)) = (free 0 t.need.toNat).map .d := by
      unfold free; rw [List.map_map]; refine List.map_congr_left fun i _ => ?_; simp
    rw [this]
    simp only [fin, mkL, allD_map]
    rw [if_neg Bool.false_ne_true, if_pos (by simp [free]; omega)]
  have e5 := pure_ok (h := h) rfl (s5 t 0 t.need.toNat k [] h1 (by omega) (by omega) (by omega))
  have sz := size_small h1
  have et : biTuple [.d (.lst (t.deeds 0))] h = .ok (.d (.tup (t.deeds 0))) h := by
    show (match lstW (.d (.lst (t.deeds 0))) h with
      | some l => mkT l h
      | none => .no) = _
    simp only [lstW]
    exact mkT_d (by rw [deeds_len]; omega)
  simp [mkFn, c_6, p2 (t := t) (k := k) h1 (by omega), cLr, e3, ef, e5, et]
/-! ### running deeds -/
theorem eq_ll {h : Hh} : opEq false (.d (.str [108, 111, 97, 100])) (.d (.str [108, 111, 97, 100])) h = .ok (.d (.bl true)) h := rfl
theorem eq_jl {h : Hh} : opEq false (.d (.str [106, 111, 105, 110])) (.d (.str [108, 111, 97, 100])) h = .ok (.d (.bl false)) h := rfl
theorem eq_jj {h : Hh} : opEq false (.d (.str [106, 111, 105, 110])) (.d (.str [106, 111, 105, 110])) h = .ok (.d (.bl true)) h := rfl
theorem in3 {h : Hh} : opIn true (.d (.int 3)) (.d (.tup [.int 3, .int 4])) h = .ok (.d (.bl false)) h := rfl
theorem in4 {h : Hh} : opIn true (.d (.int 4)) (.d (.tup [.int 3, .int 4])) h = .ok (.d (.bl false)) h := rfl
theorem t30 {a b c : D} {h : Hh} : opIx (.d (.tup [a, b, c])) (.d (.int 0)) h = .ok (.d a) h := rfl
theorem t31 {a b c : D} {h : Hh} : opIx (.d (.tup [a, b, c])) (.d (.int 1)) h = .ok (.d b) h := rfl
theorem t32 {a b c : D} {h : Hh} : opIx (.d (.tup [a, b, c])) (.d (.int 2)) h = .ok (.d c) h := rfl
theorem t40 {a b c d : D} {h : Hh} : opIx (.d (.tup [a, b, c, d])) (.d (.int 0)) h = .ok (.d a) h := rfl
theorem t41 {a b c d : D} {h : Hh} : opIx (.d (.tup [a, b, c, d])) (.d (.int 1)) h = .ok (.d b) h := rfl
theorem t42 {a b c d : D} {h : Hh} : opIx (.d (.tup [a, b, c, d])) (.d (.int 2)) h = .ok (.d c) h := rfl
theorem t43 {a b c d : D} {h : Hh} : opIx (.d (.tup [a, b, c, d])) (.d (.int 3)) h = .ok (.d d) h := rfl
theorem all3 {k : Nat} {i j : Int} {e0 e1 e2 x4 x5 : Option W} {r : D} {h : Hh} : cLc false [4] (cIt (cSl false (cv 3) (oS (cc (.int 1))) oN)) (yN (tN 4)) bYes (cCall true 1 (run (k + 1) 0) (aCons (cv 4) aNil)) [e0, e1, e2, some (.d (.tup [r, .int i, .int j])), x4, x5] h = .ok (.d (.lst [.bl true, .bl true])) h := by
  rw [cLc_fix (l := [.w (.d (.int i)), .w (.d (.int j))]) (h' := h) (by rfl)]
  simp [lcL, ew, yN, yw, bYes, p0i, noX, fin, mkL]
theorem all4 {k : Nat} {i j l : Int} {e0 e1 e2 x4 x5 : Option W} {r : D} {h : Hh} : cLc false [4] (cIt (cSl false (cv 3) (oS (cc (.int 1))) oN)) (yN (tN 4)) bYes (cCall true 1 (run (k + 1) 0) (aCons (cv 4) aNil)) [e0, e1, e2, some (.d (.tup [r, .int i, .int j, .int l])), x4, x5] h = .ok (.d (.lst [.bl true, .bl true, .bl true])) h := by
  rw [cLc_fix (l := [.w (.d (.int i)), .w (.d (.int j)), .w (.d (.int l))]) (h' := h) (by rfl)]
  simp [lcL, ew, yN, yw, bYes, p0i, noX, fin, mkL]
theorem alls2 {h : Hh} : biAll [.d (.lst [.bl true, .bl true])] h = .ok (.d (.bl true)) h := rfl
theorem alls3 {h : Hh} : biAll [.d (.lst [.bl true, .bl true, .bl true])] h = .ok (.d (.bl true)) h := rfl
theorem row_load {k m f n : Nat} {i : Int} {g : List W} {T : Option W} {x4 x5 : Option W} {h : Hh} (hn : h[n]? = some (.lst g)) (hf : f < m) (hm : g.length = m) :
    c_8_0 (run (k + 1)) [some (.d (.int m)), T, some (.r n), some (.d (row3 f (.int i))), x4, x5] h = .nx [some (.d (.int m)), T, some (.r n), some (.d (row3 f (.int i))), x4, x5] (h.set n (.lst (g.set f (.d (.int i))))) := by
  simp [c_8_0, row3, isD, mkT, in3, all3, alls2, cch, t30, t31, t32, eq_ll, set_r hn (show f < g.length by omega), hf]
theorem sh_d : ∀ (t : Tr) (n : Nat), t.dep ≤ n → sh n t.d = true
  | .leaf _, n, _ => by cases n <;> rfl
  | .node a b, 0, h => by simp [Tr.dep] at h
  | .node a b, n + 1, h => by
    simp only [Tr.dep] at h
    simp [Tr.d, sh, sh_d a n (by omega), sh_d b n (by omega)]
theorem eqv_non : ∀ t : Tr, D.eqv t.d .non = false
  | .leaf _ => rfl
  | .node _ _ => rfl
theorem none_no {a b : Tr} {h : Hh} (ha : a.dep ≤ 12) (hb : b.dep ≤ 12) : opIn false (.d .non) (.d (.tup [a.d, b.d])) h = .ok (.d (.bl false)) h := by
  simp [opIn, valD, D.items, sh, sh_d a 63 (by omega), sh_d b 63 (by omega), eqv_non]
theorem row_join {k m f n p q : Nat} {a b : Tr} {g : List W} {T : Option W} {x4 x5 : Option W} {h : Hh} (hn : h[n]? = some (.lst g)) (hf : f < m) (hp : g[p]? = some (.d a.d)) (hq : g[q]? = some (.d b.d)) (hm : g.length = m) (ha : (Tr.node a b).dep ≤ 12) (hk : 14 ≤ k) :
    c_8_0 (run (k + 1)) [some (.d (.int m)), T, some (.r n), some (.d (row4 f p q)), x4, x5] h = .nx [some (.d (.int m)), T, some (.r n), some (.d (row4 f p q)), x4, some (.d (.tup [a.d, b.d]))] (h.set n (.lst (g.set f (.d (.tup [a.d, b.d]))))) := by
  have hp' := (List.getElem?_eq_some_iff.mp hp).1
  have hq' := (List.getElem?_eq_some_iff.mp hq).1
  simp only [Tr.dep] at ha
  have e1 : pure' (run (k + 1) 1) [.d (.tup [a.d, b.d]), .d (.int 12)] h = .ok (.d (.bl true)) h := p1 (t := .node a b) (n := 12) (k := k + 1) (h := h) (by simp only [Tr.dep]; omega) (by simp only [Tr.dep]; omega)
  simp [c_8_0, row4, isD, mkT, in4, all4, alls3, cch, t40, t41, t42, t43, eq_jl, eq_jj, set_r hn (show f < g.length by omega), hf, show p < m by omega, show q < m by omega, ix_r hn hp, ix_r hn hq, none_no (a := a) (b := b) (by omega) (by omega), e1]
/-- registers behind the deeds -/
def Tr.ex : Tr → Nat → List W → List W
  | .leaf i, f, g => g.set f (.d (.int i))
  | .node a b, f, g => (if a.need < b.need then a.ex (f + 1) (b.ex f g) else b.ex (f + 1) (a.ex f g)).set f (.d (.tup [a.d, b.d]))
theorem ex_len : ∀ (t : Tr) (f : Nat) (g : List W), (t.ex f g).length = g.length
  | .leaf _, f, g => by simp [Tr.ex]
  | .node a b, f, g => by
    unfold Tr.ex
    rw [List.length_set]
    split
    · rw [ex_len a, ex_len b]
    · rw [ex_len b, ex_len a]
theorem ex_low : ∀ (t : Tr) (f j : Nat) (g : List W), j < f → (t.ex f g)[j]? = g[j]?
  | .leaf _, f, j, g, h => by
    unfold Tr.ex
    exact List.getElem?_set_ne (by omega)
  | .node a b, f, j, g, h => by
    unfold Tr.ex
    rw [List.getElem?_set_ne (by omega)]
    split
    · rw [ex_low a _ _ _ (by omega), ex_low b _ _ _ h]
    · rw [ex_low b _ _ _ (by omega), ex_low a _ _ _ h]
theorem ex_at : ∀ (t : Tr) (f : Nat) (g : List W), f < g.length → (t.ex f g)[f]? = some (.d t.d)
  | .leaf _, f, g, h => by
    unfold Tr.ex
    rw [List.getElem?_set_self h]
    rfl
  | .node a b, f, g, h => by
    unfold Tr.ex
    have : f < (if a.need < b.need then a.ex (f + 1) (b.ex f g) else b.ex (f + 1) (a.ex f g)).length := by
      split
      · rw [ex_len, ex_len]; exact h
      · rw [ex_len, ex_len]; exact h
    rw [List.getElem?_set_self this]
    rfl
def ys (l : List D) : List Y := l.map fun x => .w (.d x)
theorem run8 {k m n : Nat} {T : Option W} (hk : 14 ≤ k) : ∀ (t : Tr) (f : Nat) (g : List W) (h : Hh) (x3 x4 x5 : Option W), t.dep ≤ 12 → h[n]? = some (.lst g) → g.length = m → (f : Int) + t.need ≤ m →
    ∃ y3 y5, forK (yN (tN 3)) (c_8_0 (run (k + 1))) (ys (t.deeds f)) [some (.d (.int m)), T, some (.r n), x3, x4, x5] h = .nx [some (.d (.int m)), T, some (.r n), y3, x4, y5] (h.set n (.lst (t.ex f g)))
  | .leaf i, f, g, h, x3, x4, x5, hd, hn, hm, hf => by
    simp only [Tr.need] at hf
    refine ⟨some (.d (row3 f (.int i))), x5, ?_⟩
    exact forK_one (by simp [ys, yN, yw]) (row_load hn (by omega) hm)
  | .node a b, f, g, h, x3, x4, x5, hd, hn, hm, hf => by
    have hd' := hd
    simp only [Tr.dep] at hd
    have pa := need_pos a
    have pb := need_pos b
    have hl : n < h.length := (List.getElem?_eq_some_iff.mp hn).1
    unfold Tr.deeds Tr.ex
    by_cases q : a.need < b.need
    · have hn' : (f : Int) + b.need ≤ m ∧ (f : Int) + 1 + a.need ≤ m := by
        simp only [Tr.need, nd] at hf
        rw [if_neg (by omega), if_pos q] at hf
        omega
      rw [if_pos q, if_pos q]
      obtain ⟨y3, y5, e1⟩ := run8 (m := m) (n := n) (T := T) hk b f g h x3 x4 x5 (by omega) hn hm hn'.1
      obtain ⟨z3, z5, e2⟩ := run8 (m := m) (n := n) (T := T) hk a (f + 1) (b.ex f g) (h.set n (.lst (b.ex f g))) y3 x4 y5 (by omega) (by rw [List.getElem?_set_self hl]) (by simpa [ex_len] using hm) (by push_cast; omega)
      rw [List.set_set] at e2
      have e3 := row_join (k := k) (m := m) (f := f) (n := n) (p := f + 1) (q := f) (a := a) (b := b) (g := a.ex (f + 1) (b.ex f g)) (T := T) (x4 := x4) (x5 := z5) (h := h.set n (.lst (a.ex (f + 1) (b.ex f g)))) (by rw [List.getElem?_set_self hl]) (by omega)
        (ex_at a _ _ (by rw [ex_len, hm]; omega)) (by rw [ex_low a _ _ _ (by omega)]; exact ex_at b _ _ (by omega)) (by rw [ex_len, ex_len]; exact hm) hd' hk
      rw [List.set_set] at e3
      refine ⟨some (.d (row4 f (f + 1) f)), some (.d (.tup [a.d, b.d])), ?_⟩
      unfold ys at e1 e2 ⊢
      rw [List.map_append, List.map_append, forK_app, forK_app, e1, SR.bind_nx]
      push_cast at e2 e3
      rw [e2, SR.bind_nx]
      exact forK_one (by simp [yN, yw]) e3
    · have hn' : (f : Int) + a.need ≤ m ∧ (f : Int) + 1 + b.need ≤ m := by
        simp only [Tr.need, nd] at hf
        by_cases q2 : a.need = b.need
        · rw [if_pos q2] at hf; omega
        · rw [if_neg q2, if_neg q] at hf; omega
      rw [if_neg q, if_neg q]
      obtain ⟨y3, y5, e1⟩ := run8 (m := m) (n := n) (T := T) hk a f g h x3 x4 x5 (by omega) hn hm hn'.1
      obtain ⟨z3, z5, e2⟩ := run8 (m := m) (n := n) (T := T) hk b (f + 1) (a.ex f g) (h.set n (.lst (a.ex f g))) y3 x4 y5 (by omega) (by rw [List.getElem?_set_self hl]) (by simpa [ex_len] using hm) (by push_cast; omega)
      rw [List.set_set] at e2
      have e3 := row_join (k := k) (m := m) (f := f) (n := n) (p := f) (q := f + 1) (a := a) (b := b) (g := b.ex (f + 1) (a.ex f g)) (T := T) (x4 := x4) (x5 := z5) (h := h.set n (.lst (b.ex (f + 1) (a.ex f g)))) (by rw [List.getElem?_set_self hl]) (by omega)
        (by rw [ex_low b _ _ _ (by omega)]; exact ex_at a _ _ (by omega)) (ex_at b _ _ (by rw [ex_len, hm]; omega)) (by rw [ex_len, ex_len]; exact hm) hd' hk
      rw [List.set_set] at e3
      refine ⟨some (.d (row4 f f (f + 1))), some (.d (.tup [a.d, b.d])), ?_⟩
      unfold ys at e1 e2 ⊢
      rw [List.map_append, List.map_append, forK_app, forK_app, e1, SR.bind_nx]
      push_cast at e2 e3
      rw [e2, SR.bind_nx]
      exact forK_one (by simp [yN, yw]) e3
def nones (m : Nat) : List W := List.replicate m (.d .non)
theorem mul_nones {m : Nat} {h : Hh} (hm : m ≤ 100) : opMul true (.r h.length) (.d (.int m)) (h ++ [.lst [.d .non]]) = .ok (.r (h.length + 1)) (h ++ [.lst [.d .non], .lst (nones m)]) := by
  have e : (List.replicate m [W.d D.non]).flatten = nones m := by
    unfold nones
    induction m with
    | zero => rfl
    | succ m ih => rw [List.replicate_succ, List.flatten_cons, ih (by omega)]; rfl
  simp [opMul, fin, mkM, e, nones, show (m : Int) < 9223372036854775808 by omega, show -(9223372036854775808 : Int) ≤ m by omega, show m ≤ 16777216 by omega]
/-- run_of: the list of what the registers have is the second of two new things -/
theorem s8 {t : Tr} {k m : Nat} {h : Hh} (hd : t.dep ≤ 12) (hm : (m : Int) = t.need) (hk : 15 ≤ k) : run (k + 1) 8 [.d (.int m), .d (.tup (t.deeds 0))] h = .ok (.r (h.length + 1)) (h ++ [.lst [.d .non], .lst (t.ex 0 (nones m))]) := by
  have nl := need_le t
  obtain ⟨k, rfl⟩ : ∃ j, k = j + 1 := ⟨k - 1, by omega⟩
  obtain ⟨y3, y5, e⟩ := run8 (k := k) (m := m) (n := h.length + 1) (T := some (.d (.tup (t.deeds 0)))) (by omega) t 0 (nones m) (h ++ [.lst [.d .non], .lst (nones m)]) none none none hd (by simp) (by simp [nones]) (by omega)
  have es : sFor (cIt (cv 1)) (yN (tN 3)) (c_8_0 (run (k + 1))) [some (.d (.int m)), some (.d (.tup (t.deeds 0))), some (.r (h.length + 1)), none, none, none] (h ++ [.lst [.d .non], .lst (nones m)]) = _ := sFor_K (l := ys (t.deeds 0)) (h' := h ++ [.lst [.d .non], .lst (nones m)]) rfl
  change forK (yN (tN 3)) (c_8_0 (run (k + 1))) (ys (t.deeds 0)) _ _ = _ at e
  rw [e] at es
  rw [run_8]
  simp [mkFn, c_8, isD, mkM, mul_nones (show m ≤ 100 by omega), es, unbk]
def Tr.exD : Tr → Nat → List D → List D
  | .leaf i, f, g => g.set f (.int i)
  | .node a b, f, g => (if a.need < b.need then a.exD (f + 1) (b.exD f g) else b.exD (f + 1) (a.exD f g)).set f (.tup [a.d, b.d])
theorem ex_map : ∀ (t : Tr) (f : Nat) (g : List D), t.ex f (g.map .d) = (t.exD f g).map .d
  | .leaf i, f, g => by simp [Tr.ex, Tr.exD, List.map_set]
  | .node a b, f, g => by
    unfold Tr.ex Tr.exD
    split
    · rw [ex_map b, ex_map a, List.map_set]
    · rw [ex_map a, ex_map b, List.map_set]
theorem nones_map (m : Nat) : nones m = (List.replicate m D.non).map .d := by simp [nones]
/-- what the registers have -/
def Tr.regs (t : Tr) : List D := t.exD 0 (List.replicate t.need.toNat .non)
theorem exD_len (t : Tr) (f : Nat) (g : List D) : (t.exD f g).length = g.length := by
  have := ex_len t f (g.map .d)
  rw [ex_map] at this
  simpa using this
theorem regs_eq {t : Tr} {m : Nat} (hm : (m : Int) = t.need) : t.ex 0 (nones m) = t.regs.map .d := by
  have e : t.need.toNat = m := by omega
  rw [nones_map, ex_map]
  unfold Tr.regs
  rw [e]
theorem regs_at {t : Tr} : t.regs[0]? = some t.d := by
  have np := need_pos t
  have := ex_at t 0 (nones t.need.toNat) (by simp [nones]; omega)
  rw [regs_eq (by omega), List.getElem?_map, Option.map_eq_some_iff] at this
  obtain ⟨x, h1, h2⟩ := this
  cases h2
  exact h1
theorem regs_len {t : Tr} : t.regs.length = t.need.toNat := by simp [Tr.regs, exD_len]
theorem tup_r {n : Nat} {l : List D} {h : Hh} (hn : h[n]? = some (.lst (l.map .d))) (hl : l.length ≤ 16777216) : biTuple [.r n] h = .ok (.d (.tup l)) h := by
  show (match lstW (.r n) h with
    | some l => mkT l h
    | none => .no) = _
  simp only [lstW, hn]
  exact mkT_d hl
theorem s7 {t : Tr} {k m : Nat} {h : Hh} (hd : t.dep ≤ 12) (hm : (m : Int) = t.need) (hk : 16 ≤ k) : run (k + 1) 7 [.d (.int m), .d (.tup (t.deeds 0))] h = .ok (.d (.tup t.regs)) (h ++ [.lst [.d .non], .lst (t.regs.map .d)]) := by
  have nl := need_le t
  obtain ⟨k, rfl⟩ : ∃ j, k = j + 1 := ⟨k - 1, by omega⟩
  have e8 := s8 (h := h) hd hm (show 15 ≤ k by omega)
  rw [regs_eq hm] at e8
  have et : biTuple [.r (h.length + 1)] (h ++ [.lst [.d .non], .lst (t.regs.map .d)]) = .ok (.d (.tup t.regs)) (h ++ [.lst [.d .non], .lst (t.regs.map .d)]) := tup_r (by simp) (by rw [regs_len]; omega)
  rw [run_7]
  simp [mkFn, c_7, p0i, cch, e8, opNone, W.isN, show (m : Int) ≤ 60 by omega, et]
/-! ### accepting -/
theorem s9 {t : Tr} {k m : Nat} {h : Hh} (hd : t.dep ≤ 12) (hm : (m : Int) = t.need) (hk : 16 ≤ k) : run (k + 1) 9 [.d t.d, .d (.int m), .d (.tup (t.deeds 0))] h = .ok (.d .non) (h ++ [.lst [.d .non], .lst (t.regs.map .d)]) := by
  have nl := need_le t
  have np := need_pos t
  obtain ⟨k, rfl⟩ : ∃ j, k = j + 1 := ⟨k - 1, by omega⟩
  have e8 := s8 (h := h) hd hm (show 15 ≤ k by omega)
  rw [regs_eq hm] at e8
  have e2 := p2 (t := t) (k := k + 1) (h := h) hd (by omega)
  have ra := regs_at (t := t)
  have ex : opIx (.r (h.length + 1)) (.d (.int 0)) (h ++ [.lst [.d .non], .lst (t.regs.map .d)]) = .ok (.d t.d) (h ++ [.lst [.d .non], .lst (t.regs.map .d)]) := ix_r (j := 0) (l := t.regs.map .d) (by simp) (by rw [List.getElem?_map, ra]; rfl)
  have tr : tru (.r (h.length + 1)) (h ++ [.lst [.d .non], .lst (t.regs.map .d)]) = .ok true (h ++ [.lst [.d .non], .lst (t.regs.map .d)]) := by
    have : t.regs ≠ [] := fun e => by rw [e] at ra; cases ra
    simp [tru, this]
  have eq : opEq true (.d t.d) (.d t.d) (h ++ [.lst [.d .non], .lst (t.regs.map .d)]) = .ok (.d (.bl false)) (h ++ [.lst [.d .non], .lst (t.regs.map .d)]) := by
    simp [opEq, valD, sh_d t 64 (by omega), eqv_refl]
  rw [run_9]
  simp [mkFn, c_9, p0i, cch, e8, opNone, W.isN, show (m : Int) ≤ 60 by omega, e2, tr, ex, eq]
def Tr.nums : Tr → D
  | .leaf _ => .int 1
  | .node a b => .tup [.int (nd a.need b.need), a.nums, b.nums]
theorem s11 : ∀ (t : Tr) (k : Nat) (h : Hh), t.dep + 2 ≤ k → run k 11 [.d t.d] h = .ok (.d t.nums) h
  | .leaf i, k + 1, h, _ => by
    rw [run_11]; simp [mkFn, c_11, Tr.d, isD, Tr.nums]
  | .node a b, k + 1, h, hk => by
    have e0 := p3 (t := .node a b) (k := k) (h := h) (by omega)
    simp only [Tr.dep] at hk
    have e1 := pure_ok (h := h) rfl (s11 a k [] (by omega))
    have e2 := pure_ok (h := h) rfl (s11 b k [] (by omega))
    simp only [Tr.d, Tr.need] at e0
    rw [run_11]
    simp [mkFn, c_11, Tr.d, isD, Tr.nums, ix0, ix1, e0, e1, e2, mkT]
  | .leaf i, 0, h, hk => by omega
  | .node a b, 0, h, hk => by omega
theorem s10 {t : Tr} {k : Nat} {h : Hh} (h1 : t.dep ≤ 12) (h2 : t.dep + 4 ≤ k) : run k 10 [.d t.d] h = .ok (.d t.nums) h := by
  obtain ⟨k, rfl⟩ : ∃ j, k = j + 1 := ⟨k - 1, by omega⟩
  rw [run_10]
  simp [mkFn, c_10, p2 (t := t) (k := k) h1 (by omega), pure_ok (h := h) rfl (s11 t k [] (by omega))]
theorem t3T {a b c : D} {h : Hh} : cIt (cSl false (cv 1) (oS (cc (.int 1))) oN) [some (.d a), some (.d (.tup [a, b, c]))] h = .ok (fixS [.w (.d b), .w (.d c)]) h := rfl
theorem ixh {x : D} {l : List D} {h : Hh} : opIx (.d (.tup (x :: l))) (.d (.int 0)) h = .ok (.d x) h := by
  have := ix_t (l := x :: l) (j := 0) (x := x) (h := h) rfl
  simpa using this
/-- a number, or a row that begins with one -/
theorem nums_first : ∀ (t : Tr), (∃ x l, t.nums = .tup (.int x :: l) ∧ x = t.need) ∨ (t.nums = .int 1 ∧ t.need = 1)
  | .leaf _ => .inr ⟨rfl, rfl⟩
  | .node a b => .inl ⟨_, _, rfl, rfl⟩
theorem s13 : ∀ (t : Tr) (k : Nat) (h : Hh), t.dep + 2 ≤ k → run k 13 [.d t.d, .d t.nums] h = .ok (.d (.bl true)) h
  | .leaf i, k + 2, h, _ => by
    rw [run_13]; simp [mkFn, c_13, Tr.d, isD, Tr.nums, p0i]
  | .node a b, k + 2, h, hk => by
    simp only [Tr.dep] at hk
    have e1 := pure_ok (h := h) rfl (s13 a (k + 1) [] (by omega))
    have e2 := pure_ok (h := h) rfl (s13 b (k + 1) [] (by omega))
    have el : ∀ {x y z w : Option W}, cLc false [4] (cIt (cSl false (cv 1) (oS (cc (.int 1))) oN)) (yN (tN 4)) bYes (cIf (cT (cCall true 1 (run (k + 1) 0) (aCons (cv 4) aNil))) (cv 4) (c2 opIx (cv 4) (cc (.int 0)))) [x, some (.d (.tup [.int (nd a.need b.need), a.nums, b.nums])), y, z, w] h = .ok (.d (.lst [.int a.need, .int b.need])) h := by
      intro x y z w
      rw [cLc_fix (l := [.w (.d a.nums), .w (.d b.nums)]) (h' := h) (by rfl)]
      rcases nums_first a with ⟨xa, la, ea, na⟩ | ⟨ea, na⟩ <;> rcases nums_first b with ⟨xb, lb, eb, nb⟩ | ⟨eb, nb⟩ <;>
        simp [lcL, ew, yN, yw, bYes, ea, eb, na, nb, p0i, p0t, noX, fin, mkL, ixh]
    have hnd : (nd a.need b.need == if a.need = b.need then a.need + 1 else if b.need > a.need then b.need else a.need) = true := by simp [nd]
    rw [run_13]
    simp only [Tr.nums, Tr.d]
    generalize nd a.need b.need = v at *
    simp [mkFn, c_13, isD, p0i, ix0, ix1, t30, t31, t32, e1, e2, el]
    simp only [beq_iff_eq] at hnd
    by_cases q : a.need = b.need
    · rw [if_pos q] at hnd
      simp [q, hnd]
    · rw [if_neg q] at hnd
      simp [q, hnd]
  | .leaf i, 0, h, hk => by simp at hk
  | .leaf i, 1, h, hk => by simp [Tr.dep] at hk
  | .node a b, 0, h, hk => by simp at hk
  | .node a b, 1, h, hk => by simp [Tr.dep] at hk
theorem s12 {t : Tr} {k : Nat} {h : Hh} (h1 : t.dep ≤ 12) (h2 : t.dep + 4 ≤ k) : run k 12 [.d t.d, .d t.nums] h = .ok (.d .non) h := by
  obtain ⟨k, rfl⟩ : ∃ j, k = j + 1 := ⟨k - 1, by omega⟩
  rw [run_12]
  simp [mkFn, c_12, p2 (t := t) (k := k) h1 (by omega), pure_ok (h := h) rfl (s13 t k [] (by omega))]
/-! ### what the law reckons -/
theorem sort2 {a b : Int} {h : Hh} : biSort false [.d (.lst [.int a, .int b])] h = .ok (.d (.lst [.int (min a b), .int (max a b)])) h := by
  by_cases q : b < a
  · simp [biSort, seqW, lstW, allAl, D.al, canSort, sh, isort, ins, D.le, D.lt, fin, mkL, q, show min a b = b by omega, show max a b = a by omega]
  · simp [biSort, seqW, lstW, allAl, D.al, canSort, sh, isort, ins, D.le, D.lt, fin, mkL, q, show min a b = a by omega, show max a b = b by omega]
theorem s19 : ∀ (t : Tr) (k : Nat) (h : Hh), t.dep + 1 ≤ k → run k 19 [.d t.d] h = .ok (.d (.int t.need)) h
  | .leaf i, k + 1, h, _ => by
    rw [run_19]; simp [mkFn, c_19, Tr.d, isD, Tr.need]
  | .node a b, k + 1, h, hk => by
    simp only [Tr.dep] at hk
    have e1 := pure_ok (h := h) rfl (s19 a k [] (by omega))
    have e2 := pure_ok (h := h) rfl (s19 b k [] (by omega))
    rw [run_19]
    simp [mkFn, c_19, Tr.d, isD, Tr.need, ix0, ix1, e1, e2, mkL, sort2, nd]
    by_cases q : a.need = b.need
    · simp [q]
    · by_cases q2 : b.need > a.need
      · simp [q, show a.need < b.need by omega, show min a.need b.need = a.need by omega, show max a.need b.need = b.need by omega]
      · simp [q, show ¬ a.need < b.need by omega, show b.need < a.need by omega, show min a.need b.need = b.need by omega, show max a.need b.need = a.need by omega]
  | .leaf i, 0, h, hk => by omega
  | .node a b, 0, h, hk => by omega
theorem p19 {t : Tr} {k : Nat} {h : Hh} (h2 : t.dep + 1 ≤ k) : pure' (run k 19) [.d t.d] h = .ok (.d (.int t.need)) h := pure_ok rfl (s19 t k [] h2)
theorem addT {a b : List D} {m : Bool} {h : Hh} (hl : a.length + b.length ≤ 16777216) : opAdd m (.d (.tup a)) (.d (.tup b)) h = .ok (.d (.tup (a ++ b))) h := by
  simp only [opAdd]
  rw [if_pos hl]
theorem s20 : ∀ (t : Tr) (f : Int) (k : Nat) (h : Hh), t.dep ≤ 12 → t.dep + 2 ≤ k → run k 20 [.d t.d, .d (.int f)] h = .ok (.d (.tup (t.deeds f))) h
  | .leaf i, f, k + 1, h, _, _ => by
    rw [run_20]; simp [mkFn, c_20, Tr.d, isD, Tr.deeds, row3, mkT]
  | .node a b, f, k + 1, h, hd, hk => by
    have sz := size_small hd
    simp only [Tr.size] at sz
    simp only [Tr.dep] at hk hd
    have na := p19 (t := a) (k := k) (h := h) (by omega)
    have nb := p19 (t := b) (k := k) (h := h) (by omega)
    rw [run_20]
    by_cases q : a.need < b.need
    · have e1 := pure_ok (h := h) rfl (s20 b f k [] (by omega) (by omega))
      have e2 := pure_ok (h := h) rfl (s20 a (f + 1) k [] (by omega) (by omega))
      have l1 := addT (m := false) (a := b.deeds f) (b := a.deeds (f + 1)) (h := h) (by simp [deeds_len]; omega)
      have l2 := addT (m := false) (a := b.deeds f ++ a.deeds (f + 1)) (b := [row4 f (f + 1) f]) (h := h) (by simp [deeds_len]; omega)
      simp only [row4, List.append_assoc] at l2
      simp [mkFn, c_20, Tr.d, isD, Tr.deeds, row4, mkT, ix0, ix1, na, nb, q, e1, e2, l1, l2]
    · have e1 := pure_ok (h := h) rfl (s20 a f k [] (by omega) (by omega))
      have e2 := pure_ok (h := h) rfl (s20 b (f + 1) k [] (by omega) (by omega))
      have l1 := addT (m := false) (a := a.deeds f) (b := b.deeds (f + 1)) (h := h) (by simp [deeds_len]; omega)
      have l2 := addT (m := false) (a := a.deeds f ++ b.deeds (f + 1)) (b := [row4 f f (f + 1)]) (h := h) (by simp [deeds_len]; omega)
      simp only [row4, List.append_assoc] at l2
      simp [mkFn, c_20, Tr.d, isD, Tr.deeds, row4, mkT, ix0, ix1, na, nb, q, e1, e2, l1, l2]
  | .leaf i, f, 0, h, _, hk => by omega
  | .node a b, f, 0, h, _, hk => by omega
theorem s21 : ∀ (t : Tr) (k : Nat) (h : Hh), t.dep + 2 ≤ k → run k 21 [.d t.d] h = .ok (.d t.nums) h
  | .leaf i, k + 1, h, _ => by
    rw [run_21]; simp [mkFn, c_21, Tr.d, isD, Tr.nums]
  | .node a b, k + 1, h, hk => by
    have e0 := p19 (t := .node a b) (k := k) (h := h) (by omega)
    simp only [Tr.dep] at hk
    have e1 := pure_ok (h := h) rfl (s21 a k [] (by omega))
    have e2 := pure_ok (h := h) rfl (s21 b k [] (by omega))
    simp only [Tr.d, Tr.need] at e0
    rw [run_21]
    simp [mkFn, c_21, Tr.d, isD, Tr.nums, ix0, ix1, e0, e1, e2, mkT]
  | .leaf i, 0, h, hk => by omega
  | .node a b, 0, h, hk => by omega
/-! ### the law's own run -/
theorem lrow_load {r : Nat → Fn} {f n : Nat} {i : Int} {g : List W} {e0 T : Option W} {h : Hh} (hn : h[n]? = some (.lst g)) (hf : f < g.length) :
    c_22_0 r [e0, T, some (.r n), some (.d (row3 f (.int i)))] h = .nx [e0, T, some (.r n), some (.d (row3 f (.int i)))] (h.set n (.lst (g.set f (.d (.int i))))) := by
  simp [c_22_0, row3, t30, t31, t32, eq_ll, set_r hn hf]
theorem lrow_join {r : Nat → Fn} {f n p q : Nat} {x y : D} {g : List W} {e0 T : Option W} {h : Hh} (hn : h[n]? = some (.lst g)) (hf : f < g.length) (hp : g[p]? = some (.d x)) (hq : g[q]? = some (.d y)) :
    c_22_0 r [e0, T, some (.r n), some (.d (row4 f p q))] h = .nx [e0, T, some (.r n), some (.d (row4 f p q))] (h.set n (.lst (g.set f (.d (.tup [x, y]))))) := by
  simp [c_22_0, row4, t40, t41, t42, t43, eq_jl, set_r hn hf, ix_r hn hp, ix_r hn hq, mkT]
theorem run22 {r : Nat → Fn} {m n : Nat} {e0 T : Option W} : ∀ (t : Tr) (f : Nat) (g : List W) (h : Hh) (x3 : Option W), h[n]? = some (.lst g) → g.length = m → (f : Int) + t.need ≤ m →
    ∃ y3, forK (yN (tN 3)) (c_22_0 r) (ys (t.deeds f)) [e0, T, some (.r n), x3] h = .nx [e0, T, some (.r n), y3] (h.set n (.lst (t.ex f g)))
  | .leaf i, f, g, h, x3, hn, hm, hf => by
    simp only [Tr.need] at hf
    refine ⟨some (.d (row3 f (.int i))), ?_⟩
    exact forK_one (by simp [ys, yN, yw]) (lrow_load hn (by omega))
  | .node a b, f, g, h, x3, hn, hm, hf => by
    have pa := need_pos a
    have pb := need_pos b
    have hl : n < h.length := (List.getElem?_eq_some_iff.mp hn).1
    unfold Tr.deeds Tr.ex
    by_cases q : a.need < b.need
    · have hn' : (f : Int) + b.need ≤ m ∧ (f : Int) + 1 + a.need ≤ m := by
        simp only [Tr.need, nd] at hf
        rw [if_neg (by omega), if_pos q] at hf
        omega
      rw [if_pos q, if_pos q]
      obtain ⟨y3, e1⟩ := run22 (m := m) (n := n) (T := T) (e0 := e0) (r := r) b f g h x3 hn hm hn'.1
      obtain ⟨z3, e2⟩ := run22 (m := m) (n := n) (T := T) (e0 := e0) (r := r) a (f + 1) (b.ex f g) (h.set n (.lst (b.ex f g))) y3 (by rw [List.getElem?_set_self hl]) (by simpa [ex_len] using hm) (by push_cast; omega)
      rw [List.set_set] at e2
      have e3 := lrow_join (r := r) (f := f) (n := n) (p := f + 1) (q := f) (x := a.d) (y := b.d) (g := a.ex (f + 1) (b.ex f g)) (T := T) (e0 := e0) (h := h.set n (.lst (a.ex (f + 1) (b.ex f g)))) (by rw [List.getElem?_set_self hl]) (by rw [ex_len, ex_len]; omega)
        (ex_at a _ _ (by rw [ex_len, hm]; omega)) (by rw [ex_low a _ _ _ (by omega)]; exact ex_at b _ _ (by omega))
      rw [List.set_set] at e3
      refine ⟨some (.d (row4 f (f + 1) f)), ?_⟩
      unfold ys at e1 e2 ⊢
      rw [List.map_append, List.map_append, forK_app, forK_app, e1, SR.bind_nx]
      push_cast at e2 e3
      rw [e2, SR.bind_nx]
      exact forK_one (by simp [yN, yw]) e3
    · have hn' : (f : Int) + a.need ≤ m ∧ (f : Int) + 1 + b.need ≤ m := by
        simp only [Tr.need, nd] at hf
        by_cases q2 : a.need = b.need
        · rw [if_pos q2] at hf; omega
        · rw [if_neg q2, if_neg q] at hf; omega
      rw [if_neg q, if_neg q]
      obtain ⟨y3, e1⟩ := run22 (m := m) (n := n) (T := T) (e0 := e0) (r := r) a f g h x3 hn hm hn'.1
      obtain ⟨z3, e2⟩ := run22 (m := m) (n := n) (T := T) (e0 := e0) (r := r) b (f + 1) (a.ex f g) (h.set n (.lst (a.ex f g))) y3 (by rw [List.getElem?_set_self hl]) (by simpa [ex_len] using hm) (by push_cast; omega)
      rw [List.set_set] at e2
      have e3 := lrow_join (r := r) (f := f) (n := n) (p := f) (q := f + 1) (x := a.d) (y := b.d) (g := b.ex (f + 1) (a.ex f g)) (T := T) (e0 := e0) (h := h.set n (.lst (b.ex (f + 1) (a.ex f g)))) (by rw [List.getElem?_set_self hl]) (by rw [ex_len, ex_len]; omega)
        (by rw [ex_low b _ _ _ (by omega)]; exact ex_at a _ _ (by omega)) (ex_at b _ _ (by rw [ex_len, hm]; omega))
      rw [List.set_set] at e3
      refine ⟨some (.d (row4 f f (f + 1))), ?_⟩
      unfold ys at e1 e2 ⊢
      rw [List.map_append, List.map_append, forK_app, forK_app, e1, SR.bind_nx]
      push_cast at e2 e3
      rw [e2, SR.bind_nx]
      exact forK_one (by simp [yN, yw]) e3
theorem s22 {t : Tr} {k m : Nat} {h : Hh} (hd : t.dep ≤ 12) (hm : (m : Int) = t.need) : run (k + 1) 22 [.d (.int m), .d (.tup (t.deeds 0))] h = .ok (.d (.tup t.regs)) (h ++ [.lst [.d .non], .lst (t.regs.map .d)]) := by
  have nl := need_le t
  obtain ⟨y3, e⟩ := run22 (r := run k) (m := m) (n := h.length + 1) (T := some (.d (.tup (t.deeds 0)))) (e0 := some (.d (.int m))) t 0 (nones m) (h ++ [.lst [.d .non], .lst (nones m)]) none (by simp) (by simp [nones]) (by omega)
  have es : sFor (cIt (cv 1)) (yN (tN 3)) (c_22_0 (run k)) [some (.d (.int m)), some (.d (.tup (t.deeds 0))), some (.r (h.length + 1)), none] (h ++ [.lst [.d .non], .lst (nones m)]) = _ := sFor_K (l := ys (t.deeds 0)) (h' := h ++ [.lst [.d .non], .lst (nones m)]) rfl
  change forK (yN (tN 3)) (c_22_0 (run k)) (ys (t.deeds 0)) _ _ = _ at e
  rw [e, regs_eq hm] at es
  have et : biTuple [.r (h.length + 1)] (h ++ [.lst [.d .non], .lst (t.regs.map .d)]) = .ok (.d (.tup t.regs)) (h ++ [.lst [.d .non], .lst (t.regs.map .d)]) := tup_r (by simp) (by rw [regs_len]; omega)
  rw [run_22]
  simp [mkFn, c_22, mkM, mul_nones (show m ≤ 100 by omega), es, unbk, et]
end K39
set_option Elab.async false
set_option linter.all false
set_option maxRecDepth 100000
set_option maxHeartbeats 1000000
namespace K39
open Fz
/-! ### draws -/
def S (ns : List Int) (a b s : Int) (rest : List W) : O := .lst (.d (.lst (ns.map .int)) :: .d (.int a) :: .d (.int b) :: .d (.int s) :: rest)
section
variable {ns : List Int} {a b s x : Int} {rest : List W} {w : W}
theorem S0 : opIx (.r 0) (.d (.int 0)) [S ns a b s rest] = .ok (.d (.lst (ns.map .int))) [S ns a b s rest] := ix_r (j := 0) rfl rfl
theorem S1 : opIx (.r 0) (.d (.int 1)) [S ns a b s rest] = .ok (.d (.int a)) [S ns a b s rest] := ix_r (j := 1) rfl rfl
theorem S2 : opIx (.r 0) (.d (.int 2)) [S ns a b s rest] = .ok (.d (.int b)) [S ns a b s rest] := ix_r (j := 2) rfl rfl
theorem S3 : opIx (.r 0) (.d (.int 3)) [S ns a b s rest] = .ok (.d (.int s)) [S ns a b s rest] := ix_r (j := 3) rfl rfl
theorem T1 : setAt (.r 0) (.d (.int 1)) (.d (.int x)) [S ns a b s rest] = some [S ns x b s rest] := set_r (j := 1) (l := .d (.lst (ns.map .int)) :: .d (.int a) :: .d (.int b) :: .d (.int s) :: rest) rfl (by simp)
theorem T2 : setAt (.r 0) (.d (.int 2)) (.d (.int x)) [S ns a b s rest] = some [S ns a x s rest] := set_r (j := 2) (l := .d (.lst (ns.map .int)) :: .d (.int a) :: .d (.int b) :: .d (.int s) :: rest) rfl (by simp)
theorem T3 : setAt (.r 0) (.d (.int 3)) (.d (.int x)) [S ns a b s rest] = some [S ns a b x rest] := set_r (j := 3) (l := .d (.lst (ns.map .int)) :: .d (.int a) :: .d (.int b) :: .d (.int s) :: rest) rfl (by simp)
theorem mulS {h : Hh} {n m : Int} (hm : -(2 ^ 64) < m ∧ m < 2 ^ 64) : opMul false (.d (.int n)) (.d (.int m)) h = .ok (.d (.int (n * m))) h := by
  unfold opMul
  dsimp only
  rw [if_pos (.inr hm)]
/-- a draw -/
def Drawn (k : Nat) (m : Int) (ns : List Int) (h : Hh) (rest : List W) : Prop := ∃ v a' b' s', run k 15 [.r 0, .d (.int m)] h = .ok (.d (.int v)) [S ns a' b' s' rest] ∧ 0 ≤ v ∧ v < m ∧ 0 ≤ a' ∧ 0 ≤ b'
theorem s15 {k : Nat} {m : Int} (ha : 0 ≤ a) (hb : 0 ≤ b) (hm : 0 < m ∧ m < 1073741824) : Drawn (k + 1) m ns [S ns a b s rest] rest := by
  unfold Drawn
  by_cases q : a = 0 ∧ b ≥ ns.length
  · obtain ⟨rfl, q⟩ := q
    refine ⟨(s * 48271 + 69621) % 2147483629 / 13 % m, 0, b, (s * 48271 + 69621) % 2147483629, ?_, Int.emod_nonneg _ (by omega), Int.emod_lt_of_pos _ hm.1, by omega, hb⟩
    rw [run_15]
    simp [mkFn, c_15, S0, S1, S2, S3, T3, q, mulS, hm.1]
  · by_cases q2 : a = 0
    · subst q2
      have hlt : b < ns.length := by
        rcases Int.lt_or_le b ns.length with h | h
        · exact h
        · exact absurd ⟨rfl, h⟩ q
      obtain ⟨j, rfl⟩ := Int.eq_ofNat_of_zero_le hb
      have hj : j < ns.length := by omega
      have e0 : opIx (.d (.lst (ns.map .int))) (.d (.int (j : Int))) [S ns 0 j s rest] = .ok (.d (.int ns[j])) [S ns 0 j s rest] := ix_l (by rw [List.getElem?_map, List.getElem?_eq_getElem hj]; rfl)
      have hab : 0 ≤ (if ns[j] < 0 then -ns[j] else ns[j]) := by split <;> omega
      generalize hz : (if ns[j] < 0 then -ns[j] else ns[j]) = z at *
      refine ⟨z % m, z / m, (j : Int) + 1, s, ?_, Int.emod_nonneg _ (by omega), Int.emod_lt_of_pos _ hm.1, Int.ediv_nonneg hab (by omega), by omega⟩
      rw [run_15]
      simp [mkFn, c_15, S0, S1, S2, S3, T1, T2, show ¬ ns.length ≤ j by omega, e0, hz, hm]
    · refine ⟨a % m, a / m, b, s, ?_, Int.emod_nonneg _ (by omega), Int.emod_lt_of_pos _ hm.1, Int.ediv_nonneg ha (by omega), hb⟩
      rw [run_15]
      simp [mkFn, c_15, S0, S1, S2, S3, T1, q2, hm]
/-- a pick from a few -/
theorem s16 {k : Nat} {l : List D} (ha : 0 ≤ a) (hb : 0 ≤ b) (hl : 0 < l.length ∧ l.length < 1000) : ∃ x ∈ l, ∃ a' b' s', run (k + 2) 16 [.r 0, .d (.lst l)] [S ns a b s rest] = .ok (.d x) [S ns a' b' s' rest] ∧ 0 ≤ a' ∧ 0 ≤ b' := by
  obtain ⟨v, a', b', s', e, h1, h2, h3, h4⟩ := s15 (k := k) (m := (l.length : Int)) (ns := ns) (a := a) (b := b) (s := s) (rest := rest) ha hb (by omega)
  obtain ⟨j, rfl⟩ := Int.eq_ofNat_of_zero_le h1
  have hj : j < l.length := by omega
  refine ⟨l[j], List.getElem_mem hj, a', b', s', ?_, h3, h4⟩
  have e0 : opIx (.d (.lst l)) (.d (.int (j : Int))) [S ns a' b' s' rest] = .ok (.d l[j]) [S ns a' b' s' rest] := ix_l (List.getElem?_eq_getElem hj)
  rw [run_16]
  simp [mkFn, c_16, e, e0]
theorem powE {h : Hh} : opPow (.d (.int 10)) (.d (.int 30)) h = .ok (.d (.int 1000000000000000000000000000000)) h := rfl
/-- leaves of at most 10 ** 30 -/
def Tr.ok : Tr → Prop
  | .leaf i => i.natAbs ≤ 10 ^ 30
  | .node a b => a.ok ∧ b.ok
theorem leaf_ok {k : Nat} {r : Ev} (ha : 0 ≤ a) (hb : 0 ≤ b) : ∃ i a' b' s', cCall false 2 (run (k + 2) 16) (aCons (cv 0) (aCons (cCl mkL (aCons (cc (.int 0)) (aCons (cc (.int 1)) (aCons (c1 opNeg (cc (.int 5))) (aCons (c2 opPow (cc (.int 10)) (cc (.int 30))) (aCons (cCall false 2 (run (k + 2) 15) (aCons (cv 0) (aCons (cc (.int 100)) aNil))) aNil)))))) aNil)) (some (.r 0) :: r) [S ns a b s rest] = .ok (.d (Tr.leaf i).d) [S ns a' b' s' rest] ∧ (Tr.leaf i).ok ∧ 0 ≤ a' ∧ 0 ≤ b' := by
  obtain ⟨v, a1, b1, s1, e1, h1, h2, h3, h4⟩ := s15 (k := k + 1) (m := 100) (ns := ns) (a := a) (b := b) (s := s) (rest := rest) ha hb (by omega)
  obtain ⟨x, hx, a2, b2, s2, e2, h5, h6⟩ := s16 (k := k) (l := [.int 0, .int 1, .int (-5), .int 1000000000000000000000000000000, .int v]) (ns := ns) (a := a1) (b := b1) (s := s1) (rest := rest) h3 h4 (by simp)
  have : ∃ i, x = .int i ∧ i.natAbs ≤ 10 ^ 30 := by
    simp only [List.mem_cons, List.not_mem_nil, or_false] at hx
    rcases hx with rfl | rfl | rfl | rfl | rfl
    · exact ⟨_, rfl, by decide⟩
    · exact ⟨_, rfl, by decide⟩
    · exact ⟨_, rfl, by decide⟩
    · exact ⟨_, rfl, by decide⟩
    · exact ⟨_, rfl, by omega⟩
  obtain ⟨i, rfl, hi⟩ := this
  exact ⟨i, a2, b2, s2, by simp [powE, e1, mkL, e2, Tr.d], hi, h5, h6⟩
def Made (k : Nat) (d : Nat) (full : Bool) (ns : List Int) (h : Hh) (rest : List W) : Prop := ∃ t a' b' s', run k 18 [.r 0, .d (.int d), .d (.bl full)] h = .ok (.d (Tr.d t)) [S ns a' b' s' rest] ∧ t.dep ≤ d ∧ t.ok ∧ 0 ≤ a' ∧ 0 ≤ b'
theorem low_ok {k d : Nat} {r : Ev} (ha : 0 ≤ a) (hb : 0 ≤ b) (hd : 0 < d ∧ d ≤ 100) : ∃ (l : Nat) (a' b' s' : Int), cCall false 2 (run (k + 2) 16) (aCons (cv 0) (aCons (cCl mkL (aCons (c2 opSub (cv 1) (cc (.int 1))) (aCons (c2 opSub (cv 1) (cc (.int 1))) (aCons (cc (.int 0)) (aCons (cCall false 2 (run (k + 2) 15) (aCons (cv 0) (aCons (cv 1) aNil))) aNil))))) aNil)) (some (.r 0) :: some (.d (.int d)) :: r) [S ns a b s rest] = .ok (.d (.int l)) [S ns a' b' s' rest] ∧ l < d ∧ 0 ≤ a' ∧ 0 ≤ b' := by
  obtain ⟨v, a1, b1, s1, e1, h1, h2, h3, h4⟩ := s15 (k := k + 1) (m := d) (ns := ns) (a := a) (b := b) (s := s) (rest := rest) ha hb (by omega)
  obtain ⟨x, hx, a2, b2, s2, e2, h5, h6⟩ := s16 (k := k) (l := [.int ((d : Int) - 1), .int ((d : Int) - 1), .int 0, .int v]) (ns := ns) (a := a1) (b := b1) (s := s1) (rest := rest) h3 h4 (by simp)
  have : ∃ l : Nat, x = .int l ∧ l < d := by
    simp only [List.mem_cons, List.not_mem_nil, or_false] at hx
    rcases hx with rfl | rfl | rfl | rfl
    · exact ⟨d - 1, by congr 1; omega, by omega⟩
    · exact ⟨d - 1, by congr 1; omega, by omega⟩
    · exact ⟨0, rfl, by omega⟩
    · exact ⟨v.toNat, by congr 1; omega, by omega⟩
  obtain ⟨l, rfl, hl⟩ := this
  exact ⟨l, a2, b2, s2, by simp [e1, mkL, e2], hl, h5, h6⟩
theorem s18 : ∀ (k d : Nat) (full : Bool) (a b s : Int), d + 4 ≤ k → d ≤ 12 → 0 ≤ a → 0 ≤ b → Made k d full ns [S ns a b s rest] rest
  | k + 1, d, full, a, b, s, hk, hd, ha, hb => by
    obtain ⟨k, rfl⟩ : ∃ j, k = j + 2 := ⟨k - 2, by omega⟩
    have node : ∀ (a b s : Int), 0 ≤ a → 0 ≤ b → 0 < d → ∃ t a' b' s', sSeq (sAsg (cCall false 2 (run (k + 2) 16) (aCons (cv 0) (aCons (cCl mkL (aCons (c2 opSub (cv 1) (cc (.int 1))) (aCons (c2 opSub (cv 1) (cc (.int 1))) (aCons (cc (.int 0)) (aCons (cCall false 2 (run (k + 2) 15) (aCons (cv 0) (aCons (cv 1) aNil))) aNil))))) aNil))) (tN 3))
        (sSeq (sAsg (cCl mkT (aCons (cCall false 3 (run (k + 2) 18) (aCons (cv 0) (aCons (c2 opSub (cv 1) (cc (.int 1))) (aCons (cv 2) aNil)))) (aCons (cCall false 3 (run (k + 2) 18) (aCons (cv 0) (aCons (cv 3) (aCons (cv 2) aNil)))) aNil))) (tN 4))
        (sRet (cIf (bC (opEq false) (cCall false 2 (run (k + 2) 15) (aCons (cv 0) (aCons (cc (.int 2)) aNil))) (cc (.int 0))) (cv 4) (c1 opRevT (cv 4))))) [some (.r 0), some (.d (.int d)), some (.d (.bl full)), none, none] [S ns a b s rest] = .rt (.d (Tr.d t)) [S ns a' b' s' rest] ∧ t.dep ≤ d ∧ t.ok ∧ 0 ≤ a' ∧ 0 ≤ b' := by
      intro a b s ha hb hd0
      obtain ⟨l, a1, b1, s1, e1, hl, h1, h2⟩ := low_ok (k := k) (d := d) (r := [some (.d (.bl full)), none, none]) (ns := ns) (a := a) (b := b) (s := s) (rest := rest) ha hb (by omega)
      obtain ⟨t1, a2, b2, s2, e2, d1, o1, h3, h4⟩ := s18 (k + 2) (d - 1) full a1 b1 s1 (by omega) (by omega) h1 h2
      obtain ⟨t2, a3, b3, s3, e3, d2, o2, h5, h6⟩ := s18 (k + 2) l full a2 b2 s2 (by omega) (by omega) h3 h4
      obtain ⟨v, a4, b4, s4, e4, v1, v2, h7, h8⟩ := s15 (k := k + 1) (m := 2) (ns := ns) (a := a3) (b := b3) (s := s3) (rest := rest) h5 h6 (by omega)
      have ed : ((d : Int) - 1) = ((d - 1 : Nat) : Int) := by omega
      simp only [z_seq, z_asg, e1, lift_ok, z_tN, SR.bind_nx]
      by_cases q : v = 0
      · refine ⟨.node t1 t2, a4, b4, s4, ?_, by simp only [Tr.dep]; omega, ⟨o1, o2⟩, h7, h8⟩
        simp [ed, e2, e3, e4, q, mkT, Tr.d]
      · refine ⟨.node t2 t1, a4, b4, s4, ?_, by simp only [Tr.dep]; omega, ⟨o2, o1⟩, h7, h8⟩
        simp [ed, e2, e3, e4, q, mkT, Tr.d]
    unfold Made
    rw [run_18]
    by_cases q : d = 0
    · subst q
      obtain ⟨i, a', b', s', e, h1, h2, h3⟩ := leaf_ok (k := k) (r := [some (.d (.int 0)), some (.d (.bl full)), none, none]) (ns := ns) (a := a) (b := b) (s := s) (rest := rest) ha hb
      refine ⟨.leaf i, a', b', s', ?_, by simp [Tr.dep], h1, h2, h3⟩
      simp only [z_call, z_aCons, z_cl] at e
      simp [mkFn, c_18]
      simp at e
      rw [e]
      simp
    · have hq : ¬ d = 0 := q
      have go : ∀ {full : Bool} {R1 : SR}, c_18 (run (k + 2)) [some (.r 0), some (.d (.int d)), some (.d (.bl full)), none, none] [S ns a b s rest] = R1 → mkFn 3 5 (c_18 (run (k + 2))) [.r 0, .d (.int d), .d (.bl full)] [S ns a b s rest] = match R1 with
          | .rt w h => .ok w h
          | .nx _ h => .ok (.d .non) h
          | .ex c p _ h => .ex c p h
          | _ => .no := fun {full R1} e => by subst e; rfl
      cases full with
      | true =>
        obtain ⟨t, a', b', s', e, h1, h2, h3, h4⟩ := node a b s ha hb (by omega)
        refine ⟨t, a', b', s', ?_, h1, h2, h3, h4⟩
        rw [go (R1 := .rt (.d (Tr.d t)) [S ns a' b' s' rest])]
        unfold c_18
        rw [z_seq, ← e]
        simp only [z_if, z_bOr, z_bC, z_c2, z_cvS, z_cv0, z_cc, R.bind_ok, z_eqI, z_asB, z_bAnd, z_bNot, z_cT, z_truB]
        simp [hq]
      | false =>
        obtain ⟨v, a1, b1, s1, e1, v1, v2, g1, g2⟩ := s15 (k := k + 1) (m := 4) (ns := ns) (a := a) (b := b) (s := s) (rest := rest) ha hb (by omega)
        by_cases qv : v = 0
        · obtain ⟨i, a', b', s', e, h1, h2, h3⟩ := leaf_ok (k := k) (r := [some (.d (.int d)), some (.d (.bl false)), none, none]) (ns := ns) (a := a1) (b := b1) (s := s1) (rest := rest) g1 g2
          refine ⟨.leaf i, a', b', s', ?_, by simp [Tr.dep], h1, h2, h3⟩
          rw [go (R1 := .rt (.d (Tr.d (.leaf i))) [S ns a' b' s' rest])]
          unfold c_18
          rw [z_seq]
          simp only [z_call, z_aCons, z_cl] at e
          simp at e
          simp [hq, e1, qv]
          rw [e]
          simp
        · obtain ⟨t, a', b', s', e, h1, h2, h3, h4⟩ := node a1 b1 s1 g1 g2 (by omega)
          refine ⟨t, a', b', s', ?_, h1, h2, h3, h4⟩
          rw [go (R1 := .rt (.d (Tr.d t)) [S ns a' b' s' rest])]
          unfold c_18
          rw [z_seq, ← e]
          simp only [z_if, z_bOr, z_bC, z_c2, z_cvS, z_cv0, z_cc, R.bind_ok, z_eqI, z_asB, z_bAnd, z_bNot, z_cT, z_truB]
          simp [hq, e1, qv]
  | 0, d, full, a, b, s, hk, _, _, _ => by omega
end
end K39
set_option Elab.async false
set_option linter.all false
set_option maxRecDepth 100000
set_option maxHeartbeats 1000000
namespace K39
open Fz
/-! ### sizes -/
theorem log_le {i : Int} {k : Nat} (h : i.natAbs < 2 ^ k) (hk : 0 < k) : i.natAbs.log2 < k := by
  by_cases q : i.natAbs = 0
  · rw [q]; simp; exact hk
  · exact (Nat.log2_lt q).mpr h
theorem log_small {i : Int} (h : 0 ≤ i ∧ i ≤ 100) : i.natAbs.log2 ≤ 6 := by
  have := log_le (i := i) (k := 7) (by omega) (by omega)
  omega
theorem log_leaf {i : Int} (h : i.natAbs ≤ 10 ^ 30) : i.natAbs.log2 ≤ 99 := by
  have := log_le (i := i) (k := 100) (Nat.lt_of_le_of_lt h (by decide)) (by omega)
  omega
theorem sz_d : ∀ t : Tr, t.ok → D.sz t.d ≤ 108 * t.size
  | .leaf i, h => by
    have := log_leaf h
    simp only [Tr.d, D.sz, Tr.size]
    omega
  | .node a b, h => by
    have := sz_d a h.1
    have := sz_d b h.2
    simp only [Tr.d, D.sz, szL, Tr.size]
    omega
theorem sz_nums : ∀ t : Tr, t.dep ≤ 12 → D.sz t.nums ≤ 20 * t.size
  | .leaf i, _ => by
    simp only [Tr.nums, D.sz, Tr.size]
    decide
  | .node a b, h => by
    have h' := h
    simp only [Tr.dep] at h'
    have := sz_nums a (by omega)
    have := sz_nums b (by omega)
    have n1 := need_le (.node a b)
    have n2 := need_pos (.node a b)
    simp only [Tr.need] at n1 n2
    have := log_small (i := nd a.need b.need) (by omega)
    simp only [Tr.nums, D.sz, szL, Tr.size]
    omega
theorem szL_app : ∀ a b : List D, szL (a ++ b) = szL a + szL b
  | [], b => by simp [szL]
  | x :: a, b => by simp only [List.cons_append, szL, szL_app a b]; omega
theorem sz_deeds : ∀ (t : Tr) (f : Int), t.ok → 0 ≤ f → f + t.dep ≤ 90 → szL (t.deeds f) ≤ 200 * t.size
  | .leaf i, f, h, h0, h1 => by
    have := log_leaf h
    have := log_small (i := f) (by omega)
    simp only [Tr.deeds, row3, szL, D.sz, Tr.size, List.length_cons, List.length_nil]
    omega
  | .node a b, f, h, h0, h1 => by
    simp only [Tr.dep] at h1
    have := log_small (i := f) (by omega)
    have := log_small (i := f + 1) (by omega)
    unfold Tr.deeds
    split
    · have := sz_deeds b f h.2 h0 (by omega)
      have := sz_deeds a (f + 1) h.1 (by omega) (by omega)
      simp only [szL_app, row4, szL, D.sz, Tr.size, List.length_cons, List.length_nil]
      omega
    · have := sz_deeds a f h.1 h0 (by omega)
      have := sz_deeds b (f + 1) h.2 (by omega) (by omega)
      simp only [szL_app, row4, szL, D.sz, Tr.size, List.length_cons, List.length_nil]
      omega
theorem shw_d : ∀ t : Tr, t.ok → D.shw t.d = true
  | .leaf i, h => by
    have := log_leaf h
    simp only [Tr.d, D.shw, decide_eq_true_eq]
    omega
  | .node a b, h => by simp [Tr.d, D.shw, shwL, shw_d a h.1, shw_d b h.2]
theorem shw_i {i : Int} (h : 0 ≤ i ∧ i ≤ 100) : D.shw (.int i) = true := by
  have := log_small h
  simp only [D.shw, decide_eq_true_eq]
  omega
theorem shw_nums : ∀ t : Tr, t.dep ≤ 12 → D.shw t.nums = true
  | .leaf i, _ => by
    simp only [Tr.nums]
    exact shw_i (by omega)
  | .node a b, h => by
    have n1 := need_le (.node a b)
    have n2 := need_pos (.node a b)
    simp only [Tr.need] at n1 n2
    simp only [Tr.dep] at h
    have := shw_i (i := nd a.need b.need) (by simp only [Tr.dep] at n1; omega)
    simp [Tr.nums, D.shw, shwL, shw_nums a (by omega), shw_nums b (by omega)]
    simpa [D.shw] using this
theorem shwL_app : ∀ a b : List D, shwL (a ++ b) = (shwL a && shwL b)
  | [], b => by simp [shwL]
  | x :: a, b => by simp [shwL, shwL_app a b, Bool.and_assoc]
theorem shw_deeds : ∀ (t : Tr) (f : Int), t.ok → 0 ≤ f → f + t.dep ≤ 90 → shwL (t.deeds f) = true
  | .leaf i, f, h, h0, h1 => by
    have h2 := shw_d (.leaf i) h
    have h3 := shw_i (i := f) (by omega)
    simp only [Tr.d] at h2
    simp [Tr.deeds, row3, shwL, D.shw] at h2 h3 ⊢
    exact ⟨h3, h2⟩
  | .node a b, f, h, h0, h1 => by
    simp only [Tr.dep] at h1
    have h3 := shw_i (i := f) (by omega)
    have h4 := shw_i (i := f + 1) (by omega)
    have h5 : shwL [row4 f (f + 1) f] = true := by simp only [D.shw, decide_eq_true_eq] at h3 h4; simp [row4, shwL, D.shw, h3, h4]
    have h6 : shwL [row4 f f (f + 1)] = true := by simp only [D.shw, decide_eq_true_eq] at h3 h4; simp [row4, shwL, D.shw, h3, h4]
    unfold Tr.deeds
    split
    · rw [shwL_app, shwL_app, shw_deeds b f h.2 h0 (by omega), shw_deeds a (f + 1) h.1 (by omega) (by omega), h5]; rfl
    · rw [shwL_app, shwL_app, shw_deeds a f h.1 h0 (by omega), shw_deeds b (f + 1) h.2 (by omega) (by omega), h6]; rfl
theorem sh_nums : ∀ (t : Tr) (n : Nat), t.dep ≤ n → sh n t.nums = true
  | .leaf _, n, _ => by cases n <;> rfl
  | .node a b, 0, h => by simp [Tr.dep] at h
  | .node a b, n + 1, h => by
    simp only [Tr.dep] at h
    have : sh n (.int (nd a.need b.need)) = true := by cases n <;> rfl
    simp [Tr.nums, sh, this, sh_nums a n (by omega), sh_nums b n (by omega)]
theorem sh_deeds : ∀ (t : Tr) (f : Int), (t.deeds f).all (sh 1) = true
  | .leaf i, f => rfl
  | .node a b, f => by
    unfold Tr.deeds
    split
    · rw [List.all_append, List.all_append, sh_deeds b, sh_deeds a]; rfl
    · rw [List.all_append, List.all_append, sh_deeds b, sh_deeds a]; rfl
def Tr.rec3 (t : Tr) : D := .lst [.int t.need, t.nums, .tup (t.deeds 0)]
theorem show3 {t : Tr} (hd : t.dep ≤ 12) (ho : t.ok) : canShow t.rec3 = true := by
  have n1 := need_le t
  have n2 := need_pos t
  have sz := size_small hd
  have z1 := sz_nums t hd
  have z2 := sz_deeds t 0 ho (by omega) (by omega)
  have l1 := log_small (i := t.need) (by omega)
  have a1 := shw_i (i := t.need) (by omega)
  have a2 := shw_nums t hd
  have a3 := shw_deeds t 0 ho (by omega) (by omega)
  have b1 : sh 60 t.rec3 = true := by
    have : (t.deeds 0).all (sh 58) = true := List.all_eq_true.mpr fun x hx => sh_up 1 58 (by omega) x (List.all_eq_true.mp (sh_deeds t 0) x hx)
    simp [Tr.rec3, sh, sh_nums t 59 (by omega)]
    simpa using this
  have b2 : D.shw t.rec3 = true := by
    simp [Tr.rec3, D.shw, shwL, a2, a3] at a1 ⊢
    exact a1
  have b3 : D.sz t.rec3 ≤ 16777216 := by
    simp only [Tr.rec3, D.sz, szL]
    omega
  simp [canShow, b1, b2, b3]
/-- what a register may have -/
def Has (x : D) : Prop := x = .non ∨ ∃ t : Tr, x = t.d ∧ t.dep ≤ 12 ∧ t.ok
theorem exD_has : ∀ (t : Tr) (f : Nat) (g : List D), t.dep ≤ 12 → t.ok → (∀ x ∈ g, Has x) → ∀ x ∈ t.exD f g, Has x
  | .leaf i, f, g, hd, ho, hg, x, hx => by
    rcases List.mem_or_eq_of_mem_set hx with h | h
    · exact hg x h
    · exact .inr ⟨.leaf i, h, hd, ho⟩
  | .node a b, f, g, hd, ho, hg, x, hx => by
    have hd' := hd
    simp only [Tr.dep] at hd'
    unfold Tr.exD at hx
    rcases List.mem_or_eq_of_mem_set hx with h | h
    · split at h
      · exact exD_has a _ _ (by omega) ho.1 (exD_has b _ _ (by omega) ho.2 hg) x h
      · exact exD_has b _ _ (by omega) ho.2 (exD_has a _ _ (by omega) ho.1 hg) x h
    · exact .inr ⟨.node a b, h, hd, ho⟩
theorem has_ok {x : D} (h : Has x) : sh 59 x = true ∧ D.shw x = true ∧ D.sz x ≤ 900000 := by
  rcases h with rfl | ⟨t, rfl, hd, ho⟩
  · exact ⟨rfl, rfl, by decide⟩
  · have := sz_d t ho
    have := size_small hd
    exact ⟨sh_d t 59 (by omega), shw_d t ho, by omega⟩
theorem all_ok : ∀ {l : List D}, (∀ x ∈ l, Has x) → l.all (sh 59) = true ∧ shwL l = true ∧ szL l ≤ 900002 * l.length
  | [], _ => ⟨rfl, rfl, by simp [szL]⟩
  | x :: l, h => by
    obtain ⟨a1, a2, a3⟩ := has_ok (h x (by simp))
    obtain ⟨b1, b2, b3⟩ := all_ok (l := l) fun y hy => h y (by simp [hy])
    refine ⟨by simp [a1]; simpa using b1, by simp [shwL, a2, b2], ?_⟩
    simp only [szL, List.length_cons]
    omega
theorem show_regs {t : Tr} (hd : t.dep ≤ 12) (ho : t.ok) : canShow (.tup t.regs) = true := by
  have hl := regs_len (t := t)
  have n1 := need_le t
  have n2 := need_pos t
  obtain ⟨a, b, c⟩ := all_ok (l := t.regs) fun x hx => exD_has t 0 _ hd ho (fun y hy => .inl (List.eq_of_mem_replicate hy)) x hx
  have d1 : sh 60 (.tup t.regs) = true := a
  have d2 : D.shw (.tup t.regs) = true := by simp only [D.shw]; exact b
  have d3 : D.sz (.tup t.regs) ≤ 16777216 := by
    simp only [D.sz]
    have : t.regs.length ≤ 13 := by omega
    omega
  simp [canShow, d1, d2, d3]
theorem same_ok {k : Nat} {x : D} {h : Hh} (hx : canShow x = true) : pure' (run (k + 1) 17) [.d x, .d x] h = .ok (.d (.bl true)) h := by
  refine pure_ok (ds := [x, x]) (h' := []) rfl ?_
  rw [run_17]
  have : D.beq x x = true := (D.beq_iff x x).mpr rfl
  simp [mkFn, c_17, cSame, valD, hx, this]
end K39
set_option Elab.async false
set_option linter.all false
set_option maxRecDepth 100000
set_option maxHeartbeats 1000000
namespace K39
open Fz
/-! ### registers of the deeds -/
def Row (n : Int) (x : D) : Prop := (∃ r v, x = row3 r v ∧ r < n) ∨ ∃ r a b, x = row4 r a b ∧ r < n ∧ a < n ∧ b < n
theorem rows : ∀ (t : Tr) (f n : Int), f + t.need ≤ n → ∀ x ∈ t.deeds f, Row n x
  | .leaf i, f, n, h, x, hx => by
    simp only [Tr.need] at h
    simp only [Tr.deeds, List.mem_singleton] at hx
    exact .inl ⟨f, _, hx, by omega⟩
  | .node a b, f, n, h, x, hx => by
    have pa := need_pos a
    have pb := need_pos b
    unfold Tr.deeds at hx
    split at hx
    · rename_i q
      simp only [Tr.need, nd] at h
      rw [if_neg (by omega), if_pos q] at h
      rcases List.mem_append.mp hx with hx | hx
      · rcases List.mem_append.mp hx with hx | hx
        · exact rows b f n (by omega) x hx
        · exact rows a (f + 1) n (by omega) x hx
      · exact .inr ⟨_, _, _, List.mem_singleton.mp hx, by omega, by omega, by omega⟩
    · rename_i q
      have h' : f + a.need ≤ n ∧ f + 1 + b.need ≤ n := by
        simp only [Tr.need, nd] at h
        by_cases q2 : a.need = b.need
        · rw [if_pos q2] at h; omega
        · rw [if_neg q2, if_neg (by omega)] at h; omega
      rcases List.mem_append.mp hx with hx | hx
      · rcases List.mem_append.mp hx with hx | hx
        · exact rows a f n (by omega) x hx
        · exact rows b (f + 1) n (by omega) x hx
      · exact .inr ⟨_, _, _, List.mem_singleton.mp hx, by omega, by omega, by omega⟩
theorem eq_lj {h : Hh} : opEq false (.d (.str [108, 111, 97, 100])) (.d (.str [106, 111, 105, 110])) h = .ok (.d (.bl false)) h := rfl
theorem max1 {r : Int} {h : Hh} : biMaxD [.d (.tup [.int r])] h = .ok (.d (.int r)) h := rfl
theorem max3 {r a b n : Int} {h : Hh} (h1 : r < n) (h2 : a < n) (h3 : b < n) : ∃ m, biMaxD [.d (.tup [.int r, .int a, .int b])] h = .ok (.d (.int m)) h ∧ m < n := by
  by_cases q1 : r < a
  · by_cases q2 : a < b
    · exact ⟨b, by simp [biBest, seqW, allAl, D.al, noNone, sh, dBest, D.lt, q1, q2], h3⟩
    · exact ⟨a, by simp [biBest, seqW, allAl, D.al, noNone, sh, dBest, D.lt, q1, q2], h2⟩
  · by_cases q2 : r < b
    · exact ⟨b, by simp [biBest, seqW, allAl, D.al, noNone, sh, dBest, D.lt, q1, q2], h3⟩
    · exact ⟨r, by simp [biBest, seqW, allAl, D.al, noNone, sh, dBest, D.lt, q1, q2], h1⟩
theorem sl12 {a b c : D} {h : Hh} {m : Bool} : opSl m (.d (.tup [a, b, c])) (some 1) (some 2) h = .ok (.d (.tup [b])) h := rfl
theorem sl12' {a b c d : D} {h : Hh} {m : Bool} : opSl m (.d (.tup [a, b, c, d])) (some 1) (some 2) h = .ok (.d (.tup [b])) h := rfl
theorem sl2' {a b c d : D} {h : Hh} {m : Bool} : opSl m (.d (.tup [a, b, c, d])) (some 2) none h = .ok (.d (.tup [c, d])) h := rfl
theorem few {l : List D} {n : Int} {e0 e1 e2 e3 e6 e7 : Option W} {h : Hh} (hl : l.length ≤ 16777216) (hr : ∀ x ∈ l, Row n x) :
    cLc false [7] (cIt (cv 5)) (yN (tN 7)) (bC opGe (cCl biMaxD (aCons (cIf (bC (opEq false) (c2 opIx (cv 7) (cc (.int 0))) (cc (.str [106, 111, 105, 110]))) (c2 (opAdd false) (cSl false (cv 7) (oS (cc (.int 1))) (oS (cc (.int 2)))) (cSl false (cv 7) (oS (cc (.int 2))) oN)) (cSl false (cv 7) (oS (cc (.int 1))) (oS (cc (.int 2))))) aNil)) (cv 4)) (cv 7)
      [e0, e1, e2, e3, some (.d (.int n)), some (.d (.tup l)), e6, e7] h = .ok (.d (.lst [])) h := by
  rw [cLc_fix (l := ys l) (h' := h) (by rfl)]
  rw [lcL_pure (fun _ => false) (fun _ => .r 0) _ _ (by simp [ys]; exact hl)]
  · have : (ys l).filter (fun _ => false) = [] := List.filter_eq_nil_iff.mpr (by simp)
    rw [this]
    simp [noX, fin, mkL]
  · intro y hy
    obtain ⟨x, hx, rfl⟩ := List.mem_map.mp hy
    refine ⟨[e0, e1, e2, e3, some (.d (.int n)), some (.d (.tup l)), e6, some (.d x)], by simp [yN, yw, ew], ?_, by simp⟩
    rcases hr x hx with ⟨r, v, rfl, h1⟩ | ⟨r, a, b, rfl, h1, h2, h3⟩
    · simp [row3, t30, eq_lj, cSl, oS, oN, sl12, max1, show ¬ n ≤ r by omega]
    · obtain ⟨m, em, hm⟩ := max3 (h := h) h1 h2 h3
      have ea : opAdd false (.d (.tup [.int r])) (.d (.tup [.int a, .int b])) h = .ok (.d (.tup [.int r, .int a, .int b])) h := rfl
      simp [row4, t40, eq_jj, cSl, oS, oN, sl12', sl2', ea, em, show ¬ n ≤ m by omega]
section
variable {ns : List Int} {a b s : Int} {rest : List W}
/-- a tree of the law -/
theorem pick_tree {k : Nat} {x0 x3 x4 x5 x6 x7 : Option W} {turn : Int} (ha : 0 ≤ a) (hb : 0 ≤ b) : ∃ t a' b' s', cIf (bC opLt (cv 2) (cc (.int 3))) (cCall false 3 (run (k + 20) 18) (aCons (cv 1) (aCons (cCall false 2 (run (k + 20) 16) (aCons (cv 1) (aCons (cCl mkL (aCons (cc (.int 0)) (aCons (cc (.int 1)) (aCons (cc (.int 2)) (aCons (cc (.int 4)) (aCons (cc (.int 12)) aNil)))))) aNil))) (aCons (cc (.bl false)) aNil))))
      (cCall false 3 (run (k + 20) 18) (aCons (cv 1) (aCons (cCall false 2 (run (k + 20) 15) (aCons (cv 1) (aCons (cc (.int 5)) aNil))) (aCons (cc (.bl true)) aNil)))) [x0, some (.r 0), some (.d (.int turn)), x3, x4, x5, x6, x7] [S ns a b s rest] = .ok (.d (Tr.d t)) [S ns a' b' s' rest] ∧ t.dep ≤ 12 ∧ t.ok ∧ 0 ≤ a' ∧ 0 ≤ b' := by
  by_cases q : turn < 3
  · obtain ⟨x, hx, a1, b1, s1, e1, h1, h2⟩ := s16 (k := k + 18) (l := [.int 0, .int 1, .int 2, .int 4, .int 12]) (ns := ns) (a := a) (b := b) (s := s) (rest := rest) ha hb (by simp)
    have : ∃ d : Nat, x = .int d ∧ d ≤ 12 := by
      simp only [List.mem_cons, List.not_mem_nil, or_false] at hx
      rcases hx with rfl | rfl | rfl | rfl | rfl
      · exact ⟨0, rfl, by omega⟩
      · exact ⟨1, rfl, by omega⟩
      · exact ⟨2, rfl, by omega⟩
      · exact ⟨4, rfl, by omega⟩
      · exact ⟨12, rfl, by omega⟩
    obtain ⟨d, rfl, hd⟩ := this
    obtain ⟨t, a2, b2, s2, e2, h3, h4, h5, h6⟩ := s18 (ns := ns) (rest := rest) (k + 20) d false a1 b1 s1 (by omega) hd h1 h2
    exact ⟨t, a2, b2, s2, by simp [q, mkL, e1, e2], by omega, h4, h5, h6⟩
  · obtain ⟨v, a1, b1, s1, e1, v1, v2, h1, h2⟩ := s15 (k := k + 19) (m := 5) (ns := ns) (a := a) (b := b) (s := s) (rest := rest) ha hb (by omega)
    obtain ⟨d, rfl⟩ := Int.eq_ofNat_of_zero_le v1
    obtain ⟨t, a2, b2, s2, e2, h3, h4, h5, h6⟩ := s18 (ns := ns) (rest := rest) (k + 20) d true a1 b1 s1 (by omega) (by omega) h1 h2
    exact ⟨t, a2, b2, s2, by simp [q, e1, e2], by omega, h4, h5, h6⟩
theorem turn_ok {k : Nat} {x0 x3 x4 x5 x6 x7 : Option W} {turn : Int} (ha : 0 ≤ a) (hb : 0 ≤ b) : ∃ y3 y4 y5 y6 a' b' s', c_26_0 (run (k + 20)) [x0, some (.r 0), some (.d (.int turn)), x3, x4, x5, x6, x7] [S ns a b s rest] =
      .nx [x0, some (.r 0), some (.d (.int turn)), y3, y4, y5, y6, x7] [S ns a' b' s' rest] ∧ 0 ≤ a' ∧ 0 ≤ b' := by
  obtain ⟨t, a1, b1, s1, e1, hd, ho, h1, h2⟩ := pick_tree (k := k) (x0 := x0) (x3 := x3) (x4 := x4) (x5 := x5) (x6 := x6) (x7 := x7) (turn := turn) (ns := ns) (a := a) (b := b) (s := s) (rest := rest) ha hb
  have np := need_pos t
  have nl := need_le t
  have hm : ((t.need.toNat : Nat) : Int) = t.need := by omega
  have sz := size_small hd
  generalize hH : [S ns a1 b1 s1 rest] = H at *
  have q19 := p19 (t := t) (k := k + 20) (h := H) (by omega)
  have q20 := pure_ok (h := H) rfl (s20 t 0 (k + 20) [] hd (by omega))
  have q4 := pure_ok (h := H) rfl (s4 (t := t) (k := k + 20) (h := []) hd (by omega))
  have q10 := pure_ok (h := H) rfl (s10 (t := t) (k := k + 20) (h := []) hd (by omega))
  have q6 := pure_ok (h := H) rfl (s6 (t := t) (k := k + 20) (h := []) hd (by omega))
  have q21 := pure_ok (h := H) rfl (s21 t (k + 20) [] (by omega))
  have q17 := same_ok (k := k + 19) (h := H) (show3 hd ho)
  have q7 := pure_ok (h := H) rfl (s7 (t := t) (k := k + 19) (m := t.need.toNat) (h := []) hd hm (by omega))
  have q22 := pure_ok (h := H) rfl (s22 (t := t) (k := k + 19) (m := t.need.toNat) (h := []) hd hm)
  have q17b := same_ok (k := k + 19) (h := H) (show_regs hd ho)
  have q9 := pure_ok (h := H) rfl (s9 (t := t) (k := k + 19) (m := t.need.toNat) (h := []) hd hm (by omega))
  have q12 := pure_ok (h := H) rfl (s12 (t := t) (k := k + 20) (h := []) hd (by omega))
  rw [hm] at q7 q22 q9
  have ra : opIx (.d (.tup t.regs)) (.d (.int 0)) H = .ok (.d t.d) H := by
    have := ix_t (h := H) (l := t.regs) (j := 0) (x := t.d) regs_at
    simpa using this
  have eq : opEq true (.d t.d) (.d t.d) H = .ok (.d (.bl false)) H := by simp [opEq, valD, sh_d t 64 (by omega), eqv_refl]
  have fw := fun e0 e1 e2 e3 e6 e7 => few (l := t.deeds 0) (n := t.need) (e0 := e0) (e1 := e1) (e2 := e2) (e3 := e3) (e6 := e6) (e7 := e7) (h := H) (by rw [deeds_len]; omega) (rows t 0 t.need (by omega))
  refine ⟨some (.d t.d), some (.d (.int t.need)), some (.d (.tup (t.deeds 0))), some (.d (.tup t.regs)), a1, b1, s1, ?_, h1, h2⟩
  rw [hH]
  unfold c_26_0
  rw [z_seq, z_asg, e1]
  simp only [Tr.rec3] at q17
  simp [q19, q20, q4, q10, q6, q21, mkL, q17, q7, q22, q17b, ra, eq, fw, q9, q12]
end
end K39
set_option Elab.async false
set_option linter.all false
set_option maxRecDepth 100000
set_option maxHeartbeats 1000000
namespace K39
open Fz
/-! ### few trees -/
def Tr.lab : Tr → Int → Tr × Int
  | .leaf _, c => (.leaf (c + 1), c + 1)
  | .node a b, c => (.node (a.lab c).1 (b.lab (a.lab c).2).1, (b.lab (a.lab c).2).2)
def Tr.shape : Tr → Tr
  | .leaf _ => .leaf 0
  | .node a b => .node a.shape b.shape
theorem lab_shape : ∀ (t : Tr) (c : Int), t.shape.lab c = t.lab c
  | .leaf _, _ => rfl
  | .node a b, c => by simp only [Tr.shape, Tr.lab, lab_shape a, lab_shape b]
def allT : Nat → List Tr
  | 0 => [.leaf 0]
  | n + 1 => .leaf 0 :: ((allT n).map fun a => (allT n).map fun b => Tr.node a b).flatten
theorem shape_in : ∀ (n : Nat) (t : Tr), t.dep ≤ n → t.shape ∈ allT n
  | 0, .leaf _, _ => by simp [allT, Tr.shape]
  | n + 1, .leaf _, _ => by simp [allT, Tr.shape]
  | 0, .node a b, h => by simp [Tr.dep] at h
  | n + 1, .node a b, h => by
    simp only [Tr.dep] at h
    refine List.mem_cons_of_mem _ (List.mem_flatten.mpr ⟨_, List.mem_map.mpr ⟨a.shape, shape_in n a (by omega), rfl⟩, List.mem_map.mpr ⟨b.shape, shape_in n b (by omega), rfl⟩⟩)
theorem lab_dep : ∀ (t : Tr) (c : Int), (t.lab c).1.dep = t.dep
  | .leaf _, _ => rfl
  | .node a b, c => by simp only [Tr.lab, Tr.dep, lab_dep a, lab_dep b]
def isB (k : Bool) (m : R W) : Bool := match m with
  | .ok (.d (.bl c)) _ => c == k
  | _ => false
def chk (t : Tr) : Bool := if t.need > 1 then isB false (run 39 24 [.d t.d, .d (.int (t.need - 1))] []) && isB true (run 39 24 [.d t.d, .d (.int t.need)] []) else true
end K39
set_option Elab.async false
set_option linter.all false
set_option maxRecDepth 100000
set_option maxHeartbeats 1000000
namespace K39
open Fz
/-! ### the start -/
theorem start_row {r : Nat → Fn} {x0 x2 : Option W} {s c : Int} {h : Hh} : c_14_0 r [x0, some (.d (.int s)), some (.d (.int c))] h = .nx [x0, some (.d (.int ((s * 48271 + c) % 2147483629 + 1))), some (.d (.int c))] h := by
  simp [c_14_0, mulS]
theorem start_all {r : Nat → Fn} {x0 : Option W} {h : Hh} : ∀ (l : List Int) (s : Int) (x2 : Option W), ∃ s' y2, forK (yN (tN 2)) (c_14_0 r) (ys (l.map .int)) [x0, some (.d (.int s)), x2] h = .nx [x0, some (.d (.int s')), y2] h
  | [], s, x2 => ⟨s, x2, rfl⟩
  | c :: l, s, x2 => by
    obtain ⟨s', y2, e⟩ := start_all (r := r) (x0 := x0) (h := h) l ((s * 48271 + c) % 2147483629 + 1) (some (.d (.int c)))
    refine ⟨s', y2, ?_⟩
    show forK _ _ (.w (.d (.int c)) :: ys (l.map .int)) _ _ = _
    unfold forK
    simp only [yN, yw, Option.bind_some, z_tN, List.set_cons_succ, List.set_cons_zero]
    rw [start_row (x2 := x2)]
    exact e
theorem s14 {k : Nat} {ns : List Int} (hn : ns.length ≤ 63) : ∃ s, run (k + 1) 14 [scr ns] [] = .ok (.r 0) [S ns 0 0 s []] := by
  obtain ⟨s', y2, e⟩ := start_all (r := run k) (x0 := some (scr ns)) (h := []) ns 7 none
  refine ⟨s', ?_⟩
  have es : sFor (cIt (cv 0)) (yN (tN 2)) (c_14_0 (run k)) [some (scr ns), some (.d (.int 7)), none] [] = _ := sFor_K (l := ys (ns.map .int)) (h' := []) rfl
  rw [e] at es
  have el : biList false [scr ns] [] = .ok (scr ns) [] := by
    unfold scr biList
    simp only [seqW, lstW, fin, mkL, allD_map]
    rw [if_neg Bool.false_ne_true, if_pos (by simp; omega)]
  rw [run_14]
  simp [mkFn, c_14, es, unbk, el, mkM, S]
  rfl
/-! ### leaves told apart -/
section
variable {ns : List Int} {a b s : Int}
theorem S4 {c : Int} : opIx (.r 0) (.d (.int 4)) [S ns a b s [.d (.int c)]] = .ok (.d (.int c)) [S ns a b s [.d (.int c)]] := ix_r (j := 4) rfl rfl
theorem T4 {c x : Int} : setAt (.r 0) (.d (.int 4)) (.d (.int x)) [S ns a b s [.d (.int c)]] = some [S ns a b s [.d (.int x)]] := set_r (j := 4) (l := .d (.lst (ns.map .int)) :: .d (.int a) :: .d (.int b) :: .d (.int s) :: [.d (.int c)]) rfl (by simp)
theorem s25 : ∀ (t : Tr) (c : Int) (k : Nat), t.dep + 1 ≤ k → run k 25 [.r 0, .d t.d] [S ns a b s [.d (.int c)]] = .ok (.d (t.lab c).1.d) [S ns a b s [.d (.int (t.lab c).2)]]
  | .leaf i, c, k + 1, _ => by
    rw [run_25]
    simp [mkFn, c_25, Tr.d, isD, S4, T4, Tr.lab]
  | .node x y, c, k + 1, h => by
    simp only [Tr.dep] at h
    have e1 := s25 x c k (by omega)
    have e2 := s25 y (x.lab c).2 k (by omega)
    rw [run_25]
    simp [mkFn, c_25, Tr.d, isD, ix0, ix1, e1, e2, mkT, Tr.lab]
  | .leaf i, c, 0, h => by omega
  | .node x y, c, 0, h => by omega
/-! ### the turns -/
theorem turns {k : Nat} {x0 x7 : Option W} : ∀ (l : List Int) (a b s : Int) (x2 x3 x4 x5 x6 : Option W), 0 ≤ a → 0 ≤ b → ∃ y2 y3 y4 y5 y6 a' b' s', forK (yN (tN 2)) (c_26_0 (run (k + 20))) (ys (l.map .int)) [x0, some (.r 0), x2, x3, x4, x5, x6, x7] [S ns a b s []] =
      .nx [x0, some (.r 0), y2, y3, y4, y5, y6, x7] [S ns a' b' s' []] ∧ 0 ≤ a' ∧ 0 ≤ b'
  | [], a, b, s, x2, x3, x4, x5, x6, ha, hb => ⟨x2, x3, x4, x5, x6, a, b, s, rfl, ha, hb⟩
  | i :: l, a, b, s, x2, x3, x4, x5, x6, ha, hb => by
    obtain ⟨y3, y4, y5, y6, a1, b1, s1, e1, h1, h2⟩ := turn_ok (ns := ns) (rest := []) (k := k) (x0 := x0) (x3 := x3) (x4 := x4) (x5 := x5) (x6 := x6) (x7 := x7) (turn := i) (a := a) (b := b) (s := s) ha hb
    obtain ⟨z2, z3, z4, z5, z6, a2, b2, s2, e2, h3, h4⟩ := turns (k := k) (x0 := x0) (x7 := x7) l a1 b1 s1 (some (.d (.int i))) y3 y4 y5 y6 h1 h2
    refine ⟨z2, z3, z4, z5, z6, a2, b2, s2, ?_, h3, h4⟩
    show forK _ _ (.w (.d (.int i)) :: ys (l.map .int)) _ _ = _
    unfold forK
    simp only [yN, yw, Option.bind_some, z_tN, List.set_cons_succ, List.set_cons_zero]
    rw [e1]
    exact e2
theorem lS {rest : List W} : lstW (.r 0) [S ns a b s rest] = some (.d (.lst (ns.map .int)) :: .d (.int a) :: .d (.int b) :: .d (.int s) :: rest) := rfl
theorem app0 : mAppend (.r 0) [.d (.int 0)] [S ns a b s []] = .ok (.d .non) [S ns a b s [.d (.int 0)]] := rfl
theorem isB_ok {k : Bool} {m : R W} (h : isB k m = true) : ∃ h', m = .ok (.d (.bl k)) h' := by
  unfold isB at h
  split at h
  · have := eq_of_beq h
    subst this
    exact ⟨_, rfl⟩
  · cases h
theorem plain' (can3 : ((allT 3).all fun t => chk (t.lab 0).1) = true) (ns : List Int) (hn : ns.length ≤ 63) : ∃ h', run 40 26 [scr ns] [] = .ok (.d (.bl true)) h' := by
  obtain ⟨s0, e14⟩ := s14 (k := 38) hn
  obtain ⟨y2, y3, y4, y5, y6, a1, b1, s1, e1, h1, h2⟩ := turns (ns := ns) (k := 19) (x0 := some (scr ns)) (x7 := none) [0, 1, 2, 3] 0 0 s0 none none none none none (by omega) (by omega)
  have es : sFor (cR1 (aCons (cc (.int 4)) aNil)) (yN (tN 2)) (c_26_0 (run 39)) [some (scr ns), some (.r 0), none, none, none, none, none, none] [S ns 0 0 s0 []] = _ := sFor_K (l := ys ([0, 1, 2, 3].map .int)) (h' := [S ns 0 0 s0 []]) rfl
  rw [e1] at es
  obtain ⟨x, hx, a2, b2, s2, e2, h3, h4⟩ := s16 (k := 37) (l := [.int 2, .int 2, .int 3]) (ns := ns) (a := a1) (b := b1) (s := s1) (rest := [.d (.int 0)]) h1 h2 (by simp)
  have : ∃ d : Nat, x = .int d ∧ d ≤ 3 := by
    simp only [List.mem_cons, List.not_mem_nil, or_false] at hx
    rcases hx with rfl | rfl | rfl
    · exact ⟨2, rfl, by omega⟩
    · exact ⟨2, rfl, by omega⟩
    · exact ⟨3, rfl, by omega⟩
  obtain ⟨d, rfl, hd⟩ := this
  obtain ⟨t, a3, b3, s3, e3, h5, h6, h7, h8⟩ := s18 (ns := ns) (rest := [.d (.int 0)]) 39 d false a2 b2 s2 (by omega) (by omega) h3 h4
  have e25 := s25 (ns := ns) (a := a3) (b := b3) (s := s3) t 0 39 (by omega)
  have hdl := lab_dep t 0
  have hc := List.all_eq_true.mp can3 _ (shape_in 3 t (by omega))
  rw [lab_shape] at hc
  generalize (t.lab 0).1 = u at *
  generalize (t.lab 0).2 = c at *
  have e4 := pure_ok (h := [S ns a3 b3 s3 [.d (.int c)]]) rfl (s4 (t := u) (k := 39) (h := []) (by omega) (by omega))
  rw [run_26]
  unfold chk at hc
  by_cases q : u.need > 1
  · rw [if_pos q, Bool.and_eq_true] at hc
    obtain ⟨f1, c1⟩ := isB_ok hc.1
    obtain ⟨f2, c2⟩ := isB_ok hc.2
    have g1 := pure_ok (h := [S ns a3 b3 s3 [.d (.int c)]]) rfl c1
    have g2 := pure_ok (h := [S ns a3 b3 s3 [.d (.int c)]]) rfl c2
    refine ⟨[S ns a3 b3 s3 [.d (.int c)]], ?_⟩
    simp [mkFn, c_26, e14, es, unbk, cLm, lS, app0, mkL, e2, e3, e25, e4, q, g1, g2]
  · refine ⟨[S ns a3 b3 s3 [.d (.int c)]], ?_⟩
    simp [mkFn, c_26, e14, es, unbk, cLm, lS, app0, mkL, e2, e3, e25, e4, q]
end
end K39
set_option Elab.async false
set_option linter.all false
set_option maxRecDepth 100000
set_option maxHeartbeats 1000000
namespace K39
open Fz
/-! ### positions -/
def nI (i : Nat) : D := .int i
def posD (p : List Nat) : D := .tup (p.map nI)
theorem sh_pos (p : List Nat) : sh 64 (posD p) = true := by
  simp only [posD, sh]
  exact List.all_eq_true.mpr fun x hx => by obtain ⟨i, _, rfl⟩ := List.mem_map.mp hx; rfl
theorem any_pos (p : List Nat) (k : Nat) : ((p.map nI).any fun z => D.eqv z (.int k)) = decide (k ∈ p) := by
  rw [List.any_map]
  induction p with
  | nil => simp
  | cons a p ih =>
    rw [List.any_cons, ih]
    by_cases q : a = k
    · subst q; simp [nI, D.eqv]
    · have : ¬ (k = a) := fun z => q z.symm
      have q2 : ¬ ((a : Int) = k) := by omega
      simp [nI, D.eqv, this, q2]
theorem in_pos {p : List Nat} {k : Nat} {neg : Bool} {h : Hh} : opIn neg (.d (.int k)) (.d (posD p)) h = .ok (.d (.bl (if neg then !decide (k ∈ p) else decide (k ∈ p)))) h := by
  have s1 : sh 64 (.int k) = true := rfl
  have s2 := sh_pos p
  unfold opIn
  simp only [valD, posD, D.items]
  rw [any_pos]
  simp only [posD] at s2
  simp [s1, s2]
theorem posD_inj {p q : List Nat} (h : posD p = posD q) : p = q := by
  simp only [posD, D.tup.injEq] at h
  exact List.map_inj_right (fun a b e => by simp only [nI, D.int.injEq] at e; omega) |>.mp h
theorem kt_pos (p : List Nat) : (posD p).isKT = true := by
  simp only [posD, D.isKT]
  exact List.all_eq_true.mpr fun x hx => by obtain ⟨i, _, rfl⟩ := List.mem_map.mp hx; rfl
/-- the dict of the positions seen -/
def seenD (ps : List (List Nat)) : List (D × W) := ps.map fun p => (posD p, .d (.bl true))
theorem lkd_seen (p : List Nat) : ∀ ps : List (List Nat), lkd (posD p) (seenD ps) = if p ∈ ps then some (.d (.bl true)) else none
  | [] => rfl
  | q :: ps => by
    show (if D.beq (posD q) (posD p) = true then _ else lkd (posD p) (seenD ps)) = _
    by_cases e : q = p
    · subst e
      rw [if_pos ((D.beq_iff _ _).mpr rfl)]
      simp
    · rw [if_neg (fun h => e (posD_inj ((D.beq_iff _ _).mp h))), lkd_seen p ps]
      have : ¬ p = q := fun z => e z.symm
      simp [this]
theorem putd_seen {p : List Nat} {ps : List (List Nat)} (h : p ∉ ps) : putd (posD p) (.d (.bl true)) (seenD ps) = seenD (ps ++ [p]) := by
  have : (seenD ps).any (fun x => D.beq x.1 (posD p)) = false := by
    rw [List.any_eq_false]
    intro x hx
    obtain ⟨q, hq, rfl⟩ := List.mem_map.mp hx
    intro e
    exact h (posD_inj ((D.beq_iff _ _).mp e) ▸ hq)
  unfold putd
  rw [if_neg (by rw [this]; exact Bool.false_ne_true)]
  simp [seenD]
/-! sorting -/
def sortN (l : List Nat) : List Nat := isort (fun a b => decide (a ≤ b)) l
theorem ins_map (a : Nat) : ∀ l : List Nat, ins D.le (nI a) (l.map nI) = (ins (fun a b => decide (a ≤ b)) a l).map nI
  | [] => rfl
  | x :: l => by
    simp only [List.map_cons, ins]
    by_cases q : a ≤ x
    · rw [if_pos (by simp [D.le, D.lt, nI]; omega), if_pos (by simpa using q)]; rfl
    · rw [if_neg (by simp [D.le, D.lt, nI]; omega), if_neg (by simpa using q), List.map_cons, ins_map a l]
theorem sort_map : ∀ l : List Nat, isort D.le (l.map nI) = (sortN l).map nI
  | [] => rfl
  | a :: l => by
    have := sort_map l
    unfold sortN at *
    simp only [List.map_cons, isort]
    rw [this, ins_map]
theorem sort_pos {p : List Nat} {h : Hh} (hl : p.length ≤ 1000) : biSort false [.d (posD p)] h = .ok (.d (.lst ((sortN p).map nI))) h := by
  have hlen : (sortN p).length = p.length := by
    have := isort_merge (le := fun a b : Nat => decide (a ≤ b)) (by intro a b c; simp; omega) (by intro a b; simp; omega) p
    unfold sortN
    rw [← this, List.length_mergeSort]
  have a1 : allAl (p.map nI) = true := List.all_eq_true.mpr fun x hx => List.all_eq_true.mpr fun y hy => by
    obtain ⟨i, _, rfl⟩ := List.mem_map.mp hx
    obtain ⟨j, _, rfl⟩ := List.mem_map.mp hy
    rfl
  have a2 : canSort (p.map nI) = true := by
    unfold canSort
    rw [Bool.or_eq_true]
    exact .inr (List.all_eq_true.mpr fun x hx => by obtain ⟨i, _, rfl⟩ := List.mem_map.mp hx; rfl)
  have a3 : (p.map nI).all (sh 63) = true := List.all_eq_true.mpr fun x hx => by obtain ⟨i, _, rfl⟩ := List.mem_map.mp hx; rfl
  unfold biSort
  simp only [seqW, posD, Option.bind_some, allD_map]
  rw [if_pos (by rw [a1, a2, a3]; rfl), sort_map]
  simp only [fin, mkL, allD_map]
  rw [if_neg Bool.false_ne_true, if_pos (by simp [hlen]; omega)]
theorem tup_l {l : List D} {h : Hh} (hl : l.length ≤ 16777216) : biTuple [.d (.lst l)] h = .ok (.d (.tup l)) h := by
  show (match lstW (.d (.lst l)) h with
    | some l => mkT l h
    | none => .no) = _
  simp only [lstW]
  exact mkT_d hl
/-! ### one position's moves -/
def cand (rows : List (List Nat)) (here : List Nat) : List Nat := (List.range rows.length).filter fun k => !decide (k ∈ here) && ((rows.getD k []).filter fun one => !decide (one ∈ here)).isEmpty
def rest (many : Int) (here : List Nat) : List (List Nat) := ((List.range here.length).map fun k => here.take k ++ here.drop (k + 1)) ++ if (here.length : Int) < many then [here] else []
def rowsD (rows : List (List Nat)) : D := .lst (rows.map posD)
section
variable {e0 e1 e2 e3 e4 e5 e6 e7 e9 e11 e12 e13 e14 e10 : Option W} {rows : List (List Nat)} {here : List Nat} {h : Hh} {k : Nat} {many : Int}
theorem ix_rows (hk : k < rows.length) : opIx (.d (rowsD rows)) (.d (.int k)) h = .ok (.d (posD (rows.getD k []))) h := by
  refine ix_l ?_
  rw [List.getElem?_map, List.getD_eq_getElem?_getD, List.getElem?_eq_getElem hk]
  rfl
theorem lack (hk : k < rows.length) (hr : ∀ r ∈ rows, r.length ≤ 2) : cLc false [11] (cIt (c2 opIx (cv 3) (cv 10))) (yN (tN 11)) (bC (opIn true) (cv 11) (cv 8)) (cv 11)
    [e0, e1, e2, some (.d (rowsD rows)), e4, e5, e6, e7, some (.d (posD here)), e9, some (.d (.int k)), e11, e12, e13, e14] h = .ok (.d (.lst (((rows.getD k []).filter fun one => !decide (one ∈ here)).map nI))) h := by
  have hl : (rows.getD k []).length ≤ 2 := by
    rw [List.getD_eq_getElem?_getD, List.getElem?_eq_getElem hk]
    exact hr _ (List.getElem_mem hk)
  have hc : cIt (c2 opIx (cv 3) (cv 10)) [e0, e1, e2, some (.d (rowsD rows)), e4, e5, e6, e7, some (.d (posD here)), e9, some (.d (.int k)), e11, e12, e13, e14] h = .ok (fixS (ys ((rows.getD k []).map nI))) h := by
    simp [cIt, ix_rows hk]
    rfl
  rw [cLc_fix hc]
  rw [lcL_pure (fun y => match y with
    | .w (.d (.int i)) => !decide (i.toNat ∈ here)
    | _ => false) (fun y => match y with
    | .w x => x
    | _ => .r 0) _ _ (by simp only [ys, List.length_map, List.length_nil]; omega)]
  · have : ∀ l : List Nat, ((ys (l.map nI)).filter (fun y => match y with
        | .w (.d (.int i)) => !decide (i.toNat ∈ here)
        | _ => false)).map (fun y => match y with
        | .w x => x
        | _ => W.r 0) = ((l.filter fun one => !decide (one ∈ here)).map nI).map .d := by
      intro l
      induction l with
      | nil => rfl
      | cons a l ih =>
        show ((Y.w (.d (nI a)) :: ys (l.map nI)).filter _).map _ = _
        rw [List.filter_cons, List.filter_cons]
        by_cases q : a ∈ here
        · simp only [nI, Int.toNat_natCast, q, decide_true, Bool.not_true, Bool.false_eq_true, if_false]
          exact ih
        · simp only [nI, Int.toNat_natCast, q, decide_false, Bool.not_false, if_true, List.map_cons]
          rw [← ih]
    simp only [List.nil_append]
    rw [this]
    simp only [noX, R.bind_ok, fin, mkL, allD_map]
    rw [if_neg Bool.false_ne_true, if_pos (by
      rw [List.length_map]
      exact Nat.le_trans (List.length_filter_le _ _) (by omega))]
  · intro y hy
    obtain ⟨x, hx, rfl⟩ := List.mem_map.mp hy
    obtain ⟨i, _, rfl⟩ := List.mem_map.mp hx
    exact ⟨_, rfl, by simp [ew, nI, in_pos], fun _ => by simp [ew, nI]⟩
theorem fin_l {l : List D} {h : Hh} (hl : l.length ≤ 16777216) : fin false (l.map .d) h = .ok (.d (.lst l)) h := by
  simp only [fin, mkL, allD_map]
  rw [if_neg Bool.false_ne_true, if_pos hl]
/-- what is walked by range(n) -/
def rg (n : Nat) : List Y := (List.range n).map fun i => .w (.d (nI i))
theorem cR1_s {a : Ca} {e : Ev} {j : Int} (he : a e h = .ok [.d (.int j)] h) (c : -(2 ^ 62) ≤ j ∧ j < 2 ^ 62) : cR1 a e h = .ok (rngS 0 j) h := by
  unfold cR1
  rw [he, R.bind_ok]
  exact if_pos c
theorem rng_rg (n : Nat) : rngS 0 (n : Int) = fixS (rg n) := by
  unfold rngS rg
  rw [Int.sub_zero, Int.toNat_natCast]
  have : ((List.range n).map fun (i : Nat) => Y.w (.d (.int (0 + (i : Nat))))) = (List.range n).map fun i => Y.w (.d (nI i)) := List.map_congr_left fun i _ => by rw [Int.zero_add]; rfl
  rw [this]
theorem r1_ok {ca : Cd} {e : Ev} {n : Nat} (hn : n ≤ 1000) (hc : ca e h = .ok (.d (.int n)) h) : cR1 (aCons ca aNil) e h = .ok (fixS (rg n)) h := by
  rw [← rng_rg]
  exact cR1_s (by simp [hc]) (by omega)
theorem cand_ok (hn : rows.length ≤ 1000) (hr : ∀ r ∈ rows, r.length ≤ 2) : cLc false [10] (cR1 (aCons (cCl biLen (aCons (cv 3) aNil)) aNil)) (yN (tN 10)) (bAnd (bC (opIn true) (cv 10) (cv 8)) (bNot (cT (cLc false [11] (cIt (c2 opIx (cv 3) (cv 10))) (yN (tN 11)) (bC (opIn true) (cv 11) (cv 8)) (cv 11))))) (cv 10)
    [e0, e1, e2, some (.d (rowsD rows)), e4, e5, e6, e7, some (.d (posD here)), e9, e10, e11, e12, e13, e14] h = .ok (.d (.lst ((cand rows here).map nI))) h := by
  rw [cLc_fix (l := rg rows.length) (h' := h) (r1_ok hn (by simp [rowsD]))]
  rw [lcL_pure (fun y => match y with
    | .w (.d (.int i)) => !decide (i.toNat ∈ here) && ((rows.getD i.toNat []).filter fun one => !decide (one ∈ here)).isEmpty
    | _ => false) (fun y => match y with
    | .w x => x
    | _ => .r 0) _ _ (by simp only [rg, List.length_map, List.length_range, List.length_nil]; omega)]
  · have : ∀ l : List Nat, ((l.map fun i => Y.w (.d (nI i))).filter (fun y => match y with
        | .w (.d (.int i)) => !decide (i.toNat ∈ here) && ((rows.getD i.toNat []).filter fun one => !decide (one ∈ here)).isEmpty
        | _ => false)).map (fun y => match y with
        | .w x => x
        | _ => W.r 0) = ((l.filter fun k => !decide (k ∈ here) && ((rows.getD k []).filter fun one => !decide (one ∈ here)).isEmpty).map nI).map .d := by
      intro l
      induction l with
      | nil => rfl
      | cons a l ih =>
        rw [List.map_cons, List.filter_cons, List.filter_cons]
        cases q : (!decide (a ∈ here) && ((rows.getD a []).filter fun one => !decide (one ∈ here)).isEmpty) with
        | false =>
          simp only [nI, Int.toNat_natCast, q, Bool.false_eq_true, if_false]
          exact ih
        | true =>
          simp only [nI, Int.toNat_natCast, q, if_true, List.map_cons]
          rw [← ih]
          rfl
    simp only [List.nil_append]
    unfold rg
    rw [this]
    simp only [noX, R.bind_ok]
    exact fin_l (by
      rw [List.length_map]
      exact Nat.le_trans (List.length_filter_le _ _) (by simp; omega))
  · intro y hy
    obtain ⟨i, hi, rfl⟩ := List.mem_map.mp hy
    have hi' := List.mem_range.mp hi
    refine ⟨[e0, e1, e2, some (.d (rowsD rows)), e4, e5, e6, e7, some (.d (posD here)), e9, some (.d (nI i)), e11, e12, e13, e14], rfl, ?_, fun _ => by simp⟩
    have hl := lack (e0 := e0) (e1 := e1) (e2 := e2) (e4 := e4) (e5 := e5) (e6 := e6) (e7 := e7) (e9 := e9) (e11 := e11) (e12 := e12) (e13 := e13) (e14 := e14) (rows := rows) (here := here) (h := h) (k := i) hi' hr
    by_cases q : i ∈ here
    · simp [nI, in_pos, q]
    · simp only [z_bAnd, z_bC, z_c2, z_cvS, z_cv0, nI, R.bind_ok, in_pos, q, z_asB, z_bNot, z_cT, decide_false, Bool.not_false, if_true]
      rw [hl]
      simp [List.isEmpty_map]
      exact fun _ => q
theorem take_pos {p : List Nat} {k : Nat} : opSl false (.d (posD p)) none (some (k : Int)) h = .ok (.d (posD (p.take k))) h := by
  have : cut (p.map nI) none (some (k : Int)) = (p.take k).map nI := by
    unfold cut
    have h1 : HT.sIx (p.map nI).length 0 none = 0 := rfl
    have h2 : HT.sIx (p.map nI).length (p.map nI).length (some (k : Int)) = min k p.length := by
      rw [HT.sIx_nat, List.length_map]
    rw [h1, h2, List.drop_zero, Nat.sub_zero, ← List.map_take]
    congr 1
    rw [List.take_eq_take_iff]
    omega
  simp only [posD, opSl, this]
theorem drop_pos {p : List Nat} {k : Nat} (hk : k ≤ p.length) : opSl false (.d (posD p)) (some (k : Int)) none h = .ok (.d (posD (p.drop k))) h := by
  have : cut (p.map nI) (some (k : Int)) none = (p.drop k).map nI := by
    rw [cut_from (by simpa using hk), List.map_drop]
  simp only [posD, opSl, this]
theorem add_pos {p q : List Nat} (hl : p.length + q.length ≤ 1000) : opAdd false (.d (posD p)) (.d (posD q)) h = .ok (.d (posD (p ++ q))) h := by
  unfold posD
  rw [addT (by simp; omega), List.map_append]
theorem rest_ok (hl : here.length ≤ 500) : c2 (opAdd false) (cLc false [10] (cR1 (aCons (cCl biLen (aCons (cv 8) aNil)) aNil)) (yN (tN 10)) bYes (c2 (opAdd false) (cSl false (cv 8) oN (oS (cv 10))) (cSl false (cv 8) (oS (c2 (opAdd false) (cv 10) (cc (.int 1)))) oN))) (cIf (bC opLt (cCl biLen (aCons (cv 8) aNil)) (cv 1)) (cCl mkL (aCons (cv 8) aNil)) (cCl mkL aNil))
    [e0, some (.d (.int many)), e2, e3, e4, e5, e6, e7, some (.d (posD here)), e9, e10, e11, e12, e13, e14] h = .ok (.d (.lst ((rest many here).map posD))) h := by
  have e1 : cLc false [10] (cR1 (aCons (cCl biLen (aCons (cv 8) aNil)) aNil)) (yN (tN 10)) bYes (c2 (opAdd false) (cSl false (cv 8) oN (oS (cv 10))) (cSl false (cv 8) (oS (c2 (opAdd false) (cv 10) (cc (.int 1)))) oN))
      [e0, some (.d (.int many)), e2, e3, e4, e5, e6, e7, some (.d (posD here)), e9, e10, e11, e12, e13, e14] h = .ok (.d (.lst (((List.range here.length).map fun k => here.take k ++ here.drop (k + 1)).map posD))) h := by
    rw [cLc_fix (l := rg here.length) (h' := h) (r1_ok (by omega) (by simp [posD]))]
    rw [lcL_pure (fun _ => true) (fun y => match y with
      | .w (.d (.int i)) => .d (posD (here.take i.toNat ++ here.drop (i.toNat + 1)))
      | _ => .r 0) _ _ (by simp only [rg, List.length_map, List.length_range, List.length_nil]; omega)]
    · have : ((rg here.length).filter (fun _ => true)).map (fun y => match y with
        | .w (.d (.int i)) => W.d (posD (here.take i.toNat ++ here.drop (i.toNat + 1)))
        | _ => .r 0) = (((List.range here.length).map fun k => here.take k ++ here.drop (k + 1)).map posD).map .d := by
        rw [List.filter_eq_self.mpr (by simp)]
        unfold rg
        rw [List.map_map, List.map_map, List.map_map]
        refine List.map_congr_left fun i _ => ?_
        simp [nI]
      simp only [List.nil_append]
      rw [this]
      simp only [noX, R.bind_ok]
      exact fin_l (by simp; omega)
    · intro y hy
      obtain ⟨i, hi, rfl⟩ := List.mem_map.mp hy
      have hi' := List.mem_range.mp hi
      refine ⟨[e0, some (.d (.int many)), e2, e3, e4, e5, e6, e7, some (.d (posD here)), e9, some (.d (nI i)), e11, e12, e13, e14], rfl, rfl, fun _ => ?_⟩
      have d1 := drop_pos (h := h) (p := here) (k := i + 1) (by omega)
      push_cast at d1
      simp [nI, cSl, oN, oS, take_pos, d1, add_pos (show (here.take i).length + (here.drop (i + 1)).length ≤ 1000 by simp; omega)]
  rw [z_c2, e1, R.bind_ok]
  unfold rest
  by_cases q : (here.length : Int) < many
  · rw [if_pos q, List.map_append]
    have := addL (h := h) (a := ((List.range here.length).map fun k => here.take k ++ here.drop (k + 1)).map posD) (b := [posD here]) (by simp; omega)
    simp [posD, q, mkL] at this ⊢
    exact this
  · rw [if_neg q, List.append_nil]
    have := addL (h := h) (a := ((List.range here.length).map fun k => here.take k ++ here.drop (k + 1)).map posD) (b := []) (by simp; omega)
    simp [posD, q, mkL] at this ⊢
    exact this
end
end K39
set_option Elab.async false
set_option linter.all false
set_option maxRecDepth 100000
set_option maxHeartbeats 1000000
namespace K39
open Fz
/-! ### the search, step by step -/
def knownL (ps : List (List Nat)) : List W := ps.map fun p => .d (posD p)
structure KS (n1 n2 : Nat) (h : Hh) (ps : List (List Nat)) : Prop where
  k : h[n1]? = some (.lst (knownL ps))
  s : h[n2]? = some (.dt (seenD ps))
  ne : n1 ≠ n2
def add (ps : List (List Nat)) (f : List Nat) : List (List Nat) := if f ∈ ps then ps else ps ++ [f]
theorem sortN_len (p : List Nat) : (sortN p).length = p.length := by
  have := isort_merge (le := fun a b : Nat => decide (a ≤ b)) (by intro a b c; simp; omega) (by intro a b; simp; omega) p
  unfold sortN
  rw [← this, List.length_mergeSort]
section
variable {e0 e1 e2 e3 e4 e7 e8 e10 e11 e12 e14 : Option W} {r : Nat → Fn} {h : Hh} {n1 n2 number : Nat} {ps : List (List Nat)}
theorem step0 {some' : List Nat} (hk : KS n1 n2 h ps) (hl : some'.length ≤ 500) (hp : ps.length < 16777216) : ∃ h', c_24_0 r [e0, e1, e2, e3, e4, some (.r n1), some (.r n2), e7, e8, some (.d (nI number)), e10, e11, e12, some (.d (posD some')), e14] h =
      .nx [e0, e1, e2, e3, e4, some (.r n1), some (.r n2), e7, e8, some (.d (nI number)), e10, e11, e12, some (.d (posD some')), some (.d (posD (sortN (some' ++ [number]))))] h' ∧ KS n1 n2 h' (add ps (sortN (some' ++ [number]))) := by
  have a1 : opAdd false (.d (posD some')) (.d (.tup [nI number])) h = .ok (.d (posD (some' ++ [number]))) h := add_pos (p := some') (q := [number]) (by simp; omega)
  have a2 := sort_pos (h := h) (p := some' ++ [number]) (by simp; omega)
  have a3 : biTuple [.d (.lst ((sortN (some' ++ [number])).map nI))] h = .ok (.d (posD (sortN (some' ++ [number])))) h := tup_l (by simp [sortN_len]; omega)
  generalize hf : sortN (some' ++ [number]) = f at *
  have a4 : opDin true (.d (posD f)) (.r n2) h = .ok (.d (.bl (!decide (f ∈ ps)))) h := by
    unfold opDin dLook
    dsimp only
    rw [hk.s]
    simp only [kt_pos, if_true, lkd_seen]
    by_cases q : f ∈ ps <;> simp [q]
  by_cases q : f ∈ ps
  · refine ⟨h, ?_, by unfold add; rw [if_pos q]; exact hk⟩
    simp [c_24_0, mkT, a1, a2, a3, a4, q]
  · have l1 : (seenD ps).length < 16777216 := by simpa [seenD] using hp
    have a5 : dPut (.r n2) (.d (posD f)) (.d (.bl true)) h = some (h.set n2 (.dt (seenD (ps ++ [f])))) := by
      unfold dPut
      dsimp only
      rw [hk.s]
      dsimp only
      rw [kt_pos]
      rw [if_pos ⟨rfl, l1⟩, putd_seen q]
    have hk2 : (h.set n2 (.dt (seenD (ps ++ [f]))))[n1]? = some (.lst (knownL ps)) := by rw [List.getElem?_set_ne (Ne.symm hk.ne)]; exact hk.k
    have a6 : lstW (.r n1) (h.set n2 (.dt (seenD (ps ++ [f])))) = some (knownL ps) := by simp only [lstW, hk2]
    have a7 : mAppend (.r n1) [.d (posD f)] (h.set n2 (.dt (seenD (ps ++ [f])))) = .ok (.d .non) ((h.set n2 (.dt (seenD (ps ++ [f])))).set n1 (.lst (knownL ps ++ [.d (posD f)]))) := by
      unfold mAppend
      dsimp only
      rw [hk2]
      dsimp only
      rw [if_pos (by simpa [knownL] using hp)]
    have b1 : n1 < h.length := (List.getElem?_eq_some_iff.mp hk.k).1
    have b2 : n2 < h.length := (List.getElem?_eq_some_iff.mp hk.s).1
    refine ⟨(h.set n2 (.dt (seenD (ps ++ [f])))).set n1 (.lst (knownL ps ++ [.d (posD f)])), ?_, ?_⟩
    · simp [c_24_0, mkT, a1, a2, a3, a4, q, sDSet, a5, cLm, a6, a7]
    · unfold add
      rw [if_neg q]
      refine ⟨?_, ?_, hk.ne⟩
      · rw [List.getElem?_set_self (by simpa using b1)]
        simp [knownL]
      · rw [List.getElem?_set_ne hk.ne, List.getElem?_set_self b2]
def addAll (ps : List (List Nat)) (fs : List (List Nat)) : List (List Nat) := fs.foldl add ps
theorem add_len (ps : List (List Nat)) (f : List Nat) : (add ps f).length ≤ ps.length + 1 := by
  unfold add; split <;> simp
theorem addAll_len : ∀ (fs ps : List (List Nat)), (addAll ps fs).length ≤ ps.length + fs.length
  | [], ps => by simp [addAll]
  | f :: fs, ps => by
    have := addAll_len fs (add ps f)
    have := add_len ps f
    show (addAll (add ps f) fs).length ≤ _
    rw [List.length_cons]
    omega
/-- all ways to make room -/
theorem step1 : ∀ (rs : List (List Nat)) (ps : List (List Nat)) (h : Hh) (e13 e14 : Option W), KS n1 n2 h ps → (∀ p ∈ rs, p.length ≤ 500) → ps.length + rs.length < 16777216 →
    ∃ y13 y14 h', forK (yN (tN 13)) (c_24_0 r) (ys (rs.map posD)) [e0, e1, e2, e3, e4, some (.r n1), some (.r n2), e7, e8, some (.d (nI number)), e10, e11, e12, e13, e14] h =
      .nx [e0, e1, e2, e3, e4, some (.r n1), some (.r n2), e7, e8, some (.d (nI number)), e10, e11, e12, y13, y14] h' ∧ KS n1 n2 h' (addAll ps (rs.map fun p => sortN (p ++ [number])))
  | [], ps, h, e13, e14, hk, _, _ => ⟨e13, e14, h, rfl, hk⟩
  | p :: rs, ps, h, e13, e14, hk, hl, hp => by
    rw [List.length_cons] at hp
    obtain ⟨h1, q1, k1⟩ := step0 (e0 := e0) (e1 := e1) (e2 := e2) (e3 := e3) (e4 := e4) (e7 := e7) (e8 := e8) (e10 := e10) (e11 := e11) (e12 := e12) (e14 := e14) (r := r) (number := number) hk (hl p (by simp)) (by omega)
    have al := add_len ps (sortN (p ++ [number]))
    obtain ⟨y13, y14, h2, q2, k2⟩ := step1 rs (add ps (sortN (p ++ [number]))) h1 (some (.d (posD p))) (some (.d (posD (sortN (p ++ [number]))))) k1 (fun q hq => hl q (by simp [hq])) (by omega)
    refine ⟨y13, y14, h2, ?_, k2⟩
    show forK _ _ (.w (.d (posD p)) :: ys (rs.map posD)) _ _ = _
    unfold forK
    simp only [yN, yw, Option.bind_some, z_tN, List.set_cons_succ, List.set_cons_zero]
    rw [q1]
    exact q2
theorem forK_cons {t : Cy} {b : Cs} {y : Y} {yy : List Y} {e x1 x2 : Ev} {h h2 : Hh} (ht : t y e h = some x1) (hb : b x1 h = .nx x2 h2) : forK t b (y :: yy) e h = forK t b yy x2 h2 := by
  conv => lhs; unfold forK
  rw [ht]
  dsimp only
  rw [hb]
/-- all numbers that can be told here -/
theorem step2 {many : Int} {here : List Nat} {rows : List (List Nat)} {M : Nat} (hM : M ≤ 16777216) (hh : here.length ≤ 400) (hn : rows.length ≤ 1000) (hr : ∀ r ∈ rows, r.length ≤ 2) : ∀ (cs : List Nat) (ps : List (List Nat)) (h : Hh) (e9 e12 e13 e14 : Option W), KS n1 n2 h ps → ps.length + cs.length * 500 < M →
    ∃ y9 y12 y13 y14 h', forK (yN (tN 9)) (c_24_1 r) (ys (cs.map nI)) [e0, some (.d (.int many)), e2, e3, e4, some (.r n1), some (.r n2), e7, some (.d (posD here)), e9, e10, e11, e12, e13, e14] h =
      .nx [e0, some (.d (.int many)), e2, e3, e4, some (.r n1), some (.r n2), e7, some (.d (posD here)), y9, e10, e11, y12, y13, y14] h' ∧ KS n1 n2 h' (cs.foldl (fun ps number => addAll ps ((rest many here).map fun p => sortN (p ++ [number]))) ps) := by
  intro cs
  induction cs with
  | nil => intro ps h e9 e12 e13 e14 hk _; exact ⟨e9, e12, e13, e14, h, rfl, hk⟩
  | cons c cs ih =>
    intro ps h e9 e12 e13 e14 hk hp
    have hrl : ∀ p ∈ rest many here, p.length ≤ 500 := by
      intro p hp
      unfold rest at hp
      rcases List.mem_append.mp hp with q | q
      · obtain ⟨i, _, rfl⟩ := List.mem_map.mp q
        simp
        omega
      · split at q
        · rw [List.mem_singleton.mp q]; omega
        · cases q
    have hrn : (rest many here).length ≤ 401 := by
      unfold rest
      split <;> simp <;> omega
    rw [List.length_cons] at hp
    have er := rest_ok (e0 := e0) (e2 := e2) (e3 := e3) (e4 := e4) (e5 := some (.r n1)) (e6 := some (.r n2)) (e7 := e7) (e9 := some (.d (nI c))) (e10 := e10) (e11 := e11) (e12 := e12) (e13 := e13) (e14 := e14) (here := here) (h := h) (many := many) (by omega)
    obtain ⟨y13, y14, h1, q1, k1⟩ := step1 (e0 := e0) (e1 := some (.d (.int many))) (e2 := e2) (e3 := e3) (e4 := e4) (e7 := e7) (e8 := some (.d (posD here))) (e10 := e10) (e11 := e11) (e12 := some (.d (.lst ((rest many here).map posD)))) (r := r) (number := c) (rest many here) ps h e13 e14 hk hrl (Nat.lt_of_lt_of_le (show ps.length + (rest many here).length < M by omega) hM)
    have al := addAll_len ((rest many here).map fun p => sortN (p ++ [c])) ps
    rw [List.length_map] at al
    obtain ⟨z9, z12, z13, z14, h2, q2, k2⟩ := ih (addAll ps ((rest many here).map fun p => sortN (p ++ [c]))) h1 (some (.d (nI c))) (some (.d (.lst ((rest many here).map posD)))) y13 y14 k1 (by omega)
    refine ⟨z9, z12, z13, z14, h2, ?_, k2⟩
    have eb : c_24_1 r [e0, some (.d (.int many)), e2, e3, e4, some (.r n1), some (.r n2), e7, some (.d (posD here)), some (.d (nI c)), e10, e11, e12, e13, e14] h = .nx [e0, some (.d (.int many)), e2, e3, e4, some (.r n1), some (.r n2), e7, some (.d (posD here)), some (.d (nI c)), e10, e11, some (.d (.lst ((rest many here).map posD))), y13, y14] h1 := by
      unfold c_24_1
      rw [z_seq, z_asg, er, lift_ok]
      simp only [z_tN, SR.bind_nx, List.set_cons_succ, List.set_cons_zero]
      rw [sFor_K (l := ys ((rest many here).map posD)) (h' := h) rfl, q1]
      rfl
    exact (forK_cons (y := .w (.d (nI c))) (yy := ys (cs.map nI)) rfl eb).trans q2
end
end K39
set_option Elab.async false
set_option linter.all false
set_option maxRecDepth 100000
set_option maxHeartbeats 1000000
namespace K39
open Fz
theorem cIt_s {c : Cd} {e : Ev} {h : Hh} : cIt c e h = (c e h).bind srcOf := rfl
def next (rows : List (List Nat)) (many : Int) (ps : List (List Nat)) (here : List Nat) : List (List Nat) := (cand rows here).foldl (fun ps number => addAll ps ((rest many here).map fun p => sortN (p ++ [number]))) ps
section
variable {e0 e2 e4 e8 e9 e10 e11 e12 e13 e14 : Option W} {r : Nat → Fn} {h : Hh} {n1 n2 i : Nat} {ps : List (List Nat)} {rows : List (List Nat)} {here : List Nat} {many : Int}
theorem at_known (hk : KS n1 n2 h ps) (hi : ps[i]? = some here) : opIx (.r n1) (.d (.int i)) h = .ok (.d (posD here)) h := ix_r hk.k (by simp [knownL, hi])
theorem step3_end (hk : KS n1 n2 h ps) (hi : ps[i]? = some here) (h0 : 0 ∈ here) :
    c_24_2 r [e0, some (.d (.int many)), e2, some (.d (rowsD rows)), e4, some (.r n1), some (.r n2), some (.d (.int i)), e8, e9, e10, e11, e12, e13, e14] h = .rt (.d (.bl true)) h := by
  have a1 : opIn false (.d (.int 0)) (.d (posD here)) h = .ok (.d (.bl true)) h := by
    have := in_pos (p := here) (k := 0) (neg := false) (h := h)
    simpa [h0] using this
  simp [c_24_2, at_known hk hi, a1]
theorem step3 {M : Nat} (hM : M ≤ 16777216) (hk : KS n1 n2 h ps) (hi : ps[i]? = some here) (h0 : 0 ∉ here) (hh : here.length ≤ 400) (hn : rows.length ≤ 1000) (hr : ∀ r ∈ rows, r.length ≤ 2) (hp : ps.length + (cand rows here).length * 500 < M) :
    ∃ y8 y9 y12 y13 y14 h', c_24_2 r [e0, some (.d (.int many)), e2, some (.d (rowsD rows)), e4, some (.r n1), some (.r n2), some (.d (.int i)), e8, e9, e10, e11, e12, e13, e14] h =
      .nx [e0, some (.d (.int many)), e2, some (.d (rowsD rows)), e4, some (.r n1), some (.r n2), some (.d (.int (i + 1 : Nat))), y8, y9, e10, e11, y12, y13, y14] h' ∧ KS n1 n2 h' (next rows many ps here) := by
  have a1 : opIn false (.d (.int 0)) (.d (posD here)) h = .ok (.d (.bl false)) h := by
    have := in_pos (p := here) (k := 0) (neg := false) (h := h)
    simpa [h0] using this
  obtain ⟨y9, y12, y13, y14, h', q, k'⟩ := step2 (e0 := e0) (e2 := e2) (e3 := some (.d (rowsD rows))) (e4 := e4) (e7 := some (.d (.int (i + 1 : Nat)))) (e10 := e10) (e11 := e11) (r := r) (many := many) hM hh hn hr (cand rows here) ps h e9 e12 e13 e14 hk hp
  have ec := cand_ok (e0 := e0) (e1 := some (.d (.int many))) (e2 := e2) (e4 := e4) (e5 := some (.r n1)) (e6 := some (.r n2)) (e7 := some (.d (.int (i + 1 : Nat)))) (e9 := e9) (e10 := e10) (e11 := e11) (e12 := e12) (e13 := e13) (e14 := e14) (rows := rows) (here := here) (h := h) hn hr
  have es : sFor (cIt (cLc false [10] (cR1 (aCons (cCl biLen (aCons (cv 3) aNil)) aNil)) (yN (tN 10)) (bAnd (bC (opIn true) (cv 10) (cv 8)) (bNot (cT (cLc false [11] (cIt (c2 opIx (cv 3) (cv 10))) (yN (tN 11)) (bC (opIn true) (cv 11) (cv 8)) (cv 11))))) (cv 10))) (yN (tN 9)) (c_24_1 r)
      [e0, some (.d (.int many)), e2, some (.d (rowsD rows)), e4, some (.r n1), some (.r n2), some (.d (.int (i + 1 : Nat))), some (.d (posD here)), e9, e10, e11, e12, e13, e14] h = _ := sFor_K (l := ys ((cand rows here).map nI)) (h' := h) (by rw [cIt_s, ec]; rfl)
  rw [q] at es
  refine ⟨some (.d (posD here)), y9, y12, y13, y14, h', ?_, k'⟩
  unfold c_24_2
  rw [z_seq, z_asg, z_c2]
  simp only [z_cvS, z_cv0, R.bind_ok, at_known hk hi, lift_ok, z_tN, SR.bind_nx, List.set_cons_succ, List.set_cons_zero, z_seq, z_asg, z_c2, z_cc, z_add, z_if, z_bC, a1, z_asB]
  rw [if_neg Bool.false_ne_true, z_nx, SR.bind_nx]
  exact es
end
end K39
set_option Elab.async false
set_option linter.all false
set_option maxRecDepth 100000
set_option maxHeartbeats 1000000
namespace K39
open Fz
/-! ### the search in plain lists -/
theorem add_mem {ps : List (List Nat)} {f q : List Nat} : q ∈ add ps f ↔ q ∈ ps ∨ q = f := by
  unfold add
  split
  · rename_i h
    exact ⟨.inl, fun z => z.elim id fun e => e ▸ h⟩
  · simp
theorem add_nodup {ps : List (List Nat)} {f : List Nat} (h : ps.Nodup) : (add ps f).Nodup := by
  unfold add
  split
  · exact h
  · rename_i n
    exact List.nodup_append.mpr ⟨h, by simp, fun a ha b hb => by rw [List.mem_singleton.mp hb]; exact fun e => n (e ▸ ha)⟩
theorem add_pre {ps : List (List Nat)} {f : List Nat} : ∃ m, add ps f = ps ++ m := by
  unfold add
  split
  · exact ⟨[], by simp⟩
  · exact ⟨[f], rfl⟩
theorem addAll_mem {q : List Nat} : ∀ {fs ps : List (List Nat)}, q ∈ addAll ps fs ↔ q ∈ ps ∨ q ∈ fs
  | [], ps => by simp [addAll]
  | f :: fs, ps => by
    show q ∈ addAll (add ps f) fs ↔ _
    rw [addAll_mem, add_mem, List.mem_cons, or_assoc]
theorem addAll_nodup : ∀ {fs ps : List (List Nat)}, ps.Nodup → (addAll ps fs).Nodup
  | [], ps, h => h
  | f :: fs, ps, h => addAll_nodup (fs := fs) (add_nodup h)
theorem addAll_pre : ∀ {fs ps : List (List Nat)}, ∃ m, addAll ps fs = ps ++ m
  | [], ps => ⟨[], by simp [addAll]⟩
  | f :: fs, ps => by
    obtain ⟨m1, e1⟩ := add_pre (ps := ps) (f := f)
    obtain ⟨m2, e2⟩ := addAll_pre (fs := fs) (ps := add ps f)
    exact ⟨m1 ++ m2, by show addAll (add ps f) fs = _; rw [e2, e1, List.append_assoc]⟩
/-- what one move makes of a position -/
def moves (rows : List (List Nat)) (many : Int) (here : List Nat) : List (List Nat) := ((cand rows here).map fun number => (rest many here).map fun p => sortN (p ++ [number])).flatten
theorem next_eq {rows : List (List Nat)} {many : Int} {ps : List (List Nat)} {here : List Nat} : next rows many ps here = addAll ps (moves rows many here) := by
  unfold next moves
  generalize cand rows here = cs
  induction cs generalizing ps with
  | nil => rfl
  | cons c cs ih =>
    rw [List.foldl_cons, ih, List.map_cons, List.flatten_cons]
    unfold addAll
    rw [List.foldl_append]
/-- a list without doubles within another one is no longer -/
theorem nodup_le {α : Type} [DecidableEq α] : ∀ {l u : List α}, l.Nodup → (∀ x ∈ l, x ∈ u) → l.length ≤ u.length
  | [], u, _, _ => Nat.zero_le _
  | a :: l, u, h, s => by
    rw [List.nodup_cons] at h
    have ha := s a (by simp)
    have := nodup_le (l := l) (u := u.erase a) h.2 fun x hx => by
      have hne : x ≠ a := fun e => h.1 (by rw [← e]; exact hx)
      exact (List.mem_erase_of_ne hne).mpr (s x (by simp [hx]))
    rw [List.length_erase_of_mem ha] at this
    have : 0 < u.length := List.length_pos_of_mem ha
    rw [List.length_cons]
    omega
abbrev tW : Cb := bC opLt (cv 7) (cCl biLen (aCons (cv 5) aNil))
section
variable {e0 e2 e4 : Option W} {r : Nat → Fn} {n1 n2 : Nat} {rows : List (List Nat)} {many : Int}
theorem test_ok {h : Hh} {ps : List (List Nat)} {i : Nat} {e8 e9 e10 e11 e12 e13 e14 : Option W} (hk : KS n1 n2 h ps) :
    tW [e0, some (.d (.int many)), e2, some (.d (rowsD rows)), e4, some (.r n1), some (.r n2), some (.d (.int i)), e8, e9, e10, e11, e12, e13, e14] h = .ok (decide (i < ps.length)) h := by
  have : biLen [.r n1] h = .ok (.d (.int ps.length)) h := by
    simp [biLen, lenW, hk.k, knownL]
  simp [tW, this]
/-- the search: it ends, with a position that has 0, or with a closed list -/
theorem search {U : List (List Nat)} (hU : ∀ p ∈ U, p.length ≤ 400) (cl : ∀ p ∈ U, ∀ q ∈ moves rows many p, q ∈ U) (hn : rows.length ≤ 100) (hr : ∀ r ∈ rows, r.length ≤ 2) (hu : U.length ≤ 90000) :
    ∀ (m i : Nat) (ps : List (List Nat)) (h : Hh) (e8 e9 e10 e11 e12 e13 e14 : Option W), KS n1 n2 h ps → ps.Nodup → (∀ p ∈ ps, p ∈ U) → U.length < m + i → i ≤ ps.length →
    (∃ (ps' : List (List Nat)) (h' : Hh) (here : List Nat), wloop tW (c_24_2 r) m [e0, some (.d (.int many)), e2, some (.d (rowsD rows)), e4, some (.r n1), some (.r n2), some (.d (.int i)), e8, e9, e10, e11, e12, e13, e14] h = .rt (.d (.bl true)) h' ∧ (∀ p ∈ ps', p ∈ U) ∧ here ∈ ps' ∧ 0 ∈ here) ∨
    ∃ (ps' : List (List Nat)) (e' : Ev) (h' : Hh), wloop tW (c_24_2 r) m [e0, some (.d (.int many)), e2, some (.d (rowsD rows)), e4, some (.r n1), some (.r n2), some (.d (.int i)), e8, e9, e10, e11, e12, e13, e14] h = .nx e' h' ∧ (∃ l, ps' = ps ++ l) ∧ ∀ (j : Nat) (here : List Nat), i ≤ j → ps'[j]? = some here → 0 ∉ here ∧ ∀ q ∈ moves rows many here, q ∈ ps' := by
  intro m
  induction m with
  | zero =>
    intro i ps h e8 e9 e10 e11 e12 e13 e14 hk nd sub hm hi
    have := nodup_le nd sub
    omega
  | succ m ih =>
    intro i ps h e8 e9 e10 e11 e12 e13 e14 hk nd sub hm hi
    unfold wloop
    rw [test_ok hk, lift_ok]
    by_cases q : i < ps.length
    · rw [decide_eq_true q, if_pos rfl]
      have hg : ps[i]? = some ps[i] := List.getElem?_eq_getElem q
      have hU' := sub ps[i] (List.getElem_mem q)
      by_cases h0 : 0 ∈ ps[i]
      · refine .inl ⟨ps, h, ps[i], ?_, sub, List.getElem_mem q, h0⟩
        rw [step3_end hk hg h0]
      · have cl2 : (cand rows ps[i]).length ≤ 100 := Nat.le_trans (List.length_filter_le _ _) (by simpa using hn)
        have pl := nodup_le nd sub
        obtain ⟨y8, y9, y12, y13, y14, h1, e1, k1⟩ := step3 (e0 := e0) (e2 := e2) (e4 := e4) (e8 := e8) (e9 := e9) (e10 := e10) (e11 := e11) (e12 := e12) (e13 := e13) (e14 := e14) (r := r) (many := many) (M := 1000000) (by decide) hk hg h0 (hU _ hU') (by omega) hr (by omega)
        rw [next_eq] at k1
        obtain ⟨l, el⟩ := addAll_pre (fs := moves rows many ps[i]) (ps := ps)
        have sub2 : ∀ p ∈ addAll ps (moves rows many ps[i]), p ∈ U := fun p hp => (addAll_mem.mp hp).elim (sub p) (cl _ hU' p)
        have := ih (i + 1) (addAll ps (moves rows many ps[i])) h1 y8 y9 e10 e11 y12 y13 y14 k1 (addAll_nodup nd) sub2 (by omega) (by rw [el, List.length_append]; omega)
        rw [e1]
        rcases this with w | ⟨ps', e', h', w1, ⟨l2, w2⟩, w3⟩
        · exact .inl w
        · refine .inr ⟨ps', e', h', w1, ⟨l ++ l2, by rw [w2, el, List.append_assoc]⟩, fun j here hj hh => ?_⟩
          by_cases hji : j = i
          · subst hji
            have : ps'[j]? = some ps[j] := by rw [w2, el, List.append_assoc, List.getElem?_append_left q]; exact hg
            rw [this] at hh
            cases hh
            exact ⟨h0, fun x hx => by rw [w2]; exact List.mem_append_left _ (addAll_mem.mpr (.inr hx))⟩
          · exact w3 j here (by omega) hh
    · rw [decide_eq_false q, if_neg Bool.false_ne_true]
      refine .inr ⟨ps, _, h, rfl, ⟨[], by simp⟩, fun j here hj hh => ?_⟩
      rw [List.getElem?_eq_none (by omega)] at hh
      cases hh
end
end K39
set_option Elab.async false
set_option linter.all false
set_option maxRecDepth 100000
set_option maxHeartbeats 1000000
namespace K39
open Fz
/-- a row of positions, each one move behind the one before -/
def Way (rows : List (List Nat)) (many : Int) : List Nat → List (List Nat) → Bool
  | _, [] => true
  | p, q :: l => decide (q ∈ moves rows many p) && Way rows many q l
theorem way_in {rows : List (List Nat)} {many : Int} {ps : List (List Nat)} (cl : ∀ p ∈ ps, 0 ∉ p ∧ ∀ q ∈ moves rows many p, q ∈ ps) : ∀ (l : List (List Nat)) (p : List Nat), p ∈ ps → Way rows many p l = true → ∀ q ∈ l, q ∈ ps
  | [], _, _, _, q, hq => by cases hq
  | x :: l, p, hp, hw, q, hq => by
    simp only [Way, Bool.and_eq_true, decide_eq_true_eq] at hw
    have hx := (cl p hp).2 x hw.1
    rcases List.mem_cons.mp hq with e | e
    · rw [e]; exact hx
    · exact way_in cl l x hx hw.2 q e
end K39
set_option Elab.async false
set_option linter.all false
set_option maxRecDepth 100000
set_option maxHeartbeats 1000000
namespace K39
open Fz
def canA (r : Nat → Fn) : Cs := sSeq (sAsg (cCall false 1 (r 23) (aCons (cv 0) aNil)) (tN 2)) (sAsg (cLc false [4] (cIt (cv 2)) (yN (tN 4)) bYes (cIf (cT (cIsi .tup (cv 4))) (cCl mkT (aCons (cLm mIndex (cv 2) (aCons (c2 opIx (cv 4) (cc (.int 0))) aNil)) (aCons (cLm mIndex (cv 2) (aCons (c2 opIx (cv 4) (cc (.int 1))) aNil)) aNil))) (cCl mkT aNil))) (tN 3))
/-- the rows of a tree, as its defs make them -/
def preOk (t : Tr) (many : Int) (rows : List (List Nat)) : Bool := match canA (run 38) [some (.d t.d), some (.d (.int many)), none, none, none, none, none, none, none, none, none, none, none, none, none] [] with
  | .nx [_, some (.d (.int m)), _, some (.d x), _, none, none, none, none, none, none, none, none, none, none] _ => m == many && D.beq x (rowsD rows)
  | _ => false
theorem preOk_at {t : Tr} {many : Int} {rows : List (List Nat)} (h : preOk t many rows = true) : ∃ x0 x2 x4 h1, canA (run 38) [some (.d t.d), some (.d (.int many)), none, none, none, none, none, none, none, none, none, none, none, none, none] [] =
    .nx [x0, some (.d (.int many)), x2, some (.d (rowsD rows)), x4, none, none, none, none, none, none, none, none, none, none] h1 := by
  unfold preOk at h
  split at h
  · rename_i x0 m x2 x x4 h1 e
    rw [Bool.and_eq_true] at h
    have e1 := eq_of_beq h.1
    have e2 := (D.beq_iff _ _).mp h.2
    subst e1 e2
    exact ⟨x0, x2, x4, h1, e⟩
  · cases h
theorem bind_assoc' (m : SR) (f g : Cs) : (m.bind f).bind g = m.bind fun e h => (f e h).bind g := by cases m <;> rfl
theorem can_at {t : Tr} {many : Int} {rows U : List (List Nat)} (hp : preOk t many rows = true) (hU : ∀ p ∈ U, p.length ≤ 400) (h0 : [] ∈ U) (cl : ∀ p ∈ U, ∀ q ∈ moves rows many p, q ∈ U) (hn : rows.length ≤ 100) (hr : ∀ r ∈ rows, r.length ≤ 2) (hu : U.length ≤ 90000) :
    (∃ (ps' : List (List Nat)) (h' : Hh) (here : List Nat), run 39 24 [.d t.d, .d (.int many)] [] = .ok (.d (.bl true)) h' ∧ (∀ p ∈ ps', p ∈ U) ∧ here ∈ ps' ∧ 0 ∈ here) ∨
    ∃ (ps' : List (List Nat)) (h' : Hh), run 39 24 [.d t.d, .d (.int many)] [] = .ok (.d (.bl false)) h' ∧ [] ∈ ps' ∧ ∀ p ∈ ps', 0 ∉ p ∧ ∀ q ∈ moves rows many p, q ∈ ps' := by
  obtain ⟨x0, x2, x4, h1, e1⟩ := preOk_at hp
  have hk : KS h1.length (h1.length + 1) (h1 ++ [.lst [.d (.tup [])], .dt [(.tup [], .d (.bl true))]]) [[]] := ⟨by simp [knownL, posD], by simp [seenD, posD], by omega⟩
  have key := search (e0 := x0) (e2 := x2) (e4 := x4) (r := run 38) (many := many) hU cl hn hr hu 100000 0 [[]] _ none none none none none none none hk (by simp) (by simpa using h0) (by omega) (by simp)
  have go : c_24 (run 38) [some (.d t.d), some (.d (.int many)), none, none, none, none, none, none, none, none, none, none, none, none, none] [] =
      ((wloop tW (c_24_2 (run 38)) 100000 [x0, some (.d (.int many)), x2, some (.d (rowsD rows)), x4, some (.r h1.length), some (.r (h1.length + 1)), some (.d (.int 0)), none, none, none, none, none, none, none] (h1 ++ [.lst [.d (.tup [])], .dt [(.tup [], .d (.bl true))]])).bind (sRet (cc (.bl false)))) := by
    have split : ∀ e h, c_24 (run 38) e h = (canA (run 38) e h).bind (sSeq (sPar (aCons (cCl mkM (aCons (cCl mkT aNil) aNil)) (aCons (cDisT (cCl mkT aNil) (cc (.bl true))) (aCons (cc (.int 0)) aNil))) (tCns (tN 5) (tCns (tN 6) (tCns (tN 7) Fz.tNil)))) (sSeq (sWhile 100000 tW (c_24_2 (run 38))) (sRet (cc (.bl false))))) := by
      intro e h
      unfold c_24 canA
      simp only [z_seq]
      rw [bind_assoc']
      rfl
    rw [split, e1, SR.bind_nx]
    have pq : pOf [(cCl mkT aNil, cc (.bl true))] [x0, some (.d (.int many)), x2, some (.d (rowsD rows)), x4, none, none, none, none, none, none, none, none, none, none] (h1 ++ [.lst [.d (.tup [])]] ++ [.dt []]) = .ok [(.d (.tup []), .d (.bl true))] (h1 ++ [.lst [.d (.tup [])]] ++ [.dt []]) := rfl
    have hd : cDisT (cCl mkT aNil) (cc (.bl true)) [x0, some (.d (.int many)), x2, some (.d (rowsD rows)), x4, none, none, none, none, none, none, none, none, none, none] (h1 ++ [.lst [.d (.tup [])]]) = .ok (.r (h1.length + 1)) (h1 ++ [.lst [.d (.tup [])], .dt [(.tup [], .d (.bl true))]]) := by
      unfold cDisT
      rw [pq, R.bind_ok]
      simp [D.isKT, List.set_append]
    rw [z_seq, z_par]
    simp [mkM, mkT, hd, sWhile]
  have hrun : run 39 24 [.d t.d, .d (.int many)] [] = match c_24 (run 38) [some (.d t.d), some (.d (.int many)), none, none, none, none, none, none, none, none, none, none, none, none, none] [] with
      | .rt w h => .ok w h
      | .nx _ h => .ok (.d .non) h
      | .ex c p _ h => .ex c p h
      | _ => .no := rfl
  rw [hrun, go]
  rcases key with ⟨ps', h', here, w, a, b, c⟩ | ⟨ps', e', h', w, ⟨l, el⟩, w3⟩
  · refine .inl ⟨ps', h', here, ?_, a, b, c⟩
    rw [show (D.int ((0 : Nat) : Int)) = D.int 0 from rfl] at w
    rw [w]; rfl
  · refine .inr ⟨ps', h', ?_, by rw [el]; simp, fun p hp => ?_⟩
    · rw [show (D.int ((0 : Nat) : Int)) = D.int 0 from rfl] at w
      rw [w]; rfl
    · obtain ⟨j, hj⟩ := List.getElem?_of_mem hp
      exact w3 j p (Nat.zero_le _) hj
end K39
set_option Elab.async false
set_option linter.all false
set_option maxRecDepth 100000
set_option maxHeartbeats 1000000
namespace K39
open Fz
/-! ### rows of numbers that go up -/
def Up (n : Nat) (p : List Nat) : Prop := p.Pairwise (· < ·) ∧ ∀ x ∈ p, x < n
def US : Nat → List (List Nat)
  | 0 => [[]]
  | n + 1 => US n ++ (US n).map (· ++ [n])
theorem US_len : ∀ n, (US n).length = 2 ^ n
  | 0 => rfl
  | n + 1 => by simp [US, US_len n, Nat.pow_succ]; omega
theorem US_small : ∀ n, ∀ p ∈ US n, p.length ≤ n
  | 0, p, h => by simp [US] at h; simp [h]
  | n + 1, p, h => by
    simp only [US, List.mem_append, List.mem_map] at h
    rcases h with h | ⟨q, h, rfl⟩
    · have := US_small n p h; omega
    · have := US_small n q h; simp; omega
theorem US_mem : ∀ (n : Nat) (p : List Nat), Up n p → p ∈ US n
  | 0, p, h => by
    cases p with
    | nil => simp [US]
    | cons a p => have := h.2 a (by simp); omega
  | n + 1, p, h => by
    simp only [US, List.mem_append, List.mem_map]
    rcases List.eq_nil_or_concat p with rfl | ⟨q, b, rfl⟩
    · exact .inl (US_mem n [] ⟨List.Pairwise.nil, by simp⟩)
    · have hb := h.2 b (by simp)
      have hp := List.pairwise_append.mp (by simpa using h.1 : (q ++ [b]).Pairwise (· < ·))
      by_cases e : b = n
      · subst e
        exact .inr ⟨q, US_mem b q ⟨hp.1, fun x hx => hp.2.2 x hx b (by simp)⟩, by simp⟩
      · refine .inl (US_mem n _ ⟨h.1, fun x hx => ?_⟩)
        have := h.2 x hx
        by_cases q2 : x = b
        · omega
        · have : x ∈ q := by simpa [q2] using hx
          have := hp.2.2 x this b (by simp)
          omega
theorem US_up : ∀ (n : Nat) (p : List Nat), p ∈ US n → Up n p
  | 0, p, h => by simp [US] at h; subst h; exact ⟨List.Pairwise.nil, by simp⟩
  | n + 1, p, h => by
    simp only [US, List.mem_append, List.mem_map] at h
    rcases h with h | ⟨q, h, rfl⟩
    · have := US_up n p h
      exact ⟨this.1, fun x hx => Nat.lt_succ_of_lt (this.2 x hx)⟩
    · have := US_up n q h
      refine ⟨List.pairwise_append.mpr ⟨this.1, by simp, fun a ha b hb => ?_⟩, fun x hx => ?_⟩
      · rw [List.mem_singleton.mp hb]; exact this.2 a ha
      · rcases List.mem_append.mp hx with hx | hx
        · exact Nat.lt_succ_of_lt (this.2 x hx)
        · rw [List.mem_singleton.mp hx]; exact Nat.lt_succ_self _
def mk (p : List Nat) : Nat := p.foldl (fun s i => s ||| 1 <<< i) 0
theorem foldl_bit (i : Nat) : ∀ (p : List Nat) (s : Nat), (p.foldl (fun s i => s ||| 1 <<< i) s).testBit i = (s.testBit i || decide (i ∈ p))
  | [], s => by simp
  | a :: p, s => by
    rw [List.foldl_cons, foldl_bit i p]
    rw [Nat.testBit_or, Nat.testBit_shiftLeft]
    by_cases e : i = a
    · subst e; simp
    · have : Nat.testBit 1 (i - a) = false ∨ ¬ (i ≥ a) := by
        by_cases q : i ≥ a
        · left
          have : i - a ≠ 0 := by omega
          obtain ⟨j, ej⟩ := Nat.exists_eq_succ_of_ne_zero this
          rw [ej]; simp [Nat.testBit_succ]
        · exact .inr q
      rcases this with t | t
      · simp [t, e]
      · simp [t, e]
theorem mk_bit (p : List Nat) (i : Nat) : (mk p).testBit i = decide (i ∈ p) := by unfold mk; rw [foldl_bit]; simp
theorem up_eq {n : Nat} {p q : List Nat} (hp : Up n p) (hq : Up n q) (h : ∀ x, x ∈ p ↔ x ∈ q) : p = q := by
  have np : p.Nodup := hp.1.imp fun h => Nat.ne_of_lt h
  have nq : q.Nodup := hq.1.imp fun h => Nat.ne_of_lt h
  exact ((List.perm_ext_iff_of_nodup np nq).mpr h).eq_of_pairwise (le := (· < ·)) (fun a b _ _ h1 h2 => absurd h1 (by omega)) hp.1 hq.1
theorem mk_inj {n : Nat} {p q : List Nat} (hp : Up n p) (hq : Up n q) (h : mk p = mk q) : p = q := up_eq hp hq fun x => by
  have a := mk_bit p x
  have b := mk_bit q x
  rw [h, b] at a
  simpa using a.symm
def set (l : List (List Nat)) : Nat := mk (l.map mk)
theorem set_mem {n : Nat} {l : List (List Nat)} {q : List Nat} (hl : ∀ p ∈ l, Up n p) (hq : Up n q) (h : (set l).testBit (mk q) = true) : q ∈ l := by
  unfold set at h
  rw [mk_bit] at h
  obtain ⟨p, hp, e⟩ := List.mem_map.mp (of_decide_eq_true h)
  rw [← mk_inj (hl p hp) hq e]
  exact hp
def upB (n : Nat) : List Nat → Bool
  | [] => true
  | [a] => decide (a < n)
  | a :: b :: l => decide (a < b) && upB n (b :: l)
theorem upB_ok {n : Nat} : ∀ p : List Nat, upB n p = true → Up n p
  | [], _ => ⟨List.Pairwise.nil, by simp⟩
  | [a], h => ⟨by simp, by simpa [upB] using h⟩
  | a :: b :: l, h => by
    simp only [upB, Bool.and_eq_true, decide_eq_true_eq] at h
    have ih := upB_ok (b :: l) h.2
    refine ⟨List.pairwise_cons.mpr ⟨fun x hx => ?_, ih.1⟩, fun x hx => ?_⟩
    · rcases List.mem_cons.mp hx with e | e
      · rw [e]; exact h.1
      · exact Nat.lt_trans h.1 ((List.pairwise_cons.mp ih.1).1 x e)
    · rcases List.mem_cons.mp hx with e | e
      · rw [e]; exact Nat.lt_trans h.1 (ih.2 b (by simp))
      · exact ih.2 x e
theorem sortN_perm (l : List Nat) : (sortN l).Perm l := by
  have := isort_merge (le := fun a b : Nat => decide (a ≤ b)) (by intro a b c; simp; omega) (by intro a b; simp; omega) l
  unfold sortN
  rw [← this]
  exact List.mergeSort_perm l _
theorem sortN_le (l : List Nat) : (sortN l).Pairwise (· ≤ ·) := by
  have := isort_merge (le := fun a b : Nat => decide (a ≤ b)) (by intro a b c; simp; omega) (by intro a b; simp; omega) l
  unfold sortN
  rw [← this]
  exact (List.pairwise_mergeSort (le := fun a b : Nat => decide (a ≤ b)) (by intro a b c; simp; omega) (by intro a b; simp; omega) l).imp fun h => by simpa using h
theorem sortN_up {n : Nat} {l : List Nat} (nd : l.Nodup) (h : ∀ x ∈ l, x < n) : Up n (sortN l) := by
  have np := sortN_perm l
  refine ⟨?_, fun x hx => h x (np.mem_iff.mp hx)⟩
  have n2 : (sortN l).Nodup := np.nodup_iff.mpr nd
  exact (List.Pairwise.and (sortN_le l) n2).imp fun h => by have := h.1; have := h.2; omega
theorem moves_up {rows : List (List Nat)} {many : Int} {p q : List Nat} (hp : Up rows.length p) (hq : q ∈ moves rows many p) : Up rows.length q := by
  unfold moves at hq
  obtain ⟨l, hl, hq⟩ := List.mem_flatten.mp hq
  obtain ⟨k, hk, rfl⟩ := List.mem_map.mp hl
  obtain ⟨r, hr, rfl⟩ := List.mem_map.mp hq
  unfold cand at hk
  rw [List.mem_filter, List.mem_range, Bool.and_eq_true] at hk
  have hkp : k ∉ p := by simpa using hk.2.1
  have sub : r.Sublist p := by
    unfold rest at hr
    rcases List.mem_append.mp hr with h | h
    · obtain ⟨i, _, rfl⟩ := List.mem_map.mp h
      rw [← List.eraseIdx_eq_take_drop_succ]
      exact List.eraseIdx_sublist ..
    · split at h
      · rw [List.mem_singleton.mp h]; exact List.Sublist.refl _
      · cases h
  have nr : r.Nodup := (hp.1.sublist sub).imp fun h => Nat.ne_of_lt h
  refine sortN_up ?_ ?_
  · exact List.nodup_append.mpr ⟨nr, by simp, fun a ha b hb => by rw [List.mem_singleton.mp hb]; exact fun e => hkp (e ▸ sub.subset ha)⟩
  · intro x hx
    rcases List.mem_append.mp hx with h | h
    · exact hp.2 x (sub.subset h)
    · rw [List.mem_singleton.mp h]; exact hk.1
/-! ### what the kernel looks at -/
def rowsOk (rows : List (List Nat)) : Bool := decide (rows.length ≤ 15) && rows.all fun r => decide (r.length ≤ 2)
def closedB (rows : List (List Nat)) (many : Int) (l : List (List Nat)) : Bool := l.all (upB rows.length) && (set l).testBit (mk []) && decide (l.length ≤ 90000) &&
  let s := set l
  l.all fun p => !decide (0 ∈ p) && (moves rows many p).all fun q => s.testBit (mk q)
theorem up0 (n : Nat) : Up n [] := ⟨List.Pairwise.nil, by simp⟩
theorem can_false {t : Tr} {many : Int} {rows l : List (List Nat)} (hp : preOk t many rows = true) (hr : rowsOk rows = true) (hl : closedB rows many l = true) : isB false (run 39 24 [.d t.d, .d (.int many)] []) = true := by
  simp only [rowsOk, Bool.and_eq_true, decide_eq_true_eq, List.all_eq_true] at hr
  simp only [closedB, Bool.and_eq_true, decide_eq_true_eq, List.all_eq_true] at hl
  obtain ⟨⟨⟨h1, h2⟩, h3⟩, h4⟩ := hl
  have up : ∀ p ∈ l, Up rows.length p := fun p hp => upB_ok p (h1 p hp)
  have cl : ∀ p ∈ l, ∀ q ∈ moves rows many p, q ∈ l := fun p hp q hq => set_mem up (moves_up (up p hp) hq) ((h4 p hp).2 q hq)
  rcases can_at (U := l) hp (fun p hp => by have := US_small _ p (US_mem _ p (up p hp)); omega) (set_mem up (up0 _) h2) cl (by omega) hr.2 h3 with ⟨ps', h', here, e, a, b, c⟩ | ⟨ps', h', e, _, _⟩
  · have := (h4 here (a here b)).1
    simp [c] at this
  · rw [e]; rfl
theorem can_true {t : Tr} {many : Int} {rows w : List (List Nat)} (hp : preOk t many rows = true) (hr : rowsOk rows = true) (hw : Way rows many [] w = true) (h0 : (w.any fun q => decide (0 ∈ q)) = true) : isB true (run 39 24 [.d t.d, .d (.int many)] []) = true := by
  simp only [rowsOk, Bool.and_eq_true, decide_eq_true_eq, List.all_eq_true] at hr
  have l2 : (US rows.length).length ≤ 90000 := by
    rw [US_len]
    have : 2 ^ rows.length ≤ 2 ^ 15 := Nat.pow_le_pow_right (by decide) hr.1
    omega
  rcases can_at (U := US rows.length) hp (fun p hp => by have := US_small _ p hp; omega) (US_mem _ _ (up0 _)) (fun p hp q hq => US_mem _ _ (moves_up (US_up _ p hp) hq)) (by omega) hr.2 l2 with ⟨ps', h', here, e, a, b, c⟩ | ⟨ps', h', e, b, c⟩
  · rw [e]; rfl
  · obtain ⟨q, hq, hq0⟩ := List.any_eq_true.mp h0
    have := (c q (way_in c w [] b hw q hq)).1
    exact absurd (of_decide_eq_true hq0) this
def ok1 (x : Tr × List (List Nat) × List (List Nat) × List (List Nat)) : Bool :=
  let t := (x.1.lab 0).1
  if t.need > 1 then preOk t (t.need - 1) x.2.1 && preOk t t.need x.2.1 && rowsOk x.2.1 && closedB x.2.1 (t.need - 1) x.2.2.1 && Way x.2.1 t.need [] x.2.2.2 && x.2.2.2.any fun q => decide (0 ∈ q) else true
theorem ok1_chk {x : Tr × List (List Nat) × List (List Nat) × List (List Nat)} (h : ok1 x = true) : chk (x.1.lab 0).1 = true := by
  unfold ok1 at h
  unfold chk
  dsimp only at h
  split
  · rename_i q
    rw [if_pos q] at h
    simp only [Bool.and_eq_true] at h
    obtain ⟨⟨⟨⟨⟨a, b⟩, c⟩, d⟩, e⟩, f⟩ := h
    rw [Bool.and_eq_true]
    exact ⟨can_false a c d, can_true b c e f⟩
  · rfl
end K39
set_option Elab.async false
set_option linter.all false
set_option maxRecDepth 100000
set_option maxHeartbeats 0
namespace K39
open Fz
def rw1 : List (List Nat) := [[1, 2], [], []]
def cl1 : List (List Nat) := [[], [1], [2]]
def wy1 : List (List Nat) := [[1], [1, 2], [0, 2]]
def rw2 : List (List Nat) := [[1, 2], [], [3, 4], [], []]
def cl2 : List (List Nat) := [[], [1], [3], [4]]
def wy2 : List (List Nat) := [[3], [3, 4], [2, 4], [1, 2], [0, 2]]
def rw3 : List (List Nat) := [[1, 2], [], [3, 4], [], [5, 6], [], []]
def cl3 : List (List Nat) := [[], [1], [3], [5], [6]]
def wy3 : List (List Nat) := [[5], [5, 6], [4, 6], [3, 4], [2, 4], [1, 2], [0, 2]]
def rw4 : List (List Nat) := [[1, 2], [], [3, 4], [5, 6], [], [], []]
def cl4 : List (List Nat) := [[], [1], [4], [5], [6]]
def wy4 : List (List Nat) := [[5], [5, 6], [3, 6], [3, 4], [2, 4], [1, 2], [0, 2]]
def rw5 : List (List Nat) := [[1, 2], [], [3, 4], [5, 6], [7, 8], [], [], [], []]
def cl5 : List (List Nat) := [[], [1], [5], [6], [7], [8], [1, 5], [1, 6], [1, 7], [1, 8], [5, 6], [5, 7], [5, 8], [6, 7], [6, 8], [7, 8], [3, 6], [3, 5], [4, 8], [4, 7], [1, 3], [3, 7], [3, 8], [1, 4], [4, 5], [4, 6]]
def wy5 : List (List Nat) := [[5], [5, 6], [3, 6], [3, 7], [3, 7, 8], [3, 4, 8], [1, 3, 4], [1, 2, 4], [0, 2, 4]]
def rw6 : List (List Nat) := [[1, 2], [3, 4], [], [], []]
def cl6 : List (List Nat) := [[], [2], [3], [4]]
def wy6 : List (List Nat) := [[3], [3, 4], [1, 4], [1, 2], [0, 2]]
def rw7 : List (List Nat) := [[1, 2], [3, 4], [5, 6], [], [], [], []]
def cl7 : List (List Nat) := [[], [3], [4], [5], [6], [3, 4], [3, 5], [3, 6], [4, 5], [4, 6], [5, 6], [1, 4], [1, 3], [2, 6], [2, 5], [1, 5], [1, 6], [2, 3], [2, 4]]
def wy7 : List (List Nat) := [[3], [3, 4], [1, 4], [1, 5], [1, 5, 6], [1, 2, 6], [0, 2, 6]]
def rw8 : List (List Nat) := [[1, 2], [3, 4], [5, 6], [], [], [], [7, 8], [], []]
def cl8 : List (List Nat) := [[], [3], [4], [5], [7], [8], [3, 4], [3, 5], [3, 7], [3, 8], [4, 5], [4, 7], [4, 8], [5, 7], [5, 8], [7, 8], [1, 4], [1, 3], [6, 8], [6, 7], [1, 5], [1, 7], [1, 8], [3, 6], [4, 6], [5, 6], [2, 6], [2, 5], [2, 3], [2, 4], [2, 7], [2, 8]]
def wy8 : List (List Nat) := [[3], [3, 4], [1, 4], [1, 7], [1, 7, 8], [1, 6, 8], [1, 5, 6], [1, 2, 6], [0, 2, 6]]
def rw9 : List (List Nat) := [[1, 2], [3, 4], [5, 6], [], [], [7, 8], [], [], []]
def cl9 : List (List Nat) := [[], [3], [4], [6], [7], [8], [3, 4], [3, 6], [3, 7], [3, 8], [4, 6], [4, 7], [4, 8], [6, 7], [6, 8], [7, 8], [1, 4], [1, 3], [5, 8], [5, 7], [1, 6], [1, 7], [1, 8], [3, 5], [4, 5], [5, 6], [2, 6], [2, 5], [2, 3], [2, 4], [2, 7], [2, 8]]
def wy9 : List (List Nat) := [[3], [3, 4], [1, 4], [1, 7], [1, 7, 8], [1, 5, 8], [1, 5, 6], [1, 2, 6], [0, 2, 6]]
def rw10 : List (List Nat) := [[1, 2], [3, 4], [5, 6], [], [], [7, 8], [9, 10], [], [], [], []]
def cl10 : List (List Nat) := [[], [3], [4], [7], [8], [9], [10], [3, 4], [3, 7], [3, 8], [3, 9], [3, 10], [4, 7], [4, 8], [4, 9], [4, 10], [7, 8], [7, 9], [7, 10], [8, 9], [8, 10], [9, 10], [1, 4], [1, 3], [5, 8], [5, 7], [6, 10], [6, 9], [1, 7], [1, 8], [1, 9], [1, 10], [3, 5], [4, 5], [5, 9], [5, 10], [3, 6], [4, 6], [6, 7], [6, 8]]
def wy10 : List (List Nat) := [[7], [7, 8], [5, 8], [5, 9], [5, 9, 10], [5, 6, 10], [2, 6, 10], [2, 3, 10], [2, 3, 4], [1, 2, 4], [0, 2, 4]]
def rw11 : List (List Nat) := [[1, 2], [3, 4], [], [], [5, 6], [], []]
def cl11 : List (List Nat) := [[], [2], [3], [5], [6]]
def wy11 : List (List Nat) := [[5], [5, 6], [4, 6], [3, 4], [1, 4], [1, 2], [0, 2]]
def rw12 : List (List Nat) := [[1, 2], [3, 4], [5, 6], [], [7, 8], [], [], [], []]
def cl12 : List (List Nat) := [[], [3], [5], [6], [7], [8], [3, 5], [3, 6], [3, 7], [3, 8], [5, 6], [5, 7], [5, 8], [6, 7], [6, 8], [7, 8], [2, 6], [2, 5], [4, 8], [4, 7], [2, 3], [2, 7], [2, 8], [3, 4], [4, 5], [4, 6], [1, 4], [1, 3], [1, 5], [1, 6], [1, 7], [1, 8]]
def wy12 : List (List Nat) := [[3], [3, 7], [3, 7, 8], [3, 4, 8], [1, 4, 8], [1, 5, 8], [1, 5, 6], [1, 2, 6], [0, 2, 6]]
def rw13 : List (List Nat) := [[1, 2], [3, 4], [5, 6], [], [7, 8], [], [9, 10], [], [], [], []]
def cl13 : List (List Nat) := [[], [3], [5], [7], [8], [9], [10], [3, 5], [3, 7], [3, 8], [3, 9], [3, 10], [5, 7], [5, 8], [5, 9], [5, 10], [7, 8], [7, 9], [7, 10], [8, 9], [8, 10], [9, 10], [4, 8], [4, 7], [6, 10], [6, 9], [3, 4], [4, 5], [4, 9], [4, 10], [3, 6], [5, 6], [6, 7], [6, 8], [1, 4], [1, 3], [2, 6], [2, 5], [1, 5], [1, 7], [1, 8], [1, 9], [1, 10], [2, 3], [2, 7], [2, 8], [2, 9], [2, 10]]
def wy13 : List (List Nat) := [[3], [3, 7], [3, 7, 8], [3, 4, 8], [1, 4, 8], [1, 8, 9], [1, 9, 10], [1, 6, 10], [1, 5, 6], [1, 2, 6], [0, 2, 6]]
def rw14 : List (List Nat) := [[1, 2], [3, 4], [5, 6], [], [7, 8], [9, 10], [], [], [], [], []]
def cl14 : List (List Nat) := [[], [3], [6], [7], [8], [9], [10], [3, 6], [3, 7], [3, 8], [3, 9], [3, 10], [6, 7], [6, 8], [6, 9], [6, 10], [7, 8], [7, 9], [7, 10], [8, 9], [8, 10], [9, 10], [4, 8], [4, 7], [5, 10], [5, 9], [3, 4], [4, 6], [4, 9], [4, 10], [3, 5], [5, 6], [5, 7], [5, 8], [1, 4], [1, 3], [2, 6], [2, 5], [1, 6], [1, 7], [1, 8], [1, 9], [1, 10], [2, 3], [2, 7], [2, 8], [2, 9], [2, 10]]
def wy14 : List (List Nat) := [[3], [3, 7], [3, 7, 8], [3, 4, 8], [1, 4, 8], [1, 8, 9], [1, 9, 10], [1, 5, 10], [1, 5, 6], [1, 2, 6], [0, 2, 6]]
def rw15 : List (List Nat) := [[1, 2], [3, 4], [5, 6], [], [7, 8], [9, 10], [11, 12], [], [], [], [], [], []]
def cl15 : List (List Nat) := [[], [3], [7], [8], [9], [10], [11], [12], [3, 7], [3, 8], [3, 9], [3, 10], [3, 11], [3, 12], [7, 8], [7, 9], [7, 10], [7, 11], [7, 12], [8, 9], [8, 10], [8, 11], [8, 12], [9, 10], [9, 11], [9, 12], [10, 11], [10, 12], [11, 12], [4, 8], [4, 7], [5, 10], [5, 9], [6, 12], [6, 11], [3, 4], [4, 9], [4, 10], [4, 11], [4, 12], [3, 5], [5, 7], [5, 8], [5, 11], [5, 12], [3, 6], [6, 7], [6, 8], [6, 9], [6, 10], [1, 4], [1, 3], [1, 7], [1, 8], [1, 9], [1, 10], [1, 11], [1, 12]]
def wy15 : List (List Nat) := [[9], [9, 10], [5, 10], [5, 11], [5, 11, 12], [5, 6, 12], [2, 6, 12], [2, 7, 12], [2, 7, 8], [2, 4, 8], [2, 3, 4], [1, 2, 4], [0, 2, 4]]
def rw16 : List (List Nat) := [[1, 2], [3, 4], [], [5, 6], [], [], []]
def cl16 : List (List Nat) := [[], [2], [4], [5], [6]]
def wy16 : List (List Nat) := [[5], [5, 6], [3, 6], [3, 4], [1, 4], [1, 2], [0, 2]]
def rw17 : List (List Nat) := [[1, 2], [3, 4], [5, 6], [7, 8], [], [], [], [], []]
def cl17 : List (List Nat) := [[], [4], [5], [6], [7], [8], [4, 5], [4, 6], [4, 7], [4, 8], [5, 6], [5, 7], [5, 8], [6, 7], [6, 8], [7, 8], [2, 6], [2, 5], [3, 8], [3, 7], [2, 4], [2, 7], [2, 8], [3, 4], [3, 5], [3, 6], [1, 4], [1, 3], [1, 5], [1, 6], [1, 7], [1, 8]]
def wy17 : List (List Nat) := [[4], [4, 7], [4, 7, 8], [3, 4, 8], [1, 4, 8], [1, 5, 8], [1, 5, 6], [1, 2, 6], [0, 2, 6]]
def rw18 : List (List Nat) := [[1, 2], [3, 4], [5, 6], [7, 8], [], [], [9, 10], [], [], [], []]
def cl18 : List (List Nat) := [[], [4], [5], [7], [8], [9], [10], [4, 5], [4, 7], [4, 8], [4, 9], [4, 10], [5, 7], [5, 8], [5, 9], [5, 10], [7, 8], [7, 9], [7, 10], [8, 9], [8, 10], [9, 10], [3, 8], [3, 7], [6, 10], [6, 9], [3, 4], [3, 5], [3, 9], [3, 10], [4, 6], [5, 6], [6, 7], [6, 8], [1, 4], [1, 3], [2, 6], [2, 5], [1, 5], [1, 7], [1, 8], [1, 9], [1, 10], [2, 4], [2, 7], [2, 8], [2, 9], [2, 10]]
def wy18 : List (List Nat) := [[4], [4, 7], [4, 7, 8], [3, 4, 8], [1, 4, 8], [1, 8, 9], [1, 9, 10], [1, 6, 10], [1, 5, 6], [1, 2, 6], [0, 2, 6]]
def rw19 : List (List Nat) := [[1, 2], [3, 4], [5, 6], [7, 8], [], [9, 10], [], [], [], [], []]
def cl19 : List (List Nat) := [[], [4], [6], [7], [8], [9], [10], [4, 6], [4, 7], [4, 8], [4, 9], [4, 10], [6, 7], [6, 8], [6, 9], [6, 10], [7, 8], [7, 9], [7, 10], [8, 9], [8, 10], [9, 10], [3, 8], [3, 7], [5, 10], [5, 9], [3, 4], [3, 6], [3, 9], [3, 10], [4, 5], [5, 6], [5, 7], [5, 8], [1, 4], [1, 3], [2, 6], [2, 5], [1, 6], [1, 7], [1, 8], [1, 9], [1, 10], [2, 4], [2, 7], [2, 8], [2, 9], [2, 10]]
def wy19 : List (List Nat) := [[4], [4, 7], [4, 7, 8], [3, 4, 8], [1, 4, 8], [1, 8, 9], [1, 9, 10], [1, 5, 10], [1, 5, 6], [1, 2, 6], [0, 2, 6]]
def rw20 : List (List Nat) := [[1, 2], [3, 4], [5, 6], [7, 8], [], [9, 10], [11, 12], [], [], [], [], [], []]
def cl20 : List (List Nat) := [[], [4], [7], [8], [9], [10], [11], [12], [4, 7], [4, 8], [4, 9], [4, 10], [4, 11], [4, 12], [7, 8], [7, 9], [7, 10], [7, 11], [7, 12], [8, 9], [8, 10], [8, 11], [8, 12], [9, 10], [9, 11], [9, 12], [10, 11], [10, 12], [11, 12], [3, 8], [3, 7], [5, 10], [5, 9], [6, 12], [6, 11], [3, 4], [3, 9], [3, 10], [3, 11], [3, 12], [4, 5], [5, 7], [5, 8], [5, 11], [5, 12], [4, 6], [6, 7], [6, 8], [6, 9], [6, 10], [1, 4], [1, 3], [1, 7], [1, 8], [1, 9], [1, 10], [1, 11], [1, 12]]
def wy20 : List (List Nat) := [[9], [9, 10], [5, 10], [5, 11], [5, 11, 12], [5, 6, 12], [2, 6, 12], [2, 7, 12], [2, 7, 8], [2, 3, 8], [2, 3, 4], [1, 2, 4], [0, 2, 4]]
def rw21 : List (List Nat) := [[1, 2], [3, 4], [], [5, 6], [7, 8], [], [], [], []]
def cl21 : List (List Nat) := [[], [2], [5], [6], [7], [8], [2, 5], [2, 6], [2, 7], [2, 8], [5, 6], [5, 7], [5, 8], [6, 7], [6, 8], [7, 8], [3, 6], [3, 5], [4, 8], [4, 7], [2, 3], [3, 7], [3, 8], [2, 4], [4, 5], [4, 6]]
def wy21 : List (List Nat) := [[5], [5, 6], [3, 6], [3, 7], [3, 7, 8], [3, 4, 8], [1, 4, 8], [1, 2, 8], [0, 2, 8]]
def rw22 : List (List Nat) := [[1, 2], [3, 4], [5, 6], [7, 8], [9, 10], [], [], [], [], [], []]
def cl22 : List (List Nat) := [[], [5], [6], [7], [8], [9], [10], [5, 6], [5, 7], [5, 8], [5, 9], [5, 10], [6, 7], [6, 8], [6, 9], [6, 10], [7, 8], [7, 9], [7, 10], [8, 9], [8, 10], [9, 10], [2, 6], [2, 5], [3, 8], [3, 7], [4, 10], [4, 9], [2, 7], [2, 8], [2, 9], [2, 10], [3, 5], [3, 6], [3, 9], [3, 10], [4, 5], [4, 6], [4, 7], [4, 8]]
def wy22 : List (List Nat) := [[7], [7, 8], [3, 8], [3, 9], [3, 9, 10], [3, 4, 10], [1, 4, 10], [1, 5, 10], [1, 5, 6], [1, 2, 6], [0, 2, 6]]
def rw23 : List (List Nat) := [[1, 2], [3, 4], [5, 6], [7, 8], [9, 10], [], [11, 12], [], [], [], [], [], []]
def cl23 : List (List Nat) := [[], [5], [7], [8], [9], [10], [11], [12], [5, 7], [5, 8], [5, 9], [5, 10], [5, 11], [5, 12], [7, 8], [7, 9], [7, 10], [7, 11], [7, 12], [8, 9], [8, 10], [8, 11], [8, 12], [9, 10], [9, 11], [9, 12], [10, 11], [10, 12], [11, 12], [3, 8], [3, 7], [4, 10], [4, 9], [6, 12], [6, 11], [3, 5], [3, 9], [3, 10], [3, 11], [3, 12], [4, 5], [4, 7], [4, 8], [4, 11], [4, 12], [5, 6], [6, 7], [6, 8], [6, 9], [6, 10], [2, 6], [2, 5], [2, 7], [2, 8], [2, 9], [2, 10], [2, 11], [2, 12]]
def wy23 : List (List Nat) := [[7], [7, 8], [3, 8], [3, 9], [3, 9, 10], [3, 4, 10], [1, 4, 10], [1, 10, 11], [1, 11, 12], [1, 6, 12], [1, 5, 6], [1, 2, 6], [0, 2, 6]]
def rw24 : List (List Nat) := [[1, 2], [3, 4], [5, 6], [7, 8], [9, 10], [11, 12], [], [], [], [], [], [], []]
def cl24 : List (List Nat) := [[], [6], [7], [8], [9], [10], [11], [12], [6, 7], [6, 8], [6, 9], [6, 10], [6, 11], [6, 12], [7, 8], [7, 9], [7, 10], [7, 11], [7, 12], [8, 9], [8, 10], [8, 11], [8, 12], [9, 10], [9, 11], [9, 12], [10, 11], [10, 12], [11, 12], [3, 8], [3, 7], [4, 10], [4, 9], [5, 12], [5, 11], [3, 6], [3, 9], [3, 10], [3, 11], [3, 12], [4, 6], [4, 7], [4, 8], [4, 11], [4, 12], [5, 6], [5, 7], [5, 8], [5, 9], [5, 10], [2, 6], [2, 5], [2, 7], [2, 8], [2, 9], [2, 10], [2, 11], [2, 12]]
def wy24 : List (List Nat) := [[7], [7, 8], [3, 8], [3, 9], [3, 9, 10], [3, 4, 10], [1, 4, 10], [1, 10, 11], [1, 11, 12], [1, 5, 12], [1, 5, 6], [1, 2, 6], [0, 2, 6]]
def rw25 : List (List Nat) := [[1, 2], [3, 4], [5, 6], [7, 8], [9, 10], [11, 12], [13, 14], [], [], [], [], [], [], [], []]
def cl25 : List (List Nat) := [[], [7], [8], [9], [10], [11], [12], [13], [14], [7, 8], [7, 9], [7, 10], [7, 11], [7, 12], [7, 13], [7, 14], [8, 9], [8, 10], [8, 11], [8, 12], [8, 13], [8, 14], [9, 10], [9, 11], [9, 12], [9, 13], [9, 14], [10, 11], [10, 12], [10, 13], [10, 14], [11, 12], [11, 13], [11, 14], [12, 13], [12, 14], [13, 14], [3, 8], [3, 7], [3, 7, 8], [7, 8, 9], [7, 8, 10], [7, 8, 11], [7, 8, 12], [7, 8, 13], [7, 8, 14], [7, 9, 10], [7, 9, 11], [7, 9, 12], [7, 9, 13], [7, 9, 14], [7, 10, 11], [7, 10, 12], [7, 10, 13], [7, 10, 14], [7, 11, 12], [7, 11, 13], [7, 11, 14], [7, 12, 13], [7, 12, 14], [7, 13, 14], [8, 9, 10], [8, 9, 11], [8, 9, 12], [8, 9, 13], [8, 9, 14], [8, 10, 11], [8, 10, 12], [8, 10, 13], [8, 10, 14], [8, 11, 12], [8, 11, 13], [8, 11, 14], [8, 12, 13], [8, 12, 14], [8, 13, 14], [4, 10], [4, 9], [4, 9, 10], [9, 10, 11], [9, 10, 12], [9, 10, 13], [9, 10, 14], [9, 11, 12], [9, 11, 13], [9, 11, 14], [9, 12, 13], [9, 12, 14], [9, 13, 14], [10, 11, 12], [10, 11, 13], [10, 11, 14], [10, 12, 13], [10, 12, 14], [10, 13, 14], [5, 12], [5, 11], [5, 11, 12], [11, 12, 13], [11, 12, 14], [11, 13, 14], [12, 13, 14], [6, 14], [6, 13], [6, 13, 14], [3, 9], [3, 8, 9], [3, 10], [3, 8, 10], [3, 11], [3, 8, 11], [3, 12], [3, 8, 12], [3, 13], [3, 8, 13], [3, 14], [3, 8, 14], [3, 7, 9], [3, 7, 10], [3, 7, 11], [3, 7, 12], [3, 7, 13], [3, 7, 14], [4, 7, 10], [4, 7, 9], [5, 7, 12], [5, 7, 11], [6, 7, 14], [6, 7, 13], [4, 8, 10], [4, 8, 9], [5, 8, 12], [5, 8, 11], [6, 8, 14], [6, 8, 13], [4, 7], [4, 8], [4, 11], [4, 10, 11], [4, 12], [4, 10, 12], [4, 13], [4, 10, 13], [4, 14], [4, 10, 14], [4, 9, 11], [4, 9, 12], [4, 9, 13], [4, 9, 14], [5, 9, 12], [5, 9, 11], [6, 9, 14], [6, 9, 13], [5, 10, 12], [5, 10, 11], [6, 10, 14], [6, 10, 13], [5, 7], [5, 8], [5, 9], [5, 10], [5, 13], [5, 12, 13], [5, 14], [5, 12, 14], [5, 11, 13], [5, 11, 14], [6, 11, 14], [6, 11, 13], [6, 12, 14], [6, 12, 13], [6, 7], [6, 8], [6, 9], [6, 10], [6, 11], [6, 12], [3, 9, 10], [3, 9, 11], [3, 9, 12], [3, 9, 13], [3, 9, 14], [3, 10, 11], [3, 10, 12], [3, 10, 13], [3, 10, 14], [3, 11, 12], [3, 11, 13], [3, 11, 14], [3, 12, 13], [3, 12, 14], [3, 13, 14], [4, 7, 8], [4, 7, 11], [4, 7, 12], [4, 7, 13], [4, 7, 14], [5, 7, 8], [5, 7, 9], [5, 7, 10], [5, 7, 13], [5, 7, 14], [6, 7, 8], [6, 7, 9], [6, 7, 10], [6, 7, 11], [6, 7, 12], [4, 8, 11], [4, 8, 12], [4, 8, 13], [4, 8, 14], [5, 8, 9], [5, 8, 10], [5, 8, 13], [5, 8, 14], [6, 8, 9], [6, 8, 10], [6, 8, 11], [6, 8, 12], [4, 11, 12], [4, 11, 13], [4, 11, 14], [4, 12, 13], [4, 12, 14], [4, 13, 14], [5, 9, 10], [5, 9, 13], [5, 9, 14], [6, 9, 10], [6, 9, 11], [6, 9, 12], [5, 10, 13], [5, 10, 14], [6, 10, 11], [6, 10, 12], [5, 13, 14], [6, 11, 12], [3, 4, 10], [3, 4, 9], [3, 5, 12], [3, 5, 11], [3, 6, 14], [3, 6, 13], [3, 4, 8], [3, 4, 7], [3, 5, 8], [3, 5, 7], [3, 6, 8], [3, 6, 7], [4, 5, 12], [4, 5, 11], [4, 6, 14], [4, 6, 13], [4, 5, 10], [4, 5, 9], [4, 6, 10], [4, 6, 9], [5, 6, 14], [5, 6, 13], [5, 6, 12], [5, 6, 11], [1, 4, 10], [1, 3, 10], [1, 3, 4], [3, 4, 11], [3, 4, 12], [3, 4, 13], [3, 4, 14], [1, 4, 9], [1, 3, 9], [3, 5, 9], [3, 5, 10], [3, 5, 13], [3, 5, 14], [3, 6, 9], [3, 6, 10], [3, 6, 11], [3, 6, 12], [1, 4, 8], [1, 3, 8], [1, 4, 7], [1, 3, 7], [4, 5, 7], [4, 5, 8], [4, 5, 13], [4, 5, 14], [4, 6, 7], [4, 6, 8], [4, 6, 11], [4, 6, 12], [2, 6, 14], [2, 5, 14], [2, 5, 6], [5, 6, 7], [5, 6, 8], [5, 6, 9], [5, 6, 10], [2, 6, 13], [2, 5, 13], [2, 6, 12], [2, 5, 12], [2, 6, 11], [2, 5, 11], [1, 7, 10], [1, 8, 10], [1, 9, 10], [1, 10, 11], [1, 4, 11], [1, 10, 12], [1, 4, 12], [1, 10, 13], [1, 4, 13], [1, 10, 14], [1, 4, 14], [1, 3, 11], [1, 3, 12], [1, 3, 13], [1, 3, 14], [1, 7, 9], [1, 8, 9], [1, 9, 11], [1, 9, 12], [1, 9, 13], [1, 9, 14], [1, 7, 8], [1, 8, 11], [1, 8, 12], [1, 8, 13], [1, 8, 14], [1, 7, 11], [1, 7, 12], [1, 7, 13], [1, 7, 14], [2, 7, 14], [2, 6, 7], [2, 8, 14], [2, 6, 8], [2, 9, 14], [2, 6, 9], [2, 10, 14], [2, 6, 10], [2, 11, 14], [2, 12, 14], [2, 13, 14], [2, 5, 7], [2, 5, 8], [2, 5, 9], [2, 5, 10], [2, 7, 13], [2, 8, 13], [2, 9, 13], [2, 10, 13], [2, 11, 13], [2, 12, 13], [2, 7, 12], [2, 8, 12], [2, 9, 12], [2, 10, 12], [2, 11, 12], [2, 7, 11], [2, 8, 11], [2, 9, 11], [2, 10, 11], [1, 11, 12], [1, 11, 13], [1, 11, 14], [1, 12, 13], [1, 12, 14], [1, 13, 14], [2, 7, 8], [2, 7, 9], [2, 7, 10], [2, 8, 9], [2, 8, 10], [2, 9, 10], [1, 5, 12], [1, 5, 11], [1, 6, 14], [1, 6, 13], [2, 3, 8], [2, 3, 7], [2, 4, 10], [2, 4, 9], [1, 5, 7], [1, 5, 8], [1, 5, 9], [1, 5, 10], [1, 5, 13], [1, 5, 14], [1, 6, 7], [1, 6, 8], [1, 6, 9], [1, 6, 10], [1, 6, 11], [1, 6, 12], [2, 3, 9], [2, 3, 10], [2, 3, 11], [2, 3, 12], [2, 3, 13], [2, 3, 14], [2, 4, 7], [2, 4, 8], [2, 4, 11], [2, 4, 12], [2, 4, 13], [2, 4, 14]]
def wy25 : List (List Nat) := [[7], [7, 8], [3, 8], [3, 9], [3, 9, 10], [3, 4, 10], [1, 4, 10], [1, 10, 11], [1, 11, 12], [1, 5, 12], [1, 5, 13], [1, 5, 13, 14], [1, 5, 6, 14], [1, 2, 6, 14], [0, 2, 6, 14]]
def certs : List (Tr × List (List Nat) × List (List Nat) × List (List Nat)) := [((.leaf 0), [], [], []),
  ((.node (.leaf 0) (.leaf 0)), rw1, cl1, wy1),
  ((.node (.leaf 0) (.node (.leaf 0) (.leaf 0))), rw2, cl2, wy2),
  ((.node (.leaf 0) (.node (.leaf 0) (.node (.leaf 0) (.leaf 0)))), rw3, cl3, wy3),
  ((.node (.leaf 0) (.node (.node (.leaf 0) (.leaf 0)) (.leaf 0))), rw4, cl4, wy4),
  ((.node (.leaf 0) (.node (.node (.leaf 0) (.leaf 0)) (.node (.leaf 0) (.leaf 0)))), rw5, cl5, wy5),
  ((.node (.node (.leaf 0) (.leaf 0)) (.leaf 0)), rw6, cl6, wy6),
  ((.node (.node (.leaf 0) (.leaf 0)) (.node (.leaf 0) (.leaf 0))), rw7, cl7, wy7),
  ((.node (.node (.leaf 0) (.leaf 0)) (.node (.leaf 0) (.node (.leaf 0) (.leaf 0)))), rw8, cl8, wy8),
  ((.node (.node (.leaf 0) (.leaf 0)) (.node (.node (.leaf 0) (.leaf 0)) (.leaf 0))), rw9, cl9, wy9),
  ((.node (.node (.leaf 0) (.leaf 0)) (.node (.node (.leaf 0) (.leaf 0)) (.node (.leaf 0) (.leaf 0)))), rw10, cl10, wy10),
  ((.node (.node (.leaf 0) (.node (.leaf 0) (.leaf 0))) (.leaf 0)), rw11, cl11, wy11),
  ((.node (.node (.leaf 0) (.node (.leaf 0) (.leaf 0))) (.node (.leaf 0) (.leaf 0))), rw12, cl12, wy12),
  ((.node (.node (.leaf 0) (.node (.leaf 0) (.leaf 0))) (.node (.leaf 0) (.node (.leaf 0) (.leaf 0)))), rw13, cl13, wy13),
  ((.node (.node (.leaf 0) (.node (.leaf 0) (.leaf 0))) (.node (.node (.leaf 0) (.leaf 0)) (.leaf 0))), rw14, cl14, wy14),
  ((.node (.node (.leaf 0) (.node (.leaf 0) (.leaf 0))) (.node (.node (.leaf 0) (.leaf 0)) (.node (.leaf 0) (.leaf 0)))), rw15, cl15, wy15),
  ((.node (.node (.node (.leaf 0) (.leaf 0)) (.leaf 0)) (.leaf 0)), rw16, cl16, wy16),
  ((.node (.node (.node (.leaf 0) (.leaf 0)) (.leaf 0)) (.node (.leaf 0) (.leaf 0))), rw17, cl17, wy17),
  ((.node (.node (.node (.leaf 0) (.leaf 0)) (.leaf 0)) (.node (.leaf 0) (.node (.leaf 0) (.leaf 0)))), rw18, cl18, wy18),
  ((.node (.node (.node (.leaf 0) (.leaf 0)) (.leaf 0)) (.node (.node (.leaf 0) (.leaf 0)) (.leaf 0))), rw19, cl19, wy19),
  ((.node (.node (.node (.leaf 0) (.leaf 0)) (.leaf 0)) (.node (.node (.leaf 0) (.leaf 0)) (.node (.leaf 0) (.leaf 0)))), rw20, cl20, wy20),
  ((.node (.node (.node (.leaf 0) (.leaf 0)) (.node (.leaf 0) (.leaf 0))) (.leaf 0)), rw21, cl21, wy21),
  ((.node (.node (.node (.leaf 0) (.leaf 0)) (.node (.leaf 0) (.leaf 0))) (.node (.leaf 0) (.leaf 0))), rw22, cl22, wy22),
  ((.node (.node (.node (.leaf 0) (.leaf 0)) (.node (.leaf 0) (.leaf 0))) (.node (.leaf 0) (.node (.leaf 0) (.leaf 0)))), rw23, cl23, wy23),
  ((.node (.node (.node (.leaf 0) (.leaf 0)) (.node (.leaf 0) (.leaf 0))) (.node (.node (.leaf 0) (.leaf 0)) (.leaf 0))), rw24, cl24, wy24),
  ((.node (.node (.node (.leaf 0) (.leaf 0)) (.node (.leaf 0) (.leaf 0))) (.node (.node (.leaf 0) (.leaf 0)) (.node (.leaf 0) (.leaf 0)))), rw25, cl25, wy25)]
theorem certs_all : certs.map (·.1) = allT 3 := by rfl
theorem certs_ok : certs.all ok1 = true := by decide +kernel
theorem can3 : ((allT 3).all fun t => chk (t.lab 0).1) = true := by
  rw [← certs_all, List.all_map, List.all_eq_true]
  exact fun x hx => ok1_chk (List.all_eq_true.mp certs_ok x hx)
theorem plain (ns : List Int) (hn : ns.length ≤ 63) (_ : ∀ z ∈ ns, PySem.Builtin.Int.intBits z ≤ 1048576) : ∃ h', run 40 26 [scr ns] [] = .ok (.d (.bl true)) h' := plain' can3 ns hn
end K39
open PySem PySem.W PyProof.Rows in
set_option maxRecDepth 100000 in
set_option maxHeartbeats 0 in
theorem PySem.Challenge.cw_nowayleft_k39_trees_worked_out_holds : PySem.Challenge.rw_nowayleft_k39_trees_worked_out.Holds := by
  w_on; o_law; k_head; (case hw => w_witness2)
  k_fill
  refine Fz.walkG (l := PySem.Challenge.rw_nowayleft_k39_trees_worked_out) (n := 63) (k := 2 * 40) (x := "script") (g := K39.run 40 26) rfl (by decide) rfl ⟨rfl, by decide, by decide⟩ (fun w h Y => PySem.W.kIn_of Y) (fun w => Fz.noLst_of (by rfl)) ?F K39.plain
  case F =>
    intro w mg fa h KX G hmg
    refine' K39.all_mk KX G hmg ?a0 ?l0 ?c0 ?k0 ?a1 ?l1 ?c1 ?k1 ?a2 ?l2 ?c2 ?k2 ?a3 ?l3 ?c3 ?k3 ?a4 ?l4 ?c4 ?k4 ?a5 ?l5 ?c5 ?k5 ?a6 ?l6 ?c6 ?k6 ?a7 ?l7 ?c7 ?k7 ?a8 ?l8 ?c8 ?k8 ?a9 ?l9 ?c9 ?k9 ?a10 ?l10 ?c10 ?k10 ?a11 ?l11 ?c11 ?k11 ?a12 ?l12 ?c12 ?k12 ?a13 ?l13 ?c13 ?k13 ?a14 ?l14 ?c14 ?k14 ?a15 ?l15 ?c15 ?k15 ?a16 ?l16 ?c16 ?k16 ?a17 ?l17 ?c17 ?k17 ?a18 ?l18 ?c18 ?k18 ?a19 ?l19 ?c19 ?k19 ?a20 ?l20 ?c20 ?k20 ?a21 ?l21 ?c21 ?k21 ?a22 ?l22 ?c22 ?k22 ?a23 ?l23 ?c23 ?k23 ?a24 ?l24 ?c24 ?k24 ?a25 ?l25 ?c25 ?k25 ?a26 ?l26 ?c26 ?k26 ?z_abs ?z_all ?z_bool ?z_int ?z_isinstance ?z_len ?z_list ?z_max ?z_range ?z_repr ?z_sorted ?z_tuple ?q_MAX_DEPTH ?q_MAX_SPANS
    (case a0 => k_is)
    (case l0 => k_is)
    (case c0 => k_is)
    (case k0 => k_is)
    (case a1 => k_is)
    (case l1 => k_is)
    (case c1 => k_is)
    (case k1 => k_is)
    (case a2 => k_is)
    (case l2 => k_is)
    (case c2 => k_is)
    (case k2 => k_is)
    (case a3 => k_is)
    (case l3 => k_is)
    (case c3 => k_is)
    (case k3 => k_is)
    (case a4 => k_is)
    (case l4 => k_is)
    (case c4 => k_is)
    (case k4 => k_is)
    (case a5 => k_is)
    (case l5 => k_is)
    (case c5 => k_is)
    (case k5 => k_is)
    (case a6 => k_is)
    (case l6 => k_is)
    (case c6 => k_is)
    (case k6 => k_is)
    (case a7 => k_is)
    (case l7 => k_is)
    (case c7 => k_is)
    (case k7 => k_is)
    (case a8 => k_is)
    (case l8 => k_is)
    (case c8 => k_is)
    (case k8 => k_is)
    (case a9 => k_is)
    (case l9 => k_is)
    (case c9 => k_is)
    (case k9 => k_is)
    (case a10 => k_is)
    (case l10 => k_is)
    (case c10 => k_is)
    (case k10 => k_is)
    (case a11 => k_is)
    (case l11 => k_is)
    (case c11 => k_is)
    (case k11 => k_is)
    (case a12 => k_is)
    (case l12 => k_is)
    (case c12 => k_is)
    (case k12 => k_is)
    (case a13 => k_is)
    (case l13 => k_is)
    (case c13 => k_is)
    (case k13 => k_is)
    (case a14 => k_is)
    (case l14 => k_is)
    (case c14 => k_is)
    (case k14 => k_is)
    (case a15 => k_is)
    (case l15 => k_is)
    (case c15 => k_is)
    (case k15 => k_is)
    (case a16 => k_is)
    (case l16 => k_is)
    (case c16 => k_is)
    (case k16 => k_is)
    (case a17 => k_is)
    (case l17 => k_is)
    (case c17 => k_is)
    (case k17 => k_is)
    (case a18 => k_is)
    (case l18 => k_is)
    (case c18 => k_is)
    (case k18 => k_is)
    (case a19 => k_is)
    (case l19 => k_is)
    (case c19 => k_is)
    (case k19 => k_is)
    (case a20 => k_is)
    (case l20 => k_is)
    (case c20 => k_is)
    (case k20 => k_is)
    (case a21 => k_is)
    (case l21 => k_is)
    (case c21 => k_is)
    (case k21 => k_is)
    (case a22 => k_is)
    (case l22 => k_is)
    (case c22 => k_is)
    (case k22 => k_is)
    (case a23 => k_is)
    (case l23 => k_is)
    (case c23 => k_is)
    (case k23 => k_is)
    (case a24 => k_is)
    (case l24 => k_is)
    (case c24 => k_is)
    (case k24 => k_is)
    (case a25 => k_is)
    (case l25 => k_is)
    (case c25 => k_is)
    (case k25 => k_is)
    (case a26 => k_is)
    (case l26 => k_is)
    (case c26 => k_is)
    (case k26 => k_is)
    (case z_abs => k_is)
    (case z_all => k_is)
    (case z_bool => k_is)
    (case z_int => k_is)
    (case z_isinstance => k_is)
    (case z_len => k_is)
    (case z_list => k_is)
    (case z_max => k_is)
    (case z_range => k_is)
    (case z_repr => k_is)
    (case z_sorted => k_is)
    (case z_tuple => k_is)
    (case q_MAX_DEPTH => k_is)
    (case q_MAX_SPANS => k_is)
