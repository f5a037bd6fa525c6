import PyProof.Rows.All
import Wide.All
import OpenK.AllK
import Wide.FinOn
import HandS.ForMost
import HandS.Exc
import HandS.Flow
import HandS.Style
import HandS.IsInst
import HandS.Conv
import HandS.More
import HandS.DictComp
import HandS.ListItems
import HandS.TupAny
import HandS.TupLe
import HandS.TupMul
import HandS.TupLen
import HandS.Deep
import HandS.Zip
import HandS.Rev
import KE.SortData
import KE.GoesEnum
import KE.KDictDisplayH
import HandS.EndBits
import KE.DataMinMax
import KE.KExcSuper
import HandS.ExcInit
import HandS.Words
import HandS.ExcField
import KE.KExcIs
import KE.KIsAll
import HandS.ExcIs
import KE.GoesMore
import HandS.Iter
import HandS.HotCalls
import HandS.SetFor
import PySem.Challenge.RW_nowayleft_k45_spans_on_stacks
set_option Elab.async false
set_option linter.all false
set_option maxRecDepth 100000
set_option maxHeartbeats 2000000
/-! Fz: programs as functions on plain data. D: data that never change; W: data, or the number of a thing that changes; O: such a thing. -/
namespace Fz
open PySem L2

inductive D where
  | non | bl (b : Bool) | int (i : Int) | str (s : List Nat) | tup (l : List D) | lst (l : List D)
/-- data; the number of a thing that changes; a def, by its name -/
inductive W where
  | d (x : D) | r (n : Nat) | f (n : List Nat)
inductive O where
  | lst (l : List W)
  | dk (l : List (D × W))
  | dt (l : List (D × W))
  | fk (l : List (D × W))
  | ft (l : List (D × W))
  | ins (c : Nat) (fs : List (Nat × W))
abbrev Hh := List O
abbrev Ev := List (Option W)
inductive R (α : Type) where
  | ok (a : α) (h : Hh)
  | ex (c : Nat) (p : W) (h : Hh)
  | no
def R.bind {α β : Type} (m : R α) (f : α → Hh → R β) : R β := match m with
  | .ok a h => f a h
  | .ex c p h => .ex c p h
  | .no => .no
@[simp] theorem R.bind_ok {α β : Type} {a : α} {h : Hh} {f : α → Hh → R β} : (R.ok a h).bind f = f a h := (rfl)
@[simp] theorem R.bind_ex {α β : Type} {c p h} {f : α → Hh → R β} : (R.ex c p h : R α).bind f = .ex c p h := (rfl)
@[simp] theorem R.bind_no {α β : Type} {f : α → Hh → R β} : (R.no : R α).bind f = .no := (rfl)

/-- the names of fields, the places of classes -/
structure Tb where
  fld : Nat → Str
  cad : Nat → Addr
  efl : Nat → Str
  xad : Nat → Addr

def toStr (l : List Nat) : Str := ⟨l.toArray⟩
theorem toStr_len (l : List Nat) : (toStr l).length = l.length := by simp [toStr, Str.length]
theorem toStr_inj {a b : List Nat} (h : toStr a = toStr b) : a = b := by
  have := congrArg (fun s : Str => s.cps.toList) h
  simpa [toStr] using this

def FL (K : PySem.W.Frag) (M : List Addr) (H : Hp) (a : Addr) (xs : List V) : Prop := Rd H a (.lst xs) ∧ a ∉ M
def FT (K : PySem.W.Frag) (M : List Addr) (H : Hp) (a : Addr) (xs : List V) : Prop := H a = some (.tup xs) ∧ a ∉ M
theorem FL.sq {K M H a xs} (h : FL K M H a xs) : SqL K H a xs := .inl h.1
theorem FT.sq {K M H a xs} (h : FT K M H a xs) : SqT K H a xs := .inl (.inl h.1)

mutual
inductive Rp (K : PySem.W.Frag) (M : List Addr) (H : Hp) : D → V → Prop
  | non : Rp K M H .non .non
  | bl (b : Bool) : Rp K M H (.bl b) (.bl b)
  | int (i : Int) : Rp K M H (.int i) (.int i)
  | str (l : List Nat) (z : l.length ≤ sizeLine) : Rp K M H (.str l) (.str (toStr l))
  | tup {a : Addr} {vs : List V} {ds : List D} : FT K M H a vs → ds.length ≤ sizeLine → RpL K M H ds vs → Rp K M H (.tup ds) (.ref a)
  | lst {a : Addr} {vs : List V} {ds : List D} : FL K M H a vs → ds.length ≤ sizeLine → RpL K M H ds vs → Rp K M H (.lst ds) (.ref a)
inductive RpL (K : PySem.W.Frag) (M : List Addr) (H : Hp) : List D → List V → Prop
  | nil : RpL K M H [] []
  | cons {d : D} {v : V} {ds : List D} {vs : List V} : Rp K M H d v → RpL K M H ds vs → RpL K M H (d :: ds) (v :: vs)
end

/-- what stands still from (M, H) to (M', H'): what is tracked and no mutable thing of ours is as it was; new mutable things were not tracked -/
structure Keep (M : List Addr) (H : Hp) (M' : List Addr) (H' : Hp) : Prop where
  keep : ∀ a o, H a = some o → a ∉ M → H' a = some o
  new : ∀ a, a ∈ M' → a ∉ M → H a = none
theorem Rd.keep {M H M' H'} (k : Keep M H M' H') {a : Addr} {u : HO} (h : Rd H a u) (n : a ∉ M) : Rd H' a u ∧ a ∉ M' := by
  have e : ∃ o, H a = some o := by
    rcases h with h | ⟨o, h⟩ <;> exact ⟨_, h⟩
  obtain ⟨o, e⟩ := e
  refine ⟨?_, fun q => ?_⟩
  · rcases h with h | ⟨o', h⟩
    · exact .inl (k.keep _ _ h n)
    · exact .inr ⟨o', k.keep _ _ h n⟩
  · rw [k.new a q n] at e
    cases e
theorem FL.keep {K M H M' H' a xs} (k : Keep M H M' H') (h : FL K M H a xs) : FL K M' H' a xs := Rd.keep k h.1 h.2
theorem FT.keep {K M H M' H' a xs} (k : Keep M H M' H') (h : FT K M H a xs) : FT K M' H' a xs := ⟨k.keep _ _ h.1 h.2, (Rd.keep k (.inl h.1) h.2).2⟩
mutual
theorem Rp.keep {K M H M' H'} (k : Keep M H M' H') : ∀ {d : D} {v : V}, Rp K M H d v → Rp K M' H' d v
  | _, _, .non => .non
  | _, _, .bl b => .bl b
  | _, _, .int i => .int i
  | _, _, .str l z => .str l z
  | _, _, .tup h z r => .tup (h.keep k) z (RpL.keep k r)
  | _, _, .lst h z r => .lst (h.keep k) z (RpL.keep k r)
theorem RpL.keep {K M H M' H'} (k : Keep M H M' H') : ∀ {d : List D} {v : List V}, RpL K M H d v → RpL K M' H' d v
  | _, _, .nil => .nil
  | _, _, .cons a b => .cons (Rp.keep k a) (RpL.keep k b)
end
theorem RpL.length {K M H} : ∀ {d : List D} {v : List V}, RpL K M H d v → d.length = v.length
  | _, _, .nil => rfl
  | _, _, .cons _ b => by simp [RpL.length b]

/-- the first def of a name -/
def fnAt (K : PySem.W.Frag) (q : Str) : Option Addr := (K.find? fun p => match p.2.data with
  | .func fd => fd.qualname == q
  | _ => false).map (·.1)
/-- a value -/
inductive RW (K : PySem.W.Frag) (F ρ : List Addr) (H : Hp) : W → V → Prop
  | d {x : D} {v : V} : Rp K (F ++ ρ) H x v → RW K F ρ H (.d x) v
  | r {n : Nat} {a : Addr} : ρ[n]? = some a → RW K F ρ H (.r n) (.ref a)
  | f {n : List Nat} {a : Addr} : fnAt K (toStr n) = some a → RW K F ρ H (.f n) (.ref a)
abbrev RWs (K : PySem.W.Frag) (F ρ : List Addr) (H : Hp) : List W → List V → Prop := Paired (RW K F ρ H)
/-- a key: the datum and the key of the layer -/
inductive Rk : D → Key → Prop
  | int (i : Int) : Rk (.int i) (.inl i)
  | str (l : List Nat) : Rk (.str l) (.inr (toStr l))
inductive Rks : List D → List Key → Prop
  | nil : Rks [] []
  | cons {d k ds ks} : Rk d k → Rks ds ks → Rks (d :: ds) (k :: ks)
def RkT (d : D) (ks : List Key) : Prop := ∃ ds, d = .tup ds ∧ Rks ds ks
/-- a thing that changes -/
inductive RO (K : PySem.W.Frag) (T : Tb) (F ρ : List Addr) (H : Hp) : O → HO → Prop
  | lst {l : List W} {vs : List V} : l.length ≤ sizeLine → RWs K F ρ H l vs → RO K T F ρ H (.lst l) (.lst vs)
  | dk {l : List (D × W)} {kvs : List (Key × V)} : Paired (fun p q => Rk p.1 q.1 ∧ RW K F ρ H p.2 q.2) l kvs → RO K T F ρ H (.dk l) (.dK kvs)
  | dt {l : List (D × W)} {kvs : List (List Key × V)} : Paired (fun p q => RkT p.1 q.1 ∧ RW K F ρ H p.2 q.2) l kvs → RO K T F ρ H (.dt l) (.dT kvs)
  | fk {l : List (D × W)} {kvs : List (Key × V)} {od : Obj} : Paired (fun p q => Rk p.1 q.1 ∧ RW K F ρ H p.2 q.2) l kvs → RO K T F ρ H (.fk l) (.frz od (.dK kvs))
  | ft {l : List (D × W)} {kvs : List (List Key × V)} {od : Obj} : Paired (fun p q => RkT p.1 q.1 ∧ RW K F ρ H p.2 q.2) l kvs → RO K T F ρ H (.ft l) (.frz od (.dT kvs))
  | ins {c : Nat} {fs : List (Nat × W)} {dx : Addr} {vs : List (Str × V)} : Paired (fun p q => q.1 = T.fld p.1 ∧ RW K F ρ H p.2 q.2) fs vs → fs.length < 900 → RO K T F ρ H (.ins c fs) (.ins (T.cad c) dx vs)
/-- the heap -/
structure HR (K : PySem.W.Frag) (T : Tb) (F ρ : List Addr) (ih : Hh) (H : Hp) : Prop where
  len : ρ.length = ih.length
  nd : ρ.Nodup
  fr : ∀ a ∈ ρ, a ∉ F
  trF : ∀ a ∈ F, H a ≠ none
  obj : ∀ (n : Nat) (o : O), ih[n]? = some o → ∃ a ho, ρ[n]? = some a ∧ H a = some ho ∧ RO K T F ρ H o ho
  ntF : ∀ a ∈ F, ∀ xs, H a ≠ some (.tup xs)
/-- the slots -/
def RE (K : PySem.W.Frag) (F ρ : List Addr) (H : Hp) (e : Ev) (σ : L2.St) : Prop :=
  e.length = σ.length ∧ ∀ (i : Nat) (w : W), e[i]? = some (some w) → ∃ v, σ[i]? = some (some v) ∧ RW K F ρ H w v

/-- a heap behind another one: more things, the others stand still -/
structure Grow (F ρ : List Addr) (H : Hp) (ρ' : List Addr) (H' : Hp) : Prop where
  more : ∃ m, ρ' = ρ ++ m
  keep : ∀ a o, H a = some o → a ∉ ρ → H' a = some o
  new : ∀ a ∈ ρ', a ∉ ρ → H a = none
  frz : ∀ a od u, H a = some (.frz od u) → H' a = some (.frz od u)
/-- nothing locked stands there -/
def NF (H : Hp) (a : Addr) : Prop := ∀ od u, H a ≠ some (.frz od u)
theorem nf_of {H : Hp} {a : Addr} {o : HO} (e : H a = some o) (h : match o with
  | .frz _ _ => False
  | _ => True) : NF H a := fun od u q => by
  rw [e] at q
  cases q
  exact h
theorem Grow.refl {F ρ H} : Grow F ρ H ρ H := ⟨⟨[], by simp⟩, fun _ _ h _ => h, fun _ h n => absurd h n, fun _ _ _ h => h⟩
theorem Grow.get {F ρ H ρ' H'} (g : Grow F ρ H ρ' H') {n : Nat} {a : Addr} (h : ρ[n]? = some a) : ρ'[n]? = some a := by
  obtain ⟨m, rfl⟩ := g.more
  rw [List.getElem?_append_left (List.getElem?_eq_some_iff.mp h).1]
  exact h
theorem Grow.mem {F ρ H ρ' H'} (g : Grow F ρ H ρ' H') {a : Addr} (h : a ∈ ρ) : a ∈ ρ' := by
  obtain ⟨m, rfl⟩ := g.more
  exact List.mem_append_left _ h
theorem HR.tr {K T F ρ ih H} (h : HR K T F ρ ih H) {a : Addr} (m : a ∈ ρ) : H a ≠ none := by
  obtain ⟨n, hn, e⟩ := List.getElem_of_mem m
  have hn' : n < ih.length := by rw [← h.len]; exact hn
  obtain ⟨b, ho, e1, e2, _⟩ := h.obj n ih[n] (List.getElem?_eq_getElem hn')
  rw [List.getElem?_eq_getElem hn, e] at e1
  cases e1
  rw [e2]
  exact fun q => nomatch q
theorem Grow.keepM {K T F ρ H ρ' H' ih} (g : Grow F ρ H ρ' H') (h : HR K T F ρ ih H) : Keep (F ++ ρ) H (F ++ ρ') H' where
  keep := fun a o e n => g.keep a o e fun q => n (List.mem_append_right _ q)
  new := fun a m n => by
    rcases List.mem_append.mp m with q | q
    · exact absurd (List.mem_append_left _ q) n
    · exact g.new a q fun z => n (List.mem_append_right _ z)
theorem RW.grow {K T F ρ H ρ' H' ih} (g : Grow F ρ H ρ' H') (h : HR K T F ρ ih H) {w : W} {v : V} (r : RW K F ρ H w v) : RW K F ρ' H' w v := by
  cases r with
  | d r => exact .d (r.keep (g.keepM h))
  | r e => exact .r (g.get e)
  | f e => exact .f e
theorem Paired.mapP' {α β : Type} {A B : α → β → Prop} (f : ∀ a b, A a b → B a b) {l : List α} {m : List β} (h : Paired A l m) : Paired B l m := Paired.mapP h f
theorem RWs.grow {K T F ρ H ρ' H' ih} (g : Grow F ρ H ρ' H') (h : HR K T F ρ ih H) {w : List W} {v : List V} (r : RWs K F ρ H w v) : RWs K F ρ' H' w v :=
  Paired.mapP r fun _ _ x => x.grow g h
theorem RE.grow {K T F ρ H ρ' H' ih e σ} (g : Grow F ρ H ρ' H') (h : HR K T F ρ ih H) (r : RE K F ρ H e σ) : RE K F ρ' H' e σ :=
  ⟨r.1, fun i w q => let ⟨v, a, b⟩ := r.2 i w q; ⟨v, a, b.grow g h⟩⟩
theorem Grow.trans {K T F ρ H ρ1 H1 ρ2 H2 ih1} (a : Grow F ρ H ρ1 H1) (h1 : HR K T F ρ1 ih1 H1) (b : Grow F ρ1 H1 ρ2 H2) : Grow F ρ H ρ2 H2 where
  more := by
    obtain ⟨m, rfl⟩ := a.more
    obtain ⟨n, rfl⟩ := b.more
    exact ⟨m ++ n, by simp⟩
  keep := fun x o e n => b.keep x o (a.keep x o e n) fun q => by
    rw [a.new x q n] at e
    cases e
  new := fun x m n => by
    by_cases q : x ∈ ρ1
    · exact a.new x q n
    · have := b.new x m q
      cases e : H x with
      | none => rfl
      | some o =>
        rw [a.keep x o e n] at this
        cases this
  frz := fun x od u e => b.frz x od u (a.frz x od u e)
end Fz
set_option Elab.async false
set_option linter.all false
set_option maxRecDepth 100000
set_option maxHeartbeats 2000000
/-! Fz: judgements. FE X T Wx e c: the expression e is walked, and does what the function c says. -/
namespace Fz
open PySem L2

/-- an own exception: its class, what it holds -/
def XR (K : PySem.W.Frag) (T : Tb) (F ρ : List Addr) (H : Hp) (c : Nat) (p : W) (cls : Value) (dx : Option Addr) : Prop :=
  cls = .ref (T.xad c) ∧ ∃ d v, dx = some d ∧ H d = some (.xd [(T.efl c, v)]) ∧ d ∉ F ++ ρ ∧ RW K F ρ H p v

section
variable (K : PySem.W.Frag) (T : Tb) (Wx : WX)
def Pst {α : Type} (σ : L2.St) (F ρ : List Addr) (H : Hp) (m : R α) (k : List Addr → Hp → Hh → α → Prop) : Prop :=
  match m with
  | .ok a ih' => ∀ ρ' H', Grow F ρ H ρ' H' → HR K T F ρ' ih' H' → k ρ' H' ih' a
  | .ex c p ih' => ∀ ρ' H' cls dx, Grow F ρ H ρ' H' → HR K T F ρ' ih' H' → XR K T F ρ' H' c p cls dx → Wx cls dx σ H'
  | .no => False
end
section
variable {K : PySem.W.Frag} {T : Tb} {Wx : WX} {σ : L2.St} {F ρ : List Addr} {H : Hp} {α β : Type}
theorem Pst.bind {m : R α} {f : α → Hh → R β} {k : List Addr → Hp → Hh → β → Prop} (h : Pst K T Wx σ F ρ H (m.bind f) k) :
    Pst K T Wx σ F ρ H m fun ρ1 H1 ih1 a => Pst K T Wx σ F ρ1 H1 (f a ih1) k := by
  cases m with
  | no => exact h
  | ex c p ih' => exact h
  | ok a ih1 =>
    intro ρ1 H1 g1 hr1
    have h' : Pst K T Wx σ F ρ H (f a ih1) k := h
    cases e : f a ih1 with
    | no => rw [e] at h'; exact h'.elim
    | ok b ih2 =>
      rw [e] at h'
      exact fun ρ2 H2 g2 hr2 => h' ρ2 H2 (g1.trans hr1 g2) hr2
    | ex c p ih2 =>
      rw [e] at h'
      exact fun ρ2 H2 cls dx g2 hr2 x => h' ρ2 H2 cls dx (g1.trans hr1 g2) hr2 x
theorem Pst.mono {m : R α} {k k' : List Addr → Hp → Hh → α → Prop} (h : Pst K T Wx σ F ρ H m k)
    (f : ∀ ρ' H' ih' a, Grow F ρ H ρ' H' → HR K T F ρ' ih' H' → k ρ' H' ih' a → k' ρ' H' ih' a) : Pst K T Wx σ F ρ H m k' := by
  cases m with
  | no => exact h
  | ex c p ih' => exact h
  | ok a ih1 => exact fun ρ' H' g hr => f _ _ _ _ g hr (h ρ' H' g hr)
theorem Pst.ok {a : α} {ih : Hh} {k : List Addr → Hp → Hh → α → Prop} (hr : HR K T F ρ ih H) (h : Pst K T Wx σ F ρ H (.ok a ih) k) : k ρ H ih a := h ρ H Grow.refl hr
end

abbrev Cd := Ev → Hh → R W
abbrev Cb := Ev → Hh → R Bool
abbrev Ca := Ev → Hh → R (List W)
section
variable (K : PySem.W.Frag) (T : Tb) (Wx : WX)
def tOf (c : Cd) : TE := fun σ H Q => ∃ F ρ e ih, HR K T F ρ ih H ∧ RE K F ρ H e σ ∧ Pst K T Wx σ F ρ H (c e ih) fun ρ' H' _ w => ∀ v, RW K F ρ' H' w v → Q v H'
def bOf (c : Cb) : TT := fun σ H Q => ∃ F ρ e ih, HR K T F ρ ih H ∧ RE K F ρ H e σ ∧ Pst K T Wx σ F ρ H (c e ih) fun _ H' _ b => Q b H'
def aOf (c : Ca) : TA := fun σ H Q => ∃ F ρ e ih, HR K T F ρ ih H ∧ RE K F ρ H e σ ∧ Pst K T Wx σ F ρ H (c e ih) fun ρ' H' _ ws => ∀ vs, RWs K F ρ' H' ws vs → Q vs H'
end
def FE (X : Cx) (T : Tb) (Wx : WX) (e : Expr) (c : Cd) : Prop := PE X e (tOf X.K T Wx c)
def FT' (X : Cx) (T : Tb) (Wx : WX) (e : Expr) (c : Cb) : Prop := PT X e (bOf X.K T Wx c)
def FW (X : Cx) (T : Tb) (Wx : WX) (e : Expr) (c : Cb) : Prop := PW X e (bOf X.K T Wx c)
def FA (X : Cx) (T : Tb) (Wx : WX) (es : List Expr) (c : Ca) : Prop := PA X es (aOf X.K T Wx c)

section
variable {X : Cx} {T : Tb} {Wx : WX} {e a b : Expr} {es : List Expr} {pos : Pos}
theorem PE.imp {t t' : TE} (h : PE X e t) (f : ∀ σ H Q, t' σ H Q → t σ H Q) : PE X e t' := ⟨fun pins s σ H Q I q => h.run pins s σ H Q I (f _ _ _ q)⟩
theorem PT.imp {t t' : TT} (h : PT X e t) (f : ∀ σ H Q, t' σ H Q → t σ H Q) : PT X e t' := ⟨fun pins s σ H Q I q => h.run pins s σ H Q I (f _ _ _ q)⟩
theorem PW.imp {t t' : TT} (h : PW X e t) (f : ∀ σ H Q, t' σ H Q → t σ H Q) : PW X e t' := ⟨fun wh pins s σ H Q I q => h.run wh pins s σ H Q I (f _ _ _ q)⟩
theorem PA.imp {t t' : TA} (h : PA X es t) (f : ∀ σ H Q, t' σ H Q → t σ H Q) : PA X es t' := ⟨fun p pins s σ H Q I q => h.run p pins s σ H Q I (f _ _ _ q)⟩

/-! ### names, constants -/
def cv (i : Nat) : Cd := fun e h => match e[i]? with
  | some (some w) => .ok w h
  | _ => .no
def cc (x : D) : Cd := fun _ h => .ok (.d x) h
theorem fe_v {i : Nat} (h : PE X e (tVar i)) : FE X T Wx e (cv i) := PE.imp h fun σ H Q q => by
  obtain ⟨F, ρ, ev, ih, hr, re, hp⟩ := q
  unfold cv at hp
  cases he : ev[i]? with
  | none => rw [he] at hp; exact hp.elim
  | some o =>
    cases o with
    | none => rw [he] at hp; exact hp.elim
    | some w =>
      rw [he] at hp
      obtain ⟨v, e1, r1⟩ := re.2 i w he
      exact ⟨v, e1, hp.ok hr v r1⟩
/-- a datum and the value that needs no heap for it -/
inductive Sm : D → V → Prop
  | non : Sm .non .non
  | bl (b : Bool) : Sm (.bl b) (.bl b)
  | int (i : Int) : Sm (.int i) (.int i)
  | str (l : List Nat) (z : l.length ≤ sizeLine) : Sm (.str l) (.str (toStr l))
theorem Sm.rp {K M H x v} (h : Sm x v) : Rp K M H x v := by
  cases h
  · exact .non
  · exact .bl _
  · exact .int _
  · exact .str _ (by assumption)
theorem Sm.rw {K F ρ H x v} (h : Sm x v) : RW K F ρ H (.d x) v := .d h.rp
theorem fe_c {x : D} {v : V} (s : Sm x v) (h : PE X e (tC v)) : FE X T Wx e (cc x) := PE.imp h fun σ H Q q => by
  obtain ⟨F, ρ, ev, ih, hr, re, hp⟩ := q
  exact hp.ok hr v s.rw

/-! ### operations by values -/
def FOp (K : PySem.W.Frag) (T : Tb) (op : W → W → Hh → R W) (r : R2) : Prop := ∀ (Wx : WX) (σ : L2.St) (F ρ : List Addr) (ih : Hh) (H : Hp) (x y : W) (v1 v2 : V) (Q : VK), HR K T F ρ ih H → RW K F ρ H x v1 → RW K F ρ H y v2 →
  Pst K T Wx σ F ρ H (op x y ih) (fun ρ' H' _ w => ∀ v, RW K F ρ' H' w v → Q v H') → r v1 v2 H Q
def FUn (K : PySem.W.Frag) (T : Tb) (op : W → Hh → R W) (r : V → Hp → VK → Prop) : Prop := ∀ (Wx : WX) (σ : L2.St) (F ρ : List Addr) (ih : Hh) (H : Hp) (x : W) (v1 : V) (Q : VK), HR K T F ρ ih H → RW K F ρ H x v1 →
  Pst K T Wx σ F ρ H (op x ih) (fun ρ' H' _ w => ∀ v, RW K F ρ' H' w v → Q v H') → r v1 H Q
def FCl (K : PySem.W.Frag) (T : Tb) (op : List W → Hh → R W) (r : List V → Hp → VK → Prop) : Prop := ∀ (Wx : WX) (σ : L2.St) (F ρ : List Addr) (ih : Hh) (H : Hp) (xs : List W) (vs : List V) (Q : VK), HR K T F ρ ih H → RWs K F ρ H xs vs →
  Pst K T Wx σ F ρ H (op xs ih) (fun ρ' H' _ w => ∀ v, RW K F ρ' H' w v → Q v H') → r vs H Q
def c2 (op : W → W → Hh → R W) (a b : Cd) : Cd := fun e h => (a e h).bind fun x h => (b e h).bind fun y h => op x y h
def c1 (op : W → Hh → R W) (a : Cd) : Cd := fun e h => (a e h).bind op
theorem op2 {op : W → W → Hh → R W} {r : R2} {ca cb : Cd} (ho : FOp X.K T op r) {σ H Q} (q : tOf X.K T Wx (c2 op ca cb) σ H Q) : tOp r (tOf X.K T Wx ca) (tOf X.K T Wx cb) σ H Q := by
  obtain ⟨F, ρ, ev, ih, hr, re, hp⟩ := q
  refine ⟨F, ρ, ev, ih, hr, re, hp.bind.mono fun ρ1 H1 ih1 w1 g1 hr1 hp1 v1 r1 => ?_⟩
  refine ⟨F, ρ1, ev, ih1, hr1, re.grow g1 hr, hp1.bind.mono fun ρ2 H2 ih2 w2 g2 hr2 hp2 v2 r2 => ?_⟩
  exact ho Wx σ F ρ2 ih2 H2 w1 w2 v1 v2 Q hr2 (r1.grow g2 hr1) r2 hp2
theorem fe_op {o : Operator} {op : W → W → Hh → R W} {r : R2} {ca cb : Cd} (ho : OpR X (binaryOp o) r) (hf : FOp X.K T op r) (ha : FE X T Wx a ca) (hb : FE X T Wx b cb) : FE X T Wx (.BinOp a o b pos) (c2 op ca cb) :=
  PE.imp (pe_op ho ha hb) fun _ _ _ q => op2 hf q
theorem fe_un {o : UnaryOp} {op : W → Hh → R W} {r : V → Hp → VK → Prop} {ca : Cd} (ho : UnR X (unaryOp o) r) (hf : FUn X.K T op r) (ha : FE X T Wx a ca) : FE X T Wx (.UnaryOp o a pos) (c1 op ca) :=
  PE.imp (pe_un ho ha) fun σ H Q q => by
    obtain ⟨F, ρ, ev, ih, hr, re, hp⟩ := q
    exact ⟨F, ρ, ev, ih, hr, re, hp.bind.mono fun ρ1 H1 ih1 w1 g1 hr1 hp1 v1 r1 => hf Wx σ F ρ1 ih1 H1 w1 v1 Q hr1 r1 hp1⟩
theorem fe_cmp {o : CmpOp} {op : W → W → Hh → R W} {r : R2} {ca cb : Cd} (ho : OpR X (compareOp o) r) (hf : FOp X.K T op r) (hm : behindInMarks o b = false) (ha : FE X T Wx a ca) (hb : FE X T Wx b cb) : FE X T Wx (.Compare a [o] [b] pos) (c2 op ca cb) :=
  PE.imp (pe_cmpR ho ha hb hm) fun _ _ _ q => op2 hf q
/-- what is True or False -/
def asB (m : R W) : R Bool := m.bind fun w h => match w with
  | .d (.bl b) => .ok b h
  | _ => .no
theorem tst {t : TE} {c : Cd} (f : ∀ σ H Q, tOf X.K T Wx c σ H Q → t σ H Q) {σ H Q} (q : bOf X.K T Wx (fun e h => asB (c e h)) σ H Q) : tTest t σ H Q := by
  obtain ⟨F, ρ, ev, ih, hr, re, hp⟩ := q
  refine f _ _ _ ⟨F, ρ, ev, ih, hr, re, hp.bind.mono fun ρ1 H1 ih1 w1 g1 hr1 hp1 v1 r1 => ?_⟩
  cases r1 with
  | r _ => exact hp1.elim
  | f _ => exact hp1.elim
  | d r1 =>
    cases r1 with
    | bl b => exact ⟨b, rfl, hp1.ok hr1⟩
    | _ => exact hp1.elim
theorem ft_cmp {o : CmpOp} {op : W → W → Hh → R W} {r : R2} {ca cb : Cd} (ho : OpR X (compareOp o) r) (hf : FOp X.K T op r) (hm : behindInMarks o b = false) (ha : FE X T Wx a ca) (hb : FE X T Wx b cb) :
    FT' X T Wx (.Compare a [o] [b] pos) (fun e h => asB (c2 op ca cb e h)) := PT.imp (pt_cmpR ho ha hb hm) fun _ _ _ q => tst (fun _ _ _ q => op2 hf q) q
/-- a chain of two comparisons -/
def cch (op op' : W → W → Hh → R W) (a b c : Cd) : Cd := fun e h => (a e h).bind fun x h => (b e h).bind fun y h => (asB (op x y h)).bind fun k h => if k then (c e h).bind fun z h => op' y z h else .ok (.d (.bl false)) h
theorem chain {op op' : W → W → Hh → R W} {r r' : R2} {ca cb cd : Cd} (hf : FOp X.K T op r) (hf' : FOp X.K T op' r') {σ H Q} (q : tOf X.K T Wx (cch op op' ca cb cd) σ H Q) :
    tChain r r' (tOf X.K T Wx ca) (tOf X.K T Wx cb) (tOf X.K T Wx cd) σ H Q := by
  obtain ⟨F, ρ, ev, ih, hr, re, hp⟩ := q
  refine ⟨F, ρ, ev, ih, hr, re, hp.bind.mono fun ρ1 H1 ih1 w1 g1 hr1 hp1 v1 r1 => ?_⟩
  have re1 := re.grow g1 hr
  refine ⟨F, ρ1, ev, ih1, hr1, re1, hp1.bind.mono fun ρ2 H2 ih2 w2 g2 hr2 hp2 v2 r2 => ?_⟩
  have re2 := re1.grow g2 hr1
  refine hf Wx σ F ρ2 ih2 H2 w1 w2 v1 v2 _ hr2 (r1.grow g2 hr1) r2 (hp2.bind.bind.mono fun ρ3 H3 ih3 w3 g3 hr3 hp3 v3 r3 => ?_)
  have re3 := re2.grow g3 hr2
  cases r3 with
  | r _ => exact hp3.elim
  | f _ => exact hp3.elim
  | d r3 =>
    cases r3 with
    | bl k =>
      have hp4 := hp3.ok hr3
      refine ⟨k, rfl, ?_⟩
      cases k with
      | false =>
        rw [if_neg Bool.false_ne_true]
        rw [if_neg Bool.false_ne_true] at hp4
        exact hp4.ok hr3 _ (.d (.bl false))
      | true =>
        rw [if_pos rfl]
        rw [if_pos rfl] at hp4
        refine ⟨F, ρ3, ev, ih3, hr3, re3, hp4.bind.mono fun ρ5 H5 ih5 w5 g5 hr5 hp5 v5 r5 => ?_⟩
        exact hf' Wx σ F ρ5 ih5 H5 w2 w5 v2 v5 Q hr5 ((r2.grow g3 hr2).grow g5 hr3) r5 hp5
    | _ => exact hp3.elim
theorem fe_chain {o o' : CmpOp} {op op' : W → W → Hh → R W} {r r' : R2} {c : Expr} {ca cb cd : Cd} (ho : OpR X (compareOp o) r) (hf : FOp X.K T op r) (ho' : OpR X (compareOp o') r') (hf' : FOp X.K T op' r')
    (hm : lastMarks [o, o'] [b, c] = false) (ha : FE X T Wx a ca) (hb : FE X T Wx b cb) (hc : FE X T Wx c cd) : FE X T Wx (.Compare a [o, o'] [b, c] pos) (cch op op' ca cb cd) :=
  PE.imp (pe_chain ho ho' ha hb hc hm) fun _ _ _ q => chain hf hf' q
theorem ft_chain {o o' : CmpOp} {op op' : W → W → Hh → R W} {r r' : R2} {c : Expr} {ca cb cd : Cd} (ho : OpR X (compareOp o) r) (hf : FOp X.K T op r) (ho' : OpR X (compareOp o') r') (hf' : FOp X.K T op' r')
    (hm : lastMarks [o, o'] [b, c] = false) (ha : FE X T Wx a ca) (hb : FE X T Wx b cb) (hc : FE X T Wx c cd) : FT' X T Wx (.Compare a [o, o'] [b, c] pos) (fun e h => asB (cch op op' ca cb cd e h)) :=
  PT.imp (pt_chain ho ho' ha hb hc hm) fun _ _ _ q => tst (fun _ _ _ q => chain hf hf' q) q

/-! ### truth -/
def tru (w : W) (h : Hh) : R Bool := match w with
  | .d .non => .ok false h
  | .d (.bl b) => .ok b h
  | .d (.int i) => .ok (i != 0) h
  | .d (.str l) => .ok (!l.isEmpty) h
  | .d (.tup l) => .ok (!l.isEmpty) h
  | .d (.lst l) => .ok (!l.isEmpty) h
  | .r n => match h[n]? with
    | some (.lst l) => .ok (!l.isEmpty) h
    | some (.dk l) => .ok (!l.isEmpty) h
    | _ => .no
  | .f _ => .no
theorem len_ne (n : Nat) : ((n : Int) != 0) = !(n == 0) := by cases n <;> rfl
theorem isE_len {α : Type} (l : List α) : l.isEmpty = (l.length == 0) := by cases l <;> rfl
theorem Paired.len {α β : Type} {A : α → β → Prop} {l : List α} {m : List β} (h : Paired A l m) : l.length = m.length := Paired.length h
theorem tru_ok' {K : PySem.W.Frag} {σ : L2.St} {F ρ : List Addr} {ih : Hh} {H : Hp} {w : W} {v : V} {Q : Bool → Hp → Prop} (hr : HR K T F ρ ih H) (r : RW K F ρ H w v)
    (hp : Pst K T Wx σ F ρ H (tru w ih) fun _ H' _ b => Q b H') : ∃ k, TruV K v H k ∧ Q k H := by
  cases r with
  | d r =>
    cases r with
    | non => exact ⟨_, rfl, hp.ok hr⟩
    | bl b => exact ⟨_, rfl, hp.ok hr⟩
    | int i => exact ⟨_, rfl, hp.ok hr⟩
    | str l z => exact ⟨_, ⟨by rw [toStr_len]; exact z, rfl⟩, by rw [toStr_len, len_ne, ← isE_len]; exact hp.ok hr⟩
    | tup h z rl => exact ⟨_, .inr (.inl ⟨_, h.sq, rfl⟩), by rw [isE_len, ← rl.length, ← isE_len]; exact hp.ok hr⟩
    | lst h z rl => exact ⟨_, .inl ⟨_, h.sq, rfl⟩, by rw [isE_len, ← rl.length, ← isE_len]; exact hp.ok hr⟩
  | f e => exact hp.elim
  | r e =>
    rename_i n a
    unfold tru at hp
    dsimp only at hp
    cases ho : ih[n]? with
    | none => rw [ho] at hp; exact hp.elim
    | some o =>
      obtain ⟨a', u, e', eH, ro⟩ := hr.obj n o ho
      rw [e] at e'; cases e'
      cases ro with
      | lst z rs =>
        rw [ho] at hp
        exact ⟨_, .inl ⟨_, .inl (.inl eH), rfl⟩, by rw [isE_len, ← Paired.len rs, ← isE_len]; exact hp.ok hr⟩
      | dk rs =>
        rw [ho] at hp
        exact ⟨_, .inr (.inr ⟨_, eH, rfl⟩), by rw [isE_len, ← Paired.len rs, ← isE_len]; exact hp.ok hr⟩
      | dt rs => rw [ho] at hp; exact hp.elim
      | fk rs => rw [ho] at hp; exact hp.elim
      | ft rs => rw [ho] at hp; exact hp.elim
      | ins rs _ => rw [ho] at hp; exact hp.elim
def cT (c : Cd) : Cb := fun e h => (c e h).bind tru
theorem ft_truth {c : Cd} (he : ∀ whole, isTrue e X.env whole = (do let v ← whole; standAt e.pos; holding [v] (truthy v))) (h : FE X T Wx e c) : FT' X T Wx e (cT c) :=
  PT.imp (pt_truth h he) fun σ H Q q => by
    obtain ⟨F, ρ, ev, ih, hr, re, hp⟩ := q
    exact ⟨F, ρ, ev, ih, hr, re, hp.bind.mono fun ρ1 H1 ih1 w1 g1 hr1 hp1 v1 r1 => tru_ok' hr1 r1 hp1⟩
def bAnd (a b : Cb) : Cb := fun e h => (a e h).bind fun k h => if k then b e h else .ok false h
def bOr (a b : Cb) : Cb := fun e h => (a e h).bind fun k h => if k then .ok true h else b e h
def bNot (a : Cb) : Cb := fun e h => (a e h).bind fun k h => .ok (!k) h
theorem fw_1 {o : BoolOp} {ca : Cb} (ha : FT' X T Wx a ca) : FW X T Wx (.BoolOp o [a] pos) ca := by
  cases o
  · exact pw_and1 ha
  · exact pw_or1 ha
theorem fw_and {rest : List Expr} {ca cb : Cb} (ha : FT' X T Wx a ca) (hb : FW X T Wx (.BoolOp .And (b :: rest) pos) cb) : FW X T Wx (.BoolOp .And (a :: b :: rest) pos) (bAnd ca cb) :=
  PW.imp (pw_and ha hb) fun σ H Q q => by
    obtain ⟨F, ρ, ev, ih, hr, re, hp⟩ := q
    refine ⟨F, ρ, ev, ih, hr, re, hp.bind.mono fun ρ1 H1 ih1 k g1 hr1 hp1 => ?_⟩
    cases k with
    | true => exact iteT ⟨F, ρ1, ev, ih1, hr1, re.grow g1 hr, hp1⟩
    | false => exact iteF ((show Pst X.K T Wx σ F ρ1 H1 (.ok false ih1) _ from hp1).ok hr1)
theorem fw_or {rest : List Expr} {ca cb : Cb} (ha : FT' X T Wx a ca) (hb : FW X T Wx (.BoolOp .Or (b :: rest) pos) cb) : FW X T Wx (.BoolOp .Or (a :: b :: rest) pos) (bOr ca cb) :=
  PW.imp (pw_or ha hb) fun σ H Q q => by
    obtain ⟨F, ρ, ev, ih, hr, re, hp⟩ := q
    refine ⟨F, ρ, ev, ih, hr, re, hp.bind.mono fun ρ1 H1 ih1 k g1 hr1 hp1 => ?_⟩
    cases k with
    | true => exact iteT ((show Pst X.K T Wx σ F ρ1 H1 (.ok true ih1) _ from hp1).ok hr1)
    | false => exact iteF ⟨F, ρ1, ev, ih1, hr1, re.grow g1 hr, hp1⟩
theorem ft_w {c : Cb} (h : FW X T Wx e c) : FT' X T Wx e c := PW.pt h
theorem ft_not {ca : Cb} (ha : FT' X T Wx a ca) : FT' X T Wx (.UnaryOp .Not a pos) (bNot ca) :=
  PT.imp (pt_not ha) fun σ H Q q => by
    obtain ⟨F, ρ, ev, ih, hr, re, hp⟩ := q
    exact ⟨F, ρ, ev, ih, hr, re, hp.bind.mono fun ρ1 H1 ih1 k g1 hr1 hp1 => (show Pst X.K T Wx σ F ρ1 H1 (.ok (!k) ih1) _ from hp1).ok hr1⟩
/-- and, or, not as values -/
def cAnd (a b : Cd) : Cd := fun e h => (a e h).bind fun x h => (tru x h).bind fun k h => if k then b e h else .ok x h
def cOr (a b : Cd) : Cd := fun e h => (a e h).bind fun x h => (tru x h).bind fun k h => if k then .ok x h else b e h
def cNot (a : Cd) : Cd := fun e h => (a e h).bind fun x h => (tru x h).bind fun k h => .ok (.d (.bl (!k))) h
theorem fe_one {o : BoolOp} {c : Cd} (h : FE X T Wx a c) : FE X T Wx (.BoolOp o [a] pos) c := pe_one h
/-- the truth of a value, without a change -/
theorem tru_at {K : PySem.W.Frag} {σ : L2.St} {F ρ : List Addr} {ih : Hh} {H : Hp} {w : W} {v : V} {β : Type} {f : Bool → Hh → R β} {k : List Addr → Hp → Hh → β → Prop} (hr : HR K T F ρ ih H) (r : RW K F ρ H w v)
    (hp : Pst K T Wx σ F ρ H ((tru w ih).bind f) k) : ∃ b, TruV K v H b ∧ Pst K T Wx σ F ρ H (f b ih) k := by
  have key : ∀ m, tru w ih = m → (∃ b, m = .ok b ih) ∨ m = .no := by
    intro m hm
    subst hm
    unfold tru
    split <;> first | exact .inl ⟨_, rfl⟩ | exact .inr rfl | skip
    split <;> first | exact .inl ⟨_, rfl⟩ | exact .inr rfl
  rcases key _ rfl with ⟨b, e⟩ | e
  · rw [e] at hp
    obtain ⟨k', h1, h2⟩ := tru_ok' (Wx := Wx) (σ := σ) (Q := fun c _ => c = b) hr r (by rw [e]; exact fun _ _ _ _ => rfl)
    subst h2
    exact ⟨_, h1, hp⟩
  · rw [e] at hp
    exact hp.elim
theorem fe_and {rest : List Expr} {ca cb : Cd} (ha : FE X T Wx a ca) (hb : FE X T Wx (.BoolOp .And (b :: rest) pos) cb) : FE X T Wx (.BoolOp .And (a :: b :: rest) pos) (cAnd ca cb) :=
  PE.imp (pe_andT ha hb) fun σ H Q q => by
    obtain ⟨F, ρ, ev, ih, hr, re, hp⟩ := q
    refine ⟨F, ρ, ev, ih, hr, re, hp.bind.mono fun ρ1 H1 ih1 w g1 hr1 hp1 v r => ?_⟩
    obtain ⟨k, tv, hp2⟩ := tru_at hr1 r hp1
    refine ⟨k, tv, ?_⟩
    cases k with
    | true => exact iteT ⟨F, ρ1, ev, ih1, hr1, re.grow g1 hr, hp2⟩
    | false => exact iteF ((show Pst X.K T Wx σ F ρ1 H1 (.ok w ih1) _ from hp2).ok hr1 v r)
theorem fe_or {rest : List Expr} {ca cb : Cd} (ha : FE X T Wx a ca) (hb : FE X T Wx (.BoolOp .Or (b :: rest) pos) cb) : FE X T Wx (.BoolOp .Or (a :: b :: rest) pos) (cOr ca cb) :=
  PE.imp (pe_orT ha hb) fun σ H Q q => by
    obtain ⟨F, ρ, ev, ih, hr, re, hp⟩ := q
    refine ⟨F, ρ, ev, ih, hr, re, hp.bind.mono fun ρ1 H1 ih1 w g1 hr1 hp1 v r => ?_⟩
    obtain ⟨k, tv, hp2⟩ := tru_at hr1 r hp1
    refine ⟨k, tv, ?_⟩
    cases k with
    | true => exact iteT ((show Pst X.K T Wx σ F ρ1 H1 (.ok w ih1) _ from hp2).ok hr1 v r)
    | false => exact iteF ⟨F, ρ1, ev, ih1, hr1, re.grow g1 hr, hp2⟩
theorem fe_not {ca : Cd} (ha : FE X T Wx a ca) : FE X T Wx (.UnaryOp .Not a pos) (cNot ca) :=
  PE.imp (pe_notT ha) fun σ H Q q => by
    obtain ⟨F, ρ, ev, ih, hr, re, hp⟩ := q
    refine ⟨F, ρ, ev, ih, hr, re, hp.bind.mono fun ρ1 H1 ih1 w g1 hr1 hp1 v r => ?_⟩
    obtain ⟨k, tv, hp2⟩ := tru_at hr1 r hp1
    have hp3 : Pst X.K T Wx σ F ρ1 H1 (R.ok (W.d (D.bl (!k))) ih1) (fun ρ' H' _ w => ∀ v, RW X.K F ρ' H' w v → Q v H') := hp2
    exact ⟨k, tv, hp3.ok hr1 _ (.d (.bl _))⟩
def cIf (t : Cb) (a b : Cd) : Cd := fun e h => (t e h).bind fun k h => if k then a e h else b e h
theorem fe_if {t : Expr} {ct : Cb} {ca cb : Cd} (ht : FT' X T Wx t ct) (ha : FE X T Wx a ca) (hb : FE X T Wx b cb) : FE X T Wx (.IfExp t a b pos) (cIf ct ca cb) :=
  PE.imp (pe_ifExp ht ha hb) fun σ H Q q => by
    obtain ⟨F, ρ, ev, ih, hr, re, hp⟩ := q
    refine ⟨F, ρ, ev, ih, hr, re, hp.bind.mono fun ρ1 H1 ih1 k g1 hr1 hp1 => ?_⟩
    cases k with
    | true => exact iteT ⟨F, ρ1, ev, ih1, hr1, re.grow g1 hr, hp1⟩
    | false => exact iteF ⟨F, ρ1, ev, ih1, hr1, re.grow g1 hr, hp1⟩

/-! ### arguments, displays, calls of built-in things -/
def aNil : Ca := fun _ h => .ok [] h
def aCons (a : Cd) (r : Ca) : Ca := fun e h => (a e h).bind fun x h => (r e h).bind fun xs h => .ok (x :: xs) h
theorem fa_nil : FA X T Wx [] aNil := PA.imp pa_nil fun σ H Q q => by
  obtain ⟨F, ρ, ev, ih, hr, re, hp⟩ := q
  exact hp.ok hr [] .nil
theorem fa_cons {c : Cd} {cr : Ca} (hs : starEach (e :: es) X.env = (false, eval e X.env) :: starEach es X.env) (h : FE X T Wx e c) (hr : FA X T Wx es cr) : FA X T Wx (e :: es) (aCons c cr) :=
  PA.imp (pa_cons h hr hs) fun σ H Q q => by
    obtain ⟨F, ρ, ev, ih, hr, re, hp⟩ := q
    refine ⟨F, ρ, ev, ih, hr, re, hp.bind.mono fun ρ1 H1 ih1 w1 g1 hr1 hp1 v1 r1 => ?_⟩
    refine ⟨F, ρ1, ev, ih1, hr1, re.grow g1 hr, hp1.bind.mono fun ρ2 H2 ih2 ws g2 hr2 hp2 vs rs => ?_⟩
    exact (show Pst X.K T Wx σ F ρ2 H2 (.ok (w1 :: ws) ih2) _ from hp2).ok hr2 _ (.cons (r1.grow g2 hr1) rs)
def cCl (op : List W → Hh → R W) (a : Ca) : Cd := fun e h => (a e h).bind op
theorem clOf {op : List W → Hh → R W} {r : List V → Hp → VK → Prop} {ca : Ca} (hf : FCl X.K T op r) {σ H Q} (q : tOf X.K T Wx (cCl op ca) σ H Q) : tCB r (aOf X.K T Wx ca) σ H Q := by
  obtain ⟨F, ρ, ev, ih, hr, re, hp⟩ := q
  exact ⟨F, ρ, ev, ih, hr, re, hp.bind.mono fun ρ1 H1 ih1 ws g1 hr1 hp1 vs rs => hf Wx σ F ρ1 ih1 H1 ws vs Q hr1 rs hp1⟩
end
end Fz
set_option Elab.async false
set_option linter.all false
set_option maxRecDepth 100000
set_option maxHeartbeats 2000000
/-! Fz: heaps that grow, things made and changed. -/
namespace Fz
open PySem L2
section
variable {K : PySem.W.Frag} {T : Tb} {F ρ ρ' : List Addr} {H H' : Hp} {ih : Hh}
theorem RO.grow (g : Grow F ρ H ρ' H') (h : HR K T F ρ ih H) {o : O} {u : HO} (r : RO K T F ρ H o u) : RO K T F ρ' H' o u := by
  cases r with
  | lst z rs => exact .lst z (RWs.grow g h rs)
  | dk rs => exact .dk (Paired.mapP rs fun _ _ x => ⟨x.1, x.2.grow g h⟩)
  | dt rs => exact .dt (Paired.mapP rs fun _ _ x => ⟨x.1, x.2.grow g h⟩)
  | fk rs => exact .fk (Paired.mapP rs fun _ _ x => ⟨x.1, x.2.grow g h⟩)
  | ft rs => exact .ft (Paired.mapP rs fun _ _ x => ⟨x.1, x.2.grow g h⟩)
  | ins rs z => exact .ins (Paired.mapP rs fun _ _ x => ⟨x.1, x.2.grow g h⟩) z
theorem RO.ntup {o : O} {u : HO} (r : RO K T F ρ H o u) (xs : List V) : u ≠ .tup xs := by
  cases r <;> exact fun q => nomatch q
theorem HR.ntR (h : HR K T F ρ ih H) {a : Addr} (m : a ∈ ρ) (xs : List V) : H a ≠ some (.tup xs) := fun q => by
  obtain ⟨n, hn, e⟩ := List.getElem_of_mem m
  have hn' : n < ih.length := by rw [← h.len]; exact hn
  obtain ⟨b, ho, e1, e2, r⟩ := h.obj n ih[n] (List.getElem?_eq_getElem hn')
  rw [List.getElem?_eq_getElem hn, e] at e1
  cases e1
  rw [e2] at q
  cases q
  exact r.ntup xs rfl
theorem HR.nt (h : HR K T F ρ ih H) {a : Addr} {xs : List V} (q : H a = some (.tup xs)) : a ∉ F ++ ρ := fun m => by
  rcases List.mem_append.mp m with z | z
  · exact h.ntF a z xs q
  · exact h.ntR z xs q
theorem HR.ne (h : HR K T F ρ ih H) {p : Addr} (hp : H p = none) : p ∉ ρ := fun m => h.tr m hp
theorem HR.neF (h : HR K T F ρ ih H) {p : Addr} (hp : H p = none) : p ∉ F := fun m => h.trF p m hp
/-- a new thing that never changes -/
theorem grow_new {p : Addr} {o : HO} (hp : H p = none) : Grow F ρ H ρ (upd H p o) :=
  ⟨⟨[], by simp⟩, fun a u e _ => by rw [upd_ne (ne_of_none e hp)]; exact e, fun a m n => absurd m n, fun a _ _ e => by rw [upd_ne (ne_of_none e hp)]; exact e⟩
theorem HR.new (h : HR K T F ρ ih H) {p : Addr} {o : HO} (hp : H p = none) : HR K T F ρ ih (upd H p o) where
  len := h.len
  nd := h.nd
  fr := h.fr
  trF := fun a m => by
    by_cases e : a = p
    · subst e; rw [upd_same]; exact fun q => nomatch q
    · rw [upd_ne e]; exact h.trF a m
  obj := fun n o e => by
    obtain ⟨a, ho, e1, e2, r⟩ := h.obj n o e
    exact ⟨a, ho, e1, by rw [upd_ne (ne_of_none e2 hp)]; exact e2, r.grow (grow_new hp) h⟩
  ntF := fun a m xs => by rw [upd_ne fun e => h.trF a m (by rw [e]; exact hp)]; exact h.ntF a m xs
/-- a new thing that may change -/
theorem grow_add {p : Addr} {o : HO} (hp : H p = none) : Grow F ρ H (ρ ++ [p]) (upd H p o) :=
  ⟨⟨[p], rfl⟩, fun a u e _ => by rw [upd_ne (ne_of_none e hp)]; exact e, fun a m n => by
    rcases List.mem_append.mp m with q | q
    · exact absurd q n
    · rw [List.mem_singleton.mp q]; exact hp, fun a _ _ e => by rw [upd_ne (ne_of_none e hp)]; exact e⟩
theorem HR.add (h : HR K T F ρ ih H) {p : Addr} {o : O} {u : HO} (hp : H p = none) (r : RO K T F (ρ ++ [p]) (upd H p u) o u) : HR K T F (ρ ++ [p]) (ih ++ [o]) (upd H p u) where
  len := by simp [h.len]
  nd := by
    refine List.nodup_append.mpr ⟨h.nd, by simp, fun a ha b hb => ?_⟩
    rw [List.mem_singleton.mp hb]
    exact fun e => h.ne hp (e ▸ ha)
  fr := fun a m => by
    rcases List.mem_append.mp m with q | q
    · exact h.fr a q
    · rw [List.mem_singleton.mp q]; exact h.neF hp
  trF := fun a m => by
    by_cases e : a = p
    · subst e; rw [upd_same]; exact fun q => nomatch q
    · rw [upd_ne e]; exact h.trF a m
  obj := fun n o' e => by
    by_cases hn : n < ih.length
    · rw [List.getElem?_append_left hn] at e
      obtain ⟨a, ho, e1, e2, r'⟩ := h.obj n o' e
      exact ⟨a, ho, by rw [List.getElem?_append_left (by rw [h.len]; exact hn)]; exact e1, by rw [upd_ne (ne_of_none e2 hp)]; exact e2, r'.grow (grow_add hp) h⟩
    · have hn' : n = ih.length := by
        have := (List.getElem?_eq_some_iff.mp e).1
        rw [List.length_append] at this
        simp at this
        omega
      subst hn'
      simp at e
      subst e
      exact ⟨p, u, by rw [← h.len]; simp, upd_same, r⟩
  ntF := fun a m xs => by rw [upd_ne fun e => h.trF a m (by rw [e]; exact hp)]; exact h.ntF a m xs
/-- a thing changed -/
theorem grow_set {a : Addr} {u : HO} (m : a ∈ ρ) (nf : NF H a) : Grow F ρ H ρ (upd H a u) :=
  ⟨⟨[], by simp⟩, fun b o e n => by
    have nb : b ≠ a := fun q => n (by rw [q]; exact m)
    rw [upd_ne nb]; exact e, fun b m n => absurd m n, fun b od x e => by
    have nb : b ≠ a := fun q => nf od x (by rw [← q]; exact e)
    rw [upd_ne nb]; exact e⟩
theorem keep_set {a : Addr} {u : HO} (m : a ∈ ρ) : Keep (F ++ ρ) H (F ++ ρ) (upd H a u) :=
  ⟨fun b o e n => by
    have nb : b ≠ a := fun q => n (by rw [q]; exact List.mem_append_right _ m)
    rw [upd_ne nb]; exact e, fun b m n => absurd m n⟩
theorem nodup_get {ρ : List Addr} (nd : ρ.Nodup) {n m : Nat} {a : Addr} (h1 : ρ[n]? = some a) (h2 : ρ[m]? = some a) : n = m := by
  exact (List.getElem?_inj (List.getElem?_eq_some_iff.mp h1).1 nd).mp (h1.trans h2.symm)
section
variable {D : Addr}
theorem RW.kp {F F' ρ' : List Addr} {H' : Hp} (k : Keep (F ++ ρ) H (F' ++ ρ') H') (g : ∀ (n : Nat) (a : Addr), ρ[n]? = some a → ρ'[n]? = some a) {w : W} {v : V} (r : RW K F ρ H w v) : RW K F' ρ' H' w v := by
  cases r with
  | d r => exact .d (r.keep k)
  | r e => exact .r (g _ _ e)
  | f e => exact .f e
theorem RO.kp {F F' ρ' : List Addr} {H' : Hp} (k : Keep (F ++ ρ) H (F' ++ ρ') H') (g : ∀ (n : Nat) (a : Addr), ρ[n]? = some a → ρ'[n]? = some a) {o : O} {u : HO} (r : RO K T F ρ H o u) : RO K T F' ρ' H' o u := by
  cases r with
  | lst z rs => exact .lst z (Paired.mapP rs fun _ _ x => x.kp k g)
  | dk rs => exact .dk (Paired.mapP rs fun _ _ x => ⟨x.1, x.2.kp k g⟩)
  | dt rs => exact .dt (Paired.mapP rs fun _ _ x => ⟨x.1, x.2.kp k g⟩)
  | fk rs => exact .fk (Paired.mapP rs fun _ _ x => ⟨x.1, x.2.kp k g⟩)
  | ft rs => exact .ft (Paired.mapP rs fun _ _ x => ⟨x.1, x.2.kp k g⟩)
  | ins rs z => exact .ins (Paired.mapP rs fun _ _ x => ⟨x.1, x.2.kp k g⟩) z
end
theorem HR.set (h : HR K T F ρ ih H) {n : Nat} {a : Addr} {o : O} {u : HO} (e : ρ[n]? = some a) (r : RO K T F ρ (upd H a u) o u) : HR K T F ρ (ih.set n o) (upd H a u) where
  len := by simp [h.len]
  nd := h.nd
  fr := h.fr
  trF := fun b m => by
    by_cases q : b = a
    · subst q; rw [upd_same]; exact fun q => nomatch q
    · rw [upd_ne q]; exact h.trF b m
  obj := fun m o' e' => by
    by_cases q : m = n
    · subst q
      have hm : m < ih.length := by
        rw [← h.len]; exact (List.getElem?_eq_some_iff.mp e).1
      rw [List.getElem?_set_self hm] at e'
      cases e'
      exact ⟨a, u, e, upd_same, r⟩
    · rw [List.getElem?_set_ne (Ne.symm q)] at e'
      obtain ⟨b, ho, e1, e2, r'⟩ := h.obj m o' e'
      have nb : b ≠ a := fun z => by
        subst z
        exact q (nodup_get h.nd e1 e)
      exact ⟨b, ho, e1, by rw [upd_ne nb]; exact e2, r'.kp (keep_set (List.mem_of_getElem? e)) fun _ _ q => q⟩
  ntF := fun b m xs => by rw [upd_ne fun q => h.fr a (List.mem_of_getElem? e) (by rw [← q]; exact m)]; exact h.ntF b m xs
theorem HR.at (h : HR K T F ρ ih H) {n : Nat} {a : Addr} {o : O} (e : ρ[n]? = some a) (ho : ih[n]? = some o) : ∃ u, H a = some u ∧ RO K T F ρ H o u := by
  obtain ⟨b, u, e1, e2, r⟩ := h.obj n o ho
  rw [e] at e1
  cases e1
  exact ⟨u, e2, r⟩
theorem not_new {p : Addr} (h : HR K T F ρ ih H) (hp : H p = none) : p ∉ F ++ ρ := fun m => by
  rcases List.mem_append.mp m with q | q
  · exact h.neF hp q
  · exact h.ne hp q

/-! ### lists of values -/
theorem RpL.rws : ∀ {ds : List D} {vs : List V}, RpL K (F ++ ρ) H ds vs → RWs K F ρ H (ds.map .d) vs
  | _, _, .nil => .nil
  | _, _, .cons a b => .cons (.d a) (RpL.rws b)
def allD : List W → Option (List D)
  | [] => some []
  | .d x :: r => (allD r).map (x :: ·)
  | .r _ :: _ => none
  | .f _ :: _ => none
theorem allD_map (ds : List D) : allD (ds.map .d) = some ds := by
  induction ds with
  | nil => rfl
  | cons x r ih => simp [allD, ih]
theorem allD_eq : ∀ {ws : List W} {ds : List D}, allD ws = some ds → ws = ds.map .d
  | [], ds, h => by simp [allD] at h; subst h; rfl
  | .d x :: r, ds, h => by
    simp only [allD, Option.map_eq_some_iff] at h
    obtain ⟨l, e, rfl⟩ := h
    rw [allD_eq e, List.map_cons]
  | .r _ :: r, ds, h => by simp [allD] at h
  | .f _ :: r, ds, h => by simp [allD] at h
theorem RWs.rp : ∀ {ds : List D} {vs : List V}, RWs K F ρ H (ds.map .d) vs → RpL K (F ++ ρ) H ds vs
  | [], _, h => by cases h; exact .nil
  | d :: ds, _, h => by
    rw [List.map_cons] at h
    cases h with
    | cons a b =>
      cases a with
      | d a => exact .cons a (RWs.rp b)
theorem allD_rp {ws : List W} {ds : List D} {vs : List V} (e : allD ws = some ds) (r : RWs K F ρ H ws vs) : RpL K (F ++ ρ) H ds vs := by
  rw [allD_eq e] at r
  exact r.rp
/-- the items of a list, be it one that changes or not -/
def lstW (w : W) (h : Hh) : Option (List W) := match w with
  | .d (.lst l) => some (l.map .d)
  | .r n => match h[n]? with
    | some (.lst l) => some l
    | _ => none
  | _ => none
def seqW (w : W) (h : Hh) : Option (List W) := match w with
  | .d (.tup l) => some (l.map .d)
  | w => lstW w h
theorem lstW_at (hr : HR K T F ρ ih H) {w : W} {v : V} (r : RW K F ρ H w v) {l : List W} (e : lstW w ih = some l) :
    ∃ a vs, v = .ref a ∧ Rd H a (.lst vs) ∧ RWs K F ρ H l vs ∧ l.length ≤ sizeLine := by
  cases r with
  | d r =>
    cases r with
    | lst h z rl =>
      simp only [lstW, Option.some.injEq] at e
      subst e
      exact ⟨_, _, rfl, h.1, rl.rws, by simpa using z⟩
    | _ => simp [lstW] at e
  | f hn => simp [lstW] at e
  | r hn =>
    simp only [lstW] at e
    rename_i n a
    cases ho : ih[n]? with
    | none => rw [ho] at e; cases e
    | some o =>
      rw [ho] at e
      cases o with
      | lst l' =>
        cases e
        obtain ⟨u, eH, ro⟩ := hr.at hn ho
        cases ro with
        | lst z rs => exact ⟨_, _, rfl, .inl eH, rs, z⟩
      | _ => cases e
theorem seqW_at (hr : HR K T F ρ ih H) {w : W} {v : V} (r : RW K F ρ H w v) {l : List W} (e : seqW w ih = some l) :
    ∃ a vs, v = .ref a ∧ (Rd H a (.lst vs) ∨ Rd H a (.tup vs)) ∧ RWs K F ρ H l vs ∧ l.length ≤ sizeLine := by
  unfold seqW at e
  split at e
  · cases r with
    | d r =>
      cases r with
      | tup h z rl =>
        simp only [Option.some.injEq] at e
        subst e
        exact ⟨_, _, rfl, .inr (.inl h.1), rl.rws, by simpa using z⟩
  · obtain ⟨a, vs, e1, e2, e3, e4⟩ := lstW_at hr r e
    exact ⟨a, vs, e1, .inl e2, e3, e4⟩
/-- a new list that never changes, of data -/
theorem new_lst (hr : HR K T F ρ ih H) {Wx : WX} {σ : L2.St} {ds : List D} {vs : List V} {p : Addr} {k : List Addr → Hp → Hh → W → Prop} (hp : H p = none) (r : RpL K (F ++ ρ) H ds vs) (z : ds.length ≤ sizeLine)
    (h : Pst K T Wx σ F ρ H (.ok (.d (.lst ds)) ih) k) : k ρ (upd H p (.lst vs)) ih (.d (.lst ds)) ∧ RW K F ρ (upd H p (.lst vs)) (.d (.lst ds)) (.ref p) := by
  refine ⟨h _ _ (grow_new hp) (hr.new hp), .d (.lst ⟨.inl upd_same, not_new hr hp⟩ z (r.keep (Grow.keepM (grow_new hp) hr)))⟩
theorem new_tup (hr : HR K T F ρ ih H) {Wx : WX} {σ : L2.St} {ds : List D} {vs : List V} {p : Addr} {k : List Addr → Hp → Hh → W → Prop} (hp : H p = none) (r : RpL K (F ++ ρ) H ds vs) (z : ds.length ≤ sizeLine)
    (h : Pst K T Wx σ F ρ H (.ok (.d (.tup ds)) ih) k) : k ρ (upd H p (.tup vs)) ih (.d (.tup ds)) ∧ RW K F ρ (upd H p (.tup vs)) (.d (.tup ds)) (.ref p) := by
  refine ⟨h _ _ (grow_new hp) (hr.new hp), .d (.tup ⟨upd_same, not_new hr hp⟩ z (r.keep (Grow.keepM (grow_new hp) hr)))⟩
end

/-! ### displays -/
def mkT (ws : List W) (h : Hh) : R W := match allD ws with
  | some ds => if ds.length ≤ 16777216 then .ok (.d (.tup ds)) h else .no
  | none => .no
def mkL (ws : List W) (h : Hh) : R W := match allD ws with
  | some ds => if ds.length ≤ 16777216 then .ok (.d (.lst ds)) h else .no
  | none => .no
/-- a list that will change -/
def mkM (ws : List W) (h : Hh) : R W := if ws.length ≤ 16777216 then .ok (.r h.length) (h ++ [.lst ws]) else .no
section
variable {X : Cx} {T : Tb} {Wx : WX} {es : List Expr} {pos : Pos} {ca : Ca}
theorem fe_tup {x1} (h : FA X T Wx es ca) : FE X T Wx (.Tuple es x1 pos) (cCl mkT ca) := PE.imp (pe_tup h) fun σ H Q q => by
  obtain ⟨F, ρ, ev, ih, hr, re, hp⟩ := q
  refine ⟨F, ρ, ev, ih, hr, re, hp.bind.mono fun ρ1 H1 ih1 ws g1 hr1 hp1 vs rs => ?_⟩
  unfold mkT at hp1
  cases e : allD ws with
  | none => rw [e] at hp1; exact hp1.elim
  | some ds =>
    rw [e] at hp1
    dsimp only at hp1
    split at hp1
    · rename_i z
      have rp := allD_rp e rs
      refine ⟨by rw [← rp.length]; exact z, fun p np => ?_⟩
      obtain ⟨a, b⟩ := new_tup hr1 np rp z hp1
      exact a _ b
    · exact hp1.elim
theorem fe_lst (h : FA X T Wx es ca) : FE X T Wx (.List es pos) (cCl mkL ca) := PE.imp (pe_lst h) fun σ H Q q => by
  obtain ⟨F, ρ, ev, ih, hr, re, hp⟩ := q
  refine ⟨F, ρ, ev, ih, hr, re, hp.bind.mono fun ρ1 H1 ih1 ws g1 hr1 hp1 vs rs => ?_⟩
  unfold mkL at hp1
  cases e : allD ws with
  | none => rw [e] at hp1; exact hp1.elim
  | some ds =>
    rw [e] at hp1
    dsimp only at hp1
    split at hp1
    · rename_i z
      have rp := allD_rp e rs
      refine ⟨by rw [← rp.length]; exact z, fun p np => ?_⟩
      obtain ⟨a, b⟩ := new_lst hr1 np rp z hp1
      exact a _ b
    · exact hp1.elim
theorem get_last {ρ : List Addr} {ih : Hh} (h : ρ.length = ih.length) {p : Addr} : (ρ ++ [p])[ih.length]? = some p := by rw [← h]; simp
theorem fe_lstM (h : FA X T Wx es ca) : FE X T Wx (.List es pos) (cCl mkM ca) := PE.imp (pe_lst h) fun σ H Q q => by
  obtain ⟨F, ρ, ev, ih, hr, re, hp⟩ := q
  refine ⟨F, ρ, ev, ih, hr, re, hp.bind.mono fun ρ1 H1 ih1 ws g1 hr1 hp1 vs rs => ?_⟩
  unfold mkM at hp1
  split at hp1
  · rename_i z
    refine ⟨by rw [← Paired.length rs]; exact z, fun p np => ?_⟩
    exact hp1 _ _ (grow_add np) (hr1.add np (.lst z (RWs.grow (grow_add np) hr1 rs))) _ (.r (get_last hr1.len))
  · exact hp1.elim
theorem fe_dK : FE X T Wx (.Dict [] [] pos) (fun _ h => .ok (.r h.length) (h ++ [.dk []])) := PE.imp pe_dnewK fun σ H Q q => by
  obtain ⟨F, ρ, ev, ih, hr, re, hp⟩ := q
  exact fun p np => hp _ _ (grow_add np) (hr.add np (.dk .nil)) _ (.r (get_last hr.len))
theorem fe_dT : FE X T Wx (.Dict [] [] pos) (fun _ h => .ok (.r h.length) (h ++ [.dt []])) := PE.imp pe_dnewT fun σ H Q q => by
  obtain ⟨F, ρ, ev, ih, hr, re, hp⟩ := q
  exact fun p np => hp _ _ (grow_add np) (hr.add np (.dt .nil)) _ (.r (get_last hr.len))
end
end Fz
set_option Elab.async false
set_option linter.all false
set_option maxRecDepth 100000
set_option maxHeartbeats 2000000
/-! Fz: operators by values. -/
namespace Fz
open PySem L2 PyProof.Rows

/-! ### lists that are made -/
def fin (m : Bool) (ws : List W) (h : Hh) : R W := if m then mkM ws h else mkL ws h
section
variable {K : PySem.W.Frag} {T : Tb} {Wx : WX} {σ : L2.St} {F ρ : List Addr} {H : Hp} {ih : Hh} {Q : VK}
theorem fin_len {m : Bool} {ws : List W} {k : List Addr → Hp → Hh → W → Prop} (hp : Pst K T Wx σ F ρ H (fin m ws ih) k) : ws.length ≤ sizeLine := by
  unfold fin at hp
  split at hp
  · unfold mkM at hp
    split at hp
    · assumption
    · exact hp.elim
  · unfold mkL at hp
    cases e : allD ws with
    | none => rw [e] at hp; exact hp.elim
    | some ds =>
      rw [e] at hp
      dsimp only at hp
      split at hp
      · rw [allD_eq e, List.length_map]; assumption
      · exact hp.elim
theorem fin_ok {m : Bool} {ws : List W} {vs : List V} {p : Addr} (hr : HR K T F ρ ih H) (rs : RWs K F ρ H ws vs) (np : H p = none)
    (hp : Pst K T Wx σ F ρ H (fin m ws ih) fun ρ' H' _ w => ∀ v, RW K F ρ' H' w v → Q v H') : Q (.ref p) (upd H p (.lst vs)) := by
  have hl := fin_len hp
  unfold fin at hp
  split at hp
  · unfold mkM at hp
    split at hp
    · exact hp _ _ (grow_add np) (hr.add np (.lst hl (RWs.grow (grow_add np) hr rs))) _ (.r (get_last hr.len))
    · exact hp.elim
  · unfold mkL at hp
    cases e : allD ws with
    | none => rw [e] at hp; exact hp.elim
    | some ds =>
      rw [e] at hp
      dsimp only at hp
      split at hp
      · rename_i z
        obtain ⟨a, b⟩ := new_lst hr np (allD_rp e rs) z hp
        exact a _ b
      · exact hp.elim
end

/-! ### int, text, tuple, list: + - * // % -/
section
variable {X : Cx} {pins : List (Addr × Obj)} {σ : L2.St} {H : Hp} {s : Shared}
theorem Inv.lstR {l : Addr} {xs : List V} (I : L2.Inv X pins σ H s) (h : Rd H l (.lst xs)) : xs.length ≤ sizeLine ∧ ∃ (its : List Value) (n : Nat), Vals xs its ∧ xs.length = its.length ∧ s.heap.get? l = some { cls := .type "list", data := .seq its.toArray n } := by
  obtain ⟨z, its, n, r, e⟩ := h.ok I.hok
  exact ⟨z, its, n, r, r.length, e⟩
def rCatR : R2 := fun x y H Q => ∃ l b xs zs, x = .ref l ∧ y = .ref b ∧ Rd H l (.lst xs) ∧ Rd H b (.lst zs) ∧ xs.length + zs.length ≤ sizeLine ∧ ∀ p, H p = none → Q (.ref p) (upd H p (.lst (xs ++ zs)))
theorem op_catR : OpR X (binaryOp .Add) rCatR := by
  intro pins s σ H x y v u Q I rx ry h
  obtain ⟨l, b, xs, zs, rfl, rfl, h1, h2, hz, q⟩ := h
  cases rx
  cases ry
  obtain ⟨_, its, n, r, hl, e⟩ := Inv.lstR I h1
  obtain ⟨_, jts, m, r2, hl2, e2⟩ := Inv.lstR I h2
  refine PySem.P.add_list e e2 ?_ (by simp; omega)
  have ea : its.toArray ++ jts.toArray = (its ++ jts).toArray := by simp
  rw [ea]
  exact ⟨.ref _, _, I.lnew (t' := s.toks) (r.append r2) (by simp; omega), rfl, q _ I.fresh⟩
end
def rAddF (K : PySem.W.Frag) : R2 := fun x y H Q => rI0 (fun i j => .int (i + j)) x y H Q ∨ (∃ i j, x = .str i ∧ y = .str j ∧ i.length + j.length ≤ sizeLine ∧ Q (.str (i ++ j)) H) ∨ rCatA K x y H Q ∨ rCatR x y H Q
theorem opr_add {X : Cx} : OpR X (binaryOp .Add) (rAddF X.K) := op_add.or (op_add_str.or (op_catA.or op_catR))
def opAdd (m : Bool) (x y : W) (h : Hh) : R W := match x, y with
  | .d (.int i), .d (.int j) => .ok (.d (.int (i + j))) h
  | .d (.str a), .d (.str b) => if a.length + b.length ≤ 16777216 then .ok (.d (.str (a ++ b))) h else .no
  | .d (.tup a), .d (.tup b) => if a.length + b.length ≤ 16777216 then .ok (.d (.tup (a ++ b))) h else .no
  | _, _ => match lstW x h, lstW y h with
    | some a, some b => fin m (a ++ b) h
    | _, _ => .no
theorem RpL.app {K M H} : ∀ {a b : List D} {vs ws : List V}, RpL K M H a vs → RpL K M H b ws → RpL K M H (a ++ b) (vs ++ ws)
  | _, _, _, _, .nil, r => r
  | _, _, _, _, .cons x y, r => .cons x (RpL.app y r)
theorem RWs.app {K F ρ H} : ∀ {a b : List W} {vs ws : List V}, RWs K F ρ H a vs → RWs K F ρ H b ws → RWs K F ρ H (a ++ b) (vs ++ ws)
  | _, _, _, _, .nil, r => r
  | _, _, _, _, .cons x y, r => .cons x (RWs.app y r)
theorem RWs.length {K F ρ H} {a : List W} {vs : List V} (h : RWs K F ρ H a vs) : a.length = vs.length := Paired.length h
theorem RpL.nil_iff {K M H a vs} (h : RpL K M H a vs) : vs = [] ↔ a = [] := by
  have := h.length
  constructor
  · intro e; subst e; exact List.eq_nil_of_length_eq_zero this
  · intro e; subst e; exact List.eq_nil_of_length_eq_zero this.symm
theorem str_app (a b : List Nat) : toStr a ++ toStr b = toStr (a ++ b) := by
  show Str.append _ _ = _
  simp [Str.append, toStr]
section
variable {K : PySem.W.Frag} {T : Tb}
/-- cases on what two values are: where no case of the operator fits -/
theorem fop_add {m : Bool} : FOp K T (opAdd m) (rAddF K) := by
  intro Wx σ F ρ ih H x y v1 v2 Q hr r1 r2 hp
  unfold opAdd at hp
  split at hp
  · cases r1 with | d r1 => cases r2 with | d r2 => cases r1; cases r2; exact .inl ⟨_, _, rfl, rfl, hp.ok hr _ (.d (.int _))⟩
  · cases r1 with | d r1 => cases r2 with | d r2 =>
      cases r1 with | str a za => cases r2 with | str b zb =>
        split at hp
        · rename_i z
          refine .inr (.inl ⟨_, _, rfl, rfl, by rw [toStr_len, toStr_len]; exact z, ?_⟩)
          rw [str_app]
          exact hp.ok hr _ (.d (.str _ (by rw [List.length_append]; exact z)))
        · exact hp.elim
  · cases r1 with | d r1 => cases r2 with | d r2 =>
      cases r1 with | tup t1 z1 l1 => cases r2 with | tup t2 z2 l2 =>
        split at hp
        · rename_i a b z
          refine .inr (.inr (.inl ⟨_, _, _, _, rfl, rfl, t1.sq, t2.sq, by rw [← l1.length, ← l2.length]; exact z, fun e => ?_, fun e e2 => ?_, fun e e2 p np => ?_⟩))
          · have := l1.nil_iff.mp e
            subst this
            exact hp.ok hr _ (.d (.tup t2 z2 l2))
          · have := l2.nil_iff.mp e2
            subst this
            rw [List.append_nil] at hp
            exact hp.ok hr _ (.d (.tup t1 z1 l1))
          · obtain ⟨q1, q2⟩ := new_tup hr np (l1.app l2) (by rw [List.length_append]; exact z) hp
            exact q1 _ q2
        · exact hp.elim
  · split at hp
    · rename_i e1 e2
      obtain ⟨a, vs, rfl, s1, rs1, _⟩ := lstW_at hr r1 e1
      obtain ⟨b, ws, rfl, s2, rs2, _⟩ := lstW_at hr r2 e2
      have hl := fin_len hp
      rw [List.length_append, rs1.length, rs2.length] at hl
      exact .inr (.inr (.inr ⟨_, _, _, _, rfl, rfl, s1, s2, hl, fun p np => fin_ok hr (rs1.app rs2) np hp⟩))
    · exact hp.elim
def opI (g : Int → Int → Int) (c : Int → Int → Bool) (x y : W) (h : Hh) : R W := match x, y with
  | .d (.int i), .d (.int j) => if c i j then .ok (.d (.int (g i j))) h else .no
  | _, _ => .no
theorem fop_I {g : Int → Int → Int} {c : Int → Int → Bool} {C : Int → Int → Prop} (hc : ∀ i j, c i j = true → C i j) : FOp K T (opI g c) (rI C fun i j => .int (g i j)) := by
  intro Wx σ F ρ ih H x y v1 v2 Q hr r1 r2 hp
  unfold opI at hp
  split at hp
  · cases r1 with | d r1 => cases r2 with | d r2 => cases r1; cases r2; split at hp <;> first | exact ⟨_, _, rfl, rfl, hc _ _ (by assumption), hp.ok hr _ (.d (.int _))⟩ | exact hp.elim
  · exact hp.elim
theorem fop_I0 {g : Int → Int → Int} : FOp K T (opI g fun _ _ => true) (rI0 fun i j => .int (g i j)) := by
  intro Wx σ F ρ ih H x y v1 v2 Q hr r1 r2 hp
  obtain ⟨i, j, a, b, _, q⟩ := fop_I (C := fun _ _ => True) (fun _ _ _ => trivial) Wx σ F ρ ih H x y v1 v2 Q hr r1 r2 hp
  exact ⟨i, j, a, b, q⟩
def opSub : W → W → Hh → R W := opI (· - ·) fun _ _ => true
theorem fop_sub : FOp K T opSub (rI0 fun i j => .int (i - j)) := fop_I0
def opFdiv : W → W → Hh → R W := opI (fun i j => i / j) fun i j => decide (0 < j ∧ j < 1073741824)
theorem fop_fdiv : FOp K T opFdiv (rI CDiv fun i j => .int (i / j)) := fop_I fun i j h => show CDiv i j from of_decide_eq_true (p := 0 < j ∧ j < 1073741824) h
def opMod : W → W → Hh → R W := opI (fun i j => i % j) fun i j => decide (0 < j)
theorem fop_mod : FOp K T opMod (rI (fun _ j => 0 < j) fun i j => .int (i % j)) := fop_I fun _ _ h => of_decide_eq_true h
def opPow : W → W → Hh → R W := opI (fun i j => i ^ j.toNat) fun i j => decide (0 ≤ j ∧ j ≤ 1000000 ∧ i.natAbs < 2 ^ 64)
theorem fop_pow : FOp K T opPow (rI CPow fun i j => .int (i ^ j.toNat)) := fop_I fun i j h => show CPow i j from of_decide_eq_true (p := 0 ≤ j ∧ j ≤ 1000000 ∧ i.natAbs < 2 ^ 64) h
def opShl : W → W → Hh → R W := opI (fun i j => i * 2 ^ j.toNat) fun i j => decide (0 ≤ j ∧ j ≤ 1000000 ∧ i.natAbs < 2 ^ 64)
theorem fop_shl : FOp K T opShl (rI CPow fun i j => .int (i * 2 ^ j.toNat)) := fop_I fun i j h => show CPow i j from of_decide_eq_true (p := 0 ≤ j ∧ j ≤ 1000000 ∧ i.natAbs < 2 ^ 64) h
def opShr : W → W → Hh → R W := opI (fun i j => i / 2 ^ j.toNat) fun _ j => decide (0 ≤ j)
theorem fop_shr : FOp K T opShr (rI (fun _ j => 0 ≤ j) fun i j => .int (i / 2 ^ j.toNat)) := fop_I fun _ _ h => of_decide_eq_true h
def opAnd : W → W → Hh → R W := opI (fun i j => Builtin.bitAnd i j) fun _ _ => true
theorem fop_and : FOp K T opAnd (rI0 fun i j => .int (Builtin.bitAnd i j)) := fop_I0
end
/-- a list or a tuple times an int -/
def rRepR : R2 := fun x y H Q => ∃ l k xs, x = .ref l ∧ y = .int k ∧ H l = some (.lst xs) ∧ -(2 ^ 63) ≤ k ∧ k < 2 ^ 63 ∧ xs.length * k.toNat ≤ sizeLine ∧
  ∀ p, H p = none → Q (.ref p) (upd H p (.lst (List.replicate k.toNat xs).flatten))
def rMulF (K : PySem.W.Frag) : R2 := fun x y H Q => rI CMul (fun i j => .int (i * j)) x y H Q ∨ rRep x y H Q ∨ rRepT K x y H Q
theorem opr_mul {X : Cx} : OpR X (binaryOp .Mult) (rMulF X.K) := op_mul.or (op_rep.or op_repT)
def opMul (m : Bool) (x y : W) (h : Hh) : R W := match x, y with
  | .d (.int i), .d (.int j) => if (-(2 ^ 64) < i ∧ i < 2 ^ 64) ∨ (-(2 ^ 64) < j ∧ j < 2 ^ 64) then .ok (.d (.int (i * j))) h else .no
  | .d (.tup a), .d (.int k) => if a ≠ [] ∧ 2 ≤ k ∧ k ≤ 1000 ∧ a.length ≤ 1000 then .ok (.d (.tup (List.replicate k.toNat a).flatten)) h else .no
  | .r n, .d (.int k) => match h[n]? with
    | some (.lst a) => if -(2 ^ 63) ≤ k ∧ k < 2 ^ 63 ∧ a.length * k.toNat ≤ 16777216 then fin m (List.replicate k.toNat a).flatten h else .no
    | _ => .no
  | _, _ => .no
theorem RpL.rep {K M H} {a : List D} {vs : List V} (h : RpL K M H a vs) : ∀ k : Nat, RpL K M H (List.replicate k a).flatten (List.replicate k vs).flatten
  | 0 => .nil
  | k + 1 => by simp only [List.replicate_succ, List.flatten_cons]; exact h.app (RpL.rep h k)
theorem RWs.rep {K F ρ H} {a : List W} {vs : List V} (h : RWs K F ρ H a vs) : ∀ k : Nat, RWs K F ρ H (List.replicate k a).flatten (List.replicate k vs).flatten
  | 0 => .nil
  | k + 1 => by simp only [List.replicate_succ, List.flatten_cons]; exact h.app (RWs.rep h k)
theorem fop_mul {K : PySem.W.Frag} {T : Tb} {m : Bool} : FOp K T (opMul m) (rMulF K) := by
  intro Wx σ F ρ ih H x y v1 v2 Q hr r1 r2 hp
  unfold opMul at hp
  split at hp
  · cases r1 with | d r1 => cases r2 with | d r2 => cases r1; cases r2; split at hp <;> first | exact .inl ⟨_, _, rfl, rfl, by assumption, hp.ok hr _ (.d (.int _))⟩ | exact hp.elim
  · rename_i a k
    split at hp
    · rename_i z
      cases r1 with | d r1 => cases r2 with | d r2 =>
        cases r2
        cases r1 with | tup t1 z1 l1 =>
          have hl := l1.length
          refine .inr (.inr ⟨_, _, _, rfl, rfl, t1.sq, fun e => z.1 (l1.nil_iff.mp e), z.2.1, z.2.2.1, by rw [← hl]; exact z.2.2.2, fun p np => ?_⟩)
          obtain ⟨q1, q2⟩ := new_tup hr np (l1.rep k.toNat) (by
            rw [PyProof.Rows.lm_len_rep_flat]
            have h1 : k.toNat ≤ 1000 := by omega
            exact Nat.le_trans (Nat.mul_le_mul h1 z.2.2.2) (by decide)) hp
          exact q1 _ q2
    · exact hp.elim
  · rename_i n k
    split at hp
    · rename_i a ho
      split at hp
      · rename_i c
        cases r1 with | r e => cases r2 with | d r2 =>
          cases r2
          obtain ⟨u, eH, ro⟩ := hr.at e ho
          cases ro with
          | lst z rs => exact .inr (.inl ⟨_, _, _, rfl, rfl, eH, c.1, c.2.1, by rw [← rs.length]; exact c.2.2, fun p np => fin_ok hr (rs.rep k.toNat) np hp⟩)
      · exact hp.elim
    · exact hp.elim
  · exact hp.elim

/-! ### equality of data -/
mutual
def D.py : D → PyData
  | .non => .none | .bl b => .bool b | .int i => .int i | .str l => .str (toStr l) | .tup l => .tuple (pyL l) | .lst l => .list (pyL l)
def pyL : List D → List PyData
  | [] => []
  | d :: r => d.py :: pyL r
end
theorem pyL_map (l : List D) : pyL l = l.map D.py := by induction l with | nil => rfl | cons a r ih => simp [pyL, ih]
mutual
theorem Rp.dp {K M H} : ∀ {d : D} {v : V}, Rp K M H d v → Dp K H v d.py
  | _, _, .non => by simp only [D.py]; exact .non
  | _, _, .bl b => by simp only [D.py]; exact .bl b
  | _, _, .int i => by simp only [D.py]; exact .int i
  | _, _, .str l z => by simp only [D.py]; exact .str _
  | _, _, .tup h z r => by simp only [D.py]; exact .tup h.sq (RpL.dp r)
  | _, _, .lst h z r => by simp only [D.py]; exact .lst h.sq (RpL.dp r)
theorem RpL.dp {K M H} : ∀ {d : List D} {v : List V}, RpL K M H d v → DpAll K H v (pyL d)
  | _, _, .nil => .nil
  | _, _, .cons a b => by simp only [pyL]; exact .cons (Rp.dp a) (RpL.dp b)
end
mutual
/-- Python's == -/
def D.eqv : D → D → Bool
  | .non, .non => true
  | .bl a, .bl b => a == b
  | .bl a, .int j => (if a then 1 else 0) == j
  | .int i, .bl b => i == (if b then 1 else 0)
  | .int i, .int j => i == j
  | .str x, .str y => x == y
  | .tup x, .tup y => eqvL x y
  | .lst x, .lst y => eqvL x y
  | _, _ => false
def eqvL : List D → List D → Bool
  | [], [] => true
  | x :: xs, y :: ys => D.eqv x y && eqvL xs ys
  | _, _ => false
end
theorem str_beq (x y : List Nat) : (toStr x == toStr y) = (x == y) := by
  by_cases h : x = y
  · subst h; simp
  · rw [beq_eq_false_iff_ne.mpr h, beq_eq_false_iff_ne]
    exact fun e => h (toStr_inj e)
mutual
theorem eqv_py : ∀ a b : D, PyData.eqv a.py b.py = D.eqv a b
  | .non, b => by cases b <;> simp [D.py, PyData.eqv, D.eqv]
  | .bl x, b => by cases b <;> simp [D.py, PyData.eqv, D.eqv]
  | .int x, b => by cases b <;> simp [D.py, PyData.eqv, D.eqv]
  | .str x, b => by cases b <;> simp [D.py, PyData.eqv, D.eqv, str_beq]
  | .tup x, b => by
    cases b with
    | tup y => simp only [D.py, PyData.eqv, D.eqv]; exact eqvL_py x y
    | _ => simp [D.py, PyData.eqv, D.eqv]
  | .lst x, b => by
    cases b with
    | lst y => simp only [D.py, PyData.eqv, D.eqv]; exact eqvL_py x y
    | _ => simp [D.py, PyData.eqv, D.eqv]
theorem eqvL_py : ∀ a b : List D, PyData.eqvAll (pyL a) (pyL b) = eqvL a b
  | [], [] => by simp [pyL, PyData.eqvAll, eqvL]
  | [], y :: ys => by simp [pyL, PyData.eqvAll, eqvL]
  | x :: xs, [] => by simp [pyL, PyData.eqvAll, eqvL]
  | x :: xs, y :: ys => by simp only [pyL, PyData.eqvAll, eqvL]; rw [eqv_py x y, eqvL_py xs ys]
end
/-- data that are not too deep, of signs that there are -/
def sh : Nat → D → Bool
  | _, .non | _, .bl _ | _, .int _ => true
  | _, .str l => l.all (· < 1114112)
  | n + 1, .tup l => l.all (sh n)
  | n + 1, .lst l => l.all (sh n)
  | 0, .tup _ | 0, .lst _ => false
theorem strOk_to (l : List Nat) : PySem.PyData.strOk (toStr l) = l.all (· < 1114112) := by
  simp [PySem.PyData.strOk, toStr]
theorem sh_all : ∀ {n : Nat} (ds : List D), (∀ d ∈ ds, sh n d = true → d.py.canLay0 = true ∧ d.py.depth ≤ n) → ds.all (sh n) = true → PyData.canLayAll0 (pyL ds) = true ∧ PyData.depthAll (pyL ds) ≤ n
  | _, [], _, _ => by simp [pyL, PyData.canLayAll0, PyData.depthAll]
  | n, d :: ds, h, e => by
    rw [List.all_cons, Bool.and_eq_true] at e
    have h1 := h d (by simp) e.1
    have h2 := sh_all ds (fun x hx => h x (by simp [hx])) e.2
    simp only [pyL, PyData.canLayAll0, PyData.depthAll, Bool.and_eq_true]
    exact ⟨⟨h1.1, h2.1⟩, Nat.max_le.mpr ⟨h1.2, h2.2⟩⟩
theorem sh_lay : ∀ (n : Nat) (d : D), sh n d = true → d.py.canLay0 = true ∧ d.py.depth ≤ n
  | _, .non, _ => by simp [D.py, PyData.canLay0, PyData.depth]
  | _, .bl _, _ => by simp [D.py, PyData.canLay0, PyData.depth]
  | _, .int _, _ => by simp [D.py, PyData.canLay0, PyData.depth]
  | n, .str l, h => by
    have h' : l.all (· < 1114112) = true := by cases n <;> exact h
    simp only [D.py, PyData.canLay0, PyData.depth]
    exact ⟨by rw [strOk_to]; exact h', Nat.zero_le _⟩
  | 0, .tup _, h => by simp [sh] at h
  | 0, .lst _, h => by simp [sh] at h
  | n + 1, .tup l, h => by
    have := sh_all l (fun d _ => sh_lay n d) h
    simp only [D.py, PyData.canLay0, PyData.depth]
    exact ⟨this.1, Nat.succ_le_succ this.2⟩
  | n + 1, .lst l, h => by
    have := sh_all l (fun d _ => sh_lay n d) h
    simp only [D.py, PyData.canLay0, PyData.depth]
    exact ⟨this.1, Nat.succ_le_succ this.2⟩
theorem sh_shaped {d : D} (h : sh 64 d = true) : SeqAt.shaped d.py = true := by
  obtain ⟨a, b⟩ := sh_lay 64 d h
  simp [SeqAt.shaped, a, b]
/-- the datum that a value is now -/
def valD (w : W) (h : Hh) : Option D := match w with
  | .d x => some x
  | .r n => match h[n]? with
    | some (.lst l) => (allD l).map .lst
    | _ => none
  | .f _ => none
section
variable {K : PySem.W.Frag} {T : Tb} {F ρ : List Addr} {H : Hp} {ih : Hh}
theorem valD_dp (hr : HR K T F ρ ih H) {w : W} {v : V} (r : RW K F ρ H w v) {x : D} (e : valD w ih = some x) : Dp K H v x.py := by
  cases r with
  | d r =>
    simp only [valD, Option.some.injEq] at e
    subst e
    exact r.dp
  | f hn => simp [valD] at e
  | r hn =>
    rename_i n a
    simp only [valD] at e
    cases ho : ih[n]? with
    | none => rw [ho] at e; cases e
    | some o =>
      rw [ho] at e
      cases o with
      | lst l =>
        simp only [Option.map_eq_some_iff] at e
        obtain ⟨ds, e1, rfl⟩ := e
        obtain ⟨u, eH, ro⟩ := hr.at hn ho
        cases ro with
        | lst z rs =>
          simp only [D.py]
          exact .lst (.inl (.inl eH)) (allD_rp e1 rs).dp
      | _ => cases e
def opEq (neg : Bool) (x y : W) (h : Hh) : R W := match valD x h, valD y h with
  | some a, some b => if sh 64 a && sh 64 b then .ok (.d (.bl (if neg then !(D.eqv a b) else D.eqv a b))) h else .no
  | _, _ => .no
theorem opEq_at {neg : Bool} {Wx : WX} {σ : L2.St} {x y : W} {v1 v2 : V} {Q : VK} (hr : HR K T F ρ ih H) (r1 : RW K F ρ H x v1) (r2 : RW K F ρ H y v2)
    (hp : Pst K T Wx σ F ρ H (opEq neg x y ih) fun ρ' H' _ w => ∀ v, RW K F ρ' H' w v → Q v H') :
    ∃ d e, Dp K H v1 d ∧ Dp K H v2 e ∧ SeqAt.shaped d = true ∧ SeqAt.shaped e = true ∧ Q (.bl (if neg then !(PyData.eqv d e) else PyData.eqv d e)) H := by
  unfold opEq at hp
  split at hp
  · rename_i a b e1 e2
    split at hp
    · rename_i c
      rw [Bool.and_eq_true] at c
      refine ⟨_, _, valD_dp hr r1 e1, valD_dp hr r2 e2, sh_shaped c.1, sh_shaped c.2, ?_⟩
      rw [eqv_py]
      exact hp.ok hr _ (.d (.bl _))
    · exact hp.elim
  · exact hp.elim
theorem fop_eq : FOp K T (opEq false) (rEqD K) := fun _ _ _ _ _ _ _ _ _ _ _ hr r1 r2 hp => opEq_at hr r1 r2 hp
theorem fop_ne : FOp K T (opEq true) (rNeD K) := fun _ _ _ _ _ _ _ _ _ _ _ hr r1 r2 hp => opEq_at hr r1 r2 hp
def opC (p : Int → Int → Bool) (x y : W) (h : Hh) : R W := match x, y with
  | .d (.int i), .d (.int j) => .ok (.d (.bl (p i j))) h
  | _, _ => .no
theorem fop_C {p : Int → Int → Bool} : FOp K T (opC p) (rI0 fun i j => .bl (p i j)) := by
  intro Wx σ F ρ ih H x y v1 v2 Q hr r1 r2 hp
  unfold opC at hp
  split at hp
  · cases r1 with | d r1 => cases r2 with | d r2 => cases r1; cases r2; exact ⟨_, _, rfl, rfl, hp.ok hr _ (.d (.bl _))⟩
  · exact hp.elim
abbrev opLt := opC fun i j => decide (i < j)
abbrev opLe := opC fun i j => decide (i ≤ j)
abbrev opGt := opC fun i j => decide (j < i)
abbrev opGe := opC fun i j => decide (j ≤ i)
def W.isN : W → Bool
  | .d .non => true
  | _ => false
def opNone (neg : Bool) (x y : W) (h : Hh) : R W := match y with
  | .d .non => .ok (.d (.bl (if neg then !x.isN else x.isN))) h
  | _ => .no
theorem isNon {F ρ : List Addr} {H : Hp} {x : W} {v : V} (r : RW K F ρ H x v) : decide (v = .non) = x.isN := by
  cases r with
  | r e => rfl
  | f e => rfl
  | d r => cases r <;> rfl
theorem fop_isN : FOp K T (opNone false) (fun x y H Q => y = .non ∧ Q (.bl (decide (x = .non))) H) := by
  intro Wx σ F ρ ih H x y v1 v2 Q hr r1 r2 hp
  unfold opNone at hp
  split at hp
  · cases r2 with | d r2 => cases r2; exact ⟨rfl, by rw [isNon r1]; exact hp.ok hr _ (.d (.bl _))⟩
  · exact hp.elim
theorem fop_notN : FOp K T (opNone true) (fun x y H Q => y = .non ∧ Q (.bl (!decide (x = .non))) H) := by
  intro Wx σ F ρ ih H x y v1 v2 Q hr r1 r2 hp
  unfold opNone at hp
  split at hp
  · cases r2 with | d r2 => cases r2; exact ⟨rfl, by rw [isNon r1]; exact hp.ok hr _ (.d (.bl _))⟩
  · exact hp.elim
end
end Fz
set_option Elab.async false
set_option linter.all false
set_option maxRecDepth 100000
set_option maxHeartbeats 2000000
/-! Fz: in, items, slices, built-in calls. -/
namespace Fz
open PySem L2 PyProof.Rows

/-! ### x in a list or tuple of data, in a text -/
def rInF (K : PySem.W.Frag) (neg : Bool) : R2 := fun x y H Q => ∃ d e ds, Dp K H x d ∧ Dp K H y e ∧ (e = .list ds ∨ e = .tuple ds) ∧ SeqAt.shaped d = true ∧ SeqAt.shaped e = true ∧ Q (.bl (if neg then !(ds.any fun z => PyData.eqv z d) else ds.any fun z => PyData.eqv z d)) H
section
variable {X : Cx}
theorem roomIn {A : Around} {n : Nat} {d : PyData} (hd : SeqAt.shaped d = true) (hu : A.units + 65 < cLine) : A.units + 1 + min n d.depth < cLine := by
  have h1 := SeqAt.depth_of_shaped hd
  have h2 : min n d.depth ≤ d.depth := Nat.min_le_right _ _
  omega
theorem opr_in (hu : X.A.units + 65 < cLine) : OpR X (compareOp .In) (rInF X.K false) := by
  intro pins s σ H x y v u Q I rx ry h
  obtain ⟨d, e, ds, hd, he, k, sd, se, q⟩ := h
  obtain ⟨as, r1⟩ := Dp.reads I d x v hd rx
  obtain ⟨bs, r2⟩ := Dp.reads I e y u he ry
  rcases k with rfl | rfl
  · exact SeqAt.in_list_reads r2 r1 (SeqAt.canLay_of_shaped se) (SeqAt.canLay_of_shaped sd) (roomIn sd hu) ⟨.bl _, H, I, rfl, q⟩
  · exact SeqAt.in_tuple_reads r2 r1 (SeqAt.canLay_of_shaped se) (SeqAt.canLay_of_shaped sd) (roomIn sd hu) ⟨.bl _, H, I, rfl, q⟩
theorem opr_notin (hu : X.A.units + 65 < cLine) : OpR X (compareOp .NotIn) (rInF X.K true) := by
  intro pins s σ H x y v u Q I rx ry h
  obtain ⟨d, e, ds, hd, he, k, sd, se, q⟩ := h
  obtain ⟨as, r1⟩ := Dp.reads I d x v hd rx
  obtain ⟨bs, r2⟩ := Dp.reads I e y u he ry
  rcases k with rfl | rfl
  · exact SeqAt.notIn_list_reads r2 r1 (SeqAt.canLay_of_shaped se) (SeqAt.canLay_of_shaped sd) (roomIn sd hu) ⟨.bl _, H, I, rfl, q⟩
  · exact SeqAt.notIn_tuple_reads r2 r1 (SeqAt.canLay_of_shaped se) (SeqAt.canLay_of_shaped sd) (roomIn sd hu) ⟨.bl _, H, I, rfl, q⟩
end
def D.items : D → Option (List D)
  | .tup l => some l
  | .lst l => some l
  | _ => none
def opIn (neg : Bool) (x y : W) (h : Hh) : R W := match valD x h, valD y h with
  | some a, some b => match b.items with
    | some l => if sh 64 a && sh 64 b then .ok (.d (.bl (if neg then !(l.any fun z => D.eqv z a) else l.any fun z => D.eqv z a))) h else .no
    | none => .no
  | _, _ => .no
theorem any_py (l : List D) (a : D) : ((pyL l).any fun z => PyData.eqv z a.py) = l.any fun z => D.eqv z a := by
  rw [pyL_map, List.any_map]
  congr 1
  funext z
  exact eqv_py z a
section
variable {K : PySem.W.Frag} {T : Tb} {F ρ : List Addr} {H : Hp} {ih : Hh}
theorem fop_in {neg : Bool} : FOp K T (opIn neg) (rInF K neg) := by
  intro Wx σ F ρ ih H x y v1 v2 Q hr r1 r2 hp
  unfold opIn at hp
  split at hp
  · rename_i a b e1 e2
    split at hp
    · rename_i l hl
      split at hp
      · rename_i c
        rw [Bool.and_eq_true] at c
        refine ⟨_, _, pyL l, valD_dp hr r1 e1, valD_dp hr r2 e2, ?_, sh_shaped c.1, sh_shaped c.2, ?_⟩
        · cases b with
          | tup l' => cases hl; simp [D.py]
          | lst l' => cases hl; simp [D.py]
          | _ => cases hl
        · rw [any_py]
          exact hp.ok hr _ (.d (.bl _))
      · exact hp.elim
    · exact hp.elim
  · exact hp.elim

/-! ### items -/
theorem RWs.get {a : List W} {vs : List V} (h : RWs K F ρ H a vs) : ∀ {n : Nat} {w : W}, a[n]? = some w → ∃ v, vs[n]? = some v ∧ RW K F ρ H w v := by
  induction h with
  | nil => intro n w e; simp at e
  | cons r t ih =>
    intro n w e
    cases n with
    | zero => simp at e; subst e; exact ⟨_, rfl, r⟩
    | succ n => simp at e; obtain ⟨v, e1, r1⟩ := ih e; exact ⟨v, by simpa using e1, r1⟩
theorem RWs.at {a : List W} {vs : List V} (h : RWs K F ρ H a vs) {i : Int} {w : W} (e : atI a i = some w) : ∃ v, atI vs i = some v ∧ RW K F ρ H w v := by
  unfold atI at e ⊢
  rw [h.length] at e
  cases q : ixN vs.length i with
  | none => rw [q] at e; cases e
  | some j =>
    rw [q] at e
    simp only [Option.bind_some] at e
    exact h.get e
def opIx (x y : W) (h : Hh) : R W := match y with
  | .d (.int i) => match x with
    | .d (.str l) => match atI l i with
      | some c => .ok (.d (.str [c])) h
      | none => .no
    | x => match seqW x h with
      | some l => match atI l i with
        | some w => .ok w h
        | none => .no
      | none => .no
  | _ => .no
theorem fop_ix : FOp K T opIx (rIx K) := by
  intro Wx σ F ρ ih H x y v1 v2 Q hr r1 r2 hp
  unfold opIx at hp
  split at hp
  · rename_i i
    cases r2 with | d r2 =>
    cases r2
    split at hp
    · rename_i l
      split at hp
      · rename_i c e
        cases r1 with | d r1 =>
        cases r1 with | str l' z =>
        refine .inr (.inr ⟨_, _, c, rfl, rfl, by rw [toStr_len]; exact z, by simpa [toStr] using e, ?_⟩)
        exact hp.ok hr _ (.d (.str [c] (by show 1 ≤ sizeLine; decide)))
      · exact hp.elim
    · split at hp
      · rename_i l e
        split at hp
        · rename_i w e2
          obtain ⟨a, vs, rfl, s, rs, _⟩ := seqW_at hr r1 e
          obtain ⟨v, e3, r3⟩ := rs.at e2
          rcases s with s | s
          · exact .inl ⟨_, _, _, _, rfl, rfl, .inl s, e3, hp.ok hr _ r3⟩
          · exact .inr (.inl ⟨_, _, _, _, rfl, rfl, .inl s, e3, hp.ok hr _ r3⟩)
        · exact hp.elim
      · exact hp.elim
  · exact hp.elim
end
section
variable {X : Cx} {T : Tb} {Wx : WX} {a b : Expr} {pos : Pos} {ca cb : Cd}
theorem fe_ix (hs : PlainIx b) (ha : FE X T Wx a ca) (hb : FE X T Wx b cb) : FE X T Wx (.Subscript a b pos) (c2 opIx ca cb) :=
  PE.imp (pe_ix ix_seq ha hb hs) fun _ _ _ q => op2 fop_ix q
end

/-! ### slices -/
abbrev Co := Ev → Hh → R (Option Int)
def oOf (K : PySem.W.Frag) (T : Tb) (Wx : WX) (c : Co) : TO := fun σ H Q => ∃ F ρ e ih, HR K T F ρ ih H ∧ RE K F ρ H e σ ∧ Pst K T Wx σ F ρ H (c e ih) fun _ H' _ o => Q o H'
def FO (X : Cx) (T : Tb) (Wx : WX) (e : Option Expr) (c : Co) : Prop := PO X e (oOf X.K T Wx c)
def oN : Co := fun _ h => .ok none h
def oS (c : Cd) : Co := fun e h => (c e h).bind fun w h => match w with
  | .d (.int i) => .ok (some i) h
  | _ => .no
section
variable {X : Cx} {T : Tb} {Wx : WX} {e : Expr}
theorem PO.imp {o : Option Expr} {t t' : TO} (h : PO X o t) (f : ∀ σ H Q, t' σ H Q → t σ H Q) : PO X o t' := ⟨fun pins s σ H Q I q => h.run pins s σ H Q I (f _ _ _ q)⟩
theorem fo_n : FO X T Wx none oN := PO.imp po_none fun σ H Q q => by
  obtain ⟨F, ρ, ev, ih, hr, re, hp⟩ := q
  exact hp.ok hr
theorem fo_s {c : Cd} (h : FE X T Wx e c) : FO X T Wx (some e) (oS c) := PO.imp (po_some h) fun σ H Q q => by
  obtain ⟨F, ρ, ev, ih, hr, re, hp⟩ := q
  refine ⟨F, ρ, ev, ih, hr, re, hp.bind.mono fun ρ1 H1 ih1 w g1 hr1 hp1 v r => ?_⟩
  split at hp1
  · cases r with | d r => cases r; exact ⟨_, rfl, hp1.ok hr1⟩
  · exact hp1.elim
end
/-- a cut of a list -/
def cut {α : Type} (xs : List α) (lo hi : Option Int) : List α := (xs.drop (HT.sIx xs.length 0 lo)).take (HT.sIx xs.length xs.length hi - HT.sIx xs.length 0 lo)
theorem cut_len {α : Type} (xs : List α) (lo hi : Option Int) : (cut xs lo hi).length ≤ xs.length := by
  simp only [cut, List.length_take, List.length_drop]; omega
def opSl (m : Bool) (x : W) (lo hi : Option Int) (h : Hh) : R W := match x with
  | .d (.str l) => .ok (.d (.str (cut l lo hi))) h
  | .d (.tup l) => .ok (.d (.tup (cut l lo hi))) h
  | x => match lstW x h with
    | some l => fin m (cut l lo hi) h
    | none => .no
def rSlF (K : PySem.W.Frag) : V → Option Int → Option Int → Hp → VK → Prop := fun x lo hi H Q => rSlL K x lo hi H Q ∨ rSlA K x lo hi H Q ∨ rSlS x lo hi H Q
theorem slr {X : Cx} : SlR X (rSlF X.K) := sl_list.or (sl_tupA.or sl_str)
theorem RWs.cut {K F ρ H} {a : List W} {vs : List V} (h : RWs K F ρ H a vs) (lo hi : Option Int) : RWs K F ρ H (Fz.cut a lo hi) (cutV vs lo hi) := by
  have tk : ∀ {a : List W} {vs : List V} (n : Nat), RWs K F ρ H a vs → RWs K F ρ H (a.take n) (vs.take n) := by
    intro a vs n h
    induction h generalizing n with
    | nil => simp; exact .nil
    | cons r t ih => cases n with
      | zero => exact .nil
      | succ n => exact .cons r (ih n)
  have dr : ∀ {a : List W} {vs : List V} (n : Nat), RWs K F ρ H a vs → RWs K F ρ H (a.drop n) (vs.drop n) := by
    intro a vs n h
    induction h generalizing n with
    | nil => simp; exact .nil
    | cons r t ih => cases n with
      | zero => exact .cons r t
      | succ n => exact ih n
  unfold Fz.cut cutV
  rw [h.length]
  exact tk _ (dr _ h)
theorem RpL.cut {K M H} {a : List D} {vs : List V} (h : RpL K M H a vs) (lo hi : Option Int) : RpL K M H (Fz.cut a lo hi) (cutV vs lo hi) := by
  have tk : ∀ (n : Nat) {a : List D} {vs : List V}, RpL K M H a vs → RpL K M H (a.take n) (vs.take n) := by
    intro n
    induction n with
    | zero => intro a vs h; exact .nil
    | succ n ih =>
      intro a vs h
      cases h with
      | nil => exact .nil
      | cons r t => exact .cons r (ih t)
  have dr : ∀ (n : Nat) {a : List D} {vs : List V}, RpL K M H a vs → RpL K M H (a.drop n) (vs.drop n) := by
    intro n
    induction n with
    | zero => intro a vs h; exact h
    | succ n ih =>
      intro a vs h
      cases h with
      | nil => exact .nil
      | cons r t => exact ih t
  unfold Fz.cut cutV
  rw [h.length]
  exact tk _ (dr _ h)
theorem cut_all {α : Type} {l : List α} {lo hi : Option Int} (h : HT.sIx l.length 0 lo = 0 ∧ HT.sIx l.length l.length hi = l.length) : cut l lo hi = l := by
  unfold cut
  rw [h.1, h.2]
  simp
def cSl (m : Bool) (a : Cd) (lo hi : Co) : Cd := fun e h => (a e h).bind fun x h => (lo e h).bind fun l h => (hi e h).bind fun u h => opSl m x l u h
section
variable {X : Cx} {T : Tb} {Wx : WX} {e : Expr} {lo hi : Option Expr} {pos p2 : Pos} {c : Cd} {cl cu : Co}
theorem fe_sl {m : Bool} (he : FE X T Wx e c) (hl : FO X T Wx lo cl) (hu : FO X T Wx hi cu) : FE X T Wx (.Subscript e (.Slice lo hi none p2) pos) (cSl m c cl cu) := PE.imp (pe_slice slr he hl hu) fun σ H Q q => by
  obtain ⟨F, ρ, ev, ih, hr, re, hp⟩ := q
  refine ⟨F, ρ, ev, ih, hr, re, hp.bind.mono fun ρ1 H1 ih1 w g1 hr1 hp1 v r => ?_⟩
  have re1 := re.grow g1 hr
  refine ⟨F, ρ1, ev, ih1, hr1, re1, hp1.bind.mono fun ρ2 H2 ih2 l g2 hr2 hp2 => ?_⟩
  have re2 := re1.grow g2 hr1
  refine ⟨F, ρ2, ev, ih2, hr2, re2, hp2.bind.mono fun ρ3 H3 ih3 u g3 hr3 hp3 => ?_⟩
  have r3 := (r.grow g2 hr1).grow g3 hr2
  unfold opSl at hp3
  split at hp3
  · rename_i l'
    cases r3 with | d r3 => cases r3 with | str _ z =>
      refine .inr (.inr ⟨_, rfl, by rw [toStr_len]; exact z, ?_⟩)
      have e : cutS (toStr l') l u = toStr (cut l' l u) := by
        unfold cutS cut
        rw [toStr_len]
        simp [toStr]
      rw [e]
      exact hp3.ok hr3 _ (.d (.str _ (Nat.le_trans (cut_len _ _ _) z)))
  · cases r3 with | d r3 => cases r3 with | tup t z rl =>
      refine .inr (.inl ⟨_, _, rfl, t.sq, fun hw => ?_, fun hw p np => ?_⟩)
      · rw [← rl.length] at hw
        rw [cut_all hw] at hp3
        exact hp3.ok hr3 _ (.d (.tup t z rl))
      · obtain ⟨a, b⟩ := new_tup hr3 np (rl.cut l u) (Nat.le_trans (cut_len _ _ _) z) hp3
        exact a _ b
  · split at hp3
    · rename_i l' e
      obtain ⟨a, vs, rfl, s, rs, _⟩ := lstW_at hr3 r3 e
      exact .inl ⟨_, _, rfl, .inl s, fun p np => fin_ok hr3 (rs.cut l u) np hp3⟩
    · exact hp3.elim
/-- x[::-1] of a list -/
def opRev (m : Bool) (x : W) (h : Hh) : R W := match lstW x h with
  | some l => fin m l.reverse h
  | none => .no
theorem RWs.rev {K F ρ H} {a : List W} {vs : List V} (h : RWs K F ρ H a vs) : RWs K F ρ H a.reverse vs.reverse := by
  induction h with
  | nil => exact .nil
  | cons r t ih => simp only [List.reverse_cons]; exact ih.app (.cons r .nil)
theorem fe_rev {m : Bool} {k : Nat} {p1 p3 : Pos} (he : FE X T Wx e c) : FE X T Wx (.Subscript e (.Slice none none (some (.UnaryOp .USub (.Constant (.int 1) k p1) p2)) p3) pos) (c1 (opRev m) c) := PE.imp (pe_revL he) fun σ H Q q => by
  obtain ⟨F, ρ, ev, ih, hr, re, hp⟩ := q
  refine ⟨F, ρ, ev, ih, hr, re, hp.bind.mono fun ρ1 H1 ih1 w g1 hr1 hp1 v r => ?_⟩
  unfold opRev at hp1
  split at hp1
  · rename_i l' e
    obtain ⟨a, vs, rfl, s, rs, _⟩ := lstW_at hr1 r e
    exact ⟨_, _, rfl, .inl s, fun p np => fin_ok hr1 rs.rev np hp1⟩
  · exact hp1.elim
end
end Fz
set_option Elab.async false
set_option linter.all false
set_option maxRecDepth 100000
set_option maxHeartbeats 2000000
/-! Fz: the defs of the text: what is promised of one, calls. -/
namespace Fz
open PySem L2 PyProof.Rows

/-- as FnOk, where no repr is under way -/
structure FnG (P : Program) (w : World) (K : PySem.W.Frag) (mg : Str → Option Value) (base : Heap) (k : Nat) (f : Addr) (fd : FuncData) (ps : List Str) (sp : Sp) : Prop where
  len : ∀ vs H Q E, sp vs H Q E → vs.length = ps.length
  run : ∀ (A : Around) (outer : List Env) (s : Shared) (H : Hp) (args : Args) (us : List Value) (vs : List V) (Q : VK) (E : XK), Room k A → A.guards = some [] → Env0 P w K mg base A outer s H → BindsTo s fd args (ps.zip us) → Vals vs us → sp vs H Q E →
    codeAny (model P w) A (.call (.ref f) args) (CR (L2.CX P w) outer P w H s Q E) s
theorem FnG.imp {P w K mg base k f fd ps} {sp sp' : Sp} (F : FnG P w K mg base k f fd ps sp) (h : ∀ vs H Q E, sp' vs H Q E → sp vs H Q E) : FnG P w K mg base k f fd ps sp' :=
  ⟨fun vs H Q E q => F.len vs H Q E (h _ _ _ _ q), fun A outer s H args us vs Q E hr hg e0 hb r q => F.run A outer s H args us vs Q E hr hg e0 hb r (h _ _ _ _ q)⟩
theorem FnG.mono {P w K mg base j k f fd ps} {sp : Sp} (F : FnG P w K mg base j f fd ps sp) (h : j ≤ k) : FnG P w K mg base k f fd ps sp :=
  ⟨F.len, fun A outer s H args us vs Q E hr hg e0 hb r q => F.run A outer s H args us vs Q E (hr.mono h) hg e0 hb r q⟩
/-- a def by its body -/
theorem fnG_of {P : Program} {w : World} {K : PySem.W.Frag} {mg : Str → Option Value} {base : Heap} {k : Nat} {x qual : Str} {st : Stmt} {f : Addr} {fd : FuncData} {N ps : List Str} {sp : Sp} (Fu : Fun K x qual st f fd) (S : FnScope N ps (defScope st))
    (len : ∀ vs H Q E, sp vs H Q E → vs.length = ps.length)
    (hbody : ∀ (cdv : Value) (A : Around) (outer : List Env) (s : Shared) (H : Hp) (vs : List V) (Q : VK) (E : XK), Room k (A.deeper (envOfC qual (defScope st) s.heap.objs.size f cdv)) → A.guards = some [] → sp vs H Q E →
      ∃ t, PSs (cxOf (L2.CX P w) P w K mg base N qual (defScope st) f cdv A outer s H E) (defBody st) t ∧ t { nx := fun _ H' => Q .non H', rt := Q } (start N vs) H) :
    FnG P w K mg base (k + 1) f fd ps sp := by
  obtain ⟨oc, od, kV, doc, pm, an, cdv, ct, osl, rfl, lk, hcd⟩ := Fu.ex
  refine ⟨len, fun A outer s H args us vs Q E hr hg e0 hb r hsp => ?_⟩
  have KX : K.In s.heap := e0.mod.kin.keeps fun b o e => (e0.bs b o e).1
  have lim : s.heap.NoLimit := e0.mod.nolimit.keeps fun b o e => (e0.bs b o e).1
  have hkind : ∀ y ∈ ps.zip us, (defScope st).names.lookup y.1 = some .local ∨ ((defScope st).names.lookup y.1 = some .cell ∧ ((cellsFrom (s.heap.objs.size + 1) (defScope st).names []).lookup y.1).isSome = true) := fun ⟨n, v⟩ hy => by
    rcases S.par n (List.of_mem_zip hy).1 with q | q
    · exact .inl q
    · exact .inr ⟨q, PySem.W.cellsFrom_some _ _ _ (.inl q)⟩
  refine codeAny_call_function hr.depth (KX _ _ lk) rfl S.co S.gen rfl (PySem.W.codeRec_of KX hcd) (hb _ _ _ _ ?_)
  refine wpAny_newFunctionEnv_cells S.kind hkind fun env he s1 x => ?_
  subst he
  refine ⟨lim.keeps x.toInCall.keep, codeAny_func ?_⟩
  obtain ⟨t, ht, hq⟩ := hbody cdv A outer s H vs Q E (hr.deeper _) hg hsp
  have I : L2.Inv (cxOf (L2.CX P w) P w K mg base N qual (defScope st) f cdv A outer s H E) [] (start N vs) H s1 := inv_start S hr.hd e0 (len _ _ _ _ hsp) r x
  refine wpAny_mono (ht.run [] s1 (start N vs) H _ I hq) (fun fl s' hs => ?_) fun e s' hs => hs
  have fin : ∀ {σ' : L2.St} {H' : Hp} {v : V} {u : Value}, L2.Inv (cxOf (L2.CX P w) P w K mg base N qual (defScope st) f cdv A outer s H E) [] σ' H' s' → RelV v u → Q v H' → CE outer P w H s Q u s' :=
    fun {σ' H' v u} J rv q => ⟨v, H', J.os, J.bare, J.base, J.hok, rv, q⟩
  cases fl with
  | ret u =>
    obtain ⟨v, σ', H', J, rv, q⟩ := hs
    exact fin J rv q
  | next =>
    obtain ⟨σ', H', J, q⟩ := hs
    exact fin (v := V.non) (u := Value.none) J rfl q
  | brk =>
    obtain ⟨_, _, _, q⟩ := hs
    exact False.elim q
  | cont =>
    obtain ⟨_, _, _, q⟩ := hs
    exact False.elim q

/-- where one stands -/
structure Cg (X : Cx) (Wx : WX) (k : Nat) : Prop where
  calm : X.calm = true
  room : Room k X.A
  gd : X.A.guards = some []
  tk : Takes X Wx
  nd : X.N.Nodup
  po : PassesOwn (model X.prog X.w) X.A X.env X.xe

section
variable {X : Cx} {T : Tb} {Wx : WX} {k j : Nat} {f C : Addr} {fd : FuncData} {ps : List Str} {sp : Sp} {pins : List (Addr × Obj)} {σ : L2.St} {H : Hp} {s : Shared} {Q : VK} {us : List Value} {vs : List V}
theorem run_g (G : Cg X Wx k) (F : FnG X.prog X.w X.K X.mg X.base k f fd ps sp) (hb : Binds X.K fd ps []) (I : L2.Inv X pins σ H s) (r : Vals vs us) (h : sp vs H Q fun cls d H' => Wx cls d σ H') :
    wpAny (model X.prog X.w) X.A (call (.ref f) us) (EP X pins σ Q) X.xe s := by
  have hl : (us ++ []).length = ps.length := by rw [List.append_nil, ← r.length]; exact F.len _ _ _ _ h
  have hb' := hb s us I.kIn hl
  rw [List.append_nil] at hb'
  refine wpAny_call (codeAny_mono (F.run X.A X.stack s H ⟨us, []⟩ us vs Q _ G.room G.gd I.env0 hb' r h) fun r s' hq => ?_)
  cases r with
  | error e => exact G.tk e s' (XE.of_call I (fun _ _ _ q => q) hq)
  | ok fl =>
    cases fl with
    | ret u => exact I.after hq
    | next => exact False.elim hq
    | brk => exact False.elim hq
    | cont => exact False.elim hq
theorem run_mk (G : Cg X Wx (k + 1)) (M : Mk X.K C f) (F : FnG X.prog X.w X.K X.mg X.base k f fd ps sp) (hb : Binds X.K fd ps []) (I : L2.Inv X pins σ H s) (r : Vals vs us)
    (h : ∀ x dx, H x = none → H dx = none → dx ≠ x → sp (.ref x :: vs) (upd (upd H dx (.own x)) x (.ins C dx [])) (fun v H2 => v = .non ∧ Q (.ref x) H2) fun cls d H' => Wx cls d σ H') :
    wpAny (model X.prog X.w) X.A (call (.ref C) us) (EP X pins σ Q) X.xe s := by
  have hq := h (s.heap.objs.size + 1) s.heap.objs.size (I.hok.fresh (Nat.le_succ _)) (I.hok.fresh (Nat.le_refl _)) (Nat.ne_of_lt (Nat.lt_succ_self _))
  have I2 := Inv.made (C := C) I
  have r2 : Vals (V.ref (s.heap.objs.size + 1) :: vs) (Value.ref (s.heap.objs.size + 1) :: us) := .cons rfl r
  have hl : (Value.ref (s.heap.objs.size + 1) :: us ++ []).length = ps.length := by
    rw [List.append_nil, ← r2.length]; exact F.len _ _ _ _ hq
  have hb' := hb _ (Value.ref (s.heap.objs.size + 1) :: us) I2.kIn hl
  rw [List.append_nil] at hb'
  refine wpAny_call (make_map (f := f) I.kIn M.makes M.init (beq_iff_eq.mp M.fn) (codeAny_mono (F.run _ X.stack _ _ ⟨Value.ref (s.heap.objs.size + 1) :: us, []⟩ (Value.ref (s.heap.objs.size + 1) :: us) _ _ _ (G.room.make C us [])
    (by unfold Around.under; dsimp only; rw [G.gd]; rfl) (I2.env0.make C us []) hb' r2 hq) fun r s' hq' => ?_))
  cases r with
  | error e => exact G.tk e s' (XE.of_call I2 (fun _ _ _ q => q) hq')
  | ok fl =>
    cases fl with
    | ret u =>
      obtain ⟨v, H', I3, rv, ev, q3⟩ := I2.after hq'
      subst ev
      exact ⟨rv, ⟨V.ref (s.heap.objs.size + 1), H', I3, rfl, q3⟩⟩
    | next => exact False.elim hq'
    | brk => exact False.elim hq'
    | cont => exact False.elim hq'
end

/-! ### what a def promises: it does what a function says -/
abbrev Fn := List W → Hh → R W
def spF (K : PySem.W.Frag) (T : Tb) (n : Nat) (g : Fn) : Sp := fun vs H Q E => vs.length = n ∧ ∃ F ρ ws ih, HR K T F ρ ih H ∧ RWs K F ρ H ws vs ∧ Pst K T (fun cls d _ H' => E cls d H') [] F ρ H (g ws ih) fun ρ' H' _ w => ∀ v, RW K F ρ' H' w v → Q v H'
/-- a call that sees data alone: nothing of ours changes -/
def pure' (g : Fn) (ws : List W) (h : Hh) : R W := match allD ws with
  | none => .no
  | some _ => match g ws [] with
    | .ok (.d x) _ => .ok (.d x) h
    | .ex c (.d x) _ => .ex c (.d x) h
    | _ => .no
section
variable {K : PySem.W.Frag} {T : Tb} {F ρ : List Addr} {H : Hp} {ih : Hh}
mutual
theorem Rp.less {M M' : List Addr} (h : ∀ a, a ∈ M' → a ∈ M) : ∀ {d : D} {v : V}, Rp K M H d v → Rp K M' H d v
  | _, _, .non => .non
  | _, _, .bl b => .bl b
  | _, _, .int i => .int i
  | _, _, .str l z => .str l z
  | _, _, .tup q z r => .tup ⟨q.1, fun m => q.2 (h _ m)⟩ z (RpL.less h r)
  | _, _, .lst q z r => .lst ⟨q.1, fun m => q.2 (h _ m)⟩ z (RpL.less h r)
theorem RpL.less {M M' : List Addr} (h : ∀ a, a ∈ M' → a ∈ M) : ∀ {d : List D} {v : List V}, RpL K M H d v → RpL K M' H d v
  | _, _, .nil => .nil
  | _, _, .cons a b => .cons (Rp.less h a) (RpL.less h b)
end
theorem spF_pure {n : Nat} {g : Fn} {ws : List W} {vs : List V} {Q : VK} {Wx : WX} {σ : L2.St} (hn : vs.length = n) (hr : HR K T F ρ ih H) (rs : RWs K F ρ H ws vs)
    (hp : Pst K T Wx σ F ρ H (pure' g ws ih) fun ρ' H' _ w => ∀ v, RW K F ρ' H' w v → Q v H') : spF K T n g vs H Q fun cls d H' => Wx cls d σ H' := by
  unfold pure' at hp
  cases e : allD ws with
  | none => rw [e] at hp; exact hp.elim
  | some ds =>
    rw [e] at hp
    dsimp only at hp
    have hr0 : HR K T (F ++ ρ) [] [] H := ⟨rfl, List.nodup_nil, fun a m => absurd m (by simp), fun a m => (List.mem_append.mp m).elim (hr.trF a) fun q => hr.tr q, fun n o q => by simp at q, fun a m xs => (List.mem_append.mp m).elim (fun z => hr.ntF a z xs) fun z => hr.ntR z xs⟩
    have rs0 : RWs K (F ++ ρ) [] H ws vs := by
      have rp := allD_rp e rs
      rw [allD_eq e]
      have rp' : RpL K ((F ++ ρ) ++ []) H ds vs := by rw [List.append_nil]; exact rp
      exact rp'.rws
    refine ⟨hn, F ++ ρ, [], ws, [], hr0, rs0, ?_⟩
    have back : ∀ {ρ2 : List Addr} {H2 : Hp}, Grow (F ++ ρ) [] H ρ2 H2 → Grow F ρ H ρ H2 := fun g => ⟨⟨[], by simp⟩, fun a o q _ => g.keep a o q (by simp), fun a m n => absurd m n, g.frz⟩
    have hback : ∀ {ρ2 : List Addr} {H2 : Hp}, Grow (F ++ ρ) [] H ρ2 H2 → HR K T F ρ ih H2 := fun {ρ2 H2} g => ⟨hr.len, hr.nd, hr.fr, fun a m => by
        cases q : H a with
        | none => exact absurd q (hr.trF a m)
        | some o =>
          rw [g.keep a o q (by simp)]
          simp, fun n o q => by
        obtain ⟨a, u, e1, e2, ro⟩ := hr.obj n o q
        exact ⟨a, u, e1, g.keep a u e2 (by simp), ro.grow (back g) hr⟩, fun a m xs q => by
        cases e : H a with
        | none => exact absurd e (hr.trF a m)
        | some o =>
          rw [g.keep a o e (by simp)] at q
          cases q
          exact hr.ntF a m xs e⟩
    have val : ∀ {ρ2 : List Addr} {H2 : Hp} {x : D} {v : V}, RW K (F ++ ρ) ρ2 H2 (.d x) v → RW K F ρ H2 (.d x) v := fun r => by
      cases r with
      | d r => exact .d (r.less fun a m => List.mem_append_left _ m)
    cases eg : g ws [] with
    | no => rw [eg] at hp; exact hp.elim
    | ok w h2 =>
      cases w with
      | r n => rw [eg] at hp; exact hp.elim
      | f n => rw [eg] at hp; exact hp.elim
      | d x =>
        rw [eg] at hp
        exact fun ρ2 H2 g2 hr2 v r => hp ρ H2 (back g2) (hback g2) v (val r)
    | ex c p h2 =>
      cases p with
      | r n => rw [eg] at hp; exact hp.elim
      | f n => rw [eg] at hp; exact hp.elim
      | d x =>
        rw [eg] at hp
        intro ρ2 H2 cls dx g2 hr2 xr
        obtain ⟨a, d, v, b1, b2, b3, b4⟩ := xr
        exact hp ρ H2 cls dx (back g2) (hback g2) ⟨a, d, v, b1, b2, fun m => b3 (List.mem_append_left _ m), val b4⟩
theorem spF_of {n : Nat} {g : Fn} {ws : List W} {vs : List V} {Q : VK} {Wx : WX} {σ : L2.St} (hn : vs.length = n) (hr : HR K T F ρ ih H) (rs : RWs K F ρ H ws vs)
    (hp : Pst K T Wx σ F ρ H (g ws ih) fun ρ' H' _ w => ∀ v, RW K F ρ' H' w v → Q v H') : spF K T n g vs H Q fun cls d H' => Wx cls d σ H' := by
  refine ⟨hn, F, ρ, ws, ih, hr, rs, ?_⟩
  cases e : g ws ih with
  | no => rw [e] at hp; exact hp.elim
  | ok w h2 => rw [e] at hp; exact hp
  | ex c p h2 => rw [e] at hp; exact hp
end
/-- a call: of a def that may change things, or of one that sees data alone (p) -/
def cCall (p : Bool) (n : Nat) (g : Fn) (a : Ca) : Cd := fun e h => (a e h).bind fun ws h => if ws.length = n then (if p then pure' g ws h else g ws h) else .no
section
variable {X : Cx} {T : Tb} {Wx : WX} {k : Nat} {f C : Addr} {fd : FuncData} {ps : List Str} {x m : Str} {p pos apos : Pos} {e o : Expr} {es : List Expr} {ca : Ca} {co : Cd} {g : Fn} {n : Nat} {pu : Bool}
theorem call_at {σ : L2.St} {F ρ : List Addr} {H : Hp} {ih : Hh} {ws : List W} {vs : List V} {Q : VK} (hr : HR X.K T F ρ ih H) (rs : RWs X.K F ρ H ws vs)
    (hp : Pst X.K T Wx σ F ρ H (if ws.length = n then (if pu then pure' g ws ih else g ws ih) else .no) fun ρ' H' _ w => ∀ v, RW X.K F ρ' H' w v → Q v H') : spF X.K T n g vs H Q fun cls d H' => Wx cls d σ H' := by
  split at hp
  · rename_i hn
    rw [rs.length] at hn
    cases pu with
    | true => exact spF_pure hn hr rs hp
    | false => exact spF_of hn hr rs hp
  · exact hp.elim
def tClG (Wx : WX) (sp : Sp) (t : TA) : TE := fun σ H Q => t σ H fun vs H1 => sp vs H1 Q fun cls d H' => Wx cls d σ H'
theorem pe_callG {t : TA} {sp : Sp} (G : Cg X Wx k) (F : FnG X.prog X.w X.K X.mg X.base k f fd ps sp) (hg : Gl X x) (hm : X.mg x = some (.ref f)) (hk : PySem.W.keepIn X.K (.ref f) = true) (hb : Binds X.K fd ps [])
    (hdb : (x == ("__debug__" : Str)) = false) (he : starEach (e :: es) X.env = (false, eval e X.env) :: starEach es X.env) (hpl : (backTo pos (starEach es X.env)).any (·.1) = false) (ha : PA X (e :: es) t) :
    PE X (.Call (.Name x p) (e :: es) [] pos) (tClG Wx sp t) := by
  refine ⟨fun pins s σ H Q I h => ?_⟩
  refine wpAny_Call_Name_kw (ld_glob I hg hm ?_ hdb)
  refine PySem.W.callWith_K (h₀ := X.base) I.ok.mod.kin hk (thn (ha.run pos pins s σ H _ I h) fun us s1 ⟨vs, H1, I1, r, q⟩ => ⟨I1.kIn, ?_⟩) he hpl
  exact run_g G F hb I1 r q
theorem clG {σ H Q} (q : tOf X.K T Wx (cCall pu n g ca) σ H Q) : tClG Wx (spF X.K T n g) (aOf X.K T Wx ca) σ H Q := by
  obtain ⟨F', ρ, ev, ih, hr, re, hp⟩ := q
  exact ⟨F', ρ, ev, ih, hr, re, hp.bind.mono fun ρ1 H1 ih1 ws g1 hr1 hp1 vs rs => call_at hr1 rs hp1⟩
theorem fe_call (G : Cg X Wx k) (F : FnG X.prog X.w X.K X.mg X.base k f fd ps (spF X.K T n g)) (hg : Gl X x) (hm : X.mg x = some (.ref f)) (hk : PySem.W.keepIn X.K (.ref f) = true) (hb : Binds X.K fd ps [])
    (hdb : (x == ("__debug__" : Str)) = false) (he : starEach (e :: es) X.env = (false, eval e X.env) :: starEach es X.env) (hpl : (backTo pos (starEach es X.env)).any (·.1) = false) (ha : FA X T Wx (e :: es) ca) :
    FE X T Wx (.Call (.Name x p) (e :: es) [] pos) (cCall pu n g ca) := PE.imp (pe_callG G F hg hm hk hb hdb he hpl ha) fun _ _ _ q => clG q
theorem fe_call0 (G : Cg X Wx k) (F : FnG X.prog X.w X.K X.mg X.base k f fd ps (spF X.K T n g)) (hg : Gl X x) (hm : X.mg x = some (.ref f)) (hk : PySem.W.keepIn X.K (.ref f) = true) (hb : Binds X.K fd ps [])
    (hdb : (x == ("__debug__" : Str)) = false) : FE X T Wx (.Call (.Name x p) [] [] pos) (cCall pu n g aNil) := by
  refine PE.imp (t := tClG Wx (spF X.K T n g) tNil) ⟨fun pins s σ H Q I h => ?_⟩ fun σ H Q q => ?_
  · refine wpAny_Call_Name_kw (ld_glob I hg hm ?_ hdb)
    exact PySem.W.callWith_K0 I.kIn hk (run_g (us := []) G F hb I .nil h)
  · obtain ⟨F', ρ, ev, ih, hr, re, hp⟩ := q
    exact call_at hr .nil hp

/-! ### methods of own classes -/
/-- the object is of class c, and has no field of the method's name -/
def cMeth (c : Nat) (n : Nat) (g : Fn) (o : Cd) (a : Ca) : Cd := fun e h => (o e h).bind fun x h => match x with
  | .r i => match h[i]? with
    | some (.ins c' _) => if c' = c then (a e h).bind fun ws h => if (W.r i :: ws).length = n then g (.r i :: ws) h else .no else .no
    | _ => .no
  | _ => .no
theorem no_field {K : PySem.W.Frag} {F ρ : List Addr} {H : Hp} {fs : List (Nat × W)} {vs : List (Str × V)} (nm : ∀ i, T.fld i ≠ m) (r : Paired (fun p q => q.1 = T.fld p.1 ∧ RW K F ρ H p.2 q.2) fs vs) : vs.lookup m = none := by
  induction r with
  | nil => rfl
  | @cons a b l l2 x t ih =>
    obtain ⟨s, v⟩ := b
    have hb : (m == s) = false := by
      rw [beq_eq_false_iff_ne]
      exact fun z => nm a.1 (by rw [z]; exact x.1.symm)
    rw [List.lookup_cons, hb]
    exact ih
def tMtG (Wx : WX) (C : Addr) (m : Str) (sp : Sp) (ta : TE) (t : TA) : TE := fun σ H Q => ta σ H fun x H1 => ∃ a dx fs, x = .ref a ∧ H1 a = some (.ins C dx fs) ∧ fs.lookup m = none ∧ t σ H1 fun vs H2 => sp (x :: vs) H2 Q fun cls d H' => Wx cls d σ H'
theorem mtG {c : Nat} (nm : ∀ i, T.fld i ≠ m) {σ H Q} (q : tOf X.K T Wx (cMeth c n g co ca) σ H Q) : tMtG Wx (T.cad c) m (spF X.K T n g) (tOf X.K T Wx co) (aOf X.K T Wx ca) σ H Q := by
  obtain ⟨F, ρ, ev, ih, hr, re, hp⟩ := q
  refine ⟨F, ρ, ev, ih, hr, re, hp.bind.mono fun ρ1 H1 ih1 w g1 hr1 hp1 v r => ?_⟩
  split at hp1
  · rename_i i
    split at hp1
    · rename_i c' fs ho
      split at hp1
      · rename_i hc
        subst hc
        cases r with
        | r e =>
          obtain ⟨u, eH, ro⟩ := hr1.at e ho
          cases ro with
          | ins rs z =>
            refine ⟨_, _, _, rfl, eH, no_field nm rs, F, ρ1, ev, ih1, hr1, re.grow g1 hr, hp1.bind.mono fun ρ2 H2 ih2 ws g2 hr2 hp2 vs rs2 => ?_⟩
            have rs3 : RWs X.K F ρ2 H2 (W.r i :: ws) (V.ref _ :: vs) := .cons (.r (g2.get e)) rs2
            split at hp2
            · rename_i hn
              exact spF_of (by rw [← rs3.length]; exact hn) hr2 rs3 hp2
            · exact hp2.elim
      · exact hp1.elim
    · exact hp1.elim
  · exact hp1.elim
theorem fe_meth {c : Nat} (nm : ∀ i, T.fld i ≠ m) (G : Cg X Wx k) (cl : Cls X.K (T.cad c)) (hm : Meth X.K (T.cad c) m f) (F : FnG X.prog X.w X.K X.mg X.base k f fd ps (spF X.K T n g)) (hb : Binds X.K fd ps []) {pl : Sem Bool}
    (hst : starEach (e :: es) X.env = (false, eval e X.env) :: starEach es X.env) (hpl : (backTo pos (starEach es X.env)).any (·.1) = false)
    (ht : eval (.Call (.Attribute o m apos) (e :: es) [] pos) X.env = (do
      let ov ← eval o X.env
      standAt apos.atName
      let (f, first) ← holding [ov] (getMethod ov m pl)
      callWith pos f first (backTo pos (starEach (e :: es) X.env)) (backToKw pos (keywordEach [] X.env))))
    (ho : FE X T Wx o co) (ha : FA X T Wx (e :: es) ca) : FE X T Wx (.Call (.Attribute o m apos) (e :: es) [] pos) (cMeth c n g co ca) := by
  refine PE.imp (t := tMtG Wx (T.cad c) m (spF X.K T n g) (tOf X.K T Wx co) (aOf X.K T Wx ca)) ⟨fun pins s σ H Q I h => ?_⟩ fun _ _ _ q => mtG nm q
  refine PySem.W.methodCall_KW (pl := pl) (thn (ho.run pins s σ H _ I h) fun u s1 ⟨x, H1, I1, rx, a, dx, fs, ex, ea, l, q⟩ => ?_) ht
  subst ex
  obtain rfl : u = Value.ref a := rx
  refine getmeth_ok I1 ea cl hm l ?_
  refine PySem.W.callWith_K (first := [.ref a]) (h₀ := X.base) I.ok.mod.kin hm.kp (thn (ha.run pos pins s1 σ H1 _ I1 q) fun us s2 ⟨vs, H2, I2, r, q2⟩ => ⟨I2.kIn, ?_⟩) hst hpl
  exact run_g (us := .ref a :: us) (vs := .ref a :: vs) G F hb I2 (.cons rfl r) q2
theorem fe_meth0 {c : Nat} (nm : ∀ i, T.fld i ≠ m) (G : Cg X Wx k) (cl : Cls X.K (T.cad c)) (hm : Meth X.K (T.cad c) m f) (F : FnG X.prog X.w X.K X.mg X.base k f fd ps (spF X.K T n g)) (hb : Binds X.K fd ps []) {pl : Sem Bool}
    (ht : eval (.Call (.Attribute o m apos) [] [] pos) X.env = (do
      let ov ← eval o X.env
      standAt apos.atName
      let (f, first) ← holding [ov] (getMethod ov m pl)
      callWith pos f first (backTo pos (starEach [] X.env)) (backToKw pos (keywordEach [] X.env))))
    (ho : FE X T Wx o co) : FE X T Wx (.Call (.Attribute o m apos) [] [] pos) (cMeth c n g co aNil) := by
  refine PE.imp (t := tMtG Wx (T.cad c) m (spF X.K T n g) (tOf X.K T Wx co) (aOf X.K T Wx aNil)) ⟨fun pins s σ H Q I h => ?_⟩ fun _ _ _ q => mtG nm q
  refine PySem.W.methodCall_KW (pl := pl) (thn (ho.run pins s σ H _ I h) fun u s1 ⟨x, H1, I1, rx, a, dx, fs, ex, ea, l, q⟩ => ?_) ht
  subst ex
  obtain rfl : u = Value.ref a := rx
  refine getmeth_ok I1 ea cl hm l ?_
  obtain ⟨F', ρ, ev, ih, hr, re, hp⟩ := q
  exact PySem.W.callWith_K0 (first := [.ref a]) I1.kIn hm.kp (run_g (us := [.ref a]) (vs := [.ref a]) G F hb I1 (.cons rfl .nil) (hp.ok hr [] .nil))
/-! ### a new instance -/
def cNew (c : Nat) (n : Nat) (g : Fn) (a : Ca) : Cd := fun e h => (a e h).bind fun ws h => if (W.r h.length :: ws).length = n then (g (.r h.length :: ws) (h ++ [.ins c []])).bind fun w h' => match w with
  | .d .non => .ok (.r h.length) h'
  | _ => .no else .no
def tMkG (Wx : WX) (C : Addr) (sp : Sp) (t : TA) : TE := fun σ H Q => t σ H fun vs H1 => ∀ x dx, H1 x = none → H1 dx = none → dx ≠ x →
  sp (.ref x :: vs) (upd (upd H1 dx (.own x)) x (.ins C dx [])) (fun v H2 => v = .non ∧ Q (.ref x) H2) fun cls d H' => Wx cls d σ H'
theorem mkG {c : Nat} {σ H Q} (q : tOf X.K T Wx (cNew c n g ca) σ H Q) : tMkG Wx (T.cad c) (spF X.K T n g) (aOf X.K T Wx ca) σ H Q := by
  obtain ⟨F, ρ, ev, ih, hr, re, hp⟩ := q
  refine ⟨F, ρ, ev, ih, hr, re, hp.bind.mono fun ρ1 H1 ih1 ws g1 hr1 hp1 vs rs => ?_⟩
  intro x dx nx ndx ne
  split at hp1
  · rename_i hn
    have nx' : upd H1 dx (.own x) x = none := by rw [upd_ne (Ne.symm ne)]; exact nx
    have hr2 := hr1.new (o := .own x) ndx
    have gA : Grow F ρ1 H1 ρ1 (upd H1 dx (.own x)) := grow_new ndx
    have gB : Grow F ρ1 (upd H1 dx (.own x)) (ρ1 ++ [x]) (upd (upd H1 dx (.own x)) x (.ins (T.cad c) dx [])) := grow_add nx'
    have gC := gA.trans hr2 gB
    have hr3 := hr2.add (o := .ins c []) (u := .ins (T.cad c) dx []) nx' (.ins .nil (by decide))
    have rs3 : RWs X.K F (ρ1 ++ [x]) (upd (upd H1 dx (.own x)) x (.ins (T.cad c) dx [])) (W.r ih1.length :: ws) (V.ref x :: vs) := .cons (.r (get_last hr1.len)) (RWs.grow gC hr1 rs)
    refine spF_of (by rw [← rs3.length]; exact hn) hr3 rs3 ?_
    have hp2 := hp1.bind
    cases e : g (W.r ih1.length :: ws) (ih1 ++ [.ins c []]) with
    | no => rw [e] at hp2; exact hp2.elim
    | ex c' p h2 =>
      rw [e] at hp2
      exact fun ρ4 H4 cls d g4 hr4 xr => hp2 ρ4 H4 cls d (gC.trans hr3 g4) hr4 xr
    | ok w h2 =>
      rw [e] at hp2
      intro ρ4 H4 g4 hr4 v r
      have hp3 := hp2 ρ4 H4 (gC.trans hr3 g4) hr4
      dsimp only at hp3
      split at hp3
      · cases r with | d r => cases r; exact ⟨rfl, hp3.ok hr4 _ (.r (g4.get (get_last hr1.len)))⟩
      · exact hp3.elim
  · exact hp1.elim
theorem fe_new {c : Nat} (G : Cg X Wx (k + 1)) (M : Mk X.K (T.cad c) f) (F : FnG X.prog X.w X.K X.mg X.base k f fd ps (spF X.K T n g)) (hg : Gl X x) (hm : X.mg x = some (.ref (T.cad c))) (hb : Binds X.K fd ps [])
    (hdb : (x == ("__debug__" : Str)) = false) (he : starEach (e :: es) X.env = (false, eval e X.env) :: starEach es X.env) (hpl : (backTo pos (starEach es X.env)).any (·.1) = false) (ha : FA X T Wx (e :: es) ca) :
    FE X T Wx (.Call (.Name x p) (e :: es) [] pos) (cNew c n g ca) := by
  refine PE.imp (t := tMkG Wx (T.cad c) (spF X.K T n g) (aOf X.K T Wx ca)) ⟨fun pins s σ H Q I h => ?_⟩ fun _ _ _ q => mkG q
  refine wpAny_Call_Name_kw (ld_glob I hg hm ?_ hdb)
  refine PySem.W.callWith_K (h₀ := X.base) I.ok.mod.kin M.kp (thn (ha.run pos pins s σ H _ I h) fun us s1 ⟨vs, H1, I1, r, q⟩ => ⟨I1.kIn, ?_⟩) he hpl
  exact run_mk G M F hb I1 r q
theorem fe_new0 {c : Nat} (G : Cg X Wx (k + 1)) (M : Mk X.K (T.cad c) f) (F : FnG X.prog X.w X.K X.mg X.base k f fd ps (spF X.K T n g)) (hg : Gl X x) (hm : X.mg x = some (.ref (T.cad c))) (hb : Binds X.K fd ps [])
    (hdb : (x == ("__debug__" : Str)) = false) : FE X T Wx (.Call (.Name x p) [] [] pos) (cNew c n g aNil) := by
  refine PE.imp (t := tMkG Wx (T.cad c) (spF X.K T n g) (aOf X.K T Wx aNil)) ⟨fun pins s σ H Q I h => ?_⟩ fun _ _ _ q => mkG q
  refine wpAny_Call_Name_kw (ld_glob I hg hm ?_ hdb)
  obtain ⟨F', ρ, ev, ih, hr, re, hp⟩ := h
  exact PySem.W.callWith_K0 I.kIn M.kp (run_mk (us := []) (vs := []) G M F hb I .nil (hp.ok hr [] .nil))
/-! ### fields -/
def lkf (f : Nat) (fs : List (Nat × W)) : Option W := fs.lookup f
def putf (f : Nat) (w : W) : List (Nat × W) → List (Nat × W)
  | [] => [(f, w)]
  | (g, x) :: r => if g = f then (g, w) :: r else (g, x) :: putf f w r
def cFld (f : Nat) (o : Cd) : Cd := fun e h => (o e h).bind fun x h => match x with
  | .r i => match h[i]? with
    | some (.ins _ fs) => match lkf f fs with
      | some w => .ok w h
      | none => .no
    | _ => .no
  | _ => .no
theorem lkf_at {K : PySem.W.Frag} {F ρ : List Addr} {H : Hp} {fl : Nat} {fs : List (Nat × W)} {vs : List (Str × V)} {w : W} (inj : ∀ i, T.fld i = T.fld fl → i = fl) (r : Paired (fun p q => q.1 = T.fld p.1 ∧ RW K F ρ H p.2 q.2) fs vs) (e : lkf fl fs = some w) :
    ∃ v, vs.lookup (T.fld fl) = some v ∧ RW K F ρ H w v := by
  induction r with
  | nil => cases e
  | @cons a b l l2 x t ih =>
    obtain ⟨s, v⟩ := b
    obtain ⟨i, w'⟩ := a
    obtain ⟨x1, x2⟩ := x
    simp only at x1 x2
    unfold lkf at e ih
    rw [List.lookup_cons] at e
    by_cases hi : fl = i
    · subst hi
      rw [beq_self_eq_true] at e
      cases e
      exact ⟨v, by rw [List.lookup_cons, x1, beq_self_eq_true], x2⟩
    · rw [beq_eq_false_iff_ne.mpr hi] at e
      obtain ⟨v', e1, r1⟩ := ih e
      refine ⟨v', ?_, r1⟩
      have hb : (T.fld fl == s) = false := by
        rw [beq_eq_false_iff_ne, x1]
        exact fun z => hi (inj i z.symm).symm
      rw [List.lookup_cons, hb]
      exact e1
theorem fe_fld {fl : Nat} (inj : ∀ i, T.fld i = T.fld fl → i = fl) (cl : ∀ c, Cls X.K (T.cad c)) (na : ∀ c, NoAttr X.K (T.cad c) (T.fld fl)) (hb : attributeBase o (T.fld fl) X.env (eval o X.env) = eval o X.env) (ho : FE X T Wx o co) :
    FE X T Wx (.Attribute o (T.fld fl) pos) (cFld fl co) := PE.imp (pe_fld ho hb) fun σ H Q q => by
  obtain ⟨F, ρ, ev, ih, hr, re, hp⟩ := q
  refine ⟨F, ρ, ev, ih, hr, re, hp.bind.mono fun ρ1 H1 ih1 w g1 hr1 hp1 v r => ?_⟩
  split at hp1
  · rename_i i
    split at hp1
    · rename_i c' fs ho
      split at hp1
      · rename_i w' hw
        cases r with
        | r e =>
          obtain ⟨u, eH, ro⟩ := hr1.at e ho
          cases ro with
          | ins rs z =>
            obtain ⟨v', e1, r1⟩ := lkf_at inj rs hw
            exact ⟨_, _, _, _, v', rfl, eH, cl _, na _, e1, hp1.ok hr1 _ r1⟩
      · exact hp1.elim
    · exact hp1.elim
  · exact hp1.elim
theorem putf_at {K : PySem.W.Frag} {F ρ : List Addr} {H : Hp} {fl : Nat} {w : W} {v : V} (inj : ∀ i, T.fld i = T.fld fl → i = fl) (rv : RW K F ρ H w v) {fs : List (Nat × W)} {vs : List (Str × V)} (r : Paired (fun p q => q.1 = T.fld p.1 ∧ RW K F ρ H p.2 q.2) fs vs) :
    Paired (fun p q => q.1 = T.fld p.1 ∧ RW K F ρ H p.2 q.2) (putf fl w fs) (putF (T.fld fl) v vs) := by
  induction r with
  | nil => exact .cons ⟨rfl, rv⟩ .nil
  | @cons a b l l2 x t ih =>
    obtain ⟨s, v'⟩ := b
    obtain ⟨i, w'⟩ := a
    obtain ⟨x1, x2⟩ := x
    simp only at x1 x2
    unfold putf putF
    by_cases hi : i = fl
    · subst hi
      rw [if_pos rfl, if_pos x1]
      exact .cons ⟨x1, rv⟩ t
    · rw [if_neg hi, if_neg (fun z => hi (inj i (x1.symm.trans z)))]
      exact .cons ⟨x1, x2⟩ ih
theorem putf_len (f : Nat) (w : W) (fs : List (Nat × W)) : (putf f w fs).length ≤ fs.length + 1 := by
  induction fs with
  | nil => simp [putf]
  | cons a r ih =>
    unfold putf
    split
    · simp
    · simp only [List.length_cons]; omega
end
end Fz
set_option Elab.async false
set_option linter.all false
set_option maxRecDepth 100000
set_option maxHeartbeats 2000000
/-! Fz: statements. -/
namespace Fz
open PySem L2 PyProof.Rows

inductive SR where
  | nx (e : Ev) (h : Hh) | rt (w : W) (h : Hh) | bk (e : Ev) (h : Hh) | ct (e : Ev) (h : Hh) | ex (c : Nat) (p : W) (e : Ev) (h : Hh) | no
abbrev Cs := Ev → Hh → SR
def SR.bind (m : SR) (f : Cs) : SR := match m with
  | .nx e h => f e h
  | m => m
@[simp] theorem SR.bind_nx {e h f} : (SR.nx e h).bind f = f e h := (rfl)
@[simp] theorem SR.bind_rt {w h f} : (SR.rt w h).bind f = .rt w h := (rfl)
@[simp] theorem SR.bind_bk {e h f} : (SR.bk e h).bind f = .bk e h := (rfl)
@[simp] theorem SR.bind_ct {e h f} : (SR.ct e h).bind f = .ct e h := (rfl)
@[simp] theorem SR.bind_ex {c p e h f} : (SR.ex c p e h).bind f = .ex c p e h := (rfl)
@[simp] theorem SR.bind_no {f} : SR.no.bind f = .no := (rfl)
def lift {α : Type} (m : R α) (e : Ev) (f : α → Hh → SR) : SR := match m with
  | .ok a h => f a h
  | .ex c p h => .ex c p e h
  | .no => .no
@[simp] theorem lift_ok {α : Type} {a : α} {h e f} : lift (.ok a h) e f = f a h := (rfl)
@[simp] theorem lift_ex {α : Type} {c p h e} {f : α → Hh → SR} : lift (.ex c p h) e f = .ex c p e h := (rfl)
@[simp] theorem lift_no {α : Type} {e} {f : α → Hh → SR} : lift .no e f = .no := (rfl)

section
variable (K : PySem.W.Frag) (T : Tb) (Wx : WX)
def Pss (F ρ : List Addr) (H : Hp) (m : SR) (D : Ends) : Prop := match m with
  | .nx e' ih' => ∀ ρ' H' σ', Grow F ρ H ρ' H' → HR K T F ρ' ih' H' → RE K F ρ' H' e' σ' → D.nx σ' H'
  | .rt w ih' => ∀ ρ' H' v, Grow F ρ H ρ' H' → HR K T F ρ' ih' H' → RW K F ρ' H' w v → D.rt v H'
  | .bk e' ih' => ∀ ρ' H' σ', Grow F ρ H ρ' H' → HR K T F ρ' ih' H' → RE K F ρ' H' e' σ' → D.bk σ' H'
  | .ct e' ih' => ∀ ρ' H' σ', Grow F ρ H ρ' H' → HR K T F ρ' ih' H' → RE K F ρ' H' e' σ' → D.ct σ' H'
  | .ex c p e' ih' => ∀ ρ' H' σ' cls dx, Grow F ρ H ρ' H' → HR K T F ρ' ih' H' → RE K F ρ' H' e' σ' → XR K T F ρ' H' c p cls dx → Wx cls dx σ' H'
  | .no => False
def sOf (c : Cs) : TS := fun D σ H => ∃ F ρ e ih, HR K T F ρ ih H ∧ RE K F ρ H e σ ∧ Pss K T Wx F ρ H (c e ih) D
end
def FS (X : Cx) (T : Tb) (Wx : WX) (st : Stmt) (c : Cs) : Prop := PS X st (sOf X.K T Wx c)
def FSs (X : Cx) (T : Tb) (Wx : WX) (st : List Stmt) (c : Cs) : Prop := PSs X st (sOf X.K T Wx c)
section
variable {K : PySem.W.Frag} {T : Tb} {Wx : WX} {σ : L2.St} {F ρ ρ1 : List Addr} {H H1 : Hp} {α β : Type} {D : Ends} {ih ih1 : Hh}
theorem Pss.from (g : Grow F ρ H ρ1 H1) (hr : HR K T F ρ1 ih1 H1) {m : SR} (h : Pss K T Wx F ρ H m D) : Pss K T Wx F ρ1 H1 m D := by
  cases m with
  | no => exact h
  | nx e' ih' => exact fun ρ' H' σ' g' => h ρ' H' σ' (g.trans hr g')
  | rt e' ih' => exact fun ρ' H' σ' g' => h ρ' H' σ' (g.trans hr g')
  | bk e' ih' => exact fun ρ' H' σ' g' => h ρ' H' σ' (g.trans hr g')
  | ct e' ih' => exact fun ρ' H' σ' g' => h ρ' H' σ' (g.trans hr g')
  | ex c p e' ih' => exact fun ρ' H' σ' cls dx g' => h ρ' H' σ' cls dx (g.trans hr g')
theorem Pss.lift {m : R α} {e : Ev} {f : α → Hh → SR} (hr : HR K T F ρ ih H) (re : RE K F ρ H e σ) (h : Pss K T Wx F ρ H (Fz.lift m e f) D) :
    Pst K T Wx σ F ρ H m fun ρ1 H1 ih1 a => Pss K T Wx F ρ1 H1 (f a ih1) D := by
  cases m with
  | no => exact h
  | ok a h1 => exact fun ρ1 H1 g1 hr1 => Pss.from g1 hr1 h
  | ex c p h1 => exact fun ρ1 H1 cls dx g1 hr1 x => h ρ1 H1 σ cls dx g1 hr1 (re.grow g1 hr) x
theorem Pss.nx {e : Ev} {ih : Hh} (h : Pss K T Wx F ρ H (.nx e ih) D) (hr : HR K T F ρ ih H) (re : RE K F ρ H e σ) : D.nx σ H := h ρ H σ Grow.refl hr re
theorem Pss.bind {m : SR} {f : Cs} (h : Pss K T Wx F ρ H (m.bind f) D) : Pss K T Wx F ρ H m { D with nx := sOf K T Wx f D } := by
  cases m with
  | no => exact h
  | nx e' ih' => exact fun ρ' H' σ' g' hr re => ⟨F, ρ', e', ih', hr, re, Pss.from g' hr h⟩
  | rt e' ih' => exact h
  | bk e' ih' => exact h
  | ct e' ih' => exact h
  | ex c p e' ih' => exact h
end
section
variable {X : Cx} {T : Tb} {Wx : WX} {st : Stmt} {sts : List Stmt} {e : Expr} {pos : Pos} {c : Cd} {cs cs' : Cs}
theorem PS.imp {t t' : TS} (h : PS X st t) (f : ∀ D σ H, t' D σ H → t D σ H) : PS X st t' := ⟨fun pins s σ H D I q => h.run pins s σ H D I (f _ _ _ q)⟩
theorem PSs.imp {t t' : TS} (h : PSs X sts t) (f : ∀ D σ H, t' D σ H → t D σ H) : PSs X sts t' := ⟨fun pins s σ H D I q => h.run pins s σ H D I (f _ _ _ q)⟩
def sNx : Cs := fun e h => .nx e h
def sSeq (a b : Cs) : Cs := fun e h => (a e h).bind b
theorem nx_at {D : Ends} {σ H} (q : sOf X.K T Wx sNx D σ H) : D.nx σ H := by
  obtain ⟨F, ρ, ev, ih, hr, re, hp⟩ := q
  exact Pss.nx hp hr re
theorem fss_nil : FSs X T Wx [] sNx := PSs.imp pss_nil fun D σ H q => nx_at q
theorem fss_cons (h : FS X T Wx st cs) (hs : FSs X T Wx sts cs') : FSs X T Wx (st :: sts) (sSeq cs cs') := PSs.imp (pss_cons h hs) fun D σ H q => by
  obtain ⟨F, ρ, ev, ih, hr, re, hp⟩ := q
  exact ⟨F, ρ, ev, ih, hr, re, hp.bind⟩
theorem fss_one (h : FS X T Wx st cs) : FSs X T Wx [st] cs := pss_one h
theorem fs_pass : FS X T Wx (.Pass pos) sNx := PS.imp ps_pass fun D σ H q => nx_at q
theorem fs_doc {x j pos'} : FS X T Wx (.Expr (.Constant (.str x) j pos) pos') sNx := PS.imp ps_doc fun D σ H q => nx_at q
def sBk : Cs := fun e h => .bk e h
def sCt : Cs := fun e h => .ct e h
theorem fs_break : FS X T Wx (.Break pos) sBk := PS.imp ps_break fun D σ H q => by
  obtain ⟨F, ρ, ev, ih, hr, re, hp⟩ := q
  exact hp _ _ _ Grow.refl hr re
theorem fs_continue : FS X T Wx (.Continue pos) sCt := PS.imp ps_continue fun D σ H q => by
  obtain ⟨F, ρ, ev, ih, hr, re, hp⟩ := q
  exact hp _ _ _ Grow.refl hr re
def sNo : Cs := fun _ _ => .no
theorem fs_never : FS X T Wx st sNo := PS.imp ps_never fun D σ H q => by
  obtain ⟨F, ρ, ev, ih, hr, re, hp⟩ := q
  exact hp.elim
def sExpr (c : Cd) : Cs := fun e h => lift (c e h) e fun _ h => .nx e h
theorem fs_expr (hs : swapsWith e none pos.line X.env = pure false) (h : FE X T Wx e c) : FS X T Wx (.Expr e pos) (sExpr c) := PS.imp (ps_expr h hs) fun D σ H q => by
  obtain ⟨F, ρ, ev, ih, hr, re, hp⟩ := q
  exact ⟨F, ρ, ev, ih, hr, re, (Pss.lift hr re hp).mono fun ρ1 H1 ih1 w g1 hr1 hp1 v r => Pss.nx hp1 hr1 (re.grow g1 hr)⟩
def sRet (c : Cd) : Cs := fun e h => lift (c e h) e fun w h => .rt w h
theorem fs_ret (h : FE X T Wx e c) : FS X T Wx (.Return (some e) pos) (sRet c) := PS.imp (ps_ret h) fun D σ H q => by
  obtain ⟨F, ρ, ev, ih, hr, re, hp⟩ := q
  exact ⟨F, ρ, ev, ih, hr, re, (Pss.lift hr re hp).mono fun ρ1 H1 ih1 w g1 hr1 hp1 v r => hp1 _ _ _ Grow.refl hr1 r⟩
def sRetN : Cs := fun _ h => .rt (.d .non) h
theorem fs_retN : FS X T Wx (.Return none pos) sRetN := PS.imp ps_retN fun D σ H q => by
  obtain ⟨F, ρ, ev, ih, hr, re, hp⟩ := q
  exact hp _ _ _ Grow.refl hr (.d .non)
def sIf (t : Cb) (a b : Cs) : Cs := fun e h => lift (t e h) e fun k h => if k then a e h else b e h
theorem fs_if {t : Expr} {a b : List Stmt} {ct : Cb} {ca cb : Cs} (ht : FT' X T Wx t ct) (ha : FSs X T Wx a ca) (hb : FSs X T Wx b cb) : FS X T Wx (.If t a b pos) (sIf ct ca cb) := PS.imp (ps_if ht ha hb) fun D σ H q => by
  obtain ⟨F, ρ, ev, ih, hr, re, hp⟩ := q
  refine ⟨F, ρ, ev, ih, hr, re, (Pss.lift hr re hp).mono fun ρ1 H1 ih1 k g1 hr1 hp1 => ?_⟩
  have re1 := re.grow g1 hr
  cases k with
  | true => exact iteT ⟨F, ρ1, ev, ih1, hr1, re1, hp1⟩
  | false => exact iteF ⟨F, ρ1, ev, ih1, hr1, re1, hp1⟩

/-! ### targets -/
abbrev Ct := W → Ev → Hh → Option Ev
abbrev Cts := List W → Ev → Hh → Option Ev
/-- only the slots vs may differ -/
def Mod (vs : List Nat) (σ σ' : L2.St) : Prop := σ'.length = σ.length ∧ ∀ j, j ∉ vs → σ'[j]? = σ[j]?
theorem Mod.refl {vs σ} : Mod vs σ σ := ⟨rfl, fun _ _ => rfl⟩
theorem Mod.trans {vs σ σ1 σ2} (a : Mod vs σ σ1) (b : Mod vs σ1 σ2) : Mod vs σ σ2 := ⟨b.1.trans a.1, fun j h => (b.2 j h).trans (a.2 j h)⟩
theorem Mod.mono {vs vs' σ σ1} (a : Mod vs σ σ1) (h : ∀ j, j ∈ vs → j ∈ vs') : Mod vs' σ σ1 := ⟨a.1, fun j n => a.2 j fun m => n (h j m)⟩
theorem Mod.set {σ : L2.St} {i : Nat} {v : Option V} : Mod [i] σ (σ.set i v) := ⟨by simp, fun j h => by rw [List.getElem?_set_ne (fun e => h (by simp [e]))]⟩
def gOf (K : PySem.W.Frag) (T : Tb) (vs : List Nat) (c : Ct) : TG := fun v σ H Q => ∃ F ρ e ih w e', HR K T F ρ ih H ∧ RE K F ρ H e σ ∧ RW K F ρ H w v ∧ c w e ih = some e' ∧ ∀ σ', RE K F ρ H e' σ' → Mod vs σ σ' → Q σ' H
def gsOf (K : PySem.W.Frag) (T : Tb) (is : List Nat) (c : Cts) : TGs := fun vs σ H Q => ∃ F ρ e ih ws e', HR K T F ρ ih H ∧ RE K F ρ H e σ ∧ RWs K F ρ H ws vs ∧ c ws e ih = some e' ∧ ∀ σ', RE K F ρ H e' σ' → Mod is σ σ' → Q σ' H
def FG (X : Cx) (T : Tb) (tg : Expr) (vs : List Nat) (c : Ct) : Prop := PG X tg (gOf X.K T vs c)
def FGs (X : Cx) (T : Tb) (tg : List Expr) (vs : List Nat) (c : Cts) : Prop := PGs X tg (gsOf X.K T vs c)
theorem PG.imp {tg : Expr} {t t' : TG} (h : PG X tg t) (f : ∀ v σ H Q, t' v σ H Q → t v σ H Q) : PG X tg t' := ⟨fun pins s σ H v u Q I r q => h.run pins s σ H v u Q I r (f _ _ _ _ q)⟩
theorem PGs.imp {tg : List Expr} {t t' : TGs} (h : PGs X tg t) (f : ∀ v σ H Q, t' v σ H Q → t v σ H Q) : PGs X tg t' := ⟨fun pins s σ H v u Q I r q => h.run pins s σ H v u Q I r (f _ _ _ _ q)⟩
def tN (i : Nat) : Ct := fun w e _ => some (e.set i (some w))
theorem RE.set {K F ρ H e σ} (r : RE K F ρ H e σ) (i : Nat) {w : W} {v : V} (rv : RW K F ρ H w v) : RE K F ρ H (e.set i (some w)) (σ.set i (some v)) := by
  refine ⟨by simp [r.1], fun j w' q => ?_⟩
  by_cases hj : i = j
  · subst hj
    by_cases hl : i < e.length
    · rw [List.getElem?_set_self hl] at q
      cases q
      exact ⟨v, by rw [List.getElem?_set_self (by rw [← r.1]; exact hl)], rv⟩
    · rw [List.getElem?_eq_none (by simpa using hl)] at q
      cases q
  · rw [List.getElem?_set_ne hj] at q
    obtain ⟨v', e1, r1⟩ := r.2 j w' q
    exact ⟨v', by rw [List.getElem?_set_ne hj]; exact e1, r1⟩
theorem fg_n {i : Nat} {x : Str} (h : PG X (.Name x pos) (gName i)) : FG X T (.Name x pos) [i] (tN i) := PG.imp h fun v σ H Q q => by
  obtain ⟨F, ρ, e, ih, w, e', hr, re, r, he, hq⟩ := q
  cases he
  exact hq _ (re.set i r) Mod.set
def tNil : Cts := fun ws e _ => match ws with
  | [] => some e
  | _ => none
def tCns (a : Ct) (b : Cts) : Cts := fun ws e h => match ws with
  | [] => none
  | w :: r => (a w e h).bind fun e => b r e h
theorem fgs_nil : FGs X T [] [] Fz.tNil := PGs.imp pgs_nil fun vs σ H Q q => by
  obtain ⟨F, ρ, e, ih, ws, e', hr, re, r, he, hq⟩ := q
  unfold Fz.tNil at he
  split at he
  · cases he
    cases r
    exact ⟨rfl, hq _ re Mod.refl⟩
  · cases he
theorem fgs_cons {tg : Expr} {tgs : List Expr} {is js : List Nat} {ca : Ct} {cb : Cts} (hs : (assignEach (tg :: tgs) X.env).map (·.2) = assign tg X.env :: (assignEach tgs X.env).map (·.2)) (h1 : FG X T tg is ca) (h2 : FGs X T tgs js cb) : FGs X T (tg :: tgs) (is ++ js) (tCns ca cb) :=
  PGs.imp (pgs_cons h1 h2 hs) fun vs σ H Q q => by
    obtain ⟨F, ρ, e, ih, ws, e', hr, re, r, he, hq⟩ := q
    unfold tCns at he
    split at he
    · cases he
    · rename_i w ws'
      cases r with
      | cons rv rs =>
        rw [Option.bind_eq_some_iff] at he
        obtain ⟨e1, q1, q2⟩ := he
        exact ⟨_, _, rfl, F, ρ, e, ih, w, e1, hr, re, rv, q1, fun σ1 re1 m1 => ⟨F, ρ, e1, ih, ws', e', hr, re1, rs, q2, fun σ2 re2 m2 => hq σ2 re2 ((m1.mono fun j m => List.mem_append_left _ m).trans (m2.mono fun j m => List.mem_append_right _ m))⟩⟩
def tTp (c : Cts) : Ct := fun w e h => match w with
  | .d (.tup l) => c (l.map .d) e h
  | _ => none
/-- a tuple's target: it asks just so many -/
structure Len (c : Cts) (n : Nat) : Prop where
  len : ∀ ws e h e', c ws e h = some e' → ws.length = n
theorem len_nil : Len Fz.tNil 0 := ⟨fun ws e h e' q => by unfold Fz.tNil at q; split at q <;> simp_all⟩
theorem len_cns {a : Ct} {b : Cts} {n : Nat} (h : Len b n) : Len (tCns a b) (n + 1) := ⟨fun ws e h' e' q => by
  unfold tCns at q
  split at q
  · cases q
  · rw [Option.bind_eq_some_iff] at q
    obtain ⟨e1, q1, q2⟩ := q
    simp [h.len _ _ _ _ q2]⟩
theorem fg_t {tgs : List Expr} {k n : Nat} {is : List Nat} {cb : Cts} (hc : X.calm = true) (ln : Len cb n) (hn : (assignEach tgs X.env).length = n) (hst : (assignEach tgs X.env).findIdx? (·.1) = none) (h : FGs X T tgs is cb) : FG X T (.Tuple tgs k pos) is (tTp cb) :=
  PG.imp (pg_tup hc h hn hst) fun v σ H Q q => by
    obtain ⟨F, ρ, e, ih, w, e', hr, re, r, he, hq⟩ := q
    unfold tTp at he
    split at he
    · rename_i l
      cases r with | d r => cases r with | tup t z rl =>
        have hl := ln.len _ _ _ _ he
        refine ⟨_, _, rfl, t.sq, by rw [← rl.rws.length]; exact hl, F, ρ, e, ih, _, e', hr, re, rl.rws, he, hq⟩
    · cases he
/-! ### assignments -/
def sAsg (c : Cd) (t : Ct) : Cs := fun e h => lift (c e h) e fun w h => match t w e h with
  | some e' => .nx e' h
  | none => .no
theorem asg_at {D : Ends} {t : Ct} {F ρ : List Addr} {H : Hp} {e : Ev} {ih : Hh} {w : W} {v : V} {σ : L2.St} (hr : HR X.K T F ρ ih H) (re : RE X.K F ρ H e σ) (r : RW X.K F ρ H w v)
    (hp : Pss X.K T Wx F ρ H (match t w e ih with
      | some e' => .nx e' ih
      | none => .no) D) {vs : List Nat} : gOf X.K T vs t v σ H D.nx := by
  cases q : t w e ih with
  | none => rw [q] at hp; exact hp.elim
  | some e' =>
    rw [q] at hp
    exact ⟨F, ρ, e, ih, w, e', hr, re, r, q, fun σ' re' _ => Pss.nx hp hr re'⟩
theorem fs_asg {tg : Expr} {is : List Nat} {t : Ct} (hs : swapsWithSole [tg] e pos.line X.env = pure false) (hw : swappedStores [tg] e X.env = pure none) (h1 : (assignEach [tg] X.env).map (·.2) = [assign tg X.env]) (he : FE X T Wx e c) (hg : FG X T tg is t) :
    FS X T Wx (.Assign [tg] e pos) (sAsg c t) := PS.imp (ps_asg he hg hs hw h1) fun D σ H q => by
  obtain ⟨F, ρ, ev, ih, hr, re, hp⟩ := q
  exact ⟨F, ρ, ev, ih, hr, re, (Pss.lift hr re hp).mono fun ρ1 H1 ih1 w g1 hr1 hp1 v r => asg_at hr1 (re.grow g1 hr) r hp1⟩
theorem fs_set {i : Nat} {x : Str} {pos' : Pos} (h : ∀ te, PE X e te → PS X (.Assign [.Name x pos'] e pos) (tAsg te (gName i))) (he : FE X T Wx e c) : FS X T Wx (.Assign [.Name x pos'] e pos) (sAsg c (tN i)) := PS.imp (h _ he) fun D σ H q => by
  obtain ⟨F, ρ, ev, ih, hr, re, hp⟩ := q
  refine ⟨F, ρ, ev, ih, hr, re, (Pss.lift hr re hp).mono fun ρ1 H1 ih1 w g1 hr1 hp1 v r => ?_⟩
  exact Pss.nx hp1 hr1 ((re.grow g1 hr).set i r)
/-- a, b, .. = x, y, .. -/
def sPar (a : Ca) (t : Cts) : Cs := fun e h => lift (a e h) e fun ws h => match t ws e h with
  | some e' => .nx e' h
  | none => .no
theorem fs_par {es tgs : List Expr} {is : List Nat} {k1 k2 : Nat} {p1 p2 : Pos} {ca : Ca} {cb : Cts} {n : Nat} (hc : X.calm = true) (ln : Len cb n) (hn : (assignEach tgs X.env).length = n) (hst : (assignEach tgs X.env).findIdx? (·.1) = none) (hz : n ≤ sizeLine)
    (hs : swapsWithSole [.Tuple tgs k1 p1] (.Tuple es k2 p2) pos.line X.env = pure false) (hw : swappedStores [.Tuple tgs k1 p1] (.Tuple es k2 p2) X.env = pure none)
    (h1 : (assignEach [.Tuple tgs k1 p1] X.env).map (·.2) = [assign (.Tuple tgs k1 p1) X.env]) (ha : FA X T Wx es ca) (hg : FGs X T tgs is cb) : FS X T Wx (.Assign [.Tuple tgs k1 p1] (.Tuple es k2 p2) pos) (sPar ca cb) :=
  PS.imp (ps_asg (pe_tup ha) (pg_tup hc hg hn hst) hs hw h1) fun D σ H q => by
    obtain ⟨F, ρ, ev, ih, hr, re, hp⟩ := q
    refine ⟨F, ρ, ev, ih, hr, re, (Pss.lift hr re hp).mono fun ρ1 H1 ih1 ws g1 hr1 hp1 vs rs => ?_⟩
    have re1 := re.grow g1 hr
    cases q : cb ws ev ih1 with
    | none => rw [q] at hp1; exact hp1.elim
    | some e' =>
      rw [q] at hp1
      have hl := ln.len _ _ _ _ q
      refine ⟨by rw [← rs.length, hl]; exact hz, fun p np => ⟨p, vs, rfl, .inl (.inl upd_same), by rw [← rs.length]; exact hl, ?_⟩⟩
      have gn : Grow F ρ1 H1 ρ1 (upd H1 p (.tup vs)) := grow_new np
      exact ⟨F, ρ1, ev, ih1, ws, e', hr1.new np, re1.grow gn hr1, RWs.grow gn hr1 rs, q, fun σ' re' _ => hp1 _ _ _ gn (hr1.new np) re'⟩
theorem fs_par2 {es tgs : List Expr} {k1 k2 : Nat} {p1 p2 : Pos} {ca : Ca} {i j : Nat} (h : ∀ ta, PA X es ta → PS X (.Assign [.Tuple tgs k1 p1] (.Tuple es k2 p2) pos) (tPar i j ta)) (ha : FA X T Wx es ca) :
    FS X T Wx (.Assign [.Tuple tgs k1 p1] (.Tuple es k2 p2) pos) (sPar ca (tCns (tN i) (tCns (tN j) Fz.tNil))) := PS.imp (h _ ha) fun D σ H q => by
  obtain ⟨F, ρ, ev, ih, hr, re, hp⟩ := q
  refine ⟨F, ρ, ev, ih, hr, re, (Pss.lift hr re hp).mono fun ρ1 H1 ih1 ws g1 hr1 hp1 vs rs => ?_⟩
  have re1 := re.grow g1 hr
  match ws, vs, rs, hp1 with
  | [a, b], [v, w], .cons r1 (.cons r2 .nil), hp1 => exact ⟨v, w, rfl, Pss.nx hp1 hr1 ((re1.set i r1).set j r2)⟩
  | [], _, _, hp1 => exact hp1.elim
  | [a], _, _, hp1 => exact hp1.elim
  | _ :: _ :: _ :: _, _, _, hp1 => exact hp1.elim
theorem fs_par3 {es tgs : List Expr} {k1 k2 : Nat} {p1 p2 : Pos} {ca : Ca} {i j l : Nat} (h : ∀ ta, PA X es ta → PS X (.Assign [.Tuple tgs k1 p1] (.Tuple es k2 p2) pos) (tPar3 i j l ta)) (ha : FA X T Wx es ca) :
    FS X T Wx (.Assign [.Tuple tgs k1 p1] (.Tuple es k2 p2) pos) (sPar ca (tCns (tN i) (tCns (tN j) (tCns (tN l) Fz.tNil)))) := PS.imp (h _ ha) fun D σ H q => by
  obtain ⟨F, ρ, ev, ih, hr, re, hp⟩ := q
  refine ⟨F, ρ, ev, ih, hr, re, (Pss.lift hr re hp).mono fun ρ1 H1 ih1 ws g1 hr1 hp1 vs rs => ?_⟩
  have re1 := re.grow g1 hr
  match ws, vs, rs, hp1 with
  | [a, b, c], [u, v, w], .cons r1 (.cons r2 (.cons r3 .nil)), hp1 => exact ⟨u, v, w, rfl, Pss.nx hp1 hr1 (((re1.set i r1).set j r2).set l r3)⟩
  | [], _, _, hp1 => exact hp1.elim
  | [a], _, _, hp1 => exact hp1.elim
  | [a, b], _, _, hp1 => exact hp1.elim
  | _ :: _ :: _ :: _ :: _, _, _, hp1 => exact hp1.elim
/-- x op= e -/
def sAug (i : Nat) (op : W → W → Hh → R W) (c : Cd) : Cs := fun e h => match e[i]? with
  | some (some x) => lift ((c e h).bind fun y h => op x y h) e fun w h => .nx (e.set i (some w)) h
  | _ => .no
theorem fs_aug {i : Nat} {x : Str} {o : Operator} {ti : TIp} {op : W → W → Hh → R W} {pos' : Pos} (hf : FOp X.K T op ti) (h : ∀ te, PE X e te → PS X (.AugAssign (.Name x pos') o e pos) (tAug i te ti)) (he : FE X T Wx e c) :
    FS X T Wx (.AugAssign (.Name x pos') o e pos) (sAug i op c) := PS.imp (h _ he) fun D σ H q => by
  obtain ⟨F, ρ, ev, ih, hr, re, hp⟩ := q
  unfold sAug at hp
  split at hp
  · rename_i x hx
    obtain ⟨v, e1, r1⟩ := re.2 i x hx
    refine ⟨v, e1, F, ρ, ev, ih, hr, re, ((Pss.lift hr re hp).bind).mono fun ρ1 H1 ih1 y g1 hr1 hp1 u r2 => ?_⟩
    have re1 := re.grow g1 hr
    exact hf Wx σ F ρ1 ih1 H1 x y v u _ hr1 (r1.grow g1 hr) r2 (hp1.mono fun ρ2 H2 ih2 w g2 hr2 hp2 v' r' => Pss.nx hp2 hr2 ((re1.grow g2 hr1).set i r'))
  · exact hp.elim
/-- o.f = e -/
def putF' (x : W) (f : Nat) (w : W) (h : Hh) : Option Hh := match x with
  | .r i => match h[i]? with
    | some (.ins c fs) => if fs.length < 800 then some (h.set i (.ins c (putf f w fs))) else none
    | _ => none
  | _ => none
def sFld (f : Nat) (o c : Cd) : Cs := fun e h => lift (c e h) e fun w h => lift (o e h) e fun x h => match putF' x f w h with
  | some h' => .nx e h'
  | none => .no
theorem putF_at {F ρ : List Addr} {H : Hp} {ih ih' : Hh} {x w : W} {v u : V} {fl : Nat} (inj : ∀ i, T.fld i = T.fld fl → i = fl) (hr : HR X.K T F ρ ih H) (rx : RW X.K F ρ H x v) (rw : RW X.K F ρ H w u) (e : putF' x fl w ih = some ih') :
    ∃ a c dx fs, v = .ref a ∧ H a = some (.ins (T.cad c) dx fs) ∧ fs.length < 1000 ∧ a ∈ ρ ∧ HR X.K T F ρ ih' (upd H a (.ins (T.cad c) dx (putF (T.fld fl) u fs))) := by
  unfold putF' at e
  split at e
  · rename_i i
    split at e
    · rename_i c fs ho
      split at e
      · rename_i hl
        cases e
        cases rx with
        | r ei =>
          obtain ⟨o, eH, ro⟩ := hr.at ei ho
          cases ro with
          | ins rs z =>
            have m := List.mem_of_getElem? ei
            refine ⟨_, _, _, _, rfl, eH, by rw [← Paired.length rs]; omega, m, hr.set ei (.ins (putf_at inj (rw.kp (keep_set m) fun _ _ q => q) (Paired.mapP rs fun _ _ y => ⟨y.1, y.2.kp (keep_set m) fun _ _ q => q⟩)) ?_)⟩
            exact Nat.lt_of_le_of_lt (putf_len _ _ _) (by omega)
      · cases e
    · cases e
  · cases e
theorem fs_fld {o : Expr} {co : Cd} {fl : Nat} {f : Str} {pos' : Pos} (hf : T.fld fl = f) (inj : ∀ i, T.fld i = T.fld fl → i = fl) (cl : ∀ c, Cls X.K (T.cad c)) (na : ∀ c, NoAttr X.K (T.cad c) f) (hs : swapsWith e (some (.Attribute o f pos')) pos.line X.env = pure false)
    (ho : FE X T Wx o co) (he : FE X T Wx e c) : FS X T Wx (.Assign [.Attribute o f pos'] e pos) (Fz.sFld fl co c) := PS.imp (ps_fld ho he hs) fun D σ H q => by
  subst hf
  obtain ⟨F, ρ, ev, ih, hr, re, hp⟩ := q
  refine ⟨F, ρ, ev, ih, hr, re, (Pss.lift hr re hp).mono fun ρ1 H1 ih1 w g1 hr1 hp1 u r1 => ?_⟩
  have re1 := re.grow g1 hr
  refine ⟨F, ρ1, ev, ih1, hr1, re1, (Pss.lift hr1 re1 hp1).mono fun ρ2 H2 ih2 x g2 hr2 hp2 v r2 => ?_⟩
  split at hp2
  · rename_i h' q
    obtain ⟨a, c', dx, fs, rfl, eH, hl, m, hr3⟩ := putF_at inj hr2 r2 (r1.grow g2 hr1) q
    exact ⟨_, _, _, _, rfl, eH, cl _, na _, hl, hp2 _ _ _ (grow_set m (nf_of eH trivial)) hr3 ((re1.grow g2 hr1).grow (grow_set m (nf_of eH trivial)) hr2)⟩
  · exact hp2.elim
end
end Fz
set_option Elab.async false
set_option linter.all false
set_option maxRecDepth 100000
set_option maxHeartbeats 2000000
/-! Fz: what is walked, for and while. -/
namespace Fz
open PySem L2 PyProof.Rows

/-- an item: a value, or a new tuple of values -/
inductive Y where
  | w (x : W) | t (l : List W)
inductive YR (K : PySem.W.Frag) (F ρ : List Addr) (H : Hp) : Y → V → Prop
  | w {x : W} {v : V} : RW K F ρ H x v → YR K F ρ H (.w x) v
  | t {l : List W} {p : Addr} {vs : List V} : H p = some (.tup vs) → p ∉ F ++ ρ → RWs K F ρ H l vs → YR K F ρ H (.t l) (.ref p)
/-- what is walked: its items as they stand in a heap -/
abbrev Src := Hh → Option (List Y)
/-- what stood stands, other things may have become foreign -/
structure Ext (F ρ : List Addr) (H : Hp) (F' ρ' : List Addr) (H' : Hp) : Prop where
  more : ∃ m, ρ' = ρ ++ m
  k : Keep (F ++ ρ) H (F' ++ ρ') H'
  frz : ∀ a od u, H a = some (.frz od u) → H' a = some (.frz od u)
theorem Ext.get {F ρ H F' ρ' H'} (g : Ext F ρ H F' ρ' H') {n : Nat} {a : Addr} (h : ρ[n]? = some a) : ρ'[n]? = some a := by
  obtain ⟨m, rfl⟩ := g.more
  rw [List.getElem?_append_left (List.getElem?_eq_some_iff.mp h).1]
  exact h
theorem Grow.ext {K T F ρ H ρ' H' ih} (g : Grow F ρ H ρ' H') (h : HR K T F ρ ih H) : Ext F ρ H F ρ' H' := ⟨g.more, g.keepM h, g.frz⟩
structure Good (K : PySem.W.Frag) (T : Tb) (J : It) (src : Src) (F ρ : List Addr) (H : Hp) : Prop where
  goes : ∀ F' ρ' H' ih' l i y, Ext F ρ H F' ρ' H' → HR K T F' ρ' ih' H' → src ih' = some l → l[i]? = some y → J.go i H' ∧ ∀ x H'', J.yld i H' x H'' → Grow F' ρ' H' ρ' H'' ∧ HR K T F' ρ' ih' H'' ∧ YR K F' ρ' H'' y x
  stops : ∀ F' ρ' H' ih' l i, Ext F ρ H F' ρ' H' → HR K T F' ρ' ih' H' → src ih' = some l → l.length ≤ i → J.stop i H'
abbrev Ci := Ev → Hh → R Src
def iOf (K : PySem.W.Frag) (T : Tb) (Wx : WX) (c : Ci) : TI := fun σ H R => ∃ F ρ e ih, HR K T F ρ ih H ∧ RE K F ρ H e σ ∧ Pst K T Wx σ F ρ H (c e ih) fun ρ' H' _ src => ∀ J, Good K T J src F ρ' H' → R J H'
def FI (X : Cx) (T : Tb) (Wx : WX) (tg iter : Expr) (c : Ci) : Prop := PI X tg iter (iOf X.K T Wx c)
section
variable {X : Cx} {T : Tb} {Wx : WX} {tg iter e : Expr} {pos : Pos} {c : Cd}
theorem PI.imp {t t' : TI} (h : PI X tg iter t) (f : ∀ σ H Q, t' σ H Q → t σ H Q) : PI X tg iter t' := ⟨fun pins s σ H R I q => h.run pins s σ H R I (f _ _ _ q)⟩
theorem pi_or {t t' : TI} (h : PI X tg iter t) (h' : PI X tg iter t') : PI X tg iter fun σ H Q => t σ H Q ∨ t' σ H Q := ⟨fun pins s σ H R I q => q.elim (h.run pins s σ H R I) (h'.run pins s σ H R I)⟩
def fixS (l : List Y) : Src := fun _ => some l
def refS (n : Nat) : Src := fun h => match h[n]? with
  | some (.lst l) => some (l.map .w)
  | _ => none
/-- the items of a value -/
def srcOf (w : W) (h : Hh) : R Src := match w with
  | .d (.lst l) => .ok (fixS (l.map fun x => .w (.d x))) h
  | .d (.tup l) => .ok (fixS (l.map fun x => .w (.d x))) h
  | .d (.str l) => .ok (fixS (l.map fun x => .w (.d (.str [x])))) h
  | .r n => match h[n]? with
    | some (.lst _) => .ok (refS n) h
    | _ => .no
  | _ => .no
def cIt (c : Cd) : Ci := fun e h => (c e h).bind srcOf
theorem Rd.lst_inj {H : Hp} {a : Addr} {xs ys : List V} (h : Rd H a (.lst xs)) (h' : Rd H a (.lst ys)) : xs = ys := by
  rcases h with h | ⟨o, h⟩ <;> rcases h' with h' | ⟨o', h'⟩ <;> rw [h] at h' <;> cases h' <;> rfl
theorem Rd.tup_inj {H : Hp} {a : Addr} {xs ys : List V} (h : Rd H a (.tup xs)) (h' : Rd H a (.tup ys)) : xs = ys := by
  rcases h with h | ⟨o, h⟩ <;> rcases h' with h' | ⟨o', h'⟩ <;> rw [h] at h' <;> cases h' <;> rfl
theorem RpL.get {K M H} {a : List D} {vs : List V} (h : RpL K M H a vs) : ∀ {n : Nat} {x : D}, a[n]? = some x → ∃ v, vs[n]? = some v ∧ Rp K M H x v := by
  intro n
  induction n generalizing a vs with
  | zero => intro x e; cases h with
    | nil => simp at e
    | cons r t => simp at e; subst e; exact ⟨_, rfl, r⟩
  | succ n ih => intro x e; cases h with
    | nil => simp at e
    | cons r t => simp at e; obtain ⟨v, e1, r1⟩ := ih t e; exact ⟨v, by simpa using e1, r1⟩
theorem good_lst {K : PySem.W.Frag} {F ρ : List Addr} {H : Hp} {ih : Hh} {ds : List D} {a : Addr} {vs : List V} (hr : HR K T F ρ ih H) (h : FL K (F ++ ρ) H a vs) (rl : RpL K (F ++ ρ) H ds vs) : Good K T (Itl K a) (fixS (ds.map fun x => .w (.d x))) F ρ H where
  goes := fun F' ρ' H' ih' l i y g hr' e hy => by
    cases e
    have h' := h.keep g.k
    have rl' := rl.keep g.k
    rw [List.getElem?_map, Option.map_eq_some_iff] at hy
    obtain ⟨x, hx, rfl⟩ := hy
    obtain ⟨v, e1, r1⟩ := rl'.get hx
    refine ⟨⟨_, _, h'.sq, e1⟩, fun u H'' q => ?_⟩
    obtain ⟨rfl, q2⟩ := q
    have := q2 _ h'.sq
    rw [e1] at this
    cases this
    exact ⟨Grow.refl, hr', .w (.d r1)⟩
  stops := fun F' ρ' H' ih' l i g hr' e hl => by
    cases e
    exact ⟨_, (h.keep g.k).sq, by rw [← rl.length]; simpa using hl⟩
theorem good_tup {K : PySem.W.Frag} {F ρ : List Addr} {H : Hp} {ih : Hh} {ds : List D} {a : Addr} {vs : List V} (hr : HR K T F ρ ih H) (h : FT K (F ++ ρ) H a vs) (rl : RpL K (F ++ ρ) H ds vs) : Good K T (Itt K a) (fixS (ds.map fun x => .w (.d x))) F ρ H where
  goes := fun F' ρ' H' ih' l i y g hr' e hy => by
    cases e
    have h' := h.keep g.k
    have rl' := rl.keep g.k
    rw [List.getElem?_map, Option.map_eq_some_iff] at hy
    obtain ⟨x, hx, rfl⟩ := hy
    obtain ⟨v, e1, r1⟩ := rl'.get hx
    refine ⟨⟨_, _, h'.sq, e1⟩, fun u H'' q => ?_⟩
    obtain ⟨rfl, q2⟩ := q
    have := q2 _ h'.sq
    rw [e1] at this
    cases this
    exact ⟨Grow.refl, hr', .w (.d r1)⟩
  stops := fun F' ρ' H' ih' l i g hr' e hl => by
    cases e
    exact ⟨_, (h.keep g.k).sq, by rw [← rl.length]; simpa using hl⟩
theorem refS_at {n : Nat} {h : Hh} {l : List Y} (e : refS n h = some l) : ∃ ws, h[n]? = some (.lst ws) ∧ l = ws.map .w := by
  unfold refS at e
  split at e
  · cases e; exact ⟨_, by assumption, rfl⟩
  · cases e
theorem good_ref {K : PySem.W.Frag} {F ρ : List Addr} {H : Hp} {n : Nat} {a : Addr} (hn : ρ[n]? = some a) : Good K T (Itl K a) (refS n) F ρ H where
  goes := fun F' ρ' H' ih' l i y g hr' e hy => by
    obtain ⟨ws, ho, rfl⟩ := refS_at e
    obtain ⟨u, eH, ro⟩ := hr'.at (g.get hn) ho
    cases ro with
    | lst z rs =>
      rw [List.getElem?_map, Option.map_eq_some_iff] at hy
      obtain ⟨x, hx, rfl⟩ := hy
      obtain ⟨v, e1, r1⟩ := rs.get hx
      refine ⟨⟨_, _, .inl (.inl eH), e1⟩, fun u H'' q => ?_⟩
      obtain ⟨rfl, q2⟩ := q
      have := q2 _ (.inl (.inl eH))
      rw [e1] at this
      cases this
      exact ⟨Grow.refl, hr', .w r1⟩
  stops := fun F' ρ' H' ih' l i g hr' e hl => by
    obtain ⟨ws, ho, rfl⟩ := refS_at e
    obtain ⟨u, eH, ro⟩ := hr'.at (g.get hn) ho
    cases ro with
    | lst z rs => exact ⟨_, .inl (.inl eH), by rw [← rs.length]; simpa using hl⟩
theorem good_str {K : PySem.W.Frag} {F ρ : List Addr} {H : Hp} (z : List Nat) : Good K T (Its (toStr z)) (fixS (z.map fun x => .w (.d (.str [x])))) F ρ H where
  goes := fun F' ρ' H' ih' l i y g hr' e hy => by
    cases e
    rw [List.getElem?_map, Option.map_eq_some_iff] at hy
    obtain ⟨x, hx, rfl⟩ := hy
    refine ⟨by show i < (toStr z).cps.size; have := (List.getElem?_eq_some_iff.mp hx).1; simpa [toStr] using this, fun u H'' q => ?_⟩
    obtain ⟨rfl, ch, q2, rfl⟩ := q
    have q3 : z[i]? = some ch := by simpa [toStr] using q2
    rw [hx] at q3
    cases q3
    exact ⟨Grow.refl, hr', .w (.d (.str [x] (by show 1 ≤ sizeLine; decide)))⟩
  stops := fun F' ρ' H' ih' l i g hr' e hl => by
    cases e
    show (toStr z).cps.size ≤ i
    simpa [toStr] using hl
theorem fi_it (h : FE X T Wx e c) : FI X T Wx tg e (cIt c) := PI.imp (pi_or (pi_list h) (pi_or (pi_tup h) (pi_str h))) fun σ H R q => by
  obtain ⟨F, ρ, ev, ih, hr, re, hp⟩ := q
  unfold cIt at hp
  have hp' := hp.bind
  cases q : c ev ih with
  | no => rw [q] at hp'; exact hp'.elim
  | ex a b d =>
    refine .inl ⟨F, ρ, ev, ih, hr, re, ?_⟩
    rw [q] at hp' ⊢
    exact hp'
  | ok w h1 =>
    rw [q] at hp'
    have key : ∀ ρ1 H1, Grow F ρ H ρ1 H1 → HR X.K T F ρ1 h1 H1 → Pst X.K T Wx σ F ρ1 H1 (srcOf w h1) fun ρ' H' _ src => ∀ J, Good X.K T J src F ρ' H' → R J H' := hp'
    cases w with
    | f n =>
      refine .inl ⟨F, ρ, ev, ih, hr, re, ?_⟩
      rw [q]
      intro ρ1 H1 g1 hr1 v r
      have hp1 := key ρ1 H1 g1 hr1
      unfold srcOf at hp1
      exact hp1.elim
    | r n =>
      refine .inl ⟨F, ρ, ev, ih, hr, re, ?_⟩
      rw [q]
      intro ρ1 H1 g1 hr1 v r
      have hp1 := key ρ1 H1 g1 hr1
      unfold srcOf at hp1
      dsimp only at hp1
      split at hp1
      · rename_i l ho
        cases r with
        | r hn =>
          obtain ⟨u, eH, ro⟩ := hr1.at hn ho
          cases ro with
          | lst z rs => exact ⟨_, rfl, ⟨_, .inl (.inl eH)⟩, hp1.ok hr1 _ (good_ref hn)⟩
      · exact hp1.elim
    | d x =>
      cases x with
      | tup l =>
        refine .inr (.inl ⟨F, ρ, ev, ih, hr, re, ?_⟩)
        rw [q]
        intro ρ1 H1 g1 hr1 v r
        cases r with | d r => cases r with | tup t z rl =>
          exact ⟨_, rfl, ⟨_, t.sq⟩, (key ρ1 H1 g1 hr1).ok hr1 _ (good_tup hr1 t rl)⟩
      | lst l =>
        refine .inl ⟨F, ρ, ev, ih, hr, re, ?_⟩
        rw [q]
        intro ρ1 H1 g1 hr1 v r
        cases r with | d r => cases r with | lst t z rl =>
          exact ⟨_, rfl, ⟨_, t.sq⟩, (key ρ1 H1 g1 hr1).ok hr1 _ (good_lst hr1 t rl)⟩
      | str l =>
        refine .inr (.inr ⟨F, ρ, ev, ih, hr, re, ?_⟩)
        rw [q]
        intro ρ1 H1 g1 hr1 v r
        cases r with | d r => cases r with | str _ z =>
          exact ⟨_, rfl, (key ρ1 H1 g1 hr1).ok hr1 _ (good_str l)⟩
      | _ =>
        refine .inl ⟨F, ρ, ev, ih, hr, re, ?_⟩
        rw [q]
        intro ρ1 H1 g1 hr1 v r
        exact (key ρ1 H1 g1 hr1).elim

/-! ### range -/
def rngS (lo hi : Int) : Src := fixS ((List.range (hi - lo).toNat).map fun i => .w (.d (.int (lo + (i : Nat)))))
theorem good_rng {K : PySem.W.Frag} {F ρ : List Addr} {H : Hp} (lo hi : Int) : Good K T (Itr lo (hi - lo).toNat) (rngS lo hi) F ρ H where
  goes := fun F' ρ' H' ih' l i y g hr' e hy => by
    cases e
    rw [List.getElem?_map, Option.map_eq_some_iff] at hy
    obtain ⟨x, hx, rfl⟩ := hy
    have hi := (List.getElem?_eq_some_iff.mp hx).1
    rw [List.length_range] at hi
    rw [List.getElem?_range hi] at hx
    cases hx
    refine ⟨hi, fun u H'' q => ?_⟩
    obtain ⟨rfl, rfl⟩ := q
    exact ⟨Grow.refl, hr', .w (.d (.int _))⟩
  stops := fun F' ρ' H' ih' l i g hr' e hl => by
    cases e
    rw [List.length_map, List.length_range] at hl
    exact hl
def cR1 (a : Ca) : Ci := fun e h => (a e h).bind fun ws h => match ws with
  | [.d (.int j)] => if -(2 ^ 62) ≤ j ∧ j < 2 ^ 62 then .ok (rngS 0 j) h else .no
  | _ => .no
def cR2 (a : Ca) : Ci := fun e h => (a e h).bind fun ws h => match ws with
  | [.d (.int i), .d (.int j)] => if -(2 ^ 62) ≤ i ∧ i < 2 ^ 62 ∧ -(2 ^ 62) ≤ j ∧ j < 2 ^ 62 then .ok (rngS i j) h else .no
  | _ => .no
theorem fi_r1 {es : List Expr} {ca : Ca} (h : ∀ ta, PA X es ta → PI X tg iter (iRng1 ta)) (ha : FA X T Wx es ca) : FI X T Wx tg iter (cR1 ca) := PI.imp (h _ ha) fun σ H R q => by
  obtain ⟨F, ρ, ev, ih, hr, re, hp⟩ := q
  refine ⟨F, ρ, ev, ih, hr, re, hp.bind.mono fun ρ1 H1 ih1 ws g1 hr1 hp1 vs rs => ?_⟩
  split at hp1
  · rename_i j
    split at hp1
    · rename_i z
      match vs, rs with
      | [_], .cons (.d (.int _)) .nil =>
        refine ⟨j, rfl, z.1, z.2, ?_⟩
        have := hp1.ok hr1 _ (good_rng 0 j)
        rw [Int.sub_zero] at this
        exact this
    · exact hp1.elim
  · exact hp1.elim
theorem fi_r2 {es : List Expr} {ca : Ca} (h : ∀ ta, PA X es ta → PI X tg iter (iRng2 ta)) (ha : FA X T Wx es ca) : FI X T Wx tg iter (cR2 ca) := PI.imp (h _ ha) fun σ H R q => by
  obtain ⟨F, ρ, ev, ih, hr, re, hp⟩ := q
  refine ⟨F, ρ, ev, ih, hr, re, hp.bind.mono fun ρ1 H1 ih1 ws g1 hr1 hp1 vs rs => ?_⟩
  split at hp1
  · rename_i i j
    split at hp1
    · rename_i z
      match vs, rs with
      | [_, _], .cons (.d (.int _)) (.cons (.d (.int _)) .nil) => exact ⟨i, j, rfl, z, hp1.ok hr1 _ (good_rng i j)⟩
    · exact hp1.elim
  · exact hp1.elim

/-! ### for -/
abbrev Cy := Y → Ev → Hh → Option Ev
/-- a target's function on an item -/
def yOf (K : PySem.W.Frag) (T : Tb) (vs : List Nat) (c : Cy) : TG := fun v σ H Q => ∃ F ρ e ih y e', HR K T F ρ ih H ∧ RE K F ρ H e σ ∧ YR K F ρ H y v ∧ c y e ih = some e' ∧ ∀ σ', RE K F ρ H e' σ' → Mod vs σ σ' → Q σ' H
def FY (X : Cx) (T : Tb) (tg : Expr) (vs : List Nat) (c : Cy) : Prop := PG X tg (yOf X.K T vs c)
/-- a value that an item is -/
def yw (y : Y) : Option W := match y with
  | .w x => some x
  | .t l => (allD l).bind fun ds => if ds.length ≤ 16777216 then some (.d (.tup ds)) else none
def yN (t : Ct) : Cy := fun y e h => (yw y).bind fun w => t w e h
theorem yw_at {K : PySem.W.Frag} {F ρ : List Addr} {H : Hp} {y : Y} {w : W} {v : V} (e : yw y = some w) (r : YR K F ρ H y v) : RW K F ρ H w v := by
  cases r with
  | w r => cases e; exact r
  | t h1 h2 rs =>
    simp only [yw, Option.bind_eq_some_iff] at e
    obtain ⟨ds, e1, e2⟩ := e
    split at e2
    · rename_i z
      cases e2
      exact .d (.tup ⟨h1, h2⟩ z (allD_rp e1 rs))
    · cases e2
theorem fy_n {is : List Nat} {t : Ct} (h : FG X T tg is t) : FY X T tg is (yN t) := PG.imp h fun v σ H Q q => by
  obtain ⟨F, ρ, e, ih, y, e', hr, re, r, he, hq⟩ := q
  unfold yN at he
  rw [Option.bind_eq_some_iff] at he
  obtain ⟨w, e1, e2⟩ := he
  exact ⟨F, ρ, e, ih, w, e', hr, re, yw_at e1 r, e2, hq⟩
/-- a tuple's target on an item: its parts need be no data -/
def yT (c : Cts) : Cy := fun y e h => match y with
  | .t l => c l e h
  | .w x => tTp c x e h
theorem fy_t {tgs : List Expr} {is : List Nat} {k n : Nat} {cb : Cts} (hc : X.calm = true) (ln : Len cb n) (hn : (assignEach tgs X.env).length = n) (hst : (assignEach tgs X.env).findIdx? (·.1) = none) (h : FGs X T tgs is cb) : FY X T (.Tuple tgs k pos) is (yT cb) :=
  PG.imp (pg_tup hc h hn hst) fun v σ H Q q => by
    obtain ⟨F, ρ, e, ih, y, e', hr, re, r, he, hq⟩ := q
    cases r with
    | t h1 h2 rs =>
      have he' : cb _ e ih = some e' := he
      have hl := ln.len _ _ _ _ he'
      exact ⟨_, _, rfl, .inl (.inl h1), by rw [← rs.length]; exact hl, F, ρ, e, ih, _, e', hr, re, rs, he', hq⟩
    | @w x v r =>
      have he' : tTp cb x e ih = some e' := he
      unfold tTp at he'
      split at he'
      · rename_i l
        cases r with | d r => cases r with | tup t z rl =>
          have hl := ln.len _ _ _ _ he'
          exact ⟨_, _, rfl, t.sq, by rw [← rl.rws.length]; exact hl, F, ρ, e, ih, _, e', hr, re, rl.rws, he', hq⟩
      · cases he'
def loop (src : Src) (t : Cy) (b : Cs) : Nat → Nat → Cs
  | 0, _ => fun _ _ => .no
  | m + 1, i => fun e h => match src h with
    | none => .no
    | some l => match l[i]? with
      | none => .nx e h
      | some y => match t y e h with
        | none => .no
        | some e1 => match b e1 h with
          | .nx e2 h2 => loop src t b m (i + 1) e2 h2
          | .ct e2 h2 => loop src t b m (i + 1) e2 h2
          | .bk e2 h2 => .nx e2 h2
          | r => r
def srcLen (s : Src) (h : Hh) : Nat := match s h with
  | some l => l.length
  | none => 0
def sFor (i : Ci) (t : Cy) (b : Cs) : Cs := fun e h => lift (i e h) e fun src h => loop src t b (srcLen src h + 1) 0 e h
theorem fs_for {body : List Stmt} {is : List Nat} {ci : Ci} {ct : Cy} {cb : Cs} (hp : PassesOwn (model X.prog X.w) X.A X.env X.xe) (hc : X.calm = true) (hs : ∀ x, foldedSetIterable iter X.env x = pure x) (hi : FI X T Wx tg iter ci) (ht : FY X T tg is ct) (hb : FSs X T Wx body cb) :
    FS X T Wx (.For tg iter body [] pos) (sFor ci ct cb) := PS.imp (ps_for hp hc hi ht hb hs) fun D σ H q => by
  obtain ⟨F, ρ, ev, ih, hr, re, hp⟩ := q
  refine ⟨F, ρ, ev, ih, hr, re, (Pss.lift hr re hp).mono fun ρ1 H1 ih1 src g1 hr1 hp1 J good => ?_⟩
  refine ⟨fun i m σ' H' => ∃ ρ' e' ih', Grow F ρ1 H1 ρ' H' ∧ HR X.K T F ρ' ih' H' ∧ RE X.K F ρ' H' e' σ' ∧ Pss X.K T Wx F ρ' H' (loop src ct cb m i e' ih') D, ⟨srcLen src ih1 + 1, ρ1, ev, ih1, Grow.refl, hr1, re.grow g1 hr, hp1⟩, ?_⟩
  rintro i m σ2 H2 ⟨ρ2, e2, ih2, g2, hr2, re2, hp2⟩
  cases m with
  | zero => exact hp2.elim
  | succ m =>
    unfold loop at hp2
    cases hs : src ih2 with
    | none => rw [hs] at hp2; exact hp2.elim
    | some l =>
      rw [hs] at hp2
      dsimp only at hp2
      cases hl : l[i]? with
      | none =>
        rw [hl] at hp2
        exact .inl ⟨good.stops F ρ2 H2 ih2 l i (g2.ext hr1) hr2 hs (List.getElem?_eq_none_iff.mp hl), Pss.nx hp2 hr2 re2⟩
      | some y =>
        rw [hl] at hp2
        dsimp only at hp2
        obtain ⟨go, yl⟩ := good.goes F ρ2 H2 ih2 l i y (g2.ext hr1) hr2 hs hl
        refine .inr ⟨go, fun σ3 H3 => ∃ ρ3 e3 ih3, Grow F ρ1 H1 ρ3 H3 ∧ HR X.K T F ρ3 ih3 H3 ∧ RE X.K F ρ3 H3 e3 σ3 ∧ Pss X.K T Wx F ρ3 H3 (loop src ct cb m (i + 1) e3 ih3) D, fun σ3 H3 q3 => ⟨m, Nat.lt_succ_self _, q3⟩, fun x H3 yx => ?_⟩
        obtain ⟨g3, hr3, r3⟩ := yl x H3 yx
        cases ht : ct y e2 ih2 with
        | none => rw [ht] at hp2; exact hp2.elim
        | some e4 =>
          rw [ht] at hp2
          dsimp only at hp2
          refine ⟨F, ρ2, e2, ih2, y, e4, hr3, re2.grow g3 hr2, r3, ht, fun σ4 re4 _ => ?_⟩
          have hp3 := Pss.from g3 hr3 hp2
          have g13 := g2.trans hr2 g3
          refine ⟨F, ρ2, e4, ih2, hr3, re4, ?_⟩
          cases hb : cb e4 ih2 with
          | no => rw [hb] at hp3; exact hp3.elim
          | nx e5 h5 => rw [hb] at hp3; exact fun ρ5 H5 σ5 g5 hr5 re5 => ⟨ρ5, e5, h5, g13.trans hr3 g5, hr5, re5, Pss.from g5 hr5 hp3⟩
          | ct e5 h5 => rw [hb] at hp3; exact fun ρ5 H5 σ5 g5 hr5 re5 => ⟨ρ5, e5, h5, g13.trans hr3 g5, hr5, re5, Pss.from g5 hr5 hp3⟩
          | bk e5 h5 => rw [hb] at hp3; exact fun ρ5 H5 σ5 g5 hr5 re5 => hp3 ρ5 H5 σ5 g5 hr5 re5
          | rt w5 h5 => rw [hb] at hp3; exact hp3
          | ex a5 b5 e5 h5 => rw [hb] at hp3; exact hp3
/-! ### while -/
def wloop (t : Cb) (b : Cs) : Nat → Cs
  | 0 => fun _ _ => .no
  | m + 1 => fun e h => lift (t e h) e fun k h => if k then (match b e h with
      | .nx e2 h2 => wloop t b m e2 h2
      | .ct e2 h2 => wloop t b m e2 h2
      | .bk e2 h2 => .nx e2 h2
      | r => r) else .nx e h
def sWhile (n : Nat) (t : Cb) (b : Cs) : Cs := wloop t b n
theorem fs_while {t : Expr} {body : List Stmt} {ct : Cb} {cb : Cs} {n : Nat} (hp : PassesOwn (model X.prog X.w) X.A X.env X.xe) (ht : FT' X T Wx t ct) (hb : FSs X T Wx body cb) : FS X T Wx (.While t body [] pos) (sWhile n ct cb) :=
  PS.imp (ps_while hp ht hb) fun D σ H q => by
    refine ⟨fun m σ' H' => ∃ F ρ' e' ih', HR X.K T F ρ' ih' H' ∧ RE X.K F ρ' H' e' σ' ∧ Pss X.K T Wx F ρ' H' (wloop ct cb m e' ih') D, ⟨n, q⟩, ?_⟩
    rintro m σ2 H2 ⟨F, ρ2, e2, ih2, hr2, re2, hp2⟩
    cases m with
    | zero => exact hp2.elim
    | succ m =>
      unfold wloop at hp2
      refine ⟨F, ρ2, e2, ih2, hr2, re2, (Pss.lift hr2 re2 hp2).mono fun ρ3 H3 ih3 k g3 hr3 hp3 => ?_⟩
      have re3 := re2.grow g3 hr2
      cases k with
      | false =>
        rw [if_neg Bool.false_ne_true] at hp3
        exact iteF (Pss.nx hp3 hr3 re3)
      | true =>
        rw [if_pos rfl] at hp3
        refine iteT ⟨fun σ4 H4 => ∃ F ρ4 e4 ih4, HR X.K T F ρ4 ih4 H4 ∧ RE X.K F ρ4 H4 e4 σ4 ∧ Pss X.K T Wx F ρ4 H4 (wloop ct cb m e4 ih4) D, fun σ4 H4 q4 => ⟨m, Nat.lt_succ_self _, q4⟩, F, ρ3, e2, ih3, hr3, re3, ?_⟩
        cases hb : cb e2 ih3 with
        | no => rw [hb] at hp3; exact hp3.elim
        | nx e5 h5 => rw [hb] at hp3; exact fun ρ5 H5 σ5 g5 hr5 re5 => ⟨F, ρ5, e5, h5, hr5, re5, Pss.from g5 hr5 hp3⟩
        | ct e5 h5 => rw [hb] at hp3; exact fun ρ5 H5 σ5 g5 hr5 re5 => ⟨F, ρ5, e5, h5, hr5, re5, Pss.from g5 hr5 hp3⟩
        | bk e5 h5 => rw [hb] at hp3; exact fun ρ5 H5 σ5 g5 hr5 re5 => hp3 ρ5 H5 σ5 g5 hr5 re5
        | rt w5 h5 => rw [hb] at hp3; exact hp3
        | ex a5 b5 e5 h5 => rw [hb] at hp3; exact hp3
end
end Fz
set_option Elab.async false
set_option linter.all false
set_option maxRecDepth 100000
set_option maxHeartbeats 2000000
/-! Fz: comprehensions. -/
namespace Fz
open PySem L2 PyProof.Rows

def ew (e : Ev) : List Nat → Ev
  | [] => e
  | v :: vs => (ew e vs).set v none
theorem ew_some {e : Ev} {i : Nat} {w : W} : ∀ {vs : List Nat}, (ew e vs)[i]? = some (some w) → e[i]? = some (some w) ∧ i ∉ vs
  | [], h => ⟨h, by simp⟩
  | v :: vs, h => by
    unfold ew at h
    by_cases hi : v = i
    · subst hi
      by_cases hl : v < (ew e vs).length
      · rw [List.getElem?_set_self hl] at h; cases h
      · rw [List.getElem?_eq_none (by simpa using hl)] at h; cases h
    · rw [List.getElem?_set_ne hi] at h
      obtain ⟨a, b⟩ := ew_some h
      exact ⟨a, by simp [b, Ne.symm hi]⟩
theorem ew_len (e : Ev) : ∀ vs : List Nat, (ew e vs).length = e.length
  | [] => rfl
  | v :: vs => by unfold ew; rw [List.length_set, ew_len e vs]
theorem wipe_in {σ : L2.St} {j : Nat} : ∀ {vs : List Nat}, j ∈ vs → (wipe σ vs)[j]? = if j < σ.length then some none else none
  | v :: vs, h => by
    unfold wipe
    by_cases hj : v = j
    · subst hj
      by_cases hl : v < σ.length
      · rw [List.getElem?_set_self (by rw [wipe_length]; exact hl), if_pos hl]
      · rw [List.getElem?_eq_none (by rw [List.length_set, wipe_length]; omega), if_neg hl]
    · rw [List.getElem?_set_ne hj]
      exact wipe_in ((List.mem_cons.mp h).resolve_left (Ne.symm hj))
theorem Mod.wipe {vs : List Nat} {σ σ2 : L2.St} (m : Mod vs (L2.wipe σ vs) σ2) : L2.wipe σ2 vs = L2.wipe σ vs := by
  apply List.ext_getElem?
  intro j
  have hl : σ2.length = σ.length := by rw [m.1, wipe_length]
  by_cases hj : j ∈ vs
  · rw [wipe_in hj, wipe_in hj, hl]
  · rw [wipe_out hj, m.2 j hj]
def noX {α : Type} (m : R α) : R α := match m with
  | .ex _ _ _ => .no
  | m => m
def lcl (src : Src) (t : Cy) (q : Cb) (c : Cd) (e : Ev) : Nat → Nat → List W → Hh → R (List W)
  | 0, _, _, _ => .no
  | m + 1, i, acc, h => match src h with
    | none => .no
    | some l => match l[i]? with
      | none => .ok acc h
      | some y => match t y e h with
        | none => .no
        | some e1 => (q e1 h).bind fun k h => if k then (c e1 h).bind fun w h => if acc.length < 16777216 then lcl src t q c e m (i + 1) (acc ++ [w]) h else .no else lcl src t q c e m (i + 1) acc h
def cLc (mt : Bool) (vs : List Nat) (i : Ci) (t : Cy) (q : Cb) (c : Cd) : Cd := fun e h => (i e h).bind fun src h => (noX (lcl src t q c (ew e vs) (srcLen src h + 1) 0 [] h)).bind fun ws h => fin mt ws h
abbrev W0 : WX := fun _ _ _ _ => False
section
variable {K : PySem.W.Frag} {T : Tb} {F ρ : List Addr} {H : Hp} {ih : Hh} {D : Addr}
theorem RW.less {F F' : List Addr} (h : ∀ a, a ∈ F' → a ∈ F) {w : W} {v : V} (r : RW K F ρ H w v) : RW K F' ρ H w v := by
  cases r with
  | d r => exact .d (r.less fun a m => by
      rcases List.mem_append.mp m with q | q
      · exact List.mem_append_left _ (h a q)
      · exact List.mem_append_right _ q)
  | r e => exact .r e
  | f e => exact .f e
theorem RO.less {F F' : List Addr} (h : ∀ a, a ∈ F' → a ∈ F) {o : O} {u : HO} (r : RO K T F ρ H o u) : RO K T F' ρ H o u := by
  cases r with
  | lst z rs => exact .lst z (Paired.mapP rs fun _ _ x => x.less h)
  | dk rs => exact .dk (Paired.mapP rs fun _ _ x => ⟨x.1, x.2.less h⟩)
  | dt rs => exact .dt (Paired.mapP rs fun _ _ x => ⟨x.1, x.2.less h⟩)
  | fk rs => exact .fk (Paired.mapP rs fun _ _ x => ⟨x.1, x.2.less h⟩)
  | ft rs => exact .ft (Paired.mapP rs fun _ _ x => ⟨x.1, x.2.less h⟩)
  | ins rs z => exact .ins (Paired.mapP rs fun _ _ x => ⟨x.1, x.2.less h⟩) z
theorem HR.less {F F' : List Addr} (h : ∀ a, a ∈ F' → a ∈ F) (r : HR K T F ρ ih H) : HR K T F' ρ ih H :=
  ⟨r.len, r.nd, fun a m n => r.fr a m (h a n), fun a m => r.trF a (h a m), fun n o e => let ⟨a, u, e1, e2, ro⟩ := r.obj n o e; ⟨a, u, e1, e2, ro.less h⟩, fun a m xs => r.ntF a (h a m) xs⟩
/-- the new list of a comprehension is changed -/
theorem keepD {o : HO} : Keep ((D :: F) ++ ρ) H ((D :: F) ++ ρ) (upd H D o) :=
  ⟨fun a u e n => by rw [upd_ne (fun q => n (by simp [q]))]; exact e, fun a m n => absurd m n⟩
theorem HR.setD {o : HO} (no : ∀ xs, o ≠ .tup xs) (r : HR K T (D :: F) ρ ih H) : HR K T (D :: F) ρ ih (upd H D o) where
  len := r.len
  nd := r.nd
  fr := r.fr
  trF := fun a m => by
    by_cases q : a = D
    · subst q; rw [upd_same]; simp
    · rw [upd_ne q]; exact r.trF a m
  obj := fun n o' e => by
    obtain ⟨a, u, e1, e2, ro⟩ := r.obj n o' e
    have na : a ≠ D := fun q => r.fr a (List.mem_of_getElem? e1) (by simp [q])
    exact ⟨a, u, e1, by rw [upd_ne na]; exact e2, ro.kp keepD fun _ _ q => q⟩
  ntF := fun a m xs => by
    by_cases q : a = D
    · subst q; rw [upd_same]; exact fun z => no xs (Option.some.inj z)
    · rw [upd_ne q]; exact r.ntF a m xs
theorem HR.newD {o : HO} (no : ∀ xs, o ≠ .tup xs) (r : HR K T F ρ ih H) (hD : H D = none) : HR K T (D :: F) ρ ih (upd H D o) := by
  have k : Keep (F ++ ρ) H ((D :: F) ++ ρ) (upd H D o) := ⟨fun a u e n => by rw [upd_ne (ne_of_none e hD)]; exact e, fun a m n => by
    rcases List.mem_cons.mp m with q | q
    · rw [q]; exact hD
    · exact absurd q n⟩
  refine ⟨r.len, r.nd, fun a m n => ?_, fun a m => ?_, fun n o' e => ?_, fun a m xs => ?_⟩
  · rcases List.mem_cons.mp n with q | q
    · exact r.ne hD (q ▸ m)
    · exact r.fr a m q
  · rcases List.mem_cons.mp m with q | q
    · rw [q, upd_same]; simp
    · by_cases z : a = D
      · rw [z, upd_same]; simp
      · rw [upd_ne z]; exact r.trF a q
  · obtain ⟨a, u, e1, e2, ro⟩ := r.obj n o' e
    exact ⟨a, u, e1, by rw [upd_ne (ne_of_none e2 hD)]; exact e2, ro.kp k fun _ _ q => q⟩
  · by_cases q : a = D
    · subst q; rw [upd_same]; exact fun z => no xs (Option.some.inj z)
    · rw [upd_ne q]
      rcases List.mem_cons.mp m with z | z
      · exact absurd z q
      · exact r.ntF a z xs
/-- what is wanted of the whole, whatever the heap is by then -/
def Fin (K : PySem.W.Frag) (T : Tb) (F ρ1 : List Addr) (H1 : Hp) (D : Addr) {α : Type} (m : R α) (k : List Addr → Hp → Hh → α → Prop) : Prop := match m with
  | .ok a ih' => ∀ ρ' H', Grow F ρ1 H1 ρ' H' → HR K T (D :: F) ρ' ih' H' → k ρ' H' ih' a
  | _ => False
theorem Fin.bind {α β : Type} {m : R α} {f : α → Hh → R β} {k : List Addr → Hp → Hh → β → Prop} (h : Fin K T F ρ H D (m.bind f) k) : ∃ a ih', m = .ok a ih' ∧ Fin K T F ρ H D (f a ih') k := by
  cases m with
  | ok a ih' => exact ⟨a, ih', rfl, h⟩
  | ex c p ih' => exact h.elim
  | no => exact h.elim
theorem Grow.setD {ρ' : List Addr} {H' : Hp} {o : HO} (hD : H D = none) (g : Grow F ρ H ρ' H') : Grow F ρ H ρ' (upd H' D o) :=
  ⟨g.more, fun a u e n => by rw [upd_ne (ne_of_none e hD)]; exact g.keep a u e n, g.new, fun a _ _ e => by rw [upd_ne (ne_of_none e hD)]; exact g.frz a _ _ e⟩
theorem Grow.extD {ρ' : List Addr} {H' : Hp} (hr : HR K T F ρ ih H) (hD : H D = none) (g : Grow F ρ H ρ' H') : Ext F ρ H (D :: F) ρ' H' :=
  ⟨g.more, ⟨fun a u e n => g.keep a u e fun q => n (List.mem_append_right _ q), fun a m n => by
    rcases List.mem_append.mp m with q | q
    · rcases List.mem_cons.mp q with z | z
      · rw [z]; exact hD
      · exact absurd (List.mem_append_left _ z) n
    · exact g.new a q fun z => n (List.mem_append_right _ z)⟩, g.frz⟩
theorem RE.ext {F' ρ' : List Addr} {H' : Hp} {e : Ev} {σ : L2.St} (x : Ext F ρ H F' ρ' H') (r : RE K F ρ H e σ) (vs : List Nat) : RE K F' ρ' H' (ew e vs) (wipe σ vs) := by
  refine ⟨by rw [ew_len, wipe_length]; exact r.1, fun i w q => ?_⟩
  obtain ⟨q1, q2⟩ := ew_some q
  obtain ⟨v, e1, r1⟩ := r.2 i w q1
  exact ⟨v, by rw [wipe_out q2]; exact e1, r1.kp x.k fun _ _ h => x.get h⟩
/-- the end: the list at D is ours -/
theorem fin_at {Wx : WX} {σ : L2.St} {mt : Bool} {ws : List W} {vs : List V} {ρ1 ρ' : List Addr} {H1 H' : Hp} {ih' : Hh} {Q : VK} (hD : H1 D = none) (hr1 : HR K T F ρ1 ih H1) (g : Grow F ρ1 H1 ρ' H') (hr : HR K T (D :: F) ρ' ih' H') (e : H' D = some (.lst vs)) (rs : RWs K (D :: F) ρ' H' ws vs)
    (hp : Pst K T Wx σ F ρ1 H1 (fin mt ws ih') fun ρ' H' _ w => ∀ v, RW K F ρ' H' w v → Q v H') : Q (.ref D) H' := by
  have hl := fin_len hp
  have nF : D ∉ F := fun m => hr1.trF D m hD
  have nρ : D ∉ ρ' := fun m => hr.fr D m (by simp)
  have hr' : HR K T F ρ' ih' H' := hr.less fun a m => List.mem_cons_of_mem _ m
  have rs' : RWs K F ρ' H' ws vs := Paired.mapP rs fun _ _ x => x.less fun a m => List.mem_cons_of_mem _ m
  unfold Fz.fin at hp
  split at hp
  · unfold mkM at hp
    split at hp
    · have g2 : Grow F ρ1 H1 (ρ' ++ [D]) H' := ⟨by obtain ⟨m, rfl⟩ := g.more; exact ⟨m ++ [D], by simp⟩, g.keep, fun a m n => by
        rcases List.mem_append.mp m with q | q
        · exact g.new a q n
        · rw [List.mem_singleton.mp q]; exact hD, g.frz⟩
      have k2 : Keep ((D :: F) ++ ρ') H' (F ++ (ρ' ++ [D])) H' := ⟨fun _ _ e _ => e, fun a m n => by
        exfalso
        apply n
        simp only [List.mem_append, List.mem_cons, List.mem_singleton, List.not_mem_nil, or_false] at m ⊢
        rcases m with m | m | m <;> simp [m]⟩
      have gt : ∀ (n : Nat) (a : Addr), ρ'[n]? = some a → (ρ' ++ [D])[n]? = some a := fun n a q => by
        rw [List.getElem?_append_left (List.getElem?_eq_some_iff.mp q).1]; exact q
      have hr2 : HR K T F (ρ' ++ [D]) (ih' ++ [.lst ws]) H' := by
        refine ⟨by simp [hr.len], List.nodup_append.mpr ⟨hr.nd, by simp, fun a ha b hb => ?_⟩, fun a m => ?_, hr'.trF, fun n o q => ?_, hr'.ntF⟩
        · rw [List.mem_singleton.mp hb]; exact fun z => nρ (z ▸ ha)
        · rcases List.mem_append.mp m with q | q
          · exact hr'.fr a q
          · rw [List.mem_singleton.mp q]; exact nF
        · by_cases hn : n < ih'.length
          · rw [List.getElem?_append_left hn] at q
            obtain ⟨a, u, e1, e2, ro⟩ := hr.obj n o q
            exact ⟨a, u, gt n a e1, e2, ro.kp k2 gt⟩
          · have hn' : n = ih'.length := by
              have := (List.getElem?_eq_some_iff.mp q).1
              simp at this
              omega
            subst hn'
            simp at q
            subst q
            exact ⟨D, _, by rw [← hr.len]; simp, e, .lst hl (Paired.mapP rs fun _ _ x => x.kp k2 gt)⟩
      exact hp _ _ g2 hr2 _ (.r (get_last hr.len))
    · exact hp.elim
  · unfold mkL at hp
    cases ea : allD ws with
    | none => rw [ea] at hp; exact hp.elim
    | some ds =>
      rw [ea] at hp
      dsimp only at hp
      split at hp
      · rename_i z
        exact hp _ _ g hr' _ (.d (.lst ⟨.inl e, fun m => (List.mem_append.mp m).elim nF nρ⟩ z (allD_rp ea rs')))
      · exact hp.elim
end
section
variable {X : Cx} {T : Tb} {Wx : WX} {tg iter elt : Expr} {ifs : List Expr} {pos : Pos}
def FTs (X : Cx) (T : Tb) (Wx : WX) (ifs : List Expr) (c : Cb) : Prop := PTs X ifs (bOf X.K T Wx c)
def bYes : Cb := fun _ h => .ok true h
theorem PTs.imp {t t' : TT} (h : PTs X ifs t) (f : ∀ σ H Q, t' σ H Q → t σ H Q) : PTs X ifs t' := ⟨fun pins s σ H Q I q => h.run pins s σ H Q I (f _ _ _ q)⟩
theorem fts_nil : FTs X T Wx [] bYes := PTs.imp pts_nil fun σ H Q q => by
  obtain ⟨F, ρ, ev, ih, hr, re, hp⟩ := q
  exact hp.ok hr
theorem fts_one {c : Expr} {cb : Cb} (h : FT' X T Wx c cb) : FTs X T Wx [c] cb := pts_one h
theorem ifk {A B : Prop} {k : Bool} (h1 : k = true → A) (h2 : k = false → B) : if k = true then A else B := by
  cases k with
  | true => exact iteT (h1 rfl)
  | false => exact iteF (h2 rfl)
/-- the reading of a comprehension is what its function does -/
theorem lc_at {K : PySem.W.Frag} {mt : Bool} {vs is : List Nat} {ci : Ci} {t : Cy} {q : Cb} {c : Cd} (his : ∀ j ∈ is, j ∈ vs) {σ : L2.St} {H : Hp} {Q : VK} (hq : tOf K T Wx (cLc mt vs ci t q c) σ H Q) :
    tLc (iOf K T Wx ci) (yOf K T is t) (bOf K T W0 q) (tOf K T W0 c) vs σ H Q := by
  obtain ⟨F, ρ, ev, ih, hr, re, hp⟩ := hq
  refine ⟨F, ρ, ev, ih, hr, re, hp.bind.mono fun ρ1 H1 ih1 src g1 hr1 hp1 J good => ?_⟩
  intro D hD
  have re1 := re.grow g1 hr
  -- what is wanted of the list at the end
  have want : Fin K T F ρ1 H1 D (lcl src t q c (ew ev vs) (srcLen src ih1 + 1) 0 [] ih1) fun ρ' H' ih' ws => ∀ xs, H' D = some (.lst xs) → RWs K (D :: F) ρ' H' ws xs → Q (.ref D) H' := by
    cases e : lcl src t q c (ew ev vs) (srcLen src ih1 + 1) 0 [] ih1 with
    | no => rw [e] at hp1; exact hp1.elim
    | ex a b h2 => rw [e] at hp1; exact hp1.elim
    | ok ws h2 =>
      rw [e] at hp1
      exact fun ρ' H' g hr' xs ex rs => fin_at (Wx := Wx) (σ := σ) hD hr1 g hr' ex rs hp1
  refine ⟨fun i m H' => ∃ ρ' ih' acc xs, Grow F ρ1 H1 ρ' H' ∧ HR K T (D :: F) ρ' ih' H' ∧ H' D = some (.lst xs) ∧ RWs K (D :: F) ρ' H' acc xs ∧
    Fin K T F ρ1 H1 D (lcl src t q c (ew ev vs) m i acc ih') fun ρ' H' ih' ws => ∀ xs, H' D = some (.lst xs) → RWs K (D :: F) ρ' H' ws xs → Q (.ref D) H',
    ⟨srcLen src ih1 + 1, ρ1, ih1, [], [], grow_new hD, hr1.newD (fun _ z => nomatch z) hD, upd_same, .nil, want⟩, ?_⟩
  rintro i m H2 ⟨ρ2, ih2, acc, xs, g2, hr2, e2, rs2, hf⟩
  have hr2' : HR K T F ρ2 ih2 H2 := hr2.less fun a m => List.mem_cons_of_mem _ m
  cases m with
  | zero => exact hf.elim
  | succ m =>
    unfold lcl at hf
    cases hs : src ih2 with
    | none => rw [hs] at hf; exact hf.elim
    | some l =>
      rw [hs] at hf
      dsimp only at hf
      cases hl : l[i]? with
      | none =>
        rw [hl] at hf
        exact .inl ⟨good.stops _ ρ2 H2 ih2 l i (g2.extD hr1 hD) hr2 hs (List.getElem?_eq_none_iff.mp hl), hf ρ2 H2 g2 hr2 xs e2 rs2⟩
      | some y =>
        rw [hl] at hf
        dsimp only at hf
        obtain ⟨go, yl⟩ := good.goes _ ρ2 H2 ih2 l i y (g2.extD hr1 hD) hr2 hs hl
        refine .inr ⟨go, fun H3 => ∃ ρ' ih' acc xs, Grow F ρ1 H1 ρ' H3 ∧ HR K T (D :: F) ρ' ih' H3 ∧ H3 D = some (.lst xs) ∧ RWs K (D :: F) ρ' H3 acc xs ∧
          Fin K T F ρ1 H1 D (lcl src t q c (ew ev vs) m (i + 1) acc ih') fun ρ' H' ih' ws => ∀ xs, H' D = some (.lst xs) → RWs K (D :: F) ρ' H' ws xs → Q (.ref D) H', fun H3 q3 => ⟨m, Nat.lt_succ_self _, q3⟩, fun x H3 yx => ?_⟩
        obtain ⟨g3, hr3, r3⟩ := yl x H3 yx
        have nD : D ∉ ρ2 := fun z => hr2.fr D z (by simp)
        have e3 : H3 D = some (.lst xs) := g3.keep D _ e2 nD
        have k13 : ∀ a u, H1 a = some u → a ∉ ρ1 → H3 a = some u := fun a u ea na => by
          refine g3.keep a u (g2.keep a u ea na) fun z => ?_
          have := g2.new a z na
          rw [ea] at this
          cases this
        have g13 : Grow F ρ1 H1 ρ2 H3 := ⟨g2.more, k13, g2.new, fun a _ _ e => g3.frz a _ _ (g2.frz a _ _ e)⟩
        have rs3 : RWs K (D :: F) ρ2 H3 acc xs := RWs.grow g3 hr2 rs2
        cases ht : t y (ew ev vs) ih2 with
        | none => rw [ht] at hf; exact hf.elim
        | some e1 =>
          rw [ht] at hf
          dsimp only at hf
          have reW : RE K (D :: F) ρ2 H3 (ew ev vs) (wipe σ vs) := re1.ext (g13.extD hr1 hD) vs
          refine ⟨D :: F, ρ2, ew ev vs, ih2, y, e1, hr3, reW, r3, ht, fun σ2 re2 m2 => ⟨(m2.mono his).wipe, ?_⟩⟩
          obtain ⟨k, ih4, eq, hf⟩ := hf.bind
          refine ⟨D :: F, ρ2, e1, ih2, hr3, re2, ?_⟩
          rw [eq]
          intro ρ4 H4 g4 hr4
          have e4 : H4 D = some (.lst xs) := g4.keep D _ e3 nD
          have g14 : Grow F ρ1 H1 ρ4 H4 := Grow.trans (K := K) (T := T) (ih1 := ih2) g13 (hr3.less fun a m => List.mem_cons_of_mem _ m) ⟨g4.more, g4.keep, g4.new, g4.frz⟩
          have rs4 : RWs K (D :: F) ρ4 H4 acc xs := RWs.grow g4 hr3 rs3
          refine ifk (fun hk => ?_) fun hk => ?_
          · subst hk
            rw [if_pos rfl] at hf
            obtain ⟨w, ih5, eq5, hf⟩ := hf.bind
            refine ⟨D :: F, ρ4, e1, ih4, hr4, re2.grow g4 hr3, ?_⟩
            rw [eq5]
            intro ρ5 H5 g5 hr5 v rv
            have nD4 : D ∉ ρ4 := fun z => hr4.fr D z (by simp)
            have e5 : H5 D = some (.lst xs) := g5.keep D _ e4 nD4
            have g15 : Grow F ρ1 H1 ρ5 H5 := Grow.trans (K := K) (T := T) (ih1 := ih4) g14 (hr4.less fun a m => List.mem_cons_of_mem _ m) ⟨g5.more, g5.keep, g5.new, g5.frz⟩
            have rs5 : RWs K (D :: F) ρ5 H5 acc xs := RWs.grow g5 hr4 rs4
            split at hf
            · rename_i hlen
              refine ⟨xs, e5, by rw [← rs5.length]; exact hlen, ρ5, ih5, acc ++ [w], xs ++ [v], g15.setD hD, hr5.setD (fun _ z => nomatch z), upd_same, ?_, hf⟩
              exact Paired.mapP (rs5.app (.cons rv .nil)) fun _ _ z => z.kp keepD fun _ _ q => q
            · exact hf.elim
          · subst hk
            rw [if_neg Bool.false_ne_true] at hf
            exact ⟨ρ4, ih4, acc, xs, g14, hr4, e4, rs4, hf⟩
theorem fe_lc {mt : Bool} {scope : Scope} {own : List (Str × Nat)} {is : List Nat} {ci : Ci} {t : Cy} {q : Cb} {c : Cd} (hc : X.calm = true) (hN : X.N.Nodup) (ok : BlkOk X.N X.env.scope scope own) (his : ∀ j ∈ is, j ∈ own.map (·.2)) (hs : ∀ x, foldedSetIterable iter X.env x = pure x)
    (hi : FI X T Wx tg iter ci)
    (hg : ∀ (s : Shared) (H : Hp) (C : Addr) (cl : List (Str × Addr)) (fp : List Addr), FY (X.blk s H scope (compEnvC scope cl C X.env) fp) T tg is t)
    (ht : ∀ (s : Shared) (H : Hp) (C : Addr) (cl : List (Str × Addr)) (fp : List Addr), FTs (X.blk s H scope (compEnvC scope cl C X.env) fp) T W0 ifs q)
    (he : ∀ (s : Shared) (H : Hp) (C : Addr) (cl : List (Str × Addr)) (fp : List Addr), FE (X.blk s H scope (compEnvC scope cl C X.env) fp) T W0 elt c) :
    FE X T Wx (.ListComp elt [⟨tg, iter, ifs, 0⟩] scope pos) (cLc mt (own.map (·.2)) ci t q c) := PE.imp (pe_lc (wi := iOf X.K T Wx ci) (g := yOf X.K T is t) (tt := bOf X.K T W0 q) (te := tOf X.K T W0 c) hc hN hi ok hg ht he hs) fun _ _ _ h => lc_at his h
/-- y = [..] where the list goes into y's place within the comprehension -/
theorem fs_setLc {mt : Bool} {i : Nat} {y : Str} {py spos : Pos} {scope : Scope} {own : List (Str × Nat)} {is : List Nat} {ci : Ci} {t : Cy} {q : Cb} {c : Cd} (hc : X.calm = true) (hN : X.N.Nodup) (hy : X.N[i]? = some y) (hyl : X.env.scope.names.lookup y = some .local)
    (hsw : swapsWith (.ListComp elt [⟨tg, iter, ifs, 0⟩] scope pos) (some (.Name y py)) spos.line X.env = pure true)
    (ok : BlkOk X.N X.env.scope scope own) (his : ∀ j ∈ is, j ∈ own.map (·.2)) (hs : ∀ x, foldedSetIterable iter X.env x = pure x)
    (hi : FI X T Wx tg iter ci)
    (hg : ∀ (s : Shared) (H : Hp) (C : Addr) (cl : List (Str × Addr)) (fp : List Addr), FY (X.blk s H scope (compEnvC scope cl C X.env) fp) T tg is t)
    (ht : ∀ (s : Shared) (H : Hp) (C : Addr) (cl : List (Str × Addr)) (fp : List Addr), FTs (X.blk s H scope (compEnvC scope cl C X.env) fp) T W0 ifs q)
    (he : ∀ (s : Shared) (H : Hp) (C : Addr) (cl : List (Str × Addr)) (fp : List Addr), FE (X.blk s H scope (compEnvC scope cl C X.env) fp) T W0 elt c) :
    FS X T Wx (.Assign [.Name y py] (.ListComp elt [⟨tg, iter, ifs, 0⟩] scope pos) spos) (sAsg (cLc mt (own.map (·.2)) ci t q c) (tN i)) := PS.imp (ps_setLc (wi := iOf X.K T Wx ci) (g := yOf X.K T is t) (tt := bOf X.K T W0 q) (te := tOf X.K T W0 c) hc hN hy hyl hsw hi ok hg ht he hs) fun D σ H q => by
  obtain ⟨F, ρ, ev, ih, hr, re, hp⟩ := q
  refine lc_at his ⟨F, ρ, ev, ih, hr, re, (Pss.lift hr re hp).mono fun ρ1 H1 ih1 w g1 hr1 hp1 v r => ?_⟩
  exact Pss.nx hp1 hr1 ((re.grow g1 hr).set i r)
end
end Fz
set_option Elab.async false
set_option linter.all false
set_option maxRecDepth 100000
set_option maxHeartbeats 2000000
/-! Fz: built-in calls by values. -/
namespace Fz
open PySem L2 PyProof.Rows

section
variable {X : Cx} {T : Tb} {Wx : WX} {x : Str} {p pos : Pos} {e : Expr} {es : List Expr} {ca : Ca} {id TY : String} {r : List V → Hp → VK → Prop} {op : List W → Hh → R W}
theorem fe_bi (hc : CallR X (.builtin id) r) (hf : FCl X.K T op r) (hg : Gl X x) (hm : X.mg x = none) (hv : bootBuiltins x = some (.builtin id)) (hn : x ≠ "__name__") (hdb : (x == ("__debug__" : Str)) = false)
    (he : starEach (e :: es) X.env = (false, eval e X.env) :: starEach es X.env) (hpl : (backTo pos (starEach es X.env)).any (·.1) = false) (ha : FA X T Wx (e :: es) ca) : FE X T Wx (.Call (.Name x p) (e :: es) [] pos) (cCl op ca) :=
  PE.imp (pe_callB hc hg hm hv ha hn hdb he hpl) fun _ _ _ q => clOf hf q
theorem fe_ty (hc : CallR X (.type TY) r) (hf : FCl X.K T op r) (hg : Gl X x) (hm : X.mg x = none) (hv : bootBuiltins x = some (.type TY)) (hn : x ≠ "__name__") (hdb : (x == ("__debug__" : Str)) = false)
    (he : starEach (e :: es) X.env = (false, eval e X.env) :: starEach es X.env) (hpl : (backTo pos (starEach es X.env)).any (·.1) = false) (ha : FA X T Wx (e :: es) ca) : FE X T Wx (.Call (.Name x p) (e :: es) [] pos) (cCl op ca) :=
  PE.imp (pe_callTy hc hg hm hv ha hn hdb he hpl) fun _ _ _ q => clOf hf q
end
section
variable {K : PySem.W.Frag} {T : Tb}
/-! ### len -/
def lenW (w : W) (h : Hh) : Option Nat := match w with
  | .d (.str l) => some l.length
  | .d (.tup l) => some l.length
  | .d (.lst l) => some l.length
  | .r n => match h[n]? with
    | some (.lst l) => some l.length
    | some (.dk l) => some l.length
    | _ => none
  | _ => none
def biLen (ws : List W) (h : Hh) : R W := match ws with
  | [w] => match lenW w h with
    | some n => .ok (.d (.int n)) h
    | none => .no
  | _ => .no
def rLenF (K : PySem.W.Frag) : List V → Hp → VK → Prop := fun xs H Q => (∃ x n, xs = [x] ∧ LenV K x H n ∧ Q (.int n) H) ∨ ∃ a kvs, xs = [.ref a] ∧ Rd H a (.dK kvs) ∧ Q (.int kvs.length) H
theorem cr_lenD {X : Cx} : CallR X (.builtin "len") fun xs H Q => ∃ a kvs, xs = [.ref a] ∧ Rd H a (.dK kvs) ∧ Q (.int kvs.length) H := by
  intro pins s σ H xs us Q I r h
  obtain ⟨a, kvs, rfl, hd, q⟩ := h
  obtain ⟨u, rfl, ru⟩ := vals1 r
  cases ru
  exact d_len I hd fun t s' I' => ⟨.int _, H, I', ⟨_, rfl⟩, q⟩
theorem cr_len {X : Cx} : CallR X (.builtin "len") (rLenF X.K) := CallR.or call_len cr_lenD
theorem fc_len : FCl K T biLen (rLenF K) := by
  intro Wx σ F ρ ih H xs vs Q hr rs hp
  unfold biLen at hp
  split at hp
  · rename_i w
    cases rs with | cons r t => cases t with | nil =>
      unfold lenW at hp
      split at hp
      · rename_i n e
        split at e
        · cases e; cases r with | d r => cases r with | str _ z => exact .inl ⟨_, _, rfl, ⟨by rw [toStr_len]; exact z, rfl⟩, by rw [toStr_len]; exact hp.ok hr _ (.d (.int _))⟩
        · cases e; cases r with | d r => cases r with | tup h z rl => exact .inl ⟨_, _, rfl, .inr ⟨_, h.sq, rfl⟩, by rw [← rl.length]; exact hp.ok hr _ (.d (.int _))⟩
        · cases e; cases r with | d r => cases r with | lst h z rl => exact .inl ⟨_, _, rfl, .inl ⟨_, h.sq, rfl⟩, by rw [← rl.length]; exact hp.ok hr _ (.d (.int _))⟩
        · cases r with | r hn =>
            split at e
            · rename_i l ho
              cases e
              obtain ⟨u, eH, ro⟩ := hr.at hn ho
              cases ro with | lst z rs => exact .inl ⟨_, _, rfl, .inl ⟨_, .inl (.inl eH), rfl⟩, by rw [← rs.length]; exact hp.ok hr _ (.d (.int _))⟩
            · rename_i l ho
              cases e
              obtain ⟨u, eH, ro⟩ := hr.at hn ho
              cases ro with | dk rs => exact .inr ⟨_, _, rfl, .inl eH, by rw [← Paired.length rs]; exact hp.ok hr _ (.d (.int _))⟩
            · cases e
        · cases e
      · exact hp.elim
  · exact hp.elim
/-! ### abs, int -/
def biAbs (ws : List W) (h : Hh) : R W := match ws with
  | [.d (.int i)] => .ok (.d (.int (if i < 0 then -i else i))) h
  | _ => .no
theorem fc_abs : FCl K T biAbs (fun xs H Q => ∃ i, xs = [.int i] ∧ Q (.int (if i < 0 then -i else i)) H) := by
  intro Wx σ F ρ ih H xs vs Q hr rs hp
  unfold biAbs at hp
  split at hp
  · cases rs with | cons r t => cases t; cases r with | d r => cases r; exact ⟨_, rfl, hp.ok hr _ (.d (.int _))⟩
  · exact hp.elim
def biInt (ws : List W) (h : Hh) : R W := match ws with
  | [.d (.int i)] => .ok (.d (.int i)) h
  | [.d (.bl k)] => .ok (.d (.int (if k then 1 else 0))) h
  | _ => .no
theorem fc_int : FCl K T biInt (fun xs H Q => (∃ i, xs = [.int i] ∧ Q (.int i) H) ∨ ∃ k, xs = [.bl k] ∧ Q (.int (if k then 1 else 0)) H) := by
  intro Wx σ F ρ ih H xs vs Q hr rs hp
  unfold biInt at hp
  split at hp
  · cases rs with | cons r t => cases t; cases r with | d r => cases r; exact .inl ⟨_, rfl, hp.ok hr _ (.d (.int _))⟩
  · cases rs with | cons r t => cases t; cases r with | d r => cases r; exact .inr ⟨_, rfl, hp.ok hr _ (.d (.int _))⟩
  · exact hp.elim
/-! ### list, tuple -/
def biList (m : Bool) (ws : List W) (h : Hh) : R W := match ws with
  | [w] => match seqW w h with
    | some l => fin m l h
    | none => .no
  | _ => .no
theorem fc_list {m : Bool} : FCl K T (biList m) (fun xs H Q => ∃ p ys, xs = [.ref p] ∧ (SqL K H p ys ∨ SqT K H p ys) ∧ ∀ l, H l = none → Q (.ref l) (upd H l (.lst ys))) := by
  intro Wx σ F ρ ih H xs vs Q hr rs hp
  unfold biList at hp
  split at hp
  · cases rs with | cons r t => cases t with | nil =>
      split at hp
      · rename_i l e
        obtain ⟨a, us, rfl, s, rs, _⟩ := seqW_at hr r e
        exact ⟨_, _, rfl, s.imp .inl .inl, fun p np => fin_ok hr rs np hp⟩
      · exact hp.elim
  · exact hp.elim
def biTuple (ws : List W) (h : Hh) : R W := match ws with
  | [.d (.tup l)] => .ok (.d (.tup l)) h
  | [w] => match lstW w h with
    | some l => mkT l h
    | none => .no
  | _ => .no
theorem fc_tuple : FCl K T biTuple (fun xs H Q => ∃ p ys, xs = [.ref p] ∧ ((SqL K H p ys ∧ ∀ l, H l = none → Q (.ref l) (upd H l (.tup ys))) ∨ (SqT K H p ys ∧ Q (.ref p) H))) := by
  intro Wx σ F ρ ih H xs vs Q hr rs hp
  unfold biTuple at hp
  split at hp
  · cases rs with | cons r t => cases t with | nil => cases r with | d r => cases r with | tup h z rl => exact ⟨_, _, rfl, .inr ⟨h.sq, hp.ok hr _ (.d (.tup h z rl))⟩⟩
  · cases rs with | cons r t => cases t with | nil =>
      split at hp
      · rename_i l e
        obtain ⟨a, us, rfl, s, rs, _⟩ := lstW_at hr r e
        refine ⟨_, _, rfl, .inl ⟨.inl s, fun p np => ?_⟩⟩
        unfold mkT at hp
        cases ea : allD l with
        | none => rw [ea] at hp; exact hp.elim
        | some ds =>
          rw [ea] at hp
          dsimp only at hp
          split at hp
          · rename_i z
            obtain ⟨q1, q2⟩ := new_tup hr np (allD_rp ea rs) z hp
            exact q1 _ q2
          · exact hp.elim
      · exact hp.elim
  · exact hp.elim
/-! ### all, any -/
def bools : List W → Option (List Bool)
  | [] => some []
  | .d (.bl b) :: r => (bools r).map (b :: ·)
  | _ :: _ => none
theorem bools_at {F ρ : List Addr} {H : Hp} : ∀ {ws : List W} {bs : List Bool} {vs : List V}, bools ws = some bs → RWs K F ρ H ws vs → vs = bs.map V.bl
  | [], bs, vs, e, r => by cases r; simp [bools] at e; subst e; rfl
  | .d (.bl b) :: t, bs, vs, e, r => by
    simp only [bools, Option.map_eq_some_iff] at e
    obtain ⟨l, e1, rfl⟩ := e
    cases r with | cons a c => cases a with | d a => cases a; rw [bools_at e1 c]; rfl
  | .d .non :: _, _, _, e, _ => by simp [bools] at e
  | .d (.int _) :: _, _, _, e, _ => by simp [bools] at e
  | .d (.str _) :: _, _, _, e, _ => by simp [bools] at e
  | .d (.tup _) :: _, _, _, e, _ => by simp [bools] at e
  | .d (.lst _) :: _, _, _, e, _ => by simp [bools] at e
  | .r _ :: _, _, _, e, _ => by simp [bools] at e
def biAll (ws : List W) (h : Hh) : R W := match ws with
  | [w] => match (lstW w h).bind bools with
    | some bs => .ok (.d (.bl (bs.all id))) h
    | none => .no
  | _ => .no
theorem fc_all : FCl K T biAll (rAll K) := by
  intro Wx σ F ρ ih H xs vs Q hr rs hp
  unfold biAll at hp
  split at hp
  · cases rs with | cons r t => cases t with | nil =>
      split at hp
      · rename_i bs e
        rw [Option.bind_eq_some_iff] at e
        obtain ⟨l, e1, e2⟩ := e
        obtain ⟨a, us, rfl, s, rs, _⟩ := lstW_at hr r e1
        have := bools_at e2 rs
        subst this
        exact ⟨_, bs, rfl, .inl s, hp.ok hr _ (.d (.bl _))⟩
      · exact hp.elim
  · exact hp.elim
def biAny (ws : List W) (h : Hh) : R W := match ws with
  | [w] => match (lstW w h).bind bools with
    | some bs => .ok (.d (.bl (bs.any id))) h
    | none => .no
  | _ => .no
theorem fc_any : FCl K T biAny (rAny K) := by
  intro Wx σ F ρ ih H xs vs Q hr rs hp
  unfold biAny at hp
  split at hp
  · cases rs with | cons r t => cases t with | nil =>
      split at hp
      · rename_i bs e
        rw [Option.bind_eq_some_iff] at e
        obtain ⟨l, e1, e2⟩ := e
        obtain ⟨a, us, rfl, s, rs, _⟩ := lstW_at hr r e1
        have := bools_at e2 rs
        subst this
        exact ⟨_, bs, rfl, .inl s, hp.ok hr _ (.d (.bl _))⟩
      · exact hp.elim
  · exact hp.elim
/-! ### max, min, sum of whole numbers -/
def intsW : List W → Option (List Int)
  | [] => some []
  | .d (.int b) :: r => (intsW r).map (b :: ·)
  | _ :: _ => none
theorem intsW_at {F ρ : List Addr} {H : Hp} : ∀ {ws : List W} {bs : List Int} {vs : List V}, intsW ws = some bs → RWs K F ρ H ws vs → vs = bs.map V.int
  | [], bs, vs, e, r => by cases r; simp [intsW] at e; subst e; rfl
  | .d (.int b) :: t, bs, vs, e, r => by
    simp only [intsW, Option.map_eq_some_iff] at e
    obtain ⟨l, e1, rfl⟩ := e
    cases r with | cons a c => cases a with | d a => cases a; rw [intsW_at e1 c]; rfl
  | .d .non :: _, _, _, e, _ => by simp [intsW] at e
  | .d (.bl _) :: _, _, _, e, _ => by simp [intsW] at e
  | .d (.str _) :: _, _, _, e, _ => by simp [intsW] at e
  | .d (.tup _) :: _, _, _, e, _ => by simp [intsW] at e
  | .d (.lst _) :: _, _, _, e, _ => by simp [intsW] at e
  | .r _ :: _, _, _, e, _ => by simp [intsW] at e
def maxI : List Int → Int
  | [] => 0
  | x :: r => r.foldl max x
def minI : List Int → Int
  | [] => 0
  | x :: r => r.foldl min x
theorem foldl_max_le (r : List Int) : ∀ x : Int, x ≤ r.foldl max x ∧ (∀ y ∈ r, y ≤ r.foldl max x) ∧ (r.foldl max x = x ∨ r.foldl max x ∈ r) := by
  induction r with
  | nil => intro x; simp
  | cons a r ih =>
    intro x
    obtain ⟨h1, h2, h3⟩ := ih (max x a)
    simp only [List.foldl_cons]
    refine ⟨by omega, fun y hy => ?_, ?_⟩
    · rcases List.mem_cons.mp hy with e | e
      · subst e; omega
      · exact h2 y e
    · rcases h3 with e | e
      · by_cases hx : a ≤ x
        · left; rw [e]; omega
        · right; rw [e]; simp; left; omega
      · right; exact List.mem_cons_of_mem _ e
theorem foldl_min_le (r : List Int) : ∀ x : Int, r.foldl min x ≤ x ∧ (∀ y ∈ r, r.foldl min x ≤ y) ∧ (r.foldl min x = x ∨ r.foldl min x ∈ r) := by
  induction r with
  | nil => intro x; simp
  | cons a r ih =>
    intro x
    obtain ⟨h1, h2, h3⟩ := ih (min x a)
    simp only [List.foldl_cons]
    refine ⟨by omega, fun y hy => ?_, ?_⟩
    · rcases List.mem_cons.mp hy with e | e
      · subst e; omega
      · exact h2 y e
    · rcases h3 with e | e
      · by_cases hx : x ≤ a
        · left; rw [e]; omega
        · right; rw [e]; simp; left; omega
      · right; exact List.mem_cons_of_mem _ e
theorem maxI_is {l : List Int} {m : Int} (hm : m ∈ l) (h : ∀ y ∈ l, y ≤ m) : m = maxI l := by
  cases l with
  | nil => cases hm
  | cons x r =>
    obtain ⟨h1, h2, h3⟩ := foldl_max_le r x
    have a : maxI (x :: r) ≤ m := by
      show r.foldl max x ≤ m
      rcases h3 with e | e
      · rw [e]; exact h x (by simp)
      · exact h _ (List.mem_cons_of_mem _ e)
    have b : m ≤ maxI (x :: r) := by
      show m ≤ r.foldl max x
      rcases List.mem_cons.mp hm with e | e
      · rw [e]; exact h1
      · exact h2 m e
    omega
theorem minI_is {l : List Int} {m : Int} (hm : m ∈ l) (h : ∀ y ∈ l, m ≤ y) : m = minI l := by
  cases l with
  | nil => cases hm
  | cons x r =>
    obtain ⟨h1, h2, h3⟩ := foldl_min_le r x
    have a : m ≤ minI (x :: r) := by
      show m ≤ r.foldl min x
      rcases h3 with e | e
      · rw [e]; exact h x (by simp)
      · exact h _ (List.mem_cons_of_mem _ e)
    have b : minI (x :: r) ≤ m := by
      show r.foldl min x ≤ m
      rcases List.mem_cons.mp hm with e | e
      · rw [e]; exact h1
      · exact h2 m e
    omega
def biMax (ws : List W) (h : Hh) : R W := match ws with
  | [w] => match (lstW w h).bind intsW with
    | some (x :: r) => .ok (.d (.int (maxI (x :: r)))) h
    | _ => .no
  | _ => .no
theorem fc_max : FCl K T biMax (rMax K) := by
  intro Wx σ F ρ ih H xs vs Q hr rs hp
  unfold biMax at hp
  split at hp
  · cases rs with | cons r t => cases t with | nil =>
      split at hp
      · rename_i x' r' e
        rw [Option.bind_eq_some_iff] at e
        obtain ⟨l, e1, e2⟩ := e
        obtain ⟨a, us, rfl, s, rs, _⟩ := lstW_at hr r e1
        have := intsW_at e2 rs
        subst this
        exact ⟨_, _, rfl, .inl s, by simp, fun m hm hle => by rw [maxI_is hm hle]; exact hp.ok hr _ (.d (.int _))⟩
      · exact hp.elim
  · exact hp.elim
def biMin (ws : List W) (h : Hh) : R W := match ws with
  | [w] => match (lstW w h).bind intsW with
    | some (x :: r) => .ok (.d (.int (minI (x :: r)))) h
    | _ => .no
  | _ => .no
theorem fc_min : FCl K T biMin (rMin K) := by
  intro Wx σ F ρ ih H xs vs Q hr rs hp
  unfold biMin at hp
  split at hp
  · cases rs with | cons r t => cases t with | nil =>
      split at hp
      · rename_i x' r' e
        rw [Option.bind_eq_some_iff] at e
        obtain ⟨l, e1, e2⟩ := e
        obtain ⟨a, us, rfl, s, rs, _⟩ := lstW_at hr r e1
        have := intsW_at e2 rs
        subst this
        exact ⟨_, _, rfl, .inl s, by simp, fun m hm hle => by rw [minI_is hm hle]; exact hp.ok hr _ (.d (.int _))⟩
      · exact hp.elim
  · exact hp.elim
def biSum (ws : List W) (h : Hh) : R W := match ws with
  | [w] => match (lstW w h).bind intsW with
    | some l => .ok (.d (.int l.sum)) h
    | _ => .no
  | _ => .no
theorem fc_sum : FCl K T biSum (rSum K) := by
  intro Wx σ F ρ ih H xs vs Q hr rs hp
  unfold biSum at hp
  split at hp
  · cases rs with | cons r t => cases t with | nil =>
      split at hp
      · rename_i l' e
        rw [Option.bind_eq_some_iff] at e
        obtain ⟨l, e1, e2⟩ := e
        obtain ⟨a, us, rfl, s, rs, _⟩ := lstW_at hr r e1
        have := intsW_at e2 rs
        subst this
        exact ⟨_, _, rfl, .inl s, hp.ok hr _ (.d (.int _))⟩
      · exact hp.elim
  · exact hp.elim
def biMax2 (ws : List W) (h : Hh) : R W := match ws with
  | [.d (.int i), .d (.int j)] => .ok (.d (.int (if j > i then j else i))) h
  | _ => .no
theorem fc_max2 : FCl K T biMax2 (fun xs H Q => ∃ i j, xs = [.int i, .int j] ∧ Q (.int (if j > i then j else i)) H) := by
  intro Wx σ F ρ ih H xs vs Q hr rs hp
  unfold biMax2 at hp
  split at hp
  · cases rs with | cons r t => cases t with | cons r2 t => cases t; cases r with | d r => cases r2 with | d r2 => cases r; cases r2; exact ⟨_, _, rfl, hp.ok hr _ (.d (.int _))⟩
  · exact hp.elim
end

/-! ### isinstance(x, T), T a built-in type -/
inductive Ty where
  | int | bool | str | tup | lst
def Ty.nm : Ty → String
  | .int => "int" | .bool => "bool" | .str => "str" | .tup => "tuple" | .lst => "list"
def isD (t : Ty) : D → Bool
  | .non => false
  | .bl _ => match t with | .int => true | .bool => true | _ => false
  | .int _ => match t with | .int => true | _ => false
  | .str _ => match t with | .str => true | _ => false
  | .tup _ => match t with | .tup => true | _ => false
  | .lst _ => match t with | .lst => true | _ => false
def cIsi (t : Ty) (c : Cd) : Cd := fun e h => (c e h).bind fun w h => match w with
  | .d x => .ok (.d (.bl (isD t x))) h
  | .r n => match h[n]? with
    | some (.lst _) => .ok (.d (.bl (match t with | .lst => true | _ => false))) h
    | _ => .no
  | .f _ => .no
def tyB (t : Ty) (a : String) : Bool := match t with
  | .int => a == "int" || a == "bool" | .bool => a == "bool" | .str => a == "str" | .tup => a == "tuple" | .lst => a == "list"
theorem kit_tab : ∀ (a : String) (t : Ty), a ∈ ["NoneType", "bool", "int", "str", "tuple", "list"] → kitB a t.nm = some (tyB t a) := by
  intro a t h
  simp only [List.mem_cons, List.not_mem_nil, or_false] at h
  rcases h with rfl | rfl | rfl | rfl | rfl | rfl <;> cases t <;> decide +kernel
theorem isi_at {K : PySem.W.Frag} {T : Tb} {Wx : WX} {σ : L2.St} {F ρ : List Addr} {H : Hp} {ih : Hh} {t : Ty} {w : W} {v : V} {Q : VK} (hr : HR K T F ρ ih H) (r : RW K F ρ H w v)
    (hp : Pst K T Wx σ F ρ H (match w with
      | .d x => .ok (.d (.bl (isD t x))) ih
      | .r n => match ih[n]? with
        | some (.lst _) => .ok (.d (.bl (match t with | .lst => true | _ => false))) ih
        | _ => .no
      | .f _ => .no) fun ρ' H' _ w => ∀ v, RW K F ρ' H' w v → Q v H') : rIsi K [v, .ty t.nm] H Q := by
  cases r with
  | d r =>
    have k : ∀ (a : String) (b : Bool), a ∈ ["NoneType", "bool", "int", "str", "tuple", "list"] → TyX K H v (.type a) → tyB t a = b → Q (.bl b) H → rIsi K [v, .ty t.nm] H Q := fun a b ha ty e q =>
      ⟨v, .ty t.nm, .type a, .type t.nm, b, rfl, .ty _, ty, kit_ty (by rw [kit_tab a t ha, e]), q⟩
    have q := hp.ok hr
    cases r with
    | non => exact k "NoneType" _ (by simp) (.base .non) (by cases t <;> rfl) (q _ (.d (.bl _)))
    | bl b => exact k "bool" _ (by simp) (.base (.bl b)) (by cases t <;> rfl) (q _ (.d (.bl _)))
    | int i => exact k "int" _ (by simp) (.base (.int i)) (by cases t <;> rfl) (q _ (.d (.bl _)))
    | str l z => exact k "str" _ (by simp) (.base (.str _)) (by cases t <;> rfl) (q _ (.d (.bl _)))
    | tup h z rl =>
      have ty : TyX K H (.ref _) (.type "tuple") := .base (.tup h.1)
      exact k "tuple" _ (by simp) ty (by cases t <;> rfl) (q _ (.d (.bl _)))
    | lst h z rl =>
      have ty : TyX K H (.ref _) (.type "list") := h.1.elim (fun e => .base (.lst e)) fun ⟨o, e⟩ => .base (.frz e)
      exact k "list" _ (by simp) ty (by cases t <;> rfl) (q _ (.d (.bl _)))
  | f hn => exact hp.elim
  | r hn =>
    dsimp only at hp
    split at hp
    · rename_i l ho
      obtain ⟨u, eH, ro⟩ := hr.at hn ho
      cases ro with
      | lst z rs => exact ⟨_, .ty t.nm, .type "list", .type t.nm, _, rfl, .ty _, .base (.lst eH), kit_ty (by rw [kit_tab "list" t (by simp)]), (by
          have := hp.ok hr _ (.d (.bl _))
          cases t <;> exact this)⟩
    · exact hp.elim
section
variable {X : Cx} {T : Tb} {Wx : WX} {x y : Str} {p p2 pos : Pos} {e : Expr} {c : Cd}
theorem fe_isi {t : Ty} (hg : Gl X x) (hm : X.mg x = none) (hv : bootBuiltins x = some (.builtin "isinstance")) (hn : x ≠ "__name__") (hdb : (x == ("__debug__" : Str)) = false) (hty : PE X (.Name y p2) (tC (.ty t.nm)))
    (he : starEach (e :: [.Name y p2]) X.env = (false, eval e X.env) :: starEach [.Name y p2] X.env) (he2 : starEach [.Name y p2] X.env = (false, eval (.Name y p2) X.env) :: starEach [] X.env)
    (hpl : (backTo pos (starEach [.Name y p2] X.env)).any (·.1) = false) (h : FE X T Wx e c) : FE X T Wx (.Call (.Name x p) [e, .Name y p2] [] pos) (cIsi t c) :=
  PE.imp (pe_callB call_isi hg hm hv (pa_cons h (pa_cons hty pa_nil he2) he) hn hdb he hpl) fun σ H Q q => by
    obtain ⟨F, ρ, ev, ih, hr, re, hp⟩ := q
    exact ⟨F, ρ, ev, ih, hr, re, hp.bind.mono fun ρ1 H1 ih1 w g1 hr1 hp1 v r => isi_at hr1 r hp1⟩
end
end Fz
set_option Elab.async false
set_option linter.all false
set_option maxRecDepth 100000
set_option maxHeartbeats 2000000
/-! Fz: methods of lists, stores by place, dicts. -/
namespace Fz
open PySem L2 PyProof.Rows

def FMt (K : PySem.W.Frag) (T : Tb) (op : W → List W → Hh → R W) (r : V → List V → Hp → VK → Prop) : Prop := ∀ (Wx : WX) (σ : L2.St) (F ρ : List Addr) (ih : Hh) (H : Hp) (x : W) (xs : List W) (v : V) (vs : List V) (Q : VK), HR K T F ρ ih H → RW K F ρ H x v → RWs K F ρ H xs vs →
  Pst K T Wx σ F ρ H (op x xs ih) (fun ρ' H' _ w => ∀ v, RW K F ρ' H' w v → Q v H') → r v vs H Q
/-- a method of a list -/
def cLm (op : W → List W → Hh → R W) (o : Cd) (a : Ca) : Cd := fun e h => (o e h).bind fun x h => match lstW x h with
  | some _ => (a e h).bind fun ws h => op x ws h
  | none => .no
section
variable {X : Cx} {T : Tb} {Wx : WX} {o e : Expr} {es : List Expr} {name : Str} {apos cpos : Pos} {id : String} {r : V → List V → Hp → VK → Prop} {op : W → List W → Hh → R W} {co : Cd} {ca : Ca}
theorem fe_lm (slot : Slot "list" name id) (hty : typeOf (.builtin id) = pure (.type "method_descriptor")) (hm : MtR X id r) (hf : FMt X.K T op r)
    (hbase : attributeBase o name X.env (eval o X.env) = eval o X.env)
    (hfew : ((backTo cpos (starEach (e :: es) X.env)).all (fun x => !x.1) && (backToKw cpos (keywordEach [] X.env)).all (fun x => x.1.isSome)
      && decide ((e :: es).length + ([] : List Keyword).length + (if ([] : List Keyword).isEmpty then 0 else 1) < 30)) = true)
    (hline : (apos.endLine == cpos.line) = true) (hs : starEach (e :: es) X.env = (false, eval e X.env) :: starEach es X.env) (hplain : (backTo cpos (starEach es X.env)).any (·.1) = false)
    (ho : FE X T Wx o co) (ha : FA X T Wx (e :: es) ca) : FE X T Wx (.Call (.Attribute o name apos) (e :: es) [] cpos) (cLm op co ca) :=
  PE.imp (pe_bm PySem.F.plainAttrs_list slot hty hm ho ha hbase hfew hline hs hplain) fun σ H Q q => by
    obtain ⟨F, ρ, ev, ih, hr, re, hp⟩ := q
    refine ⟨F, ρ, ev, ih, hr, re, hp.bind.mono fun ρ1 H1 ih1 w g1 hr1 hp1 v r1 => ?_⟩
    split at hp1
    · rename_i l e1
      obtain ⟨a, us, rfl, s, rs, _⟩ := lstW_at hr1 r1 e1
      refine ⟨.inl ⟨rfl, _, .inl s⟩, F, ρ1, ev, ih1, hr1, re.grow g1 hr, hp1.bind.mono fun ρ2 H2 ih2 ws g2 hr2 hp2 vs rs2 => ?_⟩
      exact hf Wx σ F ρ2 ih2 H2 w ws _ vs Q hr2 (r1.grow g2 hr1) rs2 hp2
    · exact hp1.elim
theorem fe_lm0 (slot : Slot "list" name id) (hty : typeOf (.builtin id) = pure (.type "method_descriptor")) (hm : MtR X id r) (hf : FMt X.K T op r)
    (hbase : attributeBase o name X.env (eval o X.env) = eval o X.env) (hline : (apos.endLine == cpos.line) = true) (ho : FE X T Wx o co) : FE X T Wx (.Call (.Attribute o name apos) [] [] cpos) (cLm op co aNil) :=
  PE.imp (pe_bm0 PySem.F.plainAttrs_list slot hty hm ho hbase hline) fun σ H Q q => by
    obtain ⟨F, ρ, ev, ih, hr, re, hp⟩ := q
    refine ⟨F, ρ, ev, ih, hr, re, hp.bind.mono fun ρ1 H1 ih1 w g1 hr1 hp1 v r1 => ?_⟩
    split at hp1
    · rename_i l e1
      obtain ⟨a, us, rfl, s, rs, _⟩ := lstW_at hr1 r1 e1
      exact ⟨.inl ⟨rfl, _, .inl s⟩, hf Wx σ F ρ1 ih1 H1 w [] _ [] Q hr1 r1 .nil hp1⟩
    · exact hp1.elim
end
section
variable {K : PySem.W.Frag} {T : Tb} {F ρ : List Addr} {H : Hp} {ih : Hh}
/-- the list n gets other items -/
theorem lset {Wx : WX} {σ : L2.St} {n : Nat} {a : Addr} {l' : List W} {vs' : List V} {w : W} {k : List Addr → Hp → Hh → W → Prop} (hr : HR K T F ρ ih H) (hn : ρ[n]? = some a) (nf : NF H a) (z : l'.length ≤ sizeLine)
    (rs : ∀ H', Keep (F ++ ρ) H (F ++ ρ) H' → RWs K F ρ H' l' vs') (hp : Pst K T Wx σ F ρ H (.ok w (ih.set n (.lst l'))) k) : k ρ (upd H a (.lst vs')) (ih.set n (.lst l')) w := by
  have m := List.mem_of_getElem? hn
  have g : Grow F ρ H ρ (upd H a (.lst vs')) := grow_set m nf
  exact hp _ _ g (hr.set hn (.lst z (rs _ (g.keepM hr))))
def mAppend (x : W) (ws : List W) (h : Hh) : R W := match x, ws with
  | .r n, [w] => match h[n]? with
    | some (.lst l) => if l.length < 16777216 then .ok (.d .non) (h.set n (.lst (l ++ [w]))) else .no
    | _ => .no
  | _, _ => .no
theorem RWs.kp {F' ρ' : List Addr} {H' : Hp} (k : Keep (F ++ ρ) H (F' ++ ρ') H') (g : ∀ (n : Nat) (a : Addr), ρ[n]? = some a → ρ'[n]? = some a) {w : List W} {v : List V} (r : RWs K F ρ H w v) : RWs K F' ρ' H' w v := Paired.mapP r fun _ _ x => x.kp k g
theorem fm_append : FMt K T mAppend rAppend := by
  intro Wx σ F ρ ih H x xs v vs Q hr r rs hp
  unfold mAppend at hp
  split at hp
  · rename_i n w
    split at hp
    · rename_i l ho
      split at hp
      · rename_i z
        cases r with | r hn =>
        cases rs with | cons rw t => cases t with | nil =>
          obtain ⟨u, eH, ro⟩ := hr.at hn ho
          cases ro with
          | lst z' rl =>
            refine ⟨_, _, _, rfl, rfl, eH, by rw [← rl.length]; exact z, ?_⟩
            exact lset hr hn (nf_of eH trivial) (by simp; exact z) (fun H' k => RWs.kp k (fun _ _ q => q) (rl.app (.cons rw .nil))) hp _ (.d .non)
      · exact hp.elim
    · exact hp.elim
  · exact hp.elim
def mPop (x : W) (ws : List W) (h : Hh) : R W := match x, ws with
  | .r n, [] => match h[n]? with
    | some (.lst l) => match l[l.length - 1]? with
      | some w => .ok w (h.set n (.lst l.dropLast))
      | none => .no
    | _ => .no
  | _, _ => .no
theorem RWs.dropLast {l : List W} {vs : List V} (h : RWs K F ρ H l vs) : RWs K F ρ H l.dropLast vs.dropLast := by
  induction h with
  | nil => exact .nil
  | cons r t ih =>
    cases t with
    | nil => exact .nil
    | cons r2 t2 => exact .cons r ih
theorem fm_pop : FMt K T mPop rPop := by
  intro Wx σ F ρ ih H x xs v vs Q hr r rs hp
  unfold mPop at hp
  split at hp
  · rename_i n
    split at hp
    · rename_i l ho
      split at hp
      · rename_i w hw
        cases r with | r hn =>
        cases rs with | nil =>
          obtain ⟨u, eH, ro⟩ := hr.at hn ho
          cases ro with
          | lst z' rl =>
            obtain ⟨y, e1, r1⟩ := rl.get hw
            refine ⟨_, _, y, rfl, rfl, eH, by rw [← rl.length]; exact e1, ?_⟩
            have m := List.mem_of_getElem? hn
            have key := lset hr hn (nf_of eH trivial) (by simp; omega) (fun H' k => RWs.kp k (fun _ _ q => q) rl.dropLast) hp
            exact key y (r1.grow (grow_set m (nf_of eH trivial)) hr)
      · exact hp.elim
    · exact hp.elim
  · exact hp.elim
end
/-- xs.extend(ys): ys any list -/
def rExtR : V → List V → Hp → VK → Prop := fun x vs H Q => ∃ l b xs zs, x = .ref l ∧ vs = [.ref b] ∧ H l = some (.lst xs) ∧ Rd H b (.lst zs) ∧ xs.length + zs.length ≤ sizeLine ∧ Q .non (upd H l (.lst (xs ++ zs)))
theorem mt_extR {X : Cx} : MtR X "list.extend" rExtR := by
  intro pins s σ H x vs v us Q I rx rv h
  obtain ⟨l, b, xs, zs, rfl, rfl, hH, hB, hz, q⟩ := h
  cases rx
  obtain ⟨u, rfl, ru⟩ := rv.one
  cases ru
  obtain ⟨_, its, n, r, hl, e⟩ := I.lstM hH
  obtain ⟨_, jts, m, r2, hl2, e2⟩ := Inv.lstR I hB
  have hsz : its.toArray.size + jts.toArray.size ≤ sizeLine := by simp; omega
  have hlong : ¬ (!its.toArray.isEmpty && Builtin.List.listTooLong (its.toArray.size + jts.toArray.size)) = true := by
    rw [notLongL hsz, Bool.and_false]; simp
  refine call_meets F.slot_list_extend ⟨_, e, rfl⟩ F.entry_list_extend (F.args_list_extend_2 _ _)
    (AutoSeq1.list_extend_list_list_0 l its.toArray n b jts.toArray m hlong (by simp; omega) (by omega)) ⟨e, e2, ?_⟩
  exact ⟨.non, _, I.lset (its' := its ++ jts) hH e (by simp) (r.append r2) (by simp; omega), rfl, q⟩
section
variable {K : PySem.W.Frag} {T : Tb}
def mExtend (x : W) (ws : List W) (h : Hh) : R W := match x, ws with
  | .r n, [w] => match h[n]?, lstW w h with
    | some (.lst l), some k => if l.length + k.length ≤ 16777216 then .ok (.d .non) (h.set n (.lst (l ++ k))) else .no
    | _, _ => .no
  | _, _ => .no
theorem fm_extend : FMt K T mExtend rExtR := by
  intro Wx σ F ρ ih H x xs v vs Q hr r rs hp
  unfold mExtend at hp
  split at hp
  · rename_i n w
    split at hp
    · rename_i l k ho hk
      split at hp
      · rename_i z
        cases r with | r hn =>
        cases rs with | cons rw t => cases t with | nil =>
          obtain ⟨u, eH, ro⟩ := hr.at hn ho
          obtain ⟨a, us, rfl, s, rk, _⟩ := lstW_at hr rw hk
          cases ro with
          | lst z' rl =>
            refine ⟨_, _, _, _, rfl, rfl, eH, s, by rw [← rl.length, ← rk.length]; exact z, ?_⟩
            exact lset hr hn (nf_of eH trivial) (by simp; exact z) (fun H' k => RWs.kp k (fun _ _ q => q) (rl.app rk)) hp _ (.d .non)
      · exact hp.elim
    · exact hp.elim
  · exact hp.elim
/-- xs.index(y) -/
def findD (y : D) : List D → Option Nat
  | [] => none
  | x :: r => if D.eqv x y then some 0 else (findD y r).map (· + 1)
theorem findD_at {y : D} : ∀ {l : List D} {j : Nat}, findD y l = some j → (∃ z, l[j]? = some z ∧ D.eqv z y = true) ∧ ∀ m z, m < j → l[m]? = some z → D.eqv z y = false
  | [], j, h => by simp [findD] at h
  | x :: r, j, h => by
    unfold findD at h
    split at h
    · rename_i c
      cases h
      exact ⟨⟨x, rfl, c⟩, fun m z hm => absurd hm (Nat.not_lt_zero _)⟩
    · rename_i c
      rw [Option.map_eq_some_iff] at h
      obtain ⟨i, hi, rfl⟩ := h
      obtain ⟨⟨z, h1, h2⟩, h3⟩ := findD_at hi
      refine ⟨⟨z, by simpa using h1, h2⟩, fun m u hm hu => ?_⟩
      cases m with
      | zero => simp at hu; subst hu; simpa using c
      | succ m => exact h3 m u (by omega) (by simpa using hu)
def mIndex (x : W) (ws : List W) (h : Hh) : R W := match ws with
  | [w] => match valD x h, valD w h with
    | some (.lst l), some y => if sh 64 (.lst l) && sh 64 y then (match findD y l with
      | some j => .ok (.d (.int j)) h
      | none => .no) else .no
    | _, _ => .no
  | _ => .no
theorem fm_index : FMt K T mIndex (rIndexD K) := by
  intro Wx σ F ρ ih H x xs v vs Q hr r rs hp
  unfold mIndex at hp
  split at hp
  · rename_i w
    split at hp
    · rename_i l y e1 e2
      split at hp
      · rename_i c
        rw [Bool.and_eq_true] at c
        split at hp
        · rename_i j hj
          cases rs with | cons rw t => cases t with | nil =>
            obtain ⟨⟨z, h1, h2⟩, h3⟩ := findD_at hj
            have dx := valD_dp hr r e1
            have hx : ∃ a, v = V.ref a := by
              simp only [D.py] at dx
              cases dx
              exact ⟨_, rfl⟩
            obtain ⟨a, rfl⟩ := hx
            refine ⟨a, _, y.py, pyL l, j, z.py, rfl, rfl, by simpa [D.py] using dx, valD_dp hr rw e2, by simpa [D.py] using sh_shaped c.1, sh_shaped c.2, by rw [pyL_map, List.getElem?_map, h1]; rfl, by rw [eqv_py]; exact h2, fun m z' hm hz => ?_, hp.ok hr _ (.d (.int _))⟩
            rw [pyL_map, List.getElem?_map, Option.map_eq_some_iff] at hz
            obtain ⟨u, hu, rfl⟩ := hz
            rw [eqv_py]
            exact h3 m u hm hu
        · exact hp.elim
      · exact hp.elim
    · exact hp.elim
  · exact hp.elim
end
/-! ### xs[i] = e -/
def setAt (x y w : W) (h : Hh) : Option Hh := match x, y with
  | .r n, .d (.int k) => match h[n]? with
    | some (.lst l) => (ixN l.length k).map fun j => h.set n (.lst (l.set j w))
    | _ => none
  | _, _ => none
def sSet (c o i : Cd) : Cs := fun e h => lift (c e h) e fun w h => lift (o e h) e fun x h => lift (i e h) e fun y h => match setAt x y w h with
  | some h' => .nx e h'
  | none => .no
section
variable {X : Cx} {T : Tb} {Wx : WX} {o i e : Expr} {pos pos' tpos : Pos} {c co ci : Cd}
theorem RWs.set {K : PySem.W.Frag} {F ρ : List Addr} {H : Hp} {l : List W} {vs : List V} (h : RWs K F ρ H l vs) {w : W} {v : V} (r : RW K F ρ H w v) : ∀ j : Nat, RWs K F ρ H (l.set j w) (vs.set j v) := by
  induction h with
  | nil => intro j; simp; exact .nil
  | cons r1 t ih => intro j; cases j with
    | zero => exact .cons r t
    | succ j => exact .cons r1 (ih j)
theorem setAt_at {K : PySem.W.Frag} {F ρ : List Addr} {H : Hp} {ih ih' : Hh} {x y w : W} {v1 v2 v3 : V} (hr : HR K T F ρ ih H) (r1 : RW K F ρ H x v1) (r2 : RW K F ρ H y v2) (r3 : RW K F ρ H w v3) (e : setAt x y w ih = some ih') :
    ∃ p xs k j, v1 = .ref p ∧ v2 = .int k ∧ H p = some (.lst xs) ∧ ixN xs.length k = some j ∧ p ∈ ρ ∧ HR K T F ρ ih' (upd H p (.lst (xs.set j v3))) := by
  unfold setAt at e
  split at e
  · rename_i n k
    split at e
    · rename_i l ho
      rw [Option.map_eq_some_iff] at e
      obtain ⟨j, hj, rfl⟩ := e
      cases r1 with | r hn =>
      cases r2 with | d r2 => cases r2 with | int =>
        obtain ⟨u, eH, ro⟩ := hr.at hn ho
        cases ro with
        | lst z rl =>
          have m := List.mem_of_getElem? hn
          refine ⟨_, _, k, j, rfl, rfl, eH, by rw [← rl.length]; exact hj, m, hr.set hn (.lst (by simpa using z) ?_)⟩
          exact RWs.kp (keep_set m) (fun _ _ q => q) (rl.set r3 j)
    · cases e
  · cases e
theorem fs_setL (ha : ∀ v, assign (.Subscript o i tpos) X.env v = (do
      let ov ← holding [v] (eval o X.env)
      let iv ← holding [v, ov] (eval i X.env)
      standAt tpos
      holding [v, ov, iv] (setItem ov iv v)
      release [v, ov, iv] []))
    (hs : swapsWithSole [.Subscript o i tpos] e pos.line X.env = pure false) (hw : swappedStores [.Subscript o i tpos] e X.env = pure none) (h1 : (assignEach [.Subscript o i tpos] X.env).map (·.2) = [assign (.Subscript o i tpos) X.env])
    (he : FE X T Wx e c) (ho : FE X T Wx o co) (hi : FE X T Wx i ci) : FS X T Wx (.Assign [.Subscript o i tpos] e pos) (sSet c co ci) := PS.imp (ps_asg he (pg_sub ho hi set_list ha) hs hw h1) fun D σ H q => by
  obtain ⟨F, ρ, ev, ih, hr, re, hp⟩ := q
  refine ⟨F, ρ, ev, ih, hr, re, (Pss.lift hr re hp).mono fun ρ1 H1 ih1 w g1 hr1 hp1 v3 r3 => ?_⟩
  have re1 := re.grow g1 hr
  refine ⟨F, ρ1, ev, ih1, hr1, re1, (Pss.lift hr1 re1 hp1).mono fun ρ2 H2 ih2 x g2 hr2 hp2 v1 r1 => ?_⟩
  have re2 := re1.grow g2 hr1
  refine ⟨F, ρ2, ev, ih2, hr2, re2, (Pss.lift hr2 re2 hp2).mono fun ρ3 H3 ih3 y g3 hr3 hp3 v2 r2 => ?_⟩
  have re3 := re2.grow g3 hr2
  split at hp3
  · rename_i h' q
    obtain ⟨p, xs, k, j, rfl, rfl, eH, hj, m, hr4⟩ := setAt_at hr3 (r1.grow g3 hr2) r2 ((r3.grow g2 hr1).grow g3 hr2) q
    exact ⟨_, _, _, _, rfl, rfl, eH, hj, hp3 _ _ _ (grow_set m (nf_of eH trivial)) hr4 (re3.grow (grow_set m (nf_of eH trivial)) hr3)⟩
  · exact hp3.elim
/-! ### o.f op= e -/
def putAs (c : Nat) (n f : Nat) (w : W) (h : Hh) : Option Hh := match h[n]? with
  | some (.ins c' fs) => if c' = c ∧ fs.length < 800 then some (h.set n (.ins c (putf f w fs))) else none
  | _ => none
def sFldAug' (f : Nat) (op : W → W → Hh → R W) (o c : Cd) : Cs := fun e h => lift (o e h) e fun x h => match x with
  | .r n => match h[n]? with
    | some (.ins k fs) => match lkf f fs with
      | some v => lift ((c e h).bind fun y h => op v y h) e fun z h => match putAs k n f z h with
        | some h' => .nx e h'
        | none => .no
      | none => .no
    | _ => .no
  | _ => .no
theorem putAs_at {K : PySem.W.Frag} {F ρ : List Addr} {H : Hp} {ih ih' : Hh} {c n fl : Nat} {a : Addr} {w : W} {u : V} (inj : ∀ i, T.fld i = T.fld fl → i = fl) (hr : HR K T F ρ ih H) (hn : ρ[n]? = some a) (rw : RW K F ρ H w u) (e : putAs c n fl w ih = some ih') :
    ∃ dx fs, H a = some (.ins (T.cad c) dx fs) ∧ fs.length < 1000 ∧ HR K T F ρ ih' (upd H a (.ins (T.cad c) dx (putF (T.fld fl) u fs))) := by
  unfold putAs at e
  split at e
  · rename_i c' fs ho
    split at e
    · rename_i hc
      obtain ⟨rfl, hc⟩ := hc
      cases e
      obtain ⟨o, eH, ro⟩ := hr.at hn ho
      cases ro with
      | ins rs z =>
        have m := List.mem_of_getElem? hn
        refine ⟨_, _, eH, by rw [← Paired.length rs]; omega, hr.set hn (.ins (putf_at inj (rw.kp (keep_set m) fun _ _ q => q) (Paired.mapP rs fun _ _ y => ⟨y.1, y.2.kp (keep_set m) fun _ _ q => q⟩)) ?_)⟩
        exact Nat.lt_of_le_of_lt (putf_len _ _ _) (by omega)
    · cases e
  · cases e
theorem fs_fldAug {op : Operator} {rd : V → V → Hp → VK → Prop} {opf : W → W → Hh → R W} {fl : Nat} {f : Str} (hf : T.fld fl = f) (inj : ∀ i, T.fld i = T.fld fl → i = fl) (cl : ∀ c, Cls X.K (T.cad c)) (na : ∀ c, NoAttr X.K (T.cad c) f) (hop : InOp X op rd) (hfo : FOp X.K T opf rd)
    (ho : FE X T Wx o co) (he : FE X T Wx e c) : FS X T Wx (.AugAssign (.Attribute o f tpos) op e pos) (sFldAug' fl opf co c) := PS.imp (ps_fldaug ho he hop) fun D σ H q => by
  subst hf
  obtain ⟨F, ρ, ev, ih, hr, re, hp⟩ := q
  refine ⟨F, ρ, ev, ih, hr, re, (Pss.lift hr re hp).mono fun ρ1 H1 ih1 x g1 hr1 hp1 u r1 => ?_⟩
  have re1 := re.grow g1 hr
  split at hp1
  · rename_i n
    split at hp1
    · rename_i k fs hk
      split at hp1
      · rename_i v hv
        cases r1 with | r hn =>
          obtain ⟨uo, eH, ro⟩ := hr1.at hn hk
          cases ro with
          | ins rs z =>
            obtain ⟨v', e1, rv⟩ := lkf_at inj rs hv
            refine ⟨_, _, _, _, v', rfl, eH, cl _, na _, e1, F, ρ1, ev, ih1, hr1, re1, ((Pss.lift hr1 re1 hp1).bind).mono fun ρ2 H2 ih2 y g2 hr2 hp2 y' ry => ?_⟩
            have re2 := re1.grow g2 hr1
            refine hfo Wx σ F ρ2 ih2 H2 v y v' y' _ hr2 (rv.grow g2 hr1) ry (hp2.mono fun ρ3 H3 ih3 w g3 hr3 hp3 w' rw' => ?_)
            have re3 := re2.grow g3 hr2
            split at hp3
            · rename_i h' q
              have hn3 := g3.get (g2.get hn)
              obtain ⟨dx, fs', eH3, hl, hr4⟩ := putAs_at inj hr3 hn3 rw' q
              exact ⟨_, _, eH3, hl, Pss.nx (Pss.from (grow_set (List.mem_of_getElem? hn3) (nf_of eH3 trivial)) hr4 hp3) hr4 (re3.grow (grow_set (List.mem_of_getElem? hn3) (nf_of eH3 trivial)) hr3)⟩
            · exact hp3.elim
      · exact hp1.elim
    · exact hp1.elim
  · exact hp1.elim
end
/-! ### dicts -/
mutual
def D.beq0 : D → D → Bool
  | .non, .non => true
  | .bl a, .bl b => a == b
  | .int a, .int b => a == b
  | .str a, .str b => a == b
  | .tup a, .tup b => beqL0 a b
  | .lst a, .lst b => beqL0 a b
  | _, _ => false
def beqL0 : List D → List D → Bool
  | [], [] => true
  | x :: xs, y :: ys => D.beq0 x y && beqL0 xs ys
  | _, _ => false
end
mutual
theorem D.beq0_iff : ∀ a b : D, D.beq0 a b = true ↔ a = b
  | .non, b => by cases b <;> simp [D.beq0]
  | .bl x, b => by cases b <;> simp [D.beq0]
  | .int x, b => by cases b <;> simp [D.beq0]
  | .str x, b => by cases b <;> simp [D.beq0]
  | .tup x, b => by
    cases b with
    | tup y => simp only [D.beq0, D.tup.injEq]; exact beqL0_iff x y
    | _ => simp [D.beq0]
  | .lst x, b => by
    cases b with
    | lst y => simp only [D.beq0, D.lst.injEq]; exact beqL0_iff x y
    | _ => simp [D.beq0]
theorem beqL0_iff : ∀ a b : List D, beqL0 a b = true ↔ a = b
  | [], [] => by simp [beqL0]
  | [], y :: ys => by simp [beqL0]
  | x :: xs, [] => by simp [beqL0]
  | x :: xs, y :: ys => by simp only [beqL0, Bool.and_eq_true, List.cons.injEq]; rw [D.beq0_iff x y, beqL0_iff xs ys]
end
/-- a number of a datum, to tell data apart quickly -/
def fpL : List D → Nat
  | .int i :: r => i.toNat + 1 + 64 * fpL r
  | _ => 0
def fp : D → Nat
  | .tup l => fpL l
  | _ => 0
def D.beq (a b : D) : Bool := Nat.beq (fp a) (fp b) && D.beq0 a b
theorem D.beq_iff (a b : D) : D.beq a b = true ↔ a = b := by
  unfold D.beq
  rw [Bool.and_eq_true, D.beq0_iff]
  exact ⟨fun h => h.2, fun h => ⟨by rw [h]; exact Nat.beq_refl _, h⟩⟩
instance : DecidableEq D := fun a b => if h : D.beq a b = true then isTrue ((D.beq_iff a b).mp h) else isFalse fun e => h ((D.beq_iff a b).mpr e)
def lkd (k : D) : List (D × W) → Option W
  | [] => none
  | (a, w) :: r => if D.beq a k then some w else lkd k r
def putd (k : D) (w : W) (l : List (D × W)) : List (D × W) := if l.any (fun p => D.beq p.1 k) then l.map (fun p => if D.beq p.1 k then (p.1, w) else p) else l ++ [(k, w)]
def dropd (k : D) (l : List (D × W)) : List (D × W) := l.filter fun p => !(D.beq p.1 k)
/-- a datum that may be a key: a number, a text -/
def D.isK : D → Bool
  | .int _ => true
  | .str _ => true
  | _ => false
def D.isKT : D → Bool
  | .tup l => l.all D.isK
  | _ => false
def kOf : D → Key
  | .int i => .inl i
  | .str l => .inr (toStr l)
  | _ => .inl 0
theorem Rk.eq {d : D} {k : Key} (h : Rk d k) : k = kOf d ∧ d.isK = true := by cases h <;> exact ⟨rfl, rfl⟩
theorem Rk.of : ∀ {d : D}, d.isK = true → Rk d (kOf d)
  | .int i, _ => .int i
  | .str l, _ => .str l
  | .non, h => by simp [D.isK] at h
  | .bl _, h => by simp [D.isK] at h
  | .tup _, h => by simp [D.isK] at h
  | .lst _, h => by simp [D.isK] at h
theorem kOf_inj {a b : D} (ha : a.isK = true) (hb : b.isK = true) : kOf a = kOf b ↔ a = b := by
  cases a <;> cases b <;> simp [D.isK, kOf] at *
  exact ⟨fun h => toStr_inj h, fun h => by rw [h]⟩
theorem Rks.eq : ∀ {ds : List D} {ks : List Key}, Rks ds ks → ks = ds.map kOf ∧ ds.all D.isK = true
  | _, _, .nil => ⟨rfl, rfl⟩
  | _, _, .cons a b => by
    obtain ⟨e1, e2⟩ := a.eq
    obtain ⟨e3, e4⟩ := Rks.eq b
    exact ⟨by rw [List.map_cons, e1, e3], by rw [List.all_cons, e2, e4]; rfl⟩
theorem Rks.of : ∀ {ds : List D}, ds.all D.isK = true → Rks ds (ds.map kOf)
  | [], _ => .nil
  | d :: ds, h => by
    rw [List.all_cons, Bool.and_eq_true] at h
    exact .cons (Rk.of h.1) (Rks.of h.2)
theorem kOfs_inj : ∀ {a b : List D}, a.all D.isK = true → b.all D.isK = true → (a.map kOf = b.map kOf ↔ a = b)
  | [], [], _, _ => by simp
  | [], _ :: _, _, _ => by simp
  | _ :: _, [], _, _ => by simp
  | x :: xs, y :: ys, ha, hb => by
    rw [List.all_cons, Bool.and_eq_true] at ha hb
    simp only [List.map_cons, List.cons.injEq]
    rw [kOf_inj ha.1 hb.1, kOfs_inj ha.2 hb.2]
theorem Paired.app' {α β : Type} {A : α → β → Prop} : ∀ {l l2 : List α} {m m2 : List β}, Paired A l m → Paired A l2 m2 → Paired A (l ++ l2) (m ++ m2)
  | _, _, _, _, .nil, r => r
  | _, _, _, _, .cons x y, r => .cons x (Paired.app' y r)
/-- kinds of keys -/
def ktOf : D → List Key
  | .tup l => l.map kOf
  | _ => []
theorem RkT.eq {d : D} {ks : List Key} (h : RkT d ks) : ks = ktOf d ∧ d.isKT = true := by
  obtain ⟨ds, rfl, r⟩ := h
  exact r.eq
theorem RkT.of : ∀ {d : D}, d.isKT = true → RkT d (ktOf d)
  | .tup l, h => ⟨l, rfl, Rks.of h⟩
  | .non, h => by simp [D.isKT] at h
  | .bl _, h => by simp [D.isKT] at h
  | .int _, h => by simp [D.isKT] at h
  | .str _, h => by simp [D.isKT] at h
  | .lst _, h => by simp [D.isKT] at h
theorem ktOf_inj : ∀ {a b : D}, a.isKT = true → b.isKT = true → (ktOf a = ktOf b ↔ a = b) := by
  intro a b ha hb
  cases a <;> cases b <;> simp [D.isKT] at ha hb
  simp only [ktOf, D.tup.injEq]
  exact kOfs_inj (by simpa using ha) (by simpa using hb)
section
variable {K : PySem.W.Frag} {T : Tb} {F ρ : List Addr} {H : Hp} {κ : Type} [DecidableEq κ] {kf : D → κ} {ok : D → Bool}
/-- entries: by their keys and values -/
abbrev RD (K : PySem.W.Frag) (F ρ : List Addr) (H : Hp) (kf : D → κ) (ok : D → Bool) : List (D × W) → List (κ × V) → Prop := Paired fun p q => (q.1 = kf p.1 ∧ ok p.1 = true) ∧ RW K F ρ H p.2 q.2
variable (inj : ∀ {a b : D}, ok a = true → ok b = true → (kf a = kf b ↔ a = b))
include inj
theorem key_eq {a k : D} {q : κ} (ha : q = kf a ∧ ok a = true) (hk : ok k = true) : decide (q = kf k) = D.beq a k := by
  obtain ⟨rfl, ha⟩ := ha
  by_cases e : a = k
  · subst e; rw [decide_eq_true rfl]; exact ((D.beq_iff a a).mpr rfl).symm
  · have n1 : ¬ kf a = kf k := fun z => e ((inj ha hk).mp z)
    rw [decide_eq_false n1]
    cases q : D.beq a k with
    | false => rfl
    | true => exact absurd ((D.beq_iff a k).mp q) e
theorem RD.look {l : List (D × W)} {kvs : List (κ × V)} {k : D} (hk : ok k = true) (r : RD K F ρ H kf ok l kvs) : (∀ w, lkd k l = some w → ∃ v, valV kvs (kf k) = some v ∧ RW K F ρ H w v) ∧ (lkd k l = none → valV kvs (kf k) = none) := by
  induction r with
  | nil => exact ⟨fun w e => (by cases e), fun _ => rfl⟩
  | @cons p q l kvs x t ih =>
    have e := key_eq inj x.1 hk
    unfold lkd
    by_cases c : q.1 = kf k
    · rw [decide_eq_true c] at e
      rw [← e, if_pos rfl, valV_pos c]
      exact ⟨fun w z => (by cases z; exact ⟨_, rfl, x.2⟩), fun z => (by cases z)⟩
    · rw [decide_eq_false c] at e
      rw [← e, if_neg Bool.false_ne_true, valV_neg c]
      exact ih
theorem RD.any {l : List (D × W)} {kvs : List (κ × V)} {k : D} (hk : ok k = true) (r : RD K F ρ H kf ok l kvs) : (kvs.any fun kv => decide (kv.1 = kf k)) = l.any fun p => D.beq p.1 k := by
  induction r with
  | nil => rfl
  | cons x t ih => rw [List.any_cons, List.any_cons, ih, key_eq inj x.1 hk]
theorem RD.repl {l : List (D × W)} {kvs : List (κ × V)} {k : D} {w : W} {v : V} (hk : ok k = true) (r : RD K F ρ H kf ok l kvs) (rv : RW K F ρ H w v) : RD K F ρ H kf ok (l.map fun p => if D.beq p.1 k = true then (p.1, w) else p) (kvs.map fun kv => if kv.1 = kf k then (kv.1, v) else kv) := by
  induction r with
  | nil => exact .nil
  | @cons p q l kvs x t ih =>
    rw [List.map_cons, List.map_cons]
    have e := key_eq inj x.1 hk
    refine .cons ?_ ih
    cases c : D.beq p.1 k with
    | true =>
      rw [c] at e
      have e' := of_decide_eq_true e
      simp only [e', if_true]
      rw [← e']
      exact ⟨x.1, rv⟩
    | false =>
      rw [c] at e
      have e' := of_decide_eq_false e
      simp only [e', if_false, Bool.false_eq_true]
      exact x
theorem RD.put {l : List (D × W)} {kvs : List (κ × V)} {k : D} {w : W} {v : V} (hk : ok k = true) (r : RD K F ρ H kf ok l kvs) (rv : RW K F ρ H w v) : RD K F ρ H kf ok (putd k w l) (putK kvs (kf k) v) := by
  unfold putd putK
  rw [RD.any inj hk r]
  split
  · exact RD.repl inj hk r rv
  · exact Paired.app' r (.cons ⟨⟨rfl, hk⟩, rv⟩ .nil)
theorem RD.drop {l : List (D × W)} {kvs : List (κ × V)} {k : D} (hk : ok k = true) (r : RD K F ρ H kf ok l kvs) : RD K F ρ H kf ok (dropd k l) (dropK kvs (kf k)) := by
  unfold dropd dropK
  induction r with
  | nil => exact .nil
  | @cons p q l kvs x t ih =>
    have e := key_eq inj x.1 hk
    rw [List.filter_cons, List.filter_cons]
    cases c : D.beq p.1 k with
    | true =>
      rw [c] at e
      have e' := of_decide_eq_true e
      simp only [e', ne_eq, not_true_eq_false, decide_false, Bool.not_true, Bool.false_eq_true, if_false]
      exact ih
    | false =>
      rw [c] at e
      have e' := of_decide_eq_false e
      simp only [e', ne_eq, not_false_eq_true, decide_true, Bool.not_false, if_true]
      exact .cons x ih
end
end Fz
set_option Elab.async false
set_option linter.all false
set_option maxRecDepth 100000
set_option maxHeartbeats 2000000
/-! Fz: dicts in expressions and statements. -/
namespace Fz
open PySem L2 PyProof.Rows

section
variable {K : PySem.W.Frag} {T : Tb} {F ρ : List Addr} {H : Hp} {ih : Hh}
theorem dk_rd {l : List (D × W)} {kvs : List (Key × V)} (r : Paired (fun p q => Rk p.1 q.1 ∧ RW K F ρ H p.2 q.2) l kvs) : RD K F ρ H kOf D.isK l kvs := Paired.mapP r fun _ _ x => ⟨x.1.eq, x.2⟩
theorem rd_dk {l : List (D × W)} {kvs : List (Key × V)} (r : RD K F ρ H kOf D.isK l kvs) : Paired (fun p q => Rk p.1 q.1 ∧ RW K F ρ H p.2 q.2) l kvs := Paired.mapP r fun p q x => ⟨by rw [x.1.1]; exact Rk.of x.1.2, x.2⟩
theorem dt_rd {l : List (D × W)} {kvs : List (List Key × V)} (r : Paired (fun p q => RkT p.1 q.1 ∧ RW K F ρ H p.2 q.2) l kvs) : RD K F ρ H ktOf D.isKT l kvs := Paired.mapP r fun _ _ x => ⟨x.1.eq, x.2⟩
theorem rd_dt {l : List (D × W)} {kvs : List (List Key × V)} (r : RD K F ρ H ktOf D.isKT l kvs) : Paired (fun p q => RkT p.1 q.1 ∧ RW K F ρ H p.2 q.2) l kvs := Paired.mapP r fun p q x => ⟨by rw [x.1.1]; exact RkT.of x.1.2, x.2⟩
theorem RD.kp {κ : Type} [DecidableEq κ] {kf : D → κ} {ok : D → Bool} {F' ρ' : List Addr} {H' : Hp} (k : Keep (F ++ ρ) H (F' ++ ρ') H') (g : ∀ (n : Nat) (a : Addr), ρ[n]? = some a → ρ'[n]? = some a) {l : List (D × W)} {kvs : List (κ × V)}
    (r : RD K F ρ H kf ok l kvs) : RD K F' ρ' H' kf ok l kvs := Paired.mapP r fun _ _ x => ⟨x.1, x.2.kp k g⟩
/-- a key's value -/
theorem key_v {k : D} {v : V} (h : k.isK = true) (r : RW K F ρ H (.d k) v) : v = kV (kOf k) := by
  cases r with | d r =>
  cases r with
  | int i => rfl
  | str l z => rfl
  | _ => simp [D.isK] at h
theorem keys_v : ∀ {ds : List D} {vs : List V}, ds.all D.isK = true → RpL K (F ++ ρ) H ds vs → vs = (ds.map kOf).map kV
  | [], _, _, .nil => rfl
  | d :: ds, _, h, .cons a b => by
    rw [List.all_cons, Bool.and_eq_true] at h
    rw [key_v h.1 (.d a), keys_v h.2 b]
    rfl
theorem keyT_v {k : D} {v : V} (h : k.isKT = true) (r : RW K F ρ H (.d k) v) : ∃ b, v = .ref b ∧ H b = some (.tup ((ktOf k).map kV)) := by
  cases r with | d r =>
  cases r with
  | tup t z rl =>
    refine ⟨_, rfl, ?_⟩
    rename_i a vs ds
    have := keys_v (K := K) (F := F) (ρ := ρ) (H := H) h rl
    show H a = some (.tup ((ds.map kOf).map kV))
    rw [← this]
    exact t.1
  | _ => simp [D.isKT] at h
/-- what a dict has: none where it is no such dict -/
def dLook (x y : W) (h : Hh) : Option (Option W) := match x, y with
  | .r n, .d k => match h[n]? with
    | some (.dk l) => if k.isK then some (lkd k l) else none
    | some (.dt l) => if k.isKT then some (lkd k l) else none
    | some (.fk l) => if k.isK then some (lkd k l) else none
    | some (.ft l) => if k.isKT then some (lkd k l) else none
    | _ => none
  | _, _ => none
theorem dLook_at {x y : W} {v1 v2 : V} {o : Option W} (hr : HR K T F ρ ih H) (r1 : RW K F ρ H x v1) (r2 : RW K F ρ H y v2) (e : dLook x y ih = some o) :
    ∃ a ov, v1 = .ref a ∧ DGet H a v2 ov ∧ IsD H a ∧ (∀ w, o = some w → ∃ v, ov = some v ∧ RW K F ρ H w v) ∧ (o = none → ov = none) := by
  unfold dLook at e
  split at e
  · rename_i n k
    cases r1 with | r hn =>
    split at e
    · rename_i l ho
      split at e
      · rename_i hk
        cases e
        obtain ⟨u, eH, ro⟩ := hr.at hn ho
        cases ro with
        | dk rs =>
          obtain ⟨p1, p2⟩ := RD.look kOf_inj hk (dk_rd rs)
          refine ⟨_, _, rfl, ?_, .inl ⟨_, .inl eH⟩, p1, p2⟩
          rw [key_v hk r2]
          exact DGet.k eH
      · cases e
    · rename_i l ho
      split at e
      · rename_i hk
        cases e
        obtain ⟨u, eH, ro⟩ := hr.at hn ho
        cases ro with
        | dt rs =>
          obtain ⟨p1, p2⟩ := RD.look ktOf_inj hk (dt_rd rs)
          obtain ⟨b, rfl, eb⟩ := keyT_v hk r2
          exact ⟨_, _, rfl, DGet.t eH eb, .inr ⟨_, .inl eH⟩, p1, p2⟩
      · cases e
    · rename_i l ho
      split at e
      · rename_i hk
        cases e
        obtain ⟨u, eH, ro⟩ := hr.at hn ho
        cases ro with
        | fk rs =>
          obtain ⟨p1, p2⟩ := RD.look kOf_inj hk (dk_rd rs)
          refine ⟨_, _, rfl, .inl ⟨_, _, .inr ⟨_, eH⟩, key_v hk r2, rfl⟩, .inl ⟨_, .inr ⟨_, eH⟩⟩, p1, p2⟩
      · cases e
    · rename_i l ho
      split at e
      · rename_i hk
        cases e
        obtain ⟨u, eH, ro⟩ := hr.at hn ho
        cases ro with
        | ft rs =>
          obtain ⟨p1, p2⟩ := RD.look ktOf_inj hk (dt_rd rs)
          obtain ⟨b, rfl, eb⟩ := keyT_v hk r2
          exact ⟨_, _, rfl, .inr ⟨_, _, _, .inr ⟨_, eH⟩, rfl, eb, rfl⟩, .inr ⟨_, .inr ⟨_, eH⟩⟩, p1, p2⟩
      · cases e
    · cases e
  · cases e
def opDx (x y : W) (h : Hh) : R W := match dLook x y h with
  | some (some w) => .ok w h
  | _ => .no
def opDin (neg : Bool) (y x : W) (h : Hh) : R W := match dLook x y h with
  | some o => .ok (.d (.bl (if neg then !o.isSome else o.isSome))) h
  | none => .no
def dPut (x y w : W) (h : Hh) : Option Hh := match x, y with
  | .r n, .d k => match h[n]? with
    | some (.dk l) => if k.isK ∧ l.length < 16777216 then some (h.set n (.dk (putd k w l))) else none
    | some (.dt l) => if k.isKT ∧ l.length < 16777216 then some (h.set n (.dt (putd k w l))) else none
    | _ => none
  | _, _ => none
theorem dPut_at {x y w : W} {v1 v2 v3 : V} {ih' : Hh} (hr : HR K T F ρ ih H) (r1 : RW K F ρ H x v1) (r2 : RW K F ρ H y v2) (r3 : RW K F ρ H w v3) (e : dPut x y w ih = some ih') :
    ∃ a H', v1 = .ref a ∧ DPut H a v2 v3 H' ∧ Grow F ρ H ρ H' ∧ HR K T F ρ ih' H' := by
  unfold dPut at e
  split at e
  · rename_i n k
    cases r1 with | r hn =>
    have m := List.mem_of_getElem? hn
    split at e
    · rename_i l ho
      split at e
      · rename_i hk
        cases e
        obtain ⟨u, eH, ro⟩ := hr.at hn ho
        cases ro with
        | dk rs =>
          have rp := RD.put kOf_inj hk.1 (dk_rd rs) r3
          refine ⟨_, _, rfl, by rw [key_v hk.1 r2]; exact DPut.k eH (by rw [← Paired.length rs]; exact hk.2), grow_set m (nf_of eH trivial), hr.set hn (.dk (rd_dk (RD.kp (keep_set m) (fun _ _ q => q) rp)))⟩
      · cases e
    · rename_i l ho
      split at e
      · rename_i hk
        cases e
        obtain ⟨u, eH, ro⟩ := hr.at hn ho
        cases ro with
        | dt rs =>
          have rp := RD.put ktOf_inj hk.1 (dt_rd rs) r3
          obtain ⟨b, rfl, eb⟩ := keyT_v hk.1 r2
          refine ⟨_, _, rfl, DPut.t eH eb (by rw [← Paired.length rs]; exact hk.2), grow_set m (nf_of eH trivial), hr.set hn (.dt (rd_dt (RD.kp (keep_set m) (fun _ _ q => q) rp)))⟩
      · cases e
    · cases e
  · cases e
end
section
variable {X : Cx} {T : Tb} {Wx : WX} {o i e f : Expr} {pos pos' tpos apos cpos : Pos} {c co ci cx : Cd}
theorem fe_dx (hu : X.A.units + 1 < cLine) (hs : NoSl i) (ho : FE X T Wx o co) (hi : FE X T Wx i ci) : FE X T Wx (.Subscript o i pos) (c2 opDx co ci) := PE.imp (pe_dget hu ho hi hs) fun σ H Q q => by
  obtain ⟨F, ρ, ev, ih, hr, re, hp⟩ := q
  refine ⟨F, ρ, ev, ih, hr, re, hp.bind.mono fun ρ1 H1 ih1 x g1 hr1 hp1 v1 r1 => ?_⟩
  refine ⟨F, ρ1, ev, ih1, hr1, re.grow g1 hr, hp1.bind.mono fun ρ2 H2 ih2 y g2 hr2 hp2 v2 r2 => ?_⟩
  unfold opDx at hp2
  split at hp2
  · rename_i w hd
    obtain ⟨a, ov, rfl, dg, _, p1, _⟩ := dLook_at hr2 (r1.grow g2 hr1) r2 hd
    obtain ⟨v, rfl, rv⟩ := p1 w rfl
    exact ⟨a, v, rfl, dg, hp2.ok hr2 _ rv⟩
  · exact hp2.elim
theorem din_at {neg : Bool} {σ H Q} (q : tOf X.K T Wx (c2 (opDin neg) ci co) σ H Q) : (tOf X.K T Wx ci σ H fun y H1 => tOf X.K T Wx co σ H1 fun x H2 => ∃ a ov, x = .ref a ∧ DGet H2 a y ov ∧ Q (.bl (if neg then !ov.isSome else ov.isSome)) H2) := by
  obtain ⟨F, ρ, ev, ih, hr, re, hp⟩ := q
  refine ⟨F, ρ, ev, ih, hr, re, hp.bind.mono fun ρ1 H1 ih1 y g1 hr1 hp1 v1 r1 => ?_⟩
  refine ⟨F, ρ1, ev, ih1, hr1, re.grow g1 hr, hp1.bind.mono fun ρ2 H2 ih2 x g2 hr2 hp2 v2 r2 => ?_⟩
  unfold opDin at hp2
  split at hp2
  · rename_i ow hd
    obtain ⟨a, ov, rfl, dg, _, p1, p2⟩ := dLook_at hr2 r2 (r1.grow g2 hr1) hd
    refine ⟨a, ov, rfl, dg, ?_⟩
    have e : ov.isSome = ow.isSome := by
      cases ow with
      | none => rw [p2 rfl]; rfl
      | some w => obtain ⟨v, rfl, _⟩ := p1 w rfl; rfl
    rw [e]
    exact hp2.ok hr2 _ (.d (.bl _))
  · exact hp2.elim
theorem fe_din (hu : X.A.units + 1 < cLine) (hm : behindInMarks .In o = false) (hi : FE X T Wx i ci) (ho : FE X T Wx o co) : FE X T Wx (.Compare i [.In] [o] pos) (c2 (opDin false) ci co) := PE.imp (pe_cmp (pc_din hu hi ho) hm) fun _ _ _ q => din_at q
theorem fe_dnin (hu : X.A.units + 1 < cLine) (hm : behindInMarks .NotIn o = false) (hi : FE X T Wx i ci) (ho : FE X T Wx o co) : FE X T Wx (.Compare i [.NotIn] [o] pos) (c2 (opDin true) ci co) := PE.imp (pe_cmp (pc_dnotin hu hi ho) hm) fun _ _ _ q => din_at q
theorem ft_din (hu : X.A.units + 1 < cLine) (hm : behindInMarks .In o = false) (hi : FE X T Wx i ci) (ho : FE X T Wx o co) : FT' X T Wx (.Compare i [.In] [o] pos) (fun e h => asB (c2 (opDin false) ci co e h)) := PT.imp (pt_cmp (pc_din hu hi ho) hm) fun _ _ _ q => tst (fun _ _ _ q => din_at q) q
theorem ft_dnin (hu : X.A.units + 1 < cLine) (hm : behindInMarks .NotIn o = false) (hi : FE X T Wx i ci) (ho : FE X T Wx o co) : FT' X T Wx (.Compare i [.NotIn] [o] pos) (fun e h => asB (c2 (opDin true) ci co e h)) := PT.imp (pt_cmp (pc_dnotin hu hi ho) hm) fun _ _ _ q => tst (fun _ _ _ q => din_at q) q
/-- d[k] = e -/
def sDSet (c o i : Cd) : Cs := fun e h => lift (c e h) e fun w h => lift (o e h) e fun x h => lift (i e h) e fun y h => match dPut x y w h with
  | some h' => .nx e h'
  | none => .no
theorem fs_setD (hu : X.A.units + 1 < cLine) (hs : swapsWith e (some (.Subscript o i pos')) pos.line X.env = pure false) (he : FE X T Wx e c) (ho : FE X T Wx o co) (hi : FE X T Wx i ci) : FS X T Wx (.Assign [.Subscript o i pos'] e pos) (sDSet c co ci) := PS.imp (ps_dput hu ho hi he hs) fun D σ H q => by
  obtain ⟨F, ρ, ev, ih, hr, re, hp⟩ := q
  refine ⟨F, ρ, ev, ih, hr, re, (Pss.lift hr re hp).mono fun ρ1 H1 ih1 w g1 hr1 hp1 v3 r3 => ?_⟩
  have re1 := re.grow g1 hr
  refine ⟨F, ρ1, ev, ih1, hr1, re1, (Pss.lift hr1 re1 hp1).mono fun ρ2 H2 ih2 x g2 hr2 hp2 v1 r1 => ?_⟩
  have re2 := re1.grow g2 hr1
  refine ⟨F, ρ2, ev, ih2, hr2, re2, (Pss.lift hr2 re2 hp2).mono fun ρ3 H3 ih3 y g3 hr3 hp3 v2 r2 => ?_⟩
  have re3 := re2.grow g3 hr2
  split at hp3
  · rename_i h' q
    obtain ⟨a, H', rfl, dp, g4, hr4⟩ := dPut_at hr3 (r1.grow g3 hr2) r2 ((r3.grow g2 hr1).grow g3 hr2) q
    exact ⟨_, _, rfl, dp, hp3 _ _ _ g4 hr4 (re3.grow g4 hr3)⟩
  · exact hp3.elim
/-- d[k] op= e -/
def sDAug' (op : W → W → Hh → R W) (o i c : Cd) : Cs := fun e h => lift (o e h) e fun x h => lift (i e h) e fun y h => match dLook x y h with
  | some (some v) => lift ((c e h).bind fun y2 h => op v y2 h) e fun z h => match dPut x y z h with
    | some h' => .nx e h'
    | none => .no
  | _ => .no
theorem fs_augD {op : Operator} {rd : V → V → Hp → VK → Prop} {opf : W → W → Hh → R W} (hu : X.A.units + 1 < cLine) (ha : ∀ ov iv new, augStore i ov iv new = (do holding [new, ov, iv] (setItem ov iv new); release [new, ov, iv] []; pure .next)) (hop : InOp X op rd) (hfo : FOp X.K T opf rd)
    (ho : FE X T Wx o co) (hi : FE X T Wx i ci) (he : FE X T Wx e c) : FS X T Wx (.AugAssign (.Subscript o i tpos) op e pos) (sDAug' opf co ci c) := PS.imp (ps_daug hu ho hi he hop ha) fun D σ H q => by
  obtain ⟨F, ρ, ev, ih, hr, re, hp⟩ := q
  refine ⟨F, ρ, ev, ih, hr, re, (Pss.lift hr re hp).mono fun ρ1 H1 ih1 x g1 hr1 hp1 v1 r1 => ?_⟩
  have re1 := re.grow g1 hr
  refine ⟨F, ρ1, ev, ih1, hr1, re1, (Pss.lift hr1 re1 hp1).mono fun ρ2 H2 ih2 y g2 hr2 hp2 v2 r2 => ?_⟩
  have re2 := re1.grow g2 hr1
  split at hp2
  · rename_i v hd
    obtain ⟨a, ov, rfl, dg, _, p1, _⟩ := dLook_at hr2 (r1.grow g2 hr1) r2 hd
    obtain ⟨v', rfl, rv⟩ := p1 v rfl
    refine ⟨a, v', rfl, dg, F, ρ2, ev, ih2, hr2, re2, ((Pss.lift hr2 re2 hp2).bind).mono fun ρ3 H3 ih3 y2 g3 hr3 hp3 u2 ru2 => ?_⟩
    have re3 := re2.grow g3 hr2
    refine hfo Wx σ F ρ3 ih3 H3 v y2 v' u2 _ hr3 (rv.grow g3 hr2) ru2 (hp3.mono fun ρ4 H4 ih4 z g4 hr4 hp4 z' rz => ?_)
    have re4 := re3.grow g4 hr3
    split at hp4
    · rename_i h' q
      obtain ⟨a', H', ea, dp, g5, hr5⟩ := dPut_at hr4 (((r1.grow g2 hr1).grow g3 hr2).grow g4 hr3) ((r2.grow g3 hr2).grow g4 hr3) rz q
      cases ea
      exact ⟨_, dp, hp4 _ _ _ g5 hr5 (re4.grow g5 hr4)⟩
    · exact hp4.elim
  · exact hp2.elim
/-- del d[k] -/
def sDDel' (o i : Cd) : Cs := fun e h => lift (o e h) e fun x h => lift (i e h) e fun y h => match x, y with
  | .r n, .d k => match h[n]? with
    | some (.dk l) => if k.isK ∧ (lkd k l).isSome then .nx e (h.set n (.dk (dropd k l))) else .no
    | _ => .no
  | _, _ => .no
theorem fs_delD (ho : FE X T Wx o co) (hi : FE X T Wx i ci) : FS X T Wx (.Delete [.Subscript o i tpos] pos) (sDDel' co ci) := PS.imp (ps_ddel ho hi) fun D σ H q => by
  obtain ⟨F, ρ, ev, ih, hr, re, hp⟩ := q
  refine ⟨F, ρ, ev, ih, hr, re, (Pss.lift hr re hp).mono fun ρ1 H1 ih1 x g1 hr1 hp1 v1 r1 => ?_⟩
  have re1 := re.grow g1 hr
  refine ⟨F, ρ1, ev, ih1, hr1, re1, (Pss.lift hr1 re1 hp1).mono fun ρ2 H2 ih2 y g2 hr2 hp2 v2 r2 => ?_⟩
  have re2 := re1.grow g2 hr1
  split at hp2
  · rename_i n k
    split at hp2
    · rename_i l ho
      split at hp2
      · rename_i hk
        cases r1 with | r hn =>
          have hn2 := g2.get hn
          have m := List.mem_of_getElem? hn2
          obtain ⟨u, eH, ro⟩ := hr2.at hn2 ho
          cases ro with
          | dk rs =>
            obtain ⟨p1, p2⟩ := RD.look kOf_inj hk.1 (dk_rd rs)
            obtain ⟨w, hw⟩ := Option.isSome_iff_exists.mp hk.2
            obtain ⟨v, e1, _⟩ := p1 w hw
            have hr3 := hr2.set (T := T) (o := .dk (dropd k l)) hn2 (.dk (rd_dk (RD.kp (keep_set m) (fun _ _ q => q) (RD.drop kOf_inj hk.1 (dk_rd rs)))))
            exact ⟨_, _, kOf k, rfl, eH, key_v hk.1 r2, by rw [e1]; rfl, hp2 _ _ _ (grow_set m (nf_of eH trivial)) hr3 (re2.grow (grow_set m (nf_of eH trivial)) hr2)⟩
      · exact hp2.elim
    · exact hp2.elim
  · exact hp2.elim
/-- d.get(k), d.get(k, x) -/
def isDc (x : W) (h : Hh) : Bool := match x with
  | .r n => match h[n]? with
    | some (.dk _) => true
    | some (.dt _) => true
    | _ => false
  | _ => false
theorem isDc_at {K : PySem.W.Frag} {F ρ : List Addr} {H : Hp} {ih : Hh} {x : W} {v : V} (hr : HR K T F ρ ih H) (r : RW K F ρ H x v) (e : isDc x ih = true) : ∃ a, v = .ref a ∧ IsD H a := by
  unfold isDc at e
  split at e
  · cases r with | r hn =>
    split at e
    · rename_i ho
      obtain ⟨u, eH, ro⟩ := hr.at hn ho
      cases ro with | dk rs => exact ⟨_, rfl, .inl ⟨_, .inl eH⟩⟩
    · rename_i ho
      obtain ⟨u, eH, ro⟩ := hr.at hn ho
      cases ro with | dt rs => exact ⟨_, rfl, .inr ⟨_, .inl eH⟩⟩
    · cases e
  · cases e
def cGet1 (o k : Cd) : Cd := fun e h => (o e h).bind fun x h => if isDc x h then (k e h).bind fun y h => match dLook x y h with
  | some r => .ok (r.getD (.d .non)) h
  | none => .no else .no
def cGet2 (o k z : Cd) : Cd := fun e h => (o e h).bind fun x h => if isDc x h then (k e h).bind fun y h => (z e h).bind fun w h => match dLook x y h with
  | some r => .ok (r.getD w) h
  | none => .no else .no
theorem getD_at {K : PySem.W.Frag} {F ρ : List Addr} {H : Hp} {o : Option W} {ov : Option V} {w : W} {v : V} (p1 : ∀ w, o = some w → ∃ v, ov = some v ∧ RW K F ρ H w v) (p2 : o = none → ov = none) (r : RW K F ρ H w v) : RW K F ρ H (o.getD w) (ov.getD v) := by
  cases o with
  | none => rw [p2 rfl]; exact r
  | some w => obtain ⟨v, rfl, r⟩ := p1 w rfl; exact r
theorem fe_get1 (hu : X.A.units + 1 < cLine) (m : M1 X o "get" apos e cpos) (ho : FE X T Wx o co) (he : FE X T Wx e c) : FE X T Wx (.Call (.Attribute o "get" apos) [e] [] cpos) (cGet1 co c) := PE.imp (pe_dget1 hu ho he m) fun σ H Q q => by
  obtain ⟨F, ρ, ev, ih, hr, re, hp⟩ := q
  refine ⟨F, ρ, ev, ih, hr, re, hp.bind.mono fun ρ1 H1 ih1 x g1 hr1 hp1 v1 r1 => ?_⟩
  split at hp1
  · rename_i hd
    obtain ⟨a, rfl, da⟩ := isDc_at hr1 r1 hd
    refine ⟨a, rfl, da, F, ρ1, ev, ih1, hr1, re.grow g1 hr, hp1.bind.mono fun ρ2 H2 ih2 y g2 hr2 hp2 v2 r2 => ?_⟩
    split at hp2
    · rename_i r hl
      obtain ⟨a', ov, ea, dg, _, p1, p2⟩ := dLook_at hr2 (r1.grow g2 hr1) r2 hl
      cases ea
      exact ⟨ov, dg, hp2.ok hr2 _ (getD_at p1 p2 (.d .non))⟩
    · exact hp2.elim
  · exact hp1.elim
theorem fe_get2 (hu : X.A.units + 1 < cLine) (m : M2 X o "get" apos e f cpos) (ho : FE X T Wx o co) (he : FE X T Wx e c) (hf : FE X T Wx f cx) : FE X T Wx (.Call (.Attribute o "get" apos) [e, f] [] cpos) (cGet2 co c cx) := PE.imp (pe_dget2 hu ho he hf m) fun σ H Q q => by
  obtain ⟨F, ρ, ev, ih, hr, re, hp⟩ := q
  refine ⟨F, ρ, ev, ih, hr, re, hp.bind.mono fun ρ1 H1 ih1 x g1 hr1 hp1 v1 r1 => ?_⟩
  split at hp1
  · rename_i hd
    obtain ⟨a, rfl, da⟩ := isDc_at hr1 r1 hd
    have re1 := re.grow g1 hr
    refine ⟨a, rfl, da, F, ρ1, ev, ih1, hr1, re1, hp1.bind.mono fun ρ2 H2 ih2 y g2 hr2 hp2 v2 r2 => ?_⟩
    refine ⟨F, ρ2, ev, ih2, hr2, re1.grow g2 hr1, hp2.bind.mono fun ρ3 H3 ih3 w g3 hr3 hp3 v3 r3 => ?_⟩
    split at hp3
    · rename_i r hl
      obtain ⟨a', ov, ea, dg, _, p1, p2⟩ := dLook_at hr3 ((r1.grow g2 hr1).grow g3 hr2) (r2.grow g3 hr2) hl
      cases ea
      exact ⟨ov, dg, hp3.ok hr3 _ (getD_at p1 p2 r3)⟩
    · exact hp3.elim
  · exact hp1.elim
end
end Fz
set_option Elab.async false
set_option linter.all false
set_option maxRecDepth 100000
set_option maxHeartbeats 2000000
/-! Fz: sorted, repr, tuples turned round, list(range). -/
namespace Fz
open PySem PySem.W L2 PyProof.Rows

/-! ### sorted(list), sorted(tuple) of data -/
section
variable {prog : Program} {w : World} {A : Around} {E : Value → Shared → Prop} {s : Shared}
theorem collect_tup {l : Addr} {vs : List Value} {Q : List Value → Shared → Prop} (hl : IsTup s.heap l vs.toArray)
    (h : Q vs { s with heap := (s.heap.push (seqObj "list" #[] 0)).update s.heap.objs.size (Obj.mapSeq (· ++ vs.toArray)) }) (hsz : vs.length ≤ sizeLine) :
    wpAny (model prog w) A (collect (.ref l)) Q E s := by
  obtain ⟨o, ho, hc, n, hd⟩ := id hl
  unfold collect
  refine wpAny_bind (wpAny_runValue (codeAny_builtin entry_proto_collect' ?_))
  show wpAny _ _ (do again (.builtin "list.__iadd__" ⟨[← newList [], .ref l], []⟩)) _ _ s
  refine wpAny_bind (wpAny_newList (wpAny_pure ⟨Code.quiet_builtin _ (by decide +kernel), codeAny_builtin entry_list_iadd' ?_⟩))
  show wpAny _ _ (Builtin.List.listExtendWith (.ref s.heap.objs.size) (.ref l) (.ref s.heap.objs.size)) _ _ { s with heap := s.heap.push (seqObj "list" #[] 0) }
  unfold Builtin.List.listExtendWith
  have ho' : (s.heap.push (seqObj "list" #[] 0)).get? l = some o := Heap.get?_push_of_some _ ho
  refine wpAny_bind (wpAny_typeOf (T := "tuple") ⟨o, ho', hc⟩ ?_)
  have ht : (Value.type "tuple" == Value.type "tuple") = true := by rfl
  rw [if_pos (by rw [ht]; simp)]
  refine wpAny_bind (listItems_at ho' hd ?_)
  refine wpAny_bind (listItems_at (xs := #[]) (n := 0) (Heap.get?_push_size _ rfl) rfl ?_)
  rw [if_neg (by simp)]
  refine wpAny_bind (listUpdate_at (xs := #[]) (n := 0) (Heap.get?_push_size _ rfl) rfl ?_ (Nat.zero_le _) (by show (#[] ++ vs.toArray).size ≤ sizeLine + 1; simp only [Array.size_append, List.size_toArray]; simp; omega))
  refine wpAny_pure ?_
  show wpAny (model prog w) A (do
      let o ← load s.heap.objs.size
      match o.data with
      | .seq xs _ => pure xs.toList
      | _ => unsupported "internal:collect") Q E { s with heap := (s.heap.push (seqObj "list" #[] 0)).update s.heap.objs.size (Obj.mapSeq (· ++ vs.toArray)) }
  refine wpAny_bind (wpAny_load (get?_update_seq (Heap.get?_push_size _ rfl) _) ?_)
  show wpAny _ _ (pure ((#[] : Array Value) ++ vs.toArray).toList) Q E _
  rw [show ((#[] : Array Value) ++ vs.toArray).toList = vs by simp]
  exact wpAny_pure h
theorem sorted_tup_vals {κ : PyProof.Rows.KeyKind} {l : Addr} {vs : List Value} {Q : Value → Shared → Prop} (hl : IsTup s.heap l vs.toArray) (S : SortsAt prog w A.in1.in1 { s with heap := sortingHeap (copyHeap s.heap vs) (s.heap.objs.size + 1) vs } κ vs) (hL : vs.length ≤ sizeLine)
    (h : Q (.ref (s.heap.objs.size + 1)) { s with heap := sortedAll s.heap vs (sortVals κ false vs vs).toArray }) : wpAny (model prog w) A (call (.builtin "sorted") [.ref l]) Q E s := by
  refine call_function_entry_kw kind_sorted plain_sorted entry_sorted (args_sorted1 _) ?_
  unfold Builtin.«sorted»
  refine wpAny_bind (m := checkCount "sorted" 1 1 _) (wpAny_pure ?_)
  refine wpAny_bind (collect_tup hl ?_ hL)
  refine wpAny_bind (wpAny_newList ?_ hL)
  have hsz : ((s.heap.push (seqObj "list" #[] 0)).update s.heap.objs.size (Obj.mapSeq (· ++ vs.toArray))).objs.size = s.heap.objs.size + 1 := by
    rw [Heap.size_update, size_push']
  show wpAny _ _ _ _ _ { s with heap := copyHeap s.heap vs }
  rw [hsz]
  refine wpAny_bind (wpAny_holding (wpAny_call_entry_kw slot_list_sort ⟨_, copyHeap_at s.heap vs, rfl⟩ entry_list_sort
    (list_sort_vals (A := A.in1.in1) (s := { s with heap := copyHeap s.heap vs }) (copyHeap_at s.heap vs) S hL ⟨_, rfl, wpAny_pure ⟨_, rfl, h⟩⟩) (args_list_sort _)))
end
/-- sorted(xs), xs of data that can be compared -/
def rSortD (K : PySem.W.Frag) : List V → Hp → VK → Prop := fun xs H Q => ∃ (a : Addr) (ps : List (V × PyData)), xs = [.ref a] ∧ (SqL K H a (ps.map (·.1)) ∨ SqT K H a (ps.map (·.1))) ∧ DpAll K H (ps.map (·.1)) (ps.map (·.2)) ∧ AllAlike (ps.map (·.2)) ∧ Sortable (ps.map (·.2)) ∧
  (∀ p ∈ ps, (p.2 : PyData).depth ≤ 64) ∧ ∀ l, H l = none → Q (.ref l) (upd H l (.lst ((ps.mergeSort (dataLe false Prod.snd)).map (·.1))))
theorem each_zip {α β : Type} {R : α → β → Prop} : ∀ {as : List α} {bs : List β}, as.length = bs.length → (∀ p ∈ as.zip bs, R p.1 p.2) → EachIs R as bs
  | [], [], _, _ => .nil
  | a :: as, b :: bs, h, q => .cons (q (a, b) (by simp)) (each_zip (by simpa using h) fun p m => q p (by simp [m]))
theorem each_vals {s : Shared} : ∀ {us : List Value} {ps : List (V × PyData)}, Vals (ps.map (·.1)) us → EachIs (fun (u : Value) (p : V × PyData) => RelV p.1 u) us ps
  | _, [], h => by cases h; exact .nil
  | _, p :: ps, h => by cases h with | cons a b => exact .cons a (each_vals (s := s) b)
theorem vals_each : ∀ {us : List Value} {ps : List (V × PyData)}, EachIs (fun (u : Value) (p : V × PyData) => RelV p.1 u) us ps → Vals (ps.map (·.1)) us
  | _, _, .nil => .nil
  | _, _, .cons a b => .cons a (vals_each b)
theorem each_reads {X : Cx} {pins : List (Addr × Obj)} {σ : L2.St} {H : Hp} {s : Shared} (I : L2.Inv X pins σ H s) : ∀ {us : List Value} {ps : List (V × PyData)}, Vals (ps.map (·.1)) us → DpAll X.K H (ps.map (·.1)) (ps.map (·.2)) → EachIs (fun (u : Value) (p : V × PyData) => ∃ as, Reads s.heap u p.2 as) us ps
  | _, [], h, _ => by cases h; exact .nil
  | _, p :: ps, h, d => by
    cases h with
    | cons a b =>
      rw [List.map_cons, List.map_cons] at d
      cases d with
      | cons d1 d2 => exact .cons (Dp.reads I _ _ _ d1 a) (each_reads I b d2)
theorem cr_sortD {X : Cx} (hu : X.A.units + 66 < cLine) : CallR X (.builtin "sorted") (rSortD X.K) := by
  intro pins s σ H xs us Q I r h
  obtain ⟨a, ps, rfl, hs, hd, hal, hk, hdp, q⟩ := h
  have e2 : us = [.ref a] := Vals.ref1 r
  subst e2
  have hz : ps.length ≤ sizeLine ∧ ∃ its : List Value, Vals (ps.map (·.1)) its ∧ (PlainL s.heap a its.toArray ∨ IsTup s.heap a its.toArray) := by
    rcases hs with hs | hs
    · obtain ⟨its, rv, hl, z⟩ := I.list hs
      exact ⟨by simpa using z, its, rv, .inl hl⟩
    · obtain ⟨its, rv, hl, z⟩ := I.tuple hs
      exact ⟨by simpa using z, its, rv, .inr hl⟩
  obtain ⟨hz, its, rv, hl⟩ := hz
  have hlen : its.length = ps.length := by rw [← rv.length, List.length_map]
  have er : EachIs (fun (u : Value) (p : V × PyData) => ∃ as, Reads s.heap u p.2 as) its ps := each_reads I rv hd
  have er' : EachIs (fun (v : Value) (b : V × PyData) => ∃ as, Reads (sortingHeap (copyHeap s.heap its) (s.heap.objs.size + 1) its) v b.2 as) its ps := er.mono fun _ _ ⟨as, r⟩ => ⟨as, PyProof.Rows.Reads.keeps (fun _ _ => sorting_copy_old) r⟩
  have S : SortsAt X.prog X.w X.A.in1.in1 { s with heap := sortingHeap (copyHeap s.heap its) (s.heap.objs.size + 1) its } (dataKind (sortingHeap (copyHeap s.heap its) (s.heap.objs.size + 1) its) (ps.map Prod.snd)) its :=
    SortsAt.data (s := { s with heap := sortingHeap (copyHeap s.heap its) (s.heap.objs.size + 1) its }) (each_map (R := fun v d => ∃ as, Reads (sortingHeap (copyHeap s.heap its) (s.heap.objs.size + 1) its) v d as) Prod.snd er') hal hk
      (bound_map fun b hb => by have := hdp b hb; show X.A.units + 1 + 1 + _ < _; omega)
  have e : EachIs (fun (u : Value) (p : V × PyData) => RelV p.1 u) its ps := each_vals (s := s) rv
  have fin := sortVals_data (h' := sortingHeap (copyHeap s.heap its) (s.heap.objs.size + 1) its) (R := fun (u : Value) (p : V × PyData) => RelV p.1 u) (enc := Prod.snd) false e er' hal
  obtain ⟨ep, he'⟩ := PyProof.Rows.sortedAll_at s.heap its (sortVals (dataKind (sortingHeap (copyHeap s.heap its) (s.heap.objs.size + 1) its) (ps.map Prod.snd)) false its its).toArray
  have fv := vals_each fin
  have hlen2 : ((ps.mergeSort (dataLe false Prod.snd)).map (·.1)).length ≤ sizeLine := by rw [List.length_map, List.length_mergeSort]; exact hz
  have done : EP X pins σ Q (.ref (s.heap.objs.size + 1)) { s with heap := sortedAll s.heap its (sortVals (dataKind (sortingHeap (copyHeap s.heap its) (s.heap.objs.size + 1) its) (ps.map Prod.snd)) false its its).toArray } :=
    ⟨.ref _, upd H (s.heap.objs.size + 1) (.lst ((ps.mergeSort (dataLe false Prod.snd)).map (·.1))), I.laid (t' := s.toks) (fun _ _ => PyProof.Rows.sortedAll_old) (Nat.le_succ _) ⟨hlen2, _, ep, fv, he'⟩, rfl, q _ (I.hok.fresh (Nat.le_succ _))⟩
  rcases hl with hl | hl
  · exact sorted_vals hl.isList S (by rw [hlen]; exact hz) done
  · exact sorted_tup_vals hl S (by rw [hlen]; exact hz) done
/-! ### the order of data -/
mutual
def D.al : D → D → Bool
  | .non, .non => true
  | .bl _, .bl _ => true
  | .int _, .int _ => true
  | .str _, .str _ => true
  | .tup x, .tup y => alL x y
  | .lst x, .lst y => alL x y
  | _, _ => false
def alL : List D → List D → Bool
  | x :: xs, y :: ys => D.al x y && alL xs ys
  | [], _ => true
  | _ :: _, [] => true
end
mutual
theorem al_py : ∀ a b : D, alike a.py b.py = D.al a b
  | .non, b => by cases b <;> simp [D.py, alike, D.al]
  | .bl x, b => by cases b <;> simp [D.py, alike, D.al]
  | .int x, b => by cases b <;> simp [D.py, alike, D.al]
  | .str x, b => by cases b <;> simp [D.py, alike, D.al]
  | .tup x, b => by
    cases b with
    | tup y => simp only [D.py, alike, D.al]; exact alL_py x y
    | _ => simp [D.py, alike, D.al]
  | .lst x, b => by
    cases b with
    | lst y => simp only [D.py, alike, D.al]; exact alL_py x y
    | _ => simp [D.py, alike, D.al]
theorem alL_py : ∀ a b : List D, alikeAll (pyL a) (pyL b) = alL a b
  | [], [] => by simp [pyL, alikeAll, alL]
  | [], y :: ys => by simp [pyL, alikeAll, alL]
  | x :: xs, [] => by simp [pyL, alikeAll, alL]
  | x :: xs, y :: ys => by simp only [pyL, alikeAll, alL]; rw [al_py x y, alL_py xs ys]
end
def ltS : List Nat → List Nat → Bool
  | [], [] => false
  | [], _ :: _ => true
  | _ :: _, [] => false
  | x :: xs, y :: ys => if x < y then true else if y < x then false else ltS xs ys
theorem ltS_eq : ∀ a b : List Nat, ltS a b = decide (a < b)
  | [], [] => by simp [ltS]
  | [], y :: ys => by simp [ltS]
  | x :: xs, [] => by simp [ltS]
  | x :: xs, y :: ys => by
    simp only [ltS, List.cons_lt_cons_iff, ltS_eq xs ys]
    by_cases h1 : x < y
    · simp [h1]
    · by_cases h2 : y < x
      · have : x ≠ y := by omega
        simp [h1, h2, this]
      · have : x = y := by omega
        simp [this]
mutual
def D.lt : D → D → Bool
  | .bl a, .bl b => !a && b
  | .int a, .int b => decide (a < b)
  | .str a, .str b => ltS a b
  | .tup x, .tup y => ltL x y
  | .lst x, .lst y => ltL x y
  | _, _ => false
def ltL : List D → List D → Bool
  | [], [] => false
  | [], _ :: _ => true
  | _ :: _, [] => false
  | x :: xs, y :: ys => if D.eqv x y then ltL xs ys else D.lt x y
end
mutual
theorem lt_py : ∀ a b : D, D.al a b = true → dataLt a.py b.py = D.lt a b
  | .non, b, h => by cases b <;> simp [D.al] at h; simp only [D.py, D.lt]; exact lex_irrefl _
  | .bl x, b, h => by cases b <;> simp [D.al] at h; rename_i y; cases x <;> cases y <;> simp only [D.py, D.lt] <;> decide
  | .int x, b, h => by cases b <;> simp [D.al] at h; simp only [D.py, D.lt]; exact dataLt_int _ _
  | .str x, b, h => by cases b <;> simp [D.al] at h; simp only [D.py, D.lt]; rw [dataLt_str, ltS_eq]; rfl
  | .tup x, b, h => by
    cases b with
    | tup y => simp only [D.py, D.lt]; rw [dataLt_tuple]; exact ltL_py x y (by simpa [D.al] using h)
    | _ => simp [D.al] at h
  | .lst x, b, h => by
    cases b with
    | lst y => simp only [D.py, D.lt]; rw [dataLt_list]; exact ltL_py x y (by simpa [D.al] using h)
    | _ => simp [D.al] at h
theorem ltL_py : ∀ a b : List D, alL a b = true → PyProof.Rows.lexLt itemOrd (keyToksAll (pyL a)) (keyToksAll (pyL b)) = ltL a b
  | [], [], _ => by simp only [pyL, ltL]; exact lex_irrefl _
  | [], y :: ys, _ => by
    simp only [pyL, ltL, keyToksAll]
    exact (lex_diff (O := itemOrd) (by decide)).trans (by decide)
  | x :: xs, [], _ => by
    simp only [pyL, ltL, keyToksAll]
    exact (lex_diff (O := itemOrd) (by decide)).trans (by decide)
  | x :: xs, y :: ys, h => by
    simp only [alL, Bool.and_eq_true] at h
    simp only [pyL, ltL]
    rw [dataLt_cons (by rw [al_py]; exact h.1), eqv_py, lt_py x y h.1, ltL_py xs ys h.2]
end
/-! ### isort -/
def ins {α : Type} (le : α → α → Bool) (a : α) : List α → List α
  | [] => [a]
  | x :: l => if le a x then a :: x :: l else x :: ins le a l
def isort {α : Type} (le : α → α → Bool) : List α → List α
  | [] => []
  | a :: l => ins le a (isort le l)
theorem ins_app {α : Type} {le : α → α → Bool} {a : α} {m : List α} (hm : ∀ b ∈ m, le a b = true) : ∀ {l : List α}, (∀ b ∈ l, le a b = false) → ins le a (l ++ m) = l ++ a :: m
  | [], _ => by
    cases m with
    | nil => rfl
    | cons x m => show (if le a x = true then _ else _) = _; rw [if_pos (hm x (by simp))]; rfl
  | x :: l, h => by
    show (if le a x = true then _ else _) = _
    rw [if_neg (by rw [h x (by simp)]; exact Bool.false_ne_true)]
    exact congrArg (x :: ·) (ins_app hm fun b hb => h b (by simp [hb]))
theorem isort_merge {α : Type} {le : α → α → Bool} (trans : ∀ (a b c : α), le a b → le b c → le a c) (total : ∀ (a b : α), le a b || le b a) : ∀ l : List α, l.mergeSort le = isort le l
  | [] => by simp [isort]
  | a :: l => by
    obtain ⟨l1, l2, e1, e2, h⟩ := List.mergeSort_cons trans total a l
    have srt := List.pairwise_mergeSort trans total (a :: l)
    rw [e1] at srt ⊢
    have hm : ∀ b ∈ l2, le a b = true := fun b hb => by
      have := (List.pairwise_append.mp srt).2.1
      exact (List.pairwise_cons.mp this).1 b hb
    show _ = ins le a (isort le l)
    rw [← isort_merge trans total l, e2, ins_app hm fun b hb => by have := h b hb; simpa using this]
theorem ins_congr {α : Type} {le le' : α → α → Bool} {a : α} : ∀ {l : List α}, (∀ b ∈ l, le a b = le' a b) → ins le a l = ins le' a l
  | [], _ => rfl
  | x :: l, h => by
    show (if le a x = true then _ else _) = (if le' a x = true then _ else _)
    rw [h x (by simp), ins_congr fun b hb => h b (by simp [hb])]
theorem ins_mem {α : Type} {le : α → α → Bool} {a b : α} : ∀ {l : List α}, b ∈ ins le a l ↔ b = a ∨ b ∈ l
  | [] => by simp [ins]
  | x :: l => by
    unfold ins
    split
    · simp
    · simp [ins_mem (l := l)]
      constructor
      · rintro (h | h | h) <;> simp [h]
      · rintro (h | h | h) <;> simp [h]
theorem isort_mem {α : Type} {le : α → α → Bool} {b : α} : ∀ {l : List α}, b ∈ isort le l ↔ b ∈ l
  | [] => by simp [isort]
  | a :: l => by unfold isort; rw [ins_mem, isort_mem]; simp
theorem isort_congr {α : Type} {le le' : α → α → Bool} : ∀ {l : List α}, (∀ a ∈ l, ∀ b ∈ l, le a b = le' a b) → isort le l = isort le' l
  | [], _ => rfl
  | a :: l, h => by
    unfold isort
    rw [isort_congr (le := le) (le' := le') (l := l) fun x hx y hy => h x (by simp [hx]) y (by simp [hy])]
    exact ins_congr fun b hb => h a (by simp) b (by simp [isort_mem.mp hb])
def D.le (a b : D) : Bool := !(D.lt b a)
def allAl (l : List D) : Bool := l.all fun a => l.all fun b => D.al a b
theorem allAl_py {l : List D} (h : allAl l = true) : AllAlike (pyL l) := by
  rw [pyL_map]
  intro d hd d' hd'
  obtain ⟨a, ha, rfl⟩ := List.mem_map.mp hd
  obtain ⟨b, hb, rfl⟩ := List.mem_map.mp hd'
  rw [al_py]
  exact List.all_eq_true.mp (List.all_eq_true.mp h a ha) b hb
theorem sort_D {l : List D} (h : allAl l = true) : (l.mergeSort (dataLe false D.py)) = isort D.le l := by
  have T := PySem.W.sortLe_total (listOrd itemOrd) false fun b : D => keyToks b.py
  have e : l.mergeSort (dataLe false D.py) = isort (dataLe false D.py) l := isort_merge (fun a b c => T.trans a b c) (fun a b => by rcases T.total a b with q | q <;> simp [dataLe, q]) l
  rw [e]
  refine isort_congr fun a ha b hb => ?_
  show (!dataLt b.py a.py) = D.le a b
  unfold D.le
  rw [lt_py b a (List.all_eq_true.mp (List.all_eq_true.mp h b hb) a ha)]
def canSort (l : List D) : Bool := (l.all fun d => match d with
  | .tup (_ :: _) => true
  | _ => false) || l.all fun d => match d with
  | .non => false
  | .tup _ => false
  | _ => true
theorem canSort_py {l : List D} (h : canSort l = true) : Sortable (pyL l) := by
  rw [pyL_map]
  unfold canSort at h
  rw [Bool.or_eq_true] at h
  rcases h with h | h
  · left
    intro d hd
    obtain ⟨a, ha, rfl⟩ := List.mem_map.mp hd
    have := List.all_eq_true.mp h a ha
    split at this
    · rename_i x r
      exact ⟨x.py, pyL r, by simp only [D.py, pyL]⟩
    · cases this
  · right
    intro d hd
    obtain ⟨a, ha, rfl⟩ := List.mem_map.mp hd
    have := List.all_eq_true.mp h a ha
    cases a <;> simp at this <;> simp [D.py]
def biSort (m : Bool) (ws : List W) (h : Hh) : R W := match ws with
  | [w] => match (seqW w h).bind allD with
    | some l => if allAl l && canSort l && l.all (sh 63) then fin m ((isort D.le l).map .d) h else .no
    | none => .no
  | _ => .no
theorem RpL.zip {K M H} : ∀ {ds : List D} {vs : List V}, RpL K M H ds vs → ∃ ps : List (D × V), ds = ps.map Prod.fst ∧ vs = ps.map Prod.snd ∧ ∀ p ∈ ps, Rp K M H p.1 p.2
  | _, _, .nil => ⟨[], rfl, rfl, by simp⟩
  | d :: ds, v :: vs, .cons a b => by
    obtain ⟨ps, e1, e2, h⟩ := RpL.zip b
    refine ⟨(d, v) :: ps, by simp [e1], by simp [e2], ?_⟩
    intro p hp
    rcases List.mem_cons.mp hp with rfl | hp
    · exact a
    · exact h p hp
theorem RpL.unzip {K M H} : ∀ {ps : List (D × V)}, (∀ p ∈ ps, Rp K M H p.1 p.2) → RpL K M H (ps.map Prod.fst) (ps.map Prod.snd)
  | [], _ => .nil
  | p :: ps, h => .cons (h p (by simp)) (RpL.unzip fun q hq => h q (by simp [hq]))
theorem fc_sort {K : PySem.W.Frag} {T : Tb} {m : Bool} : FCl K T (biSort m) (rSortD K) := by
  intro Wx σ F ρ ih H xs vs Q hr rs hp
  unfold biSort at hp
  split at hp
  · cases rs with | cons r t => cases t with | nil =>
      split at hp
      · rename_i l e
        rw [Option.bind_eq_some_iff] at e
        obtain ⟨ws, e1, e2⟩ := e
        obtain ⟨a, us, rfl, s, rs, _⟩ := seqW_at hr r e1
        have rl := allD_rp e2 rs
        split at hp
        · rename_i c
          simp only [Bool.and_eq_true] at c
          obtain ⟨ps, e3, e4, hps⟩ := rl.zip
          subst e3 e4
          have em : (ps.map fun p => (p.2, p.1.py)).map Prod.fst = ps.map Prod.snd := by rw [List.map_map]; rfl
          have em2 : (ps.map fun p => (p.2, p.1.py)).map Prod.snd = pyL (ps.map Prod.fst) := by rw [List.map_map, pyL_map, List.map_map]; rfl
          refine ⟨a, ps.map fun p => (p.2, p.1.py), rfl, ?_, ?_, ?_, ?_, ?_, fun p np => ?_⟩
          · rw [em]; exact s.imp .inl .inl
          · rw [em, em2]; exact rl.dp
          · rw [em2]; exact allAl_py c.1.1
          · rw [em2]; exact canSort_py c.1.2
          · intro p hp
            obtain ⟨q, hq, rfl⟩ := List.mem_map.mp hp
            have := List.all_eq_true.mp c.2 q.1 (List.mem_map.mpr ⟨q, hq, rfl⟩)
            have := (sh_lay 63 _ this).2
            show q.1.py.depth ≤ 64
            omega
          · have srt : ((ps.map fun p => (p.2, p.1.py)).mergeSort (dataLe false Prod.snd)).map Prod.fst = (ps.mergeSort fun x y => dataLe false D.py x.1 y.1).map Prod.snd := by
              rw [← sort_maps (r := fun x y : D × V => dataLe false D.py x.1 y.1) (f := fun p : D × V => (p.2, p.1.py)) fun a _ b _ => rfl, List.map_map]
              rfl
            have srt2 : (ps.mergeSort fun x y => dataLe false D.py x.1 y.1).map Prod.fst = isort D.le (ps.map Prod.fst) := by
              rw [sort_maps (s := dataLe false D.py) (f := Prod.fst) fun a _ b _ => rfl, sort_D c.1.1]
            rw [srt]
            refine fin_ok hr (RpL.rws ?_) np (by rw [← srt2] at hp; exact hp)
            exact RpL.unzip fun p hp => hps p ((List.mergeSort_perm _ _).mem_iff.mp hp)
        · exact hp.elim
      · exact hp.elim
  · exact hp.elim
end Fz
set_option Elab.async false
set_option linter.all false
set_option maxRecDepth 100000
set_option maxHeartbeats 2000000
/-! Fz: tuples turned round, list(range), lists as targets, displays of dicts by tuples. -/
namespace Fz
open PySem PySem.W L2 PyProof.Rows HT

/-! ### t[::-1] -/
section
variable {prog : Program} {w : World} {A : Around} {E : Value → Shared → Prop} {s : Shared}
theorem pick_rev (xs : Array Value) : ((List.range xs.size).filterMap fun (m : Nat) => xs[(((xs.size : Int) - 1) + (m : Int) * (-1)).toNat]?).toArray = xs.toList.reverse.toArray := by
  congr 1
  have fm : ∀ {f g : Nat → Option Value} (l : List Nat), (∀ m ∈ l, f m = g m) → l.filterMap f = l.filterMap g := fun {f g} l => by
    induction l with
    | nil => intro _; rfl
    | cons a l ih => intro h; rw [List.filterMap_cons, List.filterMap_cons, h a (by simp), ih fun m hm => h m (by simp [hm])]
  have e : ((List.range xs.size).filterMap fun (m : Nat) => xs[(((xs.size : Int) - 1) + (m : Int) * (-1)).toNat]?) = ((List.range xs.size).map fun m => xs.size - 1 - m).filterMap (xs[·]?) := by
    rw [List.filterMap_map]
    refine fm _ fun m hm => ?_
    have := List.mem_range.mp hm
    show xs[_]? = xs[xs.size - 1 - m]?
    congr 1
    omega
  rw [e, PySem.W.krv_range, List.filterMap_reverse, PySem.W.krv_all]
theorem getItem_tuple_rev {t sl : Addr} {items : Array Value} {vs : Value} {Q : Value → Shared → Prop} (ht : IsTup s.heap t items) (hs : s.heap.IsSliceOf sl .none .none vs) (ps : IsPart vs (some (-1)))
    (h : Q (.ref s.heap.objs.size) { s with heap := s.heap.push { cls := .type "tuple", data := .seq items.toList.reverse.toArray } })
    (hsz : items.size ≤ sizeLine) : wpAny (model prog w) A (getItem (.ref t) (.ref sl)) Q E s := by
  have htake : sizeOk (.seq items.toList.reverse.toArray) := by
    show (items.toList.reverse).toArray.size ≤ sizeLine
    simpa using hsz
  obtain ⟨os, hos, hcs, hds⟩ := id hs
  have hTs : s.TypeIs (.ref sl) "slice" := ⟨os, hos, hcs⟩
  unfold getItem
  try with_reducible refine wpAny_holding ?_
  first | refine wpAny_bind (wpAny_pure ?_) | skip
  refine wpAny_bind (wpAny_sequenceKey ht.typeIs (by decide) ?_)
  refine wpAny_bind (wpAny_callSpecial?_slot (name := Str.ofString "__getitem__") ht.typeIs PyProof.Rows.slot_tuple_getitem
    (wpAny_call_entry PyProof.Rows.slot_tuple_getitem ht.typeIs entry_tuple_getitem ?_ (args_tuple_getitem _ _)))
  show wpAny _ _ (Builtin.Tuple.tupleItemsOf (.ref t) >>= _) _ _ s
  refine wpAny_bind (tupleItemsOf_ ht ?_)
  refine wpAny_bind (wpAny_typeOf hTs ?_)
  rw [if_pos (by decide)]
  refine wpAny_bind (m := Builtin.Slice.sliceApplied (.ref sl) (pure (items.size : Int))) ?_
  unfold Builtin.Slice.sliceApplied Builtin.Slice.sliceFields
  refine wpAny_bind (wpAny_bind (wpAny_field hos hds (x := .none) rfl (wpAny_bind (wpAny_field hos hds (x := .none) rfl (wpAny_bind (wpAny_field hos hds (x := vs) rfl (wpAny_pure ?_)))))))
  refine wpAny_bind (slicePart_ ps ?_)
  show wpAny _ _ (if ((-1 : Int) == 0) = true then _ else _) _ _ s
  rw [if_neg (by decide)]
  refine wpAny_bind (slicePart_ .none (wpAny_bind (slicePart_ .none (wpAny_bind (wpAny_pure ?_)))))
  show wpAny _ _ (match Builtin.Slice.sliceAdjust none none (-1) (items.size : Int) with | (lo, hi) => pure (lo, (-1 : Int), Builtin.Slice.slicePlaces lo hi (-1))) _ _ s
  have ea : Builtin.Slice.sliceAdjust none none (-1) (items.size : Int) = ((items.size : Int) - 1, -1) := rfl
  rw [ea]
  have ep : Builtin.Slice.slicePlaces ((items.size : Int) - 1) (-1) (-1) = items.size := by
    unfold Builtin.Slice.slicePlaces
    have h1 : ¬ ((-1 : Int) > 0) := by omega
    simp only [h1, if_false, Int.neg_neg, Int.ediv_one]
    split <;> omega
  show wpAny _ _ (pure ((items.size : Int) - 1, (-1 : Int), Builtin.Slice.slicePlaces ((items.size : Int) - 1) (-1) (-1))) _ _ s
  rw [ep]
  refine wpAny_pure ?_
  have hno : ¬ ((((items.size : Int) - 1) == 0 && (-1 : Int) == 1 && items.size == items.size) = true) := by
    intro q
    rw [Bool.and_eq_true, Bool.and_eq_true] at q
    exact absurd (eq_of_beq q.1.2) (by decide)
  show wpAny _ _ (if (((items.size : Int) - 1) == 0 && (-1 : Int) == 1 && items.size == items.size) = true then _ else _) _ _ s
  rw [if_neg hno, pick_rev]
  first
    | exact wpAny_bind (m := Builtin.Tuple.tupleExact _) (wpAny_newObj_type (wpAny_pure ⟨_, rfl, wpAny_pure h⟩) htake)
    | exact wpAny_bind (m := Builtin.Tuple.tupleExact _) (wpAny_newObj_type (wpAny_bind (wpAny_pure (wpAny_pure ⟨_, rfl, wpAny_pure h⟩))) htake)
end
section
variable {X : Cx}
def tRevT (K : PySem.W.Frag) (te : TE) : TE := fun σ H Q => te σ H fun x H1 => ∃ a xs, x = .ref a ∧ SqT K H1 a xs ∧ ∀ p, H1 p = none → Q (.ref p) (upd H1 p (.tup xs.reverse))
theorem pe_revT {e : Expr} {te : TE} {k : Nat} {p1 p2 p3 pos : Pos} (he : PE X e te) : PE X (.Subscript e (.Slice none none (some (.UnaryOp .USub (.Constant (.int 1) k p1) p2)) p3) pos) (tRevT X.K te) := by
  refine ⟨fun pins s σ H Q I h => ?_⟩
  refine Subscript_ (thn (he.run pins s σ H _ I h) fun v s1 ⟨x, H1, I1, r1, q1⟩ => ?_)
  obtain ⟨a, xs, ex, hx, q⟩ := q1
  subst ex
  cases r1
  have hst : PO X (some (.UnaryOp .USub (.Constant (.int 1) k p1) p2)) (tPart (tUn (rU fun i => .int (-i)) (tC (.int 1)))) := po_some (pe_un un_neg pe_int)
  refine wpAny_Slice (thn (po_none.run pins s1 σ H1 (fun o H2 => o = none ∧ H2 = H1) I1 ⟨rfl, rfl⟩) fun vl s2 ⟨l, H2, I2, pl, el, e2⟩ => ?_)
  subst el e2
  refine thn (po_none.run pins s2 σ H2 (fun o H3 => o = none ∧ H3 = H2) I2 ⟨rfl, rfl⟩) fun vu s3 ⟨u, H3, I3, pu, eu, e3⟩ => ?_
  subst eu e3
  refine thn (hst.run pins s3 σ H3 (fun o H4 => o = some (-1) ∧ H4 = H3) I3 ⟨1, rfl, -1, rfl, rfl, rfl⟩) fun vs s4 ⟨o, H4, I4, ps, eo, e4⟩ => ?_
  subst eo e4
  cases pl
  cases pu
  have I5 : Inv X pins σ H4 { s4 with heap := s4.heap.push { cls := .type "slice", data := .fields #[.none, .none, vs] } } := I4.kept (t' := s4.toks) fun b ob q => Heap.get?_push_of_some _ q
  obtain ⟨its, r, ht, hz⟩ := I5.tuple hx
  have hlen := r.length
  show wpAny (model X.prog X.w) X.A (subscriptTail e (.Slice none none (some (.UnaryOp .USub (.Constant (.int 1) k p1) p2)) p3) (.ref a) (.ref s4.heap.objs.size)) (EP X pins σ Q) X.xe { s4 with heap := s4.heap.push { cls := .type "slice", data := .fields #[.none, .none, vs] } }
  refine tail_any (ops := [.ref a, .ref s4.heap.objs.size]) ht.typeIs (PyProof.Rows.slot_tuple_getitem.lookup) ?_ (by with_unfolding_all rfl)
  refine getItem_tuple_rev ht (Heap.IsSliceOf.new _ .none .none vs) ps ?_ (by rw [List.size_toArray]; omega)
  refine ⟨.ref _, _, I5.laid (t' := s4.toks) (o := .tup xs.reverse) (fun b ob q => Heap.get?_push_of_some _ q) (Nat.le_refl _) ?_, rfl, q _ (I5.hok.fresh (Nat.le_refl _))⟩
  exact ⟨by rw [List.length_reverse]; exact hz, _, by simpa using r.reverse, IsTup.new _ _⟩
def opRevT (x : W) (h : Hh) : R W := match x with
  | .d (.tup l) => .ok (.d (.tup l.reverse)) h
  | _ => .no
theorem RpL.rev {K M H} : ∀ {ds : List D} {vs : List V}, RpL K M H ds vs → RpL K M H ds.reverse vs.reverse
  | _, _, .nil => .nil
  | _, _, .cons a b => by simp only [List.reverse_cons]; exact b.rev.app (.cons a .nil)
variable {T : Tb} {Wx : WX} {e : Expr} {c : Cd} {pos p2 : Pos}
theorem fe_revT {k : Nat} {p1 p3 : Pos} (he : FE X T Wx e c) : FE X T Wx (.Subscript e (.Slice none none (some (.UnaryOp .USub (.Constant (.int 1) k p1) p2)) p3) pos) (c1 opRevT c) := PE.imp (pe_revT he) fun σ H Q q => by
  obtain ⟨F, ρ, ev, ih, hr, re, hp⟩ := q
  refine ⟨F, ρ, ev, ih, hr, re, hp.bind.mono fun ρ1 H1 ih1 w g1 hr1 hp1 v r => ?_⟩
  unfold opRevT at hp1
  split at hp1
  · cases r with | d r => cases r with | tup t z rl =>
      refine ⟨_, _, rfl, t.sq, fun p np => ?_⟩
      obtain ⟨a, b⟩ := new_tup hr1 np rl.rev (by simpa using z) hp1
      exact a _ b
  · exact hp1.elim

/-! ### list(range(..)) -/
def lrg (m : Bool) (ws : List W) (h : Hh) : R W := match ws with
  | [.d (.int j)] => if -(2 ^ 62) ≤ j ∧ j < 2 ^ 62 ∧ j.toNat ≤ 2 ^ 24 then fin m ((List.range j.toNat).map fun i => .d (.int (i : Nat))) h else .no
  | [.d (.int i), .d (.int j)] => if -(2 ^ 62) ≤ i ∧ i < 2 ^ 62 ∧ -(2 ^ 62) ≤ j ∧ j < 2 ^ 62 ∧ (j - i).toNat ≤ 2 ^ 24 then fin m ((List.range (j - i).toNat).map fun k => .d (.int (i + (k : Nat)))) h else .no
  | _ => .no
def cLr (m : Bool) (a : Ca) : Cd := fun e h => (a e h).bind (lrg m)
theorem lrg_ok {K : PySem.W.Frag} {σ : L2.St} {F ρ : List Addr} {H : Hp} {ih : Hh} {Q : VK} {m : Bool} {i j : Int} (hr : HR K T F ρ ih H)
    (hp : Pst K T Wx σ F ρ H (if -(2 ^ 62) ≤ i ∧ i < 2 ^ 62 ∧ -(2 ^ 62) ≤ j ∧ j < 2 ^ 62 ∧ (j - i).toNat ≤ 2 ^ 24 then fin m ((List.range (j - i).toNat).map fun k => .d (.int (i + (k : Nat)))) ih else .no) fun ρ' H' _ w => ∀ v, RW K F ρ' H' w v → Q v H') :
    RgOk i j ∧ ∀ q, H q = none → Q (.ref q) (upd H q (.lst (rgV i j))) := by
  split at hp
  · rename_i z
    refine ⟨z, fun q nq => fin_ok hr ?_ nq hp⟩
    unfold rgV
    have : ∀ l : List Nat, RWs K F ρ H (l.map fun k => W.d (D.int (i + (k : Nat)))) (l.map fun k => V.int (i + (k : Nat))) := fun l => by
      induction l with
      | nil => exact .nil
      | cons a l ih => exact .cons (.d (.int _)) ih
    exact this _
  · exact hp.elim
theorem fe_lr1 {a : Expr} {m : Bool} {ca : Cd} {p q pos pos1 : Pos} (hc : X.calm = true) (hl : Gl X "list") (hml : X.mg "list" = none) (hg : Gl X "range") (hm : X.mg "range" = none)
    (na : starEach [Expr.Call (.Name "range" p) [a] [] pos] X.env = (false, eval (Expr.Call (.Name "range" p) [a] [] pos) X.env) :: starEach [] X.env) (na2 : starEach [a] X.env = (false, eval a X.env) :: starEach [] X.env)
    (ha : FE X T Wx a ca) : FE X T Wx (.Call (.Name "list" q) [.Call (.Name "range" p) [a] [] pos] [] pos1) (cLr m (aCons ca aNil)) := PE.imp (pe_listRg hc hl hml (prg_1 hg hm ha na2) na) fun σ H Q q => by
  obtain ⟨F, ρ, ev, ih, hr, re, hp⟩ := q
  have hp' : Pst X.K T Wx σ F ρ H ((ca ev ih).bind fun x h => lrg m [x] h) fun ρ' H' _ w => ∀ v, RW X.K F ρ' H' w v → Q v H' := by
    have e : cLr m (aCons ca aNil) ev ih = (ca ev ih).bind fun x h => lrg m [x] h := by
      unfold cLr aCons aNil
      cases ca ev ih <;> rfl
    rw [← e]; exact hp
  refine ⟨F, ρ, ev, ih, hr, re, hp'.bind.mono fun ρ1 H1 ih1 w g1 hr1 hp1 v r => ?_⟩
  unfold lrg at hp1
  split at hp1
  · rename_i j hj
    cases hj
    cases r with | d r =>
    cases r with | int =>
    refine ⟨_, rfl, lrg_ok (Wx := Wx) (σ := σ) (m := m) hr1 ?_⟩
    split at hp1
    · rename_i z
      rw [if_pos (by simp only [Int.sub_zero]; exact ⟨by decide, by decide, z.1, z.2.1, z.2.2⟩)]
      simpa using hp1
    · exact hp1.elim
  · rename_i hj; cases hj
  · exact hp1.elim
theorem fe_lr2 {a b : Expr} {m : Bool} {ca cb : Cd} {p q pos pos1 : Pos} (hc : X.calm = true) (hl : Gl X "list") (hml : X.mg "list" = none) (hg : Gl X "range") (hm : X.mg "range" = none)
    (na : starEach [Expr.Call (.Name "range" p) [a, b] [] pos] X.env = (false, eval (Expr.Call (.Name "range" p) [a, b] [] pos) X.env) :: starEach [] X.env) (na2 : starEach [a, b] X.env = (false, eval a X.env) :: starEach [b] X.env)
    (nb : starEach [b] X.env = (false, eval b X.env) :: starEach [] X.env) (hpl : (backTo pos (starEach [b] X.env)).any (·.1) = false)
    (ha : FE X T Wx a ca) (hb : FE X T Wx b cb) : FE X T Wx (.Call (.Name "list" q) [.Call (.Name "range" p) [a, b] [] pos] [] pos1) (cLr m (aCons ca (aCons cb aNil))) := PE.imp (pe_listRg hc hl hml (prg_2 hg hm ha hb na2 nb hpl) na) fun σ H Q q => by
  obtain ⟨F, ρ, ev, ih, hr, re, hp⟩ := q
  have hp' : Pst X.K T Wx σ F ρ H ((ca ev ih).bind fun x h => (cb ev h).bind fun y h => lrg m [x, y] h) fun ρ' H' _ w => ∀ v, RW X.K F ρ' H' w v → Q v H' := by
    have e : cLr m (aCons ca (aCons cb aNil)) ev ih = (ca ev ih).bind fun x h => (cb ev h).bind fun y h => lrg m [x, y] h := by
      unfold cLr aCons aNil
      cases ca ev ih with
      | ok x h => simp only [R.bind_ok]; cases cb ev h <;> rfl
      | _ => rfl
    rw [← e]; exact hp
  refine ⟨F, ρ, ev, ih, hr, re, hp'.bind.mono fun ρ1 H1 ih1 w g1 hr1 hp1 v r => ?_⟩
  refine ⟨F, ρ1, ev, ih1, hr1, re.grow g1 hr, hp1.bind.mono fun ρ2 H2 ih2 w2 g2 hr2 hp2 v2 r2 => ?_⟩
  unfold lrg at hp2
  split at hp2
  · rename_i hj; cases hj
  · rename_i hj
    cases hj
    cases r with | d r =>
    cases r with | int =>
    cases r2 with | d r2 =>
    cases r2 with | int =>
    exact ⟨_, _, rfl, rfl, lrg_ok hr2 hp2⟩
  · exact hp2.elim

/-! ### (a, b, ..) = a list -/
theorem kun_list' {prog : Program} {w : World} {A : Around} {E : Value → Shared → Prop} {s : Shared} {env : Env} {elts : List Expr} {x1 : Nat} {l : Addr} {items : Array Value} {Q : Unit → Shared → Prop} (hl : s.heap.IsList l items) (hh : A.handled = none) (hn : (assignEach elts env).length = items.size)
    (hstar : (assignEach elts env).findIdx? (·.1) = none)
    (h : ∀ h', (∀ b o, s.heap.get? b = some o → h'.get? b = some o) → wpAny (model prog w) A (assignInOrder ((assignEach elts env).map (·.2)) items.toList) Q E { s with heap := h' }) :
    wpAny (model prog w) A (assign (.Tuple elts x1 pos) env (.ref l)) Q E s := by
  rw [assign_Tuple]
  refine wpAny_bind (wpAny_standAt ?_)
  unfold unpack
  rw [hn, hstar]
  exact wpAny_bind (wpAny_holding (kun_itemsOf hh hl fun h' he => h h' fun b o e => he b o (Nat.ne_of_lt (Heap.lt_size e)) e))
def gLst (K : PySem.W.Frag) (n : Nat) (t : TGs) : TG := fun v σ H Q => ∃ a xs, v = .ref a ∧ SqL K H a xs ∧ xs.length = n ∧ t xs σ H Q
theorem pg_lst {es : List Expr} {k : Nat} {t : TGs} {n : Nat} (hc : X.calm = true) (h : PGs X es t)
    (hn : (assignEach es X.env).length = n) (hst : (assignEach es X.env).findIdx? (·.1) = none) : PG X (.Tuple es k pos) (gLst X.K n t) := by
  refine ⟨fun pins s σ H v u Q I r hw => ?_⟩
  obtain ⟨a, xs, e1, hq, hl, hw⟩ := hw
  subst e1
  cases r
  obtain ⟨its, rv, ht, hz⟩ := I.list hq
  refine kun_list' ht.isList (I.ok.hd hc) (by simp [hn, ← hl, rv.length]) hst fun h' hx => ?_
  have I1 : Inv X pins σ H { s with heap := h' } := I.kept (t' := s.toks) fun b o e => hx b o e
  exact h.run pins _ σ H xs _ Q I1 (by simpa using rv) hw
theorem PG.or {tg : Expr} {t t' : TG} (h : PG X tg t) (h' : PG X tg t') : PG X tg fun v σ H Q => t v σ H Q ∨ t' v σ H Q := ⟨fun pins s σ H v u Q I r q => q.elim (h.run pins s σ H v u Q I r) (h'.run pins s σ H v u Q I r)⟩
def tLs (c : Cts) : Ct := fun w e h => match w with
  | .d (.tup l) => c (l.map .d) e h
  | w => match lstW w h with
    | some l => c l e h
    | none => none
theorem fg_l {tgs : List Expr} {k n : Nat} {is : List Nat} {cb : Cts} (hc : X.calm = true) (ln : Len cb n) (hn : (assignEach tgs X.env).length = n) (hst : (assignEach tgs X.env).findIdx? (·.1) = none) (h : FGs X T tgs is cb) : FG X T (.Tuple tgs k pos) is (tLs cb) :=
  PG.imp (PG.or (pg_tup hc h hn hst) (pg_lst hc h hn hst)) fun v σ H Q q => by
    obtain ⟨F, ρ, e, ih, w, e', hr, re, r, he, hq⟩ := q
    unfold tLs at he
    split at he
    · rename_i l
      cases r with | d r => cases r with | tup t z rl =>
        have hl := ln.len _ _ _ _ he
        exact .inl ⟨_, _, rfl, t.sq, by rw [← rl.rws.length]; exact hl, F, ρ, e, ih, _, e', hr, re, rl.rws, he, hq⟩
    · split at he
      · rename_i l e1
        obtain ⟨a, vs, rfl, s, rs, _⟩ := lstW_at hr r e1
        have hl := ln.len _ _ _ _ he
        exact .inr ⟨_, _, rfl, .inl s, by rw [← rs.length]; exact hl, F, ρ, e, ih, _, e', hr, re, rs, he, hq⟩
      · cases he
end
end Fz
set_option Elab.async false
set_option linter.all false
set_option maxRecDepth 100000
set_option maxHeartbeats 2000000
/-! Fz: displays of dicts. -/
namespace Fz
open PySem PySem.W L2 PyProof.Rows

abbrev Cps := List (Cd × Cd)
def pOf : Cps → Ev → Hh → R (List (W × W))
  | [], _, h => .ok [] h
  | (a, b) :: r, e, h => (a e h).bind fun x h => (b e h).bind fun y h => (pOf r e h).bind fun ps h => .ok ((x, y) :: ps) h
def FPs (X : Cx) (T : Tb) (Wx : WX) (pos : Pos) (keys : List (Option Expr)) (values : List Expr) (cs : Cps) : Prop := PPs X pos keys values (cs.map fun c => (tOf X.K T Wx c.1, tOf X.K T Wx c.2))
section
variable {X : Cx} {T : Tb} {Wx : WX} {k v : Expr} {ks : List (Option Expr)} {vs : List Expr} {pos : Pos} {ca cb : Cd} {cs : Cps}
theorem fps_nil : FPs X T Wx pos [] [] [] := pps_nil
theorem fps_cons (hk : FE X T Wx k ca) (hv : FE X T Wx v cb) (hr : FPs X T Wx pos ks vs cs) : FPs X T Wx pos (some k :: ks) (v :: vs) ((ca, cb) :: cs) := pps_cons hk hv hr
abbrev RPs (K : PySem.W.Frag) (F ρ : List Addr) (H : Hp) : List (W × W) → List (V × V) → Prop := Paired fun p q => RW K F ρ H p.1 q.1 ∧ RW K F ρ H p.2 q.2
theorem RPs.grow {K F ρ H ρ' H' ih} (g : Grow F ρ H ρ' H') (h : HR K T F ρ ih H) {w : List (W × W)} {v : List (V × V)} (r : RPs K F ρ H w v) : RPs K F ρ' H' w v :=
  Paired.mapP r fun _ _ x => ⟨x.1.grow g h, x.2.grow g h⟩
theorem tPairs_at {K : PySem.W.Frag} : ∀ {cs : Cps} {σ : L2.St} {F ρ : List Addr} {H : Hp} {ev : Ev} {ih : Hh} {Q : List (V × V) → Hp → Prop}, HR K T F ρ ih H → RE K F ρ H ev σ →
    Pst K T Wx σ F ρ H (pOf cs ev ih) (fun ρ' H' _ ps => ∀ vs, RPs K F ρ' H' ps vs → Q vs H') → tPairs (cs.map fun c => (tOf K T Wx c.1, tOf K T Wx c.2)) σ H Q
  | [], σ, F, ρ, H, ev, ih, Q, hr, re, hp => hp.ok hr [] .nil
  | (a, b) :: cs, σ, F, ρ, H, ev, ih, Q, hr, re, hp => by
    have hp' : Pst K T Wx σ F ρ H ((a ev ih).bind fun x h => (b ev h).bind fun y h => (pOf cs ev h).bind fun ps h => .ok ((x, y) :: ps) h) _ := hp
    refine ⟨F, ρ, ev, ih, hr, re, hp'.bind.mono fun ρ1 H1 ih1 x g1 hr1 hp1 v1 r1 => ?_⟩
    have re1 := re.grow g1 hr
    refine ⟨F, ρ1, ev, ih1, hr1, re1, hp1.bind.mono fun ρ2 H2 ih2 y g2 hr2 hp2 v2 r2 => ?_⟩
    refine tPairs_at hr2 (re1.grow g2 hr1) (hp2.bind.mono fun ρ3 H3 ih3 ps g3 hr3 hp3 vs rs => ?_)
    exact hp3.ok hr3 _ (.cons ⟨(r1.grow g2 hr1).grow g3 hr2, r2.grow g3 hr2⟩ rs)
end
/-! ### keys: numbers, texts -/
def keysW : List (W × W) → Option (List (D × W))
  | [] => some []
  | (.d k, w) :: r => if k.isK then (keysW r).map ((k, w) :: ·) else none
  | _ :: _ => none
def mergeD (l more : List (D × W)) : List (D × W) := more.foldl (fun acc p => putd p.1 p.2 acc) l
def cDis (cs : Cps) : Cd := fun e h => (pOf cs e (h ++ [.dk []])).bind fun ps h' => match keysW ps, h'[h.length]? with
  | some kvs, some (.dk []) => if kvs.length ≤ 15 then .ok (.r h.length) (h'.set h.length (.dk (mergeD [] kvs))) else .no
  | _, _ => .no
theorem keysW_at {K : PySem.W.Frag} {F ρ : List Addr} {H : Hp} : ∀ {ps : List (W × W)} {vs : List (V × V)} {kvs : List (D × W)}, keysW ps = some kvs → RPs K F ρ H ps vs → ∃ ks : List (Key × V), vs = ks.map (fun kv => (kV kv.1, kv.2)) ∧ RD K F ρ H kOf D.isK kvs ks
  | [], vs, kvs, e, r => by cases r; simp [keysW] at e; subst e; exact ⟨[], rfl, .nil⟩
  | (.d k, w) :: ps, vs, kvs, e, r => by
    simp only [keysW] at e
    split at e
    · rename_i hk
      rw [Option.map_eq_some_iff] at e
      obtain ⟨l, e1, rfl⟩ := e
      cases r with
      | @cons _ q _ qs a b =>
        obtain ⟨ks, rfl, rl⟩ := keysW_at e1 b
        obtain ⟨q1, q2⟩ := q
        refine ⟨(kOf k, q2) :: ks, ?_, .cons ⟨⟨rfl, hk⟩, a.2⟩ rl⟩
        rw [List.map_cons, ← key_v hk a.1]
    · cases e
  | (.r _, w) :: ps, vs, kvs, e, r => by simp [keysW] at e
theorem RD.merge {K : PySem.W.Frag} {F ρ : List Addr} {H : Hp} : ∀ {more : List (D × W)} {ks : List (Key × V)} {l : List (D × W)} {kvs : List (Key × V)}, RD K F ρ H kOf D.isK more ks → RD K F ρ H kOf D.isK l kvs → RD K F ρ H kOf D.isK (mergeD l more) (mergeK kvs ks)
  | [], _, l, kvs, r, q => by cases r; exact q
  | p :: more, _, l, kvs, r, q => by
    cases r with
    | @cons _ b _ bs a t =>
      have q' : RD K F ρ H kOf D.isK (putd p.1 p.2 l) (putK kvs b.1 b.2) := by
        rw [a.1.1]; exact RD.put kOf_inj a.1.2 q a.2
      show RD K F ρ H kOf D.isK (mergeD (putd p.1 p.2 l) more) (mergeK (putK kvs b.1 b.2) bs)
      exact RD.merge (more := more) t q'
section
variable {X : Cx} {T : Tb} {Wx : WX} {keys : List (Option Expr)} {values : List Expr} {pos : Pos} {cs : Cps}
theorem fe_dis (h : FPs X T Wx pos keys values cs) (hall : keys.all (·.isSome) = true) (hl : keys.length = values.length) (h0 : keys ≠ []) (h15 : keys.length ≤ 15) : FE X T Wx (.Dict keys values pos) (cDis cs) := PE.imp (pe_disp h hall hl h0 h15) fun σ H Q q => by
  obtain ⟨F, ρ, ev, ih, hr, re, hp⟩ := q
  intro p np
  have g0 : Grow F ρ H (ρ ++ [p]) (upd H p (.dK [])) := grow_add np
  have hr0 : HR X.K T F (ρ ++ [p]) (ih ++ [.dk []]) (upd H p (.dK [])) := hr.add np (.dk .nil)
  have hp0 : Pst X.K T Wx σ F (ρ ++ [p]) (upd H p (.dK [])) ((pOf cs ev (ih ++ [.dk []])).bind fun ps h' => match keysW ps, h'[ih.length]? with
      | some kvs, some (.dk []) => if kvs.length ≤ 15 then R.ok (W.r ih.length) (h'.set ih.length (.dk (mergeD [] kvs))) else .no
      | _, _ => .no) fun ρ' H' _ w => ∀ v, RW X.K F ρ' H' w v → Q v H' := by
    unfold cDis at hp
    revert hp
    generalize ((pOf cs ev (ih ++ [.dk []])).bind fun ps h' => match keysW ps, h'[ih.length]? with
      | some kvs, some (.dk []) => if kvs.length ≤ 15 then R.ok (W.r ih.length) (h'.set ih.length (.dk (mergeD [] kvs))) else .no
      | _, _ => .no) = m
    intro hp
    cases m with
    | no => exact hp
    | ok a h2 => exact fun ρ2 H2 g2 hr2 => hp ρ2 H2 (g0.trans hr0 g2) hr2
    | ex c p h2 => exact fun ρ2 H2 cls dx g2 hr2 x => hp ρ2 H2 cls dx (g0.trans hr0 g2) hr2 x
  refine tPairs_at hr0 (re.grow g0 hr) (hp0.bind.mono fun ρ1 H1 ih1 ps g1 hr1 hp1 vs rs => ?_)
  have hn : ρ1[ih.length]? = some p := g1.get (get_last hr.len)
  split at hp1
  · rename_i kvs e1 e2
    split at hp1
    · rename_i z
      obtain ⟨ks, rfl, rl⟩ := keysW_at e1 rs
      obtain ⟨u, eH, ro⟩ := hr1.at hn e2
      cases ro with | dk r0 =>
      cases r0
      have m := List.mem_of_getElem? hn
      refine ⟨eH, ks, rfl, by rw [← Paired.length rl]; exact z, ?_⟩
      exact hp1 _ _ (grow_set m (nf_of eH trivial)) (hr1.set hn (.dk (rd_dk (RD.kp (keep_set m) (fun _ _ q => q) (RD.merge rl .nil))))) _ (.r hn)
    · exact hp1.elim
  · exact hp1.elim
/-! ### one key: a tuple -/
def cDisT (ca cb : Cd) : Cd := fun e h => (pOf [(ca, cb)] e (h ++ [.dt []])).bind fun ps h' => match ps, h'[h.length]? with
  | [(.d k, w)], some (.dt []) => if k.isKT then .ok (.r h.length) (h'.set h.length (.dt [(k, w)])) else .no
  | _, _ => .no
def tDisT (tk tv : TE) : TE := fun σ H Q => ∀ p, H p = none → tPairs [(tk, tv)] σ (upd H p (.dT [])) fun ps H2 => H2 p = some (.dT []) ∧ ∃ (ks : List Key) (b : Addr) (v : V), ps = [(.ref b, v)] ∧ H2 b = some (.tup (ks.map kV)) ∧ Q (.ref p) (upd H2 p (.dT [(ks, v)]))
theorem pe_dispT {k v : Expr} {tk tv : TE} (hu : X.A.units + 1 < cLine) (h : PPs X pos [some k] [v] [(tk, tv)]) : PE X (.Dict [some k] [v] pos) (tDisT tk tv) := by
  refine ⟨fun pins s σ H Q I q => ?_⟩
  have hn := I.hok.fresh (Nat.le_refl s.heap.objs.size)
  have I1 := I.laid (a := s.heap.objs.size) (o := .dT []) (h' := s.heap.push { cls := .type "dict", data := .dict #[] }) (t' := s.toks) (fun _ _ q => Heap.get?_push_of_some _ q) (Nat.le_refl _) (dt_empty s.heap I.big)
  rw [arm_eval_Dict, zip_pairTrees [some k] [v] X.env pos rfl rfl, dictDisplay_pairs (pairTrees [some k] [v] X.env pos) ?h0 (by rw [pairTrees_length [some k] [v] X.env pos rfl rfl]; simp)]
  case h0 =>
    have := pairTrees_length [some k] [v] X.env pos rfl rfl
    intro he
    rw [he] at this
    cases this
  refine wpAny_bind (wpAny_standAt (wpAny_bind (wpAny_subDictH (knd := tupleKind (mixKind X.prog X.w)) (show X.A.units < cLine from Nat.lt_of_succ_lt hu) (by rw [pairTrees_length [some k] [v] X.env pos rfl rfl]; simp) (thn (h.run pins _ σ _ _ I1 (q _ hn)) fun ws s2 ⟨ps, H2, I2, rel, e, ks, b, v', ep, eb, q2⟩ => ?_))))
  subst ep
  cases rel with
  | @cons _ w1 _ ws1 a t =>
  cases t
  obtain ⟨w1, w2⟩ := w1
  obtain ⟨a1, a2⟩ := a
  cases (show w1 = Value.ref b from a1)
  obtain ⟨z, hd, xs, r0, dd⟩ := dt_of I2.hok e
  cases r0
  refine ⟨[(ks, b, w2)], ⟨rfl, rfl, key_of I2.hok eb, trivial⟩, dd, fun h' tk' dd' hs => wpAny_pure ⟨.ref s.heap.objs.size, _, ?_, rfl, q2⟩⟩
  obtain ⟨q, es, ep, hq, h2, h3, h4, _, h5⟩ := dd'
  refine d_write I2 (by rw [e]; exact True.intro) hs ⟨q, hq⟩ ⟨by show 1 ≤ sizeLine; decide, hd, _, ?_, q, es, ep, hq, h2, h3, h4, h5⟩
  refine .cons ⟨rfl, ?_, a2⟩ .nil
  show upd H2 _ _ b = _
  rw [upd_ne (ne_of eb e (fun z => nomatch z))]
  exact eb
theorem fe_disT {k v : Expr} {ca cb : Cd} (hu : X.A.units + 1 < cLine) (h : FPs X T Wx pos [some k] [v] [(ca, cb)]) : FE X T Wx (.Dict [some k] [v] pos) (cDisT ca cb) := PE.imp (pe_dispT hu h) fun σ H Q q => by
  obtain ⟨F, ρ, ev, ih, hr, re, hp⟩ := q
  intro p np
  have g0 : Grow F ρ H (ρ ++ [p]) (upd H p (.dT [])) := grow_add np
  have hr0 : HR X.K T F (ρ ++ [p]) (ih ++ [.dt []]) (upd H p (.dT [])) := hr.add np (.dt .nil)
  have hp0 : Pst X.K T Wx σ F (ρ ++ [p]) (upd H p (.dT [])) ((pOf [(ca, cb)] ev (ih ++ [.dt []])).bind fun ps h' => match ps, h'[ih.length]? with
      | [(.d k, w)], some (.dt []) => if k.isKT then R.ok (W.r ih.length) (h'.set ih.length (.dt [(k, w)])) else .no
      | _, _ => .no) fun ρ' H' _ w => ∀ v, RW X.K F ρ' H' w v → Q v H' := by
    unfold cDisT at hp
    revert hp
    generalize ((pOf [(ca, cb)] ev (ih ++ [.dt []])).bind fun ps h' => match ps, h'[ih.length]? with
      | [(.d k, w)], some (.dt []) => if k.isKT then R.ok (W.r ih.length) (h'.set ih.length (.dt [(k, w)])) else .no
      | _, _ => .no) = m
    intro hp
    cases m with
    | no => exact hp
    | ok a h2 => exact fun ρ2 H2 g2 hr2 => hp ρ2 H2 (g0.trans hr0 g2) hr2
    | ex c p h2 => exact fun ρ2 H2 cls dx g2 hr2 x => hp ρ2 H2 cls dx (g0.trans hr0 g2) hr2 x
  refine tPairs_at hr0 (re.grow g0 hr) (hp0.bind.mono fun ρ1 H1 ih1 ps g1 hr1 hp1 vs rs => ?_)
  have hn : ρ1[ih.length]? = some p := g1.get (get_last hr.len)
  split at hp1
  · rename_i kd w e2
    split at hp1
    · rename_i hk
      cases rs with | @cons _ b _ bs a t =>
      cases t
      obtain ⟨v1, v2⟩ := b
      obtain ⟨b, rfl, eb⟩ := keyT_v hk a.1
      obtain ⟨u, eH, ro⟩ := hr1.at hn e2
      cases ro with | dt r0 =>
      cases r0
      have m := List.mem_of_getElem? hn
      refine ⟨eH, ktOf kd, b, v2, rfl, eb, ?_⟩
      exact hp1 _ _ (grow_set m (nf_of eH trivial)) (hr1.set hn (.dt (rd_dt (RD.kp (keep_set m) (fun _ _ q => q) (.cons ⟨⟨rfl, hk⟩, a.2⟩ .nil))))) _ (.r hn)
    · exact hp1.elim
  · exact hp1.elim
end
end Fz
set_option Elab.async false
set_option linter.all false
set_option maxRecDepth 100000
set_option maxHeartbeats 2000000
/-! Fz: repr of data; actual == due and repr(actual) == repr(due). -/
namespace Fz
open PySem PySem.W L2 PyProof.Rows

mutual
def D.sz : D → Nat
  | .non => 4
  | .bl _ => 5
  | .int i => i.natAbs.log2 + 2
  | .str l => 10 * l.length + 2
  | .tup l => 2 + szL l
  | .lst l => 2 + szL l
def szL : List D → Nat
  | [] => 0
  | d :: r => (D.sz d + 2) + szL r
end
mutual
/-- whole numbers that repr can write -/
def D.shw : D → Bool
  | .int i => decide (i.natAbs.log2 < 1920)
  | .tup l => shwL l
  | .lst l => shwL l
  | _ => true
def shwL : List D → Bool
  | [] => true
  | d :: r => D.shw d && shwL r
end
theorem listText_le (ts : List Str) : (listText ts).length ≤ 2 + piled ts := by
  cases ts with
  | nil => show 2 ≤ 2 + 0; omega
  | cons t r =>
    have e : (textFrom 0 "[" (t :: r)).length = (("[" : Str) ++ ("" : Str) ++ t).length + piled r := textFrom_length_pos r 1 _ (Nat.succ_pos 0)
    show (textFrom 0 "[" (t :: r) ++ ("]" : Str)).length ≤ _
    rw [strLen_append, e, strLen_append, strLen_append, piled_cons]
    have e1 : ("[" : Str).length = 1 := rfl
    have e2 : ("]" : Str).length = 1 := rfl
    have e3 : ("" : Str).length = 0 := rfl
    omega
theorem tupleText_le (ts : List Str) : (tupleText ts).length ≤ 2 + piled ts := by
  show (("(" : Str) ++ Str.join ", " ts ++ ((if ts.length == 1 then ",)" else ")" : String) : Str)).length ≤ _
  rw [strLen_append, strLen_append]
  have e1 : ("(" : Str).length = 1 := rfl
  have e2 : ((if ts.length == 1 then ",)" else ")" : String) : Str).length ≤ 2 := by split <;> decide
  cases ts with
  | nil =>
    have e3 : (Str.join ", " []).length = 0 := rfl
    have e4 : ((if ([] : List Str).length == 1 then ",)" else ")" : String) : Str).length = 1 := rfl
    rw [e3, e4, e1]; omega
  | cons t r =>
    have := join_length_add (t :: r) (by simp)
    omega
mutual
theorem shown_le : ∀ (n : Nat) (d : D), sh n d = true → d.py.shown.length ≤ D.sz d
  | _, .non, _ => by simp only [D.py, PyData.shown, D.sz]; decide
  | _, .bl b, _ => by simp only [D.py, PyData.shown, D.sz]; cases b <;> decide
  | _, .int i, _ => by
    simp only [D.py, PyData.shown, D.sz]
    have := int_text_length_le (a := i) (k := i.natAbs.log2 + 1) (Nat.succ_pos _) (Nat.lt_succ_self _)
    rw [PySem.ofString_length]
    omega
  | n, .str l, h => by
    have h' : l.all (· < 1114112) = true := by cases n <;> exact h
    simp only [D.py, PyData.shown, D.sz]
    have := StrLaws.reprText_len (toStr l) fun c hc => by
      have := List.all_eq_true.mp h' c (by simpa [toStr] using hc)
      have := of_decide_eq_true this
      omega
    rw [toStr_len] at this
    exact this
  | n + 1, .tup l, h => by
    simp only [D.py, PyData.shown, D.sz]
    have := tupleText_le (PyData.shownAll (pyL l))
    have := shownL_le n l h
    omega
  | n + 1, .lst l, h => by
    simp only [D.py, PyData.shown, D.sz]
    have := listText_le (PyData.shownAll (pyL l))
    have := shownL_le n l h
    omega
  | 0, .tup _, h => by simp [sh] at h
  | 0, .lst _, h => by simp [sh] at h
theorem shownL_le : ∀ (n : Nat) (l : List D), l.all (sh n) = true → piled (PyData.shownAll (pyL l)) ≤ szL l
  | _, [], _ => by simp only [pyL, PyData.shownAll, szL]; exact Nat.le_refl _
  | n, d :: r, h => by
    rw [List.all_cons, Bool.and_eq_true] at h
    simp only [pyL, PyData.shownAll, szL, piled_cons]
    have := shown_le n d h.1
    have := shownL_le n r h.2
    omega
end
mutual
theorem shw_py : ∀ d : D, d.py.showable = D.shw d
  | .non => by simp only [D.py, PyData.showable, D.shw]
  | .bl _ => by simp only [D.py, PyData.showable, D.shw]
  | .int i => by simp only [D.py, PyData.showable, D.shw]
  | .str l => by simp only [D.py, PyData.showable, D.shw]
  | .tup l => by simp only [D.py, PyData.showable, D.shw]; exact shwL_py l
  | .lst l => by simp only [D.py, PyData.showable, D.shw]; exact shwL_py l
theorem shwL_py : ∀ l : List D, PyData.showableAll (pyL l) = shwL l
  | [] => by simp only [pyL, PyData.showableAll, shwL]
  | d :: r => by simp only [pyL, PyData.showableAll, shwL, shw_py d, shwL_py r]
end
def canShow (d : D) : Bool := sh 60 d && D.shw d && decide (D.sz d ≤ 16777216)
theorem sh_up : ∀ (n m : Nat), n ≤ m → ∀ d : D, sh n d = true → sh m d = true
  | n, m, h, .non, _ => by cases m <;> rfl
  | n, m, h, .bl _, _ => by cases m <;> rfl
  | n, m, h, .int _, _ => by cases m <;> rfl
  | n, m, h, .str l, e => by cases n <;> cases m <;> exact e
  | n + 1, m + 1, h, .tup l, e => List.all_eq_true.mpr fun x hx => sh_up n m (by omega) x (List.all_eq_true.mp (show l.all (sh n) = true from e) x hx)
  | n + 1, m + 1, h, .lst l, e => List.all_eq_true.mpr fun x hx => sh_up n m (by omega) x (List.all_eq_true.mp (show l.all (sh n) = true from e) x hx)
  | n + 1, 0, h, _, _ => absurd h (by omega)
  | 0, _, _, .tup _, e => by simp [sh] at e
  | 0, _, _, .lst _, e => by simp [sh] at e
def rp (d : D) : List Nat := d.py.shown.cps.toList
theorem toStr_rp (d : D) : toStr (rp d) = d.py.shown := by
  unfold toStr rp
  rw [Array.toArray_toList]
def biRepr (ws : List W) (h : Hh) : R W := match ws with
  | [w] => match valD w h with
    | some d => if canShow d then .ok (.d (.str (rp d))) h else .no
    | none => .no
  | _ => .no
def rRepr (K : PySem.W.Frag) : List V → Hp → VK → Prop := fun xs H Q => ∃ (v : V) (d : PyData), xs = [v] ∧ Dp K H v d ∧ d.showable = true ∧ d.hasDict = false ∧ d.depth ≤ 60 ∧ d.shown.length ≤ sizeLine ∧ Q (.str d.shown) H
theorem cr_repr {X : Cx} (hg : X.A.guards = some []) (hu : X.A.units + 64 < cLine) : CallR X (.builtin "repr") (rRepr X.K) := by
  intro pins s σ H xs us Q I r h
  obtain ⟨v, d, rfl, hd, hs, hn, hdp, hz, q⟩ := h
  obtain ⟨u, rfl, rv⟩ := vals1 r
  obtain ⟨as, rd⟩ := Dp.reads I d v u hd rv
  have fin : ∀ (h' : Heap) (t tk : Tok), (∀ b o, s.heap.get? b = some o → h'.get? b = some o) → EP X pins σ Q (.str d.shown t) { s with heap := h', toks := tk } :=
    fun h' t tk hk => ⟨.str d.shown, H, I.kept hk, ⟨_, rfl⟩, q⟩
  cases rd with
  | none => exact P.repr_of_none (fin _ _ _ fun _ _ e => e)
  | bool b => exact P.repr_of_bool (by have := fin s.heap s.toks (s.toks + 1) fun _ _ e => e; simpa [PyData.shown] using this)
  | int i t => exact P.repr_of_int (by simpa [PyData.showable] using hs) (fin _ _ _ fun _ _ e => e)
  | str x t => exact P.repr_of_str (fin _ _ _ fun _ _ e => e) hz
  | list h1 h2 h3 h4 => exact repr_of_reads' (.list h1 h2 h3 h4) hs (PyData.noDict_hsm hn) hg (by omega) (fun _ _ e => e) (fun h' u tk hk => fin h' u tk hk) hz
  | tuple h1 h2 h3 h4 => exact repr_of_reads' (.tuple h1 h2 h3 h4) hs (PyData.noDict_hsm hn) hg (by omega) (fun _ _ e => e) (fun h' u tk hk => fin h' u tk hk) hz
  | dict _ _ _ _ _ => simp [PyData.hasDict] at hn
theorem fc_repr {K : PySem.W.Frag} {T : Tb} : FCl K T biRepr (rRepr K) := by
  intro Wx σ F ρ ih H xs vs Q hr rs hp
  unfold biRepr at hp
  split at hp
  · cases rs with | cons r t => cases t with | nil =>
      split at hp
      · rename_i d e
        split at hp
        · rename_i c
          unfold canShow at c
          simp only [Bool.and_eq_true, decide_eq_true_eq] at c
          obtain ⟨l1, l2⟩ := sh_lay 60 d c.1.1
          have hz := Nat.le_trans (shown_le 60 d c.1.1) c.2
          refine ⟨_, d.py, rfl, valD_dp hr r e, by rw [shw_py]; exact c.1.2, PyData.hasDict_of_canLay _ l1, l2, hz, ?_⟩
          rw [← toStr_rp]
          refine hp.ok hr _ (.d (.str _ ?_))
          rw [← toStr_len, toStr_rp]
          exact hz
        · exact hp.elim
      · exact hp.elim
  · exact hp.elim
/-! ### actual == due and repr(actual) == repr(due) -/
def opEqS (x y : W) (h : Hh) : R W := match x, y with
  | .d (.str a), .d (.str b) => .ok (.d (.bl (a == b))) h
  | _, _ => .no
theorem fop_eqS {K : PySem.W.Frag} {T : Tb} : FOp K T opEqS rEq := by
  intro Wx σ F ρ ih H x y v1 v2 Q hr r1 r2 hp
  unfold opEqS at hp
  split at hp
  · cases r1 with | d r1 => cases r2 with | d r2 => cases r1 with | str a za => cases r2 with | str b zb =>
      refine ⟨rfl, ?_⟩
      rw [dec_str, str_beq]
      exact hp.ok hr _ (.d (.bl _))
  · exact hp.elim
section
variable {X : Cx} {T : Tb} {Wx : WX} {e : Expr}
/-- a function that says less -/
theorem FE.ref {c c' : Cd} (h : FE X T Wx e c) (r : ∀ ev ih, c' ev ih = .no ∨ c' ev ih = c ev ih) : FE X T Wx e c' := PE.imp h fun σ H Q q => by
  obtain ⟨F, ρ, ev, ih, hr, re, hp⟩ := q
  refine ⟨F, ρ, ev, ih, hr, re, ?_⟩
  rcases r ev ih with e | e
  · rw [e] at hp; exact hp.elim
  · rw [e] at hp; exact hp
end
mutual
theorem eqv_refl : ∀ d : D, D.eqv d d = true
  | .non => by simp [D.eqv]
  | .bl _ => by simp [D.eqv]
  | .int _ => by simp [D.eqv]
  | .str _ => by simp [D.eqv]
  | .tup l => by simp only [D.eqv]; exact eqvL_refl l
  | .lst l => by simp only [D.eqv]; exact eqvL_refl l
theorem eqvL_refl : ∀ l : List D, eqvL l l = true
  | [] => by simp [eqvL]
  | d :: r => by simp only [eqvL, eqv_refl d, eqvL_refl r]; rfl
end
def cSame (i j : Nat) : Cd := fun e h => match e[i]?, e[j]? with
  | some (some x), some (some y) => match valD x h, valD y h with
    | some a, some b => if D.beq a b && canShow a then .ok (.d (.bl true)) h else if sh 64 a && sh 64 b && !(D.eqv a b) then .ok (.d (.bl false)) h else .no
    | _, _ => .no
  | _, _ => .no
def cSame' (i j : Nat) : Cd := cAnd (c2 (opEq false) (cv i) (cv j)) (c2 opEqS (cCl biRepr (aCons (cv i) aNil)) (cCl biRepr (aCons (cv j) aNil)))
theorem same_ref (i j : Nat) (e : Ev) (h : Hh) : cSame i j e h = .no ∨ cSame i j e h = cSame' i j e h := by
  unfold cSame cSame' cAnd c2 cv cCl aCons aNil
  cases e1 : e[i]? with
  | none => simp
  | some o1 =>
    cases o1 with
    | none => simp
    | some x =>
      cases e2 : e[j]? with
      | none => simp
      | some o2 =>
        cases o2 with
        | none => simp
        | some y =>
          simp only [R.bind_ok]
          cases v1 : valD x h with
          | none => simp
          | some a =>
            cases v2 : valD y h with
            | none => simp
            | some b =>
              dsimp only
              split
              · rename_i c
                rw [Bool.and_eq_true] at c
                obtain ⟨c1, c2⟩ := c
                have := (D.beq_iff a b).mp c1
                subst this
                right
                have c3 := c2
                unfold canShow at c3
                simp only [Bool.and_eq_true, decide_eq_true_eq] at c3
                have s64 : sh 64 a = true := sh_up 60 64 (by omega) a c3.1.1
                have q1 : opEq false x y h = .ok (.d (.bl true)) h := by
                  unfold opEq
                  rw [v1, v2]
                  simp [s64, eqv_refl]
                have q2 : biRepr [x] h = .ok (.d (.str (rp a))) h := by unfold biRepr; simp [v1, c2]
                have q3 : biRepr [y] h = .ok (.d (.str (rp a))) h := by unfold biRepr; simp [v2, c2]
                rw [q1]
                simp [tru, q2, q3, opEqS, e1, e2]
              · split
                · rename_i c
                  simp only [Bool.and_eq_true, Bool.not_eq_true'] at c
                  right
                  have q1 : opEq false x y h = .ok (.d (.bl false)) h := by
                    unfold opEq
                    rw [v1, v2]
                    simp [c.1.1, c.1.2, c.2]
                  rw [q1]
                  simp [tru]
                · left; rfl
theorem fe_same {X : Cx} {T : Tb} {Wx : WX} {e : Expr} {i j : Nat} (h : FE X T Wx e (cSame' i j)) : FE X T Wx e (cSame i j) := h.ref (same_ref i j)
end Fz
set_option Elab.async false
set_option linter.all false
set_option maxRecDepth 100000
set_option maxHeartbeats 2000000
/-! Fz: defs by tables of functions; the law's call. -/
namespace Fz
open PySem PySem.W L2 PyProof.Rows

/-- a def: n arguments, N slots -/
def mkFn (n N : Nat) (body : Cs) : Fn := fun ws h => if ws.length = n then match body (ws.map some ++ List.replicate (N - n) none) h with
  | .rt w h => .ok w h
  | .nx _ h => .ok (.d .non) h
  | .ex c p _ h => .ex c p h
  | _ => .no else .no
theorem RE.start {K : PySem.W.Frag} {F ρ : List Addr} {H : Hp} {ws : List W} {vs : List V} (r : RWs K F ρ H ws vs) (m : Nat) : RE K F ρ H (ws.map some ++ List.replicate m none) (vs.map some ++ List.replicate m none) := by
  refine ⟨by simp [r.length], fun i w q => ?_⟩
  by_cases hi : i < ws.length
  · rw [List.getElem?_append_left (by simpa using hi), List.getElem?_map] at q
    rw [List.getElem?_append_left (by rw [List.length_map, ← r.length]; exact hi), List.getElem?_map]
    cases e : ws[i]? with
    | none => rw [e] at q; cases q
    | some w' =>
      rw [e] at q
      cases q
      obtain ⟨v, e1, r1⟩ := r.get e
      exact ⟨v, by rw [e1]; rfl, r1⟩
  · rw [List.getElem?_append_right (by simpa using hi)] at q
    have := List.mem_of_getElem? q
    rw [List.mem_replicate] at this
    cases this.2
section
variable {P : Program} {w : World} {K : PySem.W.Frag} {mg : Str → Option Value} {base : Heap} {T : Tb}
/-- what a def's body is walked in -/
abbrev cxF (P : Program) (w : World) (K : PySem.W.Frag) (mg : Str → Option Value) (base : Heap) (N : List Str) (qual : Str) (sc : Scope) (f : Addr) (cdv : Value) (A : Around) (outer : List Env) (s : Shared) (H : Hp) (E : XK) : Cx := cxOf (L2.CX P w) P w K mg base N qual sc f cdv A outer s H E
abbrev wxF (E : XK) : WX := fun cls d _ H' => E cls d H'
theorem cg_of {k : Nat} {N ps : List Str} {qual : Str} {sc : Scope} {f : Addr} {cdv : Value} {A : Around} {outer : List Env} {s : Shared} {H : Hp} {E : XK} (S : FnScope N ps sc) (hr : Room k (A.deeper (envOfC qual sc s.heap.objs.size f cdv))) (hg : A.guards = some []) :
    Cg (cxF P w K mg base N qual sc f cdv A outer s H E) (wxF E) k where
  calm := rfl
  room := hr
  gd := hg
  tk := takes_of rfl rfl rfl rfl
  nd := S.nd
  po := passes_of rfl
theorem fn_of {k : Nat} {x qual : Str} {st : Stmt} {f : Addr} {fd : FuncData} {N ps : List Str} {code : Cs} (Fu : Fun K x qual st f fd) (S : FnScope N ps (defScope st))
    (hb : ∀ (cdv : Value) (A : Around) (outer : List Env) (s : Shared) (H : Hp) (E : XK), Cg (cxF P w K mg base N qual (defScope st) f cdv A outer s H E) (wxF E) k →
      FSs (cxF P w K mg base N qual (defScope st) f cdv A outer s H E) T (wxF E) (defBody st) code) :
    FnG P w K mg base (k + 1) f fd ps (spF K T ps.length (mkFn ps.length N.length code)) := by
  refine fnG_of Fu S (fun vs H Q E h => h.1) fun cdv A outer s H vs Q E hr hg h => ?_
  refine ⟨_, hb cdv A outer s H E (cg_of S hr hg), ?_⟩
  obtain ⟨hn, F, ρ, ws, ih, hh, rs, hp⟩ := h
  have hw : ws.length = ps.length := by rw [rs.length, hn]
  have hm : mkFn ps.length N.length code ws ih = match code (ws.map some ++ List.replicate (N.length - ps.length) none) ih with
      | .rt w h => .ok w h
      | .nx _ h => .ok (.d .non) h
      | .ex c p _ h => .ex c p h
      | _ => .no := by unfold mkFn; rw [if_pos hw] <;> rfl
  rw [hm] at hp
  refine ⟨F, ρ, ws.map some ++ List.replicate (N.length - ps.length) none, ih, hh, ?_, ?_⟩
  · have := RE.start rs (N.length - ps.length)
    unfold L2.start
    rw [hn]
    exact this
  cases e : code (ws.map some ++ List.replicate (N.length - ps.length) none) ih with
  | no => rw [e] at hp; exact hp.elim
  | bk _ _ => rw [e] at hp; exact hp.elim
  | ct _ _ => rw [e] at hp; exact hp.elim
  | nx e2 h2 => rw [e] at hp; exact fun ρ' H' σ' g hr2 re => hp ρ' H' g hr2 _ (.d .non)
  | rt w2 h2 => rw [e] at hp; exact fun ρ' H' v g hr2 rw' => hp ρ' H' g hr2 v rw'
  | ex c p e2 h2 => rw [e] at hp; exact fun ρ' H' σ' cls dx g hr2 re xr => hp ρ' H' cls dx g hr2 xr
end
/-! ### the law -/
def scr (ns : List Int) : W := .d (.lst (ns.map .int))
theorem RpL.scr {K M H} : ∀ ns : List Int, RpL K M H (ns.map .int) (ns.map V.int)
  | [] => .nil
  | n :: ns => .cons (.int n) (RpL.scr ns)
/-- nothing of the written part is a list -/
def NoLst (K : PySem.W.Frag) : Prop := ∀ a o, K.lookup a = some o → o.cls ≠ .type "list"
theorem noLst_of {K : PySem.W.Frag} (h : (K.all fun p => !(p.2.cls == .type "list")) = true) : NoLst K := by
  intro a o e
  have : (a, o) ∈ K := by
    induction K with
    | nil => cases e
    | cons p K ih =>
      obtain ⟨b, q⟩ := p
      rw [List.lookup_cons] at e
      split at e
      · rename_i hb
        cases e
        have := eq_of_beq hb
        subst this
        exact List.mem_cons_self
      · exact List.mem_cons_of_mem _ (ih (by rw [List.all_cons, Bool.and_eq_true] at h; exact h.2) e)
  have := List.all_eq_true.mp h _ this
  simpa using this
theorem callG {P : Program} {w : World} {K : PySem.W.Frag} {mg mb : Str → Option Value} {k : Nat} {fa a : Addr} {fd : FuncData} {x : Str} {T : Tb} {g : Fn} {s : Shared} {vs : List Value} {ns : List Int}
    (KX : K.In s.heap) (nl : NoLst K) (hns : s.heap.Ns mainGlobals mg) (hb : s.heap.Ns builtinsNs mb) (hbb : ∀ x : Str, x ≠ "__name__" → mb x = bootBuiltins x) (hlim : s.heap.NoLimit) (hg : s.gens = #[])
    (ha : s.heap.get? a = some { cls := .type "list", data := .seq vs.toArray }) (hi : IntsAre vs ns) (hl : ns.length ≤ sizeLine) (hr : Room k callerA)
    (F : ∀ base : Heap, K.In base → base.Ns mainGlobals mg → FnG P w K mg base k fa fd [x] (spF K T 1 g)) (hbind : ∀ (s : Shared) (u : Value), BindsTo s fd ⟨[u], []⟩ [(x, u)])
    (hv : ∃ h', g [scr ns] [] = .ok (.d (.bl true)) h') :
    codeAny (model P w) callerA (.call (.ref fa) ⟨[.ref a], []⟩) (fun r s' => r = .ok (.ret (.bool true)) ∧ OldK s.heap s'.heap ∧ s'.os = s.os ∧ AllBare s'.gens) s := by
  have hk : K.lookup a = none := by
    cases e : K.lookup a with
    | none => rfl
    | some o =>
      have := KX a o e
      rw [ha] at this
      cases this
      exact absurd rfl (nl a _ e)
  let ob : Obj := { cls := .type "list", data := .seq vs.toArray }
  let H : Hp := fun b => if b = a then some (.frz ob (.lst (ns.map V.int))) else none
  have hHa : H a = some (.frz ob (.lst (ns.map V.int))) := if_pos rfl
  have hHn : ∀ b, b ≠ a → H b = none := fun b n => if_neg n
  have hok : HOk P w H s.heap := fun b u z => by
    by_cases e : b = a
    · subst e
      rw [hHa] at z
      cases z
      exact ⟨ha, by rw [List.length_map]; exact hl, vs, _, vals_ints hi, ha⟩
    · rw [hHn b e] at z; cases z
  have base_of : ∀ {b : Addr} {o : Obj}, s.heap.get? b = some o → b ≠ a → (hidT s.heap H).get? b = some o := fun e n => hidT_get e (hHn _ n)
  have nsK : ∀ {b : Addr} {m : Str → Option Value}, s.heap.Ns b m → (hidT s.heap H).Ns b m := fun {b m} ⟨o, es, ep, e, d, r⟩ => ⟨o, es, ep, base_of e (fun z => by
    subst z
    rw [ha] at e
    cases e
    have d' : Data.seq vs.toArray _ = Data.dict es ep := d
    cases d'), d, r⟩
  have hKb : K.In (hidT s.heap H) := fun b o e => base_of (KX b o e) fun z => by
    subst z
    rw [hk] at e
    cases e
  have hM : L2.Mod K mg (hidT s.heap H) := ⟨hKb, nsK hns, ⟨mb, nsK hb, hbb⟩, let ⟨mc, h1, h2⟩ := hlim; ⟨mc, nsK h1, h2⟩⟩
  have e0 : Env0 P w K mg (hidT s.heap H) callerA [] s H := ⟨rfl, hM, fun b o e => of_hidT e, Nat.le_of_eq (hidT_size _ _), trivial, fun b hb => absurd (show b ∈ ([] : List Addr) from hb) (by simp), hok, .of_eq hg⟩
  have hsp : spF K T 1 g [.ref a] H (fun v _ => v = .bl true) fun _ _ _ => False := by
    obtain ⟨h', e⟩ := hv
    refine ⟨rfl, [], [], [scr ns], [], ⟨rfl, List.nodup_nil, fun a m => absurd m (by simp), fun a m => absurd m (by simp), fun n o q => by simp at q, fun a m => absurd m (by simp)⟩, ?_, ?_⟩
    · refine .cons (.d (.lst ⟨.inr ⟨ob, hHa⟩, by simp⟩ (by rw [List.length_map]; exact hl) (RpL.scr ns))) .nil
    · rw [e]
      intro ρ' H' _ _ v r
      cases r with | d r => cases r; rfl
  refine codeAny_mono ((F _ hKb (nsK hns)).run callerA [] s H ⟨[.ref a], []⟩ [.ref a] [.ref a] _ _ hr rfl e0 (hbind s (.ref a)) (.cons rfl .nil) hsp) fun r s' h => ?_
  cases r with
  | error e =>
    obtain ⟨_, _, _, _, _, _, _, _, _, _, _, _, h⟩ := h
    exact h.elim
  | ok fl =>
    cases fl with
    | next => exact False.elim h
    | brk => exact False.elim h
    | cont => exact False.elim h
    | ret u =>
      obtain ⟨v, H', os, bare, un, hok', r', q⟩ := h
      have q' : v = .bl true := q
      subst q'
      obtain rfl : u = Value.bool true := r'
      refine ⟨rfl, OldK.of_keep fun b o e => ?_, os, bare⟩
      by_cases z : b = a
      · subst z
        have z2 := un.frzs b ob _ hHa
        obtain ⟨e1, _⟩ := hok b _ hHa
        obtain ⟨e2, _⟩ := hok' b _ z2
        rw [e] at e1
        cases e1
        exact e2
      · exact un.keep b o e (hHn b z) (by intro z; exact absurd (show b ∈ ([] : List Addr) from z) (by simp)) (by simp)

theorem walkG {l : PySem.W.OpenLaw} {n k : Nat} {q : Program} {loose : List Str} {XP : (Str → Option Value) → Heap → Prop} {YP : World → Heap → Prop} {d : DefRec} {K : Params → PySem.W.Frag} {x : Str} {g : Fn}
    (hn : l.most = some n) (hn2 : n ≤ sizeLine) (hdf : d.params.defaults = []) (hr : Room k callerA)
    (hY : ∀ (w : World) (h : Heap), YP w h → (K w.params).In h) (nl : ∀ w : World, NoLst (K w.params))
    (F : ∀ (w : World) (mg : Str → Option Value) (fa : Addr) (h : Heap), (K w.params).In h → h.Ns mainGlobals mg → mg d.name = some (.ref fa) →
      ∃ (fd : FuncData) (T : Tb), (∀ (s : Shared) (u : Value), BindsTo s fd ⟨[u], []⟩ [(x, u)]) ∧
        ∀ base : Heap, (K w.params).In base → base.Ns mainGlobals mg → FnG l.prog w (K w.params) mg base k fa fd [x] (spF (K w.params) T 1 g))
    (hv : ∀ ns : List Int, ns.length ≤ n → (∀ z ∈ ns, Builtin.Int.intBits z ≤ 1048576) → ∃ h', g [scr ns] [] = .ok (.d (.bl true)) h') :
    PySem.W.WalkO q loose XP YP l.row.toRowW d [] (fun f vs => PySem.call f vs) := by
  refine Att.attach_callB hn hdf fun w s₀ s₁ mg mb fa o pm cd doc a vs ns G Y ho hd hcd hmg hobj hints hlen hbits hg => ?_
  have KX := hY w _ Y
  obtain ⟨fd, T, hb, hF⟩ := F w mg fa _ KX G.T.g hmg
  exact callG KX (nl w) G.T.g G.T.b G.T.builtins G.T.nolimit hg hobj hints (Nat.le_trans hlen hn2) hr hF hb (hv ns hlen hbits)
end Fz
set_option Elab.async false
set_option linter.all false
set_option maxRecDepth 100000
set_option maxHeartbeats 2000000
/-! Fz: the judgements' rules, their premises filled by rfl. -/
namespace Fz
open PySem PySem.W L2 PyProof.Rows

/-- what stands at a def's name -/
structure Inf (K : PySem.W.Frag) (mg : Str → Option Value) (x : Str) (f : Addr) (fd : FuncData) (ps : List Str) : Prop where
  mg : mg x = some (.ref f)
  kp : PySem.W.keepIn K (.ref f) = true
  bn : Binds K fd ps []
section
variable {X : Cx} {T : Tb} {Wx : WX} {k : Nat}
theorem Cg.hu (G : Cg X Wx k) : X.A.units + 66 < cLine := by have := G.room.un; omega
theorem Cg.hu1 (G : Cg X Wx k) : X.A.units + 1 < cLine := by have := G.room.un; omega
theorem Cg.hu64 (G : Cg X Wx k) : X.A.units + 64 < cLine := by have := G.room.un; omega
theorem Cg.hu65 (G : Cg X Wx k) : X.A.units + 65 < cLine := by have := G.room.un; omega
theorem Cg.mono {j : Nat} (G : Cg X Wx k) (h : j ≤ k) : Cg X Wx j := ⟨G.calm, G.room.mono h, G.gd, G.tk, G.nd, G.po⟩
/-- within a comprehension -/
theorem Cg.blk (G : Cg X Wx k) (s : Shared) (H : Hp) (scope : Scope) (cenv : Env) (fp : List Addr) : Cg (X.blk s H scope cenv fp) W0 k where
  calm := G.calm
  room := G.room
  gd := G.gd
  tk := fun u s' ⟨a, B, sI, pins, σ, H, cls, d, e, I, nb, up, sky, na, os, ag, w⟩ => w
  nd := G.nd
  po := PassesOwn.never
variable {e a b c o : Expr} {es : List Expr} {ca cb cd co : Cd} {aa : Ca} {pos p p1 p2 apos cpos : Pos} {x y z : Str} {i j l m n : Nat}
theorem e_v (i : Nat) (hN : X.N[i]? = some x := by rfl) (hv : Vis X.env.scope x := by first | exact Or.inl rfl | exact Or.inr (Or.inl rfl) | exact Or.inr (Or.inr rfl)) (hd : (x == ("__debug__" : Str)) = false := by decide)
    (hcd : (x == ("__classdict__" : Str)) = false := by decide) : FE X T Wx (.Name x pos) (cv i) := fe_v (pe_var hN hv hd hcd)
theorem e_int {i : Int} {j : Nat} : FE X T Wx (.Constant (.int i) j pos) (cc (.int i)) := fe_c (.int i) pe_int
theorem e_bl {b : Bool} {j : Nat} : FE X T Wx (.Constant (.bool b) j pos) (cc (.bl b)) := fe_c (.bl b) pe_bl
theorem e_non {j : Nat} : FE X T Wx (.Constant .none j pos) (cc .non) := fe_c .non pe_non
theorem e_str {j : Nat} (l : List Nat) (h : toStr l = x) (z : l.length ≤ sizeLine) : FE X T Wx (.Constant (.str x) j pos) (cc (.str l)) := by
  subst h
  exact fe_c (.str l z) pe_str
theorem e_add (m : Bool) (ha : FE X T Wx a ca) (hb : FE X T Wx b cb) : FE X T Wx (.BinOp a .Add b pos) (c2 (opAdd m) ca cb) := fe_op opr_add fop_add ha hb
theorem e_sub (ha : FE X T Wx a ca) (hb : FE X T Wx b cb) : FE X T Wx (.BinOp a .Sub b pos) (c2 opSub ca cb) := fe_op op_sub fop_sub ha hb
theorem e_mul (m : Bool) (ha : FE X T Wx a ca) (hb : FE X T Wx b cb) : FE X T Wx (.BinOp a .Mult b pos) (c2 (opMul m) ca cb) := fe_op opr_mul fop_mul ha hb
theorem e_fdiv (ha : FE X T Wx a ca) (hb : FE X T Wx b cb) : FE X T Wx (.BinOp a .FloorDiv b pos) (c2 opFdiv ca cb) := fe_op op_fdiv fop_fdiv ha hb
theorem e_mod (ha : FE X T Wx a ca) (hb : FE X T Wx b cb) : FE X T Wx (.BinOp a .Mod b pos) (c2 opMod ca cb) := fe_op op_mod fop_mod ha hb
theorem e_pow (ha : FE X T Wx a ca) (hb : FE X T Wx b cb) : FE X T Wx (.BinOp a .Pow b pos) (c2 opPow ca cb) := fe_op op_pow fop_pow ha hb
def opNeg (x : W) (h : Hh) : R W := match x with
  | .d (.int i) => .ok (.d (.int (-i))) h
  | _ => .no
theorem fun_neg {K : PySem.W.Frag} {T : Tb} : FUn K T opNeg (rU fun i => .int (-i)) := by
  intro Wx σ F ρ ih H x v1 Q hr r1 hp
  unfold opNeg at hp
  split at hp
  · cases r1 with | d r1 => cases r1; exact ⟨_, rfl, hp.ok hr _ (.d (.int _))⟩
  · exact hp.elim
theorem e_neg (ha : FE X T Wx a ca) : FE X T Wx (.UnaryOp .USub a pos) (c1 opNeg ca) := fe_un un_neg fun_neg ha
/-- comparisons: o the operator, op its function -/
structure Cmp (X : Cx) (T : Tb) (o : CmpOp) (op : W → W → Hh → R W) : Prop where
  ex : ∃ r : R2, OpR X (compareOp o) r ∧ FOp X.K T op r
theorem k_eq (G : Cg X Wx k) : Cmp X T .Eq (opEq false) := ⟨_, op_eqD G.hu64, fop_eq⟩
theorem k_ne (G : Cg X Wx k) : Cmp X T .NotEq (opEq true) := ⟨_, op_neD G.hu64, fop_ne⟩
theorem k_eqS : Cmp X T .Eq opEqS := ⟨_, op_eq, fop_eqS⟩
theorem k_lt : Cmp X T .Lt opLt := ⟨_, op_lt, fop_C⟩
theorem k_le : Cmp X T .LtE opLe := ⟨_, op_le, fop_C⟩
theorem k_gt : Cmp X T .Gt opGt := ⟨_, op_gt, fop_C⟩
theorem k_ge : Cmp X T .GtE opGe := ⟨_, op_ge, fop_C⟩
theorem k_in (G : Cg X Wx k) : Cmp X T .In (opIn false) := ⟨_, opr_in G.hu65, fop_in⟩
theorem k_nin (G : Cg X Wx k) : Cmp X T .NotIn (opIn true) := ⟨_, opr_notin G.hu65, fop_in⟩
theorem k_isN : Cmp X T .Is (opNone false) := ⟨_, op_isN, fop_isN⟩
theorem k_notN : Cmp X T .IsNot (opNone true) := ⟨_, op_notN, fop_notN⟩
theorem e_cmp {o : CmpOp} {op : W → W → Hh → R W} (hc : Cmp X T o op) (ha : FE X T Wx a ca) (hb : FE X T Wx b cb) (hm : behindInMarks o b = false := by rfl) : FE X T Wx (.Compare a [o] [b] pos) (c2 op ca cb) := by
  obtain ⟨r, h1, h2⟩ := hc.ex
  exact fe_cmp h1 h2 hm ha hb
def bC (op : W → W → Hh → R W) (ca cb : Cd) : Cb := fun e h => asB (c2 op ca cb e h)
theorem t_cmp {o : CmpOp} {op : W → W → Hh → R W} (hc : Cmp X T o op) (ha : FE X T Wx a ca) (hb : FE X T Wx b cb) (hm : behindInMarks o b = false := by rfl) : FT' X T Wx (.Compare a [o] [b] pos) (bC op ca cb) := by
  obtain ⟨r, h1, h2⟩ := hc.ex
  exact ft_cmp h1 h2 hm ha hb
theorem e_ch {o o' : CmpOp} {op op' : W → W → Hh → R W} (h1 : Cmp X T o op) (h2 : Cmp X T o' op') (ha : FE X T Wx a ca) (hb : FE X T Wx b cb) (hc : FE X T Wx c cd) (hm : lastMarks [o, o'] [b, c] = false := by rfl) : FE X T Wx (.Compare a [o, o'] [b, c] pos) (cch op op' ca cb cd) := by
  obtain ⟨r, a1, a2⟩ := h1.ex
  obtain ⟨r', b1, b2⟩ := h2.ex
  exact fe_chain a1 a2 b1 b2 hm ha hb hc
def bCh (op op' : W → W → Hh → R W) (ca cb cd : Cd) : Cb := fun e h => asB (cch op op' ca cb cd e h)
theorem t_ch {o o' : CmpOp} {op op' : W → W → Hh → R W} (h1 : Cmp X T o op) (h2 : Cmp X T o' op') (ha : FE X T Wx a ca) (hb : FE X T Wx b cb) (hc : FE X T Wx c cd) (hm : lastMarks [o, o'] [b, c] = false := by rfl) : FT' X T Wx (.Compare a [o, o'] [b, c] pos) (bCh op op' ca cb cd) := by
  obtain ⟨r, a1, a2⟩ := h1.ex
  obtain ⟨r', b1, b2⟩ := h2.ex
  exact ft_chain a1 a2 b1 b2 hm ha hb hc
theorem e_din (neg : Bool) (G : Cg X Wx k) (ha : FE X T Wx a ca) (hb : FE X T Wx b cb) (hm : behindInMarks .In b = false := by rfl) : FE X T Wx (.Compare a [.In] [b] pos) (c2 (opDin false) ca cb) := fe_din G.hu1 hm ha hb
theorem e_dnin (G : Cg X Wx k) (ha : FE X T Wx a ca) (hb : FE X T Wx b cb) (hm : behindInMarks .NotIn b = false := by rfl) : FE X T Wx (.Compare a [.NotIn] [b] pos) (c2 (opDin true) ca cb) := fe_dnin G.hu1 hm ha hb
theorem t_din (G : Cg X Wx k) (ha : FE X T Wx a ca) (hb : FE X T Wx b cb) (hm : behindInMarks .In b = false := by rfl) : FT' X T Wx (.Compare a [.In] [b] pos) (bC (opDin false) ca cb) := ft_din G.hu1 hm ha hb
theorem t_dnin (G : Cg X Wx k) (ha : FE X T Wx a ca) (hb : FE X T Wx b cb) (hm : behindInMarks .NotIn b = false := by rfl) : FT' X T Wx (.Compare a [.NotIn] [b] pos) (bC (opDin true) ca cb) := ft_dnin G.hu1 hm ha hb
theorem t_tru (h : FE X T Wx e ca) (he : ∀ whole, isTrue e X.env whole = (do let v ← whole; standAt e.pos; holding [v] (truthy v)) := by intro _; rfl) : FT' X T Wx e (cT ca) := ft_truth he h
theorem a_cons (h : FE X T Wx e ca) (hr : FA X T Wx es aa) (hs : starEach (e :: es) X.env = (false, eval e X.env) :: starEach es X.env := by rfl) : FA X T Wx (e :: es) (aCons ca aa) := fa_cons hs h hr
theorem e_ix (ha : FE X T Wx a ca) (hb : FE X T Wx b cb) (hs : PlainIx b := by intro _ _; rfl) : FE X T Wx (.Subscript a b pos) (c2 opIx ca cb) := fe_ix hs ha hb
theorem e_dx (G : Cg X Wx k) (ha : FE X T Wx a ca) (hb : FE X T Wx b cb) (hs : NoSl b := by intro _ _; rfl) : FE X T Wx (.Subscript a b pos) (c2 opDx ca cb) := fe_dx G.hu1 hs ha hb
/-! calls -/
theorem e_call (pu : Bool) {f : Addr} {fd : FuncData} {ps : List Str} {g : Fn} (G : Cg X Wx (k + 1)) (F : FnG X.prog X.w X.K X.mg X.base k f fd ps (spF X.K T n g)) (I : Inf X.K X.mg x f fd ps) (ha : FA X T Wx (e :: es) aa) (hg : Gl X x := by rfl)
    (hdb : (x == ("__debug__" : Str)) = false := by decide) (he : starEach (e :: es) X.env = (false, eval e X.env) :: starEach es X.env := by rfl) (hpl : (backTo pos (starEach es X.env)).any (·.1) = false := by rfl) :
    FE X T Wx (.Call (.Name x p) (e :: es) [] pos) (cCall pu n g aa) := fe_call (G.mono (Nat.le_succ k)) F hg I.mg I.kp I.bn hdb he hpl ha
theorem e_call0 (pu : Bool) {f : Addr} {fd : FuncData} {ps : List Str} {g : Fn} (G : Cg X Wx (k + 1)) (F : FnG X.prog X.w X.K X.mg X.base k f fd ps (spF X.K T n g)) (I : Inf X.K X.mg x f fd ps) (hg : Gl X x := by rfl)
    (hdb : (x == ("__debug__" : Str)) = false := by decide) : FE X T Wx (.Call (.Name x p) [] [] pos) (cCall pu n g aNil) := fe_call0 (G.mono (Nat.le_succ k)) F hg I.mg I.kp I.bn hdb
/-- a built-in function of a name -/
structure Bi (X : Cx) (T : Tb) (x : Str) (op : List W → Hh → R W) : Prop where
  ex : (∃ (id : String) (r : List V → Hp → VK → Prop), CallR X (.builtin id) r ∧ FCl X.K T op r ∧ bootBuiltins x = some (.builtin id)) ∨ ∃ (id : String) (r : List V → Hp → VK → Prop), CallR X (.type id) r ∧ FCl X.K T op r ∧ bootBuiltins x = some (.type id)
  nn : x ≠ "__name__"
  nd : (x == ("__debug__" : Str)) = false
theorem u_len : Bi X T "len" biLen := ⟨.inl ⟨_, _, cr_len, fc_len, by decide +kernel⟩, by decide, by decide⟩
theorem u_abs : Bi X T "abs" biAbs := ⟨.inl ⟨_, _, call_abs, fc_abs, by decide +kernel⟩, by decide, by decide⟩
theorem u_int : Bi X T "int" biInt := ⟨.inr ⟨_, _, call_int1, fc_int, by decide +kernel⟩, by decide, by decide⟩
theorem u_list (m : Bool) : Bi X T "list" (biList m) := ⟨.inr ⟨_, _, call_list_of, fc_list, by decide +kernel⟩, by decide, by decide⟩
theorem u_tuple : Bi X T "tuple" biTuple := ⟨.inr ⟨_, _, call_tuple_of, fc_tuple, by decide +kernel⟩, by decide, by decide⟩
theorem u_all (G : Cg X Wx k) : Bi X T "all" biAll := ⟨.inl ⟨_, _, cr_all G.calm, fc_all, by decide +kernel⟩, by decide, by decide⟩
theorem u_any (G : Cg X Wx k) : Bi X T "any" biAny := ⟨.inl ⟨_, _, cr_any G.calm, fc_any, by decide +kernel⟩, by decide, by decide⟩
theorem u_max (G : Cg X Wx k) : Bi X T "max" biMax := ⟨.inl ⟨_, _, cr_max G.calm, fc_max, by decide +kernel⟩, by decide, by decide⟩
theorem u_min (G : Cg X Wx k) : Bi X T "min" biMin := ⟨.inl ⟨_, _, cr_min G.calm, fc_min, by decide +kernel⟩, by decide, by decide⟩
theorem u_sum (G : Cg X Wx k) : Bi X T "sum" biSum := ⟨.inl ⟨_, _, cr_sum G.calm, fc_sum, by decide +kernel⟩, by decide, by decide⟩
theorem u_max2 (G : Cg X Wx k) : Bi X T "max" biMax2 := ⟨.inl ⟨_, _, call_max2 G.calm, fc_max2, by decide +kernel⟩, by decide, by decide⟩
theorem u_sort (m : Bool) (G : Cg X Wx k) : Bi X T "sorted" (biSort m) := ⟨.inl ⟨_, _, cr_sortD G.hu, fc_sort, by decide +kernel⟩, by decide, by decide⟩
theorem u_repr (G : Cg X Wx k) : Bi X T "repr" biRepr := ⟨.inl ⟨_, _, cr_repr G.gd G.hu64, fc_repr, by decide +kernel⟩, by decide, by decide⟩
theorem e_bi {op : List W → Hh → R W} (B : Bi X T x op) (hm : X.mg x = none) (ha : FA X T Wx (e :: es) aa) (hg : Gl X x := by rfl) (he : starEach (e :: es) X.env = (false, eval e X.env) :: starEach es X.env := by rfl)
    (hpl : (backTo pos (starEach es X.env)).any (·.1) = false := by rfl) : FE X T Wx (.Call (.Name x p) (e :: es) [] pos) (cCl op aa) := by
  rcases B.ex with ⟨id, r, h1, h2, h3⟩ | ⟨id, r, h1, h2, h3⟩
  · exact fe_bi h1 h2 hg hm h3 B.nn B.nd he hpl ha
  · exact fe_ty h1 h2 hg hm h3 B.nn B.nd he hpl ha
theorem e_isi (t : Ty) (hm : X.mg "isinstance" = none) (hmt : X.mg t.nm = none) (h : FE X T Wx e ca) (hy : Str.ofString t.nm = y := by rfl) (hg : Gl X "isinstance" := by rfl) (hgt : Gl X t.nm := by rfl)
    (he : starEach (e :: [.Name t.nm p2]) X.env = (false, eval e X.env) :: starEach [.Name t.nm p2] X.env := by rfl) (he2 : starEach [.Name t.nm p2] X.env = (false, eval (.Name t.nm p2) X.env) :: starEach [] X.env := by rfl)
    (hpl : (backTo pos (starEach [.Name t.nm p2] X.env)).any (·.1) = false := by rfl) : FE X T Wx (.Call (.Name "isinstance" p) [e, .Name y p2] [] pos) (cIsi t ca) := by
  subst hy
  refine fe_isi hg hm (by decide +kernel) (by decide) (by decide) ?_ he he2 hpl h
  cases t
  · exact pe_bltn (u := .type "int") hgt hmt (by decide +kernel) rfl (by decide) (by decide)
  · exact pe_bltn (u := .type "bool") hgt hmt (by decide +kernel) rfl (by decide) (by decide)
  · exact pe_bltn (u := .type "str") hgt hmt (by decide +kernel) rfl (by decide) (by decide)
  · exact pe_bltn (u := .type "tuple") hgt hmt (by decide +kernel) rfl (by decide) (by decide)
  · exact pe_bltn (u := .type "list") hgt hmt (by decide +kernel) rfl (by decide) (by decide)
/-! slices -/
theorem e_lr1 (m : Bool) {q pos1 : Pos} (G : Cg X Wx k) (hml : X.mg "list" = none) (hm : X.mg "range" = none) (ha : FE X T Wx a ca) (hl : Gl X "list" := by rfl) (hg : Gl X "range" := by rfl)
    (na : starEach [Expr.Call (.Name "range" p) [a] [] pos] X.env = (false, eval (Expr.Call (.Name "range" p) [a] [] pos) X.env) :: starEach [] X.env := by rfl) (na2 : starEach [a] X.env = (false, eval a X.env) :: starEach [] X.env := by rfl) :
    FE X T Wx (.Call (.Name "list" q) [.Call (.Name "range" p) [a] [] pos] [] pos1) (cLr m (aCons ca aNil)) := fe_lr1 G.calm hl hml hg hm na na2 ha
theorem e_lr2 (m : Bool) {q pos1 : Pos} (G : Cg X Wx k) (hml : X.mg "list" = none) (hm : X.mg "range" = none) (ha : FE X T Wx a ca) (hb : FE X T Wx b cb) (hl : Gl X "list" := by rfl) (hg : Gl X "range" := by rfl)
    (na : starEach [Expr.Call (.Name "range" p) [a, b] [] pos] X.env = (false, eval (Expr.Call (.Name "range" p) [a, b] [] pos) X.env) :: starEach [] X.env := by rfl) (na2 : starEach [a, b] X.env = (false, eval a X.env) :: starEach [b] X.env := by rfl)
    (nb : starEach [b] X.env = (false, eval b X.env) :: starEach [] X.env := by rfl) (hpl : (backTo pos (starEach [b] X.env)).any (·.1) = false := by rfl) :
    FE X T Wx (.Call (.Name "list" q) [.Call (.Name "range" p) [a, b] [] pos] [] pos1) (cLr m (aCons ca (aCons cb aNil))) := fe_lr2 G.calm hl hml hg hm na na2 nb hpl ha hb
/-! methods of lists -/
structure Lm (X : Cx) (T : Tb) (name : Str) (op : W → List W → Hh → R W) : Prop where
  ex : ∃ (id : String) (r : V → List V → Hp → VK → Prop), Slot "list" name id ∧ typeOf (.builtin id) = pure (.type "method_descriptor") ∧ MtR X id r ∧ FMt X.K T op r
theorem l_append : Lm X T "append" mAppend := ⟨_, _, PySem.F.slot_list_append, PySem.F.type_list_append, mt_append, fm_append⟩
theorem l_extend : Lm X T "extend" mExtend := ⟨_, _, PySem.F.slot_list_extend, PySem.F.type_list_extend, mt_extR, fm_extend⟩
theorem l_index (G : Cg X Wx k) : Lm X T "index" mIndex := ⟨_, _, PySem.F.slot_list_index, PySem.F.type_list_index, mt_indexD G.hu65, fm_index⟩
theorem l_pop : Lm X T "pop" mPop := ⟨_, _, PySem.F.slot_list_pop, PySem.F.type_list_pop, mt_pop, fm_pop⟩
theorem e_lm {op : W → List W → Hh → R W} (L : Lm X T x op) (ho : FE X T Wx o co) (ha : FA X T Wx (e :: es) aa) (hbase : attributeBase o x X.env (eval o X.env) = eval o X.env := by rfl)
    (hfew : ((backTo cpos (starEach (e :: es) X.env)).all (fun x => !x.1) && (backToKw cpos (keywordEach [] X.env)).all (fun x => x.1.isSome)
      && decide ((e :: es).length + ([] : List Keyword).length + (if ([] : List Keyword).isEmpty then 0 else 1) < 30)) = true := by rfl)
    (hline : (apos.endLine == cpos.line) = true := by rfl) (hs : starEach (e :: es) X.env = (false, eval e X.env) :: starEach es X.env := by rfl) (hplain : (backTo cpos (starEach es X.env)).any (·.1) = false := by rfl) :
    FE X T Wx (.Call (.Attribute o x apos) (e :: es) [] cpos) (cLm op co aa) := by
  obtain ⟨id, r, h1, h2, h3, h4⟩ := L.ex
  exact fe_lm h1 h2 h3 h4 hbase hfew hline hs hplain ho ha
theorem e_lm0 {op : W → List W → Hh → R W} (L : Lm X T x op) (ho : FE X T Wx o co) (hbase : attributeBase o x X.env (eval o X.env) = eval o X.env := by rfl)
    (hline : (apos.endLine == cpos.line) = true := by rfl) : FE X T Wx (.Call (.Attribute o x apos) [] [] cpos) (cLm op co aNil) := by
  obtain ⟨id, r, h1, h2, h3, h4⟩ := L.ex
  exact fe_lm0 h1 h2 h3 h4 hbase hline ho
/-! comprehensions, loops -/
theorem g_n (i : Nat) (G : Cg X Wx k) (hi : X.N[i]? = some x := by rfl) (hx : Loc X.env.scope x := by first | exact .inl rfl | exact .inr rfl) (hf : X.fn x = true ∨ X.env.scope.names.lookup x = some .local := by first | exact .inl rfl | exact .inr rfl) :
    FG X T (.Name x pos) [i] (tN i) := fg_n (pg_name G.nd hi hx hf)
theorem gs_cons {tg : Expr} {tgs : List Expr} {is js : List Nat} {ta : Ct} {tb : Cts} (h1 : FG X T tg is ta) (h2 : FGs X T tgs js tb) (hs : (assignEach (tg :: tgs) X.env).map (·.2) = assign tg X.env :: (assignEach tgs X.env).map (·.2) := by rfl) : FGs X T (tg :: tgs) (is ++ js) (tCns ta tb) := fgs_cons hs h1 h2
theorem g_t (G : Cg X Wx k) {tgs : List Expr} {is : List Nat} {tb : Cts} (ln : Len tb n) (h : FGs X T tgs is tb) (hn : (assignEach tgs X.env).length = n := by rfl) (hst : (assignEach tgs X.env).findIdx? (·.1) = none := by rfl) : FG X T (.Tuple tgs j pos) is (tTp tb) := fg_t G.calm ln hn hst h
theorem g_l (G : Cg X Wx k) {tgs : List Expr} {is : List Nat} {tb : Cts} (ln : Len tb n) (h : FGs X T tgs is tb) (hn : (assignEach tgs X.env).length = n := by rfl) (hst : (assignEach tgs X.env).findIdx? (·.1) = none := by rfl) : FG X T (.Tuple tgs j pos) is (tLs tb) := fg_l G.calm ln hn hst h
theorem y_t (G : Cg X Wx k) {tgs : List Expr} {is : List Nat} {tb : Cts} (ln : Len tb n) (h : FGs X T tgs is tb) (hn : (assignEach tgs X.env).length = n := by rfl) (hst : (assignEach tgs X.env).findIdx? (·.1) = none := by rfl) : FY X T (.Tuple tgs j pos) is (yT tb) := fy_t G.calm ln hn hst h
variable {tg iter elt : Expr} {ifs : List Expr}
theorem i_r1 (hm : X.mg "range" = none) (ha : FE X T Wx a ca) (hg : Gl X "range" := by rfl) (hs : starEach [a] X.env = [(false, eval a X.env)] := by rfl) (hc : starEach [a] X.env = (false, eval a X.env) :: starEach [] X.env := by rfl) :
    FI X T Wx tg (.Call (.Name "range" p) [a] [] pos) (cR1 (aCons ca aNil)) := fi_r1 (fun _ h => pi_range1 hg hm h hs) (fa_cons hc ha fa_nil)
theorem i_r2 (hm : X.mg "range" = none) (ha : FE X T Wx a ca) (hb : FE X T Wx b cb) (hg : Gl X "range" := by rfl) (hs : starEach [a, b] X.env = [(false, eval a X.env), (false, eval b X.env)] := by rfl) (hs2 : starEach [b] X.env = [(false, eval b X.env)] := by rfl)
    (hc : starEach [a, b] X.env = (false, eval a X.env) :: starEach [b] X.env := by rfl) (hc2 : starEach [b] X.env = (false, eval b X.env) :: starEach [] X.env := by rfl) :
    FI X T Wx tg (.Call (.Name "range" p) [a, b] [] pos) (cR2 (aCons ca (aCons cb aNil))) := fi_r2 (fun _ h => pi_range2 hg hm h hs hs2) (fa_cons hc ha (fa_cons hc2 hb fa_nil))
theorem e_lc (mt : Bool) {scope : Scope} (own : List (Str × Nat)) {is : List Nat} {ci : Ci} {t : Cy} {q : Cb} (G : Cg X Wx k) (ok : blkC X.N X.env.scope scope own = true) (his : ∀ j ∈ is, j ∈ own.map (·.2)) (hi : FI X T Wx tg iter ci)
    (hg : ∀ (s : Shared) (H : Hp) (C : Addr) (cl : List (Str × Addr)) (fp : List Addr), Cg (X.blk s H scope (compEnvC scope cl C X.env) fp) W0 k → FY (X.blk s H scope (compEnvC scope cl C X.env) fp) T tg is t)
    (ht : ∀ (s : Shared) (H : Hp) (C : Addr) (cl : List (Str × Addr)) (fp : List Addr), Cg (X.blk s H scope (compEnvC scope cl C X.env) fp) W0 k → FTs (X.blk s H scope (compEnvC scope cl C X.env) fp) T W0 ifs q)
    (he : ∀ (s : Shared) (H : Hp) (C : Addr) (cl : List (Str × Addr)) (fp : List Addr), Cg (X.blk s H scope (compEnvC scope cl C X.env) fp) W0 k → FE (X.blk s H scope (compEnvC scope cl C X.env) fp) T W0 elt ca) (hs : ∀ x, foldedSetIterable iter X.env x = pure x := by intro _; rfl) :
    FE X T Wx (.ListComp elt [⟨tg, iter, ifs, 0⟩] scope pos) (cLc mt (own.map (·.2)) ci t q ca) := fe_lc G.calm G.nd (blkOk_by ok) his hs hi (fun s H C cl fp => hg s H C cl fp (G.blk s H _ _ fp)) (fun s H C cl fp => ht s H C cl fp (G.blk s H _ _ fp)) (fun s H C cl fp => he s H C cl fp (G.blk s H _ _ fp))
theorem s_setLc (i : Nat) (mt : Bool) {y : Str} {py spos : Pos} {scope : Scope} (own : List (Str × Nat)) {is : List Nat} {ci : Ci} {t : Cy} {q : Cb} (G : Cg X Wx k) (ok : blkC X.N X.env.scope scope own = true) (his : ∀ j ∈ is, j ∈ own.map (·.2)) (ha : (scope.names.any fun (n, k) => n == y && (k == .local || k == .cell)) = false) (hi : FI X T Wx tg iter ci)
    (hg : ∀ (s : Shared) (H : Hp) (C : Addr) (cl : List (Str × Addr)) (fp : List Addr), Cg (X.blk s H scope (compEnvC scope cl C X.env) fp) W0 k → FY (X.blk s H scope (compEnvC scope cl C X.env) fp) T tg is t)
    (ht : ∀ (s : Shared) (H : Hp) (C : Addr) (cl : List (Str × Addr)) (fp : List Addr), Cg (X.blk s H scope (compEnvC scope cl C X.env) fp) W0 k → FTs (X.blk s H scope (compEnvC scope cl C X.env) fp) T W0 ifs q)
    (he : ∀ (s : Shared) (H : Hp) (C : Addr) (cl : List (Str × Addr)) (fp : List Addr), Cg (X.blk s H scope (compEnvC scope cl C X.env) fp) W0 k → FE (X.blk s H scope (compEnvC scope cl C X.env) fp) T W0 elt ca) (hk : X.env.scope.kind = .function := by rfl) (hy : X.N[i]? = some y := by rfl) (hyl : X.env.scope.names.lookup y = some .local := by rfl) (hl : (py.line == pos.line) = true := by rfl)
    (hs : ∀ x, foldedSetIterable iter X.env x = pure x := by intro _; rfl) :
    FS X T Wx (.Assign [.Name y py] (.ListComp elt [⟨tg, iter, ifs, 0⟩] scope pos) spos) (sAsg (cLc mt (own.map (·.2)) ci t q ca) (tN i)) := fs_setLc G.calm G.nd hy hyl (sw_true hk hyl hl ha) (blkOk_by ok) his hs hi (fun s H C cl fp => hg s H C cl fp (G.blk s H _ _ fp)) (fun s H C cl fp => ht s H C cl fp (G.blk s H _ _ fp)) (fun s H C cl fp => he s H C cl fp (G.blk s H _ _ fp))
/-! statements -/
variable {cs : Cs} {st : Stmt} {sts body : List Stmt}
theorem s_expr (h : FE X T Wx e ca) (hs : swapsWith e none pos.line X.env = pure false := by rfl) : FS X T Wx (.Expr e pos) (sExpr ca) := fs_expr hs h
theorem s_set (i : Nat) (G : Cg X Wx k) (he : FE X T Wx e ca) (hi : X.N[i]? = some x := by rfl) (hx : Loc X.env.scope x := by first | exact .inl rfl | exact .inr rfl) (hs : swapsWith e (some (.Name x p)) pos.line X.env = pure false := by rfl)
    (hf : X.fn x = true ∨ X.env.scope.names.lookup x = some .local := by first | exact .inl rfl | exact .inr rfl) : FS X T Wx (.Assign [.Name x p] e pos) (sAsg ca (tN i)) := fs_set (fun _ h => ps_set G.nd hi hx h hs hf) he
theorem s_asg {is : List Nat} {t : Ct} (he : FE X T Wx e ca) (hg : FG X T tg is t) (hs : swapsWithSole [tg] e pos.line X.env = pure false := by rfl) (hw : swappedStores [tg] e X.env = pure none := by rfl) (h1 : (assignEach [tg] X.env).map (·.2) = [assign tg X.env] := by rfl) :
    FS X T Wx (.Assign [tg] e pos) (sAsg ca t) := fs_asg hs hw h1 he hg
theorem s_par2 (i j : Nat) {px py pt : Pos} {kt k2 : Nat} {pt2 : Pos} (G : Cg X Wx k) (ha : FA X T Wx [a, b] aa) (hi : X.N[i]? = some x := by rfl) (hj : X.N[j]? = some y := by rfl) (hij : i ≠ j := by decide) (hx : X.env.scope.names.lookup x = some .local := by rfl) (hy : X.env.scope.names.lookup y = some .local := by rfl)
    (hw : swappedStores [.Tuple [.Name x px, .Name y py] kt pt] (.Tuple [a, b] k2 pt2) X.env = pure (some [x, y]) := by rfl)
    (hs : swapsWithSole [.Tuple [.Name x px, .Name y py] kt pt] (.Tuple [a, b] k2 pt2) pos.line X.env = pure false := by rfl) :
    FS X T Wx (.Assign [.Tuple [.Name x px, .Name y py] kt pt] (.Tuple [a, b] k2 pt2) pos) (sPar aa (tCns (tN i) (tCns (tN j) Fz.tNil))) := fs_par2 (fun _ h => ps_par G.calm G.nd hi hj hij hx hy h hw hs) ha
theorem s_par3 (i j l : Nat) {px py pz pt : Pos} {kt k2 : Nat} {pt2 : Pos} (G : Cg X Wx k) (ha : FA X T Wx [a, b, c] aa) (hi : X.N[i]? = some x := by rfl) (hj : X.N[j]? = some y := by rfl) (hl : X.N[l]? = some z := by rfl) (hij : i ≠ j := by decide) (hil : i ≠ l := by decide) (hjl : j ≠ l := by decide)
    (hx : X.env.scope.names.lookup x = some .local := by rfl) (hy : X.env.scope.names.lookup y = some .local := by rfl) (hz : X.env.scope.names.lookup z = some .local := by rfl)
    (hw : swappedStores [.Tuple [.Name x px, .Name y py, .Name z pz] kt pt] (.Tuple [a, b, c] k2 pt2) X.env = pure (some [x, y, z]) := by rfl)
    (hs : swapsWithSole [.Tuple [.Name x px, .Name y py, .Name z pz] kt pt] (.Tuple [a, b, c] k2 pt2) pos.line X.env = pure false := by rfl) :
    FS X T Wx (.Assign [.Tuple [.Name x px, .Name y py, .Name z pz] kt pt] (.Tuple [a, b, c] k2 pt2) pos) (sPar aa (tCns (tN i) (tCns (tN j) (tCns (tN l) Fz.tNil)))) :=
  fs_par3 (fun _ h => ps_par3 G.calm G.nd hi hj hl hij hil hjl hx hy hz h hw hs) ha
theorem s_par {es tgs : List Expr} {is : List Nat} {k1 k2 : Nat} {tb : Cts} (G : Cg X Wx k) (ln : Len tb n) (ha : FA X T Wx es aa) (hg : FGs X T tgs is tb) (hz : n ≤ sizeLine := by decide) (hn : (assignEach tgs X.env).length = n := by rfl) (hst : (assignEach tgs X.env).findIdx? (·.1) = none := by rfl)
    (hs : swapsWithSole [.Tuple tgs k1 p1] (.Tuple es k2 p2) pos.line X.env = pure false := by rfl) (hw : swappedStores [.Tuple tgs k1 p1] (.Tuple es k2 p2) X.env = pure none := by rfl)
    (h1 : (assignEach [.Tuple tgs k1 p1] X.env).map (·.2) = [assign (.Tuple tgs k1 p1) X.env] := by rfl) : FS X T Wx (.Assign [.Tuple tgs k1 p1] (.Tuple es k2 p2) pos) (sPar aa tb) := fs_par G.calm ln hn hst hz hs hw h1 ha hg
theorem s_setL {i : Expr} {ci : Cd} {tpos : Pos} (he : FE X T Wx e ca) (ho : FE X T Wx o co) (hi : FE X T Wx i ci) (ha : ∀ v, assign (.Subscript o i tpos) X.env v = (do
      let ov ← holding [v] (eval o X.env)
      let iv ← holding [v, ov] (eval i X.env)
      standAt tpos
      holding [v, ov, iv] (setItem ov iv v)
      release [v, ov, iv] []) := by intro _; rfl)
    (hs : swapsWithSole [.Subscript o i tpos] e pos.line X.env = pure false := by rfl) (hw : swappedStores [.Subscript o i tpos] e X.env = pure none := by rfl) (h1 : (assignEach [.Subscript o i tpos] X.env).map (·.2) = [assign (.Subscript o i tpos) X.env] := by rfl) :
    FS X T Wx (.Assign [.Subscript o i tpos] e pos) (sSet ca co ci) := fs_setL ha hs hw h1 he ho hi
theorem s_setD {i : Expr} {ci : Cd} {tpos : Pos} (G : Cg X Wx k) (he : FE X T Wx e ca) (ho : FE X T Wx o co) (hi : FE X T Wx i ci) (hs : swapsWith e (some (.Subscript o i tpos)) pos.line X.env = pure false := by rfl) :
    FS X T Wx (.Assign [.Subscript o i tpos] e pos) (sDSet ca co ci) := fs_setD G.hu1 hs he ho hi
theorem s_for {is : List Nat} {ci : Ci} {ct : Cy} (G : Cg X Wx k) (hi : FI X T Wx tg iter ci) (ht : FY X T tg is ct) (hb : FSs X T Wx body cs) (hs : ∀ x, foldedSetIterable iter X.env x = pure x := by intro _; rfl) :
    FS X T Wx (.For tg iter body [] pos) (sFor ci ct cs) := fs_for G.po G.calm hs hi ht hb
theorem s_while (n : Nat) {t : Expr} {ct : Cb} (G : Cg X Wx k) (ht : FT' X T Wx t ct) (hb : FSs X T Wx body cs) : FS X T Wx (.While t body [] pos) (sWhile n ct cs) := fs_while G.po ht hb
/-- a global number -/
theorem e_gi (i : Int) (h : ∃ t, X.mg x = some (.int i t)) (hg : Gl X x := by rfl) (hd : (x == ("__debug__" : Str)) = false := by decide) : FE X T Wx (.Name x pos) (cc (.int i)) := by
  obtain ⟨t, h⟩ := h
  exact fe_c (.int i) (pe_glob hg h ⟨t, rfl⟩ hd)
end
def cDK : Cd := fun _ h => .ok (.r h.length) (h ++ [.dk []])
def cDT : Cd := fun _ h => .ok (.r h.length) (h ++ [.dt []])
theorem fn_zero {P : Program} {w : World} {K : PySem.W.Frag} {mg : Str → Option Value} {base : Heap} {k n : Nat} {f : Addr} {fd : FuncData} {ps : List Str} {T : Tb} (hn : ps.length = n := by rfl) : FnG P w K mg base k f fd ps (spF K T n fun _ _ => .no) := by
  refine ⟨fun vs H Q E h => by rw [hn]; exact h.1, fun A outer s H args us vs Q E _ _ _ _ _ h => ?_⟩
  obtain ⟨_, _, _, _, _, _, _, hp⟩ := h
  exact hp.elim
theorem fn_of' {P : Program} {w : World} {K : PySem.W.Frag} {mg : Str → Option Value} {base : Heap} {T : Tb} {k j n m : Nat} {x qual : Str} {st : Stmt} {f : Addr} {fd : FuncData} {N ps : List Str} {code : Cs} {g : Fn} (Fu : Fun K x qual st f fd) (S : FnScope N ps (defScope st))
    (hg : g = mkFn n m code) (hj : j = k + 1) (hn : ps.length = n) (hm : N.length = m)
    (hb : ∀ (cdv : Value) (A : Around) (outer : List Env) (s : Shared) (H : Hp) (E : XK), Cg (cxF P w K mg base N qual (defScope st) f cdv A outer s H E) (wxF E) k →
      FSs (cxF P w K mg base N qual (defScope st) f cdv A outer s H E) T (wxF E) (defBody st) code) :
    FnG P w K mg base j f fd ps (spF K T n g) := by
  subst hg hj hn hm
  exact fn_of Fu S hb
end Fz
set_option Elab.async false
set_option linter.all false
set_option maxRecDepth 100000
set_option maxHeartbeats 2000000
/-! Fz: max, min of data, lists and tuples. -/
namespace Fz
open PySem PySem.W L2 PyProof.Rows

def foldB (lt : PyData → PyData → Bool) (x : PyData) (xs : List PyData) : PyData := xs.foldl (fun a y => if lt a y then y else a) x
theorem foldB_mem {lt : PyData → PyData → Bool} : ∀ {xs : List PyData} {x : PyData}, foldB lt x xs ∈ x :: xs
  | [], x => by simp [foldB]
  | y :: ys, x => by
    have := foldB_mem (lt := lt) (xs := ys) (x := if lt x y then y else x)
    unfold foldB at *
    rw [List.foldl_cons]
    rcases List.mem_cons.mp this with e | e
    · rw [e]; split <;> simp
    · simp [e]
/-- the first best: lt a y says that y is better -/
def rBest (K : PySem.W.Frag) (lt : PyData → PyData → Bool) : List V → Hp → VK → Prop := fun xs H Q => ∃ (a : Addr) (p : V × PyData) (ps : List (V × PyData)), xs = [.ref a] ∧ (SqL K H a ((p :: ps).map (·.1)) ∨ SqT K H a ((p :: ps).map (·.1))) ∧ DpAll K H ((p :: ps).map (·.1)) ((p :: ps).map (·.2)) ∧
  AlikeAll ((p :: ps).map (·.2)) ∧ (∀ q ∈ p :: ps, (q.2 : PyData).depth ≤ 64) ∧ ∀ q ∈ p :: ps, q.2 = foldB lt p.2 (ps.map (·.2)) → Q q.1 H
theorem depthAll_le : ∀ {xs : List PyData} {n : Nat}, (∀ d ∈ xs, d.depth ≤ n) → PyData.depthAll xs ≤ n
  | [], n, _ => by simp [PyData.depthAll]
  | x :: xs, n, h => by
    simp only [PyData.depthAll]
    exact Nat.max_le.mpr ⟨h x (by simp), depthAll_le fun d hd => h d (by simp [hd])⟩
theorem vals_at : ∀ {vs : List V} {us : List Value}, Vals vs us → ∀ {i : Nat} {u : Value}, us[i]? = some u → ∃ v, vs[i]? = some v ∧ RelV v u := by
  intro vs us h
  induction h with
  | nil => intro i u e; simp at e
  | cons a b ih =>
    intro i u e
    cases i with
    | zero => simp at e; subst e; exact ⟨_, rfl, a⟩
    | succ i => simp at e; obtain ⟨v, e1, r⟩ := ih e; exact ⟨v, by simpa using e1, r⟩
theorem dp_at {K : PySem.W.Frag} {H : Hp} : ∀ {vs : List V} {ds : List PyData}, DpAll K H vs ds → ∀ {i : Nat} {v : V} {d : PyData}, vs[i]? = some v → ds[i]? = some d → Dp K H v d
  | [], _, h, i, v, d, e, _ => by simp at e
  | v' :: vs, ds, h, i, v, d, e, e2 => by
    cases h with
    | cons a b =>
      cases i with
      | zero => simp at e e2; subst e e2; exact a
      | succ i => simp at e e2; exact dp_at b e e2
theorem best_fin {X : Cx} {pins : List (Addr × Obj)} {σ : L2.St} {H : Hp} {s : Shared} {Q : VK} {lt : PyData → PyData → Bool} {p : V × PyData} {ps : List (V × PyData)} {its : List Value} (I : L2.Inv X pins σ H s) (rv : Vals ((p :: ps).map (·.1)) its)
    (hd : DpAll X.K H ((p :: ps).map (·.1)) ((p :: ps).map (·.2))) (hal : AlikeAll ((p :: ps).map (·.2))) (q : ∀ q ∈ p :: ps, q.2 = foldB lt p.2 (ps.map (·.2)) → Q q.1 H)
    {i : Nat} {v : Value} {h' : Heap} {tk : Tok} {bs : List Addr} (hi : its.toArray[i]? = some v) (r : Reads h' v (foldB lt p.2 (ps.map (·.2))) bs) (hk : ∀ b o, s.heap.get? b = some o → h'.get? b = some o) : EP X pins σ Q v { s with heap := h', toks := tk } := by
  rw [List.getElem?_toArray] at hi
  obtain ⟨x, hx, rx⟩ := vals_at rv hi
  rw [List.getElem?_map, Option.map_eq_some_iff] at hx
  obtain ⟨y, hy, rfl⟩ := hx
  have hm := List.mem_of_getElem? hy
  have dy : Dp X.K H y.1 y.2 := dp_at hd (i := i) (by rw [List.getElem?_map, hy]; rfl) (by rw [List.getElem?_map, hy]; rfl)
  obtain ⟨as, ry⟩ := Dp.reads I _ _ _ dy rx
  have e : y.2 = foldB lt p.2 (ps.map (·.2)) := alike_unique _ _ v as bs (hal.1 _ (List.mem_map.mpr ⟨y, hm, rfl⟩) _ (by rw [List.map_cons]; exact foldB_mem)) (Reads.keeps hk ry) r
  exact ⟨y.1, H, I.kept hk, rx, q y hm e⟩
section
variable {X : Cx}
theorem cr_minD (hc : X.calm = true) (hu : X.A.units + 66 < cLine) : CallR X (.builtin "min") (rBest X.K fun a y => dataLt y a) := by
  intro pins s σ H xs us Q I r h
  obtain ⟨a, p, ps, rfl, hs, hd, hal, hdp, q⟩ := h
  have e2 : us = [.ref a] := Vals.ref1 r
  subst e2
  have hu2 : X.A.units + 1 + PyData.depthAll ((p :: ps).map (·.2)) < cLine := by
    have := depthAll_le (xs := (p :: ps).map (·.2)) (n := 64) fun d hd => by obtain ⟨y, hy, rfl⟩ := List.mem_map.mp hd; exact hdp y hy
    omega
  rcases hs with hs | hs
  · obtain ⟨its, rv, hl, z⟩ := I.list hs
    obtain ⟨as, rr⟩ := Dp.readsAll I _ _ _ hd rv
    exact min_list_data (I.ok.hd hc) hl.isList (by simpa using rr) (by simpa using hal) (by simpa using hu2) fun i v h' tk bs hi r hk => best_fin I rv hd hal q hi r hk
  · obtain ⟨its, rv, hl, z⟩ := I.tuple hs
    obtain ⟨as, rr⟩ := Dp.readsAll I _ _ _ hd rv
    exact min_tuple_data (I.ok.hd hc) hl (by simpa using rr) (by simpa using hal) (by simpa using hu2) fun i v h' tk bs hi r hk => best_fin I rv hd hal q hi r hk
theorem cr_maxD (hc : X.calm = true) (hu : X.A.units + 66 < cLine) : CallR X (.builtin "max") (rBest X.K dataLt) := by
  intro pins s σ H xs us Q I r h
  obtain ⟨a, p, ps, rfl, hs, hd, hal, hdp, q⟩ := h
  have e2 : us = [.ref a] := Vals.ref1 r
  subst e2
  have hu2 : X.A.units + 1 + PyData.depthAll ((p :: ps).map (·.2)) < cLine := by
    have := depthAll_le (xs := (p :: ps).map (·.2)) (n := 64) fun d hd => by obtain ⟨y, hy, rfl⟩ := List.mem_map.mp hd; exact hdp y hy
    omega
  rcases hs with hs | hs
  · obtain ⟨its, rv, hl, z⟩ := I.list hs
    obtain ⟨as, rr⟩ := Dp.readsAll I _ _ _ hd rv
    exact max_list_data (I.ok.hd hc) hl.isList (by simpa using rr) (by simpa using hal) (by simpa using hu2) fun i v h' tk bs hi r hk => best_fin I rv hd hal q hi r hk
  · obtain ⟨its, rv, hl, z⟩ := I.tuple hs
    obtain ⟨as, rr⟩ := Dp.readsAll I _ _ _ hd rv
    exact max_tuple_data (I.ok.hd hc) hl (by simpa using rr) (by simpa using hal) (by simpa using hu2) fun i v h' tk bs hi r hk => best_fin I rv hd hal q hi r hk
end
def dBest (lt : D → D → Bool) (x : D) (xs : List D) : D := xs.foldl (fun a y => if lt a y then y else a) x
def noNone (l : List D) : Bool := l.all fun d => match d with
  | .non => false
  | _ => true
def biBest (lt : D → D → Bool) (ws : List W) (h : Hh) : R W := match ws with
  | [w] => match (seqW w h).bind allD with
    | some (x :: xs) => if allAl (x :: xs) && noNone (x :: xs) && (x :: xs).all (sh 64) then .ok (.d (dBest lt x xs)) h else .no
    | _ => .no
  | _ => .no
mutual
theorem py_inj : ∀ a b : D, a.py = b.py → a = b
  | .non, b, h => by cases b <;> simp [D.py] at h; rfl
  | .bl x, b, h => by cases b <;> simp [D.py] at h; rw [h]
  | .int x, b, h => by cases b <;> simp [D.py] at h; rw [h]
  | .str x, b, h => by cases b <;> simp [D.py] at h; rw [toStr_inj h]
  | .tup x, b, h => by cases b <;> simp [D.py] at h; rw [pyL_inj _ _ h]
  | .lst x, b, h => by cases b <;> simp [D.py] at h; rw [pyL_inj _ _ h]
theorem pyL_inj : ∀ a b : List D, pyL a = pyL b → a = b
  | [], [], _ => rfl
  | [], y :: ys, h => by simp [pyL] at h
  | x :: xs, [], h => by simp [pyL] at h
  | x :: xs, y :: ys, h => by
    simp only [pyL, List.cons.injEq] at h
    rw [py_inj x y h.1, pyL_inj xs ys h.2]
end
theorem best_py {lt : D → D → Bool} {ltp : PyData → PyData → Bool} {l : List D} (hl : ∀ a ∈ l, ∀ b ∈ l, ltp a.py b.py = lt a b) : ∀ (xs : List D) (x : D), x ∈ l → (∀ y ∈ xs, y ∈ l) → foldB ltp x.py (xs.map D.py) = (dBest lt x xs).py ∧ dBest lt x xs ∈ l
  | [], x, hx, _ => ⟨rfl, hx⟩
  | y :: ys, x, hx, h => by
    have hy := h y (by simp)
    have e : (if ltp x.py y.py then y.py else x.py) = (if lt x y then y else x).py := by rw [hl x hx y hy]; split <;> rfl
    have hm : (if lt x y then y else x) ∈ l := by split <;> assumption
    have ⟨a, b⟩ := best_py hl ys (if lt x y then y else x) hm fun z hz => h z (by simp [hz])
    unfold foldB dBest at *
    rw [List.map_cons, List.foldl_cons, List.foldl_cons, e]
    exact ⟨a, b⟩
theorem fc_best {K : PySem.W.Frag} {T : Tb} {lt : D → D → Bool} {ltp : PyData → PyData → Bool} (hl : ∀ a b : D, D.al a b = true → D.al b a = true → ltp a.py b.py = lt a b) : FCl K T (biBest lt) (rBest K ltp) := by
  intro Wx σ F ρ ih H xs vs Q hr rs hp
  unfold biBest at hp
  split at hp
  · cases rs with | cons r t => cases t with | nil =>
      split at hp
      · rename_i x l e
        rw [Option.bind_eq_some_iff] at e
        obtain ⟨ws, e1, e2⟩ := e
        obtain ⟨a, us, rfl, s, rs, _⟩ := seqW_at hr r e1
        have rl := allD_rp e2 rs
        split at hp
        · rename_i c
          simp only [Bool.and_eq_true] at c
          obtain ⟨⟨c1, c2⟩, c3⟩ := c
          obtain ⟨ps, e3, e4, hps⟩ := rl.zip
          cases ps with
          | nil => cases e3
          | cons p ps =>
            rw [List.map_cons, List.cons.injEq] at e3
            obtain ⟨rfl, rfl⟩ := e3
            subst e4
            have em : ((p :: ps).map fun p => (p.2, p.1.py)).map Prod.fst = (p :: ps).map Prod.snd := by rw [List.map_map]; rfl
            have em2 : ((p :: ps).map fun p => (p.2, p.1.py)).map Prod.snd = pyL ((p :: ps).map Prod.fst) := by rw [List.map_map, pyL_map, List.map_map]; rfl
            let f : D × V → V × PyData := fun p => (p.2, p.1.py)
            refine ⟨a, (p.2, p.1.py), ps.map f, rfl, ?_, ?_, ?_, ?_, ?_⟩
            · rw [← List.map_cons (f := fun p : D × V => (p.2, p.1.py)), em]
              exact s.imp .inl .inl
            · rw [← List.map_cons (f := fun p : D × V => (p.2, p.1.py)), em, em2]
              exact rl.dp
            · rw [← List.map_cons (f := fun p : D × V => (p.2, p.1.py)), em2]
              refine And.intro (fun x hx y hy => allAl_py c1 x hx y hy) fun x hx => ?_
              rw [pyL_map] at hx
              obtain ⟨z, hz, rfl⟩ := List.mem_map.mp hx
              have := List.all_eq_true.mp c2 z hz
              cases z <;> simp at this <;> simp [D.py]
            · intro q hq
              rw [← List.map_cons (f := fun p : D × V => (p.2, p.1.py))] at hq
              obtain ⟨z, hz, rfl⟩ := List.mem_map.mp hq
              have := List.all_eq_true.mp c3 z.1 (List.mem_map.mpr ⟨z, hz, rfl⟩)
              exact (sh_lay 64 _ this).2
            · intro q hq e
              rw [← List.map_cons (f := fun p : D × V => (p.2, p.1.py))] at hq
              obtain ⟨z, hz, rfl⟩ := List.mem_map.mp hq
              have hall : ∀ a ∈ p.1 :: ps.map Prod.fst, ∀ b ∈ p.1 :: ps.map Prod.fst, ltp a.py b.py = lt a b := fun a ha b hb =>
                hl a b (List.all_eq_true.mp (List.all_eq_true.mp c1 a ha) b hb) (List.all_eq_true.mp (List.all_eq_true.mp c1 b hb) a ha)
              have hb := best_py hall (ps.map Prod.fst) p.1 (by simp) fun y hy => List.mem_cons_of_mem _ hy
              have e' : z.1.py = (dBest lt p.1 (ps.map Prod.fst)).py := by
                rw [← hb.1]
                have : (ps.map fun p => (p.2, p.1.py)).map Prod.snd = (ps.map Prod.fst).map D.py := by rw [List.map_map, List.map_map]; rfl
                rw [← this]
                exact e
              have e3 := py_inj _ _ e'
              rw [← e3] at hp
              exact hp.ok hr _ (.d (hps z hz))
        · exact hp.elim
      · exact hp.elim
  · exact hp.elim
abbrev biMaxD := biBest D.lt
abbrev biMinD := biBest fun a y => D.lt y a
section
variable {X : Cx} {T : Tb} {Wx : WX} {k : Nat}
theorem u_maxD (G : Cg X Wx k) : Bi X T "max" biMaxD := ⟨.inl ⟨_, _, cr_maxD G.calm G.hu, fc_best fun a b h _ => lt_py a b h, by decide +kernel⟩, by decide, by decide⟩
theorem u_minD (G : Cg X Wx k) : Bi X T "min" biMinD := ⟨.inl ⟨_, _, cr_minD G.calm G.hu, fc_best fun a b _ h => lt_py b a h, by decide +kernel⟩, by decide, by decide⟩
end
end Fz
set_option Elab.async false
set_option linter.all false
set_option maxRecDepth 100000
set_option maxHeartbeats 2000000
/-! Fz: plain laws of the functions: loops over lists, words for simp. -/
namespace Fz

def forL (t : Cy) (b : Cs) : List Y → Ev → Hh → SR
  | [], e, h => .nx e h
  | y :: ys, e, h => match t y e h with
    | none => .no
    | some e1 => match b e1 h with
      | .nx e2 h2 => forL t b ys e2 h2
      | .ct e2 h2 => forL t b ys e2 h2
      | .bk e2 h2 => .nx e2 h2
      | r => r
theorem loop_fix {l : List Y} {t : Cy} {b : Cs} : ∀ (m i : Nat) (e : Ev) (h : Hh), l.length + 1 = m + i ∨ l.length + 1 < m + i ∧ 0 < m → 0 < m → loop (fixS l) t b m i e h = forL t b (l.drop i) e h
  | 0, i, e, h, hl, hp => absurd hp (by omega)
  | m + 1, i, e, h, hl, hp => by
    unfold loop
    have ef : fixS l h = some l := rfl
    rw [ef]
    dsimp only
    cases hi : l[i]? with
    | none =>
      have := List.getElem?_eq_none_iff.mp hi
      rw [List.drop_eq_nil_of_le this]
      rfl
    | some y =>
      obtain ⟨hlt, hy⟩ := List.getElem?_eq_some_iff.mp hi
      rw [List.drop_eq_getElem_cons hlt, hy]
      dsimp only [forL]
      have rec' : ∀ e2 h2, loop (fixS l) t b m (i + 1) e2 h2 = forL t b (l.drop (i + 1)) e2 h2 := fun e2 h2 => loop_fix m (i + 1) e2 h2 (by omega) (by omega)
      cases t y e h with
      | none => rfl
      | some e1 =>
        dsimp only
        cases b e1 h <;> simp only [rec']
theorem sFor_fix {ci : Ci} {t : Cy} {b : Cs} {e : Ev} {h h' : Hh} {l : List Y} (hc : ci e h = .ok (fixS l) h') : sFor ci t b e h = forL t b l e h' := by
  unfold sFor
  rw [hc, lift_ok]
  have := loop_fix (l := l) (t := t) (b := b) (srcLen (fixS l) h' + 1) 0 e h' (.inl (by simp [srcLen, fixS])) (by omega)
  rw [this, List.drop_zero]
theorem forL_app {t : Cy} {b : Cs} : ∀ (l1 l2 : List Y) (e : Ev) (h : Hh) {e1 : Ev} {h1 : Hh} {r : SR}, forL t b l1 e h = .nx e1 h1 → (∀ y ∈ l1, ∀ e h e2 h2, b e h = .bk e2 h2 → False) → forL t b l2 e1 h1 = r → forL t b (l1 ++ l2) e h = r
  | [], l2, e, h, e1, h1, r, h3, hb, h4 => by
    cases h3
    exact h4
  | y :: ys, l2, e, h, e1, h1, r, h3, hb, h4 => by
    show forL t b (y :: (ys ++ l2)) e h = r
    unfold forL at h3 ⊢
    cases ht : t y e h with
    | none => rw [ht] at h3; cases h3
    | some e2 =>
      rw [ht] at h3
      dsimp only at h3 ⊢
      cases hbb : b e2 h with
      | nx e3 h5 => rw [hbb] at h3; exact forL_app ys l2 e3 h5 h3 (fun y hy => hb y (by simp [hy])) h4
      | ct e3 h5 => rw [hbb] at h3; exact forL_app ys l2 e3 h5 h3 (fun y hy => hb y (by simp [hy])) h4
      | bk e3 h5 => exact (hb y (by simp) _ _ _ _ hbb).elim
      | rt w h5 => rw [hbb] at h3; cases h3
      | ex c p e3 h5 => rw [hbb] at h3; cases h3
      | no => rw [hbb] at h3; cases h3
/-- the same; a break stays one -/
def forK (t : Cy) (b : Cs) : List Y → Ev → Hh → SR
  | [], e, h => .nx e h
  | y :: ys, e, h => match t y e h with
    | none => .no
    | some e1 => match b e1 h with
      | .nx e2 h2 => forK t b ys e2 h2
      | .ct e2 h2 => forK t b ys e2 h2
      | r => r
def unbk : SR → SR
  | .bk e h => .nx e h
  | r => r
theorem forL_K {t : Cy} {b : Cs} : ∀ (l : List Y) (e : Ev) (h : Hh), forL t b l e h = unbk (forK t b l e h)
  | [], _, _ => rfl
  | y :: ys, e, h => by
    unfold forL forK
    cases t y e h with
    | none => rfl
    | some e1 =>
      dsimp only
      cases b e1 h with
      | nx e2 h2 => exact forL_K ys e2 h2
      | ct e2 h2 => exact forL_K ys e2 h2
      | bk e2 h2 => rfl
      | rt w h2 => rfl
      | ex c p e2 h2 => rfl
      | no => rfl
theorem sFor_K {ci : Ci} {t : Cy} {b : Cs} {e : Ev} {h h' : Hh} {l : List Y} (hc : ci e h = .ok (fixS l) h') : sFor ci t b e h = unbk (forK t b l e h') := by rw [sFor_fix hc, forL_K]
theorem forK_app {t : Cy} {b : Cs} (l2 : List Y) : ∀ (l1 : List Y) (e : Ev) (h : Hh), forK t b (l1 ++ l2) e h = (forK t b l1 e h).bind (forK t b l2)
  | [], _, _ => rfl
  | y :: ys, e, h => by
    show forK t b (y :: (ys ++ l2)) e h = _
    unfold forK
    cases t y e h with
    | none => rfl
    | some e1 =>
      dsimp only
      cases b e1 h with
      | nx e2 h2 => exact forK_app l2 ys e2 h2
      | ct e2 h2 => exact forK_app l2 ys e2 h2
      | bk e2 h2 => rfl
      | rt w h2 => rfl
      | ex c p e2 h2 => rfl
      | no => rfl
theorem forK_one {t : Cy} {b : Cs} {y : Y} {e e1 : Ev} {h : Hh} (ht : t y e h = some e1) {e2 : Ev} {h2 : Hh} (hb : b e1 h = .nx e2 h2) : forK t b [y] e h = .nx e2 h2 := by
  unfold forK; rw [ht]; dsimp only; rw [hb]; rfl
def lcL (t : Cy) (q : Cb) (c : Cd) (e : Ev) : List Y → List W → Hh → R (List W)
  | [], acc, h => .ok acc h
  | y :: ys, acc, h => match t y e h with
    | none => .no
    | some e1 => (q e1 h).bind fun k h => if k then (c e1 h).bind fun w h => if acc.length < 16777216 then lcL t q c e ys (acc ++ [w]) h else .no else lcL t q c e ys acc h
theorem lcl_fix {l : List Y} {t : Cy} {q : Cb} {c : Cd} {e : Ev} : ∀ (m i : Nat) (acc : List W) (h : Hh), l.length + 1 = m + i ∨ l.length + 1 < m + i ∧ 0 < m → 0 < m → lcl (fixS l) t q c e m i acc h = lcL t q c e (l.drop i) acc h
  | 0, i, acc, h, hl, hp => absurd hp (by omega)
  | m + 1, i, acc, h, hl, hp => by
    unfold lcl
    have ef : fixS l h = some l := rfl
    rw [ef]
    dsimp only
    cases hi : l[i]? with
    | none =>
      have := List.getElem?_eq_none_iff.mp hi
      rw [List.drop_eq_nil_of_le this]
      rfl
    | some y =>
      obtain ⟨hlt, hy⟩ := List.getElem?_eq_some_iff.mp hi
      rw [List.drop_eq_getElem_cons hlt, hy]
      dsimp only [lcL]
      have rec' : ∀ acc h2, lcl (fixS l) t q c e m (i + 1) acc h2 = lcL t q c e (l.drop (i + 1)) acc h2 := fun e2 h2 => lcl_fix m (i + 1) e2 h2 (by omega) (by omega)
      cases t y e h with
      | none => rfl
      | some e1 => simp only [rec']
theorem cLc_fix {mt : Bool} {vs : List Nat} {ci : Ci} {t : Cy} {q : Cb} {c : Cd} {e : Ev} {h h' : Hh} {l : List Y} (hc : ci e h = .ok (fixS l) h') : cLc mt vs ci t q c e h = (noX (lcL t q c (ew e vs) l [] h')).bind fun ws h => fin mt ws h := by
  unfold cLc
  rw [hc, R.bind_ok]
  have := lcl_fix (l := l) (t := t) (q := q) (c := c) (e := ew e vs) (srcLen (fixS l) h' + 1) 0 [] h' (.inl (by simp [srcLen, fixS])) (by omega)
  rw [this, List.drop_zero]
/-- a comprehension whose parts leave the heap as it is -/
theorem lcL_pure {t : Cy} {q : Cb} {c : Cd} {e : Ev} {h : Hh} (f : Y → Bool) (g : Y → W) : ∀ (l : List Y) (acc : List W), acc.length + l.length ≤ 16777216 → (∀ y ∈ l, ∃ e1, t y e h = some e1 ∧ q e1 h = .ok (f y) h ∧ (f y = true → c e1 h = .ok (g y) h)) →
    lcL t q c e l acc h = .ok (acc ++ (l.filter f).map g) h
  | [], acc, _, _ => by simp [lcL]
  | y :: ys, acc, hl, hy => by
    obtain ⟨e1, a1, a2, a3⟩ := hy y (by simp)
    rw [List.length_cons] at hl
    unfold lcL
    rw [a1]
    dsimp only
    rw [a2, R.bind_ok]
    cases hf : f y with
    | true =>
      rw [if_pos rfl, a3 hf, R.bind_ok, if_pos (by omega), lcL_pure f g ys _ (by simp; omega) fun z hz => hy z (by simp [hz])]
      simp [hf]
    | false =>
      rw [if_neg Bool.false_ne_true, lcL_pure f g ys _ (by omega) fun z hz => hy z (by simp [hz])]
      simp [hf]
section
variable {e : Ev} {h : Hh} {a b c : Cd} {t u : Cb} {x y z : Cs} {i j : Nat} {n m : Int} {w : W} {l : List D} {op op' : W → W → Hh → R W} {k : Bool} {aa : Ca} {g : Fn}
@[simp] theorem z_seq : sSeq x y e h = (x e h).bind y := (rfl)
@[simp] theorem z_ret : sRet a e h = lift (a e h) e fun w h => .rt w h := (rfl)
@[simp] theorem z_retN : sRetN e h = .rt (.d .non) h := (rfl)
@[simp] theorem z_nx : sNx e h = .nx e h := (rfl)
@[simp] theorem z_no : sNo e h = .no := (rfl)
@[simp] theorem z_if : sIf t x y e h = lift (t e h) e fun k h => if k then x e h else y e h := (rfl)
@[simp] theorem z_asg {tg : Ct} : sAsg a tg e h = lift (a e h) e fun w h => match tg w e h with
  | some e' => .nx e' h
  | none => .no := (rfl)
@[simp] theorem z_expr : sExpr a e h = lift (a e h) e fun _ h => .nx e h := (rfl)
@[simp] theorem z_par {tg : Cts} : sPar aa tg e h = lift (aa e h) e fun ws h => match tg ws e h with
  | some e' => .nx e' h
  | none => .no := (rfl)
@[simp] theorem z_set : sSet a b c e h = lift (a e h) e fun w h => lift (b e h) e fun x h => lift (c e h) e fun y h => match setAt x y w h with
  | some h' => .nx e h'
  | none => .no := (rfl)
@[simp] theorem z_tN : tN i w e h = some (e.set i (some w)) := (rfl)
@[simp] theorem z_tNil : Fz.tNil [] e h = some e := (rfl)
@[simp] theorem z_tCns {ta : Ct} {tb : Cts} {ws : List W} : tCns ta tb (w :: ws) e h = (ta w e h).bind fun e => tb ws e h := (rfl)
@[simp] theorem z_tTp {tb : Cts} : tTp tb (.d (.tup l)) e h = tb (l.map .d) e h := (rfl)
@[simp] theorem z_tLsT {tb : Cts} : tLs tb (.d (.tup l)) e h = tb (l.map .d) e h := (rfl)
@[simp] theorem z_tLsL {tb : Cts} : tLs tb (.d (.lst l)) e h = tb (l.map .d) e h := (rfl)
@[simp] theorem z_cc {d : D} : cc d e h = .ok (.d d) h := (rfl)
@[simp] theorem z_c1 {o : W → Hh → R W} : c1 o a e h = (a e h).bind o := (rfl)
@[simp] theorem z_c2 : c2 op a b e h = (a e h).bind fun x h => (b e h).bind fun y h => op x y h := (rfl)
@[simp] theorem z_cl {o : List W → Hh → R W} : cCl o aa e h = (aa e h).bind o := (rfl)
@[simp] theorem z_aNil : aNil e h = .ok [] h := (rfl)
@[simp] theorem z_aCons : aCons a aa e h = (a e h).bind fun x h => (aa e h).bind fun xs h => .ok (x :: xs) h := (rfl)
@[simp] theorem z_cIf : cIf t a b e h = (t e h).bind fun k h => if k then a e h else b e h := (rfl)
@[simp] theorem z_cT : cT a e h = (a e h).bind tru := (rfl)
@[simp] theorem z_bAnd : bAnd t u e h = (t e h).bind fun k h => if k then u e h else .ok false h := (rfl)
@[simp] theorem z_bOr : bOr t u e h = (t e h).bind fun k h => if k then .ok true h else u e h := (rfl)
@[simp] theorem z_bNot : bNot t e h = (t e h).bind fun k h => .ok (!k) h := (rfl)
@[simp] theorem z_bC : bC op a b e h = asB (c2 op a b e h) := (rfl)
@[simp] theorem z_asB {k : Bool} : asB (.ok (.d (.bl k)) h) = .ok k h := (rfl)
@[simp] theorem z_bCh : bCh op op' a b c e h = asB (cch op op' a b c e h) := (rfl)
@[simp] theorem z_and : cAnd a b e h = (a e h).bind fun x h => (tru x h).bind fun k h => if k then b e h else .ok x h := (rfl)
@[simp] theorem z_or : cOr a b e h = (a e h).bind fun x h => (tru x h).bind fun k h => if k then .ok x h else b e h := (rfl)
@[simp] theorem z_not : cNot a e h = (a e h).bind fun x h => (tru x h).bind fun k h => .ok (.d (.bl (!k))) h := (rfl)
@[simp] theorem z_truN : tru (.d .non) h = .ok false h := (rfl)
@[simp] theorem z_truB : tru (.d (.bl k)) h = .ok k h := (rfl)
@[simp] theorem z_truI : tru (.d (.int n)) h = .ok (n != 0) h := (rfl)
@[simp] theorem z_truT : tru (.d (.tup l)) h = .ok (!l.isEmpty) h := (rfl)
@[simp] theorem z_truL : tru (.d (.lst l)) h = .ok (!l.isEmpty) h := (rfl)
@[simp] theorem z_isi {t : Ty} : cIsi t a e h = (a e h).bind fun w h => match w with
  | .d x => .ok (.d (.bl (isD t x))) h
  | .r n => match h[n]? with
    | some (.lst _) => .ok (.d (.bl (match t with | .lst => true | _ => false))) h
    | _ => .no
  | .f _ => .no := (rfl)
@[simp] theorem z_sub : opSub (.d (.int n)) (.d (.int m)) h = .ok (.d (.int (n - m))) h := (rfl)
@[simp] theorem z_add : opAdd k (.d (.int n)) (.d (.int m)) h = .ok (.d (.int (n + m))) h := (rfl)
@[simp] theorem z_mod (hm : 0 < m) : opMod (.d (.int n)) (.d (.int m)) h = .ok (.d (.int (n % m))) h := by unfold opMod opI; simp [hm]
@[simp] theorem z_fdiv (hm : 0 < m ∧ m < 1073741824) : opFdiv (.d (.int n)) (.d (.int m)) h = .ok (.d (.int (n / m))) h := by unfold opFdiv opI; simp [hm]
@[simp] theorem z_opC {p : Int → Int → Bool} : opC p (.d (.int n)) (.d (.int m)) h = .ok (.d (.bl (p n m))) h := (rfl)
@[simp] theorem z_eqI : opEq k (.d (.int n)) (.d (.int m)) h = .ok (.d (.bl (if k then !(n == m) else n == m))) h := by
  unfold opEq; simp [valD, sh, D.eqv]
@[simp] theorem z_len1 : biLen [.d (.tup l)] h = .ok (.d (.int l.length)) h := (rfl)
@[simp] theorem z_len2 : biLen [.d (.lst l)] h = .ok (.d (.int l.length)) h := (rfl)
@[simp] theorem z_max2 : biMax2 [.d (.int n), .d (.int m)] h = .ok (.d (.int (if m > n then m else n))) h := (rfl)
@[simp] theorem z_int : biInt [.d (.int n)] h = .ok (.d (.int n)) h := (rfl)
@[simp] theorem z_abs : biAbs [.d (.int n)] h = .ok (.d (.int (if n < 0 then -n else n))) h := (rfl)
@[simp] theorem z_neg : opNeg (.d (.int n)) h = .ok (.d (.int (-n))) h := (rfl)
@[simp] theorem z_allD0 : allD [] = some [] := (rfl)
@[simp] theorem z_allD {d : D} {ws : List W} : allD (.d d :: ws) = (allD ws).map (d :: ·) := (rfl)
@[simp] theorem z_call {n : Nat} {p : Bool} : cCall p n g aa e h = (aa e h).bind fun ws h => if ws.length = n then (if p then pure' g ws h else g ws h) else .no := (rfl)
@[simp] theorem z_revT : opRevT (.d (.tup l)) h = .ok (.d (.tup l.reverse)) h := (rfl)
@[simp] theorem z_isN1 : opNone k (.d .non) (.d .non) h = .ok (.d (.bl (if k then false else true))) h := by cases k <;> rfl
theorem z_cv (h1 : e[i]? = some (some w)) : cv i e h = .ok w h := by unfold cv; rw [h1]
@[simp] theorem z_cv0 {w : Option W} {r : Ev} : cv 0 (w :: r) h = match w with
  | some w => .ok w h
  | none => .no := by unfold cv; cases w <;> rfl
@[simp] theorem z_cvS {w : Option W} {r : Ev} : cv (i + 1) (w :: r) h = cv i r h := (rfl)
/-- a call of a def that sees data alone -/
theorem pure_ok {ws : List W} {ds : List D} {d : D} {h' : Hh} (ha : allD ws = some ds) (hg : g ws [] = .ok (.d d) h') : pure' g ws h = .ok (.d d) h := by
  unfold pure'
  rw [ha]
  dsimp only
  rw [hg]
end
section
theorem ixN_at {n j : Nat} (h : j < n) : L2.ixN n (j : Int) = some j := by
  unfold L2.ixN
  rw [if_pos (by omega), if_pos (by omega)]
  simp
theorem atI_at {α : Type} {l : List α} {j : Nat} {x : α} (e : l[j]? = some x) : L2.atI l (j : Int) = some x := by
  unfold L2.atI
  rw [ixN_at (List.getElem?_eq_some_iff.mp e).1]
  exact e
theorem ix_l {l : List D} {j : Nat} {x : D} {h : Hh} (e : l[j]? = some x) : opIx (.d (.lst l)) (.d (.int j)) h = .ok (.d x) h := by
  have : L2.atI (l.map W.d) (j : Int) = some (.d x) := atI_at (by rw [List.getElem?_map, e]; rfl)
  simp [opIx, seqW, lstW, this]
theorem ix_t {l : List D} {j : Nat} {x : D} {h : Hh} (e : l[j]? = some x) : opIx (.d (.tup l)) (.d (.int j)) h = .ok (.d x) h := by
  have : L2.atI (l.map W.d) (j : Int) = some (.d x) := atI_at (by rw [List.getElem?_map, e]; rfl)
  simp [opIx, seqW, this]
theorem ix_r {n : Nat} {l : List W} {j : Nat} {x : W} {h : Hh} (hn : h[n]? = some (.lst l)) (e : l[j]? = some x) : opIx (.r n) (.d (.int j)) h = .ok x h := by
  have : L2.atI l (j : Int) = some x := atI_at e
  simp [opIx, seqW, lstW, hn, this]
theorem set_r {n : Nat} {l : List W} {j : Nat} {x : W} {h : Hh} (hn : h[n]? = some (.lst l)) (hj : j < l.length) : setAt (.r n) (.d (.int j)) x h = some (h.set n (.lst (l.set j x))) := by
  simp [setAt, hn, ixN_at hj]
theorem cut_from {α : Type} {l : List α} {j : Nat} (hj : j ≤ l.length) : cut l (some (j : Int)) none = l.drop j := by
  unfold cut
  have h1 : HT.sIx l.length 0 (some (j : Int)) = j := by simp only [HT.sIx]; split <;> omega
  have h2 : HT.sIx l.length l.length none = l.length := rfl
  rw [h1, h2]
  exact List.take_of_length_le (by simp)
end
end Fz
set_option Elab.async false
set_option linter.all false
set_option maxRecDepth 100000
set_option maxHeartbeats 4000000
/-! Fz: own exceptions over ValueError: __init__ with super().__init__(text + str(reason)) and one field. -/
namespace Fz
open PySem PySem.W L2 PyProof.Rows

/-- super().__init__(text + str(par)) -/
abbrev xCall (par tx : Str) (p0 p1 p2 p3 p4 c1 c2 c3 c4 : Pos) (j : Nat) : Expr := .Call (.Attribute (.Call (.Name "super" p0) [] [] p1) "__init__" p2) [.BinOp (.Constant (.str tx) j c1) .Add (.Call (.Name "str" c2) [.Name par c3] [] c4) p3] [] p4
/-- the body of such an __init__ -/
def xBody (st : Stmt) (par fld tx : Str) : Prop := ∃ (p0 p1 p2 p3 p4 p5 q1 q2 q3 q4 c1 c2 c3 c4 : Pos) (j : Nat), defBody st =
    [.Expr (xCall par tx p0 p1 p2 p3 p4 c1 c2 c3 c4 j) q1, .Assign [.Attribute (.Name "self" q2) fld q3] (.Name par q4) p5] ∧
    (∀ env : Env, ∃ pl : Sem Bool, eval (xCall par tx p0 p1 p2 p3 p4 c1 c2 c3 c4 j) env = (do
      let ov ← attributeBase (.Call (.Name "super" p0) [] [] p1) "__init__" env (eval (.Call (.Name "super" p0) [] [] p1) env)
      standAt p2.atName
      let (f, first) ← holding [ov] (getMethod ov "__init__" pl)
      callWith p4 f first (backTo p4 (starEach [.BinOp (.Constant (.str tx) j c1) .Add (.Call (.Name "str" c2) [.Name par c3] [] c4) p3] env)) [])) ∧
    (∀ env : Env, swapsWith (.Name par q4) (some (.Attribute (.Name "self" q2) fld q3)) p5.line env = pure false) ∧
    ∀ env : Env, swapsWith (xCall par tx p0 p1 p2 p3 p4 c1 c2 c3 c4 j) none q1.line env = pure false
structure XSc (sc : Scope) (par : Str) : Prop where
  kind : sc.kind = .function
  co : sc.isCoroutine = false
  gen : sc.isGenerator = false
  self : sc.names.lookup ("self" : Str) = some .local
  pr : sc.names.lookup par = some .local
  sup : sc.names.lookup ("super" : Str) = some .globalImplicit
  str : sc.names.lookup ("str" : Str) = some .globalImplicit
  cls : sc.names.lookup ("__class__" : Str) = some .free
  free : ∀ y ∈ sc.names, y.2 = .free → y.1 = ("__class__" : Str)
  cell : ∀ y ∈ sc.names, y.2 ≠ .cell
  ne : (("self" : Str) == par) = false
  dbg : (par == ("__debug__" : Str)) = false
  dcd : (par == ("__classdict__" : Str)) = false
/-- an own exception class with its own __init__ -/
structure Xc (P : Program) (K : Frag) (mg : Str → Option Value) (C fI : Addr) (fld par tx : Str) (st : Stmt) (fd : FuncData) : Prop where
  ox : OexC K C
  init : findIn K (.ref C) "__init__" = some (some (.ref fI))
  tI : typeIn K (.ref fI) = some (.type "function")
  body : xBody st par fld tx
  txl : tx.length ≤ 1000
  sc : XSc (defScope st) par
  arg : ∃ ar, ((defArgs st).posonlyargs ++ (defArgs st).args).head? = some ar ∧ ar.arg = "self"
  lk : ∃ (qual : Str) (oc : Value) (od : Option Addr) (osl : Array (Option Value)) (kV doc pm : Value) (an : Option Addr) (cda cc : Addr) (ct : Value),
    fd = ksFn "__init__" qual (defArgs st) (defBody st) (defScope st) .none kV doc pm an (.ref cda) ct cc ∧ K.lookup fI = some ⟨oc, od, .func fd, osl⟩ ∧ codeIn K (.ref cda) qual = true ∧
    (∃ ccl cdd vs ccs f tf, K.lookup cda = some ⟨ccl, cdd, .fields vs, ccs⟩ ∧ vs[2]? = some (.str f tf) ∧ ((P.main.file : Str) == f) = true) ∧
    ∃ cl cld csl, K.lookup cc = some ⟨cl, cld, .cell (some (.ref C)), csl⟩
  sup : ks_superIn K C C "__init__" = some (some (.builtin "ValueError.__init__"))
  subV : subIn K (.ref C) (.type "ValueError") = some true
  subC : mroIn K C (.ref C) = some true
  fl : findIn K (.ref C) fld = some none
  opq : nsIn K cStatics "thirdparty.any" = some none
  noS : mg "super" = none
  noStr : mg "str" = none
  htop : (P.main.scope.names.lookup ("super" : Str)).isSome = false

/-- what such an __init__ promises -/
def spI (C : Addr) (fld : Str) : Sp := fun vs H Q _ => ∃ (e : Addr) (v : V), vs = [.ref e, v] ∧ ((∃ x : Str, v = .str x ∧ x.length ≤ 1000) ∨ ∃ i : Int, v = .int i ∧ i.natAbs.log2 < 1900) ∧ H e = some (exo e C none) ∧
  ∀ dx, H dx = none → dx ≠ e → Q .non (upd (upd H dx (exd dx [(fld, v)])) e (exo e C (some dx)))

theorem call_str2 {X : Cx} : CallR X (.type "str") (fun xs H Q => (∃ i, xs = [.int i] ∧ i.natAbs.log2 < 1920 ∧ Q (.str (toString i)) H) ∨ ∃ a, xs = [.str a] ∧ Q (.str a) H) := by
  intro pins s σ H xs us Q I r h
  rcases h with h | ⟨a, rfl, q⟩
  · exact call_str_int pins s σ H xs us Q I r h
  · obtain ⟨_, rfl, t, rfl⟩ := vals1 r
    exact PySem.P.str_of_str ⟨.str a, H, I, ⟨t, rfl⟩, q⟩
section
variable {P : Program} {w : World} {K : PySem.W.Frag} {mg : Str → Option Value} {base : Heap} {C fI : Addr} {fld par tx : Str} {st : Stmt} {fd : FuncData}
def cxS (P : Program) (w : World) (K : PySem.W.Frag) (mg : Str → Option Value) (base : Heap) (par qual : Str) (scope : Scope) (f : Addr) (cd : Value) (cc : Addr) (A : Around) (outer : List Env) (s : Shared) (H : Hp) : Cx where
  prog := P
  w := w
  K := K
  mg := mg
  base := base
  A := A.deeper (ksEnv qual scope s.heap.objs.size f cd cc)
  N := ["self", par]
  s_0 := s
  H_0 := H
  env := ksEnv qual scope s.heap.objs.size f cd cc
  outer := outer
  stack := ksEnv qual scope s.heap.objs.size f cd cc :: outer
  ex := []
  calm := true
  fn := fun _ => false
  pn := []
  xe := fun _ _ => False
theorem lk1 {x : Str} {c cc : Addr} (h : ([("__class__", cc)] : List (Str × Addr)).lookup x = some c) : x = "__class__" ∧ c = cc := by
  rw [List.lookup_cons] at h
  split at h
  · rename_i e
    cases h
    exact ⟨eq_of_beq e, rfl⟩
  · cases h
theorem invS {par qual : Str} {scope : Scope} {f : Addr} {cd : Value} {cc : Addr} {A : Around} {outer : List Env} {s : Shared} {H : Hp} {h1 : Heap} {e : Addr} {v : V} {u : Value} {cl : Value} {cld : Option Addr} {csl : Array (Option Value)}
    (S : XSc scope par) (hd : A.handled = none) (e0 : Env0 P w K mg base A outer s H) (rv : RelV v u) (hc : K.lookup cc = some ⟨cl, cld, .cell (some (.ref C)), csl⟩)
    (hns : h1.Ns s.heap.objs.size (fun x => ([("self", Value.ref e), (par, u)] : List (Str × Value)).reverse.lookup x)) (hk : ∀ b o, s.heap.get? b = some o → h1.get? b = some o) (t : Nat) :
    L2.Inv (cxS P w K mg base par qual scope f cd cc A outer s H) [] [some (.ref e), some v] H { s with heap := h1, toks := t } := by
  have noA : ∀ b : Addr, b ∉ (cxS P w K mg base par qual scope f cd cc A outer s H).ex := fun b z => absurd (show b ∈ ([] : List Addr) from z) (by simp)
  have hcc := e0.bs _ _ (e0.mod.kin _ _ hc)
  refine ⟨⟨e0.mod, S.kind, rfl, rfl, Nat.le_refl _, fun y z c h1 h2 => ?_, fun y hy => ?_, fun y c h _ => ?_, fun _ => hd, Around.frames_deeper e0.frames, .inr ⟨rfl, rfl⟩, fun b z => absurd z (noA b), e0.bs, e0.bsz, fun b _ _ => noA b, fun b z => absurd z (noA b), e0.funs, e0.frf⟩,
    rfl, e0.bare, Un.kept hk, ⟨_, hns, fun i y v' a1 a2 a3 => ?_⟩, fun y c h => ?_, e0.hok.fresh (Nat.le_refl _), fun y c h => ?_, fun p hp => absurd (show p ∈ ([] : List (Addr × Obj)) from hp) (by simp), e0.hok.kept hk, rfl⟩
  · rw [(lk1 h1).1, (lk1 h2).1]
  · have hy : scope.names.lookup y = some .cell ∨ scope.names.lookup y = some .free := hy
    rcases hy with hy | hy
    · exact absurd rfl (S.cell _ (PySem.mem_of_lookup hy))
    · have := S.free _ (PySem.mem_of_lookup hy) rfl
      exact ⟨cc, by rw [show y = "__class__" from this]; rfl⟩
  · cases h
  · have ne : (("self" : Str) == par) = false := S.ne
    match i, a1, a2 with
    | 0, a1, a2 =>
      cases a1; cases a2
      refine ⟨.ref e, rfl, .inl ⟨S.self, ?_⟩⟩
      show ([(par, u), ("self", Value.ref e)] : List (Str × Value)).lookup ("self" : Str) = _
      rw [List.lookup_cons, ne]
      rfl
    | 1, a1, a2 =>
      cases a1; cases a2
      refine ⟨u, rv, .inl ⟨S.pr, ?_⟩⟩
      show ([(par, u), ("self", Value.ref e)] : List (Str × Value)).lookup par = _
      rw [List.lookup_cons, beq_self_eq_true]
    | i + 2, a1, a2 => simp [cxS] at a1
  · rw [(lk1 h).2]
    exact ⟨some (.ref C), ⟨_, hk _ _ hcc.1, rfl⟩⟩
  · rw [(lk1 h).2]
    exact hcc.2
theorem init_ok (x : Xc P K mg C fI fld par tx st fd) : FnOk P w K mg base (L2.CX P w) 1 fI fd ["self", par] (spI C fld) := by
  obtain ⟨ox, hin, tI, hb, txl, S, ⟨ar, har, harg⟩, ⟨qual, oc, od, osl, kV, doc, pm, an, cda, cc, ct, rfl, lk, hcd, ⟨ccl, cdd, vs, ccs, f, tf, lkc, hvs, hfile⟩, cl, cld, csl, lkcell⟩, sup, subV, subC, fl, opq, noS, noStr, htop⟩ := x
  refine ⟨fun vs H Q E h => by obtain ⟨e, v, rfl, _⟩ := h; rfl, fun A outer s H args us vs' Q E hr e0 hbind r hsp => ?_⟩
  obtain ⟨e, v, rfl, hv, he, hq⟩ := hsp
  obtain ⟨u, rfl, rv⟩ : ∃ u, us = [Value.ref e, u] ∧ RelV v u := by
    cases r with | @cons _ u0 _ ur ra rt => cases rt with | @cons _ u _ un rv rn => cases rn; exact ⟨u, by rw [show u0 = Value.ref e from ra], rv⟩
  have KX : K.In s.heap := e0.mod.kin.keeps fun b o e => (e0.bs b o e).1
  have lim : s.heap.NoLimit := e0.mod.nolimit.keeps fun b o e => (e0.bs b o e).1
  obtain ⟨p0, p1, p2, p3, p4, p5, q1, q2, q3, q4, c1, c2, c3, c4, j, hbody, hev, hsw, hsx⟩ := hb
  obtain ⟨pl, hev⟩ := hev (ksEnv qual (defScope st) s.heap.objs.size fI (.ref cda) cc)
  refine ks_codeAny_call_defAt (body := defBody st) (binds := [("self", Value.ref e), (par, u)]) hr.depth (KX _ _ lk) rfl lim (PySem.W.codeRec_of KX hcd) rfl hbind S.cell (fun y hy => ?_) (fun h₁ hns hk => ?_) S.co S.gen S.kind
  · simp only [List.mem_cons, List.not_mem_nil, or_false] at hy
    rcases hy with rfl | rfl
    · exact S.self
    · exact S.pr
  have I : L2.Inv (cxS P w K mg base par qual (defScope st) fI (.ref cda) cc A outer s H) [] [some (.ref e), some v] H { s with heap := h₁, toks := s.toks + 2 } := invS S hr.hd e0 rv lkcell hns hk (s.toks + 2)
  show PySem.wpAt (model P w) (A.deeper (ksEnv qual (defScope st) s.heap.objs.size fI (.ref cda) cc)) (.func (defBody st) (ksEnv qual (defScope st) s.heap.objs.size fI (.ref cda) cc)) (execs (defBody st) (ksEnv qual (defScope st) s.heap.objs.size fI (.ref cda) cc)) _ _ { s with heap := h₁, toks := s.toks + 2 }
  rw [hbody]
  obtain ⟨nm, q, N, bs, bm, sn, sb, ab, col, dd, k0, k1, k2, k3, k5, hC, hbm⟩ := ox.cls
  have KX1 : K.In h₁ := KX.keeps hk
  have hC1 : h₁.get? C = some (excClassObj nm q C N bs bm true sn sb ab col dd k0 k1 k2 k3 k5 "ValueError.__new__") := KX1 _ _ hC
  obtain ⟨t1, hex⟩ := exo_at I.hok he
  refine ks_wpAt_execs_cons (ks_wpAt_Expr_any (ks_wpAt_MethodCall (pl := pl) ?_ hev) (by unfold interactive; rw [show (ksEnv qual (defScope st) s.heap.objs.size fI (.ref cda) cc).scope.kind = .function from S.kind]; rfl) (hsx _))
  refine ks_wpAt_super_base (f := fI) S.sup S.cls (by decide) rfl (KX1 _ _ lk) rfl har rfl (KX1 _ _ lkc) rfl hvs hfile htop ?_
  obtain ⟨mb, hmb, hbb⟩ := e0.mod.blt
  refine ks_loadName_global S.kind S.sup (PySem.Calls.loadGlobal_builtin (e0.mod.glob.keeps I.bk) noS (hmb.keeps I.bk) ((hbb _ (by decide)).trans (show bootBuiltins "super" = some (.type "super") from PyProof.Rows.Boot.«super»)) ⟨rfl, ?_⟩)
  refine wpAny_loadName_free S.kind S.cls rfl ⟨_, KX1 _ _ lkcell, rfl⟩ ?_
  rw [harg]
  refine wpAny_loadName_local S.kind S.self hns (v := .ref e) ?_ ?_
  · show ([(par, u), ("self", Value.ref e)] : List (Str × Value)).lookup ("self" : Str) = _
    rw [List.lookup_cons, S.ne]; rfl
  refine ks_wpAny_isType_cls hC1 rfl ⟨rfl, ?_⟩
  refine ks_wpAny_call_super hC1 rfl hex rfl (fun c z => by cases z) (looks_mroIn KX1 subC) (fun h2 hso k2 => ?_)
  have I2 := I.kept (t' := s.toks + 2) k2
  have KX2 : K.In h2 := KX1.keeps k2
  have IA : InstAt h2 e ({ cls := .ref C, dict := none, data := .fields #[.ref t1, .none, .none, .none, .bool false, .none] } : Obj) C none := ⟨k2 _ _ hex, rfl, rfl, trivial⟩
  have hcl : clsIn K C = some { name := nm, bases := bs, mro := .ref C :: bm, ns := N, qualname := q, hasDict := true, slotNames := sn, subclasses := sb, abstract := ab, collection := col, hasDel := false } := by unfold clsIn; rw [hC] <;> rfl
  have hal : alongIn K "__init__" (((Value.ref C :: bm).dropWhile (· != .ref C)).drop 1) = some (some (.builtin "ValueError.__init__")) := by
    unfold ks_superIn at sup
    rw [hcl] at sup
    exact sup
  refine kxs_getMethod kxs_ValueError hso (looks_opaque KX2 opq) (l₀ := .ref C :: bm) (fun A Q E s k q => wpAny_bind ((looks_clsIn KX2 hcl) A _ E s k (wpAny_pure q))) rfl KX2 hal (IA.type.andThen (looks_subIn KX2 subV)) (ks_ne KX2 IA hcl) (by decide) ?_
  have k3 : ∀ b o, h2.get? b = some o → (h2.push (kxs_mw "ValueError.__init__" e)).get? b = some o := fun b o z => Heap.get?_push_of_some _ z
  have hmw : (h2.push (kxs_mw "ValueError.__init__" e)).get? h2.objs.size = some (kxs_mw "ValueError.__init__" e) := Heap.get?_push_at rfl rfl
  have nL : h2.objs.size ≠ s.heap.objs.size := Nat.ne_of_gt I2.lt
  have nB : base.get? h2.objs.size = none := Heap.get?_none_of_le (Nat.le_trans e0.bsz (Nat.le_of_lt I2.lt))
  have I3 := (I2.kept (t' := s.toks + 3) k3).pins_of (pins' := [(h2.objs.size, kxs_mw "ValueError.__init__" e)]) (fun p hp => by
    rw [List.mem_singleton.mp hp]
    exact ⟨hmw, I2.hok.fresh (Nat.le_refl _), nL, I2.nofs (Nat.le_refl _), fun v z => by cases z⟩)
  refine kxs_callWith1 (i := "ValueError.__init__") (x := e) (news := [(h2.objs.size, kxs_mw "ValueError.__init__" e)]) (h₀ := base) (L := s.heap.objs.size) (fun p hp => by rw [List.mem_singleton.mp hp]; exact ⟨hmw, nL, nB⟩) (by simp) ?_
  have hstr : Gl (cxS P w K mg base par qual (defScope st) fI (.ref cda) cc A outer s H) "str" := S.str
  have pe : PE (cxS P w K mg base par qual (defScope st) fI (.ref cda) cc A outer s H) (.BinOp (.Constant (.str tx) j c1) .Add (.Call (.Name "str" c2) [.Name par c3] [] c4) p3) _ :=
    pe_op op_add_str pe_str (pe_callTy call_str2 hstr noStr PyProof.Rows.Boot.«str» (pa_cons (pv 1 rfl (.inl S.pr) S.dbg S.dcd) pa_nil))
  have rd : ∃ y : Str, L2.tCons (tOp (fun x y H Q => ∃ i j, x = .str i ∧ y = .str j ∧ i.length + j.length ≤ sizeLine ∧ Q (.str (i ++ j)) H) (tC (.str tx)) (tCB (fun xs H Q => (∃ i, xs = [.int i] ∧ i.natAbs.log2 < 1920 ∧ Q (.str (toString i)) H) ∨ ∃ a, xs = [.str a] ∧ Q (.str a) H) (L2.tCons (tVar 1) L2.tNil))) L2.tNil [some (.ref e), some v] H fun vs H1 => vs = [.str y] ∧ H1 = H := by
    rcases hv with ⟨x, rfl, hx⟩ | ⟨i, rfl, hi⟩
    · exact ⟨tx ++ x, .str x, rfl, .inr ⟨x, rfl, tx, x, rfl, rfl, by rw [sizeLine_eq]; omega, rfl, rfl⟩⟩
    · refine ⟨tx ++ (toString i : String), .int i, rfl, .inl ⟨i, rfl, by omega, tx, _, rfl, rfl, ?_, rfl, rfl⟩⟩
      have := int_text_length_le (a := i) (k := i.natAbs.log2 + 1) (Nat.succ_pos _) (Nat.lt_succ_self _)
      rw [PySem.ofString_length, sizeLine_eq]
      omega
  obtain ⟨y, rd'⟩ := rd
  refine wpAny_mono ((pa_cons pe pa_nil).run p4 _ _ _ H (fun vs H1 => vs = [.str y] ∧ H1 = H) I3 ?_) (fun us s4 hs4 => ?_) fun _ _ z => z.elim
  · exact rd'
  obtain ⟨vs4, H4, I4, r4, rfl, rfl⟩ := hs4
  have hmw4 : s4.heap.get? h2.objs.size = some (kxs_mw "ValueError.__init__" e) := (I4.pin (h2.objs.size, kxs_mw "ValueError.__init__" e) (List.mem_append_right _ (List.mem_singleton.mpr rfl))).1
  refine ⟨hmw4, ?_⟩
  obtain ⟨t2, hex2⟩ := exo_at I4.hok he
  have hC4 := I4.kIn _ _ hC
  have eu : upd H4 e (exo e C none) = H4 := by
    funext b
    by_cases hb : b = e
    · rw [hb, upd_same, he]
    · rw [upd_ne hb]
  have hz : us.length ≤ sizeLine := by rw [← Paired.length r4, sizeLine_eq]; simp
  obtain ⟨hp4, g4, d4, tk4, os4⟩ := s4
  refine wpAny_call (codeAny_of_tree ?_)
  show wpAny _ _ (callAny (.ref h2.objs.size) ⟨us, []⟩) _ _ _
  simp only [callAny]
  refine wpAny_bind (wpAny_load hmw4 ?_)
  simp only [kxs_mw, show (Value.type "method-wrapper" == Value.type "method" || Value.type "method-wrapper" == Value.type "builtin_function_or_method" || Value.type "method-wrapper" == Value.type "method-wrapper") = true by decide, if_true]
  refine KFB.if_so (by decide) ?_
  refine wpAny_bind (check_bound_init F.excBase_ValueError.toExcCallFacts hC4 hex2 rfl ?_)
  refine wpAny_bind (wpAny_pure (wpAny_pure ?_))
  refine ⟨plainId_quiet F.excBase_ValueError.init.plain _, codeAny_builtin F.excBase_ValueError.initEntry ?_⟩
  refine exc_init_tree (cls := .ref C) (t0 := t2) (dv := none) (c2 := .none) (c3 := .none) (b4 := .bool false) hex2 hz fun h5 k5' hx5 _ => ?_
  have J := I4.write (t' := tk4) (x := e) (e := e) (o := exo e C none) (by rw [he]; exact True.intro) (.inl rfl) k5' ⟨_, hx5⟩ (exo_ok hx5)
  rw [eu] at J
  refine wpAt_of_wpAny (wpAny_mono ((pss_one (ps_ost (pv 0 rfl (.inl S.self)) (pv 1 rfl (.inl S.pr) S.dbg S.dcd) (hsw _))).run _ _ _ H4 { nx := fun _ H' => Q .non H', rt := fun _ _ => False } J ?_) (fun fl s5 hs => ?_) fun _ _ z => z.elim)
  · exact ⟨v, rfl, .ref e, rfl, e, C, rfl, ox, fl, .inl ⟨he, hq⟩⟩
  · cases fl with
    | next =>
      obtain ⟨σ', H', J, q⟩ := hs
      exact ⟨.non, H', J.os, J.bare, J.base, J.hok, rfl, q⟩
    | ret u =>
      obtain ⟨_, _, _, _, _, q⟩ := hs
      exact q.elim
    | brk =>
      obtain ⟨_, _, _, q⟩ := hs
      exact False.elim q
    | cont =>
      obtain ⟨_, _, _, q⟩ := hs
      exact False.elim q
end
end Fz
set_option Elab.async false
set_option linter.all false
set_option maxRecDepth 100000
set_option maxHeartbeats 4000000
/-! Fz: raise of own exceptions; try with one clause; the suite's answer as a function of the class and what the exception holds. -/
namespace Fz
open PySem PySem.W L2 PyProof.Rows

/-- what may be held -/
def okP (w : W) : Bool := match w with
  | .d (.str l) => decide (l.length ≤ 1000)
  | .d (.int i) => decide (i.natAbs.log2 < 1900)
  | _ => false
def sRaise (c : Nat) (ce : Cd) : Cs := fun e h => lift (ce e h) e fun w h => if okP w then .ex c w e h else .no
section
variable {X : Cx} {T : Tb} {Wx : WX} {e : Expr} {ce : Cd} {c : Nat} {fI : Addr} {fld par tx x : Str} {st : Stmt} {fd : FuncData} {p pos pos' : Pos}
theorem upd_del {H1 : Hp} {a dx : Addr} {o1 o2 o3 u : HO} (ha : H1 a = none) (hd : dx ≠ a) : upd (del (upd (upd (upd H1 a o1) dx o2) a o3) a) dx u = upd H1 dx u := by
  funext b
  by_cases h1 : b = dx
  · rw [h1, upd_same, upd_same]
  · rw [upd_ne h1, upd_ne h1]
    by_cases h2 : b = a
    · rw [h2, del_same, ha]
    · rw [del_ne h2, upd_ne h2, upd_ne h1, upd_ne h2]
theorem fs_raise {k : Nat} (G : Cg X Wx (k + 2)) (xc : Xc X.prog X.K X.mg (T.xad c) fI fld par tx st fd) (bnd : ∀ us : List Value, us.length = 2 → bindArgs fd ⟨us, []⟩ = pure (([("self" : Str), par] : List Str).zip us)) (hf : T.efl c = fld) (hg : Gl X x) (hm : X.mg x = some (.ref (T.xad c)))
    (he : FE X T Wx e ce) (hdb : (x == ("__debug__" : Str)) = false) (hst : starEach [e] X.env = (false, eval e X.env) :: starEach [] X.env) :
    FS X T Wx (.Raise (some (.Call (.Name x p) [e] [] pos)) none pos') (sRaise c ce) := by
  refine PS.imp (ps_raise G.calm G.tk (pmk_oex (k := 1) (dvs := []) (ds := []) xc.ox xc.init xc.tI (init_ok xc) (G.room.mono (by omega)) (Binds.all bnd) .nil (fun pins σ H s er s' I hc => passes_call (W := fun _ _ _ _ => False) (Takes.imp G.tk fun _ _ _ _ z => z.elim) (fun _ _ _ _ z => z) pins σ H s er s' I hc) hg hm (pa_cons he pa_nil hst) hdb hst rfl)) fun D σ H q => ?_
  obtain ⟨F, ρ, ev, ih, hr, re, hp⟩ := q
  refine ⟨F, ρ, ev, ih, hr, re, (Pss.lift hr re hp).mono fun ρ1 H1 ih1 w g1 hr1 hp1 v rv => ?_⟩
  show ([v] : List V).length ≤ 1000 ∧ _
  refine ⟨by simp, fun a ha => ?_⟩
  have re1 := re.grow g1 hr
  have hok : okP w = true := by
    cases hk : okP w with
    | true => rfl
    | false => rw [hk] at hp1; exact hp1.elim
  rw [hok, if_pos rfl] at hp1
  have hv : (∃ x : Str, v = .str x ∧ x.length ≤ 1000) ∨ ∃ i : Int, v = .int i ∧ i.natAbs.log2 < 1900 := by
    unfold okP at hok
    split at hok
    · rename_i l
      cases rv with | d rv => cases rv with | str _ z => exact .inl ⟨_, rfl, by rw [toStr_len]; exact of_decide_eq_true hok⟩
    · rename_i i
      cases rv with | d rv => cases rv with | int _ => exact .inr ⟨_, rfl, of_decide_eq_true hok⟩
    · cases hok
  refine ⟨a, v, rfl, hv, upd_same, fun dx hdx hne => ⟨(rfl : V.non = V.non), dx, [(fld, v)], upd_same, ?_, ?_, ?_⟩⟩
  · rw [upd_ne hne, upd_same]
  · rwa [upd_ne hne] at hdx
  · have hd1 : H1 dx = none := by rwa [upd_ne hne] at hdx
    rw [upd_del ha hne]
    have g2 : Grow F ρ1 H1 ρ1 (upd H1 dx (.xd [(fld, v)])) := grow_new hd1
    exact hp1 ρ1 _ σ _ (some dx) g2 (hr1.new hd1) (re1.grow g2 hr1) ⟨rfl, dx, v, rfl, by rw [upd_same, hf], not_new hr1 hd1, rv.grow g2 hr1⟩
end

/-! ### suites -/
/-- isinstance(e, c) where the exception has its dict -/
def rIsF (K : PySem.W.Frag) (D a dd : Addr) : List V → Hp → VK → Prop := fun xs H Q => ∃ (c : V) (cv : Value) (b : Bool) (fs : List (Str × V)), xs = [.ref a, c] ∧ (∀ u, RelV c u → u = cv) ∧ kitOne K (.ref D) cv = some b ∧ H dd = some (.xd fs) ∧ Q (.bl b) H
theorem exc_inst {Y : Cx} {pins : List (Addr × Obj)} {σ : L2.St} {H : Hp} {s : Shared} {a D dd : Addr} {oe : Obj} {fs : List (Str × V)} (I : L2.Inv Y pins σ H s) (hp : (a, oe) ∈ Y.pn) (hz : Zc (.ref D) (some dd) oe) (hf : ∃ vs, oe.data = .fields vs) (hdd : H dd = some (.xd fs)) :
    ∃ (od : Obj) (mA : Str → Option Value), PySem.W.InstAt s.heap a oe D (some od) ∧ (∀ f, RelO (fs.lookup f) (mA f)) ∧ ∀ n, PySem.W.lookIn n od = some (mA n) := by
  obtain ⟨hget, _⟩ := I.pin (a, oe) (List.mem_append_left _ hp)
  obtain ⟨vs, hv⟩ := hf
  have hx : ObjOk Y.prog Y.w H s.heap dd (.xd fs) := I.hok dd _ hdd
  obtain ⟨mA, hns, hr⟩ := hx
  obtain ⟨od, ho, hl⟩ := lookIn_ns hns
  exact ⟨od, mA, ⟨hget, hz.1, by unfold PySem.W.notCls; rw [hv] <;> rfl, by rw [hz.2]; exact ho⟩, hr, hl⟩
theorem call_isF {Y : Cx} {a D dd : Addr} {oe : Obj} (C : ExcC Y.K D) (hp : (a, oe) ∈ Y.pn) (hz : Zc (.ref D) (some dd) oe) (hf : ∃ vs, oe.data = .fields vs) : CallR Y (.builtin "isinstance") (rIsF Y.K D a dd) := by
  intro pins s σ H xs us Q I r h
  obtain ⟨c, cv, b, fs, rfl, hcv, e, hdd, q⟩ := h
  cases r with | cons rx rr => cases rr with | cons rt rr =>
    cases rr
    cases rx
    have ec := hcv _ rt
    subst ec
    obtain ⟨od, mA, J, _, _⟩ := exc_inst I hp hz hf hdd
    obtain ⟨cd, hc, _⟩ := PySem.W.any_some C.hd
    exact PySem.W.kia_one (PySem.W.kitx_exc (by rw [hc]; rfl) C.hg C.hk C.hs C.ha C.hn C.ht C.hm) I.kIn J e (fun z => nomatch z) fun tk => ⟨.bl b, H, I.kept (t' := tk) fun _ _ z => z, rfl, q⟩
theorem pe_xfY {Y : Cx} {a C dd : Addr} {oe : Obj} {e : Expr} {te : TE} {pos : Pos} {n : Str} (T : XfC Y.K C) (hno : PySem.W.findIn Y.K (.ref C) n = some none) (hp : (a, oe) ∈ Y.pn) (hz : Zc (.ref C) (some dd) oe) (hf : ∃ vs, oe.data = .fields vs) (he : PE Y e te)
    (hb : attributeBase e n Y.env (eval e Y.env) = eval e Y.env) :
    PE Y (.Attribute e n pos) (fun σ H Q => te σ H fun x H1 => x = .ref a ∧ ∃ (fs : List (Str × V)) (v : V), H1 dd = some (.xd fs) ∧ fs.lookup n = some v ∧ Q v H1) := by
  refine ⟨fun pins s σ H Q I h => attr_of hb (thn (he.run pins s σ H _ I h) fun u s1 hh => ?_)⟩
  obtain ⟨x, H1, I1, rx, ex, fs, v, ea, l, q⟩ := hh
  subst ex
  obtain rfl : u = Value.ref a := rx
  obtain ⟨od, mA, J, hr, hl⟩ := exc_inst I1 hp hz hf ea
  have hrn := hr n
  rw [l] at hrn
  obtain ⟨w, hu, ru⟩ := RelO.some_of (v := v) hrn
  exact HandSPX.exc_get I1.kIn J T.ga T.gg T.exC (PySem.W.findObj_own T.hdC hno rfl (by rw [hl, hu])) (handed_of ru) ⟨v, H1, I1.tok _, ru, q⟩

/-- things are added alone -/
def More (H H' : Hp) : Prop := ∀ b o, H b = some o → H' b = some o
theorem More.refl {H : Hp} : More H H := fun _ _ h => h
theorem More.trans {H H1 H2 : Hp} (a : More H H1) (b : More H1 H2) : More H H2 := fun c o h => b c o (a c o h)
theorem More.new {H : Hp} {p : Addr} {o : HO} (hp : H p = none) : More H (upd H p o) := fun b u h => by rw [upd_ne (fun z => by rw [z, hp] at h; cases h)]; exact h
/-- in a suite: the exception at a has v -/
def Cn (i : Nat) (a dd : Addr) (fld : Str) (v : V) (σ : L2.St) (H : Hp) : Prop := σ[i]? = some (some (.ref a)) ∧ H dd = some (.xd [(fld, v)])
section
variable (X : Cx) (a : Addr) (i : Nat) (dd : Addr) (fld : Str)
def KV (e : Expr) (f : V → Option V) : Prop := PE X e fun σ H Q => ∃ v u, Cn i a dd fld v σ H ∧ f v = some u ∧ Q u H
def KB (e : Expr) (f : V → Option Bool) : Prop := PT X e fun σ H Q => ∃ v b, Cn i a dd fld v σ H ∧ f v = some b ∧ Q b H
def KW (e : Expr) (f : V → Option Bool) : Prop := PW X e fun σ H Q => ∃ v b, Cn i a dd fld v σ H ∧ f v = some b ∧ Q b H
def KS (l : List Stmt) (f : V → Option V) : Prop := PSs X l fun D σ H => ∃ v u, Cn i a dd fld v σ H ∧ f v = some u ∧ ∀ H', More H H' → D.rt u H'
end
section
variable {X : Cx} {a D : Addr} {oe : Obj} {i : Nat} {dd : Addr} {fld x n : Str} {e t u : Expr} {es : List Expr} {f g h : V → Option V} {b b' : V → Option Bool} {p q pos : Pos} {k : Nat}
theorem kv_str {x : Str} : KV X a i dd fld (.Constant (.str x) k pos) (fun _ => some (.str x)) := PE.imp pe_str fun σ H Q ⟨v, u, c, e, q⟩ => by cases e; exact q
theorem kv_name (hN : X.N[i]? = some n) (hv : Vis X.env.scope n) (hd : (n == ("__debug__" : Str)) = false) (hc : (n == ("__classdict__" : Str)) = false) : PE X (.Name n pos) (tVar i) := pe_var hN hv hd hc
theorem kv_fld (T : XfC X.K D) (hpn : (a, oe) ∈ X.pn) (hno : findIn X.K (.ref D) fld = some none) (hz : Zc (.ref D) (some dd) oe) (hf : ∃ vs, oe.data = .fields vs) (he : PE X e (tVar i)) (hb : attributeBase e fld X.env (eval e X.env) = eval e X.env) :
    KV X a i dd fld (.Attribute e fld pos) some := PE.imp (pe_xfY T hno hpn hz hf he hb) fun σ H Q ⟨v, u, c, e, q⟩ => by
  cases e
  exact ⟨.ref a, c.1, rfl, [(fld, v)], v, c.2, by simp [List.lookup], q⟩
theorem kv_isi {cl : Value} {cv : V} {r : Bool} (C : ExcC X.K D) (hpn : (a, oe) ∈ X.pn) (hz : Zc (.ref D) (some dd) oe) (hf : ∃ vs, oe.data = .fields vs) (hk : kitOne X.K (.ref D) cl = some r) (hr : ∀ u, RelV cv u → u = cl) (hg : Gl X "isinstance") (hm : X.mg "isinstance" = none)
    (he : PE X e (tVar i)) (ht : PE X t (tC cv)) (h1 : starEach [e, t] X.env = (false, eval e X.env) :: starEach [t] X.env) (h2 : starEach [t] X.env = (false, eval t X.env) :: starEach [] X.env) :
    KV X a i dd fld (.Call (.Name "isinstance" p) [e, t] [] pos) (fun _ => some (.bl r)) := PE.imp (pe_callB (call_isF C hpn hz hf) hg hm PyProof.Rows.Boot.«isinstance» (pa_cons he (pa_cons ht pa_nil h2) h1) (by decide) (by decide) h1 (by
      show (backTo pos (starEach [t] X.env)).any (·.1) = false
      rw [h2]; rfl)) fun σ H Q ⟨v, u, c, e, q⟩ => by
  cases e
  exact ⟨.ref a, c.1, cv, cl, r, [(fld, v)], rfl, hr, hk, c.2, q⟩
def catV (y : Str) (x : V) : Option V := match x with
  | .str s => if s.length + y.length ≤ sizeLine then some (.str (y ++ s)) else none
  | _ => none
theorem kv_cat {y : Str} (he : KV X a i dd fld e f) : KV X a i dd fld (.BinOp (.Constant (.str y) k p) .Add e pos) (fun v => (f v).bind (catV y)) := PE.imp (pe_op op_add_str pe_str he) fun σ H Q ⟨v, u, c, e, q⟩ => by
  dsimp only at e
  cases hf : f v with
  | none => rw [hf] at e; cases e
  | some w =>
    rw [hf, Option.bind_some] at e
    unfold catV at e
    split at e
    · rename_i s
      split at e
      · rename_i hl
        cases e
        exact ⟨v, _, c, hf, y, s, rfl, rfl, by omega, q⟩
      · cases e
    · cases e
def cIfV {α : Type} (b : V → Option Bool) (f g : V → Option α) (v : V) : Option α := (b v).bind fun k => if k then f v else g v
theorem kv_if (ht : KB X a i dd fld t b) (hf : KV X a i dd fld e f) (hg : KV X a i dd fld u g) : KV X a i dd fld (.IfExp t e u pos) (cIfV b f g) := PE.imp (pe_ifExp ht hf hg) fun σ H Q ⟨v, w, c, e, q⟩ => by
  unfold cIfV at e
  cases hb : b v with
  | none => rw [hb] at e; cases e
  | some k =>
    rw [hb, Option.bind_some] at e
    refine ⟨v, k, c, hb, ?_⟩
    cases k with
    | true => exact iteT ⟨v, w, c, e, q⟩
    | false => exact iteF ⟨v, w, c, e, q⟩
def asBV (x : V) : Option Bool := match x with
  | .bl k => some k
  | _ => none
theorem kb_v (he : ∀ whole, isTrue e X.env whole = (do let v ← whole; standAt e.pos; holding [v] (truthy v))) (hf : KV X a i dd fld e f) : KB X a i dd fld e (fun v => (f v).bind asBV) := PT.imp (pt_truth hf he) fun σ H Q ⟨v, w, c, e, q⟩ => by
  dsimp only at e
  cases hv : f v with
  | none => rw [hv] at e; cases e
  | some z =>
    rw [hv, Option.bind_some] at e
    unfold asBV at e
    split at e
    · cases e
      exact ⟨v, _, c, hv, _, rfl, q⟩
    · cases e
theorem kb_not (h : KB X a i dd fld e b) : KB X a i dd fld (.UnaryOp .Not e pos) (fun v => (b v).map (!·)) := PT.imp (pt_not h) fun σ H Q ⟨v, w, c, e, q⟩ => by
  dsimp only at e
  cases hv : b v with
  | none => rw [hv] at e; cases e
  | some z => rw [hv] at e; cases e; exact ⟨v, z, c, hv, q⟩
theorem kw_1 {o : BoolOp} (h : KB X a i dd fld e b) : KW X a i dd fld (.BoolOp o [e] pos) b := by
  cases o
  · exact pw_and1 h
  · exact pw_or1 h
theorem kw_and (h1 : KB X a i dd fld e b) (h2 : KW X a i dd fld (.BoolOp .And (t :: es) pos) b') : KW X a i dd fld (.BoolOp .And (e :: t :: es) pos) (cIfV b b' fun _ => some false) := PW.imp (pw_and h1 h2) fun σ H Q ⟨v, w, c, e, q⟩ => by
  unfold cIfV at e
  cases hb : b v with
  | none => rw [hb] at e; cases e
  | some k =>
    rw [hb, Option.bind_some] at e
    refine ⟨v, k, c, hb, ?_⟩
    cases k with
    | true => exact iteT ⟨v, w, c, e, q⟩
    | false => cases e; exact iteF q
theorem kw_or (h1 : KB X a i dd fld e b) (h2 : KW X a i dd fld (.BoolOp .Or (t :: es) pos) b') : KW X a i dd fld (.BoolOp .Or (e :: t :: es) pos) (cIfV b (fun _ => some true) b') := PW.imp (pw_or h1 h2) fun σ H Q ⟨v, w, c, e, q⟩ => by
  unfold cIfV at e
  cases hb : b v with
  | none => rw [hb] at e; cases e
  | some k =>
    rw [hb, Option.bind_some] at e
    refine ⟨v, k, c, hb, ?_⟩
    cases k with
    | true => cases e; exact iteT q
    | false => exact iteF ⟨v, w, c, e, q⟩
theorem kb_w (h : KW X a i dd fld e b) : KB X a i dd fld e b := PW.pt h
def eqBV (f g : V → Option V) (v : V) : Option Bool := (f v).bind fun x => (g v).bind fun y => (asBV x).bind fun k => (asBV y).map fun l => k == l
theorem kb_eq (hm : behindInMarks .Eq t = false) (h1 : KV X a i dd fld e f) (h2 : KV X a i dd fld t g) : KB X a i dd fld (.Compare e [.Eq] [t] pos) (eqBV f g) := PT.imp (pt_cmpR op_eq h1 h2 hm) fun σ H Q ⟨v, w, c, e, q⟩ => by
  unfold eqBV at e
  cases hx : f v with
  | none => rw [hx] at e; cases e
  | some x =>
    cases hy : g v with
    | none => rw [hx, hy] at e; cases e
    | some y =>
      rw [hx, hy, Option.bind_some, Option.bind_some] at e
      cases x with
      | bl k =>
        cases y with
        | bl l =>
          cases e
          refine ⟨v, _, c, hx, v, _, c, hy, rfl, _, rfl, ?_⟩
          have : decide (V.bl k = V.bl l) = (k == l) := dec_bl
          rw [this]
          exact q
        | _ => cases e
      | _ => cases e
theorem ks_ret (h : KV X a i dd fld e f) : KS X a i dd fld [.Return (some e) pos] f := PSs.imp (pss_one (ps_ret h)) fun D σ H ⟨v, u, c, e, q⟩ => ⟨v, u, c, e, q H More.refl⟩
theorem ks_if {s1 s2 : List Stmt} {r : Stmt} (ht : KB X a i dd fld t b) (h1 : KS X a i dd fld [r] f) (h2 : KS X a i dd fld s2 g) : KS X a i dd fld (.If t [r] [] pos :: s2) (cIfV b f g) :=
  PSs.imp (pss_cons (ps_if ht h1 pss_nil) h2) fun D σ H ⟨v, w, c, e, q⟩ => by
    unfold cIfV at e
    cases hb : b v with
    | none => rw [hb] at e; cases e
    | some k =>
      rw [hb, Option.bind_some] at e
      refine ⟨v, k, c, hb, ?_⟩
      cases k with
      | true => exact iteT ⟨v, w, c, e, q⟩
      | false => exact iteF ⟨v, w, c, e, q⟩
end
/-! ### try .. except C as e: the suite answers -/
theorem grow_more {F ρ : List Addr} {H H' : Hp} (m : More H H') : Grow F ρ H ρ H' := ⟨⟨[], by simp⟩, fun a o h _ => m a o h, fun a h n => absurd h n, fun a _ _ h => m a _ h⟩
theorem HR.more {K T F ρ ih H H'} (h : HR K T F ρ ih H) (m : More H H') : HR K T F ρ ih H' where
  len := h.len
  nd := h.nd
  fr := h.fr
  trF := fun a ha e => by
    cases q : H a with
    | none => exact h.trF a ha q
    | some o => rw [m a o q] at e; cases e
  obj := fun n o e => by
    obtain ⟨a, ho, e1, e2, ro⟩ := h.obj n o e
    exact ⟨a, ho, e1, m a ho e2, ro.grow (grow_more m) h⟩
  ntF := fun a ha xs e => by
    cases q : H a with
    | none => exact h.trF a ha q
    | some o =>
      rw [m a o q] at e
      cases e
      exact h.ntF a ha xs q
def smD : D → Bool
  | .tup _ => false
  | .lst _ => false
  | _ => true
theorem sm_of {K M H x v} (h : smD x = true) (r : Rp K M H x v) : Sm x v := by
  cases r with
  | non => exact .non
  | bl b => exact .bl b
  | int i => exact .int i
  | str l z => exact .str l z
  | tup _ _ _ => cases h
  | lst _ _ _ => cases h
def sTry (i : Nat) (cs : List Nat) (b : Cs) (su : Nat → D → Option D) : Cs := fun e h => match b e h with
  | .ex c p e' h' => match p with
    | .d x => if cs.contains c && smD x && decide (i < e'.length) then match su c x with
      | some y => .rt (.d y) h'
      | none => .no else .no
    | _ => .no
  | r => r
/-- a suite's answer in numbers and texts -/
def SuF (su : Nat → D → Option D) (c : Nat) (f : V → Option V) : Prop := ∀ x y v, su c x = some y → Sm x v → ∃ u, f v = some u ∧ Sm y u
theorem fs_try {X : Cx} {T : Tb} {Wx : WX} {k : Nat} {body suite : List Stmt} {b₀ : Stmt} {x n : Str} {np pos pos' : Pos} {i : Nat} {cs : List Nat} {cb : Cs} {su : Nat → D → Option D} {cM : Value} (G : Cg X Wx k) (hs : X.stack = X.env :: X.outer) (hf : X.env.frame = some X.env.locals)
    (hi : X.N[i]? = some n) (hln : X.env.kindOf n = some .local) (hc : Names X x cM) (hx : ∀ c ∈ cs, exmOne X.K (.ref (T.xad c)) cM = some true)
    (hb : ∀ (W : WX) (pn : List (Addr × Obj)) (xe : Value → Shared → Prop), Cg (X.tr pn xe) W k → FSs (X.tr pn xe) T W body cb)
    (hsu : ∀ c ∈ cs, ∃ f, SuF su c f ∧ ∀ (a : Addr) (oe : Obj) (dd : Addr) (pn : List (Addr × Obj)), Zc (.ref (T.xad c)) (some dd) oe → (∃ vs, oe.data = .fields vs) → KS (X.suite a ((a, oe) :: pn)) a i dd (T.efl c) (b₀ :: suite) f) :
    FS X T Wx (.Try body [.ExceptHandler (some (.Name x np)) (some n) (b₀ :: suite) pos'] [] [] pos) (sTry i cs cb su) := by
  let ts : Addr → Value → Option Addr → TS := fun a cls d Z σ H => ∃ c, c ∈ cs ∧ cls = .ref (T.xad c) ∧ ∃ dd, d = some dd ∧ ∃ (x y : D) (v : V), su c x = some y ∧ Sm x v ∧ Cn i a dd (T.efl c) v σ H ∧ ∀ u, Sm y u → ∀ H', More H H' → Z.rt u H'
  refine PS.imp (ps_try_as (ts := ts) (tb := fun W => sOf X.K T W cb) hs hf G.nd hi hln hc G.tk (fun W pn xe tk po => hb W pn xe ⟨G.calm, G.room, G.gd, tk, G.nd, po⟩) (fun a oe cls d pn hz hfi => ⟨fun pins s σ H D I h => ?_⟩)) fun D σ H q => ?_
  · obtain ⟨c, hc, rfl, dd, rfl, x, y, v, e1, e2, cn, q⟩ := h
    obtain ⟨f, sf, ks⟩ := hsu c hc
    obtain ⟨u, e3, e4⟩ := sf x y v e1 e2
    exact (ks a oe dd pn hz hfi).run pins s σ H D I ⟨v, u, cn, e3, q u e4⟩
  · obtain ⟨F, ρ, ev, ih, hr, re, hp⟩ := q
    refine ⟨F, ρ, ev, ih, hr, re, ?_⟩
    unfold sTry at hp
    cases e : cb ev ih with
    | nx e2 h2 => rw [e] at hp; exact hp
    | rt w h2 => rw [e] at hp; exact hp
    | bk e2 h2 => rw [e] at hp; exact hp
    | ct e2 h2 => rw [e] at hp; exact hp
    | no => rw [e] at hp; exact hp.elim
    | ex c p e2 h2 =>
      rw [e] at hp
      dsimp only at hp
      cases p with
      | r n => exact hp.elim
      | f n => exact hp.elim
      | d x =>
        dsimp only at hp
        split at hp
        · rename_i cc
          simp only [Bool.and_eq_true, decide_eq_true_eq, List.contains_iff_mem] at cc
          cases e3 : su c x with
          | none => rw [e3] at hp; exact hp.elim
          | some y =>
            rw [e3] at hp
            intro ρ' H' σ' cls dx g hr' re' xr
            obtain ⟨rfl, d, v, rfl, hd, nd, rv⟩ := xr
            refine ⟨true, hx c cc.1.1, fun _ a _ => ?_, fun z => by cases z⟩
            have sm : Sm x v := by cases rv with | d rv => exact sm_of cc.1.2 rv
            refine ⟨c, cc.1.1, rfl, d, rfl, x, y, v, e3, sm, ⟨?_, hd⟩, fun u su H2 m => hp ρ' H2 u (g.trans hr' (grow_more m)) (hr'.more m) su.rw⟩
            rw [List.getElem?_set_self (by rw [← re'.1]; exact cc.2)]
        · exact hp.elim
end Fz
set_option Elab.async false
set_option linter.all false
set_option maxRecDepth 100000
set_option maxHeartbeats 4000000
/-! Fz: enumerate, zip, range with a step as what is walked. -/
namespace PySem
namespace FzE
open PySem.W PyProof.Rows
theorem enum_made {v : Value} {ob : Obj} {Hq : Heap → Prop} (B : Begins v ob Hq) :
    Meets (Builtin.«enumerate.__new__» ⟨[.type "enumerate", v], []⟩) (fun _ R s => Hq s.heap ∧ R (.ok (.ret (.ref (s.heap.push ob).objs.size)))
      { s with heap := (s.heap.push ob).push { cls := .type "enumerate", data := .fields #[.none, .bool false, .ref s.heap.objs.size, rawInt 0, .none, .none] } }) :=
  .of_wp fun prog w A R s hs => by
    obtain ⟨hp, gg, dd, tk, os⟩ := s
    obtain ⟨h1, h2⟩ := hs
    have hsub := sub_enumerate
    have go : ∀ {A1 : Around} {E1 Q1 : Value → Shared → Prop}, Q1 (.ref hp.objs.size) ⟨hp.push ob, gg, dd, tk, os⟩ → wpAny (model prog w) A1 (pyIter v) Q1 E1 ⟨hp, gg, dd, tk, os⟩ := fun q => B.iter prog w _ _ ⟨hp, gg, dd, tk, os⟩ _ h1 q
    wp_walk using go
    refine wpAny_stack_any fun below => wpAny_pure ?_
    split
    · rename_i c _ _ _ _ _
      cases (c == Value.type "enumerate") <;> (wp_walk using go; exact ⟨_, rfl, h2⟩)
    · wp_walk using go
      exact ⟨_, rfl, h2⟩
section
variable {prog : Program} {w : World} {A : Around} {E : Value → Shared → Prop} {s : Shared}
theorem call_enum {v : Value} {ob : Obj} {Hq : Heap → Prop} {Q : Value → Shared → Prop} (B : Begins v ob Hq) (h1 : Hq s.heap)
    (h : ∀ h', IsEnum h' (s.heap.objs.size + 1) s.heap.objs.size 0 .none → h'.get? s.heap.objs.size = some ob → h'.objs.size = s.heap.objs.size + 2 → (∀ b o, s.heap.get? b = some o → h'.get? b = some o) →
      Q (.ref (s.heap.objs.size + 1)) { s with heap := h' }) : wpAny (model prog w) A (call (.type "enumerate") [v]) Q E s := by
  refine callType_new F.called_enumerate (by decide) (F.typeCall_enumerate_1 _) (F.newCall_enumerate_1 _) (fun obj => F.args_object_init_2 obj _) F.entry_enumerate_new (enum_made B) ⟨h1, ?_⟩
  have hz : (s.heap.push ob).objs.size = s.heap.objs.size + 1 := Heap.size_push ..
  show _ ∧ _
  rw [hz]
  have he : IsEnum ((s.heap.push ob).push { cls := .type "enumerate", data := .fields #[.none, .bool false, .ref s.heap.objs.size, rawInt 0, .none, .none] }) (s.heap.objs.size + 1) s.heap.objs.size 0 .none := by
    have q := Heap.get?_push_size (s.heap.push ob) (o := { cls := .type "enumerate", data := .fields #[.none, .bool false, .ref s.heap.objs.size, rawInt 0, .none, .none] }) rfl
    rw [hz] at q
    exact q
  refine ⟨⟨_, he, rfl⟩, h _ he (Heap.get?_push_of_some _ (Heap.get?_push_size _ B.free)) (by rw [Heap.size_push, hz]) fun b o x => ?_⟩
  exact Heap.get?_push_of_some _ (Heap.get?_push_of_some _ x)
end
end FzE
end PySem
namespace Fz
open PySem PySem.W L2 PyProof.Rows
/-- the tuple at a, its items in new pairs with their places -/
def ItET (K : PySem.W.Frag) (a : Addr) (n : Nat) : It where
  go := fun i H => ∃ (xs : List V) (x : V), SqT K H a xs ∧ xs.length = n ∧ xs[i]? = some x
  yld := fun i H v H' => ∃ T x, v = .ref T ∧ H T = none ∧ H' = upd H T (.tup [.int (i : Nat), x]) ∧ ∀ xs, SqT K H a xs → xs[i]? = some x
  stop := fun i H => ∃ xs : List V, SqT K H a xs ∧ xs.length = n ∧ n ≤ i
theorem tup_enum_ne {h : Heap} {e it a : Addr} {i : Int} {old : Value} {its : Array Value} (he : IsEnum h e it i old) (ht : IsTup h a its) : e ≠ a := fun z => by
  obtain ⟨o, ho, hc, _⟩ := ht
  rw [← z, he] at ho
  cases ho
  injection hc with hc
  exact absurd hc (by decide)
theorem tup_iter_ne {h : Heap} {it a b : Addr} {i : Nat} {its : Array Value} (he : h.IsTupleIter it b i) (ht : IsTup h a its) : a ≠ it := fun z => by
  obtain ⟨o, ho, hc, _⟩ := ht
  obtain ⟨o2, ho2, hc2, _⟩ := he
  rw [z, ho2] at ho
  cases ho
  rw [hc] at hc2
  injection hc2 with hc2
  exact absurd hc2 (by decide)
theorem turn_et {P : Program} {w : World} {K : PySem.W.Frag} {elts : List Expr} {kk : Nat} {tpos : Pos} (a e it : Addr) (n : Nat) :
    Turn P w K (.Tuple elts kk tpos) (ItET K a n) [e, it] e (fun i h => (∃ old, IsEnum h e it ((i : Nat) : Int) old) ∧ h.IsTupleIter it a i ∧ e ≠ it ∧ i ≤ n) where
  mem := by simp
  obj := fun i h st b hb => by
    obtain ⟨⟨old, he⟩, ⟨o, ho, hc, hd⟩, _⟩ := st
    simp only [List.mem_cons, List.not_mem_nil, or_false] at hb
    rcases hb with rfl | rfl
    · exact ⟨_, he, fun v q => nomatch q⟩
    · exact ⟨o, ho, fun v q => by rw [hd] at q; cases q⟩
  keep := fun i h h' st k => by
    obtain ⟨⟨old, he⟩, hi, hne, hin⟩ := st
    exact ⟨⟨old, k e (by simp) _ he⟩, hi.at fun o q => k it (by simp) o q, hne, hin⟩
  item := by
    intro X hP hw hK hc i pins s σ H E I hf st hg
    subst hP hw hK
    obtain ⟨⟨old, he⟩, hit, hne, hin⟩ := st
    obtain ⟨xs, x, hq, hxn, hx⟩ := hg
    obtain ⟨its, rv, p, hz⟩ := I.tuple hq
    obtain ⟨u, hu, ru⟩ := rv.get hx
    have hlt : i < its.toArray.size := by simpa using (List.getElem?_eq_some_iff.mp hu).1
    have ne2 := tup_enum_ne he p
    have ne3 := tup_iter_ne hit p
    have hel : e < s.heap.objs.size := Heap.lt_size he
    have hil : it < s.heap.objs.size := by obtain ⟨_, q, _⟩ := hit; exact Heap.lt_size q
    refine wpAny_pyNext_enum_itemD (PySem.Draws.tuple (A := X.A.in1) (I.ok.hd hc) it a ne3 its.toArray) he ⟨hit, p⟩ hlt hne (by simp [hne, ne2]) fun y h' tk hy ho hst hT hsz hk => ?_
    have ey : y = u := by
      have h1 : its[i]? = some y := by simpa using hy
      rw [hu] at h1
      exact (Option.some.inj h1).symm
    subst ey
    refine ⟨_, rfl, wpAny_letOwnedTupleGo_enum (s := { s with heap := h', toks := tk + 1 }) ho fun h'' he' sb => ?_⟩
    have hT2 : h''.get? s.heap.objs.size = some { cls := .type "tuple", data := .seq #[.int i tk, y] } := (sb.2 _ (Nat.ne_of_gt hel)).trans hT
    have new : ObjOk X.prog X.w (upd H s.heap.objs.size (.tup [.int (i : Nat), x])) h'' s.heap.objs.size (.tup [.int (i : Nat), x]) :=
      ⟨by show 2 ≤ sizeLine; decide, [.int i tk, y], .cons ⟨_, rfl⟩ (.cons ru .nil), ⟨_, hT2, rfl, _, rfl⟩⟩
    have I1 : L2.Inv X pins σ (upd H s.heap.objs.size (.tup [.int (i : Nat), x])) { s with heap := h'', toks := tk + 1 } :=
      I.turnedNew (ch := [e, it]) (fun b ob hb q => (sb.2 b (fun z => hb (by simp [z]))).trans (hk b ob (fun z => hb (by simp [z])) (fun z => hb (by simp [z])) q)) hf (Nat.le_refl _) new
    refine ⟨.ref s.heap.objs.size, _, I1, rfl, ⟨_, x, rfl, I.hok.fresh (Nat.le_refl _), rfl, fun ys hy => by rw [I.tuple_inj hy hq]; exact hx⟩, ⟨⟨y, ?_⟩, hst.1.at fun o q => (sb.2 it (Ne.symm hne)).trans q, hne, by have := (List.getElem?_eq_some_iff.mp hx).1; omega⟩, fun b hb => ?_⟩
    · have e1 : ((i + 1 : Nat) : Int) = (i : Int) + 1 := by omega
      rw [e1]; exact he'
    · have hb' : b < s.heap.objs.size := by
        simp only [List.mem_cons, List.not_mem_nil, or_false] at hb
        rcases hb with rfl | rfl <;> assumption
      rw [upd_ne (Nat.ne_of_lt hb')]
      exact (hf b hb).1
  done := by
    intro X hP hw hK hc i pins s σ H E I hf st hg
    subst hP hw hK
    obtain ⟨⟨old, he⟩, hit, hne, hin⟩ := st
    obtain ⟨xs, hq, hxn, hx⟩ := hg
    obtain rfl : i = n := Nat.le_antisymm hin hx
    obtain ⟨its, rv, p, hz⟩ := I.tuple hq
    obtain ⟨f0, f1, f2, f3, f4, f5⟩ := hf it (by simp)
    have ne2 := tup_enum_ne he p
    have ne3 := tup_iter_ne hit p
    have hl := rv.length
    have hn : its.toArray.size = i := by simp; omega
    refine wpAny_pyNext_enum_endD (PySem.Draws.tuple (A := X.A.in1) (I.ok.hd hc) it a ne3 its.toArray) he ⟨by rw [hn]; exact hit, p⟩ fun h' eb => ⟨rfl, I.turned (t' := s.toks) (fun b o hb q => eb b o hb q) f0 f1 f3 f4 f5⟩
  self := fun A i s Q E st h => let ⟨⟨_, he⟩, _⟩ := st; wpAny_pyIter_enum he h
theorem pi_et {X : Cx} {e : Expr} {ta : TA} {p pos tpos : Pos} {elts : List Expr} {kk : Nat} (hg : Gl X "enumerate") (hm : X.mg "enumerate" = none) (ha : PA X [e] ta) (hs : starEach [e] X.env = [(false, eval e X.env)]) :
    PI X (.Tuple elts kk tpos) (.Call (.Name "enumerate" p) [e] [] pos) (fun σ H R => ta σ H fun vs H1 => ∃ (a : Addr) (xs : List V), vs = [.ref a] ∧ SqT X.K H1 a xs ∧ R (ItET X.K a xs.length) H1) := by
  refine ⟨fun pins s σ H R I h => ?_⟩
  refine Call_ (ld_blt I hg hm boot_enumerate (PyProof.Rows.callWith_type1 (thn (ha.run pos pins s σ H _ I h) fun us s1 hh => ?_) hs rfl))
  obtain ⟨vs, H1, I1, r1, a, xs, rfl, hq, q⟩ := hh
  cases r1 with | cons r rr =>
    cases rr
    cases r
    obtain ⟨its, rv, p', hz⟩ := I1.tuple hq
    refine PySem.FzE.call_enum (begins_tuple a its.toArray) p' fun h' he hit hsz hk => wpAny_pyIter_enum he ?_
    have I2 : L2.Inv X pins σ H1 { s1 with heap := h' } := I1.kept (t' := s1.toks) hk
    have hti : h'.IsTupleIter s1.heap.objs.size a 0 := ⟨_, hit, rfl, rfl⟩
    refine ⟨s1.heap.objs.size + 1, [s1.heap.objs.size + 1, s1.heap.objs.size], _, _, H1, rfl, I2, turn_et a (s1.heap.objs.size + 1) s1.heap.objs.size xs.length, ⟨⟨.none, he⟩, hti, Nat.succ_ne_self _, Nat.zero_le _⟩, fun b hb => ?_, q⟩
    have hle : s1.heap.objs.size ≤ b := by
      simp only [List.mem_cons, List.not_mem_nil, or_false] at hb
      rcases hb with rfl | rfl
      · exact Nat.le_add_right _ _
      · exact Nat.le_refl _
    exact I1.fpOk hle (I1.hok.fresh hle)
/-- pairs of places and items -/
def enY : Nat → List W → List Y
  | _, [] => []
  | i, w :: r => .t [.d (.int (i : Nat)), w] :: enY (i + 1) r
theorem enY_get : ∀ (l : List W) (k i : Nat) (y : Y), (enY k l)[i]? = some y → ∃ w, l[i]? = some w ∧ y = .t [.d (.int ((k + i : Nat) : Int)), w]
  | [], _, _, _, h => by simp [enY] at h
  | w :: r, k, 0, y, h => by simp only [enY, List.getElem?_cons_zero, Option.some.injEq] at h; exact ⟨w, rfl, h.symm⟩
  | w :: r, k, i + 1, y, h => by
    simp only [enY, List.getElem?_cons_succ] at h
    obtain ⟨z, a, b⟩ := enY_get r (k + 1) i y h
    exact ⟨z, by simpa using a, by rw [b, show k + 1 + i = k + (i + 1) by omega]⟩
theorem enY_len : ∀ (l : List W) (k : Nat), (enY k l).length = l.length
  | [], _ => rfl
  | w :: r, k => by simp only [enY, List.length_cons, enY_len r]
def refE (n : Nat) : Src := fun h => match h[n]? with
  | some (.lst l) => some (enY 0 l)
  | _ => none
def enumOf (w : W) (h : Hh) : R Src := match w with
  | .d (.lst l) => .ok (fixS (enY 0 (l.map .d))) h
  | .d (.tup l) => .ok (fixS (enY 0 (l.map .d))) h
  | .r n => match h[n]? with
    | some (.lst _) => .ok (refE n) h
    | _ => .no
  | _ => .no
def cEn (c : Cd) : Ci := fun e h => (c e h).bind enumOf
section
variable {K : PySem.W.Frag} {T : Tb} {F ρ : List Addr} {H : Hp} {ih : Hh}
theorem pair_new {F ρ : List Addr} {H : Hp} {ih : Hh} (hr : HR K T F ρ ih H) {p : Addr} (hp : H p = none) {w1 w2 : W} {v1 v2 : V} (r1 : RW K F ρ H w1 v1) (r2 : RW K F ρ H w2 v2) :
    Grow F ρ H ρ (upd H p (.tup [v1, v2])) ∧ HR K T F ρ ih (upd H p (.tup [v1, v2])) ∧ YR K F ρ (upd H p (.tup [v1, v2])) (.t [w1, w2]) (.ref p) := by
  have g : Grow F ρ H ρ (upd H p (.tup [v1, v2])) := grow_new hp
  exact ⟨g, hr.new hp, .t upd_same (not_new hr hp) (.cons (r1.grow g hr) (.cons (r2.grow g hr) .nil))⟩
theorem good_enL {ds : List D} {a : Addr} {vs : List V} (h : FL K (F ++ ρ) H a vs) (rl : RpL K (F ++ ρ) H ds vs) : Good K T (Ite K a) (fixS (enY 0 (ds.map .d))) F ρ H where
  goes := fun F' ρ' H' ih' l i y g hr' e hy => by
    cases e
    have h' := h.keep g.k
    have rl' := rl.keep g.k
    obtain ⟨w, hw, rfl⟩ := enY_get _ _ _ _ hy
    rw [List.getElem?_map, Option.map_eq_some_iff] at hw
    obtain ⟨x, hx, rfl⟩ := hw
    obtain ⟨v, e1, r1⟩ := rl'.get hx
    refine ⟨⟨_, v, h'.sq, e1⟩, fun u H'' q => ?_⟩
    obtain ⟨p, x', rfl, hp, rfl, q2⟩ := q
    have := q2 _ h'.sq
    rw [e1] at this
    cases this
    rw [Nat.zero_add]
    exact pair_new hr' hp (.d (.int _)) (.d r1)
  stops := fun F' ρ' H' ih' l i g hr' e hl => by
    cases e
    rw [enY_len] at hl
    exact ⟨_, (h.keep g.k).sq, by rw [← rl.length]; simpa using hl⟩
theorem good_enT {ds : List D} {a : Addr} {vs : List V} (h : FT K (F ++ ρ) H a vs) (rl : RpL K (F ++ ρ) H ds vs) : Good K T (ItET K a vs.length) (fixS (enY 0 (ds.map .d))) F ρ H where
  goes := fun F' ρ' H' ih' l i y g hr' e hy => by
    cases e
    have h' := h.keep g.k
    have rl' := rl.keep g.k
    obtain ⟨w, hw, rfl⟩ := enY_get _ _ _ _ hy
    rw [List.getElem?_map, Option.map_eq_some_iff] at hw
    obtain ⟨x, hx, rfl⟩ := hw
    obtain ⟨v, e1, r1⟩ := rl'.get hx
    refine ⟨⟨_, v, h'.sq, rfl, e1⟩, fun u H'' q => ?_⟩
    obtain ⟨p, x', rfl, hp, rfl, q2⟩ := q
    have := q2 _ h'.sq
    rw [e1] at this
    cases this
    rw [Nat.zero_add]
    exact pair_new hr' hp (.d (.int _)) (.d r1)
  stops := fun F' ρ' H' ih' l i g hr' e hl => by
    cases e
    rw [enY_len] at hl
    exact ⟨_, (h.keep g.k).sq, rfl, by rw [← rl.length]; simpa using hl⟩
theorem good_enR {n : Nat} {a : Addr} (hn : ρ[n]? = some a) : Good K T (Ite K a) (refE n) F ρ H where
  goes := fun F' ρ' H' ih' l i y g hr' e hy => by
    unfold refE at e
    split at e
    · rename_i ws ho
      cases e
      obtain ⟨u, eH, ro⟩ := hr'.at (g.get hn) ho
      cases ro with
      | lst z rs =>
        obtain ⟨w, hw, rfl⟩ := enY_get _ _ _ _ hy
        obtain ⟨v, e1, r1⟩ := rs.get hw
        refine ⟨⟨_, v, .inl (.inl eH), e1⟩, fun u H'' q => ?_⟩
        obtain ⟨p, x', rfl, hp, rfl, q2⟩ := q
        have := q2 _ (.inl (.inl eH))
        rw [e1] at this
        cases this
        rw [Nat.zero_add]
        exact pair_new hr' hp (.d (.int _)) r1
    · cases e
  stops := fun F' ρ' H' ih' l i g hr' e hl => by
    unfold refE at e
    split at e
    · rename_i ws ho
      cases e
      obtain ⟨u, eH, ro⟩ := hr'.at (g.get hn) ho
      cases ro with
      | lst z rs => rw [enY_len] at hl; exact ⟨_, .inl (.inl eH), by rw [← rs.length]; exact hl⟩
    · cases e
end
section
variable {X : Cx} {T : Tb} {Wx : WX} {c : Cd} {e : Expr} {p pos tpos : Pos} {elts : List Expr} {kk : Nat}
theorem fi_en (hg : Gl X "enumerate") (hm : X.mg "enumerate" = none) (hs : starEach [e] X.env = (false, eval e X.env) :: starEach [] X.env) (h : FE X T Wx e c) : FI X T Wx (.Tuple elts kk tpos) (.Call (.Name "enumerate" p) [e] [] pos) (cEn c) :=
  PI.imp (pi_or (pi_enum hg hm (pa_cons h pa_nil hs) hs) (pi_et hg hm (pa_cons h pa_nil hs) hs)) fun σ H R q => by
    obtain ⟨F, ρ, ev, ih, hr, re, hp⟩ := q
    cases q : c ev ih with
    | no => rw [show cEn c ev ih = .no by unfold cEn; rw [q]; rfl] at hp; exact hp.elim
    | ex cc pp hh =>
      rw [show cEn c ev ih = .ex cc pp hh by unfold cEn; rw [q]; rfl] at hp
      exact .inl ⟨F, ρ, ev, ih, hr, re, by rw [q]; exact hp⟩
    | ok w h1 =>
      have hp' : Pst X.K T Wx σ F ρ H (enumOf w h1) fun ρ' H' _ src => ∀ J, Good X.K T J src F ρ' H' → R J H' := by
        rw [show cEn c ev ih = enumOf w h1 by unfold cEn; rw [q]; rfl] at hp; exact hp
      have key : ∀ ρ1 H1, Grow F ρ H ρ1 H1 → HR X.K T F ρ1 h1 H1 → Pst X.K T Wx σ F ρ1 H1 (enumOf w h1) fun ρ' H' _ src => ∀ J, Good X.K T J src F ρ' H' → R J H' := by
        intro ρ1 H1 g1 hr1
        cases e2 : enumOf w h1 with
        | no => rw [e2] at hp'; exact hp'.elim
        | ok s h2 => rw [e2] at hp'; exact fun ρ' H' g' => hp' ρ' H' (g1.trans hr1 g')
        | ex cc pp h2 => rw [e2] at hp'; exact fun ρ' H' cls dx g' => hp' ρ' H' cls dx (g1.trans hr1 g')
      cases w with
      | f n => exact .inl ⟨F, ρ, ev, ih, hr, re, by rw [q]; exact fun ρ1 H1 g1 hr1 v r => (key ρ1 H1 g1 hr1).elim⟩
      | r n =>
        refine .inl ⟨F, ρ, ev, ih, hr, re, ?_⟩
        rw [q]
        intro ρ1 H1 g1 hr1 v r
        have hp1 := key ρ1 H1 g1 hr1
        unfold enumOf at hp1
        dsimp only at hp1
        split at hp1
        · rename_i l ho
          cases r with
          | r hn =>
            obtain ⟨u, eH, ro⟩ := hr1.at hn ho
            cases ro with
            | lst z rs => exact ⟨_, _, rfl, .inl (.inl eH), hp1.ok hr1 _ (good_enR hn)⟩
        · exact hp1.elim
      | d x =>
        cases x with
        | lst l =>
          refine .inl ⟨F, ρ, ev, ih, hr, re, ?_⟩
          rw [q]
          intro ρ1 H1 g1 hr1 v r
          cases r with | d r => cases r with | lst h z rl =>
            exact ⟨_, _, rfl, h.sq, (key ρ1 H1 g1 hr1).ok hr1 _ (good_enL h rl)⟩
        | tup l =>
          refine .inr ⟨F, ρ, ev, ih, hr, re, ?_⟩
          rw [q]
          intro ρ1 H1 g1 hr1 v r
          cases r with | d r => cases r with | tup h z rl =>
            exact ⟨_, _, rfl, h.sq, (key ρ1 H1 g1 hr1).ok hr1 _ (good_enT h rl)⟩
        | _ =>
          refine .inl ⟨F, ρ, ev, ih, hr, re, ?_⟩
          rw [q]
          intro ρ1 H1 g1 hr1 v r
          exact (key ρ1 H1 g1 hr1).elim
end
end Fz
set_option Elab.async false
set_option linter.all false
set_option maxRecDepth 100000
set_option maxHeartbeats 4000000
/-! Fz: chains of comparisons; defs as values. -/
namespace Fz
open PySem PySem.W L2 PyProof.Rows

/-! ### chains -/
abbrev Ch := W → Ev → Hh → R W
def chL (op : W → W → Hh → R W) (c : Cd) : Ch := fun x e h => (c e h).bind fun y h => op x y h
def chC (op : W → W → Hh → R W) (c : Cd) (g : Ch) : Ch := fun x e h => (c e h).bind fun y h => (asB (op x y h)).bind fun k h => if k then g y e h else .ok (.d (.bl false)) h
def cChn (a : Cd) (g : Ch) : Cd := fun e h => (a e h).bind fun x h => g x e h
def bChn (a : Cd) (g : Ch) : Cb := fun e h => asB (cChn a g e h)
section
variable (X : Cx) (T : Tb) (Wx : WX)
def chOf (g : Ch) (x : V) (σ : L2.St) (H : Hp) (Q : VK) : Prop := ∃ F ρ e ih w, HR X.K T F ρ ih H ∧ RE X.K F ρ H e σ ∧ RW X.K F ρ H w x ∧ Pst X.K T Wx σ F ρ H (g w e ih) fun ρ' H' _ u => ∀ v, RW X.K F ρ' H' u v → Q v H'
def FCh (ops : List CmpOp) (es : List Expr) (g : Ch) : Prop := ∀ (pos : Pos) (pins : List (Addr × Obj)) (s : Shared) (σ : L2.St) (H : Hp) (x : V) (a : Value) (Q : VK), L2.Inv X pins σ H s → L2.RelV x a → chOf X T Wx g x σ H Q →
  wpAny (model X.prog X.w) X.A (compareChain pos a ops (evalEach es X.env)) (EP X pins σ Q) X.xe s
def FCt (ops : List CmpOp) (es : List Expr) (g : Ch) : Prop := ∀ (pos : Pos) (pins : List (Addr × Obj)) (s : Shared) (σ : L2.St) (H : Hp) (x : V) (a : Value) (Q : Bool → Hp → Prop), L2.Inv X pins σ H s → L2.RelV x a → chOf X T Wx g x σ H (fun v H' => ∃ k, v = .bl k ∧ Q k H') →
  wpAny (model X.prog X.w) X.A (testChain pos a ops (evalEach es X.env)) (fun b s' => ∃ H', L2.Inv X pins σ H' s' ∧ Q b H') X.xe s
end
section
variable {X : Cx} {T : Tb} {Wx : WX} {o o' : CmpOp} {op : W → W → Hh → R W} {e e2 : Expr} {ops : List CmpOp} {es : List Expr} {c ca : Cd} {g : Ch} {pos : Pos}
/-- the first operand behind a value -/
theorem ch_at {σ : L2.St} {H : Hp} {x : V} {f : W → W → Ev → Hh → R W} {Q : VK} (q : chOf X T Wx (fun w e h => (c e h).bind fun y h => f w y e h) x σ H Q) :
    tOf X.K T Wx c σ H fun y H1 => ∃ F ρ e ih w wy, HR X.K T F ρ ih H1 ∧ RE X.K F ρ H1 e σ ∧ RW X.K F ρ H1 w x ∧ RW X.K F ρ H1 wy y ∧ Pst X.K T Wx σ F ρ H1 (f w wy e ih) fun ρ' H' _ u => ∀ v, RW X.K F ρ' H' u v → Q v H' := by
  obtain ⟨F, ρ, ev, ih, w, hr, re, rw1, hp⟩ := q
  refine ⟨F, ρ, ev, ih, hr, re, hp.bind.mono fun ρ1 H1 ih1 wy g1 hr1 hp1 y ry => ?_⟩
  exact ⟨F, ρ1, ev, ih1, w, wy, hr1, re.grow g1 hr, rw1.grow g1 hr, ry, hp1⟩
theorem fch_one (k : Cmp X T o op) (h : FE X T Wx e c) : FCh X T Wx [o] [e] (chL op c) := by
  intro pos pins s σ H x a Q I rx q
  obtain ⟨r, k1, k2⟩ := k.ex
  refine PyProof.Rows.chain_last (thn (h.run pins s σ H _ I (ch_at (f := fun w y _ h => op w y h) q)) fun b s1 ⟨y, H1, I1, ry, q1⟩ => ?_)
  obtain ⟨F, ρ, ev, ih, w, wy, hr, re, r1, r2, hp⟩ := q1
  exact k1 pins s1 σ H1 x y a b Q I1 rx ry (k2 Wx σ F ρ ih H1 w wy x y Q hr r1 r2 hp)
theorem fct_one (k : Cmp X T o op) (h : FE X T Wx e c) : FCt X T Wx [o] [e] (chL op c) := by
  intro pos pins s σ H x a Q I rx q
  obtain ⟨r, k1, k2⟩ := k.ex
  refine PyProof.Rows.test_last (thn (h.run pins s σ H _ I (ch_at (f := fun w y _ h => op w y h) q)) fun b s1 ⟨y, H1, I1, ry, q1⟩ => ?_)
  obtain ⟨F, ρ, ev, ih, w, wy, hr, re, r1, r2, hp⟩ := q1
  refine thn (k1 pins s1 σ H1 x y a b _ I1 rx ry (k2 Wx σ F ρ ih H1 w wy x y _ hr r1 r2 hp)) fun d s2 ⟨z, H2, I2, rz, b, e, q2⟩ => ?_
  subst e
  cases rz
  exact wpAny_truthy_bool ⟨H2, I2, q2⟩
/-- behind one comparison that is True or False -/
theorem mid {σ : L2.St} {H1 : Hp} {x y : V} {r : R2} {F ρ : List Addr} {ih : Hh} {ev : Ev} {w wy : W} {Q : VK} (k2 : FOp X.K T op r) (hr : HR X.K T F ρ ih H1) (re : RE X.K F ρ H1 ev σ) (r1 : RW X.K F ρ H1 w x) (r2 : RW X.K F ρ H1 wy y)
    (hp : Pst X.K T Wx σ F ρ H1 ((asB (op w wy ih)).bind fun k h => if k then g wy ev h else .ok (.d (.bl false)) h) fun ρ' H' _ u => ∀ v, RW X.K F ρ' H' u v → Q v H') :
    r x y H1 fun z H2 => ∃ k, z = .bl k ∧ if k = true then chOf X T Wx g y σ H2 Q else Q (.bl false) H2 := by
  refine k2 Wx σ F ρ ih H1 w wy x y _ hr r1 r2 (hp.bind.bind.mono fun ρ3 H3 ih3 w3 g3 hr3 hp3 v3 r3 => ?_)
  cases r3 with
  | r _ => exact hp3.elim
  | f _ => exact hp3.elim
  | d r3 =>
    cases r3 with
    | bl k =>
      have hp4 := hp3.ok hr3
      refine ⟨k, rfl, ?_⟩
      cases k with
      | false =>
        rw [if_neg Bool.false_ne_true]
        rw [if_neg Bool.false_ne_true] at hp4
        exact hp4.ok hr3 _ (.d (.bl false))
      | true =>
        rw [if_pos rfl]
        rw [if_pos rfl] at hp4
        exact ⟨F, ρ3, ev, ih3, wy, hr3, re.grow g3 hr, r2.grow g3 hr, hp4⟩
    | _ => exact hp3.elim
theorem fch_cons (k : Cmp X T o op) (h : FE X T Wx e c) (hs : FCh X T Wx (o' :: ops) (e2 :: es) g) : FCh X T Wx (o :: o' :: ops) (e :: e2 :: es) (chC op c g) := by
  intro pos pins s σ H x a Q I rx q
  obtain ⟨r, k1, k2⟩ := k.ex
  refine PyProof.Rows.chain_link (thn (h.run pins s σ H _ I (ch_at (f := fun w y e h => (asB (op w y h)).bind fun k h => if k then g y e h else .ok (.d (.bl false)) h) q)) fun b s1 ⟨y, H1, I1, ry, q1⟩ => ?_)
  obtain ⟨F, ρ, ev, ih, w, wy, hr, re, r1, r2, hp⟩ := q1
  refine thn (k1 pins s1 σ H1 x y a b _ I1 rx ry (mid k2 hr re r1 r2 hp)) fun d s2 ⟨z, H2, I2, rz, b, e, q2⟩ => ?_
  subst e
  cases rz
  refine wpAny_truthy_bool ?_
  cases b with
  | false => rw [if_neg Bool.false_ne_true] at q2 ⊢; exact ⟨.bl false, H2, I2, rfl, q2⟩
  | true => rw [if_pos rfl] at q2 ⊢; exact hs pos pins s2 σ H2 y _ Q I2 ry q2
theorem fct_cons (k : Cmp X T o op) (h : FE X T Wx e c) (hs : FCt X T Wx (o' :: ops) (e2 :: es) g) : FCt X T Wx (o :: o' :: ops) (e :: e2 :: es) (chC op c g) := by
  intro pos pins s σ H x a Q I rx q
  obtain ⟨r, k1, k2⟩ := k.ex
  refine PyProof.Rows.test_link (thn (h.run pins s σ H _ I (ch_at (f := fun w y e h => (asB (op w y h)).bind fun k h => if k then g y e h else .ok (.d (.bl false)) h) q)) fun b s1 ⟨y, H1, I1, ry, q1⟩ => ?_)
  obtain ⟨F, ρ, ev, ih, w, wy, hr, re, r1, r2, hp⟩ := q1
  refine thn (k1 pins s1 σ H1 x y a b _ I1 rx ry (mid k2 hr re r1 r2 hp)) fun d s2 ⟨z, H2, I2, rz, b, e, q2⟩ => ?_
  subst e
  cases rz
  refine wpAny_truthy_bool ?_
  cases b with
  | false =>
    rw [if_neg Bool.false_ne_true] at q2 ⊢
    obtain ⟨k', e', q'⟩ := q2
    cases e'
    exact ⟨H2, I2, q'⟩
  | true => rw [if_pos rfl] at q2 ⊢; exact hs pos pins s2 σ H2 y _ Q I2 ry q2
theorem chn_at {σ : L2.St} {H : Hp} {Q : VK} (q : tOf X.K T Wx (cChn ca g) σ H Q) : tOf X.K T Wx ca σ H fun x H1 => chOf X T Wx g x σ H1 Q := by
  obtain ⟨F, ρ, ev, ih, hr, re, hp⟩ := q
  exact ⟨F, ρ, ev, ih, hr, re, hp.bind.mono fun ρ1 H1 ih1 w g1 hr1 hp1 y ry => ⟨F, ρ1, ev, ih1, w, hr1, re.grow g1 hr, ry, hp1⟩⟩
theorem e_chn {a : Expr} {e3 : Expr} {o2 : CmpOp} (ha : FE X T Wx a ca) (h : FCh X T Wx (o :: o2 :: ops) (e2 :: e3 :: es) g) (hm : lastMarks (o :: o2 :: ops) (e2 :: e3 :: es) = false := by with_unfolding_all rfl) :
    FE X T Wx (.Compare a (o :: o2 :: ops) (e2 :: e3 :: es) pos) (cChn ca g) :=
  ⟨fun pins s σ H Q I q => PyProof.Rows.Compare_chain (thn (ha.run pins s σ H _ I (chn_at q)) fun v s1 ⟨x, H1, I1, r1, q1⟩ => h pos pins s1 σ H1 x v Q I1 r1 q1) hm⟩
theorem t_chn {a : Expr} {e3 : Expr} {o2 : CmpOp} (ha : FE X T Wx a ca) (h : FCt X T Wx (o :: o2 :: ops) (e2 :: e3 :: es) g) (hm : lastMarks (o :: o2 :: ops) (e2 :: e3 :: es) = false := by with_unfolding_all rfl) :
    FT' X T Wx (.Compare a (o :: o2 :: ops) (e2 :: e3 :: es) pos) (bChn ca g) :=
  ⟨fun pins s σ H Q I q => by
    have q' : tTest (tOf X.K T Wx (cChn ca g)) σ H Q := tst (fun _ _ _ z => z) q
    exact PyProof.Rows.isTrue_chain (thn (ha.run pins s σ H _ I (chn_at q')) fun v s1 ⟨x, H1, I1, r1, q1⟩ => h pos pins s1 σ H1 x v Q I1 r1 q1) hm⟩
end
/-! ### defs as values -/
def cF (q : List Nat) : Cd := fun _ h => .ok (.f q) h
/-- what the defs of a table do -/
structure Tl (X : Cx) (T : Tb) (k n : Nat) (tbl : List Nat → Option (Bool × Fn)) : Prop where
  at_ : ∀ q pu g f, tbl q = some (pu, g) → fnAt X.K (toStr q) = some f → ∃ fd ps, FnG X.prog X.w X.K X.mg X.base k f fd ps (spF X.K T n g) ∧ keepIn X.K (.ref f) = true ∧ Binds X.K fd ps []
/-- x(..), x a name of this def: the def that it holds -/
def cCallV (i n : Nat) (tbl : List Nat → Option (Bool × Fn)) (a : Ca) : Cd := fun e h => match e[i]? with
  | some (some (.f q)) => match tbl q with
    | some (pu, g) => cCall pu n g a e h
    | none => .no
  | _ => .no
section
variable {X : Cx} {T : Tb} {Wx : WX} {k i n : Nat} {x : Str} {e : Expr} {es : List Expr} {aa : Ca} {p pos : Pos}
theorem e_f (q : List Nat) {a : Addr} (hf : fnAt X.K (toStr q) = some a) (hm : X.mg x = some (.ref a)) (hg : Gl X x := by rfl) (hd : (x == ("__debug__" : Str)) = false := by decide) : FE X T Wx (.Name x pos) (cF q) :=
  PE.imp (pe_glob (v := .ref a) hg hm rfl hd) fun σ H Q h => by
    obtain ⟨F, ρ, ev, ih, hr, re, hp⟩ := h
    exact hp.ok hr _ (.f hf)
theorem e_callV (i : Nat) {tbl : List Nat → Option (Bool × Fn)} (G : Cg X Wx (k + 1)) (A : Tl X T k n tbl) (ha : FA X T Wx (e :: es) aa) (hN : X.N[i]? = some x := by rfl) (hv : Vis X.env.scope x := by first | exact Or.inl rfl | exact Or.inr (Or.inl rfl) | exact Or.inr (Or.inr rfl))
    (hdb : (x == ("__debug__" : Str)) = false := by decide) (hcd : (x == ("__classdict__" : Str)) = false := by decide) (he : starEach (e :: es) X.env = (false, eval e X.env) :: starEach es X.env := by rfl) (hpl : (backTo pos (starEach es X.env)).any (·.1) = false := by rfl) :
    FE X T Wx (.Call (.Name x p) (e :: es) [] pos) (cCallV i n tbl aa) := by
  refine ⟨fun pins s σ H Q I h => ?_⟩
  obtain ⟨F, ρ, ev, ih, hr, re, hp⟩ := h
  unfold cCallV at hp
  split at hp
  · rename_i q hq
    split at hp
    · rename_i pu g ht
      obtain ⟨v, hσ, rv⟩ := re.2 i _ hq
      cases rv with
      | f hf =>
        rename_i f
        obtain ⟨fd, ps, FF, hk, hb⟩ := A.at_ q pu g f ht hf
        have h2 := clG (T := T) (Wx := Wx) (X := X) (σ := σ) (H := H) (Q := Q) ⟨F, ρ, ev, ih, hr, re, hp⟩
        refine wpAny_Call_Name_kw (thn ((pe_var (pos := p) hN hv hdb hcd).run pins s σ H (fun v H1 => v = .ref f ∧ H1 = H) I ⟨.ref f, hσ, rfl, rfl⟩) fun u s1 ⟨v, H1, I1, r1, q1⟩ => ?_)
        obtain ⟨rfl, rfl⟩ := q1
        cases r1
        refine PySem.W.callWith_K (h₀ := X.base) I.ok.mod.kin hk (thn (ha.run pos pins s1 σ _ _ I1 h2) fun us s2 ⟨vs, H2, I2, r, q⟩ => ⟨I2.kIn, ?_⟩) he hpl
        exact run_g (G.mono (Nat.le_succ k)) FF hb I2 r q
    · exact hp.elim
  · exact hp.elim
end
end Fz
set_option Elab.async false
set_option linter.all false
set_option maxRecDepth 100000
set_option maxHeartbeats 4000000
/-! Fz: l.count(x); a def called in a suite with the exception that is handled. -/
namespace Fz
open PySem PySem.W L2 PyProof.Rows

/-- how often l has an equal of x -/
def rCntD (K : PySem.W.Frag) : V → List V → Hp → VK → Prop := fun x xs H Q => ∃ (a : Addr) (y : V) (d : PyData) (ds : List PyData), x = V.ref a ∧ xs = [y] ∧ Dp K H (V.ref a) (.list ds) ∧ Dp K H y d ∧ SeqAt.shaped (.list ds) = true ∧ SeqAt.shaped d = true ∧
  Q (.int ((ds.countP fun z => PyData.eqv z d : Nat) : Int)) H
theorem mt_countD {X : Cx} (hu : X.A.units + 65 < cLine) : MtR X "list.count" (rCntD X.K) := by
  intro pins s σ H x xs v us Q I rx rxs h
  obtain ⟨a, y, d, ds, rfl, rfl, hl, hy, sl, sd, q⟩ := h
  cases rx
  obtain ⟨uy, rfl, ry⟩ := vals1 rxs
  obtain ⟨bs, r1⟩ := Dp.reads I d y uy hy ry
  have lay : PyData.canLayAll0 ds = true := SeqAt.canLay_of_shaped sl
  cases hl with
  | lst hs ha =>
    obtain ⟨its, rv, ⟨⟨cls, dd, data, sls⟩, n, ho, hc, hdn, hdt⟩, hlen⟩ := I.list hs
    simp only at hc hdt
    subst hc hdt
    obtain ⟨as, h4⟩ := Dp.readsAll I ds _ its ha rv
    have hmap : its.map (SeqAt.readOf s.heap) = ds := SeqAt.readsAll_map ds its as lay h4
    refine call_meets PySem.F.slot_list_count ⟨_, ho, rfl⟩ PySem.F.entry_list_count (PySem.F.args_list_count_2 _ _)
      (SeqAt.list_countAt a its.toArray n dd sls uy (fun u => PyData.eqv (SeqAt.readOf s.heap u) d)) ⟨ho, SeqAt.items_eqAt (vs := its.toArray) (show ReadsAll s.heap its.toArray.toList ds as from h4) r1 lay (SeqAt.canLay_of_shaped sd) (room_in_shaped sd hu), ?_⟩
    have e : its.toArray.toList.countP (fun u => PyData.eqv (SeqAt.readOf s.heap u) d) = ds.countP fun z => PyData.eqv z d := by
      rw [← hmap, List.countP_map]
      rfl
    refine ⟨.int ((ds.countP fun z => PyData.eqv z d : Nat) : Int), H, I.tok _, ⟨s.toks, ?_⟩, q⟩
    show Value.int ((its.toArray.toList.countP _ : Nat) : Int) s.toks = _
    rw [e]
def mCount (x : W) (xs : List W) (h : Hh) : R W := match xs with
  | [w] => match valD x h, valD w h with
    | some (.lst l), some y => if sh 64 (.lst l) && sh 64 y then .ok (.d (.int ((l.countP fun z => D.eqv z y : Nat) : Int))) h else .no
    | _, _ => .no
  | _ => .no
theorem fm_count {K : PySem.W.Frag} {T : Tb} : FMt K T mCount (rCntD K) := by
  intro Wx σ F ρ ih H x xs v vs Q hr r rs hp
  unfold mCount at hp
  split at hp
  · rename_i w
    split at hp
    · rename_i l y e1 e2
      split at hp
      · rename_i c
        rw [Bool.and_eq_true] at c
        cases rs with | cons rw t => cases t with | nil =>
          have dx := valD_dp hr r e1
          obtain ⟨a, rfl⟩ : ∃ a, v = V.ref a := by
            simp only [D.py] at dx
            cases dx
            exact ⟨_, rfl⟩
          refine ⟨a, _, y.py, pyL l, rfl, rfl, by simpa [D.py] using dx, valD_dp hr rw e2, by simpa [D.py] using sh_shaped c.1, sh_shaped c.2, ?_⟩
          have e : (pyL l).countP (fun z => PyData.eqv z y.py) = l.countP fun z => D.eqv z y := by
            rw [pyL_map, List.countP_map]
            refine List.countP_congr fun z _ => ?_
            show PyData.eqv z.py y.py = true ↔ _
            rw [eqv_py]
          rw [e]
          exact hp.ok hr _ (.d (.int _))
      · exact hp.elim
    · exact hp.elim
  · exact hp.elim
theorem l_count {X : Cx} {T : Tb} {Wx : WX} {k : Nat} (G : Cg X Wx k) : Lm X T "count" mCount := ⟨_, _, PySem.F.slot_list_count, PySem.F.type_list_count, mt_countD G.hu65, fm_count⟩

/-! ### a def that is called while the exception p is handled -/
open L2H
structure FnP (p : Addr × Obj) (P : Program) (w : World) (K : PySem.W.Frag) (mg : Str → Option Value) (base : Heap) (k : Nat) (f : Addr) (fd : FuncData) (ps : List Str) (sp : Sp) : Prop where
  len : ∀ vs H Q E, sp vs H Q E → vs.length = ps.length
  run : ∀ (A : Around) (outer : List Env) (s : Shared) (H : Hp) (args : Args) (us : List Value) (vs : List V) (Q : VK) (E : XK), RoomH k A → PinOk outer H s p → Env0 P w K mg base A outer s H → BindsTo s fd args (ps.zip us) → Vals vs us → sp vs H Q E →
    codeAny (model P w) A (.call (.ref f) args) (CR (L2.CX P w) outer P w H s Q E) s
theorem fnP_of {p : Addr × Obj} {P : Program} {w : World} {K : PySem.W.Frag} {mg : Str → Option Value} {base : Heap} {k : Nat} {x qual : Str} {st : Stmt} {f : Addr} {fd : FuncData} {N ps : List Str} {sp : Sp} (Fu : Fun K x qual st f fd) (S : FnScope N ps (defScope st)) (len : ∀ vs H Q E, sp vs H Q E → vs.length = ps.length)
    (hbody : ∀ (cdv : Value) (A : Around) (outer : List Env) (s : Shared) (H : Hp) (vs : List V) (Q : VK) (E : XK), RoomH k (A.deeper (envOfC qual (defScope st) s.heap.objs.size f cdv)) → sp vs H Q E →
      ∃ t, PSs (cxH (L2.CX P w) P w K mg base N qual (defScope st) f cdv A outer s H E p) (defBody st) t ∧ t { nx := fun _ H' => Q .non H', rt := Q } (L2.start N vs) H) :
    FnP p P w K mg base (k + 1) f fd ps sp := by
  obtain ⟨oc, od, kV, doc, pm, an, cdv, ct, osl, rfl, lk, hcd⟩ := Fu.ex
  refine ⟨len, fun A outer s H args us vs Q E hr hpin e0 hb r hsp => ?_⟩
  have KX : K.In s.heap := e0.mod.kin.keeps fun b o e => (e0.bs b o e).1
  have lim : s.heap.NoLimit := e0.mod.nolimit.keeps fun b o e => (e0.bs b o e).1
  refine codeAny_call_function hr.depth (KX _ _ lk) rfl S.co S.gen rfl (PySem.W.codeRec_of KX hcd) (hb _ _ _ _ ?_)
  refine wpAny_newFunctionEnv_cells S.kind (fun ⟨n, v⟩ hy => (S.par n (List.of_mem_zip hy).1).elim .inl fun q => .inr ⟨q, PySem.W.cellsFrom_some _ _ _ (.inl q)⟩) fun env he s1 x => ?_
  subst he
  refine ⟨lim.keeps x.toInCall.keep, codeAny_func ?_⟩
  obtain ⟨t, ht, hq⟩ := hbody cdv A outer s H vs Q E (hr.deeper _) hsp
  have I := inv_startH (CX := L2.CX P w) (E := E) (N := N) S hpin e0 (len _ _ _ _ hsp) r x
  refine wpAny_mono (ht.run [] s1 (L2.start N vs) H _ I hq) (fun fl s' hs => ?_) fun e s' hs => hs
  cases fl with
  | ret u =>
    obtain ⟨v, σ', H', J, rv, q⟩ := hs
    exact ⟨v, H', J.os, J.bare, J.base, J.hok, rv, q⟩
  | next =>
    obtain ⟨σ', H', J, q⟩ := hs
    exact ⟨V.non, H', J.os, J.bare, J.base, J.hok, rfl, q⟩
  | brk => exact False.elim hs.choose_spec.choose_spec.2
  | cont => exact False.elim hs.choose_spec.choose_spec.2
/-- the call f(e) -/
theorem run_fnP {Y : Cx} {a : Addr} {oe : Obj} {k : Nat} {f : Addr} {fd : FuncData} {ps : List Str} {sp : Sp} {pins : List (Addr × Obj)} {σ : L2.St} {H : Hp} {s : Shared} {Q : VK} {us : List Value} {vs : List V} (F : FnP (a, oe) Y.prog Y.w Y.K Y.mg Y.base k f fd ps sp) (hr : RoomH k Y.A) (hpn : (a, oe) ∈ Y.pn) (hb : Binds Y.K fd ps [])
    (I : L2.Inv Y pins σ H s) (r : Vals vs us) (hx : ∀ e s', ¬ L2.CX Y.prog Y.w Y.stack H s (fun _ _ _ => False) e s') (h : sp vs H Q fun _ _ _ => False) : wpAny (model Y.prog Y.w) Y.A (call (.ref f) us) (EP Y pins σ Q) Y.xe s := by
  have hl : us.length = ps.length := by rw [← r.length]; exact F.len _ _ _ _ h
  have b := hb s us I.kIn (by rw [List.append_nil]; exact hl)
  rw [List.append_nil] at b
  have P1 := I.pin (a, oe) (List.mem_append_left _ hpn)
  have hpin : PinOk Y.stack H s (a, oe) := ⟨P1.1, P1.2.1, fun hm => (List.mem_cons.mp (I.stkSub a hm)).elim P1.2.2.1 P1.2.2.2.1, P1.2.2.2.2⟩
  refine wpAny_call (codeAny_mono (F.run Y.A Y.stack s H ⟨us, []⟩ us vs Q _ hr hpin I.env0 b r h) fun r s' hq => ?_)
  cases r with
  | error e => exact (hx e s' hq).elim
  | ok fl =>
    cases fl with
    | ret u => exact I.after hq
    | next => exact False.elim hq
    | brk => exact False.elim hq
    | cont => exact False.elim hq
end Fz
set_option Elab.async false
set_option linter.all false
set_option maxRecDepth 100000
set_option maxHeartbeats 4000000
/-! Fz: the word for a caught exception: heads[found.index(True)] + error.field. -/
namespace Fz
open PySem PySem.W L2 PyProof.Rows L2H

/-- the exception, and two lists behind it -/
def Cw (a dd : Addr) (fld : Str) (ws : List Str) (bs : List Bool) (v : V) (σ : L2.St) (H : Hp) : Prop := ∃ p1 p2 : Addr, σ = [some (.ref a), some (.ref p1), some (.ref p2)] ∧ H dd = some (.xd [(fld, v)]) ∧ H p1 = some (.lst (ws.map V.str)) ∧ H p2 = some (.lst (bs.map V.bl))
theorem dp_bls {K : PySem.W.Frag} {H : Hp} : ∀ bs : List Bool, DpAll K H (bs.map V.bl) (bs.map PyData.bool)
  | [] => .nil
  | b :: bs => .cons (.bl b) (dp_bls bs)
theorem lay_bls : ∀ bs : List Bool, PyData.canLayAll0 (bs.map PyData.bool) = true ∧ PyData.depthAll (bs.map PyData.bool) = 0
  | [] => by simp [PyData.canLayAll0, PyData.depthAll]
  | b :: bs => by
    have := lay_bls bs
    simp [PyData.canLayAll0, PyData.depthAll, PyData.canLay0, PyData.depth, this.1, this.2]
theorem shaped_bls (bs : List Bool) : SeqAt.shaped (.list (bs.map PyData.bool)) = true := by
  have := lay_bls bs
  simp [SeqAt.shaped, PyData.canLay0, PyData.depth, this.1, this.2]
theorem shaped_bl (b : Bool) : SeqAt.shaped (.bool b) = true := by simp [SeqAt.shaped, PyData.canLay0, PyData.depth]
section
variable {Y : Cx} {a D : Addr} {oe : Obj} {dd : Addr} {fld : Str} {ws : List Str} {bs : List Bool} {es : List Expr} {e t : Expr} {pos p q apos cpos : Pos} {k j : Nat} {x : Str}
inductive StrEs : List Expr → List Str → Prop
  | nil : StrEs [] []
  | cons {x : Str} {k : Nat} {pos : Pos} {es : List Expr} {ws : List Str} : StrEs es ws → StrEs (.Constant (.str x) k pos :: es) (x :: ws)
theorem pa_strs : ∀ {es : List Expr} {ws : List Str}, StrEs es ws → PA Y es (fun σ H Q => Q (ws.map V.str) H)
  | _, _, .nil => ⟨fun pos pins s σ H Q I h => pa_nil.run pos pins s σ H Q I h⟩
  | _, _, .cons (x := x) (ws := ws) r => ⟨fun pos pins s σ H Q I h => (pa_cons (X := Y) pe_str (pa_strs r) rfl).run pos pins s σ H Q I h⟩
/-- isinstance(error, C), ..: their answers -/
inductive IsEs (Y : Cx) (a dd : Addr) (fld : Str) : List Expr → List Bool → Prop
  | nil : IsEs Y a dd fld [] []
  | cons {e : Expr} {b : Bool} {es : List Expr} {bs : List Bool} : KV Y a 0 dd fld e (fun _ => some (.bl b)) → starEach (e :: es) Y.env = (false, eval e Y.env) :: starEach es Y.env → IsEs Y a dd fld es bs → IsEs Y a dd fld (e :: es) (b :: bs)
theorem pa_is : ∀ {es : List Expr} {bs : List Bool}, IsEs Y a dd fld es bs → PA Y es (fun σ H Q => (∃ v, Cn 0 a dd fld v σ H) ∧ Q (bs.map V.bl) H)
  | _, _, .nil => ⟨fun pos pins s σ H Q I h => pa_nil.run pos pins s σ H Q I h.2⟩
  | _, _, .cons (b := b) h hs r => ⟨fun pos pins s σ H Q I hh => (pa_cons h (pa_is r) hs).run pos pins s σ H Q I (by
      obtain ⟨⟨v, c⟩, q⟩ := hh
      exact ⟨v, .bl b, c, rfl, ⟨v, c⟩, q⟩)⟩
theorem cn_of {v : V} {σ : L2.St} {H : Hp} (c : Cw a dd fld ws bs v σ H) : Cn 0 a dd fld v σ H := by
  obtain ⟨p1, p2, rfl, hd, _, _⟩ := c
  exact ⟨rfl, hd⟩
/-- the answer's text -/
theorem word_val {head : Str} {i : Nat} (hu : Y.A.units + 65 < cLine) (hN1 : Y.N[1]? = some ("heads" : Str)) (hN2 : Y.N[2]? = some ("found" : Str)) (v1 : Vis Y.env.scope "heads") (v2 : Vis Y.env.scope "found") (hi : bs[i]? = some true) (hno : ∀ m, m < i → bs[m]? = some false) (hw : ws[i]? = some head)
    (hf : KV Y a 0 dd fld e some) (hbF : attributeBase (.Name "found" p) "index" Y.env (eval (.Name "found" p) Y.env) = eval (.Name "found" p) Y.env)
    (hfew : ((backTo cpos (starEach [.Constant (.bool true) k q] Y.env)).all (fun x => !x.1) && (backToKw cpos (keywordEach [] Y.env)).all (fun x => x.1.isSome) && decide (([.Constant (.bool true) k q] : List Expr).length + ([] : List Keyword).length + (if ([] : List Keyword).isEmpty then 0 else 1) < 30)) = true)
    (hline : (apos.endLine == cpos.line) = true) (hs : starEach [.Constant (.bool true) k q] Y.env = (false, eval (.Constant (.bool true) k q) Y.env) :: starEach [] Y.env) {pos1 pos2 : Pos}
    (hpl : PlainIx (.Call (.Attribute (.Name "found" p) "index" apos) [.Constant (.bool true) k q] [] cpos)) :
    PE Y (.BinOp (.Subscript (.Name "heads" pos1) (.Call (.Attribute (.Name "found" p) "index" apos) [.Constant (.bool true) k q] [] cpos) pos2) .Add e pos)
      (fun σ H Q => ∃ s : Str, head.length + s.length ≤ sizeLine ∧ Cw a dd fld ws bs (.str s) σ H ∧ Q (.str (head ++ s)) H) := by
  have p1 : PE Y (.Call (.Attribute (.Name "found" p) "index" apos) [.Constant (.bool true) k q] [] cpos) _ := pe_bm PySem.F.plainAttrs_list PySem.F.slot_list_index PySem.F.type_list_index (mt_indexD hu) (pe_var hN2 v2 (by decide) (by decide)) (pa_cons pe_bl pa_nil hs) hbF hfew hline hs rfl
  refine PE.imp (pe_op op_add_str (pe_ix ix_list (pe_var hN1 v1 (by decide) (by decide)) p1 hpl) hf) fun σ H Q hh => ?_
  obtain ⟨s, hz, c, qq⟩ := hh
  obtain ⟨p1, p2, rfl, hd, h1, h2⟩ := id c
  refine ⟨.ref p1, rfl, .ref p2, rfl, .inl ⟨rfl, _, .inl (.inl h2)⟩, ?_⟩
  unfold L2.tCons tC L2.tNil
  refine ⟨p2, .bl true, .bool true, bs.map PyData.bool, i, .bool true, rfl, rfl, .lst (.inl (.inl h2)) (dp_bls bs), .bl true, shaped_bls bs, shaped_bl true, by rw [List.getElem?_map, hi]; rfl, by simp [PyData.eqv], fun m z' hm hz' => ?_, ?_⟩
  · rw [List.getElem?_map, hno m hm] at hz'
    cases hz'
    simp [PyData.eqv]
  · have e1 : L2.atI (ws.map V.str) ((i : Nat) : Int) = some (.str head) := atI_at (by rw [List.getElem?_map, hw]; rfl)
    exact ⟨p1, ws.map V.str, i, .str head, rfl, rfl, .inl (.inl h1), e1, .str s, .str s, cn_of c, rfl, head, s, rfl, rfl, hz, qq⟩
theorem count_one {bs : List Bool} {i : Nat} (hi : bs[i]? = some true) (h1 : bs.count true = 1) : ((bs.map PyData.bool).countP fun z => PyData.eqv z (.bool true)) = 1 := by
  rw [List.countP_map, ← h1]
  unfold List.count
  refine List.countP_congr fun b _ => ?_
  cases b <;> simp [PyData.eqv]
/-- found.count(True) == 1 -/
theorem word_one {i : Nat} (hu : Y.A.units + 65 < cLine) (hN2 : Y.N[2]? = some ("found" : Str)) (v2 : Vis Y.env.scope "found") (hi : bs[i]? = some true) (h1 : bs.count true = 1)
    (hbF : attributeBase (.Name "found" p) "count" Y.env (eval (.Name "found" p) Y.env) = eval (.Name "found" p) Y.env)
    (hfew : ((backTo cpos (starEach [.Constant (.bool true) k q] Y.env)).all (fun x => !x.1) && (backToKw cpos (keywordEach [] Y.env)).all (fun x => x.1.isSome) && decide (([.Constant (.bool true) k q] : List Expr).length + ([] : List Keyword).length + (if ([] : List Keyword).isEmpty then 0 else 1) < 30)) = true)
    (hline : (apos.endLine == cpos.line) = true) (hs : starEach [.Constant (.bool true) k q] Y.env = (false, eval (.Constant (.bool true) k q) Y.env) :: starEach [] Y.env) {pos2 : Pos} (hm : behindInMarks .Eq (.Constant (.int 1) j pos2) = false) :
    PT Y (.Compare (.Call (.Attribute (.Name "found" p) "count" apos) [.Constant (.bool true) k q] [] cpos) [.Eq] [.Constant (.int 1) j pos2] pos) (fun σ H Q => (∃ v, Cw a dd fld ws bs v σ H) ∧ Q true H) := by
  have p1 : PE Y (.Call (.Attribute (.Name "found" p) "count" apos) [.Constant (.bool true) k q] [] cpos) _ := pe_bm PySem.F.plainAttrs_list PySem.F.slot_list_count PySem.F.type_list_count (mt_countD hu) (pe_var hN2 v2 (by decide) (by decide)) (pa_cons pe_bl pa_nil hs) hbF hfew hline hs rfl
  refine PT.imp (pt_cmpR op_eq p1 pe_int hm) fun σ H Q hh => ?_
  obtain ⟨⟨v, c⟩, qq⟩ := hh
  obtain ⟨p1, p2, rfl, hd, h1', h2⟩ := id c
  refine ⟨.ref p2, rfl, .inl ⟨rfl, _, .inl (.inl h2)⟩, ?_⟩
  unfold L2.tCons tC L2.tNil
  refine ⟨p2, .bl true, .bool true, bs.map PyData.bool, rfl, rfl, .lst (.inl (.inl h2)) (dp_bls bs), .bl true, shaped_bls bs, shaped_bl true, ?_⟩
  rw [count_one hi h1]
  exact ⟨rfl, true, by rw [show decide (V.int ((1 : Nat) : Int) = V.int 1) = true from decide_eq_true rfl], qq⟩
/-- the whole body -/
theorem word_body {ve : Expr} {head : Str} {i : Nat} {o1 e2 e3 : Expr} {es2 : List Expr} {p1 p2 p3 : Pos} {pl1 pl2 : Pos} (hnd : Y.N.Nodup) (hN : Y.N = ([("error" : Str), "heads", "found"] : List Str)) (L1 : Y.env.scope.names.lookup ("heads" : Str) = some .local) (L2 : Y.env.scope.names.lookup ("found" : Str) = some .local)
    (h1 : StrEs es ws) (h2 : IsEs Y a dd fld es2 bs) (hsw1 : swapsWith (.List es pl1) (some (.Name "heads" p1)) p2.line Y.env = pure false) (hsw2 : swapsWith (.List es2 pl2) (some (.Name "found" p3)) q.line Y.env = pure false) (hwl : ws.length ≤ 100) (hbl : bs.length ≤ 100)
    (hT : PT Y o1 (fun σ H Q => (∃ v, Cw a dd fld ws bs v σ H) ∧ Q true H)) (hV : KV Y a 0 dd fld ve (fun _ => some (.bl true))) (hVt : ∀ whole, isTrue ve Y.env whole = (do let v ← whole; standAt ve.pos; holding [v] (truthy v)))
    (hA : PE Y e2 (fun σ H Q => ∃ s : Str, head.length + s.length ≤ sizeLine ∧ Cw a dd fld ws bs (.str s) σ H ∧ Q (.str (head ++ s)) H)) {te3 : TE} (hE : PE Y e3 te3) {pb pif pr : Pos} :
    PSs Y [.Assign [.Name "heads" p1] (.List es pl1) p2, .Assign [.Name "found" p3] (.List es2 pl2) q, .Return (some (.IfExp (.BoolOp .And [o1, ve] pb) e2 e3 pif)) pr]
      (fun D σ H => ∃ s : Str, σ = [some (.ref a), none, none] ∧ H dd = some (.xd [(fld, .str s)]) ∧ head.length + s.length ≤ sizeLine ∧ ∀ H', More H H' → D.rt (.str (head ++ s)) H') := by
  have hN0 : Y.N[1]? = some ("heads" : Str) := by rw [hN]; rfl
  have hN2 : Y.N[2]? = some ("found" : Str) := by rw [hN]; rfl
  refine PSs.imp (pss_cons (ps_set (i := 1) hnd hN0 (.inl L1) (pe_lst (pa_strs h1)) hsw1 (.inr L1)) (pss_cons (ps_set (i := 2) hnd hN2 (.inl L2) (pe_lst (pa_is h2)) hsw2 (.inr L2)) (pss_one (ps_ret (pe_ifExp (PW.pt (pw_and hT (pw_and1 (kb_v hVt hV)))) hA hE))))) fun Z σ H hh => ?_
  obtain ⟨s, rfl, hd, hz, qq⟩ := hh
  refine ⟨by rw [List.length_map, sizeLine_eq]; omega, fun r1 n1 => ?_⟩
  have m1 : More H (upd H r1 (.lst (ws.map V.str))) := More.new n1
  refine ⟨⟨.str s, rfl, m1 _ _ hd⟩, by rw [List.length_map, sizeLine_eq]; omega, fun r2 n2 => ?_⟩
  have m2 : More (upd H r1 (.lst (ws.map V.str))) (upd (upd H r1 (.lst (ws.map V.str))) r2 (.lst (bs.map V.bl))) := More.new n2
  have c : Cw a dd fld ws bs (.str s) [some (.ref a), some (.ref r1), some (.ref r2)] (upd (upd H r1 (.lst (ws.map V.str))) r2 (.lst (bs.map V.bl))) :=
    ⟨r1, r2, rfl, m2 _ _ (m1 _ _ hd), m2 _ _ upd_same, upd_same⟩
  refine ⟨⟨_, c⟩, iteT ?_⟩
  refine ⟨.str s, true, cn_of c, rfl, iteT ?_⟩
  exact ⟨s, hz, c, qq _ (m1.trans m2)⟩
end
end Fz
set_option Elab.async false
set_option linter.all false
set_option maxRecDepth 100000
set_option maxHeartbeats 4000000
/-! Fz: more rules with premises filled by rfl. -/
namespace Fz
open PySem PySem.W L2 PyProof.Rows
section
variable {X : Cx} {T : Tb} {Wx : WX} {k n : Nat} {e a b c o : Expr} {es : List Expr} {ca cb cd co : Cd} {aa : Ca} {pos p p1 p2 apos cpos tpos : Pos} {x y z m : Str}
theorem fop_ipI {K : PySem.W.Frag} {T : Tb} {g : Int → Int → Int} : FOp K T (opI g fun _ _ => true) (ipI g) := by
  intro Wx σ F ρ ih H x y v1 v2 Q hr r1 r2 hp
  unfold opI at hp
  split at hp
  · rw [if_pos rfl] at hp
    cases r1 with | d r1 => cases r2 with | d r2 => cases r1; cases r2; exact ⟨_, _, rfl, rfl, hp.ok hr _ (.d (.int _))⟩
  · exact hp.elim
def opAddI : W → W → Hh → R W := opI (· + ·) fun _ _ => true
/-- how an operator changes a name -/
structure Ip (X : Cx) (T : Tb) (op : Operator) (opf : W → W → Hh → R W) : Prop where
  ex : ∃ ti : TIp, PIp X op ti ∧ FOp X.K T opf ti
theorem ip_addI : Ip X T .Add opAddI := ⟨_, ip_add, fop_ipI⟩
theorem ip_subI : Ip X T .Sub opSub := ⟨_, ip_sub, fop_ipI⟩
theorem s_aug {op : Operator} {opf : W → W → Hh → R W} (i : Nat) (G : Cg X Wx k) (h : Ip X T op opf) (he : FE X T Wx e ca) (hi : X.N[i]? = some x := by rfl) (hx : Loc X.env.scope x := by first | exact .inl rfl | exact .inr rfl)
    (hf : X.fn x = true ∨ X.env.scope.names.lookup x = some .local := by first | exact .inl rfl | exact .inr rfl) : FS X T Wx (.AugAssign (.Name x p) op e pos) (sAug i opf ca) := by
  obtain ⟨ti, h1, h2⟩ := h.ex
  exact fs_aug h2 (fun te hte => ps_aug G.nd hi hx hte h1 hf) he
/-- a field of instances: its number, its name -/
structure Fl (K : PySem.W.Frag) (T : Tb) (fl : Nat) (f : Str) : Prop where
  nm : T.fld fl = f
  inj : ∀ i, T.fld i = T.fld fl → i = fl
  cl : ∀ c, Cls K (T.cad c)
  na : ∀ c, NoAttr K (T.cad c) f
theorem e_fld {fl : Nat} (h : Fl X.K T fl x) (ho : FE X T Wx o co) (hb : attributeBase o x X.env (eval o X.env) = eval o X.env := by rfl) : FE X T Wx (.Attribute o x pos) (cFld fl co) := by
  obtain ⟨rfl, inj, cl, na⟩ := h
  exact fe_fld inj cl na hb ho
theorem s_fld {fl : Nat} (h : Fl X.K T fl x) (he : FE X T Wx e ca) (ho : FE X T Wx o co) (hs : swapsWith e (some (.Attribute o x p)) pos.line X.env = pure false := by rfl) : FS X T Wx (.Assign [.Attribute o x p] e pos) (Fz.sFld fl co ca) := fs_fld h.nm h.inj h.cl h.na hs ho he
structure Io (X : Cx) (T : Tb) (op : Operator) (opf : W → W → Hh → R W) : Prop where
  ex : ∃ rd : V → V → Hp → VK → Prop, InOp X op rd ∧ FOp X.K T opf rd
theorem io_add : Io X T .Add opAddI := ⟨_, in_add, fop_I0⟩
theorem io_sub : Io X T .Sub opSub := ⟨_, in_sub, fop_I0⟩
theorem s_fldAug {op : Operator} {opf : W → W → Hh → R W} {fl : Nat} (h : Fl X.K T fl x) (hop : Io X T op opf) (ho : FE X T Wx o co) (he : FE X T Wx e ca) : FS X T Wx (.AugAssign (.Attribute o x tpos) op e pos) (sFldAug' fl opf co ca) := by
  obtain ⟨rd, h1, h2⟩ := hop.ex
  exact fs_fldAug h.nm h.inj h.cl h.na h1 h2 ho he
end
/-! ### dict(pairs), sorted(dict) -/
def pairsD : List D → Option (List (D × D))
  | [] => some []
  | .tup [k, v] :: r => if k.isK then (pairsD r).map ((k, v) :: ·) else none
  | _ :: _ => none
def biDict (ws : List W) (h : Hh) : R W := match ws with
  | [w] => match lstW w h with
    | some wl => match (allD wl).bind pairsD with
      | some ps => if ps.length ≤ 16777216 then .ok (.r h.length) (h ++ [.dk (mergeD [] (ps.map fun p => (p.1, .d p.2)))]) else .no
      | none => .no
    | none => .no
  | _ => .no
theorem pairsD_at {K : PySem.W.Frag} {F ρ : List Addr} {H : Hp} : ∀ {l : List D} {ps : List (D × D)} {vs : List V}, pairsD l = some ps → RpL K (F ++ ρ) H l vs →
    ∃ (as : List Addr) (ks : List (Key × V)), vs = as.map V.ref ∧ Paired (fun p kv => SqT K H p [kV kv.1, kv.2]) as ks ∧ RD K F ρ H kOf D.isK (ps.map fun p => (p.1, W.d p.2)) ks
  | [], ps, vs, e, r => by
    cases r
    simp [pairsD] at e
    subst e
    exact ⟨[], [], rfl, .nil, .nil⟩
  | d :: l, ps, vs, e, r => by
    cases r with | cons a b =>
    unfold pairsD at e
    split at e
    · rename_i e0; cases e0
    · rename_i k v r' e0
      cases e0
      split at e
      · rename_i hk
        rw [Option.map_eq_some_iff] at e
        obtain ⟨ps', e1, rfl⟩ := e
        obtain ⟨as, ks, rfl, h1, h2⟩ := pairsD_at e1 b
        cases a with | tup ft z rl =>
          cases rl with | cons r1 r2 => cases r2 with | cons r2 r3 => cases r3 with | nil =>
            have ek := key_v hk (.d r1 : RW K F ρ H (.d k) _)
            subst ek
            exact ⟨_ :: as, (kOf k, _) :: ks, rfl, .cons ft.sq h1, .cons ⟨⟨rfl, hk⟩, .d r2⟩ h2⟩
      · cases e
    · cases e
theorem fc_dict {K : PySem.W.Frag} {T : Tb} : FCl K T biDict (fun xs H Q => ∃ (a : Addr) (ps : List Addr) (kvs : List (Key × V)), xs = [.ref a] ∧ SqL K H a (ps.map V.ref) ∧ Paired (fun p kv => SqT K H p [kV kv.1, kv.2]) ps kvs ∧
    ∀ p, H p = none → Q (.ref p) (upd H p (.dK (mergeK [] kvs)))) := by
  intro Wx σ F ρ ih H xs vs Q hr rs hp
  unfold biDict at hp
  split at hp
  · cases rs with | cons r t => cases t with | nil =>
      split at hp
      · rename_i wl e3
        split at hp
        · rename_i ps e
          rw [Option.bind_eq_some_iff] at e
          obtain ⟨l, e2, e4⟩ := e
          split at hp
          · rename_i hz
            obtain ⟨a, us, rfl, s, rs, _⟩ := lstW_at hr r e3
            have rl := allD_rp e2 rs
            obtain ⟨as, ks, rfl, h1, h2⟩ := pairsD_at e4 rl
            refine ⟨a, as, ks, rfl, .inl s, h1, fun p np => ?_⟩
            have g : Grow F ρ H (ρ ++ [p]) (upd H p (.dK (mergeK [] ks))) := grow_add np
            have rd : RD K F ρ H kOf D.isK (mergeD [] (ps.map fun p => (p.1, W.d p.2))) (mergeK [] ks) := RD.merge h2 .nil
            have hr2 := hr.add (o := .dk (mergeD [] (ps.map fun p => (p.1, W.d p.2)))) (u := .dK (mergeK [] ks)) np (.dk (rd_dk (RD.kp (Grow.keepM g hr) (fun _ _ q => g.get q) rd)))
            exact hp _ _ g hr2 _ (.r (get_last hr.len))
          · exact hp.elim
        · exact hp.elim
      · exact hp.elim
  · exact hp.elim
/-- the keys of a dict, all whole numbers -/
def keysI : List (D × W) → Option (List Int)
  | [] => some []
  | (.int i, _) :: r => (keysI r).map (i :: ·)
  | _ :: _ => none
def leI (a b : Int) : Bool := decide (a ≤ b)
def biSortK (m : Bool) (ws : List W) (h : Hh) : R W := match ws with
  | [.r n] => match h[n]? with
    | some (.dk l) => match keysI l with
      | some ks => if ks.length < 64 then fin m ((isort leI ks).map fun i => .d (.int i)) h else .no
      | none => .no
    | _ => .no
  | _ => .no
theorem keysI_at {K : PySem.W.Frag} {F ρ : List Addr} {H : Hp} : ∀ {l : List (D × W)} {is : List Int} {kvs : List (Key × V)}, keysI l = some is → RD K F ρ H kOf D.isK l kvs → kvs.map (·.1) = is.map Sum.inl
  | [], is, kvs, e, r => by cases r; simp [keysI] at e; subst e; rfl
  | (d, w) :: l, is, kvs, e, r => by
    cases r with
    | @cons _ b _ bs a t =>
      unfold keysI at e
      split at e
      · rename_i e0; cases e0
      · rename_i i w' r' e0
        cases e0
        rw [Option.map_eq_some_iff] at e
        obtain ⟨is', e1, rfl⟩ := e
        rw [List.map_cons, List.map_cons, keysI_at e1 t, a.1.1]
        rfl
      · cases e
theorem isort_eq {ks ns : List Int} (p : ns.Perm ks) (s : ns.Pairwise (· ≤ ·)) : ns = isort leI ks := by
  have e := isort_merge (le := leI) (by intro a b c; simp [leI]; omega) (by intro a b; simp [leI]; omega) ks
  rw [← e]
  refine (p.trans (List.mergeSort_perm ks leI).symm).eq_of_pairwise (le := (· ≤ ·)) (fun a b _ _ h1 h2 => by omega) s ?_
  exact (List.pairwise_mergeSort (le := leI) (by intro a b c; simp [leI]; omega) (by intro a b; simp [leI]; omega) ks).imp fun h => by simpa [leI] using h
theorem RWs.ints {K : PySem.W.Frag} {F ρ : List Addr} {H : Hp} : ∀ l : List Int, RWs K F ρ H (l.map fun i => W.d (.int i)) (l.map V.int)
  | [] => .nil
  | i :: l => .cons (.d (.int i)) (RWs.ints l)
theorem fc_sortK {K : PySem.W.Frag} {T : Tb} {m : Bool} : FCl K T (biSortK m) (fun xs H Q => ∃ (a : Addr) (kvs : List (Key × V)) (ks : List Int), xs = [.ref a] ∧ Rd H a (.dK kvs) ∧ kvs.map (·.1) = ks.map Sum.inl ∧ ks.length < 64 ∧
    ∀ (ys : List Int) (p : Addr), ys.Perm ks → ys.Pairwise (· ≤ ·) → H p = none → Q (.ref p) (upd H p (.lst (ys.map V.int)))) := by
  intro Wx σ F ρ ih H xs vs Q hr rs hp
  unfold biSortK at hp
  split at hp
  · rename_i n
    cases rs with | cons r t => cases t with | nil =>
      split at hp
      · rename_i l ho
        split at hp
        · rename_i ks e
          split at hp
          · rename_i hl
            cases r with | r hn =>
              obtain ⟨u, eH, ro⟩ := hr.at hn ho
              cases ro with | dk rs =>
                refine ⟨_, _, ks, rfl, .inl eH, keysI_at e (dk_rd rs), hl, fun ys p p1 p2 np => ?_⟩
                rw [isort_eq p1 p2]
                exact fin_ok hr (RWs.ints _) np hp
          · exact hp.elim
        · exact hp.elim
      · exact hp.elim
  · exact hp.elim
section
variable {X : Cx} {T : Tb} {Wx : WX} {k : Nat}
theorem u_dict (G : Cg X Wx k) : Bi X T "dict" biDict := ⟨.inr ⟨_, _, call_dictP G.calm, fc_dict, by decide +kernel⟩, by decide, by decide⟩
theorem u_sortK (m : Bool) (G : Cg X Wx k) : Bi X T "sorted" (biSortK m) := ⟨.inl ⟨_, _, call_sortedDI G.calm, fc_sortK, by decide +kernel⟩, by decide, by decide⟩
end
end Fz
set_option Elab.async false
set_option linter.all false
set_option maxRecDepth 100000
set_option maxHeartbeats 4000000
/-! Fz: exceptions, tables, walks: rules with premises filled by rfl. -/
namespace Fz
open PySem PySem.W L2 PyProof.Rows L2H
section
variable {X : Cx} {T : Tb} {Wx : WX} {k n : Nat} {e a b c o : Expr} {es elts : List Expr} {ca cb cd co : Cd} {aa : Ca} {pos p p1 p2 apos cpos tpos : Pos} {x y z m : Str} {kk : Nat}
theorem i_en (hm : X.mg "enumerate" = none) (h : FE X T Wx e ca) (hg : Gl X "enumerate" := by rfl) (hs : starEach [e] X.env = (false, eval e X.env) :: starEach [] X.env := by rfl) : FI X T Wx (.Tuple elts kk tpos) (.Call (.Name "enumerate" p) [e] [] pos) (cEn ca) := fi_en hg hm hs h
theorem s_raise {P : Program} {fI : Addr} {fld par tx : Str} {st : Stmt} {fd : FuncData} (c : Nat) (G : Cg X Wx (k + 2)) (xc : Xc X.prog X.K X.mg (T.xad c) fI fld par tx st fd) (bnd : ∀ us : List Value, us.length = 2 → bindArgs fd ⟨us, []⟩ = pure (([("self" : Str), par] : List Str).zip us)) (hf : T.efl c = fld) (hm : X.mg x = some (.ref (T.xad c)))
    (he : FE X T Wx e ca) (hg : Gl X x := by rfl) (hdb : (x == ("__debug__" : Str)) = false := by decide) (hst : starEach [e] X.env = (false, eval e X.env) :: starEach [] X.env := by rfl) :
    FS X T Wx (.Raise (some (.Call (.Name x p) [e] [] pos)) none p1) (sRaise c ca) := fs_raise G xc bnd hf hg hm he hdb hst
end
/-! tables of defs -/
structure Tl' (P : Program) (w : World) (K : PySem.W.Frag) (mg : Str → Option Value) (base : Heap) (T : Tb) (k n : Nat) (tbl : List Nat → Option (Bool × Fn)) : Prop where
  at_ : ∀ q pu g f, tbl q = some (pu, g) → fnAt K (toStr q) = some f → ∃ fd ps, FnG P w K mg base k f fd ps (spF K T n g) ∧ keepIn K (.ref f) = true ∧ Binds K fd ps []
section
variable {X : Cx} {T : Tb} {Wx : WX} {k n : Nat} {e : Expr} {es : List Expr} {aa : Ca} {pos p : Pos} {x : Str}
theorem e_cv (i : Nat) {tbl : List Nat → Option (Bool × Fn)} (G : Cg X Wx (k + 1)) (A : Tl' X.prog X.w X.K X.mg X.base T k n tbl) (ha : FA X T Wx (e :: es) aa) (hN : X.N[i]? = some x := by rfl) (hv : Vis X.env.scope x := by first | exact Or.inl rfl | exact Or.inr (Or.inl rfl) | exact Or.inr (Or.inr rfl))
    (hdb : (x == ("__debug__" : Str)) = false := by decide) (hcd : (x == ("__classdict__" : Str)) = false := by decide) (he : starEach (e :: es) X.env = (false, eval e X.env) :: starEach es X.env := by rfl) (hpl : (backTo pos (starEach es X.env)).any (·.1) = false := by rfl) :
    FE X T Wx (.Call (.Name x p) (e :: es) [] pos) (cCallV i n tbl aa) := e_callV i G ⟨A.at_⟩ ha hN hv hdb hcd he hpl
end
/-! suites -/
/-- the answer: a text, the payload behind it -/
def sPay (p : List Nat) (x : D) : Option D := match x with
  | .str l => if p.length + l.length ≤ 1000000 then some (.str (p ++ l)) else none
  | .int i => if p.isEmpty then some (.int i) else none
  | _ => none
def sTxt (p : List Nat) (x : D) : Option D := match x with
  | .str l => some (.str p)
  | .int i => some (.str p)
  | _ => none
theorem suf_pay {su : Nat → D → Option D} {c : Nat} {f : V → Option V} (p : List Nat) (hs : ∀ x, su c x = sPay p x) (h1 : ∀ s : Str, p.length + s.length ≤ 1000000 → f (.str s) = some (.str (toStr p ++ s))) (h2 : p.isEmpty = true → ∀ i, f (.int i) = some (.int i)) : SuF su c f := by
  intro x y v e s
  rw [hs] at e
  cases s with
  | non => cases e
  | bl b => cases e
  | int i =>
    unfold sPay at e
    dsimp only at e
    split at e
    · rename_i hp
      cases e
      exact ⟨_, h2 hp i, .int i⟩
    · cases e
  | str l z =>
    unfold sPay at e
    dsimp only at e
    split at e
    · rename_i hz
      cases e
      refine ⟨_, h1 (toStr l) (by rw [toStr_len]; exact hz), ?_⟩
      rw [str_app]
      exact .str _ (by rw [List.length_append, sizeLine_eq]; omega)
    · cases e
theorem suf_txt {su : Nat → D → Option D} {c : Nat} {f : V → Option V} (p : List Nat) (hs : ∀ x, su c x = sTxt p x) (hp : p.length ≤ 1000) (h : ∀ v, f v = some (.str (toStr p))) : SuF su c f := by
  intro x y v e s
  rw [hs] at e
  cases s with
  | non => cases e
  | bl b => cases e
  | int i => cases e; exact ⟨_, h _, .str p (by rw [sizeLine_eq]; omega)⟩
  | str l z => cases e; exact ⟨_, h _, .str p (by rw [sizeLine_eq]; omega)⟩
section
variable {Y : Cx} {a D : Addr} {oe : Obj} {i : Nat} {dd : Addr} {fld x n : Str} {e : Expr} {p q r pos : Pos}
theorem rel_ref {b : Addr} : ∀ u, L2.RelV (.ref b) u → u = .ref b := fun _ h => h
theorem rel_ty {t : String} : ∀ u, L2.RelV (.ty t) u → u = .type t := fun _ h => h
/-- isinstance(n, x), x an own class -/
theorem k_isiC {C : Addr} {b : Bool} (Ex : ExcC Y.K D) (hpn : (a, oe) ∈ Y.pn) (hz : Zc (.ref D) (some dd) oe) (hf : ∃ vs, oe.data = .fields vs) (hk : kitOne Y.K (.ref D) (.ref C) = some b) (hm : Y.mg "isinstance" = none) (hmx : Y.mg x = some (.ref C)) (hN : Y.N[i]? = some n := by rfl) (hv : Vis Y.env.scope n := by first | exact Or.inl rfl | exact Or.inr (Or.inl rfl))
    (hd : (n == ("__debug__" : Str)) = false := by decide) (hc : (n == ("__classdict__" : Str)) = false := by decide) (hg : Gl Y "isinstance" := by rfl) (hgx : Gl Y x := by rfl) (hdx : (x == ("__debug__" : Str)) = false := by decide)
    (h1 : starEach [.Name n q, .Name x r] Y.env = (false, eval (.Name n q) Y.env) :: starEach [.Name x r] Y.env := by rfl) (h2 : starEach [.Name x r] Y.env = (false, eval (.Name x r) Y.env) :: starEach [] Y.env := by rfl) :
    KV Y a i dd fld (.Call (.Name "isinstance" p) [.Name n q, .Name x r] [] pos) (fun _ => some (.bl b)) :=
  kv_isi (cl := .ref C) (cv := .ref C) Ex hpn hz hf hk rel_ref hg hm (pe_var hN hv hd hc) (pe_glob hgx hmx rfl hdx) h1 h2
/-- .. ValueError -/
theorem k_isiV {b : Bool} (Ex : ExcC Y.K D) (hpn : (a, oe) ∈ Y.pn) (hz : Zc (.ref D) (some dd) oe) (hf : ∃ vs, oe.data = .fields vs) (hk : kitOne Y.K (.ref D) (.type "ValueError") = some b) (hm : Y.mg "isinstance" = none) (hmx : Y.mg "ValueError" = none) (hN : Y.N[i]? = some n := by rfl) (hv : Vis Y.env.scope n := by first | exact Or.inl rfl | exact Or.inr (Or.inl rfl))
    (hd : (n == ("__debug__" : Str)) = false := by decide) (hc : (n == ("__classdict__" : Str)) = false := by decide) (hg : Gl Y "isinstance" := by rfl) (hgx : Gl Y "ValueError" := by rfl)
    (h1 : starEach [.Name n q, .Name "ValueError" r] Y.env = (false, eval (.Name n q) Y.env) :: starEach [.Name "ValueError" r] Y.env := by rfl) (h2 : starEach [.Name "ValueError" r] Y.env = (false, eval (.Name "ValueError" r) Y.env) :: starEach [] Y.env := by rfl) :
    KV Y a i dd fld (.Call (.Name "isinstance" p) [.Name n q, .Name "ValueError" r] [] pos) (fun _ => some (.bl b)) :=
  kv_isi (cl := .type "ValueError") (cv := .ty "ValueError") Ex hpn hz hf hk rel_ty hg hm (pe_var hN hv hd hc) (pe_bltn (u := .type "ValueError") hgx hmx PyProof.Rows.Boot.«ValueError» rfl (by decide) (by decide)) h1 h2
theorem k_fld (Tf : XfC Y.K D) (hpn : (a, oe) ∈ Y.pn) (hno : findIn Y.K (.ref D) fld = some none) (hz : Zc (.ref D) (some dd) oe) (hf : ∃ vs, oe.data = .fields vs) (hN : Y.N[i]? = some n := by rfl) (hv : Vis Y.env.scope n := by first | exact Or.inl rfl | exact Or.inr (Or.inl rfl))
    (hd : (n == ("__debug__" : Str)) = false := by decide) (hc : (n == ("__classdict__" : Str)) = false := by decide) (hb : attributeBase (.Name n q) fld Y.env (eval (.Name n q) Y.env) = eval (.Name n q) Y.env := by rfl) :
    KV Y a i dd fld (.Attribute (.Name n q) fld pos) some := kv_fld Tf hpn hno hz hf (pe_var hN hv hd hc) hb
theorem k_v {f : V → Option V} (hf : KV Y a i dd fld e f) (he : ∀ whole, isTrue e Y.env whole = (do let v ← whole; standAt e.pos; holding [v] (truthy v)) := by intro _; rfl) : KB Y a i dd fld e (fun v => (f v).bind asBV) := kb_v he hf
theorem k_eqB {f g : V → Option V} {t : Expr} (h1 : KV Y a i dd fld e f) (h2 : KV Y a i dd fld t g) (hm : behindInMarks .Eq t = false := by rfl) : KB Y a i dd fld (.Compare e [.Eq] [t] pos) (eqBV f g) := kb_eq hm h1 h2
theorem cx_false {P : Program} {w : World} {outer : List Env} {H : Hp} {s s' : Shared} {e : Value} : ¬ L2.CX P w outer H s (fun _ _ _ => False) e s' := fun h => by
  obtain ⟨_, _, _, _, _, _, _, _, _, _, _, _, h⟩ := h
  exact h
/-- what the word's def promises -/
def spWd (a dd : Addr) (fld head : Str) : Sp := fun vs H Q _ => ∃ s : Str, vs = [.ref a] ∧ H dd = some (.xd [(fld, .str s)]) ∧ head.length + s.length ≤ sizeLine ∧ ∀ H', More H H' → Q (.str (head ++ s)) H'
def wdV (head : Str) (v : V) : Option V := match v with
  | .str s => if head.length + s.length ≤ sizeLine then some (.str (head ++ s)) else none
  | _ => none
/-- return f(n) -/
theorem k_word {k : Nat} {f : Addr} {fd : FuncData} {head : Str} (F : FnP (a, oe) Y.prog Y.w Y.K Y.mg Y.base k f fd ["error"] (spWd a dd fld head)) (hr : RoomH k Y.A) (hpn : (a, oe) ∈ Y.pn) (hb : Binds Y.K fd ["error"] []) (hm : Y.mg x = some (.ref f)) (hk : keepIn Y.K (.ref f) = true) (hN : Y.N[i]? = some n := by rfl) (hv : Vis Y.env.scope n := by first | exact Or.inl rfl | exact Or.inr (Or.inl rfl))
    (hd : (n == ("__debug__" : Str)) = false := by decide) (hc : (n == ("__classdict__" : Str)) = false := by decide) (hg : Gl Y x := by rfl) (hdx : (x == ("__debug__" : Str)) = false := by decide) (he : starEach [.Name n q] Y.env = (false, eval (.Name n q) Y.env) :: starEach [] Y.env := by rfl) :
    KS Y a i dd fld [.Return (some (.Call (.Name x p) [.Name n q] [] r)) pos] (wdV head) := by
  have pe : PE Y (.Call (.Name x p) [.Name n q] [] r) (fun σ H Q => ∃ s : Str, Cn i a dd fld (.str s) σ H ∧ head.length + s.length ≤ sizeLine ∧ ∀ H', More H H' → Q (.str (head ++ s)) H') := by
    refine ⟨fun pins s σ H Q I h => ?_⟩
    obtain ⟨t, c, hz, qq⟩ := h
    refine wpAny_Call_Name_kw (ld_glob I hg hm ?_ hdx)
    refine PySem.W.callWith_K (h₀ := Y.base) I.ok.mod.kin hk (thn ((pa_cons (pe_var (pos := q) hN hv hd hc) pa_nil he).run r pins s σ H (fun vs H1 => vs = [.ref a] ∧ H1 = H) I ⟨.ref a, c.1, rfl, rfl⟩) fun us s2 ⟨vs, H2, I2, rr, q2⟩ => ⟨I2.kIn, ?_⟩) he rfl
    obtain ⟨rfl, rfl⟩ := q2
    exact run_fnP F hr hpn hb I2 rr (fun _ _ => cx_false) ⟨t, rfl, c.2, hz, qq⟩
  refine PSs.imp (pss_one (ps_ret pe)) fun Z σ H hh => ?_
  obtain ⟨v, u, c, e, qq⟩ := hh
  unfold wdV at e
  split at e
  · split at e
    · rename_i hz
      cases e
      exact ⟨_, c, hz, qq⟩
    · cases e
  · cases e
theorem suf_wd {su : Nat → Fz.D → Option Fz.D} {c : Nat} (p : List Nat) (hs : ∀ x, su c x = sPay p x) (hp : p.isEmpty = false) : SuF su c (wdV (toStr p)) := suf_pay p hs (fun s hz => by
    show (if (toStr p).length + s.length ≤ sizeLine then _ else _) = _
    rw [if_pos (by rw [toStr_len, sizeLine_eq]; omega)]) fun h => by rw [hp] at h; cases h
end
end Fz
set_option Elab.async false
set_option linter.all false
set_option maxRecDepth 100000
set_option maxHeartbeats 4000000
/-! Fz: walking a dict, which is locked meanwhile. -/
namespace Fz
open PySem PySem.W L2 PyProof.Rows L2H
theorem roomH_su {k : Nat} {X : Cx} {a : Addr} {pn : List (Addr × Obj)} (r : Room k X.A) : RoomH k (X.suite a pn).A := ⟨r.dp, r.un⟩
/-- which thing is locked -/
abbrev Gk := Ev → Hh → Option Nat
def gN (i : Nat) : Gk := fun e _ => match e[i]? with
  | some (some (.r n)) => some n
  | _ => none
def gA (i f : Nat) : Gk := fun e h => match e[i]? with
  | some (some (.r n)) => match h[n]? with
    | some (.ins _ fs) => match lkf f fs with
      | some (.r m) => some m
      | _ => none
    | _ => none
  | _ => none
def gK (i : Nat) (k : D) : Gk := fun e h => match e[i]? with
  | some (some (.r n)) => match h[n]? with
    | some (.dk l) => match lkd k l with
      | some (.r m) => some m
      | _ => none
    | _ => none
  | _ => none
/-- locked -/
def lockO : O → Option O
  | .dk l => some (.fk l)
  | .dt l => some (.ft l)
  | _ => none
def lkT (n : Nat) (o : O) (m : R W) : R W := match m with
  | .ok w h => .ok w (h.set n o)
  | _ => .no
def lkC (g : Gk) (c : Cd) : Cd := fun e h => match g e h with
  | some n => match h[n]? with
    | some o => match lockO o with
      | some o' => lkT n o (c e (h.set n o'))
      | none => .no
    | none => .no
  | none => .no
def lkS' (n : Nat) (o : O) (m : SR) : SR := match m with
  | .nx e h => .nx e (h.set n o)
  | .rt w h => .rt w (h.set n o)
  | .bk e h => .bk e (h.set n o)
  | .ct e h => .ct e (h.set n o)
  | _ => .no
def lkS (g : Gk) (c : Cs) : Cs := fun e h => match g e h with
  | some n => match h[n]? with
    | some o => match lockO o with
      | some o' => lkS' n o (c e (h.set n o'))
      | none => .no
    | none => .no
  | none => .no
section
variable {K : PySem.W.Frag} {T : Tb} {F ρ ρ' : List Addr} {H H' : Hp} {ih ih' : Hh}
/-- the dict that is locked, and how it is left -/
theorem lock_at {n : Nat} {o o' : O} (hr : HR K T F ρ ih H) (ho : ih[n]? = some o) (hl : lockO o = some o') :
    ∃ a u, ρ[n]? = some a ∧ H a = some u ∧ Mut (some u) ∧ ∀ od, HR K T F ρ (ih.set n o') (upd H a (.frz od u)) ∧ Keep (F ++ ρ) H (F ++ ρ) (upd H a (.frz od u)) ∧
      ∀ ρ' H' ih', Grow F ρ (upd H a (.frz od u)) ρ' H' → HR K T F ρ' ih' H' →
        H' a = some (.frz od u) ∧ HR K T F ρ' (ih'.set n o) (upd H' a u) ∧ Grow F ρ H ρ' (upd H' a u) ∧ Keep (F ++ ρ') H' (F ++ ρ') (upd H' a u) := by
  obtain ⟨a, u, e1, eH, ro⟩ := hr.obj n o ho
  have m := List.mem_of_getElem? e1
  have back : ∀ od ρ' H', u ≠ .frz od u → (∀ b x y, u = .frz x y → b ≠ a) → Grow F ρ (upd H a (.frz od u)) ρ' H' → Grow F ρ H ρ' (upd H' a u) := fun od ρ' H' _ nz g => by
    refine ⟨g.more, fun b x e n => ?_, fun b mb nb => ?_, fun b od' x e => ?_⟩
    · have nb : b ≠ a := fun q => n (q ▸ m)
      rw [upd_ne nb]
      exact g.keep b x (by rw [upd_ne nb]; exact e) n
    · have := g.new b mb nb
      rw [upd_ne (fun q => nb (by rw [q]; exact m))] at this
      exact this
    · have nb : b ≠ a := by
        intro q
        subst q
        rw [eH] at e
        cases e
        exact nz b _ _ rfl rfl
      rw [upd_ne nb]
      exact g.frz b od' x (by rw [upd_ne nb]; exact e)
  have key : ∀ od ρ' H' ih', Grow F ρ (upd H a (.frz od u)) ρ' H' → HR K T F ρ' ih' H' → (u ≠ .frz od u) → (∀ b x y, u = .frz x y → b ≠ a) → (∀ ρ'' H'', Keep (F ++ ρ) H (F ++ ρ'') H'' → (∀ (k : Nat) (b : Addr), ρ[k]? = some b → ρ''[k]? = some b) → RO K T F ρ'' H'' o u) →
      H' a = some (.frz od u) ∧ HR K T F ρ' (ih'.set n o) (upd H' a u) ∧ Grow F ρ H ρ' (upd H' a u) ∧ Keep (F ++ ρ') H' (F ++ ρ') (upd H' a u) := fun od ρ' H' ih' g hr' h1 h2 h3 => by
    have G := back od ρ' H' h1 h2 g
    have m' := g.mem m
    exact ⟨g.frz a od u upd_same, hr'.set (g.get e1) (h3 _ _ (G.keepM hr) fun k b q => g.get q), G, keep_set m'⟩
  cases ro with
  | dk rs =>
    cases hl
    exact ⟨a, _, e1, eH, trivial, fun od => ⟨hr.set e1 (.fk (Paired.mapP rs fun _ _ x => ⟨x.1, x.2.kp (keep_set m) fun _ _ q => q⟩)), keep_set m, fun ρ' H' ih' g hr' =>
      key od ρ' H' ih' g hr' (fun q => nomatch q) (fun _ _ _ q => nomatch q) fun ρ'' H'' k gg => .dk (Paired.mapP rs fun _ _ x => ⟨x.1, x.2.kp k gg⟩)⟩⟩
  | dt rs =>
    cases hl
    exact ⟨a, _, e1, eH, trivial, fun od => ⟨hr.set e1 (.ft (Paired.mapP rs fun _ _ x => ⟨x.1, x.2.kp (keep_set m) fun _ _ q => q⟩)), keep_set m, fun ρ' H' ih' g hr' =>
      key od ρ' H' ih' g hr' (fun q => nomatch q) (fun _ _ _ q => nomatch q) fun ρ'' H'' k gg => .dt (Paired.mapP rs fun _ _ x => ⟨x.1, x.2.kp k gg⟩)⟩⟩
  | _ => cases hl
theorem RE.kp {F' ρ' : List Addr} {H' : Hp} {e : Ev} {σ : L2.St} (k : Keep (F ++ ρ) H (F' ++ ρ') H') (g : ∀ (n : Nat) (a : Addr), ρ[n]? = some a → ρ'[n]? = some a) (r : RE K F ρ H e σ) : RE K F' ρ' H' e σ :=
  ⟨r.1, fun i w q => let ⟨v, e1, r1⟩ := r.2 i w q; ⟨v, e1, r1.kp k g⟩⟩
end
section
variable {X : Cx} {T : Tb} {Wx : WX} {tg e : Expr} {st : Stmt} {pos apos cpos tpos : Pos} {c : Cd} {cs : Cs} {g : Gk}
theorem fe_lk (g : Gk) (h : FE X T Wx e c) : FE X T Wx e (lkC g c) := PE.imp (pe_lock h) fun σ H Q q => by
  obtain ⟨F, ρ, ev, ih, hr, re, hp⟩ := q
  unfold lkC at hp
  cases eg : g ev ih with
  | none => rw [eg] at hp; exact hp.elim
  | some n =>
    rw [eg] at hp
    dsimp only at hp
    cases ho : ih[n]? with
    | none => rw [ho] at hp; exact hp.elim
    | some o =>
      rw [ho] at hp
      dsimp only at hp
      cases hl : lockO o with
      | none => rw [hl] at hp; exact hp.elim
      | some o' =>
        rw [hl] at hp
        dsimp only at hp
        obtain ⟨a, u, e1, eH, mu, key⟩ := lock_at hr ho hl
        refine ⟨a, u, eH, mu, fun od => ?_⟩
        obtain ⟨hr1, k1, bk⟩ := key od
        refine ⟨F, ρ, ev, _, hr1, re.kp k1 fun _ _ q => q, ?_⟩
        cases ec : c ev (ih.set n o') with
        | no => rw [ec] at hp; exact hp.elim
        | ex _ _ _ => rw [ec] at hp; exact hp.elim
        | ok w h' =>
          rw [ec] at hp
          intro ρ' H' g' hr' v rv
          obtain ⟨b1, b2, b3, b4⟩ := bk ρ' H' h' g' hr'
          exact ⟨b1, hp _ _ b3 b2 _ (rv.kp b4 fun _ _ q => q)⟩
theorem fs_lk (g : Gk) (h : FS X T Wx st cs) : FS X T Wx st (lkS g cs) := PS.imp (ps_lock h) fun D σ H q => by
  obtain ⟨F, ρ, ev, ih, hr, re, hp⟩ := q
  unfold lkS at hp
  cases eg : g ev ih with
  | none => rw [eg] at hp; exact hp.elim
  | some n =>
    rw [eg] at hp
    dsimp only at hp
    cases ho : ih[n]? with
    | none => rw [ho] at hp; exact hp.elim
    | some o =>
      rw [ho] at hp
      dsimp only at hp
      cases hl : lockO o with
      | none => rw [hl] at hp; exact hp.elim
      | some o' =>
        rw [hl] at hp
        dsimp only at hp
        obtain ⟨a, u, e1, eH, mu, key⟩ := lock_at hr ho hl
        refine ⟨a, u, eH, mu, fun od => ?_⟩
        obtain ⟨hr1, k1, bk⟩ := key od
        refine ⟨F, ρ, ev, _, hr1, re.kp k1 fun _ _ q => q, ?_⟩
        cases ec : cs ev (ih.set n o') with
        | no => rw [ec] at hp; exact hp.elim
        | ex _ _ _ _ => rw [ec] at hp; exact hp.elim
        | nx e' h' =>
          rw [ec] at hp
          intro ρ' H' σ' g' hr' re'
          obtain ⟨b1, b2, b3, b4⟩ := bk ρ' H' h' g' hr'
          exact ⟨b1, hp _ _ _ b3 b2 (re'.kp b4 fun _ _ q => q)⟩
        | bk e' h' =>
          rw [ec] at hp
          intro ρ' H' σ' g' hr' re'
          obtain ⟨b1, b2, b3, b4⟩ := bk ρ' H' h' g' hr'
          exact ⟨b1, hp _ _ _ b3 b2 (re'.kp b4 fun _ _ q => q)⟩
        | ct e' h' =>
          rw [ec] at hp
          intro ρ' H' σ' g' hr' re'
          obtain ⟨b1, b2, b3, b4⟩ := bk ρ' H' h' g' hr'
          exact ⟨b1, hp _ _ _ b3 b2 (re'.kp b4 fun _ _ q => q)⟩
        | rt w h' =>
          rw [ec] at hp
          intro ρ' H' v g' hr' rv
          obtain ⟨b1, b2, b3, b4⟩ := bk ρ' H' h' g' hr'
          exact ⟨b1, hp _ _ _ b3 b2 (rv.kp b4 fun _ _ q => q)⟩

/-! ### keys, values, items of a locked dict -/
def okKey : D → Bool
  | .str l => decide (l.length ≤ 1000000)
  | _ => true
def okKeyT : D → Bool
  | .tup l => decide (l.length ≤ 1000000) && l.all okKey
  | _ => true
def keysS (l : List (D × W)) : List Y := l.map fun p => .w (.d p.1)
def cKeys (c : Cd) : Ci := fun e h => (c e h).bind fun w h => match w with
  | .r n => match h[n]? with
    | some (.fk l) => if l.all (fun p => okKey p.1) then .ok (fixS (keysS l)) h else .no
    | some (.ft l) => if l.all (fun p => okKeyT p.1) then .ok (fixS (keysS l)) h else .no
    | _ => .no
  | _ => .no
def cVals (c : Cd) : Ci := fun e h => (c e h).bind fun w h => match w with
  | .r n => match h[n]? with
    | some (.fk l) => .ok (fixS (l.map fun p => .w p.2)) h
    | _ => .no
  | _ => .no
def cItems (c : Cd) : Ci := fun e h => (c e h).bind fun w h => match w with
  | .r n => match h[n]? with
    | some (.fk l) => if l.all (fun p => okKey p.1) then .ok (fixS (l.map fun p => .t [.d p.1, p.2])) h else .no
    | _ => .no
  | _ => .no
theorem pget {α β : Type} {A : α → β → Prop} : ∀ {l : List α} {m : List β}, Paired A l m → ∀ {i : Nat} {x : α}, l[i]? = some x → ∃ y, m[i]? = some y ∧ A x y
  | _, _, .nil, i, x, e => by simp at e
  | _, _, .cons a b, 0, x, e => by simp at e; subst e; exact ⟨_, rfl, a⟩
  | _, _, .cons a b, i + 1, x, e => by
    obtain ⟨y, e1, r⟩ := pget b (i := i) (x := x) (by simpa using e)
    exact ⟨y, by simpa using e1, r⟩
theorem rk_rp {K : PySem.W.Frag} {M : List Addr} {H : Hp} {d : D} {k : Key} (h : Rk d k) (z : okKey d = true) : Rp K M H d (kV k) := by
  cases h with
  | int i => exact .int i
  | str l => exact .str l (Nat.le_trans (of_decide_eq_true z) (by decide))
theorem rks_rp {K : PySem.W.Frag} {M : List Addr} {H : Hp} : ∀ {ds : List D} {ks : List Key}, Rks ds ks → ds.all okKey = true → RpL K M H ds (ks.map kV)
  | _, _, .nil, _ => .nil
  | _, _, .cons a b, z => by
    rw [List.all_cons, Bool.and_eq_true] at z
    exact .cons (rk_rp a z.1) (rks_rp b z.2)
theorem good_keys {K : PySem.W.Frag} {F ρ : List Addr} {H : Hp} {ih : Hh} {l : List (D × W)} {kvs : List (Key × V)} {a : Addr} {od : Obj} (hr : HR K T F ρ ih H) (eH : H a = some (.frz od (.dK kvs))) (rs : Paired (fun p q => Rk p.1 q.1 ∧ RW K F ρ H p.2 q.2) l kvs) (z : l.all (fun p => okKey p.1) = true) :
    Good K T (Itk a od kvs) (fixS (keysS l)) F ρ H where
  goes := fun F' ρ' H' ih' l' i y g hr' e hy => by
    cases e
    have eH' := g.frz _ _ _ eH
    unfold keysS at hy
    rw [List.getElem?_map, Option.map_eq_some_iff] at hy
    obtain ⟨x, hx, rfl⟩ := hy
    obtain ⟨kv, hk, rk, _⟩ := pget rs hx
    refine ⟨⟨eH', (List.getElem?_eq_some_iff.mp hk).1⟩, fun u H'' q => ?_⟩
    obtain ⟨rfl, k, v, q2, rfl⟩ := q
    rw [hk] at q2
    cases q2
    exact ⟨Grow.refl, hr', .w (.d (rk_rp rk (List.all_eq_true.mp z _ (List.mem_of_getElem? hx))))⟩
  stops := fun F' ρ' H' ih' l' i g hr' e hl => by
    cases e
    exact ⟨g.frz _ _ _ eH, by rw [← Paired.length rs]; simpa [keysS] using hl⟩
theorem good_keysT {K : PySem.W.Frag} {F ρ : List Addr} {H : Hp} {ih : Hh} {l : List (D × W)} {kvs : List (List Key × V)} {a : Addr} {od : Obj} (hr : HR K T F ρ ih H) (eH : H a = some (.frz od (.dT kvs))) (rs : Paired (fun p q => RkT p.1 q.1 ∧ RW K F ρ H p.2 q.2) l kvs) (z : l.all (fun p => okKeyT p.1) = true) :
    Good K T (Itkt a od kvs) (fixS (keysS l)) F ρ H where
  goes := fun F' ρ' H' ih' l' i y g hr' e hy => by
    cases e
    have eH' := g.frz _ _ _ eH
    unfold keysS at hy
    rw [List.getElem?_map, Option.map_eq_some_iff] at hy
    obtain ⟨x, hx, rfl⟩ := hy
    obtain ⟨kv, hk, rk, _⟩ := pget rs hx
    refine ⟨⟨eH', (List.getElem?_eq_some_iff.mp hk).1⟩, fun u H'' q => ?_⟩
    obtain ⟨rfl, k, v, b, q2, rfl, eb⟩ := q
    rw [hk] at q2
    cases q2
    obtain ⟨ds, hd, rks⟩ := rk
    have zz := List.all_eq_true.mp z _ (List.mem_of_getElem? hx)
    rw [hd] at zz ⊢
    simp only [okKeyT, Bool.and_eq_true, decide_eq_true_eq] at zz
    exact ⟨Grow.refl, hr', .w (.d (.tup ⟨eb, hr'.nt eb⟩ (Nat.le_trans zz.1 (by decide)) (rks_rp rks zz.2)))⟩
  stops := fun F' ρ' H' ih' l' i g hr' e hl => by
    cases e
    exact ⟨g.frz _ _ _ eH, by rw [← Paired.length rs]; simpa [keysS] using hl⟩
theorem good_vals {K : PySem.W.Frag} {F ρ : List Addr} {H : Hp} {ih : Hh} {l : List (D × W)} {kvs : List (Key × V)} {a : Addr} {od : Obj} (hr : HR K T F ρ ih H) (eH : H a = some (.frz od (.dK kvs))) (rs : Paired (fun p q => Rk p.1 q.1 ∧ RW K F ρ H p.2 q.2) l kvs) :
    Good K T (Itd a od kvs) (fixS (l.map fun p => .w p.2)) F ρ H where
  goes := fun F' ρ' H' ih' l' i y g hr' e hy => by
    cases e
    have eH' := g.frz _ _ _ eH
    rw [List.getElem?_map, Option.map_eq_some_iff] at hy
    obtain ⟨x, hx, rfl⟩ := hy
    obtain ⟨kv, hk, _, rv⟩ := pget rs hx
    refine ⟨⟨eH', (List.getElem?_eq_some_iff.mp hk).1⟩, fun u H'' q => ?_⟩
    obtain ⟨rfl, k, q2⟩ := q
    rw [hk] at q2
    cases q2
    exact ⟨Grow.refl, hr', .w (rv.kp g.k fun _ _ h => g.get h)⟩
  stops := fun F' ρ' H' ih' l' i g hr' e hl => by
    cases e
    exact ⟨g.frz _ _ _ eH, by rw [← Paired.length rs]; simpa using hl⟩
theorem good_items {K : PySem.W.Frag} {F ρ : List Addr} {H : Hp} {ih : Hh} {l : List (D × W)} {kvs : List (Key × V)} {a : Addr} {od : Obj} (hr : HR K T F ρ ih H) (eH : H a = some (.frz od (.dK kvs))) (rs : Paired (fun p q => Rk p.1 q.1 ∧ RW K F ρ H p.2 q.2) l kvs) (z : l.all (fun p => okKey p.1) = true) :
    Good K T (Iti a od kvs) (fixS (l.map fun p => .t [.d p.1, p.2])) F ρ H where
  goes := fun F' ρ' H' ih' l' i y g hr' e hy => by
    cases e
    have eH' := g.frz _ _ _ eH
    rw [List.getElem?_map, Option.map_eq_some_iff] at hy
    obtain ⟨x, hx, rfl⟩ := hy
    obtain ⟨kv, hk, rk, rv⟩ := pget rs hx
    refine ⟨⟨eH', (List.getElem?_eq_some_iff.mp hk).1⟩, fun u H'' q => ?_⟩
    obtain ⟨p, k, v, q2, rfl, np, rfl⟩ := q
    rw [hk] at q2
    cases q2
    have zz := List.all_eq_true.mp z _ (List.mem_of_getElem? hx)
    exact pair_new hr' np (.d (rk_rp rk zz)) (rv.kp g.k fun _ _ h => g.get h)
  stops := fun F' ρ' H' ih' l' i g hr' e hl => by
    cases e
    exact ⟨g.frz _ _ _ eH, by rw [← Paired.length rs]; simpa using hl⟩
theorem fi_keys (h : FE X T Wx e c) : FI X T Wx tg e (cKeys c) := PI.imp (pi_keys h) fun σ H R q => by
  obtain ⟨F, ρ, ev, ih, hr, re, hp⟩ := q
  refine ⟨F, ρ, ev, ih, hr, re, hp.bind.mono fun ρ1 H1 ih1 w g1 hr1 hp1 v rv => ?_⟩
  split at hp1
  · rename_i n
    cases rv with | r hn =>
    split at hp1
    · rename_i l ho
      obtain ⟨u, eH, ro⟩ := hr1.at hn ho
      cases ro with | fk rs =>
      split at hp1
      · rename_i z
        exact ⟨_, _, rfl, .inl ⟨_, eH, hp1.ok hr1 _ (good_keys hr1 eH rs z)⟩⟩
      · exact hp1.elim
    · rename_i l ho
      obtain ⟨u, eH, ro⟩ := hr1.at hn ho
      cases ro with | ft rs =>
      split at hp1
      · rename_i z
        exact ⟨_, _, rfl, .inr ⟨_, eH, hp1.ok hr1 _ (good_keysT hr1 eH rs z)⟩⟩
      · exact hp1.elim
    · exact hp1.elim
  · exact hp1.elim
theorem fi_vals (h : FE X T Wx e c) (hbase : attributeBase e "values" X.env (eval e X.env) = eval e X.env := by rfl) (hline : (apos.endLine == cpos.line) = true := by rfl) : FI X T Wx tg (.Call (.Attribute e "values" apos) [] [] cpos) (cVals c) := PI.imp (pi_values h hbase hline) fun σ H R q => by
  obtain ⟨F, ρ, ev, ih, hr, re, hp⟩ := q
  refine ⟨F, ρ, ev, ih, hr, re, hp.bind.mono fun ρ1 H1 ih1 w g1 hr1 hp1 v rv => ?_⟩
  split at hp1
  · rename_i n
    cases rv with | r hn =>
    split at hp1
    · rename_i l ho
      obtain ⟨u, eH, ro⟩ := hr1.at hn ho
      cases ro with | fk rs =>
      exact ⟨_, _, _, rfl, eH, hp1.ok hr1 _ (good_vals hr1 eH rs)⟩
    · exact hp1.elim
  · exact hp1.elim
theorem fi_items {elts : List Expr} {kk : Nat} (h : FE X T Wx e c) (hbase : attributeBase e "items" X.env (eval e X.env) = eval e X.env := by rfl) (hline : (apos.endLine == cpos.line) = true := by rfl) : FI X T Wx (.Tuple elts kk tpos) (.Call (.Attribute e "items" apos) [] [] cpos) (cItems c) := PI.imp (pi_items h hbase hline) fun σ H R q => by
  obtain ⟨F, ρ, ev, ih, hr, re, hp⟩ := q
  refine ⟨F, ρ, ev, ih, hr, re, hp.bind.mono fun ρ1 H1 ih1 w g1 hr1 hp1 v rv => ?_⟩
  split at hp1
  · rename_i n
    cases rv with | r hn =>
    split at hp1
    · rename_i l ho
      obtain ⟨u, eH, ro⟩ := hr1.at hn ho
      cases ro with | fk rs =>
      split at hp1
      · rename_i z
        exact ⟨_, _, _, rfl, eH, hp1.ok hr1 _ (good_items hr1 eH rs z)⟩
      · exact hp1.elim
    · exact hp1.elim
  · exact hp1.elim
end
end Fz
set_option Elab.async false
set_option linter.all false
set_option maxRecDepth 100000
set_option maxHeartbeats 2000000
/-! Fz: plain laws: what a run ends with. -/
namespace Fz
/-- an expression ends with a value, by P, or with an exception, by E -/
def Ok {α : Type} (m : R α) (P : α → Hh → Prop) (E : Nat → W → Hh → Prop) : Prop := match m with
  | .ok a h => P a h
  | .ex c p h => E c p h
  | .no => False
/-- a statement ends, by Q -/
def Sk (m : SR) (Q : SR → Prop) : Prop := match m with
  | .no => False
  | m => Q m
abbrev noE : Nat → W → Hh → Prop := fun _ _ _ => False
section
variable {α β : Type} {m : R α} {a : α} {h : Hh} {e : Ev} {P P' : α → Hh → Prop} {E E' : Nat → W → Hh → Prop} {Q Q' : SR → Prop} {w p : W} {x y : Cs} {c : Nat}
@[simp] theorem ok_ok : Ok (.ok a h) P E = P a h := (rfl)
@[simp] theorem ok_ex : Ok (.ex c p h : R α) P E = E c p h := (rfl)
@[simp] theorem ok_no : Ok (.no : R α) P E = False := (rfl)
@[simp] theorem ok_bind {f : α → Hh → R β} {P : β → Hh → Prop} : Ok (m.bind f) P E = Ok m (fun a h => Ok (f a h) P E) E := by cases m <;> rfl
theorem Ok.mono (p : Ok m P E) (f : ∀ a h, P a h → P' a h) (g : ∀ c p h, E c p h → E' c p h) : Ok m P' E' := by
  cases m with
  | ok a h => exact f a h p
  | ex _ _ _ => exact g _ _ _ p
  | no => exact p
theorem Ok.get (p : Ok m P noE) : ∃ a h, m = .ok a h ∧ P a h := by
  cases m with
  | ok a h => exact ⟨a, h, rfl, p⟩
  | ex _ _ _ => exact p.elim
  | no => exact p.elim
@[simp] theorem sk_nx : Sk (.nx e h) Q = Q (.nx e h) := (rfl)
@[simp] theorem sk_rt : Sk (.rt w h) Q = Q (.rt w h) := (rfl)
@[simp] theorem sk_bk : Sk (.bk e h) Q = Q (.bk e h) := (rfl)
@[simp] theorem sk_ct : Sk (.ct e h) Q = Q (.ct e h) := (rfl)
@[simp] theorem sk_ex : Sk (.ex c p e h) Q = Q (.ex c p e h) := (rfl)
@[simp] theorem sk_no : Sk .no Q = False := (rfl)
/-- then -/
def Thn (f : Cs) (Q : SR → Prop) : SR → Prop
  | .nx e h => Sk (f e h) Q
  | r => Q r
@[simp] theorem thn_nx {f : Cs} : Thn f Q (.nx e h) = Sk (f e h) Q := (rfl)
@[simp] theorem thn_rt {f : Cs} : Thn f Q (.rt w h) = Q (.rt w h) := (rfl)
@[simp] theorem thn_bk {f : Cs} : Thn f Q (.bk e h) = Q (.bk e h) := (rfl)
@[simp] theorem thn_ct {f : Cs} : Thn f Q (.ct e h) = Q (.ct e h) := (rfl)
@[simp] theorem thn_ex {f : Cs} : Thn f Q (.ex c p e h) = Q (.ex c p e h) := (rfl)
@[simp] theorem sk_bind {r : SR} {f : Cs} : Sk (r.bind f) Q = Sk r (Thn f Q) := by cases r <;> rfl
@[simp] theorem sk_lift {f : α → Hh → SR} : Sk (lift m e f) Q = Ok m (fun a h => Sk (f a h) Q) (fun c p h => Q (.ex c p e h)) := by cases m <;> rfl
theorem Sk.mono {m : SR} (p : Sk m Q) (f : ∀ r, Q r → Q' r) : Sk m Q' := by
  cases m <;> first | exact p.elim | exact f _ p
/-- a def: its body's end -/
def Ret (P : W → Hh → Prop) (E : Nat → W → Hh → Prop) : SR → Prop
  | .rt w h => P w h
  | .nx _ h => P (.d .non) h
  | .ex c p _ h => E c p h
  | _ => False
@[simp] theorem ret_rt {P : W → Hh → Prop} : Ret P E (.rt w h) = P w h := (rfl)
@[simp] theorem ret_nx {P : W → Hh → Prop} : Ret P E (.nx e h) = P (.d .non) h := (rfl)
@[simp] theorem ret_ex {P : W → Hh → Prop} : Ret P E (.ex c p e h) = E c p h := (rfl)
theorem ok_fn {n N : Nat} {b : Cs} {ws : List W} {P : W → Hh → Prop} (hw : ws.length = n) (q : Sk (b (ws.map some ++ List.replicate (N - n) none) h) (Ret P E)) : Ok (mkFn n N b ws h) P E := by
  unfold mkFn
  first | rw [if_pos hw] | skip
  revert q
  generalize b (ws.map some ++ List.replicate (N - n) none) h = r
  cases r <;> exact fun q => q
end
/-! ### loops -/
section
variable {t : Cy} {b : Cs} {ci : Ci} {e : Ev} {h : Hh} {Q : SR → Prop} {l : List Y}
/-- the end of a loop's turn: the next one, by I; out, by Q -/
def Turn' (I : Ev → Hh → Prop) (Q : SR → Prop) : SR → Prop
  | .nx e h => I e h
  | .ct e h => I e h
  | .bk e h => Q (.nx e h)
  | .rt w h => Q (.rt w h)
  | .ex c p e h => Q (.ex c p e h)
  | .no => False
@[simp] theorem turn_nx {I : Ev → Hh → Prop} : Turn' I Q (.nx e h) = I e h := (rfl)
@[simp] theorem turn_ct {I : Ev → Hh → Prop} : Turn' I Q (.ct e h) = I e h := (rfl)
@[simp] theorem turn_bk {I : Ev → Hh → Prop} : Turn' I Q (.bk e h) = Q (.nx e h) := (rfl)
@[simp] theorem turn_rt {I : Ev → Hh → Prop} {w : W} : Turn' I Q (.rt w h) = Q (.rt w h) := (rfl)
@[simp] theorem turn_ex {I : Ev → Hh → Prop} {c : Nat} {p : W} : Turn' I Q (.ex c p e h) = Q (.ex c p e h) := (rfl)
theorem forL_inv (I : Nat → Ev → Hh → Prop) : ∀ (l : List Y) (k : Nat) (e : Ev) (h : Hh), I k e h → (∀ j y e h, l[j]? = some y → I (k + j) e h → ∃ e1, t y e h = some e1 ∧ Sk (b e1 h) (Turn' (I (k + j + 1)) Q)) → (∀ e h, I (k + l.length) e h → Q (.nx e h)) → Sk (forL t b l e h) Q
  | [], k, e, h, i, _, f => f e h i
  | y :: ys, k, e, h, i, s, f => by
    obtain ⟨e1, a1, a2⟩ := s 0 y e h rfl i
    unfold forL
    rw [a1]
    dsimp only
    have nxt : ∀ e2 h2, I (k + 1) e2 h2 → Sk (forL t b ys e2 h2) Q := fun e2 h2 i2 => forL_inv I ys (k + 1) e2 h2 i2 (fun j y e h hj ij => by
      have := s (j + 1) y e h (by simpa using hj) (by rw [show k + (j + 1) = k + 1 + j by omega]; exact ij)
      rw [show k + (j + 1) + 1 = k + 1 + j + 1 by omega] at this
      exact this) (fun e h ie => f e h (by rw [List.length_cons, show k + (ys.length + 1) = k + 1 + ys.length by omega]; exact ie))
    cases hb : b e1 h with
    | no => rw [hb] at a2; exact a2.elim
    | nx e2 h2 => rw [hb] at a2; exact nxt e2 h2 a2
    | ct e2 h2 => rw [hb] at a2; exact nxt e2 h2 a2
    | bk e2 h2 => rw [hb] at a2; exact a2
    | rt w h2 => rw [hb] at a2; exact a2
    | ex c p e2 h2 => rw [hb] at a2; exact a2
/-- a loop over fixed items, by an invariant -/
theorem sk_for (I : Nat → Ev → Hh → Prop) {h' : Hh} (hc : ci e h = .ok (fixS l) h') (i0 : I 0 e h') (st : ∀ j y e h, l[j]? = some y → I j e h → ∃ e1, t y e h = some e1 ∧ Sk (b e1 h) (Turn' (I (j + 1)) Q)) (en : ∀ e h, I l.length e h → Q (.nx e h)) : Sk (sFor ci t b e h) Q := by
  rw [sFor_fix hc]
  refine forL_inv I l 0 e h' i0 (fun j y e h hj ij => ?_) fun e h ie => en e h (by rw [← Nat.zero_add l.length]; exact ie)
  rw [Nat.zero_add] at ij ⊢
  exact st j y e h hj ij
/-- range(n) -/
theorem r1_at {a : Ca} {n : Int} {h' : Hh} (ha : a e h = .ok [.d (.int n)] h') (hn : 0 ≤ n ∧ n < 2 ^ 62) : cR1 a e h = .ok (fixS ((List.range n.toNat).map fun (i : Nat) => .w (.d (.int (i : Nat))))) h' := by
  unfold cR1
  rw [ha, R.bind_ok]
  dsimp only
  rw [if_pos (by omega)]
  unfold rngS
  simp
theorem it_tup {c : Cd} {l : List D} {h' : Hh} (hc : c e h = .ok (.d (.tup l)) h') : cIt c e h = .ok (fixS (l.map fun x => .w (.d x))) h' := by unfold cIt; rw [hc]; rfl
theorem it_lst {c : Cd} {l : List D} {h' : Hh} (hc : c e h = .ok (.d (.lst l)) h') : cIt c e h = .ok (fixS (l.map fun x => .w (.d x))) h' := by unfold cIt; rw [hc]; rfl
theorem en_tup {c : Cd} {l : List D} {h' : Hh} (hc : c e h = .ok (.d (.tup l)) h') : cEn c e h = .ok (fixS (enY 0 (l.map .d))) h' := by unfold cEn; rw [hc]; rfl
/-- a comprehension that leaves the heap -/
theorem lc_pure {α : Type} {mt : Bool} {vs : List Nat} {q : Cb} {c : Cd} {h' : Hh} (l : List α) (y : α → Y) (f : α → Bool) (g : α → W) (hc : ci e h = .ok (fixS (l.map y)) h') (hl : l.length ≤ 16777216)
    (hy : ∀ x ∈ l, ∃ e1, t (y x) (ew e vs) h' = some e1 ∧ q e1 h' = .ok (f x) h' ∧ (f x = true → c e1 h' = .ok (g x) h')) : cLc mt vs ci t q c e h = fin mt ((l.filter f).map g) h' := by
  rw [cLc_fix hc]
  have key : ∀ (l : List α) (acc : List W), acc.length + l.length ≤ 16777216 → (∀ x ∈ l, ∃ e1, t (y x) (ew e vs) h' = some e1 ∧ q e1 h' = .ok (f x) h' ∧ (f x = true → c e1 h' = .ok (g x) h')) →
      lcL t q c (ew e vs) (l.map y) acc h' = .ok (acc ++ (l.filter f).map g) h' := by
    intro l
    induction l with
    | nil => intro acc _ _; simp [lcL]
    | cons x l ih =>
      intro acc hl hy
      obtain ⟨e1, a1, a2, a3⟩ := hy x (by simp)
      rw [List.length_cons] at hl
      rw [List.map_cons]
      unfold lcL
      rw [a1]
      dsimp only
      rw [a2, R.bind_ok]
      cases hf : f x with
      | true =>
        rw [if_pos rfl, a3 hf, R.bind_ok, if_pos (by omega), ih _ (by simp; omega) fun z hz => hy z (by simp [hz])]
        simp [hf]
      | false =>
        rw [if_neg Bool.false_ne_true, ih _ (by omega) fun z hz => hy z (by simp [hz])]
        simp [hf]
  rw [key l [] (by simpa using hl) hy]
  rfl
theorem fin_d {l : List D} (hl : l.length ≤ 16777216) : fin false (l.map .d) h = .ok (.d (.lst l)) h := by
  unfold fin
  rw [if_neg Bool.false_ne_true]
  unfold mkL
  rw [allD_map]
  dsimp only
  rw [if_pos (Nat.le_trans hl (by decide))]
/-- .. with data alone -/
theorem lc_d {α : Type} {vs : List Nat} {q : Cb} {c : Cd} {h' : Hh} (l : List α) (y : α → Y) (f : α → Bool) (g : α → D) (hc : ci e h = .ok (fixS (l.map y)) h') (hl : l.length ≤ 16777216)
    (hy : ∀ x ∈ l, ∃ e1, t (y x) (ew e vs) h' = some e1 ∧ q e1 h' = .ok (f x) h' ∧ (f x = true → c e1 h' = .ok (.d (g x)) h')) : cLc false vs ci t q c e h = .ok (.d (.lst ((l.filter f).map g))) h' := by
  rw [lc_pure (mt := false) l y f (fun x => .d (g x)) hc hl hy]
  have e1 : (l.filter f).map (fun x => W.d (g x)) = ((l.filter f).map g).map .d := by rw [List.map_map]; rfl
  rw [e1]
  exact fin_d (by rw [List.length_map]; exact Nat.le_trans (List.length_filter_le _ _) hl)
end
/-! ### places -/
section
variable {x y z u : D} {l : List D} {h : Hh}
@[simp] theorem ixt0 : opIx (.d (.tup (x :: l))) (.d (.int 0)) h = .ok (.d x) h := ix_t (j := 0) rfl
@[simp] theorem ixt1 : opIx (.d (.tup (x :: y :: l))) (.d (.int 1)) h = .ok (.d y) h := ix_t (j := 1) rfl
@[simp] theorem ixt2 : opIx (.d (.tup (x :: y :: z :: l))) (.d (.int 2)) h = .ok (.d z) h := ix_t (j := 2) rfl
@[simp] theorem ixt3 : opIx (.d (.tup (x :: y :: z :: u :: l))) (.d (.int 3)) h = .ok (.d u) h := ix_t (j := 3) rfl
@[simp] theorem ixl0 : opIx (.d (.lst (x :: l))) (.d (.int 0)) h = .ok (.d x) h := ix_l (j := 0) rfl
@[simp] theorem ixl1 : opIx (.d (.lst (x :: y :: l))) (.d (.int 1)) h = .ok (.d y) h := ix_l (j := 1) rfl
@[simp] theorem ixl2 : opIx (.d (.lst (x :: y :: z :: l))) (.d (.int 2)) h = .ok (.d z) h := ix_l (j := 2) rfl
@[simp] theorem ixl3 : opIx (.d (.lst (x :: y :: z :: u :: l))) (.d (.int 3)) h = .ok (.d u) h := ix_l (j := 3) rfl
@[simp] theorem ixl4 {a b c d e : D} : opIx (.d (.lst (a :: b :: c :: d :: e :: l))) (.d (.int 4)) h = .ok (.d e) h := ix_l (j := 4) rfl
@[simp] theorem ixl5 {a b c d e f : D} : opIx (.d (.lst (a :: b :: c :: d :: e :: f :: l))) (.d (.int 5)) h = .ok (.d f) h := ix_l (j := 5) rfl
@[simp] theorem ixl6 {a b c d e f g : D} : opIx (.d (.lst (a :: b :: c :: d :: e :: f :: g :: l))) (.d (.int 6)) h = .ok (.d g) h := ix_l (j := 6) rfl
theorem mulI {h : Hh} {n m : Int} (hm : -(2 ^ 64) < m ∧ m < 2 ^ 64) : opMul false (.d (.int n)) (.d (.int m)) h = .ok (.d (.int (n * m))) h := by
  unfold opMul
  dsimp only
  rw [if_pos (.inr hm)]
@[simp] theorem yn_at {i : Nat} {w : W} {e : Ev} : yN (tN i) (.w w) e h = some (e.set i (some w)) := (rfl)
@[simp] theorem yt_at {tb : Cts} {ws : List W} {e : Ev} : yT tb (.t ws) e h = tb ws e h := (rfl)
@[simp] theorem mkT_d (hl : l.length ≤ 1000) : mkT (l.map .d) h = .ok (.d (.tup l)) h := by
  unfold mkT
  rw [allD_map]
  dsimp only
  rw [if_pos (by have : (1000 : Nat) ≤ PySem.sizeLine := by decide
                 omega)]
end
/-! ### draws -/
/-- the law's state: its numbers, what is left of one, where it is, a seed -/
def St (ns : List Int) (a b s : Int) (rest : List W) : O := .lst (.d (.lst (ns.map .int)) :: .d (.int a) :: .d (.int b) :: .d (.int s) :: rest)
section
variable {ns : List Int} {a b s x : Int} {rest : List W} {t : Hh} {P : W → Hh → Prop} {E : Nat → W → Hh → Prop}
theorem st0 : opIx (.r 0) (.d (.int 0)) (St ns a b s rest :: t) = .ok (.d (.lst (ns.map .int))) (St ns a b s rest :: t) := ix_r (j := 0) rfl rfl
theorem st1 : opIx (.r 0) (.d (.int 1)) (St ns a b s rest :: t) = .ok (.d (.int a)) (St ns a b s rest :: t) := ix_r (j := 1) rfl rfl
theorem st2 : opIx (.r 0) (.d (.int 2)) (St ns a b s rest :: t) = .ok (.d (.int b)) (St ns a b s rest :: t) := ix_r (j := 2) rfl rfl
theorem st3 : opIx (.r 0) (.d (.int 3)) (St ns a b s rest :: t) = .ok (.d (.int s)) (St ns a b s rest :: t) := ix_r (j := 3) rfl rfl
theorem su1 : setAt (.r 0) (.d (.int 1)) (.d (.int x)) (St ns a b s rest :: t) = some (St ns x b s rest :: t) := set_r (j := 1) (l := .d (.lst (ns.map .int)) :: .d (.int a) :: .d (.int b) :: .d (.int s) :: rest) rfl (by simp)
theorem su2 : setAt (.r 0) (.d (.int 2)) (.d (.int x)) (St ns a b s rest :: t) = some (St ns a x s rest :: t) := set_r (j := 2) (l := .d (.lst (ns.map .int)) :: .d (.int a) :: .d (.int b) :: .d (.int s) :: rest) rfl (by simp)
theorem su3 : setAt (.r 0) (.d (.int 3)) (.d (.int x)) (St ns a b s rest :: t) = some (St ns a b x rest :: t) := set_r (j := 3) (l := .d (.lst (ns.map .int)) :: .d (.int a) :: .d (.int b) :: .d (.int s) :: rest) rfl (by simp)
/-- _law_draw -/
def drawC : Cs := (sSeq (sIf (bAnd (bC (opEq false) (c2 opIx (cv 0) (cc (.int 1))) (cc (.int 0))) (bC opGe (c2 opIx (cv 0) (cc (.int 2))) (cCl biLen (aCons (c2 opIx (cv 0) (cc (.int 0))) aNil))))
    (sSeq (sSet (c2 opMod (cCl biInt (aCons (c2 (opAdd false) (c2 (opMul false) (c2 opIx (cv 0) (cc (.int 3))) (cc (.int 48271))) (cc (.int 69621))) aNil)) (cc (.int 2147483629))) (cv 0) (cc (.int 3)))
    (sRet (c2 opMod (cCl biInt (aCons (c2 opFdiv (c2 opIx (cv 0) (cc (.int 3))) (cc (.int 13))) aNil)) (cv 1))))
    sNx)
    (sSeq (sIf (bC (opEq false) (c2 opIx (cv 0) (cc (.int 1))) (cc (.int 0)))
    (sSeq (sSet (cCl biAbs (aCons (c2 opIx (c2 opIx (cv 0) (cc (.int 0))) (c2 opIx (cv 0) (cc (.int 2)))) aNil)) (cv 0) (cc (.int 1)))
    (sSet (c2 (opAdd false) (c2 opIx (cv 0) (cc (.int 2))) (cc (.int 1))) (cv 0) (cc (.int 2))))
    sNx)
    (sSeq (sAsg (c2 opMod (cCl biInt (aCons (c2 opIx (cv 0) (cc (.int 1))) aNil)) (cv 1)) (tN 2))
    (sSeq (sSet (c2 opFdiv (c2 opIx (cv 0) (cc (.int 1))) (cv 1)) (cv 0) (cc (.int 1)))
    (sRet (cv 2))))))
theorem draw_at {m : Int} (ha : 0 ≤ a) (hb : 0 ≤ b) (hm : 0 < m ∧ m < 1073741824) : ∃ v a' b' s', mkFn 2 3 drawC [.r 0, .d (.int m)] (St ns a b s rest :: t) = .ok (.d (.int v)) (St ns a' b' s' rest :: t) ∧ 0 ≤ v ∧ v < m ∧ 0 ≤ a' ∧ 0 ≤ b' := by
  by_cases q : a = 0 ∧ b ≥ ns.length
  · obtain ⟨rfl, q⟩ := q
    refine ⟨(s * 48271 + 69621) % 2147483629 / 13 % m, 0, b, (s * 48271 + 69621) % 2147483629, ?_, Int.emod_nonneg _ (by omega), Int.emod_lt_of_pos _ hm.1, by omega, hb⟩
    simp [mkFn, drawC, st0, st1, st2, st3, su3, q, mulI, hm.1]
  · by_cases q2 : a = 0
    · subst q2
      have hlt : b < ns.length := by
        rcases Int.lt_or_le b ns.length with h | h
        · exact h
        · exact absurd ⟨rfl, h⟩ q
      obtain ⟨j, rfl⟩ := Int.eq_ofNat_of_zero_le hb
      have hj : j < ns.length := by omega
      have e0 : opIx (.d (.lst (ns.map .int))) (.d (.int (j : Int))) (St ns 0 j s rest :: t) = .ok (.d (.int ns[j])) (St ns 0 j s rest :: t) := ix_l (by rw [List.getElem?_map, List.getElem?_eq_getElem hj]; rfl)
      have hab : 0 ≤ (if ns[j] < 0 then -ns[j] else ns[j]) := by split <;> omega
      generalize hz : (if ns[j] < 0 then -ns[j] else ns[j]) = z at *
      refine ⟨z % m, z / m, (j : Int) + 1, s, ?_, Int.emod_nonneg _ (by omega), Int.emod_lt_of_pos _ hm.1, Int.ediv_nonneg hab (by omega), by omega⟩
      simp [mkFn, drawC, st0, st1, st2, st3, su1, su2, show ¬ ns.length ≤ j by omega, e0, hz, hm]
    · refine ⟨a % m, a / m, b, s, ?_, Int.emod_nonneg _ (by omega), Int.emod_lt_of_pos _ hm.1, Int.ediv_nonneg ha (by omega), hb⟩
      simp [mkFn, drawC, st0, st1, st2, st3, su1, q2, hm]
theorem draw_ok {m : Int} (ha : 0 ≤ a) (hb : 0 ≤ b) (hm : 0 < m ∧ m < 1073741824) (p : ∀ v a' b' s', 0 ≤ v → v < m → 0 ≤ a' → 0 ≤ b' → P (.d (.int v)) (St ns a' b' s' rest :: t)) : Ok (mkFn 2 3 drawC [.r 0, .d (.int m)] (St ns a b s rest :: t)) P E := by
  obtain ⟨v, a', b', s', e, h1, h2, h3, h4⟩ := draw_at (ns := ns) (s := s) (rest := rest) (t := t) ha hb hm
  rw [e]
  exact p v a' b' s' h1 h2 h3 h4
/-- _law_pick -/
def pickC (d : Fn) : Cs := (sRet (c2 opIx (cv 1) (cCall false 2 d (aCons (cv 0) (aCons (cCl biLen (aCons (cv 1) aNil)) aNil)))))
theorem pick_l {l : List D} (ha : 0 ≤ a) (hb : 0 ≤ b) (hl : 0 < l.length ∧ l.length < 1073741824) (p : ∀ x a' b' s', x ∈ l → 0 ≤ a' → 0 ≤ b' → P (.d x) (St ns a' b' s' rest :: t)) : Ok (mkFn 2 2 (pickC (mkFn 2 3 drawC)) [.r 0, .d (.lst l)] (St ns a b s rest :: t)) P E := by
  obtain ⟨v, a', b', s', e, h1, h2, h3, h4⟩ := draw_at (ns := ns) (s := s) (rest := rest) (t := t) (m := l.length) ha hb (by omega)
  obtain ⟨j, rfl⟩ := Int.eq_ofNat_of_zero_le h1
  have hj : j < l.length := by omega
  have e0 : opIx (.d (.lst l)) (.d (.int (j : Int))) (St ns a' b' s' rest :: t) = .ok (.d l[j]) (St ns a' b' s' rest :: t) := ix_l (List.getElem?_eq_getElem hj)
  have e1 : mkFn 2 2 (pickC (mkFn 2 3 drawC)) [.r 0, .d (.lst l)] (St ns a b s rest :: t) = .ok (.d l[j]) (St ns a' b' s' rest :: t) := by
    generalize hd : mkFn 2 3 drawC = dd at e ⊢
    simp [mkFn, pickC, e, e0]
  rw [e1]
  exact p _ _ _ _ (List.getElem_mem hj) h3 h4
theorem pick_t {l : List D} (ha : 0 ≤ a) (hb : 0 ≤ b) (hl : 0 < l.length ∧ l.length < 1073741824) (p : ∀ x a' b' s', x ∈ l → 0 ≤ a' → 0 ≤ b' → P (.d x) (St ns a' b' s' rest :: t)) : Ok (mkFn 2 2 (pickC (mkFn 2 3 drawC)) [.r 0, .d (.tup l)] (St ns a b s rest :: t)) P E := by
  obtain ⟨v, a', b', s', e, h1, h2, h3, h4⟩ := draw_at (ns := ns) (s := s) (rest := rest) (t := t) (m := l.length) ha hb (by omega)
  obtain ⟨j, rfl⟩ := Int.eq_ofNat_of_zero_le h1
  have hj : j < l.length := by omega
  have e0 : opIx (.d (.tup l)) (.d (.int (j : Int))) (St ns a' b' s' rest :: t) = .ok (.d l[j]) (St ns a' b' s' rest :: t) := ix_t (List.getElem?_eq_getElem hj)
  have e1 : mkFn 2 2 (pickC (mkFn 2 3 drawC)) [.r 0, .d (.tup l)] (St ns a b s rest :: t) = .ok (.d l[j]) (St ns a' b' s' rest :: t) := by
    generalize hd : mkFn 2 3 drawC = dd at e ⊢
    simp [mkFn, pickC, e, e0]
  rw [e1]
  exact p _ _ _ _ (List.getElem_mem hj) h3 h4
/-- .. from a list that changes -/
theorem pick_r {n : Nat} {l : List W} (hn : t[n]? = some (.lst l)) (ha : 0 ≤ a) (hb : 0 ≤ b) (hl : 0 < l.length ∧ l.length < 1073741824) (p : ∀ x a' b' s', x ∈ l → 0 ≤ a' → 0 ≤ b' → P x (St ns a' b' s' rest :: t)) : Ok (mkFn 2 2 (pickC (mkFn 2 3 drawC)) [.r 0, .r (n + 1)] (St ns a b s rest :: t)) P E := by
  obtain ⟨v, a', b', s', e, h1, h2, h3, h4⟩ := draw_at (ns := ns) (s := s) (rest := rest) (t := t) (m := l.length) ha hb (by omega)
  obtain ⟨j, rfl⟩ := Int.eq_ofNat_of_zero_le h1
  have hj : j < l.length := by omega
  have e0 : opIx (.r (n + 1)) (.d (.int (j : Int))) (St ns a' b' s' rest :: t) = .ok l[j] (St ns a' b' s' rest :: t) := ix_r (l := l) (by simpa using hn) (List.getElem?_eq_getElem hj)
  have e2 : biLen [.r (n + 1)] (St ns a b s rest :: t) = .ok (.d (.int l.length)) (St ns a b s rest :: t) := by simp [biLen, lenW, hn]
  have e1 : mkFn 2 2 (pickC (mkFn 2 3 drawC)) [.r 0, .r (n + 1)] (St ns a b s rest :: t) = .ok l[j] (St ns a' b' s' rest :: t) := by
    generalize hd : mkFn 2 3 drawC = dd at e ⊢
    simp [mkFn, pickC, e, e0, e2]
  rw [e1]
  exact p _ _ _ _ (List.getElem_mem hj) h3 h4
/-- _law_start -/
def startB : Cs := (sAsg (c2 (opAdd false) (c2 opMod (cCl biInt (aCons (c2 (opAdd false) (c2 (opMul false) (cv 1) (cc (.int 48271))) (cv 2)) aNil)) (cc (.int 2147483629))) (cc (.int 1))) (tN 1))
def startC : Cs := (sSeq (sAsg (cc (.int 7)) (tN 1))
    (sSeq (sFor (cIt (cv 0)) (yN (tN 2))
    startB)
    (sRet (cCl mkM (aCons (cCl (biList false) (aCons (cv 0) aNil)) (aCons (cc (.int 0)) (aCons (cc (.int 0)) (aCons (cv 1) aNil))))))))
theorem start_ok (hn : ns.length ≤ 63) (p : ∀ s, P (.r 0) [St ns 0 0 s []]) : Ok (mkFn 1 3 startC [scr ns] []) P E := by
  refine ok_fn rfl ?_
  simp only [startC, z_seq, sk_bind, z_asg, z_cc, lift_ok, z_tN, sk_nx, thn_nx, List.map, List.replicate, List.cons_append, List.nil_append, List.set_cons_succ, List.set_cons_zero]
  refine sk_for (I := fun _ e h => h = [] ∧ ∃ s x2, e = [some (scr ns), some (.d (.int s)), x2]) (it_lst (l := ns.map .int) rfl) ⟨rfl, _, _, rfl⟩ (fun j y e h hj i => ?_) fun e h i => ?_
  · obtain ⟨rfl, s, x2, rfl⟩ := i
    rw [List.map_map, List.getElem?_map, Option.map_eq_some_iff] at hj
    obtain ⟨c, _, rfl⟩ := hj
    refine ⟨_, rfl, ?_⟩
    simp [startB, mulI]
  · obtain ⟨rfl, s, x2, rfl⟩ := i
    have el : biList false [scr ns] [] = .ok (scr ns) [] := by
      unfold scr biList
      simp only [seqW, lstW, fin, mkL, allD_map]
      rw [if_neg Bool.false_ne_true, if_pos (by simp; omega)]
    simp [el, mkM]
    exact p s
end

/-! ### _law_asked -/
def asked (cs : List Nat) (su : Nat → D → Option D) (m : R W) : R W := match m with
  | .ok (.d y) h => .ok (.d (.lst [y])) h
  | .ex c (.d p) h => if cs.contains c && smD p then match su c p with
    | some y => .ok (.d y) h
    | none => .no else .no
  | _ => .no
section
variable {cs : List Nat} {su : Nat → D → Option D} {t1 t2 t3 t4 t5 t6 t7 : List Nat → Option (Bool × Fn)} {q : List Nat} {g : Fn} {h : Hh} {x1 x2 x3 x4 x5 x6 x7 : D}
def askC7 (cs : List Nat) (su : Nat → D → Option D) (t1 t2 t3 t4 t5 t6 t7 : List Nat → Option (Bool × Fn)) : Cs := (sTry 2 cs (sSeq (sIf (bC opLt (cCl biLen (aCons (cv 1) aNil)) (cc (.int 3)))
    (sRet (cIf (bC (opEq false) (cCl biLen (aCons (cv 1) aNil)) (cc (.int 1))) (cCl mkL (aCons (cCallV 0 1 t1 (aCons (c2 opIx (cv 1) (cc (.int 0))) aNil)) aNil)) (cCl mkL (aCons (cCallV 0 2 t2 (aCons (c2 opIx (cv 1) (cc (.int 0))) (aCons (c2 opIx (cv 1) (cc (.int 1))) aNil))) aNil))))
    sNx)
    (sSeq (sIf (bC opLt (cCl biLen (aCons (cv 1) aNil)) (cc (.int 5)))
    (sRet (cIf (bC (opEq false) (cCl biLen (aCons (cv 1) aNil)) (cc (.int 3))) (cCl mkL (aCons (cCallV 0 3 t3 (aCons (c2 opIx (cv 1) (cc (.int 0))) (aCons (c2 opIx (cv 1) (cc (.int 1))) (aCons (c2 opIx (cv 1) (cc (.int 2))) aNil)))) aNil)) (cCl mkL (aCons (cCallV 0 4 t4 (aCons (c2 opIx (cv 1) (cc (.int 0))) (aCons (c2 opIx (cv 1) (cc (.int 1))) (aCons (c2 opIx (cv 1) (cc (.int 2))) (aCons (c2 opIx (cv 1) (cc (.int 3))) aNil))))) aNil))))
    sNx)
    (sSeq (sIf (bC (opEq false) (cCl biLen (aCons (cv 1) aNil)) (cc (.int 5)))
    (sRet (cCl mkL (aCons (cCallV 0 5 t5 (aCons (c2 opIx (cv 1) (cc (.int 0))) (aCons (c2 opIx (cv 1) (cc (.int 1))) (aCons (c2 opIx (cv 1) (cc (.int 2))) (aCons (c2 opIx (cv 1) (cc (.int 3))) (aCons (c2 opIx (cv 1) (cc (.int 4))) aNil)))))) aNil)))
    sNx)
    (sSeq (sIf (bC (opEq false) (cCl biLen (aCons (cv 1) aNil)) (cc (.int 6)))
    (sRet (cCl mkL (aCons (cCallV 0 6 t6 (aCons (c2 opIx (cv 1) (cc (.int 0))) (aCons (c2 opIx (cv 1) (cc (.int 1))) (aCons (c2 opIx (cv 1) (cc (.int 2))) (aCons (c2 opIx (cv 1) (cc (.int 3))) (aCons (c2 opIx (cv 1) (cc (.int 4))) (aCons (c2 opIx (cv 1) (cc (.int 5))) aNil))))))) aNil)))
    sNx)
    (sRet (cCl mkL (aCons (cCallV 0 7 t7 (aCons (c2 opIx (cv 1) (cc (.int 0))) (aCons (c2 opIx (cv 1) (cc (.int 1))) (aCons (c2 opIx (cv 1) (cc (.int 2))) (aCons (c2 opIx (cv 1) (cc (.int 3))) (aCons (c2 opIx (cv 1) (cc (.int 4))) (aCons (c2 opIx (cv 1) (cc (.int 5))) (aCons (c2 opIx (cv 1) (cc (.int 6))) aNil)))))))) aNil)))))))
    su)
theorem pure_cases (g : Fn) (ws : List W) (h : Hh) : (∃ y, pure' g ws h = .ok (.d y) h) ∨ (∃ c y, pure' g ws h = .ex c (.d y) h) ∨ pure' g ws h = .no := by
  unfold pure'
  cases allD ws with
  | none => exact .inr (.inr rfl)
  | some _ =>
    dsimp only
    cases g ws [] with
    | no => exact .inr (.inr rfl)
    | ok w h' => cases w with
      | d y => exact .inl ⟨y, rfl⟩
      | r n => exact .inr (.inr rfl)
      | f n => exact .inr (.inr rfl)
    | ex c w h' => cases w with
      | d y => exact .inr (.inl ⟨c, y, rfl⟩)
      | r n => exact .inr (.inr rfl)
      | f n => exact .inr (.inr rfl)
theorem mkL1 {y : D} : mkL [.d y] h = .ok (.d (.lst [y])) h := rfl
theorem ask7_1 (ht : t1 q = some (true, g)) : mkFn 2 3 (askC7 cs su t1 t2 t3 t4 t5 t6 t7) [.f q, .d (.lst [x1])] h = asked cs su (pure' g [.d x1] h) := by
  rcases pure_cases g [.d x1] h with ⟨y, e⟩ | ⟨c, y, e⟩ | e
  · simp [mkFn, askC7, sTry, cCallV, ht, e, asked, mkL1]
  · simp [mkFn, askC7, sTry, cCallV, ht, e, asked]
    by_cases hc : c ∈ cs ∧ smD y = true
    · rw [if_pos hc, if_pos hc]; cases su c y <;> rfl
    · rw [if_neg hc, if_neg hc]
  · simp [mkFn, askC7, sTry, cCallV, ht, e, asked]
theorem ask7_2 (ht : t2 q = some (true, g)) : mkFn 2 3 (askC7 cs su t1 t2 t3 t4 t5 t6 t7) [.f q, .d (.lst [x1, x2])] h = asked cs su (pure' g [.d x1, .d x2] h) := by
  rcases pure_cases g [.d x1, .d x2] h with ⟨y, e⟩ | ⟨c, y, e⟩ | e
  · simp [mkFn, askC7, sTry, cCallV, ht, e, asked, mkL1]
  · simp [mkFn, askC7, sTry, cCallV, ht, e, asked]
    by_cases hc : c ∈ cs ∧ smD y = true
    · rw [if_pos hc, if_pos hc]; cases su c y <;> rfl
    · rw [if_neg hc, if_neg hc]
  · simp [mkFn, askC7, sTry, cCallV, ht, e, asked]
theorem ask7_3 (ht : t3 q = some (true, g)) : mkFn 2 3 (askC7 cs su t1 t2 t3 t4 t5 t6 t7) [.f q, .d (.lst [x1, x2, x3])] h = asked cs su (pure' g [.d x1, .d x2, .d x3] h) := by
  rcases pure_cases g [.d x1, .d x2, .d x3] h with ⟨y, e⟩ | ⟨c, y, e⟩ | e
  · simp [mkFn, askC7, sTry, cCallV, ht, e, asked, mkL1]
  · simp [mkFn, askC7, sTry, cCallV, ht, e, asked]
    by_cases hc : c ∈ cs ∧ smD y = true
    · rw [if_pos hc, if_pos hc]; cases su c y <;> rfl
    · rw [if_neg hc, if_neg hc]
  · simp [mkFn, askC7, sTry, cCallV, ht, e, asked]
theorem ask7_4 (ht : t4 q = some (true, g)) : mkFn 2 3 (askC7 cs su t1 t2 t3 t4 t5 t6 t7) [.f q, .d (.lst [x1, x2, x3, x4])] h = asked cs su (pure' g [.d x1, .d x2, .d x3, .d x4] h) := by
  rcases pure_cases g [.d x1, .d x2, .d x3, .d x4] h with ⟨y, e⟩ | ⟨c, y, e⟩ | e
  · simp [mkFn, askC7, sTry, cCallV, ht, e, asked, mkL1]
  · simp [mkFn, askC7, sTry, cCallV, ht, e, asked]
    by_cases hc : c ∈ cs ∧ smD y = true
    · rw [if_pos hc, if_pos hc]; cases su c y <;> rfl
    · rw [if_neg hc, if_neg hc]
  · simp [mkFn, askC7, sTry, cCallV, ht, e, asked]
theorem ask7_5 (ht : t5 q = some (true, g)) : mkFn 2 3 (askC7 cs su t1 t2 t3 t4 t5 t6 t7) [.f q, .d (.lst [x1, x2, x3, x4, x5])] h = asked cs su (pure' g [.d x1, .d x2, .d x3, .d x4, .d x5] h) := by
  rcases pure_cases g [.d x1, .d x2, .d x3, .d x4, .d x5] h with ⟨y, e⟩ | ⟨c, y, e⟩ | e
  · simp [mkFn, askC7, sTry, cCallV, ht, e, asked, mkL1]
  · simp [mkFn, askC7, sTry, cCallV, ht, e, asked]
    by_cases hc : c ∈ cs ∧ smD y = true
    · rw [if_pos hc, if_pos hc]; cases su c y <;> rfl
    · rw [if_neg hc, if_neg hc]
  · simp [mkFn, askC7, sTry, cCallV, ht, e, asked]
theorem ask7_6 (ht : t6 q = some (true, g)) : mkFn 2 3 (askC7 cs su t1 t2 t3 t4 t5 t6 t7) [.f q, .d (.lst [x1, x2, x3, x4, x5, x6])] h = asked cs su (pure' g [.d x1, .d x2, .d x3, .d x4, .d x5, .d x6] h) := by
  rcases pure_cases g [.d x1, .d x2, .d x3, .d x4, .d x5, .d x6] h with ⟨y, e⟩ | ⟨c, y, e⟩ | e
  · simp [mkFn, askC7, sTry, cCallV, ht, e, asked, mkL1]
  · simp [mkFn, askC7, sTry, cCallV, ht, e, asked]
    by_cases hc : c ∈ cs ∧ smD y = true
    · rw [if_pos hc, if_pos hc]; cases su c y <;> rfl
    · rw [if_neg hc, if_neg hc]
  · simp [mkFn, askC7, sTry, cCallV, ht, e, asked]
theorem ask7_7 (ht : t7 q = some (true, g)) : mkFn 2 3 (askC7 cs su t1 t2 t3 t4 t5 t6 t7) [.f q, .d (.lst [x1, x2, x3, x4, x5, x6, x7])] h = asked cs su (pure' g [.d x1, .d x2, .d x3, .d x4, .d x5, .d x6, .d x7] h) := by
  rcases pure_cases g [.d x1, .d x2, .d x3, .d x4, .d x5, .d x6, .d x7] h with ⟨y, e⟩ | ⟨c, y, e⟩ | e
  · simp [mkFn, askC7, sTry, cCallV, ht, e, asked, mkL1]
  · simp [mkFn, askC7, sTry, cCallV, ht, e, asked]
    by_cases hc : c ∈ cs ∧ smD y = true
    · rw [if_pos hc, if_pos hc]; cases su c y <;> rfl
    · rw [if_neg hc, if_neg hc]
  · simp [mkFn, askC7, sTry, cCallV, ht, e, asked]
end
end Fz
set_option Elab.async false
set_option linter.all false
set_option maxRecDepth 100000
set_option maxHeartbeats 2000000
/-! Fz: plain laws: loops that seek, loops that fold, sorting, least numbers that are not in a row. -/
namespace Fz
section
variable {t : Cy} {b : Cs} {h : Hh}
/-- a loop that ends with the first answer -/
theorem forL_find {α : Type} (y : α → Y) (f : α → Option W) (I : Ev → Prop) : ∀ (L : List α) (e : Ev), I e → (∀ x ∈ L, ∀ e, I e → ∃ e1, t (y x) e h = some e1 ∧ match f x with
    | some w => b e1 h = .rt w h
    | none => ∃ e2, b e1 h = .nx e2 h ∧ I e2) → match L.findSome? f with
    | some w => forL t b (L.map y) e h = .rt w h
    | none => ∃ e', forL t b (L.map y) e h = .nx e' h ∧ I e'
  | [], e, hi, _ => ⟨e, rfl, hi⟩
  | x :: L, e, hi, st => by
    obtain ⟨e1, a1, a2⟩ := st x (by simp) e hi
    rw [List.map_cons]
    unfold forL
    rw [a1, List.findSome?_cons]
    dsimp only
    cases hf : f x with
    | some w =>
      rw [hf] at a2
      dsimp only at a2 ⊢
      rw [a2]
    | none =>
      rw [hf] at a2
      dsimp only at a2 ⊢
      obtain ⟨e2, a2, a3⟩ := a2
      rw [a2]
      exact forL_find y f I L e2 a3 fun z hz => st z (by simp [hz])
/-- a loop that folds; the heap stays -/
theorem forL_fold {α σ : Type} (y : α → Y) (f : σ → α → σ) (I : σ → Ev → Prop) : ∀ (L : List α) (s : σ) (e : Ev), I s e → (∀ x ∈ L, ∀ s e, I s e → ∃ e1 e2, t (y x) e h = some e1 ∧ b e1 h = .nx e2 h ∧ I (f s x) e2) → ∃ e', forL t b (L.map y) e h = .nx e' h ∧ I (L.foldl f s) e'
  | [], s, e, hi, _ => ⟨e, rfl, hi⟩
  | x :: L, s, e, hi, st => by
    obtain ⟨e1, e2, a1, a2, a3⟩ := st x (by simp) s e hi
    rw [List.map_cons]
    unfold forL
    rw [a1]
    dsimp only
    rw [a2]
    exact forL_fold y f I L (f s x) e2 a3 fun z hz => st z (by simp [hz])
/-- .. and the heap, too -/
theorem forL_foldH {α σ : Type} (y : α → Y) (f : σ → α → σ) (I : σ → Ev → Hh → Prop) : ∀ (L : List α) (s : σ) (e : Ev) (h : Hh), I s e h → (∀ x ∈ L, ∀ s e h, I s e h → ∃ e1 e2 h2, t (y x) e h = some e1 ∧ b e1 h = .nx e2 h2 ∧ I (f s x) e2 h2) → ∃ e' h', forL t b (L.map y) e h = .nx e' h' ∧ I (L.foldl f s) e' h'
  | [], s, e, h, hi, _ => ⟨e, h, rfl, hi⟩
  | x :: L, s, e, h, hi, st => by
    obtain ⟨e1, e2, h2, a1, a2, a3⟩ := st x (by simp) s e h hi
    rw [List.map_cons]
    unfold forL
    rw [a1]
    dsimp only
    rw [a2]
    exact forL_foldH y f I L (f s x) e2 h2 a3 fun z hz => st z (by simp [hz])
end
theorem fn_rt {n N : Nat} {b : Cs} {ws : List W} {h h' : Hh} {w : W} (hw : ws.length = n) (hb : b (ws.map some ++ List.replicate (N - n) none) h = .rt w h') : mkFn n N b ws h = .ok w h' := by
  unfold mkFn
  rw [if_pos hw, hb]
theorem fn_nx {n N : Nat} {b : Cs} {ws : List W} {h h' : Hh} {e : Ev} (hw : ws.length = n) (hb : b (ws.map some ++ List.replicate (N - n) none) h = .nx e h') : mkFn n N b ws h = .ok (.d .non) h' := by
  unfold mkFn
  rw [if_pos hw, hb]
theorem fn_ex {n N c : Nat} {b : Cs} {ws : List W} {h h' : Hh} {e : Ev} {p : W} (hw : ws.length = n) (hb : b (ws.map some ++ List.replicate (N - n) none) h = .ex c p e h') : mkFn n N b ws h = .ex c p h' := by
  unfold mkFn
  rw [if_pos hw, hb]
theorem seq_rt {x y : Cs} {e : Ev} {h h' : Hh} {w : W} (q : x e h = .rt w h') : sSeq x y e h = .rt w h' := by rw [z_seq, q]; rfl
theorem seq_nx {x y : Cs} {e e' : Ev} {h h' : Hh} (q : x e h = .nx e' h') : sSeq x y e h = y e' h' := by rw [z_seq, q]; rfl
theorem seq_ex {x y : Cs} {e e' : Ev} {h h' : Hh} {c : Nat} {p : W} (q : x e h = .ex c p e' h') : sSeq x y e h = .ex c p e' h' := by rw [z_seq, q]; rfl
theorem tup_l {l : List D} {h : Hh} (hl : l.length ≤ 1000) : biTuple [.d (.lst l)] h = .ok (.d (.tup l)) h := by
  unfold biTuple
  dsimp only [lstW]
  exact mkT_d hl
theorem mkT_1 {x : D} {h : Hh} : mkT [.d x] h = .ok (.d (.tup [x])) h := rfl
theorem mkT_2 {x y : D} {h : Hh} : mkT [.d x, .d y] h = .ok (.d (.tup [x, y])) h := rfl
theorem mkT_3 {x y z : D} {h : Hh} : mkT [.d x, .d y, .d z] h = .ok (.d (.tup [x, y, z])) h := rfl
theorem mkT_4 {x y z u : D} {h : Hh} : mkT [.d x, .d y, .d z, .d u] h = .ok (.d (.tup [x, y, z, u])) h := rfl
/-- a comprehension without a test -/
theorem lc_m {α : Type} {e : Ev} {ci : Ci} {vs : List Nat} {c : Cd} {h h' : Hh} {t : Cy} (L : List α) (y : α → Y) (g : α → D) (hc : ci e h = .ok (fixS (L.map y)) h') (hl : L.length ≤ 16777216)
    (hy : ∀ x ∈ L, ∃ e1, t (y x) (ew e vs) h' = some e1 ∧ c e1 h' = .ok (.d (g x)) h') : cLc false vs ci t bYes c e h = .ok (.d (.lst (L.map g))) h' := by
  rw [lc_d (q := bYes) L y (fun _ => true) g hc hl fun x hx => let ⟨e1, a, b⟩ := hy x hx; ⟨e1, a, rfl, fun _ => b⟩]
  rw [List.filter_eq_self.mpr fun _ _ => rfl]
/-! chains over whole numbers -/
section
variable {e : Ev} {h : Hh} {a b c d : Cd} {x y z u : Int} {p q r : Int → Int → Bool}
theorem ch3 (ha : a e h = .ok (.d (.int x)) h) (hb : b e h = .ok (.d (.int y)) h) (hc : c e h = .ok (.d (.int z)) h) : cch (opC p) (opC q) a b c e h = .ok (.d (.bl (p x y && q y z))) h := by
  unfold cch
  simp only [ha, hb, R.bind_ok, z_opC, z_asB]
  cases p x y <;> simp [hc]
theorem ch4 (ha : a e h = .ok (.d (.int x)) h) (hb : b e h = .ok (.d (.int y)) h) (hc : c e h = .ok (.d (.int z)) h) (hd : d e h = .ok (.d (.int u)) h) :
    cChn a (chC (opC p) b (chC (opC q) c (chL (opC r) d))) e h = .ok (.d (.bl (p x y && (q y z && r z u)))) h := by
  unfold cChn chC chL
  simp only [ha, hb, R.bind_ok, z_opC, z_asB]
  cases p x y
  · simp
  · simp only [if_true, hc, R.bind_ok, z_opC, z_asB]
    cases q y z <;> simp [hd]
end
/-! ### sorting -/
theorem ins_map {α β : Type} {le : α → α → Bool} {f : β → α} (a : β) : ∀ l : List β, ins le (f a) (l.map f) = (ins (fun x y => le (f x) (f y)) a l).map f
  | [] => rfl
  | x :: l => by
    show (if le (f a) (f x) = true then _ else _) = List.map f (if le (f a) (f x) = true then _ else _)
    split
    · rfl
    · rw [ins_map a l]; rfl
theorem isort_map {α β : Type} {le : α → α → Bool} {f : β → α} : ∀ l : List β, isort le (l.map f) = (isort (fun x y => le (f x) (f y)) l).map f
  | [] => rfl
  | a :: l => by
    show ins le (f a) (isort le (l.map f)) = _
    rw [isort_map l, ins_map]
    rfl
theorem ins_perm {α : Type} {le : α → α → Bool} {a : α} : ∀ l : List α, (ins le a l).Perm (a :: l)
  | [] => .refl _
  | x :: l => by
    unfold ins
    split
    · exact .refl _
    · exact ((ins_perm l).cons x).trans (.swap a x l)
theorem isort_perm {α : Type} {le : α → α → Bool} : ∀ l : List α, (isort le l).Perm l
  | [] => .refl _
  | a :: l => (ins_perm _).trans ((isort_perm l).cons a)
theorem isort_len {α : Type} {le : α → α → Bool} (l : List α) : (isort le l).length = l.length := (isort_perm l).length_eq
theorem ins_pw {α : Type} {le : α → α → Bool} {R : α → α → Prop} (h1 : ∀ a b, le a b = true → R a b) (h2 : ∀ a b, le a b = false → R b a) (tr : ∀ a b c, R a b → R b c → R a c) {a : α} : ∀ {l : List α}, l.Pairwise R → (ins le a l).Pairwise R
  | [], _ => by simp [ins]
  | x :: l, p => by
    unfold ins
    obtain ⟨p1, p2⟩ := List.pairwise_cons.mp p
    split
    · rename_i q
      refine List.pairwise_cons.mpr ⟨fun y hy => ?_, p⟩
      rcases List.mem_cons.mp hy with rfl | hy
      · exact h1 _ _ q
      · exact tr _ _ _ (h1 _ _ q) (p1 y hy)
    · rename_i q
      have q : le a x = false := by simpa using q
      refine List.pairwise_cons.mpr ⟨fun y hy => ?_, ins_pw h1 h2 tr p2⟩
      rcases ins_mem.mp hy with rfl | hy
      · exact h2 _ _ q
      · exact p1 y hy
theorem isort_pw {α : Type} {le : α → α → Bool} {R : α → α → Prop} (h1 : ∀ a b, le a b = true → R a b) (h2 : ∀ a b, le a b = false → R b a) (tr : ∀ a b c, R a b → R b c → R a c) : ∀ l : List α, (isort le l).Pairwise R
  | [] => List.Pairwise.nil
  | a :: l => ins_pw h1 h2 tr (isort_pw h1 h2 tr l)
theorem isortI_pw (l : List Int) : (isort leI l).Pairwise (· ≤ ·) := isort_pw (R := fun a b : Int => a ≤ b) (fun a b h => by simpa [leI] using h) (fun a b h => by simp [leI] at h; omega) (fun a b c h1 h2 => Int.le_trans h1 h2) l
/-! ### rows without doubles -/
theorem nodup_len {α : Type} [DecidableEq α] : ∀ {l u : List α}, l.Nodup → (∀ x ∈ l, x ∈ u) → l.length ≤ u.length
  | [], u, _, _ => by simp
  | x :: l, u, h, s => by
    obtain ⟨h1, h2⟩ := List.nodup_cons.mp h
    have hx := s x (by simp)
    have := nodup_len (l := l) (u := u.erase x) h2 fun y hy => by
      have ne : y ≠ x := fun e => h1 (e ▸ hy)
      exact (List.mem_erase_of_ne ne).mpr (s y (by simp [hy]))
    rw [List.length_erase_of_mem hx] at this
    have hp := List.length_pos_of_mem hx
    rw [List.length_cons]
    omega
/-- the least number that is not in a row -/
def IsMex (T : List Int) (m : Nat) : Prop := (m : Int) ∉ T ∧ ∀ j : Nat, j < m → (j : Int) ∈ T
theorem IsMex.eq {T : List Int} {m n : Nat} (a : IsMex T m) (b : IsMex T n) : m = n := by
  rcases Nat.lt_trichotomy m n with h | h | h
  · exact absurd (b.2 m h) a.1
  · exact h
  · exact absurd (a.2 n h) b.1
theorem IsMex.le {T : List Int} {m : Nat} (a : IsMex T m) : m ≤ T.length := by
  have := nodup_len (l := (List.range m).map fun (i : Nat) => (i : Int)) (u := T) ?_ ?_
  · simpa using this
  · exact List.Pairwise.map _ (fun a b h => by omega) List.nodup_range
  · intro x hx
    obtain ⟨j, hj, rfl⟩ := List.mem_map.mp hx
    exact a.2 j (List.mem_range.mp hj)
def mexF (T : List Int) : Nat → Nat → Nat
  | 0, i => i
  | k + 1, i => if (i : Int) ∈ T then mexF T k (i + 1) else i
def mex (T : List Int) : Nat := mexF T (T.length + 1) 0
theorem mexF_is {T : List Int} : ∀ (k i : Nat), (∀ j : Nat, j < i → (j : Int) ∈ T) → T.length < i + k → IsMex T (mexF T k i)
  | 0, i, h, hk => by
    exfalso
    have := nodup_len (l := (List.range i).map fun (i : Nat) => (i : Int)) (u := T) ?_ ?_
    · simp at this
      omega
    · exact List.Pairwise.map _ (fun a b h => by omega) List.nodup_range
    · intro x hx
      obtain ⟨j, hj, rfl⟩ := List.mem_map.mp hx
      exact h j (List.mem_range.mp hj)
  | k + 1, i, h, hk => by
    unfold mexF
    split
    · rename_i hi
      exact mexF_is k (i + 1) (fun j hj => by
        rcases Nat.lt_or_eq_of_le (Nat.le_of_lt_succ hj) with q | rfl
        · exact h j q
        · exact hi) (by omega)
    · rename_i hi
      exact ⟨hi, h⟩
theorem mex_is (T : List Int) : IsMex T (mex T) := mexF_is _ _ (fun j h => absurd h (by omega)) (by omega)
/-- the first of 0 .. n that is not in the row -/
theorem mex_first {T : List Int} {n : Nat} (hn : mex T ≤ n) : (List.range (n + 1)).find? (fun (i : Nat) => !decide ((i : Int) ∈ T)) = some (mex T) := by
  rw [List.find?_eq_some_iff_append]
  have hm := mex_is T
  refine ⟨by simpa using hm.1, List.range (mex T), (List.range (n - mex T)).map (· + (mex T + 1)), ?_, fun a ha => by simpa using hm.2 a (List.mem_range.mp ha)⟩
  have e : n + 1 = mex T + (1 + (n - mex T)) := by omega
  rw [e, List.range_add, List.range_add]
  simp
  intro a _
  omega
/-- the while that counts up to it -/
theorem mex_while {e : Ev} {h : Hh} {i j : Nat} {T : List Int} {n : Nat} (hij : i ≠ j) (hi : i < e.length) (ej : e[j]? = some (some (.d (.lst (T.map .int))))) (ei : e[i]? = some (some (.d (.int 0)))) (hn : T.length + 1 < n) :
    sWhile n (bC (opIn false) (cv i) (cv j)) (sAug i opAddI (cc (.int 1))) e h = .nx (e.set i (some (.d (.int (mex T))))) h := by
  have hm := mex_is T
  have tst : ∀ k : Nat, bC (opIn false) (cv i) (cv j) (e.set i (some (.d (.int (k : Int))))) h = .ok (decide ((k : Int) ∈ T)) h := fun k => by
    have e1 : (e.set i (some (.d (.int (k : Int)))))[i]? = some (some (.d (.int (k : Int)))) := by rw [List.getElem?_set_self hi]
    have e2 : (e.set i (some (.d (.int (k : Int)))))[j]? = some (some (.d (.lst (T.map .int)))) := by rw [List.getElem?_set_ne hij]; exact ej
    have e3 : (T.map D.int).any (fun z => D.eqv z (.int (k : Int))) = decide ((k : Int) ∈ T) := by
      rw [List.any_map]
      rw [Bool.eq_iff_iff]
      simp [D.eqv]
    have s1 : sh 64 (.lst (T.map .int)) = true := by simp [sh]
    have s2 : sh 64 (.int (k : Int)) = true := rfl
    simp only [z_bC, z_c2, z_cv e1, z_cv e2, R.bind_ok]
    unfold opIn
    simp only [valD, D.items, s1, s2, Bool.and_self, if_true, e3, z_asB, Bool.false_eq_true, if_false]
  have body : ∀ k : Nat, sAug i opAddI (cc (.int 1)) (e.set i (some (.d (.int (k : Int))))) h = .nx (e.set i (some (.d (.int ((k + 1 : Nat) : Int))))) h := fun k => by
    have e1 : (e.set i (some (.d (.int (k : Int)))))[i]? = some (some (.d (.int (k : Int)))) := by rw [List.getElem?_set_self hi]
    unfold sAug
    rw [e1]
    simp [opAddI, opI]
  have key : ∀ (m k : Nat), mex T < k + m → k ≤ mex T → wloop (bC (opIn false) (cv i) (cv j)) (sAug i opAddI (cc (.int 1))) m (e.set i (some (.d (.int (k : Int))))) h = .nx (e.set i (some (.d (.int (mex T))))) h := by
    intro m
    induction m with
    | zero => intro k h1 h2; omega
    | succ m ih =>
      intro k h1 h2
      unfold wloop
      rw [tst, lift_ok]
      by_cases q : (k : Int) ∈ T
      · rw [decide_eq_true q]
        rw [if_pos rfl, body]
        dsimp only
        have : k ≠ mex T := fun z => hm.1 (z ▸ q)
        exact ih (k + 1) (by omega) (by omega)
      · rw [decide_eq_false q]
        rw [if_neg Bool.false_ne_true]
        have : k = mex T := by
          rcases Nat.lt_or_ge k (mex T) with z | z
          · exact absurd (hm.2 k z) q
          · omega
        rw [this]
  have e0 : e.set i (some (.d (.int ((0 : Nat) : Int)))) = e := by
    apply List.ext_getElem?
    intro k
    by_cases q : k = i
    · subst q; rw [List.getElem?_set_self hi, ei]; rfl
    · rw [List.getElem?_set_ne (Ne.symm q)]
  have := key n 0 (by have := hm.le; omega) (by omega)
  rw [e0] at this
  exact this
end Fz
set_option Elab.async false
set_option linter.all false
set_option maxRecDepth 100000
set_option maxHeartbeats 2000000
/-! Fz: plain laws: dicts by whole numbers, sorting whole numbers. -/
namespace Fz
/-- a comprehension over what stands in the heap, which stays -/
theorem lc_src {α : Type} {mt : Bool} {vs : List Nat} {q : Cb} {c : Cd} {ci : Ci} {t : Cy} {e : Ev} {h h' : Hh} {src : Src} (l : List α) (y : α → Y) (f : α → Bool) (g : α → W) (hc : ci e h = .ok src h') (hs : src h' = some (l.map y)) (hl : l.length ≤ 16777216)
    (hy : ∀ x ∈ l, ∃ e1, t (y x) (ew e vs) h' = some e1 ∧ q e1 h' = .ok (f x) h' ∧ (f x = true → c e1 h' = .ok (g x) h')) : cLc mt vs ci t q c e h = fin mt ((l.filter f).map g) h' := by
  have key : ∀ (m i : Nat) (acc : List W), l.length + 1 = m + i → acc.length + (l.length - i) ≤ 16777216 → i ≤ l.length → lcl src t q c (ew e vs) m i acc h' = .ok (acc ++ ((l.drop i).filter f).map g) h' := by
    intro m
    induction m with
    | zero => intro i acc h1 h2 h3; omega
    | succ m ih =>
      intro i acc h1 h2 h3
      unfold lcl
      rw [hs]
      dsimp only
      by_cases hi : i < l.length
      · rw [List.getElem?_map, List.getElem?_eq_getElem hi]
        dsimp only [Option.map_some]
        obtain ⟨e1, a1, a2, a3⟩ := hy l[i] (List.getElem_mem hi)
        rw [a1]
        dsimp only
        rw [a2, R.bind_ok, List.drop_eq_getElem_cons hi]
        cases hf : f l[i] with
        | true =>
          rw [if_pos rfl, a3 hf, R.bind_ok, if_pos (by omega), ih (i + 1) _ (by omega) (by simp; omega) (by omega), List.filter_cons_of_pos hf, List.map_cons, List.append_assoc]
          rfl
        | false =>
          rw [if_neg Bool.false_ne_true, ih (i + 1) _ (by omega) (by omega) (by omega), List.filter_cons_of_neg (by rw [hf]; exact Bool.false_ne_true)]
      · have : i = l.length := by omega
        subst this
        simp
  unfold cLc
  rw [hc, R.bind_ok]
  have hn : srcLen src h' = l.length := by unfold srcLen; rw [hs]; simp
  rw [hn, key (l.length + 1) 0 [] (by omega) (by simpa using hl) (by omega)]
  simp [noX]
/-- a loop, by an invariant that counts -/
theorem forL_ix {t : Cy} {b : Cs} (I : Nat → Ev → Hh → Prop) : ∀ (l : List Y) (k : Nat) (e : Ev) (h : Hh), I k e h → (∀ j y e h, l[j]? = some y → I (k + j) e h → ∃ e1 e2 h2, t y e h = some e1 ∧ b e1 h = .nx e2 h2 ∧ I (k + j + 1) e2 h2) → ∃ e' h', forL t b l e h = .nx e' h' ∧ I (k + l.length) e' h'
  | [], k, e, h, i, _ => ⟨e, h, rfl, i⟩
  | y :: ys, k, e, h, i, st => by
    obtain ⟨e1, e2, h2, a1, a2, a3⟩ := st 0 y e h rfl i
    obtain ⟨e', h', b1, b2⟩ := forL_ix I ys (k + 1) e2 h2 a3 fun j y e h hj ij => by
      have := st (j + 1) y e h (by simpa using hj) (by rw [show k + (j + 1) = k + 1 + j by omega]; exact ij)
      rw [show k + (j + 1) + 1 = k + 1 + j + 1 by omega] at this
      exact this
    refine ⟨e', h', ?_, by rw [List.length_cons, show k + (ys.length + 1) = k + 1 + ys.length by omega]; exact b2⟩
    unfold forL
    rw [a1]
    dsimp only
    rw [a2]
    exact b1
theorem sFor_ix {ci : Ci} {t : Cy} {b : Cs} {e : Ev} {h h' : Hh} {l : List Y} (I : Nat → Ev → Hh → Prop) (hc : ci e h = .ok (fixS l) h') (i0 : I 0 e h') (st : ∀ j y e h, l[j]? = some y → I j e h → ∃ e1 e2 h2, t y e h = some e1 ∧ b e1 h = .nx e2 h2 ∧ I (j + 1) e2 h2) : ∃ e2 h2, sFor ci t b e h = .nx e2 h2 ∧ I l.length e2 h2 := by
  rw [sFor_fix hc]
  have := forL_ix (t := t) (b := b) I l 0 e h' i0 fun j y e h hj ij => by
    rw [Nat.zero_add] at ij ⊢
    exact st j y e h hj ij
  rw [Nat.zero_add] at this
  exact this
/-- a loop over what stands in the heap, which stays -/
theorem sFor_const {ci : Ci} {t : Cy} {b : Cs} {e : Ev} {h h' : Hh} {src : Src} {l : List Y} (I : Ev → Prop) (hc : ci e h = .ok src h') (hs : src h' = some l) (hi : I e) (st : ∀ y ∈ l, ∀ e, I e → ∃ e1 e2, t y e h' = some e1 ∧ b e1 h' = .nx e2 h' ∧ I e2) : ∃ e', sFor ci t b e h = .nx e' h' ∧ I e' := by
  have key : ∀ (m i : Nat) (e : Ev), l.length + 1 = m + i → i ≤ l.length → I e → ∃ e', loop src t b m i e h' = .nx e' h' ∧ I e' := by
    intro m
    induction m with
    | zero => intro i e h1 h2 _; omega
    | succ m ih =>
      intro i e h1 h2 hi
      unfold loop
      rw [hs]
      dsimp only
      by_cases hl : i < l.length
      · rw [List.getElem?_eq_getElem hl]
        dsimp only
        obtain ⟨e1, e2, a1, a2, a3⟩ := st l[i] (List.getElem_mem hl) e hi
        rw [a1]
        dsimp only
        rw [a2]
        exact ih (i + 1) e2 (by omega) (by omega) a3
      · have : l[i]? = none := List.getElem?_eq_none (by omega)
        rw [this]
        exact ⟨e, rfl, hi⟩
  have hn : srcLen src h' = l.length := by unfold srcLen; rw [hs]
  unfold sFor
  rw [hc, lift_ok, hn]
  exact key (l.length + 1) 0 e (by omega) (by omega) hi
theorem it_r {n : Nat} {c : Cd} {e : Ev} {h h' : Hh} {l : List W} (hc : c e h = .ok (.r n) h') (hn : h'[n]? = some (.lst l)) : cIt c e h = .ok (refS n) h' ∧ refS n h' = some (l.map .w) := by
  unfold cIt
  rw [hc, R.bind_ok]
  constructor
  · unfold srcOf
    dsimp only
    rw [hn]
  · unfold refS
    rw [hn]
theorem le_int {a b : Int} : D.le (.int a) (.int b) = leI a b := by
  unfold D.le leI
  rw [Bool.eq_iff_iff]
  simp [D.lt]
theorem sort_ints {L : List Int} {h : Hh} (hl : L.length ≤ 1000000) : biSort false [.d (.lst (L.map .int))] h = .ok (.d (.lst ((isort leI L).map .int))) h := by
  unfold biSort
  have e : (seqW (.d (.lst (L.map .int))) h).bind allD = some (L.map .int) := allD_map _
  dsimp only
  rw [e]
  have h1 : allAl (L.map D.int) = true := by simp [allAl, D.al]
  have h2 : canSort (L.map D.int) = true := by
    unfold canSort
    rw [Bool.or_eq_true]
    right
    simp
  have h3 : (L.map D.int).all (sh 63) = true := by simp [sh]
  dsimp only
  rw [h1, h2, h3, isort_map, show (fun x y => D.le (D.int x) (D.int y)) = leI from funext fun a => funext fun b => le_int]
  exact fin_d (by rw [List.length_map, isort_len]; omega)
/-! ### what repr can write -/
structure Smal (m n : Nat) (d : D) : Prop where
  sh : sh m d = true
  shw : D.shw d = true
  sz : D.sz d ≤ n
structure SmalL (m n : Nat) (l : List D) : Prop where
  sh : ∀ x ∈ l, sh m x = true
  shw : shwL l = true
  sz : szL l ≤ n
section
variable {m n k m' n' : Nat} {d x : D} {l : List D}
theorem log_lt {i : Int} {k : Nat} (h : i.natAbs < 2 ^ k) (hk : 0 < k) : i.natAbs.log2 < k := by
  by_cases q : i.natAbs = 0
  · rw [q]; simp; exact hk
  · exact (Nat.log2_lt q).mpr h
theorem smal_int {i : Int} (h : i.natAbs < 2 ^ k) (hk : 0 < k ∧ k ≤ 1900) : Smal m (k + 1) (.int i) := by
  have := log_lt h hk.1
  refine ⟨by cases m <;> rfl, ?_, ?_⟩
  · simp only [D.shw, decide_eq_true_eq]; omega
  · simp only [D.sz]; omega
theorem smal_non : Smal m 4 .non := ⟨by cases m <;> rfl, rfl, by simp [D.sz]⟩
theorem smal_bl {b : Bool} : Smal m 5 (.bl b) := ⟨by cases m <;> rfl, rfl, by simp [D.sz]⟩
theorem smal_str {s : List Nat} (h : s.all (· < 1114112) = true) : Smal m (10 * s.length + 2) (.str s) := ⟨by cases m <;> exact h, rfl, by simp [D.sz]⟩
theorem Smal.mono (h : Smal m n d) (h1 : m ≤ m') (h2 : n ≤ n') : Smal m' n' d := ⟨sh_up m m' h1 d h.sh, h.shw, Nat.le_trans h.sz h2⟩
theorem smalL_nil : SmalL m 0 [] := ⟨by simp, rfl, by simp [szL]⟩
theorem smalL_cons (h : Smal m n x) (h2 : SmalL m k l) : SmalL m (n + 2 + k) (x :: l) := by
  refine ⟨fun y hy => ?_, ?_, ?_⟩
  · rcases List.mem_cons.mp hy with rfl | hy
    · exact h.sh
    · exact h2.sh y hy
  · simp only [shwL, h.shw, h2.shw]; rfl
  · have := h.sz
    have := h2.sz
    simp only [szL]
    omega
theorem smal_tup (h : SmalL m n l) : Smal (m + 1) (n + 2) (.tup l) := ⟨List.all_eq_true.mpr h.sh, h.shw, by have := h.sz; simp only [D.sz]; omega⟩
theorem smal_lst (h : SmalL m n l) : Smal (m + 1) (n + 2) (.lst l) := ⟨List.all_eq_true.mpr h.sh, h.shw, by have := h.sz; simp only [D.sz]; omega⟩
theorem smalL_map {α : Type} {f : α → D} : ∀ {L : List α}, (∀ x ∈ L, Smal m n (f x)) → SmalL m ((n + 2) * L.length) (L.map f)
  | [], _ => ⟨by simp, rfl, by simp [szL]⟩
  | a :: L, h => by
    have h1 := h a (by simp)
    have h2 := smalL_map (L := L) fun x hx => h x (by simp [hx])
    have := smalL_cons h1 h2
    refine ⟨this.sh, this.shw, Nat.le_trans this.sz ?_⟩
    rw [List.length_cons, Nat.mul_succ]
    omega
theorem Smal.show' (h : Smal m n d) (h1 : m ≤ 60) (h2 : n ≤ 16000000) : canShow d = true := by
  unfold canShow
  rw [sh_up m 60 h1 d h.sh, h.shw, decide_eq_true (Nat.le_trans h.sz (Nat.le_trans h2 (by omega)))]
  rfl
/-- _law_same of what is the same -/
theorem same_at {d : D} {h : Hh} (hd : canShow d = true) : mkFn 2 2 (sRet (cSame 0 1)) [.d d, .d d] h = .ok (.d (.bl true)) h := by
  have e : cSame 0 1 [some (.d d), some (.d d)] h = .ok (.d (.bl true)) h := by
    unfold cSame
    dsimp only [List.getElem?_cons_zero, List.getElem?_cons_succ, valD]
    rw [show D.beq d d = true from (D.beq_iff d d).mpr rfl, hd]
    rfl
  refine fn_rt rfl ?_
  show lift (cSame 0 1 [some (.d d), some (.d d)] h) _ _ = _
  rw [e]
  rfl
theorem same_pure {d : D} {h : Hh} (hd : canShow d = true) : pure' (mkFn 2 2 (sRet (cSame 0 1))) [.d d, .d d] h = .ok (.d (.bl true)) h := pure_ok rfl (same_at hd)
end
/-! ### dicts by whole numbers -/
def dkI (m : List (Int × W)) : List (D × W) := m.map fun p => (.int p.1, p.2)
def putI (k : Int) (w : W) (m : List (Int × W)) : List (Int × W) := if m.any (fun p => p.1 == k) then m.map (fun p => if p.1 = k then (p.1, w) else p) else m ++ [(k, w)]
theorem beq_int {a b : Int} : D.beq (.int a) (.int b) = (a == b) := by
  rw [Bool.eq_iff_iff, D.beq_iff]
  simp
theorem lkd_int {k : Int} : ∀ {m : List (Int × W)}, lkd (.int k) (dkI m) = m.lookup k
  | [] => rfl
  | (a, w) :: m => by
    show (if D.beq (.int a) (.int k) = true then some w else lkd (.int k) (dkI m)) = _
    rw [beq_int, lkd_int, List.lookup_cons]
    by_cases h : a = k
    · subst h; simp
    · have h' : ¬ k = a := fun q => h q.symm
      simp [h, beq_eq_false_iff_ne.mpr h']
theorem putd_int {k : Int} {w : W} {m : List (Int × W)} : putd (.int k) w (dkI m) = dkI (putI k w m) := by
  unfold putd putI dkI
  rw [List.any_map]
  have e : ((fun p : D × W => D.beq p.1 (.int k)) ∘ fun p : Int × W => (D.int p.1, p.2)) = fun p => p.1 == k := funext fun p => beq_int
  rw [e]
  split
  · rw [List.map_map, List.map_map]
    congr 1
    funext p
    show (if D.beq (.int p.1) (.int k) = true then _ else _) = _
    rw [beq_int]
    by_cases h : p.1 = k <;> simp [h]
  · simp
theorem keysI_int : ∀ {m : List (Int × W)}, keysI (dkI m) = some (m.map (·.1))
  | [] => rfl
  | (a, w) :: m => by
    show (keysI (dkI m)).map (a :: ·) = _
    rw [keysI_int]
    rfl
theorem putI_keys {k : Int} {w : W} {m : List (Int × W)} {x : Int} : x ∈ (putI k w m).map (·.1) ↔ x = k ∨ x ∈ m.map (·.1) := by
  unfold putI
  split
  · rename_i h
    have e : (m.map fun p => if p.1 = k then (p.1, w) else p).map (·.1) = m.map (·.1) := by
      rw [List.map_map]
      congr 1
      funext p
      show (if p.1 = k then (p.1, w) else p).1 = p.1
      split <;> rfl
    rw [e]
    constructor
    · exact .inr
    · rintro (rfl | h2)
      · obtain ⟨p, hp, e⟩ := List.any_eq_true.mp h
        exact List.mem_map.mpr ⟨p, hp, eq_of_beq e⟩
      · exact h2
  · simp [or_comm]
theorem putI_len {k : Int} {w : W} {m : List (Int × W)} : (putI k w m).length ≤ m.length + 1 := by
  unfold putI
  split <;> simp
theorem lk_map {k x : Int} {w : W} : ∀ {m : List (Int × W)}, (m.map fun p => if p.1 = k then (p.1, w) else p).lookup x = if x = k then (m.lookup k).map (fun _ => w) else m.lookup x
  | [] => by simp
  | (a, u) :: m => by
    rw [List.map_cons]
    have ih := lk_map (k := k) (x := x) (w := w) (m := m)
    by_cases ha : a = k
    · subst ha
      rw [if_pos rfl, List.lookup_cons, List.lookup_cons, ih]
      by_cases hx : x = a
      · subst hx; simp
      · have h1 : (x == a) = false := by simpa using hx
        rw [if_neg hx, if_neg hx]
        show (match x == a with | true => some w | false => List.lookup x m) = _
        rw [h1, List.lookup_cons, h1]
    · rw [if_neg ha, List.lookup_cons, ih, List.lookup_cons]
      by_cases hx : x = a
      · subst hx; simp [ha]
      · have h1 : (x == a) = false := by simpa using hx
        rw [h1, List.lookup_cons, h1]
        by_cases hk : x = k
        · subst hk
          simp [h1]
        · simp [hk]
theorem putI_lk {k : Int} {w : W} {m : List (Int × W)} {x : Int} : (putI k w m).lookup x = if x = k then some w else m.lookup x := by
  unfold putI
  split
  · rename_i h
    rw [lk_map]
    by_cases hx : x = k
    · rw [if_pos hx, if_pos hx]
      obtain ⟨p, hp, e⟩ := List.any_eq_true.mp h
      cases hl : m.lookup k with
      | some u => rfl
      | none =>
        have := List.lookup_eq_none_iff.mp hl p hp
        simp at this e
        exact absurd e.symm this
    · rw [if_neg hx, if_neg hx]
  · rename_i h
    rw [List.lookup_append]
    by_cases hx : x = k
    · subst hx
      have : m.lookup x = none := by
        rw [List.lookup_eq_none_iff]
        intro p hp
        simp only [Bool.not_eq_true, List.any_eq_false] at h
        have := h p hp
        simp at this ⊢
        exact fun q => this q.symm
      rw [this, if_pos rfl]
      simp
    · rw [if_neg hx]
      simp [List.lookup_cons, beq_eq_false_iff_ne.mpr hx]
/-- dict([(k, v), ..]) -/
def mkI (ps : List (Int × W)) : List (Int × W) := ps.foldl (fun m p => putI p.1 p.2 m) []
theorem merge_int : ∀ (ps m : List (Int × W)), mergeD (dkI m) (ps.map fun p => (.int p.1, p.2)) = dkI (ps.foldl (fun m p => putI p.1 p.2 m) m)
  | [], m => rfl
  | p :: ps, m => by
    have := merge_int ps (putI p.1 p.2 m)
    rw [← putd_int] at this
    exact this
theorem fold_keys : ∀ {ps m : List (Int × W)} {x : Int}, x ∈ (ps.foldl (fun m p => putI p.1 p.2 m) m).map (·.1) ↔ x ∈ ps.map (·.1) ∨ x ∈ m.map (·.1)
  | [], m, x => by simp
  | p :: ps, m, x => by
    rw [List.foldl_cons, fold_keys, putI_keys, List.map_cons, List.mem_cons]
    constructor
    · rintro (h | h | h) <;> simp [h]
    · rintro ((h | h) | h) <;> simp [h]
theorem mkI_keys {ps : List (Int × W)} {x : Int} : x ∈ (mkI ps).map (·.1) ↔ x ∈ ps.map (·.1) := by
  unfold mkI
  rw [fold_keys]
  simp
theorem fold_len : ∀ {ps m : List (Int × W)}, (ps.foldl (fun m p => putI p.1 p.2 m) m).length ≤ ps.length + m.length
  | [], m => by simp
  | p :: ps, m => by
    rw [List.foldl_cons]
    have := fold_len (ps := ps) (m := putI p.1 p.2 m)
    have := putI_len (k := p.1) (w := p.2) (m := m)
    rw [List.length_cons]
    omega
theorem mkI_len {ps : List (Int × W)} : (mkI ps).length ≤ ps.length := by
  have := fold_len (ps := ps) (m := [])
  simpa [mkI] using this
theorem pairsD_int : ∀ {L : List (Int × D)}, pairsD (L.map fun p => .tup [.int p.1, p.2]) = some (L.map fun p => (.int p.1, p.2))
  | [] => rfl
  | p :: L => by
    show (if (D.int p.1).isK then (pairsD (L.map fun p => .tup [.int p.1, p.2])).map ((D.int p.1, p.2) :: ·) else none) = _
    rw [pairsD_int]
    rfl
theorem dict_int {L : List (Int × D)} {h : Hh} (hl : L.length ≤ 1000000) : biDict [.d (.lst (L.map fun p => .tup [.int p.1, p.2]))] h = .ok (.r h.length) (h ++ [.dk (dkI (mkI (L.map fun p => (p.1, .d p.2))))]) := by
  unfold biDict
  have e : lstW (.d (.lst (L.map fun p => .tup [.int p.1, p.2]))) h = some ((L.map fun p => D.tup [.int p.1, p.2]).map .d) := rfl
  dsimp only
  rw [e]
  dsimp only
  rw [allD_map, Option.bind_some, pairsD_int]
  dsimp only
  rw [if_pos (by rw [List.length_map]; omega), List.map_map]
  have := merge_int (L.map fun p => (p.1, W.d p.2)) []
  rw [List.map_map] at this
  unfold mkI
  rw [← this]
  rfl
theorem sortK_int {n : Nat} {m : List (Int × W)} {h : Hh} (hn : h[n]? = some (.dk (dkI m))) (hl : m.length < 64) : biSortK false [.r n] h = .ok (.d (.lst ((isort leI (m.map (·.1))).map .int))) h := by
  unfold biSortK
  dsimp only
  rw [hn]
  dsimp only
  rw [keysI_int]
  dsimp only
  rw [if_pos (by rw [List.length_map]; exact hl)]
  have e : (isort leI (m.map (·.1))).map (fun i => W.d (.int i)) = ((isort leI (m.map (·.1))).map D.int).map .d := by rw [List.map_map]; rfl
  rw [e]
  exact fin_d (by rw [List.length_map, isort_len, List.length_map]; omega)
end Fz
set_option Elab.async false
set_option linter.all false
set_option maxRecDepth 100000
set_option maxHeartbeats 4000000
namespace K45
open PySem L2 Fz PyProof.Rows
def top (i : Nat) : Stmt := PySem.Challenge.pw_nowayleft_k45_spans_on_stacks.main.body.getD i (.Pass ⟨0, 0, 0, 0⟩)
/-! ### what the defs do -/
def su_0 : Nat → D → Option D := fun c x => match c with | 0 => sPay [97, 114, 103, 117, 109, 101, 110, 116, 32] x | _ => none
def tbl_1 (r : Nat → Fn) : List Nat → Option (Bool × Fn) := fun q => if q = [106, 117, 100, 103, 101, 95, 115, 116, 97, 99, 107] then some (true, r 3) else if q = [100, 101, 101, 112, 101, 115, 116] then some (true, r 4) else if q = [102, 101, 119, 101, 115, 116, 95, 115, 116, 97, 99, 107, 115] then some (true, r 5) else none
def tbl_2 (r : Nat → Fn) : List Nat → Option (Bool × Fn) := fun q => none
def tbl_3 (r : Nat → Fn) : List Nat → Option (Bool × Fn) := fun q => none
def tbl_4 (r : Nat → Fn) : List Nat → Option (Bool × Fn) := fun q => none
def tbl_5 (r : Nat → Fn) : List Nat → Option (Bool × Fn) := fun q => none
def tbl_6 (r : Nat → Fn) : List Nat → Option (Bool × Fn) := fun q => none
def tbl_7 (r : Nat → Fn) : List Nat → Option (Bool × Fn) := fun q => none
/-- is_integer -/
def c_0 (r : Nat → Fn) : Cs := (sRet (cAnd (cIsi .int (cv 0)) (cNot (cIsi .bool (cv 0)))))
def c_1_0 (r : Nat → Fn) : Cs := (sSeq (sIf (bOr (bNot (cT (cIsi .tup (cv 1)))) (bOr (bC (opEq true) (cCl biLen (aCons (cv 1) aNil)) (cc (.int 2))) (bNot (cT (cCl biAll (aCons (cLc false [2] (cIt (cv 1)) (yN (tN 2)) bYes (cCall true 1 (r 0) (aCons (cv 2) aNil))) aNil))))))
    (sRaise 0 (cc (.str [115, 112, 97, 110, 115])))
    sNx)
    (sIf (bNot (bChn (cc (.int 0)) (chC opLe (c2 opIx (cv 1) (cc (.int 0))) (chC opLt (c2 opIx (cv 1) (cc (.int 1))) (chL opLe (cc (.int 1000)))))))
    (sRaise 0 (cc (.str [115, 112, 97, 110, 115])))
    sNx))
/-- check_spans -/
def c_1 (r : Nat → Fn) : Cs := (sSeq (sIf (bOr (bNot (cT (cIsi .tup (cv 0)))) (bC opGt (cCl biLen (aCons (cv 0) aNil)) (cc (.int 60))))
    (sRaise 0 (cc (.str [115, 112, 97, 110, 115])))
    sNx)
    (sFor (cIt (cv 0)) (yN (tN 1))
    (c_1_0 r)))
/-- crosses -/
def c_2 (r : Nat → Fn) : Cs := (sRet (cOr (cChn (c2 opIx (cv 0) (cc (.int 0))) (chC opLt (c2 opIx (cv 1) (cc (.int 0))) (chC opLt (c2 opIx (cv 0) (cc (.int 1))) (chL opLt (c2 opIx (cv 1) (cc (.int 1))))))) (cChn (c2 opIx (cv 1) (cc (.int 0))) (chC opLt (c2 opIx (cv 0) (cc (.int 0))) (chC opLt (c2 opIx (cv 1) (cc (.int 1))) (chL opLt (c2 opIx (cv 0) (cc (.int 1)))))))))
def c_3_0 (r : Nat → Fn) : Cs := (sIf (cT (cCall true 2 (r 2) (aCons (c2 opIx (cv 0) (cv 2)) (aCons (c2 opIx (cv 0) (cv 1)) aNil))))
    (sRet (cCl mkT (aCons (cc (.str [99, 114, 111, 115, 115])) (aCons (cv 2) (aCons (cv 1) aNil)))))
    sNx)
def c_3_1 (r : Nat → Fn) : Cs := (sFor (cR1 (aCons (cv 1) aNil)) (yN (tN 2))
    (c_3_0 r))
/-- judge_stack -/
def c_3 (r : Nat → Fn) : Cs := (sSeq (sExpr (cCall true 1 (r 1) (aCons (cv 0) aNil)))
    (sSeq (sFor (cR1 (aCons (cCl biLen (aCons (cv 0) aNil)) aNil)) (yN (tN 1))
    (c_3_1 r))
    (sSeq (sAsg (cCl (biSort false) (aCons (cLc false [4, 5] (cEn (cv 0)) (yT (tCns (tN 4) (tCns (tN 5) Fz.tNil))) bYes (cCl mkT (aCons (c2 opIx (cv 5) (cc (.int 0))) (aCons (c1 opNeg (c2 opIx (cv 5) (cc (.int 1)))) (aCons (cv 4) aNil))))) aNil)) (tN 3))
    (sRet (cCl mkT (aCons (cc (.str [115, 116, 97, 99, 107])) (aCons (cCl biTuple (aCons (cLc false [6, 7, 4] (cIt (cv 3)) (yT (tCns (tN 6) (tCns (tN 7) (tCns (tN 4) Fz.tNil)))) bYes (cv 4)) aNil)) aNil)))))))
def c_4_0 (r : Nat → Fn) : Cs := (sSeq (sAsg (cCl biLen (aCons (cLc false [3] (cIt (cv 0)) (yN (tN 3)) (bCh opLe opLt (c2 opIx (cv 3) (cc (.int 0))) (cv 2) (c2 opIx (cv 3) (cc (.int 1)))) (cv 3)) aNil)) (tN 4))
    (sIf (bC opGt (cv 4) (c2 opIx (cv 1) (cc (.int 0))))
    (sAsg (cCl mkT (aCons (cv 4) (aCons (cv 2) aNil))) (tN 1))
    sNx))
/-- deepest -/
def c_4 (r : Nat → Fn) : Cs := (sSeq (sExpr (cCall true 1 (r 1) (aCons (cv 0) aNil)))
    (sSeq (sAsg (cCl mkT (aCons (cc (.int 0)) (aCons (cc .non) aNil))) (tN 1))
    (sSeq (sFor (cIt (cCl (biSort false) (aCons (cLc false [3] (cIt (cv 0)) (yN (tN 3)) bYes (c2 opIx (cv 3) (cc (.int 0)))) aNil))) (yN (tN 2))
    (c_4_0 r))
    (sRet (cv 1)))))
def c_5_0 (r : Nat → Fn) : Cs := (sAug 9 opAddI (cc (.int 1)))
def c_5_1 (r : Nat → Fn) : Cs := (sSeq (sAsg (cLc false [8] (cIt (cv 2)) (yN (tN 8)) (cT (cCall true 2 (r 2) (aCons (c2 opIx (cv 0) (cv 8)) (aCons (c2 opIx (cv 0) (cv 5)) aNil)))) (c2 opIx (cv 1) (cv 8))) (tN 7))
    (sSeq (sAsg (cc (.int 0)) (tN 9))
    (sSeq (sWhile 100000 (bC (opIn false) (cv 9) (cv 7))
    (c_5_0 r))
    (sSeq (sSet (cv 9) (cv 1) (cv 5))
    (sExpr (cLm mAppend (cv 2) (aCons (cv 5) aNil)))))))
/-- fewest_stacks -/
def c_5 (r : Nat → Fn) : Cs := (sSeq (sExpr (cCall true 1 (r 1) (aCons (cv 0) aNil)))
    (sSeq (sAsg (c2 (opMul true) (cCl mkM (aCons (cc (.int 0)) aNil)) (cCl biLen (aCons (cv 0) aNil))) (tN 1))
    (sSeq (sAsg (cCl mkM aNil) (tN 2))
    (sSeq (sFor (cIt (cCl (biSort false) (aCons (cLc false [5, 6] (cEn (cv 0)) (yT (tCns (tN 5) (tCns (tN 6) Fz.tNil))) bYes (cCl mkT (aCons (c2 opIx (cv 6) (cc (.int 0))) (aCons (c1 opNeg (c2 opIx (cv 6) (cc (.int 1)))) (aCons (cv 5) aNil))))) aNil))) (yT (tCns (tN 3) (tCns (tN 4) (tCns (tN 5) Fz.tNil))))
    (c_5_1 r))
    (sRet (cCl biTuple (aCons (cv 1) aNil)))))))
def c_6_0 (r : Nat → Fn) : Cs := (sAsg (c2 (opAdd false) (c2 opMod (cCl biInt (aCons (c2 (opAdd false) (c2 (opMul false) (cv 1) (cc (.int 48271))) (cv 2)) aNil)) (cc (.int 2147483629))) (cc (.int 1))) (tN 1))
/-- _law_start -/
def c_6 (r : Nat → Fn) : Cs := (sSeq (sAsg (cc (.int 7)) (tN 1))
    (sSeq (sFor (cIt (cv 0)) (yN (tN 2))
    (c_6_0 r))
    (sRet (cCl mkM (aCons (cCl (biList false) (aCons (cv 0) aNil)) (aCons (cc (.int 0)) (aCons (cc (.int 0)) (aCons (cv 1) aNil))))))))
/-- _law_draw -/
def c_7 (r : Nat → Fn) : Cs := (sSeq (sIf (bAnd (bC (opEq false) (c2 opIx (cv 0) (cc (.int 1))) (cc (.int 0))) (bC opGe (c2 opIx (cv 0) (cc (.int 2))) (cCl biLen (aCons (c2 opIx (cv 0) (cc (.int 0))) aNil))))
    (sSeq (sSet (c2 opMod (cCl biInt (aCons (c2 (opAdd false) (c2 (opMul false) (c2 opIx (cv 0) (cc (.int 3))) (cc (.int 48271))) (cc (.int 69621))) aNil)) (cc (.int 2147483629))) (cv 0) (cc (.int 3)))
    (sRet (c2 opMod (cCl biInt (aCons (c2 opFdiv (c2 opIx (cv 0) (cc (.int 3))) (cc (.int 13))) aNil)) (cv 1))))
    sNx)
    (sSeq (sIf (bC (opEq false) (c2 opIx (cv 0) (cc (.int 1))) (cc (.int 0)))
    (sSeq (sSet (cCl biAbs (aCons (c2 opIx (c2 opIx (cv 0) (cc (.int 0))) (c2 opIx (cv 0) (cc (.int 2)))) aNil)) (cv 0) (cc (.int 1)))
    (sSet (c2 (opAdd false) (c2 opIx (cv 0) (cc (.int 2))) (cc (.int 1))) (cv 0) (cc (.int 2))))
    sNx)
    (sSeq (sAsg (c2 opMod (cCl biInt (aCons (c2 opIx (cv 0) (cc (.int 1))) aNil)) (cv 1)) (tN 2))
    (sSeq (sSet (c2 opFdiv (c2 opIx (cv 0) (cc (.int 1))) (cv 1)) (cv 0) (cc (.int 1)))
    (sRet (cv 2))))))
/-- _law_pick -/
def c_8 (r : Nat → Fn) : Cs := (sRet (c2 opIx (cv 1) (cCall false 2 (r 7) (aCons (cv 0) (aCons (cCl biLen (aCons (cv 1) aNil)) aNil)))))
/-- _law_same -/
def c_9 (r : Nat → Fn) : Cs := (sRet (cSame 0 1))
/-- _law_asked -/
def c_10 (r : Nat → Fn) : Cs := (sTry 2 [0] (sSeq (sIf (bC opLt (cCl biLen (aCons (cv 1) aNil)) (cc (.int 3)))
    (sRet (cIf (bC (opEq false) (cCl biLen (aCons (cv 1) aNil)) (cc (.int 1))) (cCl mkL (aCons (cCallV 0 1 (tbl_1 r) (aCons (c2 opIx (cv 1) (cc (.int 0))) aNil)) aNil)) (cCl mkL (aCons (cCallV 0 2 (tbl_2 r) (aCons (c2 opIx (cv 1) (cc (.int 0))) (aCons (c2 opIx (cv 1) (cc (.int 1))) aNil))) aNil))))
    sNx)
    (sSeq (sIf (bC opLt (cCl biLen (aCons (cv 1) aNil)) (cc (.int 5)))
    (sRet (cIf (bC (opEq false) (cCl biLen (aCons (cv 1) aNil)) (cc (.int 3))) (cCl mkL (aCons (cCallV 0 3 (tbl_3 r) (aCons (c2 opIx (cv 1) (cc (.int 0))) (aCons (c2 opIx (cv 1) (cc (.int 1))) (aCons (c2 opIx (cv 1) (cc (.int 2))) aNil)))) aNil)) (cCl mkL (aCons (cCallV 0 4 (tbl_4 r) (aCons (c2 opIx (cv 1) (cc (.int 0))) (aCons (c2 opIx (cv 1) (cc (.int 1))) (aCons (c2 opIx (cv 1) (cc (.int 2))) (aCons (c2 opIx (cv 1) (cc (.int 3))) aNil))))) aNil))))
    sNx)
    (sSeq (sIf (bC (opEq false) (cCl biLen (aCons (cv 1) aNil)) (cc (.int 5)))
    (sRet (cCl mkL (aCons (cCallV 0 5 (tbl_5 r) (aCons (c2 opIx (cv 1) (cc (.int 0))) (aCons (c2 opIx (cv 1) (cc (.int 1))) (aCons (c2 opIx (cv 1) (cc (.int 2))) (aCons (c2 opIx (cv 1) (cc (.int 3))) (aCons (c2 opIx (cv 1) (cc (.int 4))) aNil)))))) aNil)))
    sNx)
    (sSeq (sIf (bC (opEq false) (cCl biLen (aCons (cv 1) aNil)) (cc (.int 6)))
    (sRet (cCl mkL (aCons (cCallV 0 6 (tbl_6 r) (aCons (c2 opIx (cv 1) (cc (.int 0))) (aCons (c2 opIx (cv 1) (cc (.int 1))) (aCons (c2 opIx (cv 1) (cc (.int 2))) (aCons (c2 opIx (cv 1) (cc (.int 3))) (aCons (c2 opIx (cv 1) (cc (.int 4))) (aCons (c2 opIx (cv 1) (cc (.int 5))) aNil))))))) aNil)))
    sNx)
    (sRet (cCl mkL (aCons (cCallV 0 7 (tbl_7 r) (aCons (c2 opIx (cv 1) (cc (.int 0))) (aCons (c2 opIx (cv 1) (cc (.int 1))) (aCons (c2 opIx (cv 1) (cc (.int 2))) (aCons (c2 opIx (cv 1) (cc (.int 3))) (aCons (c2 opIx (cv 1) (cc (.int 4))) (aCons (c2 opIx (cv 1) (cc (.int 5))) (aCons (c2 opIx (cv 1) (cc (.int 6))) aNil)))))))) aNil)))))))
    su_0)
/-- _law_whole -/
def c_11 (r : Nat → Fn) : Cs := (sRet (cAnd (cIsi .int (cv 0)) (cAnd (cNot (cIsi .bool (cv 0))) (cch opLe opLe (cv 1) (cv 0) (cv 2)))))
/-- _law_bent -/
def c_12 (r : Nat → Fn) : Cs := (sSeq (sIf (bAnd (cT (cIsi .int (cv 1))) (bAnd (bNot (cT (cIsi .bool (cv 1)))) (bC opGt (cCall false 2 (r 7) (aCons (cv 0) (aCons (cc (.int 4)) aNil))) (cc (.int 0)))))
    (sRet (c2 (opAdd false) (cv 1) (cCall false 2 (r 8) (aCons (cv 0) (aCons (cCl mkL (aCons (cc (.int 1)) (aCons (c1 opNeg (cc (.int 1))) (aCons (cc (.int 2)) (aCons (cc (.int 40)) aNil))))) aNil)))))
    sNx)
    (sSeq (sIf (bOr (bNot (cT (cIsi .tup (cv 1)))) (bOr (bNot (cT (cv 1))) (bOr (bC (opEq false) (cv 2) (cc (.int 0))) (bC (opEq false) (cCall false 2 (r 7) (aCons (cv 0) (aCons (cc (.int 9)) aNil))) (cc (.int 0))))))
    (sRet (cCall false 2 (r 8) (aCons (cv 0) (aCons (cCl mkL (aCons (cc .non) (aCons (cc (.bl true)) (aCons (cc (.bl false)) (aCons (c1 opNeg (cc (.int 1))) (aCons (cc (.int 0)) (aCons (cc (.int 1)) (aCons (cc (.str [])) (aCons (cc (.str [110, 101, 119])) (aCons (cCl mkT aNil) (aCons (cCl mkT (aCons (cc (.int 0)) aNil)) (aCons (cCl mkT (aCons (cc (.int 0)) (aCons (cc (.int 1)) aNil))) (aCons (cCl mkT (aCons (cc (.int 1)) (aCons (cc (.int 1)) aNil))) (aCons (cCl mkT (aCons (cc (.int 1)) (aCons (cc (.int 0)) aNil))) (aCons (cCl mkT (aCons (cCl mkT (aCons (cc (.int 1)) (aCons (cc (.int 1)) aNil))) aNil)) (aCons (cCl mkT (aCons (cCl mkT (aCons (cc (.int 0)) (aCons (cc (.int 1)) aNil))) aNil)) (aCons (cCl mkT (aCons (cc .non) aNil)) (aCons (cCl mkT (aCons (cc (.bl true)) aNil)) aNil)))))))))))))))))) aNil))))
    sNx)
    (sSeq (sAsg (cCall false 2 (r 7) (aCons (cv 0) (aCons (cCl biLen (aCons (cv 1) aNil)) aNil))) (tN 3))
    (sSeq (sAsg (cCall false 2 (r 7) (aCons (cv 0) (aCons (cc (.int 8)) aNil))) (tN 4))
    (sSeq (sIf (bC (opEq false) (cv 4) (cc (.int 0)))
    (sRet (c2 (opAdd false) (cSl false (cv 1) oN (oS (cv 3))) (cSl false (cv 1) (oS (c2 (opAdd false) (cv 3) (cc (.int 1)))) oN)))
    sNx)
    (sSeq (sIf (bC (opEq false) (cv 4) (cc (.int 1)))
    (sRet (c2 (opAdd false) (c2 (opAdd false) (cSl false (cv 1) oN (oS (cv 3))) (cSl false (cv 1) (oS (cv 3)) (oS (c2 (opAdd false) (cv 3) (cc (.int 1)))))) (cSl false (cv 1) (oS (cv 3)) oN)))
    sNx)
    (sSeq (sIf (bC (opEq false) (cv 4) (cc (.int 2)))
    (sRet (c1 opRevT (cv 1)))
    sNx)
    (sRet (c2 (opAdd false) (c2 (opAdd false) (cSl false (cv 1) oN (oS (cv 3))) (cCl mkT (aCons (cCall false 3 (r 12) (aCons (cv 0) (aCons (c2 opIx (cv 1) (cv 3)) (aCons (c2 opSub (cv 2) (cc (.int 1))) aNil)))) aNil))) (cSl false (cv 1) (oS (c2 (opAdd false) (cv 3) (cc (.int 1)))) oN))))))))))
/-- _law_cross -/
def c_13 (r : Nat → Fn) : Cs := (sSeq (sPar (aCons (cCl biMinD (aCons (cCl mkL (aCons (cv 0) (aCons (cv 1) aNil))) aNil)) (aCons (cCl biMaxD (aCons (cCl mkL (aCons (cv 0) (aCons (cv 1) aNil))) aNil)) aNil)) (tCns (tN 2) (tCns (tN 3) Fz.tNil)))
    (sRet (cChn (c2 opIx (cv 2) (cc (.int 0))) (chC opLt (c2 opIx (cv 3) (cc (.int 0))) (chC opLt (c2 opIx (cv 2) (cc (.int 1))) (chL opLt (c2 opIx (cv 3) (cc (.int 1)))))))))
/-- _law_order -/
def c_14 (r : Nat → Fn) : Cs := (sRet (cLc false [1, 2, 3] (cIt (cCl (biSort false) (aCons (cLc false [3] (cR1 (aCons (cCl biLen (aCons (cv 0) aNil)) aNil)) (yN (tN 3)) bYes (cCl mkT (aCons (c2 opIx (c2 opIx (cv 0) (cv 3)) (cc (.int 0))) (aCons (c2 opSub (cc (.int 0)) (c2 opIx (c2 opIx (cv 0) (cv 3)) (cc (.int 1)))) (aCons (cv 3) aNil))))) aNil))) (yT (tCns (tN 1) (tCns (tN 2) (tCns (tN 3) Fz.tNil)))) bYes (cv 3)))
def c_15_0 (r : Nat → Fn) : Cs := (sSeq (sAsg (cLc false [3] (cR1 (aCons (cv 1) aNil)) (yN (tN 3)) (cT (cCall true 2 (r 13) (aCons (c2 opIx (cv 0) (cv 3)) (aCons (c2 opIx (cv 0) (cv 1)) aNil)))) (cv 3)) (tN 2))
    (sIf (cT (cv 2))
    (sRet (cCl mkT (aCons (cc (.str [99, 114, 111, 115, 115])) (aCons (c2 opIx (cv 2) (cc (.int 0))) (aCons (cv 1) aNil)))))
    sNx))
/-- _law_judged -/
def c_15 (r : Nat → Fn) : Cs := (sSeq (sFor (cR1 (aCons (cCl biLen (aCons (cv 0) aNil)) aNil)) (yN (tN 1))
    (c_15_0 r))
    (sRet (cCl mkT (aCons (cc (.str [115, 116, 97, 99, 107])) (aCons (cCl biTuple (aCons (cCall true 1 (r 14) (aCons (cv 0) aNil)) aNil)) aNil)))))
def c_16_0 (r : Nat → Fn) : Cs := (sSeq (sAsg (cCl biLen (aCons (cLc false [6] (cIt (cv 0)) (yN (tN 6)) (bCh opLe opLt (c2 opIx (cv 6) (cc (.int 0))) (cv 2) (c2 opIx (cv 6) (cc (.int 1)))) (cv 6)) aNil)) (tN 5))
    (sAsg (cIf (bC opGt (cv 5) (c2 opIx (cv 1) (cc (.int 0)))) (cCl mkT (aCons (cv 5) (aCons (cv 2) aNil))) (cv 1)) (tN 1)))
/-- _law_deepest -/
def c_16 (r : Nat → Fn) : Cs := (sSeq (sAsg (cCl mkT (aCons (cc (.int 0)) (aCons (cc .non) aNil))) (tN 1))
    (sSeq (sFor (cIt (cCl (biSortK false) (aCons (cCl biDict (aCons (cLc false [3, 4] (cIt (cv 0)) (yT (tCns (tN 3) (tCns (tN 4) Fz.tNil))) bYes (cCl mkT (aCons (cv 3) (aCons (cc (.bl true)) aNil)))) aNil)) aNil))) (yN (tN 2))
    (c_16_0 r))
    (sRet (cv 1))))
def c_17_0 (r : Nat → Fn) : Cs := (sSeq (sAsg (lkC (gN 1) (cLc false [4] (cKeys (cv 1)) (yN (tN 4)) (cT (cCall true 2 (r 13) (aCons (c2 opIx (cv 0) (cv 4)) (aCons (c2 opIx (cv 0) (cv 2)) aNil)))) (c2 opDx (cv 1) (cv 4)))) (tN 3))
    (sDSet (c2 opIx (cLc false [5] (cR1 (aCons (c2 (opAdd false) (cCl biLen (aCons (cv 0) aNil)) (cc (.int 1))) aNil)) (yN (tN 5)) (bC (opIn true) (cv 5) (cv 3)) (cv 5)) (cc (.int 0))) (cv 1) (cv 2)))
/-- _law_stacks -/
def c_17 (r : Nat → Fn) : Cs := (sSeq (sAsg cDK (tN 1))
    (sSeq (sFor (cIt (cCall true 1 (r 14) (aCons (cv 0) aNil))) (yN (tN 2))
    (c_17_0 r))
    (sRet (cCl biTuple (aCons (cLc false [2] (cR1 (aCons (cCl biLen (aCons (cv 0) aNil)) aNil)) (yN (tN 2)) bYes (c2 opDx (cv 1) (cv 2))) aNil)))))
def c_18_0 (r : Nat → Fn) : Cs := (sIf (bOr (bNot (cT (cIsi .tup (cv 1)))) (bOr (bC (opEq true) (cCl biLen (aCons (cv 1) aNil)) (cc (.int 2))) (bOr (bNot (cT (cCall true 3 (r 11) (aCons (c2 opIx (cv 1) (cc (.int 0))) (aCons (cc (.int 0)) (aCons (cc (.int 1000)) aNil)))))) (bNot (cT (cCall true 3 (r 11) (aCons (c2 opIx (cv 1) (cc (.int 1))) (aCons (c2 (opAdd false) (c2 opIx (cv 1) (cc (.int 0))) (cc (.int 1))) (aCons (cc (.int 1000)) aNil)))))))))
    (sRet (cc (.bl false)))
    sNx)
/-- _law_are_spans -/
def c_18 (r : Nat → Fn) : Cs := (sSeq (sIf (bOr (bNot (cT (cIsi .tup (cv 0)))) (bC opGt (cCl biLen (aCons (cv 0) aNil)) (cc (.int 60))))
    (sRet (cc (.bl false)))
    sNx)
    (sSeq (sFor (cIt (cv 0)) (yN (tN 1))
    (c_18_0 r))
    (sRet (cc (.bl true)))))
def c_19_0 (r : Nat → Fn) : Cs := (sSeq (sAsg (cCall false 2 (r 7) (aCons (cv 1) (aCons (cv 3) aNil))) (tN 6))
    (sSeq (sExpr (cLm mAppend (cv 4) (aCons (cCl mkT (aCons (cv 6) (aCons (c2 (opAdd false) (c2 (opAdd false) (cv 6) (cc (.int 1))) (cCall false 2 (r 7) (aCons (cv 1) (aCons (c2 opSub (cv 3) (cv 6)) aNil)))) aNil))) aNil)))
    (sIf (bC (opEq false) (cCall false 2 (r 7) (aCons (cv 1) (aCons (cc (.int 5)) aNil))) (cc (.int 0)))
    (sSet (cCall false 2 (r 8) (aCons (cv 1) (aCons (cv 4) aNil))) (cv 4) (c1 opNeg (cc (.int 1))))
    sNx)))
def c_19_1 (r : Nat → Fn) : Cs := (sIf (bOr (bC (opEq true) (cIsi .lst (cCall false 2 (r 10) (aCons (cv 10) (aCons (cCl mkL (aCons (cv 9) aNil)) aNil)))) (cCall true 1 (r 18) (aCons (cv 9) aNil))) (bAnd (bNot (cT (cCall true 1 (r 18) (aCons (cv 9) aNil)))) (bC (opEq true) (cCall false 2 (r 10) (aCons (cv 10) (aCons (cCl mkL (aCons (cv 9) aNil)) aNil))) (cc (.str [97, 114, 103, 117, 109, 101, 110, 116, 32, 115, 112, 97, 110, 115])))))
    (sRet (cc (.bl false)))
    sNx)
def c_19_2 (r : Nat → Fn) : Cs := (sSeq (sAsg (cCl mkL (aCons (cc .non) (aCons (cCl mkL aNil) (aCons (cCl mkT (aCons (cCl mkT (aCons (cc (.int 0)) (aCons (cc (.int 0)) aNil))) aNil)) (aCons (cCl mkT (aCons (cCl mkT (aCons (cc (.int 1)) (aCons (cc (.int 0)) aNil))) aNil)) (aCons (cCl mkT (aCons (cCl mkT (aCons (cc (.int 0)) (aCons (cc (.int 1000)) aNil))) aNil)) (aCons (cCl mkT (aCons (cCl mkT (aCons (cc (.int 0)) (aCons (cc (.int 1001)) aNil))) aNil)) (aCons (cCl mkT (aCons (cCl mkT (aCons (c1 opNeg (cc (.int 1))) (aCons (cc (.int 2)) aNil))) aNil)) (aCons (cCl mkT (aCons (cCl mkT (aCons (cc (.bl true)) (aCons (cc (.int 2)) aNil))) aNil)) (aCons (c2 (opMul false) (cCl mkT (aCons (cCl mkT (aCons (cc (.int 0)) (aCons (cc (.int 1)) aNil))) aNil)) (cc (.int 60))) (aCons (c2 (opMul false) (cCl mkT (aCons (cCl mkT (aCons (cc (.int 0)) (aCons (cc (.int 1)) aNil))) aNil)) (cc (.int 61))) (aCons (cCl mkT (aCons (cCl mkT (aCons (cc (.int 0)) (aCons (cc (.int 1)) (aCons (cc (.int 2)) aNil)))) aNil)) (aCons (cCl mkT (aCons (cc (.int 5)) aNil)) aNil))))))))))))) (tN 8))
    (sSeq (sAsg (cCall false 2 (r 8) (aCons (cv 1) (aCons (cCl mkL (aCons (cCall false 3 (r 12) (aCons (cv 1) (aCons (cv 4) (aCons (cc (.int 3)) aNil)))) (aCons (cCall false 2 (r 8) (aCons (cv 1) (aCons (cv 8) aNil))) aNil))) aNil))) (tN 9))
    (sFor (cIt (cCl mkM (aCons (cF [106, 117, 100, 103, 101, 95, 115, 116, 97, 99, 107]) (aCons (cF [100, 101, 101, 112, 101, 115, 116]) (aCons (cF [102, 101, 119, 101, 115, 116, 95, 115, 116, 97, 99, 107, 115]) aNil))))) (yN (tN 10))
    (c_19_1 r))))
def c_19_3 (r : Nat → Fn) : Cs := (sSeq (sPar (aCons (cCall false 2 (r 8) (aCons (cv 1) (aCons (cCl mkL (aCons (cc (.int 4)) (aCons (cc (.int 12)) (aCons (cc (.int 1000)) aNil)))) aNil))) (aCons (cCl mkM aNil) aNil)) (tCns (tN 3) (tCns (tN 4) Fz.tNil)))
    (sSeq (sFor (cR1 (aCons (cCall false 2 (r 7) (aCons (cv 1) (aCons (cCall false 2 (r 8) (aCons (cv 1) (aCons (cCl mkL (aCons (cc (.int 4)) (aCons (cc (.int 9)) (aCons (cc (.int 21)) aNil)))) aNil))) aNil))) aNil)) (yN (tN 5))
    (c_19_0 r))
    (sSeq (sAsg (cCl biTuple (aCons (cv 4) aNil)) (tN 4))
    (sSeq (sAsg (cCl mkL (aCons (cCall false 2 (r 10) (aCons (cF [106, 117, 100, 103, 101, 95, 115, 116, 97, 99, 107]) (aCons (cCl mkL (aCons (cv 4) aNil)) aNil))) (aCons (cCall false 2 (r 10) (aCons (cF [100, 101, 101, 112, 101, 115, 116]) (aCons (cCl mkL (aCons (cv 4) aNil)) aNil))) (aCons (cCall false 2 (r 10) (aCons (cF [102, 101, 119, 101, 115, 116, 95, 115, 116, 97, 99, 107, 115]) (aCons (cCl mkL (aCons (cv 4) aNil)) aNil))) aNil)))) (tN 7))
    (sSeq (sIf (bNot (cT (cCall true 2 (r 9) (aCons (cv 7) (aCons (cCl mkL (aCons (cCl mkL (aCons (cCall true 1 (r 15) (aCons (cv 4) aNil)) aNil)) (aCons (cCl mkL (aCons (cCall true 1 (r 16) (aCons (cv 4) aNil)) aNil)) (aCons (cCl mkL (aCons (cCall true 1 (r 17) (aCons (cv 4) aNil)) aNil)) aNil)))) aNil)))))
    (sRet (cc (.bl false)))
    sNx)
    (sFor (cR1 (aCons (cc (.int 4)) aNil)) (yN (tN 5))
    (c_19_2 r)))))))
/-- law -/
def c_19 (r : Nat → Fn) : Cs := (sSeq (sAsg (cCall false 1 (r 6) (aCons (cv 0) aNil)) (tN 1))
    (sSeq (sFor (cR1 (aCons (cc (.int 3)) aNil)) (yN (tN 2))
    (c_19_3 r))
    (sRet (cCall true 2 (r 9) (aCons (cCl mkL (aCons (cCall true 1 (r 3) (aCons (cCl mkT (aCons (cCl mkT (aCons (cc (.int 0)) (aCons (cc (.int 4)) aNil))) (aCons (cCl mkT (aCons (cc (.int 2)) (aCons (cc (.int 6)) aNil))) aNil))) aNil)) (aCons (cCall true 1 (r 3) (aCons (cCl mkT (aCons (cCl mkT (aCons (cc (.int 2)) (aCons (cc (.int 3)) aNil))) (aCons (cCl mkT (aCons (cc (.int 0)) (aCons (cc (.int 4)) aNil))) aNil))) aNil)) (aCons (cCall true 1 (r 5) (aCons (cCl mkT (aCons (cCl mkT (aCons (cc (.int 0)) (aCons (cc (.int 4)) aNil))) (aCons (cCl mkT (aCons (cc (.int 2)) (aCons (cc (.int 6)) aNil))) (aCons (cCl mkT (aCons (cc (.int 1)) (aCons (cc (.int 3)) aNil))) aNil)))) aNil)) aNil)))) (aCons (cCl mkL (aCons (cCl mkT (aCons (cc (.str [99, 114, 111, 115, 115])) (aCons (cc (.int 0)) (aCons (cc (.int 1)) aNil)))) (aCons (cCl mkT (aCons (cc (.str [115, 116, 97, 99, 107])) (aCons (cCl mkT (aCons (cc (.int 1)) (aCons (cc (.int 0)) aNil))) aNil))) (aCons (cCl mkT (aCons (cc (.int 0)) (aCons (cc (.int 1)) (aCons (cc (.int 0)) aNil)))) aNil)))) aNil))))))
def step (r : Nat → Fn) : Nat → Fn
  | 0 => mkFn 1 1 (c_0 r)
  | 1 => mkFn 1 3 (c_1 r)
  | 2 => mkFn 2 2 (c_2 r)
  | 3 => mkFn 1 8 (c_3 r)
  | 4 => mkFn 1 5 (c_4 r)
  | 5 => mkFn 1 10 (c_5 r)
  | 6 => mkFn 1 3 (c_6 r)
  | 7 => mkFn 2 3 (c_7 r)
  | 8 => mkFn 2 2 (c_8 r)
  | 9 => mkFn 2 2 (c_9 r)
  | 10 => mkFn 2 3 (c_10 r)
  | 11 => mkFn 3 3 (c_11 r)
  | 12 => mkFn 3 5 (c_12 r)
  | 13 => mkFn 2 4 (c_13 r)
  | 14 => mkFn 1 4 (c_14 r)
  | 15 => mkFn 1 4 (c_15 r)
  | 16 => mkFn 1 7 (c_16 r)
  | 17 => mkFn 1 6 (c_17 r)
  | 18 => mkFn 1 2 (c_18 r)
  | 19 => mkFn 1 11 (c_19 r)
  | _ => fun _ _ => .no
/-- the defs, k calls deep -/
def run : Nat → Nat → Fn
  | 0 => fun _ _ _ => .no
  | k + 1 => step (run k)
theorem run_0 (k : Nat) : run (k + 1) 0 = mkFn 1 1 (c_0 (run k)) := rfl
theorem run_1 (k : Nat) : run (k + 1) 1 = mkFn 1 3 (c_1 (run k)) := rfl
theorem run_2 (k : Nat) : run (k + 1) 2 = mkFn 2 2 (c_2 (run k)) := rfl
theorem run_3 (k : Nat) : run (k + 1) 3 = mkFn 1 8 (c_3 (run k)) := rfl
theorem run_4 (k : Nat) : run (k + 1) 4 = mkFn 1 5 (c_4 (run k)) := rfl
theorem run_5 (k : Nat) : run (k + 1) 5 = mkFn 1 10 (c_5 (run k)) := rfl
theorem run_6 (k : Nat) : run (k + 1) 6 = mkFn 1 3 (c_6 (run k)) := rfl
theorem run_7 (k : Nat) : run (k + 1) 7 = mkFn 2 3 (c_7 (run k)) := rfl
theorem run_8 (k : Nat) : run (k + 1) 8 = mkFn 2 2 (c_8 (run k)) := rfl
theorem run_9 (k : Nat) : run (k + 1) 9 = mkFn 2 2 (c_9 (run k)) := rfl
theorem run_10 (k : Nat) : run (k + 1) 10 = mkFn 2 3 (c_10 (run k)) := rfl
theorem run_11 (k : Nat) : run (k + 1) 11 = mkFn 3 3 (c_11 (run k)) := rfl
theorem run_12 (k : Nat) : run (k + 1) 12 = mkFn 3 5 (c_12 (run k)) := rfl
theorem run_13 (k : Nat) : run (k + 1) 13 = mkFn 2 4 (c_13 (run k)) := rfl
theorem run_14 (k : Nat) : run (k + 1) 14 = mkFn 1 4 (c_14 (run k)) := rfl
theorem run_15 (k : Nat) : run (k + 1) 15 = mkFn 1 4 (c_15 (run k)) := rfl
theorem run_16 (k : Nat) : run (k + 1) 16 = mkFn 1 7 (c_16 (run k)) := rfl
theorem run_17 (k : Nat) : run (k + 1) 17 = mkFn 1 6 (c_17 (run k)) := rfl
theorem run_18 (k : Nat) : run (k + 1) 18 = mkFn 1 2 (c_18 (run k)) := rfl
theorem run_19 (k : Nat) : run (k + 1) 19 = mkFn 1 11 (c_19 (run k)) := rfl
/-! ### the text -/
structure Ad where
  f0 : Addr
  d0 : FuncData
  f1 : Addr
  d1 : FuncData
  f2 : Addr
  d2 : FuncData
  f3 : Addr
  d3 : FuncData
  f4 : Addr
  d4 : FuncData
  f5 : Addr
  d5 : FuncData
  f6 : Addr
  d6 : FuncData
  f7 : Addr
  d7 : FuncData
  f8 : Addr
  d8 : FuncData
  f9 : Addr
  d9 : FuncData
  f10 : Addr
  d10 : FuncData
  f11 : Addr
  d11 : FuncData
  f12 : Addr
  d12 : FuncData
  f13 : Addr
  d13 : FuncData
  f14 : Addr
  d14 : FuncData
  f15 : Addr
  d15 : FuncData
  f16 : Addr
  d16 : FuncData
  f17 : Addr
  d17 : FuncData
  f18 : Addr
  d18 : FuncData
  f19 : Addr
  d19 : FuncData
  fw : Addr
  dw : FuncData
  xI_0 : Addr
  xD_0 : FuncData
  xI_1 : Addr
  xD_1 : FuncData
  xI_2 : Addr
  xD_2 : FuncData
  xM : Addr
structure Tx (P : Program) (K : PySem.W.Frag) (mg : Str → Option Value) (T : Tb) (a : Ad) : Prop where
  i_0 : Inf K mg "is_integer" a.f0 a.d0 ["value"]
  u_0 : Fun K "is_integer" "is_integer" (top 6) a.f0 a.d0
  i_1 : Inf K mg "check_spans" a.f1 a.d1 ["spans"]
  u_1 : Fun K "check_spans" "check_spans" (top 10) a.f1 a.d1
  i_2 : Inf K mg "crosses" a.f2 a.d2 ["one", "other"]
  u_2 : Fun K "crosses" "crosses" (top 11) a.f2 a.d2
  i_3 : Inf K mg "judge_stack" a.f3 a.d3 ["spans"]
  u_3 : Fun K "judge_stack" "judge_stack" (top 12) a.f3 a.d3
  v_3 : fnAt K (toStr [106, 117, 100, 103, 101, 95, 115, 116, 97, 99, 107]) = some a.f3
  i_4 : Inf K mg "deepest" a.f4 a.d4 ["spans"]
  u_4 : Fun K "deepest" "deepest" (top 13) a.f4 a.d4
  v_4 : fnAt K (toStr [100, 101, 101, 112, 101, 115, 116]) = some a.f4
  i_5 : Inf K mg "fewest_stacks" a.f5 a.d5 ["spans"]
  u_5 : Fun K "fewest_stacks" "fewest_stacks" (top 14) a.f5 a.d5
  v_5 : fnAt K (toStr [102, 101, 119, 101, 115, 116, 95, 115, 116, 97, 99, 107, 115]) = some a.f5
  i_6 : Inf K mg "_law_start" a.f6 a.d6 ["script"]
  u_6 : Fun K "_law_start" "_law_start" (top 16) a.f6 a.d6
  i_7 : Inf K mg "_law_draw" a.f7 a.d7 ["state", "many"]
  u_7 : Fun K "_law_draw" "_law_draw" (top 17) a.f7 a.d7
  i_8 : Inf K mg "_law_pick" a.f8 a.d8 ["state", "some"]
  u_8 : Fun K "_law_pick" "_law_pick" (top 18) a.f8 a.d8
  i_9 : Inf K mg "_law_same" a.f9 a.d9 ["actual", "due"]
  u_9 : Fun K "_law_same" "_law_same" (top 19) a.f9 a.d9
  i_10 : Inf K mg "_law_asked" a.f10 a.d10 ["way", "some"]
  u_10 : Fun K "_law_asked" "_law_asked" (top 20) a.f10 a.d10
  i_11 : Inf K mg "_law_whole" a.f11 a.d11 ["value", "least", "most"]
  u_11 : Fun K "_law_whole" "_law_whole" (top 22) a.f11 a.d11
  i_12 : Inf K mg "_law_bent" a.f12 a.d12 ["state", "value", "depth"]
  u_12 : Fun K "_law_bent" "_law_bent" (top 23) a.f12 a.d12
  i_13 : Inf K mg "_law_cross" a.f13 a.d13 ["one", "other"]
  u_13 : Fun K "_law_cross" "_law_cross" (top 24) a.f13 a.d13
  i_14 : Inf K mg "_law_order" a.f14 a.d14 ["spans"]
  u_14 : Fun K "_law_order" "_law_order" (top 25) a.f14 a.d14
  i_15 : Inf K mg "_law_judged" a.f15 a.d15 ["spans"]
  u_15 : Fun K "_law_judged" "_law_judged" (top 26) a.f15 a.d15
  i_16 : Inf K mg "_law_deepest" a.f16 a.d16 ["spans"]
  u_16 : Fun K "_law_deepest" "_law_deepest" (top 27) a.f16 a.d16
  i_17 : Inf K mg "_law_stacks" a.f17 a.d17 ["spans"]
  u_17 : Fun K "_law_stacks" "_law_stacks" (top 28) a.f17 a.d17
  i_18 : Inf K mg "_law_are_spans" a.f18 a.d18 ["spans"]
  u_18 : Fun K "_law_are_spans" "_law_are_spans" (top 29) a.f18 a.d18
  i_19 : Inf K mg "law" a.f19 a.d19 ["script"]
  u_19 : Fun K "law" "law" (top 30) a.f19 a.d19
  z_ValueError : mg "ValueError" = none
  z_abs : mg "abs" = none
  z_all : mg "all" = none
  z_bool : mg "bool" = none
  z_dict : mg "dict" = none
  z_enumerate : mg "enumerate" = none
  z_int : mg "int" = none
  z_isinstance : mg "isinstance" = none
  z_len : mg "len" = none
  z_list : mg "list" = none
  z_max : mg "max" = none
  z_min : mg "min" = none
  z_range : mg "range" = none
  z_repr : mg "repr" = none
  z_sorted : mg "sorted" = none
  z_str : mg "str" = none
  z_super : mg "super" = none
  z_tuple : mg "tuple" = none
  c_MAX_BLOCKS : ∃ t, mg "MAX_BLOCKS" = some (.int 60 t)
  c_MAX_MOMENT : ∃ t, mg "MAX_MOMENT" = some (.int 1000 t)
  i_w : Inf K mg "_law_word" a.fw a.dw ["error"]
  u_w : Fun K "_law_word" "_law_word" (top 21) a.fw a.dw
  mm : mg "MemoryFault" = some (.ref a.xM)
  x_0 : Xc P K mg (T.xad 0) a.xI_0 "reason" "reason" "an argument is refused: " (inClass (top 2) 0) a.xD_0
  xb_0 : ∀ us : List Value, us.length = 2 → bindArgs a.xD_0 ⟨us, []⟩ = pure (([("self" : Str), "reason"] : List Str).zip us)
  xf_0 : T.efl 0 = "reason"
  xm_0 : mg "ArgumentError" = some (.ref (T.xad 0))
  em_0 : PySem.W.exmOne K (.ref (T.xad 0)) (.ref a.xM) = some true
  xe_0 : ExcC K (T.xad 0)
  xt_0 : XfC K (T.xad 0)
  kv_0 : PySem.W.kitOne K (.ref (T.xad 0)) (.type "ValueError") = some true
  x_1 : Xc P K mg (T.xad 1) a.xI_1 "reason" "reason" "the paper is refused: " (inClass (top 3) 0) a.xD_1
  xb_1 : ∀ us : List Value, us.length = 2 → bindArgs a.xD_1 ⟨us, []⟩ = pure (([("self" : Str), "reason"] : List Str).zip us)
  xf_1 : T.efl 1 = "reason"
  xm_1 : mg "PaperError" = some (.ref (T.xad 1))
  em_1 : PySem.W.exmOne K (.ref (T.xad 1)) (.ref a.xM) = some true
  xe_1 : ExcC K (T.xad 1)
  xt_1 : XfC K (T.xad 1)
  kv_1 : PySem.W.kitOne K (.ref (T.xad 1)) (.type "ValueError") = some true
  x_2 : Xc P K mg (T.xad 2) a.xI_2 "reason" "reason" "too many: " (inClass (top 4) 0) a.xD_2
  xb_2 : ∀ us : List Value, us.length = 2 → bindArgs a.xD_2 ⟨us, []⟩ = pure (([("self" : Str), "reason"] : List Str).zip us)
  xf_2 : T.efl 2 = "reason"
  xm_2 : mg "TooMany" = some (.ref (T.xad 2))
  em_2 : PySem.W.exmOne K (.ref (T.xad 2)) (.ref a.xM) = some true
  xe_2 : ExcC K (T.xad 2)
  xt_2 : XfC K (T.xad 2)
  kv_2 : PySem.W.kitOne K (.ref (T.xad 2)) (.type "ValueError") = some true
  kt_0_0 : PySem.W.kitOne K (.ref (T.xad 0)) (.ref (T.xad 0)) = some true
  kt_0_1 : PySem.W.kitOne K (.ref (T.xad 0)) (.ref (T.xad 1)) = some false
  kt_0_2 : PySem.W.kitOne K (.ref (T.xad 0)) (.ref (T.xad 2)) = some false
structure Al (P : Program) (w : World) (K : PySem.W.Frag) (mg : Str → Option Value) (base : Heap) (T : Tb) (a : Ad) (k : Nat) : Prop where
  g_0 : FnG P w K mg base (3 * k) a.f0 a.d0 ["value"] (spF K T 1 (run k 0))
  g_1 : FnG P w K mg base (3 * k) a.f1 a.d1 ["spans"] (spF K T 1 (run k 1))
  g_2 : FnG P w K mg base (3 * k) a.f2 a.d2 ["one", "other"] (spF K T 2 (run k 2))
  g_3 : FnG P w K mg base (3 * k) a.f3 a.d3 ["spans"] (spF K T 1 (run k 3))
  g_4 : FnG P w K mg base (3 * k) a.f4 a.d4 ["spans"] (spF K T 1 (run k 4))
  g_5 : FnG P w K mg base (3 * k) a.f5 a.d5 ["spans"] (spF K T 1 (run k 5))
  g_6 : FnG P w K mg base (3 * k) a.f6 a.d6 ["script"] (spF K T 1 (run k 6))
  g_7 : FnG P w K mg base (3 * k) a.f7 a.d7 ["state", "many"] (spF K T 2 (run k 7))
  g_8 : FnG P w K mg base (3 * k) a.f8 a.d8 ["state", "some"] (spF K T 2 (run k 8))
  g_9 : FnG P w K mg base (3 * k) a.f9 a.d9 ["actual", "due"] (spF K T 2 (run k 9))
  g_10 : FnG P w K mg base (3 * k) a.f10 a.d10 ["way", "some"] (spF K T 2 (run k 10))
  g_11 : FnG P w K mg base (3 * k) a.f11 a.d11 ["value", "least", "most"] (spF K T 3 (run k 11))
  g_12 : FnG P w K mg base (3 * k) a.f12 a.d12 ["state", "value", "depth"] (spF K T 3 (run k 12))
  g_13 : FnG P w K mg base (3 * k) a.f13 a.d13 ["one", "other"] (spF K T 2 (run k 13))
  g_14 : FnG P w K mg base (3 * k) a.f14 a.d14 ["spans"] (spF K T 1 (run k 14))
  g_15 : FnG P w K mg base (3 * k) a.f15 a.d15 ["spans"] (spF K T 1 (run k 15))
  g_16 : FnG P w K mg base (3 * k) a.f16 a.d16 ["spans"] (spF K T 1 (run k 16))
  g_17 : FnG P w K mg base (3 * k) a.f17 a.d17 ["spans"] (spF K T 1 (run k 17))
  g_18 : FnG P w K mg base (3 * k) a.f18 a.d18 ["spans"] (spF K T 1 (run k 18))
  g_19 : FnG P w K mg base (3 * k) a.f19 a.d19 ["script"] (spF K T 1 (run k 19))
section
variable {P : Program} {w : World} {K : PySem.W.Frag} {mg : Str → Option Value} {base : Heap} {T : Tb} {a : Ad} {k : Nat}
theorem tl_1 (Z : Tx P K mg T a) (Q : Al P w K mg base T a k) : Tl' P w K mg base T (3 * k) 1 (tbl_1 (run k)) := by
  refine ⟨fun q pu g f h hf => ?_⟩
  unfold tbl_1 at h
  split at h
  · rename_i e; subst e; cases h
    rw [Z.v_3] at hf; cases hf
    exact ⟨_, _, Q.g_3.mono (by omega), Z.i_3.kp, Z.i_3.bn⟩
  split at h
  · rename_i e; subst e; cases h
    rw [Z.v_4] at hf; cases hf
    exact ⟨_, _, Q.g_4.mono (by omega), Z.i_4.kp, Z.i_4.bn⟩
  split at h
  · rename_i e; subst e; cases h
    rw [Z.v_5] at hf; cases hf
    exact ⟨_, _, Q.g_5.mono (by omega), Z.i_5.kp, Z.i_5.bn⟩
  cases h
theorem tl_2 (Z : Tx P K mg T a) (Q : Al P w K mg base T a k) : Tl' P w K mg base T (3 * k) 2 (tbl_2 (run k)) := by
  refine ⟨fun q pu g f h hf => ?_⟩
  unfold tbl_2 at h
  cases h
theorem tl_3 (Z : Tx P K mg T a) (Q : Al P w K mg base T a k) : Tl' P w K mg base T (3 * k) 3 (tbl_3 (run k)) := by
  refine ⟨fun q pu g f h hf => ?_⟩
  unfold tbl_3 at h
  cases h
theorem tl_4 (Z : Tx P K mg T a) (Q : Al P w K mg base T a k) : Tl' P w K mg base T (3 * k) 4 (tbl_4 (run k)) := by
  refine ⟨fun q pu g f h hf => ?_⟩
  unfold tbl_4 at h
  cases h
theorem tl_5 (Z : Tx P K mg T a) (Q : Al P w K mg base T a k) : Tl' P w K mg base T (3 * k) 5 (tbl_5 (run k)) := by
  refine ⟨fun q pu g f h hf => ?_⟩
  unfold tbl_5 at h
  cases h
theorem tl_6 (Z : Tx P K mg T a) (Q : Al P w K mg base T a k) : Tl' P w K mg base T (3 * k) 6 (tbl_6 (run k)) := by
  refine ⟨fun q pu g f h hf => ?_⟩
  unfold tbl_6 at h
  cases h
theorem tl_7 (Z : Tx P K mg T a) (Q : Al P w K mg base T a k) : Tl' P w K mg base T (3 * k) 7 (tbl_7 (run k)) := by
  refine ⟨fun q pu g f h hf => ?_⟩
  unfold tbl_7 at h
  cases h
theorem sc_w : FnScope ["error", "heads", "found"] ["error"] (defScope (top 21)) := ⟨rfl, rfl, rfl, by decide +kernel, rfl, by decide +kernel, by decide +kernel⟩
theorem wd_0 (Z : Tx P K mg T a) {b dd : Addr} {oe : Obj} (hz : Zc (.ref (T.xad 0)) (some dd) oe) (hf : ∃ vs, oe.data = .fields vs) : FnP (b, oe) P w K mg base 1 a.fw a.dw ["error"] (spWd b dd "reason" (toStr [97, 114, 103, 117, 109, 101, 110, 116, 32])) := by
  refine fnP_of (k := 0) Z.u_w sc_w (fun vs H Q E h => by obtain ⟨s, rfl, _⟩ := h; rfl) fun cdv A outer s H vs Q E hr hsp => ?_
  obtain ⟨t, rfl, h1, h2, h3⟩ := hsp
  have hpn : (b, oe) ∈ ([(b, oe)] : List (Addr × Obj)) := List.mem_cons_self
  have hu := hr.un
  have th : toStr [97, 114, 103, 117, 109, 101, 110, 116, 32] = ("argument " : Str) := by decide +kernel
  rw [th] at *
  exact ⟨_, word_body (ws := [("argument " : Str), ("paper " : Str), ("many " : Str)]) (bs := [true, false, false]) (i := 0) sc_w.nd rfl rfl rfl (.cons (.cons (.cons .nil))) (.cons (k_isiC Z.xe_0 hpn hz hf Z.kt_0_0 Z.z_isinstance Z.xm_0) rfl (.cons (k_isiC Z.xe_0 hpn hz hf Z.kt_0_1 Z.z_isinstance Z.xm_1) rfl (.cons (k_isiC Z.xe_0 hpn hz hf Z.kt_0_2 Z.z_isinstance Z.xm_2) rfl .nil))) (by rfl) (by rfl) (by decide) (by decide)
    (word_one (i := 0) (by show (A.deeper _).units + 65 < _; omega) rfl (.inl rfl) rfl (by decide) (by rfl) (by rfl) (by rfl) (by rfl) (by rfl))
    (k_isiV Z.xe_0 hpn hz hf Z.kv_0 Z.z_isinstance Z.z_ValueError) (by intro _; rfl)
    (word_val (i := 0) (by show (A.deeper _).units + 65 < _; omega) rfl rfl (.inl rfl) (.inl rfl) rfl (fun m hm => by (have e : False := by omega); exact e.elim) rfl (k_fld Z.xt_0 hpn Z.x_0.fl hz hf) (by rfl) (by rfl) (by rfl) (by rfl) (by intro _ _; rfl)) pe_str, ⟨t, rfl, h1, h2, h3⟩⟩
theorem sc_0 : FnScope ["value"] ["value"] (defScope (top 6)) := ⟨rfl, rfl, rfl, by decide +kernel, rfl, by decide +kernel, by decide +kernel⟩
/-- is_integer -/
theorem ok_0 (Z : Tx P K mg T a) (Q : Al P w K mg base T a k) : FnG P w K mg base (3 * (k + 1)) a.f0 a.d0 ["value"] (spF K T 1 (run (k + 1) 0)) := by
  refine fn_of' (k := 3 * k + 2) (code := c_0 (run k)) Z.u_0 sc_0 (run_0 k) rfl rfl rfl fun cdv A outer s H E G2 => ?_
  have G := G2.mono (j := 3 * k + 1) (by omega)
  exact (fss_one (fs_ret (fe_and (e_isi .int Z.z_isinstance Z.z_int (e_v 0)) (fe_one (fe_not (e_isi .bool Z.z_isinstance Z.z_bool (e_v 0)))))))
theorem sc_1 : FnScope ["spans", "span", "moment"] ["spans"] (defScope (top 10)) := ⟨rfl, rfl, rfl, by decide +kernel, rfl, by decide +kernel, by decide +kernel⟩
/-- check_spans -/
theorem ok_1 (Z : Tx P K mg T a) (Q : Al P w K mg base T a k) : FnG P w K mg base (3 * (k + 1)) a.f1 a.d1 ["spans"] (spF K T 1 (run (k + 1) 1)) := by
  refine fn_of' (k := 3 * k + 2) (code := c_1 (run k)) Z.u_1 sc_1 (run_1 k) rfl rfl rfl fun cdv A outer s H E G2 => ?_
  have G := G2.mono (j := 3 * k + 1) (by omega)
  exact (fss_cons (fs_if (ft_w (fw_or (ft_not (t_tru (e_isi .tup Z.z_isinstance Z.z_tuple (e_v 0)))) (fw_1 (t_cmp (k_gt) (e_bi u_len Z.z_len (a_cons (e_v 0) fa_nil)) (e_gi 60 Z.c_MAX_BLOCKS)))))
    (fss_one (s_raise (P := P) 0 G2 Z.x_0 Z.xb_0 Z.xf_0 Z.xm_0 (e_str [115, 112, 97, 110, 115] (by decide +kernel) (by decide))))
    fss_nil)
    (fss_one (s_for G (fi_it (e_v 0)) (fy_n (g_n 1 G))
    (fss_cons (fs_if (ft_w (fw_or (ft_not (t_tru (e_isi .tup Z.z_isinstance Z.z_tuple (e_v 1)))) (fw_or (t_cmp (k_ne G) (e_bi u_len Z.z_len (a_cons (e_v 1) fa_nil)) e_int) (fw_1 (ft_not (t_tru (e_bi (u_all G) Z.z_all (a_cons (e_lc false [("moment", 2)] G (by rfl) (by decide) (fi_it (e_v 1)) (fun _ _ _ _ _ G => (fy_n (g_n 2 G))) (fun _ _ _ _ _ G => fts_nil) (fun _ _ _ _ _ G => (e_call true G Q.g_0 Z.i_0 (a_cons (e_v 2) fa_nil)))) fa_nil))))))))
    (fss_one (s_raise (P := P) 0 G2 Z.x_0 Z.xb_0 Z.xf_0 Z.xm_0 (e_str [115, 112, 97, 110, 115] (by decide +kernel) (by decide))))
    fss_nil)
    (fss_one (fs_if (ft_not (t_chn e_int (fct_cons (k_le) (e_ix (e_v 1) e_int) (fct_cons (k_lt) (e_ix (e_v 1) e_int) (fct_one (k_le) (e_gi 1000 Z.c_MAX_MOMENT))))))
    (fss_one (s_raise (P := P) 0 G2 Z.x_0 Z.xb_0 Z.xf_0 Z.xm_0 (e_str [115, 112, 97, 110, 115] (by decide +kernel) (by decide))))
    fss_nil))))))
theorem sc_2 : FnScope ["one", "other"] ["one", "other"] (defScope (top 11)) := ⟨rfl, rfl, rfl, by decide +kernel, rfl, by decide +kernel, by decide +kernel⟩
/-- crosses -/
theorem ok_2 (Z : Tx P K mg T a) (Q : Al P w K mg base T a k) : FnG P w K mg base (3 * (k + 1)) a.f2 a.d2 ["one", "other"] (spF K T 2 (run (k + 1) 2)) := by
  refine fn_of' (k := 3 * k + 2) (code := c_2 (run k)) Z.u_2 sc_2 (run_2 k) rfl rfl rfl fun cdv A outer s H E G2 => ?_
  have G := G2.mono (j := 3 * k + 1) (by omega)
  exact (fss_one (fs_ret (fe_or (e_chn (e_ix (e_v 0) e_int) (fch_cons (k_lt) (e_ix (e_v 1) e_int) (fch_cons (k_lt) (e_ix (e_v 0) e_int) (fch_one (k_lt) (e_ix (e_v 1) e_int))))) (fe_one (e_chn (e_ix (e_v 1) e_int) (fch_cons (k_lt) (e_ix (e_v 0) e_int) (fch_cons (k_lt) (e_ix (e_v 1) e_int) (fch_one (k_lt) (e_ix (e_v 0) e_int)))))))))
theorem sc_3 : FnScope ["spans", "other", "one", "rows", "number", "span", "start", "end"] ["spans"] (defScope (top 12)) := ⟨rfl, rfl, rfl, by decide +kernel, rfl, by decide +kernel, by decide +kernel⟩
/-- judge_stack -/
theorem ok_3 (Z : Tx P K mg T a) (Q : Al P w K mg base T a k) : FnG P w K mg base (3 * (k + 1)) a.f3 a.d3 ["spans"] (spF K T 1 (run (k + 1) 3)) := by
  refine fn_of' (k := 3 * k + 2) (code := c_3 (run k)) Z.u_3 sc_3 (run_3 k) rfl rfl rfl fun cdv A outer s H E G2 => ?_
  have G := G2.mono (j := 3 * k + 1) (by omega)
  exact (fss_cons (s_expr (e_call true G Q.g_1 Z.i_1 (a_cons (e_v 0) fa_nil)))
    (fss_cons (s_for G (i_r1 Z.z_range (e_bi u_len Z.z_len (a_cons (e_v 0) fa_nil))) (fy_n (g_n 1 G))
    (fss_one (s_for G (i_r1 Z.z_range (e_v 1)) (fy_n (g_n 2 G))
    (fss_one (fs_if (t_tru (e_call true G Q.g_2 Z.i_2 (a_cons (e_ix (e_v 0) (e_v 2)) (a_cons (e_ix (e_v 0) (e_v 1)) fa_nil))))
    (fss_one (fs_ret (fe_tup (a_cons (e_str [99, 114, 111, 115, 115] (by decide +kernel) (by decide)) (a_cons (e_v 2) (a_cons (e_v 1) fa_nil))))))
    fss_nil)))))
    (fss_cons (s_set 3 G (e_bi (u_sort false G) Z.z_sorted (a_cons (e_lc false [("number", 4), ("span", 5)] G (by rfl) (by decide) (i_en Z.z_enumerate (e_v 0)) (fun _ _ _ _ _ G => (y_t G (len_cns (len_cns len_nil)) (gs_cons (g_n 4 G) (gs_cons (g_n 5 G) fgs_nil)))) (fun _ _ _ _ _ G => fts_nil) (fun _ _ _ _ _ G => (fe_tup (a_cons (e_ix (e_v 5) e_int) (a_cons (e_neg (e_ix (e_v 5) e_int)) (a_cons (e_v 4) fa_nil)))))) fa_nil)))
    (fss_one (fs_ret (fe_tup (a_cons (e_str [115, 116, 97, 99, 107] (by decide +kernel) (by decide)) (a_cons (e_bi u_tuple Z.z_tuple (a_cons (e_lc false [("start", 6), ("end", 7), ("number", 4)] G (by rfl) (by decide) (fi_it (e_v 3)) (fun _ _ _ _ _ G => (y_t G (len_cns (len_cns (len_cns len_nil))) (gs_cons (g_n 6 G) (gs_cons (g_n 7 G) (gs_cons (g_n 4 G) fgs_nil))))) (fun _ _ _ _ _ G => fts_nil) (fun _ _ _ _ _ G => (e_v 4))) fa_nil)) fa_nil))))))))
theorem sc_4 : FnScope ["spans", "best", "moment", "span", "many"] ["spans"] (defScope (top 13)) := ⟨rfl, rfl, rfl, by decide +kernel, rfl, by decide +kernel, by decide +kernel⟩
/-- deepest -/
theorem ok_4 (Z : Tx P K mg T a) (Q : Al P w K mg base T a k) : FnG P w K mg base (3 * (k + 1)) a.f4 a.d4 ["spans"] (spF K T 1 (run (k + 1) 4)) := by
  refine fn_of' (k := 3 * k + 2) (code := c_4 (run k)) Z.u_4 sc_4 (run_4 k) rfl rfl rfl fun cdv A outer s H E G2 => ?_
  have G := G2.mono (j := 3 * k + 1) (by omega)
  exact (fss_cons (s_expr (e_call true G Q.g_1 Z.i_1 (a_cons (e_v 0) fa_nil)))
    (fss_cons (s_set 1 G (fe_tup (a_cons e_int (a_cons e_non fa_nil))))
    (fss_cons (s_for G (fi_it (e_bi (u_sort false G) Z.z_sorted (a_cons (e_lc false [("span", 3)] G (by rfl) (by decide) (fi_it (e_v 0)) (fun _ _ _ _ _ G => (fy_n (g_n 3 G))) (fun _ _ _ _ _ G => fts_nil) (fun _ _ _ _ _ G => (e_ix (e_v 3) e_int))) fa_nil))) (fy_n (g_n 2 G))
    (fss_cons (s_set 4 G (e_bi u_len Z.z_len (a_cons (e_lc false [("span", 3)] G (by rfl) (by decide) (fi_it (e_v 0)) (fun _ _ _ _ _ G => (fy_n (g_n 3 G))) (fun _ _ _ _ _ G => (fts_one (t_ch (k_le) (k_lt) (e_ix (e_v 3) e_int) (e_v 2) (e_ix (e_v 3) e_int)))) (fun _ _ _ _ _ G => (e_v 3))) fa_nil)))
    (fss_one (fs_if (t_cmp (k_gt) (e_v 4) (e_ix (e_v 1) e_int))
    (fss_one (s_set 1 G (fe_tup (a_cons (e_v 4) (a_cons (e_v 2) fa_nil)))))
    fss_nil))))
    (fss_one (fs_ret (e_v 1))))))
theorem sc_5 : FnScope ["spans", "found", "done", "start", "end", "number", "span", "taken", "other", "own"] ["spans"] (defScope (top 14)) := ⟨rfl, rfl, rfl, by decide +kernel, rfl, by decide +kernel, by decide +kernel⟩
/-- fewest_stacks -/
theorem ok_5 (Z : Tx P K mg T a) (Q : Al P w K mg base T a k) : FnG P w K mg base (3 * (k + 1)) a.f5 a.d5 ["spans"] (spF K T 1 (run (k + 1) 5)) := by
  refine fn_of' (k := 3 * k + 2) (code := c_5 (run k)) Z.u_5 sc_5 (run_5 k) rfl rfl rfl fun cdv A outer s H E G2 => ?_
  have G := G2.mono (j := 3 * k + 1) (by omega)
  exact (fss_cons (s_expr (e_call true G Q.g_1 Z.i_1 (a_cons (e_v 0) fa_nil)))
    (fss_cons (s_set 1 G (e_mul true (fe_lstM (a_cons e_int fa_nil)) (e_bi u_len Z.z_len (a_cons (e_v 0) fa_nil))))
    (fss_cons (s_set 2 G (fe_lstM fa_nil))
    (fss_cons (s_for G (fi_it (e_bi (u_sort false G) Z.z_sorted (a_cons (e_lc false [("number", 5), ("span", 6)] G (by rfl) (by decide) (i_en Z.z_enumerate (e_v 0)) (fun _ _ _ _ _ G => (y_t G (len_cns (len_cns len_nil)) (gs_cons (g_n 5 G) (gs_cons (g_n 6 G) fgs_nil)))) (fun _ _ _ _ _ G => fts_nil) (fun _ _ _ _ _ G => (fe_tup (a_cons (e_ix (e_v 6) e_int) (a_cons (e_neg (e_ix (e_v 6) e_int)) (a_cons (e_v 5) fa_nil)))))) fa_nil))) (y_t G (len_cns (len_cns (len_cns len_nil))) (gs_cons (g_n 3 G) (gs_cons (g_n 4 G) (gs_cons (g_n 5 G) fgs_nil))))
    (fss_cons (s_setLc 7 false [("other", 8)] G (by rfl) (by decide) (by rfl) (fi_it (e_v 2)) (fun _ _ _ _ _ G => (fy_n (g_n 8 G))) (fun _ _ _ _ _ G => (fts_one (t_tru (e_call true G Q.g_2 Z.i_2 (a_cons (e_ix (e_v 0) (e_v 8)) (a_cons (e_ix (e_v 0) (e_v 5)) fa_nil)))))) (fun _ _ _ _ _ G => (e_ix (e_v 1) (e_v 8))))
    (fss_cons (s_set 9 G e_int)
    (fss_cons (s_while 100000 G (t_cmp (k_in G) (e_v 9) (e_v 7))
    (fss_one (s_aug 9 G ip_addI e_int)))
    (fss_cons (s_setL (e_v 9) (e_v 1) (e_v 5))
    (fss_one (s_expr (e_lm l_append (e_v 2) (a_cons (e_v 5) fa_nil)))))))))
    (fss_one (fs_ret (e_bi u_tuple Z.z_tuple (a_cons (e_v 1) fa_nil))))))))
theorem sc_6 : FnScope ["script", "seed", "cell"] ["script"] (defScope (top 16)) := ⟨rfl, rfl, rfl, by decide +kernel, rfl, by decide +kernel, by decide +kernel⟩
/-- _law_start -/
theorem ok_6 (Z : Tx P K mg T a) (Q : Al P w K mg base T a k) : FnG P w K mg base (3 * (k + 1)) a.f6 a.d6 ["script"] (spF K T 1 (run (k + 1) 6)) := by
  refine fn_of' (k := 3 * k + 2) (code := c_6 (run k)) Z.u_6 sc_6 (run_6 k) rfl rfl rfl fun cdv A outer s H E G2 => ?_
  have G := G2.mono (j := 3 * k + 1) (by omega)
  exact (fss_cons (s_set 1 G e_int)
    (fss_cons (s_for G (fi_it (e_v 0)) (fy_n (g_n 2 G))
    (fss_one (s_set 1 G (e_add false (e_mod (e_bi u_int Z.z_int (a_cons (e_add false (e_mul false (e_v 1) e_int) (e_v 2)) fa_nil)) e_int) e_int))))
    (fss_one (fs_ret (fe_lstM (a_cons (e_bi (u_list false) Z.z_list (a_cons (e_v 0) fa_nil)) (a_cons e_int (a_cons e_int (a_cons (e_v 1) fa_nil)))))))))
theorem sc_7 : FnScope ["state", "many", "value"] ["state", "many"] (defScope (top 17)) := ⟨rfl, rfl, rfl, by decide +kernel, rfl, by decide +kernel, by decide +kernel⟩
/-- _law_draw -/
theorem ok_7 (Z : Tx P K mg T a) (Q : Al P w K mg base T a k) : FnG P w K mg base (3 * (k + 1)) a.f7 a.d7 ["state", "many"] (spF K T 2 (run (k + 1) 7)) := by
  refine fn_of' (k := 3 * k + 2) (code := c_7 (run k)) Z.u_7 sc_7 (run_7 k) rfl rfl rfl fun cdv A outer s H E G2 => ?_
  have G := G2.mono (j := 3 * k + 1) (by omega)
  exact (fss_cons (fs_if (ft_w (fw_and (t_cmp (k_eq G) (e_ix (e_v 0) e_int) e_int) (fw_1 (t_cmp (k_ge) (e_ix (e_v 0) e_int) (e_bi u_len Z.z_len (a_cons (e_ix (e_v 0) e_int) fa_nil))))))
    (fss_cons (s_setL (e_mod (e_bi u_int Z.z_int (a_cons (e_add false (e_mul false (e_ix (e_v 0) e_int) e_int) e_int) fa_nil)) e_int) (e_v 0) e_int)
    (fss_one (fs_ret (e_mod (e_bi u_int Z.z_int (a_cons (e_fdiv (e_ix (e_v 0) e_int) e_int) fa_nil)) (e_v 1)))))
    fss_nil)
    (fss_cons (fs_if (t_cmp (k_eq G) (e_ix (e_v 0) e_int) e_int)
    (fss_cons (s_setL (e_bi u_abs Z.z_abs (a_cons (e_ix (e_ix (e_v 0) e_int) (e_ix (e_v 0) e_int)) fa_nil)) (e_v 0) e_int)
    (fss_one (s_setL (e_add false (e_ix (e_v 0) e_int) e_int) (e_v 0) e_int)))
    fss_nil)
    (fss_cons (s_set 2 G (e_mod (e_bi u_int Z.z_int (a_cons (e_ix (e_v 0) e_int) fa_nil)) (e_v 1)))
    (fss_cons (s_setL (e_fdiv (e_ix (e_v 0) e_int) (e_v 1)) (e_v 0) e_int)
    (fss_one (fs_ret (e_v 2)))))))
theorem sc_8 : FnScope ["state", "some"] ["state", "some"] (defScope (top 18)) := ⟨rfl, rfl, rfl, by decide +kernel, rfl, by decide +kernel, by decide +kernel⟩
/-- _law_pick -/
theorem ok_8 (Z : Tx P K mg T a) (Q : Al P w K mg base T a k) : FnG P w K mg base (3 * (k + 1)) a.f8 a.d8 ["state", "some"] (spF K T 2 (run (k + 1) 8)) := by
  refine fn_of' (k := 3 * k + 2) (code := c_8 (run k)) Z.u_8 sc_8 (run_8 k) rfl rfl rfl fun cdv A outer s H E G2 => ?_
  have G := G2.mono (j := 3 * k + 1) (by omega)
  exact (fss_one (fs_ret (e_ix (e_v 1) (e_call false G Q.g_7 Z.i_7 (a_cons (e_v 0) (a_cons (e_bi u_len Z.z_len (a_cons (e_v 1) fa_nil)) fa_nil))))))
theorem sc_9 : FnScope ["actual", "due"] ["actual", "due"] (defScope (top 19)) := ⟨rfl, rfl, rfl, by decide +kernel, rfl, by decide +kernel, by decide +kernel⟩
/-- _law_same -/
theorem ok_9 (Z : Tx P K mg T a) (Q : Al P w K mg base T a k) : FnG P w K mg base (3 * (k + 1)) a.f9 a.d9 ["actual", "due"] (spF K T 2 (run (k + 1) 9)) := by
  refine fn_of' (k := 3 * k + 2) (code := c_9 (run k)) Z.u_9 sc_9 (run_9 k) rfl rfl rfl fun cdv A outer s H E G2 => ?_
  have G := G2.mono (j := 3 * k + 1) (by omega)
  exact (fss_one (fs_ret (fe_same (fe_and (e_cmp (k_eq G) (e_v 0) (e_v 1)) (fe_one (e_cmp k_eqS (e_bi (u_repr G) Z.z_repr (a_cons (e_v 0) fa_nil)) (e_bi (u_repr G) Z.z_repr (a_cons (e_v 1) fa_nil))))))))
theorem sc_10 : FnScope ["way", "some", "error"] ["way", "some"] (defScope (top 20)) := ⟨rfl, rfl, rfl, by decide +kernel, rfl, by decide +kernel, by decide +kernel⟩
/-- _law_asked -/
theorem ok_10 (Z : Tx P K mg T a) (Q : Al P w K mg base T a k) : FnG P w K mg base (3 * (k + 1)) a.f10 a.d10 ["way", "some"] (spF K T 2 (run (k + 1) 10)) := by
  refine fn_of' (k := 3 * k + 2) (code := c_10 (run k)) Z.u_10 sc_10 (run_10 k) rfl rfl rfl fun cdv A outer s H E G2 => ?_
  have G := G2.mono (j := 3 * k + 1) (by omega)
  exact (fss_one (fs_try (su := su_0) (cs := [0]) (i := 2) G rfl rfl (by rfl) (by rfl) ⟨by rfl, by decide, .inl Z.mm⟩ (fun c hc => by
      simp only [List.mem_cons, List.not_mem_nil, or_false] at hc
      rcases hc with rfl
      · exact Z.em_0)
    (fun W pn xe G => (fss_cons (fs_if (t_cmp (k_lt) (e_bi u_len Z.z_len (a_cons (e_v 1) fa_nil)) e_int)
    (fss_one (fs_ret (fe_if (t_cmp (k_eq G) (e_bi u_len Z.z_len (a_cons (e_v 1) fa_nil)) e_int) (fe_lst (a_cons (e_cv 0 G (tl_1 Z Q) (a_cons (e_ix (e_v 1) e_int) fa_nil)) fa_nil)) (fe_lst (a_cons (e_cv 0 G (tl_2 Z Q) (a_cons (e_ix (e_v 1) e_int) (a_cons (e_ix (e_v 1) e_int) fa_nil))) fa_nil)))))
    fss_nil)
    (fss_cons (fs_if (t_cmp (k_lt) (e_bi u_len Z.z_len (a_cons (e_v 1) fa_nil)) e_int)
    (fss_one (fs_ret (fe_if (t_cmp (k_eq G) (e_bi u_len Z.z_len (a_cons (e_v 1) fa_nil)) e_int) (fe_lst (a_cons (e_cv 0 G (tl_3 Z Q) (a_cons (e_ix (e_v 1) e_int) (a_cons (e_ix (e_v 1) e_int) (a_cons (e_ix (e_v 1) e_int) fa_nil)))) fa_nil)) (fe_lst (a_cons (e_cv 0 G (tl_4 Z Q) (a_cons (e_ix (e_v 1) e_int) (a_cons (e_ix (e_v 1) e_int) (a_cons (e_ix (e_v 1) e_int) (a_cons (e_ix (e_v 1) e_int) fa_nil))))) fa_nil)))))
    fss_nil)
    (fss_cons (fs_if (t_cmp (k_eq G) (e_bi u_len Z.z_len (a_cons (e_v 1) fa_nil)) e_int)
    (fss_one (fs_ret (fe_lst (a_cons (e_cv 0 G (tl_5 Z Q) (a_cons (e_ix (e_v 1) e_int) (a_cons (e_ix (e_v 1) e_int) (a_cons (e_ix (e_v 1) e_int) (a_cons (e_ix (e_v 1) e_int) (a_cons (e_ix (e_v 1) e_int) fa_nil)))))) fa_nil))))
    fss_nil)
    (fss_cons (fs_if (t_cmp (k_eq G) (e_bi u_len Z.z_len (a_cons (e_v 1) fa_nil)) e_int)
    (fss_one (fs_ret (fe_lst (a_cons (e_cv 0 G (tl_6 Z Q) (a_cons (e_ix (e_v 1) e_int) (a_cons (e_ix (e_v 1) e_int) (a_cons (e_ix (e_v 1) e_int) (a_cons (e_ix (e_v 1) e_int) (a_cons (e_ix (e_v 1) e_int) (a_cons (e_ix (e_v 1) e_int) fa_nil))))))) fa_nil))))
    fss_nil)
    (fss_one (fs_ret (fe_lst (a_cons (e_cv 0 G (tl_7 Z Q) (a_cons (e_ix (e_v 1) e_int) (a_cons (e_ix (e_v 1) e_int) (a_cons (e_ix (e_v 1) e_int) (a_cons (e_ix (e_v 1) e_int) (a_cons (e_ix (e_v 1) e_int) (a_cons (e_ix (e_v 1) e_int) (a_cons (e_ix (e_v 1) e_int) fa_nil)))))))) fa_nil)))))))))
    (fun c hc => by
      simp only [List.mem_cons, List.not_mem_nil, or_false] at hc
      rcases hc with rfl
      · exact ⟨_, suf_wd [97, 114, 103, 117, 109, 101, 110, 116, 32] (fun _ => rfl) (by decide), fun a oe dd pn hz hf => by rw [Z.xf_0]; exact k_word (wd_0 Z hz hf) (roomH_su (G.room.mono (by omega))) List.mem_cons_self Z.i_w.bn Z.i_w.mg Z.i_w.kp⟩)))
theorem sc_11 : FnScope ["value", "least", "most"] ["value", "least", "most"] (defScope (top 22)) := ⟨rfl, rfl, rfl, by decide +kernel, rfl, by decide +kernel, by decide +kernel⟩
/-- _law_whole -/
theorem ok_11 (Z : Tx P K mg T a) (Q : Al P w K mg base T a k) : FnG P w K mg base (3 * (k + 1)) a.f11 a.d11 ["value", "least", "most"] (spF K T 3 (run (k + 1) 11)) := by
  refine fn_of' (k := 3 * k + 2) (code := c_11 (run k)) Z.u_11 sc_11 (run_11 k) rfl rfl rfl fun cdv A outer s H E G2 => ?_
  have G := G2.mono (j := 3 * k + 1) (by omega)
  exact (fss_one (fs_ret (fe_and (e_isi .int Z.z_isinstance Z.z_int (e_v 0)) (fe_and (fe_not (e_isi .bool Z.z_isinstance Z.z_bool (e_v 0))) (fe_one (e_ch (k_le) (k_le) (e_v 1) (e_v 0) (e_v 2)))))))
theorem sc_12 : FnScope ["state", "value", "depth", "at", "pick"] ["state", "value", "depth"] (defScope (top 23)) := ⟨rfl, rfl, rfl, by decide +kernel, rfl, by decide +kernel, by decide +kernel⟩
/-- _law_bent -/
theorem ok_12 (Z : Tx P K mg T a) (Q : Al P w K mg base T a k) : FnG P w K mg base (3 * (k + 1)) a.f12 a.d12 ["state", "value", "depth"] (spF K T 3 (run (k + 1) 12)) := by
  refine fn_of' (k := 3 * k + 2) (code := c_12 (run k)) Z.u_12 sc_12 (run_12 k) rfl rfl rfl fun cdv A outer s H E G2 => ?_
  have G := G2.mono (j := 3 * k + 1) (by omega)
  exact (fss_cons (fs_if (ft_w (fw_and (t_tru (e_isi .int Z.z_isinstance Z.z_int (e_v 1))) (fw_and (ft_not (t_tru (e_isi .bool Z.z_isinstance Z.z_bool (e_v 1)))) (fw_1 (t_cmp (k_gt) (e_call false G Q.g_7 Z.i_7 (a_cons (e_v 0) (a_cons e_int fa_nil))) e_int)))))
    (fss_one (fs_ret (e_add false (e_v 1) (e_call false G Q.g_8 Z.i_8 (a_cons (e_v 0) (a_cons (fe_lst (a_cons e_int (a_cons (e_neg e_int) (a_cons e_int (a_cons e_int fa_nil))))) fa_nil))))))
    fss_nil)
    (fss_cons (fs_if (ft_w (fw_or (ft_not (t_tru (e_isi .tup Z.z_isinstance Z.z_tuple (e_v 1)))) (fw_or (ft_not (t_tru (e_v 1))) (fw_or (t_cmp (k_eq G) (e_v 2) e_int) (fw_1 (t_cmp (k_eq G) (e_call false G Q.g_7 Z.i_7 (a_cons (e_v 0) (a_cons e_int fa_nil))) e_int))))))
    (fss_one (fs_ret (e_call false G Q.g_8 Z.i_8 (a_cons (e_v 0) (a_cons (fe_lst (a_cons e_non (a_cons e_bl (a_cons e_bl (a_cons (e_neg e_int) (a_cons e_int (a_cons e_int (a_cons (e_str [] (by decide +kernel) (by decide)) (a_cons (e_str [110, 101, 119] (by decide +kernel) (by decide)) (a_cons (fe_tup fa_nil) (a_cons (fe_tup (a_cons e_int fa_nil)) (a_cons (fe_tup (a_cons e_int (a_cons e_int fa_nil))) (a_cons (fe_tup (a_cons e_int (a_cons e_int fa_nil))) (a_cons (fe_tup (a_cons e_int (a_cons e_int fa_nil))) (a_cons (fe_tup (a_cons (fe_tup (a_cons e_int (a_cons e_int fa_nil))) fa_nil)) (a_cons (fe_tup (a_cons (fe_tup (a_cons e_int (a_cons e_int fa_nil))) fa_nil)) (a_cons (fe_tup (a_cons e_non fa_nil)) (a_cons (fe_tup (a_cons e_bl fa_nil)) fa_nil)))))))))))))))))) fa_nil)))))
    fss_nil)
    (fss_cons (s_set 3 G (e_call false G Q.g_7 Z.i_7 (a_cons (e_v 0) (a_cons (e_bi u_len Z.z_len (a_cons (e_v 1) fa_nil)) fa_nil))))
    (fss_cons (s_set 4 G (e_call false G Q.g_7 Z.i_7 (a_cons (e_v 0) (a_cons e_int fa_nil))))
    (fss_cons (fs_if (t_cmp (k_eq G) (e_v 4) e_int)
    (fss_one (fs_ret (e_add false (fe_sl (m := false) (e_v 1) fo_n (fo_s (e_v 3))) (fe_sl (m := false) (e_v 1) (fo_s (e_add false (e_v 3) e_int)) fo_n))))
    fss_nil)
    (fss_cons (fs_if (t_cmp (k_eq G) (e_v 4) e_int)
    (fss_one (fs_ret (e_add false (e_add false (fe_sl (m := false) (e_v 1) fo_n (fo_s (e_v 3))) (fe_sl (m := false) (e_v 1) (fo_s (e_v 3)) (fo_s (e_add false (e_v 3) e_int)))) (fe_sl (m := false) (e_v 1) (fo_s (e_v 3)) fo_n))))
    fss_nil)
    (fss_cons (fs_if (t_cmp (k_eq G) (e_v 4) e_int)
    (fss_one (fs_ret (fe_revT (e_v 1))))
    fss_nil)
    (fss_one (fs_ret (e_add false (e_add false (fe_sl (m := false) (e_v 1) fo_n (fo_s (e_v 3))) (fe_tup (a_cons (e_call false G Q.g_12 Z.i_12 (a_cons (e_v 0) (a_cons (e_ix (e_v 1) (e_v 3)) (a_cons (e_sub (e_v 2) e_int) fa_nil)))) fa_nil))) (fe_sl (m := false) (e_v 1) (fo_s (e_add false (e_v 3) e_int)) fo_n)))))))))))
theorem sc_13 : FnScope ["one", "other", "first", "second"] ["one", "other"] (defScope (top 24)) := ⟨rfl, rfl, rfl, by decide +kernel, rfl, by decide +kernel, by decide +kernel⟩
/-- _law_cross -/
theorem ok_13 (Z : Tx P K mg T a) (Q : Al P w K mg base T a k) : FnG P w K mg base (3 * (k + 1)) a.f13 a.d13 ["one", "other"] (spF K T 2 (run (k + 1) 13)) := by
  refine fn_of' (k := 3 * k + 2) (code := c_13 (run k)) Z.u_13 sc_13 (run_13 k) rfl rfl rfl fun cdv A outer s H E G2 => ?_
  have G := G2.mono (j := 3 * k + 1) (by omega)
  exact (fss_cons (s_par2 2 3 G (a_cons (e_bi (u_minD G) Z.z_min (a_cons (fe_lst (a_cons (e_v 0) (a_cons (e_v 1) fa_nil))) fa_nil)) (a_cons (e_bi (u_maxD G) Z.z_max (a_cons (fe_lst (a_cons (e_v 0) (a_cons (e_v 1) fa_nil))) fa_nil)) fa_nil)))
    (fss_one (fs_ret (e_chn (e_ix (e_v 2) e_int) (fch_cons (k_lt) (e_ix (e_v 3) e_int) (fch_cons (k_lt) (e_ix (e_v 2) e_int) (fch_one (k_lt) (e_ix (e_v 3) e_int))))))))
theorem sc_14 : FnScope ["spans", "begin", "end", "number"] ["spans"] (defScope (top 25)) := ⟨rfl, rfl, rfl, by decide +kernel, rfl, by decide +kernel, by decide +kernel⟩
/-- _law_order -/
theorem ok_14 (Z : Tx P K mg T a) (Q : Al P w K mg base T a k) : FnG P w K mg base (3 * (k + 1)) a.f14 a.d14 ["spans"] (spF K T 1 (run (k + 1) 14)) := by
  refine fn_of' (k := 3 * k + 2) (code := c_14 (run k)) Z.u_14 sc_14 (run_14 k) rfl rfl rfl fun cdv A outer s H E G2 => ?_
  have G := G2.mono (j := 3 * k + 1) (by omega)
  exact (fss_one (fs_ret (e_lc false [("begin", 1), ("end", 2), ("number", 3)] G (by rfl) (by decide) (fi_it (e_bi (u_sort false G) Z.z_sorted (a_cons (e_lc false [("number", 3)] G (by rfl) (by decide) (i_r1 Z.z_range (e_bi u_len Z.z_len (a_cons (e_v 0) fa_nil))) (fun _ _ _ _ _ G => (fy_n (g_n 3 G))) (fun _ _ _ _ _ G => fts_nil) (fun _ _ _ _ _ G => (fe_tup (a_cons (e_ix (e_ix (e_v 0) (e_v 3)) e_int) (a_cons (e_sub e_int (e_ix (e_ix (e_v 0) (e_v 3)) e_int)) (a_cons (e_v 3) fa_nil)))))) fa_nil))) (fun _ _ _ _ _ G => (y_t G (len_cns (len_cns (len_cns len_nil))) (gs_cons (g_n 1 G) (gs_cons (g_n 2 G) (gs_cons (g_n 3 G) fgs_nil))))) (fun _ _ _ _ _ G => fts_nil) (fun _ _ _ _ _ G => (e_v 3)))))
theorem sc_15 : FnScope ["spans", "j", "rows", "i"] ["spans"] (defScope (top 26)) := ⟨rfl, rfl, rfl, by decide +kernel, rfl, by decide +kernel, by decide +kernel⟩
/-- _law_judged -/
theorem ok_15 (Z : Tx P K mg T a) (Q : Al P w K mg base T a k) : FnG P w K mg base (3 * (k + 1)) a.f15 a.d15 ["spans"] (spF K T 1 (run (k + 1) 15)) := by
  refine fn_of' (k := 3 * k + 2) (code := c_15 (run k)) Z.u_15 sc_15 (run_15 k) rfl rfl rfl fun cdv A outer s H E G2 => ?_
  have G := G2.mono (j := 3 * k + 1) (by omega)
  exact (fss_cons (s_for G (i_r1 Z.z_range (e_bi u_len Z.z_len (a_cons (e_v 0) fa_nil))) (fy_n (g_n 1 G))
    (fss_cons (s_setLc 2 false [("i", 3)] G (by rfl) (by decide) (by rfl) (i_r1 Z.z_range (e_v 1)) (fun _ _ _ _ _ G => (fy_n (g_n 3 G))) (fun _ _ _ _ _ G => (fts_one (t_tru (e_call true G Q.g_13 Z.i_13 (a_cons (e_ix (e_v 0) (e_v 3)) (a_cons (e_ix (e_v 0) (e_v 1)) fa_nil)))))) (fun _ _ _ _ _ G => (e_v 3)))
    (fss_one (fs_if (t_tru (e_v 2))
    (fss_one (fs_ret (fe_tup (a_cons (e_str [99, 114, 111, 115, 115] (by decide +kernel) (by decide)) (a_cons (e_ix (e_v 2) e_int) (a_cons (e_v 1) fa_nil))))))
    fss_nil))))
    (fss_one (fs_ret (fe_tup (a_cons (e_str [115, 116, 97, 99, 107] (by decide +kernel) (by decide)) (a_cons (e_bi u_tuple Z.z_tuple (a_cons (e_call true G Q.g_14 Z.i_14 (a_cons (e_v 0) fa_nil)) fa_nil)) fa_nil))))))
theorem sc_16 : FnScope ["spans", "best", "moment", "begin", "end", "many", "span"] ["spans"] (defScope (top 27)) := ⟨rfl, rfl, rfl, by decide +kernel, rfl, by decide +kernel, by decide +kernel⟩
/-- _law_deepest -/
theorem ok_16 (Z : Tx P K mg T a) (Q : Al P w K mg base T a k) : FnG P w K mg base (3 * (k + 1)) a.f16 a.d16 ["spans"] (spF K T 1 (run (k + 1) 16)) := by
  refine fn_of' (k := 3 * k + 2) (code := c_16 (run k)) Z.u_16 sc_16 (run_16 k) rfl rfl rfl fun cdv A outer s H E G2 => ?_
  have G := G2.mono (j := 3 * k + 1) (by omega)
  exact (fss_cons (s_set 1 G (fe_tup (a_cons e_int (a_cons e_non fa_nil))))
    (fss_cons (s_for G (fi_it (e_bi (u_sortK false G) Z.z_sorted (a_cons (e_bi (u_dict G) Z.z_dict (a_cons (e_lc false [("begin", 3), ("end", 4)] G (by rfl) (by decide) (fi_it (e_v 0)) (fun _ _ _ _ _ G => (y_t G (len_cns (len_cns len_nil)) (gs_cons (g_n 3 G) (gs_cons (g_n 4 G) fgs_nil)))) (fun _ _ _ _ _ G => fts_nil) (fun _ _ _ _ _ G => (fe_tup (a_cons (e_v 3) (a_cons e_bl fa_nil))))) fa_nil)) fa_nil))) (fy_n (g_n 2 G))
    (fss_cons (s_set 5 G (e_bi u_len Z.z_len (a_cons (e_lc false [("span", 6)] G (by rfl) (by decide) (fi_it (e_v 0)) (fun _ _ _ _ _ G => (fy_n (g_n 6 G))) (fun _ _ _ _ _ G => (fts_one (t_ch (k_le) (k_lt) (e_ix (e_v 6) e_int) (e_v 2) (e_ix (e_v 6) e_int)))) (fun _ _ _ _ _ G => (e_v 6))) fa_nil)))
    (fss_one (s_set 1 G (fe_if (t_cmp (k_gt) (e_v 5) (e_ix (e_v 1) e_int)) (fe_tup (a_cons (e_v 5) (a_cons (e_v 2) fa_nil))) (e_v 1))))))
    (fss_one (fs_ret (e_v 1)))))
theorem sc_17 : FnScope ["spans", "found", "number", "taken", "other", "own"] ["spans"] (defScope (top 28)) := ⟨rfl, rfl, rfl, by decide +kernel, rfl, by decide +kernel, by decide +kernel⟩
/-- _law_stacks -/
theorem ok_17 (Z : Tx P K mg T a) (Q : Al P w K mg base T a k) : FnG P w K mg base (3 * (k + 1)) a.f17 a.d17 ["spans"] (spF K T 1 (run (k + 1) 17)) := by
  refine fn_of' (k := 3 * k + 2) (code := c_17 (run k)) Z.u_17 sc_17 (run_17 k) rfl rfl rfl fun cdv A outer s H E G2 => ?_
  have G := G2.mono (j := 3 * k + 1) (by omega)
  exact (fss_cons (s_set 1 G fe_dK)
    (fss_cons (s_for G (fi_it (e_call true G Q.g_14 Z.i_14 (a_cons (e_v 0) fa_nil))) (fy_n (g_n 2 G))
    (fss_cons (s_set 3 G (fe_lk (gN 1) (e_lc false [("other", 4)] G (by rfl) (by decide) (fi_keys (e_v 1)) (fun _ _ _ _ _ G => (fy_n (g_n 4 G))) (fun _ _ _ _ _ G => (fts_one (t_tru (e_call true G Q.g_13 Z.i_13 (a_cons (e_ix (e_v 0) (e_v 4)) (a_cons (e_ix (e_v 0) (e_v 2)) fa_nil)))))) (fun _ _ _ _ _ G => (e_dx G (e_v 1) (e_v 4))))))
    (fss_one (s_setD G (e_ix (e_lc false [("own", 5)] G (by rfl) (by decide) (i_r1 Z.z_range (e_add false (e_bi u_len Z.z_len (a_cons (e_v 0) fa_nil)) e_int)) (fun _ _ _ _ _ G => (fy_n (g_n 5 G))) (fun _ _ _ _ _ G => (fts_one (t_cmp (k_nin G) (e_v 5) (e_v 3)))) (fun _ _ _ _ _ G => (e_v 5))) e_int) (e_v 1) (e_v 2)))))
    (fss_one (fs_ret (e_bi u_tuple Z.z_tuple (a_cons (e_lc false [("number", 2)] G (by rfl) (by decide) (i_r1 Z.z_range (e_bi u_len Z.z_len (a_cons (e_v 0) fa_nil))) (fun _ _ _ _ _ G => (fy_n (g_n 2 G))) (fun _ _ _ _ _ G => fts_nil) (fun _ _ _ _ _ G => (e_dx G (e_v 1) (e_v 2)))) fa_nil))))))
theorem sc_18 : FnScope ["spans", "span"] ["spans"] (defScope (top 29)) := ⟨rfl, rfl, rfl, by decide +kernel, rfl, by decide +kernel, by decide +kernel⟩
/-- _law_are_spans -/
theorem ok_18 (Z : Tx P K mg T a) (Q : Al P w K mg base T a k) : FnG P w K mg base (3 * (k + 1)) a.f18 a.d18 ["spans"] (spF K T 1 (run (k + 1) 18)) := by
  refine fn_of' (k := 3 * k + 2) (code := c_18 (run k)) Z.u_18 sc_18 (run_18 k) rfl rfl rfl fun cdv A outer s H E G2 => ?_
  have G := G2.mono (j := 3 * k + 1) (by omega)
  exact (fss_cons (fs_if (ft_w (fw_or (ft_not (t_tru (e_isi .tup Z.z_isinstance Z.z_tuple (e_v 0)))) (fw_1 (t_cmp (k_gt) (e_bi u_len Z.z_len (a_cons (e_v 0) fa_nil)) e_int))))
    (fss_one (fs_ret e_bl))
    fss_nil)
    (fss_cons (s_for G (fi_it (e_v 0)) (fy_n (g_n 1 G))
    (fss_one (fs_if (ft_w (fw_or (ft_not (t_tru (e_isi .tup Z.z_isinstance Z.z_tuple (e_v 1)))) (fw_or (t_cmp (k_ne G) (e_bi u_len Z.z_len (a_cons (e_v 1) fa_nil)) e_int) (fw_or (ft_not (t_tru (e_call true G Q.g_11 Z.i_11 (a_cons (e_ix (e_v 1) e_int) (a_cons e_int (a_cons e_int fa_nil)))))) (fw_1 (ft_not (t_tru (e_call true G Q.g_11 Z.i_11 (a_cons (e_ix (e_v 1) e_int) (a_cons (e_add false (e_ix (e_v 1) e_int) e_int) (a_cons e_int fa_nil)))))))))))
    (fss_one (fs_ret e_bl))
    fss_nil)))
    (fss_one (fs_ret e_bl))))
theorem sc_19 : FnScope ["script", "state", "turn", "most", "spans", "k", "begin", "told", "odd", "some", "way"] ["script"] (defScope (top 30)) := ⟨rfl, rfl, rfl, by decide +kernel, rfl, by decide +kernel, by decide +kernel⟩
/-- law -/
theorem ok_19 (Z : Tx P K mg T a) (Q : Al P w K mg base T a k) : FnG P w K mg base (3 * (k + 1)) a.f19 a.d19 ["script"] (spF K T 1 (run (k + 1) 19)) := by
  refine fn_of' (k := 3 * k + 2) (code := c_19 (run k)) Z.u_19 sc_19 (run_19 k) rfl rfl rfl fun cdv A outer s H E G2 => ?_
  have G := G2.mono (j := 3 * k + 1) (by omega)
  exact (fss_cons (s_set 1 G (e_call false G Q.g_6 Z.i_6 (a_cons (e_v 0) fa_nil)))
    (fss_cons (s_for G (i_r1 Z.z_range e_int) (fy_n (g_n 2 G))
    (fss_cons (s_par2 3 4 G (a_cons (e_call false G Q.g_8 Z.i_8 (a_cons (e_v 1) (a_cons (fe_lst (a_cons e_int (a_cons e_int (a_cons e_int fa_nil)))) fa_nil))) (a_cons (fe_lstM fa_nil) fa_nil)))
    (fss_cons (s_for G (i_r1 Z.z_range (e_call false G Q.g_7 Z.i_7 (a_cons (e_v 1) (a_cons (e_call false G Q.g_8 Z.i_8 (a_cons (e_v 1) (a_cons (fe_lst (a_cons e_int (a_cons e_int (a_cons e_int fa_nil)))) fa_nil))) fa_nil)))) (fy_n (g_n 5 G))
    (fss_cons (s_set 6 G (e_call false G Q.g_7 Z.i_7 (a_cons (e_v 1) (a_cons (e_v 3) fa_nil))))
    (fss_cons (s_expr (e_lm l_append (e_v 4) (a_cons (fe_tup (a_cons (e_v 6) (a_cons (e_add false (e_add false (e_v 6) e_int) (e_call false G Q.g_7 Z.i_7 (a_cons (e_v 1) (a_cons (e_sub (e_v 3) (e_v 6)) fa_nil)))) fa_nil))) fa_nil)))
    (fss_one (fs_if (t_cmp (k_eq G) (e_call false G Q.g_7 Z.i_7 (a_cons (e_v 1) (a_cons e_int fa_nil))) e_int)
    (fss_one (s_setL (e_call false G Q.g_8 Z.i_8 (a_cons (e_v 1) (a_cons (e_v 4) fa_nil))) (e_v 4) (e_neg e_int)))
    fss_nil)))))
    (fss_cons (s_set 4 G (e_bi u_tuple Z.z_tuple (a_cons (e_v 4) fa_nil)))
    (fss_cons (s_set 7 G (fe_lst (a_cons (e_call false G Q.g_10 Z.i_10 (a_cons (e_f [106, 117, 100, 103, 101, 95, 115, 116, 97, 99, 107] Z.v_3 Z.i_3.mg) (a_cons (fe_lst (a_cons (e_v 4) fa_nil)) fa_nil))) (a_cons (e_call false G Q.g_10 Z.i_10 (a_cons (e_f [100, 101, 101, 112, 101, 115, 116] Z.v_4 Z.i_4.mg) (a_cons (fe_lst (a_cons (e_v 4) fa_nil)) fa_nil))) (a_cons (e_call false G Q.g_10 Z.i_10 (a_cons (e_f [102, 101, 119, 101, 115, 116, 95, 115, 116, 97, 99, 107, 115] Z.v_5 Z.i_5.mg) (a_cons (fe_lst (a_cons (e_v 4) fa_nil)) fa_nil))) fa_nil)))))
    (fss_cons (fs_if (ft_not (t_tru (e_call true G Q.g_9 Z.i_9 (a_cons (e_v 7) (a_cons (fe_lst (a_cons (fe_lst (a_cons (e_call true G Q.g_15 Z.i_15 (a_cons (e_v 4) fa_nil)) fa_nil)) (a_cons (fe_lst (a_cons (e_call true G Q.g_16 Z.i_16 (a_cons (e_v 4) fa_nil)) fa_nil)) (a_cons (fe_lst (a_cons (e_call true G Q.g_17 Z.i_17 (a_cons (e_v 4) fa_nil)) fa_nil)) fa_nil)))) fa_nil)))))
    (fss_one (fs_ret e_bl))
    fss_nil)
    (fss_one (s_for G (i_r1 Z.z_range e_int) (fy_n (g_n 5 G))
    (fss_cons (s_set 8 G (fe_lst (a_cons e_non (a_cons (fe_lst fa_nil) (a_cons (fe_tup (a_cons (fe_tup (a_cons e_int (a_cons e_int fa_nil))) fa_nil)) (a_cons (fe_tup (a_cons (fe_tup (a_cons e_int (a_cons e_int fa_nil))) fa_nil)) (a_cons (fe_tup (a_cons (fe_tup (a_cons e_int (a_cons e_int fa_nil))) fa_nil)) (a_cons (fe_tup (a_cons (fe_tup (a_cons e_int (a_cons e_int fa_nil))) fa_nil)) (a_cons (fe_tup (a_cons (fe_tup (a_cons (e_neg e_int) (a_cons e_int fa_nil))) fa_nil)) (a_cons (fe_tup (a_cons (fe_tup (a_cons e_bl (a_cons e_int fa_nil))) fa_nil)) (a_cons (e_mul false (fe_tup (a_cons (fe_tup (a_cons e_int (a_cons e_int fa_nil))) fa_nil)) e_int) (a_cons (e_mul false (fe_tup (a_cons (fe_tup (a_cons e_int (a_cons e_int fa_nil))) fa_nil)) e_int) (a_cons (fe_tup (a_cons (fe_tup (a_cons e_int (a_cons e_int (a_cons e_int fa_nil)))) fa_nil)) (a_cons (fe_tup (a_cons e_int fa_nil)) fa_nil))))))))))))))
    (fss_cons (s_set 9 G (e_call false G Q.g_8 Z.i_8 (a_cons (e_v 1) (a_cons (fe_lst (a_cons (e_call false G Q.g_12 Z.i_12 (a_cons (e_v 1) (a_cons (e_v 4) (a_cons e_int fa_nil)))) (a_cons (e_call false G Q.g_8 Z.i_8 (a_cons (e_v 1) (a_cons (e_v 8) fa_nil))) fa_nil))) fa_nil))))
    (fss_one (s_for G (fi_it (fe_lstM (a_cons (e_f [106, 117, 100, 103, 101, 95, 115, 116, 97, 99, 107] Z.v_3 Z.i_3.mg) (a_cons (e_f [100, 101, 101, 112, 101, 115, 116] Z.v_4 Z.i_4.mg) (a_cons (e_f [102, 101, 119, 101, 115, 116, 95, 115, 116, 97, 99, 107, 115] Z.v_5 Z.i_5.mg) fa_nil))))) (fy_n (g_n 10 G))
    (fss_one (fs_if (ft_w (fw_or (t_cmp (k_ne G) (e_isi .lst Z.z_isinstance Z.z_list (e_call false G Q.g_10 Z.i_10 (a_cons (e_v 10) (a_cons (fe_lst (a_cons (e_v 9) fa_nil)) fa_nil)))) (e_call true G Q.g_18 Z.i_18 (a_cons (e_v 9) fa_nil))) (fw_1 (ft_w (fw_and (ft_not (t_tru (e_call true G Q.g_18 Z.i_18 (a_cons (e_v 9) fa_nil)))) (fw_1 (t_cmp (k_ne G) (e_call false G Q.g_10 Z.i_10 (a_cons (e_v 10) (a_cons (fe_lst (a_cons (e_v 9) fa_nil)) fa_nil))) (e_str [97, 114, 103, 117, 109, 101, 110, 116, 32, 115, 112, 97, 110, 115] (by decide +kernel) (by decide)))))))))
    (fss_one (fs_ret e_bl))
    fss_nil))))))))))))))
    (fss_one (fs_ret (e_call true G Q.g_9 Z.i_9 (a_cons (fe_lst (a_cons (e_call true G Q.g_3 Z.i_3 (a_cons (fe_tup (a_cons (fe_tup (a_cons e_int (a_cons e_int fa_nil))) (a_cons (fe_tup (a_cons e_int (a_cons e_int fa_nil))) fa_nil))) fa_nil)) (a_cons (e_call true G Q.g_3 Z.i_3 (a_cons (fe_tup (a_cons (fe_tup (a_cons e_int (a_cons e_int fa_nil))) (a_cons (fe_tup (a_cons e_int (a_cons e_int fa_nil))) fa_nil))) fa_nil)) (a_cons (e_call true G Q.g_5 Z.i_5 (a_cons (fe_tup (a_cons (fe_tup (a_cons e_int (a_cons e_int fa_nil))) (a_cons (fe_tup (a_cons e_int (a_cons e_int fa_nil))) (a_cons (fe_tup (a_cons e_int (a_cons e_int fa_nil))) fa_nil)))) fa_nil)) fa_nil)))) (a_cons (fe_lst (a_cons (fe_tup (a_cons (e_str [99, 114, 111, 115, 115] (by decide +kernel) (by decide)) (a_cons e_int (a_cons e_int fa_nil)))) (a_cons (fe_tup (a_cons (e_str [115, 116, 97, 99, 107] (by decide +kernel) (by decide)) (a_cons (fe_tup (a_cons e_int (a_cons e_int fa_nil))) fa_nil))) (a_cons (fe_tup (a_cons e_int (a_cons e_int (a_cons e_int fa_nil)))) fa_nil)))) fa_nil)))))))
theorem al (Z : Tx P K mg T a) : ∀ k, Al P w K mg base T a k
  | 0 => by constructor <;> exact fn_zero
  | k + 1 => ⟨ok_0 Z (al Z k), ok_1 Z (al Z k), ok_2 Z (al Z k), ok_3 Z (al Z k), ok_4 Z (al Z k), ok_5 Z (al Z k), ok_6 Z (al Z k), ok_7 Z (al Z k), ok_8 Z (al Z k), ok_9 Z (al Z k), ok_10 Z (al Z k), ok_11 Z (al Z k), ok_12 Z (al Z k), ok_13 Z (al Z k), ok_14 Z (al Z k), ok_15 Z (al Z k), ok_16 Z (al Z k), ok_17 Z (al Z k), ok_18 Z (al Z k), ok_19 Z (al Z k)⟩
end
theorem all_mk {l : PySem.W.OpenLaw} {w : World} {K : PySem.W.Frag} {h : Heap} {mg : Str → Option Value} {fa : Addr} (X : K.In h) (G : h.Ns mainGlobals mg) (hfa : mg "law" = some (.ref fa))
    {f0 : Addr} {od0 an0 : Option Addr} {sl0 : Array (Option Value)} {oc0 kV0 dc0 pm0 cd0 ct0 : Value}
    {f1 : Addr} {od1 an1 : Option Addr} {sl1 : Array (Option Value)} {oc1 kV1 dc1 pm1 cd1 ct1 : Value}
    {f2 : Addr} {od2 an2 : Option Addr} {sl2 : Array (Option Value)} {oc2 kV2 dc2 pm2 cd2 ct2 : Value}
    {f3 : Addr} {od3 an3 : Option Addr} {sl3 : Array (Option Value)} {oc3 kV3 dc3 pm3 cd3 ct3 : Value}
    {f4 : Addr} {od4 an4 : Option Addr} {sl4 : Array (Option Value)} {oc4 kV4 dc4 pm4 cd4 ct4 : Value}
    {f5 : Addr} {od5 an5 : Option Addr} {sl5 : Array (Option Value)} {oc5 kV5 dc5 pm5 cd5 ct5 : Value}
    {f6 : Addr} {od6 an6 : Option Addr} {sl6 : Array (Option Value)} {oc6 kV6 dc6 pm6 cd6 ct6 : Value}
    {f7 : Addr} {od7 an7 : Option Addr} {sl7 : Array (Option Value)} {oc7 kV7 dc7 pm7 cd7 ct7 : Value}
    {f8 : Addr} {od8 an8 : Option Addr} {sl8 : Array (Option Value)} {oc8 kV8 dc8 pm8 cd8 ct8 : Value}
    {f9 : Addr} {od9 an9 : Option Addr} {sl9 : Array (Option Value)} {oc9 kV9 dc9 pm9 cd9 ct9 : Value}
    {f10 : Addr} {od10 an10 : Option Addr} {sl10 : Array (Option Value)} {oc10 kV10 dc10 pm10 cd10 ct10 : Value}
    {f11 : Addr} {od11 an11 : Option Addr} {sl11 : Array (Option Value)} {oc11 kV11 dc11 pm11 cd11 ct11 : Value}
    {f12 : Addr} {od12 an12 : Option Addr} {sl12 : Array (Option Value)} {oc12 kV12 dc12 pm12 cd12 ct12 : Value}
    {f13 : Addr} {od13 an13 : Option Addr} {sl13 : Array (Option Value)} {oc13 kV13 dc13 pm13 cd13 ct13 : Value}
    {f14 : Addr} {od14 an14 : Option Addr} {sl14 : Array (Option Value)} {oc14 kV14 dc14 pm14 cd14 ct14 : Value}
    {f15 : Addr} {od15 an15 : Option Addr} {sl15 : Array (Option Value)} {oc15 kV15 dc15 pm15 cd15 ct15 : Value}
    {f16 : Addr} {od16 an16 : Option Addr} {sl16 : Array (Option Value)} {oc16 kV16 dc16 pm16 cd16 ct16 : Value}
    {f17 : Addr} {od17 an17 : Option Addr} {sl17 : Array (Option Value)} {oc17 kV17 dc17 pm17 cd17 ct17 : Value}
    {f18 : Addr} {od18 an18 : Option Addr} {sl18 : Array (Option Value)} {oc18 kV18 dc18 pm18 cd18 ct18 : Value}
    {f19 : Addr} {od19 an19 : Option Addr} {sl19 : Array (Option Value)} {oc19 kV19 dc19 pm19 cd19 ct19 : Value}
    {t_MAX_BLOCKS : Tok}
    {t_MAX_MOMENT : Tok}
    {fw : Addr} {odw anw : Option Addr} {slw : Array (Option Value)} {ocw kVw dcw pmw cdw ctw : Value}
    {xM : Addr}
    {X0 I0 xN0 cda0 cc0 : Addr} {xnm0 xqn0 xfi0 : Str} {xbs0 xbm0 xsu0 : List Value} {xsn0 : List Str} {xab0 : Bool} {xco0 : Option Bool} {xdd0 xod0 xan0 xcd0 xld0 : Option Addr} {xk00 xk10 xk20 xk30 xk50 : Option Value} {xoc0 xkV0 xdo0 xpm0 xct0 xcc0 xcl0 : Value} {xos0 xcs0 xls0 : Array (Option Value)} {xvs0 : Array Value} {xtf0 : Tok}
    {X1 I1 xN1 cda1 cc1 : Addr} {xnm1 xqn1 xfi1 : Str} {xbs1 xbm1 xsu1 : List Value} {xsn1 : List Str} {xab1 : Bool} {xco1 : Option Bool} {xdd1 xod1 xan1 xcd1 xld1 : Option Addr} {xk01 xk11 xk21 xk31 xk51 : Option Value} {xoc1 xkV1 xdo1 xpm1 xct1 xcc1 xcl1 : Value} {xos1 xcs1 xls1 : Array (Option Value)} {xvs1 : Array Value} {xtf1 : Tok}
    {X2 I2 xN2 cda2 cc2 : Addr} {xnm2 xqn2 xfi2 : Str} {xbs2 xbm2 xsu2 : List Value} {xsn2 : List Str} {xab2 : Bool} {xco2 : Option Bool} {xdd2 xod2 xan2 xcd2 xld2 : Option Addr} {xk02 xk12 xk22 xk32 xk52 : Option Value} {xoc2 xkV2 xdo2 xpm2 xct2 xcc2 xcl2 : Value} {xos2 xcs2 xls2 : Array (Option Value)} {xvs2 : Array Value} {xtf2 : Tok}
    (a0 : PySem.W.nsIn K mainGlobals "is_integer" = some (some (.ref f0)))
    (l0 : K.lookup f0 = some ⟨oc0, od0, .func (PySem.W.fnOf "is_integer" "is_integer" (defArgs (top 6)) (defBody (top 6)) (defScope (top 6)) .none kV0 dc0 pm0 an0 cd0 ct0), sl0⟩)
    (c0 : PySem.W.codeIn K cd0 "is_integer" = true)
    (k0 : PySem.W.keepIn K (.ref f0) = true)
    (a1 : PySem.W.nsIn K mainGlobals "check_spans" = some (some (.ref f1)))
    (l1 : K.lookup f1 = some ⟨oc1, od1, .func (PySem.W.fnOf "check_spans" "check_spans" (defArgs (top 10)) (defBody (top 10)) (defScope (top 10)) .none kV1 dc1 pm1 an1 cd1 ct1), sl1⟩)
    (c1 : PySem.W.codeIn K cd1 "check_spans" = true)
    (k1 : PySem.W.keepIn K (.ref f1) = true)
    (a2 : PySem.W.nsIn K mainGlobals "crosses" = some (some (.ref f2)))
    (l2 : K.lookup f2 = some ⟨oc2, od2, .func (PySem.W.fnOf "crosses" "crosses" (defArgs (top 11)) (defBody (top 11)) (defScope (top 11)) .none kV2 dc2 pm2 an2 cd2 ct2), sl2⟩)
    (c2 : PySem.W.codeIn K cd2 "crosses" = true)
    (k2 : PySem.W.keepIn K (.ref f2) = true)
    (a3 : PySem.W.nsIn K mainGlobals "judge_stack" = some (some (.ref f3)))
    (l3 : K.lookup f3 = some ⟨oc3, od3, .func (PySem.W.fnOf "judge_stack" "judge_stack" (defArgs (top 12)) (defBody (top 12)) (defScope (top 12)) .none kV3 dc3 pm3 an3 cd3 ct3), sl3⟩)
    (c3 : PySem.W.codeIn K cd3 "judge_stack" = true)
    (k3 : PySem.W.keepIn K (.ref f3) = true)
    (v3 : fnAt K (toStr [106, 117, 100, 103, 101, 95, 115, 116, 97, 99, 107]) = some f3)
    (a4 : PySem.W.nsIn K mainGlobals "deepest" = some (some (.ref f4)))
    (l4 : K.lookup f4 = some ⟨oc4, od4, .func (PySem.W.fnOf "deepest" "deepest" (defArgs (top 13)) (defBody (top 13)) (defScope (top 13)) .none kV4 dc4 pm4 an4 cd4 ct4), sl4⟩)
    (c4 : PySem.W.codeIn K cd4 "deepest" = true)
    (k4 : PySem.W.keepIn K (.ref f4) = true)
    (v4 : fnAt K (toStr [100, 101, 101, 112, 101, 115, 116]) = some f4)
    (a5 : PySem.W.nsIn K mainGlobals "fewest_stacks" = some (some (.ref f5)))
    (l5 : K.lookup f5 = some ⟨oc5, od5, .func (PySem.W.fnOf "fewest_stacks" "fewest_stacks" (defArgs (top 14)) (defBody (top 14)) (defScope (top 14)) .none kV5 dc5 pm5 an5 cd5 ct5), sl5⟩)
    (c5 : PySem.W.codeIn K cd5 "fewest_stacks" = true)
    (k5 : PySem.W.keepIn K (.ref f5) = true)
    (v5 : fnAt K (toStr [102, 101, 119, 101, 115, 116, 95, 115, 116, 97, 99, 107, 115]) = some f5)
    (a6 : PySem.W.nsIn K mainGlobals "_law_start" = some (some (.ref f6)))
    (l6 : K.lookup f6 = some ⟨oc6, od6, .func (PySem.W.fnOf "_law_start" "_law_start" (defArgs (top 16)) (defBody (top 16)) (defScope (top 16)) .none kV6 dc6 pm6 an6 cd6 ct6), sl6⟩)
    (c6 : PySem.W.codeIn K cd6 "_law_start" = true)
    (k6 : PySem.W.keepIn K (.ref f6) = true)
    (a7 : PySem.W.nsIn K mainGlobals "_law_draw" = some (some (.ref f7)))
    (l7 : K.lookup f7 = some ⟨oc7, od7, .func (PySem.W.fnOf "_law_draw" "_law_draw" (defArgs (top 17)) (defBody (top 17)) (defScope (top 17)) .none kV7 dc7 pm7 an7 cd7 ct7), sl7⟩)
    (c7 : PySem.W.codeIn K cd7 "_law_draw" = true)
    (k7 : PySem.W.keepIn K (.ref f7) = true)
    (a8 : PySem.W.nsIn K mainGlobals "_law_pick" = some (some (.ref f8)))
    (l8 : K.lookup f8 = some ⟨oc8, od8, .func (PySem.W.fnOf "_law_pick" "_law_pick" (defArgs (top 18)) (defBody (top 18)) (defScope (top 18)) .none kV8 dc8 pm8 an8 cd8 ct8), sl8⟩)
    (c8 : PySem.W.codeIn K cd8 "_law_pick" = true)
    (k8 : PySem.W.keepIn K (.ref f8) = true)
    (a9 : PySem.W.nsIn K mainGlobals "_law_same" = some (some (.ref f9)))
    (l9 : K.lookup f9 = some ⟨oc9, od9, .func (PySem.W.fnOf "_law_same" "_law_same" (defArgs (top 19)) (defBody (top 19)) (defScope (top 19)) .none kV9 dc9 pm9 an9 cd9 ct9), sl9⟩)
    (c9 : PySem.W.codeIn K cd9 "_law_same" = true)
    (k9 : PySem.W.keepIn K (.ref f9) = true)
    (a10 : PySem.W.nsIn K mainGlobals "_law_asked" = some (some (.ref f10)))
    (l10 : K.lookup f10 = some ⟨oc10, od10, .func (PySem.W.fnOf "_law_asked" "_law_asked" (defArgs (top 20)) (defBody (top 20)) (defScope (top 20)) .none kV10 dc10 pm10 an10 cd10 ct10), sl10⟩)
    (c10 : PySem.W.codeIn K cd10 "_law_asked" = true)
    (k10 : PySem.W.keepIn K (.ref f10) = true)
    (a11 : PySem.W.nsIn K mainGlobals "_law_whole" = some (some (.ref f11)))
    (l11 : K.lookup f11 = some ⟨oc11, od11, .func (PySem.W.fnOf "_law_whole" "_law_whole" (defArgs (top 22)) (defBody (top 22)) (defScope (top 22)) .none kV11 dc11 pm11 an11 cd11 ct11), sl11⟩)
    (c11 : PySem.W.codeIn K cd11 "_law_whole" = true)
    (k11 : PySem.W.keepIn K (.ref f11) = true)
    (a12 : PySem.W.nsIn K mainGlobals "_law_bent" = some (some (.ref f12)))
    (l12 : K.lookup f12 = some ⟨oc12, od12, .func (PySem.W.fnOf "_law_bent" "_law_bent" (defArgs (top 23)) (defBody (top 23)) (defScope (top 23)) .none kV12 dc12 pm12 an12 cd12 ct12), sl12⟩)
    (c12 : PySem.W.codeIn K cd12 "_law_bent" = true)
    (k12 : PySem.W.keepIn K (.ref f12) = true)
    (a13 : PySem.W.nsIn K mainGlobals "_law_cross" = some (some (.ref f13)))
    (l13 : K.lookup f13 = some ⟨oc13, od13, .func (PySem.W.fnOf "_law_cross" "_law_cross" (defArgs (top 24)) (defBody (top 24)) (defScope (top 24)) .none kV13 dc13 pm13 an13 cd13 ct13), sl13⟩)
    (c13 : PySem.W.codeIn K cd13 "_law_cross" = true)
    (k13 : PySem.W.keepIn K (.ref f13) = true)
    (a14 : PySem.W.nsIn K mainGlobals "_law_order" = some (some (.ref f14)))
    (l14 : K.lookup f14 = some ⟨oc14, od14, .func (PySem.W.fnOf "_law_order" "_law_order" (defArgs (top 25)) (defBody (top 25)) (defScope (top 25)) .none kV14 dc14 pm14 an14 cd14 ct14), sl14⟩)
    (c14 : PySem.W.codeIn K cd14 "_law_order" = true)
    (k14 : PySem.W.keepIn K (.ref f14) = true)
    (a15 : PySem.W.nsIn K mainGlobals "_law_judged" = some (some (.ref f15)))
    (l15 : K.lookup f15 = some ⟨oc15, od15, .func (PySem.W.fnOf "_law_judged" "_law_judged" (defArgs (top 26)) (defBody (top 26)) (defScope (top 26)) .none kV15 dc15 pm15 an15 cd15 ct15), sl15⟩)
    (c15 : PySem.W.codeIn K cd15 "_law_judged" = true)
    (k15 : PySem.W.keepIn K (.ref f15) = true)
    (a16 : PySem.W.nsIn K mainGlobals "_law_deepest" = some (some (.ref f16)))
    (l16 : K.lookup f16 = some ⟨oc16, od16, .func (PySem.W.fnOf "_law_deepest" "_law_deepest" (defArgs (top 27)) (defBody (top 27)) (defScope (top 27)) .none kV16 dc16 pm16 an16 cd16 ct16), sl16⟩)
    (c16 : PySem.W.codeIn K cd16 "_law_deepest" = true)
    (k16 : PySem.W.keepIn K (.ref f16) = true)
    (a17 : PySem.W.nsIn K mainGlobals "_law_stacks" = some (some (.ref f17)))
    (l17 : K.lookup f17 = some ⟨oc17, od17, .func (PySem.W.fnOf "_law_stacks" "_law_stacks" (defArgs (top 28)) (defBody (top 28)) (defScope (top 28)) .none kV17 dc17 pm17 an17 cd17 ct17), sl17⟩)
    (c17 : PySem.W.codeIn K cd17 "_law_stacks" = true)
    (k17 : PySem.W.keepIn K (.ref f17) = true)
    (a18 : PySem.W.nsIn K mainGlobals "_law_are_spans" = some (some (.ref f18)))
    (l18 : K.lookup f18 = some ⟨oc18, od18, .func (PySem.W.fnOf "_law_are_spans" "_law_are_spans" (defArgs (top 29)) (defBody (top 29)) (defScope (top 29)) .none kV18 dc18 pm18 an18 cd18 ct18), sl18⟩)
    (c18 : PySem.W.codeIn K cd18 "_law_are_spans" = true)
    (k18 : PySem.W.keepIn K (.ref f18) = true)
    (a19 : PySem.W.nsIn K mainGlobals "law" = some (some (.ref f19)))
    (l19 : K.lookup f19 = some ⟨oc19, od19, .func (PySem.W.fnOf "law" "law" (defArgs (top 30)) (defBody (top 30)) (defScope (top 30)) .none kV19 dc19 pm19 an19 cd19 ct19), sl19⟩)
    (c19 : PySem.W.codeIn K cd19 "law" = true)
    (k19 : PySem.W.keepIn K (.ref f19) = true)
    (z_ValueError : PySem.W.nsIn K mainGlobals "ValueError" = some none)
    (z_abs : PySem.W.nsIn K mainGlobals "abs" = some none)
    (z_all : PySem.W.nsIn K mainGlobals "all" = some none)
    (z_bool : PySem.W.nsIn K mainGlobals "bool" = some none)
    (z_dict : PySem.W.nsIn K mainGlobals "dict" = some none)
    (z_enumerate : PySem.W.nsIn K mainGlobals "enumerate" = some none)
    (z_int : PySem.W.nsIn K mainGlobals "int" = some none)
    (z_isinstance : PySem.W.nsIn K mainGlobals "isinstance" = some none)
    (z_len : PySem.W.nsIn K mainGlobals "len" = some none)
    (z_list : PySem.W.nsIn K mainGlobals "list" = some none)
    (z_max : PySem.W.nsIn K mainGlobals "max" = some none)
    (z_min : PySem.W.nsIn K mainGlobals "min" = some none)
    (z_range : PySem.W.nsIn K mainGlobals "range" = some none)
    (z_repr : PySem.W.nsIn K mainGlobals "repr" = some none)
    (z_sorted : PySem.W.nsIn K mainGlobals "sorted" = some none)
    (z_str : PySem.W.nsIn K mainGlobals "str" = some none)
    (z_super : PySem.W.nsIn K mainGlobals "super" = some none)
    (z_tuple : PySem.W.nsIn K mainGlobals "tuple" = some none)
    (q_MAX_BLOCKS : PySem.W.nsIn K mainGlobals "MAX_BLOCKS" = some (some (.int 60 t_MAX_BLOCKS)))
    (q_MAX_MOMENT : PySem.W.nsIn K mainGlobals "MAX_MOMENT" = some (some (.int 1000 t_MAX_MOMENT)))
    (aw : PySem.W.nsIn K mainGlobals "_law_word" = some (some (.ref fw)))
    (lw : K.lookup fw = some ⟨ocw, odw, .func (PySem.W.fnOf "_law_word" "_law_word" (defArgs (top 21)) (defBody (top 21)) (defScope (top 21)) .none kVw dcw pmw anw cdw ctw), slw⟩)
    (cw : PySem.W.codeIn K cdw "_law_word" = true)
    (kw : PySem.W.keepIn K (.ref fw) = true)
    (nopq : PySem.W.nsIn K cStatics "thirdparty.any" = some none)
    (ntop : (l.prog.main.scope.names.lookup ("super" : Str)).isSome = false)
    (ma : PySem.W.nsIn K mainGlobals "MemoryFault" = some (some (.ref xM)))
    (ms : PySem.W.subIn K (.ref xM) (.type "BaseException") = some true)
    (md : PySem.W.hasDictIn K xM = true)
    (mt : PySem.W.typeIn K (.ref xM) = some (.type "type"))
    (xa0 : PySem.W.nsIn K mainGlobals "ArgumentError" = some (some (.ref X0)))
    (xl0 : K.lookup X0 = some (excClassObj xnm0 xqn0 X0 xN0 xbs0 xbm0 true xsn0 xsu0 xab0 xco0 xdd0 xk00 xk10 xk20 xk30 xk50 "ValueError.__new__"))
    (xr0 : PySem.HandSPX.refsVE xbm0 = true)
    (xs0 : PySem.W.findIn K (.ref X0) "__setattr__" = some (some (.builtin "object.__setattr__")))
    (xx0 : PySem.W.subIn K (.ref X0) (.type "BaseException") = some true)
    (xy0 : PySem.W.typeIn K (.ref X0) = some (.type "type"))
    (xk0 : PySem.W.keepIn K (.ref X0) = true)
    (xi0 : PySem.W.findIn K (.ref X0) "__init__" = some (some (.ref I0)))
    (xt0 : PySem.W.typeIn K (.ref I0) = some (.type "function"))
    (xf0 : K.lookup I0 = some ⟨xoc0, xod0, .func (PySem.W.ksFn "__init__" "ArgumentError.__init__" (defArgs (inClass (top 2) 0)) (defBody (inClass (top 2) 0)) (defScope (inClass (top 2) 0)) .none xkV0 xdo0 xpm0 xan0 (.ref cda0) xct0 cc0), xos0⟩)
    (xc0 : PySem.W.codeIn K (.ref cda0) "ArgumentError.__init__" = true)
    (xo0 : K.lookup cda0 = some ⟨xcc0, xcd0, .fields xvs0, xcs0⟩)
    (xv0 : xvs0[2]? = some (.str xfi0 xtf0))
    (xq0 : ((l.prog.main.file : Str) == xfi0) = true)
    (xz0 : K.lookup cc0 = some ⟨xcl0, xld0, .cell (some (.ref X0)), xls0⟩)
    (xu0 : PySem.W.ks_superIn K X0 X0 "__init__" = some (some (.builtin "ValueError.__init__")))
    (xb0 : PySem.W.subIn K (.ref X0) (.type "ValueError") = some true)
    (xw0 : PySem.W.mroIn K X0 (.ref X0) = some true)
    (xn0 : PySem.W.findIn K (.ref X0) "reason" = some none)
    (mc0 : PySem.W.subIn K (.ref X0) (.ref xM) = some true)
    (ga0 : PySem.W.findIn K (.ref X0) "__getattribute__" = some (some (.builtin "BaseException.__getattribute__")))
    (gg0 : PySem.W.findIn K (.ref X0) "__getattr__" = some none)
    (gd0 : PySem.W.hasDictIn K X0 = true)
    (gc0 : PySem.W.findIn K (.ref X0) "__class__" = some (some (.builtin "object.__class__")))
    (gn0 : PySem.W.specialIn K (.builtin "object.__class__") "__get__" = some (some (.builtin "getset_descriptor.__get__")))
    (gt0 : PySem.W.takesIn K (.builtin "object.__class__") = some true)
    (go0 : PySem.W.mroIn K X0 (.type "object") = some true)
    (kv0 : PySem.W.kitOne K (.ref X0) (.type "ValueError") = some true)
    (xa1 : PySem.W.nsIn K mainGlobals "PaperError" = some (some (.ref X1)))
    (xl1 : K.lookup X1 = some (excClassObj xnm1 xqn1 X1 xN1 xbs1 xbm1 true xsn1 xsu1 xab1 xco1 xdd1 xk01 xk11 xk21 xk31 xk51 "ValueError.__new__"))
    (xr1 : PySem.HandSPX.refsVE xbm1 = true)
    (xs1 : PySem.W.findIn K (.ref X1) "__setattr__" = some (some (.builtin "object.__setattr__")))
    (xx1 : PySem.W.subIn K (.ref X1) (.type "BaseException") = some true)
    (xy1 : PySem.W.typeIn K (.ref X1) = some (.type "type"))
    (xk1 : PySem.W.keepIn K (.ref X1) = true)
    (xi1 : PySem.W.findIn K (.ref X1) "__init__" = some (some (.ref I1)))
    (xt1 : PySem.W.typeIn K (.ref I1) = some (.type "function"))
    (xf1 : K.lookup I1 = some ⟨xoc1, xod1, .func (PySem.W.ksFn "__init__" "PaperError.__init__" (defArgs (inClass (top 3) 0)) (defBody (inClass (top 3) 0)) (defScope (inClass (top 3) 0)) .none xkV1 xdo1 xpm1 xan1 (.ref cda1) xct1 cc1), xos1⟩)
    (xc1 : PySem.W.codeIn K (.ref cda1) "PaperError.__init__" = true)
    (xo1 : K.lookup cda1 = some ⟨xcc1, xcd1, .fields xvs1, xcs1⟩)
    (xv1 : xvs1[2]? = some (.str xfi1 xtf1))
    (xq1 : ((l.prog.main.file : Str) == xfi1) = true)
    (xz1 : K.lookup cc1 = some ⟨xcl1, xld1, .cell (some (.ref X1)), xls1⟩)
    (xu1 : PySem.W.ks_superIn K X1 X1 "__init__" = some (some (.builtin "ValueError.__init__")))
    (xb1 : PySem.W.subIn K (.ref X1) (.type "ValueError") = some true)
    (xw1 : PySem.W.mroIn K X1 (.ref X1) = some true)
    (xn1 : PySem.W.findIn K (.ref X1) "reason" = some none)
    (mc1 : PySem.W.subIn K (.ref X1) (.ref xM) = some true)
    (ga1 : PySem.W.findIn K (.ref X1) "__getattribute__" = some (some (.builtin "BaseException.__getattribute__")))
    (gg1 : PySem.W.findIn K (.ref X1) "__getattr__" = some none)
    (gd1 : PySem.W.hasDictIn K X1 = true)
    (gc1 : PySem.W.findIn K (.ref X1) "__class__" = some (some (.builtin "object.__class__")))
    (gn1 : PySem.W.specialIn K (.builtin "object.__class__") "__get__" = some (some (.builtin "getset_descriptor.__get__")))
    (gt1 : PySem.W.takesIn K (.builtin "object.__class__") = some true)
    (go1 : PySem.W.mroIn K X1 (.type "object") = some true)
    (kv1 : PySem.W.kitOne K (.ref X1) (.type "ValueError") = some true)
    (xa2 : PySem.W.nsIn K mainGlobals "TooMany" = some (some (.ref X2)))
    (xl2 : K.lookup X2 = some (excClassObj xnm2 xqn2 X2 xN2 xbs2 xbm2 true xsn2 xsu2 xab2 xco2 xdd2 xk02 xk12 xk22 xk32 xk52 "ValueError.__new__"))
    (xr2 : PySem.HandSPX.refsVE xbm2 = true)
    (xs2 : PySem.W.findIn K (.ref X2) "__setattr__" = some (some (.builtin "object.__setattr__")))
    (xx2 : PySem.W.subIn K (.ref X2) (.type "BaseException") = some true)
    (xy2 : PySem.W.typeIn K (.ref X2) = some (.type "type"))
    (xk2 : PySem.W.keepIn K (.ref X2) = true)
    (xi2 : PySem.W.findIn K (.ref X2) "__init__" = some (some (.ref I2)))
    (xt2 : PySem.W.typeIn K (.ref I2) = some (.type "function"))
    (xf2 : K.lookup I2 = some ⟨xoc2, xod2, .func (PySem.W.ksFn "__init__" "TooMany.__init__" (defArgs (inClass (top 4) 0)) (defBody (inClass (top 4) 0)) (defScope (inClass (top 4) 0)) .none xkV2 xdo2 xpm2 xan2 (.ref cda2) xct2 cc2), xos2⟩)
    (xc2 : PySem.W.codeIn K (.ref cda2) "TooMany.__init__" = true)
    (xo2 : K.lookup cda2 = some ⟨xcc2, xcd2, .fields xvs2, xcs2⟩)
    (xv2 : xvs2[2]? = some (.str xfi2 xtf2))
    (xq2 : ((l.prog.main.file : Str) == xfi2) = true)
    (xz2 : K.lookup cc2 = some ⟨xcl2, xld2, .cell (some (.ref X2)), xls2⟩)
    (xu2 : PySem.W.ks_superIn K X2 X2 "__init__" = some (some (.builtin "ValueError.__init__")))
    (xb2 : PySem.W.subIn K (.ref X2) (.type "ValueError") = some true)
    (xw2 : PySem.W.mroIn K X2 (.ref X2) = some true)
    (xn2 : PySem.W.findIn K (.ref X2) "reason" = some none)
    (mc2 : PySem.W.subIn K (.ref X2) (.ref xM) = some true)
    (ga2 : PySem.W.findIn K (.ref X2) "__getattribute__" = some (some (.builtin "BaseException.__getattribute__")))
    (gg2 : PySem.W.findIn K (.ref X2) "__getattr__" = some none)
    (gd2 : PySem.W.hasDictIn K X2 = true)
    (gc2 : PySem.W.findIn K (.ref X2) "__class__" = some (some (.builtin "object.__class__")))
    (gn2 : PySem.W.specialIn K (.builtin "object.__class__") "__get__" = some (some (.builtin "getset_descriptor.__get__")))
    (gt2 : PySem.W.takesIn K (.builtin "object.__class__") = some true)
    (go2 : PySem.W.mroIn K X2 (.type "object") = some true)
    (kv2 : PySem.W.kitOne K (.ref X2) (.type "ValueError") = some true)
    (kt0_0 : PySem.W.kitOne K (.ref X0) (.ref X0) = some true)
    (kt0_1 : PySem.W.kitOne K (.ref X0) (.ref X1) = some false)
    (kt0_2 : PySem.W.kitOne K (.ref X0) (.ref X2) = some false) :
    ∃ (fd : FuncData) (T : Tb), (∀ (s : Shared) (v : Value), BindsTo s fd ⟨[v], []⟩ [("script", v)]) ∧ ∀ base : Heap, K.In base → base.Ns mainGlobals mg → FnG l.prog w K mg base (3 * 40) fa fd ["script"] (spF K T 1 (run 40 19)) := by
  have e := hfa.symm.trans (PySem.W.mg_of X G a19)
  cases e
  have F0 := fun_mk (st := top 6) l0 c0 k0
  have b0 := F0.binds (ps := ["value"]) fun _ _ _ _ _ _ us hl => match us, hl with | [_], _ => rfl
  have F1 := fun_mk (st := top 10) l1 c1 k1
  have b1 := F1.binds (ps := ["spans"]) fun _ _ _ _ _ _ us hl => match us, hl with | [_], _ => rfl
  have F2 := fun_mk (st := top 11) l2 c2 k2
  have b2 := F2.binds (ps := ["one", "other"]) fun _ _ _ _ _ _ us hl => match us, hl with | [_, _], _ => rfl
  have F3 := fun_mk (st := top 12) l3 c3 k3
  have b3 := F3.binds (ps := ["spans"]) fun _ _ _ _ _ _ us hl => match us, hl with | [_], _ => rfl
  have F4 := fun_mk (st := top 13) l4 c4 k4
  have b4 := F4.binds (ps := ["spans"]) fun _ _ _ _ _ _ us hl => match us, hl with | [_], _ => rfl
  have F5 := fun_mk (st := top 14) l5 c5 k5
  have b5 := F5.binds (ps := ["spans"]) fun _ _ _ _ _ _ us hl => match us, hl with | [_], _ => rfl
  have F6 := fun_mk (st := top 16) l6 c6 k6
  have b6 := F6.binds (ps := ["script"]) fun _ _ _ _ _ _ us hl => match us, hl with | [_], _ => rfl
  have F7 := fun_mk (st := top 17) l7 c7 k7
  have b7 := F7.binds (ps := ["state", "many"]) fun _ _ _ _ _ _ us hl => match us, hl with | [_, _], _ => rfl
  have F8 := fun_mk (st := top 18) l8 c8 k8
  have b8 := F8.binds (ps := ["state", "some"]) fun _ _ _ _ _ _ us hl => match us, hl with | [_, _], _ => rfl
  have F9 := fun_mk (st := top 19) l9 c9 k9
  have b9 := F9.binds (ps := ["actual", "due"]) fun _ _ _ _ _ _ us hl => match us, hl with | [_, _], _ => rfl
  have F10 := fun_mk (st := top 20) l10 c10 k10
  have b10 := F10.binds (ps := ["way", "some"]) fun _ _ _ _ _ _ us hl => match us, hl with | [_, _], _ => rfl
  have F11 := fun_mk (st := top 22) l11 c11 k11
  have b11 := F11.binds (ps := ["value", "least", "most"]) fun _ _ _ _ _ _ us hl => match us, hl with | [_, _, _], _ => rfl
  have F12 := fun_mk (st := top 23) l12 c12 k12
  have b12 := F12.binds (ps := ["state", "value", "depth"]) fun _ _ _ _ _ _ us hl => match us, hl with | [_, _, _], _ => rfl
  have F13 := fun_mk (st := top 24) l13 c13 k13
  have b13 := F13.binds (ps := ["one", "other"]) fun _ _ _ _ _ _ us hl => match us, hl with | [_, _], _ => rfl
  have F14 := fun_mk (st := top 25) l14 c14 k14
  have b14 := F14.binds (ps := ["spans"]) fun _ _ _ _ _ _ us hl => match us, hl with | [_], _ => rfl
  have F15 := fun_mk (st := top 26) l15 c15 k15
  have b15 := F15.binds (ps := ["spans"]) fun _ _ _ _ _ _ us hl => match us, hl with | [_], _ => rfl
  have F16 := fun_mk (st := top 27) l16 c16 k16
  have b16 := F16.binds (ps := ["spans"]) fun _ _ _ _ _ _ us hl => match us, hl with | [_], _ => rfl
  have F17 := fun_mk (st := top 28) l17 c17 k17
  have b17 := F17.binds (ps := ["spans"]) fun _ _ _ _ _ _ us hl => match us, hl with | [_], _ => rfl
  have F18 := fun_mk (st := top 29) l18 c18 k18
  have b18 := F18.binds (ps := ["spans"]) fun _ _ _ _ _ _ us hl => match us, hl with | [_], _ => rfl
  have F19 := fun_mk (st := top 30) l19 c19 k19
  have b19 := F19.binds (ps := ["script"]) fun _ _ _ _ _ _ us hl => match us, hl with | [_], _ => rfl
  have Fw := fun_mk (st := top 21) lw cw kw
  have bw := Fw.binds (ps := ["error"]) fun _ _ _ _ _ _ us hl => match us, hl with | [_], _ => rfl
  let T : Tb := ⟨fun _ => "", fun _ => 0, fun c => match c with | 0 => "reason" | 1 => "reason" | 2 => "reason" | _ => "", fun c => match c with | 0 => X0 | 1 => X1 | 2 => X2 | _ => X0⟩
  have Z : Tx l.prog K mg T ⟨f0, _, f1, _, f2, _, f3, _, f4, _, f5, _, f6, _, f7, _, f8, _, f9, _, f10, _, f11, _, f12, _, f13, _, f14, _, f15, _, f16, _, f17, _, f18, _, fa, _, fw, _, I0, _, I1, _, I2, _, xM⟩ := {
    i_0 := ⟨PySem.W.mg_of X G a0, k0, b0⟩,
    u_0 := F0,
    i_1 := ⟨PySem.W.mg_of X G a1, k1, b1⟩,
    u_1 := F1,
    i_2 := ⟨PySem.W.mg_of X G a2, k2, b2⟩,
    u_2 := F2,
    i_3 := ⟨PySem.W.mg_of X G a3, k3, b3⟩,
    u_3 := F3,
    v_3 := v3,
    i_4 := ⟨PySem.W.mg_of X G a4, k4, b4⟩,
    u_4 := F4,
    v_4 := v4,
    i_5 := ⟨PySem.W.mg_of X G a5, k5, b5⟩,
    u_5 := F5,
    v_5 := v5,
    i_6 := ⟨PySem.W.mg_of X G a6, k6, b6⟩,
    u_6 := F6,
    i_7 := ⟨PySem.W.mg_of X G a7, k7, b7⟩,
    u_7 := F7,
    i_8 := ⟨PySem.W.mg_of X G a8, k8, b8⟩,
    u_8 := F8,
    i_9 := ⟨PySem.W.mg_of X G a9, k9, b9⟩,
    u_9 := F9,
    i_10 := ⟨PySem.W.mg_of X G a10, k10, b10⟩,
    u_10 := F10,
    i_11 := ⟨PySem.W.mg_of X G a11, k11, b11⟩,
    u_11 := F11,
    i_12 := ⟨PySem.W.mg_of X G a12, k12, b12⟩,
    u_12 := F12,
    i_13 := ⟨PySem.W.mg_of X G a13, k13, b13⟩,
    u_13 := F13,
    i_14 := ⟨PySem.W.mg_of X G a14, k14, b14⟩,
    u_14 := F14,
    i_15 := ⟨PySem.W.mg_of X G a15, k15, b15⟩,
    u_15 := F15,
    i_16 := ⟨PySem.W.mg_of X G a16, k16, b16⟩,
    u_16 := F16,
    i_17 := ⟨PySem.W.mg_of X G a17, k17, b17⟩,
    u_17 := F17,
    i_18 := ⟨PySem.W.mg_of X G a18, k18, b18⟩,
    u_18 := F18,
    i_19 := ⟨PySem.W.mg_of X G a19, k19, b19⟩,
    u_19 := F19,
    z_ValueError := PySem.W.mg_none_of X G z_ValueError,
    z_abs := PySem.W.mg_none_of X G z_abs,
    z_all := PySem.W.mg_none_of X G z_all,
    z_bool := PySem.W.mg_none_of X G z_bool,
    z_dict := PySem.W.mg_none_of X G z_dict,
    z_enumerate := PySem.W.mg_none_of X G z_enumerate,
    z_int := PySem.W.mg_none_of X G z_int,
    z_isinstance := PySem.W.mg_none_of X G z_isinstance,
    z_len := PySem.W.mg_none_of X G z_len,
    z_list := PySem.W.mg_none_of X G z_list,
    z_max := PySem.W.mg_none_of X G z_max,
    z_min := PySem.W.mg_none_of X G z_min,
    z_range := PySem.W.mg_none_of X G z_range,
    z_repr := PySem.W.mg_none_of X G z_repr,
    z_sorted := PySem.W.mg_none_of X G z_sorted,
    z_str := PySem.W.mg_none_of X G z_str,
    z_super := PySem.W.mg_none_of X G z_super,
    z_tuple := PySem.W.mg_none_of X G z_tuple,
    c_MAX_BLOCKS := ⟨_, PySem.W.mg_of X G q_MAX_BLOCKS⟩,
    c_MAX_MOMENT := ⟨_, PySem.W.mg_of X G q_MAX_MOMENT⟩,
    i_w := ⟨PySem.W.mg_of X G aw, kw, bw⟩,
    u_w := Fw,
    mm := PySem.W.mg_of X G ma,
    x_0 := ⟨⟨⟨_, _, _, _, _, _, _, _, _, _, _, _, _, _, _, xl0, xr0⟩, xs0, xx0, xy0, xk0⟩, xi0, xt0, ⟨_, _, _, _, _, _, _, _, _, _, _, _, _, _, _, rfl, fun _ => ⟨_, rfl⟩, fun _ => rfl, fun _ => rfl⟩, by decide, ⟨rfl, rfl, rfl, rfl, rfl, rfl, rfl, rfl, by decide +kernel, by decide +kernel, by decide, by decide, by decide⟩, ⟨_, rfl, rfl⟩, ⟨_, _, _, _, _, _, _, _, _, _, _, rfl, xf0, xc0, ⟨_, _, _, _, _, _, xo0, xv0, xq0⟩, _, _, _, xz0⟩, xu0, xb0, xw0, xn0, nopq, PySem.W.mg_none_of X G z_super, PySem.W.mg_none_of X G z_str, ntop⟩,
    xb_0 := fun us hl => match us, hl with | [_, _], _ => rfl,
    xf_0 := rfl,
    xm_0 := PySem.W.mg_of X G xa0,
    em_0 := PySem.W.exm_ref ms md mt mc0,
    xe_0 := ⟨ga0, gg0, xx0, gd0, gc0, gn0, gt0, go0⟩,
    xt_0 := ⟨ga0, gg0, xx0, gd0⟩,
    kv_0 := kv0,
    x_1 := ⟨⟨⟨_, _, _, _, _, _, _, _, _, _, _, _, _, _, _, xl1, xr1⟩, xs1, xx1, xy1, xk1⟩, xi1, xt1, ⟨_, _, _, _, _, _, _, _, _, _, _, _, _, _, _, rfl, fun _ => ⟨_, rfl⟩, fun _ => rfl, fun _ => rfl⟩, by decide, ⟨rfl, rfl, rfl, rfl, rfl, rfl, rfl, rfl, by decide +kernel, by decide +kernel, by decide, by decide, by decide⟩, ⟨_, rfl, rfl⟩, ⟨_, _, _, _, _, _, _, _, _, _, _, rfl, xf1, xc1, ⟨_, _, _, _, _, _, xo1, xv1, xq1⟩, _, _, _, xz1⟩, xu1, xb1, xw1, xn1, nopq, PySem.W.mg_none_of X G z_super, PySem.W.mg_none_of X G z_str, ntop⟩,
    xb_1 := fun us hl => match us, hl with | [_, _], _ => rfl,
    xf_1 := rfl,
    xm_1 := PySem.W.mg_of X G xa1,
    em_1 := PySem.W.exm_ref ms md mt mc1,
    xe_1 := ⟨ga1, gg1, xx1, gd1, gc1, gn1, gt1, go1⟩,
    xt_1 := ⟨ga1, gg1, xx1, gd1⟩,
    kv_1 := kv1,
    x_2 := ⟨⟨⟨_, _, _, _, _, _, _, _, _, _, _, _, _, _, _, xl2, xr2⟩, xs2, xx2, xy2, xk2⟩, xi2, xt2, ⟨_, _, _, _, _, _, _, _, _, _, _, _, _, _, _, rfl, fun _ => ⟨_, rfl⟩, fun _ => rfl, fun _ => rfl⟩, by decide, ⟨rfl, rfl, rfl, rfl, rfl, rfl, rfl, rfl, by decide +kernel, by decide +kernel, by decide, by decide, by decide⟩, ⟨_, rfl, rfl⟩, ⟨_, _, _, _, _, _, _, _, _, _, _, rfl, xf2, xc2, ⟨_, _, _, _, _, _, xo2, xv2, xq2⟩, _, _, _, xz2⟩, xu2, xb2, xw2, xn2, nopq, PySem.W.mg_none_of X G z_super, PySem.W.mg_none_of X G z_str, ntop⟩,
    xb_2 := fun us hl => match us, hl with | [_, _], _ => rfl,
    xf_2 := rfl,
    xm_2 := PySem.W.mg_of X G xa2,
    em_2 := PySem.W.exm_ref ms md mt mc2,
    xe_2 := ⟨ga2, gg2, xx2, gd2, gc2, gn2, gt2, go2⟩,
    xt_2 := ⟨ga2, gg2, xx2, gd2⟩,
    kv_2 := kv2,
    kt_0_0 := kt0_0,
    kt_0_1 := kt0_1,
    kt_0_2 := kt0_2 }
  exact ⟨_, T, fun s v => .of_eq rfl, fun base _ _ => (al Z 40).g_19⟩
end K45
set_option Elab.async false
set_option linter.all false
set_option maxRecDepth 100000
set_option maxHeartbeats 1000000
namespace K45
open Fz
/-! ### spans -/
def sp (p : Int × Int) : D := .tup [.int p.1, .int p.2]
def sps (l : List (Int × Int)) : D := .tup (l.map sp)
def okD : D → Bool
  | .tup [.int a, .int b] => decide (0 ≤ a) && decide (a < b) && decide (b ≤ 1000)
  | _ => false
def valid : D → Bool
  | .tup l => decide (l.length ≤ 60) && l.all okD
  | _ => false
def isI : D → Bool
  | .int _ => true
  | _ => false
def spansS : D := .str [115, 112, 97, 110, 115]
theorem s0 {k : Nat} {x : D} {h : Hh} : run (k + 1) 0 [.d x] h = .ok (.d (.bl (isI x))) h := by
  rw [run_0]
  cases x <;> simp [mkFn, c_0, isD, isI]
theorem p0 {k : Nat} {x : D} {h : Hh} : pure' (run (k + 1) 0) [.d x] h = .ok (.d (.bl (isI x))) h := pure_ok rfl s0
theorem all2 {a b : Bool} {h : Hh} : biAll [.d (.lst [.bl a, .bl b])] h = .ok (.d (.bl (a && b))) h := by
  cases a <;> cases b <;> rfl
theorem okD_2 {p q : D} (hp : isI p = true) (hq : isI q = true) : ∃ a b, p = .int a ∧ q = .int b := by
  cases p <;> simp [isI] at hp
  cases q <;> simp [isI] at hq
  exact ⟨_, _, rfl, rfl⟩
theorem row_chk {k : Nat} {x : D} {x0 x2 : Option W} {h : Hh} : c_1_0 (run (k + 1)) [x0, some (.d x), x2] h = if okD x then .nx [x0, some (.d x), x2] h else .ex 0 (.d spansS) [x0, some (.d x), x2] h := by
  cases x with
  | tup l =>
    match l with
    | [] => simp [c_1_0, isD, sRaise, okP, okD, spansS]
    | [p] => simp [c_1_0, isD, sRaise, okP, okD, spansS]
    | p :: q :: u :: l =>
      have : ¬ ((l.length : Int) + 1 + 1 + 1 = 2) := by omega
      simp [c_1_0, isD, sRaise, okP, okD, spansS, this]
    | [p, q] =>
      have e : cLc false [2] (cIt (cv 1)) (yN (tN 2)) bYes (cCall true 1 (run (k + 1) 0) (aCons (cv 2) aNil)) [x0, some (.d (.tup [p, q])), x2] h = .ok (.d (.lst [.bl (isI p), .bl (isI q)])) h :=
        lc_d (α := D) [p, q] (fun x => .w (.d x)) (fun _ => true) (fun x => .bl (isI x)) (it_tup rfl) (by simp) fun x hx => ⟨_, rfl, rfl, fun _ => by simp [ew, p0]⟩
      by_cases hp : isI p = true
      · by_cases hq : isI q = true
        · obtain ⟨a, b, rfl, rfl⟩ := okD_2 hp hq
          simp [c_1_0, isD, e, all2, isI, bChn, cChn, chC, chL, opLe, opLt, sRaise, okP, okD]
          by_cases h1 : 0 ≤ a
          · by_cases h2 : a < b
            · by_cases h3 : b ≤ 1000
              · simp [h1, h2, h3]
              · simp [h1, h2, h3, spansS]
            · simp [h1, h2, spansS]
          · simp [h1, spansS]
        · simp [c_1_0, isD, e, all2, hq, sRaise, okP]
          cases p <;> cases q <;> simp [isI] at hp hq <;> simp [okD, spansS]
      · simp [c_1_0, isD, e, all2, hp, sRaise, okP]
        cases p <;> simp [isI] at hp <;> simp [okD, spansS]
  | _ => simp [c_1_0, isD, sRaise, okP, okD, spansS]
theorem rows_chk {k : Nat} {x0 x2 : Option W} {h : Hh} : ∀ (l : List D) (x1 : Option W), ∃ y1, forL (yN (tN 1)) (c_1_0 (run (k + 1))) (l.map fun x => .w (.d x)) [x0, x1, x2] h = if l.all okD then .nx [x0, y1, x2] h else .ex 0 (.d spansS) [x0, y1, x2] h
  | [], x1 => ⟨x1, rfl⟩
  | x :: l, x1 => by
    obtain ⟨y1, e⟩ := rows_chk (k := k) (x0 := x0) (x2 := x2) (h := h) l (some (.d x))
    by_cases hx : okD x = true
    · refine ⟨y1, ?_⟩
      rw [List.map_cons]
      unfold forL
      simp [row_chk, hx, e]
    · refine ⟨some (.d x), ?_⟩
      rw [List.map_cons]
      unfold forL
      simp [row_chk, hx]
/-- check_spans -/
theorem s1 {k : Nat} {x : D} {h : Hh} : run (k + 2) 1 [.d x] h = if valid x then .ok (.d .non) h else .ex 0 (.d spansS) h := by
  rw [run_1]
  cases x with
  | tup l =>
    by_cases hl : l.length ≤ 60
    · obtain ⟨y1, e⟩ := rows_chk (k := k) (x0 := some (.d (.tup l))) (x2 := none) (h := h) l none
      have es : sFor (cIt (cv 0)) (yN (tN 1)) (c_1_0 (run (k + 1))) [some (.d (.tup l)), none, none] h = _ := sFor_fix (it_tup (l := l) (h' := h) rfl)
      rw [e] at es
      have : ¬ ((60 : Int) < l.length) := by omega
      by_cases hv : l.all okD = true
      · simp [mkFn, c_1, isD, opGt, valid, hl, hv, es, this]
      · simp [mkFn, c_1, isD, opGt, valid, hl, hv, es, this]
    · have : ((60 : Int) < l.length) := by omega
      simp [mkFn, c_1, isD, opGt, valid, hl, this, sRaise, okP, spansS]
  | _ => simp [mkFn, c_1, isD, valid, sRaise, okP, spansS]
end K45
set_option Elab.async false
set_option linter.all false
set_option maxRecDepth 100000
set_option maxHeartbeats 1000000
namespace K45
open Fz
theorem p1 {k : Nat} {x : D} {h : Hh} : pure' (run (k + 2) 1) [.d x] h = if valid x then .ok (.d .non) h else .ex 0 (.d spansS) h := by
  unfold pure'
  simp only [z_allD, z_allD0, Option.map_some, s1]
  cases valid x <;> rfl
/-! ### the law's look -/
def whole (x : D) (lo hi : Int) : Bool := match x with
  | .int i => decide (lo ≤ i) && decide (i ≤ hi)
  | _ => false
theorem s11 {k : Nat} {x : D} {lo hi : Int} {h : Hh} : run (k + 1) 11 [.d x, .d (.int lo), .d (.int hi)] h = .ok (.d (.bl (whole x lo hi))) h := by
  rw [run_11]
  cases x with
  | int i =>
    by_cases h1 : lo ≤ i
    · simp [mkFn, c_11, isD, whole, cch, opLe, h1]
    · simp [mkFn, c_11, isD, whole, cch, opLe, h1]
  | _ => simp [mkFn, c_11, isD, whole]
theorem p11 {k : Nat} {x : D} {lo hi : Int} {h : Hh} : pure' (run (k + 1) 11) [.d x, .d (.int lo), .d (.int hi)] h = .ok (.d (.bl (whole x lo hi))) h := pure_ok rfl s11
theorem row_are {k : Nat} {x : D} {x0 : Option W} {h : Hh} : c_18_0 (run (k + 1)) [x0, some (.d x)] h = if okD x then .nx [x0, some (.d x)] h else .rt (.d (.bl false)) h := by
  cases x with
  | tup l =>
    match l with
    | [] => simp [c_18_0, isD, okD]
    | [p] => simp [c_18_0, isD, okD]
    | p :: q :: u :: l =>
      have : ¬ ((l.length : Int) + 1 + 1 + 1 = 2) := by omega
      simp [c_18_0, isD, okD, this]
    | [p, q] =>
      cases p with
      | int a =>
        by_cases h1 : whole (.int a) 0 1000 = true
        · cases q with
          | int b =>
            simp [whole] at h1
            by_cases h2 : a + 1 ≤ b
            · by_cases h3 : b ≤ 1000
              · have h4 : a < b := by omega
                simp [c_18_0, isD, p11, okD, whole, h1, h2, h3, h4]
              · have h4 : a < b := by omega
                simp [c_18_0, isD, p11, okD, whole, h1, h2, h3, h4]
            · have h4 : ¬ a < b := by omega
              simp [c_18_0, isD, p11, okD, whole, h1, h2, h4]
          | _ => simp [whole] at h1; simp [c_18_0, isD, p11, okD, whole, h1]
        · have h2 : okD (.tup [.int a, q]) = false := by
            cases q with
            | int b =>
              simp [whole] at h1
              simp [okD]
              omega
            | _ => rfl
          simp [c_18_0, isD, p11, h1, h2]
      | _ => simp [c_18_0, isD, p11, okD, whole]
  | _ => simp [c_18_0, isD, okD]
theorem rows_are {k : Nat} {x0 : Option W} {h : Hh} : ∀ (l : List D) (x1 : Option W), ∃ y1, forL (yN (tN 1)) (c_18_0 (run (k + 1))) (l.map fun x => .w (.d x)) [x0, x1] h = if l.all okD then .nx [x0, y1] h else .rt (.d (.bl false)) h
  | [], x1 => ⟨x1, rfl⟩
  | x :: l, x1 => by
    obtain ⟨y1, e⟩ := rows_are (k := k) (x0 := x0) (h := h) l (some (.d x))
    refine ⟨y1, ?_⟩
    rw [List.map_cons]
    unfold forL
    by_cases hx : okD x = true
    · simp [row_are, hx, e]
    · simp [row_are, hx]
theorem s18 {k : Nat} {x : D} {h : Hh} : run (k + 2) 18 [.d x] h = .ok (.d (.bl (valid x))) h := by
  rw [run_18]
  cases x with
  | tup l =>
    by_cases hl : l.length ≤ 60
    · obtain ⟨y1, e⟩ := rows_are (k := k) (x0 := some (.d (.tup l))) (h := h) l none
      have es : sFor (cIt (cv 0)) (yN (tN 1)) (c_18_0 (run (k + 1))) [some (.d (.tup l)), none] h = _ := sFor_fix (it_tup (l := l) (h' := h) rfl)
      rw [e] at es
      have : ¬ ((60 : Int) < l.length) := by omega
      by_cases hv : l.all okD = true
      · simp [mkFn, c_18, isD, opGt, valid, hl, hv, es, this]
      · simp [mkFn, c_18, isD, opGt, valid, hl, hv, es, this]
    · have : ((60 : Int) < l.length) := by omega
      simp [mkFn, c_18, isD, opGt, valid, hl, this]
  | _ => simp [mkFn, c_18, isD, valid]
theorem p18 {k : Nat} {x : D} {h : Hh} : pure' (run (k + 2) 18) [.d x] h = .ok (.d (.bl (valid x))) h := pure_ok rfl s18
/-! ### valid spans -/
def okP' (p : Int × Int) : Prop := 0 ≤ p.1 ∧ p.1 < p.2 ∧ p.2 ≤ 1000
theorem okD_sp {d : D} (h : okD d = true) : ∃ p, d = sp p ∧ okP' p := by
  unfold okD at h
  split at h
  · rename_i a b
    simp at h
    exact ⟨(a, b), rfl, h.1.1, h.1.2, h.2⟩
  · cases h
theorem valid_sps {x : D} (h : valid x = true) : ∃ l, x = sps l ∧ l.length ≤ 60 ∧ ∀ p ∈ l, okP' p := by
  unfold valid at h
  split at h
  · rename_i ds
    rw [Bool.and_eq_true, decide_eq_true_eq] at h
    obtain ⟨h1, h2⟩ := h
    have : ∃ l : List (Int × Int), ds = l.map sp ∧ ∀ p ∈ l, okP' p := by
      clear h1
      induction ds with
      | nil => exact ⟨[], rfl, by simp⟩
      | cons d ds ih =>
        rw [List.all_cons, Bool.and_eq_true] at h2
        obtain ⟨p, rfl, hp⟩ := okD_sp h2.1
        obtain ⟨l, rfl, hl⟩ := ih h2.2
        exact ⟨p :: l, rfl, fun q hq => by
          rcases List.mem_cons.mp hq with rfl | hq
          · exact hp
          · exact hl q hq⟩
    obtain ⟨l, rfl, hl⟩ := this
    exact ⟨l, rfl, by simpa using h1, hl⟩
  · cases h
theorem sps_valid {l : List (Int × Int)} (h1 : l.length ≤ 60) (h2 : ∀ p ∈ l, okP' p) : valid (sps l) = true := by
  unfold valid sps
  dsimp only
  rw [Bool.and_eq_true, decide_eq_true_eq]
  refine ⟨by simpa using h1, ?_⟩
  rw [List.all_map, List.all_eq_true]
  intro p hp
  have := h2 p hp
  simp [sp, okD, okP'] at this ⊢
  exact ⟨⟨this.1, this.2.1⟩, this.2.2⟩
/-! ### crossing -/
def crs (p q : Int × Int) : Bool := decide (p.1 < q.1 ∧ q.1 < p.2 ∧ p.2 < q.2) || decide (q.1 < p.1 ∧ p.1 < q.2 ∧ q.2 < p.2)
theorem s2 {k : Nat} {p q : Int × Int} {h : Hh} : run (k + 1) 2 [.d (sp p), .d (sp q)] h = .ok (.d (.bl (crs p q))) h := by
  rw [run_2]
  obtain ⟨a, b⟩ := p
  obtain ⟨c, d⟩ := q
  simp only [mkFn, c_2, sp, crs]
  by_cases h1 : a < c <;> by_cases h2 : c < b <;> by_cases h3 : b < d <;> by_cases h4 : c < a <;> by_cases h5 : a < d <;> by_cases h6 : d < b <;> simp [cChn, chC, chL, opLt, h1, h2, h3, h4, h5, h6]
theorem p2 {k : Nat} {p q : Int × Int} {h : Hh} : pure' (run (k + 1) 2) [.d (sp p), .d (sp q)] h = .ok (.d (.bl (crs p q))) h := pure_ok rfl s2
end K45
set_option Elab.async false
set_option linter.all false
set_option maxRecDepth 100000
set_option maxHeartbeats 1000000
namespace K45
open Fz
theorem lt_sp {p q : Int × Int} : D.lt (sp p) (sp q) = if p.1 = q.1 then decide (p.2 < q.2) else decide (p.1 < q.1) := by
  obtain ⟨a, b⟩ := p
  obtain ⟨c, d⟩ := q
  by_cases h : a = c
  · subst h
    by_cases h2 : b = d
    · subst h2; simp [sp, D.lt, ltL, D.eqv]
    · simp [sp, D.lt, ltL, D.eqv, h2]
  · simp [sp, D.lt, ltL, D.eqv, h]
theorem best2 {lt : D → D → Bool} {p q : Int × Int} {h : Hh} : biBest lt [.d (.lst [sp p, sp q])] h = .ok (.d (if lt (sp p) (sp q) then sp q else sp p)) h := by
  have e : (seqW (.d (.lst [sp p, sp q])) h).bind allD = some [sp p, sp q] := rfl
  unfold biBest
  dsimp only
  rw [e]
  have : (allAl [sp p, sp q] && noNone [sp p, sp q] && [sp p, sp q].all (sh 64)) = true := by
    simp [allAl, sp, D.al, alL, noNone, sh]
  dsimp only
  rw [if_pos this]
  rfl
theorem crs_comm {p q : Int × Int} : crs p q = crs q p := by
  unfold crs
  rw [Bool.or_comm]
theorem s13 {k : Nat} {p q : Int × Int} {h : Hh} (hp : okP' p) (hq : okP' q) : run (k + 1) 13 [.d (sp p), .d (sp q)] h = .ok (.d (.bl (crs p q))) h := by
  rw [run_13]
  have e1 : mkL [.d (sp p), .d (sp q)] h = .ok (.d (.lst [sp p, sp q])) h := rfl
  have cc4 : ∀ (u v : Int × Int), cChn (c2 opIx (cv 2) (cc (.int 0))) (chC opLt (c2 opIx (cv 3) (cc (.int 0))) (chC opLt (c2 opIx (cv 2) (cc (.int 1))) (chL opLt (c2 opIx (cv 3) (cc (.int 1)))))) [some (.d (sp p)), some (.d (sp q)), some (.d (sp u)), some (.d (sp v))] h = _ := fun u v => ch4 (p := fun x y => decide (x < y)) (x := u.1) (y := v.1) (z := u.2) (u := v.2) (by simp [sp]) (by simp [sp]) (by simp [sp]) (by simp [sp])
  simp only [mkFn, c_13, z_seq, z_par, z_aCons, z_cl, z_cv0, z_cvS, R.bind_ok, z_aNil, e1, best2, lift_ok, z_tCns, z_tN, z_tNil, List.map, List.length_cons, List.length_nil, List.replicate, List.cons_append, List.nil_append, Option.bind_some, List.set_cons_succ, List.set_cons_zero, SR.bind_nx, z_ret, if_true, Nat.add_sub_cancel]
  rw [lt_sp, lt_sp]
  have fin : ∀ u v : Int × Int, (decide (u.1 < v.1) && (decide (v.1 < u.2) && decide (u.2 < v.2))) = crs p q → (match lift (cChn (c2 opIx (cv 2) (cc (.int 0))) (chC opLt (c2 opIx (cv 3) (cc (.int 0))) (chC opLt (c2 opIx (cv 2) (cc (.int 1))) (chL opLt (c2 opIx (cv 3) (cc (.int 1)))))) [some (.d (sp p)), some (.d (sp q)), some (.d (sp u)), some (.d (sp v))] h) [some (.d (sp p)), some (.d (sp q)), some (.d (sp u)), some (.d (sp v))] fun w h => SR.rt w h with
    | .rt w h => R.ok w h
    | .nx e h => .ok (.d .non) h
    | .ex c p e h => .ex c p h
    | _ => .no) = .ok (.d (.bl (crs p q))) h := fun u v q => by
    rw [cc4, lift_ok, q]
  obtain ⟨a, b⟩ := p
  obtain ⟨c, d⟩ := q
  simp only [okP'] at hp hq
  dsimp only at fin ⊢
  by_cases z : a = c
  · subst z
    by_cases z2 : b < d
    · have n : ¬ d < b := by omega
      simp only [if_true, z2, n, decide_true, decide_false, Bool.false_eq_true, if_false]
      exact fin (a, b) (a, d) (by simp [crs])
    · by_cases z3 : d < b
      · simp only [if_true, z2, z3, decide_true, decide_false, Bool.false_eq_true, if_false]
        exact fin (a, d) (a, b) (by simp [crs])
      · simp only [if_true, z2, z3, decide_false, Bool.false_eq_true, if_false]
        exact fin (a, b) (a, b) (by simp [crs])
  · have z' : ¬ c = a := fun q => z q.symm
    by_cases z2 : a < c
    · have n : ¬ c < a := by omega
      simp only [z, z', z2, n, if_false, decide_true, decide_false, Bool.false_eq_true, if_true]
      exact fin (a, b) (c, d) (by rw [Bool.eq_iff_iff]; simp [crs]; omega)
    · have n : c < a := by omega
      simp only [z, z', z2, n, if_false, decide_true, decide_false, Bool.false_eq_true, if_true]
      exact fin (c, d) (a, b) (by rw [Bool.eq_iff_iff]; simp [crs]; omega)
theorem p13 {k : Nat} {p q : Int × Int} {h : Hh} (hp : okP' p) (hq : okP' q) : pure' (run (k + 1) 13) [.d (sp p), .d (sp q)] h = .ok (.d (.bl (crs p q))) h := pure_ok rfl (s13 hp hq)
/-! ### the order -/
def rowD (x : (Int × Int) × Nat) : D := .tup [.int x.1.1, .int (-x.1.2), .int x.2]
def srt (l : List (Int × Int)) : List ((Int × Int) × Nat) := isort (fun x y => D.le (rowD x) (rowD y)) l.zipIdx
theorem sort_rows {L : List ((Int × Int) × Nat)} {h : Hh} (hl : L.length ≤ 1000) : biSort false [.d (.lst (L.map rowD))] h = .ok (.d (.lst ((isort (fun x y => D.le (rowD x) (rowD y)) L).map rowD))) h := by
  unfold biSort
  have e : (seqW (.d (.lst (L.map rowD))) h).bind allD = some (L.map rowD) := allD_map _
  dsimp only
  rw [e]
  have h1 : allAl (L.map rowD) = true := by simp [allAl, rowD, D.al, alL]
  have h2 : canSort (L.map rowD) = true := by
    unfold canSort
    rw [Bool.or_eq_true]
    left
    simp [rowD]
  have h3 : (L.map rowD).all (sh 63) = true := by simp [rowD, sh]
  dsimp only
  rw [h1, h2, h3, isort_map]
  exact fin_d (by rw [List.length_map, isort_len]; omega)
/-- _law_order -/
theorem s14 {k : Nat} {l : List (Int × Int)} {h : Hh} (hl : l.length ≤ 60) : run (k + 1) 14 [.d (sps l)] h = .ok (.d (.lst ((srt l).map fun x => .int (x.2 : Nat)))) h := by
  rw [run_14]
  have ix : ∀ (j : Nat) (hj : j < l.length) (h : Hh), opIx (.d (.tup (l.map sp))) (.d (.int (j : Nat))) h = .ok (.d (sp l[j])) h := fun j hj h => ix_t (by rw [List.getElem?_map, List.getElem?_eq_getElem hj]; rfl)
  have e1 : cLc false [3] (cR1 (aCons (cCl biLen (aCons (cv 0) aNil)) aNil)) (yN (tN 3)) bYes (cCl mkT (aCons (c2 opIx (c2 opIx (cv 0) (cv 3)) (cc (.int 0))) (aCons (c2 opSub (cc (.int 0)) (c2 opIx (c2 opIx (cv 0) (cv 3)) (cc (.int 1)))) (aCons (cv 3) aNil)))) [some (.d (sps l)), none, none, none] h = .ok (.d (.lst (l.zipIdx.map rowD))) h := by
    have hc : cR1 (aCons (cCl biLen (aCons (cv 0) aNil)) aNil) [some (.d (sps l)), none, none, none] h = .ok (fixS ((List.range l.length).map fun (i : Nat) => .w (.d (.int (i : Nat))))) h := by
      refine (r1_at (n := (l.length : Int)) (h' := h) ?_ (by omega)).trans (by rw [Int.toNat_natCast])
      simp [sps]
    rw [lc_m (List.range l.length) (fun i => .w (.d (.int (i : Nat)))) (fun i => rowD (l[i]?.getD (0, 0), i)) hc (by rw [List.length_range]; omega) fun i hi => ?_]
    · have er : (List.range l.length).map (fun i => rowD (l[i]?.getD (0, 0), i)) = l.zipIdx.map rowD := by
        apply List.ext_getElem
        · simp
        · intro i h1 h2
          simp at h1
          simp [List.getElem?_eq_getElem h1]
      rw [er]
    · have hi := List.mem_range.mp hi
      refine ⟨_, rfl, ?_⟩
      simp [ew, sps, ix i hi, rowD, sp, List.getElem?_eq_getElem hi]
      rfl
  have hl2 : (srt l).length ≤ 60 := by unfold srt; rw [isort_len, List.length_zipIdx]; omega
  have hs : cIt (cCl (biSort false) (aCons (cLc false [3] (cR1 (aCons (cCl biLen (aCons (cv 0) aNil)) aNil)) (yN (tN 3)) bYes (cCl mkT (aCons (c2 opIx (c2 opIx (cv 0) (cv 3)) (cc (.int 0))) (aCons (c2 opSub (cc (.int 0)) (c2 opIx (c2 opIx (cv 0) (cv 3)) (cc (.int 1)))) (aCons (cv 3) aNil))))) aNil)) [some (.d (sps l)), none, none, none] h = .ok (fixS ((srt l).map fun x => .w (.d (rowD x)))) h := by
    refine (it_lst (l := (srt l).map rowD) (h' := h) ?_).trans (by rw [List.map_map]; rfl)
    simp only [z_cl, z_aCons, z_aNil, e1, R.bind_ok]
    exact sort_rows (by rw [List.length_zipIdx]; omega)
  have e2 := lc_m (t := yT (tCns (tN 1) (tCns (tN 2) (tCns (tN 3) Fz.tNil)))) (vs := [1, 2, 3]) (c := cv 3) (srt l) _ (fun x => .int (x.2 : Nat)) hs (by omega) fun x hx => ⟨_, rfl, rfl⟩
  refine fn_rt rfl ?_
  unfold c_14
  rw [z_ret]
  exact congrArg (fun m => lift m [some (.d (sps l)), none, none, none] fun w h => SR.rt w h) e2
end K45
set_option Elab.async false
set_option linter.all false
set_option maxRecDepth 100000
set_option maxHeartbeats 1000000
namespace K45
open Fz
/-! ### the first pair that crosses, or the order -/
def at' (l : List (Int × Int)) (i : Nat) : Int × Int := l[i]?.getD (0, 0)
theorem ix_s {l : List (Int × Int)} {j : Nat} {h : Hh} (hj : j < l.length) : opIx (.d (sps l)) (.d (.int (j : Nat))) h = .ok (.d (sp (at' l j))) h :=
  ix_t (by rw [List.getElem?_map, List.getElem?_eq_getElem hj]; simp [at', List.getElem?_eq_getElem hj])
theorem at_ok {l : List (Int × Int)} {j : Nat} (hj : j < l.length) (hv : ∀ p ∈ l, okP' p) : okP' (at' l j) := by
  unfold at'
  rw [List.getElem?_eq_getElem hj]
  exact hv _ (List.getElem_mem hj)
def crossS : D := .str [99, 114, 111, 115, 115]
def stackS : D := .str [115, 116, 97, 99, 107]
def pairD (i j : Nat) : D := .tup [crossS, .int (i : Nat), .int (j : Nat)]
def first (l : List (Int × Int)) (j : Nat) : Option Nat := (List.range j).find? fun i => crs (at' l i) (at' l j)
def nums (l : List (Int × Int)) : D := .tup ((srt l).map fun x => .int (x.2 : Nat))
def jd (l : List (Int × Int)) : D := match (List.range l.length).findSome? fun j => (first l j).map fun i => W.d (pairD i j) with
  | some (.d x) => x
  | _ => .tup [stackS, nums l]
theorem jd_some {l : List (Int × Int)} {w : W} (h : (List.range l.length).findSome? (fun j => (first l j).map fun i => W.d (pairD i j)) = some w) : w = .d (jd l) := by
  unfold jd
  obtain ⟨j, _, hj⟩ := List.exists_of_findSome?_eq_some h
  rw [Option.map_eq_some_iff] at hj
  obtain ⟨i, _, rfl⟩ := hj
  rw [h]
theorem jd_none {l : List (Int × Int)} (h : (List.range l.length).findSome? (fun j => (first l j).map fun i => W.d (pairD i j)) = none) : jd l = .tup [stackS, nums l] := by
  unfold jd
  rw [h]
/-- the law's -/
theorem row15 {k : Nat} {l : List (Int × Int)} {j : Nat} {x1 x2 x3 : Option W} {h : Hh} (hj : j < l.length) (hl : l.length ≤ 60) (hv : ∀ p ∈ l, okP' p) :
    match (first l j).map fun i => W.d (pairD i j) with
    | some w => c_15_0 (run (k + 1)) [some (.d (sps l)), some (.d (.int (j : Nat))), x2, x3] h = .rt w h
    | none => ∃ y2, c_15_0 (run (k + 1)) [some (.d (sps l)), some (.d (.int (j : Nat))), x2, x3] h = .nx [some (.d (sps l)), some (.d (.int (j : Nat))), y2, x3] h := by
  have hc : cR1 (aCons (cv 1) aNil) [some (.d (sps l)), some (.d (.int (j : Nat))), x2, x3] h = .ok (fixS ((List.range j).map fun (i : Nat) => .w (.d (.int (i : Nat))))) h :=
    (r1_at (n := (j : Int)) (h' := h) rfl (by omega)).trans (by rw [Int.toNat_natCast])
  have e1 := lc_d (t := yN (tN 3)) (vs := [3]) (q := cT (cCall true 2 (run (k + 1) 13) (aCons (c2 opIx (cv 0) (cv 3)) (aCons (c2 opIx (cv 0) (cv 1)) aNil)))) (c := cv 3) (List.range j) _ (fun i => crs (at' l i) (at' l j)) (fun i => .int (i : Nat)) hc (by rw [List.length_range]; omega) fun i hi => by
    have hi := List.mem_range.mp hi
    refine ⟨_, rfl, ?_, fun _ => rfl⟩
    simp only [ew, List.set_cons_succ, List.set_cons_zero, z_cT, z_call, z_aCons, z_c2, z_cv0, z_cvS, R.bind_ok, z_aNil, ix_s (show i < l.length by omega), ix_s hj, List.length_cons, List.length_nil, if_true]
    rw [p13 (at_ok (by omega) hv) (at_ok hj hv)]
    rfl
  have hf : ((List.range j).filter fun i => crs (at' l i) (at' l j)).head? = first l j := List.head?_filter ..
  cases hq : first l j with
  | none =>
    rw [hq] at hf
    have : (List.range j).filter (fun i => crs (at' l i) (at' l j)) = [] := List.head?_eq_none_iff.mp hf
    rw [this] at e1
    exact ⟨_, by simp [c_15_0, e1]; rfl⟩
  | some i =>
    rw [hq] at hf
    obtain ⟨t, ht⟩ := List.head?_eq_some_iff.mp hf
    rw [ht] at e1
    simp [c_15_0, e1, mkT, pairD, crossS]
theorem s15 {k : Nat} {l : List (Int × Int)} {h : Hh} (hl : l.length ≤ 60) (hv : ∀ p ∈ l, okP' p) : run (k + 2) 15 [.d (sps l)] h = .ok (.d (jd l)) h := by
  have hc : cR1 (aCons (cCl biLen (aCons (cv 0) aNil)) aNil) [some (.d (sps l)), none, none, none] h = .ok (fixS ((List.range l.length).map fun (i : Nat) => .w (.d (.int (i : Nat))))) h := by
    refine (r1_at (n := (l.length : Int)) (h' := h) ?_ (by omega)).trans (by rw [Int.toNat_natCast])
    simp [sps]
  have key := forL_find (t := yN (tN 1)) (b := c_15_0 (run (k + 1))) (h := h) (fun i => .w (.d (.int (i : Nat)))) (fun j => (first l j).map fun i => W.d (pairD i j)) (fun e => ∃ x1 x2 x3, e = [some (.d (sps l)), x1, x2, x3]) (List.range l.length) _ ⟨none, none, none, rfl⟩ fun j hj e i => by
    obtain ⟨x1, x2, x3, rfl⟩ := i
    have hj := List.mem_range.mp hj
    have r := row15 (k := k) (j := j) (x2 := x2) (x3 := x3) (h := h) (x1 := none) hj hl hv
    refine ⟨_, rfl, ?_⟩
    cases hq : (first l j).map fun i => W.d (pairD i j) with
    | some w => rw [hq] at r; exact r
    | none =>
      rw [hq] at r
      obtain ⟨y2, r⟩ := r
      exact ⟨_, r, _, _, _, rfl⟩
  rw [run_15]
  have e14 : pure' (run (k + 1) 14) [.d (sps l)] h = .ok (.d (.lst ((srt l).map fun x => .int (x.2 : Nat)))) h := pure_ok rfl (s14 hl)
  have es := sFor_fix (t := yN (tN 1)) (b := c_15_0 (run (k + 1))) hc
  cases hq : (List.range l.length).findSome? fun j => (first l j).map fun i => W.d (pairD i j) with
  | some w =>
    rw [hq] at key
    rw [jd_some hq] at key
    refine fn_rt rfl ?_
    unfold c_15
    exact seq_rt (es.trans key)
  | none =>
    rw [hq] at key
    obtain ⟨e', key, x1, x2, x3, rfl⟩ := key
    rw [jd_none hq]
    refine fn_rt rfl ?_
    unfold c_15
    refine (seq_nx (es.trans key)).trans ?_
    have hl2 : (srt l).length ≤ 60 := by unfold srt; rw [isort_len, List.length_zipIdx]; omega
    simp [e14, tup_l (l := (srt l).map fun x => .int (x.2 : Nat)) (by simp; omega), mkT_2, stackS, nums]
/-- the program's -/
theorem row3 {k : Nat} {l : List (Int × Int)} {j : Nat} {x2 x3 x4 x5 x6 x7 : Option W} {h : Hh} (hj : j < l.length) (hl : l.length ≤ 60) :
    match (first l j).map fun i => W.d (pairD i j) with
    | some w => c_3_1 (run (k + 1)) [some (.d (sps l)), some (.d (.int (j : Nat))), x2, x3, x4, x5, x6, x7] h = .rt w h
    | none => ∃ y2, c_3_1 (run (k + 1)) [some (.d (sps l)), some (.d (.int (j : Nat))), x2, x3, x4, x5, x6, x7] h = .nx [some (.d (sps l)), some (.d (.int (j : Nat))), y2, x3, x4, x5, x6, x7] h := by
  have hc : cR1 (aCons (cv 1) aNil) [some (.d (sps l)), some (.d (.int (j : Nat))), x2, x3, x4, x5, x6, x7] h = .ok (fixS ((List.range j).map fun (i : Nat) => .w (.d (.int (i : Nat))))) h :=
    (r1_at (n := (j : Int)) (h' := h) rfl (by omega)).trans (by rw [Int.toNat_natCast])
  have key := forL_find (t := yN (tN 2)) (b := c_3_0 (run (k + 1))) (h := h) (fun i => .w (.d (.int (i : Nat)))) (fun i => if crs (at' l i) (at' l j) then some (W.d (pairD i j)) else none) (fun e => ∃ y2, e = [some (.d (sps l)), some (.d (.int (j : Nat))), y2, x3, x4, x5, x6, x7]) (List.range j) _ ⟨x2, rfl⟩ fun i hi e he => by
    obtain ⟨y2, rfl⟩ := he
    have hi := List.mem_range.mp hi
    refine ⟨_, rfl, ?_⟩
    have e1 : cCall true 2 (run (k + 1) 2) (aCons (c2 opIx (cv 0) (cv 2)) (aCons (c2 opIx (cv 0) (cv 1)) aNil)) [some (.d (sps l)), some (.d (.int (j : Nat))), some (.d (.int (i : Nat))), x3, x4, x5, x6, x7] h = .ok (.d (.bl (crs (at' l i) (at' l j)))) h := by
      simp only [z_call, z_aCons, z_c2, z_cv0, z_cvS, R.bind_ok, z_aNil, ix_s (show i < l.length by omega), ix_s hj, List.length_cons, List.length_nil, if_true]
      exact p2
    cases hq : crs (at' l i) (at' l j) with
    | true =>
      rw [hq] at e1
      simp only [if_true, List.set_cons_succ, List.set_cons_zero]
      simp only [c_3_0, z_if, z_cT, e1, R.bind_ok, z_truB, lift_ok, if_true]
      rfl
    | false =>
      rw [hq] at e1
      refine ⟨_, ?_, some (.d (.int (i : Nat))), rfl⟩
      simp only [List.set_cons_succ, List.set_cons_zero]
      simp only [c_3_0, z_if, z_cT, e1, R.bind_ok, z_truB, lift_ok, Bool.false_eq_true, if_false, z_nx]
  have hf : (List.range j).findSome? (fun i => if crs (at' l i) (at' l j) then some (W.d (pairD i j)) else none) = (first l j).map fun i => W.d (pairD i j) := by
    unfold first
    generalize List.range j = L
    induction L with
    | nil => rfl
    | cons i L ih =>
      rw [List.findSome?_cons, List.find?_cons]
      cases crs (at' l i) (at' l j) with
      | true => rfl
      | false => exact ih
  rw [hf] at key
  have es := sFor_fix (t := yN (tN 2)) (b := c_3_0 (run (k + 1))) hc
  cases hq : (first l j).map fun i => W.d (pairD i j) with
  | some w =>
    rw [hq] at key
    exact es.trans key
  | none =>
    rw [hq] at key
    obtain ⟨e', key, y2, rfl⟩ := key
    exact ⟨y2, es.trans key⟩
theorem enY_zip {l : List (Int × Int)} : ∀ k : Nat, enY k ((l.map sp).map .d) = (l.zipIdx k).map fun x => .t [.d (.int (x.2 : Nat)), .d (sp x.1)] := by
  induction l with
  | nil => intro k; rfl
  | cons p l ih =>
    intro k
    rw [List.zipIdx_cons, List.map_cons, List.map_cons, List.map_cons, enY, ih]
theorem tail3 {l : List (Int × Int)} {x1 x2 x3 x4 x5 x6 x7 : Option W} {h : Hh} (hl : l.length ≤ 60) :
    sSeq (sAsg (cCl (biSort false) (aCons (cLc false [4, 5] (cEn (cv 0)) (yT (tCns (tN 4) (tCns (tN 5) Fz.tNil))) bYes (cCl mkT (aCons (c2 opIx (cv 5) (cc (.int 0))) (aCons (c1 opNeg (c2 opIx (cv 5) (cc (.int 1)))) (aCons (cv 4) aNil))))) aNil)) (tN 3))
    (sRet (cCl mkT (aCons (cc (.str [115, 116, 97, 99, 107])) (aCons (cCl biTuple (aCons (cLc false [6, 7, 4] (cIt (cv 3)) (yT (tCns (tN 6) (tCns (tN 7) (tCns (tN 4) Fz.tNil)))) bYes (cv 4)) aNil)) aNil))))
    [some (.d (sps l)), x1, x2, x3, x4, x5, x6, x7] h = .rt (.d (.tup [stackS, nums l])) h := by
  have hl2 : (srt l).length ≤ 60 := by unfold srt; rw [isort_len, List.length_zipIdx]; omega
  have hc : cEn (cv 0) [some (.d (sps l)), x1, x2, x3, x4, x5, x6, x7] h = .ok (fixS (l.zipIdx.map fun x => .t [.d (.int (x.2 : Nat)), .d (sp x.1)])) h :=
    (en_tup (l := l.map sp) rfl).trans (by rw [enY_zip])
  have e1 := lc_m (t := yT (tCns (tN 4) (tCns (tN 5) Fz.tNil))) (vs := [4, 5]) (c := cCl mkT (aCons (c2 opIx (cv 5) (cc (.int 0))) (aCons (c1 opNeg (c2 opIx (cv 5) (cc (.int 1)))) (aCons (cv 4) aNil)))) l.zipIdx _ rowD hc (by rw [List.length_zipIdx]; omega) fun x hx => ⟨_, rfl, by simp [ew, sp, mkT_3, rowD]⟩
  have e2 : cCl (biSort false) (aCons (cLc false [4, 5] (cEn (cv 0)) (yT (tCns (tN 4) (tCns (tN 5) Fz.tNil))) bYes (cCl mkT (aCons (c2 opIx (cv 5) (cc (.int 0))) (aCons (c1 opNeg (c2 opIx (cv 5) (cc (.int 1)))) (aCons (cv 4) aNil))))) aNil) [some (.d (sps l)), x1, x2, x3, x4, x5, x6, x7] h = .ok (.d (.lst ((srt l).map rowD))) h := by
    simp only [z_cl, z_aCons, z_aNil, e1, R.bind_ok]
    exact sort_rows (by rw [List.length_zipIdx]; omega)
  have e3 : sAsg (cCl (biSort false) (aCons (cLc false [4, 5] (cEn (cv 0)) (yT (tCns (tN 4) (tCns (tN 5) Fz.tNil))) bYes (cCl mkT (aCons (c2 opIx (cv 5) (cc (.int 0))) (aCons (c1 opNeg (c2 opIx (cv 5) (cc (.int 1)))) (aCons (cv 4) aNil))))) aNil)) (tN 3) [some (.d (sps l)), x1, x2, x3, x4, x5, x6, x7] h = .nx [some (.d (sps l)), x1, x2, some (.d (.lst ((srt l).map rowD))), x4, x5, x6, x7] h := by
    rw [z_asg, e2]
    rfl
  refine (seq_nx e3).trans ?_
  have hs : cIt (cv 3) [some (.d (sps l)), x1, x2, some (.d (.lst ((srt l).map rowD))), x4, x5, x6, x7] h = .ok (fixS ((srt l).map fun x => .w (.d (rowD x)))) h :=
    (it_lst (l := (srt l).map rowD) (h' := h) rfl).trans (by rw [List.map_map]; rfl)
  have e4 := lc_m (t := yT (tCns (tN 6) (tCns (tN 7) (tCns (tN 4) Fz.tNil)))) (vs := [6, 7, 4]) (c := cv 4) (srt l) _ (fun x => .int (x.2 : Nat)) hs (by omega) fun x hx => ⟨_, rfl, rfl⟩
  simp [e4, tup_l (l := (srt l).map fun x => .int (x.2 : Nat)) (by simp; omega), mkT_2, stackS, nums]
theorem s3 {k : Nat} {l : List (Int × Int)} {h : Hh} (hl : l.length ≤ 60) (hv : ∀ p ∈ l, okP' p) : run (k + 3) 3 [.d (sps l)] h = .ok (.d (jd l)) h := by
  have hc : cR1 (aCons (cCl biLen (aCons (cv 0) aNil)) aNil) [some (.d (sps l)), none, none, none, none, none, none, none] h = .ok (fixS ((List.range l.length).map fun (i : Nat) => .w (.d (.int (i : Nat))))) h := by
    refine (r1_at (n := (l.length : Int)) (h' := h) ?_ (by omega)).trans (by rw [Int.toNat_natCast])
    simp [sps]
  have key := forL_find (t := yN (tN 1)) (b := c_3_1 (run (k + 2))) (h := h) (fun i => .w (.d (.int (i : Nat)))) (fun j => (first l j).map fun i => W.d (pairD i j)) (fun e => ∃ x1 x2, e = [some (.d (sps l)), x1, x2, none, none, none, none, none]) (List.range l.length) _ ⟨none, none, rfl⟩ fun j hj e i => by
    obtain ⟨x1, x2, rfl⟩ := i
    have hj := List.mem_range.mp hj
    have r := row3 (k := k + 1) (j := j) (x2 := x2) (x3 := none) (x4 := none) (x5 := none) (x6 := none) (x7 := none) (h := h) hj hl
    refine ⟨_, rfl, ?_⟩
    cases hq : (first l j).map fun i => W.d (pairD i j) with
    | some w => rw [hq] at r; exact r
    | none =>
      rw [hq] at r
      obtain ⟨y2, r⟩ := r
      exact ⟨_, r, _, _, rfl⟩
  rw [run_3]
  have es := sFor_fix (t := yN (tN 1)) (b := c_3_1 (run (k + 2))) hc
  have e1 : sExpr (cCall true 1 (run (k + 2) 1) (aCons (cv 0) aNil)) [some (.d (sps l)), none, none, none, none, none, none, none] h = .nx [some (.d (sps l)), none, none, none, none, none, none, none] h := by
    simp [p1, sps_valid hl hv]
  refine (?_ : mkFn 1 8 (c_3 (run (k + 2))) [.d (sps l)] h = _)
  cases hq : (List.range l.length).findSome? fun j => (first l j).map fun i => W.d (pairD i j) with
  | some w =>
    rw [hq] at key
    rw [jd_some hq] at key
    refine fn_rt rfl ?_
    unfold c_3
    refine (seq_nx e1).trans ?_
    exact seq_rt (es.trans key)
  | none =>
    rw [hq] at key
    obtain ⟨e', key, x1, x2, rfl⟩ := key
    rw [jd_none hq]
    refine fn_rt rfl ?_
    unfold c_3
    refine (seq_nx e1).trans ?_
    refine (seq_nx (es.trans key)).trans ?_
    exact tail3 hl
end K45
set_option Elab.async false
set_option linter.all false
set_option maxRecDepth 100000
set_option maxHeartbeats 1000000
namespace K45
open Fz
/-! ### the deepest place -/
def cnt (l : List (Int × Int)) (m : Int) : Nat := (l.filter fun p => decide (p.1 ≤ m) && decide (m < p.2)).length
structure Bst where
  n : Nat
  m : Option Int
def Bst.d (b : Bst) : D := .tup [.int (b.n : Nat), match b.m with
  | some m => .int m
  | none => .non]
def stepB (l : List (Int × Int)) (b : Bst) (m : Int) : Bst := if cnt l m > b.n then ⟨cnt l m, some m⟩ else b
/-- what it is: the most, and the first moment that has it -/
def IsB (l : List (Int × Int)) (L : List Int) (b : Bst) : Prop := (∀ x ∈ L, cnt l x ≤ b.n) ∧ match b.m with
  | none => b.n = 0
  | some m => 0 < b.n ∧ m ∈ L ∧ cnt l m = b.n ∧ ∀ x ∈ L, cnt l x = b.n → m ≤ x
theorem isB_eq {l : List (Int × Int)} {L M : List Int} {a b : Bst} (h : ∀ x, x ∈ L ↔ x ∈ M) (ha : IsB l L a) (hb : IsB l M b) : a = b := by
  obtain ⟨an, am⟩ := a
  obtain ⟨bn, bm⟩ := b
  obtain ⟨a1, a2⟩ := ha
  obtain ⟨b1, b2⟩ := hb
  cases am with
  | none =>
    cases bm with
    | none => dsimp only at a2 b2; rw [a2, b2]
    | some m =>
      dsimp only at a1 a2 b1 b2
      have := a1 m ((h m).mpr b2.2.1)
      omega
  | some m =>
    cases bm with
    | none =>
      dsimp only at a1 a2 b1 b2
      have := b1 m ((h m).mp a2.2.1)
      omega
    | some q =>
      dsimp only at a1 a2 b1 b2
      have h1 := a1 q ((h q).mpr b2.2.1)
      have h2 := b1 m ((h m).mp a2.2.1)
      have hn : an = bn := by omega
      subst hn
      have h3 := a2.2.2.2 q ((h q).mpr b2.2.1) b2.2.2.1
      have h4 := b2.2.2.2 m ((h m).mp a2.2.1) a2.2.2.1
      have : m = q := by omega
      rw [this]
theorem isB_fold {l : List (Int × Int)} : ∀ (L P : List Int) (b : Bst), IsB l P b → (∀ x ∈ P, ∀ y ∈ L, x ≤ y) → L.Pairwise (· ≤ ·) → IsB l (P ++ L) (L.foldl (stepB l) b)
  | [], P, b, hb, _, _ => by simpa using hb
  | y :: L, P, b, hb, hp, pw => by
    obtain ⟨p1, p2⟩ := List.pairwise_cons.mp pw
    have step : IsB l (P ++ [y]) (stepB l b y) := by
      obtain ⟨h1, h2⟩ := hb
      unfold stepB
      split
      · rename_i hg
        refine ⟨fun x hx => ?_, ?_⟩
        · rcases List.mem_append.mp hx with hx | hx
          · have := h1 x hx; dsimp only; omega
          · rw [List.mem_singleton.mp hx]; exact Nat.le_refl _
        · dsimp only
          refine ⟨by omega, by simp, rfl, fun x hx he => ?_⟩
          rcases List.mem_append.mp hx with hx | hx
          · have := h1 x hx; omega
          · rw [List.mem_singleton.mp hx]; exact Int.le_refl _
      · rename_i hg
        refine ⟨fun x hx => ?_, ?_⟩
        · rcases List.mem_append.mp hx with hx | hx
          · exact h1 x hx
          · rw [List.mem_singleton.mp hx]; omega
        · cases hm : b.m with
          | none => rw [hm] at h2; exact h2
          | some m =>
            rw [hm] at h2
            dsimp only at h2 ⊢
            refine ⟨h2.1, by simp [h2.2.1], h2.2.2.1, fun x hx he => ?_⟩
            rcases List.mem_append.mp hx with hx | hx
            · exact h2.2.2.2 x hx he
            · rw [List.mem_singleton.mp hx]
              exact hp m h2.2.1 y (by simp)
    have := isB_fold L (P ++ [y]) (stepB l b y) step (fun x hx z hz => ?_) p2
    · rw [List.append_assoc] at this
      exact this
    · rcases List.mem_append.mp hx with hx | hx
      · exact hp x hx z (by simp [hz])
      · rw [List.mem_singleton.mp hx]; exact p1 z hz
def begins (l : List (Int × Int)) : List Int := isort leI (l.map (·.1))
def bestN (l : List (Int × Int)) : Bst := (begins l).foldl (stepB l) ⟨0, none⟩
theorem isB_nil {l : List (Int × Int)} : IsB l [] ⟨0, none⟩ := ⟨by simp, rfl⟩
theorem bestN_is {l : List (Int × Int)} {L : List Int} (h : ∀ x, x ∈ L ↔ x ∈ l.map (·.1)) (pw : L.Pairwise (· ≤ ·)) : L.foldl (stepB l) ⟨0, none⟩ = bestN l := by
  have a := isB_fold (l := l) L [] _ isB_nil (by simp) pw
  have b := isB_fold (l := l) (begins l) [] _ isB_nil (by simp) (isortI_pw _)
  rw [List.nil_append] at a b
  exact isB_eq (fun x => by rw [h x]; unfold begins; rw [isort_mem]) a b
/-- how many at a moment -/
theorem cnt_at {l : List (Int × Int)} {e : Ev} {h : Hh} {i mi : Nat} {m : Int} {vs : List Nat} (h0 : e[0]? = some (some (.d (sps l)))) (hm : e[mi]? = some (some (.d (.int m)))) (hv : vs = [i]) (hi : i < e.length) (hne : mi ≠ i) (hl : l.length ≤ 60) :
    cCl biLen (aCons (cLc false vs (cIt (cv 0)) (yN (tN i)) (bCh opLe opLt (c2 opIx (cv i) (cc (.int 0))) (cv mi) (c2 opIx (cv i) (cc (.int 1)))) (cv i)) aNil) e h = .ok (.d (.int (cnt l m : Nat))) h := by
  subst hv
  have hc : cIt (cv 0) e h = .ok (fixS (l.map fun p => .w (.d (sp p)))) h := (it_tup (l := l.map sp) (h' := h) (z_cv h0)).trans (by rw [List.map_map]; rfl)
  have e1 := lc_d (t := yN (tN i)) (vs := [i]) (q := bCh opLe opLt (c2 opIx (cv i) (cc (.int 0))) (cv mi) (c2 opIx (cv i) (cc (.int 1)))) (c := cv i) l _ (fun p => decide (p.1 ≤ m) && decide (m < p.2)) sp hc (by omega) fun p hp => by
    have a1 : ((ew e [i]).set i (some (.d (sp p))))[i]? = some (some (.d (sp p))) := by rw [List.getElem?_set_self]; simp [ew]; exact hi
    have a2 : ((ew e [i]).set i (some (.d (sp p))))[mi]? = some (some (.d (.int m))) := by
      rw [List.getElem?_set_ne hne.symm]
      simp only [ew]
      rw [List.getElem?_set_ne hne.symm]
      exact hm
    refine ⟨_, rfl, ?_, fun _ => z_cv a1⟩
    have := ch3 (e := (ew e [i]).set i (some (.d (sp p)))) (h := h) (a := c2 opIx (cv i) (cc (.int 0))) (b := cv mi) (c := c2 opIx (cv i) (cc (.int 1))) (p := fun x y => decide (x ≤ y)) (q := fun x y => decide (x < y)) (x := p.1) (y := m) (z := p.2) (by rw [z_c2, z_cv a1]; simp [sp]) (z_cv a2) (by rw [z_c2, z_cv a1]; simp [sp])
    rw [z_bCh]
    exact congrArg asB this
  simp [e1, cnt]
theorem bst_lt {l : List (Int × Int)} {b : Bst} {m : Int} : (stepB l b m).d = if ((cnt l m : Nat) : Int) > ((b.n : Nat) : Int) then .tup [.int (cnt l m : Nat), .int m] else b.d := by
  unfold stepB
  by_cases h : cnt l m > b.n
  · rw [if_pos h, if_pos (by omega)]; rfl
  · rw [if_neg h, if_neg (by omega)]
theorem s4 {k : Nat} {l : List (Int × Int)} {h : Hh} (hl : l.length ≤ 60) (hv : ∀ p ∈ l, okP' p) : run (k + 3) 4 [.d (sps l)] h = .ok (.d (bestN l).d) h := by
  rw [run_4]
  have e1 : sExpr (cCall true 1 (run (k + 2) 1) (aCons (cv 0) aNil)) [some (.d (sps l)), none, none, none, none] h = .nx [some (.d (sps l)), none, none, none, none] h := by
    simp [p1, sps_valid hl hv]
  refine fn_rt rfl ?_
  unfold c_4
  refine (seq_nx e1).trans ?_
  have e2 : sAsg (cCl mkT (aCons (cc (.int 0)) (aCons (cc .non) aNil))) (tN 1) [some (.d (sps l)), none, none, none, none] h = .nx [some (.d (sps l)), some (.d (Bst.mk 0 none).d), none, none, none] h := by simp [mkT_2, Bst.d]
  refine (seq_nx e2).trans ?_
  have hc : cIt (cv 0) [some (.d (sps l)), some (.d (Bst.mk 0 none).d), none, none, none] h = .ok (fixS (l.map fun p => .w (.d (sp p)))) h := (it_tup (l := l.map sp) (h' := h) rfl).trans (by rw [List.map_map]; rfl)
  have e3 := lc_m (t := yN (tN 3)) (vs := [3]) (c := c2 opIx (cv 3) (cc (.int 0))) l _ (fun p => D.int p.1) hc (by omega) fun p hp => ⟨_, rfl, by simp [ew, sp]⟩
  have e4 : cIt (cCl (biSort false) (aCons (cLc false [3] (cIt (cv 0)) (yN (tN 3)) bYes (c2 opIx (cv 3) (cc (.int 0)))) aNil)) [some (.d (sps l)), some (.d (Bst.mk 0 none).d), none, none, none] h = .ok (fixS ((begins l).map fun m => .w (.d (.int m)))) h := by
    refine (it_lst (l := (begins l).map .int) (h' := h) ?_).trans (by rw [List.map_map]; rfl)
    have : l.map (fun p => D.int p.1) = (l.map (·.1)).map .int := by rw [List.map_map]; rfl
    rw [this] at e3
    simp only [z_cl, z_aCons, z_aNil, e3, R.bind_ok]
    exact sort_ints (by rw [List.length_map]; omega)
  obtain ⟨e', q1, x2, x3, x4, rfl⟩ := forL_fold (t := yN (tN 2)) (b := c_4_0 (run (k + 2))) (h := h) (fun m => .w (.d (.int m))) (stepB l) (fun b e => ∃ x2 x3 x4, e = [some (.d (sps l)), some (.d b.d), x2, x3, x4]) (begins l) ⟨0, none⟩ _ ⟨none, none, none, rfl⟩ fun m hm b e he => by
    obtain ⟨x2, x3, x4, rfl⟩ := he
    have ec := cnt_at (l := l) (e := [some (.d (sps l)), some (.d b.d), some (.d (.int m)), x3, x4]) (h := h) (i := 3) (mi := 2) (m := m) (vs := [3]) rfl rfl rfl (by simp) (by omega) hl
    refine ⟨_, _, rfl, ?_, some (.d (.int m)), x3, some (.d (.int (cnt l m : Nat))), rfl⟩
    have eb : c2 opIx (cv 1) (cc (.int 0)) [some (.d (sps l)), some (.d b.d), some (.d (.int m)), x3, some (.d (.int (cnt l m : Nat)))] h = .ok (.d (.int (b.n : Nat))) h := by simp [Bst.d]
    simp only [List.set_cons_succ, List.set_cons_zero, c_4_0, z_seq, z_asg, ec, lift_ok, z_tN, SR.bind_nx, z_if, z_bC]
    rw [z_c2, z_cvS, z_cvS, z_cvS, z_cvS, z_cv0, R.bind_ok, eb, R.bind_ok]
    rw [bst_lt]
    simp only [opGt, z_opC, z_asB, lift_ok, decide_eq_true_eq, gt_iff_lt]
    split
    · simp [mkT_2]
    · simp
  have es := sFor_fix (t := yN (tN 2)) (b := c_4_0 (run (k + 2))) e4
  refine (seq_nx (es.trans q1)).trans ?_
  rw [z_ret, z_cvS, z_cv0, lift_ok]
  rfl
theorem s16 {k : Nat} {l : List (Int × Int)} {h : Hh} (hl : l.length ≤ 60) : ∃ h', run (k + 1) 16 [.d (sps l)] h = .ok (.d (bestN l).d) h' := by
  rw [run_16]
  have e2 : sAsg (cCl mkT (aCons (cc (.int 0)) (aCons (cc .non) aNil))) (tN 1) [some (.d (sps l)), none, none, none, none, none, none] h = .nx [some (.d (sps l)), some (.d (Bst.mk 0 none).d), none, none, none, none, none] h := by simp [mkT_2, Bst.d]
  have hc : cIt (cv 0) [some (.d (sps l)), some (.d (Bst.mk 0 none).d), none, none, none, none, none] h = .ok (fixS (l.map fun p => .w (.d (sp p)))) h := (it_tup (l := l.map sp) (h' := h) rfl).trans (by rw [List.map_map]; rfl)
  have e3 := lc_m (t := yT (tCns (tN 3) (tCns (tN 4) Fz.tNil))) (vs := [3, 4]) (c := cCl mkT (aCons (cv 3) (aCons (cc (.bl true)) aNil))) l _ (fun p => D.tup [D.int p.1, .bl true]) hc (by omega) fun p hp => ⟨_, rfl, by simp [ew, sp, mkT_2]⟩
  have em : l.map (fun p => D.tup [D.int p.1, .bl true]) = (l.map fun p => (p.1, D.bl true)).map fun p => .tup [.int p.1, p.2] := by rw [List.map_map]; rfl
  let M := mkI ((l.map fun p => (p.1, D.bl true)).map fun p => (p.1, W.d p.2))
  let H := h ++ [O.dk (dkI M)]
  have hM : M.length ≤ 60 := by
    have := mkI_len (ps := (l.map fun p => (p.1, D.bl true)).map fun p => (p.1, W.d p.2))
    rw [List.length_map, List.length_map] at this
    exact Nat.le_trans this hl
  have e4 : cIt (cCl (biSortK false) (aCons (cCl biDict (aCons (cLc false [3, 4] (cIt (cv 0)) (yT (tCns (tN 3) (tCns (tN 4) Fz.tNil))) bYes (cCl mkT (aCons (cv 3) (aCons (cc (.bl true)) aNil)))) aNil)) aNil)) [some (.d (sps l)), some (.d (Bst.mk 0 none).d), none, none, none, none, none] h = .ok (fixS ((isort leI (M.map (·.1))).map fun m => .w (.d (.int m)))) H := by
    refine (it_lst (l := (isort leI (M.map (·.1))).map .int) (h' := H) ?_).trans (by rw [List.map_map]; rfl)
    rw [em] at e3
    simp only [z_cl, z_aCons, z_aNil, e3, R.bind_ok]
    rw [dict_int (by rw [List.length_map]; omega)]
    simp only [R.bind_ok]
    exact sortK_int (by simp [M]) (by omega)
  obtain ⟨e', q1, x2, x3, x4, x5, x6, rfl⟩ := forL_fold (t := yN (tN 2)) (b := c_16_0 (run k)) (h := H) (fun m => .w (.d (.int m))) (stepB l) (fun b e => ∃ x2 x3 x4 x5 x6, e = [some (.d (sps l)), some (.d b.d), x2, x3, x4, x5, x6]) (isort leI (M.map (·.1))) ⟨0, none⟩ [some (.d (sps l)), some (.d (Bst.mk 0 none).d), none, none, none, none, none] ⟨none, none, none, none, none, rfl⟩ fun m hm b e he => by
    obtain ⟨x2, x3, x4, x5, x6, rfl⟩ := he
    have ec := cnt_at (l := l) (e := [some (.d (sps l)), some (.d b.d), some (.d (.int m)), x3, x4, x5, x6]) (h := H) (i := 6) (mi := 2) (m := m) (vs := [6]) rfl rfl rfl (by simp) (by omega) hl
    refine ⟨_, _, rfl, ?_, some (.d (.int m)), x3, x4, some (.d (.int (cnt l m : Nat))), x6, rfl⟩
    have eb : c2 opIx (cv 1) (cc (.int 0)) [some (.d (sps l)), some (.d b.d), some (.d (.int m)), x3, x4, some (.d (.int (cnt l m : Nat))), x6] H = .ok (.d (.int (b.n : Nat))) H := by simp [Bst.d]
    simp only [List.set_cons_succ, List.set_cons_zero, c_16_0, z_seq, z_asg, ec, lift_ok, z_tN, SR.bind_nx, z_cIf, z_bC]
    rw [z_c2, z_cvS, z_cvS, z_cvS, z_cvS, z_cvS, z_cv0, R.bind_ok, eb, R.bind_ok]
    rw [bst_lt]
    simp only [opGt, z_opC, z_asB, R.bind_ok, decide_eq_true_eq, gt_iff_lt]
    split
    · simp [mkT_2]
    · simp
  have es := sFor_fix (t := yN (tN 2)) (b := c_16_0 (run k)) e4
  refine ⟨H, fn_rt rfl ?_⟩
  unfold c_16
  refine (seq_nx e2).trans ?_
  refine (seq_nx (es.trans q1)).trans ?_
  rw [z_ret, z_cvS, z_cv0, lift_ok]
  rw [bestN_is (l := l) (fun x => by
    rw [isort_mem]
    show x ∈ (mkI _).map (·.1) ↔ _
    rw [mkI_keys, List.map_map, List.map_map]
    rfl) (isortI_pw _)]
end K45
set_option Elab.async false
set_option linter.all false
set_option maxRecDepth 100000
set_option maxHeartbeats 1000000
namespace K45
open Fz
/-! ### stacks -/
abbrev Sk' := List (Nat × Nat)
def val (s : Sk') (i : Nat) : Nat := (s.lookup i).getD 0
def taken (l : List (Int × Int)) (s : Sk') (n : Nat) : List Int := (s.filter fun p => crs (at' l p.1) (at' l n)).map fun p => ((p.2 : Nat) : Int)
def stepS (l : List (Int × Int)) (s : Sk') (n : Nat) : Sk' := s ++ [(n, mex (taken l s n))]
def ord (l : List (Int × Int)) : List Nat := (srt l).map (·.2)
def stk (l : List (Int × Int)) : Sk' := (ord l).foldl (stepS l) []
def stkD (l : List (Int × Int)) : D := .tup ((List.range l.length).map fun i => .int (val (stk l) i : Nat))
theorem taken_len {l : List (Int × Int)} {s : Sk'} {n : Nat} : (taken l s n).length ≤ s.length := by
  unfold taken
  rw [List.length_map]
  exact List.length_filter_le _ _
theorem zip_snd : ∀ (l : List (Int × Int)) (k : Nat), (l.zipIdx k).map (·.2) = List.range' k l.length
  | [], _ => rfl
  | p :: l, k => by
    rw [List.zipIdx_cons, List.map_cons, zip_snd l (k + 1)]
    rfl
theorem ord_perm (l : List (Int × Int)) : (ord l).Perm (List.range l.length) := by
  have := (isort_perm (le := fun x y => D.le (rowD x) (rowD y)) l.zipIdx).map (·.2)
  rw [zip_snd, ← List.range_eq_range'] at this
  exact this
theorem ord_nodup (l : List (Int × Int)) : (ord l).Nodup := (ord_perm l).nodup_iff.mpr List.nodup_range
theorem ord_lt {l : List (Int × Int)} {n : Nat} (h : n ∈ ord l) : n < l.length := List.mem_range.mp ((ord_perm l).mem_iff.mp h)
theorem srt_len (l : List (Int × Int)) : (srt l).length = l.length := by unfold srt; rw [isort_len, List.length_zipIdx]
theorem val_app {s : Sk'} {n o i : Nat} (hn : n ∉ s.map (·.1)) : val (s ++ [(n, o)]) i = if i = n then o else val s i := by
  unfold val
  rw [List.lookup_append]
  by_cases h : i = n
  · subst h
    have : s.lookup i = none := by
      rw [List.lookup_eq_none_iff]
      intro p hp
      simp
      exact fun q => hn (List.mem_map.mpr ⟨p, hp, q.symm⟩)
    rw [this]
    simp
  · rw [if_neg h]
    have : ([(n, o)] : Sk').lookup i = none := by simp [List.lookup_cons, beq_eq_false_iff_ne.mpr h]
    rw [this]
    simp
theorem val_mem {s : Sk'} (hs : (s.map (·.1)).Nodup) {p : Nat × Nat} (hp : p ∈ s) : val s p.1 = p.2 := by
  unfold val
  induction s with
  | nil => simp at hp
  | cons q s ih =>
    rw [List.map_cons, List.nodup_cons] at hs
    rw [List.lookup_cons]
    rcases List.mem_cons.mp hp with rfl | hp
    · simp
    · have : p.1 ≠ q.1 := fun e => hs.1 (e ▸ List.mem_map.mpr ⟨p, hp, rfl⟩)
      rw [beq_eq_false_iff_ne.mpr this]
      exact ih hs.2 hp
/-- the rows that the loop has done: no number twice, all there -/
structure Inv' (l : List (Int × Int)) (s : Sk') : Prop where
  nd : (s.map (·.1)).Nodup
  lt : ∀ p ∈ s, p.1 < l.length
  mx : ∀ p ∈ s, p.2 ≤ l.length
theorem Inv'.len {l : List (Int × Int)} {s : Sk'} (h : Inv' l s) : s.length ≤ l.length := by
  have := nodup_len (l := s.map (·.1)) (u := List.range l.length) h.nd fun x hx => by
    obtain ⟨p, hp, rfl⟩ := List.mem_map.mp hx
    exact List.mem_range.mpr (h.lt p hp)
  simpa using this
theorem mex_le {l : List (Int × Int)} {s : Sk'} {n : Nat} (h : Inv' l s) : mex (taken l s n) ≤ l.length := by
  have h1 := (mex_is (taken l s n)).le
  have h2 := taken_len (l := l) (s := s) (n := n)
  have h3 := h.len
  omega
theorem Inv'.step {l : List (Int × Int)} {s : Sk'} {n : Nat} (h : Inv' l s) (hn : n ∉ s.map (·.1)) (hl : n < l.length) : Inv' l (stepS l s n) := by
  unfold stepS
  refine ⟨?_, fun p hp => ?_, fun p hp => ?_⟩
  · rw [List.map_append, List.map_cons, List.map_nil]
    refine List.nodup_append.mpr ⟨h.nd, by simp, fun a ha b hb => ?_⟩
    rw [List.mem_singleton.mp hb]
    exact fun e => hn (by have e : a = n := e; rw [← e]; exact ha)
  · rcases List.mem_append.mp hp with hp | hp
    · exact h.lt p hp
    · rw [List.mem_singleton.mp hp]; exact hl
  · rcases List.mem_append.mp hp with hp | hp
    · exact h.mx p hp
    · rw [List.mem_singleton.mp hp]; exact mex_le h
/-! the program's -/
def foundO (l : List (Int × Int)) (s : Sk') : O := .lst ((List.range l.length).map fun i => .d (.int (val s i : Nat)))
def doneO (s : Sk') : O := .lst (s.map fun p => .d (.int (p.1 : Nat)))
theorem row5 {k n : Nat} {o0 : O} {l : List (Int × Int)} {s : Sk'} {x3 x4 x6 x7 x8 x9 : Option W} (hl : l.length ≤ 60) (hi : Inv' l s) (hn : n ∉ s.map (·.1)) (hn' : n < l.length) :
    ∃ y7 y8 y9, c_5_1 (run (k + 1)) [some (.d (sps l)), some (.r 1), some (.r 2), x3, x4, some (.d (.int (n : Nat))), x6, x7, x8, x9] [o0, foundO l s, doneO s] =
      .nx [some (.d (sps l)), some (.r 1), some (.r 2), x3, x4, some (.d (.int (n : Nat))), x6, y7, y8, y9] [o0, foundO l (stepS l s n), doneO (stepS l s n)] := by
  have hsl := hi.len
  obtain ⟨hc1, hc2⟩ := it_r (n := 2) (c := cv 2) (e := [some (.d (sps l)), some (.r 1), some (.r 2), x3, x4, some (.d (.int (n : Nat))), x6, x7, x8, x9]) (h := [o0, foundO l s, doneO s]) (l := s.map fun p => .d (.int (p.1 : Nat))) rfl rfl
  rw [List.map_map] at hc2
  have e1 := lc_src (mt := false) (t := yN (tN 8)) (vs := [8]) (q := cT (cCall true 2 (run (k + 1) 2) (aCons (c2 opIx (cv 0) (cv 8)) (aCons (c2 opIx (cv 0) (cv 5)) aNil)))) (c := c2 opIx (cv 1) (cv 8)) s (fun p => .w (.d (.int (p.1 : Nat)))) (fun p => crs (at' l p.1) (at' l n)) (fun p => .d (.int (p.2 : Nat))) hc1 hc2 (by omega) fun p hp => by
    have hp1 := hi.lt p hp
    refine ⟨_, rfl, ?_, fun _ => ?_⟩
    · simp only [ew, List.set_cons_succ, List.set_cons_zero, z_cT, z_call, z_aCons, z_c2, z_cv0, z_cvS, R.bind_ok, z_aNil, ix_s hp1, ix_s hn', List.length_cons, List.length_nil, if_true]
      rw [p2]
      rfl
    · have : opIx (.r 1) (.d (.int (p.1 : Nat))) [o0, foundO l s, doneO s] = .ok (.d (.int (p.2 : Nat))) [o0, foundO l s, doneO s] := ix_r (l := (List.range l.length).map fun i => .d (.int (val s i : Nat))) rfl (by
        rw [List.getElem?_map, List.getElem?_range hp1, Option.map_some, val_mem hi.nd hp])
      simp only [ew, List.set_cons_succ, List.set_cons_zero, z_c2, z_cv0, z_cvS, R.bind_ok, this]
  have ef : ((s.filter fun p => crs (at' l p.1) (at' l n)).map fun p => W.d (.int (p.2 : Nat))) = ((taken l s n).map D.int).map .d := by
    unfold taken
    rw [List.map_map, List.map_map]
    rfl
  rw [ef, fin_d (by rw [List.length_map]; have := taken_len (l := l) (s := s) (n := n); omega)] at e1
  refine ⟨some (.d (.lst ((taken l s n).map .int))), x8, some (.d (.int (mex (taken l s n) : Nat))), ?_⟩
  unfold c_5_1
  refine (seq_nx (e' := [some (.d (sps l)), some (.r 1), some (.r 2), x3, x4, some (.d (.int (n : Nat))), x6, some (.d (.lst ((taken l s n).map .int))), x8, x9]) (h' := [o0, foundO l s, doneO s]) ?_).trans ?_
  · rw [z_asg, e1]
    rfl
  refine (seq_nx (e' := [some (.d (sps l)), some (.r 1), some (.r 2), x3, x4, some (.d (.int (n : Nat))), x6, some (.d (.lst ((taken l s n).map .int))), x8, some (.d (.int 0))]) (h' := [o0, foundO l s, doneO s]) rfl).trans ?_
  have ew' := mex_while (e := [some (.d (sps l)), some (.r 1), some (.r 2), x3, x4, some (.d (.int (n : Nat))), x6, some (.d (.lst ((taken l s n).map .int))), x8, some (.d (.int 0))]) (h := [o0, foundO l s, doneO s]) (i := 9) (j := 7) (T := taken l s n) (n := 100000) (by omega) (by simp) rfl rfl (by have := taken_len (l := l) (s := s) (n := n); omega)
  refine (seq_nx ew').trans ?_
  have es : setAt (.r 1) (.d (.int (n : Nat))) (.d (.int (mex (taken l s n) : Nat))) [o0, foundO l s, doneO s] = some [o0, foundO l (stepS l s n), doneO s] := by
    rw [set_r (l := (List.range l.length).map fun i => .d (.int (val s i : Nat))) rfl (by simpa using hn')]
    congr 1
    show [o0, O.lst _, doneO s] = _
    unfold foundO
    congr 3
    apply List.ext_getElem
    · simp
    · intro i h1 h2
      simp at h1
      rw [List.getElem_set]
      simp only [List.getElem_map, List.getElem_range]
      unfold stepS
      rw [val_app hn]
      by_cases hq : n = i
      · subst hq; simp
      · rw [if_neg hq, if_neg (Ne.symm hq)]
  refine (seq_nx (e' := [some (.d (sps l)), some (.r 1), some (.r 2), x3, x4, some (.d (.int (n : Nat))), x6, some (.d (.lst ((taken l s n).map .int))), x8, some (.d (.int (mex (taken l s n) : Nat)))]) (h' := [o0, foundO l (stepS l s n), doneO s]) ?_).trans ?_
  · simp only [List.set_cons_succ, List.set_cons_zero, z_set, z_cv0, z_cvS, lift_ok, es]
  · have ea : mAppend (.r 2) [.d (.int (n : Nat))] [o0, foundO l (stepS l s n), doneO s] = .ok (.d .non) [o0, foundO l (stepS l s n), doneO (stepS l s n)] := by
      unfold mAppend doneO
      dsimp only [List.getElem?_cons_succ, List.getElem?_cons_zero]
      rw [if_pos (by rw [List.length_map]; omega)]
      simp [stepS]
    have el : lstW (.r 2) [o0, foundO l (stepS l s n), doneO s] = some (s.map fun p => .d (.int (p.1 : Nat))) := rfl
    simp only [z_expr, cLm, z_cv0, z_cvS, R.bind_ok, el, z_aCons, z_aNil, ea, lift_ok]
/-- both loops -/
theorem stk_inv {l : List (Int × Int)} (P : Sk' → Prop) (h0 : P []) (st : ∀ s n, Inv' l s → n ∉ s.map (·.1) → n < l.length → P s → P (stepS l s n)) : P (stk l) ∧ Inv' l (stk l) := by
  have key : ∀ (L : List Nat) (s : Sk'), L.Nodup → (∀ n ∈ L, n < l.length ∧ n ∉ s.map (·.1)) → Inv' l s → P s → P (L.foldl (stepS l) s) ∧ Inv' l (L.foldl (stepS l) s) := by
    intro L
    induction L with
    | nil => intro s _ _ hi hp; exact ⟨hp, hi⟩
    | cons n L ih =>
      intro s nd hn hi hp
      obtain ⟨n1, n2⟩ := List.nodup_cons.mp nd
      obtain ⟨h1, h2⟩ := hn n (by simp)
      refine ih (stepS l s n) n2 (fun m hm => ⟨(hn m (by simp [hm])).1, fun q => ?_⟩) (hi.step h2 h1) (st s n hi h2 h1 hp)
      unfold stepS at q
      rw [List.map_append, List.mem_append] at q
      rcases q with q | q
      · exact (hn m (by simp [hm])).2 q
      · have : m = n := by simpa using q
        exact n1 (this ▸ hm)
  exact key (ord l) [] (ord_nodup l) (fun n hn => ⟨ord_lt hn, by simp⟩) ⟨by simp, by simp, by simp⟩ h0
/-- a loop over the order -/
theorem loop_ord {t : Cy} {b : Cs} {l : List (Int × Int)} {y : Nat → Y} (I : Sk' → Ev → Hh → Prop) {e : Ev} {h : Hh} (h0 : I [] e h)
    (st : ∀ s n e h, Inv' l s → n ∉ s.map (·.1) → n < l.length → I s e h → ∃ e1 e2 h2, t (y n) e h = some e1 ∧ b e1 h = .nx e2 h2 ∧ I (stepS l s n) e2 h2) : ∃ e' h', forL t b ((ord l).map y) e h = .nx e' h' ∧ I (stk l) e' h' := by
  have key : ∀ (L : List Nat) (s : Sk') (e : Ev) (h : Hh), L.Nodup → (∀ n ∈ L, n < l.length ∧ n ∉ s.map (·.1)) → Inv' l s → I s e h → ∃ e' h', forL t b (L.map y) e h = .nx e' h' ∧ I (L.foldl (stepS l) s) e' h' := by
    intro L
    induction L with
    | nil => intro s e h _ _ hi hp; exact ⟨e, h, rfl, hp⟩
    | cons n L ih =>
      intro s e h nd hn hi hp
      obtain ⟨n1, n2⟩ := List.nodup_cons.mp nd
      obtain ⟨h1, h2⟩ := hn n (by simp)
      obtain ⟨e1, e2, hh, a1, a2, a3⟩ := st s n e h hi h2 h1 hp
      obtain ⟨e', h', b1, b2⟩ := ih (stepS l s n) e2 hh n2 (fun m hm => ⟨(hn m (by simp [hm])).1, fun q => by
        unfold stepS at q
        rw [List.map_append, List.mem_append] at q
        rcases q with q | q
        · exact (hn m (by simp [hm])).2 q
        · have : m = n := by simpa using q
          exact n1 (this ▸ hm)⟩) (hi.step h2 h1) a3
      refine ⟨e', h', ?_, b2⟩
      rw [List.map_cons]
      unfold forL
      rw [a1]
      dsimp only
      rw [a2]
      exact b1
  exact key (ord l) [] e h (ord_nodup l) (fun n hn => ⟨ord_lt hn, by simp⟩) ⟨by simp, by simp, by simp⟩ h0
theorem s5 {k : Nat} {l : List (Int × Int)} (hl : l.length ≤ 60) (hv : ∀ p ∈ l, okP' p) : ∃ h', run (k + 3) 5 [.d (sps l)] [] = .ok (.d (stkD l)) h' := by
  rw [run_5]
  have e1 : sExpr (cCall true 1 (run (k + 2) 1) (aCons (cv 0) aNil)) [some (.d (sps l)), none, none, none, none, none, none, none, none, none] [] = .nx [some (.d (sps l)), none, none, none, none, none, none, none, none, none] [] := by
    simp [p1, sps_valid hl hv]
  have ef : foundO l [] = .lst (List.replicate l.length (.d (.int 0))) := by
    unfold foundO
    congr 1
    apply List.ext_getElem
    · simp
    · intro i h1 h2; simp [val]
  have em : opMul true (.r 0) (.d (.int l.length)) [.lst [.d (.int 0)]] = .ok (.r 1) [.lst [.d (.int 0)], foundO l []] := by
    rw [ef]
    unfold opMul
    dsimp only [List.getElem?_cons_zero]
    have z : -(2 ^ 63) ≤ (l.length : Int) ∧ (l.length : Int) < 2 ^ 63 ∧ [W.d (.int 0)].length * ((l.length : Int)).toNat ≤ 16777216 := by rw [List.length_singleton]; omega
    have fl : (List.replicate l.length [W.d (.int 0)]).flatten = List.replicate l.length (.d (.int 0)) := by
      induction l.length with
      | zero => rfl
      | succ n ih => rw [List.replicate_succ, List.flatten_cons, ih]; rfl
    rw [if_pos z, Int.toNat_natCast, fl]
    unfold Fz.fin
    rw [if_pos rfl]
    unfold mkM
    rw [if_pos (by rw [List.length_replicate]; omega)]
    rfl
  have e2 : sAsg (c2 (opMul true) (cCl mkM (aCons (cc (.int 0)) aNil)) (cCl biLen (aCons (cv 0) aNil))) (tN 1) [some (.d (sps l)), none, none, none, none, none, none, none, none, none] [] = .nx [some (.d (sps l)), some (.r 1), none, none, none, none, none, none, none, none] [.lst [.d (.int 0)], foundO l []] := by
    have el : biLen [.d (sps l)] [.lst [.d (.int 0)]] = .ok (.d (.int l.length)) [.lst [.d (.int 0)]] := by simp [sps]
    have e0 : mkM [.d (.int 0)] [] = .ok (.r 0) [.lst [.d (.int 0)]] := rfl
    simp only [z_asg, z_c2, z_cl, z_aCons, z_aNil, z_cc, R.bind_ok, e0, z_cv0, el, em, lift_ok, z_tN, List.set_cons_succ, List.set_cons_zero]
  have e3 : sAsg (cCl mkM aNil) (tN 2) [some (.d (sps l)), some (.r 1), none, none, none, none, none, none, none, none] [.lst [.d (.int 0)], foundO l []] = .nx [some (.d (sps l)), some (.r 1), some (.r 2), none, none, none, none, none, none, none] [.lst [.d (.int 0)], foundO l [], doneO []] := rfl
  have hc : cEn (cv 0) [some (.d (sps l)), some (.r 1), some (.r 2), none, none, none, none, none, none, none] [.lst [.d (.int 0)], foundO l [], doneO []] = .ok (fixS (l.zipIdx.map fun x => .t [.d (.int (x.2 : Nat)), .d (sp x.1)])) [.lst [.d (.int 0)], foundO l [], doneO []] :=
    (en_tup (l := l.map sp) rfl).trans (by rw [enY_zip])
  have e4 := lc_m (t := yT (tCns (tN 5) (tCns (tN 6) Fz.tNil))) (vs := [5, 6]) (c := cCl mkT (aCons (c2 opIx (cv 6) (cc (.int 0))) (aCons (c1 opNeg (c2 opIx (cv 6) (cc (.int 1)))) (aCons (cv 5) aNil)))) l.zipIdx _ rowD hc (by rw [List.length_zipIdx]; omega) fun x hx => ⟨_, rfl, by simp [ew, sp, mkT_3, rowD]⟩
  have hs : cIt (cCl (biSort false) (aCons (cLc false [5, 6] (cEn (cv 0)) (yT (tCns (tN 5) (tCns (tN 6) Fz.tNil))) bYes (cCl mkT (aCons (c2 opIx (cv 6) (cc (.int 0))) (aCons (c1 opNeg (c2 opIx (cv 6) (cc (.int 1)))) (aCons (cv 5) aNil))))) aNil)) [some (.d (sps l)), some (.r 1), some (.r 2), none, none, none, none, none, none, none] [.lst [.d (.int 0)], foundO l [], doneO []] = .ok (fixS ((ord l).map fun n => .w (.d (.tup [.int (at' l n).1, .int (-(at' l n).2), .int (n : Nat)])))) [.lst [.d (.int 0)], foundO l [], doneO []] := by
    have er : (srt l).map rowD = (ord l).map fun n => .tup [.int (at' l n).1, .int (-(at' l n).2), .int (n : Nat)] := by
      unfold ord
      rw [List.map_map]
      refine List.map_congr_left fun x hx => ?_
      have hx : x ∈ l.zipIdx := isort_mem.mp hx
      obtain ⟨p, i⟩ := x
      have := List.mem_zipIdx_iff_getElem?.mp hx
      simp [rowD, at', this]
    refine (it_lst (l := (srt l).map rowD) (h' := [.lst [.d (.int 0)], foundO l [], doneO []]) ?_).trans (by rw [er, List.map_map]; rfl)
    simp only [z_cl, z_aCons, z_aNil, e4, R.bind_ok]
    exact sort_rows (by rw [List.length_zipIdx]; omega)
  obtain ⟨e', h', q1, x3, x4, x5, x6, x7, x8, x9, rfl, rfl⟩ := loop_ord (l := l) (t := yT (tCns (tN 3) (tCns (tN 4) (tCns (tN 5) Fz.tNil)))) (b := c_5_1 (run (k + 2))) (y := fun n => .w (.d (.tup [.int (at' l n).1, .int (-(at' l n).2), .int (n : Nat)]))) (fun s e h => ∃ x3 x4 x5 x6 x7 x8 x9, e = [some (.d (sps l)), some (.r 1), some (.r 2), x3, x4, x5, x6, x7, x8, x9] ∧ h = [.lst [.d (.int 0)], foundO l s, doneO s]) (e := [some (.d (sps l)), some (.r 1), some (.r 2), none, none, none, none, none, none, none]) (h := [.lst [.d (.int 0)], foundO l [], doneO []]) ⟨_, _, _, _, _, _, _, rfl, rfl⟩ fun s n e h hi hn hn' he => by
    obtain ⟨x3, x4, x5, x6, x7, x8, x9, rfl, rfl⟩ := he
    obtain ⟨y7, y8, y9, r⟩ := row5 (k := k + 1) (o0 := .lst [.d (.int 0)]) (x3 := some (.d (.int (at' l n).1))) (x4 := some (.d (.int (-(at' l n).2)))) (x6 := x6) (x7 := x7) (x8 := x8) (x9 := x9) hl hi hn hn'
    exact ⟨_, _, _, rfl, r, _, _, _, _, _, _, _, rfl, rfl⟩
  have es := sFor_fix (t := yT (tCns (tN 3) (tCns (tN 4) (tCns (tN 5) Fz.tNil)))) (b := c_5_1 (run (k + 2))) hs
  refine ⟨[.lst [.d (.int 0)], foundO l (stk l), doneO (stk l)], fn_rt rfl ?_⟩
  unfold c_5
  refine (seq_nx e1).trans ?_
  refine (seq_nx e2).trans ?_
  refine (seq_nx e3).trans ?_
  refine (seq_nx (es.trans q1)).trans ?_
  have et : biTuple [.r 1] [.lst [.d (.int 0)], foundO l (stk l), doneO (stk l)] = .ok (.d (stkD l)) [.lst [.d (.int 0)], foundO l (stk l), doneO (stk l)] := by
    have a1 : lstW (.r 1) [.lst [.d (.int 0)], foundO l (stk l), doneO (stk l)] = some ((List.range l.length).map fun i => .d (.int (val (stk l) i : Nat))) := rfl
    unfold biTuple
    dsimp only
    rw [a1]
    have a2 : (List.range l.length).map (fun i => W.d (.int (val (stk l) i : Nat))) = ((List.range l.length).map fun i => D.int (val (stk l) i : Nat)).map .d := by rw [List.map_map]; rfl
    dsimp only
    rw [a2]
    exact mkT_d (by rw [List.length_map, List.length_range]; omega)
  simp only [z_ret, z_cl, z_aCons, z_aNil, z_cv0, z_cvS, R.bind_ok, et, lift_ok]
end K45
set_option Elab.async false
set_option linter.all false
set_option maxRecDepth 100000
set_option maxHeartbeats 1000000
namespace K45
open Fz
/-! ### the law's stacks -/
def dkS (s : Sk') : List (Int × W) := s.map fun p => ((p.1 : Nat), .d (.int (p.2 : Nat)))
theorem look_S {s : Sk'} (n : Nat) : (dkS s).lookup (n : Int) = (s.lookup n).map fun o => W.d (.int (o : Nat)) := by
  unfold dkS
  induction s with
  | nil => rfl
  | cons p s ih =>
    obtain ⟨a, o⟩ := p
    rw [List.map_cons, List.lookup_cons, List.lookup_cons]
    by_cases h : n = a
    · subst h; simp
    · have h1 : ((n : Int) == (a : Int)) = false := by simp; omega
      have h2 : (n == a) = false := by simpa using h
      dsimp only
      rw [h1, h2]
      exact ih
theorem put_S {s : Sk'} {n o : Nat} (hn : n ∉ s.map (·.1)) : putI (n : Int) (.d (.int (o : Nat))) (dkS s) = dkS (s ++ [(n, o)]) := by
  unfold putI
  rw [if_neg ?_]
  · simp [dkS]
  · rw [List.any_eq_true]
    rintro ⟨p, hp, e⟩
    unfold dkS at hp
    obtain ⟨q, hq, rfl⟩ := List.mem_map.mp hp
    have e : ((q.1 : Nat) : Int) = n := eq_of_beq e
    have : q.1 = n := by omega
    exact hn (List.mem_map.mpr ⟨q, hq, this⟩)
theorem look_mem {s : Sk'} (hs : (s.map (·.1)).Nodup) {p : Nat × Nat} (hp : p ∈ s) : s.lookup p.1 = some p.2 := by
  induction s with
  | nil => simp at hp
  | cons q s ih =>
    rw [List.map_cons, List.nodup_cons] at hs
    rw [List.lookup_cons]
    rcases List.mem_cons.mp hp with rfl | hp
    · simp
    · have : p.1 ≠ q.1 := fun e => hs.1 (e ▸ List.mem_map.mpr ⟨p, hp, rfl⟩)
      rw [beq_eq_false_iff_ne.mpr this]
      exact ih hs.2 hp
theorem dx_S {s : Sk'} {n : Nat} {o : Nat} (hs : s.lookup n = some o) : opDx (.r 0) (.d (.int (n : Nat))) [.fk (dkI (dkS s))] = .ok (.d (.int (o : Nat))) [.fk (dkI (dkS s))] := by
  unfold opDx dLook
  dsimp only [List.getElem?_cons_zero]
  rw [if_pos (show (D.int (n : Int)).isK = true from rfl), lkd_int, look_S, hs]
  rfl
theorem dx_S' {s : Sk'} {n : Nat} {o : Nat} (hs : s.lookup n = some o) : opDx (.r 0) (.d (.int (n : Nat))) [.dk (dkI (dkS s))] = .ok (.d (.int (o : Nat))) [.dk (dkI (dkS s))] := by
  unfold opDx dLook
  dsimp only [List.getElem?_cons_zero]
  rw [if_pos (show (D.int (n : Int)).isK = true from rfl), lkd_int, look_S, hs]
  rfl
theorem row17 {k n : Nat} {l : List (Int × Int)} {s : Sk'} {x3 x4 x5 : Option W} (hl : l.length ≤ 60) (hv : ∀ p ∈ l, okP' p) (hi : Inv' l s) (hn : n ∉ s.map (·.1)) (hn' : n < l.length) :
    ∃ y3, c_17_0 (run (k + 1)) [some (.d (sps l)), some (.r 0), some (.d (.int (n : Nat))), x3, x4, x5] [.dk (dkI (dkS s))] =
      .nx [some (.d (sps l)), some (.r 0), some (.d (.int (n : Nat))), y3, x4, x5] [.dk (dkI (dkS (stepS l s n)))] := by
  have hsl := hi.len
  have hc : cKeys (cv 1) [some (.d (sps l)), some (.r 0), some (.d (.int (n : Nat))), x3, x4, x5] [.fk (dkI (dkS s))] = .ok (fixS (s.map fun p => .w (.d (.int (p.1 : Nat))))) [.fk (dkI (dkS s))] := by
    unfold cKeys
    simp only [z_cvS, z_cv0, R.bind_ok]
    dsimp only [List.getElem?_cons_zero]
    have : (dkI (dkS s)).all (fun p => okKey p.1) = true := by simp [dkI, okKey]
    rw [if_pos this]
    unfold keysS dkI dkS
    rw [List.map_map, List.map_map]
    rfl
  have e1 := lc_d (t := yN (tN 4)) (vs := [4]) (q := cT (cCall true 2 (run (k + 1) 13) (aCons (c2 opIx (cv 0) (cv 4)) (aCons (c2 opIx (cv 0) (cv 2)) aNil)))) (c := c2 opDx (cv 1) (cv 4)) s _ (fun p => crs (at' l p.1) (at' l n)) (fun p => D.int (p.2 : Nat)) hc (by omega) fun p hp => by
    have hp1 := hi.lt p hp
    refine ⟨_, rfl, ?_, fun _ => ?_⟩
    · simp only [ew, List.set_cons_succ, List.set_cons_zero, z_cT, z_call, z_aCons, z_c2, z_cv0, z_cvS, R.bind_ok, z_aNil, ix_s hp1, ix_s hn', List.length_cons, List.length_nil, if_true]
      rw [p13 (at_ok hp1 hv) (at_ok hn' hv)]
      rfl
    · simp only [ew, List.set_cons_succ, List.set_cons_zero, z_c2, z_cv0, z_cvS, R.bind_ok, dx_S (look_mem hi.nd hp)]
  have ef : ((s.filter fun p => crs (at' l p.1) (at' l n)).map fun p => D.int (p.2 : Nat)) = (taken l s n).map D.int := by
    unfold taken
    rw [List.map_map]
    rfl
  rw [ef] at e1
  have e2 : lkC (gN 1) (cLc false [4] (cKeys (cv 1)) (yN (tN 4)) (cT (cCall true 2 (run (k + 1) 13) (aCons (c2 opIx (cv 0) (cv 4)) (aCons (c2 opIx (cv 0) (cv 2)) aNil)))) (c2 opDx (cv 1) (cv 4))) [some (.d (sps l)), some (.r 0), some (.d (.int (n : Nat))), x3, x4, x5] [.dk (dkI (dkS s))] = .ok (.d (.lst ((taken l s n).map .int))) [.dk (dkI (dkS s))] := by
    show lkT 0 (.dk (dkI (dkS s))) (cLc false [4] _ _ _ _ _ [.fk (dkI (dkS s))]) = _
    rw [e1]
    rfl
  have hT := taken_len (l := l) (s := s) (n := n)
  have hm := mex_le (n := n) hi
  refine ⟨some (.d (.lst ((taken l s n).map .int))), ?_⟩
  unfold c_17_0
  refine (seq_nx (e' := [some (.d (sps l)), some (.r 0), some (.d (.int (n : Nat))), some (.d (.lst ((taken l s n).map .int))), x4, x5]) (h' := [.dk (dkI (dkS s))]) ?_).trans ?_
  · rw [z_asg, e2]
    rfl
  have hr : cR1 (aCons (c2 (opAdd false) (cCl biLen (aCons (cv 0) aNil)) (cc (.int 1))) aNil) [some (.d (sps l)), some (.r 0), some (.d (.int (n : Nat))), some (.d (.lst ((taken l s n).map .int))), x4, x5] [.dk (dkI (dkS s))] = .ok (fixS ((List.range (l.length + 1)).map fun (i : Nat) => .w (.d (.int (i : Nat))))) [.dk (dkI (dkS s))] := by
    refine (r1_at (n := ((l.length + 1 : Nat) : Int)) (h' := [.dk (dkI (dkS s))]) ?_ (by omega)).trans (by rw [Int.toNat_natCast])
    simp [sps]
  have e3 := lc_d (t := yN (tN 5)) (vs := [5]) (q := bC (opIn true) (cv 5) (cv 3)) (c := cv 5) (List.range (l.length + 1)) _ (fun i => !decide ((i : Int) ∈ taken l s n)) (fun i => D.int (i : Nat)) hr (by rw [List.length_range]; omega) fun i hi => by
    refine ⟨_, rfl, ?_, fun _ => rfl⟩
    have e3 : ((taken l s n).map D.int).any (fun z => D.eqv z (.int (i : Int))) = decide ((i : Int) ∈ taken l s n) := by
      rw [List.any_map, Bool.eq_iff_iff]
      simp [D.eqv]
    have s1 : sh 64 (.lst ((taken l s n).map .int)) = true := by simp [sh]
    have s2 : sh 64 (.int (i : Int)) = true := rfl
    simp only [ew, List.set_cons_succ, List.set_cons_zero, z_bC, z_c2, z_cv0, z_cvS, R.bind_ok]
    unfold opIn
    simp only [valD, D.items, s1, s2, Bool.and_self, if_true, e3, z_asB]
  have hf : ((List.range (l.length + 1)).filter fun (i : Nat) => !decide ((i : Int) ∈ taken l s n)).head? = some (mex (taken l s n)) := by
    rw [List.head?_filter]
    exact mex_first hm
  obtain ⟨u, hu⟩ := List.head?_eq_some_iff.mp hf
  rw [hu, List.map_cons] at e3
  have e4 : dPut (.r 0) (.d (.int (n : Nat))) (.d (.int (mex (taken l s n) : Nat))) [.dk (dkI (dkS s))] = some [.dk (dkI (dkS (stepS l s n)))] := by
    unfold dPut
    dsimp only [List.getElem?_cons_zero]
    rw [if_pos ⟨rfl, by simp [dkI, dkS]; omega⟩, putd_int, put_S hn]
    rfl
  unfold sDSet
  rw [z_c2, e3, R.bind_ok, z_cc, R.bind_ok, ixl0, lift_ok, z_cvS, z_cv0, lift_ok, z_cvS, z_cvS, z_cv0, lift_ok]
  rw [e4]
theorem s17 {k : Nat} {l : List (Int × Int)} (hl : l.length ≤ 60) (hv : ∀ p ∈ l, okP' p) : ∃ h', run (k + 2) 17 [.d (sps l)] [] = .ok (.d (stkD l)) h' := by
  rw [run_17]
  have e1 : sAsg cDK (tN 1) [some (.d (sps l)), none, none, none, none, none] [] = .nx [some (.d (sps l)), some (.r 0), none, none, none, none] [.dk (dkI (dkS []))] := rfl
  have e14 : pure' (run (k + 1) 14) [.d (sps l)] [.dk (dkI (dkS []))] = .ok (.d (.lst ((srt l).map fun x => .int (x.2 : Nat)))) [.dk (dkI (dkS []))] := pure_ok rfl (s14 hl)
  have hs : cIt (cCall true 1 (run (k + 1) 14) (aCons (cv 0) aNil)) [some (.d (sps l)), some (.r 0), none, none, none, none] [.dk (dkI (dkS []))] = .ok (fixS ((ord l).map fun n => .w (.d (.int (n : Nat))))) [.dk (dkI (dkS []))] := by
    refine (it_lst (l := (srt l).map fun x => .int (x.2 : Nat)) (h' := [.dk (dkI (dkS []))]) ?_).trans (by unfold ord; rw [List.map_map, List.map_map]; rfl)
    simp only [z_call, z_aCons, z_aNil, z_cv0, R.bind_ok, List.length_cons, List.length_nil, if_true, e14]
  obtain ⟨e', h', q1, x2, x3, x4, x5, rfl, rfl⟩ := loop_ord (l := l) (t := yN (tN 2)) (b := c_17_0 (run (k + 1))) (y := fun n => .w (.d (.int (n : Nat)))) (fun s e h => ∃ x2 x3 x4 x5, e = [some (.d (sps l)), some (.r 0), x2, x3, x4, x5] ∧ h = [.dk (dkI (dkS s))]) (e := [some (.d (sps l)), some (.r 0), none, none, none, none]) (h := [.dk (dkI (dkS []))]) ⟨_, _, _, _, rfl, rfl⟩ fun s n e h hi hn hn' he => by
    obtain ⟨x2, x3, x4, x5, rfl, rfl⟩ := he
    obtain ⟨y3, r⟩ := row17 (k := k) (x3 := x3) (x4 := x4) (x5 := x5) hl hv hi hn hn'
    exact ⟨_, _, _, rfl, r, _, _, _, _, rfl, rfl⟩
  have es := sFor_fix (t := yN (tN 2)) (b := c_17_0 (run (k + 1))) hs
  have hi := (stk_inv (l := l) (fun _ => True) trivial fun _ _ _ _ _ _ => trivial).2
  have hall : ∀ i, i < l.length → ∃ o, (stk l).lookup i = some o := by
    have hk : (stk l).map (·.1) = ord l := by
      unfold stk
      have : ∀ (L : List Nat) (s : Sk'), (L.foldl (stepS l) s).map (·.1) = s.map (·.1) ++ L := by
        intro L
        induction L with
        | nil => intro s; simp
        | cons n L ih => intro s; rw [List.foldl_cons, ih]; simp [stepS]
      rw [this]
      rfl
    intro i hi2
    have : i ∈ (stk l).map (·.1) := by rw [hk]; exact (ord_perm l).mem_iff.mpr (List.mem_range.mpr hi2)
    obtain ⟨p, hp, rfl⟩ := List.mem_map.mp this
    exact ⟨_, look_mem hi.nd hp⟩
  refine ⟨[.dk (dkI (dkS (stk l)))], fn_rt rfl ?_⟩
  unfold c_17
  refine (seq_nx e1).trans ?_
  refine (seq_nx (es.trans q1)).trans ?_
  have hr : cR1 (aCons (cCl biLen (aCons (cv 0) aNil)) aNil) [some (.d (sps l)), some (.r 0), x2, x3, x4, x5] [.dk (dkI (dkS (stk l)))] = .ok (fixS ((List.range l.length).map fun (i : Nat) => .w (.d (.int (i : Nat))))) [.dk (dkI (dkS (stk l)))] := by
    refine (r1_at (n := ((l.length : Nat) : Int)) (h' := [.dk (dkI (dkS (stk l)))]) ?_ (by omega)).trans (by rw [Int.toNat_natCast])
    simp [sps]
  have e3 := lc_m (t := yN (tN 2)) (vs := [2]) (c := c2 opDx (cv 1) (cv 2)) (List.range l.length) _ (fun i => D.int (val (stk l) i : Nat)) hr (by rw [List.length_range]; omega) fun i hi => by
    obtain ⟨o, ho⟩ := hall i (List.mem_range.mp hi)
    refine ⟨_, rfl, ?_⟩
    simp only [ew, List.set_cons_succ, List.set_cons_zero, z_c2, z_cv0, z_cvS, R.bind_ok, dx_S' ho]
    unfold val
    rw [ho]
    rfl
  simp only [z_ret, z_cl, z_aCons, z_aNil, e3, R.bind_ok]
  rw [tup_l (by rw [List.length_map, List.length_range]; omega)]
  rfl
end K45
set_option Elab.async false
set_option linter.all false
set_option maxRecDepth 100000
set_option maxHeartbeats 1000000
namespace K45
open Fz
/-! ### a value bent -/
theorem e7 (k : Nat) : run (k + 1) 7 = mkFn 2 3 drawC := rfl
theorem e8 (k : Nat) : run (k + 2) 8 = mkFn 2 2 (pickC (mkFn 2 3 drawC)) := rfl
/-- no row of more than 100 -/
inductive Few : D → Prop
  | tup {l : List D} : l.length ≤ 100 → (∀ x ∈ l, Few x) → Few (.tup l)
  | int {i : Int} : Few (.int i)
section
variable {ns : List Int} {rest : List W} {t : Hh}
def Out (ns : List Int) (rest : List W) (t : Hh) (w : W) (h : Hh) : Prop := ∃ d a' b' s', w = .d d ∧ h = St ns a' b' s' rest :: t ∧ 0 ≤ a' ∧ 0 ≤ b'
theorem odd_ok {k : Nat} {e : Ev} {a b s : Int} {x1 x2 x3 x4 : Option W} (ha : 0 ≤ a) (hb : 0 ≤ b) : Ok (cCall false 2 (run (k + 2) 8) (aCons (cv 0) (aCons (cCl mkL (aCons (cc .non) (aCons (cc (.bl true)) (aCons (cc (.bl false)) (aCons (c1 opNeg (cc (.int 1))) (aCons (cc (.int 0)) (aCons (cc (.int 1)) (aCons (cc (.str [])) (aCons (cc (.str [110, 101, 119])) (aCons (cCl mkT aNil) (aCons (cCl mkT (aCons (cc (.int 0)) aNil)) (aCons (cCl mkT (aCons (cc (.int 0)) (aCons (cc (.int 1)) aNil))) (aCons (cCl mkT (aCons (cc (.int 1)) (aCons (cc (.int 1)) aNil))) (aCons (cCl mkT (aCons (cc (.int 1)) (aCons (cc (.int 0)) aNil))) (aCons (cCl mkT (aCons (cCl mkT (aCons (cc (.int 1)) (aCons (cc (.int 1)) aNil))) aNil)) (aCons (cCl mkT (aCons (cCl mkT (aCons (cc (.int 0)) (aCons (cc (.int 1)) aNil))) aNil)) (aCons (cCl mkT (aCons (cc .non) aNil)) (aCons (cCl mkT (aCons (cc (.bl true)) aNil)) aNil)))))))))))))))))) aNil)) [some (.r 0), x1, x2, x3, x4] (St ns a b s rest :: t)) (Out ns rest t) noE := by
  rw [e8]
  have e0 : mkT [] (St ns a b s rest :: t) = .ok (.d (.tup [])) (St ns a b s rest :: t) := rfl
  simp only [z_call, z_aCons, z_cv0, z_cl, z_cc, z_c1, z_neg, z_aNil, R.bind_ok, mkT_1, mkT_2, e0, List.length_cons, List.length_nil, if_true]
  have em : mkL [W.d .non, .d (.bl true), .d (.bl false), .d (.int (-1)), .d (.int 0), .d (.int 1), .d (.str []), .d (.str [110, 101, 119]), .d (.tup []), .d (.tup [.int 0]), .d (.tup [.int 0, .int 1]), .d (.tup [.int 1, .int 1]), .d (.tup [.int 1, .int 0]), .d (.tup [.tup [.int 1, .int 1]]), .d (.tup [.tup [.int 0, .int 1]]), .d (.tup [.non]), .d (.tup [.bl true])] (St ns a b s rest :: t) = .ok (.d (.lst [.non, .bl true, .bl false, .int (-1), .int 0, .int 1, .str [], .str [110, 101, 119], .tup [], .tup [.int 0], .tup [.int 0, .int 1], .tup [.int 1, .int 1], .tup [.int 1, .int 0], .tup [.tup [.int 1, .int 1]], .tup [.tup [.int 0, .int 1]], .tup [.non], .tup [.bl true]])) (St ns a b s rest :: t) := rfl
  rw [em]
  simp only [R.bind_ok, List.length_cons, List.length_nil, if_true, Bool.false_eq_true, if_false]
  refine pick_l ha hb (by simp) fun x a' b' s' _ h1 h2 => ⟨x, a', b', s', rfl, rfl, h1, h2⟩
theorem s12 : ∀ (k : Nat) (v : D) (dep : Nat) (a b s : Int), dep + 6 ≤ k → Few v → 0 ≤ a → 0 ≤ b → Ok (run k 12 [.r 0, .d v, .d (.int dep)] (St ns a b s rest :: t)) (Out ns rest t) noE
  | 0, v, dep, a, b, s, hk, _, _, _ => absurd hk (by omega)
  | k + 1, v, dep, a, b, s, hk, hv, ha, hb => by
    obtain ⟨k, rfl⟩ : ∃ j, k = j + 2 := ⟨k - 2, by omega⟩
    rw [run_12]
    refine ok_fn rfl ?_
    show Sk (c_12 (run (k + 2)) [some (.r 0), some (.d v), some (.d (.int dep)), none, none] (St ns a b s rest :: t)) _
    cases hv with
    | @int i =>
      unfold c_12
      obtain ⟨v1, a1, b1, s1, d1, h1, h2, h3, h4⟩ := draw_at (ns := ns) (s := s) (rest := rest) (t := t) (m := 4) ha hb (by omega)
      have d1 : run (k + 2) 7 [.r 0, .d (.int 4)] (St ns a b s rest :: t) = _ := d1
      by_cases hq : v1 > 0
      · have : Ok (cCall false 2 (run (k + 2) 8) (aCons (cv 0) (aCons (cCl mkL (aCons (cc (.int 1)) (aCons (c1 opNeg (cc (.int 1))) (aCons (cc (.int 2)) (aCons (cc (.int 40)) aNil))))) aNil)) [some (.r 0), some (.d (.int i)), some (.d (.int dep)), none, none] (St ns a1 b1 s1 rest :: t)) (fun w h => ∃ j a' b' s', w = .d (.int j) ∧ h = St ns a' b' s' rest :: t ∧ 0 ≤ a' ∧ 0 ≤ b') noE := by
          rw [e8]
          simp only [z_call, z_aCons, z_cv0, z_cl, z_cc, z_c1, z_neg, z_aNil, R.bind_ok]
          have em : mkL [W.d (.int 1), .d (.int (-1)), .d (.int 2), .d (.int 40)] (St ns a1 b1 s1 rest :: t) = .ok (.d (.lst [.int 1, .int (-1), .int 2, .int 40])) (St ns a1 b1 s1 rest :: t) := rfl
          rw [em]
          simp only [R.bind_ok, List.length_cons, List.length_nil, if_true, Bool.false_eq_true, if_false]
          refine pick_l h3 h4 (by simp) fun x a' b' s' hx g1 g2 => ?_
          simp only [List.mem_cons, List.not_mem_nil, or_false] at hx
          rcases hx with rfl | rfl | rfl | rfl <;> exact ⟨_, _, _, _, rfl, rfl, g1, g2⟩
        obtain ⟨w, h, ew, j, a', b', s', rfl, rfl, g1, g2⟩ := this.get
        have e1 : (bAnd (cT (cIsi .int (cv 1))) (bAnd (bNot (cT (cIsi .bool (cv 1)))) (bC opGt (cCall false 2 (run (k + 2) 7) (aCons (cv 0) (aCons (cc (.int 4)) aNil))) (cc (.int 0))))) [some (.r 0), some (.d (.int i)), some (.d (.int dep)), none, none] (St ns a b s rest :: t) = .ok true (St ns a1 b1 s1 rest :: t) := by
          simp [isD, d1, opGt, hq]
        rw [z_seq, z_if, e1, lift_ok, if_pos rfl, z_ret, z_c2, z_cvS, z_cv0, R.bind_ok, ew, R.bind_ok, z_add, lift_ok]
        exact ⟨_, _, _, _, rfl, rfl, g1, g2⟩
      · have e1 : (bAnd (cT (cIsi .int (cv 1))) (bAnd (bNot (cT (cIsi .bool (cv 1)))) (bC opGt (cCall false 2 (run (k + 2) 7) (aCons (cv 0) (aCons (cc (.int 4)) aNil))) (cc (.int 0))))) [some (.r 0), some (.d (.int i)), some (.d (.int dep)), none, none] (St ns a b s rest :: t) = .ok false (St ns a1 b1 s1 rest :: t) := by
          simp [isD, d1, opGt, hq]
        rw [z_seq, z_if, e1, lift_ok, if_neg Bool.false_ne_true, z_nx, SR.bind_nx, z_seq, z_if]
        have e2 : (bOr (bNot (cT (cIsi .tup (cv 1)))) (bOr (bNot (cT (cv 1))) (bOr (bC (opEq false) (cv 2) (cc (.int 0))) (bC (opEq false) (cCall false 2 (run (k + 2) 7) (aCons (cv 0) (aCons (cc (.int 9)) aNil))) (cc (.int 0)))))) [some (.r 0), some (.d (.int i)), some (.d (.int dep)), none, none] (St ns a1 b1 s1 rest :: t) = .ok true (St ns a1 b1 s1 rest :: t) := by simp [isD]
        rw [e2, lift_ok, if_pos rfl, z_ret]
        simp only [sk_bind, sk_lift]
        exact (odd_ok (e := []) h3 h4).mono (fun w h o => o) fun _ _ _ q => q
    | @tup l hl hx =>
      unfold c_12
      have e1 : (bAnd (cT (cIsi .int (cv 1))) (bAnd (bNot (cT (cIsi .bool (cv 1)))) (bC opGt (cCall false 2 (run (k + 2) 7) (aCons (cv 0) (aCons (cc (.int 4)) aNil))) (cc (.int 0))))) [some (.r 0), some (.d (.tup l)), some (.d (.int dep)), none, none] (St ns a b s rest :: t) = .ok false (St ns a b s rest :: t) := by simp [isD]
      rw [z_seq, z_if, e1, lift_ok, if_neg Bool.false_ne_true, z_nx, SR.bind_nx, z_seq, z_if]
      by_cases q1 : l = []
      · have e2 : (bOr (bNot (cT (cIsi .tup (cv 1)))) (bOr (bNot (cT (cv 1))) (bOr (bC (opEq false) (cv 2) (cc (.int 0))) (bC (opEq false) (cCall false 2 (run (k + 2) 7) (aCons (cv 0) (aCons (cc (.int 9)) aNil))) (cc (.int 0)))))) [some (.r 0), some (.d (.tup l)), some (.d (.int dep)), none, none] (St ns a b s rest :: t) = .ok true (St ns a b s rest :: t) := by simp [isD, q1]
        rw [e2, lift_ok, if_pos rfl, z_ret]
        simp only [sk_bind, sk_lift]
        exact (odd_ok (e := []) ha hb).mono (fun w h o => o) fun _ _ _ q => q
      have hne : l.isEmpty = false := by cases l <;> first | rfl | exact absurd rfl q1
      by_cases q2 : dep = 0
      · have e2 : (bOr (bNot (cT (cIsi .tup (cv 1)))) (bOr (bNot (cT (cv 1))) (bOr (bC (opEq false) (cv 2) (cc (.int 0))) (bC (opEq false) (cCall false 2 (run (k + 2) 7) (aCons (cv 0) (aCons (cc (.int 9)) aNil))) (cc (.int 0)))))) [some (.r 0), some (.d (.tup l)), some (.d (.int dep)), none, none] (St ns a b s rest :: t) = .ok true (St ns a b s rest :: t) := by
          simp only [z_bOr, z_bNot, z_cT, z_isi, z_cvS, z_cv0, R.bind_ok, isD, z_truB, Bool.not_true, Bool.false_eq_true, if_false, z_truT, hne, Bool.not_false, z_bC, z_c2, z_cc, z_eqI, q2]
          rfl
        rw [e2, lift_ok, if_pos rfl, z_ret]
        simp only [sk_bind, sk_lift]
        exact (odd_ok (e := []) ha hb).mono (fun w h o => o) fun _ _ _ q => q
      obtain ⟨v1, a1, b1, s1, d1, h1, h2, h3, h4⟩ := draw_at (ns := ns) (s := s) (rest := rest) (t := t) (m := 9) ha hb (by omega)
      have d1 : run (k + 2) 7 [.r 0, .d (.int 9)] (St ns a b s rest :: t) = _ := d1
      have e2 : (bOr (bNot (cT (cIsi .tup (cv 1)))) (bOr (bNot (cT (cv 1))) (bOr (bC (opEq false) (cv 2) (cc (.int 0))) (bC (opEq false) (cCall false 2 (run (k + 2) 7) (aCons (cv 0) (aCons (cc (.int 9)) aNil))) (cc (.int 0)))))) [some (.r 0), some (.d (.tup l)), some (.d (.int dep)), none, none] (St ns a b s rest :: t) = .ok (v1 == 0) (St ns a1 b1 s1 rest :: t) := by
        have q3 : ((dep : Int) == 0) = false := by simpa using q2
        simp only [z_bOr, z_bNot, z_cT, z_isi, z_cvS, z_cv0, R.bind_ok, isD, z_truB, Bool.not_true, Bool.false_eq_true, if_false, z_truT, hne, Bool.not_false, z_bC, z_c2, z_cc, z_eqI, z_asB, q3, z_call, z_aCons, z_aNil, List.length_cons, List.length_nil, if_true, d1]
      rw [e2, lift_ok]
      by_cases q3 : v1 = 0
      · subst q3
        rw [if_pos (show ((0 : Int) == 0) = true from rfl), z_ret]
        simp only [sk_bind, sk_lift]
        exact (odd_ok (e := []) h3 h4).mono (fun w h o => o) fun _ _ _ q => q
      rw [if_neg (by simpa using q3), z_nx, SR.bind_nx]
      have hlen : 0 < l.length := List.length_pos_iff.mpr q1
      obtain ⟨v2, a2, b2, s2, d2, h1', h2', h3, h4⟩ := draw_at (ns := ns) (s := s1) (rest := rest) (t := t) (m := (l.length : Int)) h3 h4 (by omega)
      have d2 : run (k + 2) 7 [.r 0, .d (.int l.length)] (St ns a1 b1 s1 rest :: t) = _ := d2
      obtain ⟨j, rfl⟩ := Int.eq_ofNat_of_zero_le h1'
      have hj : j < l.length := by omega
      obtain ⟨v3, a3, b3, s3, d3, h1'', h2'', h3, h4⟩ := draw_at (ns := ns) (s := s2) (rest := rest) (t := t) (m := 8) h3 h4 (by omega)
      have d3 : run (k + 2) 7 [.r 0, .d (.int 8)] (St ns a2 b2 s2 rest :: t) = _ := d3
      have e3 : sAsg (cCall false 2 (run (k + 2) 7) (aCons (cv 0) (aCons (cCl biLen (aCons (cv 1) aNil)) aNil))) (tN 3) [some (.r 0), some (.d (.tup l)), some (.d (.int dep)), none, none] (St ns a1 b1 s1 rest :: t) = .nx [some (.r 0), some (.d (.tup l)), some (.d (.int dep)), some (.d (.int j)), none] (St ns a2 b2 s2 rest :: t) := by simp [d2]
      have e4 : sAsg (cCall false 2 (run (k + 2) 7) (aCons (cv 0) (aCons (cc (.int 8)) aNil))) (tN 4) [some (.r 0), some (.d (.tup l)), some (.d (.int dep)), some (.d (.int j)), none] (St ns a2 b2 s2 rest :: t) = .nx [some (.r 0), some (.d (.tup l)), some (.d (.int dep)), some (.d (.int j)), some (.d (.int v3))] (St ns a3 b3 s3 rest :: t) := by simp [d3]
      rw [seq_nx e3, seq_nx e4]
      have cl : ∀ lo hi, (cut l lo hi).length ≤ 100 := fun lo hi => Nat.le_trans (cut_len l lo hi) hl
      have tt : ∀ x y : List D, x.length ≤ 1000 → y.length ≤ 1000 → ∀ h, opAdd false (.d (.tup x)) (.d (.tup y)) h = .ok (.d (.tup (x ++ y))) h := fun x y hx hy h => by
        unfold opAdd
        dsimp only
        rw [if_pos (by omega)]
      by_cases r0 : v3 = 0
      · simp only [z_seq, z_if, z_bC, z_c2, z_cvS, z_cv0, R.bind_ok, z_cc, z_eqI, r0, z_asB, lift_ok, Bool.false_eq_true, if_false, beq_self_eq_true, if_true, z_ret, cSl, oN, oS, opSl, z_add, sk_bind, sk_lift]
        rw [tt _ _ (Nat.le_trans (cl _ _) (by omega)) (Nat.le_trans (cl _ _) (by omega))]
        exact ⟨_, _, _, _, rfl, rfl, h3, h4⟩
      by_cases r1 : v3 = 1
      · simp only [z_seq, z_if, z_bC, z_c2, z_cvS, z_cv0, R.bind_ok, z_cc, z_eqI, r1, z_asB, lift_ok, Bool.false_eq_true, if_false, beq_self_eq_true, if_true, z_ret, cSl, oN, oS, opSl, z_add, z_nx, SR.bind_nx, show ((1 : Int) == 0) = false from rfl]
        rw [tt _ _ (Nat.le_trans (cl _ _) (by omega)) (Nat.le_trans (cl _ _) (by omega)), R.bind_ok, tt _ _ (by rw [List.length_append]; have := cl none (some (j : Int)); have := cl (some (j : Int)) (some ((j : Int) + 1)); omega) (Nat.le_trans (cl _ _) (by omega))]
        exact ⟨_, _, _, _, rfl, rfl, h3, h4⟩
      by_cases r2 : v3 = 2
      · simp only [z_seq, z_if, z_bC, z_c2, z_cvS, z_cv0, R.bind_ok, z_cc, z_eqI, r2, z_asB, lift_ok, Bool.false_eq_true, if_false, beq_self_eq_true, if_true, z_ret, z_nx, SR.bind_nx, show ((2 : Int) == 0) = false from rfl, show ((2 : Int) == 1) = false from rfl, z_c1, z_revT]
        exact ⟨_, _, _, _, rfl, rfl, h3, h4⟩
      have n0 : (v3 == 0) = false := by simpa using r0
      have n1 : (v3 == 1) = false := by simpa using r1
      have n2 : (v3 == 2) = false := by simpa using r2
      have ed : ((dep : Int) - 1) = ((dep - 1 : Nat) : Int) := by omega
      have ei : opIx (.d (.tup l)) (.d (.int (j : Int))) (St ns a3 b3 s3 rest :: t) = .ok (.d l[j]) (St ns a3 b3 s3 rest :: t) := ix_t (List.getElem?_eq_getElem hj)
      obtain ⟨w, h, em, d, a4, b4, s4, rfl, rfl, g1, g2⟩ := (s12 (k + 2) l[j] (dep - 1) a3 b3 s3 (by omega) (hx _ (List.getElem_mem hj)) h3 h4).get
      simp only [z_seq, z_if, z_bC, z_c2, z_cvS, z_cv0, R.bind_ok, z_cc, z_eqI, n0, n1, n2, z_asB, lift_ok, Bool.false_eq_true, if_false, z_ret, z_nx, SR.bind_nx, cSl, oN, oS, opSl, z_cl, z_aCons, z_aNil, z_call, ei, z_sub, ed, List.length_cons, List.length_nil, if_true, em, mkT_1, z_add]
      rw [tt _ _ (Nat.le_trans (cl _ _) (by omega)) (by simp), R.bind_ok, tt _ _ (by rw [List.length_append]; have := cl none (some (j : Int)); simp; omega) (Nat.le_trans (cl _ _) (by omega))]
      exact ⟨_, _, _, _, rfl, rfl, g1, g2⟩
end
end K45
set_option Elab.async false
set_option linter.all false
set_option maxRecDepth 100000
set_option maxHeartbeats 1000000
namespace K45
open Fz
/-! ### what is asked -/
theorem bad_x {x : D} (h : valid x = false) {k : Nat} {e : Ev} {hh : Hh} (he : e[0]? = some (some (.d x))) : sExpr (cCall true 1 (run (k + 2) 1) (aCons (cv 0) aNil)) e hh = .ex 0 (.d spansS) e hh := by
  simp only [z_expr, z_call, z_aCons, z_aNil, z_cv he, R.bind_ok, List.length_cons, List.length_nil, if_true, p1, h, Bool.false_eq_true, if_false, lift_ex]
theorem bad3 {x : D} (h : valid x = false) {k : Nat} {hh : Hh} : run (k + 3) 3 [.d x] hh = .ex 0 (.d spansS) hh := by
  rw [run_3]
  refine fn_ex (e := [some (.d x), none, none, none, none, none, none, none]) rfl ?_
  unfold c_3
  exact seq_ex (bad_x h rfl)
theorem bad4 {x : D} (h : valid x = false) {k : Nat} {hh : Hh} : run (k + 3) 4 [.d x] hh = .ex 0 (.d spansS) hh := by
  rw [run_4]
  refine fn_ex (e := [some (.d x), none, none, none, none]) rfl ?_
  unfold c_4
  exact seq_ex (bad_x h rfl)
theorem bad5 {x : D} (h : valid x = false) {k : Nat} {hh : Hh} : run (k + 3) 5 [.d x] hh = .ex 0 (.d spansS) hh := by
  rw [run_5]
  refine fn_ex (e := [some (.d x), none, none, none, none, none, none, none, none, none]) rfl ?_
  unfold c_5
  exact seq_ex (bad_x h rfl)
def judgeQ : List Nat := [106, 117, 100, 103, 101, 95, 115, 116, 97, 99, 107]
def deepQ : List Nat := [100, 101, 101, 112, 101, 115, 116]
def stacksQ : List Nat := [102, 101, 119, 101, 115, 116, 95, 115, 116, 97, 99, 107, 115]
theorem pure_ex {g : Fn} {ws : List W} {ds : List D} {c : Nat} {d : D} {h h' : Hh} (ha : allD ws = some ds) (hg : g ws [] = .ex c (.d d) h') : pure' g ws h = .ex c (.d d) h := by
  unfold pure'
  rw [ha]
  dsimp only
  rw [hg]
def argS : D := .str [97, 114, 103, 117, 109, 101, 110, 116, 32, 115, 112, 97, 110, 115]
/-- the ways -/
def way (q : List Nat) (l : List (Int × Int)) : D := if q = judgeQ then jd l else if q = deepQ then (bestN l).d else stkD l
theorem ask {k : Nat} {q : List Nat} {x : D} {h : Hh} (hq : q = judgeQ ∨ q = deepQ ∨ q = stacksQ) :
    (valid x = false → run (k + 4) 10 [.f q, .d (.lst [x])] h = .ok (.d argS) h) ∧ (∀ l, x = sps l → l.length ≤ 60 → (∀ p ∈ l, okP' p) → run (k + 4) 10 [.f q, .d (.lst [x])] h = .ok (.d (.lst [way q l])) h) := by
  have key : ∀ (g : Fn), tbl_1 (run (k + 3)) q = some (true, g) → run (k + 4) 10 [.f q, .d (.lst [x])] h = asked [0] su_0 (pure' g [.d x] h) := fun g hg =>
    (ask7_1 (t1 := tbl_1 (run (k + 3))) (t2 := tbl_2 (run (k + 3))) (t3 := tbl_3 (run (k + 3))) (t4 := tbl_4 (run (k + 3))) (t5 := tbl_5 (run (k + 3))) (t6 := tbl_6 (run (k + 3))) (t7 := tbl_7 (run (k + 3))) (cs := [0]) (su := su_0) (x1 := x) hg)
  rcases hq with rfl | rfl | rfl
  · have e := key (run (k + 3) 3) rfl
    refine ⟨fun hb => ?_, fun l hx hl hv => ?_⟩
    · rw [e, pure_ex rfl (bad3 hb)]; rfl
    · subst hx
      rw [e, pure_ok rfl (s3 hl hv)]
      rfl
  · have e := key (run (k + 3) 4) rfl
    refine ⟨fun hb => ?_, fun l hx hl hv => ?_⟩
    · rw [e, pure_ex rfl (bad4 hb)]; rfl
    · subst hx
      rw [e, pure_ok rfl (s4 hl hv)]
      rfl
  · have e := key (run (k + 3) 5) rfl
    refine ⟨fun hb => ?_, fun l hx hl hv => ?_⟩
    · rw [e, pure_ex rfl (bad5 hb)]; rfl
    · subst hx
      obtain ⟨h', e5⟩ := s5 (k := k) hl hv
      rw [e, pure_ok rfl e5]
      rfl
/-! ### sizes -/
theorem smal_i {i : Int} (h : i.natAbs < 2 ^ 10) : Smal 0 11 (.int i) := smal_int h (by omega)
theorem smal_nums {l : List (Int × Int)} (hl : l.length ≤ 60) : Smal 1 800 (nums l) := by
  have h := smal_tup (smalL_map (m := 0) (n := 11) (f := fun x : (Int × Int) × Nat => D.int (x.2 : Nat)) (L := srt l) fun x hx => smal_i (by
    have : x.2 ∈ ord l := List.mem_map.mpr ⟨x, hx, rfl⟩
    have := ord_lt this
    omega))
  exact h.mono (by omega) (by rw [srt_len]; omega)
theorem smal_jd {l : List (Int × Int)} (hl : l.length ≤ 60) : Smal 2 1000 (jd l) := by
  cases hq : (List.range l.length).findSome? fun j => (first l j).map fun i => W.d (pairD i j) with
  | none =>
    rw [jd_none hq]
    exact (smal_tup (smalL_cons ((smal_str (m := 1) (by decide)).mono (Nat.le_refl 1) (Nat.le_refl _)) (smalL_cons (smal_nums hl) smalL_nil))).mono (by omega) (by simp)
  | some w =>
    have hw := jd_some hq
    obtain ⟨j, hj, hf⟩ := List.exists_of_findSome?_eq_some hq
    rw [Option.map_eq_some_iff] at hf
    obtain ⟨i, hi, rfl⟩ := hf
    have hij : i < j := List.mem_range.mp (List.mem_of_find?_eq_some hi)
    have hj := List.mem_range.mp hj
    have e : jd l = pairD i j := by injection hw with hw; exact hw.symm
    rw [e]
    exact (smal_tup (smalL_cons (smal_str (m := 0) (by decide)) (smalL_cons (smal_i (by omega)) (smalL_cons (smal_i (by omega)) smalL_nil)))).mono (by omega) (by simp)
theorem cnt_le {l : List (Int × Int)} {m : Int} : cnt l m ≤ l.length := List.length_filter_le _ _
theorem best_ok {l : List (Int × Int)} (hl : l.length ≤ 60) (hv : ∀ p ∈ l, okP' p) : Smal 1 40 (bestN l).d := by
  have key : ∀ (L : List Int) (b : Bst), (∀ x ∈ L, 0 ≤ x ∧ x ≤ 1000) → (b.n ≤ 60 ∧ ∀ m, b.m = some m → 0 ≤ m ∧ m ≤ 1000) → ((L.foldl (stepB l) b).n ≤ 60 ∧ ∀ m, (L.foldl (stepB l) b).m = some m → 0 ≤ m ∧ m ≤ 1000) := by
    intro L
    induction L with
    | nil => intro b _ h; exact h
    | cons x L ih =>
      intro b hx h
      refine ih _ (fun y hy => hx y (by simp [hy])) ?_
      unfold stepB
      split
      · refine ⟨Nat.le_trans cnt_le hl, fun m hm => ?_⟩
        cases hm
        exact hx x (by simp)
      · exact h
  obtain ⟨h1, h2⟩ := key (begins l) ⟨0, none⟩ (fun x hx => by
    unfold begins at hx
    rw [isort_mem] at hx
    obtain ⟨p, hp, rfl⟩ := List.mem_map.mp hx
    have := hv p hp
    simp only [okP'] at this
    omega) ⟨by simp, by simp⟩
  change (bestN l).n ≤ 60 at h1
  change ∀ m, (bestN l).m = some m → _ at h2
  unfold Bst.d
  cases hm : (bestN l).m with
  | none => exact (smal_tup (smalL_cons (smal_i (by omega)) (smalL_cons smal_non smalL_nil))).mono (by omega) (by omega)
  | some m =>
    have := h2 m hm
    exact (smal_tup (smalL_cons (smal_i (by omega)) (smalL_cons (smal_i (by omega)) smalL_nil))).mono (by omega) (by omega)
theorem mem_look {i o : Nat} : ∀ {s : Sk'}, s.lookup i = some o → (i, o) ∈ s
  | [], h => by simp at h
  | (a, b) :: s, h => by
    rw [List.lookup_cons] at h
    by_cases q : i = a
    · subst q
      simp at h
      simp [h]
    · rw [beq_eq_false_iff_ne.mpr q] at h
      simp [mem_look h]
theorem smal_stk {l : List (Int × Int)} (hl : l.length ≤ 60) : Smal 1 800 (stkD l) := by
  have hi := (stk_inv (l := l) (fun _ => True) trivial fun _ _ _ _ _ _ => trivial).2
  have h := smal_tup (smalL_map (m := 0) (n := 11) (f := fun i : Nat => D.int (val (stk l) i : Nat)) (L := List.range l.length) fun i _ => smal_i (by
    have : val (stk l) i ≤ 60 := by
      unfold val
      cases hq : (stk l).lookup i with
      | none => simp
      | some o =>
        have := hi.mx (i, o) (mem_look hq)
        simp at this ⊢
        omega
    omega))
  exact h.mono (by omega) (by rw [List.length_range]; omega)
/-- what is told of a row of spans -/
def told (l : List (Int × Int)) : D := .lst [.lst [jd l], .lst [(bestN l).d], .lst [stkD l]]
theorem show_told {l : List (Int × Int)} (hl : l.length ≤ 60) (hv : ∀ p ∈ l, okP' p) : canShow (told l) = true := by
  have h1 := (smal_lst (smalL_cons (smal_jd hl) smalL_nil)).mono (Nat.le_refl 3) (Nat.le_refl _)
  have h2 := (smal_lst (smalL_cons (best_ok hl hv) smalL_nil)).mono (show 2 ≤ 3 by omega) (Nat.le_refl _)
  have h3 := (smal_lst (smalL_cons (smal_stk hl) smalL_nil)).mono (show 2 ≤ 3 by omega) (Nat.le_refl _)
  exact (smal_lst (smalL_cons h1 (smalL_cons h2 (smalL_cons h3 smalL_nil)))).show' (by omega) (by omega)
theorem p9 {k : Nat} {d : D} {h : Hh} (hd : canShow d = true) : pure' (run (k + 1) 9) [.d d, .d d] h = .ok (.d (.bl true)) h := same_pure hd
theorem e6 (k : Nat) : run (k + 1) 6 = mkFn 1 3 startC := rfl
end K45
set_option Elab.async false
set_option linter.all false
set_option maxRecDepth 100000
set_option maxHeartbeats 1000000
namespace K45
open Fz
/-! ### the law -/
section
variable {ns : List Int} {t : Hh}
/-- a span more -/
def spansO (L : List (Int × Int)) : O := .lst (L.map fun p => .d (sp p))
theorem row19 {k n : Nat} {most : Int} {L : List (Int × Int)} {a b s : Int} {x2 x5 x6 x7 x8 x9 x10 : Option W} (ha : 0 ≤ a) (hb : 0 ≤ b) (hm : 0 < most ∧ most ≤ 1000) (hn : t[n]? = some (spansO L)) (hL : L.length ≤ 60) (hv : ∀ p ∈ L, okP' p) :
    ∃ y6 a' b' s' L', c_19_0 (run (k + 2)) [some (scr ns), some (.r 0), x2, some (.d (.int most)), some (.r (n + 1)), x5, x6, x7, x8, x9, x10] (St ns a b s [] :: t) = .nx [some (scr ns), some (.r 0), x2, some (.d (.int most)), some (.r (n + 1)), x5, y6, x7, x8, x9, x10] (St ns a' b' s' [] :: t.set n (spansO L')) ∧ 0 ≤ a' ∧ 0 ≤ b' ∧ L'.length = L.length + 1 ∧ ∀ p ∈ L', okP' p := by
  obtain ⟨v1, a1, b1, s1, d1, h1, h2, h3, h4⟩ := draw_at (ns := ns) (s := s) (rest := []) (t := t) (m := most) ha hb (by omega)
  have d1 : run (k + 2) 7 [.r 0, .d (.int most)] (St ns a b s [] :: t) = _ := d1
  obtain ⟨v2, a2, b2, s2, d2, g1, g2, h3, h4⟩ := draw_at (ns := ns) (s := s1) (rest := []) (t := t) (m := most - v1) h3 h4 (by omega)
  have d2 : run (k + 2) 7 [.r 0, .d (.int (most - v1))] (St ns a1 b1 s1 [] :: t) = _ := d2
  have hnl : n < t.length := (List.getElem?_eq_some_iff.mp hn).1
  let L1 := L ++ [(v1, v1 + 1 + v2)]
  have hv1 : ∀ p ∈ L1, okP' p := fun p hp => by
    rcases List.mem_append.mp hp with hp | hp
    · exact hv p hp
    · rw [List.mem_singleton.mp hp]
      simp only [okP']
      omega
  obtain ⟨v3, a3, b3, s3, d3, f1, f2, h3, h4⟩ := draw_at (ns := ns) (s := s2) (rest := []) (t := t.set n (spansO L1)) (m := 5) h3 h4 (by omega)
  have d3 : run (k + 2) 7 [.r 0, .d (.int 5)] (St ns a2 b2 s2 [] :: t.set n (spansO L1)) = _ := d3
  have ea : mAppend (.r (n + 1)) [.d (sp (v1, v1 + 1 + v2))] (St ns a2 b2 s2 [] :: t) = .ok (.d .non) (St ns a2 b2 s2 [] :: t.set n (spansO L1)) := by
    unfold mAppend
    dsimp only
    rw [List.getElem?_cons_succ, hn]
    unfold spansO
    dsimp only
    rw [if_pos (by rw [List.length_map]; omega)]
    simp [L1]
  have el : ∀ a b s, lstW (.r (n + 1)) (St ns a b s [] :: t) = some (L.map fun p => .d (sp p)) := fun a b s => by
    unfold lstW
    dsimp only
    rw [List.getElem?_cons_succ, hn]
    rfl
  unfold c_19_0
  have q1 : sAsg (cCall false 2 (run (k + 2) 7) (aCons (cv 1) (aCons (cv 3) aNil))) (tN 6) [some (scr ns), some (.r 0), x2, some (.d (.int most)), some (.r (n + 1)), x5, x6, x7, x8, x9, x10] (St ns a b s [] :: t) = .nx [some (scr ns), some (.r 0), x2, some (.d (.int most)), some (.r (n + 1)), x5, some (.d (.int v1)), x7, x8, x9, x10] (St ns a1 b1 s1 [] :: t) := by
    simp [d1]
  have q2 : sExpr (cLm mAppend (cv 4) (aCons (cCl mkT (aCons (cv 6) (aCons (c2 (opAdd false) (c2 (opAdd false) (cv 6) (cc (.int 1))) (cCall false 2 (run (k + 2) 7) (aCons (cv 1) (aCons (c2 opSub (cv 3) (cv 6)) aNil)))) aNil))) aNil)) [some (scr ns), some (.r 0), x2, some (.d (.int most)), some (.r (n + 1)), x5, some (.d (.int v1)), x7, x8, x9, x10] (St ns a1 b1 s1 [] :: t) = .nx [some (scr ns), some (.r 0), x2, some (.d (.int most)), some (.r (n + 1)), x5, some (.d (.int v1)), x7, x8, x9, x10] (St ns a2 b2 s2 [] :: t.set n (spansO L1)) := by
    have : mkT [.d (.int v1), .d (.int (v1 + 1 + v2))] (St ns a2 b2 s2 [] :: t) = .ok (.d (sp (v1, v1 + 1 + v2))) (St ns a2 b2 s2 [] :: t) := rfl
    simp [cLm, el, d2, this, ea]
  rw [seq_nx q1, seq_nx q2]
  have hg : (t.set n (spansO L1))[n]? = some (spansO L1) := List.getElem?_set_self hnl
  by_cases q3 : v3 = 0
  · subst q3
    have hp := pick_r (ns := ns) (a := a3) (b := b3) (s := s3) (rest := []) (t := t.set n (spansO L1)) (n := n) (l := L1.map fun p => .d (sp p)) (P := fun w h => ∃ p a' b' s', p ∈ L1 ∧ w = .d (sp p) ∧ h = St ns a' b' s' [] :: t.set n (spansO L1) ∧ 0 ≤ a' ∧ 0 ≤ b') (E := noE) hg h3 h4 (by simp [L1]; omega) fun x a' b' s' hx z1 z2 => by
      obtain ⟨p, hp, rfl⟩ := List.mem_map.mp hx
      exact ⟨p, a', b', s', hp, rfl, rfl, z1, z2⟩
    obtain ⟨w, h, ep, p, a', b', s', hp, rfl, rfl, z1, z2⟩ := hp.get
    have ep : run (k + 2) 8 [.r 0, .r (n + 1)] (St ns a3 b3 s3 [] :: t.set n (spansO L1)) = _ := ep
    have es : setAt (.r (n + 1)) (.d (.int (-1))) (.d (sp p)) (St ns a' b' s' [] :: t.set n (spansO L1)) = some (St ns a' b' s' [] :: t.set n (spansO (L1.set L.length p))) := by
      unfold setAt
      dsimp only
      rw [List.getElem?_cons_succ, hg]
      unfold spansO
      dsimp only
      have hx : L2.ixN (L1.map fun p => W.d (sp p)).length (-1) = some L.length := by
        simp [L1, L2.ixN]
        omega
      rw [hx]
      simp [List.map_set]
    refine ⟨some (.d (.int v1)), a', b', s', L1.set L.length p, ?_, z1, z2, by simp [L1], fun q hq => ?_⟩
    · simp [d3, ep, es]
    · rcases List.mem_or_eq_of_mem_set hq with hq | rfl
      · exact hv1 q hq
      · exact hv1 q hp
  · refine ⟨some (.d (.int v1)), a3, b3, s3, L1, ?_, h3, h4, by simp [L1], hv1⟩
    simp [d3, q3]
/-- odd values -/
theorem Few.sps (l : List (Int × Int)) (hl : l.length ≤ 60) : Few (sps l) := .tup (by rw [List.length_map]; omega) fun x hx => by
  obtain ⟨p, _, rfl⟩ := List.mem_map.mp hx
  exact .tup (by simp) fun y hy => by
    simp only [List.mem_cons, List.not_mem_nil, or_false] at hy
    rcases hy with rfl | rfl <;> exact .int
def oddL : List D := [.non, .lst [], .tup [.tup [.int 0, .int 0]], .tup [.tup [.int 1, .int 0]], .tup [.tup [.int 0, .int 1000]], .tup [.tup [.int 0, .int 1001]], .tup [.tup [.int (-1), .int 2]], .tup [.tup [.bl true, .int 2]],
  .tup (List.replicate 60 [D.tup [.int 0, .int 1]]).flatten, .tup (List.replicate 61 [D.tup [.int 0, .int 1]]).flatten, .tup [.tup [.int 0, .int 1, .int 2]], .tup [.int 5]]
/-- each way is asked as it should be -/
theorem row_way {k n : Nat} {x : D} {e : Ev} {h : Hh} {x0 x1 x2 x3 x4 x5 x6 x7 x8 : Option W} {q : List Nat} (hq : q = judgeQ ∨ q = deepQ ∨ q = stacksQ) :
    c_19_1 (run (k + 4)) [x0, x1, x2, x3, x4, x5, x6, x7, x8, some (.d x), some (.f q)] h = .nx [x0, x1, x2, x3, x4, x5, x6, x7, x8, some (.d x), some (.f q)] h := by
  obtain ⟨h1, h2⟩ := ask (k := k) (x := x) (h := h) hq
  have em : mkL [.d x] h = .ok (.d (.lst [x])) h := rfl
  have eb : ∀ a b : Bool, opEq true (.d (.bl a)) (.d (.bl b)) h = .ok (.d (.bl (a != b))) h := fun a b => by
    unfold opEq
    cases a <;> cases b <;> rfl
  cases hv : valid x with
  | true =>
    obtain ⟨l, rfl, hl, hp⟩ := valid_sps hv
    have e10 := h2 l rfl hl hp
    simp [c_19_1, em, e10, p18, hv, isD, eb]
  | false =>
    have e10 := h1 hv
    have es : opEq true (.d argS) (.d (.str [97, 114, 103, 117, 109, 101, 110, 116, 32, 115, 112, 97, 110, 115])) h = .ok (.d (.bl false)) h := rfl
    simp [c_19_1, em, e10, p18, hv, argS, isD, eb]
    simp [argS] at es
    rw [es]
    simp
end
end K45
set_option Elab.async false
set_option linter.all false
set_option maxRecDepth 100000
set_option maxHeartbeats 1000000
namespace K45
open Fz
section
variable {ns : List Int} {t : Hh}
theorem odd_list {h : Hh} {e : Ev} : (cCl mkL (aCons (cc .non) (aCons (cCl mkL aNil) (aCons (cCl mkT (aCons (cCl mkT (aCons (cc (.int 0)) (aCons (cc (.int 0)) aNil))) aNil)) (aCons (cCl mkT (aCons (cCl mkT (aCons (cc (.int 1)) (aCons (cc (.int 0)) aNil))) aNil)) (aCons (cCl mkT (aCons (cCl mkT (aCons (cc (.int 0)) (aCons (cc (.int 1000)) aNil))) aNil)) (aCons (cCl mkT (aCons (cCl mkT (aCons (cc (.int 0)) (aCons (cc (.int 1001)) aNil))) aNil)) (aCons (cCl mkT (aCons (cCl mkT (aCons (c1 opNeg (cc (.int 1))) (aCons (cc (.int 2)) aNil))) aNil)) (aCons (cCl mkT (aCons (cCl mkT (aCons (cc (.bl true)) (aCons (cc (.int 2)) aNil))) aNil)) (aCons (c2 (opMul false) (cCl mkT (aCons (cCl mkT (aCons (cc (.int 0)) (aCons (cc (.int 1)) aNil))) aNil)) (cc (.int 60))) (aCons (c2 (opMul false) (cCl mkT (aCons (cCl mkT (aCons (cc (.int 0)) (aCons (cc (.int 1)) aNil))) aNil)) (cc (.int 61))) (aCons (cCl mkT (aCons (cCl mkT (aCons (cc (.int 0)) (aCons (cc (.int 1)) (aCons (cc (.int 2)) aNil)))) aNil)) (aCons (cCl mkT (aCons (cc (.int 5)) aNil)) aNil))))))))))))) e h = .ok (.d (.lst oddL)) h := by
  have m0 : mkL [] h = .ok (.d (.lst [])) h := rfl
  have m60 : opMul false (.d (.tup [.tup [.int 0, .int 1]])) (.d (.int 60)) h = .ok (.d (.tup (List.replicate 60 [D.tup [.int 0, .int 1]]).flatten)) h := rfl
  have m61 : opMul false (.d (.tup [.tup [.int 0, .int 1]])) (.d (.int 61)) h = .ok (.d (.tup (List.replicate 61 [D.tup [.int 0, .int 1]]).flatten)) h := rfl
  simp only [z_cl, z_aCons, z_cc, z_aNil, R.bind_ok, m0, mkT_1, mkT_2, mkT_3, z_c1, z_neg, z_c2, m60, m61]
  have : ∀ l : List D, l.length ≤ 1000 → mkL (l.map .d) h = .ok (.d (.lst l)) h := fun l hl => by
    unfold mkL
    rw [allD_map]
    dsimp only
    rw [if_pos (by have : (1000 : Nat) ≤ PySem.sizeLine := by decide
                   omega)]
  exact this oddL (by simp [oddL])
theorem row_k {k : Nat} {l : List (Int × Int)} {a b s : Int} {x0 x2 x3 x5 x6 x7 x8 x9 x10 : Option W} (hl : l.length ≤ 60) (hv : ∀ p ∈ l, okP' p) (ha : 0 ≤ a) (hb : 0 ≤ b) :
    ∃ y8 y9 y10 a' b' s' t', c_19_2 (run (k + 12)) [x0, some (.r 0), x2, x3, some (.d (sps l)), x5, x6, x7, x8, x9, x10] (St ns a b s [] :: t) = .nx [x0, some (.r 0), x2, x3, some (.d (sps l)), x5, x6, x7, y8, y9, y10] (St ns a' b' s' [] :: t') ∧ 0 ≤ a' ∧ 0 ≤ b' := by
  obtain ⟨w1, h1, e1, d1, a1, b1, s1, rfl, rfl, g1, g2⟩ := (s12 (ns := ns) (rest := []) (t := t) (k + 12) (sps l) 3 a b s (by omega) (Few.sps l hl) ha hb).get
  obtain ⟨w2, h2, e2, d2, a2, b2, s2, rfl, rfl, g3, g4⟩ := (pick_l (ns := ns) (s := s1) (rest := []) (t := t) (l := oddL) (P := Out ns [] t) (E := noE) g1 g2 (by simp [oddL]) fun x a' b' s' _ z1 z2 => ⟨x, a', b', s', rfl, rfl, z1, z2⟩).get
  have e2 : run (k + 12) 8 [.r 0, .d (.lst oddL)] (St ns a1 b1 s1 [] :: t) = _ := e2
  obtain ⟨w3, h3, e3, x, a3, b3, s3, rfl, rfl, g5, g6⟩ := (pick_l (ns := ns) (s := s2) (rest := []) (t := t) (l := [d1, d2]) (P := Out ns [] t) (E := noE) g3 g4 (by simp) fun x a' b' s' _ z1 z2 => ⟨x, a', b', s', rfl, rfl, z1, z2⟩).get
  have e3 : run (k + 12) 8 [.r 0, .d (.lst [d1, d2])] (St ns a2 b2 s2 [] :: t) = _ := e3
  have em : ∀ h, mkL [.d d1, .d d2] h = .ok (.d (.lst [d1, d2])) h := fun h => rfl
  let fs : List W := [.f judgeQ, .f deepQ, .f stacksQ]
  have hH : (St ns a3 b3 s3 [] :: (t ++ [O.lst fs]))[t.length + 1]? = some (.lst fs) := by
    rw [List.getElem?_cons_succ]
    simp
  have q1 : sAsg (cCall false 2 (run (k + 12) 8) (aCons (cv 1) (aCons (cCl mkL (aCons (cCall false 3 (run (k + 12) 12) (aCons (cv 1) (aCons (cv 4) (aCons (cc (.int 3)) aNil)))) (aCons (cCall false 2 (run (k + 12) 8) (aCons (cv 1) (aCons (cv 8) aNil))) aNil))) aNil))) (tN 9) [x0, some (.r 0), x2, x3, some (.d (sps l)), x5, x6, x7, some (.d (.lst oddL)), x9, x10] (St ns a b s [] :: t) = .nx [x0, some (.r 0), x2, x3, some (.d (sps l)), x5, x6, x7, some (.d (.lst oddL)), some (.d x), x10] (St ns a3 b3 s3 [] :: t) := by
    have e1 : run (k + 12) 12 [.r 0, .d (sps l), .d (.int 3)] (St ns a b s [] :: t) = _ := e1
    simp only [z_asg, z_call, z_aCons, z_aNil, z_cl, z_cc, z_cv0, z_cvS, R.bind_ok, List.length_cons, List.length_nil, if_true, Bool.false_eq_true, if_false, e1, e2, em, e3, lift_ok, z_tN, List.set_cons_succ, List.set_cons_zero]
  obtain ⟨hc1, hc2⟩ := it_r (n := t.length + 1) (c := cCl mkM (aCons (cF judgeQ) (aCons (cF deepQ) (aCons (cF stacksQ) aNil)))) (e := [x0, some (.r 0), x2, x3, some (.d (sps l)), x5, x6, x7, some (.d (.lst oddL)), some (.d x), x10]) (h := St ns a3 b3 s3 [] :: t) (h' := St ns a3 b3 s3 [] :: (t ++ [O.lst fs])) (l := fs) rfl hH
  obtain ⟨e', q2, y10, rfl⟩ := sFor_const (t := yN (tN 10)) (b := c_19_1 (run (k + 12))) (fun e => ∃ y10, e = [x0, some (.r 0), x2, x3, some (.d (sps l)), x5, x6, x7, some (.d (.lst oddL)), some (.d x), y10]) hc1 hc2 ⟨x10, rfl⟩ fun y hy e he => by
    obtain ⟨y10, rfl⟩ := he
    obtain ⟨w, hw, rfl⟩ := List.mem_map.mp hy
    have hq : ∃ q, w = .f q ∧ (q = judgeQ ∨ q = deepQ ∨ q = stacksQ) := by
      simp only [fs, List.mem_cons, List.not_mem_nil, or_false] at hw
      rcases hw with rfl | rfl | rfl
      · exact ⟨_, rfl, .inl rfl⟩
      · exact ⟨_, rfl, .inr (.inl rfl)⟩
      · exact ⟨_, rfl, .inr (.inr rfl)⟩
    obtain ⟨q, rfl, hq⟩ := hq
    exact ⟨_, _, rfl, row_way (k := k + 8) (n := 0) (e := []) hq, _, rfl⟩
  refine ⟨some (.d (.lst oddL)), some (.d x), y10, a3, b3, s3, t ++ [O.lst fs], ?_, g5, g6⟩
  unfold c_19_2
  refine (seq_nx (e' := [x0, some (.r 0), x2, x3, some (.d (sps l)), x5, x6, x7, some (.d (.lst oddL)), x9, x10]) (h' := St ns a b s [] :: t) ?_).trans ?_
  · rw [z_asg, odd_list]
    rfl
  exact (seq_nx q1).trans q2
/-- a turn -/
theorem turn {k : Nat} {a b s : Int} {x2 x3 x4 x5 x6 x7 x8 x9 x10 : Option W} (ha : 0 ≤ a) (hb : 0 ≤ b) :
    ∃ y3 y4 y5 y6 y7 y8 y9 y10 a' b' s' t', c_19_3 (run (k + 12)) [some (scr ns), some (.r 0), x2, x3, x4, x5, x6, x7, x8, x9, x10] (St ns a b s [] :: t) = .nx [some (scr ns), some (.r 0), x2, y3, y4, y5, y6, y7, y8, y9, y10] (St ns a' b' s' [] :: t') ∧ 0 ≤ a' ∧ 0 ≤ b' := by
  obtain ⟨w1, h1, e1, most, a1, b1, s1, rfl, rfl, g1, g2, hm⟩ := (pick_l (ns := ns) (s := s) (rest := []) (t := t) (l := [.int 4, .int 12, .int 1000]) (P := fun w h => ∃ m a' b' s', w = .d (.int m) ∧ h = St ns a' b' s' [] :: t ∧ 0 ≤ a' ∧ 0 ≤ b' ∧ 0 < m ∧ m ≤ 1000) (E := noE) ha hb (by simp) fun x a' b' s' hx z1 z2 => by
    simp only [List.mem_cons, List.not_mem_nil, or_false] at hx
    rcases hx with rfl | rfl | rfl <;> exact ⟨_, _, _, _, rfl, rfl, z1, z2, by omega, by omega⟩).get
  have e1 : run (k + 12) 8 [.r 0, .d (.lst [.int 4, .int 12, .int 1000])] (St ns a b s [] :: t) = _ := e1
  let T1 := t ++ [spansO []]
  obtain ⟨w2, h2, e2, many, a2, b2, s2, rfl, rfl, g1, g2, hm2⟩ := (pick_l (ns := ns) (s := s1) (rest := []) (t := T1) (l := [.int 4, .int 9, .int 21]) (P := fun w h => ∃ m a' b' s', w = .d (.int m) ∧ h = St ns a' b' s' [] :: T1 ∧ 0 ≤ a' ∧ 0 ≤ b' ∧ 0 < m ∧ m ≤ 21) (E := noE) g1 g2 (by simp) fun x a' b' s' hx z1 z2 => by
    simp only [List.mem_cons, List.not_mem_nil, or_false] at hx
    rcases hx with rfl | rfl | rfl <;> exact ⟨_, _, _, _, rfl, rfl, z1, z2, by omega, by omega⟩).get
  have e2 : run (k + 12) 8 [.r 0, .d (.lst [.int 4, .int 9, .int 21])] (St ns a1 b1 s1 [] :: T1) = _ := e2
  obtain ⟨v, a3, b3, s3, e3, hv1, hv2, g1, g2⟩ := draw_at (ns := ns) (s := s2) (rest := []) (t := T1) (m := many) g1 g2 (by omega)
  have e3 : run (k + 12) 7 [.r 0, .d (.int many)] (St ns a2 b2 s2 [] :: T1) = _ := e3
  have m1 : ∀ h, mkL [.d (.int 4), .d (.int 12), .d (.int 1000)] h = .ok (.d (.lst [.int 4, .int 12, .int 1000])) h := fun h => rfl
  have m2 : ∀ h, mkL [.d (.int 4), .d (.int 9), .d (.int 21)] h = .ok (.d (.lst [.int 4, .int 9, .int 21])) h := fun h => rfl
  have mM : mkM [] (St ns a1 b1 s1 [] :: t) = .ok (.r (t.length + 1)) (St ns a1 b1 s1 [] :: T1) := rfl
  have q1 : sPar (aCons (cCall false 2 (run (k + 12) 8) (aCons (cv 1) (aCons (cCl mkL (aCons (cc (.int 4)) (aCons (cc (.int 12)) (aCons (cc (.int 1000)) aNil)))) aNil))) (aCons (cCl mkM aNil) aNil)) (tCns (tN 3) (tCns (tN 4) Fz.tNil)) [some (scr ns), some (.r 0), x2, x3, x4, x5, x6, x7, x8, x9, x10] (St ns a b s [] :: t) = .nx [some (scr ns), some (.r 0), x2, some (.d (.int most)), some (.r (t.length + 1)), x5, x6, x7, x8, x9, x10] (St ns a1 b1 s1 [] :: T1) := by
    simp only [z_par, z_call, z_aCons, z_aNil, z_cl, z_cc, z_cv0, z_cvS, R.bind_ok, List.length_cons, List.length_nil, if_true, Bool.false_eq_true, if_false, m1, e1, mM, lift_ok, z_tCns, z_tN, z_tNil, Option.bind_some, List.set_cons_succ, List.set_cons_zero]
  have hc : cR1 (aCons (cCall false 2 (run (k + 12) 7) (aCons (cv 1) (aCons (cCall false 2 (run (k + 12) 8) (aCons (cv 1) (aCons (cCl mkL (aCons (cc (.int 4)) (aCons (cc (.int 9)) (aCons (cc (.int 21)) aNil)))) aNil))) aNil))) aNil) [some (scr ns), some (.r 0), x2, some (.d (.int most)), some (.r (t.length + 1)), x5, x6, x7, x8, x9, x10] (St ns a1 b1 s1 [] :: T1) = .ok (fixS ((List.range v.toNat).map fun (i : Nat) => .w (.d (.int (i : Nat))))) (St ns a3 b3 s3 [] :: T1) := by
    refine r1_at (n := v) ?_ (by omega)
    simp only [z_call, z_aCons, z_aNil, z_cl, z_cc, z_cv0, z_cvS, R.bind_ok, List.length_cons, List.length_nil, if_true, Bool.false_eq_true, if_false, m2, e2, e3]
  have hT1 : T1[t.length]? = some (spansO []) := by simp [T1]
  obtain ⟨e', h', q2, x5', x6', a4, b4, s4, L, T, rfl, rfl, hT, g1, g2, hlen, hok⟩ := sFor_ix (t := yN (tN 5)) (b := c_19_0 (run (k + 12)))
    (fun j e h => ∃ x5 x6 a b s L T, e = [some (scr ns), some (.r 0), x2, some (.d (.int most)), some (.r (t.length + 1)), x5, x6, x7, x8, x9, x10] ∧ h = St ns a b s [] :: T ∧ T[t.length]? = some (spansO L) ∧ 0 ≤ a ∧ 0 ≤ b ∧ L.length = j ∧ ∀ p ∈ L, okP' p) hc ⟨_, _, _, _, _, [], T1, rfl, rfl, hT1, g1, g2, rfl, by simp⟩ fun j y e h hj he => by
    obtain ⟨x5, x6, a, b, s, L, T, rfl, rfl, hT, g1, g2, hl, ho⟩ := he
    rw [List.getElem?_map, Option.map_eq_some_iff] at hj
    obtain ⟨i, hi, rfl⟩ := hj
    have hj : j < v.toNat := by
      have := (List.getElem?_eq_some_iff.mp hi).1
      simpa using this
    have hTl : t.length < T.length := (List.getElem?_eq_some_iff.mp hT).1
    obtain ⟨y6, a', b', s', L', r, z1, z2, z3, z4⟩ := row19 (ns := ns) (t := T) (k := k + 10) (n := t.length) (most := most) (L := L) (x2 := x2) (x5 := some (.d (.int (i : Nat)))) (x6 := x6) (x7 := x7) (x8 := x8) (x9 := x9) (x10 := x10) (s := s) g1 g2 hm hT (by omega) ho
    exact ⟨_, _, _, rfl, r, _, _, _, _, _, L', _, rfl, rfl, List.getElem?_set_self hTl, z1, z2, by omega, z4⟩
  have hl : L.length ≤ 60 := by
    rw [List.length_map, List.length_range] at hlen
    omega
  have q3 : sAsg (cCl biTuple (aCons (cv 4) aNil)) (tN 4) [some (scr ns), some (.r 0), x2, some (.d (.int most)), some (.r (t.length + 1)), x5', x6', x7, x8, x9, x10] (St ns a4 b4 s4 [] :: T) = .nx [some (scr ns), some (.r 0), x2, some (.d (.int most)), some (.d (sps L)), x5', x6', x7, x8, x9, x10] (St ns a4 b4 s4 [] :: T) := by
    have el : lstW (.r (t.length + 1)) (St ns a4 b4 s4 [] :: T) = some (L.map fun p => .d (sp p)) := by
      unfold lstW
      dsimp only
      rw [List.getElem?_cons_succ, hT]
      rfl
    have et : biTuple [.r (t.length + 1)] (St ns a4 b4 s4 [] :: T) = .ok (.d (sps L)) (St ns a4 b4 s4 [] :: T) := by
      unfold biTuple
      dsimp only
      rw [el]
      have e2 : L.map (fun p => W.d (sp p)) = (L.map sp).map .d := by rw [List.map_map]; rfl
      dsimp only
      rw [e2]
      exact mkT_d (by rw [List.length_map]; omega)
    simp only [z_asg, z_cl, z_aCons, z_aNil, z_cv0, z_cvS, R.bind_ok, et, lift_ok, z_tN, List.set_cons_succ, List.set_cons_zero]
  have mS : ∀ h, mkL [.d (sps L)] h = .ok (.d (.lst [sps L])) h := fun h => rfl
  have mO : ∀ (d : D) h, mkL [.d d] h = .ok (.d (.lst [d])) h := fun d h => rfl
  have mT : ∀ (x y z : D) h, mkL [.d x, .d y, .d z] h = .ok (.d (.lst [x, y, z])) h := fun x y z h => rfl
  have r1 : ∀ h, run (k + 12) 10 [.f judgeQ, .d (.lst [sps L])] h = .ok (.d (.lst [jd L])) h := fun h => (ask (k := k + 8) (h := h) (.inl rfl)).2 L rfl hl hok
  have r2 : ∀ h, run (k + 12) 10 [.f deepQ, .d (.lst [sps L])] h = .ok (.d (.lst [(bestN L).d])) h := fun h => (ask (k := k + 8) (h := h) (.inr (.inl rfl))).2 L rfl hl hok
  have r3 : ∀ h, run (k + 12) 10 [.f stacksQ, .d (.lst [sps L])] h = .ok (.d (.lst [stkD L])) h := fun h => (ask (k := k + 8) (h := h) (.inr (.inr rfl))).2 L rfl hl hok
  have q4 : sAsg (cCl mkL (aCons (cCall false 2 (run (k + 12) 10) (aCons (cF [106, 117, 100, 103, 101, 95, 115, 116, 97, 99, 107]) (aCons (cCl mkL (aCons (cv 4) aNil)) aNil))) (aCons (cCall false 2 (run (k + 12) 10) (aCons (cF [100, 101, 101, 112, 101, 115, 116]) (aCons (cCl mkL (aCons (cv 4) aNil)) aNil))) (aCons (cCall false 2 (run (k + 12) 10) (aCons (cF [102, 101, 119, 101, 115, 116, 95, 115, 116, 97, 99, 107, 115]) (aCons (cCl mkL (aCons (cv 4) aNil)) aNil))) aNil)))) (tN 7) [some (scr ns), some (.r 0), x2, some (.d (.int most)), some (.d (sps L)), x5', x6', x7, x8, x9, x10] (St ns a4 b4 s4 [] :: T) = .nx [some (scr ns), some (.r 0), x2, some (.d (.int most)), some (.d (sps L)), x5', x6', some (.d (told L)), x8, x9, x10] (St ns a4 b4 s4 [] :: T) := by
    have f1 : ∀ q e h, cF q e h = .ok (.f q) h := fun _ _ _ => rfl
    have g1 := r1 (St ns a4 b4 s4 [] :: T)
    have g2 := r2 (St ns a4 b4 s4 [] :: T)
    have g3 := r3 (St ns a4 b4 s4 [] :: T)
    unfold judgeQ at g1
    unfold deepQ at g2
    unfold stacksQ at g3
    simp only [z_asg, z_cl, z_call, z_aCons, z_aNil, z_cv0, z_cvS, f1, R.bind_ok, mS, List.length_cons, List.length_nil, if_true, Bool.false_eq_true, if_false, g1, g2, g3, mT, lift_ok, z_tN, List.set_cons_succ, List.set_cons_zero]
    rfl
  have u1 : pure' (run (k + 12) 15) [.d (sps L)] (St ns a4 b4 s4 [] :: T) = .ok (.d (jd L)) (St ns a4 b4 s4 [] :: T) := pure_ok rfl (s15 (k := k + 10) hl hok)
  have u2 : pure' (run (k + 12) 16) [.d (sps L)] (St ns a4 b4 s4 [] :: T) = .ok (.d (bestN L).d) (St ns a4 b4 s4 [] :: T) := by
    obtain ⟨h', e⟩ := s16 (k := k + 11) (h := []) hl
    exact pure_ok rfl e
  have u3 : pure' (run (k + 12) 17) [.d (sps L)] (St ns a4 b4 s4 [] :: T) = .ok (.d (stkD L)) (St ns a4 b4 s4 [] :: T) := by
    obtain ⟨h', e⟩ := s17 (k := k + 10) hl hok
    exact pure_ok rfl e
  have u4 : pure' (run (k + 12) 9) [.d (told L), .d (told L)] (St ns a4 b4 s4 [] :: T) = .ok (.d (.bl true)) (St ns a4 b4 s4 [] :: T) := p9 (show_told hl hok)
  have q5 : bNot (cT (cCall true 2 (run (k + 12) 9) (aCons (cv 7) (aCons (cCl mkL (aCons (cCl mkL (aCons (cCall true 1 (run (k + 12) 15) (aCons (cv 4) aNil)) aNil)) (aCons (cCl mkL (aCons (cCall true 1 (run (k + 12) 16) (aCons (cv 4) aNil)) aNil)) (aCons (cCl mkL (aCons (cCall true 1 (run (k + 12) 17) (aCons (cv 4) aNil)) aNil)) aNil)))) aNil)))) [some (scr ns), some (.r 0), x2, some (.d (.int most)), some (.d (sps L)), x5', x6', some (.d (told L)), x8, x9, x10] (St ns a4 b4 s4 [] :: T) = .ok false (St ns a4 b4 s4 [] :: T) := by
    have et : W.d (.lst [.lst [jd L], .lst [(bestN L).d], .lst [stkD L]]) = .d (told L) := rfl
    simp only [z_bNot, z_cT, z_call, z_cl, z_aCons, z_aNil, z_cv0, z_cvS, R.bind_ok, List.length_cons, List.length_nil, if_true, u1, u2, u3, mO, mT, et, u4, z_truB, Bool.not_true]
  have hc4 : cR1 (aCons (cc (.int 4)) aNil) [some (scr ns), some (.r 0), x2, some (.d (.int most)), some (.d (sps L)), x5', x6', some (.d (told L)), x8, x9, x10] (St ns a4 b4 s4 [] :: T) = .ok (fixS ((List.range 4).map fun (i : Nat) => .w (.d (.int (i : Nat))))) (St ns a4 b4 s4 [] :: T) := r1_at (n := 4) rfl (by omega)
  obtain ⟨e', h', q6, y5, y8, y9, y10, a5, b5, s5, T5, rfl, rfl, g1, g2⟩ := sFor_ix (t := yN (tN 5)) (b := c_19_2 (run (k + 12)))
    (fun _ e h => ∃ y5 y8 y9 y10 a b s T, e = [some (scr ns), some (.r 0), x2, some (.d (.int most)), some (.d (sps L)), y5, x6', some (.d (told L)), y8, y9, y10] ∧ h = St ns a b s [] :: T ∧ 0 ≤ a ∧ 0 ≤ b) hc4 ⟨_, _, _, _, _, _, _, _, rfl, rfl, g1, g2⟩ fun j y e h hj he => by
    obtain ⟨y5, y8, y9, y10, a, b, s, T, rfl, rfl, g1, g2⟩ := he
    rw [List.getElem?_map, Option.map_eq_some_iff] at hj
    obtain ⟨i, hi, rfl⟩ := hj
    obtain ⟨z8, z9, z10, a', b', s', t', r, o1, o2⟩ := row_k (ns := ns) (t := T) (k := k) (l := L) (s := s) (x0 := some (scr ns)) (x2 := x2) (x3 := some (.d (.int most))) (x5 := some (.d (.int (i : Nat)))) (x6 := x6') (x7 := some (.d (told L))) (x8 := y8) (x9 := y9) (x10 := y10) hl hok g1 g2
    exact ⟨_, _, _, rfl, r, _, _, _, _, _, _, _, _, rfl, rfl, o1, o2⟩
  refine ⟨some (.d (.int most)), some (.d (sps L)), y5, x6', some (.d (told L)), y8, y9, y10, a5, b5, s5, T5, ?_, g1, g2⟩
  unfold c_19_3
  refine (seq_nx q1).trans ?_
  refine (seq_nx q2).trans ?_
  refine (seq_nx q3).trans ?_
  refine (seq_nx q4).trans ?_
  refine (seq_nx (e' := [some (scr ns), some (.r 0), x2, some (.d (.int most)), some (.d (sps L)), x5', x6', some (.d (told L)), x8, x9, x10]) (h' := St ns a4 b4 s4 [] :: T) ?_).trans q6
  rw [z_if, q5, lift_ok, if_neg Bool.false_ne_true, z_nx]
end
/-! ### the end -/
theorem plain (ns : List Int) (hn : ns.length ≤ 63) (_ : ∀ z ∈ ns, PySem.Builtin.Int.intBits z ≤ 1048576) : ∃ h', run 40 19 [scr ns] [] = .ok (.d (.bl true)) h' := by
  obtain ⟨w, h, e0, s, rfl, rfl⟩ := (start_ok (ns := ns) (P := fun w h => ∃ s, w = .r 0 ∧ h = [St ns 0 0 s []]) (E := noE) hn fun s => ⟨s, rfl, rfl⟩).get
  have e0 : run 39 6 [scr ns] [] = .ok (.r 0) [St ns 0 0 s []] := e0
  have q1 : sAsg (cCall false 1 (run 39 6) (aCons (cv 0) aNil)) (tN 1) [some (scr ns), none, none, none, none, none, none, none, none, none, none] [] = .nx [some (scr ns), some (.r 0), none, none, none, none, none, none, none, none, none] [St ns 0 0 s []] := by
    simp only [z_asg, z_call, z_aCons, z_aNil, z_cv0, R.bind_ok, List.length_cons, List.length_nil, if_true, Bool.false_eq_true, if_false, e0, lift_ok, z_tN, List.set_cons_succ, List.set_cons_zero]
  have hc : cR1 (aCons (cc (.int 3)) aNil) [some (scr ns), some (.r 0), none, none, none, none, none, none, none, none, none] [St ns 0 0 s []] = .ok (fixS ((List.range 3).map fun (i : Nat) => .w (.d (.int (i : Nat))))) [St ns 0 0 s []] := r1_at (n := 3) rfl (by omega)
  obtain ⟨e', h', q2, y2, y3, y4, y5, y6, y7, y8, y9, y10, a, b, s', T, rfl, rfl, g1, g2⟩ := sFor_ix (t := yN (tN 2)) (b := c_19_3 (run 39))
    (fun _ e h => ∃ y2 y3 y4 y5 y6 y7 y8 y9 y10 a b s T, e = [some (scr ns), some (.r 0), y2, y3, y4, y5, y6, y7, y8, y9, y10] ∧ h = St ns a b s [] :: T ∧ 0 ≤ a ∧ 0 ≤ b) hc ⟨_, _, _, _, _, _, _, _, _, 0, 0, s, [], rfl, rfl, by omega, by omega⟩ fun j y e h hj he => by
    obtain ⟨y2, y3, y4, y5, y6, y7, y8, y9, y10, a, b, s, T, rfl, rfl, g1, g2⟩ := he
    rw [List.getElem?_map, Option.map_eq_some_iff] at hj
    obtain ⟨i, hi, rfl⟩ := hj
    obtain ⟨z3, z4, z5, z6, z7, z8, z9, z10, a', b', s', t', r, o1, o2⟩ := turn (ns := ns) (t := T) (k := 27) (s := s) (x2 := some (.d (.int (i : Nat)))) (x3 := y3) (x4 := y4) (x5 := y5) (x6 := y6) (x7 := y7) (x8 := y8) (x9 := y9) (x10 := y10) g1 g2
    exact ⟨_, _, _, rfl, r, _, _, _, _, _, _, _, _, _, _, _, _, _, rfl, rfl, o1, o2⟩
  have u1 : ∀ h, pure' (run 39 3) [.d (sps [(0, 4), (2, 6)])] h = .ok (.d (jd [(0, 4), (2, 6)])) h := fun h => pure_ok rfl (s3 (k := 36) (h := []) (by decide) (by simp [okP']))
  have u2 : ∀ h, pure' (run 39 3) [.d (sps [(2, 3), (0, 4)])] h = .ok (.d (jd [(2, 3), (0, 4)])) h := fun h => pure_ok rfl (s3 (k := 36) (h := []) (by decide) (by simp [okP']))
  have u3 : ∀ h, pure' (run 39 5) [.d (sps [(0, 4), (2, 6), (1, 3)])] h = .ok (.d (stkD [(0, 4), (2, 6), (1, 3)])) h := fun h => by
    obtain ⟨h', e⟩ := s5 (k := 36) (l := [(0, 4), (2, 6), (1, 3)]) (by decide) (by simp [okP'])
    exact pure_ok rfl e
  have v1 : jd [(0, 4), (2, 6)] = .tup [.str [99, 114, 111, 115, 115], .int 0, .int 1] := by decide +kernel
  have v2 : jd [(2, 3), (0, 4)] = .tup [.str [115, 116, 97, 99, 107], .tup [.int 1, .int 0]] := by decide +kernel
  have v3 : stkD [(0, 4), (2, 6), (1, 3)] = .tup [.int 0, .int 1, .int 0] := by decide +kernel
  rw [v1] at u1
  rw [v2] at u2
  rw [v3] at u3
  simp only [sps, sp, List.map_cons, List.map_nil] at u1 u2 u3
  let RR : D := .lst [.tup [.str [99, 114, 111, 115, 115], .int 0, .int 1], .tup [.str [115, 116, 97, 99, 107], .tup [.int 1, .int 0]], .tup [.int 0, .int 1, .int 0]]
  have u9 : ∀ h, pure' (run 39 9) [.d RR, .d RR] h = .ok (.d (.bl true)) h := fun h => p9 (by decide +kernel)
  have mT : ∀ (x y z : D) h, mkL [.d x, .d y, .d z] h = .ok (.d (.lst [x, y, z])) h := fun x y z h => rfl
  refine ⟨St ns a b s' [] :: T, ?_⟩
  rw [run_19]
  refine fn_rt rfl ?_
  unfold c_19
  refine (seq_nx q1).trans ?_
  refine (seq_nx q2).trans ?_
  simp only [z_ret, z_call, z_cl, z_aCons, z_aNil, z_cc, R.bind_ok, List.length_cons, List.length_nil, if_true, mkT_1, mkT_2, mkT_3, u1, u2, u3, mT]
  exact congrArg (fun m => lift m _ fun w h => SR.rt w h) (u9 _)
end K45
open PySem PySem.W PyProof.Rows in
set_option maxRecDepth 100000 in
set_option maxHeartbeats 0 in
theorem PySem.Challenge.cw_nowayleft_k45_spans_on_stacks_holds : PySem.Challenge.rw_nowayleft_k45_spans_on_stacks.Holds := by
  w_on; o_law; k_head; (case hw => w_witness2)
  k_fill
  refine Fz.walkG (l := PySem.Challenge.rw_nowayleft_k45_spans_on_stacks) (n := 63) (k := 3 * 40) (x := "script") (g := K45.run 40 19) rfl (by decide) rfl ⟨rfl, by decide, by decide⟩ (fun w h Y => PySem.W.kIn_of Y) (fun w => Fz.noLst_of (by rfl)) ?F K45.plain
  case F =>
    intro w mg fa h KX G hmg
    refine' K45.all_mk KX G hmg ?a0 ?l0 ?c0 ?k0 ?a1 ?l1 ?c1 ?k1 ?a2 ?l2 ?c2 ?k2 ?a3 ?l3 ?c3 ?k3 ?v3 ?a4 ?l4 ?c4 ?k4 ?v4 ?a5 ?l5 ?c5 ?k5 ?v5 ?a6 ?l6 ?c6 ?k6 ?a7 ?l7 ?c7 ?k7 ?a8 ?l8 ?c8 ?k8 ?a9 ?l9 ?c9 ?k9 ?a10 ?l10 ?c10 ?k10 ?a11 ?l11 ?c11 ?k11 ?a12 ?l12 ?c12 ?k12 ?a13 ?l13 ?c13 ?k13 ?a14 ?l14 ?c14 ?k14 ?a15 ?l15 ?c15 ?k15 ?a16 ?l16 ?c16 ?k16 ?a17 ?l17 ?c17 ?k17 ?a18 ?l18 ?c18 ?k18 ?a19 ?l19 ?c19 ?k19 ?z_ValueError ?z_abs ?z_all ?z_bool ?z_dict ?z_enumerate ?z_int ?z_isinstance ?z_len ?z_list ?z_max ?z_min ?z_range ?z_repr ?z_sorted ?z_str ?z_super ?z_tuple ?q_MAX_BLOCKS ?q_MAX_MOMENT ?aw ?lw ?cw ?kw ?nopq ?ntop ?ma ?ms ?md ?mt ?xa0 ?xl0 ?xr0 ?xs0 ?xx0 ?xy0 ?xk0 ?xi0 ?xt0 ?xf0 ?xc0 ?xo0 ?xv0 ?xq0 ?xz0 ?xu0 ?xb0 ?xw0 ?xn0 ?mc0 ?ga0 ?gg0 ?gd0 ?gc0 ?gn0 ?gt0 ?go0 ?kv0 ?xa1 ?xl1 ?xr1 ?xs1 ?xx1 ?xy1 ?xk1 ?xi1 ?xt1 ?xf1 ?xc1 ?xo1 ?xv1 ?xq1 ?xz1 ?xu1 ?xb1 ?xw1 ?xn1 ?mc1 ?ga1 ?gg1 ?gd1 ?gc1 ?gn1 ?gt1 ?go1 ?kv1 ?xa2 ?xl2 ?xr2 ?xs2 ?xx2 ?xy2 ?xk2 ?xi2 ?xt2 ?xf2 ?xc2 ?xo2 ?xv2 ?xq2 ?xz2 ?xu2 ?xb2 ?xw2 ?xn2 ?mc2 ?ga2 ?gg2 ?gd2 ?gc2 ?gn2 ?gt2 ?go2 ?kv2 ?kt0_0 ?kt0_1 ?kt0_2
    (case a0 => k_is)
    (case l0 => k_is)
    (case c0 => k_is)
    (case k0 => k_is)
    (case a1 => k_is)
    (case l1 => k_is)
    (case c1 => k_is)
    (case k1 => k_is)
    (case a2 => k_is)
    (case l2 => k_is)
    (case c2 => k_is)
    (case k2 => k_is)
    (case a3 => k_is)
    (case l3 => k_is)
    (case c3 => k_is)
    (case k3 => k_is)
    (case v3 => first | rfl | decide +kernel)
    (case a4 => k_is)
    (case l4 => k_is)
    (case c4 => k_is)
    (case k4 => k_is)
    (case v4 => first | rfl | decide +kernel)
    (case a5 => k_is)
    (case l5 => k_is)
    (case c5 => k_is)
    (case k5 => k_is)
    (case v5 => first | rfl | decide +kernel)
    (case a6 => k_is)
    (case l6 => k_is)
    (case c6 => k_is)
    (case k6 => k_is)
    (case a7 => k_is)
    (case l7 => k_is)
    (case c7 => k_is)
    (case k7 => k_is)
    (case a8 => k_is)
    (case l8 => k_is)
    (case c8 => k_is)
    (case k8 => k_is)
    (case a9 => k_is)
    (case l9 => k_is)
    (case c9 => k_is)
    (case k9 => k_is)
    (case a10 => k_is)
    (case l10 => k_is)
    (case c10 => k_is)
    (case k10 => k_is)
    (case a11 => k_is)
    (case l11 => k_is)
    (case c11 => k_is)
    (case k11 => k_is)
    (case a12 => k_is)
    (case l12 => k_is)
    (case c12 => k_is)
    (case k12 => k_is)
    (case a13 => k_is)
    (case l13 => k_is)
    (case c13 => k_is)
    (case k13 => k_is)
    (case a14 => k_is)
    (case l14 => k_is)
    (case c14 => k_is)
    (case k14 => k_is)
    (case a15 => k_is)
    (case l15 => k_is)
    (case c15 => k_is)
    (case k15 => k_is)
    (case a16 => k_is)
    (case l16 => k_is)
    (case c16 => k_is)
    (case k16 => k_is)
    (case a17 => k_is)
    (case l17 => k_is)
    (case c17 => k_is)
    (case k17 => k_is)
    (case a18 => k_is)
    (case l18 => k_is)
    (case c18 => k_is)
    (case k18 => k_is)
    (case a19 => k_is)
    (case l19 => k_is)
    (case c19 => k_is)
    (case k19 => k_is)
    (case z_ValueError => k_is)
    (case z_abs => k_is)
    (case z_all => k_is)
    (case z_bool => k_is)
    (case z_dict => k_is)
    (case z_enumerate => k_is)
    (case z_int => k_is)
    (case z_isinstance => k_is)
    (case z_len => k_is)
    (case z_list => k_is)
    (case z_max => k_is)
    (case z_min => k_is)
    (case z_range => k_is)
    (case z_repr => k_is)
    (case z_sorted => k_is)
    (case z_str => k_is)
    (case z_super => k_is)
    (case z_tuple => k_is)
    (case q_MAX_BLOCKS => k_is)
    (case q_MAX_MOMENT => k_is)
    (case aw => k_is)
    (case lw => k_is)
    (case cw => k_is)
    (case kw => k_is)
    (case nopq => k_is)
    (case ntop => first | rfl | decide +kernel)
    (case ma => k_is)
    (case ms => k_is)
    (case md => k_is)
    (case mt => k_is)
    (case xa0 => k_is)
    (case xl0 => k_is)
    (case xr0 => first | rfl | decide +kernel)
    (case xs0 => k_is)
    (case xx0 => k_is)
    (case xy0 => k_is)
    (case xk0 => k_is)
    (case xi0 => k_is)
    (case xt0 => k_is)
    (case xf0 => k_is)
    (case xc0 => k_is)
    (case xo0 => k_is)
    (case xv0 => rfl)
    (case xq0 => first | rfl | decide +kernel)
    (case xz0 => k_is)
    (case xu0 => first | ks_is | k_is | rfl)
    (case xb0 => k_is)
    (case xw0 => first | k_is | rfl)
    (case xn0 => k_is)
    (case mc0 => first | k_is | rfl)
    (case ga0 => k_is)
    (case gg0 => k_is)
    (case gd0 => k_is)
    (case gc0 => k_is)
    (case gn0 => first | k_is | rfl)
    (case gt0 => first | k_is | rfl)
    (case go0 => first | k_is | rfl)
    (case kv0 => first | k_is | rfl | decide +kernel)
    (case xa1 => k_is)
    (case xl1 => k_is)
    (case xr1 => first | rfl | decide +kernel)
    (case xs1 => k_is)
    (case xx1 => k_is)
    (case xy1 => k_is)
    (case xk1 => k_is)
    (case xi1 => k_is)
    (case xt1 => k_is)
    (case xf1 => k_is)
    (case xc1 => k_is)
    (case xo1 => k_is)
    (case xv1 => rfl)
    (case xq1 => first | rfl | decide +kernel)
    (case xz1 => k_is)
    (case xu1 => first | ks_is | k_is | rfl)
    (case xb1 => k_is)
    (case xw1 => first | k_is | rfl)
    (case xn1 => k_is)
    (case mc1 => first | k_is | rfl)
    (case ga1 => k_is)
    (case gg1 => k_is)
    (case gd1 => k_is)
    (case gc1 => k_is)
    (case gn1 => first | k_is | rfl)
    (case gt1 => first | k_is | rfl)
    (case go1 => first | k_is | rfl)
    (case kv1 => first | k_is | rfl | decide +kernel)
    (case xa2 => k_is)
    (case xl2 => k_is)
    (case xr2 => first | rfl | decide +kernel)
    (case xs2 => k_is)
    (case xx2 => k_is)
    (case xy2 => k_is)
    (case xk2 => k_is)
    (case xi2 => k_is)
    (case xt2 => k_is)
    (case xf2 => k_is)
    (case xc2 => k_is)
    (case xo2 => k_is)
    (case xv2 => rfl)
    (case xq2 => first | rfl | decide +kernel)
    (case xz2 => k_is)
    (case xu2 => first | ks_is | k_is | rfl)
    (case xb2 => k_is)
    (case xw2 => first | k_is | rfl)
    (case xn2 => k_is)
    (case mc2 => first | k_is | rfl)
    (case ga2 => k_is)
    (case gg2 => k_is)
    (case gd2 => k_is)
    (case gc2 => k_is)
    (case gn2 => first | k_is | rfl)
    (case gt2 => first | k_is | rfl)
    (case go2 => first | k_is | rfl)
    (case kv2 => first | k_is | rfl | decide +kernel)
    (case kt0_0 => first | k_is | rfl | decide +kernel)
    (case kt0_1 => first | k_is | rfl | decide +kernel)
    (case kt0_2 => first | k_is | rfl | decide +kernel)
