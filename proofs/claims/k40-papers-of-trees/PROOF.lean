import PyProof.Rows.All
import Wide.All
import OpenK.AllK
import Wide.FinOn
import HandS.ForMost
import HandS.Exc
import HandS.Flow
import HandS.Style
import HandS.IsInst
import HandS.Conv
import HandS.More
import HandS.DictComp
import HandS.ListItems
import HandS.TupAny
import HandS.TupLe
import HandS.TupMul
import HandS.TupLen
import HandS.Deep
import HandS.Zip
import HandS.Rev
import KE.SortData
import KE.GoesEnum
import KE.KDictDisplayH
import HandS.EndBits
import KE.DataMinMax
import KE.KExcSuper
import HandS.ExcInit
import HandS.Words
import HandS.ExcField
import KE.KExcIs
import KE.KIsAll
import HandS.ExcIs
import KE.GoesMore
import HandS.Iter
import HandS.HotCalls
import HandS.SetFor
import PySem.Challenge.RW_nowayleft_k40_papers_and_arguments_of_tr
set_option Elab.async false
set_option linter.all false
set_option maxRecDepth 100000
set_option maxHeartbeats 2000000
/-! Fz: programs as functions on plain data. D: data that never change; W: data, or the number of a thing that changes; O: such a thing. -/
namespace Fz
open PySem L2

inductive D where
  | non | bl (b : Bool) | int (i : Int) | str (s : List Nat) | tup (l : List D) | lst (l : List D)
/-- data; the number of a thing that changes; a def, by its name -/
inductive W where
  | d (x : D) | r (n : Nat) | f (n : List Nat)
inductive O where
  | lst (l : List W)
  | dk (l : List (D × W))
  | dt (l : List (D × W))
  | fk (l : List (D × W))
  | ft (l : List (D × W))
  | ins (c : Nat) (fs : List (Nat × W))
abbrev Hh := List O
abbrev Ev := List (Option W)
inductive R (α : Type) where
  | ok (a : α) (h : Hh)
  | ex (c : Nat) (p : W) (h : Hh)
  | no
def R.bind {α β : Type} (m : R α) (f : α → Hh → R β) : R β := match m with
  | .ok a h => f a h
  | .ex c p h => .ex c p h
  | .no => .no
@[simp] theorem R.bind_ok {α β : Type} {a : α} {h : Hh} {f : α → Hh → R β} : (R.ok a h).bind f = f a h := (rfl)
@[simp] theorem R.bind_ex {α β : Type} {c p h} {f : α → Hh → R β} : (R.ex c p h : R α).bind f = .ex c p h := (rfl)
@[simp] theorem R.bind_no {α β : Type} {f : α → Hh → R β} : (R.no : R α).bind f = .no := (rfl)

/-- the names of fields, the places of classes -/
structure Tb where
  fld : Nat → Str
  cad : Nat → Addr
  efl : Nat → Str
  xad : Nat → Addr

def toStr (l : List Nat) : Str := ⟨l.toArray⟩
theorem toStr_len (l : List Nat) : (toStr l).length = l.length := by simp [toStr, Str.length]
theorem toStr_inj {a b : List Nat} (h : toStr a = toStr b) : a = b := by
  have := congrArg (fun s : Str => s.cps.toList) h
  simpa [toStr] using this

def FL (K : PySem.W.Frag) (M : List Addr) (H : Hp) (a : Addr) (xs : List V) : Prop := Rd H a (.lst xs) ∧ a ∉ M
def FT (K : PySem.W.Frag) (M : List Addr) (H : Hp) (a : Addr) (xs : List V) : Prop := H a = some (.tup xs) ∧ a ∉ M
theorem FL.sq {K M H a xs} (h : FL K M H a xs) : SqL K H a xs := .inl h.1
theorem FT.sq {K M H a xs} (h : FT K M H a xs) : SqT K H a xs := .inl (.inl h.1)

mutual
inductive Rp (K : PySem.W.Frag) (M : List Addr) (H : Hp) : D → V → Prop
  | non : Rp K M H .non .non
  | bl (b : Bool) : Rp K M H (.bl b) (.bl b)
  | int (i : Int) : Rp K M H (.int i) (.int i)
  | str (l : List Nat) (z : l.length ≤ sizeLine) : Rp K M H (.str l) (.str (toStr l))
  | tup {a : Addr} {vs : List V} {ds : List D} : FT K M H a vs → ds.length ≤ sizeLine → RpL K M H ds vs → Rp K M H (.tup ds) (.ref a)
  | lst {a : Addr} {vs : List V} {ds : List D} : FL K M H a vs → ds.length ≤ sizeLine → RpL K M H ds vs → Rp K M H (.lst ds) (.ref a)
inductive RpL (K : PySem.W.Frag) (M : List Addr) (H : Hp) : List D → List V → Prop
  | nil : RpL K M H [] []
  | cons {d : D} {v : V} {ds : List D} {vs : List V} : Rp K M H d v → RpL K M H ds vs → RpL K M H (d :: ds) (v :: vs)
end

/-- what stands still from (M, H) to (M', H'): what is tracked and no mutable thing of ours is as it was; new mutable things were not tracked -/
structure Keep (M : List Addr) (H : Hp) (M' : List Addr) (H' : Hp) : Prop where
  keep : ∀ a o, H a = some o → a ∉ M → H' a = some o
  new : ∀ a, a ∈ M' → a ∉ M → H a = none
theorem Rd.keep {M H M' H'} (k : Keep M H M' H') {a : Addr} {u : HO} (h : Rd H a u) (n : a ∉ M) : Rd H' a u ∧ a ∉ M' := by
  have e : ∃ o, H a = some o := by
    rcases h with h | ⟨o, h⟩ <;> exact ⟨_, h⟩
  obtain ⟨o, e⟩ := e
  refine ⟨?_, fun q => ?_⟩
  · rcases h with h | ⟨o', h⟩
    · exact .inl (k.keep _ _ h n)
    · exact .inr ⟨o', k.keep _ _ h n⟩
  · rw [k.new a q n] at e
    cases e
theorem FL.keep {K M H M' H' a xs} (k : Keep M H M' H') (h : FL K M H a xs) : FL K M' H' a xs := Rd.keep k h.1 h.2
theorem FT.keep {K M H M' H' a xs} (k : Keep M H M' H') (h : FT K M H a xs) : FT K M' H' a xs := ⟨k.keep _ _ h.1 h.2, (Rd.keep k (.inl h.1) h.2).2⟩
mutual
theorem Rp.keep {K M H M' H'} (k : Keep M H M' H') : ∀ {d : D} {v : V}, Rp K M H d v → Rp K M' H' d v
  | _, _, .non => .non
  | _, _, .bl b => .bl b
  | _, _, .int i => .int i
  | _, _, .str l z => .str l z
  | _, _, .tup h z r => .tup (h.keep k) z (RpL.keep k r)
  | _, _, .lst h z r => .lst (h.keep k) z (RpL.keep k r)
theorem RpL.keep {K M H M' H'} (k : Keep M H M' H') : ∀ {d : List D} {v : List V}, RpL K M H d v → RpL K M' H' d v
  | _, _, .nil => .nil
  | _, _, .cons a b => .cons (Rp.keep k a) (RpL.keep k b)
end
theorem RpL.length {K M H} : ∀ {d : List D} {v : List V}, RpL K M H d v → d.length = v.length
  | _, _, .nil => rfl
  | _, _, .cons _ b => by simp [RpL.length b]

/-- the first def of a name -/
def fnAt (K : PySem.W.Frag) (q : Str) : Option Addr := (K.find? fun p => match p.2.data with
  | .func fd => fd.qualname == q
  | _ => false).map (·.1)
/-- a value -/
inductive RW (K : PySem.W.Frag) (F ρ : List Addr) (H : Hp) : W → V → Prop
  | d {x : D} {v : V} : Rp K (F ++ ρ) H x v → RW K F ρ H (.d x) v
  | r {n : Nat} {a : Addr} : ρ[n]? = some a → RW K F ρ H (.r n) (.ref a)
  | f {n : List Nat} {a : Addr} : fnAt K (toStr n) = some a → RW K F ρ H (.f n) (.ref a)
abbrev RWs (K : PySem.W.Frag) (F ρ : List Addr) (H : Hp) : List W → List V → Prop := Paired (RW K F ρ H)
/-- a key: the datum and the key of the layer -/
inductive Rk : D → Key → Prop
  | int (i : Int) : Rk (.int i) (.inl i)
  | str (l : List Nat) : Rk (.str l) (.inr (toStr l))
inductive Rks : List D → List Key → Prop
  | nil : Rks [] []
  | cons {d k ds ks} : Rk d k → Rks ds ks → Rks (d :: ds) (k :: ks)
def RkT (d : D) (ks : List Key) : Prop := ∃ ds, d = .tup ds ∧ Rks ds ks
/-- a thing that changes -/
inductive RO (K : PySem.W.Frag) (T : Tb) (F ρ : List Addr) (H : Hp) : O → HO → Prop
  | lst {l : List W} {vs : List V} : l.length ≤ sizeLine → RWs K F ρ H l vs → RO K T F ρ H (.lst l) (.lst vs)
  | dk {l : List (D × W)} {kvs : List (Key × V)} : Paired (fun p q => Rk p.1 q.1 ∧ RW K F ρ H p.2 q.2) l kvs → RO K T F ρ H (.dk l) (.dK kvs)
  | dt {l : List (D × W)} {kvs : List (List Key × V)} : Paired (fun p q => RkT p.1 q.1 ∧ RW K F ρ H p.2 q.2) l kvs → RO K T F ρ H (.dt l) (.dT kvs)
  | fk {l : List (D × W)} {kvs : List (Key × V)} {od : Obj} : Paired (fun p q => Rk p.1 q.1 ∧ RW K F ρ H p.2 q.2) l kvs → RO K T F ρ H (.fk l) (.frz od (.dK kvs))
  | ft {l : List (D × W)} {kvs : List (List Key × V)} {od : Obj} : Paired (fun p q => RkT p.1 q.1 ∧ RW K F ρ H p.2 q.2) l kvs → RO K T F ρ H (.ft l) (.frz od (.dT kvs))
  | ins {c : Nat} {fs : List (Nat × W)} {dx : Addr} {vs : List (Str × V)} : Paired (fun p q => q.1 = T.fld p.1 ∧ RW K F ρ H p.2 q.2) fs vs → fs.length < 900 → RO K T F ρ H (.ins c fs) (.ins (T.cad c) dx vs)
/-- the heap -/
structure HR (K : PySem.W.Frag) (T : Tb) (F ρ : List Addr) (ih : Hh) (H : Hp) : Prop where
  len : ρ.length = ih.length
  nd : ρ.Nodup
  fr : ∀ a ∈ ρ, a ∉ F
  trF : ∀ a ∈ F, H a ≠ none
  obj : ∀ (n : Nat) (o : O), ih[n]? = some o → ∃ a ho, ρ[n]? = some a ∧ H a = some ho ∧ RO K T F ρ H o ho
  ntF : ∀ a ∈ F, ∀ xs, H a ≠ some (.tup xs)
/-- the slots -/
def RE (K : PySem.W.Frag) (F ρ : List Addr) (H : Hp) (e : Ev) (σ : L2.St) : Prop :=
  e.length = σ.length ∧ ∀ (i : Nat) (w : W), e[i]? = some (some w) → ∃ v, σ[i]? = some (some v) ∧ RW K F ρ H w v

/-- a heap behind another one: more things, the others stand still -/
structure Grow (F ρ : List Addr) (H : Hp) (ρ' : List Addr) (H' : Hp) : Prop where
  more : ∃ m, ρ' = ρ ++ m
  keep : ∀ a o, H a = some o → a ∉ ρ → H' a = some o
  new : ∀ a ∈ ρ', a ∉ ρ → H a = none
  frz : ∀ a od u, H a = some (.frz od u) → H' a = some (.frz od u)
/-- nothing locked stands there -/
def NF (H : Hp) (a : Addr) : Prop := ∀ od u, H a ≠ some (.frz od u)
theorem nf_of {H : Hp} {a : Addr} {o : HO} (e : H a = some o) (h : match o with
  | .frz _ _ => False
  | _ => True) : NF H a := fun od u q => by
  rw [e] at q
  cases q
  exact h
theorem Grow.refl {F ρ H} : Grow F ρ H ρ H := ⟨⟨[], by simp⟩, fun _ _ h _ => h, fun _ h n => absurd h n, fun _ _ _ h => h⟩
theorem Grow.get {F ρ H ρ' H'} (g : Grow F ρ H ρ' H') {n : Nat} {a : Addr} (h : ρ[n]? = some a) : ρ'[n]? = some a := by
  obtain ⟨m, rfl⟩ := g.more
  rw [List.getElem?_append_left (List.getElem?_eq_some_iff.mp h).1]
  exact h
theorem Grow.mem {F ρ H ρ' H'} (g : Grow F ρ H ρ' H') {a : Addr} (h : a ∈ ρ) : a ∈ ρ' := by
  obtain ⟨m, rfl⟩ := g.more
  exact List.mem_append_left _ h
theorem HR.tr {K T F ρ ih H} (h : HR K T F ρ ih H) {a : Addr} (m : a ∈ ρ) : H a ≠ none := by
  obtain ⟨n, hn, e⟩ := List.getElem_of_mem m
  have hn' : n < ih.length := by rw [← h.len]; exact hn
  obtain ⟨b, ho, e1, e2, _⟩ := h.obj n ih[n] (List.getElem?_eq_getElem hn')
  rw [List.getElem?_eq_getElem hn, e] at e1
  cases e1
  rw [e2]
  exact fun q => nomatch q
theorem Grow.keepM {K T F ρ H ρ' H' ih} (g : Grow F ρ H ρ' H') (h : HR K T F ρ ih H) : Keep (F ++ ρ) H (F ++ ρ') H' where
  keep := fun a o e n => g.keep a o e fun q => n (List.mem_append_right _ q)
  new := fun a m n => by
    rcases List.mem_append.mp m with q | q
    · exact absurd (List.mem_append_left _ q) n
    · exact g.new a q fun z => n (List.mem_append_right _ z)
theorem RW.grow {K T F ρ H ρ' H' ih} (g : Grow F ρ H ρ' H') (h : HR K T F ρ ih H) {w : W} {v : V} (r : RW K F ρ H w v) : RW K F ρ' H' w v := by
  cases r with
  | d r => exact .d (r.keep (g.keepM h))
  | r e => exact .r (g.get e)
  | f e => exact .f e
theorem Paired.mapP' {α β : Type} {A B : α → β → Prop} (f : ∀ a b, A a b → B a b) {l : List α} {m : List β} (h : Paired A l m) : Paired B l m := Paired.mapP h f
theorem RWs.grow {K T F ρ H ρ' H' ih} (g : Grow F ρ H ρ' H') (h : HR K T F ρ ih H) {w : List W} {v : List V} (r : RWs K F ρ H w v) : RWs K F ρ' H' w v :=
  Paired.mapP r fun _ _ x => x.grow g h
theorem RE.grow {K T F ρ H ρ' H' ih e σ} (g : Grow F ρ H ρ' H') (h : HR K T F ρ ih H) (r : RE K F ρ H e σ) : RE K F ρ' H' e σ :=
  ⟨r.1, fun i w q => let ⟨v, a, b⟩ := r.2 i w q; ⟨v, a, b.grow g h⟩⟩
theorem Grow.trans {K T F ρ H ρ1 H1 ρ2 H2 ih1} (a : Grow F ρ H ρ1 H1) (h1 : HR K T F ρ1 ih1 H1) (b : Grow F ρ1 H1 ρ2 H2) : Grow F ρ H ρ2 H2 where
  more := by
    obtain ⟨m, rfl⟩ := a.more
    obtain ⟨n, rfl⟩ := b.more
    exact ⟨m ++ n, by simp⟩
  keep := fun x o e n => b.keep x o (a.keep x o e n) fun q => by
    rw [a.new x q n] at e
    cases e
  new := fun x m n => by
    by_cases q : x ∈ ρ1
    · exact a.new x q n
    · have := b.new x m q
      cases e : H x with
      | none => rfl
      | some o =>
        rw [a.keep x o e n] at this
        cases this
  frz := fun x od u e => b.frz x od u (a.frz x od u e)
end Fz
set_option Elab.async false
set_option linter.all false
set_option maxRecDepth 100000
set_option maxHeartbeats 2000000
/-! Fz: judgements. FE X T Wx e c: the expression e is walked, and does what the function c says. -/
namespace Fz
open PySem L2

/-- an own exception: its class, what it holds -/
def XR (K : PySem.W.Frag) (T : Tb) (F ρ : List Addr) (H : Hp) (c : Nat) (p : W) (cls : Value) (dx : Option Addr) : Prop :=
  cls = .ref (T.xad c) ∧ ∃ d v, dx = some d ∧ H d = some (.xd [(T.efl c, v)]) ∧ d ∉ F ++ ρ ∧ RW K F ρ H p v

section
variable (K : PySem.W.Frag) (T : Tb) (Wx : WX)
def Pst {α : Type} (σ : L2.St) (F ρ : List Addr) (H : Hp) (m : R α) (k : List Addr → Hp → Hh → α → Prop) : Prop :=
  match m with
  | .ok a ih' => ∀ ρ' H', Grow F ρ H ρ' H' → HR K T F ρ' ih' H' → k ρ' H' ih' a
  | .ex c p ih' => ∀ ρ' H' cls dx, Grow F ρ H ρ' H' → HR K T F ρ' ih' H' → XR K T F ρ' H' c p cls dx → Wx cls dx σ H'
  | .no => False
end
section
variable {K : PySem.W.Frag} {T : Tb} {Wx : WX} {σ : L2.St} {F ρ : List Addr} {H : Hp} {α β : Type}
theorem Pst.bind {m : R α} {f : α → Hh → R β} {k : List Addr → Hp → Hh → β → Prop} (h : Pst K T Wx σ F ρ H (m.bind f) k) :
    Pst K T Wx σ F ρ H m fun ρ1 H1 ih1 a => Pst K T Wx σ F ρ1 H1 (f a ih1) k := by
  cases m with
  | no => exact h
  | ex c p ih' => exact h
  | ok a ih1 =>
    intro ρ1 H1 g1 hr1
    have h' : Pst K T Wx σ F ρ H (f a ih1) k := h
    cases e : f a ih1 with
    | no => rw [e] at h'; exact h'.elim
    | ok b ih2 =>
      rw [e] at h'
      exact fun ρ2 H2 g2 hr2 => h' ρ2 H2 (g1.trans hr1 g2) hr2
    | ex c p ih2 =>
      rw [e] at h'
      exact fun ρ2 H2 cls dx g2 hr2 x => h' ρ2 H2 cls dx (g1.trans hr1 g2) hr2 x
theorem Pst.mono {m : R α} {k k' : List Addr → Hp → Hh → α → Prop} (h : Pst K T Wx σ F ρ H m k)
    (f : ∀ ρ' H' ih' a, Grow F ρ H ρ' H' → HR K T F ρ' ih' H' → k ρ' H' ih' a → k' ρ' H' ih' a) : Pst K T Wx σ F ρ H m k' := by
  cases m with
  | no => exact h
  | ex c p ih' => exact h
  | ok a ih1 => exact fun ρ' H' g hr => f _ _ _ _ g hr (h ρ' H' g hr)
theorem Pst.ok {a : α} {ih : Hh} {k : List Addr → Hp → Hh → α → Prop} (hr : HR K T F ρ ih H) (h : Pst K T Wx σ F ρ H (.ok a ih) k) : k ρ H ih a := h ρ H Grow.refl hr
end

abbrev Cd := Ev → Hh → R W
abbrev Cb := Ev → Hh → R Bool
abbrev Ca := Ev → Hh → R (List W)
section
variable (K : PySem.W.Frag) (T : Tb) (Wx : WX)
def tOf (c : Cd) : TE := fun σ H Q => ∃ F ρ e ih, HR K T F ρ ih H ∧ RE K F ρ H e σ ∧ Pst K T Wx σ F ρ H (c e ih) fun ρ' H' _ w => ∀ v, RW K F ρ' H' w v → Q v H'
def bOf (c : Cb) : TT := fun σ H Q => ∃ F ρ e ih, HR K T F ρ ih H ∧ RE K F ρ H e σ ∧ Pst K T Wx σ F ρ H (c e ih) fun _ H' _ b => Q b H'
def aOf (c : Ca) : TA := fun σ H Q => ∃ F ρ e ih, HR K T F ρ ih H ∧ RE K F ρ H e σ ∧ Pst K T Wx σ F ρ H (c e ih) fun ρ' H' _ ws => ∀ vs, RWs K F ρ' H' ws vs → Q vs H'
end
def FE (X : Cx) (T : Tb) (Wx : WX) (e : Expr) (c : Cd) : Prop := PE X e (tOf X.K T Wx c)
def FT' (X : Cx) (T : Tb) (Wx : WX) (e : Expr) (c : Cb) : Prop := PT X e (bOf X.K T Wx c)
def FW (X : Cx) (T : Tb) (Wx : WX) (e : Expr) (c : Cb) : Prop := PW X e (bOf X.K T Wx c)
def FA (X : Cx) (T : Tb) (Wx : WX) (es : List Expr) (c : Ca) : Prop := PA X es (aOf X.K T Wx c)

section
variable {X : Cx} {T : Tb} {Wx : WX} {e a b : Expr} {es : List Expr} {pos : Pos}
theorem PE.imp {t t' : TE} (h : PE X e t) (f : ∀ σ H Q, t' σ H Q → t σ H Q) : PE X e t' := ⟨fun pins s σ H Q I q => h.run pins s σ H Q I (f _ _ _ q)⟩
theorem PT.imp {t t' : TT} (h : PT X e t) (f : ∀ σ H Q, t' σ H Q → t σ H Q) : PT X e t' := ⟨fun pins s σ H Q I q => h.run pins s σ H Q I (f _ _ _ q)⟩
theorem PW.imp {t t' : TT} (h : PW X e t) (f : ∀ σ H Q, t' σ H Q → t σ H Q) : PW X e t' := ⟨fun wh pins s σ H Q I q => h.run wh pins s σ H Q I (f _ _ _ q)⟩
theorem PA.imp {t t' : TA} (h : PA X es t) (f : ∀ σ H Q, t' σ H Q → t σ H Q) : PA X es t' := ⟨fun p pins s σ H Q I q => h.run p pins s σ H Q I (f _ _ _ q)⟩

/-! ### names, constants -/
def cv (i : Nat) : Cd := fun e h => match e[i]? with
  | some (some w) => .ok w h
  | _ => .no
def cc (x : D) : Cd := fun _ h => .ok (.d x) h
theorem fe_v {i : Nat} (h : PE X e (tVar i)) : FE X T Wx e (cv i) := PE.imp h fun σ H Q q => by
  obtain ⟨F, ρ, ev, ih, hr, re, hp⟩ := q
  unfold cv at hp
  cases he : ev[i]? with
  | none => rw [he] at hp; exact hp.elim
  | some o =>
    cases o with
    | none => rw [he] at hp; exact hp.elim
    | some w =>
      rw [he] at hp
      obtain ⟨v, e1, r1⟩ := re.2 i w he
      exact ⟨v, e1, hp.ok hr v r1⟩
/-- a datum and the value that needs no heap for it -/
inductive Sm : D → V → Prop
  | non : Sm .non .non
  | bl (b : Bool) : Sm (.bl b) (.bl b)
  | int (i : Int) : Sm (.int i) (.int i)
  | str (l : List Nat) (z : l.length ≤ sizeLine) : Sm (.str l) (.str (toStr l))
theorem Sm.rp {K M H x v} (h : Sm x v) : Rp K M H x v := by
  cases h
  · exact .non
  · exact .bl _
  · exact .int _
  · exact .str _ (by assumption)
theorem Sm.rw {K F ρ H x v} (h : Sm x v) : RW K F ρ H (.d x) v := .d h.rp
theorem fe_c {x : D} {v : V} (s : Sm x v) (h : PE X e (tC v)) : FE X T Wx e (cc x) := PE.imp h fun σ H Q q => by
  obtain ⟨F, ρ, ev, ih, hr, re, hp⟩ := q
  exact hp.ok hr v s.rw

/-! ### operations by values -/
def FOp (K : PySem.W.Frag) (T : Tb) (op : W → W → Hh → R W) (r : R2) : Prop := ∀ (Wx : WX) (σ : L2.St) (F ρ : List Addr) (ih : Hh) (H : Hp) (x y : W) (v1 v2 : V) (Q : VK), HR K T F ρ ih H → RW K F ρ H x v1 → RW K F ρ H y v2 →
  Pst K T Wx σ F ρ H (op x y ih) (fun ρ' H' _ w => ∀ v, RW K F ρ' H' w v → Q v H') → r v1 v2 H Q
def FUn (K : PySem.W.Frag) (T : Tb) (op : W → Hh → R W) (r : V → Hp → VK → Prop) : Prop := ∀ (Wx : WX) (σ : L2.St) (F ρ : List Addr) (ih : Hh) (H : Hp) (x : W) (v1 : V) (Q : VK), HR K T F ρ ih H → RW K F ρ H x v1 →
  Pst K T Wx σ F ρ H (op x ih) (fun ρ' H' _ w => ∀ v, RW K F ρ' H' w v → Q v H') → r v1 H Q
def FCl (K : PySem.W.Frag) (T : Tb) (op : List W → Hh → R W) (r : List V → Hp → VK → Prop) : Prop := ∀ (Wx : WX) (σ : L2.St) (F ρ : List Addr) (ih : Hh) (H : Hp) (xs : List W) (vs : List V) (Q : VK), HR K T F ρ ih H → RWs K F ρ H xs vs →
  Pst K T Wx σ F ρ H (op xs ih) (fun ρ' H' _ w => ∀ v, RW K F ρ' H' w v → Q v H') → r vs H Q
def c2 (op : W → W → Hh → R W) (a b : Cd) : Cd := fun e h => (a e h).bind fun x h => (b e h).bind fun y h => op x y h
def c1 (op : W → Hh → R W) (a : Cd) : Cd := fun e h => (a e h).bind op
theorem op2 {op : W → W → Hh → R W} {r : R2} {ca cb : Cd} (ho : FOp X.K T op r) {σ H Q} (q : tOf X.K T Wx (c2 op ca cb) σ H Q) : tOp r (tOf X.K T Wx ca) (tOf X.K T Wx cb) σ H Q := by
  obtain ⟨F, ρ, ev, ih, hr, re, hp⟩ := q
  refine ⟨F, ρ, ev, ih, hr, re, hp.bind.mono fun ρ1 H1 ih1 w1 g1 hr1 hp1 v1 r1 => ?_⟩
  refine ⟨F, ρ1, ev, ih1, hr1, re.grow g1 hr, hp1.bind.mono fun ρ2 H2 ih2 w2 g2 hr2 hp2 v2 r2 => ?_⟩
  exact ho Wx σ F ρ2 ih2 H2 w1 w2 v1 v2 Q hr2 (r1.grow g2 hr1) r2 hp2
theorem fe_op {o : Operator} {op : W → W → Hh → R W} {r : R2} {ca cb : Cd} (ho : OpR X (binaryOp o) r) (hf : FOp X.K T op r) (ha : FE X T Wx a ca) (hb : FE X T Wx b cb) : FE X T Wx (.BinOp a o b pos) (c2 op ca cb) :=
  PE.imp (pe_op ho ha hb) fun _ _ _ q => op2 hf q
theorem fe_un {o : UnaryOp} {op : W → Hh → R W} {r : V → Hp → VK → Prop} {ca : Cd} (ho : UnR X (unaryOp o) r) (hf : FUn X.K T op r) (ha : FE X T Wx a ca) : FE X T Wx (.UnaryOp o a pos) (c1 op ca) :=
  PE.imp (pe_un ho ha) fun σ H Q q => by
    obtain ⟨F, ρ, ev, ih, hr, re, hp⟩ := q
    exact ⟨F, ρ, ev, ih, hr, re, hp.bind.mono fun ρ1 H1 ih1 w1 g1 hr1 hp1 v1 r1 => hf Wx σ F ρ1 ih1 H1 w1 v1 Q hr1 r1 hp1⟩
theorem fe_cmp {o : CmpOp} {op : W → W → Hh → R W} {r : R2} {ca cb : Cd} (ho : OpR X (compareOp o) r) (hf : FOp X.K T op r) (hm : behindInMarks o b = false) (ha : FE X T Wx a ca) (hb : FE X T Wx b cb) : FE X T Wx (.Compare a [o] [b] pos) (c2 op ca cb) :=
  PE.imp (pe_cmpR ho ha hb hm) fun _ _ _ q => op2 hf q
/-- what is True or False -/
def asB (m : R W) : R Bool := m.bind fun w h => match w with
  | .d (.bl b) => .ok b h
  | _ => .no
theorem tst {t : TE} {c : Cd} (f : ∀ σ H Q, tOf X.K T Wx c σ H Q → t σ H Q) {σ H Q} (q : bOf X.K T Wx (fun e h => asB (c e h)) σ H Q) : tTest t σ H Q := by
  obtain ⟨F, ρ, ev, ih, hr, re, hp⟩ := q
  refine f _ _ _ ⟨F, ρ, ev, ih, hr, re, hp.bind.mono fun ρ1 H1 ih1 w1 g1 hr1 hp1 v1 r1 => ?_⟩
  cases r1 with
  | r _ => exact hp1.elim
  | f _ => exact hp1.elim
  | d r1 =>
    cases r1 with
    | bl b => exact ⟨b, rfl, hp1.ok hr1⟩
    | _ => exact hp1.elim
theorem ft_cmp {o : CmpOp} {op : W → W → Hh → R W} {r : R2} {ca cb : Cd} (ho : OpR X (compareOp o) r) (hf : FOp X.K T op r) (hm : behindInMarks o b = false) (ha : FE X T Wx a ca) (hb : FE X T Wx b cb) :
    FT' X T Wx (.Compare a [o] [b] pos) (fun e h => asB (c2 op ca cb e h)) := PT.imp (pt_cmpR ho ha hb hm) fun _ _ _ q => tst (fun _ _ _ q => op2 hf q) q
/-- a chain of two comparisons -/
def cch (op op' : W → W → Hh → R W) (a b c : Cd) : Cd := fun e h => (a e h).bind fun x h => (b e h).bind fun y h => (asB (op x y h)).bind fun k h => if k then (c e h).bind fun z h => op' y z h else .ok (.d (.bl false)) h
theorem chain {op op' : W → W → Hh → R W} {r r' : R2} {ca cb cd : Cd} (hf : FOp X.K T op r) (hf' : FOp X.K T op' r') {σ H Q} (q : tOf X.K T Wx (cch op op' ca cb cd) σ H Q) :
    tChain r r' (tOf X.K T Wx ca) (tOf X.K T Wx cb) (tOf X.K T Wx cd) σ H Q := by
  obtain ⟨F, ρ, ev, ih, hr, re, hp⟩ := q
  refine ⟨F, ρ, ev, ih, hr, re, hp.bind.mono fun ρ1 H1 ih1 w1 g1 hr1 hp1 v1 r1 => ?_⟩
  have re1 := re.grow g1 hr
  refine ⟨F, ρ1, ev, ih1, hr1, re1, hp1.bind.mono fun ρ2 H2 ih2 w2 g2 hr2 hp2 v2 r2 => ?_⟩
  have re2 := re1.grow g2 hr1
  refine hf Wx σ F ρ2 ih2 H2 w1 w2 v1 v2 _ hr2 (r1.grow g2 hr1) r2 (hp2.bind.bind.mono fun ρ3 H3 ih3 w3 g3 hr3 hp3 v3 r3 => ?_)
  have re3 := re2.grow g3 hr2
  cases r3 with
  | r _ => exact hp3.elim
  | f _ => exact hp3.elim
  | d r3 =>
    cases r3 with
    | bl k =>
      have hp4 := hp3.ok hr3
      refine ⟨k, rfl, ?_⟩
      cases k with
      | false =>
        rw [if_neg Bool.false_ne_true]
        rw [if_neg Bool.false_ne_true] at hp4
        exact hp4.ok hr3 _ (.d (.bl false))
      | true =>
        rw [if_pos rfl]
        rw [if_pos rfl] at hp4
        refine ⟨F, ρ3, ev, ih3, hr3, re3, hp4.bind.mono fun ρ5 H5 ih5 w5 g5 hr5 hp5 v5 r5 => ?_⟩
        exact hf' Wx σ F ρ5 ih5 H5 w2 w5 v2 v5 Q hr5 ((r2.grow g3 hr2).grow g5 hr3) r5 hp5
    | _ => exact hp3.elim
theorem fe_chain {o o' : CmpOp} {op op' : W → W → Hh → R W} {r r' : R2} {c : Expr} {ca cb cd : Cd} (ho : OpR X (compareOp o) r) (hf : FOp X.K T op r) (ho' : OpR X (compareOp o') r') (hf' : FOp X.K T op' r')
    (hm : lastMarks [o, o'] [b, c] = false) (ha : FE X T Wx a ca) (hb : FE X T Wx b cb) (hc : FE X T Wx c cd) : FE X T Wx (.Compare a [o, o'] [b, c] pos) (cch op op' ca cb cd) :=
  PE.imp (pe_chain ho ho' ha hb hc hm) fun _ _ _ q => chain hf hf' q
theorem ft_chain {o o' : CmpOp} {op op' : W → W → Hh → R W} {r r' : R2} {c : Expr} {ca cb cd : Cd} (ho : OpR X (compareOp o) r) (hf : FOp X.K T op r) (ho' : OpR X (compareOp o') r') (hf' : FOp X.K T op' r')
    (hm : lastMarks [o, o'] [b, c] = false) (ha : FE X T Wx a ca) (hb : FE X T Wx b cb) (hc : FE X T Wx c cd) : FT' X T Wx (.Compare a [o, o'] [b, c] pos) (fun e h => asB (cch op op' ca cb cd e h)) :=
  PT.imp (pt_chain ho ho' ha hb hc hm) fun _ _ _ q => tst (fun _ _ _ q => chain hf hf' q) q

/-! ### truth -/
def tru (w : W) (h : Hh) : R Bool := match w with
  | .d .non => .ok false h
  | .d (.bl b) => .ok b h
  | .d (.int i) => .ok (i != 0) h
  | .d (.str l) => .ok (!l.isEmpty) h
  | .d (.tup l) => .ok (!l.isEmpty) h
  | .d (.lst l) => .ok (!l.isEmpty) h
  | .r n => match h[n]? with
    | some (.lst l) => .ok (!l.isEmpty) h
    | some (.dk l) => .ok (!l.isEmpty) h
    | _ => .no
  | .f _ => .no
theorem len_ne (n : Nat) : ((n : Int) != 0) = !(n == 0) := by cases n <;> rfl
theorem isE_len {α : Type} (l : List α) : l.isEmpty = (l.length == 0) := by cases l <;> rfl
theorem Paired.len {α β : Type} {A : α → β → Prop} {l : List α} {m : List β} (h : Paired A l m) : l.length = m.length := Paired.length h
theorem tru_ok' {K : PySem.W.Frag} {σ : L2.St} {F ρ : List Addr} {ih : Hh} {H : Hp} {w : W} {v : V} {Q : Bool → Hp → Prop} (hr : HR K T F ρ ih H) (r : RW K F ρ H w v)
    (hp : Pst K T Wx σ F ρ H (tru w ih) fun _ H' _ b => Q b H') : ∃ k, TruV K v H k ∧ Q k H := by
  cases r with
  | d r =>
    cases r with
    | non => exact ⟨_, rfl, hp.ok hr⟩
    | bl b => exact ⟨_, rfl, hp.ok hr⟩
    | int i => exact ⟨_, rfl, hp.ok hr⟩
    | str l z => exact ⟨_, ⟨by rw [toStr_len]; exact z, rfl⟩, by rw [toStr_len, len_ne, ← isE_len]; exact hp.ok hr⟩
    | tup h z rl => exact ⟨_, .inr (.inl ⟨_, h.sq, rfl⟩), by rw [isE_len, ← rl.length, ← isE_len]; exact hp.ok hr⟩
    | lst h z rl => exact ⟨_, .inl ⟨_, h.sq, rfl⟩, by rw [isE_len, ← rl.length, ← isE_len]; exact hp.ok hr⟩
  | f e => exact hp.elim
  | r e =>
    rename_i n a
    unfold tru at hp
    dsimp only at hp
    cases ho : ih[n]? with
    | none => rw [ho] at hp; exact hp.elim
    | some o =>
      obtain ⟨a', u, e', eH, ro⟩ := hr.obj n o ho
      rw [e] at e'; cases e'
      cases ro with
      | lst z rs =>
        rw [ho] at hp
        exact ⟨_, .inl ⟨_, .inl (.inl eH), rfl⟩, by rw [isE_len, ← Paired.len rs, ← isE_len]; exact hp.ok hr⟩
      | dk rs =>
        rw [ho] at hp
        exact ⟨_, .inr (.inr ⟨_, eH, rfl⟩), by rw [isE_len, ← Paired.len rs, ← isE_len]; exact hp.ok hr⟩
      | dt rs => rw [ho] at hp; exact hp.elim
      | fk rs => rw [ho] at hp; exact hp.elim
      | ft rs => rw [ho] at hp; exact hp.elim
      | ins rs _ => rw [ho] at hp; exact hp.elim
def cT (c : Cd) : Cb := fun e h => (c e h).bind tru
theorem ft_truth {c : Cd} (he : ∀ whole, isTrue e X.env whole = (do let v ← whole; standAt e.pos; holding [v] (truthy v))) (h : FE X T Wx e c) : FT' X T Wx e (cT c) :=
  PT.imp (pt_truth h he) fun σ H Q q => by
    obtain ⟨F, ρ, ev, ih, hr, re, hp⟩ := q
    exact ⟨F, ρ, ev, ih, hr, re, hp.bind.mono fun ρ1 H1 ih1 w1 g1 hr1 hp1 v1 r1 => tru_ok' hr1 r1 hp1⟩
def bAnd (a b : Cb) : Cb := fun e h => (a e h).bind fun k h => if k then b e h else .ok false h
def bOr (a b : Cb) : Cb := fun e h => (a e h).bind fun k h => if k then .ok true h else b e h
def bNot (a : Cb) : Cb := fun e h => (a e h).bind fun k h => .ok (!k) h
theorem fw_1 {o : BoolOp} {ca : Cb} (ha : FT' X T Wx a ca) : FW X T Wx (.BoolOp o [a] pos) ca := by
  cases o
  · exact pw_and1 ha
  · exact pw_or1 ha
theorem fw_and {rest : List Expr} {ca cb : Cb} (ha : FT' X T Wx a ca) (hb : FW X T Wx (.BoolOp .And (b :: rest) pos) cb) : FW X T Wx (.BoolOp .And (a :: b :: rest) pos) (bAnd ca cb) :=
  PW.imp (pw_and ha hb) fun σ H Q q => by
    obtain ⟨F, ρ, ev, ih, hr, re, hp⟩ := q
    refine ⟨F, ρ, ev, ih, hr, re, hp.bind.mono fun ρ1 H1 ih1 k g1 hr1 hp1 => ?_⟩
    cases k with
    | true => exact iteT ⟨F, ρ1, ev, ih1, hr1, re.grow g1 hr, hp1⟩
    | false => exact iteF ((show Pst X.K T Wx σ F ρ1 H1 (.ok false ih1) _ from hp1).ok hr1)
theorem fw_or {rest : List Expr} {ca cb : Cb} (ha : FT' X T Wx a ca) (hb : FW X T Wx (.BoolOp .Or (b :: rest) pos) cb) : FW X T Wx (.BoolOp .Or (a :: b :: rest) pos) (bOr ca cb) :=
  PW.imp (pw_or ha hb) fun σ H Q q => by
    obtain ⟨F, ρ, ev, ih, hr, re, hp⟩ := q
    refine ⟨F, ρ, ev, ih, hr, re, hp.bind.mono fun ρ1 H1 ih1 k g1 hr1 hp1 => ?_⟩
    cases k with
    | true => exact iteT ((show Pst X.K T Wx σ F ρ1 H1 (.ok true ih1) _ from hp1).ok hr1)
    | false => exact iteF ⟨F, ρ1, ev, ih1, hr1, re.grow g1 hr, hp1⟩
theorem ft_w {c : Cb} (h : FW X T Wx e c) : FT' X T Wx e c := PW.pt h
theorem ft_not {ca : Cb} (ha : FT' X T Wx a ca) : FT' X T Wx (.UnaryOp .Not a pos) (bNot ca) :=
  PT.imp (pt_not ha) fun σ H Q q => by
    obtain ⟨F, ρ, ev, ih, hr, re, hp⟩ := q
    exact ⟨F, ρ, ev, ih, hr, re, hp.bind.mono fun ρ1 H1 ih1 k g1 hr1 hp1 => (show Pst X.K T Wx σ F ρ1 H1 (.ok (!k) ih1) _ from hp1).ok hr1⟩
/-- and, or, not as values -/
def cAnd (a b : Cd) : Cd := fun e h => (a e h).bind fun x h => (tru x h).bind fun k h => if k then b e h else .ok x h
def cOr (a b : Cd) : Cd := fun e h => (a e h).bind fun x h => (tru x h).bind fun k h => if k then .ok x h else b e h
def cNot (a : Cd) : Cd := fun e h => (a e h).bind fun x h => (tru x h).bind fun k h => .ok (.d (.bl (!k))) h
theorem fe_one {o : BoolOp} {c : Cd} (h : FE X T Wx a c) : FE X T Wx (.BoolOp o [a] pos) c := pe_one h
/-- the truth of a value, without a change -/
theorem tru_at {K : PySem.W.Frag} {σ : L2.St} {F ρ : List Addr} {ih : Hh} {H : Hp} {w : W} {v : V} {β : Type} {f : Bool → Hh → R β} {k : List Addr → Hp → Hh → β → Prop} (hr : HR K T F ρ ih H) (r : RW K F ρ H w v)
    (hp : Pst K T Wx σ F ρ H ((tru w ih).bind f) k) : ∃ b, TruV K v H b ∧ Pst K T Wx σ F ρ H (f b ih) k := by
  have key : ∀ m, tru w ih = m → (∃ b, m = .ok b ih) ∨ m = .no := by
    intro m hm
    subst hm
    unfold tru
    split <;> first | exact .inl ⟨_, rfl⟩ | exact .inr rfl | skip
    split <;> first | exact .inl ⟨_, rfl⟩ | exact .inr rfl
  rcases key _ rfl with ⟨b, e⟩ | e
  · rw [e] at hp
    obtain ⟨k', h1, h2⟩ := tru_ok' (Wx := Wx) (σ := σ) (Q := fun c _ => c = b) hr r (by rw [e]; exact fun _ _ _ _ => rfl)
    subst h2
    exact ⟨_, h1, hp⟩
  · rw [e] at hp
    exact hp.elim
theorem fe_and {rest : List Expr} {ca cb : Cd} (ha : FE X T Wx a ca) (hb : FE X T Wx (.BoolOp .And (b :: rest) pos) cb) : FE X T Wx (.BoolOp .And (a :: b :: rest) pos) (cAnd ca cb) :=
  PE.imp (pe_andT ha hb) fun σ H Q q => by
    obtain ⟨F, ρ, ev, ih, hr, re, hp⟩ := q
    refine ⟨F, ρ, ev, ih, hr, re, hp.bind.mono fun ρ1 H1 ih1 w g1 hr1 hp1 v r => ?_⟩
    obtain ⟨k, tv, hp2⟩ := tru_at hr1 r hp1
    refine ⟨k, tv, ?_⟩
    cases k with
    | true => exact iteT ⟨F, ρ1, ev, ih1, hr1, re.grow g1 hr, hp2⟩
    | false => exact iteF ((show Pst X.K T Wx σ F ρ1 H1 (.ok w ih1) _ from hp2).ok hr1 v r)
theorem fe_or {rest : List Expr} {ca cb : Cd} (ha : FE X T Wx a ca) (hb : FE X T Wx (.BoolOp .Or (b :: rest) pos) cb) : FE X T Wx (.BoolOp .Or (a :: b :: rest) pos) (cOr ca cb) :=
  PE.imp (pe_orT ha hb) fun σ H Q q => by
    obtain ⟨F, ρ, ev, ih, hr, re, hp⟩ := q
    refine ⟨F, ρ, ev, ih, hr, re, hp.bind.mono fun ρ1 H1 ih1 w g1 hr1 hp1 v r => ?_⟩
    obtain ⟨k, tv, hp2⟩ := tru_at hr1 r hp1
    refine ⟨k, tv, ?_⟩
    cases k with
    | true => exact iteT ((show Pst X.K T Wx σ F ρ1 H1 (.ok w ih1) _ from hp2).ok hr1 v r)
    | false => exact iteF ⟨F, ρ1, ev, ih1, hr1, re.grow g1 hr, hp2⟩
theorem fe_not {ca : Cd} (ha : FE X T Wx a ca) : FE X T Wx (.UnaryOp .Not a pos) (cNot ca) :=
  PE.imp (pe_notT ha) fun σ H Q q => by
    obtain ⟨F, ρ, ev, ih, hr, re, hp⟩ := q
    refine ⟨F, ρ, ev, ih, hr, re, hp.bind.mono fun ρ1 H1 ih1 w g1 hr1 hp1 v r => ?_⟩
    obtain ⟨k, tv, hp2⟩ := tru_at hr1 r hp1
    have hp3 : Pst X.K T Wx σ F ρ1 H1 (R.ok (W.d (D.bl (!k))) ih1) (fun ρ' H' _ w => ∀ v, RW X.K F ρ' H' w v → Q v H') := hp2
    exact ⟨k, tv, hp3.ok hr1 _ (.d (.bl _))⟩
def cIf (t : Cb) (a b : Cd) : Cd := fun e h => (t e h).bind fun k h => if k then a e h else b e h
theorem fe_if {t : Expr} {ct : Cb} {ca cb : Cd} (ht : FT' X T Wx t ct) (ha : FE X T Wx a ca) (hb : FE X T Wx b cb) : FE X T Wx (.IfExp t a b pos) (cIf ct ca cb) :=
  PE.imp (pe_ifExp ht ha hb) fun σ H Q q => by
    obtain ⟨F, ρ, ev, ih, hr, re, hp⟩ := q
    refine ⟨F, ρ, ev, ih, hr, re, hp.bind.mono fun ρ1 H1 ih1 k g1 hr1 hp1 => ?_⟩
    cases k with
    | true => exact iteT ⟨F, ρ1, ev, ih1, hr1, re.grow g1 hr, hp1⟩
    | false => exact iteF ⟨F, ρ1, ev, ih1, hr1, re.grow g1 hr, hp1⟩

/-! ### arguments, displays, calls of built-in things -/
def aNil : Ca := fun _ h => .ok [] h
def aCons (a : Cd) (r : Ca) : Ca := fun e h => (a e h).bind fun x h => (r e h).bind fun xs h => .ok (x :: xs) h
theorem fa_nil : FA X T Wx [] aNil := PA.imp pa_nil fun σ H Q q => by
  obtain ⟨F, ρ, ev, ih, hr, re, hp⟩ := q
  exact hp.ok hr [] .nil
theorem fa_cons {c : Cd} {cr : Ca} (hs : starEach (e :: es) X.env = (false, eval e X.env) :: starEach es X.env) (h : FE X T Wx e c) (hr : FA X T Wx es cr) : FA X T Wx (e :: es) (aCons c cr) :=
  PA.imp (pa_cons h hr hs) fun σ H Q q => by
    obtain ⟨F, ρ, ev, ih, hr, re, hp⟩ := q
    refine ⟨F, ρ, ev, ih, hr, re, hp.bind.mono fun ρ1 H1 ih1 w1 g1 hr1 hp1 v1 r1 => ?_⟩
    refine ⟨F, ρ1, ev, ih1, hr1, re.grow g1 hr, hp1.bind.mono fun ρ2 H2 ih2 ws g2 hr2 hp2 vs rs => ?_⟩
    exact (show Pst X.K T Wx σ F ρ2 H2 (.ok (w1 :: ws) ih2) _ from hp2).ok hr2 _ (.cons (r1.grow g2 hr1) rs)
def cCl (op : List W → Hh → R W) (a : Ca) : Cd := fun e h => (a e h).bind op
theorem clOf {op : List W → Hh → R W} {r : List V → Hp → VK → Prop} {ca : Ca} (hf : FCl X.K T op r) {σ H Q} (q : tOf X.K T Wx (cCl op ca) σ H Q) : tCB r (aOf X.K T Wx ca) σ H Q := by
  obtain ⟨F, ρ, ev, ih, hr, re, hp⟩ := q
  exact ⟨F, ρ, ev, ih, hr, re, hp.bind.mono fun ρ1 H1 ih1 ws g1 hr1 hp1 vs rs => hf Wx σ F ρ1 ih1 H1 ws vs Q hr1 rs hp1⟩
end
end Fz
set_option Elab.async false
set_option linter.all false
set_option maxRecDepth 100000
set_option maxHeartbeats 2000000
/-! Fz: heaps that grow, things made and changed. -/
namespace Fz
open PySem L2
section
variable {K : PySem.W.Frag} {T : Tb} {F ρ ρ' : List Addr} {H H' : Hp} {ih : Hh}
theorem RO.grow (g : Grow F ρ H ρ' H') (h : HR K T F ρ ih H) {o : O} {u : HO} (r : RO K T F ρ H o u) : RO K T F ρ' H' o u := by
  cases r with
  | lst z rs => exact .lst z (RWs.grow g h rs)
  | dk rs => exact .dk (Paired.mapP rs fun _ _ x => ⟨x.1, x.2.grow g h⟩)
  | dt rs => exact .dt (Paired.mapP rs fun _ _ x => ⟨x.1, x.2.grow g h⟩)
  | fk rs => exact .fk (Paired.mapP rs fun _ _ x => ⟨x.1, x.2.grow g h⟩)
  | ft rs => exact .ft (Paired.mapP rs fun _ _ x => ⟨x.1, x.2.grow g h⟩)
  | ins rs z => exact .ins (Paired.mapP rs fun _ _ x => ⟨x.1, x.2.grow g h⟩) z
theorem RO.ntup {o : O} {u : HO} (r : RO K T F ρ H o u) (xs : List V) : u ≠ .tup xs := by
  cases r <;> exact fun q => nomatch q
theorem HR.ntR (h : HR K T F ρ ih H) {a : Addr} (m : a ∈ ρ) (xs : List V) : H a ≠ some (.tup xs) := fun q => by
  obtain ⟨n, hn, e⟩ := List.getElem_of_mem m
  have hn' : n < ih.length := by rw [← h.len]; exact hn
  obtain ⟨b, ho, e1, e2, r⟩ := h.obj n ih[n] (List.getElem?_eq_getElem hn')
  rw [List.getElem?_eq_getElem hn, e] at e1
  cases e1
  rw [e2] at q
  cases q
  exact r.ntup xs rfl
theorem HR.nt (h : HR K T F ρ ih H) {a : Addr} {xs : List V} (q : H a = some (.tup xs)) : a ∉ F ++ ρ := fun m => by
  rcases List.mem_append.mp m with z | z
  · exact h.ntF a z xs q
  · exact h.ntR z xs q
theorem HR.ne (h : HR K T F ρ ih H) {p : Addr} (hp : H p = none) : p ∉ ρ := fun m => h.tr m hp
theorem HR.neF (h : HR K T F ρ ih H) {p : Addr} (hp : H p = none) : p ∉ F := fun m => h.trF p m hp
/-- a new thing that never changes -/
theorem grow_new {p : Addr} {o : HO} (hp : H p = none) : Grow F ρ H ρ (upd H p o) :=
  ⟨⟨[], by simp⟩, fun a u e _ => by rw [upd_ne (ne_of_none e hp)]; exact e, fun a m n => absurd m n, fun a _ _ e => by rw [upd_ne (ne_of_none e hp)]; exact e⟩
theorem HR.new (h : HR K T F ρ ih H) {p : Addr} {o : HO} (hp : H p = none) : HR K T F ρ ih (upd H p o) where
  len := h.len
  nd := h.nd
  fr := h.fr
  trF := fun a m => by
    by_cases e : a = p
    · subst e; rw [upd_same]; exact fun q => nomatch q
    · rw [upd_ne e]; exact h.trF a m
  obj := fun n o e => by
    obtain ⟨a, ho, e1, e2, r⟩ := h.obj n o e
    exact ⟨a, ho, e1, by rw [upd_ne (ne_of_none e2 hp)]; exact e2, r.grow (grow_new hp) h⟩
  ntF := fun a m xs => by rw [upd_ne fun e => h.trF a m (by rw [e]; exact hp)]; exact h.ntF a m xs
/-- a new thing that may change -/
theorem grow_add {p : Addr} {o : HO} (hp : H p = none) : Grow F ρ H (ρ ++ [p]) (upd H p o) :=
  ⟨⟨[p], rfl⟩, fun a u e _ => by rw [upd_ne (ne_of_none e hp)]; exact e, fun a m n => by
    rcases List.mem_append.mp m with q | q
    · exact absurd q n
    · rw [List.mem_singleton.mp q]; exact hp, fun a _ _ e => by rw [upd_ne (ne_of_none e hp)]; exact e⟩
theorem HR.add (h : HR K T F ρ ih H) {p : Addr} {o : O} {u : HO} (hp : H p = none) (r : RO K T F (ρ ++ [p]) (upd H p u) o u) : HR K T F (ρ ++ [p]) (ih ++ [o]) (upd H p u) where
  len := by simp [h.len]
  nd := by
    refine List.nodup_append.mpr ⟨h.nd, by simp, fun a ha b hb => ?_⟩
    rw [List.mem_singleton.mp hb]
    exact fun e => h.ne hp (e ▸ ha)
  fr := fun a m => by
    rcases List.mem_append.mp m with q | q
    · exact h.fr a q
    · rw [List.mem_singleton.mp q]; exact h.neF hp
  trF := fun a m => by
    by_cases e : a = p
    · subst e; rw [upd_same]; exact fun q => nomatch q
    · rw [upd_ne e]; exact h.trF a m
  obj := fun n o' e => by
    by_cases hn : n < ih.length
    · rw [List.getElem?_append_left hn] at e
      obtain ⟨a, ho, e1, e2, r'⟩ := h.obj n o' e
      exact ⟨a, ho, by rw [List.getElem?_append_left (by rw [h.len]; exact hn)]; exact e1, by rw [upd_ne (ne_of_none e2 hp)]; exact e2, r'.grow (grow_add hp) h⟩
    · have hn' : n = ih.length := by
        have := (List.getElem?_eq_some_iff.mp e).1
        rw [List.length_append] at this
        simp at this
        omega
      subst hn'
      simp at e
      subst e
      exact ⟨p, u, by rw [← h.len]; simp, upd_same, r⟩
  ntF := fun a m xs => by rw [upd_ne fun e => h.trF a m (by rw [e]; exact hp)]; exact h.ntF a m xs
/-- a thing changed -/
theorem grow_set {a : Addr} {u : HO} (m : a ∈ ρ) (nf : NF H a) : Grow F ρ H ρ (upd H a u) :=
  ⟨⟨[], by simp⟩, fun b o e n => by
    have nb : b ≠ a := fun q => n (by rw [q]; exact m)
    rw [upd_ne nb]; exact e, fun b m n => absurd m n, fun b od x e => by
    have nb : b ≠ a := fun q => nf od x (by rw [← q]; exact e)
    rw [upd_ne nb]; exact e⟩
theorem keep_set {a : Addr} {u : HO} (m : a ∈ ρ) : Keep (F ++ ρ) H (F ++ ρ) (upd H a u) :=
  ⟨fun b o e n => by
    have nb : b ≠ a := fun q => n (by rw [q]; exact List.mem_append_right _ m)
    rw [upd_ne nb]; exact e, fun b m n => absurd m n⟩
theorem nodup_get {ρ : List Addr} (nd : ρ.Nodup) {n m : Nat} {a : Addr} (h1 : ρ[n]? = some a) (h2 : ρ[m]? = some a) : n = m := by
  exact (List.getElem?_inj (List.getElem?_eq_some_iff.mp h1).1 nd).mp (h1.trans h2.symm)
section
variable {D : Addr}
theorem RW.kp {F F' ρ' : List Addr} {H' : Hp} (k : Keep (F ++ ρ) H (F' ++ ρ') H') (g : ∀ (n : Nat) (a : Addr), ρ[n]? = some a → ρ'[n]? = some a) {w : W} {v : V} (r : RW K F ρ H w v) : RW K F' ρ' H' w v := by
  cases r with
  | d r => exact .d (r.keep k)
  | r e => exact .r (g _ _ e)
  | f e => exact .f e
theorem RO.kp {F F' ρ' : List Addr} {H' : Hp} (k : Keep (F ++ ρ) H (F' ++ ρ') H') (g : ∀ (n : Nat) (a : Addr), ρ[n]? = some a → ρ'[n]? = some a) {o : O} {u : HO} (r : RO K T F ρ H o u) : RO K T F' ρ' H' o u := by
  cases r with
  | lst z rs => exact .lst z (Paired.mapP rs fun _ _ x => x.kp k g)
  | dk rs => exact .dk (Paired.mapP rs fun _ _ x => ⟨x.1, x.2.kp k g⟩)
  | dt rs => exact .dt (Paired.mapP rs fun _ _ x => ⟨x.1, x.2.kp k g⟩)
  | fk rs => exact .fk (Paired.mapP rs fun _ _ x => ⟨x.1, x.2.kp k g⟩)
  | ft rs => exact .ft (Paired.mapP rs fun _ _ x => ⟨x.1, x.2.kp k g⟩)
  | ins rs z => exact .ins (Paired.mapP rs fun _ _ x => ⟨x.1, x.2.kp k g⟩) z
end
theorem HR.set (h : HR K T F ρ ih H) {n : Nat} {a : Addr} {o : O} {u : HO} (e : ρ[n]? = some a) (r : RO K T F ρ (upd H a u) o u) : HR K T F ρ (ih.set n o) (upd H a u) where
  len := by simp [h.len]
  nd := h.nd
  fr := h.fr
  trF := fun b m => by
    by_cases q : b = a
    · subst q; rw [upd_same]; exact fun q => nomatch q
    · rw [upd_ne q]; exact h.trF b m
  obj := fun m o' e' => by
    by_cases q : m = n
    · subst q
      have hm : m < ih.length := by
        rw [← h.len]; exact (List.getElem?_eq_some_iff.mp e).1
      rw [List.getElem?_set_self hm] at e'
      cases e'
      exact ⟨a, u, e, upd_same, r⟩
    · rw [List.getElem?_set_ne (Ne.symm q)] at e'
      obtain ⟨b, ho, e1, e2, r'⟩ := h.obj m o' e'
      have nb : b ≠ a := fun z => by
        subst z
        exact q (nodup_get h.nd e1 e)
      exact ⟨b, ho, e1, by rw [upd_ne nb]; exact e2, r'.kp (keep_set (List.mem_of_getElem? e)) fun _ _ q => q⟩
  ntF := fun b m xs => by rw [upd_ne fun q => h.fr a (List.mem_of_getElem? e) (by rw [← q]; exact m)]; exact h.ntF b m xs
theorem HR.at (h : HR K T F ρ ih H) {n : Nat} {a : Addr} {o : O} (e : ρ[n]? = some a) (ho : ih[n]? = some o) : ∃ u, H a = some u ∧ RO K T F ρ H o u := by
  obtain ⟨b, u, e1, e2, r⟩ := h.obj n o ho
  rw [e] at e1
  cases e1
  exact ⟨u, e2, r⟩
theorem not_new {p : Addr} (h : HR K T F ρ ih H) (hp : H p = none) : p ∉ F ++ ρ := fun m => by
  rcases List.mem_append.mp m with q | q
  · exact h.neF hp q
  · exact h.ne hp q

/-! ### lists of values -/
theorem RpL.rws : ∀ {ds : List D} {vs : List V}, RpL K (F ++ ρ) H ds vs → RWs K F ρ H (ds.map .d) vs
  | _, _, .nil => .nil
  | _, _, .cons a b => .cons (.d a) (RpL.rws b)
def allD : List W → Option (List D)
  | [] => some []
  | .d x :: r => (allD r).map (x :: ·)
  | .r _ :: _ => none
  | .f _ :: _ => none
theorem allD_map (ds : List D) : allD (ds.map .d) = some ds := by
  induction ds with
  | nil => rfl
  | cons x r ih => simp [allD, ih]
theorem allD_eq : ∀ {ws : List W} {ds : List D}, allD ws = some ds → ws = ds.map .d
  | [], ds, h => by simp [allD] at h; subst h; rfl
  | .d x :: r, ds, h => by
    simp only [allD, Option.map_eq_some_iff] at h
    obtain ⟨l, e, rfl⟩ := h
    rw [allD_eq e, List.map_cons]
  | .r _ :: r, ds, h => by simp [allD] at h
  | .f _ :: r, ds, h => by simp [allD] at h
theorem RWs.rp : ∀ {ds : List D} {vs : List V}, RWs K F ρ H (ds.map .d) vs → RpL K (F ++ ρ) H ds vs
  | [], _, h => by cases h; exact .nil
  | d :: ds, _, h => by
    rw [List.map_cons] at h
    cases h with
    | cons a b =>
      cases a with
      | d a => exact .cons a (RWs.rp b)
theorem allD_rp {ws : List W} {ds : List D} {vs : List V} (e : allD ws = some ds) (r : RWs K F ρ H ws vs) : RpL K (F ++ ρ) H ds vs := by
  rw [allD_eq e] at r
  exact r.rp
/-- the items of a list, be it one that changes or not -/
def lstW (w : W) (h : Hh) : Option (List W) := match w with
  | .d (.lst l) => some (l.map .d)
  | .r n => match h[n]? with
    | some (.lst l) => some l
    | _ => none
  | _ => none
def seqW (w : W) (h : Hh) : Option (List W) := match w with
  | .d (.tup l) => some (l.map .d)
  | w => lstW w h
theorem lstW_at (hr : HR K T F ρ ih H) {w : W} {v : V} (r : RW K F ρ H w v) {l : List W} (e : lstW w ih = some l) :
    ∃ a vs, v = .ref a ∧ Rd H a (.lst vs) ∧ RWs K F ρ H l vs ∧ l.length ≤ sizeLine := by
  cases r with
  | d r =>
    cases r with
    | lst h z rl =>
      simp only [lstW, Option.some.injEq] at e
      subst e
      exact ⟨_, _, rfl, h.1, rl.rws, by simpa using z⟩
    | _ => simp [lstW] at e
  | f hn => simp [lstW] at e
  | r hn =>
    simp only [lstW] at e
    rename_i n a
    cases ho : ih[n]? with
    | none => rw [ho] at e; cases e
    | some o =>
      rw [ho] at e
      cases o with
      | lst l' =>
        cases e
        obtain ⟨u, eH, ro⟩ := hr.at hn ho
        cases ro with
        | lst z rs => exact ⟨_, _, rfl, .inl eH, rs, z⟩
      | _ => cases e
theorem seqW_at (hr : HR K T F ρ ih H) {w : W} {v : V} (r : RW K F ρ H w v) {l : List W} (e : seqW w ih = some l) :
    ∃ a vs, v = .ref a ∧ (Rd H a (.lst vs) ∨ Rd H a (.tup vs)) ∧ RWs K F ρ H l vs ∧ l.length ≤ sizeLine := by
  unfold seqW at e
  split at e
  · cases r with
    | d r =>
      cases r with
      | tup h z rl =>
        simp only [Option.some.injEq] at e
        subst e
        exact ⟨_, _, rfl, .inr (.inl h.1), rl.rws, by simpa using z⟩
  · obtain ⟨a, vs, e1, e2, e3, e4⟩ := lstW_at hr r e
    exact ⟨a, vs, e1, .inl e2, e3, e4⟩
/-- a new list that never changes, of data -/
theorem new_lst (hr : HR K T F ρ ih H) {Wx : WX} {σ : L2.St} {ds : List D} {vs : List V} {p : Addr} {k : List Addr → Hp → Hh → W → Prop} (hp : H p = none) (r : RpL K (F ++ ρ) H ds vs) (z : ds.length ≤ sizeLine)
    (h : Pst K T Wx σ F ρ H (.ok (.d (.lst ds)) ih) k) : k ρ (upd H p (.lst vs)) ih (.d (.lst ds)) ∧ RW K F ρ (upd H p (.lst vs)) (.d (.lst ds)) (.ref p) := by
  refine ⟨h _ _ (grow_new hp) (hr.new hp), .d (.lst ⟨.inl upd_same, not_new hr hp⟩ z (r.keep (Grow.keepM (grow_new hp) hr)))⟩
theorem new_tup (hr : HR K T F ρ ih H) {Wx : WX} {σ : L2.St} {ds : List D} {vs : List V} {p : Addr} {k : List Addr → Hp → Hh → W → Prop} (hp : H p = none) (r : RpL K (F ++ ρ) H ds vs) (z : ds.length ≤ sizeLine)
    (h : Pst K T Wx σ F ρ H (.ok (.d (.tup ds)) ih) k) : k ρ (upd H p (.tup vs)) ih (.d (.tup ds)) ∧ RW K F ρ (upd H p (.tup vs)) (.d (.tup ds)) (.ref p) := by
  refine ⟨h _ _ (grow_new hp) (hr.new hp), .d (.tup ⟨upd_same, not_new hr hp⟩ z (r.keep (Grow.keepM (grow_new hp) hr)))⟩
end

/-! ### displays -/
def mkT (ws : List W) (h : Hh) : R W := match allD ws with
  | some ds => if ds.length ≤ 16777216 then .ok (.d (.tup ds)) h else .no
  | none => .no
def mkL (ws : List W) (h : Hh) : R W := match allD ws with
  | some ds => if ds.length ≤ 16777216 then .ok (.d (.lst ds)) h else .no
  | none => .no
/-- a list that will change -/
def mkM (ws : List W) (h : Hh) : R W := if ws.length ≤ 16777216 then .ok (.r h.length) (h ++ [.lst ws]) else .no
section
variable {X : Cx} {T : Tb} {Wx : WX} {es : List Expr} {pos : Pos} {ca : Ca}
theorem fe_tup {x1} (h : FA X T Wx es ca) : FE X T Wx (.Tuple es x1 pos) (cCl mkT ca) := PE.imp (pe_tup h) fun σ H Q q => by
  obtain ⟨F, ρ, ev, ih, hr, re, hp⟩ := q
  refine ⟨F, ρ, ev, ih, hr, re, hp.bind.mono fun ρ1 H1 ih1 ws g1 hr1 hp1 vs rs => ?_⟩
  unfold mkT at hp1
  cases e : allD ws with
  | none => rw [e] at hp1; exact hp1.elim
  | some ds =>
    rw [e] at hp1
    dsimp only at hp1
    split at hp1
    · rename_i z
      have rp := allD_rp e rs
      refine ⟨by rw [← rp.length]; exact z, fun p np => ?_⟩
      obtain ⟨a, b⟩ := new_tup hr1 np rp z hp1
      exact a _ b
    · exact hp1.elim
theorem fe_lst (h : FA X T Wx es ca) : FE X T Wx (.List es pos) (cCl mkL ca) := PE.imp (pe_lst h) fun σ H Q q => by
  obtain ⟨F, ρ, ev, ih, hr, re, hp⟩ := q
  refine ⟨F, ρ, ev, ih, hr, re, hp.bind.mono fun ρ1 H1 ih1 ws g1 hr1 hp1 vs rs => ?_⟩
  unfold mkL at hp1
  cases e : allD ws with
  | none => rw [e] at hp1; exact hp1.elim
  | some ds =>
    rw [e] at hp1
    dsimp only at hp1
    split at hp1
    · rename_i z
      have rp := allD_rp e rs
      refine ⟨by rw [← rp.length]; exact z, fun p np => ?_⟩
      obtain ⟨a, b⟩ := new_lst hr1 np rp z hp1
      exact a _ b
    · exact hp1.elim
theorem get_last {ρ : List Addr} {ih : Hh} (h : ρ.length = ih.length) {p : Addr} : (ρ ++ [p])[ih.length]? = some p := by rw [← h]; simp
theorem fe_lstM (h : FA X T Wx es ca) : FE X T Wx (.List es pos) (cCl mkM ca) := PE.imp (pe_lst h) fun σ H Q q => by
  obtain ⟨F, ρ, ev, ih, hr, re, hp⟩ := q
  refine ⟨F, ρ, ev, ih, hr, re, hp.bind.mono fun ρ1 H1 ih1 ws g1 hr1 hp1 vs rs => ?_⟩
  unfold mkM at hp1
  split at hp1
  · rename_i z
    refine ⟨by rw [← Paired.length rs]; exact z, fun p np => ?_⟩
    exact hp1 _ _ (grow_add np) (hr1.add np (.lst z (RWs.grow (grow_add np) hr1 rs))) _ (.r (get_last hr1.len))
  · exact hp1.elim
theorem fe_dK : FE X T Wx (.Dict [] [] pos) (fun _ h => .ok (.r h.length) (h ++ [.dk []])) := PE.imp pe_dnewK fun σ H Q q => by
  obtain ⟨F, ρ, ev, ih, hr, re, hp⟩ := q
  exact fun p np => hp _ _ (grow_add np) (hr.add np (.dk .nil)) _ (.r (get_last hr.len))
theorem fe_dT : FE X T Wx (.Dict [] [] pos) (fun _ h => .ok (.r h.length) (h ++ [.dt []])) := PE.imp pe_dnewT fun σ H Q q => by
  obtain ⟨F, ρ, ev, ih, hr, re, hp⟩ := q
  exact fun p np => hp _ _ (grow_add np) (hr.add np (.dt .nil)) _ (.r (get_last hr.len))
end
end Fz
set_option Elab.async false
set_option linter.all false
set_option maxRecDepth 100000
set_option maxHeartbeats 2000000
/-! Fz: operators by values. -/
namespace Fz
open PySem L2 PyProof.Rows

/-! ### lists that are made -/
def fin (m : Bool) (ws : List W) (h : Hh) : R W := if m then mkM ws h else mkL ws h
section
variable {K : PySem.W.Frag} {T : Tb} {Wx : WX} {σ : L2.St} {F ρ : List Addr} {H : Hp} {ih : Hh} {Q : VK}
theorem fin_len {m : Bool} {ws : List W} {k : List Addr → Hp → Hh → W → Prop} (hp : Pst K T Wx σ F ρ H (fin m ws ih) k) : ws.length ≤ sizeLine := by
  unfold fin at hp
  split at hp
  · unfold mkM at hp
    split at hp
    · assumption
    · exact hp.elim
  · unfold mkL at hp
    cases e : allD ws with
    | none => rw [e] at hp; exact hp.elim
    | some ds =>
      rw [e] at hp
      dsimp only at hp
      split at hp
      · rw [allD_eq e, List.length_map]; assumption
      · exact hp.elim
theorem fin_ok {m : Bool} {ws : List W} {vs : List V} {p : Addr} (hr : HR K T F ρ ih H) (rs : RWs K F ρ H ws vs) (np : H p = none)
    (hp : Pst K T Wx σ F ρ H (fin m ws ih) fun ρ' H' _ w => ∀ v, RW K F ρ' H' w v → Q v H') : Q (.ref p) (upd H p (.lst vs)) := by
  have hl := fin_len hp
  unfold fin at hp
  split at hp
  · unfold mkM at hp
    split at hp
    · exact hp _ _ (grow_add np) (hr.add np (.lst hl (RWs.grow (grow_add np) hr rs))) _ (.r (get_last hr.len))
    · exact hp.elim
  · unfold mkL at hp
    cases e : allD ws with
    | none => rw [e] at hp; exact hp.elim
    | some ds =>
      rw [e] at hp
      dsimp only at hp
      split at hp
      · rename_i z
        obtain ⟨a, b⟩ := new_lst hr np (allD_rp e rs) z hp
        exact a _ b
      · exact hp.elim
end

/-! ### int, text, tuple, list: + - * // % -/
section
variable {X : Cx} {pins : List (Addr × Obj)} {σ : L2.St} {H : Hp} {s : Shared}
theorem Inv.lstR {l : Addr} {xs : List V} (I : L2.Inv X pins σ H s) (h : Rd H l (.lst xs)) : xs.length ≤ sizeLine ∧ ∃ (its : List Value) (n : Nat), Vals xs its ∧ xs.length = its.length ∧ s.heap.get? l = some { cls := .type "list", data := .seq its.toArray n } := by
  obtain ⟨z, its, n, r, e⟩ := h.ok I.hok
  exact ⟨z, its, n, r, r.length, e⟩
def rCatR : R2 := fun x y H Q => ∃ l b xs zs, x = .ref l ∧ y = .ref b ∧ Rd H l (.lst xs) ∧ Rd H b (.lst zs) ∧ xs.length + zs.length ≤ sizeLine ∧ ∀ p, H p = none → Q (.ref p) (upd H p (.lst (xs ++ zs)))
theorem op_catR : OpR X (binaryOp .Add) rCatR := by
  intro pins s σ H x y v u Q I rx ry h
  obtain ⟨l, b, xs, zs, rfl, rfl, h1, h2, hz, q⟩ := h
  cases rx
  cases ry
  obtain ⟨_, its, n, r, hl, e⟩ := Inv.lstR I h1
  obtain ⟨_, jts, m, r2, hl2, e2⟩ := Inv.lstR I h2
  refine PySem.P.add_list e e2 ?_ (by simp; omega)
  have ea : its.toArray ++ jts.toArray = (its ++ jts).toArray := by simp
  rw [ea]
  exact ⟨.ref _, _, I.lnew (t' := s.toks) (r.append r2) (by simp; omega), rfl, q _ I.fresh⟩
end
def rAddF (K : PySem.W.Frag) : R2 := fun x y H Q => rI0 (fun i j => .int (i + j)) x y H Q ∨ (∃ i j, x = .str i ∧ y = .str j ∧ i.length + j.length ≤ sizeLine ∧ Q (.str (i ++ j)) H) ∨ rCatA K x y H Q ∨ rCatR x y H Q
theorem opr_add {X : Cx} : OpR X (binaryOp .Add) (rAddF X.K) := op_add.or (op_add_str.or (op_catA.or op_catR))
def opAdd (m : Bool) (x y : W) (h : Hh) : R W := match x, y with
  | .d (.int i), .d (.int j) => .ok (.d (.int (i + j))) h
  | .d (.str a), .d (.str b) => if a.length + b.length ≤ 16777216 then .ok (.d (.str (a ++ b))) h else .no
  | .d (.tup a), .d (.tup b) => if a.length + b.length ≤ 16777216 then .ok (.d (.tup (a ++ b))) h else .no
  | _, _ => match lstW x h, lstW y h with
    | some a, some b => fin m (a ++ b) h
    | _, _ => .no
theorem RpL.app {K M H} : ∀ {a b : List D} {vs ws : List V}, RpL K M H a vs → RpL K M H b ws → RpL K M H (a ++ b) (vs ++ ws)
  | _, _, _, _, .nil, r => r
  | _, _, _, _, .cons x y, r => .cons x (RpL.app y r)
theorem RWs.app {K F ρ H} : ∀ {a b : List W} {vs ws : List V}, RWs K F ρ H a vs → RWs K F ρ H b ws → RWs K F ρ H (a ++ b) (vs ++ ws)
  | _, _, _, _, .nil, r => r
  | _, _, _, _, .cons x y, r => .cons x (RWs.app y r)
theorem RWs.length {K F ρ H} {a : List W} {vs : List V} (h : RWs K F ρ H a vs) : a.length = vs.length := Paired.length h
theorem RpL.nil_iff {K M H a vs} (h : RpL K M H a vs) : vs = [] ↔ a = [] := by
  have := h.length
  constructor
  · intro e; subst e; exact List.eq_nil_of_length_eq_zero this
  · intro e; subst e; exact List.eq_nil_of_length_eq_zero this.symm
theorem str_app (a b : List Nat) : toStr a ++ toStr b = toStr (a ++ b) := by
  show Str.append _ _ = _
  simp [Str.append, toStr]
section
variable {K : PySem.W.Frag} {T : Tb}
/-- cases on what two values are: where no case of the operator fits -/
theorem fop_add {m : Bool} : FOp K T (opAdd m) (rAddF K) := by
  intro Wx σ F ρ ih H x y v1 v2 Q hr r1 r2 hp
  unfold opAdd at hp
  split at hp
  · cases r1 with | d r1 => cases r2 with | d r2 => cases r1; cases r2; exact .inl ⟨_, _, rfl, rfl, hp.ok hr _ (.d (.int _))⟩
  · cases r1 with | d r1 => cases r2 with | d r2 =>
      cases r1 with | str a za => cases r2 with | str b zb =>
        split at hp
        · rename_i z
          refine .inr (.inl ⟨_, _, rfl, rfl, by rw [toStr_len, toStr_len]; exact z, ?_⟩)
          rw [str_app]
          exact hp.ok hr _ (.d (.str _ (by rw [List.length_append]; exact z)))
        · exact hp.elim
  · cases r1 with | d r1 => cases r2 with | d r2 =>
      cases r1 with | tup t1 z1 l1 => cases r2 with | tup t2 z2 l2 =>
        split at hp
        · rename_i a b z
          refine .inr (.inr (.inl ⟨_, _, _, _, rfl, rfl, t1.sq, t2.sq, by rw [← l1.length, ← l2.length]; exact z, fun e => ?_, fun e e2 => ?_, fun e e2 p np => ?_⟩))
          · have := l1.nil_iff.mp e
            subst this
            exact hp.ok hr _ (.d (.tup t2 z2 l2))
          · have := l2.nil_iff.mp e2
            subst this
            rw [List.append_nil] at hp
            exact hp.ok hr _ (.d (.tup t1 z1 l1))
          · obtain ⟨q1, q2⟩ := new_tup hr np (l1.app l2) (by rw [List.length_append]; exact z) hp
            exact q1 _ q2
        · exact hp.elim
  · split at hp
    · rename_i e1 e2
      obtain ⟨a, vs, rfl, s1, rs1, _⟩ := lstW_at hr r1 e1
      obtain ⟨b, ws, rfl, s2, rs2, _⟩ := lstW_at hr r2 e2
      have hl := fin_len hp
      rw [List.length_append, rs1.length, rs2.length] at hl
      exact .inr (.inr (.inr ⟨_, _, _, _, rfl, rfl, s1, s2, hl, fun p np => fin_ok hr (rs1.app rs2) np hp⟩))
    · exact hp.elim
def opI (g : Int → Int → Int) (c : Int → Int → Bool) (x y : W) (h : Hh) : R W := match x, y with
  | .d (.int i), .d (.int j) => if c i j then .ok (.d (.int (g i j))) h else .no
  | _, _ => .no
theorem fop_I {g : Int → Int → Int} {c : Int → Int → Bool} {C : Int → Int → Prop} (hc : ∀ i j, c i j = true → C i j) : FOp K T (opI g c) (rI C fun i j => .int (g i j)) := by
  intro Wx σ F ρ ih H x y v1 v2 Q hr r1 r2 hp
  unfold opI at hp
  split at hp
  · cases r1 with | d r1 => cases r2 with | d r2 => cases r1; cases r2; split at hp <;> first | exact ⟨_, _, rfl, rfl, hc _ _ (by assumption), hp.ok hr _ (.d (.int _))⟩ | exact hp.elim
  · exact hp.elim
theorem fop_I0 {g : Int → Int → Int} : FOp K T (opI g fun _ _ => true) (rI0 fun i j => .int (g i j)) := by
  intro Wx σ F ρ ih H x y v1 v2 Q hr r1 r2 hp
  obtain ⟨i, j, a, b, _, q⟩ := fop_I (C := fun _ _ => True) (fun _ _ _ => trivial) Wx σ F ρ ih H x y v1 v2 Q hr r1 r2 hp
  exact ⟨i, j, a, b, q⟩
def opSub : W → W → Hh → R W := opI (· - ·) fun _ _ => true
theorem fop_sub : FOp K T opSub (rI0 fun i j => .int (i - j)) := fop_I0
def opFdiv : W → W → Hh → R W := opI (fun i j => i / j) fun i j => decide (0 < j ∧ j < 1073741824)
theorem fop_fdiv : FOp K T opFdiv (rI CDiv fun i j => .int (i / j)) := fop_I fun i j h => show CDiv i j from of_decide_eq_true (p := 0 < j ∧ j < 1073741824) h
def opMod : W → W → Hh → R W := opI (fun i j => i % j) fun i j => decide (0 < j)
theorem fop_mod : FOp K T opMod (rI (fun _ j => 0 < j) fun i j => .int (i % j)) := fop_I fun _ _ h => of_decide_eq_true h
def opPow : W → W → Hh → R W := opI (fun i j => i ^ j.toNat) fun i j => decide (0 ≤ j ∧ j ≤ 1000000 ∧ i.natAbs < 2 ^ 64)
theorem fop_pow : FOp K T opPow (rI CPow fun i j => .int (i ^ j.toNat)) := fop_I fun i j h => show CPow i j from of_decide_eq_true (p := 0 ≤ j ∧ j ≤ 1000000 ∧ i.natAbs < 2 ^ 64) h
def opShl : W → W → Hh → R W := opI (fun i j => i * 2 ^ j.toNat) fun i j => decide (0 ≤ j ∧ j ≤ 1000000 ∧ i.natAbs < 2 ^ 64)
theorem fop_shl : FOp K T opShl (rI CPow fun i j => .int (i * 2 ^ j.toNat)) := fop_I fun i j h => show CPow i j from of_decide_eq_true (p := 0 ≤ j ∧ j ≤ 1000000 ∧ i.natAbs < 2 ^ 64) h
def opShr : W → W → Hh → R W := opI (fun i j => i / 2 ^ j.toNat) fun _ j => decide (0 ≤ j)
theorem fop_shr : FOp K T opShr (rI (fun _ j => 0 ≤ j) fun i j => .int (i / 2 ^ j.toNat)) := fop_I fun _ _ h => of_decide_eq_true h
def opAnd : W → W → Hh → R W := opI (fun i j => Builtin.bitAnd i j) fun _ _ => true
theorem fop_and : FOp K T opAnd (rI0 fun i j => .int (Builtin.bitAnd i j)) := fop_I0
end
/-- a list or a tuple times an int -/
def rRepR : R2 := fun x y H Q => ∃ l k xs, x = .ref l ∧ y = .int k ∧ H l = some (.lst xs) ∧ -(2 ^ 63) ≤ k ∧ k < 2 ^ 63 ∧ xs.length * k.toNat ≤ sizeLine ∧
  ∀ p, H p = none → Q (.ref p) (upd H p (.lst (List.replicate k.toNat xs).flatten))
def rMulF (K : PySem.W.Frag) : R2 := fun x y H Q => rI CMul (fun i j => .int (i * j)) x y H Q ∨ rRep x y H Q ∨ rRepT K x y H Q
theorem opr_mul {X : Cx} : OpR X (binaryOp .Mult) (rMulF X.K) := op_mul.or (op_rep.or op_repT)
def opMul (m : Bool) (x y : W) (h : Hh) : R W := match x, y with
  | .d (.int i), .d (.int j) => if (-(2 ^ 64) < i ∧ i < 2 ^ 64) ∨ (-(2 ^ 64) < j ∧ j < 2 ^ 64) then .ok (.d (.int (i * j))) h else .no
  | .d (.tup a), .d (.int k) => if a ≠ [] ∧ 2 ≤ k ∧ k ≤ 1000 ∧ a.length ≤ 1000 then .ok (.d (.tup (List.replicate k.toNat a).flatten)) h else .no
  | .r n, .d (.int k) => match h[n]? with
    | some (.lst a) => if -(2 ^ 63) ≤ k ∧ k < 2 ^ 63 ∧ a.length * k.toNat ≤ 16777216 then fin m (List.replicate k.toNat a).flatten h else .no
    | _ => .no
  | _, _ => .no
theorem RpL.rep {K M H} {a : List D} {vs : List V} (h : RpL K M H a vs) : ∀ k : Nat, RpL K M H (List.replicate k a).flatten (List.replicate k vs).flatten
  | 0 => .nil
  | k + 1 => by simp only [List.replicate_succ, List.flatten_cons]; exact h.app (RpL.rep h k)
theorem RWs.rep {K F ρ H} {a : List W} {vs : List V} (h : RWs K F ρ H a vs) : ∀ k : Nat, RWs K F ρ H (List.replicate k a).flatten (List.replicate k vs).flatten
  | 0 => .nil
  | k + 1 => by simp only [List.replicate_succ, List.flatten_cons]; exact h.app (RWs.rep h k)
theorem fop_mul {K : PySem.W.Frag} {T : Tb} {m : Bool} : FOp K T (opMul m) (rMulF K) := by
  intro Wx σ F ρ ih H x y v1 v2 Q hr r1 r2 hp
  unfold opMul at hp
  split at hp
  · cases r1 with | d r1 => cases r2 with | d r2 => cases r1; cases r2; split at hp <;> first | exact .inl ⟨_, _, rfl, rfl, by assumption, hp.ok hr _ (.d (.int _))⟩ | exact hp.elim
  · rename_i a k
    split at hp
    · rename_i z
      cases r1 with | d r1 => cases r2 with | d r2 =>
        cases r2
        cases r1 with | tup t1 z1 l1 =>
          have hl := l1.length
          refine .inr (.inr ⟨_, _, _, rfl, rfl, t1.sq, fun e => z.1 (l1.nil_iff.mp e), z.2.1, z.2.2.1, by rw [← hl]; exact z.2.2.2, fun p np => ?_⟩)
          obtain ⟨q1, q2⟩ := new_tup hr np (l1.rep k.toNat) (by
            rw [PyProof.Rows.lm_len_rep_flat]
            have h1 : k.toNat ≤ 1000 := by omega
            exact Nat.le_trans (Nat.mul_le_mul h1 z.2.2.2) (by decide)) hp
          exact q1 _ q2
    · exact hp.elim
  · rename_i n k
    split at hp
    · rename_i a ho
      split at hp
      · rename_i c
        cases r1 with | r e => cases r2 with | d r2 =>
          cases r2
          obtain ⟨u, eH, ro⟩ := hr.at e ho
          cases ro with
          | lst z rs => exact .inr (.inl ⟨_, _, _, rfl, rfl, eH, c.1, c.2.1, by rw [← rs.length]; exact c.2.2, fun p np => fin_ok hr (rs.rep k.toNat) np hp⟩)
      · exact hp.elim
    · exact hp.elim
  · exact hp.elim

/-! ### equality of data -/
mutual
def D.py : D → PyData
  | .non => .none | .bl b => .bool b | .int i => .int i | .str l => .str (toStr l) | .tup l => .tuple (pyL l) | .lst l => .list (pyL l)
def pyL : List D → List PyData
  | [] => []
  | d :: r => d.py :: pyL r
end
theorem pyL_map (l : List D) : pyL l = l.map D.py := by induction l with | nil => rfl | cons a r ih => simp [pyL, ih]
mutual
theorem Rp.dp {K M H} : ∀ {d : D} {v : V}, Rp K M H d v → Dp K H v d.py
  | _, _, .non => by simp only [D.py]; exact .non
  | _, _, .bl b => by simp only [D.py]; exact .bl b
  | _, _, .int i => by simp only [D.py]; exact .int i
  | _, _, .str l z => by simp only [D.py]; exact .str _
  | _, _, .tup h z r => by simp only [D.py]; exact .tup h.sq (RpL.dp r)
  | _, _, .lst h z r => by simp only [D.py]; exact .lst h.sq (RpL.dp r)
theorem RpL.dp {K M H} : ∀ {d : List D} {v : List V}, RpL K M H d v → DpAll K H v (pyL d)
  | _, _, .nil => .nil
  | _, _, .cons a b => by simp only [pyL]; exact .cons (Rp.dp a) (RpL.dp b)
end
mutual
/-- Python's == -/
def D.eqv : D → D → Bool
  | .non, .non => true
  | .bl a, .bl b => a == b
  | .bl a, .int j => (if a then 1 else 0) == j
  | .int i, .bl b => i == (if b then 1 else 0)
  | .int i, .int j => i == j
  | .str x, .str y => x == y
  | .tup x, .tup y => eqvL x y
  | .lst x, .lst y => eqvL x y
  | _, _ => false
def eqvL : List D → List D → Bool
  | [], [] => true
  | x :: xs, y :: ys => D.eqv x y && eqvL xs ys
  | _, _ => false
end
theorem str_beq (x y : List Nat) : (toStr x == toStr y) = (x == y) := by
  by_cases h : x = y
  · subst h; simp
  · rw [beq_eq_false_iff_ne.mpr h, beq_eq_false_iff_ne]
    exact fun e => h (toStr_inj e)
mutual
theorem eqv_py : ∀ a b : D, PyData.eqv a.py b.py = D.eqv a b
  | .non, b => by cases b <;> simp [D.py, PyData.eqv, D.eqv]
  | .bl x, b => by cases b <;> simp [D.py, PyData.eqv, D.eqv]
  | .int x, b => by cases b <;> simp [D.py, PyData.eqv, D.eqv]
  | .str x, b => by cases b <;> simp [D.py, PyData.eqv, D.eqv, str_beq]
  | .tup x, b => by
    cases b with
    | tup y => simp only [D.py, PyData.eqv, D.eqv]; exact eqvL_py x y
    | _ => simp [D.py, PyData.eqv, D.eqv]
  | .lst x, b => by
    cases b with
    | lst y => simp only [D.py, PyData.eqv, D.eqv]; exact eqvL_py x y
    | _ => simp [D.py, PyData.eqv, D.eqv]
theorem eqvL_py : ∀ a b : List D, PyData.eqvAll (pyL a) (pyL b) = eqvL a b
  | [], [] => by simp [pyL, PyData.eqvAll, eqvL]
  | [], y :: ys => by simp [pyL, PyData.eqvAll, eqvL]
  | x :: xs, [] => by simp [pyL, PyData.eqvAll, eqvL]
  | x :: xs, y :: ys => by simp only [pyL, PyData.eqvAll, eqvL]; rw [eqv_py x y, eqvL_py xs ys]
end
/-- data that are not too deep, of signs that there are -/
def sh : Nat → D → Bool
  | _, .non | _, .bl _ | _, .int _ => true
  | _, .str l => l.all (· < 1114112)
  | n + 1, .tup l => l.all (sh n)
  | n + 1, .lst l => l.all (sh n)
  | 0, .tup _ | 0, .lst _ => false
theorem strOk_to (l : List Nat) : PySem.PyData.strOk (toStr l) = l.all (· < 1114112) := by
  simp [PySem.PyData.strOk, toStr]
theorem sh_all : ∀ {n : Nat} (ds : List D), (∀ d ∈ ds, sh n d = true → d.py.canLay0 = true ∧ d.py.depth ≤ n) → ds.all (sh n) = true → PyData.canLayAll0 (pyL ds) = true ∧ PyData.depthAll (pyL ds) ≤ n
  | _, [], _, _ => by simp [pyL, PyData.canLayAll0, PyData.depthAll]
  | n, d :: ds, h, e => by
    rw [List.all_cons, Bool.and_eq_true] at e
    have h1 := h d (by simp) e.1
    have h2 := sh_all ds (fun x hx => h x (by simp [hx])) e.2
    simp only [pyL, PyData.canLayAll0, PyData.depthAll, Bool.and_eq_true]
    exact ⟨⟨h1.1, h2.1⟩, Nat.max_le.mpr ⟨h1.2, h2.2⟩⟩
theorem sh_lay : ∀ (n : Nat) (d : D), sh n d = true → d.py.canLay0 = true ∧ d.py.depth ≤ n
  | _, .non, _ => by simp [D.py, PyData.canLay0, PyData.depth]
  | _, .bl _, _ => by simp [D.py, PyData.canLay0, PyData.depth]
  | _, .int _, _ => by simp [D.py, PyData.canLay0, PyData.depth]
  | n, .str l, h => by
    have h' : l.all (· < 1114112) = true := by cases n <;> exact h
    simp only [D.py, PyData.canLay0, PyData.depth]
    exact ⟨by rw [strOk_to]; exact h', Nat.zero_le _⟩
  | 0, .tup _, h => by simp [sh] at h
  | 0, .lst _, h => by simp [sh] at h
  | n + 1, .tup l, h => by
    have := sh_all l (fun d _ => sh_lay n d) h
    simp only [D.py, PyData.canLay0, PyData.depth]
    exact ⟨this.1, Nat.succ_le_succ this.2⟩
  | n + 1, .lst l, h => by
    have := sh_all l (fun d _ => sh_lay n d) h
    simp only [D.py, PyData.canLay0, PyData.depth]
    exact ⟨this.1, Nat.succ_le_succ this.2⟩
theorem sh_shaped {d : D} (h : sh 64 d = true) : SeqAt.shaped d.py = true := by
  obtain ⟨a, b⟩ := sh_lay 64 d h
  simp [SeqAt.shaped, a, b]
/-- the datum that a value is now -/
def valD (w : W) (h : Hh) : Option D := match w with
  | .d x => some x
  | .r n => match h[n]? with
    | some (.lst l) => (allD l).map .lst
    | _ => none
  | .f _ => none
section
variable {K : PySem.W.Frag} {T : Tb} {F ρ : List Addr} {H : Hp} {ih : Hh}
theorem valD_dp (hr : HR K T F ρ ih H) {w : W} {v : V} (r : RW K F ρ H w v) {x : D} (e : valD w ih = some x) : Dp K H v x.py := by
  cases r with
  | d r =>
    simp only [valD, Option.some.injEq] at e
    subst e
    exact r.dp
  | f hn => simp [valD] at e
  | r hn =>
    rename_i n a
    simp only [valD] at e
    cases ho : ih[n]? with
    | none => rw [ho] at e; cases e
    | some o =>
      rw [ho] at e
      cases o with
      | lst l =>
        simp only [Option.map_eq_some_iff] at e
        obtain ⟨ds, e1, rfl⟩ := e
        obtain ⟨u, eH, ro⟩ := hr.at hn ho
        cases ro with
        | lst z rs =>
          simp only [D.py]
          exact .lst (.inl (.inl eH)) (allD_rp e1 rs).dp
      | _ => cases e
def opEq (neg : Bool) (x y : W) (h : Hh) : R W := match valD x h, valD y h with
  | some a, some b => if sh 64 a && sh 64 b then .ok (.d (.bl (if neg then !(D.eqv a b) else D.eqv a b))) h else .no
  | _, _ => .no
theorem opEq_at {neg : Bool} {Wx : WX} {σ : L2.St} {x y : W} {v1 v2 : V} {Q : VK} (hr : HR K T F ρ ih H) (r1 : RW K F ρ H x v1) (r2 : RW K F ρ H y v2)
    (hp : Pst K T Wx σ F ρ H (opEq neg x y ih) fun ρ' H' _ w => ∀ v, RW K F ρ' H' w v → Q v H') :
    ∃ d e, Dp K H v1 d ∧ Dp K H v2 e ∧ SeqAt.shaped d = true ∧ SeqAt.shaped e = true ∧ Q (.bl (if neg then !(PyData.eqv d e) else PyData.eqv d e)) H := by
  unfold opEq at hp
  split at hp
  · rename_i a b e1 e2
    split at hp
    · rename_i c
      rw [Bool.and_eq_true] at c
      refine ⟨_, _, valD_dp hr r1 e1, valD_dp hr r2 e2, sh_shaped c.1, sh_shaped c.2, ?_⟩
      rw [eqv_py]
      exact hp.ok hr _ (.d (.bl _))
    · exact hp.elim
  · exact hp.elim
theorem fop_eq : FOp K T (opEq false) (rEqD K) := fun _ _ _ _ _ _ _ _ _ _ _ hr r1 r2 hp => opEq_at hr r1 r2 hp
theorem fop_ne : FOp K T (opEq true) (rNeD K) := fun _ _ _ _ _ _ _ _ _ _ _ hr r1 r2 hp => opEq_at hr r1 r2 hp
def opC (p : Int → Int → Bool) (x y : W) (h : Hh) : R W := match x, y with
  | .d (.int i), .d (.int j) => .ok (.d (.bl (p i j))) h
  | _, _ => .no
theorem fop_C {p : Int → Int → Bool} : FOp K T (opC p) (rI0 fun i j => .bl (p i j)) := by
  intro Wx σ F ρ ih H x y v1 v2 Q hr r1 r2 hp
  unfold opC at hp
  split at hp
  · cases r1 with | d r1 => cases r2 with | d r2 => cases r1; cases r2; exact ⟨_, _, rfl, rfl, hp.ok hr _ (.d (.bl _))⟩
  · exact hp.elim
abbrev opLt := opC fun i j => decide (i < j)
abbrev opLe := opC fun i j => decide (i ≤ j)
abbrev opGt := opC fun i j => decide (j < i)
abbrev opGe := opC fun i j => decide (j ≤ i)
def W.isN : W → Bool
  | .d .non => true
  | _ => false
def opNone (neg : Bool) (x y : W) (h : Hh) : R W := match y with
  | .d .non => .ok (.d (.bl (if neg then !x.isN else x.isN))) h
  | _ => .no
theorem isNon {F ρ : List Addr} {H : Hp} {x : W} {v : V} (r : RW K F ρ H x v) : decide (v = .non) = x.isN := by
  cases r with
  | r e => rfl
  | f e => rfl
  | d r => cases r <;> rfl
theorem fop_isN : FOp K T (opNone false) (fun x y H Q => y = .non ∧ Q (.bl (decide (x = .non))) H) := by
  intro Wx σ F ρ ih H x y v1 v2 Q hr r1 r2 hp
  unfold opNone at hp
  split at hp
  · cases r2 with | d r2 => cases r2; exact ⟨rfl, by rw [isNon r1]; exact hp.ok hr _ (.d (.bl _))⟩
  · exact hp.elim
theorem fop_notN : FOp K T (opNone true) (fun x y H Q => y = .non ∧ Q (.bl (!decide (x = .non))) H) := by
  intro Wx σ F ρ ih H x y v1 v2 Q hr r1 r2 hp
  unfold opNone at hp
  split at hp
  · cases r2 with | d r2 => cases r2; exact ⟨rfl, by rw [isNon r1]; exact hp.ok hr _ (.d (.bl _))⟩
  · exact hp.elim
end
end Fz
set_option Elab.async false
set_option linter.all false
set_option maxRecDepth 100000
set_option maxHeartbeats 2000000
/-! Fz: in, items, slices, built-in calls. -/
namespace Fz
open PySem L2 PyProof.Rows

/-! ### x in a list or tuple of data, in a text -/
def rInF (K : PySem.W.Frag) (neg : Bool) : R2 := fun x y H Q => ∃ d e ds, Dp K H x d ∧ Dp K H y e ∧ (e = .list ds ∨ e = .tuple ds) ∧ SeqAt.shaped d = true ∧ SeqAt.shaped e = true ∧ Q (.bl (if neg then !(ds.any fun z => PyData.eqv z d) else ds.any fun z => PyData.eqv z d)) H
section
variable {X : Cx}
theorem roomIn {A : Around} {n : Nat} {d : PyData} (hd : SeqAt.shaped d = true) (hu : A.units + 65 < cLine) : A.units + 1 + min n d.depth < cLine := by
  have h1 := SeqAt.depth_of_shaped hd
  have h2 : min n d.depth ≤ d.depth := Nat.min_le_right _ _
  omega
theorem opr_in (hu : X.A.units + 65 < cLine) : OpR X (compareOp .In) (rInF X.K false) := by
  intro pins s σ H x y v u Q I rx ry h
  obtain ⟨d, e, ds, hd, he, k, sd, se, q⟩ := h
  obtain ⟨as, r1⟩ := Dp.reads I d x v hd rx
  obtain ⟨bs, r2⟩ := Dp.reads I e y u he ry
  rcases k with rfl | rfl
  · exact SeqAt.in_list_reads r2 r1 (SeqAt.canLay_of_shaped se) (SeqAt.canLay_of_shaped sd) (roomIn sd hu) ⟨.bl _, H, I, rfl, q⟩
  · exact SeqAt.in_tuple_reads r2 r1 (SeqAt.canLay_of_shaped se) (SeqAt.canLay_of_shaped sd) (roomIn sd hu) ⟨.bl _, H, I, rfl, q⟩
theorem opr_notin (hu : X.A.units + 65 < cLine) : OpR X (compareOp .NotIn) (rInF X.K true) := by
  intro pins s σ H x y v u Q I rx ry h
  obtain ⟨d, e, ds, hd, he, k, sd, se, q⟩ := h
  obtain ⟨as, r1⟩ := Dp.reads I d x v hd rx
  obtain ⟨bs, r2⟩ := Dp.reads I e y u he ry
  rcases k with rfl | rfl
  · exact SeqAt.notIn_list_reads r2 r1 (SeqAt.canLay_of_shaped se) (SeqAt.canLay_of_shaped sd) (roomIn sd hu) ⟨.bl _, H, I, rfl, q⟩
  · exact SeqAt.notIn_tuple_reads r2 r1 (SeqAt.canLay_of_shaped se) (SeqAt.canLay_of_shaped sd) (roomIn sd hu) ⟨.bl _, H, I, rfl, q⟩
end
def D.items : D → Option (List D)
  | .tup l => some l
  | .lst l => some l
  | _ => none
def opIn (neg : Bool) (x y : W) (h : Hh) : R W := match valD x h, valD y h with
  | some a, some b => match b.items with
    | some l => if sh 64 a && sh 64 b then .ok (.d (.bl (if neg then !(l.any fun z => D.eqv z a) else l.any fun z => D.eqv z a))) h else .no
    | none => .no
  | _, _ => .no
theorem any_py (l : List D) (a : D) : ((pyL l).any fun z => PyData.eqv z a.py) = l.any fun z => D.eqv z a := by
  rw [pyL_map, List.any_map]
  congr 1
  funext z
  exact eqv_py z a
section
variable {K : PySem.W.Frag} {T : Tb} {F ρ : List Addr} {H : Hp} {ih : Hh}
theorem fop_in {neg : Bool} : FOp K T (opIn neg) (rInF K neg) := by
  intro Wx σ F ρ ih H x y v1 v2 Q hr r1 r2 hp
  unfold opIn at hp
  split at hp
  · rename_i a b e1 e2
    split at hp
    · rename_i l hl
      split at hp
      · rename_i c
        rw [Bool.and_eq_true] at c
        refine ⟨_, _, pyL l, valD_dp hr r1 e1, valD_dp hr r2 e2, ?_, sh_shaped c.1, sh_shaped c.2, ?_⟩
        · cases b with
          | tup l' => cases hl; simp [D.py]
          | lst l' => cases hl; simp [D.py]
          | _ => cases hl
        · rw [any_py]
          exact hp.ok hr _ (.d (.bl _))
      · exact hp.elim
    · exact hp.elim
  · exact hp.elim

/-! ### items -/
theorem RWs.get {a : List W} {vs : List V} (h : RWs K F ρ H a vs) : ∀ {n : Nat} {w : W}, a[n]? = some w → ∃ v, vs[n]? = some v ∧ RW K F ρ H w v := by
  induction h with
  | nil => intro n w e; simp at e
  | cons r t ih =>
    intro n w e
    cases n with
    | zero => simp at e; subst e; exact ⟨_, rfl, r⟩
    | succ n => simp at e; obtain ⟨v, e1, r1⟩ := ih e; exact ⟨v, by simpa using e1, r1⟩
theorem RWs.at {a : List W} {vs : List V} (h : RWs K F ρ H a vs) {i : Int} {w : W} (e : atI a i = some w) : ∃ v, atI vs i = some v ∧ RW K F ρ H w v := by
  unfold atI at e ⊢
  rw [h.length] at e
  cases q : ixN vs.length i with
  | none => rw [q] at e; cases e
  | some j =>
    rw [q] at e
    simp only [Option.bind_some] at e
    exact h.get e
def opIx (x y : W) (h : Hh) : R W := match y with
  | .d (.int i) => match x with
    | .d (.str l) => match atI l i with
      | some c => .ok (.d (.str [c])) h
      | none => .no
    | x => match seqW x h with
      | some l => match atI l i with
        | some w => .ok w h
        | none => .no
      | none => .no
  | _ => .no
theorem fop_ix : FOp K T opIx (rIx K) := by
  intro Wx σ F ρ ih H x y v1 v2 Q hr r1 r2 hp
  unfold opIx at hp
  split at hp
  · rename_i i
    cases r2 with | d r2 =>
    cases r2
    split at hp
    · rename_i l
      split at hp
      · rename_i c e
        cases r1 with | d r1 =>
        cases r1 with | str l' z =>
        refine .inr (.inr ⟨_, _, c, rfl, rfl, by rw [toStr_len]; exact z, by simpa [toStr] using e, ?_⟩)
        exact hp.ok hr _ (.d (.str [c] (by show 1 ≤ sizeLine; decide)))
      · exact hp.elim
    · split at hp
      · rename_i l e
        split at hp
        · rename_i w e2
          obtain ⟨a, vs, rfl, s, rs, _⟩ := seqW_at hr r1 e
          obtain ⟨v, e3, r3⟩ := rs.at e2
          rcases s with s | s
          · exact .inl ⟨_, _, _, _, rfl, rfl, .inl s, e3, hp.ok hr _ r3⟩
          · exact .inr (.inl ⟨_, _, _, _, rfl, rfl, .inl s, e3, hp.ok hr _ r3⟩)
        · exact hp.elim
      · exact hp.elim
  · exact hp.elim
end
section
variable {X : Cx} {T : Tb} {Wx : WX} {a b : Expr} {pos : Pos} {ca cb : Cd}
theorem fe_ix (hs : PlainIx b) (ha : FE X T Wx a ca) (hb : FE X T Wx b cb) : FE X T Wx (.Subscript a b pos) (c2 opIx ca cb) :=
  PE.imp (pe_ix ix_seq ha hb hs) fun _ _ _ q => op2 fop_ix q
end

/-! ### slices -/
abbrev Co := Ev → Hh → R (Option Int)
def oOf (K : PySem.W.Frag) (T : Tb) (Wx : WX) (c : Co) : TO := fun σ H Q => ∃ F ρ e ih, HR K T F ρ ih H ∧ RE K F ρ H e σ ∧ Pst K T Wx σ F ρ H (c e ih) fun _ H' _ o => Q o H'
def FO (X : Cx) (T : Tb) (Wx : WX) (e : Option Expr) (c : Co) : Prop := PO X e (oOf X.K T Wx c)
def oN : Co := fun _ h => .ok none h
def oS (c : Cd) : Co := fun e h => (c e h).bind fun w h => match w with
  | .d (.int i) => .ok (some i) h
  | _ => .no
section
variable {X : Cx} {T : Tb} {Wx : WX} {e : Expr}
theorem PO.imp {o : Option Expr} {t t' : TO} (h : PO X o t) (f : ∀ σ H Q, t' σ H Q → t σ H Q) : PO X o t' := ⟨fun pins s σ H Q I q => h.run pins s σ H Q I (f _ _ _ q)⟩
theorem fo_n : FO X T Wx none oN := PO.imp po_none fun σ H Q q => by
  obtain ⟨F, ρ, ev, ih, hr, re, hp⟩ := q
  exact hp.ok hr
theorem fo_s {c : Cd} (h : FE X T Wx e c) : FO X T Wx (some e) (oS c) := PO.imp (po_some h) fun σ H Q q => by
  obtain ⟨F, ρ, ev, ih, hr, re, hp⟩ := q
  refine ⟨F, ρ, ev, ih, hr, re, hp.bind.mono fun ρ1 H1 ih1 w g1 hr1 hp1 v r => ?_⟩
  split at hp1
  · cases r with | d r => cases r; exact ⟨_, rfl, hp1.ok hr1⟩
  · exact hp1.elim
end
/-- a cut of a list -/
def cut {α : Type} (xs : List α) (lo hi : Option Int) : List α := (xs.drop (HT.sIx xs.length 0 lo)).take (HT.sIx xs.length xs.length hi - HT.sIx xs.length 0 lo)
theorem cut_len {α : Type} (xs : List α) (lo hi : Option Int) : (cut xs lo hi).length ≤ xs.length := by
  simp only [cut, List.length_take, List.length_drop]; omega
def opSl (m : Bool) (x : W) (lo hi : Option Int) (h : Hh) : R W := match x with
  | .d (.str l) => .ok (.d (.str (cut l lo hi))) h
  | .d (.tup l) => .ok (.d (.tup (cut l lo hi))) h
  | x => match lstW x h with
    | some l => fin m (cut l lo hi) h
    | none => .no
def rSlF (K : PySem.W.Frag) : V → Option Int → Option Int → Hp → VK → Prop := fun x lo hi H Q => rSlL K x lo hi H Q ∨ rSlA K x lo hi H Q ∨ rSlS x lo hi H Q
theorem slr {X : Cx} : SlR X (rSlF X.K) := sl_list.or (sl_tupA.or sl_str)
theorem RWs.cut {K F ρ H} {a : List W} {vs : List V} (h : RWs K F ρ H a vs) (lo hi : Option Int) : RWs K F ρ H (Fz.cut a lo hi) (cutV vs lo hi) := by
  have tk : ∀ {a : List W} {vs : List V} (n : Nat), RWs K F ρ H a vs → RWs K F ρ H (a.take n) (vs.take n) := by
    intro a vs n h
    induction h generalizing n with
    | nil => simp; exact .nil
    | cons r t ih => cases n with
      | zero => exact .nil
      | succ n => exact .cons r (ih n)
  have dr : ∀ {a : List W} {vs : List V} (n : Nat), RWs K F ρ H a vs → RWs K F ρ H (a.drop n) (vs.drop n) := by
    intro a vs n h
    induction h generalizing n with
    | nil => simp; exact .nil
    | cons r t ih => cases n with
      | zero => exact .cons r t
      | succ n => exact ih n
  unfold Fz.cut cutV
  rw [h.length]
  exact tk _ (dr _ h)
theorem RpL.cut {K M H} {a : List D} {vs : List V} (h : RpL K M H a vs) (lo hi : Option Int) : RpL K M H (Fz.cut a lo hi) (cutV vs lo hi) := by
  have tk : ∀ (n : Nat) {a : List D} {vs : List V}, RpL K M H a vs → RpL K M H (a.take n) (vs.take n) := by
    intro n
    induction n with
    | zero => intro a vs h; exact .nil
    | succ n ih =>
      intro a vs h
      cases h with
      | nil => exact .nil
      | cons r t => exact .cons r (ih t)
  have dr : ∀ (n : Nat) {a : List D} {vs : List V}, RpL K M H a vs → RpL K M H (a.drop n) (vs.drop n) := by
    intro n
    induction n with
    | zero => intro a vs h; exact h
    | succ n ih =>
      intro a vs h
      cases h with
      | nil => exact .nil
      | cons r t => exact ih t
  unfold Fz.cut cutV
  rw [h.length]
  exact tk _ (dr _ h)
theorem cut_all {α : Type} {l : List α} {lo hi : Option Int} (h : HT.sIx l.length 0 lo = 0 ∧ HT.sIx l.length l.length hi = l.length) : cut l lo hi = l := by
  unfold cut
  rw [h.1, h.2]
  simp
def cSl (m : Bool) (a : Cd) (lo hi : Co) : Cd := fun e h => (a e h).bind fun x h => (lo e h).bind fun l h => (hi e h).bind fun u h => opSl m x l u h
section
variable {X : Cx} {T : Tb} {Wx : WX} {e : Expr} {lo hi : Option Expr} {pos p2 : Pos} {c : Cd} {cl cu : Co}
theorem fe_sl {m : Bool} (he : FE X T Wx e c) (hl : FO X T Wx lo cl) (hu : FO X T Wx hi cu) : FE X T Wx (.Subscript e (.Slice lo hi none p2) pos) (cSl m c cl cu) := PE.imp (pe_slice slr he hl hu) fun σ H Q q => by
  obtain ⟨F, ρ, ev, ih, hr, re, hp⟩ := q
  refine ⟨F, ρ, ev, ih, hr, re, hp.bind.mono fun ρ1 H1 ih1 w g1 hr1 hp1 v r => ?_⟩
  have re1 := re.grow g1 hr
  refine ⟨F, ρ1, ev, ih1, hr1, re1, hp1.bind.mono fun ρ2 H2 ih2 l g2 hr2 hp2 => ?_⟩
  have re2 := re1.grow g2 hr1
  refine ⟨F, ρ2, ev, ih2, hr2, re2, hp2.bind.mono fun ρ3 H3 ih3 u g3 hr3 hp3 => ?_⟩
  have r3 := (r.grow g2 hr1).grow g3 hr2
  unfold opSl at hp3
  split at hp3
  · rename_i l'
    cases r3 with | d r3 => cases r3 with | str _ z =>
      refine .inr (.inr ⟨_, rfl, by rw [toStr_len]; exact z, ?_⟩)
      have e : cutS (toStr l') l u = toStr (cut l' l u) := by
        unfold cutS cut
        rw [toStr_len]
        simp [toStr]
      rw [e]
      exact hp3.ok hr3 _ (.d (.str _ (Nat.le_trans (cut_len _ _ _) z)))
  · cases r3 with | d r3 => cases r3 with | tup t z rl =>
      refine .inr (.inl ⟨_, _, rfl, t.sq, fun hw => ?_, fun hw p np => ?_⟩)
      · rw [← rl.length] at hw
        rw [cut_all hw] at hp3
        exact hp3.ok hr3 _ (.d (.tup t z rl))
      · obtain ⟨a, b⟩ := new_tup hr3 np (rl.cut l u) (Nat.le_trans (cut_len _ _ _) z) hp3
        exact a _ b
  · split at hp3
    · rename_i l' e
      obtain ⟨a, vs, rfl, s, rs, _⟩ := lstW_at hr3 r3 e
      exact .inl ⟨_, _, rfl, .inl s, fun p np => fin_ok hr3 (rs.cut l u) np hp3⟩
    · exact hp3.elim
/-- x[::-1] of a list -/
def opRev (m : Bool) (x : W) (h : Hh) : R W := match lstW x h with
  | some l => fin m l.reverse h
  | none => .no
theorem RWs.rev {K F ρ H} {a : List W} {vs : List V} (h : RWs K F ρ H a vs) : RWs K F ρ H a.reverse vs.reverse := by
  induction h with
  | nil => exact .nil
  | cons r t ih => simp only [List.reverse_cons]; exact ih.app (.cons r .nil)
theorem fe_rev {m : Bool} {k : Nat} {p1 p3 : Pos} (he : FE X T Wx e c) : FE X T Wx (.Subscript e (.Slice none none (some (.UnaryOp .USub (.Constant (.int 1) k p1) p2)) p3) pos) (c1 (opRev m) c) := PE.imp (pe_revL he) fun σ H Q q => by
  obtain ⟨F, ρ, ev, ih, hr, re, hp⟩ := q
  refine ⟨F, ρ, ev, ih, hr, re, hp.bind.mono fun ρ1 H1 ih1 w g1 hr1 hp1 v r => ?_⟩
  unfold opRev at hp1
  split at hp1
  · rename_i l' e
    obtain ⟨a, vs, rfl, s, rs, _⟩ := lstW_at hr1 r e
    exact ⟨_, _, rfl, .inl s, fun p np => fin_ok hr1 rs.rev np hp1⟩
  · exact hp1.elim
end
end Fz
set_option Elab.async false
set_option linter.all false
set_option maxRecDepth 100000
set_option maxHeartbeats 2000000
/-! Fz: the defs of the text: what is promised of one, calls. -/
namespace Fz
open PySem L2 PyProof.Rows

/-- as FnOk, where no repr is under way -/
structure FnG (P : Program) (w : World) (K : PySem.W.Frag) (mg : Str → Option Value) (base : Heap) (k : Nat) (f : Addr) (fd : FuncData) (ps : List Str) (sp : Sp) : Prop where
  len : ∀ vs H Q E, sp vs H Q E → vs.length = ps.length
  run : ∀ (A : Around) (outer : List Env) (s : Shared) (H : Hp) (args : Args) (us : List Value) (vs : List V) (Q : VK) (E : XK), Room k A → A.guards = some [] → Env0 P w K mg base A outer s H → BindsTo s fd args (ps.zip us) → Vals vs us → sp vs H Q E →
    codeAny (model P w) A (.call (.ref f) args) (CR (L2.CX P w) outer P w H s Q E) s
theorem FnG.imp {P w K mg base k f fd ps} {sp sp' : Sp} (F : FnG P w K mg base k f fd ps sp) (h : ∀ vs H Q E, sp' vs H Q E → sp vs H Q E) : FnG P w K mg base k f fd ps sp' :=
  ⟨fun vs H Q E q => F.len vs H Q E (h _ _ _ _ q), fun A outer s H args us vs Q E hr hg e0 hb r q => F.run A outer s H args us vs Q E hr hg e0 hb r (h _ _ _ _ q)⟩
theorem FnG.mono {P w K mg base j k f fd ps} {sp : Sp} (F : FnG P w K mg base j f fd ps sp) (h : j ≤ k) : FnG P w K mg base k f fd ps sp :=
  ⟨F.len, fun A outer s H args us vs Q E hr hg e0 hb r q => F.run A outer s H args us vs Q E (hr.mono h) hg e0 hb r q⟩
/-- a def by its body -/
theorem fnG_of {P : Program} {w : World} {K : PySem.W.Frag} {mg : Str → Option Value} {base : Heap} {k : Nat} {x qual : Str} {st : Stmt} {f : Addr} {fd : FuncData} {N ps : List Str} {sp : Sp} (Fu : Fun K x qual st f fd) (S : FnScope N ps (defScope st))
    (len : ∀ vs H Q E, sp vs H Q E → vs.length = ps.length)
    (hbody : ∀ (cdv : Value) (A : Around) (outer : List Env) (s : Shared) (H : Hp) (vs : List V) (Q : VK) (E : XK), Room k (A.deeper (envOfC qual (defScope st) s.heap.objs.size f cdv)) → A.guards = some [] → sp vs H Q E →
      ∃ t, PSs (cxOf (L2.CX P w) P w K mg base N qual (defScope st) f cdv A outer s H E) (defBody st) t ∧ t { nx := fun _ H' => Q .non H', rt := Q } (start N vs) H) :
    FnG P w K mg base (k + 1) f fd ps sp := by
  obtain ⟨oc, od, kV, doc, pm, an, cdv, ct, osl, rfl, lk, hcd⟩ := Fu.ex
  refine ⟨len, fun A outer s H args us vs Q E hr hg e0 hb r hsp => ?_⟩
  have KX : K.In s.heap := e0.mod.kin.keeps fun b o e => (e0.bs b o e).1
  have lim : s.heap.NoLimit := e0.mod.nolimit.keeps fun b o e => (e0.bs b o e).1
  have hkind : ∀ y ∈ ps.zip us, (defScope st).names.lookup y.1 = some .local ∨ ((defScope st).names.lookup y.1 = some .cell ∧ ((cellsFrom (s.heap.objs.size + 1) (defScope st).names []).lookup y.1).isSome = true) := fun ⟨n, v⟩ hy => by
    rcases S.par n (List.of_mem_zip hy).1 with q | q
    · exact .inl q
    · exact .inr ⟨q, PySem.W.cellsFrom_some _ _ _ (.inl q)⟩
  refine codeAny_call_function hr.depth (KX _ _ lk) rfl S.co S.gen rfl (PySem.W.codeRec_of KX hcd) (hb _ _ _ _ ?_)
  refine wpAny_newFunctionEnv_cells S.kind hkind fun env he s1 x => ?_
  subst he
  refine ⟨lim.keeps x.toInCall.keep, codeAny_func ?_⟩
  obtain ⟨t, ht, hq⟩ := hbody cdv A outer s H vs Q E (hr.deeper _) hg hsp
  have I : L2.Inv (cxOf (L2.CX P w) P w K mg base N qual (defScope st) f cdv A outer s H E) [] (start N vs) H s1 := inv_start S hr.hd e0 (len _ _ _ _ hsp) r x
  refine wpAny_mono (ht.run [] s1 (start N vs) H _ I hq) (fun fl s' hs => ?_) fun e s' hs => hs
  have fin : ∀ {σ' : L2.St} {H' : Hp} {v : V} {u : Value}, L2.Inv (cxOf (L2.CX P w) P w K mg base N qual (defScope st) f cdv A outer s H E) [] σ' H' s' → RelV v u → Q v H' → CE outer P w H s Q u s' :=
    fun {σ' H' v u} J rv q => ⟨v, H', J.os, J.bare, J.base, J.hok, rv, q⟩
  cases fl with
  | ret u =>
    obtain ⟨v, σ', H', J, rv, q⟩ := hs
    exact fin J rv q
  | next =>
    obtain ⟨σ', H', J, q⟩ := hs
    exact fin (v := V.non) (u := Value.none) J rfl q
  | brk =>
    obtain ⟨_, _, _, q⟩ := hs
    exact False.elim q
  | cont =>
    obtain ⟨_, _, _, q⟩ := hs
    exact False.elim q

/-- where one stands -/
structure Cg (X : Cx) (Wx : WX) (k : Nat) : Prop where
  calm : X.calm = true
  room : Room k X.A
  gd : X.A.guards = some []
  tk : Takes X Wx
  nd : X.N.Nodup
  po : PassesOwn (model X.prog X.w) X.A X.env X.xe

section
variable {X : Cx} {T : Tb} {Wx : WX} {k j : Nat} {f C : Addr} {fd : FuncData} {ps : List Str} {sp : Sp} {pins : List (Addr × Obj)} {σ : L2.St} {H : Hp} {s : Shared} {Q : VK} {us : List Value} {vs : List V}
theorem run_g (G : Cg X Wx k) (F : FnG X.prog X.w X.K X.mg X.base k f fd ps sp) (hb : Binds X.K fd ps []) (I : L2.Inv X pins σ H s) (r : Vals vs us) (h : sp vs H Q fun cls d H' => Wx cls d σ H') :
    wpAny (model X.prog X.w) X.A (call (.ref f) us) (EP X pins σ Q) X.xe s := by
  have hl : (us ++ []).length = ps.length := by rw [List.append_nil, ← r.length]; exact F.len _ _ _ _ h
  have hb' := hb s us I.kIn hl
  rw [List.append_nil] at hb'
  refine wpAny_call (codeAny_mono (F.run X.A X.stack s H ⟨us, []⟩ us vs Q _ G.room G.gd I.env0 hb' r h) fun r s' hq => ?_)
  cases r with
  | error e => exact G.tk e s' (XE.of_call I (fun _ _ _ q => q) hq)
  | ok fl =>
    cases fl with
    | ret u => exact I.after hq
    | next => exact False.elim hq
    | brk => exact False.elim hq
    | cont => exact False.elim hq
theorem run_mk (G : Cg X Wx (k + 1)) (M : Mk X.K C f) (F : FnG X.prog X.w X.K X.mg X.base k f fd ps sp) (hb : Binds X.K fd ps []) (I : L2.Inv X pins σ H s) (r : Vals vs us)
    (h : ∀ x dx, H x = none → H dx = none → dx ≠ x → sp (.ref x :: vs) (upd (upd H dx (.own x)) x (.ins C dx [])) (fun v H2 => v = .non ∧ Q (.ref x) H2) fun cls d H' => Wx cls d σ H') :
    wpAny (model X.prog X.w) X.A (call (.ref C) us) (EP X pins σ Q) X.xe s := by
  have hq := h (s.heap.objs.size + 1) s.heap.objs.size (I.hok.fresh (Nat.le_succ _)) (I.hok.fresh (Nat.le_refl _)) (Nat.ne_of_lt (Nat.lt_succ_self _))
  have I2 := Inv.made (C := C) I
  have r2 : Vals (V.ref (s.heap.objs.size + 1) :: vs) (Value.ref (s.heap.objs.size + 1) :: us) := .cons rfl r
  have hl : (Value.ref (s.heap.objs.size + 1) :: us ++ []).length = ps.length := by
    rw [List.append_nil, ← r2.length]; exact F.len _ _ _ _ hq
  have hb' := hb _ (Value.ref (s.heap.objs.size + 1) :: us) I2.kIn hl
  rw [List.append_nil] at hb'
  refine wpAny_call (make_map (f := f) I.kIn M.makes M.init (beq_iff_eq.mp M.fn) (codeAny_mono (F.run _ X.stack _ _ ⟨Value.ref (s.heap.objs.size + 1) :: us, []⟩ (Value.ref (s.heap.objs.size + 1) :: us) _ _ _ (G.room.make C us [])
    (by unfold Around.under; dsimp only; rw [G.gd]; rfl) (I2.env0.make C us []) hb' r2 hq) fun r s' hq' => ?_))
  cases r with
  | error e => exact G.tk e s' (XE.of_call I2 (fun _ _ _ q => q) hq')
  | ok fl =>
    cases fl with
    | ret u =>
      obtain ⟨v, H', I3, rv, ev, q3⟩ := I2.after hq'
      subst ev
      exact ⟨rv, ⟨V.ref (s.heap.objs.size + 1), H', I3, rfl, q3⟩⟩
    | next => exact False.elim hq'
    | brk => exact False.elim hq'
    | cont => exact False.elim hq'
end

/-! ### what a def promises: it does what a function says -/
abbrev Fn := List W → Hh → R W
def spF (K : PySem.W.Frag) (T : Tb) (n : Nat) (g : Fn) : Sp := fun vs H Q E => vs.length = n ∧ ∃ F ρ ws ih, HR K T F ρ ih H ∧ RWs K F ρ H ws vs ∧ Pst K T (fun cls d _ H' => E cls d H') [] F ρ H (g ws ih) fun ρ' H' _ w => ∀ v, RW K F ρ' H' w v → Q v H'
/-- a call that sees data alone: nothing of ours changes -/
def pure' (g : Fn) (ws : List W) (h : Hh) : R W := match allD ws with
  | none => .no
  | some _ => match g ws [] with
    | .ok (.d x) _ => .ok (.d x) h
    | .ex c (.d x) _ => .ex c (.d x) h
    | _ => .no
section
variable {K : PySem.W.Frag} {T : Tb} {F ρ : List Addr} {H : Hp} {ih : Hh}
mutual
theorem Rp.less {M M' : List Addr} (h : ∀ a, a ∈ M' → a ∈ M) : ∀ {d : D} {v : V}, Rp K M H d v → Rp K M' H d v
  | _, _, .non => .non
  | _, _, .bl b => .bl b
  | _, _, .int i => .int i
  | _, _, .str l z => .str l z
  | _, _, .tup q z r => .tup ⟨q.1, fun m => q.2 (h _ m)⟩ z (RpL.less h r)
  | _, _, .lst q z r => .lst ⟨q.1, fun m => q.2 (h _ m)⟩ z (RpL.less h r)
theorem RpL.less {M M' : List Addr} (h : ∀ a, a ∈ M' → a ∈ M) : ∀ {d : List D} {v : List V}, RpL K M H d v → RpL K M' H d v
  | _, _, .nil => .nil
  | _, _, .cons a b => .cons (Rp.less h a) (RpL.less h b)
end
theorem spF_pure {n : Nat} {g : Fn} {ws : List W} {vs : List V} {Q : VK} {Wx : WX} {σ : L2.St} (hn : vs.length = n) (hr : HR K T F ρ ih H) (rs : RWs K F ρ H ws vs)
    (hp : Pst K T Wx σ F ρ H (pure' g ws ih) fun ρ' H' _ w => ∀ v, RW K F ρ' H' w v → Q v H') : spF K T n g vs H Q fun cls d H' => Wx cls d σ H' := by
  unfold pure' at hp
  cases e : allD ws with
  | none => rw [e] at hp; exact hp.elim
  | some ds =>
    rw [e] at hp
    dsimp only at hp
    have hr0 : HR K T (F ++ ρ) [] [] H := ⟨rfl, List.nodup_nil, fun a m => absurd m (by simp), fun a m => (List.mem_append.mp m).elim (hr.trF a) fun q => hr.tr q, fun n o q => by simp at q, fun a m xs => (List.mem_append.mp m).elim (fun z => hr.ntF a z xs) fun z => hr.ntR z xs⟩
    have rs0 : RWs K (F ++ ρ) [] H ws vs := by
      have rp := allD_rp e rs
      rw [allD_eq e]
      have rp' : RpL K ((F ++ ρ) ++ []) H ds vs := by rw [List.append_nil]; exact rp
      exact rp'.rws
    refine ⟨hn, F ++ ρ, [], ws, [], hr0, rs0, ?_⟩
    have back : ∀ {ρ2 : List Addr} {H2 : Hp}, Grow (F ++ ρ) [] H ρ2 H2 → Grow F ρ H ρ H2 := fun g => ⟨⟨[], by simp⟩, fun a o q _ => g.keep a o q (by simp), fun a m n => absurd m n, g.frz⟩
    have hback : ∀ {ρ2 : List Addr} {H2 : Hp}, Grow (F ++ ρ) [] H ρ2 H2 → HR K T F ρ ih H2 := fun {ρ2 H2} g => ⟨hr.len, hr.nd, hr.fr, fun a m => by
        cases q : H a with
        | none => exact absurd q (hr.trF a m)
        | some o =>
          rw [g.keep a o q (by simp)]
          simp, fun n o q => by
        obtain ⟨a, u, e1, e2, ro⟩ := hr.obj n o q
        exact ⟨a, u, e1, g.keep a u e2 (by simp), ro.grow (back g) hr⟩, fun a m xs q => by
        cases e : H a with
        | none => exact absurd e (hr.trF a m)
        | some o =>
          rw [g.keep a o e (by simp)] at q
          cases q
          exact hr.ntF a m xs e⟩
    have val : ∀ {ρ2 : List Addr} {H2 : Hp} {x : D} {v : V}, RW K (F ++ ρ) ρ2 H2 (.d x) v → RW K F ρ H2 (.d x) v := fun r => by
      cases r with
      | d r => exact .d (r.less fun a m => List.mem_append_left _ m)
    cases eg : g ws [] with
    | no => rw [eg] at hp; exact hp.elim
    | ok w h2 =>
      cases w with
      | r n => rw [eg] at hp; exact hp.elim
      | f n => rw [eg] at hp; exact hp.elim
      | d x =>
        rw [eg] at hp
        exact fun ρ2 H2 g2 hr2 v r => hp ρ H2 (back g2) (hback g2) v (val r)
    | ex c p h2 =>
      cases p with
      | r n => rw [eg] at hp; exact hp.elim
      | f n => rw [eg] at hp; exact hp.elim
      | d x =>
        rw [eg] at hp
        intro ρ2 H2 cls dx g2 hr2 xr
        obtain ⟨a, d, v, b1, b2, b3, b4⟩ := xr
        exact hp ρ H2 cls dx (back g2) (hback g2) ⟨a, d, v, b1, b2, fun m => b3 (List.mem_append_left _ m), val b4⟩
theorem spF_of {n : Nat} {g : Fn} {ws : List W} {vs : List V} {Q : VK} {Wx : WX} {σ : L2.St} (hn : vs.length = n) (hr : HR K T F ρ ih H) (rs : RWs K F ρ H ws vs)
    (hp : Pst K T Wx σ F ρ H (g ws ih) fun ρ' H' _ w => ∀ v, RW K F ρ' H' w v → Q v H') : spF K T n g vs H Q fun cls d H' => Wx cls d σ H' := by
  refine ⟨hn, F, ρ, ws, ih, hr, rs, ?_⟩
  cases e : g ws ih with
  | no => rw [e] at hp; exact hp.elim
  | ok w h2 => rw [e] at hp; exact hp
  | ex c p h2 => rw [e] at hp; exact hp
end
/-- a call: of a def that may change things, or of one that sees data alone (p) -/
def cCall (p : Bool) (n : Nat) (g : Fn) (a : Ca) : Cd := fun e h => (a e h).bind fun ws h => if ws.length = n then (if p then pure' g ws h else g ws h) else .no
section
variable {X : Cx} {T : Tb} {Wx : WX} {k : Nat} {f C : Addr} {fd : FuncData} {ps : List Str} {x m : Str} {p pos apos : Pos} {e o : Expr} {es : List Expr} {ca : Ca} {co : Cd} {g : Fn} {n : Nat} {pu : Bool}
theorem call_at {σ : L2.St} {F ρ : List Addr} {H : Hp} {ih : Hh} {ws : List W} {vs : List V} {Q : VK} (hr : HR X.K T F ρ ih H) (rs : RWs X.K F ρ H ws vs)
    (hp : Pst X.K T Wx σ F ρ H (if ws.length = n then (if pu then pure' g ws ih else g ws ih) else .no) fun ρ' H' _ w => ∀ v, RW X.K F ρ' H' w v → Q v H') : spF X.K T n g vs H Q fun cls d H' => Wx cls d σ H' := by
  split at hp
  · rename_i hn
    rw [rs.length] at hn
    cases pu with
    | true => exact spF_pure hn hr rs hp
    | false => exact spF_of hn hr rs hp
  · exact hp.elim
def tClG (Wx : WX) (sp : Sp) (t : TA) : TE := fun σ H Q => t σ H fun vs H1 => sp vs H1 Q fun cls d H' => Wx cls d σ H'
theorem pe_callG {t : TA} {sp : Sp} (G : Cg X Wx k) (F : FnG X.prog X.w X.K X.mg X.base k f fd ps sp) (hg : Gl X x) (hm : X.mg x = some (.ref f)) (hk : PySem.W.keepIn X.K (.ref f) = true) (hb : Binds X.K fd ps [])
    (hdb : (x == ("__debug__" : Str)) = false) (he : starEach (e :: es) X.env = (false, eval e X.env) :: starEach es X.env) (hpl : (backTo pos (starEach es X.env)).any (·.1) = false) (ha : PA X (e :: es) t) :
    PE X (.Call (.Name x p) (e :: es) [] pos) (tClG Wx sp t) := by
  refine ⟨fun pins s σ H Q I h => ?_⟩
  refine wpAny_Call_Name_kw (ld_glob I hg hm ?_ hdb)
  refine PySem.W.callWith_K (h₀ := X.base) I.ok.mod.kin hk (thn (ha.run pos pins s σ H _ I h) fun us s1 ⟨vs, H1, I1, r, q⟩ => ⟨I1.kIn, ?_⟩) he hpl
  exact run_g G F hb I1 r q
theorem clG {σ H Q} (q : tOf X.K T Wx (cCall pu n g ca) σ H Q) : tClG Wx (spF X.K T n g) (aOf X.K T Wx ca) σ H Q := by
  obtain ⟨F', ρ, ev, ih, hr, re, hp⟩ := q
  exact ⟨F', ρ, ev, ih, hr, re, hp.bind.mono fun ρ1 H1 ih1 ws g1 hr1 hp1 vs rs => call_at hr1 rs hp1⟩
theorem fe_call (G : Cg X Wx k) (F : FnG X.prog X.w X.K X.mg X.base k f fd ps (spF X.K T n g)) (hg : Gl X x) (hm : X.mg x = some (.ref f)) (hk : PySem.W.keepIn X.K (.ref f) = true) (hb : Binds X.K fd ps [])
    (hdb : (x == ("__debug__" : Str)) = false) (he : starEach (e :: es) X.env = (false, eval e X.env) :: starEach es X.env) (hpl : (backTo pos (starEach es X.env)).any (·.1) = false) (ha : FA X T Wx (e :: es) ca) :
    FE X T Wx (.Call (.Name x p) (e :: es) [] pos) (cCall pu n g ca) := PE.imp (pe_callG G F hg hm hk hb hdb he hpl ha) fun _ _ _ q => clG q
theorem fe_call0 (G : Cg X Wx k) (F : FnG X.prog X.w X.K X.mg X.base k f fd ps (spF X.K T n g)) (hg : Gl X x) (hm : X.mg x = some (.ref f)) (hk : PySem.W.keepIn X.K (.ref f) = true) (hb : Binds X.K fd ps [])
    (hdb : (x == ("__debug__" : Str)) = false) : FE X T Wx (.Call (.Name x p) [] [] pos) (cCall pu n g aNil) := by
  refine PE.imp (t := tClG Wx (spF X.K T n g) tNil) ⟨fun pins s σ H Q I h => ?_⟩ fun σ H Q q => ?_
  · refine wpAny_Call_Name_kw (ld_glob I hg hm ?_ hdb)
    exact PySem.W.callWith_K0 I.kIn hk (run_g (us := []) G F hb I .nil h)
  · obtain ⟨F', ρ, ev, ih, hr, re, hp⟩ := q
    exact call_at hr .nil hp

/-! ### methods of own classes -/
/-- the object is of class c, and has no field of the method's name -/
def cMeth (c : Nat) (n : Nat) (g : Fn) (o : Cd) (a : Ca) : Cd := fun e h => (o e h).bind fun x h => match x with
  | .r i => match h[i]? with
    | some (.ins c' _) => if c' = c then (a e h).bind fun ws h => if (W.r i :: ws).length = n then g (.r i :: ws) h else .no else .no
    | _ => .no
  | _ => .no
theorem no_field {K : PySem.W.Frag} {F ρ : List Addr} {H : Hp} {fs : List (Nat × W)} {vs : List (Str × V)} (nm : ∀ i, T.fld i ≠ m) (r : Paired (fun p q => q.1 = T.fld p.1 ∧ RW K F ρ H p.2 q.2) fs vs) : vs.lookup m = none := by
  induction r with
  | nil => rfl
  | @cons a b l l2 x t ih =>
    obtain ⟨s, v⟩ := b
    have hb : (m == s) = false := by
      rw [beq_eq_false_iff_ne]
      exact fun z => nm a.1 (by rw [z]; exact x.1.symm)
    rw [List.lookup_cons, hb]
    exact ih
def tMtG (Wx : WX) (C : Addr) (m : Str) (sp : Sp) (ta : TE) (t : TA) : TE := fun σ H Q => ta σ H fun x H1 => ∃ a dx fs, x = .ref a ∧ H1 a = some (.ins C dx fs) ∧ fs.lookup m = none ∧ t σ H1 fun vs H2 => sp (x :: vs) H2 Q fun cls d H' => Wx cls d σ H'
theorem mtG {c : Nat} (nm : ∀ i, T.fld i ≠ m) {σ H Q} (q : tOf X.K T Wx (cMeth c n g co ca) σ H Q) : tMtG Wx (T.cad c) m (spF X.K T n g) (tOf X.K T Wx co) (aOf X.K T Wx ca) σ H Q := by
  obtain ⟨F, ρ, ev, ih, hr, re, hp⟩ := q
  refine ⟨F, ρ, ev, ih, hr, re, hp.bind.mono fun ρ1 H1 ih1 w g1 hr1 hp1 v r => ?_⟩
  split at hp1
  · rename_i i
    split at hp1
    · rename_i c' fs ho
      split at hp1
      · rename_i hc
        subst hc
        cases r with
        | r e =>
          obtain ⟨u, eH, ro⟩ := hr1.at e ho
          cases ro with
          | ins rs z =>
            refine ⟨_, _, _, rfl, eH, no_field nm rs, F, ρ1, ev, ih1, hr1, re.grow g1 hr, hp1.bind.mono fun ρ2 H2 ih2 ws g2 hr2 hp2 vs rs2 => ?_⟩
            have rs3 : RWs X.K F ρ2 H2 (W.r i :: ws) (V.ref _ :: vs) := .cons (.r (g2.get e)) rs2
            split at hp2
            · rename_i hn
              exact spF_of (by rw [← rs3.length]; exact hn) hr2 rs3 hp2
            · exact hp2.elim
      · exact hp1.elim
    · exact hp1.elim
  · exact hp1.elim
theorem fe_meth {c : Nat} (nm : ∀ i, T.fld i ≠ m) (G : Cg X Wx k) (cl : Cls X.K (T.cad c)) (hm : Meth X.K (T.cad c) m f) (F : FnG X.prog X.w X.K X.mg X.base k f fd ps (spF X.K T n g)) (hb : Binds X.K fd ps []) {pl : Sem Bool}
    (hst : starEach (e :: es) X.env = (false, eval e X.env) :: starEach es X.env) (hpl : (backTo pos (starEach es X.env)).any (·.1) = false)
    (ht : eval (.Call (.Attribute o m apos) (e :: es) [] pos) X.env = (do
      let ov ← eval o X.env
      standAt apos.atName
      let (f, first) ← holding [ov] (getMethod ov m pl)
      callWith pos f first (backTo pos (starEach (e :: es) X.env)) (backToKw pos (keywordEach [] X.env))))
    (ho : FE X T Wx o co) (ha : FA X T Wx (e :: es) ca) : FE X T Wx (.Call (.Attribute o m apos) (e :: es) [] pos) (cMeth c n g co ca) := by
  refine PE.imp (t := tMtG Wx (T.cad c) m (spF X.K T n g) (tOf X.K T Wx co) (aOf X.K T Wx ca)) ⟨fun pins s σ H Q I h => ?_⟩ fun _ _ _ q => mtG nm q
  refine PySem.W.methodCall_KW (pl := pl) (thn (ho.run pins s σ H _ I h) fun u s1 ⟨x, H1, I1, rx, a, dx, fs, ex, ea, l, q⟩ => ?_) ht
  subst ex
  obtain rfl : u = Value.ref a := rx
  refine getmeth_ok I1 ea cl hm l ?_
  refine PySem.W.callWith_K (first := [.ref a]) (h₀ := X.base) I.ok.mod.kin hm.kp (thn (ha.run pos pins s1 σ H1 _ I1 q) fun us s2 ⟨vs, H2, I2, r, q2⟩ => ⟨I2.kIn, ?_⟩) hst hpl
  exact run_g (us := .ref a :: us) (vs := .ref a :: vs) G F hb I2 (.cons rfl r) q2
theorem fe_meth0 {c : Nat} (nm : ∀ i, T.fld i ≠ m) (G : Cg X Wx k) (cl : Cls X.K (T.cad c)) (hm : Meth X.K (T.cad c) m f) (F : FnG X.prog X.w X.K X.mg X.base k f fd ps (spF X.K T n g)) (hb : Binds X.K fd ps []) {pl : Sem Bool}
    (ht : eval (.Call (.Attribute o m apos) [] [] pos) X.env = (do
      let ov ← eval o X.env
      standAt apos.atName
      let (f, first) ← holding [ov] (getMethod ov m pl)
      callWith pos f first (backTo pos (starEach [] X.env)) (backToKw pos (keywordEach [] X.env))))
    (ho : FE X T Wx o co) : FE X T Wx (.Call (.Attribute o m apos) [] [] pos) (cMeth c n g co aNil) := by
  refine PE.imp (t := tMtG Wx (T.cad c) m (spF X.K T n g) (tOf X.K T Wx co) (aOf X.K T Wx aNil)) ⟨fun pins s σ H Q I h => ?_⟩ fun _ _ _ q => mtG nm q
  refine PySem.W.methodCall_KW (pl := pl) (thn (ho.run pins s σ H _ I h) fun u s1 ⟨x, H1, I1, rx, a, dx, fs, ex, ea, l, q⟩ => ?_) ht
  subst ex
  obtain rfl : u = Value.ref a := rx
  refine getmeth_ok I1 ea cl hm l ?_
  obtain ⟨F', ρ, ev, ih, hr, re, hp⟩ := q
  exact PySem.W.callWith_K0 (first := [.ref a]) I1.kIn hm.kp (run_g (us := [.ref a]) (vs := [.ref a]) G F hb I1 (.cons rfl .nil) (hp.ok hr [] .nil))
/-! ### a new instance -/
def cNew (c : Nat) (n : Nat) (g : Fn) (a : Ca) : Cd := fun e h => (a e h).bind fun ws h => if (W.r h.length :: ws).length = n then (g (.r h.length :: ws) (h ++ [.ins c []])).bind fun w h' => match w with
  | .d .non => .ok (.r h.length) h'
  | _ => .no else .no
def tMkG (Wx : WX) (C : Addr) (sp : Sp) (t : TA) : TE := fun σ H Q => t σ H fun vs H1 => ∀ x dx, H1 x = none → H1 dx = none → dx ≠ x →
  sp (.ref x :: vs) (upd (upd H1 dx (.own x)) x (.ins C dx [])) (fun v H2 => v = .non ∧ Q (.ref x) H2) fun cls d H' => Wx cls d σ H'
theorem mkG {c : Nat} {σ H Q} (q : tOf X.K T Wx (cNew c n g ca) σ H Q) : tMkG Wx (T.cad c) (spF X.K T n g) (aOf X.K T Wx ca) σ H Q := by
  obtain ⟨F, ρ, ev, ih, hr, re, hp⟩ := q
  refine ⟨F, ρ, ev, ih, hr, re, hp.bind.mono fun ρ1 H1 ih1 ws g1 hr1 hp1 vs rs => ?_⟩
  intro x dx nx ndx ne
  split at hp1
  · rename_i hn
    have nx' : upd H1 dx (.own x) x = none := by rw [upd_ne (Ne.symm ne)]; exact nx
    have hr2 := hr1.new (o := .own x) ndx
    have gA : Grow F ρ1 H1 ρ1 (upd H1 dx (.own x)) := grow_new ndx
    have gB : Grow F ρ1 (upd H1 dx (.own x)) (ρ1 ++ [x]) (upd (upd H1 dx (.own x)) x (.ins (T.cad c) dx [])) := grow_add nx'
    have gC := gA.trans hr2 gB
    have hr3 := hr2.add (o := .ins c []) (u := .ins (T.cad c) dx []) nx' (.ins .nil (by decide))
    have rs3 : RWs X.K F (ρ1 ++ [x]) (upd (upd H1 dx (.own x)) x (.ins (T.cad c) dx [])) (W.r ih1.length :: ws) (V.ref x :: vs) := .cons (.r (get_last hr1.len)) (RWs.grow gC hr1 rs)
    refine spF_of (by rw [← rs3.length]; exact hn) hr3 rs3 ?_
    have hp2 := hp1.bind
    cases e : g (W.r ih1.length :: ws) (ih1 ++ [.ins c []]) with
    | no => rw [e] at hp2; exact hp2.elim
    | ex c' p h2 =>
      rw [e] at hp2
      exact fun ρ4 H4 cls d g4 hr4 xr => hp2 ρ4 H4 cls d (gC.trans hr3 g4) hr4 xr
    | ok w h2 =>
      rw [e] at hp2
      intro ρ4 H4 g4 hr4 v r
      have hp3 := hp2 ρ4 H4 (gC.trans hr3 g4) hr4
      dsimp only at hp3
      split at hp3
      · cases r with | d r => cases r; exact ⟨rfl, hp3.ok hr4 _ (.r (g4.get (get_last hr1.len)))⟩
      · exact hp3.elim
  · exact hp1.elim
theorem fe_new {c : Nat} (G : Cg X Wx (k + 1)) (M : Mk X.K (T.cad c) f) (F : FnG X.prog X.w X.K X.mg X.base k f fd ps (spF X.K T n g)) (hg : Gl X x) (hm : X.mg x = some (.ref (T.cad c))) (hb : Binds X.K fd ps [])
    (hdb : (x == ("__debug__" : Str)) = false) (he : starEach (e :: es) X.env = (false, eval e X.env) :: starEach es X.env) (hpl : (backTo pos (starEach es X.env)).any (·.1) = false) (ha : FA X T Wx (e :: es) ca) :
    FE X T Wx (.Call (.Name x p) (e :: es) [] pos) (cNew c n g ca) := by
  refine PE.imp (t := tMkG Wx (T.cad c) (spF X.K T n g) (aOf X.K T Wx ca)) ⟨fun pins s σ H Q I h => ?_⟩ fun _ _ _ q => mkG q
  refine wpAny_Call_Name_kw (ld_glob I hg hm ?_ hdb)
  refine PySem.W.callWith_K (h₀ := X.base) I.ok.mod.kin M.kp (thn (ha.run pos pins s σ H _ I h) fun us s1 ⟨vs, H1, I1, r, q⟩ => ⟨I1.kIn, ?_⟩) he hpl
  exact run_mk G M F hb I1 r q
theorem fe_new0 {c : Nat} (G : Cg X Wx (k + 1)) (M : Mk X.K (T.cad c) f) (F : FnG X.prog X.w X.K X.mg X.base k f fd ps (spF X.K T n g)) (hg : Gl X x) (hm : X.mg x = some (.ref (T.cad c))) (hb : Binds X.K fd ps [])
    (hdb : (x == ("__debug__" : Str)) = false) : FE X T Wx (.Call (.Name x p) [] [] pos) (cNew c n g aNil) := by
  refine PE.imp (t := tMkG Wx (T.cad c) (spF X.K T n g) (aOf X.K T Wx aNil)) ⟨fun pins s σ H Q I h => ?_⟩ fun _ _ _ q => mkG q
  refine wpAny_Call_Name_kw (ld_glob I hg hm ?_ hdb)
  obtain ⟨F', ρ, ev, ih, hr, re, hp⟩ := h
  exact PySem.W.callWith_K0 I.kIn M.kp (run_mk (us := []) (vs := []) G M F hb I .nil (hp.ok hr [] .nil))
/-! ### fields -/
def lkf (f : Nat) (fs : List (Nat × W)) : Option W := fs.lookup f
def putf (f : Nat) (w : W) : List (Nat × W) → List (Nat × W)
  | [] => [(f, w)]
  | (g, x) :: r => if g = f then (g, w) :: r else (g, x) :: putf f w r
def cFld (f : Nat) (o : Cd) : Cd := fun e h => (o e h).bind fun x h => match x with
  | .r i => match h[i]? with
    | some (.ins _ fs) => match lkf f fs with
      | some w => .ok w h
      | none => .no
    | _ => .no
  | _ => .no
theorem lkf_at {K : PySem.W.Frag} {F ρ : List Addr} {H : Hp} {fl : Nat} {fs : List (Nat × W)} {vs : List (Str × V)} {w : W} (inj : ∀ i, T.fld i = T.fld fl → i = fl) (r : Paired (fun p q => q.1 = T.fld p.1 ∧ RW K F ρ H p.2 q.2) fs vs) (e : lkf fl fs = some w) :
    ∃ v, vs.lookup (T.fld fl) = some v ∧ RW K F ρ H w v := by
  induction r with
  | nil => cases e
  | @cons a b l l2 x t ih =>
    obtain ⟨s, v⟩ := b
    obtain ⟨i, w'⟩ := a
    obtain ⟨x1, x2⟩ := x
    simp only at x1 x2
    unfold lkf at e ih
    rw [List.lookup_cons] at e
    by_cases hi : fl = i
    · subst hi
      rw [beq_self_eq_true] at e
      cases e
      exact ⟨v, by rw [List.lookup_cons, x1, beq_self_eq_true], x2⟩
    · rw [beq_eq_false_iff_ne.mpr hi] at e
      obtain ⟨v', e1, r1⟩ := ih e
      refine ⟨v', ?_, r1⟩
      have hb : (T.fld fl == s) = false := by
        rw [beq_eq_false_iff_ne, x1]
        exact fun z => hi (inj i z.symm).symm
      rw [List.lookup_cons, hb]
      exact e1
theorem fe_fld {fl : Nat} (inj : ∀ i, T.fld i = T.fld fl → i = fl) (cl : ∀ c, Cls X.K (T.cad c)) (na : ∀ c, NoAttr X.K (T.cad c) (T.fld fl)) (hb : attributeBase o (T.fld fl) X.env (eval o X.env) = eval o X.env) (ho : FE X T Wx o co) :
    FE X T Wx (.Attribute o (T.fld fl) pos) (cFld fl co) := PE.imp (pe_fld ho hb) fun σ H Q q => by
  obtain ⟨F, ρ, ev, ih, hr, re, hp⟩ := q
  refine ⟨F, ρ, ev, ih, hr, re, hp.bind.mono fun ρ1 H1 ih1 w g1 hr1 hp1 v r => ?_⟩
  split at hp1
  · rename_i i
    split at hp1
    · rename_i c' fs ho
      split at hp1
      · rename_i w' hw
        cases r with
        | r e =>
          obtain ⟨u, eH, ro⟩ := hr1.at e ho
          cases ro with
          | ins rs z =>
            obtain ⟨v', e1, r1⟩ := lkf_at inj rs hw
            exact ⟨_, _, _, _, v', rfl, eH, cl _, na _, e1, hp1.ok hr1 _ r1⟩
      · exact hp1.elim
    · exact hp1.elim
  · exact hp1.elim
theorem putf_at {K : PySem.W.Frag} {F ρ : List Addr} {H : Hp} {fl : Nat} {w : W} {v : V} (inj : ∀ i, T.fld i = T.fld fl → i = fl) (rv : RW K F ρ H w v) {fs : List (Nat × W)} {vs : List (Str × V)} (r : Paired (fun p q => q.1 = T.fld p.1 ∧ RW K F ρ H p.2 q.2) fs vs) :
    Paired (fun p q => q.1 = T.fld p.1 ∧ RW K F ρ H p.2 q.2) (putf fl w fs) (putF (T.fld fl) v vs) := by
  induction r with
  | nil => exact .cons ⟨rfl, rv⟩ .nil
  | @cons a b l l2 x t ih =>
    obtain ⟨s, v'⟩ := b
    obtain ⟨i, w'⟩ := a
    obtain ⟨x1, x2⟩ := x
    simp only at x1 x2
    unfold putf putF
    by_cases hi : i = fl
    · subst hi
      rw [if_pos rfl, if_pos x1]
      exact .cons ⟨x1, rv⟩ t
    · rw [if_neg hi, if_neg (fun z => hi (inj i (x1.symm.trans z)))]
      exact .cons ⟨x1, x2⟩ ih
theorem putf_len (f : Nat) (w : W) (fs : List (Nat × W)) : (putf f w fs).length ≤ fs.length + 1 := by
  induction fs with
  | nil => simp [putf]
  | cons a r ih =>
    unfold putf
    split
    · simp
    · simp only [List.length_cons]; omega
end
end Fz
set_option Elab.async false
set_option linter.all false
set_option maxRecDepth 100000
set_option maxHeartbeats 2000000
/-! Fz: statements. -/
namespace Fz
open PySem L2 PyProof.Rows

inductive SR where
  | nx (e : Ev) (h : Hh) | rt (w : W) (h : Hh) | bk (e : Ev) (h : Hh) | ct (e : Ev) (h : Hh) | ex (c : Nat) (p : W) (e : Ev) (h : Hh) | no
abbrev Cs := Ev → Hh → SR
def SR.bind (m : SR) (f : Cs) : SR := match m with
  | .nx e h => f e h
  | m => m
@[simp] theorem SR.bind_nx {e h f} : (SR.nx e h).bind f = f e h := (rfl)
@[simp] theorem SR.bind_rt {w h f} : (SR.rt w h).bind f = .rt w h := (rfl)
@[simp] theorem SR.bind_bk {e h f} : (SR.bk e h).bind f = .bk e h := (rfl)
@[simp] theorem SR.bind_ct {e h f} : (SR.ct e h).bind f = .ct e h := (rfl)
@[simp] theorem SR.bind_ex {c p e h f} : (SR.ex c p e h).bind f = .ex c p e h := (rfl)
@[simp] theorem SR.bind_no {f} : SR.no.bind f = .no := (rfl)
def lift {α : Type} (m : R α) (e : Ev) (f : α → Hh → SR) : SR := match m with
  | .ok a h => f a h
  | .ex c p h => .ex c p e h
  | .no => .no
@[simp] theorem lift_ok {α : Type} {a : α} {h e f} : lift (.ok a h) e f = f a h := (rfl)
@[simp] theorem lift_ex {α : Type} {c p h e} {f : α → Hh → SR} : lift (.ex c p h) e f = .ex c p e h := (rfl)
@[simp] theorem lift_no {α : Type} {e} {f : α → Hh → SR} : lift .no e f = .no := (rfl)

section
variable (K : PySem.W.Frag) (T : Tb) (Wx : WX)
def Pss (F ρ : List Addr) (H : Hp) (m : SR) (D : Ends) : Prop := match m with
  | .nx e' ih' => ∀ ρ' H' σ', Grow F ρ H ρ' H' → HR K T F ρ' ih' H' → RE K F ρ' H' e' σ' → D.nx σ' H'
  | .rt w ih' => ∀ ρ' H' v, Grow F ρ H ρ' H' → HR K T F ρ' ih' H' → RW K F ρ' H' w v → D.rt v H'
  | .bk e' ih' => ∀ ρ' H' σ', Grow F ρ H ρ' H' → HR K T F ρ' ih' H' → RE K F ρ' H' e' σ' → D.bk σ' H'
  | .ct e' ih' => ∀ ρ' H' σ', Grow F ρ H ρ' H' → HR K T F ρ' ih' H' → RE K F ρ' H' e' σ' → D.ct σ' H'
  | .ex c p e' ih' => ∀ ρ' H' σ' cls dx, Grow F ρ H ρ' H' → HR K T F ρ' ih' H' → RE K F ρ' H' e' σ' → XR K T F ρ' H' c p cls dx → Wx cls dx σ' H'
  | .no => False
def sOf (c : Cs) : TS := fun D σ H => ∃ F ρ e ih, HR K T F ρ ih H ∧ RE K F ρ H e σ ∧ Pss K T Wx F ρ H (c e ih) D
end
def FS (X : Cx) (T : Tb) (Wx : WX) (st : Stmt) (c : Cs) : Prop := PS X st (sOf X.K T Wx c)
def FSs (X : Cx) (T : Tb) (Wx : WX) (st : List Stmt) (c : Cs) : Prop := PSs X st (sOf X.K T Wx c)
section
variable {K : PySem.W.Frag} {T : Tb} {Wx : WX} {σ : L2.St} {F ρ ρ1 : List Addr} {H H1 : Hp} {α β : Type} {D : Ends} {ih ih1 : Hh}
theorem Pss.from (g : Grow F ρ H ρ1 H1) (hr : HR K T F ρ1 ih1 H1) {m : SR} (h : Pss K T Wx F ρ H m D) : Pss K T Wx F ρ1 H1 m D := by
  cases m with
  | no => exact h
  | nx e' ih' => exact fun ρ' H' σ' g' => h ρ' H' σ' (g.trans hr g')
  | rt e' ih' => exact fun ρ' H' σ' g' => h ρ' H' σ' (g.trans hr g')
  | bk e' ih' => exact fun ρ' H' σ' g' => h ρ' H' σ' (g.trans hr g')
  | ct e' ih' => exact fun ρ' H' σ' g' => h ρ' H' σ' (g.trans hr g')
  | ex c p e' ih' => exact fun ρ' H' σ' cls dx g' => h ρ' H' σ' cls dx (g.trans hr g')
theorem Pss.lift {m : R α} {e : Ev} {f : α → Hh → SR} (hr : HR K T F ρ ih H) (re : RE K F ρ H e σ) (h : Pss K T Wx F ρ H (Fz.lift m e f) D) :
    Pst K T Wx σ F ρ H m fun ρ1 H1 ih1 a => Pss K T Wx F ρ1 H1 (f a ih1) D := by
  cases m with
  | no => exact h
  | ok a h1 => exact fun ρ1 H1 g1 hr1 => Pss.from g1 hr1 h
  | ex c p h1 => exact fun ρ1 H1 cls dx g1 hr1 x => h ρ1 H1 σ cls dx g1 hr1 (re.grow g1 hr) x
theorem Pss.nx {e : Ev} {ih : Hh} (h : Pss K T Wx F ρ H (.nx e ih) D) (hr : HR K T F ρ ih H) (re : RE K F ρ H e σ) : D.nx σ H := h ρ H σ Grow.refl hr re
theorem Pss.bind {m : SR} {f : Cs} (h : Pss K T Wx F ρ H (m.bind f) D) : Pss K T Wx F ρ H m { D with nx := sOf K T Wx f D } := by
  cases m with
  | no => exact h
  | nx e' ih' => exact fun ρ' H' σ' g' hr re => ⟨F, ρ', e', ih', hr, re, Pss.from g' hr h⟩
  | rt e' ih' => exact h
  | bk e' ih' => exact h
  | ct e' ih' => exact h
  | ex c p e' ih' => exact h
end
section
variable {X : Cx} {T : Tb} {Wx : WX} {st : Stmt} {sts : List Stmt} {e : Expr} {pos : Pos} {c : Cd} {cs cs' : Cs}
theorem PS.imp {t t' : TS} (h : PS X st t) (f : ∀ D σ H, t' D σ H → t D σ H) : PS X st t' := ⟨fun pins s σ H D I q => h.run pins s σ H D I (f _ _ _ q)⟩
theorem PSs.imp {t t' : TS} (h : PSs X sts t) (f : ∀ D σ H, t' D σ H → t D σ H) : PSs X sts t' := ⟨fun pins s σ H D I q => h.run pins s σ H D I (f _ _ _ q)⟩
def sNx : Cs := fun e h => .nx e h
def sSeq (a b : Cs) : Cs := fun e h => (a e h).bind b
theorem nx_at {D : Ends} {σ H} (q : sOf X.K T Wx sNx D σ H) : D.nx σ H := by
  obtain ⟨F, ρ, ev, ih, hr, re, hp⟩ := q
  exact Pss.nx hp hr re
theorem fss_nil : FSs X T Wx [] sNx := PSs.imp pss_nil fun D σ H q => nx_at q
theorem fss_cons (h : FS X T Wx st cs) (hs : FSs X T Wx sts cs') : FSs X T Wx (st :: sts) (sSeq cs cs') := PSs.imp (pss_cons h hs) fun D σ H q => by
  obtain ⟨F, ρ, ev, ih, hr, re, hp⟩ := q
  exact ⟨F, ρ, ev, ih, hr, re, hp.bind⟩
theorem fss_one (h : FS X T Wx st cs) : FSs X T Wx [st] cs := pss_one h
theorem fs_pass : FS X T Wx (.Pass pos) sNx := PS.imp ps_pass fun D σ H q => nx_at q
theorem fs_doc {x j pos'} : FS X T Wx (.Expr (.Constant (.str x) j pos) pos') sNx := PS.imp ps_doc fun D σ H q => nx_at q
def sBk : Cs := fun e h => .bk e h
def sCt : Cs := fun e h => .ct e h
theorem fs_break : FS X T Wx (.Break pos) sBk := PS.imp ps_break fun D σ H q => by
  obtain ⟨F, ρ, ev, ih, hr, re, hp⟩ := q
  exact hp _ _ _ Grow.refl hr re
theorem fs_continue : FS X T Wx (.Continue pos) sCt := PS.imp ps_continue fun D σ H q => by
  obtain ⟨F, ρ, ev, ih, hr, re, hp⟩ := q
  exact hp _ _ _ Grow.refl hr re
def sNo : Cs := fun _ _ => .no
theorem fs_never : FS X T Wx st sNo := PS.imp ps_never fun D σ H q => by
  obtain ⟨F, ρ, ev, ih, hr, re, hp⟩ := q
  exact hp.elim
def sExpr (c : Cd) : Cs := fun e h => lift (c e h) e fun _ h => .nx e h
theorem fs_expr (hs : swapsWith e none pos.line X.env = pure false) (h : FE X T Wx e c) : FS X T Wx (.Expr e pos) (sExpr c) := PS.imp (ps_expr h hs) fun D σ H q => by
  obtain ⟨F, ρ, ev, ih, hr, re, hp⟩ := q
  exact ⟨F, ρ, ev, ih, hr, re, (Pss.lift hr re hp).mono fun ρ1 H1 ih1 w g1 hr1 hp1 v r => Pss.nx hp1 hr1 (re.grow g1 hr)⟩
def sRet (c : Cd) : Cs := fun e h => lift (c e h) e fun w h => .rt w h
theorem fs_ret (h : FE X T Wx e c) : FS X T Wx (.Return (some e) pos) (sRet c) := PS.imp (ps_ret h) fun D σ H q => by
  obtain ⟨F, ρ, ev, ih, hr, re, hp⟩ := q
  exact ⟨F, ρ, ev, ih, hr, re, (Pss.lift hr re hp).mono fun ρ1 H1 ih1 w g1 hr1 hp1 v r => hp1 _ _ _ Grow.refl hr1 r⟩
def sRetN : Cs := fun _ h => .rt (.d .non) h
theorem fs_retN : FS X T Wx (.Return none pos) sRetN := PS.imp ps_retN fun D σ H q => by
  obtain ⟨F, ρ, ev, ih, hr, re, hp⟩ := q
  exact hp _ _ _ Grow.refl hr (.d .non)
def sIf (t : Cb) (a b : Cs) : Cs := fun e h => lift (t e h) e fun k h => if k then a e h else b e h
theorem fs_if {t : Expr} {a b : List Stmt} {ct : Cb} {ca cb : Cs} (ht : FT' X T Wx t ct) (ha : FSs X T Wx a ca) (hb : FSs X T Wx b cb) : FS X T Wx (.If t a b pos) (sIf ct ca cb) := PS.imp (ps_if ht ha hb) fun D σ H q => by
  obtain ⟨F, ρ, ev, ih, hr, re, hp⟩ := q
  refine ⟨F, ρ, ev, ih, hr, re, (Pss.lift hr re hp).mono fun ρ1 H1 ih1 k g1 hr1 hp1 => ?_⟩
  have re1 := re.grow g1 hr
  cases k with
  | true => exact iteT ⟨F, ρ1, ev, ih1, hr1, re1, hp1⟩
  | false => exact iteF ⟨F, ρ1, ev, ih1, hr1, re1, hp1⟩

/-! ### targets -/
abbrev Ct := W → Ev → Hh → Option Ev
abbrev Cts := List W → Ev → Hh → Option Ev
/-- only the slots vs may differ -/
def Mod (vs : List Nat) (σ σ' : L2.St) : Prop := σ'.length = σ.length ∧ ∀ j, j ∉ vs → σ'[j]? = σ[j]?
theorem Mod.refl {vs σ} : Mod vs σ σ := ⟨rfl, fun _ _ => rfl⟩
theorem Mod.trans {vs σ σ1 σ2} (a : Mod vs σ σ1) (b : Mod vs σ1 σ2) : Mod vs σ σ2 := ⟨b.1.trans a.1, fun j h => (b.2 j h).trans (a.2 j h)⟩
theorem Mod.mono {vs vs' σ σ1} (a : Mod vs σ σ1) (h : ∀ j, j ∈ vs → j ∈ vs') : Mod vs' σ σ1 := ⟨a.1, fun j n => a.2 j fun m => n (h j m)⟩
theorem Mod.set {σ : L2.St} {i : Nat} {v : Option V} : Mod [i] σ (σ.set i v) := ⟨by simp, fun j h => by rw [List.getElem?_set_ne (fun e => h (by simp [e]))]⟩
def gOf (K : PySem.W.Frag) (T : Tb) (vs : List Nat) (c : Ct) : TG := fun v σ H Q => ∃ F ρ e ih w e', HR K T F ρ ih H ∧ RE K F ρ H e σ ∧ RW K F ρ H w v ∧ c w e ih = some e' ∧ ∀ σ', RE K F ρ H e' σ' → Mod vs σ σ' → Q σ' H
def gsOf (K : PySem.W.Frag) (T : Tb) (is : List Nat) (c : Cts) : TGs := fun vs σ H Q => ∃ F ρ e ih ws e', HR K T F ρ ih H ∧ RE K F ρ H e σ ∧ RWs K F ρ H ws vs ∧ c ws e ih = some e' ∧ ∀ σ', RE K F ρ H e' σ' → Mod is σ σ' → Q σ' H
def FG (X : Cx) (T : Tb) (tg : Expr) (vs : List Nat) (c : Ct) : Prop := PG X tg (gOf X.K T vs c)
def FGs (X : Cx) (T : Tb) (tg : List Expr) (vs : List Nat) (c : Cts) : Prop := PGs X tg (gsOf X.K T vs c)
theorem PG.imp {tg : Expr} {t t' : TG} (h : PG X tg t) (f : ∀ v σ H Q, t' v σ H Q → t v σ H Q) : PG X tg t' := ⟨fun pins s σ H v u Q I r q => h.run pins s σ H v u Q I r (f _ _ _ _ q)⟩
theorem PGs.imp {tg : List Expr} {t t' : TGs} (h : PGs X tg t) (f : ∀ v σ H Q, t' v σ H Q → t v σ H Q) : PGs X tg t' := ⟨fun pins s σ H v u Q I r q => h.run pins s σ H v u Q I r (f _ _ _ _ q)⟩
def tN (i : Nat) : Ct := fun w e _ => some (e.set i (some w))
theorem RE.set {K F ρ H e σ} (r : RE K F ρ H e σ) (i : Nat) {w : W} {v : V} (rv : RW K F ρ H w v) : RE K F ρ H (e.set i (some w)) (σ.set i (some v)) := by
  refine ⟨by simp [r.1], fun j w' q => ?_⟩
  by_cases hj : i = j
  · subst hj
    by_cases hl : i < e.length
    · rw [List.getElem?_set_self hl] at q
      cases q
      exact ⟨v, by rw [List.getElem?_set_self (by rw [← r.1]; exact hl)], rv⟩
    · rw [List.getElem?_eq_none (by simpa using hl)] at q
      cases q
  · rw [List.getElem?_set_ne hj] at q
    obtain ⟨v', e1, r1⟩ := r.2 j w' q
    exact ⟨v', by rw [List.getElem?_set_ne hj]; exact e1, r1⟩
theorem fg_n {i : Nat} {x : Str} (h : PG X (.Name x pos) (gName i)) : FG X T (.Name x pos) [i] (tN i) := PG.imp h fun v σ H Q q => by
  obtain ⟨F, ρ, e, ih, w, e', hr, re, r, he, hq⟩ := q
  cases he
  exact hq _ (re.set i r) Mod.set
def tNil : Cts := fun ws e _ => match ws with
  | [] => some e
  | _ => none
def tCns (a : Ct) (b : Cts) : Cts := fun ws e h => match ws with
  | [] => none
  | w :: r => (a w e h).bind fun e => b r e h
theorem fgs_nil : FGs X T [] [] Fz.tNil := PGs.imp pgs_nil fun vs σ H Q q => by
  obtain ⟨F, ρ, e, ih, ws, e', hr, re, r, he, hq⟩ := q
  unfold Fz.tNil at he
  split at he
  · cases he
    cases r
    exact ⟨rfl, hq _ re Mod.refl⟩
  · cases he
theorem fgs_cons {tg : Expr} {tgs : List Expr} {is js : List Nat} {ca : Ct} {cb : Cts} (hs : (assignEach (tg :: tgs) X.env).map (·.2) = assign tg X.env :: (assignEach tgs X.env).map (·.2)) (h1 : FG X T tg is ca) (h2 : FGs X T tgs js cb) : FGs X T (tg :: tgs) (is ++ js) (tCns ca cb) :=
  PGs.imp (pgs_cons h1 h2 hs) fun vs σ H Q q => by
    obtain ⟨F, ρ, e, ih, ws, e', hr, re, r, he, hq⟩ := q
    unfold tCns at he
    split at he
    · cases he
    · rename_i w ws'
      cases r with
      | cons rv rs =>
        rw [Option.bind_eq_some_iff] at he
        obtain ⟨e1, q1, q2⟩ := he
        exact ⟨_, _, rfl, F, ρ, e, ih, w, e1, hr, re, rv, q1, fun σ1 re1 m1 => ⟨F, ρ, e1, ih, ws', e', hr, re1, rs, q2, fun σ2 re2 m2 => hq σ2 re2 ((m1.mono fun j m => List.mem_append_left _ m).trans (m2.mono fun j m => List.mem_append_right _ m))⟩⟩
def tTp (c : Cts) : Ct := fun w e h => match w with
  | .d (.tup l) => c (l.map .d) e h
  | _ => none
/-- a tuple's target: it asks just so many -/
structure Len (c : Cts) (n : Nat) : Prop where
  len : ∀ ws e h e', c ws e h = some e' → ws.length = n
theorem len_nil : Len Fz.tNil 0 := ⟨fun ws e h e' q => by unfold Fz.tNil at q; split at q <;> simp_all⟩
theorem len_cns {a : Ct} {b : Cts} {n : Nat} (h : Len b n) : Len (tCns a b) (n + 1) := ⟨fun ws e h' e' q => by
  unfold tCns at q
  split at q
  · cases q
  · rw [Option.bind_eq_some_iff] at q
    obtain ⟨e1, q1, q2⟩ := q
    simp [h.len _ _ _ _ q2]⟩
theorem fg_t {tgs : List Expr} {k n : Nat} {is : List Nat} {cb : Cts} (hc : X.calm = true) (ln : Len cb n) (hn : (assignEach tgs X.env).length = n) (hst : (assignEach tgs X.env).findIdx? (·.1) = none) (h : FGs X T tgs is cb) : FG X T (.Tuple tgs k pos) is (tTp cb) :=
  PG.imp (pg_tup hc h hn hst) fun v σ H Q q => by
    obtain ⟨F, ρ, e, ih, w, e', hr, re, r, he, hq⟩ := q
    unfold tTp at he
    split at he
    · rename_i l
      cases r with | d r => cases r with | tup t z rl =>
        have hl := ln.len _ _ _ _ he
        refine ⟨_, _, rfl, t.sq, by rw [← rl.rws.length]; exact hl, F, ρ, e, ih, _, e', hr, re, rl.rws, he, hq⟩
    · cases he
/-! ### assignments -/
def sAsg (c : Cd) (t : Ct) : Cs := fun e h => lift (c e h) e fun w h => match t w e h with
  | some e' => .nx e' h
  | none => .no
theorem asg_at {D : Ends} {t : Ct} {F ρ : List Addr} {H : Hp} {e : Ev} {ih : Hh} {w : W} {v : V} {σ : L2.St} (hr : HR X.K T F ρ ih H) (re : RE X.K F ρ H e σ) (r : RW X.K F ρ H w v)
    (hp : Pss X.K T Wx F ρ H (match t w e ih with
      | some e' => .nx e' ih
      | none => .no) D) {vs : List Nat} : gOf X.K T vs t v σ H D.nx := by
  cases q : t w e ih with
  | none => rw [q] at hp; exact hp.elim
  | some e' =>
    rw [q] at hp
    exact ⟨F, ρ, e, ih, w, e', hr, re, r, q, fun σ' re' _ => Pss.nx hp hr re'⟩
theorem fs_asg {tg : Expr} {is : List Nat} {t : Ct} (hs : swapsWithSole [tg] e pos.line X.env = pure false) (hw : swappedStores [tg] e X.env = pure none) (h1 : (assignEach [tg] X.env).map (·.2) = [assign tg X.env]) (he : FE X T Wx e c) (hg : FG X T tg is t) :
    FS X T Wx (.Assign [tg] e pos) (sAsg c t) := PS.imp (ps_asg he hg hs hw h1) fun D σ H q => by
  obtain ⟨F, ρ, ev, ih, hr, re, hp⟩ := q
  exact ⟨F, ρ, ev, ih, hr, re, (Pss.lift hr re hp).mono fun ρ1 H1 ih1 w g1 hr1 hp1 v r => asg_at hr1 (re.grow g1 hr) r hp1⟩
theorem fs_set {i : Nat} {x : Str} {pos' : Pos} (h : ∀ te, PE X e te → PS X (.Assign [.Name x pos'] e pos) (tAsg te (gName i))) (he : FE X T Wx e c) : FS X T Wx (.Assign [.Name x pos'] e pos) (sAsg c (tN i)) := PS.imp (h _ he) fun D σ H q => by
  obtain ⟨F, ρ, ev, ih, hr, re, hp⟩ := q
  refine ⟨F, ρ, ev, ih, hr, re, (Pss.lift hr re hp).mono fun ρ1 H1 ih1 w g1 hr1 hp1 v r => ?_⟩
  exact Pss.nx hp1 hr1 ((re.grow g1 hr).set i r)
/-- a, b, .. = x, y, .. -/
def sPar (a : Ca) (t : Cts) : Cs := fun e h => lift (a e h) e fun ws h => match t ws e h with
  | some e' => .nx e' h
  | none => .no
theorem fs_par {es tgs : List Expr} {is : List Nat} {k1 k2 : Nat} {p1 p2 : Pos} {ca : Ca} {cb : Cts} {n : Nat} (hc : X.calm = true) (ln : Len cb n) (hn : (assignEach tgs X.env).length = n) (hst : (assignEach tgs X.env).findIdx? (·.1) = none) (hz : n ≤ sizeLine)
    (hs : swapsWithSole [.Tuple tgs k1 p1] (.Tuple es k2 p2) pos.line X.env = pure false) (hw : swappedStores [.Tuple tgs k1 p1] (.Tuple es k2 p2) X.env = pure none)
    (h1 : (assignEach [.Tuple tgs k1 p1] X.env).map (·.2) = [assign (.Tuple tgs k1 p1) X.env]) (ha : FA X T Wx es ca) (hg : FGs X T tgs is cb) : FS X T Wx (.Assign [.Tuple tgs k1 p1] (.Tuple es k2 p2) pos) (sPar ca cb) :=
  PS.imp (ps_asg (pe_tup ha) (pg_tup hc hg hn hst) hs hw h1) fun D σ H q => by
    obtain ⟨F, ρ, ev, ih, hr, re, hp⟩ := q
    refine ⟨F, ρ, ev, ih, hr, re, (Pss.lift hr re hp).mono fun ρ1 H1 ih1 ws g1 hr1 hp1 vs rs => ?_⟩
    have re1 := re.grow g1 hr
    cases q : cb ws ev ih1 with
    | none => rw [q] at hp1; exact hp1.elim
    | some e' =>
      rw [q] at hp1
      have hl := ln.len _ _ _ _ q
      refine ⟨by rw [← rs.length, hl]; exact hz, fun p np => ⟨p, vs, rfl, .inl (.inl upd_same), by rw [← rs.length]; exact hl, ?_⟩⟩
      have gn : Grow F ρ1 H1 ρ1 (upd H1 p (.tup vs)) := grow_new np
      exact ⟨F, ρ1, ev, ih1, ws, e', hr1.new np, re1.grow gn hr1, RWs.grow gn hr1 rs, q, fun σ' re' _ => hp1 _ _ _ gn (hr1.new np) re'⟩
theorem fs_par2 {es tgs : List Expr} {k1 k2 : Nat} {p1 p2 : Pos} {ca : Ca} {i j : Nat} (h : ∀ ta, PA X es ta → PS X (.Assign [.Tuple tgs k1 p1] (.Tuple es k2 p2) pos) (tPar i j ta)) (ha : FA X T Wx es ca) :
    FS X T Wx (.Assign [.Tuple tgs k1 p1] (.Tuple es k2 p2) pos) (sPar ca (tCns (tN i) (tCns (tN j) Fz.tNil))) := PS.imp (h _ ha) fun D σ H q => by
  obtain ⟨F, ρ, ev, ih, hr, re, hp⟩ := q
  refine ⟨F, ρ, ev, ih, hr, re, (Pss.lift hr re hp).mono fun ρ1 H1 ih1 ws g1 hr1 hp1 vs rs => ?_⟩
  have re1 := re.grow g1 hr
  match ws, vs, rs, hp1 with
  | [a, b], [v, w], .cons r1 (.cons r2 .nil), hp1 => exact ⟨v, w, rfl, Pss.nx hp1 hr1 ((re1.set i r1).set j r2)⟩
  | [], _, _, hp1 => exact hp1.elim
  | [a], _, _, hp1 => exact hp1.elim
  | _ :: _ :: _ :: _, _, _, hp1 => exact hp1.elim
theorem fs_par3 {es tgs : List Expr} {k1 k2 : Nat} {p1 p2 : Pos} {ca : Ca} {i j l : Nat} (h : ∀ ta, PA X es ta → PS X (.Assign [.Tuple tgs k1 p1] (.Tuple es k2 p2) pos) (tPar3 i j l ta)) (ha : FA X T Wx es ca) :
    FS X T Wx (.Assign [.Tuple tgs k1 p1] (.Tuple es k2 p2) pos) (sPar ca (tCns (tN i) (tCns (tN j) (tCns (tN l) Fz.tNil)))) := PS.imp (h _ ha) fun D σ H q => by
  obtain ⟨F, ρ, ev, ih, hr, re, hp⟩ := q
  refine ⟨F, ρ, ev, ih, hr, re, (Pss.lift hr re hp).mono fun ρ1 H1 ih1 ws g1 hr1 hp1 vs rs => ?_⟩
  have re1 := re.grow g1 hr
  match ws, vs, rs, hp1 with
  | [a, b, c], [u, v, w], .cons r1 (.cons r2 (.cons r3 .nil)), hp1 => exact ⟨u, v, w, rfl, Pss.nx hp1 hr1 (((re1.set i r1).set j r2).set l r3)⟩
  | [], _, _, hp1 => exact hp1.elim
  | [a], _, _, hp1 => exact hp1.elim
  | [a, b], _, _, hp1 => exact hp1.elim
  | _ :: _ :: _ :: _ :: _, _, _, hp1 => exact hp1.elim
/-- x op= e -/
def sAug (i : Nat) (op : W → W → Hh → R W) (c : Cd) : Cs := fun e h => match e[i]? with
  | some (some x) => lift ((c e h).bind fun y h => op x y h) e fun w h => .nx (e.set i (some w)) h
  | _ => .no
theorem fs_aug {i : Nat} {x : Str} {o : Operator} {ti : TIp} {op : W → W → Hh → R W} {pos' : Pos} (hf : FOp X.K T op ti) (h : ∀ te, PE X e te → PS X (.AugAssign (.Name x pos') o e pos) (tAug i te ti)) (he : FE X T Wx e c) :
    FS X T Wx (.AugAssign (.Name x pos') o e pos) (sAug i op c) := PS.imp (h _ he) fun D σ H q => by
  obtain ⟨F, ρ, ev, ih, hr, re, hp⟩ := q
  unfold sAug at hp
  split at hp
  · rename_i x hx
    obtain ⟨v, e1, r1⟩ := re.2 i x hx
    refine ⟨v, e1, F, ρ, ev, ih, hr, re, ((Pss.lift hr re hp).bind).mono fun ρ1 H1 ih1 y g1 hr1 hp1 u r2 => ?_⟩
    have re1 := re.grow g1 hr
    exact hf Wx σ F ρ1 ih1 H1 x y v u _ hr1 (r1.grow g1 hr) r2 (hp1.mono fun ρ2 H2 ih2 w g2 hr2 hp2 v' r' => Pss.nx hp2 hr2 ((re1.grow g2 hr1).set i r'))
  · exact hp.elim
/-- o.f = e -/
def putF' (x : W) (f : Nat) (w : W) (h : Hh) : Option Hh := match x with
  | .r i => match h[i]? with
    | some (.ins c fs) => if fs.length < 800 then some (h.set i (.ins c (putf f w fs))) else none
    | _ => none
  | _ => none
def sFld (f : Nat) (o c : Cd) : Cs := fun e h => lift (c e h) e fun w h => lift (o e h) e fun x h => match putF' x f w h with
  | some h' => .nx e h'
  | none => .no
theorem putF_at {F ρ : List Addr} {H : Hp} {ih ih' : Hh} {x w : W} {v u : V} {fl : Nat} (inj : ∀ i, T.fld i = T.fld fl → i = fl) (hr : HR X.K T F ρ ih H) (rx : RW X.K F ρ H x v) (rw : RW X.K F ρ H w u) (e : putF' x fl w ih = some ih') :
    ∃ a c dx fs, v = .ref a ∧ H a = some (.ins (T.cad c) dx fs) ∧ fs.length < 1000 ∧ a ∈ ρ ∧ HR X.K T F ρ ih' (upd H a (.ins (T.cad c) dx (putF (T.fld fl) u fs))) := by
  unfold putF' at e
  split at e
  · rename_i i
    split at e
    · rename_i c fs ho
      split at e
      · rename_i hl
        cases e
        cases rx with
        | r ei =>
          obtain ⟨o, eH, ro⟩ := hr.at ei ho
          cases ro with
          | ins rs z =>
            have m := List.mem_of_getElem? ei
            refine ⟨_, _, _, _, rfl, eH, by rw [← Paired.length rs]; omega, m, hr.set ei (.ins (putf_at inj (rw.kp (keep_set m) fun _ _ q => q) (Paired.mapP rs fun _ _ y => ⟨y.1, y.2.kp (keep_set m) fun _ _ q => q⟩)) ?_)⟩
            exact Nat.lt_of_le_of_lt (putf_len _ _ _) (by omega)
      · cases e
    · cases e
  · cases e
theorem fs_fld {o : Expr} {co : Cd} {fl : Nat} {f : Str} {pos' : Pos} (hf : T.fld fl = f) (inj : ∀ i, T.fld i = T.fld fl → i = fl) (cl : ∀ c, Cls X.K (T.cad c)) (na : ∀ c, NoAttr X.K (T.cad c) f) (hs : swapsWith e (some (.Attribute o f pos')) pos.line X.env = pure false)
    (ho : FE X T Wx o co) (he : FE X T Wx e c) : FS X T Wx (.Assign [.Attribute o f pos'] e pos) (Fz.sFld fl co c) := PS.imp (ps_fld ho he hs) fun D σ H q => by
  subst hf
  obtain ⟨F, ρ, ev, ih, hr, re, hp⟩ := q
  refine ⟨F, ρ, ev, ih, hr, re, (Pss.lift hr re hp).mono fun ρ1 H1 ih1 w g1 hr1 hp1 u r1 => ?_⟩
  have re1 := re.grow g1 hr
  refine ⟨F, ρ1, ev, ih1, hr1, re1, (Pss.lift hr1 re1 hp1).mono fun ρ2 H2 ih2 x g2 hr2 hp2 v r2 => ?_⟩
  split at hp2
  · rename_i h' q
    obtain ⟨a, c', dx, fs, rfl, eH, hl, m, hr3⟩ := putF_at inj hr2 r2 (r1.grow g2 hr1) q
    exact ⟨_, _, _, _, rfl, eH, cl _, na _, hl, hp2 _ _ _ (grow_set m (nf_of eH trivial)) hr3 ((re1.grow g2 hr1).grow (grow_set m (nf_of eH trivial)) hr2)⟩
  · exact hp2.elim
end
end Fz
set_option Elab.async false
set_option linter.all false
set_option maxRecDepth 100000
set_option maxHeartbeats 2000000
/-! Fz: what is walked, for and while. -/
namespace Fz
open PySem L2 PyProof.Rows

/-- an item: a value, or a new tuple of values -/
inductive Y where
  | w (x : W) | t (l : List W)
inductive YR (K : PySem.W.Frag) (F ρ : List Addr) (H : Hp) : Y → V → Prop
  | w {x : W} {v : V} : RW K F ρ H x v → YR K F ρ H (.w x) v
  | t {l : List W} {p : Addr} {vs : List V} : H p = some (.tup vs) → p ∉ F ++ ρ → RWs K F ρ H l vs → YR K F ρ H (.t l) (.ref p)
/-- what is walked: its items as they stand in a heap -/
abbrev Src := Hh → Option (List Y)
/-- what stood stands, other things may have become foreign -/
structure Ext (F ρ : List Addr) (H : Hp) (F' ρ' : List Addr) (H' : Hp) : Prop where
  more : ∃ m, ρ' = ρ ++ m
  k : Keep (F ++ ρ) H (F' ++ ρ') H'
  frz : ∀ a od u, H a = some (.frz od u) → H' a = some (.frz od u)
theorem Ext.get {F ρ H F' ρ' H'} (g : Ext F ρ H F' ρ' H') {n : Nat} {a : Addr} (h : ρ[n]? = some a) : ρ'[n]? = some a := by
  obtain ⟨m, rfl⟩ := g.more
  rw [List.getElem?_append_left (List.getElem?_eq_some_iff.mp h).1]
  exact h
theorem Grow.ext {K T F ρ H ρ' H' ih} (g : Grow F ρ H ρ' H') (h : HR K T F ρ ih H) : Ext F ρ H F ρ' H' := ⟨g.more, g.keepM h, g.frz⟩
structure Good (K : PySem.W.Frag) (T : Tb) (J : It) (src : Src) (F ρ : List Addr) (H : Hp) : Prop where
  goes : ∀ F' ρ' H' ih' l i y, Ext F ρ H F' ρ' H' → HR K T F' ρ' ih' H' → src ih' = some l → l[i]? = some y → J.go i H' ∧ ∀ x H'', J.yld i H' x H'' → Grow F' ρ' H' ρ' H'' ∧ HR K T F' ρ' ih' H'' ∧ YR K F' ρ' H'' y x
  stops : ∀ F' ρ' H' ih' l i, Ext F ρ H F' ρ' H' → HR K T F' ρ' ih' H' → src ih' = some l → l.length ≤ i → J.stop i H'
abbrev Ci := Ev → Hh → R Src
def iOf (K : PySem.W.Frag) (T : Tb) (Wx : WX) (c : Ci) : TI := fun σ H R => ∃ F ρ e ih, HR K T F ρ ih H ∧ RE K F ρ H e σ ∧ Pst K T Wx σ F ρ H (c e ih) fun ρ' H' _ src => ∀ J, Good K T J src F ρ' H' → R J H'
def FI (X : Cx) (T : Tb) (Wx : WX) (tg iter : Expr) (c : Ci) : Prop := PI X tg iter (iOf X.K T Wx c)
section
variable {X : Cx} {T : Tb} {Wx : WX} {tg iter e : Expr} {pos : Pos} {c : Cd}
theorem PI.imp {t t' : TI} (h : PI X tg iter t) (f : ∀ σ H Q, t' σ H Q → t σ H Q) : PI X tg iter t' := ⟨fun pins s σ H R I q => h.run pins s σ H R I (f _ _ _ q)⟩
theorem pi_or {t t' : TI} (h : PI X tg iter t) (h' : PI X tg iter t') : PI X tg iter fun σ H Q => t σ H Q ∨ t' σ H Q := ⟨fun pins s σ H R I q => q.elim (h.run pins s σ H R I) (h'.run pins s σ H R I)⟩
def fixS (l : List Y) : Src := fun _ => some l
def refS (n : Nat) : Src := fun h => match h[n]? with
  | some (.lst l) => some (l.map .w)
  | _ => none
/-- the items of a value -/
def srcOf (w : W) (h : Hh) : R Src := match w with
  | .d (.lst l) => .ok (fixS (l.map fun x => .w (.d x))) h
  | .d (.tup l) => .ok (fixS (l.map fun x => .w (.d x))) h
  | .d (.str l) => .ok (fixS (l.map fun x => .w (.d (.str [x])))) h
  | .r n => match h[n]? with
    | some (.lst _) => .ok (refS n) h
    | _ => .no
  | _ => .no
def cIt (c : Cd) : Ci := fun e h => (c e h).bind srcOf
theorem Rd.lst_inj {H : Hp} {a : Addr} {xs ys : List V} (h : Rd H a (.lst xs)) (h' : Rd H a (.lst ys)) : xs = ys := by
  rcases h with h | ⟨o, h⟩ <;> rcases h' with h' | ⟨o', h'⟩ <;> rw [h] at h' <;> cases h' <;> rfl
theorem Rd.tup_inj {H : Hp} {a : Addr} {xs ys : List V} (h : Rd H a (.tup xs)) (h' : Rd H a (.tup ys)) : xs = ys := by
  rcases h with h | ⟨o, h⟩ <;> rcases h' with h' | ⟨o', h'⟩ <;> rw [h] at h' <;> cases h' <;> rfl
theorem RpL.get {K M H} {a : List D} {vs : List V} (h : RpL K M H a vs) : ∀ {n : Nat} {x : D}, a[n]? = some x → ∃ v, vs[n]? = some v ∧ Rp K M H x v := by
  intro n
  induction n generalizing a vs with
  | zero => intro x e; cases h with
    | nil => simp at e
    | cons r t => simp at e; subst e; exact ⟨_, rfl, r⟩
  | succ n ih => intro x e; cases h with
    | nil => simp at e
    | cons r t => simp at e; obtain ⟨v, e1, r1⟩ := ih t e; exact ⟨v, by simpa using e1, r1⟩
theorem good_lst {K : PySem.W.Frag} {F ρ : List Addr} {H : Hp} {ih : Hh} {ds : List D} {a : Addr} {vs : List V} (hr : HR K T F ρ ih H) (h : FL K (F ++ ρ) H a vs) (rl : RpL K (F ++ ρ) H ds vs) : Good K T (Itl K a) (fixS (ds.map fun x => .w (.d x))) F ρ H where
  goes := fun F' ρ' H' ih' l i y g hr' e hy => by
    cases e
    have h' := h.keep g.k
    have rl' := rl.keep g.k
    rw [List.getElem?_map, Option.map_eq_some_iff] at hy
    obtain ⟨x, hx, rfl⟩ := hy
    obtain ⟨v, e1, r1⟩ := rl'.get hx
    refine ⟨⟨_, _, h'.sq, e1⟩, fun u H'' q => ?_⟩
    obtain ⟨rfl, q2⟩ := q
    have := q2 _ h'.sq
    rw [e1] at this
    cases this
    exact ⟨Grow.refl, hr', .w (.d r1)⟩
  stops := fun F' ρ' H' ih' l i g hr' e hl => by
    cases e
    exact ⟨_, (h.keep g.k).sq, by rw [← rl.length]; simpa using hl⟩
theorem good_tup {K : PySem.W.Frag} {F ρ : List Addr} {H : Hp} {ih : Hh} {ds : List D} {a : Addr} {vs : List V} (hr : HR K T F ρ ih H) (h : FT K (F ++ ρ) H a vs) (rl : RpL K (F ++ ρ) H ds vs) : Good K T (Itt K a) (fixS (ds.map fun x => .w (.d x))) F ρ H where
  goes := fun F' ρ' H' ih' l i y g hr' e hy => by
    cases e
    have h' := h.keep g.k
    have rl' := rl.keep g.k
    rw [List.getElem?_map, Option.map_eq_some_iff] at hy
    obtain ⟨x, hx, rfl⟩ := hy
    obtain ⟨v, e1, r1⟩ := rl'.get hx
    refine ⟨⟨_, _, h'.sq, e1⟩, fun u H'' q => ?_⟩
    obtain ⟨rfl, q2⟩ := q
    have := q2 _ h'.sq
    rw [e1] at this
    cases this
    exact ⟨Grow.refl, hr', .w (.d r1)⟩
  stops := fun F' ρ' H' ih' l i g hr' e hl => by
    cases e
    exact ⟨_, (h.keep g.k).sq, by rw [← rl.length]; simpa using hl⟩
theorem refS_at {n : Nat} {h : Hh} {l : List Y} (e : refS n h = some l) : ∃ ws, h[n]? = some (.lst ws) ∧ l = ws.map .w := by
  unfold refS at e
  split at e
  · cases e; exact ⟨_, by assumption, rfl⟩
  · cases e
theorem good_ref {K : PySem.W.Frag} {F ρ : List Addr} {H : Hp} {n : Nat} {a : Addr} (hn : ρ[n]? = some a) : Good K T (Itl K a) (refS n) F ρ H where
  goes := fun F' ρ' H' ih' l i y g hr' e hy => by
    obtain ⟨ws, ho, rfl⟩ := refS_at e
    obtain ⟨u, eH, ro⟩ := hr'.at (g.get hn) ho
    cases ro with
    | lst z rs =>
      rw [List.getElem?_map, Option.map_eq_some_iff] at hy
      obtain ⟨x, hx, rfl⟩ := hy
      obtain ⟨v, e1, r1⟩ := rs.get hx
      refine ⟨⟨_, _, .inl (.inl eH), e1⟩, fun u H'' q => ?_⟩
      obtain ⟨rfl, q2⟩ := q
      have := q2 _ (.inl (.inl eH))
      rw [e1] at this
      cases this
      exact ⟨Grow.refl, hr', .w r1⟩
  stops := fun F' ρ' H' ih' l i g hr' e hl => by
    obtain ⟨ws, ho, rfl⟩ := refS_at e
    obtain ⟨u, eH, ro⟩ := hr'.at (g.get hn) ho
    cases ro with
    | lst z rs => exact ⟨_, .inl (.inl eH), by rw [← rs.length]; simpa using hl⟩
theorem good_str {K : PySem.W.Frag} {F ρ : List Addr} {H : Hp} (z : List Nat) : Good K T (Its (toStr z)) (fixS (z.map fun x => .w (.d (.str [x])))) F ρ H where
  goes := fun F' ρ' H' ih' l i y g hr' e hy => by
    cases e
    rw [List.getElem?_map, Option.map_eq_some_iff] at hy
    obtain ⟨x, hx, rfl⟩ := hy
    refine ⟨by show i < (toStr z).cps.size; have := (List.getElem?_eq_some_iff.mp hx).1; simpa [toStr] using this, fun u H'' q => ?_⟩
    obtain ⟨rfl, ch, q2, rfl⟩ := q
    have q3 : z[i]? = some ch := by simpa [toStr] using q2
    rw [hx] at q3
    cases q3
    exact ⟨Grow.refl, hr', .w (.d (.str [x] (by show 1 ≤ sizeLine; decide)))⟩
  stops := fun F' ρ' H' ih' l i g hr' e hl => by
    cases e
    show (toStr z).cps.size ≤ i
    simpa [toStr] using hl
theorem fi_it (h : FE X T Wx e c) : FI X T Wx tg e (cIt c) := PI.imp (pi_or (pi_list h) (pi_or (pi_tup h) (pi_str h))) fun σ H R q => by
  obtain ⟨F, ρ, ev, ih, hr, re, hp⟩ := q
  unfold cIt at hp
  have hp' := hp.bind
  cases q : c ev ih with
  | no => rw [q] at hp'; exact hp'.elim
  | ex a b d =>
    refine .inl ⟨F, ρ, ev, ih, hr, re, ?_⟩
    rw [q] at hp' ⊢
    exact hp'
  | ok w h1 =>
    rw [q] at hp'
    have key : ∀ ρ1 H1, Grow F ρ H ρ1 H1 → HR X.K T F ρ1 h1 H1 → Pst X.K T Wx σ F ρ1 H1 (srcOf w h1) fun ρ' H' _ src => ∀ J, Good X.K T J src F ρ' H' → R J H' := hp'
    cases w with
    | f n =>
      refine .inl ⟨F, ρ, ev, ih, hr, re, ?_⟩
      rw [q]
      intro ρ1 H1 g1 hr1 v r
      have hp1 := key ρ1 H1 g1 hr1
      unfold srcOf at hp1
      exact hp1.elim
    | r n =>
      refine .inl ⟨F, ρ, ev, ih, hr, re, ?_⟩
      rw [q]
      intro ρ1 H1 g1 hr1 v r
      have hp1 := key ρ1 H1 g1 hr1
      unfold srcOf at hp1
      dsimp only at hp1
      split at hp1
      · rename_i l ho
        cases r with
        | r hn =>
          obtain ⟨u, eH, ro⟩ := hr1.at hn ho
          cases ro with
          | lst z rs => exact ⟨_, rfl, ⟨_, .inl (.inl eH)⟩, hp1.ok hr1 _ (good_ref hn)⟩
      · exact hp1.elim
    | d x =>
      cases x with
      | tup l =>
        refine .inr (.inl ⟨F, ρ, ev, ih, hr, re, ?_⟩)
        rw [q]
        intro ρ1 H1 g1 hr1 v r
        cases r with | d r => cases r with | tup t z rl =>
          exact ⟨_, rfl, ⟨_, t.sq⟩, (key ρ1 H1 g1 hr1).ok hr1 _ (good_tup hr1 t rl)⟩
      | lst l =>
        refine .inl ⟨F, ρ, ev, ih, hr, re, ?_⟩
        rw [q]
        intro ρ1 H1 g1 hr1 v r
        cases r with | d r => cases r with | lst t z rl =>
          exact ⟨_, rfl, ⟨_, t.sq⟩, (key ρ1 H1 g1 hr1).ok hr1 _ (good_lst hr1 t rl)⟩
      | str l =>
        refine .inr (.inr ⟨F, ρ, ev, ih, hr, re, ?_⟩)
        rw [q]
        intro ρ1 H1 g1 hr1 v r
        cases r with | d r => cases r with | str _ z =>
          exact ⟨_, rfl, (key ρ1 H1 g1 hr1).ok hr1 _ (good_str l)⟩
      | _ =>
        refine .inl ⟨F, ρ, ev, ih, hr, re, ?_⟩
        rw [q]
        intro ρ1 H1 g1 hr1 v r
        exact (key ρ1 H1 g1 hr1).elim

/-! ### range -/
def rngS (lo hi : Int) : Src := fixS ((List.range (hi - lo).toNat).map fun i => .w (.d (.int (lo + (i : Nat)))))
theorem good_rng {K : PySem.W.Frag} {F ρ : List Addr} {H : Hp} (lo hi : Int) : Good K T (Itr lo (hi - lo).toNat) (rngS lo hi) F ρ H where
  goes := fun F' ρ' H' ih' l i y g hr' e hy => by
    cases e
    rw [List.getElem?_map, Option.map_eq_some_iff] at hy
    obtain ⟨x, hx, rfl⟩ := hy
    have hi := (List.getElem?_eq_some_iff.mp hx).1
    rw [List.length_range] at hi
    rw [List.getElem?_range hi] at hx
    cases hx
    refine ⟨hi, fun u H'' q => ?_⟩
    obtain ⟨rfl, rfl⟩ := q
    exact ⟨Grow.refl, hr', .w (.d (.int _))⟩
  stops := fun F' ρ' H' ih' l i g hr' e hl => by
    cases e
    rw [List.length_map, List.length_range] at hl
    exact hl
def cR1 (a : Ca) : Ci := fun e h => (a e h).bind fun ws h => match ws with
  | [.d (.int j)] => if -(2 ^ 62) ≤ j ∧ j < 2 ^ 62 then .ok (rngS 0 j) h else .no
  | _ => .no
def cR2 (a : Ca) : Ci := fun e h => (a e h).bind fun ws h => match ws with
  | [.d (.int i), .d (.int j)] => if -(2 ^ 62) ≤ i ∧ i < 2 ^ 62 ∧ -(2 ^ 62) ≤ j ∧ j < 2 ^ 62 then .ok (rngS i j) h else .no
  | _ => .no
theorem fi_r1 {es : List Expr} {ca : Ca} (h : ∀ ta, PA X es ta → PI X tg iter (iRng1 ta)) (ha : FA X T Wx es ca) : FI X T Wx tg iter (cR1 ca) := PI.imp (h _ ha) fun σ H R q => by
  obtain ⟨F, ρ, ev, ih, hr, re, hp⟩ := q
  refine ⟨F, ρ, ev, ih, hr, re, hp.bind.mono fun ρ1 H1 ih1 ws g1 hr1 hp1 vs rs => ?_⟩
  split at hp1
  · rename_i j
    split at hp1
    · rename_i z
      match vs, rs with
      | [_], .cons (.d (.int _)) .nil =>
        refine ⟨j, rfl, z.1, z.2, ?_⟩
        have := hp1.ok hr1 _ (good_rng 0 j)
        rw [Int.sub_zero] at this
        exact this
    · exact hp1.elim
  · exact hp1.elim
theorem fi_r2 {es : List Expr} {ca : Ca} (h : ∀ ta, PA X es ta → PI X tg iter (iRng2 ta)) (ha : FA X T Wx es ca) : FI X T Wx tg iter (cR2 ca) := PI.imp (h _ ha) fun σ H R q => by
  obtain ⟨F, ρ, ev, ih, hr, re, hp⟩ := q
  refine ⟨F, ρ, ev, ih, hr, re, hp.bind.mono fun ρ1 H1 ih1 ws g1 hr1 hp1 vs rs => ?_⟩
  split at hp1
  · rename_i i j
    split at hp1
    · rename_i z
      match vs, rs with
      | [_, _], .cons (.d (.int _)) (.cons (.d (.int _)) .nil) => exact ⟨i, j, rfl, z, hp1.ok hr1 _ (good_rng i j)⟩
    · exact hp1.elim
  · exact hp1.elim

/-! ### for -/
abbrev Cy := Y → Ev → Hh → Option Ev
/-- a target's function on an item -/
def yOf (K : PySem.W.Frag) (T : Tb) (vs : List Nat) (c : Cy) : TG := fun v σ H Q => ∃ F ρ e ih y e', HR K T F ρ ih H ∧ RE K F ρ H e σ ∧ YR K F ρ H y v ∧ c y e ih = some e' ∧ ∀ σ', RE K F ρ H e' σ' → Mod vs σ σ' → Q σ' H
def FY (X : Cx) (T : Tb) (tg : Expr) (vs : List Nat) (c : Cy) : Prop := PG X tg (yOf X.K T vs c)
/-- a value that an item is -/
def yw (y : Y) : Option W := match y with
  | .w x => some x
  | .t l => (allD l).bind fun ds => if ds.length ≤ 16777216 then some (.d (.tup ds)) else none
def yN (t : Ct) : Cy := fun y e h => (yw y).bind fun w => t w e h
theorem yw_at {K : PySem.W.Frag} {F ρ : List Addr} {H : Hp} {y : Y} {w : W} {v : V} (e : yw y = some w) (r : YR K F ρ H y v) : RW K F ρ H w v := by
  cases r with
  | w r => cases e; exact r
  | t h1 h2 rs =>
    simp only [yw, Option.bind_eq_some_iff] at e
    obtain ⟨ds, e1, e2⟩ := e
    split at e2
    · rename_i z
      cases e2
      exact .d (.tup ⟨h1, h2⟩ z (allD_rp e1 rs))
    · cases e2
theorem fy_n {is : List Nat} {t : Ct} (h : FG X T tg is t) : FY X T tg is (yN t) := PG.imp h fun v σ H Q q => by
  obtain ⟨F, ρ, e, ih, y, e', hr, re, r, he, hq⟩ := q
  unfold yN at he
  rw [Option.bind_eq_some_iff] at he
  obtain ⟨w, e1, e2⟩ := he
  exact ⟨F, ρ, e, ih, w, e', hr, re, yw_at e1 r, e2, hq⟩
/-- a tuple's target on an item: its parts need be no data -/
def yT (c : Cts) : Cy := fun y e h => match y with
  | .t l => c l e h
  | .w x => tTp c x e h
theorem fy_t {tgs : List Expr} {is : List Nat} {k n : Nat} {cb : Cts} (hc : X.calm = true) (ln : Len cb n) (hn : (assignEach tgs X.env).length = n) (hst : (assignEach tgs X.env).findIdx? (·.1) = none) (h : FGs X T tgs is cb) : FY X T (.Tuple tgs k pos) is (yT cb) :=
  PG.imp (pg_tup hc h hn hst) fun v σ H Q q => by
    obtain ⟨F, ρ, e, ih, y, e', hr, re, r, he, hq⟩ := q
    cases r with
    | t h1 h2 rs =>
      have he' : cb _ e ih = some e' := he
      have hl := ln.len _ _ _ _ he'
      exact ⟨_, _, rfl, .inl (.inl h1), by rw [← rs.length]; exact hl, F, ρ, e, ih, _, e', hr, re, rs, he', hq⟩
    | @w x v r =>
      have he' : tTp cb x e ih = some e' := he
      unfold tTp at he'
      split at he'
      · rename_i l
        cases r with | d r => cases r with | tup t z rl =>
          have hl := ln.len _ _ _ _ he'
          exact ⟨_, _, rfl, t.sq, by rw [← rl.rws.length]; exact hl, F, ρ, e, ih, _, e', hr, re, rl.rws, he', hq⟩
      · cases he'
def loop (src : Src) (t : Cy) (b : Cs) : Nat → Nat → Cs
  | 0, _ => fun _ _ => .no
  | m + 1, i => fun e h => match src h with
    | none => .no
    | some l => match l[i]? with
      | none => .nx e h
      | some y => match t y e h with
        | none => .no
        | some e1 => match b e1 h with
          | .nx e2 h2 => loop src t b m (i + 1) e2 h2
          | .ct e2 h2 => loop src t b m (i + 1) e2 h2
          | .bk e2 h2 => .nx e2 h2
          | r => r
def srcLen (s : Src) (h : Hh) : Nat := match s h with
  | some l => l.length
  | none => 0
def sFor (i : Ci) (t : Cy) (b : Cs) : Cs := fun e h => lift (i e h) e fun src h => loop src t b (srcLen src h + 1) 0 e h
theorem fs_for {body : List Stmt} {is : List Nat} {ci : Ci} {ct : Cy} {cb : Cs} (hp : PassesOwn (model X.prog X.w) X.A X.env X.xe) (hc : X.calm = true) (hs : ∀ x, foldedSetIterable iter X.env x = pure x) (hi : FI X T Wx tg iter ci) (ht : FY X T tg is ct) (hb : FSs X T Wx body cb) :
    FS X T Wx (.For tg iter body [] pos) (sFor ci ct cb) := PS.imp (ps_for hp hc hi ht hb hs) fun D σ H q => by
  obtain ⟨F, ρ, ev, ih, hr, re, hp⟩ := q
  refine ⟨F, ρ, ev, ih, hr, re, (Pss.lift hr re hp).mono fun ρ1 H1 ih1 src g1 hr1 hp1 J good => ?_⟩
  refine ⟨fun i m σ' H' => ∃ ρ' e' ih', Grow F ρ1 H1 ρ' H' ∧ HR X.K T F ρ' ih' H' ∧ RE X.K F ρ' H' e' σ' ∧ Pss X.K T Wx F ρ' H' (loop src ct cb m i e' ih') D, ⟨srcLen src ih1 + 1, ρ1, ev, ih1, Grow.refl, hr1, re.grow g1 hr, hp1⟩, ?_⟩
  rintro i m σ2 H2 ⟨ρ2, e2, ih2, g2, hr2, re2, hp2⟩
  cases m with
  | zero => exact hp2.elim
  | succ m =>
    unfold loop at hp2
    cases hs : src ih2 with
    | none => rw [hs] at hp2; exact hp2.elim
    | some l =>
      rw [hs] at hp2
      dsimp only at hp2
      cases hl : l[i]? with
      | none =>
        rw [hl] at hp2
        exact .inl ⟨good.stops F ρ2 H2 ih2 l i (g2.ext hr1) hr2 hs (List.getElem?_eq_none_iff.mp hl), Pss.nx hp2 hr2 re2⟩
      | some y =>
        rw [hl] at hp2
        dsimp only at hp2
        obtain ⟨go, yl⟩ := good.goes F ρ2 H2 ih2 l i y (g2.ext hr1) hr2 hs hl
        refine .inr ⟨go, fun σ3 H3 => ∃ ρ3 e3 ih3, Grow F ρ1 H1 ρ3 H3 ∧ HR X.K T F ρ3 ih3 H3 ∧ RE X.K F ρ3 H3 e3 σ3 ∧ Pss X.K T Wx F ρ3 H3 (loop src ct cb m (i + 1) e3 ih3) D, fun σ3 H3 q3 => ⟨m, Nat.lt_succ_self _, q3⟩, fun x H3 yx => ?_⟩
        obtain ⟨g3, hr3, r3⟩ := yl x H3 yx
        cases ht : ct y e2 ih2 with
        | none => rw [ht] at hp2; exact hp2.elim
        | some e4 =>
          rw [ht] at hp2
          dsimp only at hp2
          refine ⟨F, ρ2, e2, ih2, y, e4, hr3, re2.grow g3 hr2, r3, ht, fun σ4 re4 _ => ?_⟩
          have hp3 := Pss.from g3 hr3 hp2
          have g13 := g2.trans hr2 g3
          refine ⟨F, ρ2, e4, ih2, hr3, re4, ?_⟩
          cases hb : cb e4 ih2 with
          | no => rw [hb] at hp3; exact hp3.elim
          | nx e5 h5 => rw [hb] at hp3; exact fun ρ5 H5 σ5 g5 hr5 re5 => ⟨ρ5, e5, h5, g13.trans hr3 g5, hr5, re5, Pss.from g5 hr5 hp3⟩
          | ct e5 h5 => rw [hb] at hp3; exact fun ρ5 H5 σ5 g5 hr5 re5 => ⟨ρ5, e5, h5, g13.trans hr3 g5, hr5, re5, Pss.from g5 hr5 hp3⟩
          | bk e5 h5 => rw [hb] at hp3; exact fun ρ5 H5 σ5 g5 hr5 re5 => hp3 ρ5 H5 σ5 g5 hr5 re5
          | rt w5 h5 => rw [hb] at hp3; exact hp3
          | ex a5 b5 e5 h5 => rw [hb] at hp3; exact hp3
/-! ### while -/
def wloop (t : Cb) (b : Cs) : Nat → Cs
  | 0 => fun _ _ => .no
  | m + 1 => fun e h => lift (t e h) e fun k h => if k then (match b e h with
      | .nx e2 h2 => wloop t b m e2 h2
      | .ct e2 h2 => wloop t b m e2 h2
      | .bk e2 h2 => .nx e2 h2
      | r => r) else .nx e h
def sWhile (n : Nat) (t : Cb) (b : Cs) : Cs := wloop t b n
theorem fs_while {t : Expr} {body : List Stmt} {ct : Cb} {cb : Cs} {n : Nat} (hp : PassesOwn (model X.prog X.w) X.A X.env X.xe) (ht : FT' X T Wx t ct) (hb : FSs X T Wx body cb) : FS X T Wx (.While t body [] pos) (sWhile n ct cb) :=
  PS.imp (ps_while hp ht hb) fun D σ H q => by
    refine ⟨fun m σ' H' => ∃ F ρ' e' ih', HR X.K T F ρ' ih' H' ∧ RE X.K F ρ' H' e' σ' ∧ Pss X.K T Wx F ρ' H' (wloop ct cb m e' ih') D, ⟨n, q⟩, ?_⟩
    rintro m σ2 H2 ⟨F, ρ2, e2, ih2, hr2, re2, hp2⟩
    cases m with
    | zero => exact hp2.elim
    | succ m =>
      unfold wloop at hp2
      refine ⟨F, ρ2, e2, ih2, hr2, re2, (Pss.lift hr2 re2 hp2).mono fun ρ3 H3 ih3 k g3 hr3 hp3 => ?_⟩
      have re3 := re2.grow g3 hr2
      cases k with
      | false =>
        rw [if_neg Bool.false_ne_true] at hp3
        exact iteF (Pss.nx hp3 hr3 re3)
      | true =>
        rw [if_pos rfl] at hp3
        refine iteT ⟨fun σ4 H4 => ∃ F ρ4 e4 ih4, HR X.K T F ρ4 ih4 H4 ∧ RE X.K F ρ4 H4 e4 σ4 ∧ Pss X.K T Wx F ρ4 H4 (wloop ct cb m e4 ih4) D, fun σ4 H4 q4 => ⟨m, Nat.lt_succ_self _, q4⟩, F, ρ3, e2, ih3, hr3, re3, ?_⟩
        cases hb : cb e2 ih3 with
        | no => rw [hb] at hp3; exact hp3.elim
        | nx e5 h5 => rw [hb] at hp3; exact fun ρ5 H5 σ5 g5 hr5 re5 => ⟨F, ρ5, e5, h5, hr5, re5, Pss.from g5 hr5 hp3⟩
        | ct e5 h5 => rw [hb] at hp3; exact fun ρ5 H5 σ5 g5 hr5 re5 => ⟨F, ρ5, e5, h5, hr5, re5, Pss.from g5 hr5 hp3⟩
        | bk e5 h5 => rw [hb] at hp3; exact fun ρ5 H5 σ5 g5 hr5 re5 => hp3 ρ5 H5 σ5 g5 hr5 re5
        | rt w5 h5 => rw [hb] at hp3; exact hp3
        | ex a5 b5 e5 h5 => rw [hb] at hp3; exact hp3
end
end Fz
set_option Elab.async false
set_option linter.all false
set_option maxRecDepth 100000
set_option maxHeartbeats 2000000
/-! Fz: comprehensions. -/
namespace Fz
open PySem L2 PyProof.Rows

def ew (e : Ev) : List Nat → Ev
  | [] => e
  | v :: vs => (ew e vs).set v none
theorem ew_some {e : Ev} {i : Nat} {w : W} : ∀ {vs : List Nat}, (ew e vs)[i]? = some (some w) → e[i]? = some (some w) ∧ i ∉ vs
  | [], h => ⟨h, by simp⟩
  | v :: vs, h => by
    unfold ew at h
    by_cases hi : v = i
    · subst hi
      by_cases hl : v < (ew e vs).length
      · rw [List.getElem?_set_self hl] at h; cases h
      · rw [List.getElem?_eq_none (by simpa using hl)] at h; cases h
    · rw [List.getElem?_set_ne hi] at h
      obtain ⟨a, b⟩ := ew_some h
      exact ⟨a, by simp [b, Ne.symm hi]⟩
theorem ew_len (e : Ev) : ∀ vs : List Nat, (ew e vs).length = e.length
  | [] => rfl
  | v :: vs => by unfold ew; rw [List.length_set, ew_len e vs]
theorem wipe_in {σ : L2.St} {j : Nat} : ∀ {vs : List Nat}, j ∈ vs → (wipe σ vs)[j]? = if j < σ.length then some none else none
  | v :: vs, h => by
    unfold wipe
    by_cases hj : v = j
    · subst hj
      by_cases hl : v < σ.length
      · rw [List.getElem?_set_self (by rw [wipe_length]; exact hl), if_pos hl]
      · rw [List.getElem?_eq_none (by rw [List.length_set, wipe_length]; omega), if_neg hl]
    · rw [List.getElem?_set_ne hj]
      exact wipe_in ((List.mem_cons.mp h).resolve_left (Ne.symm hj))
theorem Mod.wipe {vs : List Nat} {σ σ2 : L2.St} (m : Mod vs (L2.wipe σ vs) σ2) : L2.wipe σ2 vs = L2.wipe σ vs := by
  apply List.ext_getElem?
  intro j
  have hl : σ2.length = σ.length := by rw [m.1, wipe_length]
  by_cases hj : j ∈ vs
  · rw [wipe_in hj, wipe_in hj, hl]
  · rw [wipe_out hj, m.2 j hj]
def noX {α : Type} (m : R α) : R α := match m with
  | .ex _ _ _ => .no
  | m => m
def lcl (src : Src) (t : Cy) (q : Cb) (c : Cd) (e : Ev) : Nat → Nat → List W → Hh → R (List W)
  | 0, _, _, _ => .no
  | m + 1, i, acc, h => match src h with
    | none => .no
    | some l => match l[i]? with
      | none => .ok acc h
      | some y => match t y e h with
        | none => .no
        | some e1 => (q e1 h).bind fun k h => if k then (c e1 h).bind fun w h => if acc.length < 16777216 then lcl src t q c e m (i + 1) (acc ++ [w]) h else .no else lcl src t q c e m (i + 1) acc h
def cLc (mt : Bool) (vs : List Nat) (i : Ci) (t : Cy) (q : Cb) (c : Cd) : Cd := fun e h => (i e h).bind fun src h => (noX (lcl src t q c (ew e vs) (srcLen src h + 1) 0 [] h)).bind fun ws h => fin mt ws h
abbrev W0 : WX := fun _ _ _ _ => False
section
variable {K : PySem.W.Frag} {T : Tb} {F ρ : List Addr} {H : Hp} {ih : Hh} {D : Addr}
theorem RW.less {F F' : List Addr} (h : ∀ a, a ∈ F' → a ∈ F) {w : W} {v : V} (r : RW K F ρ H w v) : RW K F' ρ H w v := by
  cases r with
  | d r => exact .d (r.less fun a m => by
      rcases List.mem_append.mp m with q | q
      · exact List.mem_append_left _ (h a q)
      · exact List.mem_append_right _ q)
  | r e => exact .r e
  | f e => exact .f e
theorem RO.less {F F' : List Addr} (h : ∀ a, a ∈ F' → a ∈ F) {o : O} {u : HO} (r : RO K T F ρ H o u) : RO K T F' ρ H o u := by
  cases r with
  | lst z rs => exact .lst z (Paired.mapP rs fun _ _ x => x.less h)
  | dk rs => exact .dk (Paired.mapP rs fun _ _ x => ⟨x.1, x.2.less h⟩)
  | dt rs => exact .dt (Paired.mapP rs fun _ _ x => ⟨x.1, x.2.less h⟩)
  | fk rs => exact .fk (Paired.mapP rs fun _ _ x => ⟨x.1, x.2.less h⟩)
  | ft rs => exact .ft (Paired.mapP rs fun _ _ x => ⟨x.1, x.2.less h⟩)
  | ins rs z => exact .ins (Paired.mapP rs fun _ _ x => ⟨x.1, x.2.less h⟩) z
theorem HR.less {F F' : List Addr} (h : ∀ a, a ∈ F' → a ∈ F) (r : HR K T F ρ ih H) : HR K T F' ρ ih H :=
  ⟨r.len, r.nd, fun a m n => r.fr a m (h a n), fun a m => r.trF a (h a m), fun n o e => let ⟨a, u, e1, e2, ro⟩ := r.obj n o e; ⟨a, u, e1, e2, ro.less h⟩, fun a m xs => r.ntF a (h a m) xs⟩
/-- the new list of a comprehension is changed -/
theorem keepD {o : HO} : Keep ((D :: F) ++ ρ) H ((D :: F) ++ ρ) (upd H D o) :=
  ⟨fun a u e n => by rw [upd_ne (fun q => n (by simp [q]))]; exact e, fun a m n => absurd m n⟩
theorem HR.setD {o : HO} (no : ∀ xs, o ≠ .tup xs) (r : HR K T (D :: F) ρ ih H) : HR K T (D :: F) ρ ih (upd H D o) where
  len := r.len
  nd := r.nd
  fr := r.fr
  trF := fun a m => by
    by_cases q : a = D
    · subst q; rw [upd_same]; simp
    · rw [upd_ne q]; exact r.trF a m
  obj := fun n o' e => by
    obtain ⟨a, u, e1, e2, ro⟩ := r.obj n o' e
    have na : a ≠ D := fun q => r.fr a (List.mem_of_getElem? e1) (by simp [q])
    exact ⟨a, u, e1, by rw [upd_ne na]; exact e2, ro.kp keepD fun _ _ q => q⟩
  ntF := fun a m xs => by
    by_cases q : a = D
    · subst q; rw [upd_same]; exact fun z => no xs (Option.some.inj z)
    · rw [upd_ne q]; exact r.ntF a m xs
theorem HR.newD {o : HO} (no : ∀ xs, o ≠ .tup xs) (r : HR K T F ρ ih H) (hD : H D = none) : HR K T (D :: F) ρ ih (upd H D o) := by
  have k : Keep (F ++ ρ) H ((D :: F) ++ ρ) (upd H D o) := ⟨fun a u e n => by rw [upd_ne (ne_of_none e hD)]; exact e, fun a m n => by
    rcases List.mem_cons.mp m with q | q
    · rw [q]; exact hD
    · exact absurd q n⟩
  refine ⟨r.len, r.nd, fun a m n => ?_, fun a m => ?_, fun n o' e => ?_, fun a m xs => ?_⟩
  · rcases List.mem_cons.mp n with q | q
    · exact r.ne hD (q ▸ m)
    · exact r.fr a m q
  · rcases List.mem_cons.mp m with q | q
    · rw [q, upd_same]; simp
    · by_cases z : a = D
      · rw [z, upd_same]; simp
      · rw [upd_ne z]; exact r.trF a q
  · obtain ⟨a, u, e1, e2, ro⟩ := r.obj n o' e
    exact ⟨a, u, e1, by rw [upd_ne (ne_of_none e2 hD)]; exact e2, ro.kp k fun _ _ q => q⟩
  · by_cases q : a = D
    · subst q; rw [upd_same]; exact fun z => no xs (Option.some.inj z)
    · rw [upd_ne q]
      rcases List.mem_cons.mp m with z | z
      · exact absurd z q
      · exact r.ntF a z xs
/-- what is wanted of the whole, whatever the heap is by then -/
def Fin (K : PySem.W.Frag) (T : Tb) (F ρ1 : List Addr) (H1 : Hp) (D : Addr) {α : Type} (m : R α) (k : List Addr → Hp → Hh → α → Prop) : Prop := match m with
  | .ok a ih' => ∀ ρ' H', Grow F ρ1 H1 ρ' H' → HR K T (D :: F) ρ' ih' H' → k ρ' H' ih' a
  | _ => False
theorem Fin.bind {α β : Type} {m : R α} {f : α → Hh → R β} {k : List Addr → Hp → Hh → β → Prop} (h : Fin K T F ρ H D (m.bind f) k) : ∃ a ih', m = .ok a ih' ∧ Fin K T F ρ H D (f a ih') k := by
  cases m with
  | ok a ih' => exact ⟨a, ih', rfl, h⟩
  | ex c p ih' => exact h.elim
  | no => exact h.elim
theorem Grow.setD {ρ' : List Addr} {H' : Hp} {o : HO} (hD : H D = none) (g : Grow F ρ H ρ' H') : Grow F ρ H ρ' (upd H' D o) :=
  ⟨g.more, fun a u e n => by rw [upd_ne (ne_of_none e hD)]; exact g.keep a u e n, g.new, fun a _ _ e => by rw [upd_ne (ne_of_none e hD)]; exact g.frz a _ _ e⟩
theorem Grow.extD {ρ' : List Addr} {H' : Hp} (hr : HR K T F ρ ih H) (hD : H D = none) (g : Grow F ρ H ρ' H') : Ext F ρ H (D :: F) ρ' H' :=
  ⟨g.more, ⟨fun a u e n => g.keep a u e fun q => n (List.mem_append_right _ q), fun a m n => by
    rcases List.mem_append.mp m with q | q
    · rcases List.mem_cons.mp q with z | z
      · rw [z]; exact hD
      · exact absurd (List.mem_append_left _ z) n
    · exact g.new a q fun z => n (List.mem_append_right _ z)⟩, g.frz⟩
theorem RE.ext {F' ρ' : List Addr} {H' : Hp} {e : Ev} {σ : L2.St} (x : Ext F ρ H F' ρ' H') (r : RE K F ρ H e σ) (vs : List Nat) : RE K F' ρ' H' (ew e vs) (wipe σ vs) := by
  refine ⟨by rw [ew_len, wipe_length]; exact r.1, fun i w q => ?_⟩
  obtain ⟨q1, q2⟩ := ew_some q
  obtain ⟨v, e1, r1⟩ := r.2 i w q1
  exact ⟨v, by rw [wipe_out q2]; exact e1, r1.kp x.k fun _ _ h => x.get h⟩
/-- the end: the list at D is ours -/
theorem fin_at {Wx : WX} {σ : L2.St} {mt : Bool} {ws : List W} {vs : List V} {ρ1 ρ' : List Addr} {H1 H' : Hp} {ih' : Hh} {Q : VK} (hD : H1 D = none) (hr1 : HR K T F ρ1 ih H1) (g : Grow F ρ1 H1 ρ' H') (hr : HR K T (D :: F) ρ' ih' H') (e : H' D = some (.lst vs)) (rs : RWs K (D :: F) ρ' H' ws vs)
    (hp : Pst K T Wx σ F ρ1 H1 (fin mt ws ih') fun ρ' H' _ w => ∀ v, RW K F ρ' H' w v → Q v H') : Q (.ref D) H' := by
  have hl := fin_len hp
  have nF : D ∉ F := fun m => hr1.trF D m hD
  have nρ : D ∉ ρ' := fun m => hr.fr D m (by simp)
  have hr' : HR K T F ρ' ih' H' := hr.less fun a m => List.mem_cons_of_mem _ m
  have rs' : RWs K F ρ' H' ws vs := Paired.mapP rs fun _ _ x => x.less fun a m => List.mem_cons_of_mem _ m
  unfold Fz.fin at hp
  split at hp
  · unfold mkM at hp
    split at hp
    · have g2 : Grow F ρ1 H1 (ρ' ++ [D]) H' := ⟨by obtain ⟨m, rfl⟩ := g.more; exact ⟨m ++ [D], by simp⟩, g.keep, fun a m n => by
        rcases List.mem_append.mp m with q | q
        · exact g.new a q n
        · rw [List.mem_singleton.mp q]; exact hD, g.frz⟩
      have k2 : Keep ((D :: F) ++ ρ') H' (F ++ (ρ' ++ [D])) H' := ⟨fun _ _ e _ => e, fun a m n => by
        exfalso
        apply n
        simp only [List.mem_append, List.mem_cons, List.mem_singleton, List.not_mem_nil, or_false] at m ⊢
        rcases m with m | m | m <;> simp [m]⟩
      have gt : ∀ (n : Nat) (a : Addr), ρ'[n]? = some a → (ρ' ++ [D])[n]? = some a := fun n a q => by
        rw [List.getElem?_append_left (List.getElem?_eq_some_iff.mp q).1]; exact q
      have hr2 : HR K T F (ρ' ++ [D]) (ih' ++ [.lst ws]) H' := by
        refine ⟨by simp [hr.len], List.nodup_append.mpr ⟨hr.nd, by simp, fun a ha b hb => ?_⟩, fun a m => ?_, hr'.trF, fun n o q => ?_, hr'.ntF⟩
        · rw [List.mem_singleton.mp hb]; exact fun z => nρ (z ▸ ha)
        · rcases List.mem_append.mp m with q | q
          · exact hr'.fr a q
          · rw [List.mem_singleton.mp q]; exact nF
        · by_cases hn : n < ih'.length
          · rw [List.getElem?_append_left hn] at q
            obtain ⟨a, u, e1, e2, ro⟩ := hr.obj n o q
            exact ⟨a, u, gt n a e1, e2, ro.kp k2 gt⟩
          · have hn' : n = ih'.length := by
              have := (List.getElem?_eq_some_iff.mp q).1
              simp at this
              omega
            subst hn'
            simp at q
            subst q
            exact ⟨D, _, by rw [← hr.len]; simp, e, .lst hl (Paired.mapP rs fun _ _ x => x.kp k2 gt)⟩
      exact hp _ _ g2 hr2 _ (.r (get_last hr.len))
    · exact hp.elim
  · unfold mkL at hp
    cases ea : allD ws with
    | none => rw [ea] at hp; exact hp.elim
    | some ds =>
      rw [ea] at hp
      dsimp only at hp
      split at hp
      · rename_i z
        exact hp _ _ g hr' _ (.d (.lst ⟨.inl e, fun m => (List.mem_append.mp m).elim nF nρ⟩ z (allD_rp ea rs')))
      · exact hp.elim
end
section
variable {X : Cx} {T : Tb} {Wx : WX} {tg iter elt : Expr} {ifs : List Expr} {pos : Pos}
def FTs (X : Cx) (T : Tb) (Wx : WX) (ifs : List Expr) (c : Cb) : Prop := PTs X ifs (bOf X.K T Wx c)
def bYes : Cb := fun _ h => .ok true h
theorem PTs.imp {t t' : TT} (h : PTs X ifs t) (f : ∀ σ H Q, t' σ H Q → t σ H Q) : PTs X ifs t' := ⟨fun pins s σ H Q I q => h.run pins s σ H Q I (f _ _ _ q)⟩
theorem fts_nil : FTs X T Wx [] bYes := PTs.imp pts_nil fun σ H Q q => by
  obtain ⟨F, ρ, ev, ih, hr, re, hp⟩ := q
  exact hp.ok hr
theorem fts_one {c : Expr} {cb : Cb} (h : FT' X T Wx c cb) : FTs X T Wx [c] cb := pts_one h
theorem ifk {A B : Prop} {k : Bool} (h1 : k = true → A) (h2 : k = false → B) : if k = true then A else B := by
  cases k with
  | true => exact iteT (h1 rfl)
  | false => exact iteF (h2 rfl)
/-- the reading of a comprehension is what its function does -/
theorem lc_at {K : PySem.W.Frag} {mt : Bool} {vs is : List Nat} {ci : Ci} {t : Cy} {q : Cb} {c : Cd} (his : ∀ j ∈ is, j ∈ vs) {σ : L2.St} {H : Hp} {Q : VK} (hq : tOf K T Wx (cLc mt vs ci t q c) σ H Q) :
    tLc (iOf K T Wx ci) (yOf K T is t) (bOf K T W0 q) (tOf K T W0 c) vs σ H Q := by
  obtain ⟨F, ρ, ev, ih, hr, re, hp⟩ := hq
  refine ⟨F, ρ, ev, ih, hr, re, hp.bind.mono fun ρ1 H1 ih1 src g1 hr1 hp1 J good => ?_⟩
  intro D hD
  have re1 := re.grow g1 hr
  -- what is wanted of the list at the end
  have want : Fin K T F ρ1 H1 D (lcl src t q c (ew ev vs) (srcLen src ih1 + 1) 0 [] ih1) fun ρ' H' ih' ws => ∀ xs, H' D = some (.lst xs) → RWs K (D :: F) ρ' H' ws xs → Q (.ref D) H' := by
    cases e : lcl src t q c (ew ev vs) (srcLen src ih1 + 1) 0 [] ih1 with
    | no => rw [e] at hp1; exact hp1.elim
    | ex a b h2 => rw [e] at hp1; exact hp1.elim
    | ok ws h2 =>
      rw [e] at hp1
      exact fun ρ' H' g hr' xs ex rs => fin_at (Wx := Wx) (σ := σ) hD hr1 g hr' ex rs hp1
  refine ⟨fun i m H' => ∃ ρ' ih' acc xs, Grow F ρ1 H1 ρ' H' ∧ HR K T (D :: F) ρ' ih' H' ∧ H' D = some (.lst xs) ∧ RWs K (D :: F) ρ' H' acc xs ∧
    Fin K T F ρ1 H1 D (lcl src t q c (ew ev vs) m i acc ih') fun ρ' H' ih' ws => ∀ xs, H' D = some (.lst xs) → RWs K (D :: F) ρ' H' ws xs → Q (.ref D) H',
    ⟨srcLen src ih1 + 1, ρ1, ih1, [], [], grow_new hD, hr1.newD (fun _ z => nomatch z) hD, upd_same, .nil, want⟩, ?_⟩
  rintro i m H2 ⟨ρ2, ih2, acc, xs, g2, hr2, e2, rs2, hf⟩
  have hr2' : HR K T F ρ2 ih2 H2 := hr2.less fun a m => List.mem_cons_of_mem _ m
  cases m with
  | zero => exact hf.elim
  | succ m =>
    unfold lcl at hf
    cases hs : src ih2 with
    | none => rw [hs] at hf; exact hf.elim
    | some l =>
      rw [hs] at hf
      dsimp only at hf
      cases hl : l[i]? with
      | none =>
        rw [hl] at hf
        exact .inl ⟨good.stops _ ρ2 H2 ih2 l i (g2.extD hr1 hD) hr2 hs (List.getElem?_eq_none_iff.mp hl), hf ρ2 H2 g2 hr2 xs e2 rs2⟩
      | some y =>
        rw [hl] at hf
        dsimp only at hf
        obtain ⟨go, yl⟩ := good.goes _ ρ2 H2 ih2 l i y (g2.extD hr1 hD) hr2 hs hl
        refine .inr ⟨go, fun H3 => ∃ ρ' ih' acc xs, Grow F ρ1 H1 ρ' H3 ∧ HR K T (D :: F) ρ' ih' H3 ∧ H3 D = some (.lst xs) ∧ RWs K (D :: F) ρ' H3 acc xs ∧
          Fin K T F ρ1 H1 D (lcl src t q c (ew ev vs) m (i + 1) acc ih') fun ρ' H' ih' ws => ∀ xs, H' D = some (.lst xs) → RWs K (D :: F) ρ' H' ws xs → Q (.ref D) H', fun H3 q3 => ⟨m, Nat.lt_succ_self _, q3⟩, fun x H3 yx => ?_⟩
        obtain ⟨g3, hr3, r3⟩ := yl x H3 yx
        have nD : D ∉ ρ2 := fun z => hr2.fr D z (by simp)
        have e3 : H3 D = some (.lst xs) := g3.keep D _ e2 nD
        have k13 : ∀ a u, H1 a = some u → a ∉ ρ1 → H3 a = some u := fun a u ea na => by
          refine g3.keep a u (g2.keep a u ea na) fun z => ?_
          have := g2.new a z na
          rw [ea] at this
          cases this
        have g13 : Grow F ρ1 H1 ρ2 H3 := ⟨g2.more, k13, g2.new, fun a _ _ e => g3.frz a _ _ (g2.frz a _ _ e)⟩
        have rs3 : RWs K (D :: F) ρ2 H3 acc xs := RWs.grow g3 hr2 rs2
        cases ht : t y (ew ev vs) ih2 with
        | none => rw [ht] at hf; exact hf.elim
        | some e1 =>
          rw [ht] at hf
          dsimp only at hf
          have reW : RE K (D :: F) ρ2 H3 (ew ev vs) (wipe σ vs) := re1.ext (g13.extD hr1 hD) vs
          refine ⟨D :: F, ρ2, ew ev vs, ih2, y, e1, hr3, reW, r3, ht, fun σ2 re2 m2 => ⟨(m2.mono his).wipe, ?_⟩⟩
          obtain ⟨k, ih4, eq, hf⟩ := hf.bind
          refine ⟨D :: F, ρ2, e1, ih2, hr3, re2, ?_⟩
          rw [eq]
          intro ρ4 H4 g4 hr4
          have e4 : H4 D = some (.lst xs) := g4.keep D _ e3 nD
          have g14 : Grow F ρ1 H1 ρ4 H4 := Grow.trans (K := K) (T := T) (ih1 := ih2) g13 (hr3.less fun a m => List.mem_cons_of_mem _ m) ⟨g4.more, g4.keep, g4.new, g4.frz⟩
          have rs4 : RWs K (D :: F) ρ4 H4 acc xs := RWs.grow g4 hr3 rs3
          refine ifk (fun hk => ?_) fun hk => ?_
          · subst hk
            rw [if_pos rfl] at hf
            obtain ⟨w, ih5, eq5, hf⟩ := hf.bind
            refine ⟨D :: F, ρ4, e1, ih4, hr4, re2.grow g4 hr3, ?_⟩
            rw [eq5]
            intro ρ5 H5 g5 hr5 v rv
            have nD4 : D ∉ ρ4 := fun z => hr4.fr D z (by simp)
            have e5 : H5 D = some (.lst xs) := g5.keep D _ e4 nD4
            have g15 : Grow F ρ1 H1 ρ5 H5 := Grow.trans (K := K) (T := T) (ih1 := ih4) g14 (hr4.less fun a m => List.mem_cons_of_mem _ m) ⟨g5.more, g5.keep, g5.new, g5.frz⟩
            have rs5 : RWs K (D :: F) ρ5 H5 acc xs := RWs.grow g5 hr4 rs4
            split at hf
            · rename_i hlen
              refine ⟨xs, e5, by rw [← rs5.length]; exact hlen, ρ5, ih5, acc ++ [w], xs ++ [v], g15.setD hD, hr5.setD (fun _ z => nomatch z), upd_same, ?_, hf⟩
              exact Paired.mapP (rs5.app (.cons rv .nil)) fun _ _ z => z.kp keepD fun _ _ q => q
            · exact hf.elim
          · subst hk
            rw [if_neg Bool.false_ne_true] at hf
            exact ⟨ρ4, ih4, acc, xs, g14, hr4, e4, rs4, hf⟩
theorem fe_lc {mt : Bool} {scope : Scope} {own : List (Str × Nat)} {is : List Nat} {ci : Ci} {t : Cy} {q : Cb} {c : Cd} (hc : X.calm = true) (hN : X.N.Nodup) (ok : BlkOk X.N X.env.scope scope own) (his : ∀ j ∈ is, j ∈ own.map (·.2)) (hs : ∀ x, foldedSetIterable iter X.env x = pure x)
    (hi : FI X T Wx tg iter ci)
    (hg : ∀ (s : Shared) (H : Hp) (C : Addr) (cl : List (Str × Addr)) (fp : List Addr), FY (X.blk s H scope (compEnvC scope cl C X.env) fp) T tg is t)
    (ht : ∀ (s : Shared) (H : Hp) (C : Addr) (cl : List (Str × Addr)) (fp : List Addr), FTs (X.blk s H scope (compEnvC scope cl C X.env) fp) T W0 ifs q)
    (he : ∀ (s : Shared) (H : Hp) (C : Addr) (cl : List (Str × Addr)) (fp : List Addr), FE (X.blk s H scope (compEnvC scope cl C X.env) fp) T W0 elt c) :
    FE X T Wx (.ListComp elt [⟨tg, iter, ifs, 0⟩] scope pos) (cLc mt (own.map (·.2)) ci t q c) := PE.imp (pe_lc (wi := iOf X.K T Wx ci) (g := yOf X.K T is t) (tt := bOf X.K T W0 q) (te := tOf X.K T W0 c) hc hN hi ok hg ht he hs) fun _ _ _ h => lc_at his h
/-- y = [..] where the list goes into y's place within the comprehension -/
theorem fs_setLc {mt : Bool} {i : Nat} {y : Str} {py spos : Pos} {scope : Scope} {own : List (Str × Nat)} {is : List Nat} {ci : Ci} {t : Cy} {q : Cb} {c : Cd} (hc : X.calm = true) (hN : X.N.Nodup) (hy : X.N[i]? = some y) (hyl : X.env.scope.names.lookup y = some .local)
    (hsw : swapsWith (.ListComp elt [⟨tg, iter, ifs, 0⟩] scope pos) (some (.Name y py)) spos.line X.env = pure true)
    (ok : BlkOk X.N X.env.scope scope own) (his : ∀ j ∈ is, j ∈ own.map (·.2)) (hs : ∀ x, foldedSetIterable iter X.env x = pure x)
    (hi : FI X T Wx tg iter ci)
    (hg : ∀ (s : Shared) (H : Hp) (C : Addr) (cl : List (Str × Addr)) (fp : List Addr), FY (X.blk s H scope (compEnvC scope cl C X.env) fp) T tg is t)
    (ht : ∀ (s : Shared) (H : Hp) (C : Addr) (cl : List (Str × Addr)) (fp : List Addr), FTs (X.blk s H scope (compEnvC scope cl C X.env) fp) T W0 ifs q)
    (he : ∀ (s : Shared) (H : Hp) (C : Addr) (cl : List (Str × Addr)) (fp : List Addr), FE (X.blk s H scope (compEnvC scope cl C X.env) fp) T W0 elt c) :
    FS X T Wx (.Assign [.Name y py] (.ListComp elt [⟨tg, iter, ifs, 0⟩] scope pos) spos) (sAsg (cLc mt (own.map (·.2)) ci t q c) (tN i)) := PS.imp (ps_setLc (wi := iOf X.K T Wx ci) (g := yOf X.K T is t) (tt := bOf X.K T W0 q) (te := tOf X.K T W0 c) hc hN hy hyl hsw hi ok hg ht he hs) fun D σ H q => by
  obtain ⟨F, ρ, ev, ih, hr, re, hp⟩ := q
  refine lc_at his ⟨F, ρ, ev, ih, hr, re, (Pss.lift hr re hp).mono fun ρ1 H1 ih1 w g1 hr1 hp1 v r => ?_⟩
  exact Pss.nx hp1 hr1 ((re.grow g1 hr).set i r)
end
end Fz
set_option Elab.async false
set_option linter.all false
set_option maxRecDepth 100000
set_option maxHeartbeats 2000000
/-! Fz: built-in calls by values. -/
namespace Fz
open PySem L2 PyProof.Rows

section
variable {X : Cx} {T : Tb} {Wx : WX} {x : Str} {p pos : Pos} {e : Expr} {es : List Expr} {ca : Ca} {id TY : String} {r : List V → Hp → VK → Prop} {op : List W → Hh → R W}
theorem fe_bi (hc : CallR X (.builtin id) r) (hf : FCl X.K T op r) (hg : Gl X x) (hm : X.mg x = none) (hv : bootBuiltins x = some (.builtin id)) (hn : x ≠ "__name__") (hdb : (x == ("__debug__" : Str)) = false)
    (he : starEach (e :: es) X.env = (false, eval e X.env) :: starEach es X.env) (hpl : (backTo pos (starEach es X.env)).any (·.1) = false) (ha : FA X T Wx (e :: es) ca) : FE X T Wx (.Call (.Name x p) (e :: es) [] pos) (cCl op ca) :=
  PE.imp (pe_callB hc hg hm hv ha hn hdb he hpl) fun _ _ _ q => clOf hf q
theorem fe_ty (hc : CallR X (.type TY) r) (hf : FCl X.K T op r) (hg : Gl X x) (hm : X.mg x = none) (hv : bootBuiltins x = some (.type TY)) (hn : x ≠ "__name__") (hdb : (x == ("__debug__" : Str)) = false)
    (he : starEach (e :: es) X.env = (false, eval e X.env) :: starEach es X.env) (hpl : (backTo pos (starEach es X.env)).any (·.1) = false) (ha : FA X T Wx (e :: es) ca) : FE X T Wx (.Call (.Name x p) (e :: es) [] pos) (cCl op ca) :=
  PE.imp (pe_callTy hc hg hm hv ha hn hdb he hpl) fun _ _ _ q => clOf hf q
end
section
variable {K : PySem.W.Frag} {T : Tb}
/-! ### len -/
def lenW (w : W) (h : Hh) : Option Nat := match w with
  | .d (.str l) => some l.length
  | .d (.tup l) => some l.length
  | .d (.lst l) => some l.length
  | .r n => match h[n]? with
    | some (.lst l) => some l.length
    | some (.dk l) => some l.length
    | _ => none
  | _ => none
def biLen (ws : List W) (h : Hh) : R W := match ws with
  | [w] => match lenW w h with
    | some n => .ok (.d (.int n)) h
    | none => .no
  | _ => .no
def rLenF (K : PySem.W.Frag) : List V → Hp → VK → Prop := fun xs H Q => (∃ x n, xs = [x] ∧ LenV K x H n ∧ Q (.int n) H) ∨ ∃ a kvs, xs = [.ref a] ∧ Rd H a (.dK kvs) ∧ Q (.int kvs.length) H
theorem cr_lenD {X : Cx} : CallR X (.builtin "len") fun xs H Q => ∃ a kvs, xs = [.ref a] ∧ Rd H a (.dK kvs) ∧ Q (.int kvs.length) H := by
  intro pins s σ H xs us Q I r h
  obtain ⟨a, kvs, rfl, hd, q⟩ := h
  obtain ⟨u, rfl, ru⟩ := vals1 r
  cases ru
  exact d_len I hd fun t s' I' => ⟨.int _, H, I', ⟨_, rfl⟩, q⟩
theorem cr_len {X : Cx} : CallR X (.builtin "len") (rLenF X.K) := CallR.or call_len cr_lenD
theorem fc_len : FCl K T biLen (rLenF K) := by
  intro Wx σ F ρ ih H xs vs Q hr rs hp
  unfold biLen at hp
  split at hp
  · rename_i w
    cases rs with | cons r t => cases t with | nil =>
      unfold lenW at hp
      split at hp
      · rename_i n e
        split at e
        · cases e; cases r with | d r => cases r with | str _ z => exact .inl ⟨_, _, rfl, ⟨by rw [toStr_len]; exact z, rfl⟩, by rw [toStr_len]; exact hp.ok hr _ (.d (.int _))⟩
        · cases e; cases r with | d r => cases r with | tup h z rl => exact .inl ⟨_, _, rfl, .inr ⟨_, h.sq, rfl⟩, by rw [← rl.length]; exact hp.ok hr _ (.d (.int _))⟩
        · cases e; cases r with | d r => cases r with | lst h z rl => exact .inl ⟨_, _, rfl, .inl ⟨_, h.sq, rfl⟩, by rw [← rl.length]; exact hp.ok hr _ (.d (.int _))⟩
        · cases r with | r hn =>
            split at e
            · rename_i l ho
              cases e
              obtain ⟨u, eH, ro⟩ := hr.at hn ho
              cases ro with | lst z rs => exact .inl ⟨_, _, rfl, .inl ⟨_, .inl (.inl eH), rfl⟩, by rw [← rs.length]; exact hp.ok hr _ (.d (.int _))⟩
            · rename_i l ho
              cases e
              obtain ⟨u, eH, ro⟩ := hr.at hn ho
              cases ro with | dk rs => exact .inr ⟨_, _, rfl, .inl eH, by rw [← Paired.length rs]; exact hp.ok hr _ (.d (.int _))⟩
            · cases e
        · cases e
      · exact hp.elim
  · exact hp.elim
/-! ### abs, int -/
def biAbs (ws : List W) (h : Hh) : R W := match ws with
  | [.d (.int i)] => .ok (.d (.int (if i < 0 then -i else i))) h
  | _ => .no
theorem fc_abs : FCl K T biAbs (fun xs H Q => ∃ i, xs = [.int i] ∧ Q (.int (if i < 0 then -i else i)) H) := by
  intro Wx σ F ρ ih H xs vs Q hr rs hp
  unfold biAbs at hp
  split at hp
  · cases rs with | cons r t => cases t; cases r with | d r => cases r; exact ⟨_, rfl, hp.ok hr _ (.d (.int _))⟩
  · exact hp.elim
def biInt (ws : List W) (h : Hh) : R W := match ws with
  | [.d (.int i)] => .ok (.d (.int i)) h
  | [.d (.bl k)] => .ok (.d (.int (if k then 1 else 0))) h
  | _ => .no
theorem fc_int : FCl K T biInt (fun xs H Q => (∃ i, xs = [.int i] ∧ Q (.int i) H) ∨ ∃ k, xs = [.bl k] ∧ Q (.int (if k then 1 else 0)) H) := by
  intro Wx σ F ρ ih H xs vs Q hr rs hp
  unfold biInt at hp
  split at hp
  · cases rs with | cons r t => cases t; cases r with | d r => cases r; exact .inl ⟨_, rfl, hp.ok hr _ (.d (.int _))⟩
  · cases rs with | cons r t => cases t; cases r with | d r => cases r; exact .inr ⟨_, rfl, hp.ok hr _ (.d (.int _))⟩
  · exact hp.elim
/-! ### list, tuple -/
def biList (m : Bool) (ws : List W) (h : Hh) : R W := match ws with
  | [w] => match seqW w h with
    | some l => fin m l h
    | none => .no
  | _ => .no
theorem fc_list {m : Bool} : FCl K T (biList m) (fun xs H Q => ∃ p ys, xs = [.ref p] ∧ (SqL K H p ys ∨ SqT K H p ys) ∧ ∀ l, H l = none → Q (.ref l) (upd H l (.lst ys))) := by
  intro Wx σ F ρ ih H xs vs Q hr rs hp
  unfold biList at hp
  split at hp
  · cases rs with | cons r t => cases t with | nil =>
      split at hp
      · rename_i l e
        obtain ⟨a, us, rfl, s, rs, _⟩ := seqW_at hr r e
        exact ⟨_, _, rfl, s.imp .inl .inl, fun p np => fin_ok hr rs np hp⟩
      · exact hp.elim
  · exact hp.elim
def biTuple (ws : List W) (h : Hh) : R W := match ws with
  | [.d (.tup l)] => .ok (.d (.tup l)) h
  | [w] => match lstW w h with
    | some l => mkT l h
    | none => .no
  | _ => .no
theorem fc_tuple : FCl K T biTuple (fun xs H Q => ∃ p ys, xs = [.ref p] ∧ ((SqL K H p ys ∧ ∀ l, H l = none → Q (.ref l) (upd H l (.tup ys))) ∨ (SqT K H p ys ∧ Q (.ref p) H))) := by
  intro Wx σ F ρ ih H xs vs Q hr rs hp
  unfold biTuple at hp
  split at hp
  · cases rs with | cons r t => cases t with | nil => cases r with | d r => cases r with | tup h z rl => exact ⟨_, _, rfl, .inr ⟨h.sq, hp.ok hr _ (.d (.tup h z rl))⟩⟩
  · cases rs with | cons r t => cases t with | nil =>
      split at hp
      · rename_i l e
        obtain ⟨a, us, rfl, s, rs, _⟩ := lstW_at hr r e
        refine ⟨_, _, rfl, .inl ⟨.inl s, fun p np => ?_⟩⟩
        unfold mkT at hp
        cases ea : allD l with
        | none => rw [ea] at hp; exact hp.elim
        | some ds =>
          rw [ea] at hp
          dsimp only at hp
          split at hp
          · rename_i z
            obtain ⟨q1, q2⟩ := new_tup hr np (allD_rp ea rs) z hp
            exact q1 _ q2
          · exact hp.elim
      · exact hp.elim
  · exact hp.elim
/-! ### all, any -/
def bools : List W → Option (List Bool)
  | [] => some []
  | .d (.bl b) :: r => (bools r).map (b :: ·)
  | _ :: _ => none
theorem bools_at {F ρ : List Addr} {H : Hp} : ∀ {ws : List W} {bs : List Bool} {vs : List V}, bools ws = some bs → RWs K F ρ H ws vs → vs = bs.map V.bl
  | [], bs, vs, e, r => by cases r; simp [bools] at e; subst e; rfl
  | .d (.bl b) :: t, bs, vs, e, r => by
    simp only [bools, Option.map_eq_some_iff] at e
    obtain ⟨l, e1, rfl⟩ := e
    cases r with | cons a c => cases a with | d a => cases a; rw [bools_at e1 c]; rfl
  | .d .non :: _, _, _, e, _ => by simp [bools] at e
  | .d (.int _) :: _, _, _, e, _ => by simp [bools] at e
  | .d (.str _) :: _, _, _, e, _ => by simp [bools] at e
  | .d (.tup _) :: _, _, _, e, _ => by simp [bools] at e
  | .d (.lst _) :: _, _, _, e, _ => by simp [bools] at e
  | .r _ :: _, _, _, e, _ => by simp [bools] at e
def biAll (ws : List W) (h : Hh) : R W := match ws with
  | [w] => match (lstW w h).bind bools with
    | some bs => .ok (.d (.bl (bs.all id))) h
    | none => .no
  | _ => .no
theorem fc_all : FCl K T biAll (rAll K) := by
  intro Wx σ F ρ ih H xs vs Q hr rs hp
  unfold biAll at hp
  split at hp
  · cases rs with | cons r t => cases t with | nil =>
      split at hp
      · rename_i bs e
        rw [Option.bind_eq_some_iff] at e
        obtain ⟨l, e1, e2⟩ := e
        obtain ⟨a, us, rfl, s, rs, _⟩ := lstW_at hr r e1
        have := bools_at e2 rs
        subst this
        exact ⟨_, bs, rfl, .inl s, hp.ok hr _ (.d (.bl _))⟩
      · exact hp.elim
  · exact hp.elim
def biAny (ws : List W) (h : Hh) : R W := match ws with
  | [w] => match (lstW w h).bind bools with
    | some bs => .ok (.d (.bl (bs.any id))) h
    | none => .no
  | _ => .no
theorem fc_any : FCl K T biAny (rAny K) := by
  intro Wx σ F ρ ih H xs vs Q hr rs hp
  unfold biAny at hp
  split at hp
  · cases rs with | cons r t => cases t with | nil =>
      split at hp
      · rename_i bs e
        rw [Option.bind_eq_some_iff] at e
        obtain ⟨l, e1, e2⟩ := e
        obtain ⟨a, us, rfl, s, rs, _⟩ := lstW_at hr r e1
        have := bools_at e2 rs
        subst this
        exact ⟨_, bs, rfl, .inl s, hp.ok hr _ (.d (.bl _))⟩
      · exact hp.elim
  · exact hp.elim
/-! ### max, min, sum of whole numbers -/
def intsW : List W → Option (List Int)
  | [] => some []
  | .d (.int b) :: r => (intsW r).map (b :: ·)
  | _ :: _ => none
theorem intsW_at {F ρ : List Addr} {H : Hp} : ∀ {ws : List W} {bs : List Int} {vs : List V}, intsW ws = some bs → RWs K F ρ H ws vs → vs = bs.map V.int
  | [], bs, vs, e, r => by cases r; simp [intsW] at e; subst e; rfl
  | .d (.int b) :: t, bs, vs, e, r => by
    simp only [intsW, Option.map_eq_some_iff] at e
    obtain ⟨l, e1, rfl⟩ := e
    cases r with | cons a c => cases a with | d a => cases a; rw [intsW_at e1 c]; rfl
  | .d .non :: _, _, _, e, _ => by simp [intsW] at e
  | .d (.bl _) :: _, _, _, e, _ => by simp [intsW] at e
  | .d (.str _) :: _, _, _, e, _ => by simp [intsW] at e
  | .d (.tup _) :: _, _, _, e, _ => by simp [intsW] at e
  | .d (.lst _) :: _, _, _, e, _ => by simp [intsW] at e
  | .r _ :: _, _, _, e, _ => by simp [intsW] at e
def maxI : List Int → Int
  | [] => 0
  | x :: r => r.foldl max x
def minI : List Int → Int
  | [] => 0
  | x :: r => r.foldl min x
theorem foldl_max_le (r : List Int) : ∀ x : Int, x ≤ r.foldl max x ∧ (∀ y ∈ r, y ≤ r.foldl max x) ∧ (r.foldl max x = x ∨ r.foldl max x ∈ r) := by
  induction r with
  | nil => intro x; simp
  | cons a r ih =>
    intro x
    obtain ⟨h1, h2, h3⟩ := ih (max x a)
    simp only [List.foldl_cons]
    refine ⟨by omega, fun y hy => ?_, ?_⟩
    · rcases List.mem_cons.mp hy with e | e
      · subst e; omega
      · exact h2 y e
    · rcases h3 with e | e
      · by_cases hx : a ≤ x
        · left; rw [e]; omega
        · right; rw [e]; simp; left; omega
      · right; exact List.mem_cons_of_mem _ e
theorem foldl_min_le (r : List Int) : ∀ x : Int, r.foldl min x ≤ x ∧ (∀ y ∈ r, r.foldl min x ≤ y) ∧ (r.foldl min x = x ∨ r.foldl min x ∈ r) := by
  induction r with
  | nil => intro x; simp
  | cons a r ih =>
    intro x
    obtain ⟨h1, h2, h3⟩ := ih (min x a)
    simp only [List.foldl_cons]
    refine ⟨by omega, fun y hy => ?_, ?_⟩
    · rcases List.mem_cons.mp hy with e | e
      · subst e; omega
      · exact h2 y e
    · rcases h3 with e | e
      · by_cases hx : x ≤ a
        · left; rw [e]; omega
        · right; rw [e]; simp; left; omega
      · right; exact List.mem_cons_of_mem _ e
theorem maxI_is {l : List Int} {m : Int} (hm : m ∈ l) (h : ∀ y ∈ l, y ≤ m) : m = maxI l := by
  cases l with
  | nil => cases hm
  | cons x r =>
    obtain ⟨h1, h2, h3⟩ := foldl_max_le r x
    have a : maxI (x :: r) ≤ m := by
      show r.foldl max x ≤ m
      rcases h3 with e | e
      · rw [e]; exact h x (by simp)
      · exact h _ (List.mem_cons_of_mem _ e)
    have b : m ≤ maxI (x :: r) := by
      show m ≤ r.foldl max x
      rcases List.mem_cons.mp hm with e | e
      · rw [e]; exact h1
      · exact h2 m e
    omega
theorem minI_is {l : List Int} {m : Int} (hm : m ∈ l) (h : ∀ y ∈ l, m ≤ y) : m = minI l := by
  cases l with
  | nil => cases hm
  | cons x r =>
    obtain ⟨h1, h2, h3⟩ := foldl_min_le r x
    have a : m ≤ minI (x :: r) := by
      show m ≤ r.foldl min x
      rcases h3 with e | e
      · rw [e]; exact h x (by simp)
      · exact h _ (List.mem_cons_of_mem _ e)
    have b : minI (x :: r) ≤ m := by
      show r.foldl min x ≤ m
      rcases List.mem_cons.mp hm with e | e
      · rw [e]; exact h1
      · exact h2 m e
    omega
def biMax (ws : List W) (h : Hh) : R W := match ws with
  | [w] => match (lstW w h).bind intsW with
    | some (x :: r) => .ok (.d (.int (maxI (x :: r)))) h
    | _ => .no
  | _ => .no
theorem fc_max : FCl K T biMax (rMax K) := by
  intro Wx σ F ρ ih H xs vs Q hr rs hp
  unfold biMax at hp
  split at hp
  · cases rs with | cons r t => cases t with | nil =>
      split at hp
      · rename_i x' r' e
        rw [Option.bind_eq_some_iff] at e
        obtain ⟨l, e1, e2⟩ := e
        obtain ⟨a, us, rfl, s, rs, _⟩ := lstW_at hr r e1
        have := intsW_at e2 rs
        subst this
        exact ⟨_, _, rfl, .inl s, by simp, fun m hm hle => by rw [maxI_is hm hle]; exact hp.ok hr _ (.d (.int _))⟩
      · exact hp.elim
  · exact hp.elim
def biMin (ws : List W) (h : Hh) : R W := match ws with
  | [w] => match (lstW w h).bind intsW with
    | some (x :: r) => .ok (.d (.int (minI (x :: r)))) h
    | _ => .no
  | _ => .no
theorem fc_min : FCl K T biMin (rMin K) := by
  intro Wx σ F ρ ih H xs vs Q hr rs hp
  unfold biMin at hp
  split at hp
  · cases rs with | cons r t => cases t with | nil =>
      split at hp
      · rename_i x' r' e
        rw [Option.bind_eq_some_iff] at e
        obtain ⟨l, e1, e2⟩ := e
        obtain ⟨a, us, rfl, s, rs, _⟩ := lstW_at hr r e1
        have := intsW_at e2 rs
        subst this
        exact ⟨_, _, rfl, .inl s, by simp, fun m hm hle => by rw [minI_is hm hle]; exact hp.ok hr _ (.d (.int _))⟩
      · exact hp.elim
  · exact hp.elim
def biSum (ws : List W) (h : Hh) : R W := match ws with
  | [w] => match (lstW w h).bind intsW with
    | some l => .ok (.d (.int l.sum)) h
    | _ => .no
  | _ => .no
theorem fc_sum : FCl K T biSum (rSum K) := by
  intro Wx σ F ρ ih H xs vs Q hr rs hp
  unfold biSum at hp
  split at hp
  · cases rs with | cons r t => cases t with | nil =>
      split at hp
      · rename_i l' e
        rw [Option.bind_eq_some_iff] at e
        obtain ⟨l, e1, e2⟩ := e
        obtain ⟨a, us, rfl, s, rs, _⟩ := lstW_at hr r e1
        have := intsW_at e2 rs
        subst this
        exact ⟨_, _, rfl, .inl s, hp.ok hr _ (.d (.int _))⟩
      · exact hp.elim
  · exact hp.elim
def biMax2 (ws : List W) (h : Hh) : R W := match ws with
  | [.d (.int i), .d (.int j)] => .ok (.d (.int (if j > i then j else i))) h
  | _ => .no
theorem fc_max2 : FCl K T biMax2 (fun xs H Q => ∃ i j, xs = [.int i, .int j] ∧ Q (.int (if j > i then j else i)) H) := by
  intro Wx σ F ρ ih H xs vs Q hr rs hp
  unfold biMax2 at hp
  split at hp
  · cases rs with | cons r t => cases t with | cons r2 t => cases t; cases r with | d r => cases r2 with | d r2 => cases r; cases r2; exact ⟨_, _, rfl, hp.ok hr _ (.d (.int _))⟩
  · exact hp.elim
end

/-! ### isinstance(x, T), T a built-in type -/
inductive Ty where
  | int | bool | str | tup | lst
def Ty.nm : Ty → String
  | .int => "int" | .bool => "bool" | .str => "str" | .tup => "tuple" | .lst => "list"
def isD (t : Ty) : D → Bool
  | .non => false
  | .bl _ => match t with | .int => true | .bool => true | _ => false
  | .int _ => match t with | .int => true | _ => false
  | .str _ => match t with | .str => true | _ => false
  | .tup _ => match t with | .tup => true | _ => false
  | .lst _ => match t with | .lst => true | _ => false
def cIsi (t : Ty) (c : Cd) : Cd := fun e h => (c e h).bind fun w h => match w with
  | .d x => .ok (.d (.bl (isD t x))) h
  | .r n => match h[n]? with
    | some (.lst _) => .ok (.d (.bl (match t with | .lst => true | _ => false))) h
    | _ => .no
  | .f _ => .no
def tyB (t : Ty) (a : String) : Bool := match t with
  | .int => a == "int" || a == "bool" | .bool => a == "bool" | .str => a == "str" | .tup => a == "tuple" | .lst => a == "list"
theorem kit_tab : ∀ (a : String) (t : Ty), a ∈ ["NoneType", "bool", "int", "str", "tuple", "list"] → kitB a t.nm = some (tyB t a) := by
  intro a t h
  simp only [List.mem_cons, List.not_mem_nil, or_false] at h
  rcases h with rfl | rfl | rfl | rfl | rfl | rfl <;> cases t <;> decide +kernel
theorem isi_at {K : PySem.W.Frag} {T : Tb} {Wx : WX} {σ : L2.St} {F ρ : List Addr} {H : Hp} {ih : Hh} {t : Ty} {w : W} {v : V} {Q : VK} (hr : HR K T F ρ ih H) (r : RW K F ρ H w v)
    (hp : Pst K T Wx σ F ρ H (match w with
      | .d x => .ok (.d (.bl (isD t x))) ih
      | .r n => match ih[n]? with
        | some (.lst _) => .ok (.d (.bl (match t with | .lst => true | _ => false))) ih
        | _ => .no
      | .f _ => .no) fun ρ' H' _ w => ∀ v, RW K F ρ' H' w v → Q v H') : rIsi K [v, .ty t.nm] H Q := by
  cases r with
  | d r =>
    have k : ∀ (a : String) (b : Bool), a ∈ ["NoneType", "bool", "int", "str", "tuple", "list"] → TyX K H v (.type a) → tyB t a = b → Q (.bl b) H → rIsi K [v, .ty t.nm] H Q := fun a b ha ty e q =>
      ⟨v, .ty t.nm, .type a, .type t.nm, b, rfl, .ty _, ty, kit_ty (by rw [kit_tab a t ha, e]), q⟩
    have q := hp.ok hr
    cases r with
    | non => exact k "NoneType" _ (by simp) (.base .non) (by cases t <;> rfl) (q _ (.d (.bl _)))
    | bl b => exact k "bool" _ (by simp) (.base (.bl b)) (by cases t <;> rfl) (q _ (.d (.bl _)))
    | int i => exact k "int" _ (by simp) (.base (.int i)) (by cases t <;> rfl) (q _ (.d (.bl _)))
    | str l z => exact k "str" _ (by simp) (.base (.str _)) (by cases t <;> rfl) (q _ (.d (.bl _)))
    | tup h z rl =>
      have ty : TyX K H (.ref _) (.type "tuple") := .base (.tup h.1)
      exact k "tuple" _ (by simp) ty (by cases t <;> rfl) (q _ (.d (.bl _)))
    | lst h z rl =>
      have ty : TyX K H (.ref _) (.type "list") := h.1.elim (fun e => .base (.lst e)) fun ⟨o, e⟩ => .base (.frz e)
      exact k "list" _ (by simp) ty (by cases t <;> rfl) (q _ (.d (.bl _)))
  | f hn => exact hp.elim
  | r hn =>
    dsimp only at hp
    split at hp
    · rename_i l ho
      obtain ⟨u, eH, ro⟩ := hr.at hn ho
      cases ro with
      | lst z rs => exact ⟨_, .ty t.nm, .type "list", .type t.nm, _, rfl, .ty _, .base (.lst eH), kit_ty (by rw [kit_tab "list" t (by simp)]), (by
          have := hp.ok hr _ (.d (.bl _))
          cases t <;> exact this)⟩
    · exact hp.elim
section
variable {X : Cx} {T : Tb} {Wx : WX} {x y : Str} {p p2 pos : Pos} {e : Expr} {c : Cd}
theorem fe_isi {t : Ty} (hg : Gl X x) (hm : X.mg x = none) (hv : bootBuiltins x = some (.builtin "isinstance")) (hn : x ≠ "__name__") (hdb : (x == ("__debug__" : Str)) = false) (hty : PE X (.Name y p2) (tC (.ty t.nm)))
    (he : starEach (e :: [.Name y p2]) X.env = (false, eval e X.env) :: starEach [.Name y p2] X.env) (he2 : starEach [.Name y p2] X.env = (false, eval (.Name y p2) X.env) :: starEach [] X.env)
    (hpl : (backTo pos (starEach [.Name y p2] X.env)).any (·.1) = false) (h : FE X T Wx e c) : FE X T Wx (.Call (.Name x p) [e, .Name y p2] [] pos) (cIsi t c) :=
  PE.imp (pe_callB call_isi hg hm hv (pa_cons h (pa_cons hty pa_nil he2) he) hn hdb he hpl) fun σ H Q q => by
    obtain ⟨F, ρ, ev, ih, hr, re, hp⟩ := q
    exact ⟨F, ρ, ev, ih, hr, re, hp.bind.mono fun ρ1 H1 ih1 w g1 hr1 hp1 v r => isi_at hr1 r hp1⟩
end
end Fz
set_option Elab.async false
set_option linter.all false
set_option maxRecDepth 100000
set_option maxHeartbeats 2000000
/-! Fz: methods of lists, stores by place, dicts. -/
namespace Fz
open PySem L2 PyProof.Rows

def FMt (K : PySem.W.Frag) (T : Tb) (op : W → List W → Hh → R W) (r : V → List V → Hp → VK → Prop) : Prop := ∀ (Wx : WX) (σ : L2.St) (F ρ : List Addr) (ih : Hh) (H : Hp) (x : W) (xs : List W) (v : V) (vs : List V) (Q : VK), HR K T F ρ ih H → RW K F ρ H x v → RWs K F ρ H xs vs →
  Pst K T Wx σ F ρ H (op x xs ih) (fun ρ' H' _ w => ∀ v, RW K F ρ' H' w v → Q v H') → r v vs H Q
/-- a method of a list -/
def cLm (op : W → List W → Hh → R W) (o : Cd) (a : Ca) : Cd := fun e h => (o e h).bind fun x h => match lstW x h with
  | some _ => (a e h).bind fun ws h => op x ws h
  | none => .no
section
variable {X : Cx} {T : Tb} {Wx : WX} {o e : Expr} {es : List Expr} {name : Str} {apos cpos : Pos} {id : String} {r : V → List V → Hp → VK → Prop} {op : W → List W → Hh → R W} {co : Cd} {ca : Ca}
theorem fe_lm (slot : Slot "list" name id) (hty : typeOf (.builtin id) = pure (.type "method_descriptor")) (hm : MtR X id r) (hf : FMt X.K T op r)
    (hbase : attributeBase o name X.env (eval o X.env) = eval o X.env)
    (hfew : ((backTo cpos (starEach (e :: es) X.env)).all (fun x => !x.1) && (backToKw cpos (keywordEach [] X.env)).all (fun x => x.1.isSome)
      && decide ((e :: es).length + ([] : List Keyword).length + (if ([] : List Keyword).isEmpty then 0 else 1) < 30)) = true)
    (hline : (apos.endLine == cpos.line) = true) (hs : starEach (e :: es) X.env = (false, eval e X.env) :: starEach es X.env) (hplain : (backTo cpos (starEach es X.env)).any (·.1) = false)
    (ho : FE X T Wx o co) (ha : FA X T Wx (e :: es) ca) : FE X T Wx (.Call (.Attribute o name apos) (e :: es) [] cpos) (cLm op co ca) :=
  PE.imp (pe_bm PySem.F.plainAttrs_list slot hty hm ho ha hbase hfew hline hs hplain) fun σ H Q q => by
    obtain ⟨F, ρ, ev, ih, hr, re, hp⟩ := q
    refine ⟨F, ρ, ev, ih, hr, re, hp.bind.mono fun ρ1 H1 ih1 w g1 hr1 hp1 v r1 => ?_⟩
    split at hp1
    · rename_i l e1
      obtain ⟨a, us, rfl, s, rs, _⟩ := lstW_at hr1 r1 e1
      refine ⟨.inl ⟨rfl, _, .inl s⟩, F, ρ1, ev, ih1, hr1, re.grow g1 hr, hp1.bind.mono fun ρ2 H2 ih2 ws g2 hr2 hp2 vs rs2 => ?_⟩
      exact hf Wx σ F ρ2 ih2 H2 w ws _ vs Q hr2 (r1.grow g2 hr1) rs2 hp2
    · exact hp1.elim
theorem fe_lm0 (slot : Slot "list" name id) (hty : typeOf (.builtin id) = pure (.type "method_descriptor")) (hm : MtR X id r) (hf : FMt X.K T op r)
    (hbase : attributeBase o name X.env (eval o X.env) = eval o X.env) (hline : (apos.endLine == cpos.line) = true) (ho : FE X T Wx o co) : FE X T Wx (.Call (.Attribute o name apos) [] [] cpos) (cLm op co aNil) :=
  PE.imp (pe_bm0 PySem.F.plainAttrs_list slot hty hm ho hbase hline) fun σ H Q q => by
    obtain ⟨F, ρ, ev, ih, hr, re, hp⟩ := q
    refine ⟨F, ρ, ev, ih, hr, re, hp.bind.mono fun ρ1 H1 ih1 w g1 hr1 hp1 v r1 => ?_⟩
    split at hp1
    · rename_i l e1
      obtain ⟨a, us, rfl, s, rs, _⟩ := lstW_at hr1 r1 e1
      exact ⟨.inl ⟨rfl, _, .inl s⟩, hf Wx σ F ρ1 ih1 H1 w [] _ [] Q hr1 r1 .nil hp1⟩
    · exact hp1.elim
end
section
variable {K : PySem.W.Frag} {T : Tb} {F ρ : List Addr} {H : Hp} {ih : Hh}
/-- the list n gets other items -/
theorem lset {Wx : WX} {σ : L2.St} {n : Nat} {a : Addr} {l' : List W} {vs' : List V} {w : W} {k : List Addr → Hp → Hh → W → Prop} (hr : HR K T F ρ ih H) (hn : ρ[n]? = some a) (nf : NF H a) (z : l'.length ≤ sizeLine)
    (rs : ∀ H', Keep (F ++ ρ) H (F ++ ρ) H' → RWs K F ρ H' l' vs') (hp : Pst K T Wx σ F ρ H (.ok w (ih.set n (.lst l'))) k) : k ρ (upd H a (.lst vs')) (ih.set n (.lst l')) w := by
  have m := List.mem_of_getElem? hn
  have g : Grow F ρ H ρ (upd H a (.lst vs')) := grow_set m nf
  exact hp _ _ g (hr.set hn (.lst z (rs _ (g.keepM hr))))
def mAppend (x : W) (ws : List W) (h : Hh) : R W := match x, ws with
  | .r n, [w] => match h[n]? with
    | some (.lst l) => if l.length < 16777216 then .ok (.d .non) (h.set n (.lst (l ++ [w]))) else .no
    | _ => .no
  | _, _ => .no
theorem RWs.kp {F' ρ' : List Addr} {H' : Hp} (k : Keep (F ++ ρ) H (F' ++ ρ') H') (g : ∀ (n : Nat) (a : Addr), ρ[n]? = some a → ρ'[n]? = some a) {w : List W} {v : List V} (r : RWs K F ρ H w v) : RWs K F' ρ' H' w v := Paired.mapP r fun _ _ x => x.kp k g
theorem fm_append : FMt K T mAppend rAppend := by
  intro Wx σ F ρ ih H x xs v vs Q hr r rs hp
  unfold mAppend at hp
  split at hp
  · rename_i n w
    split at hp
    · rename_i l ho
      split at hp
      · rename_i z
        cases r with | r hn =>
        cases rs with | cons rw t => cases t with | nil =>
          obtain ⟨u, eH, ro⟩ := hr.at hn ho
          cases ro with
          | lst z' rl =>
            refine ⟨_, _, _, rfl, rfl, eH, by rw [← rl.length]; exact z, ?_⟩
            exact lset hr hn (nf_of eH trivial) (by simp; exact z) (fun H' k => RWs.kp k (fun _ _ q => q) (rl.app (.cons rw .nil))) hp _ (.d .non)
      · exact hp.elim
    · exact hp.elim
  · exact hp.elim
def mPop (x : W) (ws : List W) (h : Hh) : R W := match x, ws with
  | .r n, [] => match h[n]? with
    | some (.lst l) => match l[l.length - 1]? with
      | some w => .ok w (h.set n (.lst l.dropLast))
      | none => .no
    | _ => .no
  | _, _ => .no
theorem RWs.dropLast {l : List W} {vs : List V} (h : RWs K F ρ H l vs) : RWs K F ρ H l.dropLast vs.dropLast := by
  induction h with
  | nil => exact .nil
  | cons r t ih =>
    cases t with
    | nil => exact .nil
    | cons r2 t2 => exact .cons r ih
theorem fm_pop : FMt K T mPop rPop := by
  intro Wx σ F ρ ih H x xs v vs Q hr r rs hp
  unfold mPop at hp
  split at hp
  · rename_i n
    split at hp
    · rename_i l ho
      split at hp
      · rename_i w hw
        cases r with | r hn =>
        cases rs with | nil =>
          obtain ⟨u, eH, ro⟩ := hr.at hn ho
          cases ro with
          | lst z' rl =>
            obtain ⟨y, e1, r1⟩ := rl.get hw
            refine ⟨_, _, y, rfl, rfl, eH, by rw [← rl.length]; exact e1, ?_⟩
            have m := List.mem_of_getElem? hn
            have key := lset hr hn (nf_of eH trivial) (by simp; omega) (fun H' k => RWs.kp k (fun _ _ q => q) rl.dropLast) hp
            exact key y (r1.grow (grow_set m (nf_of eH trivial)) hr)
      · exact hp.elim
    · exact hp.elim
  · exact hp.elim
end
/-- xs.extend(ys): ys any list -/
def rExtR : V → List V → Hp → VK → Prop := fun x vs H Q => ∃ l b xs zs, x = .ref l ∧ vs = [.ref b] ∧ H l = some (.lst xs) ∧ Rd H b (.lst zs) ∧ xs.length + zs.length ≤ sizeLine ∧ Q .non (upd H l (.lst (xs ++ zs)))
theorem mt_extR {X : Cx} : MtR X "list.extend" rExtR := by
  intro pins s σ H x vs v us Q I rx rv h
  obtain ⟨l, b, xs, zs, rfl, rfl, hH, hB, hz, q⟩ := h
  cases rx
  obtain ⟨u, rfl, ru⟩ := rv.one
  cases ru
  obtain ⟨_, its, n, r, hl, e⟩ := I.lstM hH
  obtain ⟨_, jts, m, r2, hl2, e2⟩ := Inv.lstR I hB
  have hsz : its.toArray.size + jts.toArray.size ≤ sizeLine := by simp; omega
  have hlong : ¬ (!its.toArray.isEmpty && Builtin.List.listTooLong (its.toArray.size + jts.toArray.size)) = true := by
    rw [notLongL hsz, Bool.and_false]; simp
  refine call_meets F.slot_list_extend ⟨_, e, rfl⟩ F.entry_list_extend (F.args_list_extend_2 _ _)
    (AutoSeq1.list_extend_list_list_0 l its.toArray n b jts.toArray m hlong (by simp; omega) (by omega)) ⟨e, e2, ?_⟩
  exact ⟨.non, _, I.lset (its' := its ++ jts) hH e (by simp) (r.append r2) (by simp; omega), rfl, q⟩
section
variable {K : PySem.W.Frag} {T : Tb}
def mExtend (x : W) (ws : List W) (h : Hh) : R W := match x, ws with
  | .r n, [w] => match h[n]?, lstW w h with
    | some (.lst l), some k => if l.length + k.length ≤ 16777216 then .ok (.d .non) (h.set n (.lst (l ++ k))) else .no
    | _, _ => .no
  | _, _ => .no
theorem fm_extend : FMt K T mExtend rExtR := by
  intro Wx σ F ρ ih H x xs v vs Q hr r rs hp
  unfold mExtend at hp
  split at hp
  · rename_i n w
    split at hp
    · rename_i l k ho hk
      split at hp
      · rename_i z
        cases r with | r hn =>
        cases rs with | cons rw t => cases t with | nil =>
          obtain ⟨u, eH, ro⟩ := hr.at hn ho
          obtain ⟨a, us, rfl, s, rk, _⟩ := lstW_at hr rw hk
          cases ro with
          | lst z' rl =>
            refine ⟨_, _, _, _, rfl, rfl, eH, s, by rw [← rl.length, ← rk.length]; exact z, ?_⟩
            exact lset hr hn (nf_of eH trivial) (by simp; exact z) (fun H' k => RWs.kp k (fun _ _ q => q) (rl.app rk)) hp _ (.d .non)
      · exact hp.elim
    · exact hp.elim
  · exact hp.elim
/-- xs.index(y) -/
def findD (y : D) : List D → Option Nat
  | [] => none
  | x :: r => if D.eqv x y then some 0 else (findD y r).map (· + 1)
theorem findD_at {y : D} : ∀ {l : List D} {j : Nat}, findD y l = some j → (∃ z, l[j]? = some z ∧ D.eqv z y = true) ∧ ∀ m z, m < j → l[m]? = some z → D.eqv z y = false
  | [], j, h => by simp [findD] at h
  | x :: r, j, h => by
    unfold findD at h
    split at h
    · rename_i c
      cases h
      exact ⟨⟨x, rfl, c⟩, fun m z hm => absurd hm (Nat.not_lt_zero _)⟩
    · rename_i c
      rw [Option.map_eq_some_iff] at h
      obtain ⟨i, hi, rfl⟩ := h
      obtain ⟨⟨z, h1, h2⟩, h3⟩ := findD_at hi
      refine ⟨⟨z, by simpa using h1, h2⟩, fun m u hm hu => ?_⟩
      cases m with
      | zero => simp at hu; subst hu; simpa using c
      | succ m => exact h3 m u (by omega) (by simpa using hu)
def mIndex (x : W) (ws : List W) (h : Hh) : R W := match ws with
  | [w] => match valD x h, valD w h with
    | some (.lst l), some y => if sh 64 (.lst l) && sh 64 y then (match findD y l with
      | some j => .ok (.d (.int j)) h
      | none => .no) else .no
    | _, _ => .no
  | _ => .no
theorem fm_index : FMt K T mIndex (rIndexD K) := by
  intro Wx σ F ρ ih H x xs v vs Q hr r rs hp
  unfold mIndex at hp
  split at hp
  · rename_i w
    split at hp
    · rename_i l y e1 e2
      split at hp
      · rename_i c
        rw [Bool.and_eq_true] at c
        split at hp
        · rename_i j hj
          cases rs with | cons rw t => cases t with | nil =>
            obtain ⟨⟨z, h1, h2⟩, h3⟩ := findD_at hj
            have dx := valD_dp hr r e1
            have hx : ∃ a, v = V.ref a := by
              simp only [D.py] at dx
              cases dx
              exact ⟨_, rfl⟩
            obtain ⟨a, rfl⟩ := hx
            refine ⟨a, _, y.py, pyL l, j, z.py, rfl, rfl, by simpa [D.py] using dx, valD_dp hr rw e2, by simpa [D.py] using sh_shaped c.1, sh_shaped c.2, by rw [pyL_map, List.getElem?_map, h1]; rfl, by rw [eqv_py]; exact h2, fun m z' hm hz => ?_, hp.ok hr _ (.d (.int _))⟩
            rw [pyL_map, List.getElem?_map, Option.map_eq_some_iff] at hz
            obtain ⟨u, hu, rfl⟩ := hz
            rw [eqv_py]
            exact h3 m u hm hu
        · exact hp.elim
      · exact hp.elim
    · exact hp.elim
  · exact hp.elim
end
/-! ### xs[i] = e -/
def setAt (x y w : W) (h : Hh) : Option Hh := match x, y with
  | .r n, .d (.int k) => match h[n]? with
    | some (.lst l) => (ixN l.length k).map fun j => h.set n (.lst (l.set j w))
    | _ => none
  | _, _ => none
def sSet (c o i : Cd) : Cs := fun e h => lift (c e h) e fun w h => lift (o e h) e fun x h => lift (i e h) e fun y h => match setAt x y w h with
  | some h' => .nx e h'
  | none => .no
section
variable {X : Cx} {T : Tb} {Wx : WX} {o i e : Expr} {pos pos' tpos : Pos} {c co ci : Cd}
theorem RWs.set {K : PySem.W.Frag} {F ρ : List Addr} {H : Hp} {l : List W} {vs : List V} (h : RWs K F ρ H l vs) {w : W} {v : V} (r : RW K F ρ H w v) : ∀ j : Nat, RWs K F ρ H (l.set j w) (vs.set j v) := by
  induction h with
  | nil => intro j; simp; exact .nil
  | cons r1 t ih => intro j; cases j with
    | zero => exact .cons r t
    | succ j => exact .cons r1 (ih j)
theorem setAt_at {K : PySem.W.Frag} {F ρ : List Addr} {H : Hp} {ih ih' : Hh} {x y w : W} {v1 v2 v3 : V} (hr : HR K T F ρ ih H) (r1 : RW K F ρ H x v1) (r2 : RW K F ρ H y v2) (r3 : RW K F ρ H w v3) (e : setAt x y w ih = some ih') :
    ∃ p xs k j, v1 = .ref p ∧ v2 = .int k ∧ H p = some (.lst xs) ∧ ixN xs.length k = some j ∧ p ∈ ρ ∧ HR K T F ρ ih' (upd H p (.lst (xs.set j v3))) := by
  unfold setAt at e
  split at e
  · rename_i n k
    split at e
    · rename_i l ho
      rw [Option.map_eq_some_iff] at e
      obtain ⟨j, hj, rfl⟩ := e
      cases r1 with | r hn =>
      cases r2 with | d r2 => cases r2 with | int =>
        obtain ⟨u, eH, ro⟩ := hr.at hn ho
        cases ro with
        | lst z rl =>
          have m := List.mem_of_getElem? hn
          refine ⟨_, _, k, j, rfl, rfl, eH, by rw [← rl.length]; exact hj, m, hr.set hn (.lst (by simpa using z) ?_)⟩
          exact RWs.kp (keep_set m) (fun _ _ q => q) (rl.set r3 j)
    · cases e
  · cases e
theorem fs_setL (ha : ∀ v, assign (.Subscript o i tpos) X.env v = (do
      let ov ← holding [v] (eval o X.env)
      let iv ← holding [v, ov] (eval i X.env)
      standAt tpos
      holding [v, ov, iv] (setItem ov iv v)
      release [v, ov, iv] []))
    (hs : swapsWithSole [.Subscript o i tpos] e pos.line X.env = pure false) (hw : swappedStores [.Subscript o i tpos] e X.env = pure none) (h1 : (assignEach [.Subscript o i tpos] X.env).map (·.2) = [assign (.Subscript o i tpos) X.env])
    (he : FE X T Wx e c) (ho : FE X T Wx o co) (hi : FE X T Wx i ci) : FS X T Wx (.Assign [.Subscript o i tpos] e pos) (sSet c co ci) := PS.imp (ps_asg he (pg_sub ho hi set_list ha) hs hw h1) fun D σ H q => by
  obtain ⟨F, ρ, ev, ih, hr, re, hp⟩ := q
  refine ⟨F, ρ, ev, ih, hr, re, (Pss.lift hr re hp).mono fun ρ1 H1 ih1 w g1 hr1 hp1 v3 r3 => ?_⟩
  have re1 := re.grow g1 hr
  refine ⟨F, ρ1, ev, ih1, hr1, re1, (Pss.lift hr1 re1 hp1).mono fun ρ2 H2 ih2 x g2 hr2 hp2 v1 r1 => ?_⟩
  have re2 := re1.grow g2 hr1
  refine ⟨F, ρ2, ev, ih2, hr2, re2, (Pss.lift hr2 re2 hp2).mono fun ρ3 H3 ih3 y g3 hr3 hp3 v2 r2 => ?_⟩
  have re3 := re2.grow g3 hr2
  split at hp3
  · rename_i h' q
    obtain ⟨p, xs, k, j, rfl, rfl, eH, hj, m, hr4⟩ := setAt_at hr3 (r1.grow g3 hr2) r2 ((r3.grow g2 hr1).grow g3 hr2) q
    exact ⟨_, _, _, _, rfl, rfl, eH, hj, hp3 _ _ _ (grow_set m (nf_of eH trivial)) hr4 (re3.grow (grow_set m (nf_of eH trivial)) hr3)⟩
  · exact hp3.elim
/-! ### o.f op= e -/
def putAs (c : Nat) (n f : Nat) (w : W) (h : Hh) : Option Hh := match h[n]? with
  | some (.ins c' fs) => if c' = c ∧ fs.length < 800 then some (h.set n (.ins c (putf f w fs))) else none
  | _ => none
def sFldAug' (f : Nat) (op : W → W → Hh → R W) (o c : Cd) : Cs := fun e h => lift (o e h) e fun x h => match x with
  | .r n => match h[n]? with
    | some (.ins k fs) => match lkf f fs with
      | some v => lift ((c e h).bind fun y h => op v y h) e fun z h => match putAs k n f z h with
        | some h' => .nx e h'
        | none => .no
      | none => .no
    | _ => .no
  | _ => .no
theorem putAs_at {K : PySem.W.Frag} {F ρ : List Addr} {H : Hp} {ih ih' : Hh} {c n fl : Nat} {a : Addr} {w : W} {u : V} (inj : ∀ i, T.fld i = T.fld fl → i = fl) (hr : HR K T F ρ ih H) (hn : ρ[n]? = some a) (rw : RW K F ρ H w u) (e : putAs c n fl w ih = some ih') :
    ∃ dx fs, H a = some (.ins (T.cad c) dx fs) ∧ fs.length < 1000 ∧ HR K T F ρ ih' (upd H a (.ins (T.cad c) dx (putF (T.fld fl) u fs))) := by
  unfold putAs at e
  split at e
  · rename_i c' fs ho
    split at e
    · rename_i hc
      obtain ⟨rfl, hc⟩ := hc
      cases e
      obtain ⟨o, eH, ro⟩ := hr.at hn ho
      cases ro with
      | ins rs z =>
        have m := List.mem_of_getElem? hn
        refine ⟨_, _, eH, by rw [← Paired.length rs]; omega, hr.set hn (.ins (putf_at inj (rw.kp (keep_set m) fun _ _ q => q) (Paired.mapP rs fun _ _ y => ⟨y.1, y.2.kp (keep_set m) fun _ _ q => q⟩)) ?_)⟩
        exact Nat.lt_of_le_of_lt (putf_len _ _ _) (by omega)
    · cases e
  · cases e
theorem fs_fldAug {op : Operator} {rd : V → V → Hp → VK → Prop} {opf : W → W → Hh → R W} {fl : Nat} {f : Str} (hf : T.fld fl = f) (inj : ∀ i, T.fld i = T.fld fl → i = fl) (cl : ∀ c, Cls X.K (T.cad c)) (na : ∀ c, NoAttr X.K (T.cad c) f) (hop : InOp X op rd) (hfo : FOp X.K T opf rd)
    (ho : FE X T Wx o co) (he : FE X T Wx e c) : FS X T Wx (.AugAssign (.Attribute o f tpos) op e pos) (sFldAug' fl opf co c) := PS.imp (ps_fldaug ho he hop) fun D σ H q => by
  subst hf
  obtain ⟨F, ρ, ev, ih, hr, re, hp⟩ := q
  refine ⟨F, ρ, ev, ih, hr, re, (Pss.lift hr re hp).mono fun ρ1 H1 ih1 x g1 hr1 hp1 u r1 => ?_⟩
  have re1 := re.grow g1 hr
  split at hp1
  · rename_i n
    split at hp1
    · rename_i k fs hk
      split at hp1
      · rename_i v hv
        cases r1 with | r hn =>
          obtain ⟨uo, eH, ro⟩ := hr1.at hn hk
          cases ro with
          | ins rs z =>
            obtain ⟨v', e1, rv⟩ := lkf_at inj rs hv
            refine ⟨_, _, _, _, v', rfl, eH, cl _, na _, e1, F, ρ1, ev, ih1, hr1, re1, ((Pss.lift hr1 re1 hp1).bind).mono fun ρ2 H2 ih2 y g2 hr2 hp2 y' ry => ?_⟩
            have re2 := re1.grow g2 hr1
            refine hfo Wx σ F ρ2 ih2 H2 v y v' y' _ hr2 (rv.grow g2 hr1) ry (hp2.mono fun ρ3 H3 ih3 w g3 hr3 hp3 w' rw' => ?_)
            have re3 := re2.grow g3 hr2
            split at hp3
            · rename_i h' q
              have hn3 := g3.get (g2.get hn)
              obtain ⟨dx, fs', eH3, hl, hr4⟩ := putAs_at inj hr3 hn3 rw' q
              exact ⟨_, _, eH3, hl, Pss.nx (Pss.from (grow_set (List.mem_of_getElem? hn3) (nf_of eH3 trivial)) hr4 hp3) hr4 (re3.grow (grow_set (List.mem_of_getElem? hn3) (nf_of eH3 trivial)) hr3)⟩
            · exact hp3.elim
      · exact hp1.elim
    · exact hp1.elim
  · exact hp1.elim
end
/-! ### dicts -/
mutual
def D.beq0 : D → D → Bool
  | .non, .non => true
  | .bl a, .bl b => a == b
  | .int a, .int b => a == b
  | .str a, .str b => a == b
  | .tup a, .tup b => beqL0 a b
  | .lst a, .lst b => beqL0 a b
  | _, _ => false
def beqL0 : List D → List D → Bool
  | [], [] => true
  | x :: xs, y :: ys => D.beq0 x y && beqL0 xs ys
  | _, _ => false
end
mutual
theorem D.beq0_iff : ∀ a b : D, D.beq0 a b = true ↔ a = b
  | .non, b => by cases b <;> simp [D.beq0]
  | .bl x, b => by cases b <;> simp [D.beq0]
  | .int x, b => by cases b <;> simp [D.beq0]
  | .str x, b => by cases b <;> simp [D.beq0]
  | .tup x, b => by
    cases b with
    | tup y => simp only [D.beq0, D.tup.injEq]; exact beqL0_iff x y
    | _ => simp [D.beq0]
  | .lst x, b => by
    cases b with
    | lst y => simp only [D.beq0, D.lst.injEq]; exact beqL0_iff x y
    | _ => simp [D.beq0]
theorem beqL0_iff : ∀ a b : List D, beqL0 a b = true ↔ a = b
  | [], [] => by simp [beqL0]
  | [], y :: ys => by simp [beqL0]
  | x :: xs, [] => by simp [beqL0]
  | x :: xs, y :: ys => by simp only [beqL0, Bool.and_eq_true, List.cons.injEq]; rw [D.beq0_iff x y, beqL0_iff xs ys]
end
/-- a number of a datum, to tell data apart quickly -/
def fpL : List D → Nat
  | .int i :: r => i.toNat + 1 + 64 * fpL r
  | _ => 0
def fp : D → Nat
  | .tup l => fpL l
  | _ => 0
def D.beq (a b : D) : Bool := Nat.beq (fp a) (fp b) && D.beq0 a b
theorem D.beq_iff (a b : D) : D.beq a b = true ↔ a = b := by
  unfold D.beq
  rw [Bool.and_eq_true, D.beq0_iff]
  exact ⟨fun h => h.2, fun h => ⟨by rw [h]; exact Nat.beq_refl _, h⟩⟩
instance : DecidableEq D := fun a b => if h : D.beq a b = true then isTrue ((D.beq_iff a b).mp h) else isFalse fun e => h ((D.beq_iff a b).mpr e)
def lkd (k : D) : List (D × W) → Option W
  | [] => none
  | (a, w) :: r => if D.beq a k then some w else lkd k r
def putd (k : D) (w : W) (l : List (D × W)) : List (D × W) := if l.any (fun p => D.beq p.1 k) then l.map (fun p => if D.beq p.1 k then (p.1, w) else p) else l ++ [(k, w)]
def dropd (k : D) (l : List (D × W)) : List (D × W) := l.filter fun p => !(D.beq p.1 k)
/-- a datum that may be a key: a number, a text -/
def D.isK : D → Bool
  | .int _ => true
  | .str _ => true
  | _ => false
def D.isKT : D → Bool
  | .tup l => l.all D.isK
  | _ => false
def kOf : D → Key
  | .int i => .inl i
  | .str l => .inr (toStr l)
  | _ => .inl 0
theorem Rk.eq {d : D} {k : Key} (h : Rk d k) : k = kOf d ∧ d.isK = true := by cases h <;> exact ⟨rfl, rfl⟩
theorem Rk.of : ∀ {d : D}, d.isK = true → Rk d (kOf d)
  | .int i, _ => .int i
  | .str l, _ => .str l
  | .non, h => by simp [D.isK] at h
  | .bl _, h => by simp [D.isK] at h
  | .tup _, h => by simp [D.isK] at h
  | .lst _, h => by simp [D.isK] at h
theorem kOf_inj {a b : D} (ha : a.isK = true) (hb : b.isK = true) : kOf a = kOf b ↔ a = b := by
  cases a <;> cases b <;> simp [D.isK, kOf] at *
  exact ⟨fun h => toStr_inj h, fun h => by rw [h]⟩
theorem Rks.eq : ∀ {ds : List D} {ks : List Key}, Rks ds ks → ks = ds.map kOf ∧ ds.all D.isK = true
  | _, _, .nil => ⟨rfl, rfl⟩
  | _, _, .cons a b => by
    obtain ⟨e1, e2⟩ := a.eq
    obtain ⟨e3, e4⟩ := Rks.eq b
    exact ⟨by rw [List.map_cons, e1, e3], by rw [List.all_cons, e2, e4]; rfl⟩
theorem Rks.of : ∀ {ds : List D}, ds.all D.isK = true → Rks ds (ds.map kOf)
  | [], _ => .nil
  | d :: ds, h => by
    rw [List.all_cons, Bool.and_eq_true] at h
    exact .cons (Rk.of h.1) (Rks.of h.2)
theorem kOfs_inj : ∀ {a b : List D}, a.all D.isK = true → b.all D.isK = true → (a.map kOf = b.map kOf ↔ a = b)
  | [], [], _, _ => by simp
  | [], _ :: _, _, _ => by simp
  | _ :: _, [], _, _ => by simp
  | x :: xs, y :: ys, ha, hb => by
    rw [List.all_cons, Bool.and_eq_true] at ha hb
    simp only [List.map_cons, List.cons.injEq]
    rw [kOf_inj ha.1 hb.1, kOfs_inj ha.2 hb.2]
theorem Paired.app' {α β : Type} {A : α → β → Prop} : ∀ {l l2 : List α} {m m2 : List β}, Paired A l m → Paired A l2 m2 → Paired A (l ++ l2) (m ++ m2)
  | _, _, _, _, .nil, r => r
  | _, _, _, _, .cons x y, r => .cons x (Paired.app' y r)
/-- kinds of keys -/
def ktOf : D → List Key
  | .tup l => l.map kOf
  | _ => []
theorem RkT.eq {d : D} {ks : List Key} (h : RkT d ks) : ks = ktOf d ∧ d.isKT = true := by
  obtain ⟨ds, rfl, r⟩ := h
  exact r.eq
theorem RkT.of : ∀ {d : D}, d.isKT = true → RkT d (ktOf d)
  | .tup l, h => ⟨l, rfl, Rks.of h⟩
  | .non, h => by simp [D.isKT] at h
  | .bl _, h => by simp [D.isKT] at h
  | .int _, h => by simp [D.isKT] at h
  | .str _, h => by simp [D.isKT] at h
  | .lst _, h => by simp [D.isKT] at h
theorem ktOf_inj : ∀ {a b : D}, a.isKT = true → b.isKT = true → (ktOf a = ktOf b ↔ a = b) := by
  intro a b ha hb
  cases a <;> cases b <;> simp [D.isKT] at ha hb
  simp only [ktOf, D.tup.injEq]
  exact kOfs_inj (by simpa using ha) (by simpa using hb)
section
variable {K : PySem.W.Frag} {T : Tb} {F ρ : List Addr} {H : Hp} {κ : Type} [DecidableEq κ] {kf : D → κ} {ok : D → Bool}
/-- entries: by their keys and values -/
abbrev RD (K : PySem.W.Frag) (F ρ : List Addr) (H : Hp) (kf : D → κ) (ok : D → Bool) : List (D × W) → List (κ × V) → Prop := Paired fun p q => (q.1 = kf p.1 ∧ ok p.1 = true) ∧ RW K F ρ H p.2 q.2
variable (inj : ∀ {a b : D}, ok a = true → ok b = true → (kf a = kf b ↔ a = b))
include inj
theorem key_eq {a k : D} {q : κ} (ha : q = kf a ∧ ok a = true) (hk : ok k = true) : decide (q = kf k) = D.beq a k := by
  obtain ⟨rfl, ha⟩ := ha
  by_cases e : a = k
  · subst e; rw [decide_eq_true rfl]; exact ((D.beq_iff a a).mpr rfl).symm
  · have n1 : ¬ kf a = kf k := fun z => e ((inj ha hk).mp z)
    rw [decide_eq_false n1]
    cases q : D.beq a k with
    | false => rfl
    | true => exact absurd ((D.beq_iff a k).mp q) e
theorem RD.look {l : List (D × W)} {kvs : List (κ × V)} {k : D} (hk : ok k = true) (r : RD K F ρ H kf ok l kvs) : (∀ w, lkd k l = some w → ∃ v, valV kvs (kf k) = some v ∧ RW K F ρ H w v) ∧ (lkd k l = none → valV kvs (kf k) = none) := by
  induction r with
  | nil => exact ⟨fun w e => (by cases e), fun _ => rfl⟩
  | @cons p q l kvs x t ih =>
    have e := key_eq inj x.1 hk
    unfold lkd
    by_cases c : q.1 = kf k
    · rw [decide_eq_true c] at e
      rw [← e, if_pos rfl, valV_pos c]
      exact ⟨fun w z => (by cases z; exact ⟨_, rfl, x.2⟩), fun z => (by cases z)⟩
    · rw [decide_eq_false c] at e
      rw [← e, if_neg Bool.false_ne_true, valV_neg c]
      exact ih
theorem RD.any {l : List (D × W)} {kvs : List (κ × V)} {k : D} (hk : ok k = true) (r : RD K F ρ H kf ok l kvs) : (kvs.any fun kv => decide (kv.1 = kf k)) = l.any fun p => D.beq p.1 k := by
  induction r with
  | nil => rfl
  | cons x t ih => rw [List.any_cons, List.any_cons, ih, key_eq inj x.1 hk]
theorem RD.repl {l : List (D × W)} {kvs : List (κ × V)} {k : D} {w : W} {v : V} (hk : ok k = true) (r : RD K F ρ H kf ok l kvs) (rv : RW K F ρ H w v) : RD K F ρ H kf ok (l.map fun p => if D.beq p.1 k = true then (p.1, w) else p) (kvs.map fun kv => if kv.1 = kf k then (kv.1, v) else kv) := by
  induction r with
  | nil => exact .nil
  | @cons p q l kvs x t ih =>
    rw [List.map_cons, List.map_cons]
    have e := key_eq inj x.1 hk
    refine .cons ?_ ih
    cases c : D.beq p.1 k with
    | true =>
      rw [c] at e
      have e' := of_decide_eq_true e
      simp only [e', if_true]
      rw [← e']
      exact ⟨x.1, rv⟩
    | false =>
      rw [c] at e
      have e' := of_decide_eq_false e
      simp only [e', if_false, Bool.false_eq_true]
      exact x
theorem RD.put {l : List (D × W)} {kvs : List (κ × V)} {k : D} {w : W} {v : V} (hk : ok k = true) (r : RD K F ρ H kf ok l kvs) (rv : RW K F ρ H w v) : RD K F ρ H kf ok (putd k w l) (putK kvs (kf k) v) := by
  unfold putd putK
  rw [RD.any inj hk r]
  split
  · exact RD.repl inj hk r rv
  · exact Paired.app' r (.cons ⟨⟨rfl, hk⟩, rv⟩ .nil)
theorem RD.drop {l : List (D × W)} {kvs : List (κ × V)} {k : D} (hk : ok k = true) (r : RD K F ρ H kf ok l kvs) : RD K F ρ H kf ok (dropd k l) (dropK kvs (kf k)) := by
  unfold dropd dropK
  induction r with
  | nil => exact .nil
  | @cons p q l kvs x t ih =>
    have e := key_eq inj x.1 hk
    rw [List.filter_cons, List.filter_cons]
    cases c : D.beq p.1 k with
    | true =>
      rw [c] at e
      have e' := of_decide_eq_true e
      simp only [e', ne_eq, not_true_eq_false, decide_false, Bool.not_true, Bool.false_eq_true, if_false]
      exact ih
    | false =>
      rw [c] at e
      have e' := of_decide_eq_false e
      simp only [e', ne_eq, not_false_eq_true, decide_true, Bool.not_false, if_true]
      exact .cons x ih
end
end Fz
set_option Elab.async false
set_option linter.all false
set_option maxRecDepth 100000
set_option maxHeartbeats 2000000
/-! Fz: dicts in expressions and statements. -/
namespace Fz
open PySem L2 PyProof.Rows

section
variable {K : PySem.W.Frag} {T : Tb} {F ρ : List Addr} {H : Hp} {ih : Hh}
theorem dk_rd {l : List (D × W)} {kvs : List (Key × V)} (r : Paired (fun p q => Rk p.1 q.1 ∧ RW K F ρ H p.2 q.2) l kvs) : RD K F ρ H kOf D.isK l kvs := Paired.mapP r fun _ _ x => ⟨x.1.eq, x.2⟩
theorem rd_dk {l : List (D × W)} {kvs : List (Key × V)} (r : RD K F ρ H kOf D.isK l kvs) : Paired (fun p q => Rk p.1 q.1 ∧ RW K F ρ H p.2 q.2) l kvs := Paired.mapP r fun p q x => ⟨by rw [x.1.1]; exact Rk.of x.1.2, x.2⟩
theorem dt_rd {l : List (D × W)} {kvs : List (List Key × V)} (r : Paired (fun p q => RkT p.1 q.1 ∧ RW K F ρ H p.2 q.2) l kvs) : RD K F ρ H ktOf D.isKT l kvs := Paired.mapP r fun _ _ x => ⟨x.1.eq, x.2⟩
theorem rd_dt {l : List (D × W)} {kvs : List (List Key × V)} (r : RD K F ρ H ktOf D.isKT l kvs) : Paired (fun p q => RkT p.1 q.1 ∧ RW K F ρ H p.2 q.2) l kvs := Paired.mapP r fun p q x => ⟨by rw [x.1.1]; exact RkT.of x.1.2, x.2⟩
theorem RD.kp {κ : Type} [DecidableEq κ] {kf : D → κ} {ok : D → Bool} {F' ρ' : List Addr} {H' : Hp} (k : Keep (F ++ ρ) H (F' ++ ρ') H') (g : ∀ (n : Nat) (a : Addr), ρ[n]? = some a → ρ'[n]? = some a) {l : List (D × W)} {kvs : List (κ × V)}
    (r : RD K F ρ H kf ok l kvs) : RD K F' ρ' H' kf ok l kvs := Paired.mapP r fun _ _ x => ⟨x.1, x.2.kp k g⟩
/-- a key's value -/
theorem key_v {k : D} {v : V} (h : k.isK = true) (r : RW K F ρ H (.d k) v) : v = kV (kOf k) := by
  cases r with | d r =>
  cases r with
  | int i => rfl
  | str l z => rfl
  | _ => simp [D.isK] at h
theorem keys_v : ∀ {ds : List D} {vs : List V}, ds.all D.isK = true → RpL K (F ++ ρ) H ds vs → vs = (ds.map kOf).map kV
  | [], _, _, .nil => rfl
  | d :: ds, _, h, .cons a b => by
    rw [List.all_cons, Bool.and_eq_true] at h
    rw [key_v h.1 (.d a), keys_v h.2 b]
    rfl
theorem keyT_v {k : D} {v : V} (h : k.isKT = true) (r : RW K F ρ H (.d k) v) : ∃ b, v = .ref b ∧ H b = some (.tup ((ktOf k).map kV)) := by
  cases r with | d r =>
  cases r with
  | tup t z rl =>
    refine ⟨_, rfl, ?_⟩
    rename_i a vs ds
    have := keys_v (K := K) (F := F) (ρ := ρ) (H := H) h rl
    show H a = some (.tup ((ds.map kOf).map kV))
    rw [← this]
    exact t.1
  | _ => simp [D.isKT] at h
/-- what a dict has: none where it is no such dict -/
def dLook (x y : W) (h : Hh) : Option (Option W) := match x, y with
  | .r n, .d k => match h[n]? with
    | some (.dk l) => if k.isK then some (lkd k l) else none
    | some (.dt l) => if k.isKT then some (lkd k l) else none
    | some (.fk l) => if k.isK then some (lkd k l) else none
    | some (.ft l) => if k.isKT then some (lkd k l) else none
    | _ => none
  | _, _ => none
theorem dLook_at {x y : W} {v1 v2 : V} {o : Option W} (hr : HR K T F ρ ih H) (r1 : RW K F ρ H x v1) (r2 : RW K F ρ H y v2) (e : dLook x y ih = some o) :
    ∃ a ov, v1 = .ref a ∧ DGet H a v2 ov ∧ IsD H a ∧ (∀ w, o = some w → ∃ v, ov = some v ∧ RW K F ρ H w v) ∧ (o = none → ov = none) := by
  unfold dLook at e
  split at e
  · rename_i n k
    cases r1 with | r hn =>
    split at e
    · rename_i l ho
      split at e
      · rename_i hk
        cases e
        obtain ⟨u, eH, ro⟩ := hr.at hn ho
        cases ro with
        | dk rs =>
          obtain ⟨p1, p2⟩ := RD.look kOf_inj hk (dk_rd rs)
          refine ⟨_, _, rfl, ?_, .inl ⟨_, .inl eH⟩, p1, p2⟩
          rw [key_v hk r2]
          exact DGet.k eH
      · cases e
    · rename_i l ho
      split at e
      · rename_i hk
        cases e
        obtain ⟨u, eH, ro⟩ := hr.at hn ho
        cases ro with
        | dt rs =>
          obtain ⟨p1, p2⟩ := RD.look ktOf_inj hk (dt_rd rs)
          obtain ⟨b, rfl, eb⟩ := keyT_v hk r2
          exact ⟨_, _, rfl, DGet.t eH eb, .inr ⟨_, .inl eH⟩, p1, p2⟩
      · cases e
    · rename_i l ho
      split at e
      · rename_i hk
        cases e
        obtain ⟨u, eH, ro⟩ := hr.at hn ho
        cases ro with
        | fk rs =>
          obtain ⟨p1, p2⟩ := RD.look kOf_inj hk (dk_rd rs)
          refine ⟨_, _, rfl, .inl ⟨_, _, .inr ⟨_, eH⟩, key_v hk r2, rfl⟩, .inl ⟨_, .inr ⟨_, eH⟩⟩, p1, p2⟩
      · cases e
    · rename_i l ho
      split at e
      · rename_i hk
        cases e
        obtain ⟨u, eH, ro⟩ := hr.at hn ho
        cases ro with
        | ft rs =>
          obtain ⟨p1, p2⟩ := RD.look ktOf_inj hk (dt_rd rs)
          obtain ⟨b, rfl, eb⟩ := keyT_v hk r2
          exact ⟨_, _, rfl, .inr ⟨_, _, _, .inr ⟨_, eH⟩, rfl, eb, rfl⟩, .inr ⟨_, .inr ⟨_, eH⟩⟩, p1, p2⟩
      · cases e
    · cases e
  · cases e
def opDx (x y : W) (h : Hh) : R W := match dLook x y h with
  | some (some w) => .ok w h
  | _ => .no
def opDin (neg : Bool) (y x : W) (h : Hh) : R W := match dLook x y h with
  | some o => .ok (.d (.bl (if neg then !o.isSome else o.isSome))) h
  | none => .no
def dPut (x y w : W) (h : Hh) : Option Hh := match x, y with
  | .r n, .d k => match h[n]? with
    | some (.dk l) => if k.isK ∧ l.length < 16777216 then some (h.set n (.dk (putd k w l))) else none
    | some (.dt l) => if k.isKT ∧ l.length < 16777216 then some (h.set n (.dt (putd k w l))) else none
    | _ => none
  | _, _ => none
theorem dPut_at {x y w : W} {v1 v2 v3 : V} {ih' : Hh} (hr : HR K T F ρ ih H) (r1 : RW K F ρ H x v1) (r2 : RW K F ρ H y v2) (r3 : RW K F ρ H w v3) (e : dPut x y w ih = some ih') :
    ∃ a H', v1 = .ref a ∧ DPut H a v2 v3 H' ∧ Grow F ρ H ρ H' ∧ HR K T F ρ ih' H' := by
  unfold dPut at e
  split at e
  · rename_i n k
    cases r1 with | r hn =>
    have m := List.mem_of_getElem? hn
    split at e
    · rename_i l ho
      split at e
      · rename_i hk
        cases e
        obtain ⟨u, eH, ro⟩ := hr.at hn ho
        cases ro with
        | dk rs =>
          have rp := RD.put kOf_inj hk.1 (dk_rd rs) r3
          refine ⟨_, _, rfl, by rw [key_v hk.1 r2]; exact DPut.k eH (by rw [← Paired.length rs]; exact hk.2), grow_set m (nf_of eH trivial), hr.set hn (.dk (rd_dk (RD.kp (keep_set m) (fun _ _ q => q) rp)))⟩
      · cases e
    · rename_i l ho
      split at e
      · rename_i hk
        cases e
        obtain ⟨u, eH, ro⟩ := hr.at hn ho
        cases ro with
        | dt rs =>
          have rp := RD.put ktOf_inj hk.1 (dt_rd rs) r3
          obtain ⟨b, rfl, eb⟩ := keyT_v hk.1 r2
          refine ⟨_, _, rfl, DPut.t eH eb (by rw [← Paired.length rs]; exact hk.2), grow_set m (nf_of eH trivial), hr.set hn (.dt (rd_dt (RD.kp (keep_set m) (fun _ _ q => q) rp)))⟩
      · cases e
    · cases e
  · cases e
end
section
variable {X : Cx} {T : Tb} {Wx : WX} {o i e f : Expr} {pos pos' tpos apos cpos : Pos} {c co ci cx : Cd}
theorem fe_dx (hu : X.A.units + 1 < cLine) (hs : NoSl i) (ho : FE X T Wx o co) (hi : FE X T Wx i ci) : FE X T Wx (.Subscript o i pos) (c2 opDx co ci) := PE.imp (pe_dget hu ho hi hs) fun σ H Q q => by
  obtain ⟨F, ρ, ev, ih, hr, re, hp⟩ := q
  refine ⟨F, ρ, ev, ih, hr, re, hp.bind.mono fun ρ1 H1 ih1 x g1 hr1 hp1 v1 r1 => ?_⟩
  refine ⟨F, ρ1, ev, ih1, hr1, re.grow g1 hr, hp1.bind.mono fun ρ2 H2 ih2 y g2 hr2 hp2 v2 r2 => ?_⟩
  unfold opDx at hp2
  split at hp2
  · rename_i w hd
    obtain ⟨a, ov, rfl, dg, _, p1, _⟩ := dLook_at hr2 (r1.grow g2 hr1) r2 hd
    obtain ⟨v, rfl, rv⟩ := p1 w rfl
    exact ⟨a, v, rfl, dg, hp2.ok hr2 _ rv⟩
  · exact hp2.elim
theorem din_at {neg : Bool} {σ H Q} (q : tOf X.K T Wx (c2 (opDin neg) ci co) σ H Q) : (tOf X.K T Wx ci σ H fun y H1 => tOf X.K T Wx co σ H1 fun x H2 => ∃ a ov, x = .ref a ∧ DGet H2 a y ov ∧ Q (.bl (if neg then !ov.isSome else ov.isSome)) H2) := by
  obtain ⟨F, ρ, ev, ih, hr, re, hp⟩ := q
  refine ⟨F, ρ, ev, ih, hr, re, hp.bind.mono fun ρ1 H1 ih1 y g1 hr1 hp1 v1 r1 => ?_⟩
  refine ⟨F, ρ1, ev, ih1, hr1, re.grow g1 hr, hp1.bind.mono fun ρ2 H2 ih2 x g2 hr2 hp2 v2 r2 => ?_⟩
  unfold opDin at hp2
  split at hp2
  · rename_i ow hd
    obtain ⟨a, ov, rfl, dg, _, p1, p2⟩ := dLook_at hr2 r2 (r1.grow g2 hr1) hd
    refine ⟨a, ov, rfl, dg, ?_⟩
    have e : ov.isSome = ow.isSome := by
      cases ow with
      | none => rw [p2 rfl]; rfl
      | some w => obtain ⟨v, rfl, _⟩ := p1 w rfl; rfl
    rw [e]
    exact hp2.ok hr2 _ (.d (.bl _))
  · exact hp2.elim
theorem fe_din (hu : X.A.units + 1 < cLine) (hm : behindInMarks .In o = false) (hi : FE X T Wx i ci) (ho : FE X T Wx o co) : FE X T Wx (.Compare i [.In] [o] pos) (c2 (opDin false) ci co) := PE.imp (pe_cmp (pc_din hu hi ho) hm) fun _ _ _ q => din_at q
theorem fe_dnin (hu : X.A.units + 1 < cLine) (hm : behindInMarks .NotIn o = false) (hi : FE X T Wx i ci) (ho : FE X T Wx o co) : FE X T Wx (.Compare i [.NotIn] [o] pos) (c2 (opDin true) ci co) := PE.imp (pe_cmp (pc_dnotin hu hi ho) hm) fun _ _ _ q => din_at q
theorem ft_din (hu : X.A.units + 1 < cLine) (hm : behindInMarks .In o = false) (hi : FE X T Wx i ci) (ho : FE X T Wx o co) : FT' X T Wx (.Compare i [.In] [o] pos) (fun e h => asB (c2 (opDin false) ci co e h)) := PT.imp (pt_cmp (pc_din hu hi ho) hm) fun _ _ _ q => tst (fun _ _ _ q => din_at q) q
theorem ft_dnin (hu : X.A.units + 1 < cLine) (hm : behindInMarks .NotIn o = false) (hi : FE X T Wx i ci) (ho : FE X T Wx o co) : FT' X T Wx (.Compare i [.NotIn] [o] pos) (fun e h => asB (c2 (opDin true) ci co e h)) := PT.imp (pt_cmp (pc_dnotin hu hi ho) hm) fun _ _ _ q => tst (fun _ _ _ q => din_at q) q
/-- d[k] = e -/
def sDSet (c o i : Cd) : Cs := fun e h => lift (c e h) e fun w h => lift (o e h) e fun x h => lift (i e h) e fun y h => match dPut x y w h with
  | some h' => .nx e h'
  | none => .no
theorem fs_setD (hu : X.A.units + 1 < cLine) (hs : swapsWith e (some (.Subscript o i pos')) pos.line X.env = pure false) (he : FE X T Wx e c) (ho : FE X T Wx o co) (hi : FE X T Wx i ci) : FS X T Wx (.Assign [.Subscript o i pos'] e pos) (sDSet c co ci) := PS.imp (ps_dput hu ho hi he hs) fun D σ H q => by
  obtain ⟨F, ρ, ev, ih, hr, re, hp⟩ := q
  refine ⟨F, ρ, ev, ih, hr, re, (Pss.lift hr re hp).mono fun ρ1 H1 ih1 w g1 hr1 hp1 v3 r3 => ?_⟩
  have re1 := re.grow g1 hr
  refine ⟨F, ρ1, ev, ih1, hr1, re1, (Pss.lift hr1 re1 hp1).mono fun ρ2 H2 ih2 x g2 hr2 hp2 v1 r1 => ?_⟩
  have re2 := re1.grow g2 hr1
  refine ⟨F, ρ2, ev, ih2, hr2, re2, (Pss.lift hr2 re2 hp2).mono fun ρ3 H3 ih3 y g3 hr3 hp3 v2 r2 => ?_⟩
  have re3 := re2.grow g3 hr2
  split at hp3
  · rename_i h' q
    obtain ⟨a, H', rfl, dp, g4, hr4⟩ := dPut_at hr3 (r1.grow g3 hr2) r2 ((r3.grow g2 hr1).grow g3 hr2) q
    exact ⟨_, _, rfl, dp, hp3 _ _ _ g4 hr4 (re3.grow g4 hr3)⟩
  · exact hp3.elim
/-- d[k] op= e -/
def sDAug' (op : W → W → Hh → R W) (o i c : Cd) : Cs := fun e h => lift (o e h) e fun x h => lift (i e h) e fun y h => match dLook x y h with
  | some (some v) => lift ((c e h).bind fun y2 h => op v y2 h) e fun z h => match dPut x y z h with
    | some h' => .nx e h'
    | none => .no
  | _ => .no
theorem fs_augD {op : Operator} {rd : V → V → Hp → VK → Prop} {opf : W → W → Hh → R W} (hu : X.A.units + 1 < cLine) (ha : ∀ ov iv new, augStore i ov iv new = (do holding [new, ov, iv] (setItem ov iv new); release [new, ov, iv] []; pure .next)) (hop : InOp X op rd) (hfo : FOp X.K T opf rd)
    (ho : FE X T Wx o co) (hi : FE X T Wx i ci) (he : FE X T Wx e c) : FS X T Wx (.AugAssign (.Subscript o i tpos) op e pos) (sDAug' opf co ci c) := PS.imp (ps_daug hu ho hi he hop ha) fun D σ H q => by
  obtain ⟨F, ρ, ev, ih, hr, re, hp⟩ := q
  refine ⟨F, ρ, ev, ih, hr, re, (Pss.lift hr re hp).mono fun ρ1 H1 ih1 x g1 hr1 hp1 v1 r1 => ?_⟩
  have re1 := re.grow g1 hr
  refine ⟨F, ρ1, ev, ih1, hr1, re1, (Pss.lift hr1 re1 hp1).mono fun ρ2 H2 ih2 y g2 hr2 hp2 v2 r2 => ?_⟩
  have re2 := re1.grow g2 hr1
  split at hp2
  · rename_i v hd
    obtain ⟨a, ov, rfl, dg, _, p1, _⟩ := dLook_at hr2 (r1.grow g2 hr1) r2 hd
    obtain ⟨v', rfl, rv⟩ := p1 v rfl
    refine ⟨a, v', rfl, dg, F, ρ2, ev, ih2, hr2, re2, ((Pss.lift hr2 re2 hp2).bind).mono fun ρ3 H3 ih3 y2 g3 hr3 hp3 u2 ru2 => ?_⟩
    have re3 := re2.grow g3 hr2
    refine hfo Wx σ F ρ3 ih3 H3 v y2 v' u2 _ hr3 (rv.grow g3 hr2) ru2 (hp3.mono fun ρ4 H4 ih4 z g4 hr4 hp4 z' rz => ?_)
    have re4 := re3.grow g4 hr3
    split at hp4
    · rename_i h' q
      obtain ⟨a', H', ea, dp, g5, hr5⟩ := dPut_at hr4 (((r1.grow g2 hr1).grow g3 hr2).grow g4 hr3) ((r2.grow g3 hr2).grow g4 hr3) rz q
      cases ea
      exact ⟨_, dp, hp4 _ _ _ g5 hr5 (re4.grow g5 hr4)⟩
    · exact hp4.elim
  · exact hp2.elim
/-- del d[k] -/
def sDDel' (o i : Cd) : Cs := fun e h => lift (o e h) e fun x h => lift (i e h) e fun y h => match x, y with
  | .r n, .d k => match h[n]? with
    | some (.dk l) => if k.isK ∧ (lkd k l).isSome then .nx e (h.set n (.dk (dropd k l))) else .no
    | _ => .no
  | _, _ => .no
theorem fs_delD (ho : FE X T Wx o co) (hi : FE X T Wx i ci) : FS X T Wx (.Delete [.Subscript o i tpos] pos) (sDDel' co ci) := PS.imp (ps_ddel ho hi) fun D σ H q => by
  obtain ⟨F, ρ, ev, ih, hr, re, hp⟩ := q
  refine ⟨F, ρ, ev, ih, hr, re, (Pss.lift hr re hp).mono fun ρ1 H1 ih1 x g1 hr1 hp1 v1 r1 => ?_⟩
  have re1 := re.grow g1 hr
  refine ⟨F, ρ1, ev, ih1, hr1, re1, (Pss.lift hr1 re1 hp1).mono fun ρ2 H2 ih2 y g2 hr2 hp2 v2 r2 => ?_⟩
  have re2 := re1.grow g2 hr1
  split at hp2
  · rename_i n k
    split at hp2
    · rename_i l ho
      split at hp2
      · rename_i hk
        cases r1 with | r hn =>
          have hn2 := g2.get hn
          have m := List.mem_of_getElem? hn2
          obtain ⟨u, eH, ro⟩ := hr2.at hn2 ho
          cases ro with
          | dk rs =>
            obtain ⟨p1, p2⟩ := RD.look kOf_inj hk.1 (dk_rd rs)
            obtain ⟨w, hw⟩ := Option.isSome_iff_exists.mp hk.2
            obtain ⟨v, e1, _⟩ := p1 w hw
            have hr3 := hr2.set (T := T) (o := .dk (dropd k l)) hn2 (.dk (rd_dk (RD.kp (keep_set m) (fun _ _ q => q) (RD.drop kOf_inj hk.1 (dk_rd rs)))))
            exact ⟨_, _, kOf k, rfl, eH, key_v hk.1 r2, by rw [e1]; rfl, hp2 _ _ _ (grow_set m (nf_of eH trivial)) hr3 (re2.grow (grow_set m (nf_of eH trivial)) hr2)⟩
      · exact hp2.elim
    · exact hp2.elim
  · exact hp2.elim
/-- d.get(k), d.get(k, x) -/
def isDc (x : W) (h : Hh) : Bool := match x with
  | .r n => match h[n]? with
    | some (.dk _) => true
    | some (.dt _) => true
    | _ => false
  | _ => false
theorem isDc_at {K : PySem.W.Frag} {F ρ : List Addr} {H : Hp} {ih : Hh} {x : W} {v : V} (hr : HR K T F ρ ih H) (r : RW K F ρ H x v) (e : isDc x ih = true) : ∃ a, v = .ref a ∧ IsD H a := by
  unfold isDc at e
  split at e
  · cases r with | r hn =>
    split at e
    · rename_i ho
      obtain ⟨u, eH, ro⟩ := hr.at hn ho
      cases ro with | dk rs => exact ⟨_, rfl, .inl ⟨_, .inl eH⟩⟩
    · rename_i ho
      obtain ⟨u, eH, ro⟩ := hr.at hn ho
      cases ro with | dt rs => exact ⟨_, rfl, .inr ⟨_, .inl eH⟩⟩
    · cases e
  · cases e
def cGet1 (o k : Cd) : Cd := fun e h => (o e h).bind fun x h => if isDc x h then (k e h).bind fun y h => match dLook x y h with
  | some r => .ok (r.getD (.d .non)) h
  | none => .no else .no
def cGet2 (o k z : Cd) : Cd := fun e h => (o e h).bind fun x h => if isDc x h then (k e h).bind fun y h => (z e h).bind fun w h => match dLook x y h with
  | some r => .ok (r.getD w) h
  | none => .no else .no
theorem getD_at {K : PySem.W.Frag} {F ρ : List Addr} {H : Hp} {o : Option W} {ov : Option V} {w : W} {v : V} (p1 : ∀ w, o = some w → ∃ v, ov = some v ∧ RW K F ρ H w v) (p2 : o = none → ov = none) (r : RW K F ρ H w v) : RW K F ρ H (o.getD w) (ov.getD v) := by
  cases o with
  | none => rw [p2 rfl]; exact r
  | some w => obtain ⟨v, rfl, r⟩ := p1 w rfl; exact r
theorem fe_get1 (hu : X.A.units + 1 < cLine) (m : M1 X o "get" apos e cpos) (ho : FE X T Wx o co) (he : FE X T Wx e c) : FE X T Wx (.Call (.Attribute o "get" apos) [e] [] cpos) (cGet1 co c) := PE.imp (pe_dget1 hu ho he m) fun σ H Q q => by
  obtain ⟨F, ρ, ev, ih, hr, re, hp⟩ := q
  refine ⟨F, ρ, ev, ih, hr, re, hp.bind.mono fun ρ1 H1 ih1 x g1 hr1 hp1 v1 r1 => ?_⟩
  split at hp1
  · rename_i hd
    obtain ⟨a, rfl, da⟩ := isDc_at hr1 r1 hd
    refine ⟨a, rfl, da, F, ρ1, ev, ih1, hr1, re.grow g1 hr, hp1.bind.mono fun ρ2 H2 ih2 y g2 hr2 hp2 v2 r2 => ?_⟩
    split at hp2
    · rename_i r hl
      obtain ⟨a', ov, ea, dg, _, p1, p2⟩ := dLook_at hr2 (r1.grow g2 hr1) r2 hl
      cases ea
      exact ⟨ov, dg, hp2.ok hr2 _ (getD_at p1 p2 (.d .non))⟩
    · exact hp2.elim
  · exact hp1.elim
theorem fe_get2 (hu : X.A.units + 1 < cLine) (m : M2 X o "get" apos e f cpos) (ho : FE X T Wx o co) (he : FE X T Wx e c) (hf : FE X T Wx f cx) : FE X T Wx (.Call (.Attribute o "get" apos) [e, f] [] cpos) (cGet2 co c cx) := PE.imp (pe_dget2 hu ho he hf m) fun σ H Q q => by
  obtain ⟨F, ρ, ev, ih, hr, re, hp⟩ := q
  refine ⟨F, ρ, ev, ih, hr, re, hp.bind.mono fun ρ1 H1 ih1 x g1 hr1 hp1 v1 r1 => ?_⟩
  split at hp1
  · rename_i hd
    obtain ⟨a, rfl, da⟩ := isDc_at hr1 r1 hd
    have re1 := re.grow g1 hr
    refine ⟨a, rfl, da, F, ρ1, ev, ih1, hr1, re1, hp1.bind.mono fun ρ2 H2 ih2 y g2 hr2 hp2 v2 r2 => ?_⟩
    refine ⟨F, ρ2, ev, ih2, hr2, re1.grow g2 hr1, hp2.bind.mono fun ρ3 H3 ih3 w g3 hr3 hp3 v3 r3 => ?_⟩
    split at hp3
    · rename_i r hl
      obtain ⟨a', ov, ea, dg, _, p1, p2⟩ := dLook_at hr3 ((r1.grow g2 hr1).grow g3 hr2) (r2.grow g3 hr2) hl
      cases ea
      exact ⟨ov, dg, hp3.ok hr3 _ (getD_at p1 p2 r3)⟩
    · exact hp3.elim
  · exact hp1.elim
end
end Fz
set_option Elab.async false
set_option linter.all false
set_option maxRecDepth 100000
set_option maxHeartbeats 2000000
/-! Fz: sorted, repr, tuples turned round, list(range). -/
namespace Fz
open PySem PySem.W L2 PyProof.Rows

/-! ### sorted(list), sorted(tuple) of data -/
section
variable {prog : Program} {w : World} {A : Around} {E : Value → Shared → Prop} {s : Shared}
theorem collect_tup {l : Addr} {vs : List Value} {Q : List Value → Shared → Prop} (hl : IsTup s.heap l vs.toArray)
    (h : Q vs { s with heap := (s.heap.push (seqObj "list" #[] 0)).update s.heap.objs.size (Obj.mapSeq (· ++ vs.toArray)) }) (hsz : vs.length ≤ sizeLine) :
    wpAny (model prog w) A (collect (.ref l)) Q E s := by
  obtain ⟨o, ho, hc, n, hd⟩ := id hl
  unfold collect
  refine wpAny_bind (wpAny_runValue (codeAny_builtin entry_proto_collect' ?_))
  show wpAny _ _ (do again (.builtin "list.__iadd__" ⟨[← newList [], .ref l], []⟩)) _ _ s
  refine wpAny_bind (wpAny_newList (wpAny_pure ⟨Code.quiet_builtin _ (by decide +kernel), codeAny_builtin entry_list_iadd' ?_⟩))
  show wpAny _ _ (Builtin.List.listExtendWith (.ref s.heap.objs.size) (.ref l) (.ref s.heap.objs.size)) _ _ { s with heap := s.heap.push (seqObj "list" #[] 0) }
  unfold Builtin.List.listExtendWith
  have ho' : (s.heap.push (seqObj "list" #[] 0)).get? l = some o := Heap.get?_push_of_some _ ho
  refine wpAny_bind (wpAny_typeOf (T := "tuple") ⟨o, ho', hc⟩ ?_)
  have ht : (Value.type "tuple" == Value.type "tuple") = true := by rfl
  rw [if_pos (by rw [ht]; simp)]
  refine wpAny_bind (listItems_at ho' hd ?_)
  refine wpAny_bind (listItems_at (xs := #[]) (n := 0) (Heap.get?_push_size _ rfl) rfl ?_)
  rw [if_neg (by simp)]
  refine wpAny_bind (listUpdate_at (xs := #[]) (n := 0) (Heap.get?_push_size _ rfl) rfl ?_ (Nat.zero_le _) (by show (#[] ++ vs.toArray).size ≤ sizeLine + 1; simp only [Array.size_append, List.size_toArray]; simp; omega))
  refine wpAny_pure ?_
  show wpAny (model prog w) A (do
      let o ← load s.heap.objs.size
      match o.data with
      | .seq xs _ => pure xs.toList
      | _ => unsupported "internal:collect") Q E { s with heap := (s.heap.push (seqObj "list" #[] 0)).update s.heap.objs.size (Obj.mapSeq (· ++ vs.toArray)) }
  refine wpAny_bind (wpAny_load (get?_update_seq (Heap.get?_push_size _ rfl) _) ?_)
  show wpAny _ _ (pure ((#[] : Array Value) ++ vs.toArray).toList) Q E _
  rw [show ((#[] : Array Value) ++ vs.toArray).toList = vs by simp]
  exact wpAny_pure h
theorem sorted_tup_vals {κ : PyProof.Rows.KeyKind} {l : Addr} {vs : List Value} {Q : Value → Shared → Prop} (hl : IsTup s.heap l vs.toArray) (S : SortsAt prog w A.in1.in1 { s with heap := sortingHeap (copyHeap s.heap vs) (s.heap.objs.size + 1) vs } κ vs) (hL : vs.length ≤ sizeLine)
    (h : Q (.ref (s.heap.objs.size + 1)) { s with heap := sortedAll s.heap vs (sortVals κ false vs vs).toArray }) : wpAny (model prog w) A (call (.builtin "sorted") [.ref l]) Q E s := by
  refine call_function_entry_kw kind_sorted plain_sorted entry_sorted (args_sorted1 _) ?_
  unfold Builtin.«sorted»
  refine wpAny_bind (m := checkCount "sorted" 1 1 _) (wpAny_pure ?_)
  refine wpAny_bind (collect_tup hl ?_ hL)
  refine wpAny_bind (wpAny_newList ?_ hL)
  have hsz : ((s.heap.push (seqObj "list" #[] 0)).update s.heap.objs.size (Obj.mapSeq (· ++ vs.toArray))).objs.size = s.heap.objs.size + 1 := by
    rw [Heap.size_update, size_push']
  show wpAny _ _ _ _ _ { s with heap := copyHeap s.heap vs }
  rw [hsz]
  refine wpAny_bind (wpAny_holding (wpAny_call_entry_kw slot_list_sort ⟨_, copyHeap_at s.heap vs, rfl⟩ entry_list_sort
    (list_sort_vals (A := A.in1.in1) (s := { s with heap := copyHeap s.heap vs }) (copyHeap_at s.heap vs) S hL ⟨_, rfl, wpAny_pure ⟨_, rfl, h⟩⟩) (args_list_sort _)))
end
/-- sorted(xs), xs of data that can be compared -/
def rSortD (K : PySem.W.Frag) : List V → Hp → VK → Prop := fun xs H Q => ∃ (a : Addr) (ps : List (V × PyData)), xs = [.ref a] ∧ (SqL K H a (ps.map (·.1)) ∨ SqT K H a (ps.map (·.1))) ∧ DpAll K H (ps.map (·.1)) (ps.map (·.2)) ∧ AllAlike (ps.map (·.2)) ∧ Sortable (ps.map (·.2)) ∧
  (∀ p ∈ ps, (p.2 : PyData).depth ≤ 64) ∧ ∀ l, H l = none → Q (.ref l) (upd H l (.lst ((ps.mergeSort (dataLe false Prod.snd)).map (·.1))))
theorem each_zip {α β : Type} {R : α → β → Prop} : ∀ {as : List α} {bs : List β}, as.length = bs.length → (∀ p ∈ as.zip bs, R p.1 p.2) → EachIs R as bs
  | [], [], _, _ => .nil
  | a :: as, b :: bs, h, q => .cons (q (a, b) (by simp)) (each_zip (by simpa using h) fun p m => q p (by simp [m]))
theorem each_vals {s : Shared} : ∀ {us : List Value} {ps : List (V × PyData)}, Vals (ps.map (·.1)) us → EachIs (fun (u : Value) (p : V × PyData) => RelV p.1 u) us ps
  | _, [], h => by cases h; exact .nil
  | _, p :: ps, h => by cases h with | cons a b => exact .cons a (each_vals (s := s) b)
theorem vals_each : ∀ {us : List Value} {ps : List (V × PyData)}, EachIs (fun (u : Value) (p : V × PyData) => RelV p.1 u) us ps → Vals (ps.map (·.1)) us
  | _, _, .nil => .nil
  | _, _, .cons a b => .cons a (vals_each b)
theorem each_reads {X : Cx} {pins : List (Addr × Obj)} {σ : L2.St} {H : Hp} {s : Shared} (I : L2.Inv X pins σ H s) : ∀ {us : List Value} {ps : List (V × PyData)}, Vals (ps.map (·.1)) us → DpAll X.K H (ps.map (·.1)) (ps.map (·.2)) → EachIs (fun (u : Value) (p : V × PyData) => ∃ as, Reads s.heap u p.2 as) us ps
  | _, [], h, _ => by cases h; exact .nil
  | _, p :: ps, h, d => by
    cases h with
    | cons a b =>
      rw [List.map_cons, List.map_cons] at d
      cases d with
      | cons d1 d2 => exact .cons (Dp.reads I _ _ _ d1 a) (each_reads I b d2)
theorem cr_sortD {X : Cx} (hu : X.A.units + 66 < cLine) : CallR X (.builtin "sorted") (rSortD X.K) := by
  intro pins s σ H xs us Q I r h
  obtain ⟨a, ps, rfl, hs, hd, hal, hk, hdp, q⟩ := h
  have e2 : us = [.ref a] := Vals.ref1 r
  subst e2
  have hz : ps.length ≤ sizeLine ∧ ∃ its : List Value, Vals (ps.map (·.1)) its ∧ (PlainL s.heap a its.toArray ∨ IsTup s.heap a its.toArray) := by
    rcases hs with hs | hs
    · obtain ⟨its, rv, hl, z⟩ := I.list hs
      exact ⟨by simpa using z, its, rv, .inl hl⟩
    · obtain ⟨its, rv, hl, z⟩ := I.tuple hs
      exact ⟨by simpa using z, its, rv, .inr hl⟩
  obtain ⟨hz, its, rv, hl⟩ := hz
  have hlen : its.length = ps.length := by rw [← rv.length, List.length_map]
  have er : EachIs (fun (u : Value) (p : V × PyData) => ∃ as, Reads s.heap u p.2 as) its ps := each_reads I rv hd
  have er' : EachIs (fun (v : Value) (b : V × PyData) => ∃ as, Reads (sortingHeap (copyHeap s.heap its) (s.heap.objs.size + 1) its) v b.2 as) its ps := er.mono fun _ _ ⟨as, r⟩ => ⟨as, PyProof.Rows.Reads.keeps (fun _ _ => sorting_copy_old) r⟩
  have S : SortsAt X.prog X.w X.A.in1.in1 { s with heap := sortingHeap (copyHeap s.heap its) (s.heap.objs.size + 1) its } (dataKind (sortingHeap (copyHeap s.heap its) (s.heap.objs.size + 1) its) (ps.map Prod.snd)) its :=
    SortsAt.data (s := { s with heap := sortingHeap (copyHeap s.heap its) (s.heap.objs.size + 1) its }) (each_map (R := fun v d => ∃ as, Reads (sortingHeap (copyHeap s.heap its) (s.heap.objs.size + 1) its) v d as) Prod.snd er') hal hk
      (bound_map fun b hb => by have := hdp b hb; show X.A.units + 1 + 1 + _ < _; omega)
  have e : EachIs (fun (u : Value) (p : V × PyData) => RelV p.1 u) its ps := each_vals (s := s) rv
  have fin := sortVals_data (h' := sortingHeap (copyHeap s.heap its) (s.heap.objs.size + 1) its) (R := fun (u : Value) (p : V × PyData) => RelV p.1 u) (enc := Prod.snd) false e er' hal
  obtain ⟨ep, he'⟩ := PyProof.Rows.sortedAll_at s.heap its (sortVals (dataKind (sortingHeap (copyHeap s.heap its) (s.heap.objs.size + 1) its) (ps.map Prod.snd)) false its its).toArray
  have fv := vals_each fin
  have hlen2 : ((ps.mergeSort (dataLe false Prod.snd)).map (·.1)).length ≤ sizeLine := by rw [List.length_map, List.length_mergeSort]; exact hz
  have done : EP X pins σ Q (.ref (s.heap.objs.size + 1)) { s with heap := sortedAll s.heap its (sortVals (dataKind (sortingHeap (copyHeap s.heap its) (s.heap.objs.size + 1) its) (ps.map Prod.snd)) false its its).toArray } :=
    ⟨.ref _, upd H (s.heap.objs.size + 1) (.lst ((ps.mergeSort (dataLe false Prod.snd)).map (·.1))), I.laid (t' := s.toks) (fun _ _ => PyProof.Rows.sortedAll_old) (Nat.le_succ _) ⟨hlen2, _, ep, fv, he'⟩, rfl, q _ (I.hok.fresh (Nat.le_succ _))⟩
  rcases hl with hl | hl
  · exact sorted_vals hl.isList S (by rw [hlen]; exact hz) done
  · exact sorted_tup_vals hl S (by rw [hlen]; exact hz) done
/-! ### the order of data -/
mutual
def D.al : D → D → Bool
  | .non, .non => true
  | .bl _, .bl _ => true
  | .int _, .int _ => true
  | .str _, .str _ => true
  | .tup x, .tup y => alL x y
  | .lst x, .lst y => alL x y
  | _, _ => false
def alL : List D → List D → Bool
  | x :: xs, y :: ys => D.al x y && alL xs ys
  | [], _ => true
  | _ :: _, [] => true
end
mutual
theorem al_py : ∀ a b : D, alike a.py b.py = D.al a b
  | .non, b => by cases b <;> simp [D.py, alike, D.al]
  | .bl x, b => by cases b <;> simp [D.py, alike, D.al]
  | .int x, b => by cases b <;> simp [D.py, alike, D.al]
  | .str x, b => by cases b <;> simp [D.py, alike, D.al]
  | .tup x, b => by
    cases b with
    | tup y => simp only [D.py, alike, D.al]; exact alL_py x y
    | _ => simp [D.py, alike, D.al]
  | .lst x, b => by
    cases b with
    | lst y => simp only [D.py, alike, D.al]; exact alL_py x y
    | _ => simp [D.py, alike, D.al]
theorem alL_py : ∀ a b : List D, alikeAll (pyL a) (pyL b) = alL a b
  | [], [] => by simp [pyL, alikeAll, alL]
  | [], y :: ys => by simp [pyL, alikeAll, alL]
  | x :: xs, [] => by simp [pyL, alikeAll, alL]
  | x :: xs, y :: ys => by simp only [pyL, alikeAll, alL]; rw [al_py x y, alL_py xs ys]
end
def ltS : List Nat → List Nat → Bool
  | [], [] => false
  | [], _ :: _ => true
  | _ :: _, [] => false
  | x :: xs, y :: ys => if x < y then true else if y < x then false else ltS xs ys
theorem ltS_eq : ∀ a b : List Nat, ltS a b = decide (a < b)
  | [], [] => by simp [ltS]
  | [], y :: ys => by simp [ltS]
  | x :: xs, [] => by simp [ltS]
  | x :: xs, y :: ys => by
    simp only [ltS, List.cons_lt_cons_iff, ltS_eq xs ys]
    by_cases h1 : x < y
    · simp [h1]
    · by_cases h2 : y < x
      · have : x ≠ y := by omega
        simp [h1, h2, this]
      · have : x = y := by omega
        simp [this]
mutual
def D.lt : D → D → Bool
  | .bl a, .bl b => !a && b
  | .int a, .int b => decide (a < b)
  | .str a, .str b => ltS a b
  | .tup x, .tup y => ltL x y
  | .lst x, .lst y => ltL x y
  | _, _ => false
def ltL : List D → List D → Bool
  | [], [] => false
  | [], _ :: _ => true
  | _ :: _, [] => false
  | x :: xs, y :: ys => if D.eqv x y then ltL xs ys else D.lt x y
end
mutual
theorem lt_py : ∀ a b : D, D.al a b = true → dataLt a.py b.py = D.lt a b
  | .non, b, h => by cases b <;> simp [D.al] at h; simp only [D.py, D.lt]; exact lex_irrefl _
  | .bl x, b, h => by cases b <;> simp [D.al] at h; rename_i y; cases x <;> cases y <;> simp only [D.py, D.lt] <;> decide
  | .int x, b, h => by cases b <;> simp [D.al] at h; simp only [D.py, D.lt]; exact dataLt_int _ _
  | .str x, b, h => by cases b <;> simp [D.al] at h; simp only [D.py, D.lt]; rw [dataLt_str, ltS_eq]; rfl
  | .tup x, b, h => by
    cases b with
    | tup y => simp only [D.py, D.lt]; rw [dataLt_tuple]; exact ltL_py x y (by simpa [D.al] using h)
    | _ => simp [D.al] at h
  | .lst x, b, h => by
    cases b with
    | lst y => simp only [D.py, D.lt]; rw [dataLt_list]; exact ltL_py x y (by simpa [D.al] using h)
    | _ => simp [D.al] at h
theorem ltL_py : ∀ a b : List D, alL a b = true → PyProof.Rows.lexLt itemOrd (keyToksAll (pyL a)) (keyToksAll (pyL b)) = ltL a b
  | [], [], _ => by simp only [pyL, ltL]; exact lex_irrefl _
  | [], y :: ys, _ => by
    simp only [pyL, ltL, keyToksAll]
    exact (lex_diff (O := itemOrd) (by decide)).trans (by decide)
  | x :: xs, [], _ => by
    simp only [pyL, ltL, keyToksAll]
    exact (lex_diff (O := itemOrd) (by decide)).trans (by decide)
  | x :: xs, y :: ys, h => by
    simp only [alL, Bool.and_eq_true] at h
    simp only [pyL, ltL]
    rw [dataLt_cons (by rw [al_py]; exact h.1), eqv_py, lt_py x y h.1, ltL_py xs ys h.2]
end
/-! ### isort -/
def ins {α : Type} (le : α → α → Bool) (a : α) : List α → List α
  | [] => [a]
  | x :: l => if le a x then a :: x :: l else x :: ins le a l
def isort {α : Type} (le : α → α → Bool) : List α → List α
  | [] => []
  | a :: l => ins le a (isort le l)
theorem ins_app {α : Type} {le : α → α → Bool} {a : α} {m : List α} (hm : ∀ b ∈ m, le a b = true) : ∀ {l : List α}, (∀ b ∈ l, le a b = false) → ins le a (l ++ m) = l ++ a :: m
  | [], _ => by
    cases m with
    | nil => rfl
    | cons x m => show (if le a x = true then _ else _) = _; rw [if_pos (hm x (by simp))]; rfl
  | x :: l, h => by
    show (if le a x = true then _ else _) = _
    rw [if_neg (by rw [h x (by simp)]; exact Bool.false_ne_true)]
    exact congrArg (x :: ·) (ins_app hm fun b hb => h b (by simp [hb]))
theorem isort_merge {α : Type} {le : α → α → Bool} (trans : ∀ (a b c : α), le a b → le b c → le a c) (total : ∀ (a b : α), le a b || le b a) : ∀ l : List α, l.mergeSort le = isort le l
  | [] => by simp [isort]
  | a :: l => by
    obtain ⟨l1, l2, e1, e2, h⟩ := List.mergeSort_cons trans total a l
    have srt := List.pairwise_mergeSort trans total (a :: l)
    rw [e1] at srt ⊢
    have hm : ∀ b ∈ l2, le a b = true := fun b hb => by
      have := (List.pairwise_append.mp srt).2.1
      exact (List.pairwise_cons.mp this).1 b hb
    show _ = ins le a (isort le l)
    rw [← isort_merge trans total l, e2, ins_app hm fun b hb => by have := h b hb; simpa using this]
theorem ins_congr {α : Type} {le le' : α → α → Bool} {a : α} : ∀ {l : List α}, (∀ b ∈ l, le a b = le' a b) → ins le a l = ins le' a l
  | [], _ => rfl
  | x :: l, h => by
    show (if le a x = true then _ else _) = (if le' a x = true then _ else _)
    rw [h x (by simp), ins_congr fun b hb => h b (by simp [hb])]
theorem ins_mem {α : Type} {le : α → α → Bool} {a b : α} : ∀ {l : List α}, b ∈ ins le a l ↔ b = a ∨ b ∈ l
  | [] => by simp [ins]
  | x :: l => by
    unfold ins
    split
    · simp
    · simp [ins_mem (l := l)]
      constructor
      · rintro (h | h | h) <;> simp [h]
      · rintro (h | h | h) <;> simp [h]
theorem isort_mem {α : Type} {le : α → α → Bool} {b : α} : ∀ {l : List α}, b ∈ isort le l ↔ b ∈ l
  | [] => by simp [isort]
  | a :: l => by unfold isort; rw [ins_mem, isort_mem]; simp
theorem isort_congr {α : Type} {le le' : α → α → Bool} : ∀ {l : List α}, (∀ a ∈ l, ∀ b ∈ l, le a b = le' a b) → isort le l = isort le' l
  | [], _ => rfl
  | a :: l, h => by
    unfold isort
    rw [isort_congr (le := le) (le' := le') (l := l) fun x hx y hy => h x (by simp [hx]) y (by simp [hy])]
    exact ins_congr fun b hb => h a (by simp) b (by simp [isort_mem.mp hb])
def D.le (a b : D) : Bool := !(D.lt b a)
def allAl (l : List D) : Bool := l.all fun a => l.all fun b => D.al a b
theorem allAl_py {l : List D} (h : allAl l = true) : AllAlike (pyL l) := by
  rw [pyL_map]
  intro d hd d' hd'
  obtain ⟨a, ha, rfl⟩ := List.mem_map.mp hd
  obtain ⟨b, hb, rfl⟩ := List.mem_map.mp hd'
  rw [al_py]
  exact List.all_eq_true.mp (List.all_eq_true.mp h a ha) b hb
theorem sort_D {l : List D} (h : allAl l = true) : (l.mergeSort (dataLe false D.py)) = isort D.le l := by
  have T := PySem.W.sortLe_total (listOrd itemOrd) false fun b : D => keyToks b.py
  have e : l.mergeSort (dataLe false D.py) = isort (dataLe false D.py) l := isort_merge (fun a b c => T.trans a b c) (fun a b => by rcases T.total a b with q | q <;> simp [dataLe, q]) l
  rw [e]
  refine isort_congr fun a ha b hb => ?_
  show (!dataLt b.py a.py) = D.le a b
  unfold D.le
  rw [lt_py b a (List.all_eq_true.mp (List.all_eq_true.mp h b hb) a ha)]
def canSort (l : List D) : Bool := (l.all fun d => match d with
  | .tup (_ :: _) => true
  | _ => false) || l.all fun d => match d with
  | .non => false
  | .tup _ => false
  | _ => true
theorem canSort_py {l : List D} (h : canSort l = true) : Sortable (pyL l) := by
  rw [pyL_map]
  unfold canSort at h
  rw [Bool.or_eq_true] at h
  rcases h with h | h
  · left
    intro d hd
    obtain ⟨a, ha, rfl⟩ := List.mem_map.mp hd
    have := List.all_eq_true.mp h a ha
    split at this
    · rename_i x r
      exact ⟨x.py, pyL r, by simp only [D.py, pyL]⟩
    · cases this
  · right
    intro d hd
    obtain ⟨a, ha, rfl⟩ := List.mem_map.mp hd
    have := List.all_eq_true.mp h a ha
    cases a <;> simp at this <;> simp [D.py]
def biSort (m : Bool) (ws : List W) (h : Hh) : R W := match ws with
  | [w] => match (seqW w h).bind allD with
    | some l => if allAl l && canSort l && l.all (sh 63) then fin m ((isort D.le l).map .d) h else .no
    | none => .no
  | _ => .no
theorem RpL.zip {K M H} : ∀ {ds : List D} {vs : List V}, RpL K M H ds vs → ∃ ps : List (D × V), ds = ps.map Prod.fst ∧ vs = ps.map Prod.snd ∧ ∀ p ∈ ps, Rp K M H p.1 p.2
  | _, _, .nil => ⟨[], rfl, rfl, by simp⟩
  | d :: ds, v :: vs, .cons a b => by
    obtain ⟨ps, e1, e2, h⟩ := RpL.zip b
    refine ⟨(d, v) :: ps, by simp [e1], by simp [e2], ?_⟩
    intro p hp
    rcases List.mem_cons.mp hp with rfl | hp
    · exact a
    · exact h p hp
theorem RpL.unzip {K M H} : ∀ {ps : List (D × V)}, (∀ p ∈ ps, Rp K M H p.1 p.2) → RpL K M H (ps.map Prod.fst) (ps.map Prod.snd)
  | [], _ => .nil
  | p :: ps, h => .cons (h p (by simp)) (RpL.unzip fun q hq => h q (by simp [hq]))
theorem fc_sort {K : PySem.W.Frag} {T : Tb} {m : Bool} : FCl K T (biSort m) (rSortD K) := by
  intro Wx σ F ρ ih H xs vs Q hr rs hp
  unfold biSort at hp
  split at hp
  · cases rs with | cons r t => cases t with | nil =>
      split at hp
      · rename_i l e
        rw [Option.bind_eq_some_iff] at e
        obtain ⟨ws, e1, e2⟩ := e
        obtain ⟨a, us, rfl, s, rs, _⟩ := seqW_at hr r e1
        have rl := allD_rp e2 rs
        split at hp
        · rename_i c
          simp only [Bool.and_eq_true] at c
          obtain ⟨ps, e3, e4, hps⟩ := rl.zip
          subst e3 e4
          have em : (ps.map fun p => (p.2, p.1.py)).map Prod.fst = ps.map Prod.snd := by rw [List.map_map]; rfl
          have em2 : (ps.map fun p => (p.2, p.1.py)).map Prod.snd = pyL (ps.map Prod.fst) := by rw [List.map_map, pyL_map, List.map_map]; rfl
          refine ⟨a, ps.map fun p => (p.2, p.1.py), rfl, ?_, ?_, ?_, ?_, ?_, fun p np => ?_⟩
          · rw [em]; exact s.imp .inl .inl
          · rw [em, em2]; exact rl.dp
          · rw [em2]; exact allAl_py c.1.1
          · rw [em2]; exact canSort_py c.1.2
          · intro p hp
            obtain ⟨q, hq, rfl⟩ := List.mem_map.mp hp
            have := List.all_eq_true.mp c.2 q.1 (List.mem_map.mpr ⟨q, hq, rfl⟩)
            have := (sh_lay 63 _ this).2
            show q.1.py.depth ≤ 64
            omega
          · have srt : ((ps.map fun p => (p.2, p.1.py)).mergeSort (dataLe false Prod.snd)).map Prod.fst = (ps.mergeSort fun x y => dataLe false D.py x.1 y.1).map Prod.snd := by
              rw [← sort_maps (r := fun x y : D × V => dataLe false D.py x.1 y.1) (f := fun p : D × V => (p.2, p.1.py)) fun a _ b _ => rfl, List.map_map]
              rfl
            have srt2 : (ps.mergeSort fun x y => dataLe false D.py x.1 y.1).map Prod.fst = isort D.le (ps.map Prod.fst) := by
              rw [sort_maps (s := dataLe false D.py) (f := Prod.fst) fun a _ b _ => rfl, sort_D c.1.1]
            rw [srt]
            refine fin_ok hr (RpL.rws ?_) np (by rw [← srt2] at hp; exact hp)
            exact RpL.unzip fun p hp => hps p ((List.mergeSort_perm _ _).mem_iff.mp hp)
        · exact hp.elim
      · exact hp.elim
  · exact hp.elim
end Fz
set_option Elab.async false
set_option linter.all false
set_option maxRecDepth 100000
set_option maxHeartbeats 2000000
/-! Fz: tuples turned round, list(range), lists as targets, displays of dicts by tuples. -/
namespace Fz
open PySem PySem.W L2 PyProof.Rows HT

/-! ### t[::-1] -/
section
variable {prog : Program} {w : World} {A : Around} {E : Value → Shared → Prop} {s : Shared}
theorem pick_rev (xs : Array Value) : ((List.range xs.size).filterMap fun (m : Nat) => xs[(((xs.size : Int) - 1) + (m : Int) * (-1)).toNat]?).toArray = xs.toList.reverse.toArray := by
  congr 1
  have fm : ∀ {f g : Nat → Option Value} (l : List Nat), (∀ m ∈ l, f m = g m) → l.filterMap f = l.filterMap g := fun {f g} l => by
    induction l with
    | nil => intro _; rfl
    | cons a l ih => intro h; rw [List.filterMap_cons, List.filterMap_cons, h a (by simp), ih fun m hm => h m (by simp [hm])]
  have e : ((List.range xs.size).filterMap fun (m : Nat) => xs[(((xs.size : Int) - 1) + (m : Int) * (-1)).toNat]?) = ((List.range xs.size).map fun m => xs.size - 1 - m).filterMap (xs[·]?) := by
    rw [List.filterMap_map]
    refine fm _ fun m hm => ?_
    have := List.mem_range.mp hm
    show xs[_]? = xs[xs.size - 1 - m]?
    congr 1
    omega
  rw [e, PySem.W.krv_range, List.filterMap_reverse, PySem.W.krv_all]
theorem getItem_tuple_rev {t sl : Addr} {items : Array Value} {vs : Value} {Q : Value → Shared → Prop} (ht : IsTup s.heap t items) (hs : s.heap.IsSliceOf sl .none .none vs) (ps : IsPart vs (some (-1)))
    (h : Q (.ref s.heap.objs.size) { s with heap := s.heap.push { cls := .type "tuple", data := .seq items.toList.reverse.toArray } })
    (hsz : items.size ≤ sizeLine) : wpAny (model prog w) A (getItem (.ref t) (.ref sl)) Q E s := by
  have htake : sizeOk (.seq items.toList.reverse.toArray) := by
    show (items.toList.reverse).toArray.size ≤ sizeLine
    simpa using hsz
  obtain ⟨os, hos, hcs, hds⟩ := id hs
  have hTs : s.TypeIs (.ref sl) "slice" := ⟨os, hos, hcs⟩
  unfold getItem
  try with_reducible refine wpAny_holding ?_
  first | refine wpAny_bind (wpAny_pure ?_) | skip
  refine wpAny_bind (wpAny_sequenceKey ht.typeIs (by decide) ?_)
  refine wpAny_bind (wpAny_callSpecial?_slot (name := Str.ofString "__getitem__") ht.typeIs PyProof.Rows.slot_tuple_getitem
    (wpAny_call_entry PyProof.Rows.slot_tuple_getitem ht.typeIs entry_tuple_getitem ?_ (args_tuple_getitem _ _)))
  show wpAny _ _ (Builtin.Tuple.tupleItemsOf (.ref t) >>= _) _ _ s
  refine wpAny_bind (tupleItemsOf_ ht ?_)
  refine wpAny_bind (wpAny_typeOf hTs ?_)
  rw [if_pos (by decide)]
  refine wpAny_bind (m := Builtin.Slice.sliceApplied (.ref sl) (pure (items.size : Int))) ?_
  unfold Builtin.Slice.sliceApplied Builtin.Slice.sliceFields
  refine wpAny_bind (wpAny_bind (wpAny_field hos hds (x := .none) rfl (wpAny_bind (wpAny_field hos hds (x := .none) rfl (wpAny_bind (wpAny_field hos hds (x := vs) rfl (wpAny_pure ?_)))))))
  refine wpAny_bind (slicePart_ ps ?_)
  show wpAny _ _ (if ((-1 : Int) == 0) = true then _ else _) _ _ s
  rw [if_neg (by decide)]
  refine wpAny_bind (slicePart_ .none (wpAny_bind (slicePart_ .none (wpAny_bind (wpAny_pure ?_)))))
  show wpAny _ _ (match Builtin.Slice.sliceAdjust none none (-1) (items.size : Int) with | (lo, hi) => pure (lo, (-1 : Int), Builtin.Slice.slicePlaces lo hi (-1))) _ _ s
  have ea : Builtin.Slice.sliceAdjust none none (-1) (items.size : Int) = ((items.size : Int) - 1, -1) := rfl
  rw [ea]
  have ep : Builtin.Slice.slicePlaces ((items.size : Int) - 1) (-1) (-1) = items.size := by
    unfold Builtin.Slice.slicePlaces
    have h1 : ¬ ((-1 : Int) > 0) := by omega
    simp only [h1, if_false, Int.neg_neg, Int.ediv_one]
    split <;> omega
  show wpAny _ _ (pure ((items.size : Int) - 1, (-1 : Int), Builtin.Slice.slicePlaces ((items.size : Int) - 1) (-1) (-1))) _ _ s
  rw [ep]
  refine wpAny_pure ?_
  have hno : ¬ ((((items.size : Int) - 1) == 0 && (-1 : Int) == 1 && items.size == items.size) = true) := by
    intro q
    rw [Bool.and_eq_true, Bool.and_eq_true] at q
    exact absurd (eq_of_beq q.1.2) (by decide)
  show wpAny _ _ (if (((items.size : Int) - 1) == 0 && (-1 : Int) == 1 && items.size == items.size) = true then _ else _) _ _ s
  rw [if_neg hno, pick_rev]
  first
    | exact wpAny_bind (m := Builtin.Tuple.tupleExact _) (wpAny_newObj_type (wpAny_pure ⟨_, rfl, wpAny_pure h⟩) htake)
    | exact wpAny_bind (m := Builtin.Tuple.tupleExact _) (wpAny_newObj_type (wpAny_bind (wpAny_pure (wpAny_pure ⟨_, rfl, wpAny_pure h⟩))) htake)
end
section
variable {X : Cx}
def tRevT (K : PySem.W.Frag) (te : TE) : TE := fun σ H Q => te σ H fun x H1 => ∃ a xs, x = .ref a ∧ SqT K H1 a xs ∧ ∀ p, H1 p = none → Q (.ref p) (upd H1 p (.tup xs.reverse))
theorem pe_revT {e : Expr} {te : TE} {k : Nat} {p1 p2 p3 pos : Pos} (he : PE X e te) : PE X (.Subscript e (.Slice none none (some (.UnaryOp .USub (.Constant (.int 1) k p1) p2)) p3) pos) (tRevT X.K te) := by
  refine ⟨fun pins s σ H Q I h => ?_⟩
  refine Subscript_ (thn (he.run pins s σ H _ I h) fun v s1 ⟨x, H1, I1, r1, q1⟩ => ?_)
  obtain ⟨a, xs, ex, hx, q⟩ := q1
  subst ex
  cases r1
  have hst : PO X (some (.UnaryOp .USub (.Constant (.int 1) k p1) p2)) (tPart (tUn (rU fun i => .int (-i)) (tC (.int 1)))) := po_some (pe_un un_neg pe_int)
  refine wpAny_Slice (thn (po_none.run pins s1 σ H1 (fun o H2 => o = none ∧ H2 = H1) I1 ⟨rfl, rfl⟩) fun vl s2 ⟨l, H2, I2, pl, el, e2⟩ => ?_)
  subst el e2
  refine thn (po_none.run pins s2 σ H2 (fun o H3 => o = none ∧ H3 = H2) I2 ⟨rfl, rfl⟩) fun vu s3 ⟨u, H3, I3, pu, eu, e3⟩ => ?_
  subst eu e3
  refine thn (hst.run pins s3 σ H3 (fun o H4 => o = some (-1) ∧ H4 = H3) I3 ⟨1, rfl, -1, rfl, rfl, rfl⟩) fun vs s4 ⟨o, H4, I4, ps, eo, e4⟩ => ?_
  subst eo e4
  cases pl
  cases pu
  have I5 : Inv X pins σ H4 { s4 with heap := s4.heap.push { cls := .type "slice", data := .fields #[.none, .none, vs] } } := I4.kept (t' := s4.toks) fun b ob q => Heap.get?_push_of_some _ q
  obtain ⟨its, r, ht, hz⟩ := I5.tuple hx
  have hlen := r.length
  show wpAny (model X.prog X.w) X.A (subscriptTail e (.Slice none none (some (.UnaryOp .USub (.Constant (.int 1) k p1) p2)) p3) (.ref a) (.ref s4.heap.objs.size)) (EP X pins σ Q) X.xe { s4 with heap := s4.heap.push { cls := .type "slice", data := .fields #[.none, .none, vs] } }
  refine tail_any (ops := [.ref a, .ref s4.heap.objs.size]) ht.typeIs (PyProof.Rows.slot_tuple_getitem.lookup) ?_ (by with_unfolding_all rfl)
  refine getItem_tuple_rev ht (Heap.IsSliceOf.new _ .none .none vs) ps ?_ (by rw [List.size_toArray]; omega)
  refine ⟨.ref _, _, I5.laid (t' := s4.toks) (o := .tup xs.reverse) (fun b ob q => Heap.get?_push_of_some _ q) (Nat.le_refl _) ?_, rfl, q _ (I5.hok.fresh (Nat.le_refl _))⟩
  exact ⟨by rw [List.length_reverse]; exact hz, _, by simpa using r.reverse, IsTup.new _ _⟩
def opRevT (x : W) (h : Hh) : R W := match x with
  | .d (.tup l) => .ok (.d (.tup l.reverse)) h
  | _ => .no
theorem RpL.rev {K M H} : ∀ {ds : List D} {vs : List V}, RpL K M H ds vs → RpL K M H ds.reverse vs.reverse
  | _, _, .nil => .nil
  | _, _, .cons a b => by simp only [List.reverse_cons]; exact b.rev.app (.cons a .nil)
variable {T : Tb} {Wx : WX} {e : Expr} {c : Cd} {pos p2 : Pos}
theorem fe_revT {k : Nat} {p1 p3 : Pos} (he : FE X T Wx e c) : FE X T Wx (.Subscript e (.Slice none none (some (.UnaryOp .USub (.Constant (.int 1) k p1) p2)) p3) pos) (c1 opRevT c) := PE.imp (pe_revT he) fun σ H Q q => by
  obtain ⟨F, ρ, ev, ih, hr, re, hp⟩ := q
  refine ⟨F, ρ, ev, ih, hr, re, hp.bind.mono fun ρ1 H1 ih1 w g1 hr1 hp1 v r => ?_⟩
  unfold opRevT at hp1
  split at hp1
  · cases r with | d r => cases r with | tup t z rl =>
      refine ⟨_, _, rfl, t.sq, fun p np => ?_⟩
      obtain ⟨a, b⟩ := new_tup hr1 np rl.rev (by simpa using z) hp1
      exact a _ b
  · exact hp1.elim

/-! ### list(range(..)) -/
def lrg (m : Bool) (ws : List W) (h : Hh) : R W := match ws with
  | [.d (.int j)] => if -(2 ^ 62) ≤ j ∧ j < 2 ^ 62 ∧ j.toNat ≤ 2 ^ 24 then fin m ((List.range j.toNat).map fun i => .d (.int (i : Nat))) h else .no
  | [.d (.int i), .d (.int j)] => if -(2 ^ 62) ≤ i ∧ i < 2 ^ 62 ∧ -(2 ^ 62) ≤ j ∧ j < 2 ^ 62 ∧ (j - i).toNat ≤ 2 ^ 24 then fin m ((List.range (j - i).toNat).map fun k => .d (.int (i + (k : Nat)))) h else .no
  | _ => .no
def cLr (m : Bool) (a : Ca) : Cd := fun e h => (a e h).bind (lrg m)
theorem lrg_ok {K : PySem.W.Frag} {σ : L2.St} {F ρ : List Addr} {H : Hp} {ih : Hh} {Q : VK} {m : Bool} {i j : Int} (hr : HR K T F ρ ih H)
    (hp : Pst K T Wx σ F ρ H (if -(2 ^ 62) ≤ i ∧ i < 2 ^ 62 ∧ -(2 ^ 62) ≤ j ∧ j < 2 ^ 62 ∧ (j - i).toNat ≤ 2 ^ 24 then fin m ((List.range (j - i).toNat).map fun k => .d (.int (i + (k : Nat)))) ih else .no) fun ρ' H' _ w => ∀ v, RW K F ρ' H' w v → Q v H') :
    RgOk i j ∧ ∀ q, H q = none → Q (.ref q) (upd H q (.lst (rgV i j))) := by
  split at hp
  · rename_i z
    refine ⟨z, fun q nq => fin_ok hr ?_ nq hp⟩
    unfold rgV
    have : ∀ l : List Nat, RWs K F ρ H (l.map fun k => W.d (D.int (i + (k : Nat)))) (l.map fun k => V.int (i + (k : Nat))) := fun l => by
      induction l with
      | nil => exact .nil
      | cons a l ih => exact .cons (.d (.int _)) ih
    exact this _
  · exact hp.elim
theorem fe_lr1 {a : Expr} {m : Bool} {ca : Cd} {p q pos pos1 : Pos} (hc : X.calm = true) (hl : Gl X "list") (hml : X.mg "list" = none) (hg : Gl X "range") (hm : X.mg "range" = none)
    (na : starEach [Expr.Call (.Name "range" p) [a] [] pos] X.env = (false, eval (Expr.Call (.Name "range" p) [a] [] pos) X.env) :: starEach [] X.env) (na2 : starEach [a] X.env = (false, eval a X.env) :: starEach [] X.env)
    (ha : FE X T Wx a ca) : FE X T Wx (.Call (.Name "list" q) [.Call (.Name "range" p) [a] [] pos] [] pos1) (cLr m (aCons ca aNil)) := PE.imp (pe_listRg hc hl hml (prg_1 hg hm ha na2) na) fun σ H Q q => by
  obtain ⟨F, ρ, ev, ih, hr, re, hp⟩ := q
  have hp' : Pst X.K T Wx σ F ρ H ((ca ev ih).bind fun x h => lrg m [x] h) fun ρ' H' _ w => ∀ v, RW X.K F ρ' H' w v → Q v H' := by
    have e : cLr m (aCons ca aNil) ev ih = (ca ev ih).bind fun x h => lrg m [x] h := by
      unfold cLr aCons aNil
      cases ca ev ih <;> rfl
    rw [← e]; exact hp
  refine ⟨F, ρ, ev, ih, hr, re, hp'.bind.mono fun ρ1 H1 ih1 w g1 hr1 hp1 v r => ?_⟩
  unfold lrg at hp1
  split at hp1
  · rename_i j hj
    cases hj
    cases r with | d r =>
    cases r with | int =>
    refine ⟨_, rfl, lrg_ok (Wx := Wx) (σ := σ) (m := m) hr1 ?_⟩
    split at hp1
    · rename_i z
      rw [if_pos (by simp only [Int.sub_zero]; exact ⟨by decide, by decide, z.1, z.2.1, z.2.2⟩)]
      simpa using hp1
    · exact hp1.elim
  · rename_i hj; cases hj
  · exact hp1.elim
theorem fe_lr2 {a b : Expr} {m : Bool} {ca cb : Cd} {p q pos pos1 : Pos} (hc : X.calm = true) (hl : Gl X "list") (hml : X.mg "list" = none) (hg : Gl X "range") (hm : X.mg "range" = none)
    (na : starEach [Expr.Call (.Name "range" p) [a, b] [] pos] X.env = (false, eval (Expr.Call (.Name "range" p) [a, b] [] pos) X.env) :: starEach [] X.env) (na2 : starEach [a, b] X.env = (false, eval a X.env) :: starEach [b] X.env)
    (nb : starEach [b] X.env = (false, eval b X.env) :: starEach [] X.env) (hpl : (backTo pos (starEach [b] X.env)).any (·.1) = false)
    (ha : FE X T Wx a ca) (hb : FE X T Wx b cb) : FE X T Wx (.Call (.Name "list" q) [.Call (.Name "range" p) [a, b] [] pos] [] pos1) (cLr m (aCons ca (aCons cb aNil))) := PE.imp (pe_listRg hc hl hml (prg_2 hg hm ha hb na2 nb hpl) na) fun σ H Q q => by
  obtain ⟨F, ρ, ev, ih, hr, re, hp⟩ := q
  have hp' : Pst X.K T Wx σ F ρ H ((ca ev ih).bind fun x h => (cb ev h).bind fun y h => lrg m [x, y] h) fun ρ' H' _ w => ∀ v, RW X.K F ρ' H' w v → Q v H' := by
    have e : cLr m (aCons ca (aCons cb aNil)) ev ih = (ca ev ih).bind fun x h => (cb ev h).bind fun y h => lrg m [x, y] h := by
      unfold cLr aCons aNil
      cases ca ev ih with
      | ok x h => simp only [R.bind_ok]; cases cb ev h <;> rfl
      | _ => rfl
    rw [← e]; exact hp
  refine ⟨F, ρ, ev, ih, hr, re, hp'.bind.mono fun ρ1 H1 ih1 w g1 hr1 hp1 v r => ?_⟩
  refine ⟨F, ρ1, ev, ih1, hr1, re.grow g1 hr, hp1.bind.mono fun ρ2 H2 ih2 w2 g2 hr2 hp2 v2 r2 => ?_⟩
  unfold lrg at hp2
  split at hp2
  · rename_i hj; cases hj
  · rename_i hj
    cases hj
    cases r with | d r =>
    cases r with | int =>
    cases r2 with | d r2 =>
    cases r2 with | int =>
    exact ⟨_, _, rfl, rfl, lrg_ok hr2 hp2⟩
  · exact hp2.elim

/-! ### (a, b, ..) = a list -/
theorem kun_list' {prog : Program} {w : World} {A : Around} {E : Value → Shared → Prop} {s : Shared} {env : Env} {elts : List Expr} {x1 : Nat} {l : Addr} {items : Array Value} {Q : Unit → Shared → Prop} (hl : s.heap.IsList l items) (hh : A.handled = none) (hn : (assignEach elts env).length = items.size)
    (hstar : (assignEach elts env).findIdx? (·.1) = none)
    (h : ∀ h', (∀ b o, s.heap.get? b = some o → h'.get? b = some o) → wpAny (model prog w) A (assignInOrder ((assignEach elts env).map (·.2)) items.toList) Q E { s with heap := h' }) :
    wpAny (model prog w) A (assign (.Tuple elts x1 pos) env (.ref l)) Q E s := by
  rw [assign_Tuple]
  refine wpAny_bind (wpAny_standAt ?_)
  unfold unpack
  rw [hn, hstar]
  exact wpAny_bind (wpAny_holding (kun_itemsOf hh hl fun h' he => h h' fun b o e => he b o (Nat.ne_of_lt (Heap.lt_size e)) e))
def gLst (K : PySem.W.Frag) (n : Nat) (t : TGs) : TG := fun v σ H Q => ∃ a xs, v = .ref a ∧ SqL K H a xs ∧ xs.length = n ∧ t xs σ H Q
theorem pg_lst {es : List Expr} {k : Nat} {t : TGs} {n : Nat} (hc : X.calm = true) (h : PGs X es t)
    (hn : (assignEach es X.env).length = n) (hst : (assignEach es X.env).findIdx? (·.1) = none) : PG X (.Tuple es k pos) (gLst X.K n t) := by
  refine ⟨fun pins s σ H v u Q I r hw => ?_⟩
  obtain ⟨a, xs, e1, hq, hl, hw⟩ := hw
  subst e1
  cases r
  obtain ⟨its, rv, ht, hz⟩ := I.list hq
  refine kun_list' ht.isList (I.ok.hd hc) (by simp [hn, ← hl, rv.length]) hst fun h' hx => ?_
  have I1 : Inv X pins σ H { s with heap := h' } := I.kept (t' := s.toks) fun b o e => hx b o e
  exact h.run pins _ σ H xs _ Q I1 (by simpa using rv) hw
theorem PG.or {tg : Expr} {t t' : TG} (h : PG X tg t) (h' : PG X tg t') : PG X tg fun v σ H Q => t v σ H Q ∨ t' v σ H Q := ⟨fun pins s σ H v u Q I r q => q.elim (h.run pins s σ H v u Q I r) (h'.run pins s σ H v u Q I r)⟩
def tLs (c : Cts) : Ct := fun w e h => match w with
  | .d (.tup l) => c (l.map .d) e h
  | w => match lstW w h with
    | some l => c l e h
    | none => none
theorem fg_l {tgs : List Expr} {k n : Nat} {is : List Nat} {cb : Cts} (hc : X.calm = true) (ln : Len cb n) (hn : (assignEach tgs X.env).length = n) (hst : (assignEach tgs X.env).findIdx? (·.1) = none) (h : FGs X T tgs is cb) : FG X T (.Tuple tgs k pos) is (tLs cb) :=
  PG.imp (PG.or (pg_tup hc h hn hst) (pg_lst hc h hn hst)) fun v σ H Q q => by
    obtain ⟨F, ρ, e, ih, w, e', hr, re, r, he, hq⟩ := q
    unfold tLs at he
    split at he
    · rename_i l
      cases r with | d r => cases r with | tup t z rl =>
        have hl := ln.len _ _ _ _ he
        exact .inl ⟨_, _, rfl, t.sq, by rw [← rl.rws.length]; exact hl, F, ρ, e, ih, _, e', hr, re, rl.rws, he, hq⟩
    · split at he
      · rename_i l e1
        obtain ⟨a, vs, rfl, s, rs, _⟩ := lstW_at hr r e1
        have hl := ln.len _ _ _ _ he
        exact .inr ⟨_, _, rfl, .inl s, by rw [← rs.length]; exact hl, F, ρ, e, ih, _, e', hr, re, rs, he, hq⟩
      · cases he
end
end Fz
set_option Elab.async false
set_option linter.all false
set_option maxRecDepth 100000
set_option maxHeartbeats 2000000
/-! Fz: displays of dicts. -/
namespace Fz
open PySem PySem.W L2 PyProof.Rows

abbrev Cps := List (Cd × Cd)
def pOf : Cps → Ev → Hh → R (List (W × W))
  | [], _, h => .ok [] h
  | (a, b) :: r, e, h => (a e h).bind fun x h => (b e h).bind fun y h => (pOf r e h).bind fun ps h => .ok ((x, y) :: ps) h
def FPs (X : Cx) (T : Tb) (Wx : WX) (pos : Pos) (keys : List (Option Expr)) (values : List Expr) (cs : Cps) : Prop := PPs X pos keys values (cs.map fun c => (tOf X.K T Wx c.1, tOf X.K T Wx c.2))
section
variable {X : Cx} {T : Tb} {Wx : WX} {k v : Expr} {ks : List (Option Expr)} {vs : List Expr} {pos : Pos} {ca cb : Cd} {cs : Cps}
theorem fps_nil : FPs X T Wx pos [] [] [] := pps_nil
theorem fps_cons (hk : FE X T Wx k ca) (hv : FE X T Wx v cb) (hr : FPs X T Wx pos ks vs cs) : FPs X T Wx pos (some k :: ks) (v :: vs) ((ca, cb) :: cs) := pps_cons hk hv hr
abbrev RPs (K : PySem.W.Frag) (F ρ : List Addr) (H : Hp) : List (W × W) → List (V × V) → Prop := Paired fun p q => RW K F ρ H p.1 q.1 ∧ RW K F ρ H p.2 q.2
theorem RPs.grow {K F ρ H ρ' H' ih} (g : Grow F ρ H ρ' H') (h : HR K T F ρ ih H) {w : List (W × W)} {v : List (V × V)} (r : RPs K F ρ H w v) : RPs K F ρ' H' w v :=
  Paired.mapP r fun _ _ x => ⟨x.1.grow g h, x.2.grow g h⟩
theorem tPairs_at {K : PySem.W.Frag} : ∀ {cs : Cps} {σ : L2.St} {F ρ : List Addr} {H : Hp} {ev : Ev} {ih : Hh} {Q : List (V × V) → Hp → Prop}, HR K T F ρ ih H → RE K F ρ H ev σ →
    Pst K T Wx σ F ρ H (pOf cs ev ih) (fun ρ' H' _ ps => ∀ vs, RPs K F ρ' H' ps vs → Q vs H') → tPairs (cs.map fun c => (tOf K T Wx c.1, tOf K T Wx c.2)) σ H Q
  | [], σ, F, ρ, H, ev, ih, Q, hr, re, hp => hp.ok hr [] .nil
  | (a, b) :: cs, σ, F, ρ, H, ev, ih, Q, hr, re, hp => by
    have hp' : Pst K T Wx σ F ρ H ((a ev ih).bind fun x h => (b ev h).bind fun y h => (pOf cs ev h).bind fun ps h => .ok ((x, y) :: ps) h) _ := hp
    refine ⟨F, ρ, ev, ih, hr, re, hp'.bind.mono fun ρ1 H1 ih1 x g1 hr1 hp1 v1 r1 => ?_⟩
    have re1 := re.grow g1 hr
    refine ⟨F, ρ1, ev, ih1, hr1, re1, hp1.bind.mono fun ρ2 H2 ih2 y g2 hr2 hp2 v2 r2 => ?_⟩
    refine tPairs_at hr2 (re1.grow g2 hr1) (hp2.bind.mono fun ρ3 H3 ih3 ps g3 hr3 hp3 vs rs => ?_)
    exact hp3.ok hr3 _ (.cons ⟨(r1.grow g2 hr1).grow g3 hr2, r2.grow g3 hr2⟩ rs)
end
/-! ### keys: numbers, texts -/
def keysW : List (W × W) → Option (List (D × W))
  | [] => some []
  | (.d k, w) :: r => if k.isK then (keysW r).map ((k, w) :: ·) else none
  | _ :: _ => none
def mergeD (l more : List (D × W)) : List (D × W) := more.foldl (fun acc p => putd p.1 p.2 acc) l
def cDis (cs : Cps) : Cd := fun e h => (pOf cs e (h ++ [.dk []])).bind fun ps h' => match keysW ps, h'[h.length]? with
  | some kvs, some (.dk []) => if kvs.length ≤ 15 then .ok (.r h.length) (h'.set h.length (.dk (mergeD [] kvs))) else .no
  | _, _ => .no
theorem keysW_at {K : PySem.W.Frag} {F ρ : List Addr} {H : Hp} : ∀ {ps : List (W × W)} {vs : List (V × V)} {kvs : List (D × W)}, keysW ps = some kvs → RPs K F ρ H ps vs → ∃ ks : List (Key × V), vs = ks.map (fun kv => (kV kv.1, kv.2)) ∧ RD K F ρ H kOf D.isK kvs ks
  | [], vs, kvs, e, r => by cases r; simp [keysW] at e; subst e; exact ⟨[], rfl, .nil⟩
  | (.d k, w) :: ps, vs, kvs, e, r => by
    simp only [keysW] at e
    split at e
    · rename_i hk
      rw [Option.map_eq_some_iff] at e
      obtain ⟨l, e1, rfl⟩ := e
      cases r with
      | @cons _ q _ qs a b =>
        obtain ⟨ks, rfl, rl⟩ := keysW_at e1 b
        obtain ⟨q1, q2⟩ := q
        refine ⟨(kOf k, q2) :: ks, ?_, .cons ⟨⟨rfl, hk⟩, a.2⟩ rl⟩
        rw [List.map_cons, ← key_v hk a.1]
    · cases e
  | (.r _, w) :: ps, vs, kvs, e, r => by simp [keysW] at e
theorem RD.merge {K : PySem.W.Frag} {F ρ : List Addr} {H : Hp} : ∀ {more : List (D × W)} {ks : List (Key × V)} {l : List (D × W)} {kvs : List (Key × V)}, RD K F ρ H kOf D.isK more ks → RD K F ρ H kOf D.isK l kvs → RD K F ρ H kOf D.isK (mergeD l more) (mergeK kvs ks)
  | [], _, l, kvs, r, q => by cases r; exact q
  | p :: more, _, l, kvs, r, q => by
    cases r with
    | @cons _ b _ bs a t =>
      have q' : RD K F ρ H kOf D.isK (putd p.1 p.2 l) (putK kvs b.1 b.2) := by
        rw [a.1.1]; exact RD.put kOf_inj a.1.2 q a.2
      show RD K F ρ H kOf D.isK (mergeD (putd p.1 p.2 l) more) (mergeK (putK kvs b.1 b.2) bs)
      exact RD.merge (more := more) t q'
section
variable {X : Cx} {T : Tb} {Wx : WX} {keys : List (Option Expr)} {values : List Expr} {pos : Pos} {cs : Cps}
theorem fe_dis (h : FPs X T Wx pos keys values cs) (hall : keys.all (·.isSome) = true) (hl : keys.length = values.length) (h0 : keys ≠ []) (h15 : keys.length ≤ 15) : FE X T Wx (.Dict keys values pos) (cDis cs) := PE.imp (pe_disp h hall hl h0 h15) fun σ H Q q => by
  obtain ⟨F, ρ, ev, ih, hr, re, hp⟩ := q
  intro p np
  have g0 : Grow F ρ H (ρ ++ [p]) (upd H p (.dK [])) := grow_add np
  have hr0 : HR X.K T F (ρ ++ [p]) (ih ++ [.dk []]) (upd H p (.dK [])) := hr.add np (.dk .nil)
  have hp0 : Pst X.K T Wx σ F (ρ ++ [p]) (upd H p (.dK [])) ((pOf cs ev (ih ++ [.dk []])).bind fun ps h' => match keysW ps, h'[ih.length]? with
      | some kvs, some (.dk []) => if kvs.length ≤ 15 then R.ok (W.r ih.length) (h'.set ih.length (.dk (mergeD [] kvs))) else .no
      | _, _ => .no) fun ρ' H' _ w => ∀ v, RW X.K F ρ' H' w v → Q v H' := by
    unfold cDis at hp
    revert hp
    generalize ((pOf cs ev (ih ++ [.dk []])).bind fun ps h' => match keysW ps, h'[ih.length]? with
      | some kvs, some (.dk []) => if kvs.length ≤ 15 then R.ok (W.r ih.length) (h'.set ih.length (.dk (mergeD [] kvs))) else .no
      | _, _ => .no) = m
    intro hp
    cases m with
    | no => exact hp
    | ok a h2 => exact fun ρ2 H2 g2 hr2 => hp ρ2 H2 (g0.trans hr0 g2) hr2
    | ex c p h2 => exact fun ρ2 H2 cls dx g2 hr2 x => hp ρ2 H2 cls dx (g0.trans hr0 g2) hr2 x
  refine tPairs_at hr0 (re.grow g0 hr) (hp0.bind.mono fun ρ1 H1 ih1 ps g1 hr1 hp1 vs rs => ?_)
  have hn : ρ1[ih.length]? = some p := g1.get (get_last hr.len)
  split at hp1
  · rename_i kvs e1 e2
    split at hp1
    · rename_i z
      obtain ⟨ks, rfl, rl⟩ := keysW_at e1 rs
      obtain ⟨u, eH, ro⟩ := hr1.at hn e2
      cases ro with | dk r0 =>
      cases r0
      have m := List.mem_of_getElem? hn
      refine ⟨eH, ks, rfl, by rw [← Paired.length rl]; exact z, ?_⟩
      exact hp1 _ _ (grow_set m (nf_of eH trivial)) (hr1.set hn (.dk (rd_dk (RD.kp (keep_set m) (fun _ _ q => q) (RD.merge rl .nil))))) _ (.r hn)
    · exact hp1.elim
  · exact hp1.elim
/-! ### one key: a tuple -/
def cDisT (ca cb : Cd) : Cd := fun e h => (pOf [(ca, cb)] e (h ++ [.dt []])).bind fun ps h' => match ps, h'[h.length]? with
  | [(.d k, w)], some (.dt []) => if k.isKT then .ok (.r h.length) (h'.set h.length (.dt [(k, w)])) else .no
  | _, _ => .no
def tDisT (tk tv : TE) : TE := fun σ H Q => ∀ p, H p = none → tPairs [(tk, tv)] σ (upd H p (.dT [])) fun ps H2 => H2 p = some (.dT []) ∧ ∃ (ks : List Key) (b : Addr) (v : V), ps = [(.ref b, v)] ∧ H2 b = some (.tup (ks.map kV)) ∧ Q (.ref p) (upd H2 p (.dT [(ks, v)]))
theorem pe_dispT {k v : Expr} {tk tv : TE} (hu : X.A.units + 1 < cLine) (h : PPs X pos [some k] [v] [(tk, tv)]) : PE X (.Dict [some k] [v] pos) (tDisT tk tv) := by
  refine ⟨fun pins s σ H Q I q => ?_⟩
  have hn := I.hok.fresh (Nat.le_refl s.heap.objs.size)
  have I1 := I.laid (a := s.heap.objs.size) (o := .dT []) (h' := s.heap.push { cls := .type "dict", data := .dict #[] }) (t' := s.toks) (fun _ _ q => Heap.get?_push_of_some _ q) (Nat.le_refl _) (dt_empty s.heap I.big)
  rw [arm_eval_Dict, zip_pairTrees [some k] [v] X.env pos rfl rfl, dictDisplay_pairs (pairTrees [some k] [v] X.env pos) ?h0 (by rw [pairTrees_length [some k] [v] X.env pos rfl rfl]; simp)]
  case h0 =>
    have := pairTrees_length [some k] [v] X.env pos rfl rfl
    intro he
    rw [he] at this
    cases this
  refine wpAny_bind (wpAny_standAt (wpAny_bind (wpAny_subDictH (knd := tupleKind (mixKind X.prog X.w)) (show X.A.units < cLine from Nat.lt_of_succ_lt hu) (by rw [pairTrees_length [some k] [v] X.env pos rfl rfl]; simp) (thn (h.run pins _ σ _ _ I1 (q _ hn)) fun ws s2 ⟨ps, H2, I2, rel, e, ks, b, v', ep, eb, q2⟩ => ?_))))
  subst ep
  cases rel with
  | @cons _ w1 _ ws1 a t =>
  cases t
  obtain ⟨w1, w2⟩ := w1
  obtain ⟨a1, a2⟩ := a
  cases (show w1 = Value.ref b from a1)
  obtain ⟨z, hd, xs, r0, dd⟩ := dt_of I2.hok e
  cases r0
  refine ⟨[(ks, b, w2)], ⟨rfl, rfl, key_of I2.hok eb, trivial⟩, dd, fun h' tk' dd' hs => wpAny_pure ⟨.ref s.heap.objs.size, _, ?_, rfl, q2⟩⟩
  obtain ⟨q, es, ep, hq, h2, h3, h4, _, h5⟩ := dd'
  refine d_write I2 (by rw [e]; exact True.intro) hs ⟨q, hq⟩ ⟨by show 1 ≤ sizeLine; decide, hd, _, ?_, q, es, ep, hq, h2, h3, h4, h5⟩
  refine .cons ⟨rfl, ?_, a2⟩ .nil
  show upd H2 _ _ b = _
  rw [upd_ne (ne_of eb e (fun z => nomatch z))]
  exact eb
theorem fe_disT {k v : Expr} {ca cb : Cd} (hu : X.A.units + 1 < cLine) (h : FPs X T Wx pos [some k] [v] [(ca, cb)]) : FE X T Wx (.Dict [some k] [v] pos) (cDisT ca cb) := PE.imp (pe_dispT hu h) fun σ H Q q => by
  obtain ⟨F, ρ, ev, ih, hr, re, hp⟩ := q
  intro p np
  have g0 : Grow F ρ H (ρ ++ [p]) (upd H p (.dT [])) := grow_add np
  have hr0 : HR X.K T F (ρ ++ [p]) (ih ++ [.dt []]) (upd H p (.dT [])) := hr.add np (.dt .nil)
  have hp0 : Pst X.K T Wx σ F (ρ ++ [p]) (upd H p (.dT [])) ((pOf [(ca, cb)] ev (ih ++ [.dt []])).bind fun ps h' => match ps, h'[ih.length]? with
      | [(.d k, w)], some (.dt []) => if k.isKT then R.ok (W.r ih.length) (h'.set ih.length (.dt [(k, w)])) else .no
      | _, _ => .no) fun ρ' H' _ w => ∀ v, RW X.K F ρ' H' w v → Q v H' := by
    unfold cDisT at hp
    revert hp
    generalize ((pOf [(ca, cb)] ev (ih ++ [.dt []])).bind fun ps h' => match ps, h'[ih.length]? with
      | [(.d k, w)], some (.dt []) => if k.isKT then R.ok (W.r ih.length) (h'.set ih.length (.dt [(k, w)])) else .no
      | _, _ => .no) = m
    intro hp
    cases m with
    | no => exact hp
    | ok a h2 => exact fun ρ2 H2 g2 hr2 => hp ρ2 H2 (g0.trans hr0 g2) hr2
    | ex c p h2 => exact fun ρ2 H2 cls dx g2 hr2 x => hp ρ2 H2 cls dx (g0.trans hr0 g2) hr2 x
  refine tPairs_at hr0 (re.grow g0 hr) (hp0.bind.mono fun ρ1 H1 ih1 ps g1 hr1 hp1 vs rs => ?_)
  have hn : ρ1[ih.length]? = some p := g1.get (get_last hr.len)
  split at hp1
  · rename_i kd w e2
    split at hp1
    · rename_i hk
      cases rs with | @cons _ b _ bs a t =>
      cases t
      obtain ⟨v1, v2⟩ := b
      obtain ⟨b, rfl, eb⟩ := keyT_v hk a.1
      obtain ⟨u, eH, ro⟩ := hr1.at hn e2
      cases ro with | dt r0 =>
      cases r0
      have m := List.mem_of_getElem? hn
      refine ⟨eH, ktOf kd, b, v2, rfl, eb, ?_⟩
      exact hp1 _ _ (grow_set m (nf_of eH trivial)) (hr1.set hn (.dt (rd_dt (RD.kp (keep_set m) (fun _ _ q => q) (.cons ⟨⟨rfl, hk⟩, a.2⟩ .nil))))) _ (.r hn)
    · exact hp1.elim
  · exact hp1.elim
end
end Fz
set_option Elab.async false
set_option linter.all false
set_option maxRecDepth 100000
set_option maxHeartbeats 2000000
/-! Fz: repr of data; actual == due and repr(actual) == repr(due). -/
namespace Fz
open PySem PySem.W L2 PyProof.Rows

mutual
def D.sz : D → Nat
  | .non => 4
  | .bl _ => 5
  | .int i => i.natAbs.log2 + 2
  | .str l => 10 * l.length + 2
  | .tup l => 2 + szL l
  | .lst l => 2 + szL l
def szL : List D → Nat
  | [] => 0
  | d :: r => (D.sz d + 2) + szL r
end
mutual
/-- whole numbers that repr can write -/
def D.shw : D → Bool
  | .int i => decide (i.natAbs.log2 < 1920)
  | .tup l => shwL l
  | .lst l => shwL l
  | _ => true
def shwL : List D → Bool
  | [] => true
  | d :: r => D.shw d && shwL r
end
theorem listText_le (ts : List Str) : (listText ts).length ≤ 2 + piled ts := by
  cases ts with
  | nil => show 2 ≤ 2 + 0; omega
  | cons t r =>
    have e : (textFrom 0 "[" (t :: r)).length = (("[" : Str) ++ ("" : Str) ++ t).length + piled r := textFrom_length_pos r 1 _ (Nat.succ_pos 0)
    show (textFrom 0 "[" (t :: r) ++ ("]" : Str)).length ≤ _
    rw [strLen_append, e, strLen_append, strLen_append, piled_cons]
    have e1 : ("[" : Str).length = 1 := rfl
    have e2 : ("]" : Str).length = 1 := rfl
    have e3 : ("" : Str).length = 0 := rfl
    omega
theorem tupleText_le (ts : List Str) : (tupleText ts).length ≤ 2 + piled ts := by
  show (("(" : Str) ++ Str.join ", " ts ++ ((if ts.length == 1 then ",)" else ")" : String) : Str)).length ≤ _
  rw [strLen_append, strLen_append]
  have e1 : ("(" : Str).length = 1 := rfl
  have e2 : ((if ts.length == 1 then ",)" else ")" : String) : Str).length ≤ 2 := by split <;> decide
  cases ts with
  | nil =>
    have e3 : (Str.join ", " []).length = 0 := rfl
    have e4 : ((if ([] : List Str).length == 1 then ",)" else ")" : String) : Str).length = 1 := rfl
    rw [e3, e4, e1]; omega
  | cons t r =>
    have := join_length_add (t :: r) (by simp)
    omega
mutual
theorem shown_le : ∀ (n : Nat) (d : D), sh n d = true → d.py.shown.length ≤ D.sz d
  | _, .non, _ => by simp only [D.py, PyData.shown, D.sz]; decide
  | _, .bl b, _ => by simp only [D.py, PyData.shown, D.sz]; cases b <;> decide
  | _, .int i, _ => by
    simp only [D.py, PyData.shown, D.sz]
    have := int_text_length_le (a := i) (k := i.natAbs.log2 + 1) (Nat.succ_pos _) (Nat.lt_succ_self _)
    rw [PySem.ofString_length]
    omega
  | n, .str l, h => by
    have h' : l.all (· < 1114112) = true := by cases n <;> exact h
    simp only [D.py, PyData.shown, D.sz]
    have := StrLaws.reprText_len (toStr l) fun c hc => by
      have := List.all_eq_true.mp h' c (by simpa [toStr] using hc)
      have := of_decide_eq_true this
      omega
    rw [toStr_len] at this
    exact this
  | n + 1, .tup l, h => by
    simp only [D.py, PyData.shown, D.sz]
    have := tupleText_le (PyData.shownAll (pyL l))
    have := shownL_le n l h
    omega
  | n + 1, .lst l, h => by
    simp only [D.py, PyData.shown, D.sz]
    have := listText_le (PyData.shownAll (pyL l))
    have := shownL_le n l h
    omega
  | 0, .tup _, h => by simp [sh] at h
  | 0, .lst _, h => by simp [sh] at h
theorem shownL_le : ∀ (n : Nat) (l : List D), l.all (sh n) = true → piled (PyData.shownAll (pyL l)) ≤ szL l
  | _, [], _ => by simp only [pyL, PyData.shownAll, szL]; exact Nat.le_refl _
  | n, d :: r, h => by
    rw [List.all_cons, Bool.and_eq_true] at h
    simp only [pyL, PyData.shownAll, szL, piled_cons]
    have := shown_le n d h.1
    have := shownL_le n r h.2
    omega
end
mutual
theorem shw_py : ∀ d : D, d.py.showable = D.shw d
  | .non => by simp only [D.py, PyData.showable, D.shw]
  | .bl _ => by simp only [D.py, PyData.showable, D.shw]
  | .int i => by simp only [D.py, PyData.showable, D.shw]
  | .str l => by simp only [D.py, PyData.showable, D.shw]
  | .tup l => by simp only [D.py, PyData.showable, D.shw]; exact shwL_py l
  | .lst l => by simp only [D.py, PyData.showable, D.shw]; exact shwL_py l
theorem shwL_py : ∀ l : List D, PyData.showableAll (pyL l) = shwL l
  | [] => by simp only [pyL, PyData.showableAll, shwL]
  | d :: r => by simp only [pyL, PyData.showableAll, shwL, shw_py d, shwL_py r]
end
def canShow (d : D) : Bool := sh 60 d && D.shw d && decide (D.sz d ≤ 16777216)
theorem sh_up : ∀ (n m : Nat), n ≤ m → ∀ d : D, sh n d = true → sh m d = true
  | n, m, h, .non, _ => by cases m <;> rfl
  | n, m, h, .bl _, _ => by cases m <;> rfl
  | n, m, h, .int _, _ => by cases m <;> rfl
  | n, m, h, .str l, e => by cases n <;> cases m <;> exact e
  | n + 1, m + 1, h, .tup l, e => List.all_eq_true.mpr fun x hx => sh_up n m (by omega) x (List.all_eq_true.mp (show l.all (sh n) = true from e) x hx)
  | n + 1, m + 1, h, .lst l, e => List.all_eq_true.mpr fun x hx => sh_up n m (by omega) x (List.all_eq_true.mp (show l.all (sh n) = true from e) x hx)
  | n + 1, 0, h, _, _ => absurd h (by omega)
  | 0, _, _, .tup _, e => by simp [sh] at e
  | 0, _, _, .lst _, e => by simp [sh] at e
def rp (d : D) : List Nat := d.py.shown.cps.toList
theorem toStr_rp (d : D) : toStr (rp d) = d.py.shown := by
  unfold toStr rp
  rw [Array.toArray_toList]
def biRepr (ws : List W) (h : Hh) : R W := match ws with
  | [w] => match valD w h with
    | some d => if canShow d then .ok (.d (.str (rp d))) h else .no
    | none => .no
  | _ => .no
def rRepr (K : PySem.W.Frag) : List V → Hp → VK → Prop := fun xs H Q => ∃ (v : V) (d : PyData), xs = [v] ∧ Dp K H v d ∧ d.showable = true ∧ d.hasDict = false ∧ d.depth ≤ 60 ∧ d.shown.length ≤ sizeLine ∧ Q (.str d.shown) H
theorem cr_repr {X : Cx} (hg : X.A.guards = some []) (hu : X.A.units + 64 < cLine) : CallR X (.builtin "repr") (rRepr X.K) := by
  intro pins s σ H xs us Q I r h
  obtain ⟨v, d, rfl, hd, hs, hn, hdp, hz, q⟩ := h
  obtain ⟨u, rfl, rv⟩ := vals1 r
  obtain ⟨as, rd⟩ := Dp.reads I d v u hd rv
  have fin : ∀ (h' : Heap) (t tk : Tok), (∀ b o, s.heap.get? b = some o → h'.get? b = some o) → EP X pins σ Q (.str d.shown t) { s with heap := h', toks := tk } :=
    fun h' t tk hk => ⟨.str d.shown, H, I.kept hk, ⟨_, rfl⟩, q⟩
  cases rd with
  | none => exact P.repr_of_none (fin _ _ _ fun _ _ e => e)
  | bool b => exact P.repr_of_bool (by have := fin s.heap s.toks (s.toks + 1) fun _ _ e => e; simpa [PyData.shown] using this)
  | int i t => exact P.repr_of_int (by simpa [PyData.showable] using hs) (fin _ _ _ fun _ _ e => e)
  | str x t => exact P.repr_of_str (fin _ _ _ fun _ _ e => e) hz
  | list h1 h2 h3 h4 => exact repr_of_reads' (.list h1 h2 h3 h4) hs (PyData.noDict_hsm hn) hg (by omega) (fun _ _ e => e) (fun h' u tk hk => fin h' u tk hk) hz
  | tuple h1 h2 h3 h4 => exact repr_of_reads' (.tuple h1 h2 h3 h4) hs (PyData.noDict_hsm hn) hg (by omega) (fun _ _ e => e) (fun h' u tk hk => fin h' u tk hk) hz
  | dict _ _ _ _ _ => simp [PyData.hasDict] at hn
theorem fc_repr {K : PySem.W.Frag} {T : Tb} : FCl K T biRepr (rRepr K) := by
  intro Wx σ F ρ ih H xs vs Q hr rs hp
  unfold biRepr at hp
  split at hp
  · cases rs with | cons r t => cases t with | nil =>
      split at hp
      · rename_i d e
        split at hp
        · rename_i c
          unfold canShow at c
          simp only [Bool.and_eq_true, decide_eq_true_eq] at c
          obtain ⟨l1, l2⟩ := sh_lay 60 d c.1.1
          have hz := Nat.le_trans (shown_le 60 d c.1.1) c.2
          refine ⟨_, d.py, rfl, valD_dp hr r e, by rw [shw_py]; exact c.1.2, PyData.hasDict_of_canLay _ l1, l2, hz, ?_⟩
          rw [← toStr_rp]
          refine hp.ok hr _ (.d (.str _ ?_))
          rw [← toStr_len, toStr_rp]
          exact hz
        · exact hp.elim
      · exact hp.elim
  · exact hp.elim
/-! ### actual == due and repr(actual) == repr(due) -/
def opEqS (x y : W) (h : Hh) : R W := match x, y with
  | .d (.str a), .d (.str b) => .ok (.d (.bl (a == b))) h
  | _, _ => .no
theorem fop_eqS {K : PySem.W.Frag} {T : Tb} : FOp K T opEqS rEq := by
  intro Wx σ F ρ ih H x y v1 v2 Q hr r1 r2 hp
  unfold opEqS at hp
  split at hp
  · cases r1 with | d r1 => cases r2 with | d r2 => cases r1 with | str a za => cases r2 with | str b zb =>
      refine ⟨rfl, ?_⟩
      rw [dec_str, str_beq]
      exact hp.ok hr _ (.d (.bl _))
  · exact hp.elim
section
variable {X : Cx} {T : Tb} {Wx : WX} {e : Expr}
/-- a function that says less -/
theorem FE.ref {c c' : Cd} (h : FE X T Wx e c) (r : ∀ ev ih, c' ev ih = .no ∨ c' ev ih = c ev ih) : FE X T Wx e c' := PE.imp h fun σ H Q q => by
  obtain ⟨F, ρ, ev, ih, hr, re, hp⟩ := q
  refine ⟨F, ρ, ev, ih, hr, re, ?_⟩
  rcases r ev ih with e | e
  · rw [e] at hp; exact hp.elim
  · rw [e] at hp; exact hp
end
mutual
theorem eqv_refl : ∀ d : D, D.eqv d d = true
  | .non => by simp [D.eqv]
  | .bl _ => by simp [D.eqv]
  | .int _ => by simp [D.eqv]
  | .str _ => by simp [D.eqv]
  | .tup l => by simp only [D.eqv]; exact eqvL_refl l
  | .lst l => by simp only [D.eqv]; exact eqvL_refl l
theorem eqvL_refl : ∀ l : List D, eqvL l l = true
  | [] => by simp [eqvL]
  | d :: r => by simp only [eqvL, eqv_refl d, eqvL_refl r]; rfl
end
def cSame (i j : Nat) : Cd := fun e h => match e[i]?, e[j]? with
  | some (some x), some (some y) => match valD x h, valD y h with
    | some a, some b => if D.beq a b && canShow a then .ok (.d (.bl true)) h else if sh 64 a && sh 64 b && !(D.eqv a b) then .ok (.d (.bl false)) h else .no
    | _, _ => .no
  | _, _ => .no
def cSame' (i j : Nat) : Cd := cAnd (c2 (opEq false) (cv i) (cv j)) (c2 opEqS (cCl biRepr (aCons (cv i) aNil)) (cCl biRepr (aCons (cv j) aNil)))
theorem same_ref (i j : Nat) (e : Ev) (h : Hh) : cSame i j e h = .no ∨ cSame i j e h = cSame' i j e h := by
  unfold cSame cSame' cAnd c2 cv cCl aCons aNil
  cases e1 : e[i]? with
  | none => simp
  | some o1 =>
    cases o1 with
    | none => simp
    | some x =>
      cases e2 : e[j]? with
      | none => simp
      | some o2 =>
        cases o2 with
        | none => simp
        | some y =>
          simp only [R.bind_ok]
          cases v1 : valD x h with
          | none => simp
          | some a =>
            cases v2 : valD y h with
            | none => simp
            | some b =>
              dsimp only
              split
              · rename_i c
                rw [Bool.and_eq_true] at c
                obtain ⟨c1, c2⟩ := c
                have := (D.beq_iff a b).mp c1
                subst this
                right
                have c3 := c2
                unfold canShow at c3
                simp only [Bool.and_eq_true, decide_eq_true_eq] at c3
                have s64 : sh 64 a = true := sh_up 60 64 (by omega) a c3.1.1
                have q1 : opEq false x y h = .ok (.d (.bl true)) h := by
                  unfold opEq
                  rw [v1, v2]
                  simp [s64, eqv_refl]
                have q2 : biRepr [x] h = .ok (.d (.str (rp a))) h := by unfold biRepr; simp [v1, c2]
                have q3 : biRepr [y] h = .ok (.d (.str (rp a))) h := by unfold biRepr; simp [v2, c2]
                rw [q1]
                simp [tru, q2, q3, opEqS, e1, e2]
              · split
                · rename_i c
                  simp only [Bool.and_eq_true, Bool.not_eq_true'] at c
                  right
                  have q1 : opEq false x y h = .ok (.d (.bl false)) h := by
                    unfold opEq
                    rw [v1, v2]
                    simp [c.1.1, c.1.2, c.2]
                  rw [q1]
                  simp [tru]
                · left; rfl
theorem fe_same {X : Cx} {T : Tb} {Wx : WX} {e : Expr} {i j : Nat} (h : FE X T Wx e (cSame' i j)) : FE X T Wx e (cSame i j) := h.ref (same_ref i j)
end Fz
set_option Elab.async false
set_option linter.all false
set_option maxRecDepth 100000
set_option maxHeartbeats 2000000
/-! Fz: defs by tables of functions; the law's call. -/
namespace Fz
open PySem PySem.W L2 PyProof.Rows

/-- a def: n arguments, N slots -/
def mkFn (n N : Nat) (body : Cs) : Fn := fun ws h => if ws.length = n then match body (ws.map some ++ List.replicate (N - n) none) h with
  | .rt w h => .ok w h
  | .nx _ h => .ok (.d .non) h
  | .ex c p _ h => .ex c p h
  | _ => .no else .no
theorem RE.start {K : PySem.W.Frag} {F ρ : List Addr} {H : Hp} {ws : List W} {vs : List V} (r : RWs K F ρ H ws vs) (m : Nat) : RE K F ρ H (ws.map some ++ List.replicate m none) (vs.map some ++ List.replicate m none) := by
  refine ⟨by simp [r.length], fun i w q => ?_⟩
  by_cases hi : i < ws.length
  · rw [List.getElem?_append_left (by simpa using hi), List.getElem?_map] at q
    rw [List.getElem?_append_left (by rw [List.length_map, ← r.length]; exact hi), List.getElem?_map]
    cases e : ws[i]? with
    | none => rw [e] at q; cases q
    | some w' =>
      rw [e] at q
      cases q
      obtain ⟨v, e1, r1⟩ := r.get e
      exact ⟨v, by rw [e1]; rfl, r1⟩
  · rw [List.getElem?_append_right (by simpa using hi)] at q
    have := List.mem_of_getElem? q
    rw [List.mem_replicate] at this
    cases this.2
section
variable {P : Program} {w : World} {K : PySem.W.Frag} {mg : Str → Option Value} {base : Heap} {T : Tb}
/-- what a def's body is walked in -/
abbrev cxF (P : Program) (w : World) (K : PySem.W.Frag) (mg : Str → Option Value) (base : Heap) (N : List Str) (qual : Str) (sc : Scope) (f : Addr) (cdv : Value) (A : Around) (outer : List Env) (s : Shared) (H : Hp) (E : XK) : Cx := cxOf (L2.CX P w) P w K mg base N qual sc f cdv A outer s H E
abbrev wxF (E : XK) : WX := fun cls d _ H' => E cls d H'
theorem cg_of {k : Nat} {N ps : List Str} {qual : Str} {sc : Scope} {f : Addr} {cdv : Value} {A : Around} {outer : List Env} {s : Shared} {H : Hp} {E : XK} (S : FnScope N ps sc) (hr : Room k (A.deeper (envOfC qual sc s.heap.objs.size f cdv))) (hg : A.guards = some []) :
    Cg (cxF P w K mg base N qual sc f cdv A outer s H E) (wxF E) k where
  calm := rfl
  room := hr
  gd := hg
  tk := takes_of rfl rfl rfl rfl
  nd := S.nd
  po := passes_of rfl
theorem fn_of {k : Nat} {x qual : Str} {st : Stmt} {f : Addr} {fd : FuncData} {N ps : List Str} {code : Cs} (Fu : Fun K x qual st f fd) (S : FnScope N ps (defScope st))
    (hb : ∀ (cdv : Value) (A : Around) (outer : List Env) (s : Shared) (H : Hp) (E : XK), Cg (cxF P w K mg base N qual (defScope st) f cdv A outer s H E) (wxF E) k →
      FSs (cxF P w K mg base N qual (defScope st) f cdv A outer s H E) T (wxF E) (defBody st) code) :
    FnG P w K mg base (k + 1) f fd ps (spF K T ps.length (mkFn ps.length N.length code)) := by
  refine fnG_of Fu S (fun vs H Q E h => h.1) fun cdv A outer s H vs Q E hr hg h => ?_
  refine ⟨_, hb cdv A outer s H E (cg_of S hr hg), ?_⟩
  obtain ⟨hn, F, ρ, ws, ih, hh, rs, hp⟩ := h
  have hw : ws.length = ps.length := by rw [rs.length, hn]
  have hm : mkFn ps.length N.length code ws ih = match code (ws.map some ++ List.replicate (N.length - ps.length) none) ih with
      | .rt w h => .ok w h
      | .nx _ h => .ok (.d .non) h
      | .ex c p _ h => .ex c p h
      | _ => .no := by unfold mkFn; rw [if_pos hw] <;> rfl
  rw [hm] at hp
  refine ⟨F, ρ, ws.map some ++ List.replicate (N.length - ps.length) none, ih, hh, ?_, ?_⟩
  · have := RE.start rs (N.length - ps.length)
    unfold L2.start
    rw [hn]
    exact this
  cases e : code (ws.map some ++ List.replicate (N.length - ps.length) none) ih with
  | no => rw [e] at hp; exact hp.elim
  | bk _ _ => rw [e] at hp; exact hp.elim
  | ct _ _ => rw [e] at hp; exact hp.elim
  | nx e2 h2 => rw [e] at hp; exact fun ρ' H' σ' g hr2 re => hp ρ' H' g hr2 _ (.d .non)
  | rt w2 h2 => rw [e] at hp; exact fun ρ' H' v g hr2 rw' => hp ρ' H' g hr2 v rw'
  | ex c p e2 h2 => rw [e] at hp; exact fun ρ' H' σ' cls dx g hr2 re xr => hp ρ' H' cls dx g hr2 xr
end
/-! ### the law -/
def scr (ns : List Int) : W := .d (.lst (ns.map .int))
theorem RpL.scr {K M H} : ∀ ns : List Int, RpL K M H (ns.map .int) (ns.map V.int)
  | [] => .nil
  | n :: ns => .cons (.int n) (RpL.scr ns)
/-- nothing of the written part is a list -/
def NoLst (K : PySem.W.Frag) : Prop := ∀ a o, K.lookup a = some o → o.cls ≠ .type "list"
theorem noLst_of {K : PySem.W.Frag} (h : (K.all fun p => !(p.2.cls == .type "list")) = true) : NoLst K := by
  intro a o e
  have : (a, o) ∈ K := by
    induction K with
    | nil => cases e
    | cons p K ih =>
      obtain ⟨b, q⟩ := p
      rw [List.lookup_cons] at e
      split at e
      · rename_i hb
        cases e
        have := eq_of_beq hb
        subst this
        exact List.mem_cons_self
      · exact List.mem_cons_of_mem _ (ih (by rw [List.all_cons, Bool.and_eq_true] at h; exact h.2) e)
  have := List.all_eq_true.mp h _ this
  simpa using this
theorem callG {P : Program} {w : World} {K : PySem.W.Frag} {mg mb : Str → Option Value} {k : Nat} {fa a : Addr} {fd : FuncData} {x : Str} {T : Tb} {g : Fn} {s : Shared} {vs : List Value} {ns : List Int}
    (KX : K.In s.heap) (nl : NoLst K) (hns : s.heap.Ns mainGlobals mg) (hb : s.heap.Ns builtinsNs mb) (hbb : ∀ x : Str, x ≠ "__name__" → mb x = bootBuiltins x) (hlim : s.heap.NoLimit) (hg : s.gens = #[])
    (ha : s.heap.get? a = some { cls := .type "list", data := .seq vs.toArray }) (hi : IntsAre vs ns) (hl : ns.length ≤ sizeLine) (hr : Room k callerA)
    (F : ∀ base : Heap, K.In base → base.Ns mainGlobals mg → FnG P w K mg base k fa fd [x] (spF K T 1 g)) (hbind : ∀ (s : Shared) (u : Value), BindsTo s fd ⟨[u], []⟩ [(x, u)])
    (hv : ∃ h', g [scr ns] [] = .ok (.d (.bl true)) h') :
    codeAny (model P w) callerA (.call (.ref fa) ⟨[.ref a], []⟩) (fun r s' => r = .ok (.ret (.bool true)) ∧ OldK s.heap s'.heap ∧ s'.os = s.os ∧ AllBare s'.gens) s := by
  have hk : K.lookup a = none := by
    cases e : K.lookup a with
    | none => rfl
    | some o =>
      have := KX a o e
      rw [ha] at this
      cases this
      exact absurd rfl (nl a _ e)
  let ob : Obj := { cls := .type "list", data := .seq vs.toArray }
  let H : Hp := fun b => if b = a then some (.frz ob (.lst (ns.map V.int))) else none
  have hHa : H a = some (.frz ob (.lst (ns.map V.int))) := if_pos rfl
  have hHn : ∀ b, b ≠ a → H b = none := fun b n => if_neg n
  have hok : HOk P w H s.heap := fun b u z => by
    by_cases e : b = a
    · subst e
      rw [hHa] at z
      cases z
      exact ⟨ha, by rw [List.length_map]; exact hl, vs, _, vals_ints hi, ha⟩
    · rw [hHn b e] at z; cases z
  have base_of : ∀ {b : Addr} {o : Obj}, s.heap.get? b = some o → b ≠ a → (hidT s.heap H).get? b = some o := fun e n => hidT_get e (hHn _ n)
  have nsK : ∀ {b : Addr} {m : Str → Option Value}, s.heap.Ns b m → (hidT s.heap H).Ns b m := fun {b m} ⟨o, es, ep, e, d, r⟩ => ⟨o, es, ep, base_of e (fun z => by
    subst z
    rw [ha] at e
    cases e
    have d' : Data.seq vs.toArray _ = Data.dict es ep := d
    cases d'), d, r⟩
  have hKb : K.In (hidT s.heap H) := fun b o e => base_of (KX b o e) fun z => by
    subst z
    rw [hk] at e
    cases e
  have hM : L2.Mod K mg (hidT s.heap H) := ⟨hKb, nsK hns, ⟨mb, nsK hb, hbb⟩, let ⟨mc, h1, h2⟩ := hlim; ⟨mc, nsK h1, h2⟩⟩
  have e0 : Env0 P w K mg (hidT s.heap H) callerA [] s H := ⟨rfl, hM, fun b o e => of_hidT e, Nat.le_of_eq (hidT_size _ _), trivial, fun b hb => absurd (show b ∈ ([] : List Addr) from hb) (by simp), hok, .of_eq hg⟩
  have hsp : spF K T 1 g [.ref a] H (fun v _ => v = .bl true) fun _ _ _ => False := by
    obtain ⟨h', e⟩ := hv
    refine ⟨rfl, [], [], [scr ns], [], ⟨rfl, List.nodup_nil, fun a m => absurd m (by simp), fun a m => absurd m (by simp), fun n o q => by simp at q, fun a m => absurd m (by simp)⟩, ?_, ?_⟩
    · refine .cons (.d (.lst ⟨.inr ⟨ob, hHa⟩, by simp⟩ (by rw [List.length_map]; exact hl) (RpL.scr ns))) .nil
    · rw [e]
      intro ρ' H' _ _ v r
      cases r with | d r => cases r; rfl
  refine codeAny_mono ((F _ hKb (nsK hns)).run callerA [] s H ⟨[.ref a], []⟩ [.ref a] [.ref a] _ _ hr rfl e0 (hbind s (.ref a)) (.cons rfl .nil) hsp) fun r s' h => ?_
  cases r with
  | error e =>
    obtain ⟨_, _, _, _, _, _, _, _, _, _, _, _, h⟩ := h
    exact h.elim
  | ok fl =>
    cases fl with
    | next => exact False.elim h
    | brk => exact False.elim h
    | cont => exact False.elim h
    | ret u =>
      obtain ⟨v, H', os, bare, un, hok', r', q⟩ := h
      have q' : v = .bl true := q
      subst q'
      obtain rfl : u = Value.bool true := r'
      refine ⟨rfl, OldK.of_keep fun b o e => ?_, os, bare⟩
      by_cases z : b = a
      · subst z
        have z2 := un.frzs b ob _ hHa
        obtain ⟨e1, _⟩ := hok b _ hHa
        obtain ⟨e2, _⟩ := hok' b _ z2
        rw [e] at e1
        cases e1
        exact e2
      · exact un.keep b o e (hHn b z) (by intro z; exact absurd (show b ∈ ([] : List Addr) from z) (by simp)) (by simp)

theorem walkG {l : PySem.W.OpenLaw} {n k : Nat} {q : Program} {loose : List Str} {XP : (Str → Option Value) → Heap → Prop} {YP : World → Heap → Prop} {d : DefRec} {K : Params → PySem.W.Frag} {x : Str} {g : Fn}
    (hn : l.most = some n) (hn2 : n ≤ sizeLine) (hdf : d.params.defaults = []) (hr : Room k callerA)
    (hY : ∀ (w : World) (h : Heap), YP w h → (K w.params).In h) (nl : ∀ w : World, NoLst (K w.params))
    (F : ∀ (w : World) (mg : Str → Option Value) (fa : Addr) (h : Heap), (K w.params).In h → h.Ns mainGlobals mg → mg d.name = some (.ref fa) →
      ∃ (fd : FuncData) (T : Tb), (∀ (s : Shared) (u : Value), BindsTo s fd ⟨[u], []⟩ [(x, u)]) ∧
        ∀ base : Heap, (K w.params).In base → base.Ns mainGlobals mg → FnG l.prog w (K w.params) mg base k fa fd [x] (spF (K w.params) T 1 g))
    (hv : ∀ ns : List Int, ns.length ≤ n → (∀ z ∈ ns, Builtin.Int.intBits z ≤ 1048576) → ∃ h', g [scr ns] [] = .ok (.d (.bl true)) h') :
    PySem.W.WalkO q loose XP YP l.row.toRowW d [] (fun f vs => PySem.call f vs) := by
  refine Att.attach_callB hn hdf fun w s₀ s₁ mg mb fa o pm cd doc a vs ns G Y ho hd hcd hmg hobj hints hlen hbits hg => ?_
  have KX := hY w _ Y
  obtain ⟨fd, T, hb, hF⟩ := F w mg fa _ KX G.T.g hmg
  exact callG KX (nl w) G.T.g G.T.b G.T.builtins G.T.nolimit hg hobj hints (Nat.le_trans hlen hn2) hr hF hb (hv ns hlen hbits)
end Fz
set_option Elab.async false
set_option linter.all false
set_option maxRecDepth 100000
set_option maxHeartbeats 2000000
/-! Fz: the judgements' rules, their premises filled by rfl. -/
namespace Fz
open PySem PySem.W L2 PyProof.Rows

/-- what stands at a def's name -/
structure Inf (K : PySem.W.Frag) (mg : Str → Option Value) (x : Str) (f : Addr) (fd : FuncData) (ps : List Str) : Prop where
  mg : mg x = some (.ref f)
  kp : PySem.W.keepIn K (.ref f) = true
  bn : Binds K fd ps []
section
variable {X : Cx} {T : Tb} {Wx : WX} {k : Nat}
theorem Cg.hu (G : Cg X Wx k) : X.A.units + 66 < cLine := by have := G.room.un; omega
theorem Cg.hu1 (G : Cg X Wx k) : X.A.units + 1 < cLine := by have := G.room.un; omega
theorem Cg.hu64 (G : Cg X Wx k) : X.A.units + 64 < cLine := by have := G.room.un; omega
theorem Cg.hu65 (G : Cg X Wx k) : X.A.units + 65 < cLine := by have := G.room.un; omega
theorem Cg.mono {j : Nat} (G : Cg X Wx k) (h : j ≤ k) : Cg X Wx j := ⟨G.calm, G.room.mono h, G.gd, G.tk, G.nd, G.po⟩
/-- within a comprehension -/
theorem Cg.blk (G : Cg X Wx k) (s : Shared) (H : Hp) (scope : Scope) (cenv : Env) (fp : List Addr) : Cg (X.blk s H scope cenv fp) W0 k where
  calm := G.calm
  room := G.room
  gd := G.gd
  tk := fun u s' ⟨a, B, sI, pins, σ, H, cls, d, e, I, nb, up, sky, na, os, ag, w⟩ => w
  nd := G.nd
  po := PassesOwn.never
variable {e a b c o : Expr} {es : List Expr} {ca cb cd co : Cd} {aa : Ca} {pos p p1 p2 apos cpos : Pos} {x y z : Str} {i j l m n : Nat}
theorem e_v (i : Nat) (hN : X.N[i]? = some x := by rfl) (hv : Vis X.env.scope x := by first | exact Or.inl rfl | exact Or.inr (Or.inl rfl) | exact Or.inr (Or.inr rfl)) (hd : (x == ("__debug__" : Str)) = false := by decide)
    (hcd : (x == ("__classdict__" : Str)) = false := by decide) : FE X T Wx (.Name x pos) (cv i) := fe_v (pe_var hN hv hd hcd)
theorem e_int {i : Int} {j : Nat} : FE X T Wx (.Constant (.int i) j pos) (cc (.int i)) := fe_c (.int i) pe_int
theorem e_bl {b : Bool} {j : Nat} : FE X T Wx (.Constant (.bool b) j pos) (cc (.bl b)) := fe_c (.bl b) pe_bl
theorem e_non {j : Nat} : FE X T Wx (.Constant .none j pos) (cc .non) := fe_c .non pe_non
theorem e_str {j : Nat} (l : List Nat) (h : toStr l = x) (z : l.length ≤ sizeLine) : FE X T Wx (.Constant (.str x) j pos) (cc (.str l)) := by
  subst h
  exact fe_c (.str l z) pe_str
theorem e_add (m : Bool) (ha : FE X T Wx a ca) (hb : FE X T Wx b cb) : FE X T Wx (.BinOp a .Add b pos) (c2 (opAdd m) ca cb) := fe_op opr_add fop_add ha hb
theorem e_sub (ha : FE X T Wx a ca) (hb : FE X T Wx b cb) : FE X T Wx (.BinOp a .Sub b pos) (c2 opSub ca cb) := fe_op op_sub fop_sub ha hb
theorem e_mul (m : Bool) (ha : FE X T Wx a ca) (hb : FE X T Wx b cb) : FE X T Wx (.BinOp a .Mult b pos) (c2 (opMul m) ca cb) := fe_op opr_mul fop_mul ha hb
theorem e_fdiv (ha : FE X T Wx a ca) (hb : FE X T Wx b cb) : FE X T Wx (.BinOp a .FloorDiv b pos) (c2 opFdiv ca cb) := fe_op op_fdiv fop_fdiv ha hb
theorem e_mod (ha : FE X T Wx a ca) (hb : FE X T Wx b cb) : FE X T Wx (.BinOp a .Mod b pos) (c2 opMod ca cb) := fe_op op_mod fop_mod ha hb
theorem e_pow (ha : FE X T Wx a ca) (hb : FE X T Wx b cb) : FE X T Wx (.BinOp a .Pow b pos) (c2 opPow ca cb) := fe_op op_pow fop_pow ha hb
def opNeg (x : W) (h : Hh) : R W := match x with
  | .d (.int i) => .ok (.d (.int (-i))) h
  | _ => .no
theorem fun_neg {K : PySem.W.Frag} {T : Tb} : FUn K T opNeg (rU fun i => .int (-i)) := by
  intro Wx σ F ρ ih H x v1 Q hr r1 hp
  unfold opNeg at hp
  split at hp
  · cases r1 with | d r1 => cases r1; exact ⟨_, rfl, hp.ok hr _ (.d (.int _))⟩
  · exact hp.elim
theorem e_neg (ha : FE X T Wx a ca) : FE X T Wx (.UnaryOp .USub a pos) (c1 opNeg ca) := fe_un un_neg fun_neg ha
/-- comparisons: o the operator, op its function -/
structure Cmp (X : Cx) (T : Tb) (o : CmpOp) (op : W → W → Hh → R W) : Prop where
  ex : ∃ r : R2, OpR X (compareOp o) r ∧ FOp X.K T op r
theorem k_eq (G : Cg X Wx k) : Cmp X T .Eq (opEq false) := ⟨_, op_eqD G.hu64, fop_eq⟩
theorem k_ne (G : Cg X Wx k) : Cmp X T .NotEq (opEq true) := ⟨_, op_neD G.hu64, fop_ne⟩
theorem k_eqS : Cmp X T .Eq opEqS := ⟨_, op_eq, fop_eqS⟩
theorem k_lt : Cmp X T .Lt opLt := ⟨_, op_lt, fop_C⟩
theorem k_le : Cmp X T .LtE opLe := ⟨_, op_le, fop_C⟩
theorem k_gt : Cmp X T .Gt opGt := ⟨_, op_gt, fop_C⟩
theorem k_ge : Cmp X T .GtE opGe := ⟨_, op_ge, fop_C⟩
theorem k_in (G : Cg X Wx k) : Cmp X T .In (opIn false) := ⟨_, opr_in G.hu65, fop_in⟩
theorem k_nin (G : Cg X Wx k) : Cmp X T .NotIn (opIn true) := ⟨_, opr_notin G.hu65, fop_in⟩
theorem k_isN : Cmp X T .Is (opNone false) := ⟨_, op_isN, fop_isN⟩
theorem k_notN : Cmp X T .IsNot (opNone true) := ⟨_, op_notN, fop_notN⟩
theorem e_cmp {o : CmpOp} {op : W → W → Hh → R W} (hc : Cmp X T o op) (ha : FE X T Wx a ca) (hb : FE X T Wx b cb) (hm : behindInMarks o b = false := by rfl) : FE X T Wx (.Compare a [o] [b] pos) (c2 op ca cb) := by
  obtain ⟨r, h1, h2⟩ := hc.ex
  exact fe_cmp h1 h2 hm ha hb
def bC (op : W → W → Hh → R W) (ca cb : Cd) : Cb := fun e h => asB (c2 op ca cb e h)
theorem t_cmp {o : CmpOp} {op : W → W → Hh → R W} (hc : Cmp X T o op) (ha : FE X T Wx a ca) (hb : FE X T Wx b cb) (hm : behindInMarks o b = false := by rfl) : FT' X T Wx (.Compare a [o] [b] pos) (bC op ca cb) := by
  obtain ⟨r, h1, h2⟩ := hc.ex
  exact ft_cmp h1 h2 hm ha hb
theorem e_ch {o o' : CmpOp} {op op' : W → W → Hh → R W} (h1 : Cmp X T o op) (h2 : Cmp X T o' op') (ha : FE X T Wx a ca) (hb : FE X T Wx b cb) (hc : FE X T Wx c cd) (hm : lastMarks [o, o'] [b, c] = false := by rfl) : FE X T Wx (.Compare a [o, o'] [b, c] pos) (cch op op' ca cb cd) := by
  obtain ⟨r, a1, a2⟩ := h1.ex
  obtain ⟨r', b1, b2⟩ := h2.ex
  exact fe_chain a1 a2 b1 b2 hm ha hb hc
def bCh (op op' : W → W → Hh → R W) (ca cb cd : Cd) : Cb := fun e h => asB (cch op op' ca cb cd e h)
theorem t_ch {o o' : CmpOp} {op op' : W → W → Hh → R W} (h1 : Cmp X T o op) (h2 : Cmp X T o' op') (ha : FE X T Wx a ca) (hb : FE X T Wx b cb) (hc : FE X T Wx c cd) (hm : lastMarks [o, o'] [b, c] = false := by rfl) : FT' X T Wx (.Compare a [o, o'] [b, c] pos) (bCh op op' ca cb cd) := by
  obtain ⟨r, a1, a2⟩ := h1.ex
  obtain ⟨r', b1, b2⟩ := h2.ex
  exact ft_chain a1 a2 b1 b2 hm ha hb hc
theorem e_din (neg : Bool) (G : Cg X Wx k) (ha : FE X T Wx a ca) (hb : FE X T Wx b cb) (hm : behindInMarks .In b = false := by rfl) : FE X T Wx (.Compare a [.In] [b] pos) (c2 (opDin false) ca cb) := fe_din G.hu1 hm ha hb
theorem e_dnin (G : Cg X Wx k) (ha : FE X T Wx a ca) (hb : FE X T Wx b cb) (hm : behindInMarks .NotIn b = false := by rfl) : FE X T Wx (.Compare a [.NotIn] [b] pos) (c2 (opDin true) ca cb) := fe_dnin G.hu1 hm ha hb
theorem t_din (G : Cg X Wx k) (ha : FE X T Wx a ca) (hb : FE X T Wx b cb) (hm : behindInMarks .In b = false := by rfl) : FT' X T Wx (.Compare a [.In] [b] pos) (bC (opDin false) ca cb) := ft_din G.hu1 hm ha hb
theorem t_dnin (G : Cg X Wx k) (ha : FE X T Wx a ca) (hb : FE X T Wx b cb) (hm : behindInMarks .NotIn b = false := by rfl) : FT' X T Wx (.Compare a [.NotIn] [b] pos) (bC (opDin true) ca cb) := ft_dnin G.hu1 hm ha hb
theorem t_tru (h : FE X T Wx e ca) (he : ∀ whole, isTrue e X.env whole = (do let v ← whole; standAt e.pos; holding [v] (truthy v)) := by intro _; rfl) : FT' X T Wx e (cT ca) := ft_truth he h
theorem a_cons (h : FE X T Wx e ca) (hr : FA X T Wx es aa) (hs : starEach (e :: es) X.env = (false, eval e X.env) :: starEach es X.env := by rfl) : FA X T Wx (e :: es) (aCons ca aa) := fa_cons hs h hr
theorem e_ix (ha : FE X T Wx a ca) (hb : FE X T Wx b cb) (hs : PlainIx b := by intro _ _; rfl) : FE X T Wx (.Subscript a b pos) (c2 opIx ca cb) := fe_ix hs ha hb
theorem e_dx (G : Cg X Wx k) (ha : FE X T Wx a ca) (hb : FE X T Wx b cb) (hs : NoSl b := by intro _ _; rfl) : FE X T Wx (.Subscript a b pos) (c2 opDx ca cb) := fe_dx G.hu1 hs ha hb
/-! calls -/
theorem e_call (pu : Bool) {f : Addr} {fd : FuncData} {ps : List Str} {g : Fn} (G : Cg X Wx (k + 1)) (F : FnG X.prog X.w X.K X.mg X.base k f fd ps (spF X.K T n g)) (I : Inf X.K X.mg x f fd ps) (ha : FA X T Wx (e :: es) aa) (hg : Gl X x := by rfl)
    (hdb : (x == ("__debug__" : Str)) = false := by decide) (he : starEach (e :: es) X.env = (false, eval e X.env) :: starEach es X.env := by rfl) (hpl : (backTo pos (starEach es X.env)).any (·.1) = false := by rfl) :
    FE X T Wx (.Call (.Name x p) (e :: es) [] pos) (cCall pu n g aa) := fe_call (G.mono (Nat.le_succ k)) F hg I.mg I.kp I.bn hdb he hpl ha
theorem e_call0 (pu : Bool) {f : Addr} {fd : FuncData} {ps : List Str} {g : Fn} (G : Cg X Wx (k + 1)) (F : FnG X.prog X.w X.K X.mg X.base k f fd ps (spF X.K T n g)) (I : Inf X.K X.mg x f fd ps) (hg : Gl X x := by rfl)
    (hdb : (x == ("__debug__" : Str)) = false := by decide) : FE X T Wx (.Call (.Name x p) [] [] pos) (cCall pu n g aNil) := fe_call0 (G.mono (Nat.le_succ k)) F hg I.mg I.kp I.bn hdb
/-- a built-in function of a name -/
structure Bi (X : Cx) (T : Tb) (x : Str) (op : List W → Hh → R W) : Prop where
  ex : (∃ (id : String) (r : List V → Hp → VK → Prop), CallR X (.builtin id) r ∧ FCl X.K T op r ∧ bootBuiltins x = some (.builtin id)) ∨ ∃ (id : String) (r : List V → Hp → VK → Prop), CallR X (.type id) r ∧ FCl X.K T op r ∧ bootBuiltins x = some (.type id)
  nn : x ≠ "__name__"
  nd : (x == ("__debug__" : Str)) = false
theorem u_len : Bi X T "len" biLen := ⟨.inl ⟨_, _, cr_len, fc_len, by decide +kernel⟩, by decide, by decide⟩
theorem u_abs : Bi X T "abs" biAbs := ⟨.inl ⟨_, _, call_abs, fc_abs, by decide +kernel⟩, by decide, by decide⟩
theorem u_int : Bi X T "int" biInt := ⟨.inr ⟨_, _, call_int1, fc_int, by decide +kernel⟩, by decide, by decide⟩
theorem u_list (m : Bool) : Bi X T "list" (biList m) := ⟨.inr ⟨_, _, call_list_of, fc_list, by decide +kernel⟩, by decide, by decide⟩
theorem u_tuple : Bi X T "tuple" biTuple := ⟨.inr ⟨_, _, call_tuple_of, fc_tuple, by decide +kernel⟩, by decide, by decide⟩
theorem u_all (G : Cg X Wx k) : Bi X T "all" biAll := ⟨.inl ⟨_, _, cr_all G.calm, fc_all, by decide +kernel⟩, by decide, by decide⟩
theorem u_any (G : Cg X Wx k) : Bi X T "any" biAny := ⟨.inl ⟨_, _, cr_any G.calm, fc_any, by decide +kernel⟩, by decide, by decide⟩
theorem u_max (G : Cg X Wx k) : Bi X T "max" biMax := ⟨.inl ⟨_, _, cr_max G.calm, fc_max, by decide +kernel⟩, by decide, by decide⟩
theorem u_min (G : Cg X Wx k) : Bi X T "min" biMin := ⟨.inl ⟨_, _, cr_min G.calm, fc_min, by decide +kernel⟩, by decide, by decide⟩
theorem u_sum (G : Cg X Wx k) : Bi X T "sum" biSum := ⟨.inl ⟨_, _, cr_sum G.calm, fc_sum, by decide +kernel⟩, by decide, by decide⟩
theorem u_max2 (G : Cg X Wx k) : Bi X T "max" biMax2 := ⟨.inl ⟨_, _, call_max2 G.calm, fc_max2, by decide +kernel⟩, by decide, by decide⟩
theorem u_sort (m : Bool) (G : Cg X Wx k) : Bi X T "sorted" (biSort m) := ⟨.inl ⟨_, _, cr_sortD G.hu, fc_sort, by decide +kernel⟩, by decide, by decide⟩
theorem u_repr (G : Cg X Wx k) : Bi X T "repr" biRepr := ⟨.inl ⟨_, _, cr_repr G.gd G.hu64, fc_repr, by decide +kernel⟩, by decide, by decide⟩
theorem e_bi {op : List W → Hh → R W} (B : Bi X T x op) (hm : X.mg x = none) (ha : FA X T Wx (e :: es) aa) (hg : Gl X x := by rfl) (he : starEach (e :: es) X.env = (false, eval e X.env) :: starEach es X.env := by rfl)
    (hpl : (backTo pos (starEach es X.env)).any (·.1) = false := by rfl) : FE X T Wx (.Call (.Name x p) (e :: es) [] pos) (cCl op aa) := by
  rcases B.ex with ⟨id, r, h1, h2, h3⟩ | ⟨id, r, h1, h2, h3⟩
  · exact fe_bi h1 h2 hg hm h3 B.nn B.nd he hpl ha
  · exact fe_ty h1 h2 hg hm h3 B.nn B.nd he hpl ha
theorem e_isi (t : Ty) (hm : X.mg "isinstance" = none) (hmt : X.mg t.nm = none) (h : FE X T Wx e ca) (hy : Str.ofString t.nm = y := by rfl) (hg : Gl X "isinstance" := by rfl) (hgt : Gl X t.nm := by rfl)
    (he : starEach (e :: [.Name t.nm p2]) X.env = (false, eval e X.env) :: starEach [.Name t.nm p2] X.env := by rfl) (he2 : starEach [.Name t.nm p2] X.env = (false, eval (.Name t.nm p2) X.env) :: starEach [] X.env := by rfl)
    (hpl : (backTo pos (starEach [.Name t.nm p2] X.env)).any (·.1) = false := by rfl) : FE X T Wx (.Call (.Name "isinstance" p) [e, .Name y p2] [] pos) (cIsi t ca) := by
  subst hy
  refine fe_isi hg hm (by decide +kernel) (by decide) (by decide) ?_ he he2 hpl h
  cases t
  · exact pe_bltn (u := .type "int") hgt hmt (by decide +kernel) rfl (by decide) (by decide)
  · exact pe_bltn (u := .type "bool") hgt hmt (by decide +kernel) rfl (by decide) (by decide)
  · exact pe_bltn (u := .type "str") hgt hmt (by decide +kernel) rfl (by decide) (by decide)
  · exact pe_bltn (u := .type "tuple") hgt hmt (by decide +kernel) rfl (by decide) (by decide)
  · exact pe_bltn (u := .type "list") hgt hmt (by decide +kernel) rfl (by decide) (by decide)
/-! slices -/
theorem e_lr1 (m : Bool) {q pos1 : Pos} (G : Cg X Wx k) (hml : X.mg "list" = none) (hm : X.mg "range" = none) (ha : FE X T Wx a ca) (hl : Gl X "list" := by rfl) (hg : Gl X "range" := by rfl)
    (na : starEach [Expr.Call (.Name "range" p) [a] [] pos] X.env = (false, eval (Expr.Call (.Name "range" p) [a] [] pos) X.env) :: starEach [] X.env := by rfl) (na2 : starEach [a] X.env = (false, eval a X.env) :: starEach [] X.env := by rfl) :
    FE X T Wx (.Call (.Name "list" q) [.Call (.Name "range" p) [a] [] pos] [] pos1) (cLr m (aCons ca aNil)) := fe_lr1 G.calm hl hml hg hm na na2 ha
theorem e_lr2 (m : Bool) {q pos1 : Pos} (G : Cg X Wx k) (hml : X.mg "list" = none) (hm : X.mg "range" = none) (ha : FE X T Wx a ca) (hb : FE X T Wx b cb) (hl : Gl X "list" := by rfl) (hg : Gl X "range" := by rfl)
    (na : starEach [Expr.Call (.Name "range" p) [a, b] [] pos] X.env = (false, eval (Expr.Call (.Name "range" p) [a, b] [] pos) X.env) :: starEach [] X.env := by rfl) (na2 : starEach [a, b] X.env = (false, eval a X.env) :: starEach [b] X.env := by rfl)
    (nb : starEach [b] X.env = (false, eval b X.env) :: starEach [] X.env := by rfl) (hpl : (backTo pos (starEach [b] X.env)).any (·.1) = false := by rfl) :
    FE X T Wx (.Call (.Name "list" q) [.Call (.Name "range" p) [a, b] [] pos] [] pos1) (cLr m (aCons ca (aCons cb aNil))) := fe_lr2 G.calm hl hml hg hm na na2 nb hpl ha hb
/-! methods of lists -/
structure Lm (X : Cx) (T : Tb) (name : Str) (op : W → List W → Hh → R W) : Prop where
  ex : ∃ (id : String) (r : V → List V → Hp → VK → Prop), Slot "list" name id ∧ typeOf (.builtin id) = pure (.type "method_descriptor") ∧ MtR X id r ∧ FMt X.K T op r
theorem l_append : Lm X T "append" mAppend := ⟨_, _, PySem.F.slot_list_append, PySem.F.type_list_append, mt_append, fm_append⟩
theorem l_extend : Lm X T "extend" mExtend := ⟨_, _, PySem.F.slot_list_extend, PySem.F.type_list_extend, mt_extR, fm_extend⟩
theorem l_index (G : Cg X Wx k) : Lm X T "index" mIndex := ⟨_, _, PySem.F.slot_list_index, PySem.F.type_list_index, mt_indexD G.hu65, fm_index⟩
theorem l_pop : Lm X T "pop" mPop := ⟨_, _, PySem.F.slot_list_pop, PySem.F.type_list_pop, mt_pop, fm_pop⟩
theorem e_lm {op : W → List W → Hh → R W} (L : Lm X T x op) (ho : FE X T Wx o co) (ha : FA X T Wx (e :: es) aa) (hbase : attributeBase o x X.env (eval o X.env) = eval o X.env := by rfl)
    (hfew : ((backTo cpos (starEach (e :: es) X.env)).all (fun x => !x.1) && (backToKw cpos (keywordEach [] X.env)).all (fun x => x.1.isSome)
      && decide ((e :: es).length + ([] : List Keyword).length + (if ([] : List Keyword).isEmpty then 0 else 1) < 30)) = true := by rfl)
    (hline : (apos.endLine == cpos.line) = true := by rfl) (hs : starEach (e :: es) X.env = (false, eval e X.env) :: starEach es X.env := by rfl) (hplain : (backTo cpos (starEach es X.env)).any (·.1) = false := by rfl) :
    FE X T Wx (.Call (.Attribute o x apos) (e :: es) [] cpos) (cLm op co aa) := by
  obtain ⟨id, r, h1, h2, h3, h4⟩ := L.ex
  exact fe_lm h1 h2 h3 h4 hbase hfew hline hs hplain ho ha
theorem e_lm0 {op : W → List W → Hh → R W} (L : Lm X T x op) (ho : FE X T Wx o co) (hbase : attributeBase o x X.env (eval o X.env) = eval o X.env := by rfl)
    (hline : (apos.endLine == cpos.line) = true := by rfl) : FE X T Wx (.Call (.Attribute o x apos) [] [] cpos) (cLm op co aNil) := by
  obtain ⟨id, r, h1, h2, h3, h4⟩ := L.ex
  exact fe_lm0 h1 h2 h3 h4 hbase hline ho
/-! comprehensions, loops -/
theorem g_n (i : Nat) (G : Cg X Wx k) (hi : X.N[i]? = some x := by rfl) (hx : Loc X.env.scope x := by first | exact .inl rfl | exact .inr rfl) (hf : X.fn x = true ∨ X.env.scope.names.lookup x = some .local := by first | exact .inl rfl | exact .inr rfl) :
    FG X T (.Name x pos) [i] (tN i) := fg_n (pg_name G.nd hi hx hf)
theorem gs_cons {tg : Expr} {tgs : List Expr} {is js : List Nat} {ta : Ct} {tb : Cts} (h1 : FG X T tg is ta) (h2 : FGs X T tgs js tb) (hs : (assignEach (tg :: tgs) X.env).map (·.2) = assign tg X.env :: (assignEach tgs X.env).map (·.2) := by rfl) : FGs X T (tg :: tgs) (is ++ js) (tCns ta tb) := fgs_cons hs h1 h2
theorem g_t (G : Cg X Wx k) {tgs : List Expr} {is : List Nat} {tb : Cts} (ln : Len tb n) (h : FGs X T tgs is tb) (hn : (assignEach tgs X.env).length = n := by rfl) (hst : (assignEach tgs X.env).findIdx? (·.1) = none := by rfl) : FG X T (.Tuple tgs j pos) is (tTp tb) := fg_t G.calm ln hn hst h
theorem g_l (G : Cg X Wx k) {tgs : List Expr} {is : List Nat} {tb : Cts} (ln : Len tb n) (h : FGs X T tgs is tb) (hn : (assignEach tgs X.env).length = n := by rfl) (hst : (assignEach tgs X.env).findIdx? (·.1) = none := by rfl) : FG X T (.Tuple tgs j pos) is (tLs tb) := fg_l G.calm ln hn hst h
theorem y_t (G : Cg X Wx k) {tgs : List Expr} {is : List Nat} {tb : Cts} (ln : Len tb n) (h : FGs X T tgs is tb) (hn : (assignEach tgs X.env).length = n := by rfl) (hst : (assignEach tgs X.env).findIdx? (·.1) = none := by rfl) : FY X T (.Tuple tgs j pos) is (yT tb) := fy_t G.calm ln hn hst h
variable {tg iter elt : Expr} {ifs : List Expr}
theorem i_r1 (hm : X.mg "range" = none) (ha : FE X T Wx a ca) (hg : Gl X "range" := by rfl) (hs : starEach [a] X.env = [(false, eval a X.env)] := by rfl) (hc : starEach [a] X.env = (false, eval a X.env) :: starEach [] X.env := by rfl) :
    FI X T Wx tg (.Call (.Name "range" p) [a] [] pos) (cR1 (aCons ca aNil)) := fi_r1 (fun _ h => pi_range1 hg hm h hs) (fa_cons hc ha fa_nil)
theorem i_r2 (hm : X.mg "range" = none) (ha : FE X T Wx a ca) (hb : FE X T Wx b cb) (hg : Gl X "range" := by rfl) (hs : starEach [a, b] X.env = [(false, eval a X.env), (false, eval b X.env)] := by rfl) (hs2 : starEach [b] X.env = [(false, eval b X.env)] := by rfl)
    (hc : starEach [a, b] X.env = (false, eval a X.env) :: starEach [b] X.env := by rfl) (hc2 : starEach [b] X.env = (false, eval b X.env) :: starEach [] X.env := by rfl) :
    FI X T Wx tg (.Call (.Name "range" p) [a, b] [] pos) (cR2 (aCons ca (aCons cb aNil))) := fi_r2 (fun _ h => pi_range2 hg hm h hs hs2) (fa_cons hc ha (fa_cons hc2 hb fa_nil))
theorem e_lc (mt : Bool) {scope : Scope} (own : List (Str × Nat)) {is : List Nat} {ci : Ci} {t : Cy} {q : Cb} (G : Cg X Wx k) (ok : blkC X.N X.env.scope scope own = true) (his : ∀ j ∈ is, j ∈ own.map (·.2)) (hi : FI X T Wx tg iter ci)
    (hg : ∀ (s : Shared) (H : Hp) (C : Addr) (cl : List (Str × Addr)) (fp : List Addr), Cg (X.blk s H scope (compEnvC scope cl C X.env) fp) W0 k → FY (X.blk s H scope (compEnvC scope cl C X.env) fp) T tg is t)
    (ht : ∀ (s : Shared) (H : Hp) (C : Addr) (cl : List (Str × Addr)) (fp : List Addr), Cg (X.blk s H scope (compEnvC scope cl C X.env) fp) W0 k → FTs (X.blk s H scope (compEnvC scope cl C X.env) fp) T W0 ifs q)
    (he : ∀ (s : Shared) (H : Hp) (C : Addr) (cl : List (Str × Addr)) (fp : List Addr), Cg (X.blk s H scope (compEnvC scope cl C X.env) fp) W0 k → FE (X.blk s H scope (compEnvC scope cl C X.env) fp) T W0 elt ca) (hs : ∀ x, foldedSetIterable iter X.env x = pure x := by intro _; rfl) :
    FE X T Wx (.ListComp elt [⟨tg, iter, ifs, 0⟩] scope pos) (cLc mt (own.map (·.2)) ci t q ca) := fe_lc G.calm G.nd (blkOk_by ok) his hs hi (fun s H C cl fp => hg s H C cl fp (G.blk s H _ _ fp)) (fun s H C cl fp => ht s H C cl fp (G.blk s H _ _ fp)) (fun s H C cl fp => he s H C cl fp (G.blk s H _ _ fp))
theorem s_setLc (i : Nat) (mt : Bool) {y : Str} {py spos : Pos} {scope : Scope} (own : List (Str × Nat)) {is : List Nat} {ci : Ci} {t : Cy} {q : Cb} (G : Cg X Wx k) (ok : blkC X.N X.env.scope scope own = true) (his : ∀ j ∈ is, j ∈ own.map (·.2)) (ha : (scope.names.any fun (n, k) => n == y && (k == .local || k == .cell)) = false) (hi : FI X T Wx tg iter ci)
    (hg : ∀ (s : Shared) (H : Hp) (C : Addr) (cl : List (Str × Addr)) (fp : List Addr), Cg (X.blk s H scope (compEnvC scope cl C X.env) fp) W0 k → FY (X.blk s H scope (compEnvC scope cl C X.env) fp) T tg is t)
    (ht : ∀ (s : Shared) (H : Hp) (C : Addr) (cl : List (Str × Addr)) (fp : List Addr), Cg (X.blk s H scope (compEnvC scope cl C X.env) fp) W0 k → FTs (X.blk s H scope (compEnvC scope cl C X.env) fp) T W0 ifs q)
    (he : ∀ (s : Shared) (H : Hp) (C : Addr) (cl : List (Str × Addr)) (fp : List Addr), Cg (X.blk s H scope (compEnvC scope cl C X.env) fp) W0 k → FE (X.blk s H scope (compEnvC scope cl C X.env) fp) T W0 elt ca) (hk : X.env.scope.kind = .function := by rfl) (hy : X.N[i]? = some y := by rfl) (hyl : X.env.scope.names.lookup y = some .local := by rfl) (hl : (py.line == pos.line) = true := by rfl)
    (hs : ∀ x, foldedSetIterable iter X.env x = pure x := by intro _; rfl) :
    FS X T Wx (.Assign [.Name y py] (.ListComp elt [⟨tg, iter, ifs, 0⟩] scope pos) spos) (sAsg (cLc mt (own.map (·.2)) ci t q ca) (tN i)) := fs_setLc G.calm G.nd hy hyl (sw_true hk hyl hl ha) (blkOk_by ok) his hs hi (fun s H C cl fp => hg s H C cl fp (G.blk s H _ _ fp)) (fun s H C cl fp => ht s H C cl fp (G.blk s H _ _ fp)) (fun s H C cl fp => he s H C cl fp (G.blk s H _ _ fp))
/-! statements -/
variable {cs : Cs} {st : Stmt} {sts body : List Stmt}
theorem s_expr (h : FE X T Wx e ca) (hs : swapsWith e none pos.line X.env = pure false := by rfl) : FS X T Wx (.Expr e pos) (sExpr ca) := fs_expr hs h
theorem s_set (i : Nat) (G : Cg X Wx k) (he : FE X T Wx e ca) (hi : X.N[i]? = some x := by rfl) (hx : Loc X.env.scope x := by first | exact .inl rfl | exact .inr rfl) (hs : swapsWith e (some (.Name x p)) pos.line X.env = pure false := by rfl)
    (hf : X.fn x = true ∨ X.env.scope.names.lookup x = some .local := by first | exact .inl rfl | exact .inr rfl) : FS X T Wx (.Assign [.Name x p] e pos) (sAsg ca (tN i)) := fs_set (fun _ h => ps_set G.nd hi hx h hs hf) he
theorem s_asg {is : List Nat} {t : Ct} (he : FE X T Wx e ca) (hg : FG X T tg is t) (hs : swapsWithSole [tg] e pos.line X.env = pure false := by rfl) (hw : swappedStores [tg] e X.env = pure none := by rfl) (h1 : (assignEach [tg] X.env).map (·.2) = [assign tg X.env] := by rfl) :
    FS X T Wx (.Assign [tg] e pos) (sAsg ca t) := fs_asg hs hw h1 he hg
theorem s_par2 (i j : Nat) {px py pt : Pos} {kt k2 : Nat} {pt2 : Pos} (G : Cg X Wx k) (ha : FA X T Wx [a, b] aa) (hi : X.N[i]? = some x := by rfl) (hj : X.N[j]? = some y := by rfl) (hij : i ≠ j := by decide) (hx : X.env.scope.names.lookup x = some .local := by rfl) (hy : X.env.scope.names.lookup y = some .local := by rfl)
    (hw : swappedStores [.Tuple [.Name x px, .Name y py] kt pt] (.Tuple [a, b] k2 pt2) X.env = pure (some [x, y]) := by rfl)
    (hs : swapsWithSole [.Tuple [.Name x px, .Name y py] kt pt] (.Tuple [a, b] k2 pt2) pos.line X.env = pure false := by rfl) :
    FS X T Wx (.Assign [.Tuple [.Name x px, .Name y py] kt pt] (.Tuple [a, b] k2 pt2) pos) (sPar aa (tCns (tN i) (tCns (tN j) Fz.tNil))) := fs_par2 (fun _ h => ps_par G.calm G.nd hi hj hij hx hy h hw hs) ha
theorem s_par3 (i j l : Nat) {px py pz pt : Pos} {kt k2 : Nat} {pt2 : Pos} (G : Cg X Wx k) (ha : FA X T Wx [a, b, c] aa) (hi : X.N[i]? = some x := by rfl) (hj : X.N[j]? = some y := by rfl) (hl : X.N[l]? = some z := by rfl) (hij : i ≠ j := by decide) (hil : i ≠ l := by decide) (hjl : j ≠ l := by decide)
    (hx : X.env.scope.names.lookup x = some .local := by rfl) (hy : X.env.scope.names.lookup y = some .local := by rfl) (hz : X.env.scope.names.lookup z = some .local := by rfl)
    (hw : swappedStores [.Tuple [.Name x px, .Name y py, .Name z pz] kt pt] (.Tuple [a, b, c] k2 pt2) X.env = pure (some [x, y, z]) := by rfl)
    (hs : swapsWithSole [.Tuple [.Name x px, .Name y py, .Name z pz] kt pt] (.Tuple [a, b, c] k2 pt2) pos.line X.env = pure false := by rfl) :
    FS X T Wx (.Assign [.Tuple [.Name x px, .Name y py, .Name z pz] kt pt] (.Tuple [a, b, c] k2 pt2) pos) (sPar aa (tCns (tN i) (tCns (tN j) (tCns (tN l) Fz.tNil)))) :=
  fs_par3 (fun _ h => ps_par3 G.calm G.nd hi hj hl hij hil hjl hx hy hz h hw hs) ha
theorem s_par {es tgs : List Expr} {is : List Nat} {k1 k2 : Nat} {tb : Cts} (G : Cg X Wx k) (ln : Len tb n) (ha : FA X T Wx es aa) (hg : FGs X T tgs is tb) (hz : n ≤ sizeLine := by decide) (hn : (assignEach tgs X.env).length = n := by rfl) (hst : (assignEach tgs X.env).findIdx? (·.1) = none := by rfl)
    (hs : swapsWithSole [.Tuple tgs k1 p1] (.Tuple es k2 p2) pos.line X.env = pure false := by rfl) (hw : swappedStores [.Tuple tgs k1 p1] (.Tuple es k2 p2) X.env = pure none := by rfl)
    (h1 : (assignEach [.Tuple tgs k1 p1] X.env).map (·.2) = [assign (.Tuple tgs k1 p1) X.env] := by rfl) : FS X T Wx (.Assign [.Tuple tgs k1 p1] (.Tuple es k2 p2) pos) (sPar aa tb) := fs_par G.calm ln hn hst hz hs hw h1 ha hg
theorem s_setL {i : Expr} {ci : Cd} {tpos : Pos} (he : FE X T Wx e ca) (ho : FE X T Wx o co) (hi : FE X T Wx i ci) (ha : ∀ v, assign (.Subscript o i tpos) X.env v = (do
      let ov ← holding [v] (eval o X.env)
      let iv ← holding [v, ov] (eval i X.env)
      standAt tpos
      holding [v, ov, iv] (setItem ov iv v)
      release [v, ov, iv] []) := by intro _; rfl)
    (hs : swapsWithSole [.Subscript o i tpos] e pos.line X.env = pure false := by rfl) (hw : swappedStores [.Subscript o i tpos] e X.env = pure none := by rfl) (h1 : (assignEach [.Subscript o i tpos] X.env).map (·.2) = [assign (.Subscript o i tpos) X.env] := by rfl) :
    FS X T Wx (.Assign [.Subscript o i tpos] e pos) (sSet ca co ci) := fs_setL ha hs hw h1 he ho hi
theorem s_setD {i : Expr} {ci : Cd} {tpos : Pos} (G : Cg X Wx k) (he : FE X T Wx e ca) (ho : FE X T Wx o co) (hi : FE X T Wx i ci) (hs : swapsWith e (some (.Subscript o i tpos)) pos.line X.env = pure false := by rfl) :
    FS X T Wx (.Assign [.Subscript o i tpos] e pos) (sDSet ca co ci) := fs_setD G.hu1 hs he ho hi
theorem s_for {is : List Nat} {ci : Ci} {ct : Cy} (G : Cg X Wx k) (hi : FI X T Wx tg iter ci) (ht : FY X T tg is ct) (hb : FSs X T Wx body cs) (hs : ∀ x, foldedSetIterable iter X.env x = pure x := by intro _; rfl) :
    FS X T Wx (.For tg iter body [] pos) (sFor ci ct cs) := fs_for G.po G.calm hs hi ht hb
theorem s_while (n : Nat) {t : Expr} {ct : Cb} (G : Cg X Wx k) (ht : FT' X T Wx t ct) (hb : FSs X T Wx body cs) : FS X T Wx (.While t body [] pos) (sWhile n ct cs) := fs_while G.po ht hb
/-- a global number -/
theorem e_gi (i : Int) (h : ∃ t, X.mg x = some (.int i t)) (hg : Gl X x := by rfl) (hd : (x == ("__debug__" : Str)) = false := by decide) : FE X T Wx (.Name x pos) (cc (.int i)) := by
  obtain ⟨t, h⟩ := h
  exact fe_c (.int i) (pe_glob hg h ⟨t, rfl⟩ hd)
end
def cDK : Cd := fun _ h => .ok (.r h.length) (h ++ [.dk []])
def cDT : Cd := fun _ h => .ok (.r h.length) (h ++ [.dt []])
theorem fn_zero {P : Program} {w : World} {K : PySem.W.Frag} {mg : Str → Option Value} {base : Heap} {k n : Nat} {f : Addr} {fd : FuncData} {ps : List Str} {T : Tb} (hn : ps.length = n := by rfl) : FnG P w K mg base k f fd ps (spF K T n fun _ _ => .no) := by
  refine ⟨fun vs H Q E h => by rw [hn]; exact h.1, fun A outer s H args us vs Q E _ _ _ _ _ h => ?_⟩
  obtain ⟨_, _, _, _, _, _, _, hp⟩ := h
  exact hp.elim
theorem fn_of' {P : Program} {w : World} {K : PySem.W.Frag} {mg : Str → Option Value} {base : Heap} {T : Tb} {k j n m : Nat} {x qual : Str} {st : Stmt} {f : Addr} {fd : FuncData} {N ps : List Str} {code : Cs} {g : Fn} (Fu : Fun K x qual st f fd) (S : FnScope N ps (defScope st))
    (hg : g = mkFn n m code) (hj : j = k + 1) (hn : ps.length = n) (hm : N.length = m)
    (hb : ∀ (cdv : Value) (A : Around) (outer : List Env) (s : Shared) (H : Hp) (E : XK), Cg (cxF P w K mg base N qual (defScope st) f cdv A outer s H E) (wxF E) k →
      FSs (cxF P w K mg base N qual (defScope st) f cdv A outer s H E) T (wxF E) (defBody st) code) :
    FnG P w K mg base j f fd ps (spF K T n g) := by
  subst hg hj hn hm
  exact fn_of Fu S hb
end Fz
set_option Elab.async false
set_option linter.all false
set_option maxRecDepth 100000
set_option maxHeartbeats 2000000
/-! Fz: max, min of data, lists and tuples. -/
namespace Fz
open PySem PySem.W L2 PyProof.Rows

def foldB (lt : PyData → PyData → Bool) (x : PyData) (xs : List PyData) : PyData := xs.foldl (fun a y => if lt a y then y else a) x
theorem foldB_mem {lt : PyData → PyData → Bool} : ∀ {xs : List PyData} {x : PyData}, foldB lt x xs ∈ x :: xs
  | [], x => by simp [foldB]
  | y :: ys, x => by
    have := foldB_mem (lt := lt) (xs := ys) (x := if lt x y then y else x)
    unfold foldB at *
    rw [List.foldl_cons]
    rcases List.mem_cons.mp this with e | e
    · rw [e]; split <;> simp
    · simp [e]
/-- the first best: lt a y says that y is better -/
def rBest (K : PySem.W.Frag) (lt : PyData → PyData → Bool) : List V → Hp → VK → Prop := fun xs H Q => ∃ (a : Addr) (p : V × PyData) (ps : List (V × PyData)), xs = [.ref a] ∧ (SqL K H a ((p :: ps).map (·.1)) ∨ SqT K H a ((p :: ps).map (·.1))) ∧ DpAll K H ((p :: ps).map (·.1)) ((p :: ps).map (·.2)) ∧
  AlikeAll ((p :: ps).map (·.2)) ∧ (∀ q ∈ p :: ps, (q.2 : PyData).depth ≤ 64) ∧ ∀ q ∈ p :: ps, q.2 = foldB lt p.2 (ps.map (·.2)) → Q q.1 H
theorem depthAll_le : ∀ {xs : List PyData} {n : Nat}, (∀ d ∈ xs, d.depth ≤ n) → PyData.depthAll xs ≤ n
  | [], n, _ => by simp [PyData.depthAll]
  | x :: xs, n, h => by
    simp only [PyData.depthAll]
    exact Nat.max_le.mpr ⟨h x (by simp), depthAll_le fun d hd => h d (by simp [hd])⟩
theorem vals_at : ∀ {vs : List V} {us : List Value}, Vals vs us → ∀ {i : Nat} {u : Value}, us[i]? = some u → ∃ v, vs[i]? = some v ∧ RelV v u := by
  intro vs us h
  induction h with
  | nil => intro i u e; simp at e
  | cons a b ih =>
    intro i u e
    cases i with
    | zero => simp at e; subst e; exact ⟨_, rfl, a⟩
    | succ i => simp at e; obtain ⟨v, e1, r⟩ := ih e; exact ⟨v, by simpa using e1, r⟩
theorem dp_at {K : PySem.W.Frag} {H : Hp} : ∀ {vs : List V} {ds : List PyData}, DpAll K H vs ds → ∀ {i : Nat} {v : V} {d : PyData}, vs[i]? = some v → ds[i]? = some d → Dp K H v d
  | [], _, h, i, v, d, e, _ => by simp at e
  | v' :: vs, ds, h, i, v, d, e, e2 => by
    cases h with
    | cons a b =>
      cases i with
      | zero => simp at e e2; subst e e2; exact a
      | succ i => simp at e e2; exact dp_at b e e2
theorem best_fin {X : Cx} {pins : List (Addr × Obj)} {σ : L2.St} {H : Hp} {s : Shared} {Q : VK} {lt : PyData → PyData → Bool} {p : V × PyData} {ps : List (V × PyData)} {its : List Value} (I : L2.Inv X pins σ H s) (rv : Vals ((p :: ps).map (·.1)) its)
    (hd : DpAll X.K H ((p :: ps).map (·.1)) ((p :: ps).map (·.2))) (hal : AlikeAll ((p :: ps).map (·.2))) (q : ∀ q ∈ p :: ps, q.2 = foldB lt p.2 (ps.map (·.2)) → Q q.1 H)
    {i : Nat} {v : Value} {h' : Heap} {tk : Tok} {bs : List Addr} (hi : its.toArray[i]? = some v) (r : Reads h' v (foldB lt p.2 (ps.map (·.2))) bs) (hk : ∀ b o, s.heap.get? b = some o → h'.get? b = some o) : EP X pins σ Q v { s with heap := h', toks := tk } := by
  rw [List.getElem?_toArray] at hi
  obtain ⟨x, hx, rx⟩ := vals_at rv hi
  rw [List.getElem?_map, Option.map_eq_some_iff] at hx
  obtain ⟨y, hy, rfl⟩ := hx
  have hm := List.mem_of_getElem? hy
  have dy : Dp X.K H y.1 y.2 := dp_at hd (i := i) (by rw [List.getElem?_map, hy]; rfl) (by rw [List.getElem?_map, hy]; rfl)
  obtain ⟨as, ry⟩ := Dp.reads I _ _ _ dy rx
  have e : y.2 = foldB lt p.2 (ps.map (·.2)) := alike_unique _ _ v as bs (hal.1 _ (List.mem_map.mpr ⟨y, hm, rfl⟩) _ (by rw [List.map_cons]; exact foldB_mem)) (Reads.keeps hk ry) r
  exact ⟨y.1, H, I.kept hk, rx, q y hm e⟩
section
variable {X : Cx}
theorem cr_minD (hc : X.calm = true) (hu : X.A.units + 66 < cLine) : CallR X (.builtin "min") (rBest X.K fun a y => dataLt y a) := by
  intro pins s σ H xs us Q I r h
  obtain ⟨a, p, ps, rfl, hs, hd, hal, hdp, q⟩ := h
  have e2 : us = [.ref a] := Vals.ref1 r
  subst e2
  have hu2 : X.A.units + 1 + PyData.depthAll ((p :: ps).map (·.2)) < cLine := by
    have := depthAll_le (xs := (p :: ps).map (·.2)) (n := 64) fun d hd => by obtain ⟨y, hy, rfl⟩ := List.mem_map.mp hd; exact hdp y hy
    omega
  rcases hs with hs | hs
  · obtain ⟨its, rv, hl, z⟩ := I.list hs
    obtain ⟨as, rr⟩ := Dp.readsAll I _ _ _ hd rv
    exact min_list_data (I.ok.hd hc) hl.isList (by simpa using rr) (by simpa using hal) (by simpa using hu2) fun i v h' tk bs hi r hk => best_fin I rv hd hal q hi r hk
  · obtain ⟨its, rv, hl, z⟩ := I.tuple hs
    obtain ⟨as, rr⟩ := Dp.readsAll I _ _ _ hd rv
    exact min_tuple_data (I.ok.hd hc) hl (by simpa using rr) (by simpa using hal) (by simpa using hu2) fun i v h' tk bs hi r hk => best_fin I rv hd hal q hi r hk
theorem cr_maxD (hc : X.calm = true) (hu : X.A.units + 66 < cLine) : CallR X (.builtin "max") (rBest X.K dataLt) := by
  intro pins s σ H xs us Q I r h
  obtain ⟨a, p, ps, rfl, hs, hd, hal, hdp, q⟩ := h
  have e2 : us = [.ref a] := Vals.ref1 r
  subst e2
  have hu2 : X.A.units + 1 + PyData.depthAll ((p :: ps).map (·.2)) < cLine := by
    have := depthAll_le (xs := (p :: ps).map (·.2)) (n := 64) fun d hd => by obtain ⟨y, hy, rfl⟩ := List.mem_map.mp hd; exact hdp y hy
    omega
  rcases hs with hs | hs
  · obtain ⟨its, rv, hl, z⟩ := I.list hs
    obtain ⟨as, rr⟩ := Dp.readsAll I _ _ _ hd rv
    exact max_list_data (I.ok.hd hc) hl.isList (by simpa using rr) (by simpa using hal) (by simpa using hu2) fun i v h' tk bs hi r hk => best_fin I rv hd hal q hi r hk
  · obtain ⟨its, rv, hl, z⟩ := I.tuple hs
    obtain ⟨as, rr⟩ := Dp.readsAll I _ _ _ hd rv
    exact max_tuple_data (I.ok.hd hc) hl (by simpa using rr) (by simpa using hal) (by simpa using hu2) fun i v h' tk bs hi r hk => best_fin I rv hd hal q hi r hk
end
def dBest (lt : D → D → Bool) (x : D) (xs : List D) : D := xs.foldl (fun a y => if lt a y then y else a) x
def noNone (l : List D) : Bool := l.all fun d => match d with
  | .non => false
  | _ => true
def biBest (lt : D → D → Bool) (ws : List W) (h : Hh) : R W := match ws with
  | [w] => match (seqW w h).bind allD with
    | some (x :: xs) => if allAl (x :: xs) && noNone (x :: xs) && (x :: xs).all (sh 64) then .ok (.d (dBest lt x xs)) h else .no
    | _ => .no
  | _ => .no
mutual
theorem py_inj : ∀ a b : D, a.py = b.py → a = b
  | .non, b, h => by cases b <;> simp [D.py] at h; rfl
  | .bl x, b, h => by cases b <;> simp [D.py] at h; rw [h]
  | .int x, b, h => by cases b <;> simp [D.py] at h; rw [h]
  | .str x, b, h => by cases b <;> simp [D.py] at h; rw [toStr_inj h]
  | .tup x, b, h => by cases b <;> simp [D.py] at h; rw [pyL_inj _ _ h]
  | .lst x, b, h => by cases b <;> simp [D.py] at h; rw [pyL_inj _ _ h]
theorem pyL_inj : ∀ a b : List D, pyL a = pyL b → a = b
  | [], [], _ => rfl
  | [], y :: ys, h => by simp [pyL] at h
  | x :: xs, [], h => by simp [pyL] at h
  | x :: xs, y :: ys, h => by
    simp only [pyL, List.cons.injEq] at h
    rw [py_inj x y h.1, pyL_inj xs ys h.2]
end
theorem best_py {lt : D → D → Bool} {ltp : PyData → PyData → Bool} {l : List D} (hl : ∀ a ∈ l, ∀ b ∈ l, ltp a.py b.py = lt a b) : ∀ (xs : List D) (x : D), x ∈ l → (∀ y ∈ xs, y ∈ l) → foldB ltp x.py (xs.map D.py) = (dBest lt x xs).py ∧ dBest lt x xs ∈ l
  | [], x, hx, _ => ⟨rfl, hx⟩
  | y :: ys, x, hx, h => by
    have hy := h y (by simp)
    have e : (if ltp x.py y.py then y.py else x.py) = (if lt x y then y else x).py := by rw [hl x hx y hy]; split <;> rfl
    have hm : (if lt x y then y else x) ∈ l := by split <;> assumption
    have ⟨a, b⟩ := best_py hl ys (if lt x y then y else x) hm fun z hz => h z (by simp [hz])
    unfold foldB dBest at *
    rw [List.map_cons, List.foldl_cons, List.foldl_cons, e]
    exact ⟨a, b⟩
theorem fc_best {K : PySem.W.Frag} {T : Tb} {lt : D → D → Bool} {ltp : PyData → PyData → Bool} (hl : ∀ a b : D, D.al a b = true → D.al b a = true → ltp a.py b.py = lt a b) : FCl K T (biBest lt) (rBest K ltp) := by
  intro Wx σ F ρ ih H xs vs Q hr rs hp
  unfold biBest at hp
  split at hp
  · cases rs with | cons r t => cases t with | nil =>
      split at hp
      · rename_i x l e
        rw [Option.bind_eq_some_iff] at e
        obtain ⟨ws, e1, e2⟩ := e
        obtain ⟨a, us, rfl, s, rs, _⟩ := seqW_at hr r e1
        have rl := allD_rp e2 rs
        split at hp
        · rename_i c
          simp only [Bool.and_eq_true] at c
          obtain ⟨⟨c1, c2⟩, c3⟩ := c
          obtain ⟨ps, e3, e4, hps⟩ := rl.zip
          cases ps with
          | nil => cases e3
          | cons p ps =>
            rw [List.map_cons, List.cons.injEq] at e3
            obtain ⟨rfl, rfl⟩ := e3
            subst e4
            have em : ((p :: ps).map fun p => (p.2, p.1.py)).map Prod.fst = (p :: ps).map Prod.snd := by rw [List.map_map]; rfl
            have em2 : ((p :: ps).map fun p => (p.2, p.1.py)).map Prod.snd = pyL ((p :: ps).map Prod.fst) := by rw [List.map_map, pyL_map, List.map_map]; rfl
            let f : D × V → V × PyData := fun p => (p.2, p.1.py)
            refine ⟨a, (p.2, p.1.py), ps.map f, rfl, ?_, ?_, ?_, ?_, ?_⟩
            · rw [← List.map_cons (f := fun p : D × V => (p.2, p.1.py)), em]
              exact s.imp .inl .inl
            · rw [← List.map_cons (f := fun p : D × V => (p.2, p.1.py)), em, em2]
              exact rl.dp
            · rw [← List.map_cons (f := fun p : D × V => (p.2, p.1.py)), em2]
              refine And.intro (fun x hx y hy => allAl_py c1 x hx y hy) fun x hx => ?_
              rw [pyL_map] at hx
              obtain ⟨z, hz, rfl⟩ := List.mem_map.mp hx
              have := List.all_eq_true.mp c2 z hz
              cases z <;> simp at this <;> simp [D.py]
            · intro q hq
              rw [← List.map_cons (f := fun p : D × V => (p.2, p.1.py))] at hq
              obtain ⟨z, hz, rfl⟩ := List.mem_map.mp hq
              have := List.all_eq_true.mp c3 z.1 (List.mem_map.mpr ⟨z, hz, rfl⟩)
              exact (sh_lay 64 _ this).2
            · intro q hq e
              rw [← List.map_cons (f := fun p : D × V => (p.2, p.1.py))] at hq
              obtain ⟨z, hz, rfl⟩ := List.mem_map.mp hq
              have hall : ∀ a ∈ p.1 :: ps.map Prod.fst, ∀ b ∈ p.1 :: ps.map Prod.fst, ltp a.py b.py = lt a b := fun a ha b hb =>
                hl a b (List.all_eq_true.mp (List.all_eq_true.mp c1 a ha) b hb) (List.all_eq_true.mp (List.all_eq_true.mp c1 b hb) a ha)
              have hb := best_py hall (ps.map Prod.fst) p.1 (by simp) fun y hy => List.mem_cons_of_mem _ hy
              have e' : z.1.py = (dBest lt p.1 (ps.map Prod.fst)).py := by
                rw [← hb.1]
                have : (ps.map fun p => (p.2, p.1.py)).map Prod.snd = (ps.map Prod.fst).map D.py := by rw [List.map_map, List.map_map]; rfl
                rw [← this]
                exact e
              have e3 := py_inj _ _ e'
              rw [← e3] at hp
              exact hp.ok hr _ (.d (hps z hz))
        · exact hp.elim
      · exact hp.elim
  · exact hp.elim
abbrev biMaxD := biBest D.lt
abbrev biMinD := biBest fun a y => D.lt y a
section
variable {X : Cx} {T : Tb} {Wx : WX} {k : Nat}
theorem u_maxD (G : Cg X Wx k) : Bi X T "max" biMaxD := ⟨.inl ⟨_, _, cr_maxD G.calm G.hu, fc_best fun a b h _ => lt_py a b h, by decide +kernel⟩, by decide, by decide⟩
theorem u_minD (G : Cg X Wx k) : Bi X T "min" biMinD := ⟨.inl ⟨_, _, cr_minD G.calm G.hu, fc_best fun a b _ h => lt_py b a h, by decide +kernel⟩, by decide, by decide⟩
end
end Fz
set_option Elab.async false
set_option linter.all false
set_option maxRecDepth 100000
set_option maxHeartbeats 2000000
/-! Fz: plain laws of the functions: loops over lists, words for simp. -/
namespace Fz

def forL (t : Cy) (b : Cs) : List Y → Ev → Hh → SR
  | [], e, h => .nx e h
  | y :: ys, e, h => match t y e h with
    | none => .no
    | some e1 => match b e1 h with
      | .nx e2 h2 => forL t b ys e2 h2
      | .ct e2 h2 => forL t b ys e2 h2
      | .bk e2 h2 => .nx e2 h2
      | r => r
theorem loop_fix {l : List Y} {t : Cy} {b : Cs} : ∀ (m i : Nat) (e : Ev) (h : Hh), l.length + 1 = m + i ∨ l.length + 1 < m + i ∧ 0 < m → 0 < m → loop (fixS l) t b m i e h = forL t b (l.drop i) e h
  | 0, i, e, h, hl, hp => absurd hp (by omega)
  | m + 1, i, e, h, hl, hp => by
    unfold loop
    have ef : fixS l h = some l := rfl
    rw [ef]
    dsimp only
    cases hi : l[i]? with
    | none =>
      have := List.getElem?_eq_none_iff.mp hi
      rw [List.drop_eq_nil_of_le this]
      rfl
    | some y =>
      obtain ⟨hlt, hy⟩ := List.getElem?_eq_some_iff.mp hi
      rw [List.drop_eq_getElem_cons hlt, hy]
      dsimp only [forL]
      have rec' : ∀ e2 h2, loop (fixS l) t b m (i + 1) e2 h2 = forL t b (l.drop (i + 1)) e2 h2 := fun e2 h2 => loop_fix m (i + 1) e2 h2 (by omega) (by omega)
      cases t y e h with
      | none => rfl
      | some e1 =>
        dsimp only
        cases b e1 h <;> simp only [rec']
theorem sFor_fix {ci : Ci} {t : Cy} {b : Cs} {e : Ev} {h h' : Hh} {l : List Y} (hc : ci e h = .ok (fixS l) h') : sFor ci t b e h = forL t b l e h' := by
  unfold sFor
  rw [hc, lift_ok]
  have := loop_fix (l := l) (t := t) (b := b) (srcLen (fixS l) h' + 1) 0 e h' (.inl (by simp [srcLen, fixS])) (by omega)
  rw [this, List.drop_zero]
theorem forL_app {t : Cy} {b : Cs} : ∀ (l1 l2 : List Y) (e : Ev) (h : Hh) {e1 : Ev} {h1 : Hh} {r : SR}, forL t b l1 e h = .nx e1 h1 → (∀ y ∈ l1, ∀ e h e2 h2, b e h = .bk e2 h2 → False) → forL t b l2 e1 h1 = r → forL t b (l1 ++ l2) e h = r
  | [], l2, e, h, e1, h1, r, h3, hb, h4 => by
    cases h3
    exact h4
  | y :: ys, l2, e, h, e1, h1, r, h3, hb, h4 => by
    show forL t b (y :: (ys ++ l2)) e h = r
    unfold forL at h3 ⊢
    cases ht : t y e h with
    | none => rw [ht] at h3; cases h3
    | some e2 =>
      rw [ht] at h3
      dsimp only at h3 ⊢
      cases hbb : b e2 h with
      | nx e3 h5 => rw [hbb] at h3; exact forL_app ys l2 e3 h5 h3 (fun y hy => hb y (by simp [hy])) h4
      | ct e3 h5 => rw [hbb] at h3; exact forL_app ys l2 e3 h5 h3 (fun y hy => hb y (by simp [hy])) h4
      | bk e3 h5 => exact (hb y (by simp) _ _ _ _ hbb).elim
      | rt w h5 => rw [hbb] at h3; cases h3
      | ex c p e3 h5 => rw [hbb] at h3; cases h3
      | no => rw [hbb] at h3; cases h3
/-- the same; a break stays one -/
def forK (t : Cy) (b : Cs) : List Y → Ev → Hh → SR
  | [], e, h => .nx e h
  | y :: ys, e, h => match t y e h with
    | none => .no
    | some e1 => match b e1 h with
      | .nx e2 h2 => forK t b ys e2 h2
      | .ct e2 h2 => forK t b ys e2 h2
      | r => r
def unbk : SR → SR
  | .bk e h => .nx e h
  | r => r
theorem forL_K {t : Cy} {b : Cs} : ∀ (l : List Y) (e : Ev) (h : Hh), forL t b l e h = unbk (forK t b l e h)
  | [], _, _ => rfl
  | y :: ys, e, h => by
    unfold forL forK
    cases t y e h with
    | none => rfl
    | some e1 =>
      dsimp only
      cases b e1 h with
      | nx e2 h2 => exact forL_K ys e2 h2
      | ct e2 h2 => exact forL_K ys e2 h2
      | bk e2 h2 => rfl
      | rt w h2 => rfl
      | ex c p e2 h2 => rfl
      | no => rfl
theorem sFor_K {ci : Ci} {t : Cy} {b : Cs} {e : Ev} {h h' : Hh} {l : List Y} (hc : ci e h = .ok (fixS l) h') : sFor ci t b e h = unbk (forK t b l e h') := by rw [sFor_fix hc, forL_K]
theorem forK_app {t : Cy} {b : Cs} (l2 : List Y) : ∀ (l1 : List Y) (e : Ev) (h : Hh), forK t b (l1 ++ l2) e h = (forK t b l1 e h).bind (forK t b l2)
  | [], _, _ => rfl
  | y :: ys, e, h => by
    show forK t b (y :: (ys ++ l2)) e h = _
    unfold forK
    cases t y e h with
    | none => rfl
    | some e1 =>
      dsimp only
      cases b e1 h with
      | nx e2 h2 => exact forK_app l2 ys e2 h2
      | ct e2 h2 => exact forK_app l2 ys e2 h2
      | bk e2 h2 => rfl
      | rt w h2 => rfl
      | ex c p e2 h2 => rfl
      | no => rfl
theorem forK_one {t : Cy} {b : Cs} {y : Y} {e e1 : Ev} {h : Hh} (ht : t y e h = some e1) {e2 : Ev} {h2 : Hh} (hb : b e1 h = .nx e2 h2) : forK t b [y] e h = .nx e2 h2 := by
  unfold forK; rw [ht]; dsimp only; rw [hb]; rfl
def lcL (t : Cy) (q : Cb) (c : Cd) (e : Ev) : List Y → List W → Hh → R (List W)
  | [], acc, h => .ok acc h
  | y :: ys, acc, h => match t y e h with
    | none => .no
    | some e1 => (q e1 h).bind fun k h => if k then (c e1 h).bind fun w h => if acc.length < 16777216 then lcL t q c e ys (acc ++ [w]) h else .no else lcL t q c e ys acc h
theorem lcl_fix {l : List Y} {t : Cy} {q : Cb} {c : Cd} {e : Ev} : ∀ (m i : Nat) (acc : List W) (h : Hh), l.length + 1 = m + i ∨ l.length + 1 < m + i ∧ 0 < m → 0 < m → lcl (fixS l) t q c e m i acc h = lcL t q c e (l.drop i) acc h
  | 0, i, acc, h, hl, hp => absurd hp (by omega)
  | m + 1, i, acc, h, hl, hp => by
    unfold lcl
    have ef : fixS l h = some l := rfl
    rw [ef]
    dsimp only
    cases hi : l[i]? with
    | none =>
      have := List.getElem?_eq_none_iff.mp hi
      rw [List.drop_eq_nil_of_le this]
      rfl
    | some y =>
      obtain ⟨hlt, hy⟩ := List.getElem?_eq_some_iff.mp hi
      rw [List.drop_eq_getElem_cons hlt, hy]
      dsimp only [lcL]
      have rec' : ∀ acc h2, lcl (fixS l) t q c e m (i + 1) acc h2 = lcL t q c e (l.drop (i + 1)) acc h2 := fun e2 h2 => lcl_fix m (i + 1) e2 h2 (by omega) (by omega)
      cases t y e h with
      | none => rfl
      | some e1 => simp only [rec']
theorem cLc_fix {mt : Bool} {vs : List Nat} {ci : Ci} {t : Cy} {q : Cb} {c : Cd} {e : Ev} {h h' : Hh} {l : List Y} (hc : ci e h = .ok (fixS l) h') : cLc mt vs ci t q c e h = (noX (lcL t q c (ew e vs) l [] h')).bind fun ws h => fin mt ws h := by
  unfold cLc
  rw [hc, R.bind_ok]
  have := lcl_fix (l := l) (t := t) (q := q) (c := c) (e := ew e vs) (srcLen (fixS l) h' + 1) 0 [] h' (.inl (by simp [srcLen, fixS])) (by omega)
  rw [this, List.drop_zero]
/-- a comprehension whose parts leave the heap as it is -/
theorem lcL_pure {t : Cy} {q : Cb} {c : Cd} {e : Ev} {h : Hh} (f : Y → Bool) (g : Y → W) : ∀ (l : List Y) (acc : List W), acc.length + l.length ≤ 16777216 → (∀ y ∈ l, ∃ e1, t y e h = some e1 ∧ q e1 h = .ok (f y) h ∧ (f y = true → c e1 h = .ok (g y) h)) →
    lcL t q c e l acc h = .ok (acc ++ (l.filter f).map g) h
  | [], acc, _, _ => by simp [lcL]
  | y :: ys, acc, hl, hy => by
    obtain ⟨e1, a1, a2, a3⟩ := hy y (by simp)
    rw [List.length_cons] at hl
    unfold lcL
    rw [a1]
    dsimp only
    rw [a2, R.bind_ok]
    cases hf : f y with
    | true =>
      rw [if_pos rfl, a3 hf, R.bind_ok, if_pos (by omega), lcL_pure f g ys _ (by simp; omega) fun z hz => hy z (by simp [hz])]
      simp [hf]
    | false =>
      rw [if_neg Bool.false_ne_true, lcL_pure f g ys _ (by omega) fun z hz => hy z (by simp [hz])]
      simp [hf]
section
variable {e : Ev} {h : Hh} {a b c : Cd} {t u : Cb} {x y z : Cs} {i j : Nat} {n m : Int} {w : W} {l : List D} {op op' : W → W → Hh → R W} {k : Bool} {aa : Ca} {g : Fn}
@[simp] theorem z_seq : sSeq x y e h = (x e h).bind y := (rfl)
@[simp] theorem z_ret : sRet a e h = lift (a e h) e fun w h => .rt w h := (rfl)
@[simp] theorem z_retN : sRetN e h = .rt (.d .non) h := (rfl)
@[simp] theorem z_nx : sNx e h = .nx e h := (rfl)
@[simp] theorem z_no : sNo e h = .no := (rfl)
@[simp] theorem z_if : sIf t x y e h = lift (t e h) e fun k h => if k then x e h else y e h := (rfl)
@[simp] theorem z_asg {tg : Ct} : sAsg a tg e h = lift (a e h) e fun w h => match tg w e h with
  | some e' => .nx e' h
  | none => .no := (rfl)
@[simp] theorem z_expr : sExpr a e h = lift (a e h) e fun _ h => .nx e h := (rfl)
@[simp] theorem z_par {tg : Cts} : sPar aa tg e h = lift (aa e h) e fun ws h => match tg ws e h with
  | some e' => .nx e' h
  | none => .no := (rfl)
@[simp] theorem z_set : sSet a b c e h = lift (a e h) e fun w h => lift (b e h) e fun x h => lift (c e h) e fun y h => match setAt x y w h with
  | some h' => .nx e h'
  | none => .no := (rfl)
@[simp] theorem z_tN : tN i w e h = some (e.set i (some w)) := (rfl)
@[simp] theorem z_tNil : Fz.tNil [] e h = some e := (rfl)
@[simp] theorem z_tCns {ta : Ct} {tb : Cts} {ws : List W} : tCns ta tb (w :: ws) e h = (ta w e h).bind fun e => tb ws e h := (rfl)
@[simp] theorem z_tTp {tb : Cts} : tTp tb (.d (.tup l)) e h = tb (l.map .d) e h := (rfl)
@[simp] theorem z_tLsT {tb : Cts} : tLs tb (.d (.tup l)) e h = tb (l.map .d) e h := (rfl)
@[simp] theorem z_tLsL {tb : Cts} : tLs tb (.d (.lst l)) e h = tb (l.map .d) e h := (rfl)
@[simp] theorem z_cc {d : D} : cc d e h = .ok (.d d) h := (rfl)
@[simp] theorem z_c1 {o : W → Hh → R W} : c1 o a e h = (a e h).bind o := (rfl)
@[simp] theorem z_c2 : c2 op a b e h = (a e h).bind fun x h => (b e h).bind fun y h => op x y h := (rfl)
@[simp] theorem z_cl {o : List W → Hh → R W} : cCl o aa e h = (aa e h).bind o := (rfl)
@[simp] theorem z_aNil : aNil e h = .ok [] h := (rfl)
@[simp] theorem z_aCons : aCons a aa e h = (a e h).bind fun x h => (aa e h).bind fun xs h => .ok (x :: xs) h := (rfl)
@[simp] theorem z_cIf : cIf t a b e h = (t e h).bind fun k h => if k then a e h else b e h := (rfl)
@[simp] theorem z_cT : cT a e h = (a e h).bind tru := (rfl)
@[simp] theorem z_bAnd : bAnd t u e h = (t e h).bind fun k h => if k then u e h else .ok false h := (rfl)
@[simp] theorem z_bOr : bOr t u e h = (t e h).bind fun k h => if k then .ok true h else u e h := (rfl)
@[simp] theorem z_bNot : bNot t e h = (t e h).bind fun k h => .ok (!k) h := (rfl)
@[simp] theorem z_bC : bC op a b e h = asB (c2 op a b e h) := (rfl)
@[simp] theorem z_asB {k : Bool} : asB (.ok (.d (.bl k)) h) = .ok k h := (rfl)
@[simp] theorem z_bCh : bCh op op' a b c e h = asB (cch op op' a b c e h) := (rfl)
@[simp] theorem z_and : cAnd a b e h = (a e h).bind fun x h => (tru x h).bind fun k h => if k then b e h else .ok x h := (rfl)
@[simp] theorem z_or : cOr a b e h = (a e h).bind fun x h => (tru x h).bind fun k h => if k then .ok x h else b e h := (rfl)
@[simp] theorem z_not : cNot a e h = (a e h).bind fun x h => (tru x h).bind fun k h => .ok (.d (.bl (!k))) h := (rfl)
@[simp] theorem z_truN : tru (.d .non) h = .ok false h := (rfl)
@[simp] theorem z_truB : tru (.d (.bl k)) h = .ok k h := (rfl)
@[simp] theorem z_truI : tru (.d (.int n)) h = .ok (n != 0) h := (rfl)
@[simp] theorem z_truT : tru (.d (.tup l)) h = .ok (!l.isEmpty) h := (rfl)
@[simp] theorem z_truL : tru (.d (.lst l)) h = .ok (!l.isEmpty) h := (rfl)
@[simp] theorem z_isi {t : Ty} : cIsi t a e h = (a e h).bind fun w h => match w with
  | .d x => .ok (.d (.bl (isD t x))) h
  | .r n => match h[n]? with
    | some (.lst _) => .ok (.d (.bl (match t with | .lst => true | _ => false))) h
    | _ => .no
  | .f _ => .no := (rfl)
@[simp] theorem z_sub : opSub (.d (.int n)) (.d (.int m)) h = .ok (.d (.int (n - m))) h := (rfl)
@[simp] theorem z_add : opAdd k (.d (.int n)) (.d (.int m)) h = .ok (.d (.int (n + m))) h := (rfl)
@[simp] theorem z_mod (hm : 0 < m) : opMod (.d (.int n)) (.d (.int m)) h = .ok (.d (.int (n % m))) h := by unfold opMod opI; simp [hm]
@[simp] theorem z_fdiv (hm : 0 < m ∧ m < 1073741824) : opFdiv (.d (.int n)) (.d (.int m)) h = .ok (.d (.int (n / m))) h := by unfold opFdiv opI; simp [hm]
@[simp] theorem z_opC {p : Int → Int → Bool} : opC p (.d (.int n)) (.d (.int m)) h = .ok (.d (.bl (p n m))) h := (rfl)
@[simp] theorem z_eqI : opEq k (.d (.int n)) (.d (.int m)) h = .ok (.d (.bl (if k then !(n == m) else n == m))) h := by
  unfold opEq; simp [valD, sh, D.eqv]
@[simp] theorem z_len1 : biLen [.d (.tup l)] h = .ok (.d (.int l.length)) h := (rfl)
@[simp] theorem z_len2 : biLen [.d (.lst l)] h = .ok (.d (.int l.length)) h := (rfl)
@[simp] theorem z_max2 : biMax2 [.d (.int n), .d (.int m)] h = .ok (.d (.int (if m > n then m else n))) h := (rfl)
@[simp] theorem z_int : biInt [.d (.int n)] h = .ok (.d (.int n)) h := (rfl)
@[simp] theorem z_abs : biAbs [.d (.int n)] h = .ok (.d (.int (if n < 0 then -n else n))) h := (rfl)
@[simp] theorem z_neg : opNeg (.d (.int n)) h = .ok (.d (.int (-n))) h := (rfl)
@[simp] theorem z_allD0 : allD [] = some [] := (rfl)
@[simp] theorem z_allD {d : D} {ws : List W} : allD (.d d :: ws) = (allD ws).map (d :: ·) := (rfl)
@[simp] theorem z_call {n : Nat} {p : Bool} : cCall p n g aa e h = (aa e h).bind fun ws h => if ws.length = n then (if p then pure' g ws h else g ws h) else .no := (rfl)
@[simp] theorem z_revT : opRevT (.d (.tup l)) h = .ok (.d (.tup l.reverse)) h := (rfl)
@[simp] theorem z_isN1 : opNone k (.d .non) (.d .non) h = .ok (.d (.bl (if k then false else true))) h := by cases k <;> rfl
theorem z_cv (h1 : e[i]? = some (some w)) : cv i e h = .ok w h := by unfold cv; rw [h1]
@[simp] theorem z_cv0 {w : Option W} {r : Ev} : cv 0 (w :: r) h = match w with
  | some w => .ok w h
  | none => .no := by unfold cv; cases w <;> rfl
@[simp] theorem z_cvS {w : Option W} {r : Ev} : cv (i + 1) (w :: r) h = cv i r h := (rfl)
/-- a call of a def that sees data alone -/
theorem pure_ok {ws : List W} {ds : List D} {d : D} {h' : Hh} (ha : allD ws = some ds) (hg : g ws [] = .ok (.d d) h') : pure' g ws h = .ok (.d d) h := by
  unfold pure'
  rw [ha]
  dsimp only
  rw [hg]
end
section
theorem ixN_at {n j : Nat} (h : j < n) : L2.ixN n (j : Int) = some j := by
  unfold L2.ixN
  rw [if_pos (by omega), if_pos (by omega)]
  simp
theorem atI_at {α : Type} {l : List α} {j : Nat} {x : α} (e : l[j]? = some x) : L2.atI l (j : Int) = some x := by
  unfold L2.atI
  rw [ixN_at (List.getElem?_eq_some_iff.mp e).1]
  exact e
theorem ix_l {l : List D} {j : Nat} {x : D} {h : Hh} (e : l[j]? = some x) : opIx (.d (.lst l)) (.d (.int j)) h = .ok (.d x) h := by
  have : L2.atI (l.map W.d) (j : Int) = some (.d x) := atI_at (by rw [List.getElem?_map, e]; rfl)
  simp [opIx, seqW, lstW, this]
theorem ix_t {l : List D} {j : Nat} {x : D} {h : Hh} (e : l[j]? = some x) : opIx (.d (.tup l)) (.d (.int j)) h = .ok (.d x) h := by
  have : L2.atI (l.map W.d) (j : Int) = some (.d x) := atI_at (by rw [List.getElem?_map, e]; rfl)
  simp [opIx, seqW, this]
theorem ix_r {n : Nat} {l : List W} {j : Nat} {x : W} {h : Hh} (hn : h[n]? = some (.lst l)) (e : l[j]? = some x) : opIx (.r n) (.d (.int j)) h = .ok x h := by
  have : L2.atI l (j : Int) = some x := atI_at e
  simp [opIx, seqW, lstW, hn, this]
theorem set_r {n : Nat} {l : List W} {j : Nat} {x : W} {h : Hh} (hn : h[n]? = some (.lst l)) (hj : j < l.length) : setAt (.r n) (.d (.int j)) x h = some (h.set n (.lst (l.set j x))) := by
  simp [setAt, hn, ixN_at hj]
theorem cut_from {α : Type} {l : List α} {j : Nat} (hj : j ≤ l.length) : cut l (some (j : Int)) none = l.drop j := by
  unfold cut
  have h1 : HT.sIx l.length 0 (some (j : Int)) = j := by simp only [HT.sIx]; split <;> omega
  have h2 : HT.sIx l.length l.length none = l.length := rfl
  rw [h1, h2]
  exact List.take_of_length_le (by simp)
end
end Fz
set_option Elab.async false
set_option linter.all false
set_option maxRecDepth 100000
set_option maxHeartbeats 4000000
/-! Fz: own exceptions over ValueError: __init__ with super().__init__(text + str(reason)) and one field. -/
namespace Fz
open PySem PySem.W L2 PyProof.Rows

/-- super().__init__(text + str(par)) -/
abbrev xCall (par tx : Str) (p0 p1 p2 p3 p4 c1 c2 c3 c4 : Pos) (j : Nat) : Expr := .Call (.Attribute (.Call (.Name "super" p0) [] [] p1) "__init__" p2) [.BinOp (.Constant (.str tx) j c1) .Add (.Call (.Name "str" c2) [.Name par c3] [] c4) p3] [] p4
/-- the body of such an __init__ -/
def xBody (st : Stmt) (par fld tx : Str) : Prop := ∃ (p0 p1 p2 p3 p4 p5 q1 q2 q3 q4 c1 c2 c3 c4 : Pos) (j : Nat), defBody st =
    [.Expr (xCall par tx p0 p1 p2 p3 p4 c1 c2 c3 c4 j) q1, .Assign [.Attribute (.Name "self" q2) fld q3] (.Name par q4) p5] ∧
    (∀ env : Env, ∃ pl : Sem Bool, eval (xCall par tx p0 p1 p2 p3 p4 c1 c2 c3 c4 j) env = (do
      let ov ← attributeBase (.Call (.Name "super" p0) [] [] p1) "__init__" env (eval (.Call (.Name "super" p0) [] [] p1) env)
      standAt p2.atName
      let (f, first) ← holding [ov] (getMethod ov "__init__" pl)
      callWith p4 f first (backTo p4 (starEach [.BinOp (.Constant (.str tx) j c1) .Add (.Call (.Name "str" c2) [.Name par c3] [] c4) p3] env)) [])) ∧
    (∀ env : Env, swapsWith (.Name par q4) (some (.Attribute (.Name "self" q2) fld q3)) p5.line env = pure false) ∧
    ∀ env : Env, swapsWith (xCall par tx p0 p1 p2 p3 p4 c1 c2 c3 c4 j) none q1.line env = pure false
structure XSc (sc : Scope) (par : Str) : Prop where
  kind : sc.kind = .function
  co : sc.isCoroutine = false
  gen : sc.isGenerator = false
  self : sc.names.lookup ("self" : Str) = some .local
  pr : sc.names.lookup par = some .local
  sup : sc.names.lookup ("super" : Str) = some .globalImplicit
  str : sc.names.lookup ("str" : Str) = some .globalImplicit
  cls : sc.names.lookup ("__class__" : Str) = some .free
  free : ∀ y ∈ sc.names, y.2 = .free → y.1 = ("__class__" : Str)
  cell : ∀ y ∈ sc.names, y.2 ≠ .cell
  ne : (("self" : Str) == par) = false
  dbg : (par == ("__debug__" : Str)) = false
  dcd : (par == ("__classdict__" : Str)) = false
/-- an own exception class with its own __init__ -/
structure Xc (P : Program) (K : Frag) (mg : Str → Option Value) (C fI : Addr) (fld par tx : Str) (st : Stmt) (fd : FuncData) : Prop where
  ox : OexC K C
  init : findIn K (.ref C) "__init__" = some (some (.ref fI))
  tI : typeIn K (.ref fI) = some (.type "function")
  body : xBody st par fld tx
  txl : tx.length ≤ 1000
  sc : XSc (defScope st) par
  arg : ∃ ar, ((defArgs st).posonlyargs ++ (defArgs st).args).head? = some ar ∧ ar.arg = "self"
  lk : ∃ (qual : Str) (oc : Value) (od : Option Addr) (osl : Array (Option Value)) (kV doc pm : Value) (an : Option Addr) (cda cc : Addr) (ct : Value),
    fd = ksFn "__init__" qual (defArgs st) (defBody st) (defScope st) .none kV doc pm an (.ref cda) ct cc ∧ K.lookup fI = some ⟨oc, od, .func fd, osl⟩ ∧ codeIn K (.ref cda) qual = true ∧
    (∃ ccl cdd vs ccs f tf, K.lookup cda = some ⟨ccl, cdd, .fields vs, ccs⟩ ∧ vs[2]? = some (.str f tf) ∧ ((P.main.file : Str) == f) = true) ∧
    ∃ cl cld csl, K.lookup cc = some ⟨cl, cld, .cell (some (.ref C)), csl⟩
  sup : ks_superIn K C C "__init__" = some (some (.builtin "ValueError.__init__"))
  subV : subIn K (.ref C) (.type "ValueError") = some true
  subC : mroIn K C (.ref C) = some true
  fl : findIn K (.ref C) fld = some none
  opq : nsIn K cStatics "thirdparty.any" = some none
  noS : mg "super" = none
  noStr : mg "str" = none
  htop : (P.main.scope.names.lookup ("super" : Str)).isSome = false

/-- what such an __init__ promises -/
def spI (C : Addr) (fld : Str) : Sp := fun vs H Q _ => ∃ (e : Addr) (v : V), vs = [.ref e, v] ∧ ((∃ x : Str, v = .str x ∧ x.length ≤ 1000) ∨ ∃ i : Int, v = .int i ∧ i.natAbs.log2 < 1900) ∧ H e = some (exo e C none) ∧
  ∀ dx, H dx = none → dx ≠ e → Q .non (upd (upd H dx (exd dx [(fld, v)])) e (exo e C (some dx)))

theorem call_str2 {X : Cx} : CallR X (.type "str") (fun xs H Q => (∃ i, xs = [.int i] ∧ i.natAbs.log2 < 1920 ∧ Q (.str (toString i)) H) ∨ ∃ a, xs = [.str a] ∧ Q (.str a) H) := by
  intro pins s σ H xs us Q I r h
  rcases h with h | ⟨a, rfl, q⟩
  · exact call_str_int pins s σ H xs us Q I r h
  · obtain ⟨_, rfl, t, rfl⟩ := vals1 r
    exact PySem.P.str_of_str ⟨.str a, H, I, ⟨t, rfl⟩, q⟩
section
variable {P : Program} {w : World} {K : PySem.W.Frag} {mg : Str → Option Value} {base : Heap} {C fI : Addr} {fld par tx : Str} {st : Stmt} {fd : FuncData}
def cxS (P : Program) (w : World) (K : PySem.W.Frag) (mg : Str → Option Value) (base : Heap) (par qual : Str) (scope : Scope) (f : Addr) (cd : Value) (cc : Addr) (A : Around) (outer : List Env) (s : Shared) (H : Hp) : Cx where
  prog := P
  w := w
  K := K
  mg := mg
  base := base
  A := A.deeper (ksEnv qual scope s.heap.objs.size f cd cc)
  N := ["self", par]
  s_0 := s
  H_0 := H
  env := ksEnv qual scope s.heap.objs.size f cd cc
  outer := outer
  stack := ksEnv qual scope s.heap.objs.size f cd cc :: outer
  ex := []
  calm := true
  fn := fun _ => false
  pn := []
  xe := fun _ _ => False
theorem lk1 {x : Str} {c cc : Addr} (h : ([("__class__", cc)] : List (Str × Addr)).lookup x = some c) : x = "__class__" ∧ c = cc := by
  rw [List.lookup_cons] at h
  split at h
  · rename_i e
    cases h
    exact ⟨eq_of_beq e, rfl⟩
  · cases h
theorem invS {par qual : Str} {scope : Scope} {f : Addr} {cd : Value} {cc : Addr} {A : Around} {outer : List Env} {s : Shared} {H : Hp} {h1 : Heap} {e : Addr} {v : V} {u : Value} {cl : Value} {cld : Option Addr} {csl : Array (Option Value)}
    (S : XSc scope par) (hd : A.handled = none) (e0 : Env0 P w K mg base A outer s H) (rv : RelV v u) (hc : K.lookup cc = some ⟨cl, cld, .cell (some (.ref C)), csl⟩)
    (hns : h1.Ns s.heap.objs.size (fun x => ([("self", Value.ref e), (par, u)] : List (Str × Value)).reverse.lookup x)) (hk : ∀ b o, s.heap.get? b = some o → h1.get? b = some o) (t : Nat) :
    L2.Inv (cxS P w K mg base par qual scope f cd cc A outer s H) [] [some (.ref e), some v] H { s with heap := h1, toks := t } := by
  have noA : ∀ b : Addr, b ∉ (cxS P w K mg base par qual scope f cd cc A outer s H).ex := fun b z => absurd (show b ∈ ([] : List Addr) from z) (by simp)
  have hcc := e0.bs _ _ (e0.mod.kin _ _ hc)
  refine ⟨⟨e0.mod, S.kind, rfl, rfl, Nat.le_refl _, fun y z c h1 h2 => ?_, fun y hy => ?_, fun y c h _ => ?_, fun _ => hd, Around.frames_deeper e0.frames, .inr ⟨rfl, rfl⟩, fun b z => absurd z (noA b), e0.bs, e0.bsz, fun b _ _ => noA b, fun b z => absurd z (noA b), e0.funs, e0.frf⟩,
    rfl, e0.bare, Un.kept hk, ⟨_, hns, fun i y v' a1 a2 a3 => ?_⟩, fun y c h => ?_, e0.hok.fresh (Nat.le_refl _), fun y c h => ?_, fun p hp => absurd (show p ∈ ([] : List (Addr × Obj)) from hp) (by simp), e0.hok.kept hk, rfl⟩
  · rw [(lk1 h1).1, (lk1 h2).1]
  · have hy : scope.names.lookup y = some .cell ∨ scope.names.lookup y = some .free := hy
    rcases hy with hy | hy
    · exact absurd rfl (S.cell _ (PySem.mem_of_lookup hy))
    · have := S.free _ (PySem.mem_of_lookup hy) rfl
      exact ⟨cc, by rw [show y = "__class__" from this]; rfl⟩
  · cases h
  · have ne : (("self" : Str) == par) = false := S.ne
    match i, a1, a2 with
    | 0, a1, a2 =>
      cases a1; cases a2
      refine ⟨.ref e, rfl, .inl ⟨S.self, ?_⟩⟩
      show ([(par, u), ("self", Value.ref e)] : List (Str × Value)).lookup ("self" : Str) = _
      rw [List.lookup_cons, ne]
      rfl
    | 1, a1, a2 =>
      cases a1; cases a2
      refine ⟨u, rv, .inl ⟨S.pr, ?_⟩⟩
      show ([(par, u), ("self", Value.ref e)] : List (Str × Value)).lookup par = _
      rw [List.lookup_cons, beq_self_eq_true]
    | i + 2, a1, a2 => simp [cxS] at a1
  · rw [(lk1 h).2]
    exact ⟨some (.ref C), ⟨_, hk _ _ hcc.1, rfl⟩⟩
  · rw [(lk1 h).2]
    exact hcc.2
theorem init_ok (x : Xc P K mg C fI fld par tx st fd) : FnOk P w K mg base (L2.CX P w) 1 fI fd ["self", par] (spI C fld) := by
  obtain ⟨ox, hin, tI, hb, txl, S, ⟨ar, har, harg⟩, ⟨qual, oc, od, osl, kV, doc, pm, an, cda, cc, ct, rfl, lk, hcd, ⟨ccl, cdd, vs, ccs, f, tf, lkc, hvs, hfile⟩, cl, cld, csl, lkcell⟩, sup, subV, subC, fl, opq, noS, noStr, htop⟩ := x
  refine ⟨fun vs H Q E h => by obtain ⟨e, v, rfl, _⟩ := h; rfl, fun A outer s H args us vs' Q E hr e0 hbind r hsp => ?_⟩
  obtain ⟨e, v, rfl, hv, he, hq⟩ := hsp
  obtain ⟨u, rfl, rv⟩ : ∃ u, us = [Value.ref e, u] ∧ RelV v u := by
    cases r with | @cons _ u0 _ ur ra rt => cases rt with | @cons _ u _ un rv rn => cases rn; exact ⟨u, by rw [show u0 = Value.ref e from ra], rv⟩
  have KX : K.In s.heap := e0.mod.kin.keeps fun b o e => (e0.bs b o e).1
  have lim : s.heap.NoLimit := e0.mod.nolimit.keeps fun b o e => (e0.bs b o e).1
  obtain ⟨p0, p1, p2, p3, p4, p5, q1, q2, q3, q4, c1, c2, c3, c4, j, hbody, hev, hsw, hsx⟩ := hb
  obtain ⟨pl, hev⟩ := hev (ksEnv qual (defScope st) s.heap.objs.size fI (.ref cda) cc)
  refine ks_codeAny_call_defAt (body := defBody st) (binds := [("self", Value.ref e), (par, u)]) hr.depth (KX _ _ lk) rfl lim (PySem.W.codeRec_of KX hcd) rfl hbind S.cell (fun y hy => ?_) (fun h₁ hns hk => ?_) S.co S.gen S.kind
  · simp only [List.mem_cons, List.not_mem_nil, or_false] at hy
    rcases hy with rfl | rfl
    · exact S.self
    · exact S.pr
  have I : L2.Inv (cxS P w K mg base par qual (defScope st) fI (.ref cda) cc A outer s H) [] [some (.ref e), some v] H { s with heap := h₁, toks := s.toks + 2 } := invS S hr.hd e0 rv lkcell hns hk (s.toks + 2)
  show PySem.wpAt (model P w) (A.deeper (ksEnv qual (defScope st) s.heap.objs.size fI (.ref cda) cc)) (.func (defBody st) (ksEnv qual (defScope st) s.heap.objs.size fI (.ref cda) cc)) (execs (defBody st) (ksEnv qual (defScope st) s.heap.objs.size fI (.ref cda) cc)) _ _ { s with heap := h₁, toks := s.toks + 2 }
  rw [hbody]
  obtain ⟨nm, q, N, bs, bm, sn, sb, ab, col, dd, k0, k1, k2, k3, k5, hC, hbm⟩ := ox.cls
  have KX1 : K.In h₁ := KX.keeps hk
  have hC1 : h₁.get? C = some (excClassObj nm q C N bs bm true sn sb ab col dd k0 k1 k2 k3 k5 "ValueError.__new__") := KX1 _ _ hC
  obtain ⟨t1, hex⟩ := exo_at I.hok he
  refine ks_wpAt_execs_cons (ks_wpAt_Expr_any (ks_wpAt_MethodCall (pl := pl) ?_ hev) (by unfold interactive; rw [show (ksEnv qual (defScope st) s.heap.objs.size fI (.ref cda) cc).scope.kind = .function from S.kind]; rfl) (hsx _))
  refine ks_wpAt_super_base (f := fI) S.sup S.cls (by decide) rfl (KX1 _ _ lk) rfl har rfl (KX1 _ _ lkc) rfl hvs hfile htop ?_
  obtain ⟨mb, hmb, hbb⟩ := e0.mod.blt
  refine ks_loadName_global S.kind S.sup (PySem.Calls.loadGlobal_builtin (e0.mod.glob.keeps I.bk) noS (hmb.keeps I.bk) ((hbb _ (by decide)).trans (show bootBuiltins "super" = some (.type "super") from PyProof.Rows.Boot.«super»)) ⟨rfl, ?_⟩)
  refine wpAny_loadName_free S.kind S.cls rfl ⟨_, KX1 _ _ lkcell, rfl⟩ ?_
  rw [harg]
  refine wpAny_loadName_local S.kind S.self hns (v := .ref e) ?_ ?_
  · show ([(par, u), ("self", Value.ref e)] : List (Str × Value)).lookup ("self" : Str) = _
    rw [List.lookup_cons, S.ne]; rfl
  refine ks_wpAny_isType_cls hC1 rfl ⟨rfl, ?_⟩
  refine ks_wpAny_call_super hC1 rfl hex rfl (fun c z => by cases z) (looks_mroIn KX1 subC) (fun h2 hso k2 => ?_)
  have I2 := I.kept (t' := s.toks + 2) k2
  have KX2 : K.In h2 := KX1.keeps k2
  have IA : InstAt h2 e ({ cls := .ref C, dict := none, data := .fields #[.ref t1, .none, .none, .none, .bool false, .none] } : Obj) C none := ⟨k2 _ _ hex, rfl, rfl, trivial⟩
  have hcl : clsIn K C = some { name := nm, bases := bs, mro := .ref C :: bm, ns := N, qualname := q, hasDict := true, slotNames := sn, subclasses := sb, abstract := ab, collection := col, hasDel := false } := by unfold clsIn; rw [hC] <;> rfl
  have hal : alongIn K "__init__" (((Value.ref C :: bm).dropWhile (· != .ref C)).drop 1) = some (some (.builtin "ValueError.__init__")) := by
    unfold ks_superIn at sup
    rw [hcl] at sup
    exact sup
  refine kxs_getMethod kxs_ValueError hso (looks_opaque KX2 opq) (l₀ := .ref C :: bm) (fun A Q E s k q => wpAny_bind ((looks_clsIn KX2 hcl) A _ E s k (wpAny_pure q))) rfl KX2 hal (IA.type.andThen (looks_subIn KX2 subV)) (ks_ne KX2 IA hcl) (by decide) ?_
  have k3 : ∀ b o, h2.get? b = some o → (h2.push (kxs_mw "ValueError.__init__" e)).get? b = some o := fun b o z => Heap.get?_push_of_some _ z
  have hmw : (h2.push (kxs_mw "ValueError.__init__" e)).get? h2.objs.size = some (kxs_mw "ValueError.__init__" e) := Heap.get?_push_at rfl rfl
  have nL : h2.objs.size ≠ s.heap.objs.size := Nat.ne_of_gt I2.lt
  have nB : base.get? h2.objs.size = none := Heap.get?_none_of_le (Nat.le_trans e0.bsz (Nat.le_of_lt I2.lt))
  have I3 := (I2.kept (t' := s.toks + 3) k3).pins_of (pins' := [(h2.objs.size, kxs_mw "ValueError.__init__" e)]) (fun p hp => by
    rw [List.mem_singleton.mp hp]
    exact ⟨hmw, I2.hok.fresh (Nat.le_refl _), nL, I2.nofs (Nat.le_refl _), fun v z => by cases z⟩)
  refine kxs_callWith1 (i := "ValueError.__init__") (x := e) (news := [(h2.objs.size, kxs_mw "ValueError.__init__" e)]) (h₀ := base) (L := s.heap.objs.size) (fun p hp => by rw [List.mem_singleton.mp hp]; exact ⟨hmw, nL, nB⟩) (by simp) ?_
  have hstr : Gl (cxS P w K mg base par qual (defScope st) fI (.ref cda) cc A outer s H) "str" := S.str
  have pe : PE (cxS P w K mg base par qual (defScope st) fI (.ref cda) cc A outer s H) (.BinOp (.Constant (.str tx) j c1) .Add (.Call (.Name "str" c2) [.Name par c3] [] c4) p3) _ :=
    pe_op op_add_str pe_str (pe_callTy call_str2 hstr noStr PyProof.Rows.Boot.«str» (pa_cons (pv 1 rfl (.inl S.pr) S.dbg S.dcd) pa_nil))
  have rd : ∃ y : Str, L2.tCons (tOp (fun x y H Q => ∃ i j, x = .str i ∧ y = .str j ∧ i.length + j.length ≤ sizeLine ∧ Q (.str (i ++ j)) H) (tC (.str tx)) (tCB (fun xs H Q => (∃ i, xs = [.int i] ∧ i.natAbs.log2 < 1920 ∧ Q (.str (toString i)) H) ∨ ∃ a, xs = [.str a] ∧ Q (.str a) H) (L2.tCons (tVar 1) L2.tNil))) L2.tNil [some (.ref e), some v] H fun vs H1 => vs = [.str y] ∧ H1 = H := by
    rcases hv with ⟨x, rfl, hx⟩ | ⟨i, rfl, hi⟩
    · exact ⟨tx ++ x, .str x, rfl, .inr ⟨x, rfl, tx, x, rfl, rfl, by rw [sizeLine_eq]; omega, rfl, rfl⟩⟩
    · refine ⟨tx ++ (toString i : String), .int i, rfl, .inl ⟨i, rfl, by omega, tx, _, rfl, rfl, ?_, rfl, rfl⟩⟩
      have := int_text_length_le (a := i) (k := i.natAbs.log2 + 1) (Nat.succ_pos _) (Nat.lt_succ_self _)
      rw [PySem.ofString_length, sizeLine_eq]
      omega
  obtain ⟨y, rd'⟩ := rd
  refine wpAny_mono ((pa_cons pe pa_nil).run p4 _ _ _ H (fun vs H1 => vs = [.str y] ∧ H1 = H) I3 ?_) (fun us s4 hs4 => ?_) fun _ _ z => z.elim
  · exact rd'
  obtain ⟨vs4, H4, I4, r4, rfl, rfl⟩ := hs4
  have hmw4 : s4.heap.get? h2.objs.size = some (kxs_mw "ValueError.__init__" e) := (I4.pin (h2.objs.size, kxs_mw "ValueError.__init__" e) (List.mem_append_right _ (List.mem_singleton.mpr rfl))).1
  refine ⟨hmw4, ?_⟩
  obtain ⟨t2, hex2⟩ := exo_at I4.hok he
  have hC4 := I4.kIn _ _ hC
  have eu : upd H4 e (exo e C none) = H4 := by
    funext b
    by_cases hb : b = e
    · rw [hb, upd_same, he]
    · rw [upd_ne hb]
  have hz : us.length ≤ sizeLine := by rw [← Paired.length r4, sizeLine_eq]; simp
  obtain ⟨hp4, g4, d4, tk4, os4⟩ := s4
  refine wpAny_call (codeAny_of_tree ?_)
  show wpAny _ _ (callAny (.ref h2.objs.size) ⟨us, []⟩) _ _ _
  simp only [callAny]
  refine wpAny_bind (wpAny_load hmw4 ?_)
  simp only [kxs_mw, show (Value.type "method-wrapper" == Value.type "method" || Value.type "method-wrapper" == Value.type "builtin_function_or_method" || Value.type "method-wrapper" == Value.type "method-wrapper") = true by decide, if_true]
  refine KFB.if_so (by decide) ?_
  refine wpAny_bind (check_bound_init F.excBase_ValueError.toExcCallFacts hC4 hex2 rfl ?_)
  refine wpAny_bind (wpAny_pure (wpAny_pure ?_))
  refine ⟨plainId_quiet F.excBase_ValueError.init.plain _, codeAny_builtin F.excBase_ValueError.initEntry ?_⟩
  refine exc_init_tree (cls := .ref C) (t0 := t2) (dv := none) (c2 := .none) (c3 := .none) (b4 := .bool false) hex2 hz fun h5 k5' hx5 _ => ?_
  have J := I4.write (t' := tk4) (x := e) (e := e) (o := exo e C none) (by rw [he]; exact True.intro) (.inl rfl) k5' ⟨_, hx5⟩ (exo_ok hx5)
  rw [eu] at J
  refine wpAt_of_wpAny (wpAny_mono ((pss_one (ps_ost (pv 0 rfl (.inl S.self)) (pv 1 rfl (.inl S.pr) S.dbg S.dcd) (hsw _))).run _ _ _ H4 { nx := fun _ H' => Q .non H', rt := fun _ _ => False } J ?_) (fun fl s5 hs => ?_) fun _ _ z => z.elim)
  · exact ⟨v, rfl, .ref e, rfl, e, C, rfl, ox, fl, .inl ⟨he, hq⟩⟩
  · cases fl with
    | next =>
      obtain ⟨σ', H', J, q⟩ := hs
      exact ⟨.non, H', J.os, J.bare, J.base, J.hok, rfl, q⟩
    | ret u =>
      obtain ⟨_, _, _, _, _, q⟩ := hs
      exact q.elim
    | brk =>
      obtain ⟨_, _, _, q⟩ := hs
      exact False.elim q
    | cont =>
      obtain ⟨_, _, _, q⟩ := hs
      exact False.elim q
end
end Fz
set_option Elab.async false
set_option linter.all false
set_option maxRecDepth 100000
set_option maxHeartbeats 4000000
/-! Fz: raise of own exceptions; try with one clause; the suite's answer as a function of the class and what the exception holds. -/
namespace Fz
open PySem PySem.W L2 PyProof.Rows

/-- what may be held -/
def okP (w : W) : Bool := match w with
  | .d (.str l) => decide (l.length ≤ 1000)
  | .d (.int i) => decide (i.natAbs.log2 < 1900)
  | _ => false
def sRaise (c : Nat) (ce : Cd) : Cs := fun e h => lift (ce e h) e fun w h => if okP w then .ex c w e h else .no
section
variable {X : Cx} {T : Tb} {Wx : WX} {e : Expr} {ce : Cd} {c : Nat} {fI : Addr} {fld par tx x : Str} {st : Stmt} {fd : FuncData} {p pos pos' : Pos}
theorem upd_del {H1 : Hp} {a dx : Addr} {o1 o2 o3 u : HO} (ha : H1 a = none) (hd : dx ≠ a) : upd (del (upd (upd (upd H1 a o1) dx o2) a o3) a) dx u = upd H1 dx u := by
  funext b
  by_cases h1 : b = dx
  · rw [h1, upd_same, upd_same]
  · rw [upd_ne h1, upd_ne h1]
    by_cases h2 : b = a
    · rw [h2, del_same, ha]
    · rw [del_ne h2, upd_ne h2, upd_ne h1, upd_ne h2]
theorem fs_raise {k : Nat} (G : Cg X Wx (k + 2)) (xc : Xc X.prog X.K X.mg (T.xad c) fI fld par tx st fd) (bnd : ∀ us : List Value, us.length = 2 → bindArgs fd ⟨us, []⟩ = pure (([("self" : Str), par] : List Str).zip us)) (hf : T.efl c = fld) (hg : Gl X x) (hm : X.mg x = some (.ref (T.xad c)))
    (he : FE X T Wx e ce) (hdb : (x == ("__debug__" : Str)) = false) (hst : starEach [e] X.env = (false, eval e X.env) :: starEach [] X.env) :
    FS X T Wx (.Raise (some (.Call (.Name x p) [e] [] pos)) none pos') (sRaise c ce) := by
  refine PS.imp (ps_raise G.calm G.tk (pmk_oex (k := 1) (dvs := []) (ds := []) xc.ox xc.init xc.tI (init_ok xc) (G.room.mono (by omega)) (Binds.all bnd) .nil (fun pins σ H s er s' I hc => passes_call (W := fun _ _ _ _ => False) (Takes.imp G.tk fun _ _ _ _ z => z.elim) (fun _ _ _ _ z => z) pins σ H s er s' I hc) hg hm (pa_cons he pa_nil hst) hdb hst rfl)) fun D σ H q => ?_
  obtain ⟨F, ρ, ev, ih, hr, re, hp⟩ := q
  refine ⟨F, ρ, ev, ih, hr, re, (Pss.lift hr re hp).mono fun ρ1 H1 ih1 w g1 hr1 hp1 v rv => ?_⟩
  show ([v] : List V).length ≤ 1000 ∧ _
  refine ⟨by simp, fun a ha => ?_⟩
  have re1 := re.grow g1 hr
  have hok : okP w = true := by
    cases hk : okP w with
    | true => rfl
    | false => rw [hk] at hp1; exact hp1.elim
  rw [hok, if_pos rfl] at hp1
  have hv : (∃ x : Str, v = .str x ∧ x.length ≤ 1000) ∨ ∃ i : Int, v = .int i ∧ i.natAbs.log2 < 1900 := by
    unfold okP at hok
    split at hok
    · rename_i l
      cases rv with | d rv => cases rv with | str _ z => exact .inl ⟨_, rfl, by rw [toStr_len]; exact of_decide_eq_true hok⟩
    · rename_i i
      cases rv with | d rv => cases rv with | int _ => exact .inr ⟨_, rfl, of_decide_eq_true hok⟩
    · cases hok
  refine ⟨a, v, rfl, hv, upd_same, fun dx hdx hne => ⟨(rfl : V.non = V.non), dx, [(fld, v)], upd_same, ?_, ?_, ?_⟩⟩
  · rw [upd_ne hne, upd_same]
  · rwa [upd_ne hne] at hdx
  · have hd1 : H1 dx = none := by rwa [upd_ne hne] at hdx
    rw [upd_del ha hne]
    have g2 : Grow F ρ1 H1 ρ1 (upd H1 dx (.xd [(fld, v)])) := grow_new hd1
    exact hp1 ρ1 _ σ _ (some dx) g2 (hr1.new hd1) (re1.grow g2 hr1) ⟨rfl, dx, v, rfl, by rw [upd_same, hf], not_new hr1 hd1, rv.grow g2 hr1⟩
end

/-! ### suites -/
/-- isinstance(e, c) where the exception has its dict -/
def rIsF (K : PySem.W.Frag) (D a dd : Addr) : List V → Hp → VK → Prop := fun xs H Q => ∃ (c : V) (cv : Value) (b : Bool) (fs : List (Str × V)), xs = [.ref a, c] ∧ (∀ u, RelV c u → u = cv) ∧ kitOne K (.ref D) cv = some b ∧ H dd = some (.xd fs) ∧ Q (.bl b) H
theorem exc_inst {Y : Cx} {pins : List (Addr × Obj)} {σ : L2.St} {H : Hp} {s : Shared} {a D dd : Addr} {oe : Obj} {fs : List (Str × V)} (I : L2.Inv Y pins σ H s) (hp : (a, oe) ∈ Y.pn) (hz : Zc (.ref D) (some dd) oe) (hf : ∃ vs, oe.data = .fields vs) (hdd : H dd = some (.xd fs)) :
    ∃ (od : Obj) (mA : Str → Option Value), PySem.W.InstAt s.heap a oe D (some od) ∧ (∀ f, RelO (fs.lookup f) (mA f)) ∧ ∀ n, PySem.W.lookIn n od = some (mA n) := by
  obtain ⟨hget, _⟩ := I.pin (a, oe) (List.mem_append_left _ hp)
  obtain ⟨vs, hv⟩ := hf
  have hx : ObjOk Y.prog Y.w H s.heap dd (.xd fs) := I.hok dd _ hdd
  obtain ⟨mA, hns, hr⟩ := hx
  obtain ⟨od, ho, hl⟩ := lookIn_ns hns
  exact ⟨od, mA, ⟨hget, hz.1, by unfold PySem.W.notCls; rw [hv] <;> rfl, by rw [hz.2]; exact ho⟩, hr, hl⟩
theorem call_isF {Y : Cx} {a D dd : Addr} {oe : Obj} (C : ExcC Y.K D) (hp : (a, oe) ∈ Y.pn) (hz : Zc (.ref D) (some dd) oe) (hf : ∃ vs, oe.data = .fields vs) : CallR Y (.builtin "isinstance") (rIsF Y.K D a dd) := by
  intro pins s σ H xs us Q I r h
  obtain ⟨c, cv, b, fs, rfl, hcv, e, hdd, q⟩ := h
  cases r with | cons rx rr => cases rr with | cons rt rr =>
    cases rr
    cases rx
    have ec := hcv _ rt
    subst ec
    obtain ⟨od, mA, J, _, _⟩ := exc_inst I hp hz hf hdd
    obtain ⟨cd, hc, _⟩ := PySem.W.any_some C.hd
    exact PySem.W.kia_one (PySem.W.kitx_exc (by rw [hc]; rfl) C.hg C.hk C.hs C.ha C.hn C.ht C.hm) I.kIn J e (fun z => nomatch z) fun tk => ⟨.bl b, H, I.kept (t' := tk) fun _ _ z => z, rfl, q⟩
theorem pe_xfY {Y : Cx} {a C dd : Addr} {oe : Obj} {e : Expr} {te : TE} {pos : Pos} {n : Str} (T : XfC Y.K C) (hno : PySem.W.findIn Y.K (.ref C) n = some none) (hp : (a, oe) ∈ Y.pn) (hz : Zc (.ref C) (some dd) oe) (hf : ∃ vs, oe.data = .fields vs) (he : PE Y e te)
    (hb : attributeBase e n Y.env (eval e Y.env) = eval e Y.env) :
    PE Y (.Attribute e n pos) (fun σ H Q => te σ H fun x H1 => x = .ref a ∧ ∃ (fs : List (Str × V)) (v : V), H1 dd = some (.xd fs) ∧ fs.lookup n = some v ∧ Q v H1) := by
  refine ⟨fun pins s σ H Q I h => attr_of hb (thn (he.run pins s σ H _ I h) fun u s1 hh => ?_)⟩
  obtain ⟨x, H1, I1, rx, ex, fs, v, ea, l, q⟩ := hh
  subst ex
  obtain rfl : u = Value.ref a := rx
  obtain ⟨od, mA, J, hr, hl⟩ := exc_inst I1 hp hz hf ea
  have hrn := hr n
  rw [l] at hrn
  obtain ⟨w, hu, ru⟩ := RelO.some_of (v := v) hrn
  exact HandSPX.exc_get I1.kIn J T.ga T.gg T.exC (PySem.W.findObj_own T.hdC hno rfl (by rw [hl, hu])) (handed_of ru) ⟨v, H1, I1.tok _, ru, q⟩

/-- things are added alone -/
def More (H H' : Hp) : Prop := ∀ b o, H b = some o → H' b = some o
theorem More.refl {H : Hp} : More H H := fun _ _ h => h
theorem More.trans {H H1 H2 : Hp} (a : More H H1) (b : More H1 H2) : More H H2 := fun c o h => b c o (a c o h)
theorem More.new {H : Hp} {p : Addr} {o : HO} (hp : H p = none) : More H (upd H p o) := fun b u h => by rw [upd_ne (fun z => by rw [z, hp] at h; cases h)]; exact h
/-- in a suite: the exception at a has v -/
def Cn (i : Nat) (a dd : Addr) (fld : Str) (v : V) (σ : L2.St) (H : Hp) : Prop := σ[i]? = some (some (.ref a)) ∧ H dd = some (.xd [(fld, v)])
section
variable (X : Cx) (a : Addr) (i : Nat) (dd : Addr) (fld : Str)
def KV (e : Expr) (f : V → Option V) : Prop := PE X e fun σ H Q => ∃ v u, Cn i a dd fld v σ H ∧ f v = some u ∧ Q u H
def KB (e : Expr) (f : V → Option Bool) : Prop := PT X e fun σ H Q => ∃ v b, Cn i a dd fld v σ H ∧ f v = some b ∧ Q b H
def KW (e : Expr) (f : V → Option Bool) : Prop := PW X e fun σ H Q => ∃ v b, Cn i a dd fld v σ H ∧ f v = some b ∧ Q b H
def KS (l : List Stmt) (f : V → Option V) : Prop := PSs X l fun D σ H => ∃ v u, Cn i a dd fld v σ H ∧ f v = some u ∧ ∀ H', More H H' → D.rt u H'
end
section
variable {X : Cx} {a D : Addr} {oe : Obj} {i : Nat} {dd : Addr} {fld x n : Str} {e t u : Expr} {es : List Expr} {f g h : V → Option V} {b b' : V → Option Bool} {p q pos : Pos} {k : Nat}
theorem kv_str {x : Str} : KV X a i dd fld (.Constant (.str x) k pos) (fun _ => some (.str x)) := PE.imp pe_str fun σ H Q ⟨v, u, c, e, q⟩ => by cases e; exact q
theorem kv_name (hN : X.N[i]? = some n) (hv : Vis X.env.scope n) (hd : (n == ("__debug__" : Str)) = false) (hc : (n == ("__classdict__" : Str)) = false) : PE X (.Name n pos) (tVar i) := pe_var hN hv hd hc
theorem kv_fld (T : XfC X.K D) (hpn : (a, oe) ∈ X.pn) (hno : findIn X.K (.ref D) fld = some none) (hz : Zc (.ref D) (some dd) oe) (hf : ∃ vs, oe.data = .fields vs) (he : PE X e (tVar i)) (hb : attributeBase e fld X.env (eval e X.env) = eval e X.env) :
    KV X a i dd fld (.Attribute e fld pos) some := PE.imp (pe_xfY T hno hpn hz hf he hb) fun σ H Q ⟨v, u, c, e, q⟩ => by
  cases e
  exact ⟨.ref a, c.1, rfl, [(fld, v)], v, c.2, by simp [List.lookup], q⟩
theorem kv_isi {cl : Value} {cv : V} {r : Bool} (C : ExcC X.K D) (hpn : (a, oe) ∈ X.pn) (hz : Zc (.ref D) (some dd) oe) (hf : ∃ vs, oe.data = .fields vs) (hk : kitOne X.K (.ref D) cl = some r) (hr : ∀ u, RelV cv u → u = cl) (hg : Gl X "isinstance") (hm : X.mg "isinstance" = none)
    (he : PE X e (tVar i)) (ht : PE X t (tC cv)) (h1 : starEach [e, t] X.env = (false, eval e X.env) :: starEach [t] X.env) (h2 : starEach [t] X.env = (false, eval t X.env) :: starEach [] X.env) :
    KV X a i dd fld (.Call (.Name "isinstance" p) [e, t] [] pos) (fun _ => some (.bl r)) := PE.imp (pe_callB (call_isF C hpn hz hf) hg hm PyProof.Rows.Boot.«isinstance» (pa_cons he (pa_cons ht pa_nil h2) h1) (by decide) (by decide) h1 (by
      show (backTo pos (starEach [t] X.env)).any (·.1) = false
      rw [h2]; rfl)) fun σ H Q ⟨v, u, c, e, q⟩ => by
  cases e
  exact ⟨.ref a, c.1, cv, cl, r, [(fld, v)], rfl, hr, hk, c.2, q⟩
def catV (y : Str) (x : V) : Option V := match x with
  | .str s => if s.length + y.length ≤ sizeLine then some (.str (y ++ s)) else none
  | _ => none
theorem kv_cat {y : Str} (he : KV X a i dd fld e f) : KV X a i dd fld (.BinOp (.Constant (.str y) k p) .Add e pos) (fun v => (f v).bind (catV y)) := PE.imp (pe_op op_add_str pe_str he) fun σ H Q ⟨v, u, c, e, q⟩ => by
  dsimp only at e
  cases hf : f v with
  | none => rw [hf] at e; cases e
  | some w =>
    rw [hf, Option.bind_some] at e
    unfold catV at e
    split at e
    · rename_i s
      split at e
      · rename_i hl
        cases e
        exact ⟨v, _, c, hf, y, s, rfl, rfl, by omega, q⟩
      · cases e
    · cases e
def cIfV {α : Type} (b : V → Option Bool) (f g : V → Option α) (v : V) : Option α := (b v).bind fun k => if k then f v else g v
theorem kv_if (ht : KB X a i dd fld t b) (hf : KV X a i dd fld e f) (hg : KV X a i dd fld u g) : KV X a i dd fld (.IfExp t e u pos) (cIfV b f g) := PE.imp (pe_ifExp ht hf hg) fun σ H Q ⟨v, w, c, e, q⟩ => by
  unfold cIfV at e
  cases hb : b v with
  | none => rw [hb] at e; cases e
  | some k =>
    rw [hb, Option.bind_some] at e
    refine ⟨v, k, c, hb, ?_⟩
    cases k with
    | true => exact iteT ⟨v, w, c, e, q⟩
    | false => exact iteF ⟨v, w, c, e, q⟩
def asBV (x : V) : Option Bool := match x with
  | .bl k => some k
  | _ => none
theorem kb_v (he : ∀ whole, isTrue e X.env whole = (do let v ← whole; standAt e.pos; holding [v] (truthy v))) (hf : KV X a i dd fld e f) : KB X a i dd fld e (fun v => (f v).bind asBV) := PT.imp (pt_truth hf he) fun σ H Q ⟨v, w, c, e, q⟩ => by
  dsimp only at e
  cases hv : f v with
  | none => rw [hv] at e; cases e
  | some z =>
    rw [hv, Option.bind_some] at e
    unfold asBV at e
    split at e
    · cases e
      exact ⟨v, _, c, hv, _, rfl, q⟩
    · cases e
theorem kb_not (h : KB X a i dd fld e b) : KB X a i dd fld (.UnaryOp .Not e pos) (fun v => (b v).map (!·)) := PT.imp (pt_not h) fun σ H Q ⟨v, w, c, e, q⟩ => by
  dsimp only at e
  cases hv : b v with
  | none => rw [hv] at e; cases e
  | some z => rw [hv] at e; cases e; exact ⟨v, z, c, hv, q⟩
theorem kw_1 {o : BoolOp} (h : KB X a i dd fld e b) : KW X a i dd fld (.BoolOp o [e] pos) b := by
  cases o
  · exact pw_and1 h
  · exact pw_or1 h
theorem kw_and (h1 : KB X a i dd fld e b) (h2 : KW X a i dd fld (.BoolOp .And (t :: es) pos) b') : KW X a i dd fld (.BoolOp .And (e :: t :: es) pos) (cIfV b b' fun _ => some false) := PW.imp (pw_and h1 h2) fun σ H Q ⟨v, w, c, e, q⟩ => by
  unfold cIfV at e
  cases hb : b v with
  | none => rw [hb] at e; cases e
  | some k =>
    rw [hb, Option.bind_some] at e
    refine ⟨v, k, c, hb, ?_⟩
    cases k with
    | true => exact iteT ⟨v, w, c, e, q⟩
    | false => cases e; exact iteF q
theorem kw_or (h1 : KB X a i dd fld e b) (h2 : KW X a i dd fld (.BoolOp .Or (t :: es) pos) b') : KW X a i dd fld (.BoolOp .Or (e :: t :: es) pos) (cIfV b (fun _ => some true) b') := PW.imp (pw_or h1 h2) fun σ H Q ⟨v, w, c, e, q⟩ => by
  unfold cIfV at e
  cases hb : b v with
  | none => rw [hb] at e; cases e
  | some k =>
    rw [hb, Option.bind_some] at e
    refine ⟨v, k, c, hb, ?_⟩
    cases k with
    | true => cases e; exact iteT q
    | false => exact iteF ⟨v, w, c, e, q⟩
theorem kb_w (h : KW X a i dd fld e b) : KB X a i dd fld e b := PW.pt h
def eqBV (f g : V → Option V) (v : V) : Option Bool := (f v).bind fun x => (g v).bind fun y => (asBV x).bind fun k => (asBV y).map fun l => k == l
theorem kb_eq (hm : behindInMarks .Eq t = false) (h1 : KV X a i dd fld e f) (h2 : KV X a i dd fld t g) : KB X a i dd fld (.Compare e [.Eq] [t] pos) (eqBV f g) := PT.imp (pt_cmpR op_eq h1 h2 hm) fun σ H Q ⟨v, w, c, e, q⟩ => by
  unfold eqBV at e
  cases hx : f v with
  | none => rw [hx] at e; cases e
  | some x =>
    cases hy : g v with
    | none => rw [hx, hy] at e; cases e
    | some y =>
      rw [hx, hy, Option.bind_some, Option.bind_some] at e
      cases x with
      | bl k =>
        cases y with
        | bl l =>
          cases e
          refine ⟨v, _, c, hx, v, _, c, hy, rfl, _, rfl, ?_⟩
          have : decide (V.bl k = V.bl l) = (k == l) := dec_bl
          rw [this]
          exact q
        | _ => cases e
      | _ => cases e
theorem ks_ret (h : KV X a i dd fld e f) : KS X a i dd fld [.Return (some e) pos] f := PSs.imp (pss_one (ps_ret h)) fun D σ H ⟨v, u, c, e, q⟩ => ⟨v, u, c, e, q H More.refl⟩
theorem ks_if {s1 s2 : List Stmt} {r : Stmt} (ht : KB X a i dd fld t b) (h1 : KS X a i dd fld [r] f) (h2 : KS X a i dd fld s2 g) : KS X a i dd fld (.If t [r] [] pos :: s2) (cIfV b f g) :=
  PSs.imp (pss_cons (ps_if ht h1 pss_nil) h2) fun D σ H ⟨v, w, c, e, q⟩ => by
    unfold cIfV at e
    cases hb : b v with
    | none => rw [hb] at e; cases e
    | some k =>
      rw [hb, Option.bind_some] at e
      refine ⟨v, k, c, hb, ?_⟩
      cases k with
      | true => exact iteT ⟨v, w, c, e, q⟩
      | false => exact iteF ⟨v, w, c, e, q⟩
end
/-! ### try .. except C as e: the suite answers -/
theorem grow_more {F ρ : List Addr} {H H' : Hp} (m : More H H') : Grow F ρ H ρ H' := ⟨⟨[], by simp⟩, fun a o h _ => m a o h, fun a h n => absurd h n, fun a _ _ h => m a _ h⟩
theorem HR.more {K T F ρ ih H H'} (h : HR K T F ρ ih H) (m : More H H') : HR K T F ρ ih H' where
  len := h.len
  nd := h.nd
  fr := h.fr
  trF := fun a ha e => by
    cases q : H a with
    | none => exact h.trF a ha q
    | some o => rw [m a o q] at e; cases e
  obj := fun n o e => by
    obtain ⟨a, ho, e1, e2, ro⟩ := h.obj n o e
    exact ⟨a, ho, e1, m a ho e2, ro.grow (grow_more m) h⟩
  ntF := fun a ha xs e => by
    cases q : H a with
    | none => exact h.trF a ha q
    | some o =>
      rw [m a o q] at e
      cases e
      exact h.ntF a ha xs q
def smD : D → Bool
  | .tup _ => false
  | .lst _ => false
  | _ => true
theorem sm_of {K M H x v} (h : smD x = true) (r : Rp K M H x v) : Sm x v := by
  cases r with
  | non => exact .non
  | bl b => exact .bl b
  | int i => exact .int i
  | str l z => exact .str l z
  | tup _ _ _ => cases h
  | lst _ _ _ => cases h
def sTry (i : Nat) (cs : List Nat) (b : Cs) (su : Nat → D → Option D) : Cs := fun e h => match b e h with
  | .ex c p e' h' => match p with
    | .d x => if cs.contains c && smD x && decide (i < e'.length) then match su c x with
      | some y => .rt (.d y) h'
      | none => .no else .no
    | _ => .no
  | r => r
/-- a suite's answer in numbers and texts -/
def SuF (su : Nat → D → Option D) (c : Nat) (f : V → Option V) : Prop := ∀ x y v, su c x = some y → Sm x v → ∃ u, f v = some u ∧ Sm y u
theorem fs_try {X : Cx} {T : Tb} {Wx : WX} {k : Nat} {body suite : List Stmt} {b₀ : Stmt} {x n : Str} {np pos pos' : Pos} {i : Nat} {cs : List Nat} {cb : Cs} {su : Nat → D → Option D} {cM : Value} (G : Cg X Wx k) (hs : X.stack = X.env :: X.outer) (hf : X.env.frame = some X.env.locals)
    (hi : X.N[i]? = some n) (hln : X.env.kindOf n = some .local) (hc : Names X x cM) (hx : ∀ c ∈ cs, exmOne X.K (.ref (T.xad c)) cM = some true)
    (hb : ∀ (W : WX) (pn : List (Addr × Obj)) (xe : Value → Shared → Prop), Cg (X.tr pn xe) W k → FSs (X.tr pn xe) T W body cb)
    (hsu : ∀ c ∈ cs, ∃ f, SuF su c f ∧ ∀ (a : Addr) (oe : Obj) (dd : Addr) (pn : List (Addr × Obj)), Zc (.ref (T.xad c)) (some dd) oe → (∃ vs, oe.data = .fields vs) → KS (X.suite a ((a, oe) :: pn)) a i dd (T.efl c) (b₀ :: suite) f) :
    FS X T Wx (.Try body [.ExceptHandler (some (.Name x np)) (some n) (b₀ :: suite) pos'] [] [] pos) (sTry i cs cb su) := by
  let ts : Addr → Value → Option Addr → TS := fun a cls d Z σ H => ∃ c, c ∈ cs ∧ cls = .ref (T.xad c) ∧ ∃ dd, d = some dd ∧ ∃ (x y : D) (v : V), su c x = some y ∧ Sm x v ∧ Cn i a dd (T.efl c) v σ H ∧ ∀ u, Sm y u → ∀ H', More H H' → Z.rt u H'
  refine PS.imp (ps_try_as (ts := ts) (tb := fun W => sOf X.K T W cb) hs hf G.nd hi hln hc G.tk (fun W pn xe tk po => hb W pn xe ⟨G.calm, G.room, G.gd, tk, G.nd, po⟩) (fun a oe cls d pn hz hfi => ⟨fun pins s σ H D I h => ?_⟩)) fun D σ H q => ?_
  · obtain ⟨c, hc, rfl, dd, rfl, x, y, v, e1, e2, cn, q⟩ := h
    obtain ⟨f, sf, ks⟩ := hsu c hc
    obtain ⟨u, e3, e4⟩ := sf x y v e1 e2
    exact (ks a oe dd pn hz hfi).run pins s σ H D I ⟨v, u, cn, e3, q u e4⟩
  · obtain ⟨F, ρ, ev, ih, hr, re, hp⟩ := q
    refine ⟨F, ρ, ev, ih, hr, re, ?_⟩
    unfold sTry at hp
    cases e : cb ev ih with
    | nx e2 h2 => rw [e] at hp; exact hp
    | rt w h2 => rw [e] at hp; exact hp
    | bk e2 h2 => rw [e] at hp; exact hp
    | ct e2 h2 => rw [e] at hp; exact hp
    | no => rw [e] at hp; exact hp.elim
    | ex c p e2 h2 =>
      rw [e] at hp
      dsimp only at hp
      cases p with
      | r n => exact hp.elim
      | f n => exact hp.elim
      | d x =>
        dsimp only at hp
        split at hp
        · rename_i cc
          simp only [Bool.and_eq_true, decide_eq_true_eq, List.contains_iff_mem] at cc
          cases e3 : su c x with
          | none => rw [e3] at hp; exact hp.elim
          | some y =>
            rw [e3] at hp
            intro ρ' H' σ' cls dx g hr' re' xr
            obtain ⟨rfl, d, v, rfl, hd, nd, rv⟩ := xr
            refine ⟨true, hx c cc.1.1, fun _ a _ => ?_, fun z => by cases z⟩
            have sm : Sm x v := by cases rv with | d rv => exact sm_of cc.1.2 rv
            refine ⟨c, cc.1.1, rfl, d, rfl, x, y, v, e3, sm, ⟨?_, hd⟩, fun u su H2 m => hp ρ' H2 u (g.trans hr' (grow_more m)) (hr'.more m) su.rw⟩
            rw [List.getElem?_set_self (by rw [← re'.1]; exact cc.2)]
        · exact hp.elim
end Fz
set_option Elab.async false
set_option linter.all false
set_option maxRecDepth 100000
set_option maxHeartbeats 4000000
/-! Fz: enumerate, zip, range with a step as what is walked. -/
namespace PySem
namespace FzE
open PySem.W PyProof.Rows
theorem enum_made {v : Value} {ob : Obj} {Hq : Heap → Prop} (B : Begins v ob Hq) :
    Meets (Builtin.«enumerate.__new__» ⟨[.type "enumerate", v], []⟩) (fun _ R s => Hq s.heap ∧ R (.ok (.ret (.ref (s.heap.push ob).objs.size)))
      { s with heap := (s.heap.push ob).push { cls := .type "enumerate", data := .fields #[.none, .bool false, .ref s.heap.objs.size, rawInt 0, .none, .none] } }) :=
  .of_wp fun prog w A R s hs => by
    obtain ⟨hp, gg, dd, tk, os⟩ := s
    obtain ⟨h1, h2⟩ := hs
    have hsub := sub_enumerate
    have go : ∀ {A1 : Around} {E1 Q1 : Value → Shared → Prop}, Q1 (.ref hp.objs.size) ⟨hp.push ob, gg, dd, tk, os⟩ → wpAny (model prog w) A1 (pyIter v) Q1 E1 ⟨hp, gg, dd, tk, os⟩ := fun q => B.iter prog w _ _ ⟨hp, gg, dd, tk, os⟩ _ h1 q
    wp_walk using go
    refine wpAny_stack_any fun below => wpAny_pure ?_
    split
    · rename_i c _ _ _ _ _
      cases (c == Value.type "enumerate") <;> (wp_walk using go; exact ⟨_, rfl, h2⟩)
    · wp_walk using go
      exact ⟨_, rfl, h2⟩
section
variable {prog : Program} {w : World} {A : Around} {E : Value → Shared → Prop} {s : Shared}
theorem call_enum {v : Value} {ob : Obj} {Hq : Heap → Prop} {Q : Value → Shared → Prop} (B : Begins v ob Hq) (h1 : Hq s.heap)
    (h : ∀ h', IsEnum h' (s.heap.objs.size + 1) s.heap.objs.size 0 .none → h'.get? s.heap.objs.size = some ob → h'.objs.size = s.heap.objs.size + 2 → (∀ b o, s.heap.get? b = some o → h'.get? b = some o) →
      Q (.ref (s.heap.objs.size + 1)) { s with heap := h' }) : wpAny (model prog w) A (call (.type "enumerate") [v]) Q E s := by
  refine callType_new F.called_enumerate (by decide) (F.typeCall_enumerate_1 _) (F.newCall_enumerate_1 _) (fun obj => F.args_object_init_2 obj _) F.entry_enumerate_new (enum_made B) ⟨h1, ?_⟩
  have hz : (s.heap.push ob).objs.size = s.heap.objs.size + 1 := Heap.size_push ..
  show _ ∧ _
  rw [hz]
  have he : IsEnum ((s.heap.push ob).push { cls := .type "enumerate", data := .fields #[.none, .bool false, .ref s.heap.objs.size, rawInt 0, .none, .none] }) (s.heap.objs.size + 1) s.heap.objs.size 0 .none := by
    have q := Heap.get?_push_size (s.heap.push ob) (o := { cls := .type "enumerate", data := .fields #[.none, .bool false, .ref s.heap.objs.size, rawInt 0, .none, .none] }) rfl
    rw [hz] at q
    exact q
  refine ⟨⟨_, he, rfl⟩, h _ he (Heap.get?_push_of_some _ (Heap.get?_push_size _ B.free)) (by rw [Heap.size_push, hz]) fun b o x => ?_⟩
  exact Heap.get?_push_of_some _ (Heap.get?_push_of_some _ x)
end
end FzE
end PySem
namespace Fz
open PySem PySem.W L2 PyProof.Rows
/-- the tuple at a, its items in new pairs with their places -/
def ItET (K : PySem.W.Frag) (a : Addr) (n : Nat) : It where
  go := fun i H => ∃ (xs : List V) (x : V), SqT K H a xs ∧ xs.length = n ∧ xs[i]? = some x
  yld := fun i H v H' => ∃ T x, v = .ref T ∧ H T = none ∧ H' = upd H T (.tup [.int (i : Nat), x]) ∧ ∀ xs, SqT K H a xs → xs[i]? = some x
  stop := fun i H => ∃ xs : List V, SqT K H a xs ∧ xs.length = n ∧ n ≤ i
theorem tup_enum_ne {h : Heap} {e it a : Addr} {i : Int} {old : Value} {its : Array Value} (he : IsEnum h e it i old) (ht : IsTup h a its) : e ≠ a := fun z => by
  obtain ⟨o, ho, hc, _⟩ := ht
  rw [← z, he] at ho
  cases ho
  injection hc with hc
  exact absurd hc (by decide)
theorem tup_iter_ne {h : Heap} {it a b : Addr} {i : Nat} {its : Array Value} (he : h.IsTupleIter it b i) (ht : IsTup h a its) : a ≠ it := fun z => by
  obtain ⟨o, ho, hc, _⟩ := ht
  obtain ⟨o2, ho2, hc2, _⟩ := he
  rw [z, ho2] at ho
  cases ho
  rw [hc] at hc2
  injection hc2 with hc2
  exact absurd hc2 (by decide)
theorem turn_et {P : Program} {w : World} {K : PySem.W.Frag} {elts : List Expr} {kk : Nat} {tpos : Pos} (a e it : Addr) (n : Nat) :
    Turn P w K (.Tuple elts kk tpos) (ItET K a n) [e, it] e (fun i h => (∃ old, IsEnum h e it ((i : Nat) : Int) old) ∧ h.IsTupleIter it a i ∧ e ≠ it ∧ i ≤ n) where
  mem := by simp
  obj := fun i h st b hb => by
    obtain ⟨⟨old, he⟩, ⟨o, ho, hc, hd⟩, _⟩ := st
    simp only [List.mem_cons, List.not_mem_nil, or_false] at hb
    rcases hb with rfl | rfl
    · exact ⟨_, he, fun v q => nomatch q⟩
    · exact ⟨o, ho, fun v q => by rw [hd] at q; cases q⟩
  keep := fun i h h' st k => by
    obtain ⟨⟨old, he⟩, hi, hne, hin⟩ := st
    exact ⟨⟨old, k e (by simp) _ he⟩, hi.at fun o q => k it (by simp) o q, hne, hin⟩
  item := by
    intro X hP hw hK hc i pins s σ H E I hf st hg
    subst hP hw hK
    obtain ⟨⟨old, he⟩, hit, hne, hin⟩ := st
    obtain ⟨xs, x, hq, hxn, hx⟩ := hg
    obtain ⟨its, rv, p, hz⟩ := I.tuple hq
    obtain ⟨u, hu, ru⟩ := rv.get hx
    have hlt : i < its.toArray.size := by simpa using (List.getElem?_eq_some_iff.mp hu).1
    have ne2 := tup_enum_ne he p
    have ne3 := tup_iter_ne hit p
    have hel : e < s.heap.objs.size := Heap.lt_size he
    have hil : it < s.heap.objs.size := by obtain ⟨_, q, _⟩ := hit; exact Heap.lt_size q
    refine wpAny_pyNext_enum_itemD (PySem.Draws.tuple (A := X.A.in1) (I.ok.hd hc) it a ne3 its.toArray) he ⟨hit, p⟩ hlt hne (by simp [hne, ne2]) fun y h' tk hy ho hst hT hsz hk => ?_
    have ey : y = u := by
      have h1 : its[i]? = some y := by simpa using hy
      rw [hu] at h1
      exact (Option.some.inj h1).symm
    subst ey
    refine ⟨_, rfl, wpAny_letOwnedTupleGo_enum (s := { s with heap := h', toks := tk + 1 }) ho fun h'' he' sb => ?_⟩
    have hT2 : h''.get? s.heap.objs.size = some { cls := .type "tuple", data := .seq #[.int i tk, y] } := (sb.2 _ (Nat.ne_of_gt hel)).trans hT
    have new : ObjOk X.prog X.w (upd H s.heap.objs.size (.tup [.int (i : Nat), x])) h'' s.heap.objs.size (.tup [.int (i : Nat), x]) :=
      ⟨by show 2 ≤ sizeLine; decide, [.int i tk, y], .cons ⟨_, rfl⟩ (.cons ru .nil), ⟨_, hT2, rfl, _, rfl⟩⟩
    have I1 : L2.Inv X pins σ (upd H s.heap.objs.size (.tup [.int (i : Nat), x])) { s with heap := h'', toks := tk + 1 } :=
      I.turnedNew (ch := [e, it]) (fun b ob hb q => (sb.2 b (fun z => hb (by simp [z]))).trans (hk b ob (fun z => hb (by simp [z])) (fun z => hb (by simp [z])) q)) hf (Nat.le_refl _) new
    refine ⟨.ref s.heap.objs.size, _, I1, rfl, ⟨_, x, rfl, I.hok.fresh (Nat.le_refl _), rfl, fun ys hy => by rw [I.tuple_inj hy hq]; exact hx⟩, ⟨⟨y, ?_⟩, hst.1.at fun o q => (sb.2 it (Ne.symm hne)).trans q, hne, by have := (List.getElem?_eq_some_iff.mp hx).1; omega⟩, fun b hb => ?_⟩
    · have e1 : ((i + 1 : Nat) : Int) = (i : Int) + 1 := by omega
      rw [e1]; exact he'
    · have hb' : b < s.heap.objs.size := by
        simp only [List.mem_cons, List.not_mem_nil, or_false] at hb
        rcases hb with rfl | rfl <;> assumption
      rw [upd_ne (Nat.ne_of_lt hb')]
      exact (hf b hb).1
  done := by
    intro X hP hw hK hc i pins s σ H E I hf st hg
    subst hP hw hK
    obtain ⟨⟨old, he⟩, hit, hne, hin⟩ := st
    obtain ⟨xs, hq, hxn, hx⟩ := hg
    obtain rfl : i = n := Nat.le_antisymm hin hx
    obtain ⟨its, rv, p, hz⟩ := I.tuple hq
    obtain ⟨f0, f1, f2, f3, f4, f5⟩ := hf it (by simp)
    have ne2 := tup_enum_ne he p
    have ne3 := tup_iter_ne hit p
    have hl := rv.length
    have hn : its.toArray.size = i := by simp; omega
    refine wpAny_pyNext_enum_endD (PySem.Draws.tuple (A := X.A.in1) (I.ok.hd hc) it a ne3 its.toArray) he ⟨by rw [hn]; exact hit, p⟩ fun h' eb => ⟨rfl, I.turned (t' := s.toks) (fun b o hb q => eb b o hb q) f0 f1 f3 f4 f5⟩
  self := fun A i s Q E st h => let ⟨⟨_, he⟩, _⟩ := st; wpAny_pyIter_enum he h
theorem pi_et {X : Cx} {e : Expr} {ta : TA} {p pos tpos : Pos} {elts : List Expr} {kk : Nat} (hg : Gl X "enumerate") (hm : X.mg "enumerate" = none) (ha : PA X [e] ta) (hs : starEach [e] X.env = [(false, eval e X.env)]) :
    PI X (.Tuple elts kk tpos) (.Call (.Name "enumerate" p) [e] [] pos) (fun σ H R => ta σ H fun vs H1 => ∃ (a : Addr) (xs : List V), vs = [.ref a] ∧ SqT X.K H1 a xs ∧ R (ItET X.K a xs.length) H1) := by
  refine ⟨fun pins s σ H R I h => ?_⟩
  refine Call_ (ld_blt I hg hm boot_enumerate (PyProof.Rows.callWith_type1 (thn (ha.run pos pins s σ H _ I h) fun us s1 hh => ?_) hs rfl))
  obtain ⟨vs, H1, I1, r1, a, xs, rfl, hq, q⟩ := hh
  cases r1 with | cons r rr =>
    cases rr
    cases r
    obtain ⟨its, rv, p', hz⟩ := I1.tuple hq
    refine PySem.FzE.call_enum (begins_tuple a its.toArray) p' fun h' he hit hsz hk => wpAny_pyIter_enum he ?_
    have I2 : L2.Inv X pins σ H1 { s1 with heap := h' } := I1.kept (t' := s1.toks) hk
    have hti : h'.IsTupleIter s1.heap.objs.size a 0 := ⟨_, hit, rfl, rfl⟩
    refine ⟨s1.heap.objs.size + 1, [s1.heap.objs.size + 1, s1.heap.objs.size], _, _, H1, rfl, I2, turn_et a (s1.heap.objs.size + 1) s1.heap.objs.size xs.length, ⟨⟨.none, he⟩, hti, Nat.succ_ne_self _, Nat.zero_le _⟩, fun b hb => ?_, q⟩
    have hle : s1.heap.objs.size ≤ b := by
      simp only [List.mem_cons, List.not_mem_nil, or_false] at hb
      rcases hb with rfl | rfl
      · exact Nat.le_add_right _ _
      · exact Nat.le_refl _
    exact I1.fpOk hle (I1.hok.fresh hle)
/-- pairs of places and items -/
def enY : Nat → List W → List Y
  | _, [] => []
  | i, w :: r => .t [.d (.int (i : Nat)), w] :: enY (i + 1) r
theorem enY_get : ∀ (l : List W) (k i : Nat) (y : Y), (enY k l)[i]? = some y → ∃ w, l[i]? = some w ∧ y = .t [.d (.int ((k + i : Nat) : Int)), w]
  | [], _, _, _, h => by simp [enY] at h
  | w :: r, k, 0, y, h => by simp only [enY, List.getElem?_cons_zero, Option.some.injEq] at h; exact ⟨w, rfl, h.symm⟩
  | w :: r, k, i + 1, y, h => by
    simp only [enY, List.getElem?_cons_succ] at h
    obtain ⟨z, a, b⟩ := enY_get r (k + 1) i y h
    exact ⟨z, by simpa using a, by rw [b, show k + 1 + i = k + (i + 1) by omega]⟩
theorem enY_len : ∀ (l : List W) (k : Nat), (enY k l).length = l.length
  | [], _ => rfl
  | w :: r, k => by simp only [enY, List.length_cons, enY_len r]
def refE (n : Nat) : Src := fun h => match h[n]? with
  | some (.lst l) => some (enY 0 l)
  | _ => none
def enumOf (w : W) (h : Hh) : R Src := match w with
  | .d (.lst l) => .ok (fixS (enY 0 (l.map .d))) h
  | .d (.tup l) => .ok (fixS (enY 0 (l.map .d))) h
  | .r n => match h[n]? with
    | some (.lst _) => .ok (refE n) h
    | _ => .no
  | _ => .no
def cEn (c : Cd) : Ci := fun e h => (c e h).bind enumOf
section
variable {K : PySem.W.Frag} {T : Tb} {F ρ : List Addr} {H : Hp} {ih : Hh}
theorem pair_new {F ρ : List Addr} {H : Hp} {ih : Hh} (hr : HR K T F ρ ih H) {p : Addr} (hp : H p = none) {w1 w2 : W} {v1 v2 : V} (r1 : RW K F ρ H w1 v1) (r2 : RW K F ρ H w2 v2) :
    Grow F ρ H ρ (upd H p (.tup [v1, v2])) ∧ HR K T F ρ ih (upd H p (.tup [v1, v2])) ∧ YR K F ρ (upd H p (.tup [v1, v2])) (.t [w1, w2]) (.ref p) := by
  have g : Grow F ρ H ρ (upd H p (.tup [v1, v2])) := grow_new hp
  exact ⟨g, hr.new hp, .t upd_same (not_new hr hp) (.cons (r1.grow g hr) (.cons (r2.grow g hr) .nil))⟩
theorem good_enL {ds : List D} {a : Addr} {vs : List V} (h : FL K (F ++ ρ) H a vs) (rl : RpL K (F ++ ρ) H ds vs) : Good K T (Ite K a) (fixS (enY 0 (ds.map .d))) F ρ H where
  goes := fun F' ρ' H' ih' l i y g hr' e hy => by
    cases e
    have h' := h.keep g.k
    have rl' := rl.keep g.k
    obtain ⟨w, hw, rfl⟩ := enY_get _ _ _ _ hy
    rw [List.getElem?_map, Option.map_eq_some_iff] at hw
    obtain ⟨x, hx, rfl⟩ := hw
    obtain ⟨v, e1, r1⟩ := rl'.get hx
    refine ⟨⟨_, v, h'.sq, e1⟩, fun u H'' q => ?_⟩
    obtain ⟨p, x', rfl, hp, rfl, q2⟩ := q
    have := q2 _ h'.sq
    rw [e1] at this
    cases this
    rw [Nat.zero_add]
    exact pair_new hr' hp (.d (.int _)) (.d r1)
  stops := fun F' ρ' H' ih' l i g hr' e hl => by
    cases e
    rw [enY_len] at hl
    exact ⟨_, (h.keep g.k).sq, by rw [← rl.length]; simpa using hl⟩
theorem good_enT {ds : List D} {a : Addr} {vs : List V} (h : FT K (F ++ ρ) H a vs) (rl : RpL K (F ++ ρ) H ds vs) : Good K T (ItET K a vs.length) (fixS (enY 0 (ds.map .d))) F ρ H where
  goes := fun F' ρ' H' ih' l i y g hr' e hy => by
    cases e
    have h' := h.keep g.k
    have rl' := rl.keep g.k
    obtain ⟨w, hw, rfl⟩ := enY_get _ _ _ _ hy
    rw [List.getElem?_map, Option.map_eq_some_iff] at hw
    obtain ⟨x, hx, rfl⟩ := hw
    obtain ⟨v, e1, r1⟩ := rl'.get hx
    refine ⟨⟨_, v, h'.sq, rfl, e1⟩, fun u H'' q => ?_⟩
    obtain ⟨p, x', rfl, hp, rfl, q2⟩ := q
    have := q2 _ h'.sq
    rw [e1] at this
    cases this
    rw [Nat.zero_add]
    exact pair_new hr' hp (.d (.int _)) (.d r1)
  stops := fun F' ρ' H' ih' l i g hr' e hl => by
    cases e
    rw [enY_len] at hl
    exact ⟨_, (h.keep g.k).sq, rfl, by rw [← rl.length]; simpa using hl⟩
theorem good_enR {n : Nat} {a : Addr} (hn : ρ[n]? = some a) : Good K T (Ite K a) (refE n) F ρ H where
  goes := fun F' ρ' H' ih' l i y g hr' e hy => by
    unfold refE at e
    split at e
    · rename_i ws ho
      cases e
      obtain ⟨u, eH, ro⟩ := hr'.at (g.get hn) ho
      cases ro with
      | lst z rs =>
        obtain ⟨w, hw, rfl⟩ := enY_get _ _ _ _ hy
        obtain ⟨v, e1, r1⟩ := rs.get hw
        refine ⟨⟨_, v, .inl (.inl eH), e1⟩, fun u H'' q => ?_⟩
        obtain ⟨p, x', rfl, hp, rfl, q2⟩ := q
        have := q2 _ (.inl (.inl eH))
        rw [e1] at this
        cases this
        rw [Nat.zero_add]
        exact pair_new hr' hp (.d (.int _)) r1
    · cases e
  stops := fun F' ρ' H' ih' l i g hr' e hl => by
    unfold refE at e
    split at e
    · rename_i ws ho
      cases e
      obtain ⟨u, eH, ro⟩ := hr'.at (g.get hn) ho
      cases ro with
      | lst z rs => rw [enY_len] at hl; exact ⟨_, .inl (.inl eH), by rw [← rs.length]; exact hl⟩
    · cases e
end
section
variable {X : Cx} {T : Tb} {Wx : WX} {c : Cd} {e : Expr} {p pos tpos : Pos} {elts : List Expr} {kk : Nat}
theorem fi_en (hg : Gl X "enumerate") (hm : X.mg "enumerate" = none) (hs : starEach [e] X.env = (false, eval e X.env) :: starEach [] X.env) (h : FE X T Wx e c) : FI X T Wx (.Tuple elts kk tpos) (.Call (.Name "enumerate" p) [e] [] pos) (cEn c) :=
  PI.imp (pi_or (pi_enum hg hm (pa_cons h pa_nil hs) hs) (pi_et hg hm (pa_cons h pa_nil hs) hs)) fun σ H R q => by
    obtain ⟨F, ρ, ev, ih, hr, re, hp⟩ := q
    cases q : c ev ih with
    | no => rw [show cEn c ev ih = .no by unfold cEn; rw [q]; rfl] at hp; exact hp.elim
    | ex cc pp hh =>
      rw [show cEn c ev ih = .ex cc pp hh by unfold cEn; rw [q]; rfl] at hp
      exact .inl ⟨F, ρ, ev, ih, hr, re, by rw [q]; exact hp⟩
    | ok w h1 =>
      have hp' : Pst X.K T Wx σ F ρ H (enumOf w h1) fun ρ' H' _ src => ∀ J, Good X.K T J src F ρ' H' → R J H' := by
        rw [show cEn c ev ih = enumOf w h1 by unfold cEn; rw [q]; rfl] at hp; exact hp
      have key : ∀ ρ1 H1, Grow F ρ H ρ1 H1 → HR X.K T F ρ1 h1 H1 → Pst X.K T Wx σ F ρ1 H1 (enumOf w h1) fun ρ' H' _ src => ∀ J, Good X.K T J src F ρ' H' → R J H' := by
        intro ρ1 H1 g1 hr1
        cases e2 : enumOf w h1 with
        | no => rw [e2] at hp'; exact hp'.elim
        | ok s h2 => rw [e2] at hp'; exact fun ρ' H' g' => hp' ρ' H' (g1.trans hr1 g')
        | ex cc pp h2 => rw [e2] at hp'; exact fun ρ' H' cls dx g' => hp' ρ' H' cls dx (g1.trans hr1 g')
      cases w with
      | f n => exact .inl ⟨F, ρ, ev, ih, hr, re, by rw [q]; exact fun ρ1 H1 g1 hr1 v r => (key ρ1 H1 g1 hr1).elim⟩
      | r n =>
        refine .inl ⟨F, ρ, ev, ih, hr, re, ?_⟩
        rw [q]
        intro ρ1 H1 g1 hr1 v r
        have hp1 := key ρ1 H1 g1 hr1
        unfold enumOf at hp1
        dsimp only at hp1
        split at hp1
        · rename_i l ho
          cases r with
          | r hn =>
            obtain ⟨u, eH, ro⟩ := hr1.at hn ho
            cases ro with
            | lst z rs => exact ⟨_, _, rfl, .inl (.inl eH), hp1.ok hr1 _ (good_enR hn)⟩
        · exact hp1.elim
      | d x =>
        cases x with
        | lst l =>
          refine .inl ⟨F, ρ, ev, ih, hr, re, ?_⟩
          rw [q]
          intro ρ1 H1 g1 hr1 v r
          cases r with | d r => cases r with | lst h z rl =>
            exact ⟨_, _, rfl, h.sq, (key ρ1 H1 g1 hr1).ok hr1 _ (good_enL h rl)⟩
        | tup l =>
          refine .inr ⟨F, ρ, ev, ih, hr, re, ?_⟩
          rw [q]
          intro ρ1 H1 g1 hr1 v r
          cases r with | d r => cases r with | tup h z rl =>
            exact ⟨_, _, rfl, h.sq, (key ρ1 H1 g1 hr1).ok hr1 _ (good_enT h rl)⟩
        | _ =>
          refine .inl ⟨F, ρ, ev, ih, hr, re, ?_⟩
          rw [q]
          intro ρ1 H1 g1 hr1 v r
          exact (key ρ1 H1 g1 hr1).elim
end
end Fz
set_option Elab.async false
set_option linter.all false
set_option maxRecDepth 100000
set_option maxHeartbeats 4000000
/-! Fz: chains of comparisons; defs as values. -/
namespace Fz
open PySem PySem.W L2 PyProof.Rows

/-! ### chains -/
abbrev Ch := W → Ev → Hh → R W
def chL (op : W → W → Hh → R W) (c : Cd) : Ch := fun x e h => (c e h).bind fun y h => op x y h
def chC (op : W → W → Hh → R W) (c : Cd) (g : Ch) : Ch := fun x e h => (c e h).bind fun y h => (asB (op x y h)).bind fun k h => if k then g y e h else .ok (.d (.bl false)) h
def cChn (a : Cd) (g : Ch) : Cd := fun e h => (a e h).bind fun x h => g x e h
def bChn (a : Cd) (g : Ch) : Cb := fun e h => asB (cChn a g e h)
section
variable (X : Cx) (T : Tb) (Wx : WX)
def chOf (g : Ch) (x : V) (σ : L2.St) (H : Hp) (Q : VK) : Prop := ∃ F ρ e ih w, HR X.K T F ρ ih H ∧ RE X.K F ρ H e σ ∧ RW X.K F ρ H w x ∧ Pst X.K T Wx σ F ρ H (g w e ih) fun ρ' H' _ u => ∀ v, RW X.K F ρ' H' u v → Q v H'
def FCh (ops : List CmpOp) (es : List Expr) (g : Ch) : Prop := ∀ (pos : Pos) (pins : List (Addr × Obj)) (s : Shared) (σ : L2.St) (H : Hp) (x : V) (a : Value) (Q : VK), L2.Inv X pins σ H s → L2.RelV x a → chOf X T Wx g x σ H Q →
  wpAny (model X.prog X.w) X.A (compareChain pos a ops (evalEach es X.env)) (EP X pins σ Q) X.xe s
def FCt (ops : List CmpOp) (es : List Expr) (g : Ch) : Prop := ∀ (pos : Pos) (pins : List (Addr × Obj)) (s : Shared) (σ : L2.St) (H : Hp) (x : V) (a : Value) (Q : Bool → Hp → Prop), L2.Inv X pins σ H s → L2.RelV x a → chOf X T Wx g x σ H (fun v H' => ∃ k, v = .bl k ∧ Q k H') →
  wpAny (model X.prog X.w) X.A (testChain pos a ops (evalEach es X.env)) (fun b s' => ∃ H', L2.Inv X pins σ H' s' ∧ Q b H') X.xe s
end
section
variable {X : Cx} {T : Tb} {Wx : WX} {o o' : CmpOp} {op : W → W → Hh → R W} {e e2 : Expr} {ops : List CmpOp} {es : List Expr} {c ca : Cd} {g : Ch} {pos : Pos}
/-- the first operand behind a value -/
theorem ch_at {σ : L2.St} {H : Hp} {x : V} {f : W → W → Ev → Hh → R W} {Q : VK} (q : chOf X T Wx (fun w e h => (c e h).bind fun y h => f w y e h) x σ H Q) :
    tOf X.K T Wx c σ H fun y H1 => ∃ F ρ e ih w wy, HR X.K T F ρ ih H1 ∧ RE X.K F ρ H1 e σ ∧ RW X.K F ρ H1 w x ∧ RW X.K F ρ H1 wy y ∧ Pst X.K T Wx σ F ρ H1 (f w wy e ih) fun ρ' H' _ u => ∀ v, RW X.K F ρ' H' u v → Q v H' := by
  obtain ⟨F, ρ, ev, ih, w, hr, re, rw1, hp⟩ := q
  refine ⟨F, ρ, ev, ih, hr, re, hp.bind.mono fun ρ1 H1 ih1 wy g1 hr1 hp1 y ry => ?_⟩
  exact ⟨F, ρ1, ev, ih1, w, wy, hr1, re.grow g1 hr, rw1.grow g1 hr, ry, hp1⟩
theorem fch_one (k : Cmp X T o op) (h : FE X T Wx e c) : FCh X T Wx [o] [e] (chL op c) := by
  intro pos pins s σ H x a Q I rx q
  obtain ⟨r, k1, k2⟩ := k.ex
  refine PyProof.Rows.chain_last (thn (h.run pins s σ H _ I (ch_at (f := fun w y _ h => op w y h) q)) fun b s1 ⟨y, H1, I1, ry, q1⟩ => ?_)
  obtain ⟨F, ρ, ev, ih, w, wy, hr, re, r1, r2, hp⟩ := q1
  exact k1 pins s1 σ H1 x y a b Q I1 rx ry (k2 Wx σ F ρ ih H1 w wy x y Q hr r1 r2 hp)
theorem fct_one (k : Cmp X T o op) (h : FE X T Wx e c) : FCt X T Wx [o] [e] (chL op c) := by
  intro pos pins s σ H x a Q I rx q
  obtain ⟨r, k1, k2⟩ := k.ex
  refine PyProof.Rows.test_last (thn (h.run pins s σ H _ I (ch_at (f := fun w y _ h => op w y h) q)) fun b s1 ⟨y, H1, I1, ry, q1⟩ => ?_)
  obtain ⟨F, ρ, ev, ih, w, wy, hr, re, r1, r2, hp⟩ := q1
  refine thn (k1 pins s1 σ H1 x y a b _ I1 rx ry (k2 Wx σ F ρ ih H1 w wy x y _ hr r1 r2 hp)) fun d s2 ⟨z, H2, I2, rz, b, e, q2⟩ => ?_
  subst e
  cases rz
  exact wpAny_truthy_bool ⟨H2, I2, q2⟩
/-- behind one comparison that is True or False -/
theorem mid {σ : L2.St} {H1 : Hp} {x y : V} {r : R2} {F ρ : List Addr} {ih : Hh} {ev : Ev} {w wy : W} {Q : VK} (k2 : FOp X.K T op r) (hr : HR X.K T F ρ ih H1) (re : RE X.K F ρ H1 ev σ) (r1 : RW X.K F ρ H1 w x) (r2 : RW X.K F ρ H1 wy y)
    (hp : Pst X.K T Wx σ F ρ H1 ((asB (op w wy ih)).bind fun k h => if k then g wy ev h else .ok (.d (.bl false)) h) fun ρ' H' _ u => ∀ v, RW X.K F ρ' H' u v → Q v H') :
    r x y H1 fun z H2 => ∃ k, z = .bl k ∧ if k = true then chOf X T Wx g y σ H2 Q else Q (.bl false) H2 := by
  refine k2 Wx σ F ρ ih H1 w wy x y _ hr r1 r2 (hp.bind.bind.mono fun ρ3 H3 ih3 w3 g3 hr3 hp3 v3 r3 => ?_)
  cases r3 with
  | r _ => exact hp3.elim
  | f _ => exact hp3.elim
  | d r3 =>
    cases r3 with
    | bl k =>
      have hp4 := hp3.ok hr3
      refine ⟨k, rfl, ?_⟩
      cases k with
      | false =>
        rw [if_neg Bool.false_ne_true]
        rw [if_neg Bool.false_ne_true] at hp4
        exact hp4.ok hr3 _ (.d (.bl false))
      | true =>
        rw [if_pos rfl]
        rw [if_pos rfl] at hp4
        exact ⟨F, ρ3, ev, ih3, wy, hr3, re.grow g3 hr, r2.grow g3 hr, hp4⟩
    | _ => exact hp3.elim
theorem fch_cons (k : Cmp X T o op) (h : FE X T Wx e c) (hs : FCh X T Wx (o' :: ops) (e2 :: es) g) : FCh X T Wx (o :: o' :: ops) (e :: e2 :: es) (chC op c g) := by
  intro pos pins s σ H x a Q I rx q
  obtain ⟨r, k1, k2⟩ := k.ex
  refine PyProof.Rows.chain_link (thn (h.run pins s σ H _ I (ch_at (f := fun w y e h => (asB (op w y h)).bind fun k h => if k then g y e h else .ok (.d (.bl false)) h) q)) fun b s1 ⟨y, H1, I1, ry, q1⟩ => ?_)
  obtain ⟨F, ρ, ev, ih, w, wy, hr, re, r1, r2, hp⟩ := q1
  refine thn (k1 pins s1 σ H1 x y a b _ I1 rx ry (mid k2 hr re r1 r2 hp)) fun d s2 ⟨z, H2, I2, rz, b, e, q2⟩ => ?_
  subst e
  cases rz
  refine wpAny_truthy_bool ?_
  cases b with
  | false => rw [if_neg Bool.false_ne_true] at q2 ⊢; exact ⟨.bl false, H2, I2, rfl, q2⟩
  | true => rw [if_pos rfl] at q2 ⊢; exact hs pos pins s2 σ H2 y _ Q I2 ry q2
theorem fct_cons (k : Cmp X T o op) (h : FE X T Wx e c) (hs : FCt X T Wx (o' :: ops) (e2 :: es) g) : FCt X T Wx (o :: o' :: ops) (e :: e2 :: es) (chC op c g) := by
  intro pos pins s σ H x a Q I rx q
  obtain ⟨r, k1, k2⟩ := k.ex
  refine PyProof.Rows.test_link (thn (h.run pins s σ H _ I (ch_at (f := fun w y e h => (asB (op w y h)).bind fun k h => if k then g y e h else .ok (.d (.bl false)) h) q)) fun b s1 ⟨y, H1, I1, ry, q1⟩ => ?_)
  obtain ⟨F, ρ, ev, ih, w, wy, hr, re, r1, r2, hp⟩ := q1
  refine thn (k1 pins s1 σ H1 x y a b _ I1 rx ry (mid k2 hr re r1 r2 hp)) fun d s2 ⟨z, H2, I2, rz, b, e, q2⟩ => ?_
  subst e
  cases rz
  refine wpAny_truthy_bool ?_
  cases b with
  | false =>
    rw [if_neg Bool.false_ne_true] at q2 ⊢
    obtain ⟨k', e', q'⟩ := q2
    cases e'
    exact ⟨H2, I2, q'⟩
  | true => rw [if_pos rfl] at q2 ⊢; exact hs pos pins s2 σ H2 y _ Q I2 ry q2
theorem chn_at {σ : L2.St} {H : Hp} {Q : VK} (q : tOf X.K T Wx (cChn ca g) σ H Q) : tOf X.K T Wx ca σ H fun x H1 => chOf X T Wx g x σ H1 Q := by
  obtain ⟨F, ρ, ev, ih, hr, re, hp⟩ := q
  exact ⟨F, ρ, ev, ih, hr, re, hp.bind.mono fun ρ1 H1 ih1 w g1 hr1 hp1 y ry => ⟨F, ρ1, ev, ih1, w, hr1, re.grow g1 hr, ry, hp1⟩⟩
theorem e_chn {a : Expr} {e3 : Expr} {o2 : CmpOp} (ha : FE X T Wx a ca) (h : FCh X T Wx (o :: o2 :: ops) (e2 :: e3 :: es) g) (hm : lastMarks (o :: o2 :: ops) (e2 :: e3 :: es) = false := by with_unfolding_all rfl) :
    FE X T Wx (.Compare a (o :: o2 :: ops) (e2 :: e3 :: es) pos) (cChn ca g) :=
  ⟨fun pins s σ H Q I q => PyProof.Rows.Compare_chain (thn (ha.run pins s σ H _ I (chn_at q)) fun v s1 ⟨x, H1, I1, r1, q1⟩ => h pos pins s1 σ H1 x v Q I1 r1 q1) hm⟩
theorem t_chn {a : Expr} {e3 : Expr} {o2 : CmpOp} (ha : FE X T Wx a ca) (h : FCt X T Wx (o :: o2 :: ops) (e2 :: e3 :: es) g) (hm : lastMarks (o :: o2 :: ops) (e2 :: e3 :: es) = false := by with_unfolding_all rfl) :
    FT' X T Wx (.Compare a (o :: o2 :: ops) (e2 :: e3 :: es) pos) (bChn ca g) :=
  ⟨fun pins s σ H Q I q => by
    have q' : tTest (tOf X.K T Wx (cChn ca g)) σ H Q := tst (fun _ _ _ z => z) q
    exact PyProof.Rows.isTrue_chain (thn (ha.run pins s σ H _ I (chn_at q')) fun v s1 ⟨x, H1, I1, r1, q1⟩ => h pos pins s1 σ H1 x v Q I1 r1 q1) hm⟩
end
/-! ### defs as values -/
def cF (q : List Nat) : Cd := fun _ h => .ok (.f q) h
/-- what the defs of a table do -/
structure Tl (X : Cx) (T : Tb) (k n : Nat) (tbl : List Nat → Option (Bool × Fn)) : Prop where
  at_ : ∀ q pu g f, tbl q = some (pu, g) → fnAt X.K (toStr q) = some f → ∃ fd ps, FnG X.prog X.w X.K X.mg X.base k f fd ps (spF X.K T n g) ∧ keepIn X.K (.ref f) = true ∧ Binds X.K fd ps []
/-- x(..), x a name of this def: the def that it holds -/
def cCallV (i n : Nat) (tbl : List Nat → Option (Bool × Fn)) (a : Ca) : Cd := fun e h => match e[i]? with
  | some (some (.f q)) => match tbl q with
    | some (pu, g) => cCall pu n g a e h
    | none => .no
  | _ => .no
section
variable {X : Cx} {T : Tb} {Wx : WX} {k i n : Nat} {x : Str} {e : Expr} {es : List Expr} {aa : Ca} {p pos : Pos}
theorem e_f (q : List Nat) {a : Addr} (hf : fnAt X.K (toStr q) = some a) (hm : X.mg x = some (.ref a)) (hg : Gl X x := by rfl) (hd : (x == ("__debug__" : Str)) = false := by decide) : FE X T Wx (.Name x pos) (cF q) :=
  PE.imp (pe_glob (v := .ref a) hg hm rfl hd) fun σ H Q h => by
    obtain ⟨F, ρ, ev, ih, hr, re, hp⟩ := h
    exact hp.ok hr _ (.f hf)
theorem e_callV (i : Nat) {tbl : List Nat → Option (Bool × Fn)} (G : Cg X Wx (k + 1)) (A : Tl X T k n tbl) (ha : FA X T Wx (e :: es) aa) (hN : X.N[i]? = some x := by rfl) (hv : Vis X.env.scope x := by first | exact Or.inl rfl | exact Or.inr (Or.inl rfl) | exact Or.inr (Or.inr rfl))
    (hdb : (x == ("__debug__" : Str)) = false := by decide) (hcd : (x == ("__classdict__" : Str)) = false := by decide) (he : starEach (e :: es) X.env = (false, eval e X.env) :: starEach es X.env := by rfl) (hpl : (backTo pos (starEach es X.env)).any (·.1) = false := by rfl) :
    FE X T Wx (.Call (.Name x p) (e :: es) [] pos) (cCallV i n tbl aa) := by
  refine ⟨fun pins s σ H Q I h => ?_⟩
  obtain ⟨F, ρ, ev, ih, hr, re, hp⟩ := h
  unfold cCallV at hp
  split at hp
  · rename_i q hq
    split at hp
    · rename_i pu g ht
      obtain ⟨v, hσ, rv⟩ := re.2 i _ hq
      cases rv with
      | f hf =>
        rename_i f
        obtain ⟨fd, ps, FF, hk, hb⟩ := A.at_ q pu g f ht hf
        have h2 := clG (T := T) (Wx := Wx) (X := X) (σ := σ) (H := H) (Q := Q) ⟨F, ρ, ev, ih, hr, re, hp⟩
        refine wpAny_Call_Name_kw (thn ((pe_var (pos := p) hN hv hdb hcd).run pins s σ H (fun v H1 => v = .ref f ∧ H1 = H) I ⟨.ref f, hσ, rfl, rfl⟩) fun u s1 ⟨v, H1, I1, r1, q1⟩ => ?_)
        obtain ⟨rfl, rfl⟩ := q1
        cases r1
        refine PySem.W.callWith_K (h₀ := X.base) I.ok.mod.kin hk (thn (ha.run pos pins s1 σ _ _ I1 h2) fun us s2 ⟨vs, H2, I2, r, q⟩ => ⟨I2.kIn, ?_⟩) he hpl
        exact run_g (G.mono (Nat.le_succ k)) FF hb I2 r q
    · exact hp.elim
  · exact hp.elim
end
end Fz
set_option Elab.async false
set_option linter.all false
set_option maxRecDepth 100000
set_option maxHeartbeats 4000000
/-! Fz: l.count(x); a def called in a suite with the exception that is handled. -/
namespace Fz
open PySem PySem.W L2 PyProof.Rows

/-- how often l has an equal of x -/
def rCntD (K : PySem.W.Frag) : V → List V → Hp → VK → Prop := fun x xs H Q => ∃ (a : Addr) (y : V) (d : PyData) (ds : List PyData), x = V.ref a ∧ xs = [y] ∧ Dp K H (V.ref a) (.list ds) ∧ Dp K H y d ∧ SeqAt.shaped (.list ds) = true ∧ SeqAt.shaped d = true ∧
  Q (.int ((ds.countP fun z => PyData.eqv z d : Nat) : Int)) H
theorem mt_countD {X : Cx} (hu : X.A.units + 65 < cLine) : MtR X "list.count" (rCntD X.K) := by
  intro pins s σ H x xs v us Q I rx rxs h
  obtain ⟨a, y, d, ds, rfl, rfl, hl, hy, sl, sd, q⟩ := h
  cases rx
  obtain ⟨uy, rfl, ry⟩ := vals1 rxs
  obtain ⟨bs, r1⟩ := Dp.reads I d y uy hy ry
  have lay : PyData.canLayAll0 ds = true := SeqAt.canLay_of_shaped sl
  cases hl with
  | lst hs ha =>
    obtain ⟨its, rv, ⟨⟨cls, dd, data, sls⟩, n, ho, hc, hdn, hdt⟩, hlen⟩ := I.list hs
    simp only at hc hdt
    subst hc hdt
    obtain ⟨as, h4⟩ := Dp.readsAll I ds _ its ha rv
    have hmap : its.map (SeqAt.readOf s.heap) = ds := SeqAt.readsAll_map ds its as lay h4
    refine call_meets PySem.F.slot_list_count ⟨_, ho, rfl⟩ PySem.F.entry_list_count (PySem.F.args_list_count_2 _ _)
      (SeqAt.list_countAt a its.toArray n dd sls uy (fun u => PyData.eqv (SeqAt.readOf s.heap u) d)) ⟨ho, SeqAt.items_eqAt (vs := its.toArray) (show ReadsAll s.heap its.toArray.toList ds as from h4) r1 lay (SeqAt.canLay_of_shaped sd) (room_in_shaped sd hu), ?_⟩
    have e : its.toArray.toList.countP (fun u => PyData.eqv (SeqAt.readOf s.heap u) d) = ds.countP fun z => PyData.eqv z d := by
      rw [← hmap, List.countP_map]
      rfl
    refine ⟨.int ((ds.countP fun z => PyData.eqv z d : Nat) : Int), H, I.tok _, ⟨s.toks, ?_⟩, q⟩
    show Value.int ((its.toArray.toList.countP _ : Nat) : Int) s.toks = _
    rw [e]
def mCount (x : W) (xs : List W) (h : Hh) : R W := match xs with
  | [w] => match valD x h, valD w h with
    | some (.lst l), some y => if sh 64 (.lst l) && sh 64 y then .ok (.d (.int ((l.countP fun z => D.eqv z y : Nat) : Int))) h else .no
    | _, _ => .no
  | _ => .no
theorem fm_count {K : PySem.W.Frag} {T : Tb} : FMt K T mCount (rCntD K) := by
  intro Wx σ F ρ ih H x xs v vs Q hr r rs hp
  unfold mCount at hp
  split at hp
  · rename_i w
    split at hp
    · rename_i l y e1 e2
      split at hp
      · rename_i c
        rw [Bool.and_eq_true] at c
        cases rs with | cons rw t => cases t with | nil =>
          have dx := valD_dp hr r e1
          obtain ⟨a, rfl⟩ : ∃ a, v = V.ref a := by
            simp only [D.py] at dx
            cases dx
            exact ⟨_, rfl⟩
          refine ⟨a, _, y.py, pyL l, rfl, rfl, by simpa [D.py] using dx, valD_dp hr rw e2, by simpa [D.py] using sh_shaped c.1, sh_shaped c.2, ?_⟩
          have e : (pyL l).countP (fun z => PyData.eqv z y.py) = l.countP fun z => D.eqv z y := by
            rw [pyL_map, List.countP_map]
            refine List.countP_congr fun z _ => ?_
            show PyData.eqv z.py y.py = true ↔ _
            rw [eqv_py]
          rw [e]
          exact hp.ok hr _ (.d (.int _))
      · exact hp.elim
    · exact hp.elim
  · exact hp.elim
theorem l_count {X : Cx} {T : Tb} {Wx : WX} {k : Nat} (G : Cg X Wx k) : Lm X T "count" mCount := ⟨_, _, PySem.F.slot_list_count, PySem.F.type_list_count, mt_countD G.hu65, fm_count⟩

/-! ### a def that is called while the exception p is handled -/
open L2H
structure FnP (p : Addr × Obj) (P : Program) (w : World) (K : PySem.W.Frag) (mg : Str → Option Value) (base : Heap) (k : Nat) (f : Addr) (fd : FuncData) (ps : List Str) (sp : Sp) : Prop where
  len : ∀ vs H Q E, sp vs H Q E → vs.length = ps.length
  run : ∀ (A : Around) (outer : List Env) (s : Shared) (H : Hp) (args : Args) (us : List Value) (vs : List V) (Q : VK) (E : XK), RoomH k A → PinOk outer H s p → Env0 P w K mg base A outer s H → BindsTo s fd args (ps.zip us) → Vals vs us → sp vs H Q E →
    codeAny (model P w) A (.call (.ref f) args) (CR (L2.CX P w) outer P w H s Q E) s
theorem fnP_of {p : Addr × Obj} {P : Program} {w : World} {K : PySem.W.Frag} {mg : Str → Option Value} {base : Heap} {k : Nat} {x qual : Str} {st : Stmt} {f : Addr} {fd : FuncData} {N ps : List Str} {sp : Sp} (Fu : Fun K x qual st f fd) (S : FnScope N ps (defScope st)) (len : ∀ vs H Q E, sp vs H Q E → vs.length = ps.length)
    (hbody : ∀ (cdv : Value) (A : Around) (outer : List Env) (s : Shared) (H : Hp) (vs : List V) (Q : VK) (E : XK), RoomH k (A.deeper (envOfC qual (defScope st) s.heap.objs.size f cdv)) → sp vs H Q E →
      ∃ t, PSs (cxH (L2.CX P w) P w K mg base N qual (defScope st) f cdv A outer s H E p) (defBody st) t ∧ t { nx := fun _ H' => Q .non H', rt := Q } (L2.start N vs) H) :
    FnP p P w K mg base (k + 1) f fd ps sp := by
  obtain ⟨oc, od, kV, doc, pm, an, cdv, ct, osl, rfl, lk, hcd⟩ := Fu.ex
  refine ⟨len, fun A outer s H args us vs Q E hr hpin e0 hb r hsp => ?_⟩
  have KX : K.In s.heap := e0.mod.kin.keeps fun b o e => (e0.bs b o e).1
  have lim : s.heap.NoLimit := e0.mod.nolimit.keeps fun b o e => (e0.bs b o e).1
  refine codeAny_call_function hr.depth (KX _ _ lk) rfl S.co S.gen rfl (PySem.W.codeRec_of KX hcd) (hb _ _ _ _ ?_)
  refine wpAny_newFunctionEnv_cells S.kind (fun ⟨n, v⟩ hy => (S.par n (List.of_mem_zip hy).1).elim .inl fun q => .inr ⟨q, PySem.W.cellsFrom_some _ _ _ (.inl q)⟩) fun env he s1 x => ?_
  subst he
  refine ⟨lim.keeps x.toInCall.keep, codeAny_func ?_⟩
  obtain ⟨t, ht, hq⟩ := hbody cdv A outer s H vs Q E (hr.deeper _) hsp
  have I := inv_startH (CX := L2.CX P w) (E := E) (N := N) S hpin e0 (len _ _ _ _ hsp) r x
  refine wpAny_mono (ht.run [] s1 (L2.start N vs) H _ I hq) (fun fl s' hs => ?_) fun e s' hs => hs
  cases fl with
  | ret u =>
    obtain ⟨v, σ', H', J, rv, q⟩ := hs
    exact ⟨v, H', J.os, J.bare, J.base, J.hok, rv, q⟩
  | next =>
    obtain ⟨σ', H', J, q⟩ := hs
    exact ⟨V.non, H', J.os, J.bare, J.base, J.hok, rfl, q⟩
  | brk => exact False.elim hs.choose_spec.choose_spec.2
  | cont => exact False.elim hs.choose_spec.choose_spec.2
/-- the call f(e) -/
theorem run_fnP {Y : Cx} {a : Addr} {oe : Obj} {k : Nat} {f : Addr} {fd : FuncData} {ps : List Str} {sp : Sp} {pins : List (Addr × Obj)} {σ : L2.St} {H : Hp} {s : Shared} {Q : VK} {us : List Value} {vs : List V} (F : FnP (a, oe) Y.prog Y.w Y.K Y.mg Y.base k f fd ps sp) (hr : RoomH k Y.A) (hpn : (a, oe) ∈ Y.pn) (hb : Binds Y.K fd ps [])
    (I : L2.Inv Y pins σ H s) (r : Vals vs us) (hx : ∀ e s', ¬ L2.CX Y.prog Y.w Y.stack H s (fun _ _ _ => False) e s') (h : sp vs H Q fun _ _ _ => False) : wpAny (model Y.prog Y.w) Y.A (call (.ref f) us) (EP Y pins σ Q) Y.xe s := by
  have hl : us.length = ps.length := by rw [← r.length]; exact F.len _ _ _ _ h
  have b := hb s us I.kIn (by rw [List.append_nil]; exact hl)
  rw [List.append_nil] at b
  have P1 := I.pin (a, oe) (List.mem_append_left _ hpn)
  have hpin : PinOk Y.stack H s (a, oe) := ⟨P1.1, P1.2.1, fun hm => (List.mem_cons.mp (I.stkSub a hm)).elim P1.2.2.1 P1.2.2.2.1, P1.2.2.2.2⟩
  refine wpAny_call (codeAny_mono (F.run Y.A Y.stack s H ⟨us, []⟩ us vs Q _ hr hpin I.env0 b r h) fun r s' hq => ?_)
  cases r with
  | error e => exact (hx e s' hq).elim
  | ok fl =>
    cases fl with
    | ret u => exact I.after hq
    | next => exact False.elim hq
    | brk => exact False.elim hq
    | cont => exact False.elim hq
end Fz
set_option Elab.async false
set_option linter.all false
set_option maxRecDepth 100000
set_option maxHeartbeats 4000000
/-! Fz: the word for a caught exception: heads[found.index(True)] + error.field. -/
namespace Fz
open PySem PySem.W L2 PyProof.Rows L2H

/-- the exception, and two lists behind it -/
def Cw (a dd : Addr) (fld : Str) (ws : List Str) (bs : List Bool) (v : V) (σ : L2.St) (H : Hp) : Prop := ∃ p1 p2 : Addr, σ = [some (.ref a), some (.ref p1), some (.ref p2)] ∧ H dd = some (.xd [(fld, v)]) ∧ H p1 = some (.lst (ws.map V.str)) ∧ H p2 = some (.lst (bs.map V.bl))
theorem dp_bls {K : PySem.W.Frag} {H : Hp} : ∀ bs : List Bool, DpAll K H (bs.map V.bl) (bs.map PyData.bool)
  | [] => .nil
  | b :: bs => .cons (.bl b) (dp_bls bs)
theorem lay_bls : ∀ bs : List Bool, PyData.canLayAll0 (bs.map PyData.bool) = true ∧ PyData.depthAll (bs.map PyData.bool) = 0
  | [] => by simp [PyData.canLayAll0, PyData.depthAll]
  | b :: bs => by
    have := lay_bls bs
    simp [PyData.canLayAll0, PyData.depthAll, PyData.canLay0, PyData.depth, this.1, this.2]
theorem shaped_bls (bs : List Bool) : SeqAt.shaped (.list (bs.map PyData.bool)) = true := by
  have := lay_bls bs
  simp [SeqAt.shaped, PyData.canLay0, PyData.depth, this.1, this.2]
theorem shaped_bl (b : Bool) : SeqAt.shaped (.bool b) = true := by simp [SeqAt.shaped, PyData.canLay0, PyData.depth]
section
variable {Y : Cx} {a D : Addr} {oe : Obj} {dd : Addr} {fld : Str} {ws : List Str} {bs : List Bool} {es : List Expr} {e t : Expr} {pos p q apos cpos : Pos} {k j : Nat} {x : Str}
inductive StrEs : List Expr → List Str → Prop
  | nil : StrEs [] []
  | cons {x : Str} {k : Nat} {pos : Pos} {es : List Expr} {ws : List Str} : StrEs es ws → StrEs (.Constant (.str x) k pos :: es) (x :: ws)
theorem pa_strs : ∀ {es : List Expr} {ws : List Str}, StrEs es ws → PA Y es (fun σ H Q => Q (ws.map V.str) H)
  | _, _, .nil => ⟨fun pos pins s σ H Q I h => pa_nil.run pos pins s σ H Q I h⟩
  | _, _, .cons (x := x) (ws := ws) r => ⟨fun pos pins s σ H Q I h => (pa_cons (X := Y) pe_str (pa_strs r) rfl).run pos pins s σ H Q I h⟩
/-- isinstance(error, C), ..: their answers -/
inductive IsEs (Y : Cx) (a dd : Addr) (fld : Str) : List Expr → List Bool → Prop
  | nil : IsEs Y a dd fld [] []
  | cons {e : Expr} {b : Bool} {es : List Expr} {bs : List Bool} : KV Y a 0 dd fld e (fun _ => some (.bl b)) → starEach (e :: es) Y.env = (false, eval e Y.env) :: starEach es Y.env → IsEs Y a dd fld es bs → IsEs Y a dd fld (e :: es) (b :: bs)
theorem pa_is : ∀ {es : List Expr} {bs : List Bool}, IsEs Y a dd fld es bs → PA Y es (fun σ H Q => (∃ v, Cn 0 a dd fld v σ H) ∧ Q (bs.map V.bl) H)
  | _, _, .nil => ⟨fun pos pins s σ H Q I h => pa_nil.run pos pins s σ H Q I h.2⟩
  | _, _, .cons (b := b) h hs r => ⟨fun pos pins s σ H Q I hh => (pa_cons h (pa_is r) hs).run pos pins s σ H Q I (by
      obtain ⟨⟨v, c⟩, q⟩ := hh
      exact ⟨v, .bl b, c, rfl, ⟨v, c⟩, q⟩)⟩
theorem cn_of {v : V} {σ : L2.St} {H : Hp} (c : Cw a dd fld ws bs v σ H) : Cn 0 a dd fld v σ H := by
  obtain ⟨p1, p2, rfl, hd, _, _⟩ := c
  exact ⟨rfl, hd⟩
/-- the answer's text -/
theorem word_val {head : Str} {i : Nat} (hu : Y.A.units + 65 < cLine) (hN1 : Y.N[1]? = some ("heads" : Str)) (hN2 : Y.N[2]? = some ("found" : Str)) (v1 : Vis Y.env.scope "heads") (v2 : Vis Y.env.scope "found") (hi : bs[i]? = some true) (hno : ∀ m, m < i → bs[m]? = some false) (hw : ws[i]? = some head)
    (hf : KV Y a 0 dd fld e some) (hbF : attributeBase (.Name "found" p) "index" Y.env (eval (.Name "found" p) Y.env) = eval (.Name "found" p) Y.env)
    (hfew : ((backTo cpos (starEach [.Constant (.bool true) k q] Y.env)).all (fun x => !x.1) && (backToKw cpos (keywordEach [] Y.env)).all (fun x => x.1.isSome) && decide (([.Constant (.bool true) k q] : List Expr).length + ([] : List Keyword).length + (if ([] : List Keyword).isEmpty then 0 else 1) < 30)) = true)
    (hline : (apos.endLine == cpos.line) = true) (hs : starEach [.Constant (.bool true) k q] Y.env = (false, eval (.Constant (.bool true) k q) Y.env) :: starEach [] Y.env) {pos1 pos2 : Pos}
    (hpl : PlainIx (.Call (.Attribute (.Name "found" p) "index" apos) [.Constant (.bool true) k q] [] cpos)) :
    PE Y (.BinOp (.Subscript (.Name "heads" pos1) (.Call (.Attribute (.Name "found" p) "index" apos) [.Constant (.bool true) k q] [] cpos) pos2) .Add e pos)
      (fun σ H Q => ∃ s : Str, head.length + s.length ≤ sizeLine ∧ Cw a dd fld ws bs (.str s) σ H ∧ Q (.str (head ++ s)) H) := by
  have p1 : PE Y (.Call (.Attribute (.Name "found" p) "index" apos) [.Constant (.bool true) k q] [] cpos) _ := pe_bm PySem.F.plainAttrs_list PySem.F.slot_list_index PySem.F.type_list_index (mt_indexD hu) (pe_var hN2 v2 (by decide) (by decide)) (pa_cons pe_bl pa_nil hs) hbF hfew hline hs rfl
  refine PE.imp (pe_op op_add_str (pe_ix ix_list (pe_var hN1 v1 (by decide) (by decide)) p1 hpl) hf) fun σ H Q hh => ?_
  obtain ⟨s, hz, c, qq⟩ := hh
  obtain ⟨p1, p2, rfl, hd, h1, h2⟩ := id c
  refine ⟨.ref p1, rfl, .ref p2, rfl, .inl ⟨rfl, _, .inl (.inl h2)⟩, ?_⟩
  unfold L2.tCons tC L2.tNil
  refine ⟨p2, .bl true, .bool true, bs.map PyData.bool, i, .bool true, rfl, rfl, .lst (.inl (.inl h2)) (dp_bls bs), .bl true, shaped_bls bs, shaped_bl true, by rw [List.getElem?_map, hi]; rfl, by simp [PyData.eqv], fun m z' hm hz' => ?_, ?_⟩
  · rw [List.getElem?_map, hno m hm] at hz'
    cases hz'
    simp [PyData.eqv]
  · have e1 : L2.atI (ws.map V.str) ((i : Nat) : Int) = some (.str head) := atI_at (by rw [List.getElem?_map, hw]; rfl)
    exact ⟨p1, ws.map V.str, i, .str head, rfl, rfl, .inl (.inl h1), e1, .str s, .str s, cn_of c, rfl, head, s, rfl, rfl, hz, qq⟩
theorem count_one {bs : List Bool} {i : Nat} (hi : bs[i]? = some true) (h1 : bs.count true = 1) : ((bs.map PyData.bool).countP fun z => PyData.eqv z (.bool true)) = 1 := by
  rw [List.countP_map, ← h1]
  unfold List.count
  refine List.countP_congr fun b _ => ?_
  cases b <;> simp [PyData.eqv]
/-- found.count(True) == 1 -/
theorem word_one {i : Nat} (hu : Y.A.units + 65 < cLine) (hN2 : Y.N[2]? = some ("found" : Str)) (v2 : Vis Y.env.scope "found") (hi : bs[i]? = some true) (h1 : bs.count true = 1)
    (hbF : attributeBase (.Name "found" p) "count" Y.env (eval (.Name "found" p) Y.env) = eval (.Name "found" p) Y.env)
    (hfew : ((backTo cpos (starEach [.Constant (.bool true) k q] Y.env)).all (fun x => !x.1) && (backToKw cpos (keywordEach [] Y.env)).all (fun x => x.1.isSome) && decide (([.Constant (.bool true) k q] : List Expr).length + ([] : List Keyword).length + (if ([] : List Keyword).isEmpty then 0 else 1) < 30)) = true)
    (hline : (apos.endLine == cpos.line) = true) (hs : starEach [.Constant (.bool true) k q] Y.env = (false, eval (.Constant (.bool true) k q) Y.env) :: starEach [] Y.env) {pos2 : Pos} (hm : behindInMarks .Eq (.Constant (.int 1) j pos2) = false) :
    PT Y (.Compare (.Call (.Attribute (.Name "found" p) "count" apos) [.Constant (.bool true) k q] [] cpos) [.Eq] [.Constant (.int 1) j pos2] pos) (fun σ H Q => (∃ v, Cw a dd fld ws bs v σ H) ∧ Q true H) := by
  have p1 : PE Y (.Call (.Attribute (.Name "found" p) "count" apos) [.Constant (.bool true) k q] [] cpos) _ := pe_bm PySem.F.plainAttrs_list PySem.F.slot_list_count PySem.F.type_list_count (mt_countD hu) (pe_var hN2 v2 (by decide) (by decide)) (pa_cons pe_bl pa_nil hs) hbF hfew hline hs rfl
  refine PT.imp (pt_cmpR op_eq p1 pe_int hm) fun σ H Q hh => ?_
  obtain ⟨⟨v, c⟩, qq⟩ := hh
  obtain ⟨p1, p2, rfl, hd, h1', h2⟩ := id c
  refine ⟨.ref p2, rfl, .inl ⟨rfl, _, .inl (.inl h2)⟩, ?_⟩
  unfold L2.tCons tC L2.tNil
  refine ⟨p2, .bl true, .bool true, bs.map PyData.bool, rfl, rfl, .lst (.inl (.inl h2)) (dp_bls bs), .bl true, shaped_bls bs, shaped_bl true, ?_⟩
  rw [count_one hi h1]
  exact ⟨rfl, true, by rw [show decide (V.int ((1 : Nat) : Int) = V.int 1) = true from decide_eq_true rfl], qq⟩
/-- the whole body -/
theorem word_body {ve : Expr} {head : Str} {i : Nat} {o1 e2 e3 : Expr} {es2 : List Expr} {p1 p2 p3 : Pos} {pl1 pl2 : Pos} (hnd : Y.N.Nodup) (hN : Y.N = ([("error" : Str), "heads", "found"] : List Str)) (L1 : Y.env.scope.names.lookup ("heads" : Str) = some .local) (L2 : Y.env.scope.names.lookup ("found" : Str) = some .local)
    (h1 : StrEs es ws) (h2 : IsEs Y a dd fld es2 bs) (hsw1 : swapsWith (.List es pl1) (some (.Name "heads" p1)) p2.line Y.env = pure false) (hsw2 : swapsWith (.List es2 pl2) (some (.Name "found" p3)) q.line Y.env = pure false) (hwl : ws.length ≤ 100) (hbl : bs.length ≤ 100)
    (hT : PT Y o1 (fun σ H Q => (∃ v, Cw a dd fld ws bs v σ H) ∧ Q true H)) (hV : KV Y a 0 dd fld ve (fun _ => some (.bl true))) (hVt : ∀ whole, isTrue ve Y.env whole = (do let v ← whole; standAt ve.pos; holding [v] (truthy v)))
    (hA : PE Y e2 (fun σ H Q => ∃ s : Str, head.length + s.length ≤ sizeLine ∧ Cw a dd fld ws bs (.str s) σ H ∧ Q (.str (head ++ s)) H)) {te3 : TE} (hE : PE Y e3 te3) {pb pif pr : Pos} :
    PSs Y [.Assign [.Name "heads" p1] (.List es pl1) p2, .Assign [.Name "found" p3] (.List es2 pl2) q, .Return (some (.IfExp (.BoolOp .And [o1, ve] pb) e2 e3 pif)) pr]
      (fun D σ H => ∃ s : Str, σ = [some (.ref a), none, none] ∧ H dd = some (.xd [(fld, .str s)]) ∧ head.length + s.length ≤ sizeLine ∧ ∀ H', More H H' → D.rt (.str (head ++ s)) H') := by
  have hN0 : Y.N[1]? = some ("heads" : Str) := by rw [hN]; rfl
  have hN2 : Y.N[2]? = some ("found" : Str) := by rw [hN]; rfl
  refine PSs.imp (pss_cons (ps_set (i := 1) hnd hN0 (.inl L1) (pe_lst (pa_strs h1)) hsw1 (.inr L1)) (pss_cons (ps_set (i := 2) hnd hN2 (.inl L2) (pe_lst (pa_is h2)) hsw2 (.inr L2)) (pss_one (ps_ret (pe_ifExp (PW.pt (pw_and hT (pw_and1 (kb_v hVt hV)))) hA hE))))) fun Z σ H hh => ?_
  obtain ⟨s, rfl, hd, hz, qq⟩ := hh
  refine ⟨by rw [List.length_map, sizeLine_eq]; omega, fun r1 n1 => ?_⟩
  have m1 : More H (upd H r1 (.lst (ws.map V.str))) := More.new n1
  refine ⟨⟨.str s, rfl, m1 _ _ hd⟩, by rw [List.length_map, sizeLine_eq]; omega, fun r2 n2 => ?_⟩
  have m2 : More (upd H r1 (.lst (ws.map V.str))) (upd (upd H r1 (.lst (ws.map V.str))) r2 (.lst (bs.map V.bl))) := More.new n2
  have c : Cw a dd fld ws bs (.str s) [some (.ref a), some (.ref r1), some (.ref r2)] (upd (upd H r1 (.lst (ws.map V.str))) r2 (.lst (bs.map V.bl))) :=
    ⟨r1, r2, rfl, m2 _ _ (m1 _ _ hd), m2 _ _ upd_same, upd_same⟩
  refine ⟨⟨_, c⟩, iteT ?_⟩
  refine ⟨.str s, true, cn_of c, rfl, iteT ?_⟩
  exact ⟨s, hz, c, qq _ (m1.trans m2)⟩
end
end Fz
set_option Elab.async false
set_option linter.all false
set_option maxRecDepth 100000
set_option maxHeartbeats 4000000
/-! Fz: more rules with premises filled by rfl. -/
namespace Fz
open PySem PySem.W L2 PyProof.Rows
section
variable {X : Cx} {T : Tb} {Wx : WX} {k n : Nat} {e a b c o : Expr} {es : List Expr} {ca cb cd co : Cd} {aa : Ca} {pos p p1 p2 apos cpos tpos : Pos} {x y z m : Str}
theorem fop_ipI {K : PySem.W.Frag} {T : Tb} {g : Int → Int → Int} : FOp K T (opI g fun _ _ => true) (ipI g) := by
  intro Wx σ F ρ ih H x y v1 v2 Q hr r1 r2 hp
  unfold opI at hp
  split at hp
  · rw [if_pos rfl] at hp
    cases r1 with | d r1 => cases r2 with | d r2 => cases r1; cases r2; exact ⟨_, _, rfl, rfl, hp.ok hr _ (.d (.int _))⟩
  · exact hp.elim
def opAddI : W → W → Hh → R W := opI (· + ·) fun _ _ => true
/-- how an operator changes a name -/
structure Ip (X : Cx) (T : Tb) (op : Operator) (opf : W → W → Hh → R W) : Prop where
  ex : ∃ ti : TIp, PIp X op ti ∧ FOp X.K T opf ti
theorem ip_addI : Ip X T .Add opAddI := ⟨_, ip_add, fop_ipI⟩
theorem ip_subI : Ip X T .Sub opSub := ⟨_, ip_sub, fop_ipI⟩
theorem s_aug {op : Operator} {opf : W → W → Hh → R W} (i : Nat) (G : Cg X Wx k) (h : Ip X T op opf) (he : FE X T Wx e ca) (hi : X.N[i]? = some x := by rfl) (hx : Loc X.env.scope x := by first | exact .inl rfl | exact .inr rfl)
    (hf : X.fn x = true ∨ X.env.scope.names.lookup x = some .local := by first | exact .inl rfl | exact .inr rfl) : FS X T Wx (.AugAssign (.Name x p) op e pos) (sAug i opf ca) := by
  obtain ⟨ti, h1, h2⟩ := h.ex
  exact fs_aug h2 (fun te hte => ps_aug G.nd hi hx hte h1 hf) he
/-- a field of instances: its number, its name -/
structure Fl (K : PySem.W.Frag) (T : Tb) (fl : Nat) (f : Str) : Prop where
  nm : T.fld fl = f
  inj : ∀ i, T.fld i = T.fld fl → i = fl
  cl : ∀ c, Cls K (T.cad c)
  na : ∀ c, NoAttr K (T.cad c) f
theorem e_fld {fl : Nat} (h : Fl X.K T fl x) (ho : FE X T Wx o co) (hb : attributeBase o x X.env (eval o X.env) = eval o X.env := by rfl) : FE X T Wx (.Attribute o x pos) (cFld fl co) := by
  obtain ⟨rfl, inj, cl, na⟩ := h
  exact fe_fld inj cl na hb ho
theorem s_fld {fl : Nat} (h : Fl X.K T fl x) (he : FE X T Wx e ca) (ho : FE X T Wx o co) (hs : swapsWith e (some (.Attribute o x p)) pos.line X.env = pure false := by rfl) : FS X T Wx (.Assign [.Attribute o x p] e pos) (Fz.sFld fl co ca) := fs_fld h.nm h.inj h.cl h.na hs ho he
structure Io (X : Cx) (T : Tb) (op : Operator) (opf : W → W → Hh → R W) : Prop where
  ex : ∃ rd : V → V → Hp → VK → Prop, InOp X op rd ∧ FOp X.K T opf rd
theorem io_add : Io X T .Add opAddI := ⟨_, in_add, fop_I0⟩
theorem io_sub : Io X T .Sub opSub := ⟨_, in_sub, fop_I0⟩
theorem s_fldAug {op : Operator} {opf : W → W → Hh → R W} {fl : Nat} (h : Fl X.K T fl x) (hop : Io X T op opf) (ho : FE X T Wx o co) (he : FE X T Wx e ca) : FS X T Wx (.AugAssign (.Attribute o x tpos) op e pos) (sFldAug' fl opf co ca) := by
  obtain ⟨rd, h1, h2⟩ := hop.ex
  exact fs_fldAug h.nm h.inj h.cl h.na h1 h2 ho he
end
/-! ### dict(pairs), sorted(dict) -/
def pairsD : List D → Option (List (D × D))
  | [] => some []
  | .tup [k, v] :: r => if k.isK then (pairsD r).map ((k, v) :: ·) else none
  | _ :: _ => none
def biDict (ws : List W) (h : Hh) : R W := match ws with
  | [w] => match lstW w h with
    | some wl => match (allD wl).bind pairsD with
      | some ps => if ps.length ≤ 16777216 then .ok (.r h.length) (h ++ [.dk (mergeD [] (ps.map fun p => (p.1, .d p.2)))]) else .no
      | none => .no
    | none => .no
  | _ => .no
theorem pairsD_at {K : PySem.W.Frag} {F ρ : List Addr} {H : Hp} : ∀ {l : List D} {ps : List (D × D)} {vs : List V}, pairsD l = some ps → RpL K (F ++ ρ) H l vs →
    ∃ (as : List Addr) (ks : List (Key × V)), vs = as.map V.ref ∧ Paired (fun p kv => SqT K H p [kV kv.1, kv.2]) as ks ∧ RD K F ρ H kOf D.isK (ps.map fun p => (p.1, W.d p.2)) ks
  | [], ps, vs, e, r => by
    cases r
    simp [pairsD] at e
    subst e
    exact ⟨[], [], rfl, .nil, .nil⟩
  | d :: l, ps, vs, e, r => by
    cases r with | cons a b =>
    unfold pairsD at e
    split at e
    · rename_i e0; cases e0
    · rename_i k v r' e0
      cases e0
      split at e
      · rename_i hk
        rw [Option.map_eq_some_iff] at e
        obtain ⟨ps', e1, rfl⟩ := e
        obtain ⟨as, ks, rfl, h1, h2⟩ := pairsD_at e1 b
        cases a with | tup ft z rl =>
          cases rl with | cons r1 r2 => cases r2 with | cons r2 r3 => cases r3 with | nil =>
            have ek := key_v hk (.d r1 : RW K F ρ H (.d k) _)
            subst ek
            exact ⟨_ :: as, (kOf k, _) :: ks, rfl, .cons ft.sq h1, .cons ⟨⟨rfl, hk⟩, .d r2⟩ h2⟩
      · cases e
    · cases e
theorem fc_dict {K : PySem.W.Frag} {T : Tb} : FCl K T biDict (fun xs H Q => ∃ (a : Addr) (ps : List Addr) (kvs : List (Key × V)), xs = [.ref a] ∧ SqL K H a (ps.map V.ref) ∧ Paired (fun p kv => SqT K H p [kV kv.1, kv.2]) ps kvs ∧
    ∀ p, H p = none → Q (.ref p) (upd H p (.dK (mergeK [] kvs)))) := by
  intro Wx σ F ρ ih H xs vs Q hr rs hp
  unfold biDict at hp
  split at hp
  · cases rs with | cons r t => cases t with | nil =>
      split at hp
      · rename_i wl e3
        split at hp
        · rename_i ps e
          rw [Option.bind_eq_some_iff] at e
          obtain ⟨l, e2, e4⟩ := e
          split at hp
          · rename_i hz
            obtain ⟨a, us, rfl, s, rs, _⟩ := lstW_at hr r e3
            have rl := allD_rp e2 rs
            obtain ⟨as, ks, rfl, h1, h2⟩ := pairsD_at e4 rl
            refine ⟨a, as, ks, rfl, .inl s, h1, fun p np => ?_⟩
            have g : Grow F ρ H (ρ ++ [p]) (upd H p (.dK (mergeK [] ks))) := grow_add np
            have rd : RD K F ρ H kOf D.isK (mergeD [] (ps.map fun p => (p.1, W.d p.2))) (mergeK [] ks) := RD.merge h2 .nil
            have hr2 := hr.add (o := .dk (mergeD [] (ps.map fun p => (p.1, W.d p.2)))) (u := .dK (mergeK [] ks)) np (.dk (rd_dk (RD.kp (Grow.keepM g hr) (fun _ _ q => g.get q) rd)))
            exact hp _ _ g hr2 _ (.r (get_last hr.len))
          · exact hp.elim
        · exact hp.elim
      · exact hp.elim
  · exact hp.elim
/-- the keys of a dict, all whole numbers -/
def keysI : List (D × W) → Option (List Int)
  | [] => some []
  | (.int i, _) :: r => (keysI r).map (i :: ·)
  | _ :: _ => none
def leI (a b : Int) : Bool := decide (a ≤ b)
def biSortK (m : Bool) (ws : List W) (h : Hh) : R W := match ws with
  | [.r n] => match h[n]? with
    | some (.dk l) => match keysI l with
      | some ks => if ks.length < 64 then fin m ((isort leI ks).map fun i => .d (.int i)) h else .no
      | none => .no
    | _ => .no
  | _ => .no
theorem keysI_at {K : PySem.W.Frag} {F ρ : List Addr} {H : Hp} : ∀ {l : List (D × W)} {is : List Int} {kvs : List (Key × V)}, keysI l = some is → RD K F ρ H kOf D.isK l kvs → kvs.map (·.1) = is.map Sum.inl
  | [], is, kvs, e, r => by cases r; simp [keysI] at e; subst e; rfl
  | (d, w) :: l, is, kvs, e, r => by
    cases r with
    | @cons _ b _ bs a t =>
      unfold keysI at e
      split at e
      · rename_i e0; cases e0
      · rename_i i w' r' e0
        cases e0
        rw [Option.map_eq_some_iff] at e
        obtain ⟨is', e1, rfl⟩ := e
        rw [List.map_cons, List.map_cons, keysI_at e1 t, a.1.1]
        rfl
      · cases e
theorem isort_eq {ks ns : List Int} (p : ns.Perm ks) (s : ns.Pairwise (· ≤ ·)) : ns = isort leI ks := by
  have e := isort_merge (le := leI) (by intro a b c; simp [leI]; omega) (by intro a b; simp [leI]; omega) ks
  rw [← e]
  refine (p.trans (List.mergeSort_perm ks leI).symm).eq_of_pairwise (le := (· ≤ ·)) (fun a b _ _ h1 h2 => by omega) s ?_
  exact (List.pairwise_mergeSort (le := leI) (by intro a b c; simp [leI]; omega) (by intro a b; simp [leI]; omega) ks).imp fun h => by simpa [leI] using h
theorem RWs.ints {K : PySem.W.Frag} {F ρ : List Addr} {H : Hp} : ∀ l : List Int, RWs K F ρ H (l.map fun i => W.d (.int i)) (l.map V.int)
  | [] => .nil
  | i :: l => .cons (.d (.int i)) (RWs.ints l)
theorem fc_sortK {K : PySem.W.Frag} {T : Tb} {m : Bool} : FCl K T (biSortK m) (fun xs H Q => ∃ (a : Addr) (kvs : List (Key × V)) (ks : List Int), xs = [.ref a] ∧ Rd H a (.dK kvs) ∧ kvs.map (·.1) = ks.map Sum.inl ∧ ks.length < 64 ∧
    ∀ (ys : List Int) (p : Addr), ys.Perm ks → ys.Pairwise (· ≤ ·) → H p = none → Q (.ref p) (upd H p (.lst (ys.map V.int)))) := by
  intro Wx σ F ρ ih H xs vs Q hr rs hp
  unfold biSortK at hp
  split at hp
  · rename_i n
    cases rs with | cons r t => cases t with | nil =>
      split at hp
      · rename_i l ho
        split at hp
        · rename_i ks e
          split at hp
          · rename_i hl
            cases r with | r hn =>
              obtain ⟨u, eH, ro⟩ := hr.at hn ho
              cases ro with | dk rs =>
                refine ⟨_, _, ks, rfl, .inl eH, keysI_at e (dk_rd rs), hl, fun ys p p1 p2 np => ?_⟩
                rw [isort_eq p1 p2]
                exact fin_ok hr (RWs.ints _) np hp
          · exact hp.elim
        · exact hp.elim
      · exact hp.elim
  · exact hp.elim
section
variable {X : Cx} {T : Tb} {Wx : WX} {k : Nat}
theorem u_dict (G : Cg X Wx k) : Bi X T "dict" biDict := ⟨.inr ⟨_, _, call_dictP G.calm, fc_dict, by decide +kernel⟩, by decide, by decide⟩
theorem u_sortK (m : Bool) (G : Cg X Wx k) : Bi X T "sorted" (biSortK m) := ⟨.inl ⟨_, _, call_sortedDI G.calm, fc_sortK, by decide +kernel⟩, by decide, by decide⟩
end
end Fz
set_option Elab.async false
set_option linter.all false
set_option maxRecDepth 100000
set_option maxHeartbeats 4000000
/-! Fz: exceptions, tables, walks: rules with premises filled by rfl. -/
namespace Fz
open PySem PySem.W L2 PyProof.Rows L2H
section
variable {X : Cx} {T : Tb} {Wx : WX} {k n : Nat} {e a b c o : Expr} {es elts : List Expr} {ca cb cd co : Cd} {aa : Ca} {pos p p1 p2 apos cpos tpos : Pos} {x y z m : Str} {kk : Nat}
theorem i_en (hm : X.mg "enumerate" = none) (h : FE X T Wx e ca) (hg : Gl X "enumerate" := by rfl) (hs : starEach [e] X.env = (false, eval e X.env) :: starEach [] X.env := by rfl) : FI X T Wx (.Tuple elts kk tpos) (.Call (.Name "enumerate" p) [e] [] pos) (cEn ca) := fi_en hg hm hs h
theorem s_raise {P : Program} {fI : Addr} {fld par tx : Str} {st : Stmt} {fd : FuncData} (c : Nat) (G : Cg X Wx (k + 2)) (xc : Xc X.prog X.K X.mg (T.xad c) fI fld par tx st fd) (bnd : ∀ us : List Value, us.length = 2 → bindArgs fd ⟨us, []⟩ = pure (([("self" : Str), par] : List Str).zip us)) (hf : T.efl c = fld) (hm : X.mg x = some (.ref (T.xad c)))
    (he : FE X T Wx e ca) (hg : Gl X x := by rfl) (hdb : (x == ("__debug__" : Str)) = false := by decide) (hst : starEach [e] X.env = (false, eval e X.env) :: starEach [] X.env := by rfl) :
    FS X T Wx (.Raise (some (.Call (.Name x p) [e] [] pos)) none p1) (sRaise c ca) := fs_raise G xc bnd hf hg hm he hdb hst
end
/-! tables of defs -/
structure Tl' (P : Program) (w : World) (K : PySem.W.Frag) (mg : Str → Option Value) (base : Heap) (T : Tb) (k n : Nat) (tbl : List Nat → Option (Bool × Fn)) : Prop where
  at_ : ∀ q pu g f, tbl q = some (pu, g) → fnAt K (toStr q) = some f → ∃ fd ps, FnG P w K mg base k f fd ps (spF K T n g) ∧ keepIn K (.ref f) = true ∧ Binds K fd ps []
section
variable {X : Cx} {T : Tb} {Wx : WX} {k n : Nat} {e : Expr} {es : List Expr} {aa : Ca} {pos p : Pos} {x : Str}
theorem e_cv (i : Nat) {tbl : List Nat → Option (Bool × Fn)} (G : Cg X Wx (k + 1)) (A : Tl' X.prog X.w X.K X.mg X.base T k n tbl) (ha : FA X T Wx (e :: es) aa) (hN : X.N[i]? = some x := by rfl) (hv : Vis X.env.scope x := by first | exact Or.inl rfl | exact Or.inr (Or.inl rfl) | exact Or.inr (Or.inr rfl))
    (hdb : (x == ("__debug__" : Str)) = false := by decide) (hcd : (x == ("__classdict__" : Str)) = false := by decide) (he : starEach (e :: es) X.env = (false, eval e X.env) :: starEach es X.env := by rfl) (hpl : (backTo pos (starEach es X.env)).any (·.1) = false := by rfl) :
    FE X T Wx (.Call (.Name x p) (e :: es) [] pos) (cCallV i n tbl aa) := e_callV i G ⟨A.at_⟩ ha hN hv hdb hcd he hpl
end
/-! suites -/
/-- the answer: a text, the payload behind it -/
def sPay (p : List Nat) (x : D) : Option D := match x with
  | .str l => if p.length + l.length ≤ 1000000 then some (.str (p ++ l)) else none
  | .int i => if p.isEmpty then some (.int i) else none
  | _ => none
def sTxt (p : List Nat) (x : D) : Option D := match x with
  | .str l => some (.str p)
  | .int i => some (.str p)
  | _ => none
theorem suf_pay {su : Nat → D → Option D} {c : Nat} {f : V → Option V} (p : List Nat) (hs : ∀ x, su c x = sPay p x) (h1 : ∀ s : Str, p.length + s.length ≤ 1000000 → f (.str s) = some (.str (toStr p ++ s))) (h2 : p.isEmpty = true → ∀ i, f (.int i) = some (.int i)) : SuF su c f := by
  intro x y v e s
  rw [hs] at e
  cases s with
  | non => cases e
  | bl b => cases e
  | int i =>
    unfold sPay at e
    dsimp only at e
    split at e
    · rename_i hp
      cases e
      exact ⟨_, h2 hp i, .int i⟩
    · cases e
  | str l z =>
    unfold sPay at e
    dsimp only at e
    split at e
    · rename_i hz
      cases e
      refine ⟨_, h1 (toStr l) (by rw [toStr_len]; exact hz), ?_⟩
      rw [str_app]
      exact .str _ (by rw [List.length_append, sizeLine_eq]; omega)
    · cases e
theorem suf_txt {su : Nat → D → Option D} {c : Nat} {f : V → Option V} (p : List Nat) (hs : ∀ x, su c x = sTxt p x) (hp : p.length ≤ 1000) (h : ∀ v, f v = some (.str (toStr p))) : SuF su c f := by
  intro x y v e s
  rw [hs] at e
  cases s with
  | non => cases e
  | bl b => cases e
  | int i => cases e; exact ⟨_, h _, .str p (by rw [sizeLine_eq]; omega)⟩
  | str l z => cases e; exact ⟨_, h _, .str p (by rw [sizeLine_eq]; omega)⟩
section
variable {Y : Cx} {a D : Addr} {oe : Obj} {i : Nat} {dd : Addr} {fld x n : Str} {e : Expr} {p q r pos : Pos}
theorem rel_ref {b : Addr} : ∀ u, L2.RelV (.ref b) u → u = .ref b := fun _ h => h
theorem rel_ty {t : String} : ∀ u, L2.RelV (.ty t) u → u = .type t := fun _ h => h
/-- isinstance(n, x), x an own class -/
theorem k_isiC {C : Addr} {b : Bool} (Ex : ExcC Y.K D) (hpn : (a, oe) ∈ Y.pn) (hz : Zc (.ref D) (some dd) oe) (hf : ∃ vs, oe.data = .fields vs) (hk : kitOne Y.K (.ref D) (.ref C) = some b) (hm : Y.mg "isinstance" = none) (hmx : Y.mg x = some (.ref C)) (hN : Y.N[i]? = some n := by rfl) (hv : Vis Y.env.scope n := by first | exact Or.inl rfl | exact Or.inr (Or.inl rfl))
    (hd : (n == ("__debug__" : Str)) = false := by decide) (hc : (n == ("__classdict__" : Str)) = false := by decide) (hg : Gl Y "isinstance" := by rfl) (hgx : Gl Y x := by rfl) (hdx : (x == ("__debug__" : Str)) = false := by decide)
    (h1 : starEach [.Name n q, .Name x r] Y.env = (false, eval (.Name n q) Y.env) :: starEach [.Name x r] Y.env := by rfl) (h2 : starEach [.Name x r] Y.env = (false, eval (.Name x r) Y.env) :: starEach [] Y.env := by rfl) :
    KV Y a i dd fld (.Call (.Name "isinstance" p) [.Name n q, .Name x r] [] pos) (fun _ => some (.bl b)) :=
  kv_isi (cl := .ref C) (cv := .ref C) Ex hpn hz hf hk rel_ref hg hm (pe_var hN hv hd hc) (pe_glob hgx hmx rfl hdx) h1 h2
/-- .. ValueError -/
theorem k_isiV {b : Bool} (Ex : ExcC Y.K D) (hpn : (a, oe) ∈ Y.pn) (hz : Zc (.ref D) (some dd) oe) (hf : ∃ vs, oe.data = .fields vs) (hk : kitOne Y.K (.ref D) (.type "ValueError") = some b) (hm : Y.mg "isinstance" = none) (hmx : Y.mg "ValueError" = none) (hN : Y.N[i]? = some n := by rfl) (hv : Vis Y.env.scope n := by first | exact Or.inl rfl | exact Or.inr (Or.inl rfl))
    (hd : (n == ("__debug__" : Str)) = false := by decide) (hc : (n == ("__classdict__" : Str)) = false := by decide) (hg : Gl Y "isinstance" := by rfl) (hgx : Gl Y "ValueError" := by rfl)
    (h1 : starEach [.Name n q, .Name "ValueError" r] Y.env = (false, eval (.Name n q) Y.env) :: starEach [.Name "ValueError" r] Y.env := by rfl) (h2 : starEach [.Name "ValueError" r] Y.env = (false, eval (.Name "ValueError" r) Y.env) :: starEach [] Y.env := by rfl) :
    KV Y a i dd fld (.Call (.Name "isinstance" p) [.Name n q, .Name "ValueError" r] [] pos) (fun _ => some (.bl b)) :=
  kv_isi (cl := .type "ValueError") (cv := .ty "ValueError") Ex hpn hz hf hk rel_ty hg hm (pe_var hN hv hd hc) (pe_bltn (u := .type "ValueError") hgx hmx PyProof.Rows.Boot.«ValueError» rfl (by decide) (by decide)) h1 h2
theorem k_fld (Tf : XfC Y.K D) (hpn : (a, oe) ∈ Y.pn) (hno : findIn Y.K (.ref D) fld = some none) (hz : Zc (.ref D) (some dd) oe) (hf : ∃ vs, oe.data = .fields vs) (hN : Y.N[i]? = some n := by rfl) (hv : Vis Y.env.scope n := by first | exact Or.inl rfl | exact Or.inr (Or.inl rfl))
    (hd : (n == ("__debug__" : Str)) = false := by decide) (hc : (n == ("__classdict__" : Str)) = false := by decide) (hb : attributeBase (.Name n q) fld Y.env (eval (.Name n q) Y.env) = eval (.Name n q) Y.env := by rfl) :
    KV Y a i dd fld (.Attribute (.Name n q) fld pos) some := kv_fld Tf hpn hno hz hf (pe_var hN hv hd hc) hb
theorem k_v {f : V → Option V} (hf : KV Y a i dd fld e f) (he : ∀ whole, isTrue e Y.env whole = (do let v ← whole; standAt e.pos; holding [v] (truthy v)) := by intro _; rfl) : KB Y a i dd fld e (fun v => (f v).bind asBV) := kb_v he hf
theorem k_eqB {f g : V → Option V} {t : Expr} (h1 : KV Y a i dd fld e f) (h2 : KV Y a i dd fld t g) (hm : behindInMarks .Eq t = false := by rfl) : KB Y a i dd fld (.Compare e [.Eq] [t] pos) (eqBV f g) := kb_eq hm h1 h2
theorem cx_false {P : Program} {w : World} {outer : List Env} {H : Hp} {s s' : Shared} {e : Value} : ¬ L2.CX P w outer H s (fun _ _ _ => False) e s' := fun h => by
  obtain ⟨_, _, _, _, _, _, _, _, _, _, _, _, h⟩ := h
  exact h
/-- what the word's def promises -/
def spWd (a dd : Addr) (fld head : Str) : Sp := fun vs H Q _ => ∃ s : Str, vs = [.ref a] ∧ H dd = some (.xd [(fld, .str s)]) ∧ head.length + s.length ≤ sizeLine ∧ ∀ H', More H H' → Q (.str (head ++ s)) H'
def wdV (head : Str) (v : V) : Option V := match v with
  | .str s => if head.length + s.length ≤ sizeLine then some (.str (head ++ s)) else none
  | _ => none
/-- return f(n) -/
theorem k_word {k : Nat} {f : Addr} {fd : FuncData} {head : Str} (F : FnP (a, oe) Y.prog Y.w Y.K Y.mg Y.base k f fd ["error"] (spWd a dd fld head)) (hr : RoomH k Y.A) (hpn : (a, oe) ∈ Y.pn) (hb : Binds Y.K fd ["error"] []) (hm : Y.mg x = some (.ref f)) (hk : keepIn Y.K (.ref f) = true) (hN : Y.N[i]? = some n := by rfl) (hv : Vis Y.env.scope n := by first | exact Or.inl rfl | exact Or.inr (Or.inl rfl))
    (hd : (n == ("__debug__" : Str)) = false := by decide) (hc : (n == ("__classdict__" : Str)) = false := by decide) (hg : Gl Y x := by rfl) (hdx : (x == ("__debug__" : Str)) = false := by decide) (he : starEach [.Name n q] Y.env = (false, eval (.Name n q) Y.env) :: starEach [] Y.env := by rfl) :
    KS Y a i dd fld [.Return (some (.Call (.Name x p) [.Name n q] [] r)) pos] (wdV head) := by
  have pe : PE Y (.Call (.Name x p) [.Name n q] [] r) (fun σ H Q => ∃ s : Str, Cn i a dd fld (.str s) σ H ∧ head.length + s.length ≤ sizeLine ∧ ∀ H', More H H' → Q (.str (head ++ s)) H') := by
    refine ⟨fun pins s σ H Q I h => ?_⟩
    obtain ⟨t, c, hz, qq⟩ := h
    refine wpAny_Call_Name_kw (ld_glob I hg hm ?_ hdx)
    refine PySem.W.callWith_K (h₀ := Y.base) I.ok.mod.kin hk (thn ((pa_cons (pe_var (pos := q) hN hv hd hc) pa_nil he).run r pins s σ H (fun vs H1 => vs = [.ref a] ∧ H1 = H) I ⟨.ref a, c.1, rfl, rfl⟩) fun us s2 ⟨vs, H2, I2, rr, q2⟩ => ⟨I2.kIn, ?_⟩) he rfl
    obtain ⟨rfl, rfl⟩ := q2
    exact run_fnP F hr hpn hb I2 rr (fun _ _ => cx_false) ⟨t, rfl, c.2, hz, qq⟩
  refine PSs.imp (pss_one (ps_ret pe)) fun Z σ H hh => ?_
  obtain ⟨v, u, c, e, qq⟩ := hh
  unfold wdV at e
  split at e
  · split at e
    · rename_i hz
      cases e
      exact ⟨_, c, hz, qq⟩
    · cases e
  · cases e
theorem suf_wd {su : Nat → Fz.D → Option Fz.D} {c : Nat} (p : List Nat) (hs : ∀ x, su c x = sPay p x) (hp : p.isEmpty = false) : SuF su c (wdV (toStr p)) := suf_pay p hs (fun s hz => by
    show (if (toStr p).length + s.length ≤ sizeLine then _ else _) = _
    rw [if_pos (by rw [toStr_len, sizeLine_eq]; omega)]) fun h => by rw [hp] at h; cases h
end
end Fz
set_option Elab.async false
set_option linter.all false
set_option maxRecDepth 100000
set_option maxHeartbeats 4000000
/-! Fz: walking a dict, which is locked meanwhile. -/
namespace Fz
open PySem PySem.W L2 PyProof.Rows L2H
theorem roomH_su {k : Nat} {X : Cx} {a : Addr} {pn : List (Addr × Obj)} (r : Room k X.A) : RoomH k (X.suite a pn).A := ⟨r.dp, r.un⟩
/-- which thing is locked -/
abbrev Gk := Ev → Hh → Option Nat
def gN (i : Nat) : Gk := fun e _ => match e[i]? with
  | some (some (.r n)) => some n
  | _ => none
def gA (i f : Nat) : Gk := fun e h => match e[i]? with
  | some (some (.r n)) => match h[n]? with
    | some (.ins _ fs) => match lkf f fs with
      | some (.r m) => some m
      | _ => none
    | _ => none
  | _ => none
def gK (i : Nat) (k : D) : Gk := fun e h => match e[i]? with
  | some (some (.r n)) => match h[n]? with
    | some (.dk l) => match lkd k l with
      | some (.r m) => some m
      | _ => none
    | _ => none
  | _ => none
/-- locked -/
def lockO : O → Option O
  | .dk l => some (.fk l)
  | .dt l => some (.ft l)
  | _ => none
def lkT (n : Nat) (o : O) (m : R W) : R W := match m with
  | .ok w h => .ok w (h.set n o)
  | _ => .no
def lkC (g : Gk) (c : Cd) : Cd := fun e h => match g e h with
  | some n => match h[n]? with
    | some o => match lockO o with
      | some o' => lkT n o (c e (h.set n o'))
      | none => .no
    | none => .no
  | none => .no
def lkS' (n : Nat) (o : O) (m : SR) : SR := match m with
  | .nx e h => .nx e (h.set n o)
  | .rt w h => .rt w (h.set n o)
  | .bk e h => .bk e (h.set n o)
  | .ct e h => .ct e (h.set n o)
  | _ => .no
def lkS (g : Gk) (c : Cs) : Cs := fun e h => match g e h with
  | some n => match h[n]? with
    | some o => match lockO o with
      | some o' => lkS' n o (c e (h.set n o'))
      | none => .no
    | none => .no
  | none => .no
section
variable {K : PySem.W.Frag} {T : Tb} {F ρ ρ' : List Addr} {H H' : Hp} {ih ih' : Hh}
/-- the dict that is locked, and how it is left -/
theorem lock_at {n : Nat} {o o' : O} (hr : HR K T F ρ ih H) (ho : ih[n]? = some o) (hl : lockO o = some o') :
    ∃ a u, ρ[n]? = some a ∧ H a = some u ∧ Mut (some u) ∧ ∀ od, HR K T F ρ (ih.set n o') (upd H a (.frz od u)) ∧ Keep (F ++ ρ) H (F ++ ρ) (upd H a (.frz od u)) ∧
      ∀ ρ' H' ih', Grow F ρ (upd H a (.frz od u)) ρ' H' → HR K T F ρ' ih' H' →
        H' a = some (.frz od u) ∧ HR K T F ρ' (ih'.set n o) (upd H' a u) ∧ Grow F ρ H ρ' (upd H' a u) ∧ Keep (F ++ ρ') H' (F ++ ρ') (upd H' a u) := by
  obtain ⟨a, u, e1, eH, ro⟩ := hr.obj n o ho
  have m := List.mem_of_getElem? e1
  have back : ∀ od ρ' H', u ≠ .frz od u → (∀ b x y, u = .frz x y → b ≠ a) → Grow F ρ (upd H a (.frz od u)) ρ' H' → Grow F ρ H ρ' (upd H' a u) := fun od ρ' H' _ nz g => by
    refine ⟨g.more, fun b x e n => ?_, fun b mb nb => ?_, fun b od' x e => ?_⟩
    · have nb : b ≠ a := fun q => n (q ▸ m)
      rw [upd_ne nb]
      exact g.keep b x (by rw [upd_ne nb]; exact e) n
    · have := g.new b mb nb
      rw [upd_ne (fun q => nb (by rw [q]; exact m))] at this
      exact this
    · have nb : b ≠ a := by
        intro q
        subst q
        rw [eH] at e
        cases e
        exact nz b _ _ rfl rfl
      rw [upd_ne nb]
      exact g.frz b od' x (by rw [upd_ne nb]; exact e)
  have key : ∀ od ρ' H' ih', Grow F ρ (upd H a (.frz od u)) ρ' H' → HR K T F ρ' ih' H' → (u ≠ .frz od u) → (∀ b x y, u = .frz x y → b ≠ a) → (∀ ρ'' H'', Keep (F ++ ρ) H (F ++ ρ'') H'' → (∀ (k : Nat) (b : Addr), ρ[k]? = some b → ρ''[k]? = some b) → RO K T F ρ'' H'' o u) →
      H' a = some (.frz od u) ∧ HR K T F ρ' (ih'.set n o) (upd H' a u) ∧ Grow F ρ H ρ' (upd H' a u) ∧ Keep (F ++ ρ') H' (F ++ ρ') (upd H' a u) := fun od ρ' H' ih' g hr' h1 h2 h3 => by
    have G := back od ρ' H' h1 h2 g
    have m' := g.mem m
    exact ⟨g.frz a od u upd_same, hr'.set (g.get e1) (h3 _ _ (G.keepM hr) fun k b q => g.get q), G, keep_set m'⟩
  cases ro with
  | dk rs =>
    cases hl
    exact ⟨a, _, e1, eH, trivial, fun od => ⟨hr.set e1 (.fk (Paired.mapP rs fun _ _ x => ⟨x.1, x.2.kp (keep_set m) fun _ _ q => q⟩)), keep_set m, fun ρ' H' ih' g hr' =>
      key od ρ' H' ih' g hr' (fun q => nomatch q) (fun _ _ _ q => nomatch q) fun ρ'' H'' k gg => .dk (Paired.mapP rs fun _ _ x => ⟨x.1, x.2.kp k gg⟩)⟩⟩
  | dt rs =>
    cases hl
    exact ⟨a, _, e1, eH, trivial, fun od => ⟨hr.set e1 (.ft (Paired.mapP rs fun _ _ x => ⟨x.1, x.2.kp (keep_set m) fun _ _ q => q⟩)), keep_set m, fun ρ' H' ih' g hr' =>
      key od ρ' H' ih' g hr' (fun q => nomatch q) (fun _ _ _ q => nomatch q) fun ρ'' H'' k gg => .dt (Paired.mapP rs fun _ _ x => ⟨x.1, x.2.kp k gg⟩)⟩⟩
  | _ => cases hl
theorem RE.kp {F' ρ' : List Addr} {H' : Hp} {e : Ev} {σ : L2.St} (k : Keep (F ++ ρ) H (F' ++ ρ') H') (g : ∀ (n : Nat) (a : Addr), ρ[n]? = some a → ρ'[n]? = some a) (r : RE K F ρ H e σ) : RE K F' ρ' H' e σ :=
  ⟨r.1, fun i w q => let ⟨v, e1, r1⟩ := r.2 i w q; ⟨v, e1, r1.kp k g⟩⟩
end
section
variable {X : Cx} {T : Tb} {Wx : WX} {tg e : Expr} {st : Stmt} {pos apos cpos tpos : Pos} {c : Cd} {cs : Cs} {g : Gk}
theorem fe_lk (g : Gk) (h : FE X T Wx e c) : FE X T Wx e (lkC g c) := PE.imp (pe_lock h) fun σ H Q q => by
  obtain ⟨F, ρ, ev, ih, hr, re, hp⟩ := q
  unfold lkC at hp
  cases eg : g ev ih with
  | none => rw [eg] at hp; exact hp.elim
  | some n =>
    rw [eg] at hp
    dsimp only at hp
    cases ho : ih[n]? with
    | none => rw [ho] at hp; exact hp.elim
    | some o =>
      rw [ho] at hp
      dsimp only at hp
      cases hl : lockO o with
      | none => rw [hl] at hp; exact hp.elim
      | some o' =>
        rw [hl] at hp
        dsimp only at hp
        obtain ⟨a, u, e1, eH, mu, key⟩ := lock_at hr ho hl
        refine ⟨a, u, eH, mu, fun od => ?_⟩
        obtain ⟨hr1, k1, bk⟩ := key od
        refine ⟨F, ρ, ev, _, hr1, re.kp k1 fun _ _ q => q, ?_⟩
        cases ec : c ev (ih.set n o') with
        | no => rw [ec] at hp; exact hp.elim
        | ex _ _ _ => rw [ec] at hp; exact hp.elim
        | ok w h' =>
          rw [ec] at hp
          intro ρ' H' g' hr' v rv
          obtain ⟨b1, b2, b3, b4⟩ := bk ρ' H' h' g' hr'
          exact ⟨b1, hp _ _ b3 b2 _ (rv.kp b4 fun _ _ q => q)⟩
theorem fs_lk (g : Gk) (h : FS X T Wx st cs) : FS X T Wx st (lkS g cs) := PS.imp (ps_lock h) fun D σ H q => by
  obtain ⟨F, ρ, ev, ih, hr, re, hp⟩ := q
  unfold lkS at hp
  cases eg : g ev ih with
  | none => rw [eg] at hp; exact hp.elim
  | some n =>
    rw [eg] at hp
    dsimp only at hp
    cases ho : ih[n]? with
    | none => rw [ho] at hp; exact hp.elim
    | some o =>
      rw [ho] at hp
      dsimp only at hp
      cases hl : lockO o with
      | none => rw [hl] at hp; exact hp.elim
      | some o' =>
        rw [hl] at hp
        dsimp only at hp
        obtain ⟨a, u, e1, eH, mu, key⟩ := lock_at hr ho hl
        refine ⟨a, u, eH, mu, fun od => ?_⟩
        obtain ⟨hr1, k1, bk⟩ := key od
        refine ⟨F, ρ, ev, _, hr1, re.kp k1 fun _ _ q => q, ?_⟩
        cases ec : cs ev (ih.set n o') with
        | no => rw [ec] at hp; exact hp.elim
        | ex _ _ _ _ => rw [ec] at hp; exact hp.elim
        | nx e' h' =>
          rw [ec] at hp
          intro ρ' H' σ' g' hr' re'
          obtain ⟨b1, b2, b3, b4⟩ := bk ρ' H' h' g' hr'
          exact ⟨b1, hp _ _ _ b3 b2 (re'.kp b4 fun _ _ q => q)⟩
        | bk e' h' =>
          rw [ec] at hp
          intro ρ' H' σ' g' hr' re'
          obtain ⟨b1, b2, b3, b4⟩ := bk ρ' H' h' g' hr'
          exact ⟨b1, hp _ _ _ b3 b2 (re'.kp b4 fun _ _ q => q)⟩
        | ct e' h' =>
          rw [ec] at hp
          intro ρ' H' σ' g' hr' re'
          obtain ⟨b1, b2, b3, b4⟩ := bk ρ' H' h' g' hr'
          exact ⟨b1, hp _ _ _ b3 b2 (re'.kp b4 fun _ _ q => q)⟩
        | rt w h' =>
          rw [ec] at hp
          intro ρ' H' v g' hr' rv
          obtain ⟨b1, b2, b3, b4⟩ := bk ρ' H' h' g' hr'
          exact ⟨b1, hp _ _ _ b3 b2 (rv.kp b4 fun _ _ q => q)⟩

/-! ### keys, values, items of a locked dict -/
def okKey : D → Bool
  | .str l => decide (l.length ≤ 1000000)
  | _ => true
def okKeyT : D → Bool
  | .tup l => decide (l.length ≤ 1000000) && l.all okKey
  | _ => true
def keysS (l : List (D × W)) : List Y := l.map fun p => .w (.d p.1)
def cKeys (c : Cd) : Ci := fun e h => (c e h).bind fun w h => match w with
  | .r n => match h[n]? with
    | some (.fk l) => if l.all (fun p => okKey p.1) then .ok (fixS (keysS l)) h else .no
    | some (.ft l) => if l.all (fun p => okKeyT p.1) then .ok (fixS (keysS l)) h else .no
    | _ => .no
  | _ => .no
def cVals (c : Cd) : Ci := fun e h => (c e h).bind fun w h => match w with
  | .r n => match h[n]? with
    | some (.fk l) => .ok (fixS (l.map fun p => .w p.2)) h
    | _ => .no
  | _ => .no
def cItems (c : Cd) : Ci := fun e h => (c e h).bind fun w h => match w with
  | .r n => match h[n]? with
    | some (.fk l) => if l.all (fun p => okKey p.1) then .ok (fixS (l.map fun p => .t [.d p.1, p.2])) h else .no
    | _ => .no
  | _ => .no
theorem pget {α β : Type} {A : α → β → Prop} : ∀ {l : List α} {m : List β}, Paired A l m → ∀ {i : Nat} {x : α}, l[i]? = some x → ∃ y, m[i]? = some y ∧ A x y
  | _, _, .nil, i, x, e => by simp at e
  | _, _, .cons a b, 0, x, e => by simp at e; subst e; exact ⟨_, rfl, a⟩
  | _, _, .cons a b, i + 1, x, e => by
    obtain ⟨y, e1, r⟩ := pget b (i := i) (x := x) (by simpa using e)
    exact ⟨y, by simpa using e1, r⟩
theorem rk_rp {K : PySem.W.Frag} {M : List Addr} {H : Hp} {d : D} {k : Key} (h : Rk d k) (z : okKey d = true) : Rp K M H d (kV k) := by
  cases h with
  | int i => exact .int i
  | str l => exact .str l (Nat.le_trans (of_decide_eq_true z) (by decide))
theorem rks_rp {K : PySem.W.Frag} {M : List Addr} {H : Hp} : ∀ {ds : List D} {ks : List Key}, Rks ds ks → ds.all okKey = true → RpL K M H ds (ks.map kV)
  | _, _, .nil, _ => .nil
  | _, _, .cons a b, z => by
    rw [List.all_cons, Bool.and_eq_true] at z
    exact .cons (rk_rp a z.1) (rks_rp b z.2)
theorem good_keys {K : PySem.W.Frag} {F ρ : List Addr} {H : Hp} {ih : Hh} {l : List (D × W)} {kvs : List (Key × V)} {a : Addr} {od : Obj} (hr : HR K T F ρ ih H) (eH : H a = some (.frz od (.dK kvs))) (rs : Paired (fun p q => Rk p.1 q.1 ∧ RW K F ρ H p.2 q.2) l kvs) (z : l.all (fun p => okKey p.1) = true) :
    Good K T (Itk a od kvs) (fixS (keysS l)) F ρ H where
  goes := fun F' ρ' H' ih' l' i y g hr' e hy => by
    cases e
    have eH' := g.frz _ _ _ eH
    unfold keysS at hy
    rw [List.getElem?_map, Option.map_eq_some_iff] at hy
    obtain ⟨x, hx, rfl⟩ := hy
    obtain ⟨kv, hk, rk, _⟩ := pget rs hx
    refine ⟨⟨eH', (List.getElem?_eq_some_iff.mp hk).1⟩, fun u H'' q => ?_⟩
    obtain ⟨rfl, k, v, q2, rfl⟩ := q
    rw [hk] at q2
    cases q2
    exact ⟨Grow.refl, hr', .w (.d (rk_rp rk (List.all_eq_true.mp z _ (List.mem_of_getElem? hx))))⟩
  stops := fun F' ρ' H' ih' l' i g hr' e hl => by
    cases e
    exact ⟨g.frz _ _ _ eH, by rw [← Paired.length rs]; simpa [keysS] using hl⟩
theorem good_keysT {K : PySem.W.Frag} {F ρ : List Addr} {H : Hp} {ih : Hh} {l : List (D × W)} {kvs : List (List Key × V)} {a : Addr} {od : Obj} (hr : HR K T F ρ ih H) (eH : H a = some (.frz od (.dT kvs))) (rs : Paired (fun p q => RkT p.1 q.1 ∧ RW K F ρ H p.2 q.2) l kvs) (z : l.all (fun p => okKeyT p.1) = true) :
    Good K T (Itkt a od kvs) (fixS (keysS l)) F ρ H where
  goes := fun F' ρ' H' ih' l' i y g hr' e hy => by
    cases e
    have eH' := g.frz _ _ _ eH
    unfold keysS at hy
    rw [List.getElem?_map, Option.map_eq_some_iff] at hy
    obtain ⟨x, hx, rfl⟩ := hy
    obtain ⟨kv, hk, rk, _⟩ := pget rs hx
    refine ⟨⟨eH', (List.getElem?_eq_some_iff.mp hk).1⟩, fun u H'' q => ?_⟩
    obtain ⟨rfl, k, v, b, q2, rfl, eb⟩ := q
    rw [hk] at q2
    cases q2
    obtain ⟨ds, hd, rks⟩ := rk
    have zz := List.all_eq_true.mp z _ (List.mem_of_getElem? hx)
    rw [hd] at zz ⊢
    simp only [okKeyT, Bool.and_eq_true, decide_eq_true_eq] at zz
    exact ⟨Grow.refl, hr', .w (.d (.tup ⟨eb, hr'.nt eb⟩ (Nat.le_trans zz.1 (by decide)) (rks_rp rks zz.2)))⟩
  stops := fun F' ρ' H' ih' l' i g hr' e hl => by
    cases e
    exact ⟨g.frz _ _ _ eH, by rw [← Paired.length rs]; simpa [keysS] using hl⟩
theorem good_vals {K : PySem.W.Frag} {F ρ : List Addr} {H : Hp} {ih : Hh} {l : List (D × W)} {kvs : List (Key × V)} {a : Addr} {od : Obj} (hr : HR K T F ρ ih H) (eH : H a = some (.frz od (.dK kvs))) (rs : Paired (fun p q => Rk p.1 q.1 ∧ RW K F ρ H p.2 q.2) l kvs) :
    Good K T (Itd a od kvs) (fixS (l.map fun p => .w p.2)) F ρ H where
  goes := fun F' ρ' H' ih' l' i y g hr' e hy => by
    cases e
    have eH' := g.frz _ _ _ eH
    rw [List.getElem?_map, Option.map_eq_some_iff] at hy
    obtain ⟨x, hx, rfl⟩ := hy
    obtain ⟨kv, hk, _, rv⟩ := pget rs hx
    refine ⟨⟨eH', (List.getElem?_eq_some_iff.mp hk).1⟩, fun u H'' q => ?_⟩
    obtain ⟨rfl, k, q2⟩ := q
    rw [hk] at q2
    cases q2
    exact ⟨Grow.refl, hr', .w (rv.kp g.k fun _ _ h => g.get h)⟩
  stops := fun F' ρ' H' ih' l' i g hr' e hl => by
    cases e
    exact ⟨g.frz _ _ _ eH, by rw [← Paired.length rs]; simpa using hl⟩
theorem good_items {K : PySem.W.Frag} {F ρ : List Addr} {H : Hp} {ih : Hh} {l : List (D × W)} {kvs : List (Key × V)} {a : Addr} {od : Obj} (hr : HR K T F ρ ih H) (eH : H a = some (.frz od (.dK kvs))) (rs : Paired (fun p q => Rk p.1 q.1 ∧ RW K F ρ H p.2 q.2) l kvs) (z : l.all (fun p => okKey p.1) = true) :
    Good K T (Iti a od kvs) (fixS (l.map fun p => .t [.d p.1, p.2])) F ρ H where
  goes := fun F' ρ' H' ih' l' i y g hr' e hy => by
    cases e
    have eH' := g.frz _ _ _ eH
    rw [List.getElem?_map, Option.map_eq_some_iff] at hy
    obtain ⟨x, hx, rfl⟩ := hy
    obtain ⟨kv, hk, rk, rv⟩ := pget rs hx
    refine ⟨⟨eH', (List.getElem?_eq_some_iff.mp hk).1⟩, fun u H'' q => ?_⟩
    obtain ⟨p, k, v, q2, rfl, np, rfl⟩ := q
    rw [hk] at q2
    cases q2
    have zz := List.all_eq_true.mp z _ (List.mem_of_getElem? hx)
    exact pair_new hr' np (.d (rk_rp rk zz)) (rv.kp g.k fun _ _ h => g.get h)
  stops := fun F' ρ' H' ih' l' i g hr' e hl => by
    cases e
    exact ⟨g.frz _ _ _ eH, by rw [← Paired.length rs]; simpa using hl⟩
theorem fi_keys (h : FE X T Wx e c) : FI X T Wx tg e (cKeys c) := PI.imp (pi_keys h) fun σ H R q => by
  obtain ⟨F, ρ, ev, ih, hr, re, hp⟩ := q
  refine ⟨F, ρ, ev, ih, hr, re, hp.bind.mono fun ρ1 H1 ih1 w g1 hr1 hp1 v rv => ?_⟩
  split at hp1
  · rename_i n
    cases rv with | r hn =>
    split at hp1
    · rename_i l ho
      obtain ⟨u, eH, ro⟩ := hr1.at hn ho
      cases ro with | fk rs =>
      split at hp1
      · rename_i z
        exact ⟨_, _, rfl, .inl ⟨_, eH, hp1.ok hr1 _ (good_keys hr1 eH rs z)⟩⟩
      · exact hp1.elim
    · rename_i l ho
      obtain ⟨u, eH, ro⟩ := hr1.at hn ho
      cases ro with | ft rs =>
      split at hp1
      · rename_i z
        exact ⟨_, _, rfl, .inr ⟨_, eH, hp1.ok hr1 _ (good_keysT hr1 eH rs z)⟩⟩
      · exact hp1.elim
    · exact hp1.elim
  · exact hp1.elim
theorem fi_vals (h : FE X T Wx e c) (hbase : attributeBase e "values" X.env (eval e X.env) = eval e X.env := by rfl) (hline : (apos.endLine == cpos.line) = true := by rfl) : FI X T Wx tg (.Call (.Attribute e "values" apos) [] [] cpos) (cVals c) := PI.imp (pi_values h hbase hline) fun σ H R q => by
  obtain ⟨F, ρ, ev, ih, hr, re, hp⟩ := q
  refine ⟨F, ρ, ev, ih, hr, re, hp.bind.mono fun ρ1 H1 ih1 w g1 hr1 hp1 v rv => ?_⟩
  split at hp1
  · rename_i n
    cases rv with | r hn =>
    split at hp1
    · rename_i l ho
      obtain ⟨u, eH, ro⟩ := hr1.at hn ho
      cases ro with | fk rs =>
      exact ⟨_, _, _, rfl, eH, hp1.ok hr1 _ (good_vals hr1 eH rs)⟩
    · exact hp1.elim
  · exact hp1.elim
theorem fi_items {elts : List Expr} {kk : Nat} (h : FE X T Wx e c) (hbase : attributeBase e "items" X.env (eval e X.env) = eval e X.env := by rfl) (hline : (apos.endLine == cpos.line) = true := by rfl) : FI X T Wx (.Tuple elts kk tpos) (.Call (.Attribute e "items" apos) [] [] cpos) (cItems c) := PI.imp (pi_items h hbase hline) fun σ H R q => by
  obtain ⟨F, ρ, ev, ih, hr, re, hp⟩ := q
  refine ⟨F, ρ, ev, ih, hr, re, hp.bind.mono fun ρ1 H1 ih1 w g1 hr1 hp1 v rv => ?_⟩
  split at hp1
  · rename_i n
    cases rv with | r hn =>
    split at hp1
    · rename_i l ho
      obtain ⟨u, eH, ro⟩ := hr1.at hn ho
      cases ro with | fk rs =>
      split at hp1
      · rename_i z
        exact ⟨_, _, _, rfl, eH, hp1.ok hr1 _ (good_items hr1 eH rs z)⟩
      · exact hp1.elim
    · exact hp1.elim
  · exact hp1.elim
end
end Fz
set_option Elab.async false
set_option linter.all false
set_option maxRecDepth 100000
set_option maxHeartbeats 2000000
/-! Fz: plain laws: what a run ends with. -/
namespace Fz
/-- an expression ends with a value, by P, or with an exception, by E -/
def Ok {α : Type} (m : R α) (P : α → Hh → Prop) (E : Nat → W → Hh → Prop) : Prop := match m with
  | .ok a h => P a h
  | .ex c p h => E c p h
  | .no => False
/-- a statement ends, by Q -/
def Sk (m : SR) (Q : SR → Prop) : Prop := match m with
  | .no => False
  | m => Q m
abbrev noE : Nat → W → Hh → Prop := fun _ _ _ => False
section
variable {α β : Type} {m : R α} {a : α} {h : Hh} {e : Ev} {P P' : α → Hh → Prop} {E E' : Nat → W → Hh → Prop} {Q Q' : SR → Prop} {w p : W} {x y : Cs} {c : Nat}
@[simp] theorem ok_ok : Ok (.ok a h) P E = P a h := (rfl)
@[simp] theorem ok_ex : Ok (.ex c p h : R α) P E = E c p h := (rfl)
@[simp] theorem ok_no : Ok (.no : R α) P E = False := (rfl)
@[simp] theorem ok_bind {f : α → Hh → R β} {P : β → Hh → Prop} : Ok (m.bind f) P E = Ok m (fun a h => Ok (f a h) P E) E := by cases m <;> rfl
theorem Ok.mono (p : Ok m P E) (f : ∀ a h, P a h → P' a h) (g : ∀ c p h, E c p h → E' c p h) : Ok m P' E' := by
  cases m with
  | ok a h => exact f a h p
  | ex _ _ _ => exact g _ _ _ p
  | no => exact p
theorem Ok.get (p : Ok m P noE) : ∃ a h, m = .ok a h ∧ P a h := by
  cases m with
  | ok a h => exact ⟨a, h, rfl, p⟩
  | ex _ _ _ => exact p.elim
  | no => exact p.elim
@[simp] theorem sk_nx : Sk (.nx e h) Q = Q (.nx e h) := (rfl)
@[simp] theorem sk_rt : Sk (.rt w h) Q = Q (.rt w h) := (rfl)
@[simp] theorem sk_bk : Sk (.bk e h) Q = Q (.bk e h) := (rfl)
@[simp] theorem sk_ct : Sk (.ct e h) Q = Q (.ct e h) := (rfl)
@[simp] theorem sk_ex : Sk (.ex c p e h) Q = Q (.ex c p e h) := (rfl)
@[simp] theorem sk_no : Sk .no Q = False := (rfl)
/-- then -/
def Thn (f : Cs) (Q : SR → Prop) : SR → Prop
  | .nx e h => Sk (f e h) Q
  | r => Q r
@[simp] theorem thn_nx {f : Cs} : Thn f Q (.nx e h) = Sk (f e h) Q := (rfl)
@[simp] theorem thn_rt {f : Cs} : Thn f Q (.rt w h) = Q (.rt w h) := (rfl)
@[simp] theorem thn_bk {f : Cs} : Thn f Q (.bk e h) = Q (.bk e h) := (rfl)
@[simp] theorem thn_ct {f : Cs} : Thn f Q (.ct e h) = Q (.ct e h) := (rfl)
@[simp] theorem thn_ex {f : Cs} : Thn f Q (.ex c p e h) = Q (.ex c p e h) := (rfl)
@[simp] theorem sk_bind {r : SR} {f : Cs} : Sk (r.bind f) Q = Sk r (Thn f Q) := by cases r <;> rfl
@[simp] theorem sk_lift {f : α → Hh → SR} : Sk (lift m e f) Q = Ok m (fun a h => Sk (f a h) Q) (fun c p h => Q (.ex c p e h)) := by cases m <;> rfl
theorem Sk.mono {m : SR} (p : Sk m Q) (f : ∀ r, Q r → Q' r) : Sk m Q' := by
  cases m <;> first | exact p.elim | exact f _ p
/-- a def: its body's end -/
def Ret (P : W → Hh → Prop) (E : Nat → W → Hh → Prop) : SR → Prop
  | .rt w h => P w h
  | .nx _ h => P (.d .non) h
  | .ex c p _ h => E c p h
  | _ => False
@[simp] theorem ret_rt {P : W → Hh → Prop} : Ret P E (.rt w h) = P w h := (rfl)
@[simp] theorem ret_nx {P : W → Hh → Prop} : Ret P E (.nx e h) = P (.d .non) h := (rfl)
@[simp] theorem ret_ex {P : W → Hh → Prop} : Ret P E (.ex c p e h) = E c p h := (rfl)
theorem ok_fn {n N : Nat} {b : Cs} {ws : List W} {P : W → Hh → Prop} (hw : ws.length = n) (q : Sk (b (ws.map some ++ List.replicate (N - n) none) h) (Ret P E)) : Ok (mkFn n N b ws h) P E := by
  unfold mkFn
  first | rw [if_pos hw] | skip
  revert q
  generalize b (ws.map some ++ List.replicate (N - n) none) h = r
  cases r <;> exact fun q => q
end
/-! ### loops -/
section
variable {t : Cy} {b : Cs} {ci : Ci} {e : Ev} {h : Hh} {Q : SR → Prop} {l : List Y}
/-- the end of a loop's turn: the next one, by I; out, by Q -/
def Turn' (I : Ev → Hh → Prop) (Q : SR → Prop) : SR → Prop
  | .nx e h => I e h
  | .ct e h => I e h
  | .bk e h => Q (.nx e h)
  | .rt w h => Q (.rt w h)
  | .ex c p e h => Q (.ex c p e h)
  | .no => False
@[simp] theorem turn_nx {I : Ev → Hh → Prop} : Turn' I Q (.nx e h) = I e h := (rfl)
@[simp] theorem turn_ct {I : Ev → Hh → Prop} : Turn' I Q (.ct e h) = I e h := (rfl)
@[simp] theorem turn_bk {I : Ev → Hh → Prop} : Turn' I Q (.bk e h) = Q (.nx e h) := (rfl)
@[simp] theorem turn_rt {I : Ev → Hh → Prop} {w : W} : Turn' I Q (.rt w h) = Q (.rt w h) := (rfl)
@[simp] theorem turn_ex {I : Ev → Hh → Prop} {c : Nat} {p : W} : Turn' I Q (.ex c p e h) = Q (.ex c p e h) := (rfl)
theorem forL_inv (I : Nat → Ev → Hh → Prop) : ∀ (l : List Y) (k : Nat) (e : Ev) (h : Hh), I k e h → (∀ j y e h, l[j]? = some y → I (k + j) e h → ∃ e1, t y e h = some e1 ∧ Sk (b e1 h) (Turn' (I (k + j + 1)) Q)) → (∀ e h, I (k + l.length) e h → Q (.nx e h)) → Sk (forL t b l e h) Q
  | [], k, e, h, i, _, f => f e h i
  | y :: ys, k, e, h, i, s, f => by
    obtain ⟨e1, a1, a2⟩ := s 0 y e h rfl i
    unfold forL
    rw [a1]
    dsimp only
    have nxt : ∀ e2 h2, I (k + 1) e2 h2 → Sk (forL t b ys e2 h2) Q := fun e2 h2 i2 => forL_inv I ys (k + 1) e2 h2 i2 (fun j y e h hj ij => by
      have := s (j + 1) y e h (by simpa using hj) (by rw [show k + (j + 1) = k + 1 + j by omega]; exact ij)
      rw [show k + (j + 1) + 1 = k + 1 + j + 1 by omega] at this
      exact this) (fun e h ie => f e h (by rw [List.length_cons, show k + (ys.length + 1) = k + 1 + ys.length by omega]; exact ie))
    cases hb : b e1 h with
    | no => rw [hb] at a2; exact a2.elim
    | nx e2 h2 => rw [hb] at a2; exact nxt e2 h2 a2
    | ct e2 h2 => rw [hb] at a2; exact nxt e2 h2 a2
    | bk e2 h2 => rw [hb] at a2; exact a2
    | rt w h2 => rw [hb] at a2; exact a2
    | ex c p e2 h2 => rw [hb] at a2; exact a2
/-- a loop over fixed items, by an invariant -/
theorem sk_for (I : Nat → Ev → Hh → Prop) {h' : Hh} (hc : ci e h = .ok (fixS l) h') (i0 : I 0 e h') (st : ∀ j y e h, l[j]? = some y → I j e h → ∃ e1, t y e h = some e1 ∧ Sk (b e1 h) (Turn' (I (j + 1)) Q)) (en : ∀ e h, I l.length e h → Q (.nx e h)) : Sk (sFor ci t b e h) Q := by
  rw [sFor_fix hc]
  refine forL_inv I l 0 e h' i0 (fun j y e h hj ij => ?_) fun e h ie => en e h (by rw [← Nat.zero_add l.length]; exact ie)
  rw [Nat.zero_add] at ij ⊢
  exact st j y e h hj ij
/-- range(n) -/
theorem r1_at {a : Ca} {n : Int} {h' : Hh} (ha : a e h = .ok [.d (.int n)] h') (hn : 0 ≤ n ∧ n < 2 ^ 62) : cR1 a e h = .ok (fixS ((List.range n.toNat).map fun (i : Nat) => .w (.d (.int (i : Nat))))) h' := by
  unfold cR1
  rw [ha, R.bind_ok]
  dsimp only
  rw [if_pos (by omega)]
  unfold rngS
  simp
theorem it_tup {c : Cd} {l : List D} {h' : Hh} (hc : c e h = .ok (.d (.tup l)) h') : cIt c e h = .ok (fixS (l.map fun x => .w (.d x))) h' := by unfold cIt; rw [hc]; rfl
theorem it_lst {c : Cd} {l : List D} {h' : Hh} (hc : c e h = .ok (.d (.lst l)) h') : cIt c e h = .ok (fixS (l.map fun x => .w (.d x))) h' := by unfold cIt; rw [hc]; rfl
theorem en_tup {c : Cd} {l : List D} {h' : Hh} (hc : c e h = .ok (.d (.tup l)) h') : cEn c e h = .ok (fixS (enY 0 (l.map .d))) h' := by unfold cEn; rw [hc]; rfl
/-- a comprehension that leaves the heap -/
theorem lc_pure {α : Type} {mt : Bool} {vs : List Nat} {q : Cb} {c : Cd} {h' : Hh} (l : List α) (y : α → Y) (f : α → Bool) (g : α → W) (hc : ci e h = .ok (fixS (l.map y)) h') (hl : l.length ≤ 16777216)
    (hy : ∀ x ∈ l, ∃ e1, t (y x) (ew e vs) h' = some e1 ∧ q e1 h' = .ok (f x) h' ∧ (f x = true → c e1 h' = .ok (g x) h')) : cLc mt vs ci t q c e h = fin mt ((l.filter f).map g) h' := by
  rw [cLc_fix hc]
  have key : ∀ (l : List α) (acc : List W), acc.length + l.length ≤ 16777216 → (∀ x ∈ l, ∃ e1, t (y x) (ew e vs) h' = some e1 ∧ q e1 h' = .ok (f x) h' ∧ (f x = true → c e1 h' = .ok (g x) h')) →
      lcL t q c (ew e vs) (l.map y) acc h' = .ok (acc ++ (l.filter f).map g) h' := by
    intro l
    induction l with
    | nil => intro acc _ _; simp [lcL]
    | cons x l ih =>
      intro acc hl hy
      obtain ⟨e1, a1, a2, a3⟩ := hy x (by simp)
      rw [List.length_cons] at hl
      rw [List.map_cons]
      unfold lcL
      rw [a1]
      dsimp only
      rw [a2, R.bind_ok]
      cases hf : f x with
      | true =>
        rw [if_pos rfl, a3 hf, R.bind_ok, if_pos (by omega), ih _ (by simp; omega) fun z hz => hy z (by simp [hz])]
        simp [hf]
      | false =>
        rw [if_neg Bool.false_ne_true, ih _ (by omega) fun z hz => hy z (by simp [hz])]
        simp [hf]
  rw [key l [] (by simpa using hl) hy]
  rfl
theorem fin_d {l : List D} (hl : l.length ≤ 16777216) : fin false (l.map .d) h = .ok (.d (.lst l)) h := by
  unfold fin
  rw [if_neg Bool.false_ne_true]
  unfold mkL
  rw [allD_map]
  dsimp only
  rw [if_pos (Nat.le_trans hl (by decide))]
/-- .. with data alone -/
theorem lc_d {α : Type} {vs : List Nat} {q : Cb} {c : Cd} {h' : Hh} (l : List α) (y : α → Y) (f : α → Bool) (g : α → D) (hc : ci e h = .ok (fixS (l.map y)) h') (hl : l.length ≤ 16777216)
    (hy : ∀ x ∈ l, ∃ e1, t (y x) (ew e vs) h' = some e1 ∧ q e1 h' = .ok (f x) h' ∧ (f x = true → c e1 h' = .ok (.d (g x)) h')) : cLc false vs ci t q c e h = .ok (.d (.lst ((l.filter f).map g))) h' := by
  rw [lc_pure (mt := false) l y f (fun x => .d (g x)) hc hl hy]
  have e1 : (l.filter f).map (fun x => W.d (g x)) = ((l.filter f).map g).map .d := by rw [List.map_map]; rfl
  rw [e1]
  exact fin_d (by rw [List.length_map]; exact Nat.le_trans (List.length_filter_le _ _) hl)
end
/-! ### places -/
section
variable {x y z u : D} {l : List D} {h : Hh}
@[simp] theorem ixt0 : opIx (.d (.tup (x :: l))) (.d (.int 0)) h = .ok (.d x) h := ix_t (j := 0) rfl
@[simp] theorem ixt1 : opIx (.d (.tup (x :: y :: l))) (.d (.int 1)) h = .ok (.d y) h := ix_t (j := 1) rfl
@[simp] theorem ixt2 : opIx (.d (.tup (x :: y :: z :: l))) (.d (.int 2)) h = .ok (.d z) h := ix_t (j := 2) rfl
@[simp] theorem ixt3 : opIx (.d (.tup (x :: y :: z :: u :: l))) (.d (.int 3)) h = .ok (.d u) h := ix_t (j := 3) rfl
@[simp] theorem ixl0 : opIx (.d (.lst (x :: l))) (.d (.int 0)) h = .ok (.d x) h := ix_l (j := 0) rfl
@[simp] theorem ixl1 : opIx (.d (.lst (x :: y :: l))) (.d (.int 1)) h = .ok (.d y) h := ix_l (j := 1) rfl
@[simp] theorem ixl2 : opIx (.d (.lst (x :: y :: z :: l))) (.d (.int 2)) h = .ok (.d z) h := ix_l (j := 2) rfl
@[simp] theorem ixl3 : opIx (.d (.lst (x :: y :: z :: u :: l))) (.d (.int 3)) h = .ok (.d u) h := ix_l (j := 3) rfl
@[simp] theorem ixl4 {a b c d e : D} : opIx (.d (.lst (a :: b :: c :: d :: e :: l))) (.d (.int 4)) h = .ok (.d e) h := ix_l (j := 4) rfl
@[simp] theorem ixl5 {a b c d e f : D} : opIx (.d (.lst (a :: b :: c :: d :: e :: f :: l))) (.d (.int 5)) h = .ok (.d f) h := ix_l (j := 5) rfl
@[simp] theorem ixl6 {a b c d e f g : D} : opIx (.d (.lst (a :: b :: c :: d :: e :: f :: g :: l))) (.d (.int 6)) h = .ok (.d g) h := ix_l (j := 6) rfl
theorem mulI {h : Hh} {n m : Int} (hm : -(2 ^ 64) < m ∧ m < 2 ^ 64) : opMul false (.d (.int n)) (.d (.int m)) h = .ok (.d (.int (n * m))) h := by
  unfold opMul
  dsimp only
  rw [if_pos (.inr hm)]
@[simp] theorem yn_at {i : Nat} {w : W} {e : Ev} : yN (tN i) (.w w) e h = some (e.set i (some w)) := (rfl)
@[simp] theorem yt_at {tb : Cts} {ws : List W} {e : Ev} : yT tb (.t ws) e h = tb ws e h := (rfl)
@[simp] theorem mkT_d (hl : l.length ≤ 1000) : mkT (l.map .d) h = .ok (.d (.tup l)) h := by
  unfold mkT
  rw [allD_map]
  dsimp only
  rw [if_pos (by have : (1000 : Nat) ≤ PySem.sizeLine := by decide
                 omega)]
end
/-! ### draws -/
/-- the law's state: its numbers, what is left of one, where it is, a seed -/
def St (ns : List Int) (a b s : Int) (rest : List W) : O := .lst (.d (.lst (ns.map .int)) :: .d (.int a) :: .d (.int b) :: .d (.int s) :: rest)
section
variable {ns : List Int} {a b s x : Int} {rest : List W} {t : Hh} {P : W → Hh → Prop} {E : Nat → W → Hh → Prop}
theorem st0 : opIx (.r 0) (.d (.int 0)) (St ns a b s rest :: t) = .ok (.d (.lst (ns.map .int))) (St ns a b s rest :: t) := ix_r (j := 0) rfl rfl
theorem st1 : opIx (.r 0) (.d (.int 1)) (St ns a b s rest :: t) = .ok (.d (.int a)) (St ns a b s rest :: t) := ix_r (j := 1) rfl rfl
theorem st2 : opIx (.r 0) (.d (.int 2)) (St ns a b s rest :: t) = .ok (.d (.int b)) (St ns a b s rest :: t) := ix_r (j := 2) rfl rfl
theorem st3 : opIx (.r 0) (.d (.int 3)) (St ns a b s rest :: t) = .ok (.d (.int s)) (St ns a b s rest :: t) := ix_r (j := 3) rfl rfl
theorem su1 : setAt (.r 0) (.d (.int 1)) (.d (.int x)) (St ns a b s rest :: t) = some (St ns x b s rest :: t) := set_r (j := 1) (l := .d (.lst (ns.map .int)) :: .d (.int a) :: .d (.int b) :: .d (.int s) :: rest) rfl (by simp)
theorem su2 : setAt (.r 0) (.d (.int 2)) (.d (.int x)) (St ns a b s rest :: t) = some (St ns a x s rest :: t) := set_r (j := 2) (l := .d (.lst (ns.map .int)) :: .d (.int a) :: .d (.int b) :: .d (.int s) :: rest) rfl (by simp)
theorem su3 : setAt (.r 0) (.d (.int 3)) (.d (.int x)) (St ns a b s rest :: t) = some (St ns a b x rest :: t) := set_r (j := 3) (l := .d (.lst (ns.map .int)) :: .d (.int a) :: .d (.int b) :: .d (.int s) :: rest) rfl (by simp)
/-- _law_draw -/
def drawC : Cs := (sSeq (sIf (bAnd (bC (opEq false) (c2 opIx (cv 0) (cc (.int 1))) (cc (.int 0))) (bC opGe (c2 opIx (cv 0) (cc (.int 2))) (cCl biLen (aCons (c2 opIx (cv 0) (cc (.int 0))) aNil))))
    (sSeq (sSet (c2 opMod (cCl biInt (aCons (c2 (opAdd false) (c2 (opMul false) (c2 opIx (cv 0) (cc (.int 3))) (cc (.int 48271))) (cc (.int 69621))) aNil)) (cc (.int 2147483629))) (cv 0) (cc (.int 3)))
    (sRet (c2 opMod (cCl biInt (aCons (c2 opFdiv (c2 opIx (cv 0) (cc (.int 3))) (cc (.int 13))) aNil)) (cv 1))))
    sNx)
    (sSeq (sIf (bC (opEq false) (c2 opIx (cv 0) (cc (.int 1))) (cc (.int 0)))
    (sSeq (sSet (cCl biAbs (aCons (c2 opIx (c2 opIx (cv 0) (cc (.int 0))) (c2 opIx (cv 0) (cc (.int 2)))) aNil)) (cv 0) (cc (.int 1)))
    (sSet (c2 (opAdd false) (c2 opIx (cv 0) (cc (.int 2))) (cc (.int 1))) (cv 0) (cc (.int 2))))
    sNx)
    (sSeq (sAsg (c2 opMod (cCl biInt (aCons (c2 opIx (cv 0) (cc (.int 1))) aNil)) (cv 1)) (tN 2))
    (sSeq (sSet (c2 opFdiv (c2 opIx (cv 0) (cc (.int 1))) (cv 1)) (cv 0) (cc (.int 1)))
    (sRet (cv 2))))))
theorem draw_at {m : Int} (ha : 0 ≤ a) (hb : 0 ≤ b) (hm : 0 < m ∧ m < 1073741824) : ∃ v a' b' s', mkFn 2 3 drawC [.r 0, .d (.int m)] (St ns a b s rest :: t) = .ok (.d (.int v)) (St ns a' b' s' rest :: t) ∧ 0 ≤ v ∧ v < m ∧ 0 ≤ a' ∧ 0 ≤ b' := by
  by_cases q : a = 0 ∧ b ≥ ns.length
  · obtain ⟨rfl, q⟩ := q
    refine ⟨(s * 48271 + 69621) % 2147483629 / 13 % m, 0, b, (s * 48271 + 69621) % 2147483629, ?_, Int.emod_nonneg _ (by omega), Int.emod_lt_of_pos _ hm.1, by omega, hb⟩
    simp [mkFn, drawC, st0, st1, st2, st3, su3, q, mulI, hm.1]
  · by_cases q2 : a = 0
    · subst q2
      have hlt : b < ns.length := by
        rcases Int.lt_or_le b ns.length with h | h
        · exact h
        · exact absurd ⟨rfl, h⟩ q
      obtain ⟨j, rfl⟩ := Int.eq_ofNat_of_zero_le hb
      have hj : j < ns.length := by omega
      have e0 : opIx (.d (.lst (ns.map .int))) (.d (.int (j : Int))) (St ns 0 j s rest :: t) = .ok (.d (.int ns[j])) (St ns 0 j s rest :: t) := ix_l (by rw [List.getElem?_map, List.getElem?_eq_getElem hj]; rfl)
      have hab : 0 ≤ (if ns[j] < 0 then -ns[j] else ns[j]) := by split <;> omega
      generalize hz : (if ns[j] < 0 then -ns[j] else ns[j]) = z at *
      refine ⟨z % m, z / m, (j : Int) + 1, s, ?_, Int.emod_nonneg _ (by omega), Int.emod_lt_of_pos _ hm.1, Int.ediv_nonneg hab (by omega), by omega⟩
      simp [mkFn, drawC, st0, st1, st2, st3, su1, su2, show ¬ ns.length ≤ j by omega, e0, hz, hm]
    · refine ⟨a % m, a / m, b, s, ?_, Int.emod_nonneg _ (by omega), Int.emod_lt_of_pos _ hm.1, Int.ediv_nonneg ha (by omega), hb⟩
      simp [mkFn, drawC, st0, st1, st2, st3, su1, q2, hm]
theorem draw_ok {m : Int} (ha : 0 ≤ a) (hb : 0 ≤ b) (hm : 0 < m ∧ m < 1073741824) (p : ∀ v a' b' s', 0 ≤ v → v < m → 0 ≤ a' → 0 ≤ b' → P (.d (.int v)) (St ns a' b' s' rest :: t)) : Ok (mkFn 2 3 drawC [.r 0, .d (.int m)] (St ns a b s rest :: t)) P E := by
  obtain ⟨v, a', b', s', e, h1, h2, h3, h4⟩ := draw_at (ns := ns) (s := s) (rest := rest) (t := t) ha hb hm
  rw [e]
  exact p v a' b' s' h1 h2 h3 h4
/-- _law_pick -/
def pickC (d : Fn) : Cs := (sRet (c2 opIx (cv 1) (cCall false 2 d (aCons (cv 0) (aCons (cCl biLen (aCons (cv 1) aNil)) aNil)))))
theorem pick_l {l : List D} (ha : 0 ≤ a) (hb : 0 ≤ b) (hl : 0 < l.length ∧ l.length < 1073741824) (p : ∀ x a' b' s', x ∈ l → 0 ≤ a' → 0 ≤ b' → P (.d x) (St ns a' b' s' rest :: t)) : Ok (mkFn 2 2 (pickC (mkFn 2 3 drawC)) [.r 0, .d (.lst l)] (St ns a b s rest :: t)) P E := by
  obtain ⟨v, a', b', s', e, h1, h2, h3, h4⟩ := draw_at (ns := ns) (s := s) (rest := rest) (t := t) (m := l.length) ha hb (by omega)
  obtain ⟨j, rfl⟩ := Int.eq_ofNat_of_zero_le h1
  have hj : j < l.length := by omega
  have e0 : opIx (.d (.lst l)) (.d (.int (j : Int))) (St ns a' b' s' rest :: t) = .ok (.d l[j]) (St ns a' b' s' rest :: t) := ix_l (List.getElem?_eq_getElem hj)
  have e1 : mkFn 2 2 (pickC (mkFn 2 3 drawC)) [.r 0, .d (.lst l)] (St ns a b s rest :: t) = .ok (.d l[j]) (St ns a' b' s' rest :: t) := by
    generalize hd : mkFn 2 3 drawC = dd at e ⊢
    simp [mkFn, pickC, e, e0]
  rw [e1]
  exact p _ _ _ _ (List.getElem_mem hj) h3 h4
theorem pick_t {l : List D} (ha : 0 ≤ a) (hb : 0 ≤ b) (hl : 0 < l.length ∧ l.length < 1073741824) (p : ∀ x a' b' s', x ∈ l → 0 ≤ a' → 0 ≤ b' → P (.d x) (St ns a' b' s' rest :: t)) : Ok (mkFn 2 2 (pickC (mkFn 2 3 drawC)) [.r 0, .d (.tup l)] (St ns a b s rest :: t)) P E := by
  obtain ⟨v, a', b', s', e, h1, h2, h3, h4⟩ := draw_at (ns := ns) (s := s) (rest := rest) (t := t) (m := l.length) ha hb (by omega)
  obtain ⟨j, rfl⟩ := Int.eq_ofNat_of_zero_le h1
  have hj : j < l.length := by omega
  have e0 : opIx (.d (.tup l)) (.d (.int (j : Int))) (St ns a' b' s' rest :: t) = .ok (.d l[j]) (St ns a' b' s' rest :: t) := ix_t (List.getElem?_eq_getElem hj)
  have e1 : mkFn 2 2 (pickC (mkFn 2 3 drawC)) [.r 0, .d (.tup l)] (St ns a b s rest :: t) = .ok (.d l[j]) (St ns a' b' s' rest :: t) := by
    generalize hd : mkFn 2 3 drawC = dd at e ⊢
    simp [mkFn, pickC, e, e0]
  rw [e1]
  exact p _ _ _ _ (List.getElem_mem hj) h3 h4
/-- .. from a list that changes -/
theorem pick_r {n : Nat} {l : List W} (hn : t[n]? = some (.lst l)) (ha : 0 ≤ a) (hb : 0 ≤ b) (hl : 0 < l.length ∧ l.length < 1073741824) (p : ∀ x a' b' s', x ∈ l → 0 ≤ a' → 0 ≤ b' → P x (St ns a' b' s' rest :: t)) : Ok (mkFn 2 2 (pickC (mkFn 2 3 drawC)) [.r 0, .r (n + 1)] (St ns a b s rest :: t)) P E := by
  obtain ⟨v, a', b', s', e, h1, h2, h3, h4⟩ := draw_at (ns := ns) (s := s) (rest := rest) (t := t) (m := l.length) ha hb (by omega)
  obtain ⟨j, rfl⟩ := Int.eq_ofNat_of_zero_le h1
  have hj : j < l.length := by omega
  have e0 : opIx (.r (n + 1)) (.d (.int (j : Int))) (St ns a' b' s' rest :: t) = .ok l[j] (St ns a' b' s' rest :: t) := ix_r (l := l) (by simpa using hn) (List.getElem?_eq_getElem hj)
  have e2 : biLen [.r (n + 1)] (St ns a b s rest :: t) = .ok (.d (.int l.length)) (St ns a b s rest :: t) := by simp [biLen, lenW, hn]
  have e1 : mkFn 2 2 (pickC (mkFn 2 3 drawC)) [.r 0, .r (n + 1)] (St ns a b s rest :: t) = .ok l[j] (St ns a' b' s' rest :: t) := by
    generalize hd : mkFn 2 3 drawC = dd at e ⊢
    simp [mkFn, pickC, e, e0, e2]
  rw [e1]
  exact p _ _ _ _ (List.getElem_mem hj) h3 h4
/-- _law_start -/
def startB : Cs := (sAsg (c2 (opAdd false) (c2 opMod (cCl biInt (aCons (c2 (opAdd false) (c2 (opMul false) (cv 1) (cc (.int 48271))) (cv 2)) aNil)) (cc (.int 2147483629))) (cc (.int 1))) (tN 1))
def startC : Cs := (sSeq (sAsg (cc (.int 7)) (tN 1))
    (sSeq (sFor (cIt (cv 0)) (yN (tN 2))
    startB)
    (sRet (cCl mkM (aCons (cCl (biList false) (aCons (cv 0) aNil)) (aCons (cc (.int 0)) (aCons (cc (.int 0)) (aCons (cv 1) aNil))))))))
theorem start_ok (hn : ns.length ≤ 63) (p : ∀ s, P (.r 0) [St ns 0 0 s []]) : Ok (mkFn 1 3 startC [scr ns] []) P E := by
  refine ok_fn rfl ?_
  simp only [startC, z_seq, sk_bind, z_asg, z_cc, lift_ok, z_tN, sk_nx, thn_nx, List.map, List.replicate, List.cons_append, List.nil_append, List.set_cons_succ, List.set_cons_zero]
  refine sk_for (I := fun _ e h => h = [] ∧ ∃ s x2, e = [some (scr ns), some (.d (.int s)), x2]) (it_lst (l := ns.map .int) rfl) ⟨rfl, _, _, rfl⟩ (fun j y e h hj i => ?_) fun e h i => ?_
  · obtain ⟨rfl, s, x2, rfl⟩ := i
    rw [List.map_map, List.getElem?_map, Option.map_eq_some_iff] at hj
    obtain ⟨c, _, rfl⟩ := hj
    refine ⟨_, rfl, ?_⟩
    simp [startB, mulI]
  · obtain ⟨rfl, s, x2, rfl⟩ := i
    have el : biList false [scr ns] [] = .ok (scr ns) [] := by
      unfold scr biList
      simp only [seqW, lstW, fin, mkL, allD_map]
      rw [if_neg Bool.false_ne_true, if_pos (by simp; omega)]
    simp [el, mkM]
    exact p s
end

/-! ### _law_asked -/
def asked (cs : List Nat) (su : Nat → D → Option D) (m : R W) : R W := match m with
  | .ok (.d y) h => .ok (.d (.lst [y])) h
  | .ex c (.d p) h => if cs.contains c && smD p then match su c p with
    | some y => .ok (.d y) h
    | none => .no else .no
  | _ => .no
section
variable {cs : List Nat} {su : Nat → D → Option D} {t1 t2 t3 t4 t5 t6 t7 : List Nat → Option (Bool × Fn)} {q : List Nat} {g : Fn} {h : Hh} {x1 x2 x3 x4 x5 x6 x7 : D}
def askC7 (cs : List Nat) (su : Nat → D → Option D) (t1 t2 t3 t4 t5 t6 t7 : List Nat → Option (Bool × Fn)) : Cs := (sTry 2 cs (sSeq (sIf (bC opLt (cCl biLen (aCons (cv 1) aNil)) (cc (.int 3)))
    (sRet (cIf (bC (opEq false) (cCl biLen (aCons (cv 1) aNil)) (cc (.int 1))) (cCl mkL (aCons (cCallV 0 1 t1 (aCons (c2 opIx (cv 1) (cc (.int 0))) aNil)) aNil)) (cCl mkL (aCons (cCallV 0 2 t2 (aCons (c2 opIx (cv 1) (cc (.int 0))) (aCons (c2 opIx (cv 1) (cc (.int 1))) aNil))) aNil))))
    sNx)
    (sSeq (sIf (bC opLt (cCl biLen (aCons (cv 1) aNil)) (cc (.int 5)))
    (sRet (cIf (bC (opEq false) (cCl biLen (aCons (cv 1) aNil)) (cc (.int 3))) (cCl mkL (aCons (cCallV 0 3 t3 (aCons (c2 opIx (cv 1) (cc (.int 0))) (aCons (c2 opIx (cv 1) (cc (.int 1))) (aCons (c2 opIx (cv 1) (cc (.int 2))) aNil)))) aNil)) (cCl mkL (aCons (cCallV 0 4 t4 (aCons (c2 opIx (cv 1) (cc (.int 0))) (aCons (c2 opIx (cv 1) (cc (.int 1))) (aCons (c2 opIx (cv 1) (cc (.int 2))) (aCons (c2 opIx (cv 1) (cc (.int 3))) aNil))))) aNil))))
    sNx)
    (sSeq (sIf (bC (opEq false) (cCl biLen (aCons (cv 1) aNil)) (cc (.int 5)))
    (sRet (cCl mkL (aCons (cCallV 0 5 t5 (aCons (c2 opIx (cv 1) (cc (.int 0))) (aCons (c2 opIx (cv 1) (cc (.int 1))) (aCons (c2 opIx (cv 1) (cc (.int 2))) (aCons (c2 opIx (cv 1) (cc (.int 3))) (aCons (c2 opIx (cv 1) (cc (.int 4))) aNil)))))) aNil)))
    sNx)
    (sSeq (sIf (bC (opEq false) (cCl biLen (aCons (cv 1) aNil)) (cc (.int 6)))
    (sRet (cCl mkL (aCons (cCallV 0 6 t6 (aCons (c2 opIx (cv 1) (cc (.int 0))) (aCons (c2 opIx (cv 1) (cc (.int 1))) (aCons (c2 opIx (cv 1) (cc (.int 2))) (aCons (c2 opIx (cv 1) (cc (.int 3))) (aCons (c2 opIx (cv 1) (cc (.int 4))) (aCons (c2 opIx (cv 1) (cc (.int 5))) aNil))))))) aNil)))
    sNx)
    (sRet (cCl mkL (aCons (cCallV 0 7 t7 (aCons (c2 opIx (cv 1) (cc (.int 0))) (aCons (c2 opIx (cv 1) (cc (.int 1))) (aCons (c2 opIx (cv 1) (cc (.int 2))) (aCons (c2 opIx (cv 1) (cc (.int 3))) (aCons (c2 opIx (cv 1) (cc (.int 4))) (aCons (c2 opIx (cv 1) (cc (.int 5))) (aCons (c2 opIx (cv 1) (cc (.int 6))) aNil)))))))) aNil)))))))
    su)
theorem pure_cases (g : Fn) (ws : List W) (h : Hh) : (∃ y, pure' g ws h = .ok (.d y) h) ∨ (∃ c y, pure' g ws h = .ex c (.d y) h) ∨ pure' g ws h = .no := by
  unfold pure'
  cases allD ws with
  | none => exact .inr (.inr rfl)
  | some _ =>
    dsimp only
    cases g ws [] with
    | no => exact .inr (.inr rfl)
    | ok w h' => cases w with
      | d y => exact .inl ⟨y, rfl⟩
      | r n => exact .inr (.inr rfl)
      | f n => exact .inr (.inr rfl)
    | ex c w h' => cases w with
      | d y => exact .inr (.inl ⟨c, y, rfl⟩)
      | r n => exact .inr (.inr rfl)
      | f n => exact .inr (.inr rfl)
theorem mkL1 {y : D} : mkL [.d y] h = .ok (.d (.lst [y])) h := rfl
theorem ask7_1 (ht : t1 q = some (true, g)) : mkFn 2 3 (askC7 cs su t1 t2 t3 t4 t5 t6 t7) [.f q, .d (.lst [x1])] h = asked cs su (pure' g [.d x1] h) := by
  rcases pure_cases g [.d x1] h with ⟨y, e⟩ | ⟨c, y, e⟩ | e
  · simp [mkFn, askC7, sTry, cCallV, ht, e, asked, mkL1]
  · simp [mkFn, askC7, sTry, cCallV, ht, e, asked]
    by_cases hc : c ∈ cs ∧ smD y = true
    · rw [if_pos hc, if_pos hc]; cases su c y <;> rfl
    · rw [if_neg hc, if_neg hc]
  · simp [mkFn, askC7, sTry, cCallV, ht, e, asked]
theorem ask7_2 (ht : t2 q = some (true, g)) : mkFn 2 3 (askC7 cs su t1 t2 t3 t4 t5 t6 t7) [.f q, .d (.lst [x1, x2])] h = asked cs su (pure' g [.d x1, .d x2] h) := by
  rcases pure_cases g [.d x1, .d x2] h with ⟨y, e⟩ | ⟨c, y, e⟩ | e
  · simp [mkFn, askC7, sTry, cCallV, ht, e, asked, mkL1]
  · simp [mkFn, askC7, sTry, cCallV, ht, e, asked]
    by_cases hc : c ∈ cs ∧ smD y = true
    · rw [if_pos hc, if_pos hc]; cases su c y <;> rfl
    · rw [if_neg hc, if_neg hc]
  · simp [mkFn, askC7, sTry, cCallV, ht, e, asked]
theorem ask7_3 (ht : t3 q = some (true, g)) : mkFn 2 3 (askC7 cs su t1 t2 t3 t4 t5 t6 t7) [.f q, .d (.lst [x1, x2, x3])] h = asked cs su (pure' g [.d x1, .d x2, .d x3] h) := by
  rcases pure_cases g [.d x1, .d x2, .d x3] h with ⟨y, e⟩ | ⟨c, y, e⟩ | e
  · simp [mkFn, askC7, sTry, cCallV, ht, e, asked, mkL1]
  · simp [mkFn, askC7, sTry, cCallV, ht, e, asked]
    by_cases hc : c ∈ cs ∧ smD y = true
    · rw [if_pos hc, if_pos hc]; cases su c y <;> rfl
    · rw [if_neg hc, if_neg hc]
  · simp [mkFn, askC7, sTry, cCallV, ht, e, asked]
theorem ask7_4 (ht : t4 q = some (true, g)) : mkFn 2 3 (askC7 cs su t1 t2 t3 t4 t5 t6 t7) [.f q, .d (.lst [x1, x2, x3, x4])] h = asked cs su (pure' g [.d x1, .d x2, .d x3, .d x4] h) := by
  rcases pure_cases g [.d x1, .d x2, .d x3, .d x4] h with ⟨y, e⟩ | ⟨c, y, e⟩ | e
  · simp [mkFn, askC7, sTry, cCallV, ht, e, asked, mkL1]
  · simp [mkFn, askC7, sTry, cCallV, ht, e, asked]
    by_cases hc : c ∈ cs ∧ smD y = true
    · rw [if_pos hc, if_pos hc]; cases su c y <;> rfl
    · rw [if_neg hc, if_neg hc]
  · simp [mkFn, askC7, sTry, cCallV, ht, e, asked]
theorem ask7_5 (ht : t5 q = some (true, g)) : mkFn 2 3 (askC7 cs su t1 t2 t3 t4 t5 t6 t7) [.f q, .d (.lst [x1, x2, x3, x4, x5])] h = asked cs su (pure' g [.d x1, .d x2, .d x3, .d x4, .d x5] h) := by
  rcases pure_cases g [.d x1, .d x2, .d x3, .d x4, .d x5] h with ⟨y, e⟩ | ⟨c, y, e⟩ | e
  · simp [mkFn, askC7, sTry, cCallV, ht, e, asked, mkL1]
  · simp [mkFn, askC7, sTry, cCallV, ht, e, asked]
    by_cases hc : c ∈ cs ∧ smD y = true
    · rw [if_pos hc, if_pos hc]; cases su c y <;> rfl
    · rw [if_neg hc, if_neg hc]
  · simp [mkFn, askC7, sTry, cCallV, ht, e, asked]
theorem ask7_6 (ht : t6 q = some (true, g)) : mkFn 2 3 (askC7 cs su t1 t2 t3 t4 t5 t6 t7) [.f q, .d (.lst [x1, x2, x3, x4, x5, x6])] h = asked cs su (pure' g [.d x1, .d x2, .d x3, .d x4, .d x5, .d x6] h) := by
  rcases pure_cases g [.d x1, .d x2, .d x3, .d x4, .d x5, .d x6] h with ⟨y, e⟩ | ⟨c, y, e⟩ | e
  · simp [mkFn, askC7, sTry, cCallV, ht, e, asked, mkL1]
  · simp [mkFn, askC7, sTry, cCallV, ht, e, asked]
    by_cases hc : c ∈ cs ∧ smD y = true
    · rw [if_pos hc, if_pos hc]; cases su c y <;> rfl
    · rw [if_neg hc, if_neg hc]
  · simp [mkFn, askC7, sTry, cCallV, ht, e, asked]
theorem ask7_7 (ht : t7 q = some (true, g)) : mkFn 2 3 (askC7 cs su t1 t2 t3 t4 t5 t6 t7) [.f q, .d (.lst [x1, x2, x3, x4, x5, x6, x7])] h = asked cs su (pure' g [.d x1, .d x2, .d x3, .d x4, .d x5, .d x6, .d x7] h) := by
  rcases pure_cases g [.d x1, .d x2, .d x3, .d x4, .d x5, .d x6, .d x7] h with ⟨y, e⟩ | ⟨c, y, e⟩ | e
  · simp [mkFn, askC7, sTry, cCallV, ht, e, asked, mkL1]
  · simp [mkFn, askC7, sTry, cCallV, ht, e, asked]
    by_cases hc : c ∈ cs ∧ smD y = true
    · rw [if_pos hc, if_pos hc]; cases su c y <;> rfl
    · rw [if_neg hc, if_neg hc]
  · simp [mkFn, askC7, sTry, cCallV, ht, e, asked]
end
end Fz
set_option Elab.async false
set_option linter.all false
set_option maxRecDepth 100000
set_option maxHeartbeats 2000000
/-! Fz: plain laws: loops that seek, loops that fold, sorting, least numbers that are not in a row. -/
namespace Fz
section
variable {t : Cy} {b : Cs} {h : Hh}
/-- a loop that ends with the first answer -/
theorem forL_find {α : Type} (y : α → Y) (f : α → Option W) (I : Ev → Prop) : ∀ (L : List α) (e : Ev), I e → (∀ x ∈ L, ∀ e, I e → ∃ e1, t (y x) e h = some e1 ∧ match f x with
    | some w => b e1 h = .rt w h
    | none => ∃ e2, b e1 h = .nx e2 h ∧ I e2) → match L.findSome? f with
    | some w => forL t b (L.map y) e h = .rt w h
    | none => ∃ e', forL t b (L.map y) e h = .nx e' h ∧ I e'
  | [], e, hi, _ => ⟨e, rfl, hi⟩
  | x :: L, e, hi, st => by
    obtain ⟨e1, a1, a2⟩ := st x (by simp) e hi
    rw [List.map_cons]
    unfold forL
    rw [a1, List.findSome?_cons]
    dsimp only
    cases hf : f x with
    | some w =>
      rw [hf] at a2
      dsimp only at a2 ⊢
      rw [a2]
    | none =>
      rw [hf] at a2
      dsimp only at a2 ⊢
      obtain ⟨e2, a2, a3⟩ := a2
      rw [a2]
      exact forL_find y f I L e2 a3 fun z hz => st z (by simp [hz])
/-- a loop that folds; the heap stays -/
theorem forL_fold {α σ : Type} (y : α → Y) (f : σ → α → σ) (I : σ → Ev → Prop) : ∀ (L : List α) (s : σ) (e : Ev), I s e → (∀ x ∈ L, ∀ s e, I s e → ∃ e1 e2, t (y x) e h = some e1 ∧ b e1 h = .nx e2 h ∧ I (f s x) e2) → ∃ e', forL t b (L.map y) e h = .nx e' h ∧ I (L.foldl f s) e'
  | [], s, e, hi, _ => ⟨e, rfl, hi⟩
  | x :: L, s, e, hi, st => by
    obtain ⟨e1, e2, a1, a2, a3⟩ := st x (by simp) s e hi
    rw [List.map_cons]
    unfold forL
    rw [a1]
    dsimp only
    rw [a2]
    exact forL_fold y f I L (f s x) e2 a3 fun z hz => st z (by simp [hz])
/-- .. and the heap, too -/
theorem forL_foldH {α σ : Type} (y : α → Y) (f : σ → α → σ) (I : σ → Ev → Hh → Prop) : ∀ (L : List α) (s : σ) (e : Ev) (h : Hh), I s e h → (∀ x ∈ L, ∀ s e h, I s e h → ∃ e1 e2 h2, t (y x) e h = some e1 ∧ b e1 h = .nx e2 h2 ∧ I (f s x) e2 h2) → ∃ e' h', forL t b (L.map y) e h = .nx e' h' ∧ I (L.foldl f s) e' h'
  | [], s, e, h, hi, _ => ⟨e, h, rfl, hi⟩
  | x :: L, s, e, h, hi, st => by
    obtain ⟨e1, e2, h2, a1, a2, a3⟩ := st x (by simp) s e h hi
    rw [List.map_cons]
    unfold forL
    rw [a1]
    dsimp only
    rw [a2]
    exact forL_foldH y f I L (f s x) e2 h2 a3 fun z hz => st z (by simp [hz])
end
theorem fn_rt {n N : Nat} {b : Cs} {ws : List W} {h h' : Hh} {w : W} (hw : ws.length = n) (hb : b (ws.map some ++ List.replicate (N - n) none) h = .rt w h') : mkFn n N b ws h = .ok w h' := by
  unfold mkFn
  rw [if_pos hw, hb]
theorem fn_nx {n N : Nat} {b : Cs} {ws : List W} {h h' : Hh} {e : Ev} (hw : ws.length = n) (hb : b (ws.map some ++ List.replicate (N - n) none) h = .nx e h') : mkFn n N b ws h = .ok (.d .non) h' := by
  unfold mkFn
  rw [if_pos hw, hb]
theorem fn_ex {n N c : Nat} {b : Cs} {ws : List W} {h h' : Hh} {e : Ev} {p : W} (hw : ws.length = n) (hb : b (ws.map some ++ List.replicate (N - n) none) h = .ex c p e h') : mkFn n N b ws h = .ex c p h' := by
  unfold mkFn
  rw [if_pos hw, hb]
theorem seq_rt {x y : Cs} {e : Ev} {h h' : Hh} {w : W} (q : x e h = .rt w h') : sSeq x y e h = .rt w h' := by rw [z_seq, q]; rfl
theorem seq_nx {x y : Cs} {e e' : Ev} {h h' : Hh} (q : x e h = .nx e' h') : sSeq x y e h = y e' h' := by rw [z_seq, q]; rfl
theorem seq_ex {x y : Cs} {e e' : Ev} {h h' : Hh} {c : Nat} {p : W} (q : x e h = .ex c p e' h') : sSeq x y e h = .ex c p e' h' := by rw [z_seq, q]; rfl
theorem tup_l {l : List D} {h : Hh} (hl : l.length ≤ 1000) : biTuple [.d (.lst l)] h = .ok (.d (.tup l)) h := by
  unfold biTuple
  dsimp only [lstW]
  exact mkT_d hl
theorem mkT_1 {x : D} {h : Hh} : mkT [.d x] h = .ok (.d (.tup [x])) h := rfl
theorem mkT_2 {x y : D} {h : Hh} : mkT [.d x, .d y] h = .ok (.d (.tup [x, y])) h := rfl
theorem mkT_3 {x y z : D} {h : Hh} : mkT [.d x, .d y, .d z] h = .ok (.d (.tup [x, y, z])) h := rfl
theorem mkT_4 {x y z u : D} {h : Hh} : mkT [.d x, .d y, .d z, .d u] h = .ok (.d (.tup [x, y, z, u])) h := rfl
/-- a comprehension without a test -/
theorem lc_m {α : Type} {e : Ev} {ci : Ci} {vs : List Nat} {c : Cd} {h h' : Hh} {t : Cy} (L : List α) (y : α → Y) (g : α → D) (hc : ci e h = .ok (fixS (L.map y)) h') (hl : L.length ≤ 16777216)
    (hy : ∀ x ∈ L, ∃ e1, t (y x) (ew e vs) h' = some e1 ∧ c e1 h' = .ok (.d (g x)) h') : cLc false vs ci t bYes c e h = .ok (.d (.lst (L.map g))) h' := by
  rw [lc_d (q := bYes) L y (fun _ => true) g hc hl fun x hx => let ⟨e1, a, b⟩ := hy x hx; ⟨e1, a, rfl, fun _ => b⟩]
  rw [List.filter_eq_self.mpr fun _ _ => rfl]
/-! chains over whole numbers -/
section
variable {e : Ev} {h : Hh} {a b c d : Cd} {x y z u : Int} {p q r : Int → Int → Bool}
theorem ch3 (ha : a e h = .ok (.d (.int x)) h) (hb : b e h = .ok (.d (.int y)) h) (hc : c e h = .ok (.d (.int z)) h) : cch (opC p) (opC q) a b c e h = .ok (.d (.bl (p x y && q y z))) h := by
  unfold cch
  simp only [ha, hb, R.bind_ok, z_opC, z_asB]
  cases p x y <;> simp [hc]
theorem ch4 (ha : a e h = .ok (.d (.int x)) h) (hb : b e h = .ok (.d (.int y)) h) (hc : c e h = .ok (.d (.int z)) h) (hd : d e h = .ok (.d (.int u)) h) :
    cChn a (chC (opC p) b (chC (opC q) c (chL (opC r) d))) e h = .ok (.d (.bl (p x y && (q y z && r z u)))) h := by
  unfold cChn chC chL
  simp only [ha, hb, R.bind_ok, z_opC, z_asB]
  cases p x y
  · simp
  · simp only [if_true, hc, R.bind_ok, z_opC, z_asB]
    cases q y z <;> simp [hd]
end
/-- a loop that goes on with a new state, or ends with w -/
theorem forL_opt {α σ : Type} {t : Cy} {b : Cs} (y : α → Y) (f : σ → α → Option σ) (w : W) (I : σ → Ev → Hh → Prop) : ∀ (L : List α) (s : σ) (e : Ev) (h : Hh), I s e h → (∀ x ∈ L, ∀ s e h, I s e h → ∃ e1, t (y x) e h = some e1 ∧ match f s x with
    | some s' => ∃ e2 h2, b e1 h = .nx e2 h2 ∧ I s' e2 h2
    | none => ∃ h2, b e1 h = .rt w h2) → match L.foldlM f s with
    | some s' => ∃ e' h', forL t b (L.map y) e h = .nx e' h' ∧ I s' e' h'
    | none => ∃ h', forL t b (L.map y) e h = .rt w h'
  | [], s, e, h, hi, _ => ⟨e, h, rfl, hi⟩
  | x :: L, s, e, h, hi, st => by
    obtain ⟨e1, a1, a2⟩ := st x (by simp) s e h hi
    rw [List.map_cons, List.foldlM_cons]
    unfold forL
    rw [a1]
    dsimp only
    cases hf : f s x with
    | some s' =>
      rw [hf] at a2
      obtain ⟨e2, h2, a2, a3⟩ := a2
      rw [a2]
      exact forL_opt y f w I L s' e2 h2 a3 fun z hz => st z (by simp [hz])
    | none =>
      rw [hf] at a2
      obtain ⟨h2, a2⟩ := a2
      rw [a2]
      exact ⟨h2, rfl⟩
/-! ### sorting -/
theorem ins_map {α β : Type} {le : α → α → Bool} {f : β → α} (a : β) : ∀ l : List β, ins le (f a) (l.map f) = (ins (fun x y => le (f x) (f y)) a l).map f
  | [] => rfl
  | x :: l => by
    show (if le (f a) (f x) = true then _ else _) = List.map f (if le (f a) (f x) = true then _ else _)
    split
    · rfl
    · rw [ins_map a l]; rfl
theorem isort_map {α β : Type} {le : α → α → Bool} {f : β → α} : ∀ l : List β, isort le (l.map f) = (isort (fun x y => le (f x) (f y)) l).map f
  | [] => rfl
  | a :: l => by
    show ins le (f a) (isort le (l.map f)) = _
    rw [isort_map l, ins_map]
    rfl
theorem ins_perm {α : Type} {le : α → α → Bool} {a : α} : ∀ l : List α, (ins le a l).Perm (a :: l)
  | [] => .refl _
  | x :: l => by
    unfold ins
    split
    · exact .refl _
    · exact ((ins_perm l).cons x).trans (.swap a x l)
theorem isort_perm {α : Type} {le : α → α → Bool} : ∀ l : List α, (isort le l).Perm l
  | [] => .refl _
  | a :: l => (ins_perm _).trans ((isort_perm l).cons a)
theorem isort_len {α : Type} {le : α → α → Bool} (l : List α) : (isort le l).length = l.length := (isort_perm l).length_eq
theorem ins_pw {α : Type} {le : α → α → Bool} {R : α → α → Prop} (h1 : ∀ a b, le a b = true → R a b) (h2 : ∀ a b, le a b = false → R b a) (tr : ∀ a b c, R a b → R b c → R a c) {a : α} : ∀ {l : List α}, l.Pairwise R → (ins le a l).Pairwise R
  | [], _ => by simp [ins]
  | x :: l, p => by
    unfold ins
    obtain ⟨p1, p2⟩ := List.pairwise_cons.mp p
    split
    · rename_i q
      refine List.pairwise_cons.mpr ⟨fun y hy => ?_, p⟩
      rcases List.mem_cons.mp hy with rfl | hy
      · exact h1 _ _ q
      · exact tr _ _ _ (h1 _ _ q) (p1 y hy)
    · rename_i q
      have q : le a x = false := by simpa using q
      refine List.pairwise_cons.mpr ⟨fun y hy => ?_, ins_pw h1 h2 tr p2⟩
      rcases ins_mem.mp hy with rfl | hy
      · exact h2 _ _ q
      · exact p1 y hy
theorem isort_pw {α : Type} {le : α → α → Bool} {R : α → α → Prop} (h1 : ∀ a b, le a b = true → R a b) (h2 : ∀ a b, le a b = false → R b a) (tr : ∀ a b c, R a b → R b c → R a c) : ∀ l : List α, (isort le l).Pairwise R
  | [] => List.Pairwise.nil
  | a :: l => ins_pw h1 h2 tr (isort_pw h1 h2 tr l)
theorem isortI_pw (l : List Int) : (isort leI l).Pairwise (· ≤ ·) := isort_pw (R := fun a b : Int => a ≤ b) (fun a b h => by simpa [leI] using h) (fun a b h => by simp [leI] at h; omega) (fun a b c h1 h2 => Int.le_trans h1 h2) l
/-! ### rows without doubles -/
theorem nodup_len {α : Type} [DecidableEq α] : ∀ {l u : List α}, l.Nodup → (∀ x ∈ l, x ∈ u) → l.length ≤ u.length
  | [], u, _, _ => by simp
  | x :: l, u, h, s => by
    obtain ⟨h1, h2⟩ := List.nodup_cons.mp h
    have hx := s x (by simp)
    have := nodup_len (l := l) (u := u.erase x) h2 fun y hy => by
      have ne : y ≠ x := fun e => h1 (e ▸ hy)
      exact (List.mem_erase_of_ne ne).mpr (s y (by simp [hy]))
    rw [List.length_erase_of_mem hx] at this
    have hp := List.length_pos_of_mem hx
    rw [List.length_cons]
    omega
/-- the least number that is not in a row -/
def IsMex (T : List Int) (m : Nat) : Prop := (m : Int) ∉ T ∧ ∀ j : Nat, j < m → (j : Int) ∈ T
theorem IsMex.eq {T : List Int} {m n : Nat} (a : IsMex T m) (b : IsMex T n) : m = n := by
  rcases Nat.lt_trichotomy m n with h | h | h
  · exact absurd (b.2 m h) a.1
  · exact h
  · exact absurd (a.2 n h) b.1
theorem IsMex.le {T : List Int} {m : Nat} (a : IsMex T m) : m ≤ T.length := by
  have := nodup_len (l := (List.range m).map fun (i : Nat) => (i : Int)) (u := T) ?_ ?_
  · simpa using this
  · exact List.Pairwise.map _ (fun a b h => by omega) List.nodup_range
  · intro x hx
    obtain ⟨j, hj, rfl⟩ := List.mem_map.mp hx
    exact a.2 j (List.mem_range.mp hj)
def mexF (T : List Int) : Nat → Nat → Nat
  | 0, i => i
  | k + 1, i => if (i : Int) ∈ T then mexF T k (i + 1) else i
def mex (T : List Int) : Nat := mexF T (T.length + 1) 0
theorem mexF_is {T : List Int} : ∀ (k i : Nat), (∀ j : Nat, j < i → (j : Int) ∈ T) → T.length < i + k → IsMex T (mexF T k i)
  | 0, i, h, hk => by
    exfalso
    have := nodup_len (l := (List.range i).map fun (i : Nat) => (i : Int)) (u := T) ?_ ?_
    · simp at this
      omega
    · exact List.Pairwise.map _ (fun a b h => by omega) List.nodup_range
    · intro x hx
      obtain ⟨j, hj, rfl⟩ := List.mem_map.mp hx
      exact h j (List.mem_range.mp hj)
  | k + 1, i, h, hk => by
    unfold mexF
    split
    · rename_i hi
      exact mexF_is k (i + 1) (fun j hj => by
        rcases Nat.lt_or_eq_of_le (Nat.le_of_lt_succ hj) with q | rfl
        · exact h j q
        · exact hi) (by omega)
    · rename_i hi
      exact ⟨hi, h⟩
theorem mex_is (T : List Int) : IsMex T (mex T) := mexF_is _ _ (fun j h => absurd h (by omega)) (by omega)
/-- the first of 0 .. n that is not in the row -/
theorem mex_first {T : List Int} {n : Nat} (hn : mex T ≤ n) : (List.range (n + 1)).find? (fun (i : Nat) => !decide ((i : Int) ∈ T)) = some (mex T) := by
  rw [List.find?_eq_some_iff_append]
  have hm := mex_is T
  refine ⟨by simpa using hm.1, List.range (mex T), (List.range (n - mex T)).map (· + (mex T + 1)), ?_, fun a ha => by simpa using hm.2 a (List.mem_range.mp ha)⟩
  have e : n + 1 = mex T + (1 + (n - mex T)) := by omega
  rw [e, List.range_add, List.range_add]
  simp
  intro a _
  omega
/-- the while that counts up to it -/
theorem mex_while {e : Ev} {h : Hh} {i j : Nat} {T : List Int} {n : Nat} (hij : i ≠ j) (hi : i < e.length) (ej : e[j]? = some (some (.d (.lst (T.map .int))))) (ei : e[i]? = some (some (.d (.int 0)))) (hn : T.length + 1 < n) :
    sWhile n (bC (opIn false) (cv i) (cv j)) (sAug i opAddI (cc (.int 1))) e h = .nx (e.set i (some (.d (.int (mex T))))) h := by
  have hm := mex_is T
  have tst : ∀ k : Nat, bC (opIn false) (cv i) (cv j) (e.set i (some (.d (.int (k : Int))))) h = .ok (decide ((k : Int) ∈ T)) h := fun k => by
    have e1 : (e.set i (some (.d (.int (k : Int)))))[i]? = some (some (.d (.int (k : Int)))) := by rw [List.getElem?_set_self hi]
    have e2 : (e.set i (some (.d (.int (k : Int)))))[j]? = some (some (.d (.lst (T.map .int)))) := by rw [List.getElem?_set_ne hij]; exact ej
    have e3 : (T.map D.int).any (fun z => D.eqv z (.int (k : Int))) = decide ((k : Int) ∈ T) := by
      rw [List.any_map]
      rw [Bool.eq_iff_iff]
      simp [D.eqv]
    have s1 : sh 64 (.lst (T.map .int)) = true := by simp [sh]
    have s2 : sh 64 (.int (k : Int)) = true := rfl
    simp only [z_bC, z_c2, z_cv e1, z_cv e2, R.bind_ok]
    unfold opIn
    simp only [valD, D.items, s1, s2, Bool.and_self, if_true, e3, z_asB, Bool.false_eq_true, if_false]
  have body : ∀ k : Nat, sAug i opAddI (cc (.int 1)) (e.set i (some (.d (.int (k : Int))))) h = .nx (e.set i (some (.d (.int ((k + 1 : Nat) : Int))))) h := fun k => by
    have e1 : (e.set i (some (.d (.int (k : Int)))))[i]? = some (some (.d (.int (k : Int)))) := by rw [List.getElem?_set_self hi]
    unfold sAug
    rw [e1]
    simp [opAddI, opI]
  have key : ∀ (m k : Nat), mex T < k + m → k ≤ mex T → wloop (bC (opIn false) (cv i) (cv j)) (sAug i opAddI (cc (.int 1))) m (e.set i (some (.d (.int (k : Int))))) h = .nx (e.set i (some (.d (.int (mex T))))) h := by
    intro m
    induction m with
    | zero => intro k h1 h2; omega
    | succ m ih =>
      intro k h1 h2
      unfold wloop
      rw [tst, lift_ok]
      by_cases q : (k : Int) ∈ T
      · rw [decide_eq_true q]
        rw [if_pos rfl, body]
        dsimp only
        have : k ≠ mex T := fun z => hm.1 (z ▸ q)
        exact ih (k + 1) (by omega) (by omega)
      · rw [decide_eq_false q]
        rw [if_neg Bool.false_ne_true]
        have : k = mex T := by
          rcases Nat.lt_or_ge k (mex T) with z | z
          · exact absurd (hm.2 k z) q
          · omega
        rw [this]
  have e0 : e.set i (some (.d (.int ((0 : Nat) : Int)))) = e := by
    apply List.ext_getElem?
    intro k
    by_cases q : k = i
    · subst q; rw [List.getElem?_set_self hi, ei]; rfl
    · rw [List.getElem?_set_ne (Ne.symm q)]
  have := key n 0 (by have := hm.le; omega) (by omega)
  rw [e0] at this
  exact this
end Fz
set_option Elab.async false
set_option linter.all false
set_option maxRecDepth 100000
set_option maxHeartbeats 2000000
/-! Fz: plain laws: dicts by whole numbers, sorting whole numbers. -/
namespace Fz
/-- a comprehension over what stands in the heap, which stays -/
theorem lc_src {α : Type} {mt : Bool} {vs : List Nat} {q : Cb} {c : Cd} {ci : Ci} {t : Cy} {e : Ev} {h h' : Hh} {src : Src} (l : List α) (y : α → Y) (f : α → Bool) (g : α → W) (hc : ci e h = .ok src h') (hs : src h' = some (l.map y)) (hl : l.length ≤ 16777216)
    (hy : ∀ x ∈ l, ∃ e1, t (y x) (ew e vs) h' = some e1 ∧ q e1 h' = .ok (f x) h' ∧ (f x = true → c e1 h' = .ok (g x) h')) : cLc mt vs ci t q c e h = fin mt ((l.filter f).map g) h' := by
  have key : ∀ (m i : Nat) (acc : List W), l.length + 1 = m + i → acc.length + (l.length - i) ≤ 16777216 → i ≤ l.length → lcl src t q c (ew e vs) m i acc h' = .ok (acc ++ ((l.drop i).filter f).map g) h' := by
    intro m
    induction m with
    | zero => intro i acc h1 h2 h3; omega
    | succ m ih =>
      intro i acc h1 h2 h3
      unfold lcl
      rw [hs]
      dsimp only
      by_cases hi : i < l.length
      · rw [List.getElem?_map, List.getElem?_eq_getElem hi]
        dsimp only [Option.map_some]
        obtain ⟨e1, a1, a2, a3⟩ := hy l[i] (List.getElem_mem hi)
        rw [a1]
        dsimp only
        rw [a2, R.bind_ok, List.drop_eq_getElem_cons hi]
        cases hf : f l[i] with
        | true =>
          rw [if_pos rfl, a3 hf, R.bind_ok, if_pos (by omega), ih (i + 1) _ (by omega) (by simp; omega) (by omega), List.filter_cons_of_pos hf, List.map_cons, List.append_assoc]
          rfl
        | false =>
          rw [if_neg Bool.false_ne_true, ih (i + 1) _ (by omega) (by omega) (by omega), List.filter_cons_of_neg (by rw [hf]; exact Bool.false_ne_true)]
      · have : i = l.length := by omega
        subst this
        simp
  unfold cLc
  rw [hc, R.bind_ok]
  have hn : srcLen src h' = l.length := by unfold srcLen; rw [hs]; simp
  rw [hn, key (l.length + 1) 0 [] (by omega) (by simpa using hl) (by omega)]
  simp [noX]
/-- a loop, by an invariant that counts -/
theorem forL_ix {t : Cy} {b : Cs} (I : Nat → Ev → Hh → Prop) : ∀ (l : List Y) (k : Nat) (e : Ev) (h : Hh), I k e h → (∀ j y e h, l[j]? = some y → I (k + j) e h → ∃ e1 e2 h2, t y e h = some e1 ∧ b e1 h = .nx e2 h2 ∧ I (k + j + 1) e2 h2) → ∃ e' h', forL t b l e h = .nx e' h' ∧ I (k + l.length) e' h'
  | [], k, e, h, i, _ => ⟨e, h, rfl, i⟩
  | y :: ys, k, e, h, i, st => by
    obtain ⟨e1, e2, h2, a1, a2, a3⟩ := st 0 y e h rfl i
    obtain ⟨e', h', b1, b2⟩ := forL_ix I ys (k + 1) e2 h2 a3 fun j y e h hj ij => by
      have := st (j + 1) y e h (by simpa using hj) (by rw [show k + (j + 1) = k + 1 + j by omega]; exact ij)
      rw [show k + (j + 1) + 1 = k + 1 + j + 1 by omega] at this
      exact this
    refine ⟨e', h', ?_, by rw [List.length_cons, show k + (ys.length + 1) = k + 1 + ys.length by omega]; exact b2⟩
    unfold forL
    rw [a1]
    dsimp only
    rw [a2]
    exact b1
theorem sFor_ix {ci : Ci} {t : Cy} {b : Cs} {e : Ev} {h h' : Hh} {l : List Y} (I : Nat → Ev → Hh → Prop) (hc : ci e h = .ok (fixS l) h') (i0 : I 0 e h') (st : ∀ j y e h, l[j]? = some y → I j e h → ∃ e1 e2 h2, t y e h = some e1 ∧ b e1 h = .nx e2 h2 ∧ I (j + 1) e2 h2) : ∃ e2 h2, sFor ci t b e h = .nx e2 h2 ∧ I l.length e2 h2 := by
  rw [sFor_fix hc]
  have := forL_ix (t := t) (b := b) I l 0 e h' i0 fun j y e h hj ij => by
    rw [Nat.zero_add] at ij ⊢
    exact st j y e h hj ij
  rw [Nat.zero_add] at this
  exact this
/-- a loop over what stands in the heap, which stays -/
theorem sFor_const {ci : Ci} {t : Cy} {b : Cs} {e : Ev} {h h' : Hh} {src : Src} {l : List Y} (I : Ev → Prop) (hc : ci e h = .ok src h') (hs : src h' = some l) (hi : I e) (st : ∀ y ∈ l, ∀ e, I e → ∃ e1 e2, t y e h' = some e1 ∧ b e1 h' = .nx e2 h' ∧ I e2) : ∃ e', sFor ci t b e h = .nx e' h' ∧ I e' := by
  have key : ∀ (m i : Nat) (e : Ev), l.length + 1 = m + i → i ≤ l.length → I e → ∃ e', loop src t b m i e h' = .nx e' h' ∧ I e' := by
    intro m
    induction m with
    | zero => intro i e h1 h2 _; omega
    | succ m ih =>
      intro i e h1 h2 hi
      unfold loop
      rw [hs]
      dsimp only
      by_cases hl : i < l.length
      · rw [List.getElem?_eq_getElem hl]
        dsimp only
        obtain ⟨e1, e2, a1, a2, a3⟩ := st l[i] (List.getElem_mem hl) e hi
        rw [a1]
        dsimp only
        rw [a2]
        exact ih (i + 1) e2 (by omega) (by omega) a3
      · have : l[i]? = none := List.getElem?_eq_none (by omega)
        rw [this]
        exact ⟨e, rfl, hi⟩
  have hn : srcLen src h' = l.length := by unfold srcLen; rw [hs]
  unfold sFor
  rw [hc, lift_ok, hn]
  exact key (l.length + 1) 0 e (by omega) (by omega) hi
theorem it_r {n : Nat} {c : Cd} {e : Ev} {h h' : Hh} {l : List W} (hc : c e h = .ok (.r n) h') (hn : h'[n]? = some (.lst l)) : cIt c e h = .ok (refS n) h' ∧ refS n h' = some (l.map .w) := by
  unfold cIt
  rw [hc, R.bind_ok]
  constructor
  · unfold srcOf
    dsimp only
    rw [hn]
  · unfold refS
    rw [hn]
theorem le_int {a b : Int} : D.le (.int a) (.int b) = leI a b := by
  unfold D.le leI
  rw [Bool.eq_iff_iff]
  simp [D.lt]
theorem sort_ints {L : List Int} {h : Hh} (hl : L.length ≤ 1000000) : biSort false [.d (.lst (L.map .int))] h = .ok (.d (.lst ((isort leI L).map .int))) h := by
  unfold biSort
  have e : (seqW (.d (.lst (L.map .int))) h).bind allD = some (L.map .int) := allD_map _
  dsimp only
  rw [e]
  have h1 : allAl (L.map D.int) = true := by simp [allAl, D.al]
  have h2 : canSort (L.map D.int) = true := by
    unfold canSort
    rw [Bool.or_eq_true]
    right
    simp
  have h3 : (L.map D.int).all (sh 63) = true := by simp [sh]
  dsimp only
  rw [h1, h2, h3, isort_map, show (fun x y => D.le (D.int x) (D.int y)) = leI from funext fun a => funext fun b => le_int]
  exact fin_d (by rw [List.length_map, isort_len]; omega)
/-! ### what repr can write -/
structure Smal (m n : Nat) (d : D) : Prop where
  sh : sh m d = true
  shw : D.shw d = true
  sz : D.sz d ≤ n
structure SmalL (m n : Nat) (l : List D) : Prop where
  sh : ∀ x ∈ l, sh m x = true
  shw : shwL l = true
  sz : szL l ≤ n
section
variable {m n k m' n' : Nat} {d x : D} {l : List D}
theorem log_lt {i : Int} {k : Nat} (h : i.natAbs < 2 ^ k) (hk : 0 < k) : i.natAbs.log2 < k := by
  by_cases q : i.natAbs = 0
  · rw [q]; simp; exact hk
  · exact (Nat.log2_lt q).mpr h
theorem smal_int {i : Int} (h : i.natAbs < 2 ^ k) (hk : 0 < k ∧ k ≤ 1900) : Smal m (k + 1) (.int i) := by
  have := log_lt h hk.1
  refine ⟨by cases m <;> rfl, ?_, ?_⟩
  · simp only [D.shw, decide_eq_true_eq]; omega
  · simp only [D.sz]; omega
theorem smal_non : Smal m 4 .non := ⟨by cases m <;> rfl, rfl, by simp [D.sz]⟩
theorem smal_bl {b : Bool} : Smal m 5 (.bl b) := ⟨by cases m <;> rfl, rfl, by simp [D.sz]⟩
theorem smal_str {s : List Nat} (h : s.all (· < 1114112) = true) : Smal m (10 * s.length + 2) (.str s) := ⟨by cases m <;> exact h, rfl, by simp [D.sz]⟩
theorem Smal.mono (h : Smal m n d) (h1 : m ≤ m') (h2 : n ≤ n') : Smal m' n' d := ⟨sh_up m m' h1 d h.sh, h.shw, Nat.le_trans h.sz h2⟩
theorem smalL_nil : SmalL m 0 [] := ⟨by simp, rfl, by simp [szL]⟩
theorem smalL_cons (h : Smal m n x) (h2 : SmalL m k l) : SmalL m (n + 2 + k) (x :: l) := by
  refine ⟨fun y hy => ?_, ?_, ?_⟩
  · rcases List.mem_cons.mp hy with rfl | hy
    · exact h.sh
    · exact h2.sh y hy
  · simp only [shwL, h.shw, h2.shw]; rfl
  · have := h.sz
    have := h2.sz
    simp only [szL]
    omega
theorem smal_tup (h : SmalL m n l) : Smal (m + 1) (n + 2) (.tup l) := ⟨List.all_eq_true.mpr h.sh, h.shw, by have := h.sz; simp only [D.sz]; omega⟩
theorem smal_lst (h : SmalL m n l) : Smal (m + 1) (n + 2) (.lst l) := ⟨List.all_eq_true.mpr h.sh, h.shw, by have := h.sz; simp only [D.sz]; omega⟩
theorem smalL_map {α : Type} {f : α → D} : ∀ {L : List α}, (∀ x ∈ L, Smal m n (f x)) → SmalL m ((n + 2) * L.length) (L.map f)
  | [], _ => ⟨by simp, rfl, by simp [szL]⟩
  | a :: L, h => by
    have h1 := h a (by simp)
    have h2 := smalL_map (L := L) fun x hx => h x (by simp [hx])
    have := smalL_cons h1 h2
    refine ⟨this.sh, this.shw, Nat.le_trans this.sz ?_⟩
    rw [List.length_cons, Nat.mul_succ]
    omega
theorem Smal.show' (h : Smal m n d) (h1 : m ≤ 60) (h2 : n ≤ 16000000) : canShow d = true := by
  unfold canShow
  rw [sh_up m 60 h1 d h.sh, h.shw, decide_eq_true (Nat.le_trans h.sz (Nat.le_trans h2 (by omega)))]
  rfl
/-- _law_same of what is the same -/
theorem same_at {d : D} {h : Hh} (hd : canShow d = true) : mkFn 2 2 (sRet (cSame 0 1)) [.d d, .d d] h = .ok (.d (.bl true)) h := by
  have e : cSame 0 1 [some (.d d), some (.d d)] h = .ok (.d (.bl true)) h := by
    unfold cSame
    dsimp only [List.getElem?_cons_zero, List.getElem?_cons_succ, valD]
    rw [show D.beq d d = true from (D.beq_iff d d).mpr rfl, hd]
    rfl
  refine fn_rt rfl ?_
  show lift (cSame 0 1 [some (.d d), some (.d d)] h) _ _ = _
  rw [e]
  rfl
theorem same_pure {d : D} {h : Hh} (hd : canShow d = true) : pure' (mkFn 2 2 (sRet (cSame 0 1))) [.d d, .d d] h = .ok (.d (.bl true)) h := pure_ok rfl (same_at hd)
end
/-! ### dicts by whole numbers -/
def dkI (m : List (Int × W)) : List (D × W) := m.map fun p => (.int p.1, p.2)
def putI (k : Int) (w : W) (m : List (Int × W)) : List (Int × W) := if m.any (fun p => p.1 == k) then m.map (fun p => if p.1 = k then (p.1, w) else p) else m ++ [(k, w)]
theorem beq_int {a b : Int} : D.beq (.int a) (.int b) = (a == b) := by
  rw [Bool.eq_iff_iff, D.beq_iff]
  simp
theorem lkd_int {k : Int} : ∀ {m : List (Int × W)}, lkd (.int k) (dkI m) = m.lookup k
  | [] => rfl
  | (a, w) :: m => by
    show (if D.beq (.int a) (.int k) = true then some w else lkd (.int k) (dkI m)) = _
    rw [beq_int, lkd_int, List.lookup_cons]
    by_cases h : a = k
    · subst h; simp
    · have h' : ¬ k = a := fun q => h q.symm
      simp [h, beq_eq_false_iff_ne.mpr h']
theorem putd_int {k : Int} {w : W} {m : List (Int × W)} : putd (.int k) w (dkI m) = dkI (putI k w m) := by
  unfold putd putI dkI
  rw [List.any_map]
  have e : ((fun p : D × W => D.beq p.1 (.int k)) ∘ fun p : Int × W => (D.int p.1, p.2)) = fun p => p.1 == k := funext fun p => beq_int
  rw [e]
  split
  · rw [List.map_map, List.map_map]
    congr 1
    funext p
    show (if D.beq (.int p.1) (.int k) = true then _ else _) = _
    rw [beq_int]
    by_cases h : p.1 = k <;> simp [h]
  · simp
theorem keysI_int : ∀ {m : List (Int × W)}, keysI (dkI m) = some (m.map (·.1))
  | [] => rfl
  | (a, w) :: m => by
    show (keysI (dkI m)).map (a :: ·) = _
    rw [keysI_int]
    rfl
theorem putI_keys {k : Int} {w : W} {m : List (Int × W)} {x : Int} : x ∈ (putI k w m).map (·.1) ↔ x = k ∨ x ∈ m.map (·.1) := by
  unfold putI
  split
  · rename_i h
    have e : (m.map fun p => if p.1 = k then (p.1, w) else p).map (·.1) = m.map (·.1) := by
      rw [List.map_map]
      congr 1
      funext p
      show (if p.1 = k then (p.1, w) else p).1 = p.1
      split <;> rfl
    rw [e]
    constructor
    · exact .inr
    · rintro (rfl | h2)
      · obtain ⟨p, hp, e⟩ := List.any_eq_true.mp h
        exact List.mem_map.mpr ⟨p, hp, eq_of_beq e⟩
      · exact h2
  · simp [or_comm]
theorem putI_len {k : Int} {w : W} {m : List (Int × W)} : (putI k w m).length ≤ m.length + 1 := by
  unfold putI
  split <;> simp
theorem lk_map {k x : Int} {w : W} : ∀ {m : List (Int × W)}, (m.map fun p => if p.1 = k then (p.1, w) else p).lookup x = if x = k then (m.lookup k).map (fun _ => w) else m.lookup x
  | [] => by simp
  | (a, u) :: m => by
    rw [List.map_cons]
    have ih := lk_map (k := k) (x := x) (w := w) (m := m)
    by_cases ha : a = k
    · subst ha
      rw [if_pos rfl, List.lookup_cons, List.lookup_cons, ih]
      by_cases hx : x = a
      · subst hx; simp
      · have h1 : (x == a) = false := by simpa using hx
        rw [if_neg hx, if_neg hx]
        show (match x == a with | true => some w | false => List.lookup x m) = _
        rw [h1, List.lookup_cons, h1]
    · rw [if_neg ha, List.lookup_cons, ih, List.lookup_cons]
      by_cases hx : x = a
      · subst hx; simp [ha]
      · have h1 : (x == a) = false := by simpa using hx
        rw [h1, List.lookup_cons, h1]
        by_cases hk : x = k
        · subst hk
          simp [h1]
        · simp [hk]
theorem putI_lk {k : Int} {w : W} {m : List (Int × W)} {x : Int} : (putI k w m).lookup x = if x = k then some w else m.lookup x := by
  unfold putI
  split
  · rename_i h
    rw [lk_map]
    by_cases hx : x = k
    · rw [if_pos hx, if_pos hx]
      obtain ⟨p, hp, e⟩ := List.any_eq_true.mp h
      cases hl : m.lookup k with
      | some u => rfl
      | none =>
        have := List.lookup_eq_none_iff.mp hl p hp
        simp at this e
        exact absurd e.symm this
    · rw [if_neg hx, if_neg hx]
  · rename_i h
    rw [List.lookup_append]
    by_cases hx : x = k
    · subst hx
      have : m.lookup x = none := by
        rw [List.lookup_eq_none_iff]
        intro p hp
        simp only [Bool.not_eq_true, List.any_eq_false] at h
        have := h p hp
        simp at this ⊢
        exact fun q => this q.symm
      rw [this, if_pos rfl]
      simp
    · rw [if_neg hx]
      simp [List.lookup_cons, beq_eq_false_iff_ne.mpr hx]
/-- dict([(k, v), ..]) -/
def mkI (ps : List (Int × W)) : List (Int × W) := ps.foldl (fun m p => putI p.1 p.2 m) []
theorem merge_int : ∀ (ps m : List (Int × W)), mergeD (dkI m) (ps.map fun p => (.int p.1, p.2)) = dkI (ps.foldl (fun m p => putI p.1 p.2 m) m)
  | [], m => rfl
  | p :: ps, m => by
    have := merge_int ps (putI p.1 p.2 m)
    rw [← putd_int] at this
    exact this
theorem fold_keys : ∀ {ps m : List (Int × W)} {x : Int}, x ∈ (ps.foldl (fun m p => putI p.1 p.2 m) m).map (·.1) ↔ x ∈ ps.map (·.1) ∨ x ∈ m.map (·.1)
  | [], m, x => by simp
  | p :: ps, m, x => by
    rw [List.foldl_cons, fold_keys, putI_keys, List.map_cons, List.mem_cons]
    constructor
    · rintro (h | h | h) <;> simp [h]
    · rintro ((h | h) | h) <;> simp [h]
theorem mkI_keys {ps : List (Int × W)} {x : Int} : x ∈ (mkI ps).map (·.1) ↔ x ∈ ps.map (·.1) := by
  unfold mkI
  rw [fold_keys]
  simp
theorem fold_len : ∀ {ps m : List (Int × W)}, (ps.foldl (fun m p => putI p.1 p.2 m) m).length ≤ ps.length + m.length
  | [], m => by simp
  | p :: ps, m => by
    rw [List.foldl_cons]
    have := fold_len (ps := ps) (m := putI p.1 p.2 m)
    have := putI_len (k := p.1) (w := p.2) (m := m)
    rw [List.length_cons]
    omega
theorem mkI_len {ps : List (Int × W)} : (mkI ps).length ≤ ps.length := by
  have := fold_len (ps := ps) (m := [])
  simpa [mkI] using this
theorem pairsD_int : ∀ {L : List (Int × D)}, pairsD (L.map fun p => .tup [.int p.1, p.2]) = some (L.map fun p => (.int p.1, p.2))
  | [] => rfl
  | p :: L => by
    show (if (D.int p.1).isK then (pairsD (L.map fun p => .tup [.int p.1, p.2])).map ((D.int p.1, p.2) :: ·) else none) = _
    rw [pairsD_int]
    rfl
theorem dict_int {L : List (Int × D)} {h : Hh} (hl : L.length ≤ 1000000) : biDict [.d (.lst (L.map fun p => .tup [.int p.1, p.2]))] h = .ok (.r h.length) (h ++ [.dk (dkI (mkI (L.map fun p => (p.1, .d p.2))))]) := by
  unfold biDict
  have e : lstW (.d (.lst (L.map fun p => .tup [.int p.1, p.2]))) h = some ((L.map fun p => D.tup [.int p.1, p.2]).map .d) := rfl
  dsimp only
  rw [e]
  dsimp only
  rw [allD_map, Option.bind_some, pairsD_int]
  dsimp only
  rw [if_pos (by rw [List.length_map]; omega), List.map_map]
  have := merge_int (L.map fun p => (p.1, W.d p.2)) []
  rw [List.map_map] at this
  unfold mkI
  rw [← this]
  rfl
theorem sortK_int {n : Nat} {m : List (Int × W)} {h : Hh} (hn : h[n]? = some (.dk (dkI m))) (hl : m.length < 64) : biSortK false [.r n] h = .ok (.d (.lst ((isort leI (m.map (·.1))).map .int))) h := by
  unfold biSortK
  dsimp only
  rw [hn]
  dsimp only
  rw [keysI_int]
  dsimp only
  rw [if_pos (by rw [List.length_map]; exact hl)]
  have e : (isort leI (m.map (·.1))).map (fun i => W.d (.int i)) = ((isort leI (m.map (·.1))).map D.int).map .d := by rw [List.map_map]; rfl
  rw [e]
  exact fin_d (by rw [List.length_map, isort_len, List.length_map]; omega)
/-! ### _law_asked, up to five -/
section
variable {cs : List Nat} {su : Nat → D → Option D} {t1 t2 t3 t4 t5 : List Nat → Option (Bool × Fn)} {q : List Nat} {g : Fn} {h : Hh} {x1 x2 x3 x4 x5 : D}
def askC5 (cs : List Nat) (su : Nat → D → Option D) (t1 t2 t3 t4 t5 : List Nat → Option (Bool × Fn)) : Cs := (sTry 2 cs (sSeq (sIf (bC opLt (cCl biLen (aCons (cv 1) aNil)) (cc (.int 3)))
    (sRet (cIf (bC (opEq false) (cCl biLen (aCons (cv 1) aNil)) (cc (.int 1))) (cCl mkL (aCons (cCallV 0 1 t1 (aCons (c2 opIx (cv 1) (cc (.int 0))) aNil)) aNil)) (cCl mkL (aCons (cCallV 0 2 t2 (aCons (c2 opIx (cv 1) (cc (.int 0))) (aCons (c2 opIx (cv 1) (cc (.int 1))) aNil))) aNil))))
    sNx)
    (sSeq (sIf (bC opLt (cCl biLen (aCons (cv 1) aNil)) (cc (.int 5)))
    (sRet (cIf (bC (opEq false) (cCl biLen (aCons (cv 1) aNil)) (cc (.int 3))) (cCl mkL (aCons (cCallV 0 3 t3 (aCons (c2 opIx (cv 1) (cc (.int 0))) (aCons (c2 opIx (cv 1) (cc (.int 1))) (aCons (c2 opIx (cv 1) (cc (.int 2))) aNil)))) aNil)) (cCl mkL (aCons (cCallV 0 4 t4 (aCons (c2 opIx (cv 1) (cc (.int 0))) (aCons (c2 opIx (cv 1) (cc (.int 1))) (aCons (c2 opIx (cv 1) (cc (.int 2))) (aCons (c2 opIx (cv 1) (cc (.int 3))) aNil))))) aNil))))
    sNx)
    (sRet (cCl mkL (aCons (cCallV 0 5 t5 (aCons (c2 opIx (cv 1) (cc (.int 0))) (aCons (c2 opIx (cv 1) (cc (.int 1))) (aCons (c2 opIx (cv 1) (cc (.int 2))) (aCons (c2 opIx (cv 1) (cc (.int 3))) (aCons (c2 opIx (cv 1) (cc (.int 4))) aNil)))))) aNil)))))
    su)
theorem ask5_1 (ht : t1 q = some (true, g)) : mkFn 2 3 (askC5 cs su t1 t2 t3 t4 t5) [.f q, .d (.lst [x1])] h = asked cs su (pure' g [.d x1] h) := by
  rcases pure_cases g [.d x1] h with ⟨y, e⟩ | ⟨c, y, e⟩ | e
  · simp [mkFn, askC5, sTry, cCallV, ht, e, asked, mkL1]
  · simp [mkFn, askC5, sTry, cCallV, ht, e, asked]
    by_cases hc : c ∈ cs ∧ smD y = true
    · rw [if_pos hc, if_pos hc]; cases su c y <;> rfl
    · rw [if_neg hc, if_neg hc]
  · simp [mkFn, askC5, sTry, cCallV, ht, e, asked]
theorem ask5_2 (ht : t2 q = some (true, g)) : mkFn 2 3 (askC5 cs su t1 t2 t3 t4 t5) [.f q, .d (.lst [x1, x2])] h = asked cs su (pure' g [.d x1, .d x2] h) := by
  rcases pure_cases g [.d x1, .d x2] h with ⟨y, e⟩ | ⟨c, y, e⟩ | e
  · simp [mkFn, askC5, sTry, cCallV, ht, e, asked, mkL1]
  · simp [mkFn, askC5, sTry, cCallV, ht, e, asked]
    by_cases hc : c ∈ cs ∧ smD y = true
    · rw [if_pos hc, if_pos hc]; cases su c y <;> rfl
    · rw [if_neg hc, if_neg hc]
  · simp [mkFn, askC5, sTry, cCallV, ht, e, asked]
theorem ask5_3 (ht : t3 q = some (true, g)) : mkFn 2 3 (askC5 cs su t1 t2 t3 t4 t5) [.f q, .d (.lst [x1, x2, x3])] h = asked cs su (pure' g [.d x1, .d x2, .d x3] h) := by
  rcases pure_cases g [.d x1, .d x2, .d x3] h with ⟨y, e⟩ | ⟨c, y, e⟩ | e
  · simp [mkFn, askC5, sTry, cCallV, ht, e, asked, mkL1]
  · simp [mkFn, askC5, sTry, cCallV, ht, e, asked]
    by_cases hc : c ∈ cs ∧ smD y = true
    · rw [if_pos hc, if_pos hc]; cases su c y <;> rfl
    · rw [if_neg hc, if_neg hc]
  · simp [mkFn, askC5, sTry, cCallV, ht, e, asked]
theorem ask5_4 (ht : t4 q = some (true, g)) : mkFn 2 3 (askC5 cs su t1 t2 t3 t4 t5) [.f q, .d (.lst [x1, x2, x3, x4])] h = asked cs su (pure' g [.d x1, .d x2, .d x3, .d x4] h) := by
  rcases pure_cases g [.d x1, .d x2, .d x3, .d x4] h with ⟨y, e⟩ | ⟨c, y, e⟩ | e
  · simp [mkFn, askC5, sTry, cCallV, ht, e, asked, mkL1]
  · simp [mkFn, askC5, sTry, cCallV, ht, e, asked]
    by_cases hc : c ∈ cs ∧ smD y = true
    · rw [if_pos hc, if_pos hc]; cases su c y <;> rfl
    · rw [if_neg hc, if_neg hc]
  · simp [mkFn, askC5, sTry, cCallV, ht, e, asked]
theorem ask5_5 (ht : t5 q = some (true, g)) : mkFn 2 3 (askC5 cs su t1 t2 t3 t4 t5) [.f q, .d (.lst [x1, x2, x3, x4, x5])] h = asked cs su (pure' g [.d x1, .d x2, .d x3, .d x4, .d x5] h) := by
  rcases pure_cases g [.d x1, .d x2, .d x3, .d x4, .d x5] h with ⟨y, e⟩ | ⟨c, y, e⟩ | e
  · simp [mkFn, askC5, sTry, cCallV, ht, e, asked, mkL1]
  · simp [mkFn, askC5, sTry, cCallV, ht, e, asked]
    by_cases hc : c ∈ cs ∧ smD y = true
    · rw [if_pos hc, if_pos hc]; cases su c y <;> rfl
    · rw [if_neg hc, if_neg hc]
  · simp [mkFn, askC5, sTry, cCallV, ht, e, asked]
end
end Fz
set_option Elab.async false
set_option linter.all false
set_option maxRecDepth 100000
set_option maxHeartbeats 4000000
/-! Fz: classes, global rows of texts: rules with premises filled by rfl. -/
namespace Fz
open PySem PySem.W L2 PyProof.Rows L2H
section
variable {X : Cx} {T : Tb} {Wx : WX} {k n : Nat} {e a b c o : Expr} {es elts : List Expr} {ca cb cd co : Cd} {aa : Ca} {pos p p1 p2 apos cpos tpos : Pos} {x y z m : Str} {kk : Nat} {f : Addr} {fd : FuncData} {ps : List Str} {g : Fn}
theorem e_new {x₀ : Str} (i : Nat) (G : Cg X Wx (k + 1)) (M : Mk X.K (T.cad i) f) (F : FnG X.prog X.w X.K X.mg X.base k f fd (x₀ :: ps) (spF X.K T n g)) (hm : X.mg x = some (.ref (T.cad i))) (hb : Binds X.K fd (x₀ :: ps) []) (ha : FA X T Wx (e :: es) aa)
    (hg : Gl X x := by rfl) (hdb : (x == ("__debug__" : Str)) = false := by decide) (he : starEach (e :: es) X.env = (false, eval e X.env) :: starEach es X.env := by rfl) (hpl : (backTo pos (starEach es X.env)).any (·.1) = false := by rfl) :
    FE X T Wx (.Call (.Name x p) (e :: es) [] pos) (cNew i n g aa) := fe_new G M F hg hm hb hdb he hpl ha
theorem e_new0 {x₀ : Str} (i : Nat) (G : Cg X Wx (k + 1)) (M : Mk X.K (T.cad i) f) (F : FnG X.prog X.w X.K X.mg X.base k f fd (x₀ :: ps) (spF X.K T n g)) (hm : X.mg x = some (.ref (T.cad i))) (hb : Binds X.K fd (x₀ :: ps) [])
    (hg : Gl X x := by rfl) (hdb : (x == ("__debug__" : Str)) = false := by decide) : FE X T Wx (.Call (.Name x p) [] [] pos) (cNew i n g aNil) := fe_new0 G M F hg hm hb hdb
theorem e_meth (i : Nat) (nm : ∀ j, T.fld j ≠ m) (G : Cg X Wx (k + 1)) (cl : Cls X.K (T.cad i)) (hm : Meth X.K (T.cad i) m f) (F : FnG X.prog X.w X.K X.mg X.base k f fd ps (spF X.K T n g)) (hb : Binds X.K fd ps []) (ho : FE X T Wx o co) (ha : FA X T Wx (e :: es) aa)
    (hst : starEach (e :: es) X.env = (false, eval e X.env) :: starEach es X.env := by rfl) (hpl : (backTo pos (starEach es X.env)).any (·.1) = false := by rfl)
    (ht : ∃ pl : Sem Bool, eval (.Call (.Attribute o m apos) (e :: es) [] pos) X.env = (do
      let ov ← eval o X.env
      standAt apos.atName
      let (f, first) ← holding [ov] (getMethod ov m pl)
      callWith pos f first (backTo pos (starEach (e :: es) X.env)) (backToKw pos (keywordEach [] X.env))) := by exact ⟨_, rfl⟩) :
    FE X T Wx (.Call (.Attribute o m apos) (e :: es) [] pos) (cMeth i n g co aa) := by
  obtain ⟨pl, ht⟩ := ht
  exact fe_meth nm (G.mono (Nat.le_succ k)) cl hm F hb hst hpl ht ho ha
theorem e_meth0 (i : Nat) (nm : ∀ j, T.fld j ≠ m) (G : Cg X Wx (k + 1)) (cl : Cls X.K (T.cad i)) (hm : Meth X.K (T.cad i) m f) (F : FnG X.prog X.w X.K X.mg X.base k f fd ps (spF X.K T n g)) (hb : Binds X.K fd ps []) (ho : FE X T Wx o co)
    (ht : ∃ pl : Sem Bool, eval (.Call (.Attribute o m apos) [] [] pos) X.env = (do
      let ov ← eval o X.env
      standAt apos.atName
      let (f, first) ← holding [ov] (getMethod ov m pl)
      callWith pos f first (backTo pos (starEach [] X.env)) (backToKw pos (keywordEach [] X.env))) := by exact ⟨_, rfl⟩) :
    FE X T Wx (.Call (.Attribute o m apos) [] [] pos) (cMeth i n g co aNil) := by
  obtain ⟨pl, ht⟩ := ht
  exact fe_meth0 nm (G.mono (Nat.le_succ k)) cl hm F hb ht ho
end
section
variable {X : Cx} {T : Tb} {Wx : WX} {k : Nat} {a b o i e : Expr} {ca cb co ci c : Cd} {pos tpos apos cpos : Pos}
theorem e_get1 (G : Cg X Wx k) (ho : FE X T Wx o co) (ha : FE X T Wx a ca) (m : M1 X o "get" apos a cpos := by exact ⟨rfl, rfl, rfl, rfl⟩) : FE X T Wx (.Call (.Attribute o "get" apos) [a] [] cpos) (cGet1 co ca) := fe_get1 G.hu1 m ho ha
theorem e_get2 (G : Cg X Wx k) (ho : FE X T Wx o co) (ha : FE X T Wx a ca) (hb : FE X T Wx b cb) (m : M2 X o "get" apos a b cpos := by exact ⟨rfl, rfl, rfl, rfl⟩) : FE X T Wx (.Call (.Attribute o "get" apos) [a, b] [] cpos) (cGet2 co ca cb) := fe_get2 G.hu1 m ho ha hb
theorem s_augD {op : Operator} {opf : W → W → Hh → R W} (G : Cg X Wx k) (hop : Io X T op opf) (ho : FE X T Wx o co) (hi : FE X T Wx i ci) (he : FE X T Wx e c) (ha : ∀ ov iv new, augStore i ov iv new = (do holding [new, ov, iv] (setItem ov iv new); release [new, ov, iv] []; pure .next) := by intro _ _ _; rfl) :
    FS X T Wx (.AugAssign (.Subscript o i tpos) op e pos) (sDAug' opf co ci c) := by
  obtain ⟨rd, h1, h2⟩ := hop.ex
  exact fs_augD G.hu1 ha h1 h2 ho hi he
end
/-! ### x in a global row of texts -/
structure Gt (K : PySem.W.Frag) (mg : Str → Option Value) (x : Str) (cs : List (List Nat)) : Prop where
  ex : ∃ (g : Addr) (o : Obj) (its : Array Value) (n : Nat), mg x = some (.ref g) ∧ K.lookup g = some o ∧ o.cls = .type "tuple" ∧ o.data = .seq its n ∧ its.size ≤ sizeLine ∧ Vals ((cs.map toStr).map V.str) its.toList
def opInG (neg : Bool) (cs : List (List Nat)) (x : W) (h : Hh) : R W := match valD x h with
  | some a => if sh 64 a && sh 64 (.tup (cs.map .str)) then .ok (.d (.bl (if neg then !((cs.map D.str).any fun z => D.eqv z a) else (cs.map D.str).any fun z => D.eqv z a))) h else .no
  | none => .no
theorem dp_strs {K : PySem.W.Frag} {H : Hp} : ∀ cs : List (List Nat), DpAll K H ((cs.map toStr).map V.str) (pyL (cs.map D.str))
  | [] => .nil
  | c :: cs => by
    have := dp_strs (K := K) (H := H) cs
    simp only [List.map_cons, pyL, D.py]
    exact .cons (.str _) this
section
variable {X : Cx} {T : Tb} {Wx : WX} {k : Nat} {a : Expr} {ca : Cd} {pos p : Pos} {x : Str} {cs : List (List Nat)}
theorem inG_at {neg : Bool} {g : Addr} {o : Obj} {its : Array Value} {n : Nat} (h2 : X.K.lookup g = some o) (h3 : o.cls = .type "tuple") (h4 : o.data = .seq its n) (h5 : its.size ≤ sizeLine) (h6 : Vals ((cs.map toStr).map V.str) its.toList) {tg : TE} (htg : ∀ σ H Q, Q (.ref g) H → tg σ H Q) {σ : L2.St} {H : Hp} {Q : VK}
    (q : tOf X.K T Wx (c1 (opInG neg cs) ca) σ H Q) : tOp (rInF X.K neg) (tOf X.K T Wx ca) tg σ H Q := by
  obtain ⟨F, ρ, ev, ih, hr, re, hp⟩ := q
  refine ⟨F, ρ, ev, ih, hr, re, hp.bind.mono fun ρ1 H1 ih1 w g1 hr1 hp1 v r => htg _ _ _ ?_⟩
  unfold opInG at hp1
  split at hp1
  · rename_i d e1
    split at hp1
    · rename_i c
      rw [Bool.and_eq_true] at c
      refine ⟨_, .tuple (pyL (cs.map D.str)), pyL (cs.map D.str), valD_dp hr1 r e1, .tup (.inr ⟨o, its, n, h2, h3, h4, h5, h6⟩) (dp_strs cs), .inr rfl, sh_shaped c.1, sh_shaped c.2, ?_⟩
      rw [any_py]
      exact hp1.ok hr1 _ (.d (.bl _))
    · exact hp1.elim
  · exact hp1.elim
def bC1 (op : W → Hh → R W) (ca : Cd) : Cb := fun e h => asB (c1 op ca e h)
theorem e_inG (G : Cg X Wx k) (gt : Gt X.K X.mg x cs) (ha : FE X T Wx a ca) (hg : Gl X x := by rfl) (hd : (x == ("__debug__" : Str)) = false := by decide) (hm : behindInMarks .In (.Name x p) = false := by rfl) : FE X T Wx (.Compare a [.In] [.Name x p] pos) (c1 (opInG false cs) ca) := by
  obtain ⟨g, o, its, n, h1, h2, h3, h4, h5, h6⟩ := gt.ex
  exact PE.imp (pe_cmpR (opr_in G.hu65) ha (pe_glob (v := .ref g) hg h1 rfl hd) hm) fun σ H Q q => inG_at h2 h3 h4 h5 h6 (fun _ _ _ q => q) q
theorem e_ninG (G : Cg X Wx k) (gt : Gt X.K X.mg x cs) (ha : FE X T Wx a ca) (hg : Gl X x := by rfl) (hd : (x == ("__debug__" : Str)) = false := by decide) (hm : behindInMarks .NotIn (.Name x p) = false := by rfl) : FE X T Wx (.Compare a [.NotIn] [.Name x p] pos) (c1 (opInG true cs) ca) := by
  obtain ⟨g, o, its, n, h1, h2, h3, h4, h5, h6⟩ := gt.ex
  exact PE.imp (pe_cmpR (opr_notin G.hu65) ha (pe_glob (v := .ref g) hg h1 rfl hd) hm) fun σ H Q q => inG_at h2 h3 h4 h5 h6 (fun _ _ _ q => q) q
theorem t_inG (G : Cg X Wx k) (gt : Gt X.K X.mg x cs) (ha : FE X T Wx a ca) (hg : Gl X x := by rfl) (hd : (x == ("__debug__" : Str)) = false := by decide) (hm : behindInMarks .In (.Name x p) = false := by rfl) : FT' X T Wx (.Compare a [.In] [.Name x p] pos) (bC1 (opInG false cs) ca) := by
  obtain ⟨g, o, its, n, h1, h2, h3, h4, h5, h6⟩ := gt.ex
  exact PT.imp (pt_cmpR (opr_in G.hu65) ha (pe_glob (v := .ref g) hg h1 rfl hd) hm) fun σ H Q q => tst (fun σ H Q q => inG_at h2 h3 h4 h5 h6 (fun _ _ _ q => q) q) q
theorem t_ninG (G : Cg X Wx k) (gt : Gt X.K X.mg x cs) (ha : FE X T Wx a ca) (hg : Gl X x := by rfl) (hd : (x == ("__debug__" : Str)) = false := by decide) (hm : behindInMarks .NotIn (.Name x p) = false := by rfl) : FT' X T Wx (.Compare a [.NotIn] [.Name x p] pos) (bC1 (opInG true cs) ca) := by
  obtain ⟨g, o, its, n, h1, h2, h3, h4, h5, h6⟩ := gt.ex
  exact PT.imp (pt_cmpR (opr_notin G.hu65) ha (pe_glob (v := .ref g) hg h1 rfl hd) hm) fun σ H Q q => tst (fun σ H Q q => inG_at h2 h3 h4 h5 h6 (fun _ _ _ q => q) q) q
end
end Fz
set_option Elab.async false
set_option linter.all false
set_option maxRecDepth 100000
set_option maxHeartbeats 2000000
/-! Fz: texts of data that are equal but unlike (True and 1) differ. -/
namespace Fz
open PySem L2
def tx (s : Str) : List Nat := s.cps.toList
theorem tx_app (a b : Str) : tx (a ++ b) = tx a ++ tx b := by
  show (a.cps ++ b.cps).toList = _
  simp [tx]
def cma (l : List (List Nat)) : List Nat := (l.map ([44, 32] ++ ·)).flatten
def sq : List (List Nat) → List Nat
  | [] => []
  | t :: ts => t ++ cma ts
theorem tx_cm : tx (", " : String) = [44, 32] := by decide +kernel
theorem tx_from : ∀ (ts : List Str) (k : Nat) (acc : Str), 0 < k → tx (textFrom k acc ts) = tx acc ++ cma (ts.map tx)
  | [], _, acc, _ => by show tx acc = _; simp [cma]
  | t :: r, k, acc, hk => by
    show tx (textFrom (k + 1) (acc ++ (if k > 0 then ", " else "" : String) ++ t) r) = _
    rw [tx_from r (k + 1) _ (Nat.succ_pos k), tx_app, tx_app, if_pos hk, tx_cm]
    simp [cma]
theorem tx_e : tx ("" : String) = [] := by decide +kernel
theorem tx_from0 (ts : List Str) (acc : Str) : tx (textFrom 0 acc ts) = tx acc ++ sq (ts.map tx) := by
  cases ts with
  | nil => show tx acc = _; simp [sq]
  | cons t r =>
    show tx (textFrom 1 (acc ++ (if 0 > 0 then ", " else "" : String) ++ t) r) = _
    rw [tx_from r 1 _ (by decide), tx_app, tx_app, if_neg (by decide), tx_e]
    simp [sq]
theorem tx_join : ∀ ts : List Str, tx (Str.join ", " ts) = sq (ts.map tx)
  | [] => rfl
  | [x] => by show tx x = _; simp [sq, cma]
  | x :: y :: r => by
    show tx (x ++ ", " ++ Str.join ", " (y :: r)) = _
    rw [tx_app, tx_app, tx_join (y :: r), tx_cm]
    simp [sq, cma]
theorem shownAll_map : ∀ l : List D, (PyData.shownAll (pyL l)).map tx = l.map rp
  | [] => by simp only [pyL, PyData.shownAll, List.map_nil]
  | d :: r => by
    simp only [pyL, PyData.shownAll, List.map_cons, shownAll_map r]
    rfl
theorem rp_tup (l : List D) : rp (.tup l) = [40] ++ sq (l.map rp) ++ (if l.length = 1 then [44, 41] else [41]) := by
  show tx ((D.tup l).py.shown) = _
  simp only [D.py, PyData.shown]
  unfold tupleText
  rw [tx_app, tx_app, tx_join, shownAll_map]
  have e : (PyData.shownAll (pyL l)).length = l.length := by
    have := congrArg List.length (shownAll_map l)
    simpa using this
  rw [e, show tx ("(" : String) = [40] by decide +kernel]
  congr 1
  by_cases h : l.length = 1
  · rw [if_pos h, if_pos (by simp [h])]
    decide +kernel
  · rw [if_neg h, if_neg (by simp [h])]
    decide +kernel
theorem rp_lst (l : List D) : rp (.lst l) = [91] ++ sq (l.map rp) ++ [93] := by
  show tx ((D.lst l).py.shown) = _
  simp only [D.py, PyData.shown]
  unfold listText
  rw [tx_app, tx_from0, shownAll_map, show tx ("[" : String) = [91] by decide +kernel, show tx ("]" : String) = [93] by decide +kernel]
theorem rp_tr : rp (.bl true) = [84, 114, 117, 101] := by decide +kernel
theorem rp_fa : rp (.bl false) = [70, 97, 108, 115, 101] := by decide +kernel
theorem rp_0 : rp (.int 0) = [48] := by decide +kernel
theorem rp_1 : rp (.int 1) = [49] := by decide +kernel
theorem cma_cons (x : List Nat) (l : List (List Nat)) : cma (x :: l) = [44, 32] ++ x ++ cma l := by simp [cma]
mutual
theorem rp_pre : ∀ x y : D, D.eqv x y = true → ∀ s t, rp x ++ s = rp y ++ t → x = y
  | .non, y, h, s, t, e => by cases y <;> simp [D.eqv] at h; rfl
  | .bl a, .bl b, h, s, t, e => by simp [D.eqv] at h; rw [h]
  | .int a, .int b, h, s, t, e => by simp [D.eqv] at h; rw [h]
  | .str a, .str b, h, s, t, e => by simp [D.eqv] at h; rw [h]
  | .bl a, .int b, h, s, t, e => by
    simp only [D.eqv, beq_iff_eq] at h
    subst h
    cases a
    · rw [rp_fa, if_neg Bool.false_ne_true, rp_0] at e; simp at e
    · rw [rp_tr, if_pos rfl, rp_1] at e; simp at e
  | .int a, .bl b, h, s, t, e => by
    simp only [D.eqv, beq_iff_eq] at h
    subst h
    cases b
    · rw [rp_fa, if_neg Bool.false_ne_true, rp_0] at e; simp at e
    · rw [rp_tr, if_pos rfl, rp_1] at e; simp at e
  | .tup l, .tup m, h, s, t, e => by
    simp only [D.eqv] at h
    rw [rp_tup, rp_tup] at e
    match l, m with
    | [], [] => rfl
    | [], _ :: _ => simp [eqvL] at h
    | _ :: _, [] => simp [eqvL] at h
    | a :: l, b :: m =>
      simp only [eqvL, Bool.and_eq_true] at h
      simp only [List.map_cons, sq, List.append_assoc, List.cons_append, List.nil_append, List.cons.injEq, true_and] at e
      have := rp_pre a b h.1 _ _ e
      subst this
      have := rpL_pre l m h.2 _ _ (List.append_cancel_left e)
      rw [this]
  | .lst l, .lst m, h, s, t, e => by
    simp only [D.eqv] at h
    rw [rp_lst, rp_lst] at e
    match l, m with
    | [], [] => rfl
    | [], _ :: _ => simp [eqvL] at h
    | _ :: _, [] => simp [eqvL] at h
    | a :: l, b :: m =>
      simp only [eqvL, Bool.and_eq_true] at h
      simp only [List.map_cons, sq, List.append_assoc, List.cons_append, List.nil_append, List.cons.injEq, true_and] at e
      have := rp_pre a b h.1 _ _ e
      subst this
      have := rpL_pre l m h.2 _ _ (List.append_cancel_left e)
      rw [this]
  | .bl a, .non, h, s, t, e | .bl a, .str _, h, s, t, e | .bl a, .tup _, h, s, t, e | .bl a, .lst _, h, s, t, e => by simp [D.eqv] at h
  | .int a, .non, h, s, t, e | .int a, .str _, h, s, t, e | .int a, .tup _, h, s, t, e | .int a, .lst _, h, s, t, e => by simp [D.eqv] at h
  | .str a, .non, h, s, t, e | .str a, .bl _, h, s, t, e | .str a, .int _, h, s, t, e | .str a, .tup _, h, s, t, e | .str a, .lst _, h, s, t, e => by simp [D.eqv] at h
  | .tup a, .non, h, s, t, e | .tup a, .bl _, h, s, t, e | .tup a, .int _, h, s, t, e | .tup a, .str _, h, s, t, e | .tup a, .lst _, h, s, t, e => by simp [D.eqv] at h
  | .lst a, .non, h, s, t, e | .lst a, .bl _, h, s, t, e | .lst a, .int _, h, s, t, e | .lst a, .str _, h, s, t, e | .lst a, .tup _, h, s, t, e => by simp [D.eqv] at h
theorem rpL_pre : ∀ l m : List D, eqvL l m = true → ∀ s t, cma (l.map rp) ++ s = cma (m.map rp) ++ t → l = m
  | [], [], _, _, _, _ => rfl
  | [], _ :: _, h, _, _, _ => by simp [eqvL] at h
  | _ :: _, [], h, _, _, _ => by simp [eqvL] at h
  | a :: l, b :: m, h, s, t, e => by
    simp only [eqvL, Bool.and_eq_true] at h
    rw [List.map_cons, List.map_cons, cma_cons, cma_cons] at e
    simp only [List.append_assoc, List.cons_append, List.nil_append, List.cons.injEq, true_and] at e
    have := rp_pre a b h.1 _ _ e
    subst this
    have := rpL_pre l m h.2 _ _ (List.append_cancel_left e)
    rw [this]
end
theorem rp_inj {x y : D} (h : D.eqv x y = true) (e : rp x = rp y) : x = y := rp_pre x y h [] [] (by rw [e])
theorem rp_eqS {x y : D} {h : Hh} (he : D.eqv x y = true) : opEqS (.d (.str (rp x))) (.d (.str (rp y))) h = .ok (.d (.bl (D.beq x y))) h := by
  unfold opEqS
  dsimp only
  congr 3
  rw [Bool.eq_iff_iff, D.beq_iff, beq_iff_eq]
  exact ⟨rp_inj he, fun e => by rw [e]⟩
/-- actual == due and repr(actual) == repr(due), of what is as it should be or differs -/
theorem and_same {a b : Cd} {e : Ev} {h : Hh} {x y : D} (ha : a e h = .ok (.d x) h) (hb : b e h = .ok (.d y) h) (hx : canShow x = true) (hy : canShow y = true) :
    cAnd (c2 (opEq false) a b) (c2 opEqS (cCl biRepr (aCons a aNil)) (cCl biRepr (aCons b aNil))) e h = .ok (.d (.bl (D.beq x y))) h := by
  have sx : sh 64 x = true := sh_up 60 64 (by omega) x (by unfold canShow at hx; simp only [Bool.and_eq_true] at hx; exact hx.1.1)
  have sy : sh 64 y = true := sh_up 60 64 (by omega) y (by unfold canShow at hy; simp only [Bool.and_eq_true] at hy; exact hy.1.1)
  have e1 : c2 (opEq false) a b e h = .ok (.d (.bl (D.eqv x y))) h := by
    unfold c2
    rw [ha, R.bind_ok, hb, R.bind_ok]
    unfold opEq
    simp [valD, sx, sy]
  have r1 : cCl biRepr (aCons a aNil) e h = .ok (.d (.str (rp x))) h := by
    unfold cCl aCons aNil
    rw [ha]
    simp [biRepr, valD, hx]
  have r2 : cCl biRepr (aCons b aNil) e h = .ok (.d (.str (rp y))) h := by
    unfold cCl aCons aNil
    rw [hb]
    simp [biRepr, valD, hy]
  unfold cAnd
  rw [e1, R.bind_ok]
  cases he : D.eqv x y with
  | false =>
    have : D.beq x y = false := by
      cases hq : D.beq x y with
      | false => rfl
      | true =>
        rw [D.beq_iff] at hq
        subst hq
        rw [eqv_refl] at he
        cases he
    rw [this]
    rfl
  | true =>
    show (R.ok true h).bind _ = _
    rw [R.bind_ok, if_pos rfl]
    unfold c2
    rw [r1, R.bind_ok, r2, R.bind_ok, rp_eqS he]
end Fz
set_option Elab.async false
set_option linter.all false
set_option maxRecDepth 100000
set_option maxHeartbeats 2000000
/-! Fz: plain laws: rules that go along the code, from what is asked at the end. -/
namespace Fz
def Br (k : Bool) (A B : Prop) : Prop := match k with
  | true => A
  | false => B
def Bo (P : Bool → Hh → Prop) (w : W) (h : Hh) : Prop := match w with
  | .d (.bl k) => P k h
  | _ => False
def So {α : Type} (o : Option α) (K : α → Prop) : Prop := ∃ x, o = some x ∧ K x
def Cm (n m : Nat) (A : Prop) : Prop := n = m ∧ A
def isiAt (ty : Ty) (w : W) (h : Hh) : Option Bool := match w with
  | .d x => some (isD ty x)
  | .r n => match h[n]? with
    | some (.lst _) => some (match ty with | .lst => true | _ => false)
    | _ => none
  | .f _ => none
def Dw (w : W) (K : D → Prop) : Prop := ∃ d, w = .d d ∧ K d
section
variable {α : Type} {a b c : Cd} {aa : Ca} {t u : Cb} {x y : Cs} {e e' : Ev} {h h' : Hh} {w v : W} {P : W → Hh → Prop} {PB : Bool → Hh → Prop} {PA : List W → Hh → Prop} {PO : Option Int → Hh → Prop} {E : Nat → W → Hh → Prop} {Q : SR → Prop} {A B : Prop} {k : Bool}
  {o : W → Hh → R W} {op op' : W → W → Hh → R W} {ol : List W → Hh → R W} {d : D} {i n m : Nat} {g : Fn} {l : List D} {ws : List W} {p : W} {fd : Nat}
theorem is_ok {α : Type} {m : R α} {P : α → Hh → Prop} (q : Ok m P E) : Ok m P E := q
theorem is_sk {m : SR} (q : Sk m Q) : Sk m Q := q
theorem is_br (q : Br k A B) : Br k A B := q
theorem br_t (q : A) : Br true A B := q
theorem br_f (q : B) : Br false A B := q
theorem br_tt (z : k = true) (q : A) : Br k A B := by subst z; exact q
theorem br_ff (z : k = false) (q : B) : Br k A B := by subst z; exact q
theorem br_c (q : k = true → A) (r : k = false → B) : Br k A B := by cases k <;> simp_all [Br]
theorem br_d {C : Prop} [Decidable C] (q : C → A) (r : ¬ C → B) : Br (decide C) A B := br_c (fun z => q (of_decide_eq_true z)) fun z => r (of_decide_eq_false z)
theorem br_dt {C : Prop} [Decidable C] (z : C) (q : A) : Br (decide C) A B := by rw [decide_eq_true z]; exact q
theorem br_df {C : Prop} [Decidable C] (z : ¬ C) (q : B) : Br (decide C) A B := by rw [decide_eq_false z]; exact q
theorem br_n (q : Br k B A) : Br (!k) A B := by cases k <;> exact q
theorem bo_b (q : PB k h) : Bo PB (.d (.bl k)) h := q
theorem so_i {o : Option α} {x : α} {K : α → Prop} (q : o = some x) (r : K x) : So o K := ⟨x, q, r⟩
theorem cm_i (q : n = m) (r : A) : Cm n m A := ⟨q, r⟩
theorem dw_i {K : D → Prop} (q : K d) : Dw (.d d) K := ⟨d, rfl, q⟩
theorem wp_eq {m : R α} {a : α} {P : α → Hh → Prop} (q : m = .ok a h) (p : P a h) : Ok m P E := by subst q; exact p
theorem wp_ex {m : R α} {P : α → Hh → Prop} (q : m = .ex n w h) (p : E n w h) : Ok m P E := by subst q; exact p
theorem wp_ok {a : α} {P : α → Hh → Prop} (p : P a h) : Ok (.ok a h) P E := p
theorem wp_bind {β : Type} {m : R α} {f : α → Hh → R β} {P : β → Hh → Prop} (p : Ok m (fun a h => Ok (f a h) P E) E) : Ok (m.bind f) P E := by rw [ok_bind]; exact p
/-- a call that is known to end so -/
theorem wp_mono {m : R α} {P P' : α → Hh → Prop} {E E' : Nat → W → Hh → Prop} (q : Ok m P' E') (f : ∀ a h, P' a h → P a h) (g : ∀ c p h, E' c p h → E c p h) : Ok m P E := q.mono f g
theorem wp_n {m : R α} {P P' : α → Hh → Prop} (q : Ok m P' noE) (f : ∀ a h, P' a h → P a h) : Ok m P E := q.mono f fun _ _ _ z => z.elim
theorem wp_cv (q : e[i]? = some (some w)) (p : P w h) : Ok (cv i e h) P E := by unfold cv; rw [q]; exact p
theorem wp_cc (p : P (.d d) h) : Ok (cc d e h) P E := p
theorem wp_cF {q : List Nat} (p : P (.f q) h) : Ok (cF q e h) P E := p
theorem wp_c1 (p : Ok (a e h) (fun x h => Ok (o x h) P E) E) : Ok (c1 o a e h) P E := by unfold c1; exact wp_bind p
theorem wp_c2 (p : Ok (a e h) (fun x h => Ok (b e h) (fun y h => Ok (op x y h) P E) E) E) : Ok (c2 op a b e h) P E := by
  unfold c2
  refine wp_bind (Ok.mono p (fun _ _ q => wp_bind q) fun _ _ _ q => q)
theorem wp_cl (p : Ok (aa e h) (fun xs h => Ok (ol xs h) P E) E) : Ok (cCl ol aa e h) P E := by unfold cCl; exact wp_bind p
theorem wp_nil (p : PA [] h) : Ok (aNil e h) PA E := p
theorem wp_cons (p : Ok (a e h) (fun x h => Ok (aa e h) (fun xs h => PA (x :: xs) h) E) E) : Ok (aCons a aa e h) PA E := by
  unfold aCons
  refine wp_bind (Ok.mono p (fun _ _ q => wp_bind q) fun _ _ _ q => q)
theorem wp_cIf (p : Ok (t e h) (fun k h => Br k (Ok (a e h) P E) (Ok (b e h) P E)) E) : Ok (cIf t a b e h) P E := by
  unfold cIf
  exact wp_bind (Ok.mono p (fun k _ q => by cases k <;> exact q) fun _ _ _ q => q)
theorem wp_cT (p : Ok (a e h) (fun x h => Ok (tru x h) PB E) E) : Ok (cT a e h) PB E := by unfold cT; exact wp_bind p
theorem wp_bAnd (p : Ok (t e h) (fun k h => Br k (Ok (u e h) PB E) (PB false h)) E) : Ok (bAnd t u e h) PB E := by
  unfold bAnd
  exact wp_bind (Ok.mono p (fun k _ q => by cases k <;> exact q) fun _ _ _ q => q)
theorem wp_bOr (p : Ok (t e h) (fun k h => Br k (PB true h) (Ok (u e h) PB E)) E) : Ok (bOr t u e h) PB E := by
  unfold bOr
  exact wp_bind (Ok.mono p (fun k _ q => by cases k <;> exact q) fun _ _ _ q => q)
theorem wp_bNot (p : Ok (t e h) (fun k h => PB (!k) h) E) : Ok (bNot t e h) PB E := by unfold bNot; exact wp_bind p
theorem wp_asB {m : R W} (p : Ok m (Bo PB) E) : Ok (asB m) PB E := by
  unfold asB
  refine wp_bind (Ok.mono p (fun w h q => ?_) fun _ _ _ q => q)
  unfold Bo at q
  split at q
  · exact q
  · exact q.elim
theorem wp_bC (p : Ok (a e h) (fun x h => Ok (b e h) (fun y h => Ok (op x y h) (Bo PB) E) E) E) : Ok (bC op a b e h) PB E := by
  unfold bC
  exact wp_asB (wp_c2 p)
theorem wp_bC1 (p : Ok (a e h) (fun x h => Ok (o x h) (Bo PB) E) E) : Ok (bC1 o a e h) PB E := by
  unfold bC1
  exact wp_asB (wp_c1 p)
theorem wp_cch (p : Ok (a e h) (fun x h => Ok (b e h) (fun y h => Ok (op x y h) (Bo fun k h => Br k (Ok (c e h) (fun z h => Ok (op' y z h) P E) E) (P (.d (.bl false)) h)) E) E) E) : Ok (cch op op' a b c e h) P E := by
  unfold cch
  refine wp_bind (Ok.mono p (fun _ _ q => wp_bind (Ok.mono q (fun _ _ q => wp_bind (wp_asB (Ok.mono q (fun w h q => ?_) fun _ _ _ q => q))) fun _ _ _ q => q)) fun _ _ _ q => q)
  unfold Bo at q ⊢
  split at q
  · rename_i k
    cases k
    · exact q
    · exact wp_bind q
  · exact q.elim
theorem wp_bCh (p : Ok (a e h) (fun x h => Ok (b e h) (fun y h => Ok (op x y h) (Bo fun k h => Br k (Ok (c e h) (fun z h => Ok (op' y z h) (Bo PB) E) E) (PB false h)) E) E) E) : Ok (bCh op op' a b c e h) PB E := by
  unfold bCh
  exact wp_asB (wp_cch p)
theorem wp_and (p : Ok (a e h) (fun x h => Ok (tru x h) (fun k h => Br k (Ok (b e h) P E) (P x h)) E) E) : Ok (cAnd a b e h) P E := by
  unfold cAnd
  exact wp_bind (Ok.mono p (fun w _ q => wp_bind (Ok.mono q (fun k _ q => by cases k <;> exact q) fun _ _ _ q => q)) fun _ _ _ q => q)
theorem wp_or (p : Ok (a e h) (fun x h => Ok (tru x h) (fun k h => Br k (P x h) (Ok (b e h) P E)) E) E) : Ok (cOr a b e h) P E := by
  unfold cOr
  exact wp_bind (Ok.mono p (fun w _ q => wp_bind (Ok.mono q (fun k _ q => by cases k <;> exact q) fun _ _ _ q => q)) fun _ _ _ q => q)
theorem wp_not (p : Ok (a e h) (fun x h => Ok (tru x h) (fun k h => P (.d (.bl (!k))) h) E) E) : Ok (cNot a e h) P E := by
  unfold cNot
  exact wp_bind (Ok.mono p (fun w _ q => wp_bind q) fun _ _ _ q => q)
theorem wp_call (p : Ok (aa e h) (fun ws h => Cm ws.length n (Ok (g ws h) P E)) E) : Ok (cCall false n g aa e h) P E := by
  unfold cCall
  refine wp_bind (Ok.mono p (fun ws h q => ?_) fun _ _ _ q => q)
  obtain ⟨q1, q2⟩ := q
  rw [if_pos q1, if_neg Bool.false_ne_true]
  exact q2
theorem wp_callP (p : Ok (aa e h) (fun ws h => Cm ws.length n (Ok (pure' g ws h) P E)) E) : Ok (cCall true n g aa e h) P E := by
  unfold cCall
  refine wp_bind (Ok.mono p (fun ws h q => ?_) fun _ _ _ q => q)
  obtain ⟨q1, q2⟩ := q
  rw [if_pos q1, if_pos rfl]
  exact q2
theorem wp_pure {ds : List D} (q : allD ws = some ds) (p : Ok (g ws []) (fun w _ => Dw w fun d => P (.d d) h) (fun c w _ => Dw w fun d => E c (.d d) h)) : Ok (pure' g ws h) P E := by
  unfold pure'
  rw [q]
  dsimp only
  cases hg : g ws [] with
  | ok w h' => rw [hg] at p; obtain ⟨d, rfl, p⟩ := p; exact p
  | ex c w h' => rw [hg] at p; obtain ⟨d, rfl, p⟩ := p; exact p
  | no => rw [hg] at p; exact p
theorem wp_isi {ty : Ty} (p : Ok (a e h) (fun w h => So (isiAt ty w h) fun k => P (.d (.bl k)) h) E) : Ok (cIsi ty a e h) P E := by
  unfold cIsi
  refine wp_bind (Ok.mono p (fun w h q => ?_) fun _ _ _ q => q)
  obtain ⟨k, q1, q2⟩ := q
  cases w with
  | d x => cases q1; exact q2
  | f _ => cases q1
  | r n =>
    unfold isiAt at q1
    dsimp only at q1 ⊢
    cases hh : h[n]? with
    | none => rw [hh] at q1; cases q1
    | some ob =>
      rw [hh] at q1
      cases ob <;> first | (cases q1; exact q2) | cases q1
theorem wp_oN (p : PO none h) : Ok (oN e h) PO E := p
theorem wp_oS (p : Ok (a e h) (fun w h => So (match w with | .d (.int i) => some i | _ => none) fun i => PO (some i) h) E) : Ok (oS a e h) PO E := by
  unfold oS
  refine wp_bind (Ok.mono p (fun w h q => ?_) fun _ _ _ q => q)
  obtain ⟨k, q1, q2⟩ := q
  split at q1
  · cases q1; exact q2
  · cases q1
theorem wp_cSl {mm : Bool} {lo hi : Co} (p : Ok (a e h) (fun x h => Ok (lo e h) (fun l h => Ok (hi e h) (fun u h => Ok (opSl mm x l u h) P E) E) E) E) : Ok (cSl mm a lo hi e h) P E := by
  unfold cSl
  exact wp_bind (Ok.mono p (fun _ _ q => wp_bind (Ok.mono q (fun _ _ q => wp_bind q) fun _ _ _ q => q)) fun _ _ _ q => q)
theorem wp_sl_t {mm : Bool} {lo hi : Option Int} (p : P (.d (.tup (cut l lo hi))) h) : Ok (opSl mm (.d (.tup l)) lo hi h) P E := p
theorem wp_fld (p : Ok (a e h) (fun x h => So (match x with
  | .r i => match h[i]? with
    | some (.ins _ fs) => lkf fd fs
    | _ => none
  | _ => none) fun w => P w h) E) : Ok (cFld fd a e h) P E := by
  unfold cFld
  refine wp_bind (Ok.mono p (fun x h q => ?_) fun _ _ _ q => q)
  obtain ⟨k, q1, q2⟩ := q
  split at q1
  · split at q1
    · rename_i fs e1
      simp only [e1, q1]
      exact q2
    · cases q1
  · cases q1
/-! ### operations -/
section
variable {i j : Int}
theorem wp_addI (p : P (.d (.int (i + j))) h) : Ok (opAdd k (.d (.int i)) (.d (.int j)) h) P E := p
theorem wp_subI (p : P (.d (.int (i - j))) h) : Ok (opSub (.d (.int i)) (.d (.int j)) h) P E := p
theorem wp_mulI (hm : -(2 ^ 64) < j ∧ j < 2 ^ 64) (p : P (.d (.int (i * j))) h) : Ok (opMul k (.d (.int i)) (.d (.int j)) h) P E := by
  unfold opMul
  dsimp only
  rw [if_pos (.inr hm)]
  exact p
theorem wp_mod (hm : 0 < j) (p : P (.d (.int (i % j))) h) : Ok (opMod (.d (.int i)) (.d (.int j)) h) P E := by rw [z_mod hm]; exact p
theorem wp_fdiv (hm : 0 < j ∧ j < 1073741824) (p : P (.d (.int (i / j))) h) : Ok (opFdiv (.d (.int i)) (.d (.int j)) h) P E := by rw [z_fdiv hm]; exact p
theorem wp_neg (p : P (.d (.int (-i))) h) : Ok (opNeg (.d (.int i)) h) P E := p
theorem wp_lt (p : P (.d (.bl (decide (i < j)))) h) : Ok (opLt (.d (.int i)) (.d (.int j)) h) P E := p
theorem wp_le (p : P (.d (.bl (decide (i ≤ j)))) h) : Ok (opLe (.d (.int i)) (.d (.int j)) h) P E := p
theorem wp_gt (p : P (.d (.bl (decide (j < i)))) h) : Ok (opGt (.d (.int i)) (.d (.int j)) h) P E := p
theorem wp_ge (p : P (.d (.bl (decide (j ≤ i)))) h) : Ok (opGe (.d (.int i)) (.d (.int j)) h) P E := p
theorem wp_eqI (p : P (.d (.bl (decide (i = j)))) h) : Ok (opEq false (.d (.int i)) (.d (.int j)) h) P E := wp_eq z_eqI (by rw [if_neg Bool.false_ne_true]; exact p)
theorem wp_neI (p : P (.d (.bl (!decide (i = j)))) h) : Ok (opEq true (.d (.int i)) (.d (.int j)) h) P E := wp_eq z_eqI (by rw [if_pos rfl]; exact p)
theorem wp_max2 (p : P (.d (.int (if j > i then j else i))) h) : Ok (biMax2 [.d (.int i), .d (.int j)] h) P E := p
theorem wp_int (p : P (.d (.int i)) h) : Ok (biInt [.d (.int i)] h) P E := p
theorem wp_truI (p : PB (!decide (i = 0)) h) : Ok (tru (.d (.int i)) h) PB E := by
  show PB (i != 0) h
  have : (i != 0) = !decide (i = 0) := by by_cases q : i = 0 <;> simp [q]
  rw [this]
  exact p
end
theorem isN_dec : W.isN (.d d) = decide (d = .non) := by cases d <;> simp [W.isN]
theorem wp_isN (p : P (.d (.bl (decide (d = .non)))) h) : Ok (opNone false (.d d) (.d .non) h) P E := by
  rw [← isN_dec] at p
  exact p
theorem wp_isN1 (p : P (.d (.bl true)) h) : Ok (opNone false (.d .non) (.d .non) h) P E := p
theorem wp_isNr (p : P (.d (.bl false)) h) : Ok (opNone false (.r n) (.d .non) h) P E := p
theorem wp_isNI {i : Int} (p : P (.d (.bl false)) h) : Ok (opNone false (.d (.int i)) (.d .non) h) P E := p
theorem wp_isNT (p : P (.d (.bl false)) h) : Ok (opNone false (.d (.tup l)) (.d .non) h) P E := p
theorem wp_notN (p : P (.d (.bl (!decide (d = .non)))) h) : Ok (opNone true (.d d) (.d .non) h) P E := by
  rw [← isN_dec] at p
  exact p
theorem wp_notN1 (p : P (.d (.bl false)) h) : Ok (opNone true (.d .non) (.d .non) h) P E := p
theorem wp_notNr (p : P (.d (.bl true)) h) : Ok (opNone true (.r n) (.d .non) h) P E := p
theorem wp_notNI {i : Int} (p : P (.d (.bl true)) h) : Ok (opNone true (.d (.int i)) (.d .non) h) P E := p
theorem wp_notNT (p : P (.d (.bl true)) h) : Ok (opNone true (.d (.tup l)) (.d .non) h) P E := p
theorem wp_truB (p : PB k h) : Ok (tru (.d (.bl k)) h) PB E := p
theorem wp_truN (p : PB false h) : Ok (tru (.d .non) h) PB E := p
theorem wp_truT (p : PB (!l.isEmpty) h) : Ok (tru (.d (.tup l)) h) PB E := p
theorem wp_truL (p : PB (!l.isEmpty) h) : Ok (tru (.d (.lst l)) h) PB E := p
theorem wp_len1 (p : P (.d (.int l.length)) h) : Ok (biLen [.d (.tup l)] h) P E := p
theorem wp_len2 (p : P (.d (.int l.length)) h) : Ok (biLen [.d (.lst l)] h) P E := p
theorem wp_tupT (p : P (.d (.tup l)) h) : Ok (biTuple [.d (.tup l)] h) P E := p
theorem wp_tupL (hl : l.length ≤ 16777216) (p : P (.d (.tup l)) h) : Ok (biTuple [.d (.lst l)] h) P E := by
  unfold biTuple
  simp only [lstW]
  unfold mkT
  rw [allD_map]
  dsimp only
  rw [if_pos hl]
  exact p
theorem wp_revT (p : P (.d (.tup l.reverse)) h) : Ok (opRevT (.d (.tup l)) h) P E := p
theorem wp_mkT {ds : List D} (q : allD ws = some ds) (hl : ds.length ≤ 16777216) (p : P (.d (.tup ds)) h) : Ok (mkT ws h) P E := by
  unfold mkT
  rw [q]
  dsimp only
  rw [if_pos hl]
  exact p
theorem wp_mkL {ds : List D} (q : allD ws = some ds) (hl : ds.length ≤ 16777216) (p : P (.d (.lst ds)) h) : Ok (mkL ws h) P E := by
  unfold mkL
  rw [q]
  dsimp only
  rw [if_pos hl]
  exact p
theorem wp_mkM (hl : ws.length ≤ 16777216) (p : P (.r h.length) (h ++ [.lst ws])) : Ok (mkM ws h) P E := by
  unfold mkM
  rw [if_pos hl]
  exact p
theorem wp_ixt {j : Nat} {x : D} (q : l[j]? = some x) (p : P (.d x) h) : Ok (opIx (.d (.tup l)) (.d (.int j)) h) P E := wp_eq (ix_t q) p
theorem wp_ixl {j : Nat} {x : D} (q : l[j]? = some x) (p : P (.d x) h) : Ok (opIx (.d (.lst l)) (.d (.int j)) h) P E := wp_eq (ix_l q) p
theorem wp_ixr {j : Nat} {x : W} {l : List W} (hn : h[n]? = some (.lst l)) (q : l[j]? = some x) (p : P x h) : Ok (opIx (.r n) (.d (.int j)) h) P E := wp_eq (ix_r hn q) p
/-! ### statements -/
theorem wp_seq (p : Sk (x e h) (Thn y Q)) : Sk (sSeq x y e h) Q := by rw [z_seq, sk_bind]; exact p
theorem wp_thn (q : e = e') (p : Sk (y e' h) Q) : Thn y Q (.nx e h) := by subst q; exact p
theorem wp_thR (p : Q (.rt w h)) : Thn y Q (.rt w h) := p
theorem wp_thX (p : Q (.ex n w e h)) : Thn y Q (.ex n w e h) := p
theorem wp_thB (p : Q (.bk e h)) : Thn y Q (.bk e h) := p
theorem wp_thC (p : Q (.ct e h)) : Thn y Q (.ct e h) := p
theorem wp_nx (p : Q (.nx e h)) : Sk (sNx e h) Q := p
theorem wp_bk (p : Q (.bk e h)) : Sk (sBk e h) Q := p
theorem wp_ct (p : Q (.ct e h)) : Sk (sCt e h) Q := p
theorem wp_ret (p : Ok (a e h) (fun w h => Q (.rt w h)) (fun c p h => Q (.ex c p e h))) : Sk (sRet a e h) Q := by rw [z_ret, sk_lift]; exact p
theorem wp_retN (p : Q (.rt (.d .non) h)) : Sk (sRetN e h) Q := p
theorem wp_expr (p : Ok (a e h) (fun w h => Q (.nx e h)) (fun c p h => Q (.ex c p e h))) : Sk (sExpr a e h) Q := by rw [z_expr, sk_lift]; exact p
theorem wp_if (p : Ok (t e h) (fun k h => Br k (Sk (x e h) Q) (Sk (y e h) Q)) (fun c p h => Q (.ex c p e h))) : Sk (sIf t x y e h) Q := by
  rw [z_if, sk_lift]
  exact Ok.mono p (fun k h q => by cases k <;> exact q) fun _ _ _ q => q
theorem wp_asgN (p : Ok (a e h) (fun w h => Q (.nx (e.set i (some w)) h)) (fun c p h => Q (.ex c p e h))) : Sk (sAsg a (tN i) e h) Q := by rw [z_asg, sk_lift]; exact p
theorem wp_asg {tg : Ct} (p : Ok (a e h) (fun w h => So (tg w e h) fun e' => Q (.nx e' h)) (fun c p h => Q (.ex c p e h))) : Sk (sAsg a tg e h) Q := by
  rw [z_asg, sk_lift]
  refine Ok.mono p (fun w h q => ?_) fun _ _ _ q => q
  obtain ⟨e', q1, q2⟩ := q
  rw [q1]
  exact q2
theorem wp_par {tg : Cts} (p : Ok (aa e h) (fun ws h => So (tg ws e h) fun e' => Q (.nx e' h)) (fun c p h => Q (.ex c p e h))) : Sk (sPar aa tg e h) Q := by
  rw [z_par, sk_lift]
  refine Ok.mono p (fun w h q => ?_) fun _ _ _ q => q
  obtain ⟨e', q1, q2⟩ := q
  rw [q1]
  exact q2
theorem wp_set (p : Ok (a e h) (fun w h => Ok (b e h) (fun x h => Ok (c e h) (fun y h => So (setAt x y w h) fun h' => Q (.nx e h')) (fun c p h => Q (.ex c p e h))) (fun c p h => Q (.ex c p e h))) (fun c p h => Q (.ex c p e h))) : Sk (sSet a b c e h) Q := by
  rw [z_set, sk_lift]
  refine Ok.mono p (fun w h q => ?_) fun _ _ _ q => q
  rw [sk_lift]
  refine Ok.mono q (fun x h q => ?_) fun _ _ _ q => q
  rw [sk_lift]
  refine Ok.mono q (fun y h q => ?_) fun _ _ _ q => q
  obtain ⟨h', q1, q2⟩ := q
  rw [q1]
  exact q2
theorem wp_dset (p : Ok (a e h) (fun w h => Ok (b e h) (fun x h => Ok (c e h) (fun y h => So (dPut x y w h) fun h' => Q (.nx e h')) (fun c p h => Q (.ex c p e h))) (fun c p h => Q (.ex c p e h))) (fun c p h => Q (.ex c p e h))) : Sk (sDSet a b c e h) Q := by
  unfold sDSet
  rw [sk_lift]
  refine Ok.mono p (fun w h q => ?_) fun _ _ _ q => q
  rw [sk_lift]
  refine Ok.mono q (fun x h q => ?_) fun _ _ _ q => q
  rw [sk_lift]
  refine Ok.mono q (fun y h q => ?_) fun _ _ _ q => q
  obtain ⟨h', q1, q2⟩ := q
  rw [q1]
  exact q2
theorem wp_sfld (p : Ok (a e h) (fun w h => Ok (b e h) (fun x h => So (putF' x fd w h) fun h' => Q (.nx e h')) (fun c p h => Q (.ex c p e h))) (fun c p h => Q (.ex c p e h))) : Sk (sFld fd b a e h) Q := by
  unfold sFld
  rw [sk_lift]
  refine Ok.mono p (fun w h q => ?_) fun _ _ _ q => q
  rw [sk_lift]
  refine Ok.mono q (fun x h q => ?_) fun _ _ _ q => q
  obtain ⟨h', q1, q2⟩ := q
  rw [q1]
  exact q2
theorem wp_aug (q : e[i]? = some (some v)) (p : Ok (a e h) (fun y h => Ok (op v y h) (fun w h => Q (.nx (e.set i (some w)) h)) (fun c p h => Q (.ex c p e h))) (fun c p h => Q (.ex c p e h))) : Sk (sAug i op a e h) Q := by
  unfold sAug
  rw [q]
  dsimp only
  rw [sk_lift]
  exact wp_bind p
theorem wp_raise (p : Ok (a e h) (fun w h => Cm (okP w).toNat 1 (Q (.ex n w e h))) (fun c p h => Q (.ex c p e h))) : Sk (sRaise n a e h) Q := by
  unfold sRaise
  rw [sk_lift]
  refine Ok.mono p (fun w h q => ?_) fun _ _ _ q => q
  obtain ⟨q1, q2⟩ := q
  have : okP w = true := by cases hw : okP w <;> simp_all
  rw [if_pos this]
  exact q2
theorem wp_tuN {I : Ev → Hh → Prop} (q : e = e') (p : I e' h) : Turn' I Q (.nx e h) := by subst q; exact p
theorem wp_tuC {I : Ev → Hh → Prop} (q : e = e') (p : I e' h) : Turn' I Q (.ct e h) := by subst q; exact p
theorem wp_tuB {I : Ev → Hh → Prop} (p : Q (.nx e h)) : Turn' I Q (.bk e h) := p
theorem wp_tuR {I : Ev → Hh → Prop} (p : Q (.rt w h)) : Turn' I Q (.rt w h) := p
theorem wp_tuX {I : Ev → Hh → Prop} (p : Q (.ex n w e h)) : Turn' I Q (.ex n w e h) := p
theorem wp_reR {P : W → Hh → Prop} (p : P w h) : Ret P E (.rt w h) := p
theorem wp_reN {P : W → Hh → Prop} (p : P (.d .non) h) : Ret P E (.nx e h) := p
theorem wp_reX {P : W → Hh → Prop} (p : E n w h) : Ret P E (.ex n w e h) := p
/-- a def's body -/
theorem wp_fn {n N : Nat} {bd : Cs} {ws : List W} (hw : ws.length = n) (he : ws.map some ++ List.replicate (N - n) none = e) (q : Sk (bd e h) (Ret P E)) : Ok (mkFn n N bd ws h) P E := by
  subst he
  exact ok_fn hw q
theorem wp_eqS {s s' : List Nat} (p : P (.d (.bl (decide (s = s')))) h) : Ok (opEqS (.d (.str s)) (.d (.str s')) h) P E := by
  have : (s == s') = decide (s = s') := by rw [Bool.eq_iff_iff]; simp
  show Ok (.ok (.d (.bl (s == s'))) h) P E
  rw [this]
  exact p
theorem wp_repr (z : canShow d = true) (p : P (.d (.str (rp d))) h) : Ok (biRepr [.d d] h) P E := by
  unfold biRepr
  simp only [valD, z]
  exact p
theorem cut_mem {α : Type} {l : List α} {lo hi : Option Int} {x : α} (h : x ∈ cut l lo hi) : x ∈ l := List.mem_of_mem_drop (List.mem_of_mem_take h)
theorem cut_to {α : Type} {l : List α} {j : Nat} (hj : j ≤ l.length) : cut l none (some (j : Int)) = l.take j := by
  unfold cut
  have h1 : HT.sIx l.length l.length (some (j : Int)) = j := by simp only [HT.sIx]; split <;> omega
  have h2 : HT.sIx l.length 0 none = 0 := rfl
  rw [h1, h2]
  simp
theorem cut_ab {α : Type} {l : List α} {i j : Nat} (hi : i ≤ l.length) (hj : j ≤ l.length) : cut l (some (i : Int)) (some (j : Int)) = (l.drop i).take (j - i) := by
  unfold cut
  have h1 : HT.sIx l.length l.length (some (j : Int)) = j := by simp only [HT.sIx]; split <;> omega
  have h2 : HT.sIx l.length 0 (some (i : Int)) = i := by simp only [HT.sIx]; split <;> omega
  rw [h1, h2]
theorem wp_addTT {mm : Bool} {l' : List D} (hl : l.length + l'.length ≤ 16777216) (p : P (.d (.tup (l ++ l'))) h) : Ok (opAdd mm (.d (.tup l)) (.d (.tup l')) h) P E := by
  unfold opAdd
  dsimp only
  rw [if_pos hl]
  exact p
theorem wp_addLL {l' : List D} (hl : l.length + l'.length ≤ 16777216) (p : P (.d (.lst (l ++ l'))) h) : Ok (opAdd false (.d (.lst l)) (.d (.lst l')) h) P E := by
  unfold opAdd
  simp only [lstW, fin, ← List.map_append, Bool.false_eq_true, if_false]
  unfold mkL
  rw [allD_map]
  dsimp only
  rw [List.length_append, if_pos hl]
  exact p
theorem ok_get {m : R W} (p : Ok m (fun w' h' => w' = w ∧ h' = h) noE) : m = .ok w h := by
  obtain ⟨a, h, rfl, rfl, rfl⟩ := p.get
  rfl
theorem ok_val {m : R W} (p : Ok m (fun w' _ => w' = w) noE) : ∃ h', m = .ok w h' := by
  obtain ⟨a, h, rfl, rfl⟩ := p.get
  exact ⟨_, rfl⟩
end
end Fz
set_option Elab.async false
set_option linter.all false
set_option maxRecDepth 100000
set_option maxHeartbeats 2000000
/-! Fz: dict.update, dict comprehensions. -/
namespace Fz
open PySem L2
/-! ### d.update(d2) -/
def tDUpd (td ty : TE) : TE := fun σ H Q => td σ H fun x H1 => ∃ a, x = .ref a ∧ IsD H1 a ∧ ty σ H1 fun y H2 => ∃ b ks ls, y = .ref b ∧ a ≠ b ∧ H2 a = some (.dK ks) ∧ H2 b = some (.dK ls) ∧ ks.length + ls.length ≤ sizeLine ∧ Q .non (upd H2 a (.dK (mergeK ks ls)))
theorem pe_dupd {X : Cx} {o e : Expr} {apos cpos : Pos} {td ty : TE} (ho : PE X o td) (he : PE X e ty) (m : M1 X o "update" apos e cpos) : PE X (.Call (.Attribute o "update" apos) [e] [] cpos) (tDUpd td ty) := by
  refine ⟨fun pins s σ H Q I h => ?_⟩
  refine wpAny_Call_method m.base m.few m.line PySem.F.plainAttrs_dict PySem.F.slot_dict_update PySem.F.type_dict_update (thn (ho.run pins s σ H _ I h) fun u s1 ⟨x, H1, I1, rx, a, ex, d, q1⟩ => ?_)
  subst ex
  obtain rfl : u = Value.ref a := rx
  obtain ⟨t1, t2, _⟩ := isD_at I1 d
  refine ⟨t1, t2, ?_⟩
  rw [m.trees]
  refine Calls.callWith_builtin rfl (Calls.evalArgs_plain (Calls.spliced_cons (thn (he.run pins s1 σ H1 _ I1 q1) fun iv s2 ⟨y, H2, I2, ry, b, ks, ls, ey, nab, ea, eb, hz, q2⟩ => Calls.spliced_nil ?_)))
  subst ey
  obtain rfl : iv = Value.ref b := ry
  obtain ⟨z1, hd1, vs1, rel1, dd1⟩ := dk_of I2.hok ea
  obtain ⟨z2, hd2, vs2, rel2, dd2⟩ := dk_of I2.hok eb
  have l1 : ks.length = vs1.length := Paired.length rel1
  have l2 : ls.length = vs2.length := Paired.length rel2
  refine call_meetsIn PySem.F.slot_dict_update dd1.typeIs PySem.F.entry_dict_update (PySem.F.args_dict_update_2 _ _) (meets_dict_update (mixKind X.prog X.w) a b nab hd2) ⟨vs1, vs2, dd1, dd2, by rw [← l1, ← l2]; exact hz, fun h' dd' _ hs => ?_⟩
  have he : ∃ q, h'.get? a = some q := let ⟨q, _, _, hq, _⟩ := dd'; ⟨q, hq⟩
  have hm := length_mergeK ls ks
  exact ⟨.non, _, d_write (t' := s2.toks) I2 (by rw [ea]; exact True.intro) hs he (dk_new (by omega) hd1 (KV.merge rel2 rel1) dd'), rfl, q2⟩
def cDUpd (o k : Cd) : Cd := fun e h => (o e h).bind fun x h => if isDc x h then (k e h).bind fun y h => match x, y with
  | .r n, .r m => match h[n]?, h[m]? with
    | some (.dk l), some (.dk l2) => if n ≠ m ∧ l.length + l2.length ≤ 16777216 then .ok (.d .non) (h.set n (.dk (mergeD l l2))) else .no
    | _, _ => .no
  | _, _ => .no else .no
theorem fe_upd {X : Cx} {T : Tb} {Wx : WX} {o e : Expr} {apos cpos : Pos} {co c : Cd} (m : M1 X o "update" apos e cpos) (ho : FE X T Wx o co) (he : FE X T Wx e c) : FE X T Wx (.Call (.Attribute o "update" apos) [e] [] cpos) (cDUpd co c) := PE.imp (pe_dupd ho he m) fun σ H Q q => by
  obtain ⟨F, ρ, ev, ih, hr, re, hp⟩ := q
  refine ⟨F, ρ, ev, ih, hr, re, hp.bind.mono fun ρ1 H1 ih1 x g1 hr1 hp1 v1 r1 => ?_⟩
  split at hp1
  · rename_i hd
    obtain ⟨a, rfl, da⟩ := isDc_at hr1 r1 hd
    refine ⟨a, rfl, da, F, ρ1, ev, ih1, hr1, re.grow g1 hr, hp1.bind.mono fun ρ2 H2 ih2 y g2 hr2 hp2 v2 r2 => ?_⟩
    have r1' := r1.grow g2 hr1
    split at hp2
    · rename_i n m'
      cases r1' with | r hn =>
      cases r2 with | r hm =>
      split at hp2
      · rename_i l l2 e1 e2
        split at hp2
        · rename_i hz
          obtain ⟨u1, eH1, ro1⟩ := hr2.at hn e1
          obtain ⟨u2, eH2, ro2⟩ := hr2.at hm e2
          cases ro1 with | dk rs1 =>
          cases ro2 with | dk rs2 =>
          have nab : a ≠ _ := fun q => hz.1 (by
            rw [q] at hn
            exact (List.getElem?_inj (List.getElem?_eq_some_iff.mp hn).1 hr2.nd).mp (hn.trans hm.symm))
          have mm := List.mem_of_getElem? hn
          refine ⟨_, _, _, rfl, nab, eH1, eH2, ?_, ?_⟩
          · rw [← Paired.length rs1, ← Paired.length rs2]
            exact hz.2
          · have rp := RD.merge (dk_rd rs2) (dk_rd rs1)
            exact hp2 _ _ (grow_set mm (nf_of eH1 trivial)) (hr2.set hn (.dk (rd_dk (RD.kp (keep_set mm) (fun _ _ q => q) rp)))) _ (.d .non)
        · exact hp2.elim
      · exact hp2.elim
    · exact hp2.elim
  · exact hp1.elim
/-! ### dict comprehensions -/
def dcl (src : Src) (t : Cy) (q : Cb) (ck cw : Cd) (e : Ev) : Nat → Nat → List (D × W) → Hh → R (List (D × W))
  | 0, _, _, _ => .no
  | m + 1, i, acc, h => match src h with
    | none => .no
    | some l => match l[i]? with
      | none => .ok acc h
      | some y => match t y e h with
        | none => .no
        | some e1 => (q e1 h).bind fun k h => if k then (ck e1 h).bind fun kw h => (cw e1 h).bind fun w h => match kw with
            | .d kd => if kd.isK = true ∧ acc.length < 16777216 then dcl src t q ck cw e m (i + 1) (putd kd w acc) h else .no
            | _ => .no
          else dcl src t q ck cw e m (i + 1) acc h
def cDc (vs : List Nat) (i : Ci) (t : Cy) (q : Cb) (ck cw : Cd) : Cd := fun e h => (i e h).bind fun src h => (noX (dcl src t q ck cw (ew e vs) (srcLen src h + 1) 0 [] h)).bind fun ws h => .ok (.r h.length) (h ++ [.dk ws])
section
variable {K : PySem.W.Frag} {T : Tb} {F ρ : List Addr} {H : Hp} {ih : Hh} {D : Addr}
theorem finD_at {Wx : WX} {σ : L2.St} {ws : List (Fz.D × W)} {vs : List (Key × V)} {ρ1 ρ' : List Addr} {H1 H' : Hp} {ih' : Hh} {Q : VK} (hD : H1 D = none) (hr1 : HR K T F ρ1 ih H1) (g : Grow F ρ1 H1 ρ' H') (hr : HR K T (D :: F) ρ' ih' H') (e : H' D = some (.dK vs)) (rs : RD K (D :: F) ρ' H' kOf Fz.D.isK ws vs)
    (hp : Pst K T Wx σ F ρ1 H1 (R.ok (W.r ih'.length) (ih' ++ [O.dk ws])) fun ρ' H' _ w => ∀ v, RW K F ρ' H' w v → Q v H') : Q (.ref D) H' := by
  have nF : D ∉ F := fun m => hr1.trF D m hD
  have nρ : D ∉ ρ' := fun m => hr.fr D m (by simp)
  have hr' : HR K T F ρ' ih' H' := hr.less fun a m => List.mem_cons_of_mem _ m
  have g2 : Grow F ρ1 H1 (ρ' ++ [D]) H' := ⟨by obtain ⟨m, rfl⟩ := g.more; exact ⟨m ++ [D], by simp⟩, g.keep, fun a m n => by
    rcases List.mem_append.mp m with q | q
    · exact g.new a q n
    · rw [List.mem_singleton.mp q]; exact hD, g.frz⟩
  have k2 : Keep ((D :: F) ++ ρ') H' (F ++ (ρ' ++ [D])) H' := ⟨fun _ _ e _ => e, fun a m n => by
    exfalso
    apply n
    simp only [List.mem_append, List.mem_cons, List.mem_singleton, List.not_mem_nil, or_false] at m ⊢
    rcases m with m | m | m <;> simp [m]⟩
  have gt : ∀ (n : Nat) (a : Addr), ρ'[n]? = some a → (ρ' ++ [D])[n]? = some a := fun n a q => by
    rw [List.getElem?_append_left (List.getElem?_eq_some_iff.mp q).1]; exact q
  have hr2 : HR K T F (ρ' ++ [D]) (ih' ++ [.dk ws]) H' := by
    refine ⟨by simp [hr.len], List.nodup_append.mpr ⟨hr.nd, by simp, fun a ha b hb => ?_⟩, fun a m => ?_, hr'.trF, fun n o q => ?_, hr'.ntF⟩
    · rw [List.mem_singleton.mp hb]; exact fun z => nρ (z ▸ ha)
    · rcases List.mem_append.mp m with q | q
      · exact hr'.fr a q
      · rw [List.mem_singleton.mp q]; exact nF
    · by_cases hn : n < ih'.length
      · rw [List.getElem?_append_left hn] at q
        obtain ⟨a, u, e1, e2, ro⟩ := hr.obj n o q
        exact ⟨a, u, gt n a e1, e2, ro.kp k2 gt⟩
      · have hn' : n = ih'.length := by
          have := (List.getElem?_eq_some_iff.mp q).1
          simp at this
          omega
        subst hn'
        simp at q
        subst q
        exact ⟨D, _, by rw [← hr.len]; simp, e, .dk (rd_dk (RD.kp k2 gt rs))⟩
  exact hp _ _ g2 hr2 _ (.r (get_last hr.len))
theorem key_kV {k : Fz.D} {v : V} {M : List Addr} (hk : k.isK = true) (r : RW K F ρ H (.d k) v) : v = kV (kOf k) := key_v hk r
theorem dc_at {vs is : List Nat} {ci : Ci} {t : Cy} {q : Cb} {ck cw : Cd} {Wx : WX} (his : ∀ j ∈ is, j ∈ vs) {σ : L2.St} {H : Hp} {Q : VK} (hq : tOf K T Wx (cDc vs ci t q ck cw) σ H Q) :
    tDc (iOf K T Wx ci) (yOf K T is t) (bOf K T W0 q) (tOf K T W0 ck) (tOf K T W0 cw) vs σ H Q := by
  obtain ⟨F, ρ, ev, ih, hr, re, hp⟩ := hq
  refine ⟨F, ρ, ev, ih, hr, re, hp.bind.mono fun ρ1 H1 ih1 src g1 hr1 hp1 J good => ?_⟩
  intro D hD
  have re1 := re.grow g1 hr
  have want : Fin K T F ρ1 H1 D (dcl src t q ck cw (ew ev vs) (srcLen src ih1 + 1) 0 [] ih1) fun ρ' H' ih' ws => ∀ xs, H' D = some (.dK xs) → RD K (D :: F) ρ' H' kOf Fz.D.isK ws xs → Q (.ref D) H' := by
    cases e : dcl src t q ck cw (ew ev vs) (srcLen src ih1 + 1) 0 [] ih1 with
    | no => rw [e] at hp1; exact hp1.elim
    | ex a b h2 => rw [e] at hp1; exact hp1.elim
    | ok ws h2 =>
      rw [e] at hp1
      exact fun ρ' H' g hr' xs ex rs => finD_at (Wx := Wx) (σ := σ) hD hr1 g hr' ex rs hp1
  refine ⟨fun i m H' => ∃ ρ' ih' acc xs, Grow F ρ1 H1 ρ' H' ∧ HR K T (D :: F) ρ' ih' H' ∧ H' D = some (.dK xs) ∧ RD K (D :: F) ρ' H' kOf Fz.D.isK acc xs ∧
    Fin K T F ρ1 H1 D (dcl src t q ck cw (ew ev vs) m i acc ih') fun ρ' H' ih' ws => ∀ xs, H' D = some (.dK xs) → RD K (D :: F) ρ' H' kOf Fz.D.isK ws xs → Q (.ref D) H',
    ⟨srcLen src ih1 + 1, ρ1, ih1, [], [], grow_new hD, hr1.newD (fun _ z => nomatch z) hD, upd_same, .nil, want⟩, ?_⟩
  rintro i m H2 ⟨ρ2, ih2, acc, xs, g2, hr2, e2, rs2, hf⟩
  have hr2' : HR K T F ρ2 ih2 H2 := hr2.less fun a m => List.mem_cons_of_mem _ m
  cases m with
  | zero => exact hf.elim
  | succ m =>
    unfold dcl at hf
    cases hs : src ih2 with
    | none => rw [hs] at hf; exact hf.elim
    | some l =>
      rw [hs] at hf
      dsimp only at hf
      cases hl : l[i]? with
      | none =>
        rw [hl] at hf
        exact .inl ⟨good.stops _ ρ2 H2 ih2 l i (g2.extD hr1 hD) hr2 hs (List.getElem?_eq_none_iff.mp hl), hf ρ2 H2 g2 hr2 xs e2 rs2⟩
      | some y =>
        rw [hl] at hf
        dsimp only at hf
        obtain ⟨go, yl⟩ := good.goes _ ρ2 H2 ih2 l i y (g2.extD hr1 hD) hr2 hs hl
        refine .inr ⟨go, fun H3 => ∃ ρ' ih' acc xs, Grow F ρ1 H1 ρ' H3 ∧ HR K T (D :: F) ρ' ih' H3 ∧ H3 D = some (.dK xs) ∧ RD K (D :: F) ρ' H3 kOf Fz.D.isK acc xs ∧
          Fin K T F ρ1 H1 D (dcl src t q ck cw (ew ev vs) m (i + 1) acc ih') fun ρ' H' ih' ws => ∀ xs, H' D = some (.dK xs) → RD K (D :: F) ρ' H' kOf Fz.D.isK ws xs → Q (.ref D) H', fun H3 q3 => ⟨m, Nat.lt_succ_self _, q3⟩, fun x H3 yx => ?_⟩
        obtain ⟨g3, hr3, r3⟩ := yl x H3 yx
        have nD : D ∉ ρ2 := fun z => hr2.fr D z (by simp)
        have e3 : H3 D = some (.dK xs) := g3.keep D _ e2 nD
        have k13 : ∀ a u, H1 a = some u → a ∉ ρ1 → H3 a = some u := fun a u ea na => by
          refine g3.keep a u (g2.keep a u ea na) fun z => ?_
          have := g2.new a z na
          rw [ea] at this
          cases this
        have g13 : Grow F ρ1 H1 ρ2 H3 := ⟨g2.more, k13, g2.new, fun a _ _ e => g3.frz a _ _ (g2.frz a _ _ e)⟩
        have rs3 : RD K (D :: F) ρ2 H3 kOf Fz.D.isK acc xs := RD.kp (g3.keepM hr2) (fun _ _ q => g3.get q) rs2
        cases ht : t y (ew ev vs) ih2 with
        | none => rw [ht] at hf; exact hf.elim
        | some e1 =>
          rw [ht] at hf
          dsimp only at hf
          have reW : RE K (D :: F) ρ2 H3 (ew ev vs) (wipe σ vs) := re1.ext (g13.extD hr1 hD) vs
          refine ⟨D :: F, ρ2, ew ev vs, ih2, y, e1, hr3, reW, r3, ht, fun σ2 re2 m2 => ⟨(m2.mono his).wipe, ?_⟩⟩
          obtain ⟨k, ih4, eq, hf⟩ := hf.bind
          refine ⟨D :: F, ρ2, e1, ih2, hr3, re2, ?_⟩
          rw [eq]
          intro ρ4 H4 g4 hr4
          have e4 : H4 D = some (.dK xs) := g4.keep D _ e3 nD
          have g14 : Grow F ρ1 H1 ρ4 H4 := Grow.trans (K := K) (T := T) (ih1 := ih2) g13 (hr3.less fun a m => List.mem_cons_of_mem _ m) ⟨g4.more, g4.keep, g4.new, g4.frz⟩
          have rs4 : RD K (D :: F) ρ4 H4 kOf Fz.D.isK acc xs := RD.kp (g4.keepM hr3) (fun _ _ q => g4.get q) rs3
          refine ifk (fun hk => ?_) fun hk => ?_
          · subst hk
            rw [if_pos rfl] at hf
            obtain ⟨kw, ih5, eq5, hf⟩ := hf.bind
            refine ⟨D :: F, ρ4, e1, ih4, hr4, re2.grow g4 hr3, ?_⟩
            rw [eq5]
            intro ρ5 H5 g5 hr5 kv rkv
            have nD4 : D ∉ ρ4 := fun z => hr4.fr D z (by simp)
            have e5 : H5 D = some (.dK xs) := g5.keep D _ e4 nD4
            have g15 : Grow F ρ1 H1 ρ5 H5 := Grow.trans (K := K) (T := T) (ih1 := ih4) g14 (hr4.less fun a m => List.mem_cons_of_mem _ m) ⟨g5.more, g5.keep, g5.new, g5.frz⟩
            have rs5 : RD K (D :: F) ρ5 H5 kOf Fz.D.isK acc xs := RD.kp (g5.keepM hr4) (fun _ _ q => g5.get q) rs4
            obtain ⟨w, ih6, eq6, hf⟩ := hf.bind
            refine ⟨D :: F, ρ5, e1, ih5, hr5, (re2.grow g4 hr3).grow g5 hr4, ?_⟩
            rw [eq6]
            intro ρ6 H6 g6 hr6 v rv
            have nD5 : D ∉ ρ5 := fun z => hr5.fr D z (by simp)
            have e6 : H6 D = some (.dK xs) := g6.keep D _ e5 nD5
            have g16 : Grow F ρ1 H1 ρ6 H6 := Grow.trans (K := K) (T := T) (ih1 := ih5) g15 (hr5.less fun a m => List.mem_cons_of_mem _ m) ⟨g6.more, g6.keep, g6.new, g6.frz⟩
            have rs6 : RD K (D :: F) ρ6 H6 kOf Fz.D.isK acc xs := RD.kp (g6.keepM hr5) (fun _ _ q => g6.get q) rs5
            cases kw with
            | r _ => exact hf.elim
            | f _ => exact hf.elim
            | d kd =>
              dsimp only at hf
              split at hf
              · rename_i hlen
                have ek := key_v hlen.1 rkv
                refine ⟨xs, kOf kd, ek, e6, by rw [← Paired.length rs6]; exact hlen.2, ρ6, ih6, putd kd w acc, _, g16.setD hD, hr6.setD (fun _ z => nomatch z), upd_same, ?_, hf⟩
                exact RD.kp keepD (fun _ _ q => q) (RD.put kOf_inj hlen.1 rs6 rv)
              · exact hf.elim
          · subst hk
            rw [if_neg Bool.false_ne_true] at hf
            exact ⟨ρ4, ih4, acc, xs, g14, hr4, e4, rs4, hf⟩
end
theorem fe_dc {X : Cx} {T : Tb} {Wx : WX} {tg iter kx vx : Expr} {ifs : List Expr} {pos : Pos} {scope : Scope} {own : List (Str × Nat)} {is : List Nat} {ci : Ci} {t : Cy} {q : Cb} {ck cw : Cd} (hc : X.calm = true) (hN : X.N.Nodup) (ok : BlkOk X.N X.env.scope scope own) (his : ∀ j ∈ is, j ∈ own.map (·.2)) (hs : ∀ x, foldedSetIterable iter X.env x = pure x)
    (hi : FI X T Wx tg iter ci)
    (hg : ∀ (s : Shared) (H : Hp) (C : Addr) (cl : List (Str × Addr)) (fp : List Addr), FY (X.blk s H scope (compEnvC scope cl C X.env) fp) T tg is t)
    (ht : ∀ (s : Shared) (H : Hp) (C : Addr) (cl : List (Str × Addr)) (fp : List Addr), FTs (X.blk s H scope (compEnvC scope cl C X.env) fp) T W0 ifs q)
    (hk : ∀ (s : Shared) (H : Hp) (C : Addr) (cl : List (Str × Addr)) (fp : List Addr), FE (X.blk s H scope (compEnvC scope cl C X.env) fp) T W0 kx ck)
    (he : ∀ (s : Shared) (H : Hp) (C : Addr) (cl : List (Str × Addr)) (fp : List Addr), FE (X.blk s H scope (compEnvC scope cl C X.env) fp) T W0 vx cw) :
    FE X T Wx (.DictComp kx vx [⟨tg, iter, ifs, 0⟩] scope pos) (cDc (own.map (·.2)) ci t q ck cw) := PE.imp (pe_dc (wi := iOf X.K T Wx ci) (g := yOf X.K T is t) (tt := bOf X.K T W0 q) (tk := tOf X.K T W0 ck) (tv := tOf X.K T W0 cw) hc hN hi ok hg ht hk he hs) fun _ _ _ h => dc_at his h
section
variable {X : Cx} {T : Tb} {Wx : WX} {k : Nat} {o a : Expr} {apos cpos pos : Pos} {co ca : Cd} {tg iter kx vx : Expr} {ifs : List Expr}
theorem e_upd (ho : FE X T Wx o co) (ha : FE X T Wx a ca) (m : M1 X o "update" apos a cpos := by exact ⟨rfl, rfl, rfl, rfl⟩) : FE X T Wx (.Call (.Attribute o "update" apos) [a] [] cpos) (cDUpd co ca) := fe_upd m ho ha
theorem e_dc {scope : Scope} (own : List (Str × Nat)) {is : List Nat} {ci : Ci} {t : Cy} {q : Cb} {ck cw : Cd} (G : Cg X Wx k) (ok : blkC X.N X.env.scope scope own = true) (his : ∀ j ∈ is, j ∈ own.map (·.2)) (hi : FI X T Wx tg iter ci)
    (hg : ∀ (s : Shared) (H : Hp) (C : Addr) (cl : List (Str × Addr)) (fp : List Addr), Cg (X.blk s H scope (compEnvC scope cl C X.env) fp) W0 k → FY (X.blk s H scope (compEnvC scope cl C X.env) fp) T tg is t)
    (ht : ∀ (s : Shared) (H : Hp) (C : Addr) (cl : List (Str × Addr)) (fp : List Addr), Cg (X.blk s H scope (compEnvC scope cl C X.env) fp) W0 k → FTs (X.blk s H scope (compEnvC scope cl C X.env) fp) T W0 ifs q)
    (hk : ∀ (s : Shared) (H : Hp) (C : Addr) (cl : List (Str × Addr)) (fp : List Addr), Cg (X.blk s H scope (compEnvC scope cl C X.env) fp) W0 k → FE (X.blk s H scope (compEnvC scope cl C X.env) fp) T W0 kx ck)
    (he : ∀ (s : Shared) (H : Hp) (C : Addr) (cl : List (Str × Addr)) (fp : List Addr), Cg (X.blk s H scope (compEnvC scope cl C X.env) fp) W0 k → FE (X.blk s H scope (compEnvC scope cl C X.env) fp) T W0 vx cw) (hs : ∀ x, foldedSetIterable iter X.env x = pure x := by intro _; rfl) :
    FE X T Wx (.DictComp kx vx [⟨tg, iter, ifs, 0⟩] scope pos) (cDc (own.map (·.2)) ci t q ck cw) := fe_dc G.calm G.nd (blkOk_by ok) his hs hi (fun s H C cl fp => hg s H C cl fp (G.blk s H _ _ fp)) (fun s H C cl fp => ht s H C cl fp (G.blk s H _ _ fp)) (fun s H C cl fp => hk s H C cl fp (G.blk s H _ _ fp)) (fun s H C cl fp => he s H C cl fp (G.blk s H _ _ fp))
end
end Fz
set_option Elab.async false
set_option linter.all false
set_option maxRecDepth 100000
set_option maxHeartbeats 2000000
/-! Fz: plain laws: rules for comprehensions, lists and things that change, dicts. -/
namespace Fz
def insAt (cl : Nat) (x : W) (h : Hh) : Option Nat := match x with
  | .r i => match h[i]? with
    | some (.ins c' _) => if c' = cl then some i else none
    | _ => none
  | _ => none
def fldAt (fd : Nat) (x : W) (h : Hh) : Option W := match x with
  | .r i => match h[i]? with
    | some (.ins _ fs) => lkf fd fs
    | _ => none
  | _ => none
section
variable {α : Type} {a b c o k : Cd} {aa : Ca} {t u q : Cb} {x y : Cs} {e e' : Ev} {h h' : Hh} {w v : W} {P : W → Hh → Prop} {PB : Bool → Hh → Prop} {E : Nat → W → Hh → Prop} {Q : SR → Prop} {ci : Ci} {ty : Cy}
  {i j n m fd cl : Nat} {g : Fn} {l : List D} {ws : List W} {vs : List Nat} {fs : List (Nat × W)} {src : Src} {d : D}
/-- a comprehension: data -/
theorem wp_lc (l : List α) (y : α → Y) (f : α → Bool) (g : α → D) (hc : ci e h = .ok src h) (hs : src h = some (l.map y)) (hl : l.length ≤ 16777216)
    (hy : ∀ x ∈ l, So (ty (y x) (ew e vs) h) fun e1 => Ok (q e1 h) (fun k h' => k = f x ∧ h' = h) noE ∧ (f x = true → Ok (c e1 h) (fun w h' => w = .d (g x) ∧ h' = h) noE))
    (p : P (.d (.lst ((l.filter f).map g))) h) : Ok (cLc false vs ci ty q c e h) P E := by
  refine wp_eq ?_ p
  rw [lc_src (mt := false) l y f (fun x => .d (g x)) hc hs hl fun x hx => ?_]
  · have e1 : (l.filter f).map (fun x => W.d (g x)) = ((l.filter f).map g).map .d := by rw [List.map_map]; rfl
    rw [e1]
    exact fin_d (by rw [List.length_map]; exact Nat.le_trans (List.length_filter_le _ _) hl)
  · obtain ⟨e1, a1, a2, a3⟩ := hy x hx
    obtain ⟨k, h1, q1, rfl, rfl⟩ := a2.get
    refine ⟨e1, a1, q1, fun hf => ?_⟩
    obtain ⟨k, h1, q2, rfl, rfl⟩ := (a3 hf).get
    exact q2
/-- .. without a test -/
theorem wp_lc1 (l : List α) (y : α → Y) (g : α → D) (hc : ci e h = .ok src h) (hs : src h = some (l.map y)) (hl : l.length ≤ 16777216)
    (hy : ∀ x ∈ l, So (ty (y x) (ew e vs) h) fun e1 => Ok (c e1 h) (fun w h' => w = .d (g x) ∧ h' = h) noE)
    (p : P (.d (.lst (l.map g))) h) : Ok (cLc false vs ci ty bYes c e h) P E := by
  refine wp_lc l y (fun _ => true) g hc hs hl (fun x hx => ?_) ?_
  · obtain ⟨e1, a1, a2⟩ := hy x hx
    exact ⟨e1, a1, ⟨rfl, rfl⟩, fun _ => a2⟩
  · rw [List.filter_eq_self.mpr (by simp)]
    exact p
/-- .. whose list will change -/
theorem wp_lcM (l : List α) (y : α → Y) (f : α → Bool) (g : α → W) (hc : ci e h = .ok src h) (hs : src h = some (l.map y)) (hl : l.length ≤ 16777216)
    (hy : ∀ x ∈ l, So (ty (y x) (ew e vs) h) fun e1 => Ok (q e1 h) (fun k h' => k = f x ∧ h' = h) noE ∧ (f x = true → Ok (c e1 h) (fun w h' => w = g x ∧ h' = h) noE))
    (p : P (.r h.length) (h ++ [.lst ((l.filter f).map g)])) : Ok (cLc true vs ci ty q c e h) P E := by
  refine wp_eq ?_ p
  rw [lc_src (mt := true) l y f g hc hs hl fun x hx => ?_]
  · unfold fin mkM
    rw [if_pos rfl, if_pos (by rw [List.length_map]; exact Nat.le_trans (List.length_filter_le _ _) hl)]
  · obtain ⟨e1, a1, a2, a3⟩ := hy x hx
    obtain ⟨k, h1, q1, rfl, rfl⟩ := a2.get
    refine ⟨e1, a1, q1, fun hf => ?_⟩
    obtain ⟨k, h1, q2, rfl, rfl⟩ := (a3 hf).get
    exact q2
theorem fixS_at {l : List Y} : fixS l h = some l := rfl
theorem refS_is {l : List W} (hn : h[n]? = some (.lst l)) : refS n h = some (l.map .w) := by unfold refS; rw [hn]
theorem itr_at {l : List W} (hc : c e h = .ok (.r n) h) (hn : h[n]? = some (.lst l)) : cIt c e h = .ok (refS n) h := (it_r hc hn).1
theorem enY_rg (l : List W) : enY 0 l = (List.range l.length).map fun (i : Nat) => Y.t [.d (.int (i : Nat)), l.getD i (.d .non)] := by
  refine List.ext_getElem? fun i => ?_
  rw [List.getElem?_map]
  by_cases hi : i < l.length
  · have h1 : i < (enY 0 l).length := by rw [enY_len]; exact hi
    obtain ⟨w, e1, e2⟩ := enY_get l 0 i _ (List.getElem?_eq_getElem h1)
    rw [List.getElem?_eq_getElem h1, List.getElem?_range hi, e2, Option.map_some, List.getD_eq_getElem?_getD, e1, Nat.zero_add]
    rfl
  · rw [List.getElem?_eq_none (by rw [enY_len]; omega), List.getElem?_eq_none (by rw [List.length_range]; omega)]
    rfl
theorem enr_at {l : List W} (hc : c e h = .ok (.r n) h) (hn : h[n]? = some (.lst l)) : cEn c e h = .ok (refE n) h := by
  unfold cEn
  rw [hc, R.bind_ok]
  unfold enumOf
  dsimp only
  rw [hn]
theorem refE_at {l : List W} (hn : h[n]? = some (.lst l)) : refE n h = some ((List.range l.length).map fun (i : Nat) => Y.t [.d (.int (i : Nat)), l.getD i (.d .non)]) := by
  unfold refE
  rw [hn]
  dsimp only
  rw [enY_rg]
/-! ### lists that change -/
theorem so_lst {l : List W} {K : List W → Prop} (hn : h[n]? = some (.lst l)) (p : K l) : So (lstW (.r n) h) K := ⟨l, by unfold lstW; dsimp only; rw [hn], p⟩
theorem wp_lm {op : W → List W → Hh → R W} (p : Ok (o e h) (fun x h => So (lstW x h) fun _ => Ok (aa e h) (fun ws h => Ok (op x ws h) P E) E) E) : Ok (cLm op o aa e h) P E := by
  unfold cLm
  refine wp_bind (Ok.mono p (fun x h z => ?_) fun _ _ _ z => z)
  obtain ⟨l, e1, z⟩ := z
  rw [e1]
  exact wp_bind z
theorem wp_mapp {l : List W} (hn : h[n]? = some (.lst l)) (hl : l.length < 16777216) (p : P (.d .non) (h.set n (.lst (l ++ [w])))) : Ok (mAppend (.r n) [w] h) P E := by
  unfold mAppend
  dsimp only
  rw [hn]
  dsimp only
  rw [if_pos hl]
  exact p
theorem wp_tupR (hn : h[n]? = some (.lst (l.map .d))) (hl : l.length ≤ 16777216) (p : P (.d (.tup l)) h) : Ok (biTuple [.r n] h) P E := by
  unfold biTuple
  simp only [lstW, hn]
  unfold mkT
  rw [allD_map]
  dsimp only
  rw [if_pos hl]
  exact p
theorem wp_lenR {l : List W} (hn : h[n]? = some (.lst l)) (p : P (.d (.int l.length)) h) : Ok (biLen [.r n] h) P E := by
  unfold biLen lenW
  simp only [hn]
  exact p
theorem wp_lenK {l : List (D × W)} (hn : h[n]? = some (.dk l)) (p : P (.d (.int l.length)) h) : Ok (biLen [.r n] h) P E := by
  unfold biLen lenW
  simp only [hn]
  exact p
theorem so_set {l : List W} {K : Hh → Prop} (hn : h[n]? = some (.lst l)) (hj : j < l.length) (p : K (h.set n (.lst (l.set j w)))) : So (setAt (.r n) (.d (.int j)) w h) K := ⟨_, set_r hn hj, p⟩
theorem wp_slR {lo hi : Option Int} (hn : h[n]? = some (.lst (l.map .d))) (hl : l.length ≤ 16777216) (p : P (.d (.lst (cut l lo hi))) h) : Ok (opSl false (.r n) lo hi h) P E := by
  unfold opSl
  simp only [lstW, hn]
  have e1 : cut (l.map W.d) lo hi = (cut l lo hi).map .d := by
    unfold cut
    rw [List.length_map, List.map_take, List.map_drop]
  rw [e1]
  have := cut_len l lo hi
  rw [fin_d (by omega)]
  exact p
theorem wp_slL {lo hi : Option Int} (hl : l.length ≤ 16777216) (p : P (.d (.lst (cut l lo hi))) h) : Ok (opSl false (.d (.lst l)) lo hi h) P E := by
  unfold opSl
  simp only [lstW]
  have e1 : cut (l.map W.d) lo hi = (cut l lo hi).map .d := by
    unfold cut
    rw [List.length_map, List.map_take, List.map_drop]
  rw [e1]
  have := cut_len l lo hi
  rw [fin_d (by omega)]
  exact p
/-! ### things with fields -/
theorem wp_meth {cl : Nat} (p : Ok (o e h) (fun x h => So (insAt cl x h) fun i => Ok (aa e h) (fun ws h => Cm (W.r i :: ws).length n (Ok (g (.r i :: ws) h) P E)) E) E) : Ok (cMeth cl n g o aa e h) P E := by
  unfold cMeth
  refine wp_bind (Ok.mono p (fun x h z => ?_) fun _ _ _ z => z)
  obtain ⟨i, e1, z⟩ := z
  unfold insAt at e1
  split at e1
  · split at e1
    · rename_i e2
      split at e1
      · rename_i e3
        cases e1
        simp only [e2, e3, if_true]
        refine wp_bind (Ok.mono z (fun ws h z => ?_) fun _ _ _ z => z)
        obtain ⟨z1, z2⟩ := z
        rw [if_pos z1]
        exact z2
      · cases e1
    · cases e1
  · cases e1
theorem so_ins {cl : Nat} {K : Nat → Prop} (hn : h[n]? = some (.ins cl fs)) (p : K n) : So (insAt cl (.r n) h) K := ⟨n, by simp [insAt, hn], p⟩
theorem wp_fld' (p : Ok (a e h) (fun x h => So (fldAt fd x h) fun w => P w h) E) : Ok (cFld fd a e h) P E := by
  unfold cFld
  refine wp_bind (Ok.mono p (fun x h q => ?_) fun _ _ _ q => q)
  obtain ⟨k, q1, q2⟩ := q
  unfold fldAt at q1
  split at q1
  · split at q1
    · rename_i fs e1
      simp only [e1, q1]
      exact q2
    · cases q1
  · cases q1
theorem so_fld {K : W → Prop} (hn : h[n]? = some (.ins cl fs)) (hf : lkf fd fs = some w) (p : K w) : So (fldAt fd (.r n) h) K := ⟨w, by simp [fldAt, hn, hf], p⟩
theorem so_put {K : Hh → Prop} (hn : h[n]? = some (.ins cl fs)) (hz : fs.length < 800) (p : K (h.set n (.ins cl (putf fd w fs)))) : So (putF' (.r n) fd w h) K := ⟨_, by unfold putF'; simp only [hn]; rw [if_pos hz], p⟩
theorem wp_new {cl : Nat} (p : Ok (aa e h) (fun ws h => Cm (W.r h.length :: ws).length n (Ok (g (.r h.length :: ws) (h ++ [.ins cl []])) (fun w h' => w = .d .non ∧ P (.r h.length) h') E)) E) : Ok (cNew cl n g aa e h) P E := by
  unfold cNew
  refine wp_bind (Ok.mono p (fun ws h z => ?_) fun _ _ _ z => z)
  obtain ⟨z1, z2⟩ := z
  rw [if_pos z1]
  refine wp_bind (Ok.mono z2 (fun w h z => ?_) fun _ _ _ z => z)
  obtain ⟨rfl, z⟩ := z
  exact z
theorem wp_fldAug {op : W → W → Hh → R W} {f : Nat} (ho : o e h = .ok (.r n) h) (hn : h[n]? = some (.ins cl fs)) (hf : lkf f fs = some v) (p : Ok (c e h) (fun y h => Ok (op v y h) (fun z h => So (putAs cl n f z h) fun h' => Q (.nx e h')) (fun c p h => Q (.ex c p e h))) (fun c p h => Q (.ex c p e h))) : Sk (sFldAug' f op o c e h) Q := by
  unfold sFldAug'
  rw [sk_lift, ho]
  simp only [ok_ok, hn, hf]
  rw [sk_lift]
  refine wp_bind (Ok.mono p (fun y h z => Ok.mono z (fun z h q => ?_) fun _ _ _ q => q) fun _ _ _ q => q)
  obtain ⟨h', q1, q2⟩ := q
  rw [q1]
  exact q2
/-! ### dicts -/
theorem wp_dK (p : P (.r h.length) (h ++ [.dk []])) : Ok (cDK e h) P E := p
theorem wp_dx {l : List (D × W)} (hn : h[n]? = some (.dk l)) (hk : d.isK = true) (hl : lkd d l = some w) (p : P w h) : Ok (opDx (.r n) (.d d) h) P E := by
  unfold opDx dLook
  simp only [hn, hk, if_true, hl]
  exact p
theorem wp_dxF {l : List (D × W)} (hn : h[n]? = some (.fk l)) (hk : d.isK = true) (hl : lkd d l = some w) (p : P w h) : Ok (opDx (.r n) (.d d) h) P E := by
  unfold opDx dLook
  simp only [hn, hk, if_true, hl]
  exact p
theorem wp_din {neg : Bool} {l : List (D × W)} (hn : h[n]? = some (.dk l)) (hk : d.isK = true) (p : P (.d (.bl (if neg then !(lkd d l).isSome else (lkd d l).isSome))) h) : Ok (opDin neg (.d d) (.r n) h) P E := by
  unfold opDin dLook
  simp only [hn, hk, if_true]
  exact p
theorem so_dput {l : List (D × W)} {K : Hh → Prop} (hn : h[n]? = some (.dk l)) (hk : d.isK = true) (hl : l.length < 16777216) (p : K (h.set n (.dk (putd d w l)))) : So (dPut (.r n) (.d d) w h) K := ⟨_, by unfold dPut; simp only [hn]; rw [if_pos ⟨hk, hl⟩], p⟩
theorem wp_get1 {l : List (D × W)} (ho : o e h = .ok (.r n) h) (hn : h[n]? = some (.dk l)) (p : Ok (k e h) (fun y h => So (dLook (.r n) y h) fun r => P (r.getD (.d .non)) h) E) : Ok (cGet1 o k e h) P E := by
  unfold cGet1
  rw [ho, R.bind_ok]
  have : isDc (.r n) h = true := by unfold isDc; simp only [hn]
  rw [if_pos this]
  refine wp_bind (Ok.mono p (fun y h z => ?_) fun _ _ _ z => z)
  obtain ⟨r, e1, z⟩ := z
  simp only [e1]
  exact z
theorem so_dl {l : List (D × W)} {K : Option W → Prop} (hn : h[n]? = some (.dk l)) (hk : d.isK = true) (p : K (lkd d l)) : So (dLook (.r n) (.d d) h) K := ⟨_, by unfold dLook; simp only [hn, hk, if_true], p⟩
theorem wp_upd {l l2 : List (D × W)} (ho : o e h = .ok (.r n) h) (hn : h[n]? = some (.dk l)) (p : Ok (k e h) (fun y h => ∃ m l2, y = .r m ∧ h[n]? = some (.dk l) ∧ h[m]? = some (.dk l2) ∧ n ≠ m ∧ l.length + l2.length ≤ 16777216 ∧ P (.d .non) (h.set n (.dk (mergeD l l2)))) E) : Ok (cDUpd o k e h) P E := by
  unfold cDUpd
  rw [ho, R.bind_ok]
  have : isDc (.r n) h = true := by unfold isDc; simp only [hn]
  rw [if_pos this]
  refine wp_bind (Ok.mono p (fun y h z => ?_) fun _ _ _ z => z)
  obtain ⟨m, l2, rfl, z1, z2, z3, z4, z5⟩ := z
  simp only [z1, z2]
  rw [if_pos ⟨z3, z4⟩]
  exact z5
end
end Fz
set_option Elab.async false
set_option linter.all false
set_option maxRecDepth 100000
set_option maxHeartbeats 4000000
namespace K40
open PySem L2 Fz PyProof.Rows
def top (i : Nat) : Stmt := PySem.Challenge.pw_nowayleft_k40_papers_and_arguments_of_tr.main.body.getD i (.Pass ⟨0, 0, 0, 0⟩)
/-! ### what the defs do -/
def su_0 : Nat → D → Option D := fun c x => match c with | 1 => sPay [97, 114, 103, 117, 109, 101, 110, 116, 32] x | 2 => sPay [112, 97, 112, 101, 114, 32] x | _ => none
def tbl_1 (r : Nat → Fn) : List Nat → Option (Bool × Fn) := fun q => if q = [110, 101, 101, 100, 101, 100] then some (true, r 4) else if q = [100, 101, 101, 100, 115, 95, 102, 111, 114] then some (true, r 6) else if q = [110, 117, 109, 98, 101, 114, 101, 100] then some (true, r 10) else none
def tbl_2 (r : Nat → Fn) : List Nat → Option (Bool × Fn) := fun q => if q = [114, 117, 110, 95, 100, 101, 101, 100, 115] then some (true, r 7) else if q = [97, 99, 99, 101, 112, 116, 95, 110, 117, 109, 98, 101, 114, 115] then some (true, r 12) else none
def tbl_3 (r : Nat → Fn) : List Nat → Option (Bool × Fn) := fun q => if q = [97, 99, 99, 101, 112, 116, 95, 100, 101, 101, 100, 115] then some (true, r 9) else none
def tbl_4 (r : Nat → Fn) : List Nat → Option (Bool × Fn) := fun q => none
def tbl_5 (r : Nat → Fn) : List Nat → Option (Bool × Fn) := fun q => none
/-- is_integer -/
def c_0 (r : Nat → Fn) : Cs := (sRet (cAnd (cIsi .int (cv 0)) (cNot (cIsi .bool (cv 0)))))
/-- is_tree -/
def c_1 (r : Nat → Fn) : Cs := (sSeq (sIf (cT (cCall true 1 (r 0) (aCons (cv 0) aNil)))
    (sRet (cc (.bl true)))
    sNx)
    (sSeq (sIf (bOr (bNot (cT (cIsi .tup (cv 0)))) (bOr (bC (opEq true) (cCl biLen (aCons (cv 0) aNil)) (cc (.int 2))) (bC (opEq false) (cv 1) (cc (.int 0)))))
    (sRet (cc (.bl false)))
    sNx)
    (sRet (cAnd (cCall true 2 (r 1) (aCons (c2 opIx (cv 0) (cc (.int 0))) (aCons (c2 opSub (cv 1) (cc (.int 1))) aNil))) (cCall true 2 (r 1) (aCons (c2 opIx (cv 0) (cc (.int 1))) (aCons (c2 opSub (cv 1) (cc (.int 1))) aNil)))))))
/-- check_tree -/
def c_2 (r : Nat → Fn) : Cs := (sIf (bNot (cT (cCall true 2 (r 1) (aCons (cv 0) (aCons (cc (.int 12)) aNil)))))
    (sRaise 1 (cc (.str [116, 114, 101, 101])))
    sNx)
/-- needed_of -/
def c_3 (r : Nat → Fn) : Cs := (sSeq (sIf (bNot (cT (cIsi .tup (cv 0))))
    (sRet (cc (.int 1)))
    sNx)
    (sSeq (sPar (aCons (cCall true 1 (r 3) (aCons (c2 opIx (cv 0) (cc (.int 0))) aNil)) (aCons (cCall true 1 (r 3) (aCons (c2 opIx (cv 0) (cc (.int 1))) aNil)) aNil)) (tCns (tN 1) (tCns (tN 2) Fz.tNil)))
    (sRet (cIf (bC (opEq false) (cv 1) (cv 2)) (c2 (opAdd false) (cv 1) (cc (.int 1))) (cCl biMax2 (aCons (cv 1) (aCons (cv 2) aNil)))))))
/-- needed -/
def c_4 (r : Nat → Fn) : Cs := (sSeq (sExpr (cCall true 1 (r 2) (aCons (cv 0) aNil)))
    (sRet (cCall true 1 (r 3) (aCons (cv 0) aNil))))
/-- worked -/
def c_5 (r : Nat → Fn) : Cs := (sSeq (sIf (bNot (cT (cIsi .tup (cv 0))))
    (sRet (cCl mkL (aCons (cCl mkT (aCons (cc (.str [108, 111, 97, 100])) (aCons (c2 opIx (cv 1) (cc (.int 0))) (aCons (cv 0) aNil)))) aNil)))
    sNx)
    (sSeq (sAsg (cv 0) (tTp (tCns (tN 2) (tCns (tN 3) Fz.tNil))))
    (sSeq (sIf (bC opGe (cCall true 1 (r 3) (aCons (cv 2) aNil)) (cCall true 1 (r 3) (aCons (cv 3) aNil)))
    (sSeq (sAsg (c2 (opAdd false) (cCall true 2 (r 5) (aCons (cv 2) (aCons (cv 1) aNil))) (cCall true 2 (r 5) (aCons (cv 3) (aCons (cSl false (cv 1) (oS (cc (.int 1))) oN) aNil)))) (tN 4))
    (sRet (c2 (opAdd false) (cv 4) (cCl mkL (aCons (cCl mkT (aCons (cc (.str [106, 111, 105, 110])) (aCons (c2 opIx (cv 1) (cc (.int 0))) (aCons (c2 opIx (cv 1) (cc (.int 0))) (aCons (c2 opIx (cv 1) (cc (.int 1))) aNil))))) aNil)))))
    sNx)
    (sSeq (sAsg (c2 (opAdd false) (cCall true 2 (r 5) (aCons (cv 3) (aCons (cv 1) aNil))) (cCall true 2 (r 5) (aCons (cv 2) (aCons (cSl false (cv 1) (oS (cc (.int 1))) oN) aNil)))) (tN 4))
    (sRet (c2 (opAdd false) (cv 4) (cCl mkL (aCons (cCl mkT (aCons (cc (.str [106, 111, 105, 110])) (aCons (c2 opIx (cv 1) (cc (.int 0))) (aCons (c2 opIx (cv 1) (cc (.int 1))) (aCons (c2 opIx (cv 1) (cc (.int 0))) aNil))))) aNil))))))))
/-- deeds_for -/
def c_6 (r : Nat → Fn) : Cs := (sSeq (sExpr (cCall true 1 (r 2) (aCons (cv 0) aNil)))
    (sRet (cCl biTuple (aCons (cCall true 2 (r 5) (aCons (cv 0) (aCons (cLr false (aCons (cCall true 1 (r 3) (aCons (cv 0) aNil)) aNil)) aNil))) aNil))))
/-- run_deeds -/
def c_7 (r : Nat → Fn) : Cs := (sSeq (sIf (bOr (bNot (cT (cCall true 1 (r 0) (aCons (cv 0) aNil)))) (bNot (bCh opLe opLe (cc (.int 0)) (cv 0) (cc (.int 60)))))
    (sRaise 1 (cc (.str [109, 97, 110, 121])))
    sNx)
    (sSeq (sAsg (cCall false 2 (r 8) (aCons (cv 0) (aCons (cv 1) aNil))) (tN 2))
    (sSeq (sIf (bC (opNone false) (cv 2) (cc .non))
    (sRaise 1 (cc (.str [100, 101, 101, 100, 115])))
    sNx)
    (sRet (cCl biTuple (aCons (cv 2) aNil))))))
def c_8_0 (r : Nat → Fn) : Cs := (sSeq (sIf (bOr (bNot (cT (cIsi .tup (cv 3)))) (bOr (bC (opIn true) (cCl biLen (aCons (cv 3) aNil)) (cCl mkT (aCons (cc (.int 3)) (aCons (cc (.int 4)) aNil)))) (bNot (cT (cCl biAll (aCons (cLc false [4] (cIt (cSl false (cv 3) (oS (cc (.int 1))) oN)) (yN (tN 4)) bYes (cCall true 1 (r 0) (aCons (cv 4) aNil))) aNil))))))
    (sRet (cc .non))
    sNx)
    (sSeq (sIf (bNot (bCh opLe opLt (cc (.int 0)) (c2 opIx (cv 3) (cc (.int 1))) (cv 0)))
    (sRet (cc .non))
    sNx)
    (sIf (bAnd (bC (opEq false) (c2 opIx (cv 3) (cc (.int 0))) (cc (.str [108, 111, 97, 100]))) (bC (opEq false) (cCl biLen (aCons (cv 3) aNil)) (cc (.int 3))))
    (sSet (c2 opIx (cv 3) (cc (.int 2))) (cv 2) (c2 opIx (cv 3) (cc (.int 1))))
    (sIf (bAnd (bC (opEq false) (c2 opIx (cv 3) (cc (.int 0))) (cc (.str [106, 111, 105, 110]))) (bAnd (bC (opEq false) (cCl biLen (aCons (cv 3) aNil)) (cc (.int 4))) (bAnd (bCh opLe opLt (cc (.int 0)) (c2 opIx (cv 3) (cc (.int 2))) (cv 0)) (bCh opLe opLt (cc (.int 0)) (c2 opIx (cv 3) (cc (.int 3))) (cv 0)))))
    (sSeq (sAsg (cCl mkT (aCons (c2 opIx (cv 2) (c2 opIx (cv 3) (cc (.int 2)))) (aCons (c2 opIx (cv 2) (c2 opIx (cv 3) (cc (.int 3)))) aNil))) (tN 5))
    (sSeq (sIf (bOr (bC (opIn false) (cc .non) (cv 5)) (bNot (cT (cCall true 2 (r 1) (aCons (cv 5) (aCons (cc (.int 12)) aNil))))))
    (sRet (cc .non))
    sNx)
    (sSet (cv 5) (cv 2) (c2 opIx (cv 3) (cc (.int 1))))))
    (sRet (cc .non))))))
/-- run_of -/
def c_8 (r : Nat → Fn) : Cs := (sSeq (sIf (bNot (cT (cIsi .tup (cv 1))))
    (sRet (cc .non))
    sNx)
    (sSeq (sAsg (c2 (opMul true) (cCl mkM (aCons (cc .non) aNil)) (cv 0)) (tN 2))
    (sSeq (sFor (cIt (cv 1)) (yN (tN 3))
    (c_8_0 r))
    (sRet (cv 2)))))
/-- accept_deeds -/
def c_9 (r : Nat → Fn) : Cs := (sSeq (sExpr (cCall true 1 (r 2) (aCons (cv 0) aNil)))
    (sSeq (sIf (bOr (bNot (cT (cCall true 1 (r 0) (aCons (cv 1) aNil)))) (bNot (bCh opLe opLe (cc (.int 0)) (cv 1) (cc (.int 60)))))
    (sRaise 1 (cc (.str [109, 97, 110, 121])))
    sNx)
    (sSeq (sAsg (cCall false 2 (r 8) (aCons (cv 1) (aCons (cv 2) aNil))) (tN 3))
    (sSeq (sIf (bC (opNone false) (cv 3) (cc .non))
    (sRaise 2 (cc (.str [100, 101, 101, 100, 115])))
    sNx)
    (sIf (bOr (bNot (cT (cv 3))) (bC (opEq true) (c2 opIx (cv 3) (cc (.int 0))) (cv 0)))
    (sRaise 2 (cc (.str [116, 114, 101, 101])))
    sNx)))))
/-- numbered -/
def c_10 (r : Nat → Fn) : Cs := (sSeq (sExpr (cCall true 1 (r 2) (aCons (cv 0) aNil)))
    (sRet (cCall true 1 (r 11) (aCons (cv 0) aNil))))
/-- numbers_of -/
def c_11 (r : Nat → Fn) : Cs := (sSeq (sIf (bNot (cT (cIsi .tup (cv 0))))
    (sRet (cc (.int 1)))
    sNx)
    (sRet (cCl mkT (aCons (cCall true 1 (r 3) (aCons (cv 0) aNil)) (aCons (cCall true 1 (r 11) (aCons (c2 opIx (cv 0) (cc (.int 0))) aNil)) (aCons (cCall true 1 (r 11) (aCons (c2 opIx (cv 0) (cc (.int 1))) aNil)) aNil))))))
/-- accept_numbers -/
def c_12 (r : Nat → Fn) : Cs := (sSeq (sExpr (cCall true 1 (r 2) (aCons (cv 0) aNil)))
    (sIf (bNot (cT (cCall true 2 (r 13) (aCons (cv 0) (aCons (cv 1) aNil)))))
    (sRaise 2 (cc (.str [110, 117, 109, 98, 101, 114, 115])))
    sNx))
/-- are_numbers -/
def c_13 (r : Nat → Fn) : Cs := (sSeq (sIf (bNot (cT (cIsi .tup (cv 0))))
    (sRet (cAnd (cCall true 1 (r 0) (aCons (cv 1) aNil)) (c2 (opEq false) (cv 1) (cc (.int 1)))))
    sNx)
    (sSeq (sIf (bOr (bNot (cT (cIsi .tup (cv 1)))) (bOr (bC (opEq true) (cCl biLen (aCons (cv 1) aNil)) (cc (.int 3))) (bNot (cT (cCall true 1 (r 0) (aCons (c2 opIx (cv 1) (cc (.int 0))) aNil))))))
    (sRet (cc (.bl false)))
    sNx)
    (sSeq (sIf (bOr (bNot (cT (cCall true 2 (r 13) (aCons (c2 opIx (cv 0) (cc (.int 0))) (aCons (c2 opIx (cv 1) (cc (.int 1))) aNil))))) (bNot (cT (cCall true 2 (r 13) (aCons (c2 opIx (cv 0) (cc (.int 1))) (aCons (c2 opIx (cv 1) (cc (.int 2))) aNil))))))
    (sRet (cc (.bl false)))
    sNx)
    (sSeq (sAsg (cLc false [4] (cIt (cSl false (cv 1) (oS (cc (.int 1))) oN)) (yN (tN 4)) bYes (cIf (cT (cCall true 1 (r 0) (aCons (cv 4) aNil))) (cv 4) (c2 opIx (cv 4) (cc (.int 0))))) (tLs (tCns (tN 2) (tCns (tN 3) Fz.tNil))))
    (sRet (c2 (opEq false) (c2 opIx (cv 1) (cc (.int 0))) (cIf (bC (opEq false) (cv 2) (cv 3)) (c2 (opAdd false) (cv 2) (cc (.int 1))) (cCl biMax2 (aCons (cv 2) (aCons (cv 3) aNil))))))))))
def c_14_0 (r : Nat → Fn) : Cs := (sAsg (c2 (opAdd false) (c2 opMod (cCl biInt (aCons (c2 (opAdd false) (c2 (opMul false) (cv 1) (cc (.int 48271))) (cv 2)) aNil)) (cc (.int 2147483629))) (cc (.int 1))) (tN 1))
/-- _law_start -/
def c_14 (r : Nat → Fn) : Cs := (sSeq (sAsg (cc (.int 7)) (tN 1))
    (sSeq (sFor (cIt (cv 0)) (yN (tN 2))
    (c_14_0 r))
    (sRet (cCl mkM (aCons (cCl (biList false) (aCons (cv 0) aNil)) (aCons (cc (.int 0)) (aCons (cc (.int 0)) (aCons (cv 1) aNil))))))))
/-- _law_draw -/
def c_15 (r : Nat → Fn) : Cs := (sSeq (sIf (bAnd (bC (opEq false) (c2 opIx (cv 0) (cc (.int 1))) (cc (.int 0))) (bC opGe (c2 opIx (cv 0) (cc (.int 2))) (cCl biLen (aCons (c2 opIx (cv 0) (cc (.int 0))) aNil))))
    (sSeq (sSet (c2 opMod (cCl biInt (aCons (c2 (opAdd false) (c2 (opMul false) (c2 opIx (cv 0) (cc (.int 3))) (cc (.int 48271))) (cc (.int 69621))) aNil)) (cc (.int 2147483629))) (cv 0) (cc (.int 3)))
    (sRet (c2 opMod (cCl biInt (aCons (c2 opFdiv (c2 opIx (cv 0) (cc (.int 3))) (cc (.int 13))) aNil)) (cv 1))))
    sNx)
    (sSeq (sIf (bC (opEq false) (c2 opIx (cv 0) (cc (.int 1))) (cc (.int 0)))
    (sSeq (sSet (cCl biAbs (aCons (c2 opIx (c2 opIx (cv 0) (cc (.int 0))) (c2 opIx (cv 0) (cc (.int 2)))) aNil)) (cv 0) (cc (.int 1)))
    (sSet (c2 (opAdd false) (c2 opIx (cv 0) (cc (.int 2))) (cc (.int 1))) (cv 0) (cc (.int 2))))
    sNx)
    (sSeq (sAsg (c2 opMod (cCl biInt (aCons (c2 opIx (cv 0) (cc (.int 1))) aNil)) (cv 1)) (tN 2))
    (sSeq (sSet (c2 opFdiv (c2 opIx (cv 0) (cc (.int 1))) (cv 1)) (cv 0) (cc (.int 1)))
    (sRet (cv 2))))))
/-- _law_pick -/
def c_16 (r : Nat → Fn) : Cs := (sRet (c2 opIx (cv 1) (cCall false 2 (r 15) (aCons (cv 0) (aCons (cCl biLen (aCons (cv 1) aNil)) aNil)))))
/-- _law_same -/
def c_17 (r : Nat → Fn) : Cs := (sRet (cSame 0 1))
/-- _law_asked -/
def c_18 (r : Nat → Fn) : Cs := (sTry 2 [1, 2] (sSeq (sIf (bC opLt (cCl biLen (aCons (cv 1) aNil)) (cc (.int 3)))
    (sRet (cIf (bC (opEq false) (cCl biLen (aCons (cv 1) aNil)) (cc (.int 1))) (cCl mkL (aCons (cCallV 0 1 (tbl_1 r) (aCons (c2 opIx (cv 1) (cc (.int 0))) aNil)) aNil)) (cCl mkL (aCons (cCallV 0 2 (tbl_2 r) (aCons (c2 opIx (cv 1) (cc (.int 0))) (aCons (c2 opIx (cv 1) (cc (.int 1))) aNil))) aNil))))
    sNx)
    (sSeq (sIf (bC opLt (cCl biLen (aCons (cv 1) aNil)) (cc (.int 5)))
    (sRet (cIf (bC (opEq false) (cCl biLen (aCons (cv 1) aNil)) (cc (.int 3))) (cCl mkL (aCons (cCallV 0 3 (tbl_3 r) (aCons (c2 opIx (cv 1) (cc (.int 0))) (aCons (c2 opIx (cv 1) (cc (.int 1))) (aCons (c2 opIx (cv 1) (cc (.int 2))) aNil)))) aNil)) (cCl mkL (aCons (cCallV 0 4 (tbl_4 r) (aCons (c2 opIx (cv 1) (cc (.int 0))) (aCons (c2 opIx (cv 1) (cc (.int 1))) (aCons (c2 opIx (cv 1) (cc (.int 2))) (aCons (c2 opIx (cv 1) (cc (.int 3))) aNil))))) aNil))))
    sNx)
    (sRet (cCl mkL (aCons (cCallV 0 5 (tbl_5 r) (aCons (c2 opIx (cv 1) (cc (.int 0))) (aCons (c2 opIx (cv 1) (cc (.int 1))) (aCons (c2 opIx (cv 1) (cc (.int 2))) (aCons (c2 opIx (cv 1) (cc (.int 3))) (aCons (c2 opIx (cv 1) (cc (.int 4))) aNil)))))) aNil)))))
    su_0)
/-- _law_tree -/
def c_19 (r : Nat → Fn) : Cs := (sSeq (sIf (bOr (bC (opEq false) (cv 1) (cc (.int 0))) (bAnd (bNot (cT (cv 2))) (bC (opEq false) (cCall false 2 (r 15) (aCons (cv 0) (aCons (cc (.int 4)) aNil))) (cc (.int 0)))))
    (sRet (cCall false 2 (r 16) (aCons (cv 0) (aCons (cCl mkL (aCons (cc (.int 0)) (aCons (cc (.int 1)) (aCons (c1 opNeg (cc (.int 5))) (aCons (c2 opPow (cc (.int 10)) (cc (.int 30))) (aCons (cCall false 2 (r 15) (aCons (cv 0) (aCons (cc (.int 100)) aNil))) aNil)))))) aNil))))
    sNx)
    (sSeq (sAsg (cCall false 2 (r 16) (aCons (cv 0) (aCons (cCl mkL (aCons (c2 opSub (cv 1) (cc (.int 1))) (aCons (c2 opSub (cv 1) (cc (.int 1))) (aCons (cc (.int 0)) (aCons (cCall false 2 (r 15) (aCons (cv 0) (aCons (cv 1) aNil))) aNil))))) aNil))) (tN 3))
    (sSeq (sAsg (cCl mkT (aCons (cCall false 3 (r 19) (aCons (cv 0) (aCons (c2 opSub (cv 1) (cc (.int 1))) (aCons (cv 2) aNil)))) (aCons (cCall false 3 (r 19) (aCons (cv 0) (aCons (cv 3) (aCons (cv 2) aNil)))) aNil))) (tN 4))
    (sRet (cIf (bC (opEq false) (cCall false 2 (r 15) (aCons (cv 0) (aCons (cc (.int 2)) aNil))) (cc (.int 0))) (cv 4) (c1 opRevT (cv 4)))))))
/-- _law_need -/
def c_20 (r : Nat → Fn) : Cs := (sSeq (sIf (bNot (cT (cIsi .tup (cv 0))))
    (sRet (cc (.int 1)))
    sNx)
    (sSeq (sAsg (cCl (biSort false) (aCons (cCl mkL (aCons (cCall true 1 (r 20) (aCons (c2 opIx (cv 0) (cc (.int 0))) aNil)) (aCons (cCall true 1 (r 20) (aCons (c2 opIx (cv 0) (cc (.int 1))) aNil)) aNil))) aNil)) (tLs (tCns (tN 1) (tCns (tN 2) Fz.tNil))))
    (sRet (cIf (bC opLt (cv 1) (cv 2)) (cv 2) (c2 (opAdd false) (cv 1) (cc (.int 1)))))))
/-- _law_deeds -/
def c_21 (r : Nat → Fn) : Cs := (sSeq (sIf (bNot (cT (cIsi .tup (cv 0))))
    (sRet (cCl mkT (aCons (cCl mkT (aCons (cc (.str [108, 111, 97, 100])) (aCons (cv 1) (aCons (cv 0) aNil)))) aNil)))
    sNx)
    (sSeq (sIf (bC opLt (cCall true 1 (r 20) (aCons (c2 opIx (cv 0) (cc (.int 0))) aNil)) (cCall true 1 (r 20) (aCons (c2 opIx (cv 0) (cc (.int 1))) aNil)))
    (sRet (c2 (opAdd false) (c2 (opAdd false) (cCall true 2 (r 21) (aCons (c2 opIx (cv 0) (cc (.int 1))) (aCons (cv 1) aNil))) (cCall true 2 (r 21) (aCons (c2 opIx (cv 0) (cc (.int 0))) (aCons (c2 (opAdd false) (cv 1) (cc (.int 1))) aNil)))) (cCl mkT (aCons (cCl mkT (aCons (cc (.str [106, 111, 105, 110])) (aCons (cv 1) (aCons (c2 (opAdd false) (cv 1) (cc (.int 1))) (aCons (cv 1) aNil))))) aNil))))
    sNx)
    (sRet (c2 (opAdd false) (c2 (opAdd false) (cCall true 2 (r 21) (aCons (c2 opIx (cv 0) (cc (.int 0))) (aCons (cv 1) aNil))) (cCall true 2 (r 21) (aCons (c2 opIx (cv 0) (cc (.int 1))) (aCons (c2 (opAdd false) (cv 1) (cc (.int 1))) aNil)))) (cCl mkT (aCons (cCl mkT (aCons (cc (.str [106, 111, 105, 110])) (aCons (cv 1) (aCons (cv 1) (aCons (c2 (opAdd false) (cv 1) (cc (.int 1))) aNil))))) aNil))))))
/-- _law_numbers -/
def c_22 (r : Nat → Fn) : Cs := (sRet (cIf (cT (cIsi .tup (cv 0))) (cCl mkT (aCons (cCall true 1 (r 20) (aCons (cv 0) aNil)) (aCons (cCall true 1 (r 22) (aCons (c2 opIx (cv 0) (cc (.int 0))) aNil)) (aCons (cCall true 1 (r 22) (aCons (c2 opIx (cv 0) (cc (.int 1))) aNil)) aNil)))) (cc (.int 1))))
/-- _law_depth -/
def c_23 (r : Nat → Fn) : Cs := (sRet (cIf (cT (cIsi .tup (cv 0))) (c2 (opAdd false) (cc (.int 1)) (cCl biMaxD (aCons (cCl mkL (aCons (cCall true 1 (r 23) (aCons (c2 opIx (cv 0) (cc (.int 0))) aNil)) (aCons (cCall true 1 (r 23) (aCons (c2 opIx (cv 0) (cc (.int 1))) aNil)) aNil))) aNil))) (cc (.int 0))))
/-- _law_whole -/
def c_24 (r : Nat → Fn) : Cs := (sRet (cAnd (cIsi .int (cv 0)) (cNot (cIsi .bool (cv 0)))))
def c_25_0 (r : Nat → Fn) : Cs := (sSeq (sIf (bOr (bNot (cT (cIsi .tup (cv 3)))) (bOr (bNot (cT (cv 3))) (cT (cLc false [4] (cIt (cSl false (cv 3) (oS (cc (.int 1))) oN)) (yN (tN 4)) (bNot (cT (cCall true 1 (r 24) (aCons (cv 4) aNil)))) (cv 4)))))
    (sRet (cc .non))
    sNx)
    (sIf (bAnd (bC (opEq false) (cCl biLen (aCons (cv 3) aNil)) (cc (.int 3))) (bAnd (bC (opEq false) (c2 opIx (cv 3) (cc (.int 0))) (cc (.str [108, 111, 97, 100]))) (bCh opLe opLt (cc (.int 0)) (c2 opIx (cv 3) (cc (.int 1))) (cv 0))))
    (sSet (c2 opIx (cv 3) (cc (.int 2))) (cv 2) (c2 opIx (cv 3) (cc (.int 1))))
    (sIf (bAnd (bC (opEq false) (cCl biLen (aCons (cv 3) aNil)) (cc (.int 4))) (bAnd (bC (opEq false) (c2 opIx (cv 3) (cc (.int 0))) (cc (.str [106, 111, 105, 110]))) (bNot (cT (cLc false [4] (cIt (cSl false (cv 3) (oS (cc (.int 1))) oN)) (yN (tN 4)) (bNot (bCh opLe opLt (cc (.int 0)) (cv 4) (cv 0))) (cv 4))))))
    (sSeq (sPar (aCons (c2 opIx (cv 2) (c2 opIx (cv 3) (cc (.int 2)))) (aCons (c2 opIx (cv 2) (c2 opIx (cv 3) (cc (.int 3)))) aNil)) (tCns (tN 5) (tCns (tN 6) Fz.tNil)))
    (sSeq (sIf (bOr (bC (opNone false) (cv 5) (cc .non)) (bOr (bC (opNone false) (cv 6) (cc .non)) (bC opGt (cCall true 1 (r 23) (aCons (cCl mkT (aCons (cv 5) (aCons (cv 6) aNil))) aNil)) (cc (.int 12)))))
    (sRet (cc .non))
    sNx)
    (sSet (cCl mkT (aCons (cv 5) (aCons (cv 6) aNil))) (cv 2) (c2 opIx (cv 3) (cc (.int 1))))))
    (sRet (cc .non)))))
/-- _law_done -/
def c_25 (r : Nat → Fn) : Cs := (sSeq (sIf (bNot (cT (cIsi .tup (cv 1))))
    (sRet (cc .non))
    sNx)
    (sSeq (sAsg (c2 (opMul true) (cCl mkM (aCons (cc .non) aNil)) (cv 0)) (tN 2))
    (sSeq (sFor (cIt (cv 1)) (yN (tN 3))
    (c_25_0 r))
    (sRet (cCl biTuple (aCons (cv 2) aNil))))))
/-- _law_are_numbers -/
def c_26 (r : Nat → Fn) : Cs := (sSeq (sAsg (cCall true 1 (r 22) (aCons (cv 0) aNil)) (tN 2))
    (sRet (cAnd (c2 (opEq false) (cv 1) (cv 2)) (c2 opEqS (cCl biRepr (aCons (cv 1) aNil)) (cCl biRepr (aCons (cv 2) aNil))))))
/-- _law_deeds_due -/
def c_27 (r : Nat → Fn) : Cs := (sSeq (sAsg (cCall true 2 (r 25) (aCons (cv 1) (aCons (cv 2) aNil))) (tN 3))
    (sSeq (sIf (bC (opNone false) (cv 3) (cc .non))
    (sRet (cc (.str [112, 97, 112, 101, 114, 32, 100, 101, 101, 100, 115])))
    sNx)
    (sRet (cIf (bAnd (cT (cv 3)) (bAnd (bC (opEq false) (c2 opIx (cv 3) (cc (.int 0))) (cv 0)) (bC opEqS (cCl biRepr (aCons (c2 opIx (cv 3) (cc (.int 0))) aNil)) (cCl biRepr (aCons (cv 0) aNil))))) (cCl mkL (aCons (cc .non) aNil)) (cc (.str [112, 97, 112, 101, 114, 32, 116, 114, 101, 101]))))))
/-- _law_odd -/
def c_28 (r : Nat → Fn) : Cs := (sSeq (sAsg (cCl mkL (aCons (cc .non) (aCons (cc (.bl true)) (aCons (cc (.str [108, 111, 97, 100])) (aCons (cc (.str [106, 111, 105, 110])) (aCons (c1 opNeg (cc (.int 1))) (aCons (cc (.int 0)) (aCons (cc (.int 1)) (aCons (cc (.int 2)) (aCons (cc (.int 61)) (aCons (cCl mkT aNil) (aCons (cCl mkT (aCons (cc (.str [108, 111, 97, 100])) (aCons (cc (.int 0)) (aCons (cc (.int 1)) aNil)))) (aCons (cCl mkT (aCons (cc (.str [106, 111, 105, 110])) (aCons (cc (.int 0)) (aCons (cc (.int 0)) (aCons (cc (.int 0)) aNil))))) (aCons (cCl mkT (aCons (cc (.str [106, 111, 105, 110])) (aCons (cc (.int 0)) (aCons (cc (.int 0)) (aCons (cc (.int 1)) aNil))))) aNil)))))))))))))) (tN 1))
    (sRet (cCall false 2 (r 16) (aCons (cv 0) (aCons (c2 (opAdd false) (cv 1) (cCl mkL (aCons (cCl mkT (aCons (cc (.str [108, 111, 97, 100])) (aCons (cc (.int 0)) (aCons (cc .non) aNil)))) (aCons (cCl mkT (aCons (cc (.str [108, 111, 97, 100])) (aCons (cc (.int 0)) aNil))) (aCons (cCl mkT (aCons (cc (.int 0)) (aCons (cc (.int 0)) (aCons (cc (.int 0)) aNil)))) (aCons (cCl mkT (aCons (cc (.str [108, 111, 97, 100])) (aCons (cc (.int 9)) (aCons (cc (.int 5)) aNil)))) (aCons (cCl mkT (aCons (cc (.str [108, 111, 97, 100])) (aCons (cc (.int 0)) (aCons (cc (.bl true)) aNil)))) aNil))))))) aNil)))))
/-- _law_spoilt -/
def c_29 (r : Nat → Fn) : Cs := (sSeq (sIf (bOr (bNot (cT (cIsi .tup (cv 1)))) (bOr (bNot (cT (cv 1))) (bC (opEq false) (cCall false 2 (r 15) (aCons (cv 0) (aCons (cc (.int 8)) aNil))) (cc (.int 0)))))
    (sRet (cIf (bAnd (cT (cCall true 1 (r 24) (aCons (cv 1) aNil))) (bC (opEq false) (cCall false 2 (r 15) (aCons (cv 0) (aCons (cc (.int 2)) aNil))) (cc (.int 0)))) (c2 (opAdd false) (cv 1) (cCall false 2 (r 16) (aCons (cv 0) (aCons (cCl mkL (aCons (cc (.int 1)) (aCons (c1 opNeg (cc (.int 1))) aNil))) aNil)))) (cCall false 1 (r 28) (aCons (cv 0) aNil))))
    sNx)
    (sSeq (sAsg (cCall false 2 (r 15) (aCons (cv 0) (aCons (cCl biLen (aCons (cv 1) aNil)) aNil))) (tN 2))
    (sSeq (sAsg (c2 (opAdd false) (c2 (opAdd false) (cSl false (cv 1) oN (oS (cv 2))) (cCl mkT (aCons (cCall false 2 (r 29) (aCons (cv 0) (aCons (c2 opIx (cv 1) (cv 2)) aNil))) aNil))) (cSl false (cv 1) (oS (c2 (opAdd false) (cv 2) (cc (.int 1)))) oN)) (tN 3))
    (sRet (cCall false 2 (r 16) (aCons (cv 0) (aCons (cCl mkL (aCons (c2 (opAdd false) (cSl false (cv 1) oN (oS (cv 2))) (cSl false (cv 1) (oS (c2 (opAdd false) (cv 2) (cc (.int 1)))) oN)) (aCons (c2 (opAdd false) (cv 1) (cSl false (cv 1) (oS (cv 2)) (oS (c2 (opAdd false) (cv 2) (cc (.int 1)))))) (aCons (c1 opRevT (cv 1)) (aCons (c2 (opAdd false) (c2 (opAdd false) (cSl false (cv 1) oN (oS (cv 2))) (cCl mkT (aCons (cCall false 1 (r 28) (aCons (cv 0) aNil)) aNil))) (cSl false (cv 1) (oS (c2 (opAdd false) (cv 2) (cc (.int 1)))) oN)) (aCons (cv 3) (aCons (cv 3) (aCons (cv 3) (aCons (cv 3) aNil))))))))) aNil)))))))
def c_30_0 (r : Nat → Fn) : Cs := (sAsg (cIf (bC (opEq false) (cCall false 2 (r 15) (aCons (cv 0) (aCons (cc (.int 2)) aNil))) (cc (.int 0))) (cCl mkT (aCons (cv 2) (aCons (cc (.int 2)) aNil))) (cCl mkT (aCons (cc (.int 2)) (aCons (cv 2) aNil)))) (tN 2))
/-- _law_refused -/
def c_30 (r : Nat → Fn) : Cs := (sSeq (sAsg (cc (.int 1)) (tN 2))
    (sSeq (sFor (cR1 (aCons (cc (.int 13)) aNil)) (yN (tN 3))
    (c_30_0 r))
    (sSeq (sAsg (cIf (cT (cIsi .tup (c2 opIx (cv 2) (cc (.int 0))))) (c2 opIx (cv 2) (cc (.int 0))) (c2 opIx (cv 2) (cc (.int 1)))) (tN 4))
    (sSeq (sPar (aCons (cCall false 2 (r 16) (aCons (cv 0) (aCons (cCl mkL (aCons (cc .non) (aCons (cc (.bl true)) (aCons (cCl mkT (aCons (cc (.int 1)) aNil)) (aCons (cCl mkT (aCons (cc (.int 1)) (aCons (cc (.int 2)) (aCons (cc (.int 3)) aNil)))) (aCons (cCl mkT (aCons (cc (.int 1)) (aCons (cc .non) aNil))) (aCons (cc (.str [49])) (aCons (cCl mkT (aCons (cc (.int 1)) (aCons (cCl mkT (aCons (cc (.int 2)) (aCons (cc (.bl true)) aNil))) aNil))) (aCons (cv 2) (aCons (cCl mkT aNil) aNil)))))))))) aNil))) (aCons (cCall false 2 (r 16) (aCons (cv 0) (aCons (cCl mkL (aCons (c1 opNeg (cc (.int 1))) (aCons (cc (.int 61)) (aCons (cc (.bl true)) (aCons (cc .non) aNil))))) aNil))) aNil)) (tCns (tN 5) (tCns (tN 6) Fz.tNil)))
    (sSeq (sAsg (cCl mkL (aCons (cCall false 2 (r 18) (aCons (cF [110, 101, 101, 100, 101, 100]) (aCons (cCl mkL (aCons (cv 5) aNil)) aNil))) (aCons (cCall false 2 (r 18) (aCons (cF [100, 101, 101, 100, 115, 95, 102, 111, 114]) (aCons (cCl mkL (aCons (cv 5) aNil)) aNil))) (aCons (cCall false 2 (r 18) (aCons (cF [110, 117, 109, 98, 101, 114, 101, 100]) (aCons (cCl mkL (aCons (cv 5) aNil)) aNil))) (aCons (cCall false 2 (r 18) (aCons (cF [97, 99, 99, 101, 112, 116, 95, 100, 101, 101, 100, 115]) (aCons (cCl mkL (aCons (cv 5) (aCons (cv 6) (aCons (cc .non) aNil)))) aNil))) (aCons (cCall false 2 (r 18) (aCons (cF [97, 99, 99, 101, 112, 116, 95, 110, 117, 109, 98, 101, 114, 115]) (aCons (cCl mkL (aCons (cv 5) (aCons (cc .non) aNil))) aNil))) aNil)))))) (tN 7))
    (sSeq (sIf (bOr (bC (opEq true) (cv 7) (c2 (opMul false) (cCl mkM (aCons (cc (.str [97, 114, 103, 117, 109, 101, 110, 116, 32, 116, 114, 101, 101])) aNil)) (cc (.int 5)))) (bOr (bC (opEq true) (cCall false 2 (r 18) (aCons (cF [97, 99, 99, 101, 112, 116, 95, 100, 101, 101, 100, 115]) (aCons (cCl mkL (aCons (cv 1) (aCons (cv 6) (aCons (cc .non) aNil)))) aNil))) (cc (.str [97, 114, 103, 117, 109, 101, 110, 116, 32, 109, 97, 110, 121]))) (bC (opEq true) (cCall false 2 (r 18) (aCons (cF [114, 117, 110, 95, 100, 101, 101, 100, 115]) (aCons (cCl mkL (aCons (cv 6) (aCons (cc .non) aNil))) aNil))) (cc (.str [97, 114, 103, 117, 109, 101, 110, 116, 32, 109, 97, 110, 121])))))
    (sRet (cc (.bl false)))
    sNx)
    (sSeq (sAsg (cCall true 2 (r 21) (aCons (cv 4) (aCons (cc (.int 0)) aNil))) (tN 8))
    (sSeq (sIf (bNot (cT (cCall true 2 (r 17) (aCons (cCall false 2 (r 18) (aCons (cF [97, 99, 99, 101, 112, 116, 95, 100, 101, 101, 100, 115]) (aCons (cCl mkL (aCons (cv 4) (aCons (cc (.int 13)) (aCons (cv 8) aNil)))) aNil))) (aCons (cCl mkL (aCons (cc .non) aNil)) aNil)))))
    (sRet (cc (.bl false)))
    sNx)
    (sSeq (sAsg (cCl mkT (aCons (cCl mkT (aCons (cc (.str [108, 111, 97, 100])) (aCons (cc (.int 1)) (aCons (cc (.int 7)) aNil)))) aNil)) (tN 9))
    (sRet (cAnd (c2 (opEq false) (cCall false 2 (r 18) (aCons (cF [114, 117, 110, 95, 100, 101, 101, 100, 115]) (aCons (cCl mkL (aCons (cc (.int 13)) (aCons (c2 (opAdd false) (c2 (opAdd false) (cv 8) (cv 9)) (cCl mkT (aCons (cCl mkT (aCons (cc (.str [106, 111, 105, 110])) (aCons (cc (.int 0)) (aCons (cc (.int 0)) (aCons (cc (.int 1)) aNil))))) aNil))) aNil))) aNil))) (cc (.str [97, 114, 103, 117, 109, 101, 110, 116, 32, 100, 101, 101, 100, 115]))) (cIsi .lst (cCall false 2 (r 18) (aCons (cF [114, 117, 110, 95, 100, 101, 101, 100, 115]) (aCons (cCl mkL (aCons (cc (.int 13)) (aCons (c2 (opAdd false) (cv 8) (cv 9)) aNil))) aNil)))))))))))))))
def c_31_0 (r : Nat → Fn) : Cs := (sSeq (sAsg (cCall false 2 (r 16) (aCons (cv 1) (aCons (cCl mkL (aCons (cv 4) (aCons (cv 4) (aCons (cv 4) (aCons (c2 (opAdd false) (cv 4) (cc (.int 1))) (aCons (c2 opSub (cv 4) (cc (.int 1))) (aCons (cc (.int 0)) (aCons (cc (.int 60)) aNil)))))))) aNil))) (tN 7))
    (sSeq (sAsg (cIf (bC (opEq false) (cv 6) (cc (.int 0))) (cv 5) (cCall false 2 (r 29) (aCons (cv 1) (aCons (cv 5) aNil)))) (tN 8))
    (sSeq (sIf (bNot (cT (cCall true 2 (r 17) (aCons (cCall false 2 (r 18) (aCons (cF [97, 99, 99, 101, 112, 116, 95, 100, 101, 101, 100, 115]) (aCons (cCl mkL (aCons (cv 3) (aCons (cv 7) (aCons (cv 8) aNil)))) aNil))) (aCons (cCall true 3 (r 27) (aCons (cv 3) (aCons (cv 7) (aCons (cv 8) aNil)))) aNil)))))
    (sRet (cc (.bl false)))
    sNx)
    (sSeq (sAsg (cCall true 2 (r 25) (aCons (cv 7) (aCons (cv 8) aNil))) (tN 9))
    (sSeq (sIf (bNot (cT (cCall true 2 (r 17) (aCons (cCall false 2 (r 18) (aCons (cF [114, 117, 110, 95, 100, 101, 101, 100, 115]) (aCons (cCl mkL (aCons (cv 7) (aCons (cv 8) aNil))) aNil))) (aCons (cIf (bC (opNone false) (cv 9) (cc .non)) (cc (.str [97, 114, 103, 117, 109, 101, 110, 116, 32, 100, 101, 101, 100, 115])) (cCl mkL (aCons (cv 9) aNil))) aNil)))))
    (sRet (cc (.bl false)))
    sNx)
    (sSeq (sAsg (cIf (bC (opEq false) (cv 6) (cc (.int 0))) (cCall true 1 (r 22) (aCons (cv 3) aNil)) (cCall false 2 (r 29) (aCons (cv 1) (aCons (cCall true 1 (r 22) (aCons (cv 3) aNil)) aNil)))) (tN 10))
    (sIf (bNot (cT (cCall true 2 (r 17) (aCons (cCall false 2 (r 18) (aCons (cF [97, 99, 99, 101, 112, 116, 95, 110, 117, 109, 98, 101, 114, 115]) (aCons (cCl mkL (aCons (cv 3) (aCons (cv 10) aNil))) aNil))) (aCons (cIf (cT (cCall true 2 (r 26) (aCons (cv 3) (aCons (cv 10) aNil)))) (cCl mkL (aCons (cc .non) aNil)) (cc (.str [112, 97, 112, 101, 114, 32, 110, 117, 109, 98, 101, 114, 115]))) aNil)))))
    (sRet (cc (.bl false)))
    sNx)))))))
def c_31_1 (r : Nat → Fn) : Cs := (sSeq (sAsg (cCall false 3 (r 19) (aCons (cv 1) (aCons (cCall false 2 (r 16) (aCons (cv 1) (aCons (cCl mkL (aCons (cc (.int 0)) (aCons (cc (.int 1)) (aCons (cc (.int 2)) (aCons (cc (.int 4)) aNil))))) aNil))) (aCons (cc (.bl false)) aNil)))) (tN 3))
    (sSeq (sPar (aCons (cCall true 1 (r 20) (aCons (cv 3) aNil)) (aCons (cCall true 2 (r 21) (aCons (cv 3) (aCons (cc (.int 0)) aNil))) aNil)) (tCns (tN 4) (tCns (tN 5) Fz.tNil)))
    (sSeq (sFor (cR1 (aCons (cc (.int 8)) aNil)) (yN (tN 6))
    (c_31_0 r))
    (sIf (bNot (cT (cCall false 2 (r 30) (aCons (cv 1) (aCons (cv 3) aNil)))))
    (sRet (cc (.bl false)))
    sNx))))
/-- law -/
def c_31 (r : Nat → Fn) : Cs := (sSeq (sAsg (cCall false 1 (r 14) (aCons (cv 0) aNil)) (tN 1))
    (sSeq (sFor (cR1 (aCons (cc (.int 3)) aNil)) (yN (tN 2))
    (c_31_1 r))
    (sRet (cc (.bl true)))))
def step (r : Nat → Fn) : Nat → Fn
  | 0 => mkFn 1 1 (c_0 r)
  | 1 => mkFn 2 2 (c_1 r)
  | 2 => mkFn 1 1 (c_2 r)
  | 3 => mkFn 1 3 (c_3 r)
  | 4 => mkFn 1 1 (c_4 r)
  | 5 => mkFn 2 5 (c_5 r)
  | 6 => mkFn 1 1 (c_6 r)
  | 7 => mkFn 2 3 (c_7 r)
  | 8 => mkFn 2 6 (c_8 r)
  | 9 => mkFn 3 4 (c_9 r)
  | 10 => mkFn 1 1 (c_10 r)
  | 11 => mkFn 1 1 (c_11 r)
  | 12 => mkFn 2 2 (c_12 r)
  | 13 => mkFn 2 5 (c_13 r)
  | 14 => mkFn 1 3 (c_14 r)
  | 15 => mkFn 2 3 (c_15 r)
  | 16 => mkFn 2 2 (c_16 r)
  | 17 => mkFn 2 2 (c_17 r)
  | 18 => mkFn 2 3 (c_18 r)
  | 19 => mkFn 3 5 (c_19 r)
  | 20 => mkFn 1 3 (c_20 r)
  | 21 => mkFn 2 2 (c_21 r)
  | 22 => mkFn 1 1 (c_22 r)
  | 23 => mkFn 1 1 (c_23 r)
  | 24 => mkFn 1 1 (c_24 r)
  | 25 => mkFn 2 7 (c_25 r)
  | 26 => mkFn 2 3 (c_26 r)
  | 27 => mkFn 3 4 (c_27 r)
  | 28 => mkFn 1 2 (c_28 r)
  | 29 => mkFn 2 4 (c_29 r)
  | 30 => mkFn 2 10 (c_30 r)
  | 31 => mkFn 1 11 (c_31 r)
  | _ => fun _ _ => .no
/-- the defs, k calls deep -/
def run : Nat → Nat → Fn
  | 0 => fun _ _ _ => .no
  | k + 1 => step (run k)
theorem run_0 (k : Nat) : run (k + 1) 0 = mkFn 1 1 (c_0 (run k)) := rfl
theorem run_1 (k : Nat) : run (k + 1) 1 = mkFn 2 2 (c_1 (run k)) := rfl
theorem run_2 (k : Nat) : run (k + 1) 2 = mkFn 1 1 (c_2 (run k)) := rfl
theorem run_3 (k : Nat) : run (k + 1) 3 = mkFn 1 3 (c_3 (run k)) := rfl
theorem run_4 (k : Nat) : run (k + 1) 4 = mkFn 1 1 (c_4 (run k)) := rfl
theorem run_5 (k : Nat) : run (k + 1) 5 = mkFn 2 5 (c_5 (run k)) := rfl
theorem run_6 (k : Nat) : run (k + 1) 6 = mkFn 1 1 (c_6 (run k)) := rfl
theorem run_7 (k : Nat) : run (k + 1) 7 = mkFn 2 3 (c_7 (run k)) := rfl
theorem run_8 (k : Nat) : run (k + 1) 8 = mkFn 2 6 (c_8 (run k)) := rfl
theorem run_9 (k : Nat) : run (k + 1) 9 = mkFn 3 4 (c_9 (run k)) := rfl
theorem run_10 (k : Nat) : run (k + 1) 10 = mkFn 1 1 (c_10 (run k)) := rfl
theorem run_11 (k : Nat) : run (k + 1) 11 = mkFn 1 1 (c_11 (run k)) := rfl
theorem run_12 (k : Nat) : run (k + 1) 12 = mkFn 2 2 (c_12 (run k)) := rfl
theorem run_13 (k : Nat) : run (k + 1) 13 = mkFn 2 5 (c_13 (run k)) := rfl
theorem run_14 (k : Nat) : run (k + 1) 14 = mkFn 1 3 (c_14 (run k)) := rfl
theorem run_15 (k : Nat) : run (k + 1) 15 = mkFn 2 3 (c_15 (run k)) := rfl
theorem run_16 (k : Nat) : run (k + 1) 16 = mkFn 2 2 (c_16 (run k)) := rfl
theorem run_17 (k : Nat) : run (k + 1) 17 = mkFn 2 2 (c_17 (run k)) := rfl
theorem run_18 (k : Nat) : run (k + 1) 18 = mkFn 2 3 (c_18 (run k)) := rfl
theorem run_19 (k : Nat) : run (k + 1) 19 = mkFn 3 5 (c_19 (run k)) := rfl
theorem run_20 (k : Nat) : run (k + 1) 20 = mkFn 1 3 (c_20 (run k)) := rfl
theorem run_21 (k : Nat) : run (k + 1) 21 = mkFn 2 2 (c_21 (run k)) := rfl
theorem run_22 (k : Nat) : run (k + 1) 22 = mkFn 1 1 (c_22 (run k)) := rfl
theorem run_23 (k : Nat) : run (k + 1) 23 = mkFn 1 1 (c_23 (run k)) := rfl
theorem run_24 (k : Nat) : run (k + 1) 24 = mkFn 1 1 (c_24 (run k)) := rfl
theorem run_25 (k : Nat) : run (k + 1) 25 = mkFn 2 7 (c_25 (run k)) := rfl
theorem run_26 (k : Nat) : run (k + 1) 26 = mkFn 2 3 (c_26 (run k)) := rfl
theorem run_27 (k : Nat) : run (k + 1) 27 = mkFn 3 4 (c_27 (run k)) := rfl
theorem run_28 (k : Nat) : run (k + 1) 28 = mkFn 1 2 (c_28 (run k)) := rfl
theorem run_29 (k : Nat) : run (k + 1) 29 = mkFn 2 4 (c_29 (run k)) := rfl
theorem run_30 (k : Nat) : run (k + 1) 30 = mkFn 2 10 (c_30 (run k)) := rfl
theorem run_31 (k : Nat) : run (k + 1) 31 = mkFn 1 11 (c_31 (run k)) := rfl
/-! ### the text -/
structure Ad where
  f0 : Addr
  d0 : FuncData
  f1 : Addr
  d1 : FuncData
  f2 : Addr
  d2 : FuncData
  f3 : Addr
  d3 : FuncData
  f4 : Addr
  d4 : FuncData
  f5 : Addr
  d5 : FuncData
  f6 : Addr
  d6 : FuncData
  f7 : Addr
  d7 : FuncData
  f8 : Addr
  d8 : FuncData
  f9 : Addr
  d9 : FuncData
  f10 : Addr
  d10 : FuncData
  f11 : Addr
  d11 : FuncData
  f12 : Addr
  d12 : FuncData
  f13 : Addr
  d13 : FuncData
  f14 : Addr
  d14 : FuncData
  f15 : Addr
  d15 : FuncData
  f16 : Addr
  d16 : FuncData
  f17 : Addr
  d17 : FuncData
  f18 : Addr
  d18 : FuncData
  f19 : Addr
  d19 : FuncData
  f20 : Addr
  d20 : FuncData
  f21 : Addr
  d21 : FuncData
  f22 : Addr
  d22 : FuncData
  f23 : Addr
  d23 : FuncData
  f24 : Addr
  d24 : FuncData
  f25 : Addr
  d25 : FuncData
  f26 : Addr
  d26 : FuncData
  f27 : Addr
  d27 : FuncData
  f28 : Addr
  d28 : FuncData
  f29 : Addr
  d29 : FuncData
  f30 : Addr
  d30 : FuncData
  f31 : Addr
  d31 : FuncData
  fw : Addr
  dw : FuncData
  xI_0 : Addr
  xD_0 : FuncData
  xI_1 : Addr
  xD_1 : FuncData
  xI_2 : Addr
  xD_2 : FuncData
  xI_3 : Addr
  xD_3 : FuncData
  xM : Addr
structure Tx (P : Program) (K : PySem.W.Frag) (mg : Str → Option Value) (T : Tb) (a : Ad) : Prop where
  i_0 : Inf K mg "is_integer" a.f0 a.d0 ["value"]
  u_0 : Fun K "is_integer" "is_integer" (top 7) a.f0 a.d0
  i_1 : Inf K mg "is_tree" a.f1 a.d1 ["value", "depth"]
  u_1 : Fun K "is_tree" "is_tree" (top 11) a.f1 a.d1
  i_2 : Inf K mg "check_tree" a.f2 a.d2 ["tree"]
  u_2 : Fun K "check_tree" "check_tree" (top 12) a.f2 a.d2
  i_3 : Inf K mg "needed_of" a.f3 a.d3 ["tree"]
  u_3 : Fun K "needed_of" "needed_of" (top 13) a.f3 a.d3
  i_4 : Inf K mg "needed" a.f4 a.d4 ["tree"]
  u_4 : Fun K "needed" "needed" (top 14) a.f4 a.d4
  v_4 : fnAt K (toStr [110, 101, 101, 100, 101, 100]) = some a.f4
  i_5 : Inf K mg "worked" a.f5 a.d5 ["tree", "free"]
  u_5 : Fun K "worked" "worked" (top 15) a.f5 a.d5
  i_6 : Inf K mg "deeds_for" a.f6 a.d6 ["tree"]
  u_6 : Fun K "deeds_for" "deeds_for" (top 16) a.f6 a.d6
  v_6 : fnAt K (toStr [100, 101, 101, 100, 115, 95, 102, 111, 114]) = some a.f6
  i_7 : Inf K mg "run_deeds" a.f7 a.d7 ["many", "deeds"]
  u_7 : Fun K "run_deeds" "run_deeds" (top 17) a.f7 a.d7
  v_7 : fnAt K (toStr [114, 117, 110, 95, 100, 101, 101, 100, 115]) = some a.f7
  i_8 : Inf K mg "run_of" a.f8 a.d8 ["many", "deeds"]
  u_8 : Fun K "run_of" "run_of" (top 18) a.f8 a.d8
  i_9 : Inf K mg "accept_deeds" a.f9 a.d9 ["tree", "many", "deeds"]
  u_9 : Fun K "accept_deeds" "accept_deeds" (top 19) a.f9 a.d9
  v_9 : fnAt K (toStr [97, 99, 99, 101, 112, 116, 95, 100, 101, 101, 100, 115]) = some a.f9
  i_10 : Inf K mg "numbered" a.f10 a.d10 ["tree"]
  u_10 : Fun K "numbered" "numbered" (top 20) a.f10 a.d10
  v_10 : fnAt K (toStr [110, 117, 109, 98, 101, 114, 101, 100]) = some a.f10
  i_11 : Inf K mg "numbers_of" a.f11 a.d11 ["tree"]
  u_11 : Fun K "numbers_of" "numbers_of" (top 21) a.f11 a.d11
  i_12 : Inf K mg "accept_numbers" a.f12 a.d12 ["tree", "numbers"]
  u_12 : Fun K "accept_numbers" "accept_numbers" (top 22) a.f12 a.d12
  v_12 : fnAt K (toStr [97, 99, 99, 101, 112, 116, 95, 110, 117, 109, 98, 101, 114, 115]) = some a.f12
  i_13 : Inf K mg "are_numbers" a.f13 a.d13 ["tree", "numbers"]
  u_13 : Fun K "are_numbers" "are_numbers" (top 23) a.f13 a.d13
  i_14 : Inf K mg "_law_start" a.f14 a.d14 ["script"]
  u_14 : Fun K "_law_start" "_law_start" (top 25) a.f14 a.d14
  i_15 : Inf K mg "_law_draw" a.f15 a.d15 ["state", "many"]
  u_15 : Fun K "_law_draw" "_law_draw" (top 26) a.f15 a.d15
  i_16 : Inf K mg "_law_pick" a.f16 a.d16 ["state", "some"]
  u_16 : Fun K "_law_pick" "_law_pick" (top 27) a.f16 a.d16
  i_17 : Inf K mg "_law_same" a.f17 a.d17 ["actual", "due"]
  u_17 : Fun K "_law_same" "_law_same" (top 28) a.f17 a.d17
  i_18 : Inf K mg "_law_asked" a.f18 a.d18 ["way", "some"]
  u_18 : Fun K "_law_asked" "_law_asked" (top 30) a.f18 a.d18
  i_19 : Inf K mg "_law_tree" a.f19 a.d19 ["state", "depth", "full"]
  u_19 : Fun K "_law_tree" "_law_tree" (top 31) a.f19 a.d19
  i_20 : Inf K mg "_law_need" a.f20 a.d20 ["tree"]
  u_20 : Fun K "_law_need" "_law_need" (top 32) a.f20 a.d20
  i_21 : Inf K mg "_law_deeds" a.f21 a.d21 ["tree", "first"]
  u_21 : Fun K "_law_deeds" "_law_deeds" (top 33) a.f21 a.d21
  i_22 : Inf K mg "_law_numbers" a.f22 a.d22 ["tree"]
  u_22 : Fun K "_law_numbers" "_law_numbers" (top 34) a.f22 a.d22
  i_23 : Inf K mg "_law_depth" a.f23 a.d23 ["tree"]
  u_23 : Fun K "_law_depth" "_law_depth" (top 35) a.f23 a.d23
  i_24 : Inf K mg "_law_whole" a.f24 a.d24 ["value"]
  u_24 : Fun K "_law_whole" "_law_whole" (top 36) a.f24 a.d24
  i_25 : Inf K mg "_law_done" a.f25 a.d25 ["many", "deeds"]
  u_25 : Fun K "_law_done" "_law_done" (top 38) a.f25 a.d25
  i_26 : Inf K mg "_law_are_numbers" a.f26 a.d26 ["tree", "value"]
  u_26 : Fun K "_law_are_numbers" "_law_are_numbers" (top 39) a.f26 a.d26
  i_27 : Inf K mg "_law_deeds_due" a.f27 a.d27 ["tree", "many", "deeds"]
  u_27 : Fun K "_law_deeds_due" "_law_deeds_due" (top 40) a.f27 a.d27
  i_28 : Inf K mg "_law_odd" a.f28 a.d28 ["state"]
  u_28 : Fun K "_law_odd" "_law_odd" (top 41) a.f28 a.d28
  i_29 : Inf K mg "_law_spoilt" a.f29 a.d29 ["state", "value"]
  u_29 : Fun K "_law_spoilt" "_law_spoilt" (top 42) a.f29 a.d29
  i_30 : Inf K mg "_law_refused" a.f30 a.d30 ["state", "tree"]
  u_30 : Fun K "_law_refused" "_law_refused" (top 43) a.f30 a.d30
  i_31 : Inf K mg "law" a.f31 a.d31 ["script"]
  u_31 : Fun K "law" "law" (top 44) a.f31 a.d31
  z_ValueError : mg "ValueError" = none
  z_abs : mg "abs" = none
  z_all : mg "all" = none
  z_bool : mg "bool" = none
  z_int : mg "int" = none
  z_isinstance : mg "isinstance" = none
  z_len : mg "len" = none
  z_list : mg "list" = none
  z_max : mg "max" = none
  z_range : mg "range" = none
  z_repr : mg "repr" = none
  z_sorted : mg "sorted" = none
  z_str : mg "str" = none
  z_super : mg "super" = none
  z_tuple : mg "tuple" = none
  c_MAX_DEPTH : ∃ t, mg "MAX_DEPTH" = some (.int 12 t)
  c_MAX_SPANS : ∃ t, mg "MAX_SPANS" = some (.int 60 t)
  i_w : Inf K mg "_law_word" a.fw a.dw ["error"]
  u_w : Fun K "_law_word" "_law_word" (top 29) a.fw a.dw
  mm : mg "MemoryFault" = some (.ref a.xM)
  x_0 : Xc P K mg (T.xad 0) a.xI_0 "reason" "reason" "the heap is refused: " (inClass (top 2) 0) a.xD_0
  xb_0 : ∀ us : List Value, us.length = 2 → bindArgs a.xD_0 ⟨us, []⟩ = pure (([("self" : Str), "reason"] : List Str).zip us)
  xf_0 : T.efl 0 = "reason"
  xm_0 : mg "HeapError" = some (.ref (T.xad 0))
  em_0 : PySem.W.exmOne K (.ref (T.xad 0)) (.ref a.xM) = some true
  xe_0 : ExcC K (T.xad 0)
  xt_0 : XfC K (T.xad 0)
  kv_0 : PySem.W.kitOne K (.ref (T.xad 0)) (.type "ValueError") = some true
  x_1 : Xc P K mg (T.xad 1) a.xI_1 "reason" "reason" "an argument is refused: " (inClass (top 3) 0) a.xD_1
  xb_1 : ∀ us : List Value, us.length = 2 → bindArgs a.xD_1 ⟨us, []⟩ = pure (([("self" : Str), "reason"] : List Str).zip us)
  xf_1 : T.efl 1 = "reason"
  xm_1 : mg "ArgumentError" = some (.ref (T.xad 1))
  em_1 : PySem.W.exmOne K (.ref (T.xad 1)) (.ref a.xM) = some true
  xe_1 : ExcC K (T.xad 1)
  xt_1 : XfC K (T.xad 1)
  kv_1 : PySem.W.kitOne K (.ref (T.xad 1)) (.type "ValueError") = some true
  x_2 : Xc P K mg (T.xad 2) a.xI_2 "reason" "reason" "the paper is refused: " (inClass (top 4) 0) a.xD_2
  xb_2 : ∀ us : List Value, us.length = 2 → bindArgs a.xD_2 ⟨us, []⟩ = pure (([("self" : Str), "reason"] : List Str).zip us)
  xf_2 : T.efl 2 = "reason"
  xm_2 : mg "PaperError" = some (.ref (T.xad 2))
  em_2 : PySem.W.exmOne K (.ref (T.xad 2)) (.ref a.xM) = some true
  xe_2 : ExcC K (T.xad 2)
  xt_2 : XfC K (T.xad 2)
  kv_2 : PySem.W.kitOne K (.ref (T.xad 2)) (.type "ValueError") = some true
  x_3 : Xc P K mg (T.xad 3) a.xI_3 "reason" "reason" "too many: " (inClass (top 5) 0) a.xD_3
  xb_3 : ∀ us : List Value, us.length = 2 → bindArgs a.xD_3 ⟨us, []⟩ = pure (([("self" : Str), "reason"] : List Str).zip us)
  xf_3 : T.efl 3 = "reason"
  xm_3 : mg "TooMany" = some (.ref (T.xad 3))
  em_3 : PySem.W.exmOne K (.ref (T.xad 3)) (.ref a.xM) = some true
  xe_3 : ExcC K (T.xad 3)
  xt_3 : XfC K (T.xad 3)
  kv_3 : PySem.W.kitOne K (.ref (T.xad 3)) (.type "ValueError") = some true
  kt_1_0 : PySem.W.kitOne K (.ref (T.xad 1)) (.ref (T.xad 0)) = some false
  kt_1_1 : PySem.W.kitOne K (.ref (T.xad 1)) (.ref (T.xad 1)) = some true
  kt_1_2 : PySem.W.kitOne K (.ref (T.xad 1)) (.ref (T.xad 2)) = some false
  kt_1_3 : PySem.W.kitOne K (.ref (T.xad 1)) (.ref (T.xad 3)) = some false
  kt_2_0 : PySem.W.kitOne K (.ref (T.xad 2)) (.ref (T.xad 0)) = some false
  kt_2_1 : PySem.W.kitOne K (.ref (T.xad 2)) (.ref (T.xad 1)) = some false
  kt_2_2 : PySem.W.kitOne K (.ref (T.xad 2)) (.ref (T.xad 2)) = some true
  kt_2_3 : PySem.W.kitOne K (.ref (T.xad 2)) (.ref (T.xad 3)) = some false
structure Al (P : Program) (w : World) (K : PySem.W.Frag) (mg : Str → Option Value) (base : Heap) (T : Tb) (a : Ad) (k : Nat) : Prop where
  g_0 : FnG P w K mg base (3 * k) a.f0 a.d0 ["value"] (spF K T 1 (run k 0))
  g_1 : FnG P w K mg base (3 * k) a.f1 a.d1 ["value", "depth"] (spF K T 2 (run k 1))
  g_2 : FnG P w K mg base (3 * k) a.f2 a.d2 ["tree"] (spF K T 1 (run k 2))
  g_3 : FnG P w K mg base (3 * k) a.f3 a.d3 ["tree"] (spF K T 1 (run k 3))
  g_4 : FnG P w K mg base (3 * k) a.f4 a.d4 ["tree"] (spF K T 1 (run k 4))
  g_5 : FnG P w K mg base (3 * k) a.f5 a.d5 ["tree", "free"] (spF K T 2 (run k 5))
  g_6 : FnG P w K mg base (3 * k) a.f6 a.d6 ["tree"] (spF K T 1 (run k 6))
  g_7 : FnG P w K mg base (3 * k) a.f7 a.d7 ["many", "deeds"] (spF K T 2 (run k 7))
  g_8 : FnG P w K mg base (3 * k) a.f8 a.d8 ["many", "deeds"] (spF K T 2 (run k 8))
  g_9 : FnG P w K mg base (3 * k) a.f9 a.d9 ["tree", "many", "deeds"] (spF K T 3 (run k 9))
  g_10 : FnG P w K mg base (3 * k) a.f10 a.d10 ["tree"] (spF K T 1 (run k 10))
  g_11 : FnG P w K mg base (3 * k) a.f11 a.d11 ["tree"] (spF K T 1 (run k 11))
  g_12 : FnG P w K mg base (3 * k) a.f12 a.d12 ["tree", "numbers"] (spF K T 2 (run k 12))
  g_13 : FnG P w K mg base (3 * k) a.f13 a.d13 ["tree", "numbers"] (spF K T 2 (run k 13))
  g_14 : FnG P w K mg base (3 * k) a.f14 a.d14 ["script"] (spF K T 1 (run k 14))
  g_15 : FnG P w K mg base (3 * k) a.f15 a.d15 ["state", "many"] (spF K T 2 (run k 15))
  g_16 : FnG P w K mg base (3 * k) a.f16 a.d16 ["state", "some"] (spF K T 2 (run k 16))
  g_17 : FnG P w K mg base (3 * k) a.f17 a.d17 ["actual", "due"] (spF K T 2 (run k 17))
  g_18 : FnG P w K mg base (3 * k) a.f18 a.d18 ["way", "some"] (spF K T 2 (run k 18))
  g_19 : FnG P w K mg base (3 * k) a.f19 a.d19 ["state", "depth", "full"] (spF K T 3 (run k 19))
  g_20 : FnG P w K mg base (3 * k) a.f20 a.d20 ["tree"] (spF K T 1 (run k 20))
  g_21 : FnG P w K mg base (3 * k) a.f21 a.d21 ["tree", "first"] (spF K T 2 (run k 21))
  g_22 : FnG P w K mg base (3 * k) a.f22 a.d22 ["tree"] (spF K T 1 (run k 22))
  g_23 : FnG P w K mg base (3 * k) a.f23 a.d23 ["tree"] (spF K T 1 (run k 23))
  g_24 : FnG P w K mg base (3 * k) a.f24 a.d24 ["value"] (spF K T 1 (run k 24))
  g_25 : FnG P w K mg base (3 * k) a.f25 a.d25 ["many", "deeds"] (spF K T 2 (run k 25))
  g_26 : FnG P w K mg base (3 * k) a.f26 a.d26 ["tree", "value"] (spF K T 2 (run k 26))
  g_27 : FnG P w K mg base (3 * k) a.f27 a.d27 ["tree", "many", "deeds"] (spF K T 3 (run k 27))
  g_28 : FnG P w K mg base (3 * k) a.f28 a.d28 ["state"] (spF K T 1 (run k 28))
  g_29 : FnG P w K mg base (3 * k) a.f29 a.d29 ["state", "value"] (spF K T 2 (run k 29))
  g_30 : FnG P w K mg base (3 * k) a.f30 a.d30 ["state", "tree"] (spF K T 2 (run k 30))
  g_31 : FnG P w K mg base (3 * k) a.f31 a.d31 ["script"] (spF K T 1 (run k 31))
section
variable {P : Program} {w : World} {K : PySem.W.Frag} {mg : Str → Option Value} {base : Heap} {T : Tb} {a : Ad} {k : Nat}
theorem tl_1 (Z : Tx P K mg T a) (Q : Al P w K mg base T a k) : Tl' P w K mg base T (3 * k) 1 (tbl_1 (run k)) := by
  refine ⟨fun q pu g f h hf => ?_⟩
  unfold tbl_1 at h
  split at h
  · rename_i e; subst e; cases h
    rw [Z.v_4] at hf; cases hf
    exact ⟨_, _, Q.g_4.mono (by omega), Z.i_4.kp, Z.i_4.bn⟩
  split at h
  · rename_i e; subst e; cases h
    rw [Z.v_6] at hf; cases hf
    exact ⟨_, _, Q.g_6.mono (by omega), Z.i_6.kp, Z.i_6.bn⟩
  split at h
  · rename_i e; subst e; cases h
    rw [Z.v_10] at hf; cases hf
    exact ⟨_, _, Q.g_10.mono (by omega), Z.i_10.kp, Z.i_10.bn⟩
  cases h
theorem tl_2 (Z : Tx P K mg T a) (Q : Al P w K mg base T a k) : Tl' P w K mg base T (3 * k) 2 (tbl_2 (run k)) := by
  refine ⟨fun q pu g f h hf => ?_⟩
  unfold tbl_2 at h
  split at h
  · rename_i e; subst e; cases h
    rw [Z.v_7] at hf; cases hf
    exact ⟨_, _, Q.g_7.mono (by omega), Z.i_7.kp, Z.i_7.bn⟩
  split at h
  · rename_i e; subst e; cases h
    rw [Z.v_12] at hf; cases hf
    exact ⟨_, _, Q.g_12.mono (by omega), Z.i_12.kp, Z.i_12.bn⟩
  cases h
theorem tl_3 (Z : Tx P K mg T a) (Q : Al P w K mg base T a k) : Tl' P w K mg base T (3 * k) 3 (tbl_3 (run k)) := by
  refine ⟨fun q pu g f h hf => ?_⟩
  unfold tbl_3 at h
  split at h
  · rename_i e; subst e; cases h
    rw [Z.v_9] at hf; cases hf
    exact ⟨_, _, Q.g_9.mono (by omega), Z.i_9.kp, Z.i_9.bn⟩
  cases h
theorem tl_4 (Z : Tx P K mg T a) (Q : Al P w K mg base T a k) : Tl' P w K mg base T (3 * k) 4 (tbl_4 (run k)) := by
  refine ⟨fun q pu g f h hf => ?_⟩
  unfold tbl_4 at h
  cases h
theorem tl_5 (Z : Tx P K mg T a) (Q : Al P w K mg base T a k) : Tl' P w K mg base T (3 * k) 5 (tbl_5 (run k)) := by
  refine ⟨fun q pu g f h hf => ?_⟩
  unfold tbl_5 at h
  cases h
theorem sc_w : FnScope ["error", "heads", "found"] ["error"] (defScope (top 29)) := ⟨rfl, rfl, rfl, by decide +kernel, rfl, by decide +kernel, by decide +kernel⟩
theorem wd_1 (Z : Tx P K mg T a) {b dd : Addr} {oe : Obj} (hz : Zc (.ref (T.xad 1)) (some dd) oe) (hf : ∃ vs, oe.data = .fields vs) : FnP (b, oe) P w K mg base 1 a.fw a.dw ["error"] (spWd b dd "reason" (toStr [97, 114, 103, 117, 109, 101, 110, 116, 32])) := by
  refine fnP_of (k := 0) Z.u_w sc_w (fun vs H Q E h => by obtain ⟨s, rfl, _⟩ := h; rfl) fun cdv A outer s H vs Q E hr hsp => ?_
  obtain ⟨t, rfl, h1, h2, h3⟩ := hsp
  have hpn : (b, oe) ∈ ([(b, oe)] : List (Addr × Obj)) := List.mem_cons_self
  have hu := hr.un
  have th : toStr [97, 114, 103, 117, 109, 101, 110, 116, 32] = ("argument " : Str) := by decide +kernel
  rw [th] at *
  exact ⟨_, word_body (ws := [("heap " : Str), ("argument " : Str), ("paper " : Str), ("many " : Str)]) (bs := [false, true, false, false]) (i := 1) sc_w.nd rfl rfl rfl (.cons (.cons (.cons (.cons .nil)))) (.cons (k_isiC Z.xe_1 hpn hz hf Z.kt_1_0 Z.z_isinstance Z.xm_0) rfl (.cons (k_isiC Z.xe_1 hpn hz hf Z.kt_1_1 Z.z_isinstance Z.xm_1) rfl (.cons (k_isiC Z.xe_1 hpn hz hf Z.kt_1_2 Z.z_isinstance Z.xm_2) rfl (.cons (k_isiC Z.xe_1 hpn hz hf Z.kt_1_3 Z.z_isinstance Z.xm_3) rfl .nil)))) (by rfl) (by rfl) (by decide) (by decide)
    (word_one (i := 1) (by show (A.deeper _).units + 65 < _; omega) rfl (.inl rfl) rfl (by decide) (by rfl) (by rfl) (by rfl) (by rfl) (by rfl))
    (k_isiV Z.xe_1 hpn hz hf Z.kv_1 Z.z_isinstance Z.z_ValueError) (by intro _; rfl)
    (word_val (i := 1) (by show (A.deeper _).units + 65 < _; omega) rfl rfl (.inl rfl) (.inl rfl) rfl (fun m hm => by (have e : m = 0 := by omega); rcases e with rfl <;> rfl) rfl (k_fld Z.xt_1 hpn Z.x_1.fl hz hf) (by rfl) (by rfl) (by rfl) (by rfl) (by intro _ _; rfl)) pe_str, ⟨t, rfl, h1, h2, h3⟩⟩
theorem wd_2 (Z : Tx P K mg T a) {b dd : Addr} {oe : Obj} (hz : Zc (.ref (T.xad 2)) (some dd) oe) (hf : ∃ vs, oe.data = .fields vs) : FnP (b, oe) P w K mg base 1 a.fw a.dw ["error"] (spWd b dd "reason" (toStr [112, 97, 112, 101, 114, 32])) := by
  refine fnP_of (k := 0) Z.u_w sc_w (fun vs H Q E h => by obtain ⟨s, rfl, _⟩ := h; rfl) fun cdv A outer s H vs Q E hr hsp => ?_
  obtain ⟨t, rfl, h1, h2, h3⟩ := hsp
  have hpn : (b, oe) ∈ ([(b, oe)] : List (Addr × Obj)) := List.mem_cons_self
  have hu := hr.un
  have th : toStr [112, 97, 112, 101, 114, 32] = ("paper " : Str) := by decide +kernel
  rw [th] at *
  exact ⟨_, word_body (ws := [("heap " : Str), ("argument " : Str), ("paper " : Str), ("many " : Str)]) (bs := [false, false, true, false]) (i := 2) sc_w.nd rfl rfl rfl (.cons (.cons (.cons (.cons .nil)))) (.cons (k_isiC Z.xe_2 hpn hz hf Z.kt_2_0 Z.z_isinstance Z.xm_0) rfl (.cons (k_isiC Z.xe_2 hpn hz hf Z.kt_2_1 Z.z_isinstance Z.xm_1) rfl (.cons (k_isiC Z.xe_2 hpn hz hf Z.kt_2_2 Z.z_isinstance Z.xm_2) rfl (.cons (k_isiC Z.xe_2 hpn hz hf Z.kt_2_3 Z.z_isinstance Z.xm_3) rfl .nil)))) (by rfl) (by rfl) (by decide) (by decide)
    (word_one (i := 2) (by show (A.deeper _).units + 65 < _; omega) rfl (.inl rfl) rfl (by decide) (by rfl) (by rfl) (by rfl) (by rfl) (by rfl))
    (k_isiV Z.xe_2 hpn hz hf Z.kv_2 Z.z_isinstance Z.z_ValueError) (by intro _; rfl)
    (word_val (i := 2) (by show (A.deeper _).units + 65 < _; omega) rfl rfl (.inl rfl) (.inl rfl) rfl (fun m hm => by (have e : m = 0 ∨ m = 1 := by omega); rcases e with rfl | rfl <;> rfl) rfl (k_fld Z.xt_2 hpn Z.x_2.fl hz hf) (by rfl) (by rfl) (by rfl) (by rfl) (by intro _ _; rfl)) pe_str, ⟨t, rfl, h1, h2, h3⟩⟩
theorem sc_0 : FnScope ["value"] ["value"] (defScope (top 7)) := ⟨rfl, rfl, rfl, by decide +kernel, rfl, by decide +kernel, by decide +kernel⟩
/-- is_integer -/
theorem ok_0 (Z : Tx P K mg T a) (Q : Al P w K mg base T a k) : FnG P w K mg base (3 * (k + 1)) a.f0 a.d0 ["value"] (spF K T 1 (run (k + 1) 0)) := by
  refine fn_of' (k := 3 * k + 2) (code := c_0 (run k)) Z.u_0 sc_0 (run_0 k) rfl rfl rfl fun cdv A outer s H E G2 => ?_
  have G := G2.mono (j := 3 * k + 1) (by omega)
  exact (fss_one (fs_ret (fe_and (e_isi .int Z.z_isinstance Z.z_int (e_v 0)) (fe_one (fe_not (e_isi .bool Z.z_isinstance Z.z_bool (e_v 0)))))))
theorem sc_1 : FnScope ["value", "depth"] ["value", "depth"] (defScope (top 11)) := ⟨rfl, rfl, rfl, by decide +kernel, rfl, by decide +kernel, by decide +kernel⟩
/-- is_tree -/
theorem ok_1 (Z : Tx P K mg T a) (Q : Al P w K mg base T a k) : FnG P w K mg base (3 * (k + 1)) a.f1 a.d1 ["value", "depth"] (spF K T 2 (run (k + 1) 1)) := by
  refine fn_of' (k := 3 * k + 2) (code := c_1 (run k)) Z.u_1 sc_1 (run_1 k) rfl rfl rfl fun cdv A outer s H E G2 => ?_
  have G := G2.mono (j := 3 * k + 1) (by omega)
  exact (fss_cons (fs_if (t_tru (e_call true G Q.g_0 Z.i_0 (a_cons (e_v 0) fa_nil)))
    (fss_one (fs_ret e_bl))
    fss_nil)
    (fss_cons (fs_if (ft_w (fw_or (ft_not (t_tru (e_isi .tup Z.z_isinstance Z.z_tuple (e_v 0)))) (fw_or (t_cmp (k_ne G) (e_bi u_len Z.z_len (a_cons (e_v 0) fa_nil)) e_int) (fw_1 (t_cmp (k_eq G) (e_v 1) e_int)))))
    (fss_one (fs_ret e_bl))
    fss_nil)
    (fss_one (fs_ret (fe_and (e_call true G Q.g_1 Z.i_1 (a_cons (e_ix (e_v 0) e_int) (a_cons (e_sub (e_v 1) e_int) fa_nil))) (fe_one (e_call true G Q.g_1 Z.i_1 (a_cons (e_ix (e_v 0) e_int) (a_cons (e_sub (e_v 1) e_int) fa_nil)))))))))
theorem sc_2 : FnScope ["tree"] ["tree"] (defScope (top 12)) := ⟨rfl, rfl, rfl, by decide +kernel, rfl, by decide +kernel, by decide +kernel⟩
/-- check_tree -/
theorem ok_2 (Z : Tx P K mg T a) (Q : Al P w K mg base T a k) : FnG P w K mg base (3 * (k + 1)) a.f2 a.d2 ["tree"] (spF K T 1 (run (k + 1) 2)) := by
  refine fn_of' (k := 3 * k + 2) (code := c_2 (run k)) Z.u_2 sc_2 (run_2 k) rfl rfl rfl fun cdv A outer s H E G2 => ?_
  have G := G2.mono (j := 3 * k + 1) (by omega)
  exact (fss_one (fs_if (ft_not (t_tru (e_call true G Q.g_1 Z.i_1 (a_cons (e_v 0) (a_cons (e_gi 12 Z.c_MAX_DEPTH) fa_nil)))))
    (fss_one (s_raise (P := P) 1 G2 Z.x_1 Z.xb_1 Z.xf_1 Z.xm_1 (e_str [116, 114, 101, 101] (by decide +kernel) (by decide))))
    fss_nil))
theorem sc_3 : FnScope ["tree", "one", "other"] ["tree"] (defScope (top 13)) := ⟨rfl, rfl, rfl, by decide +kernel, rfl, by decide +kernel, by decide +kernel⟩
/-- needed_of -/
theorem ok_3 (Z : Tx P K mg T a) (Q : Al P w K mg base T a k) : FnG P w K mg base (3 * (k + 1)) a.f3 a.d3 ["tree"] (spF K T 1 (run (k + 1) 3)) := by
  refine fn_of' (k := 3 * k + 2) (code := c_3 (run k)) Z.u_3 sc_3 (run_3 k) rfl rfl rfl fun cdv A outer s H E G2 => ?_
  have G := G2.mono (j := 3 * k + 1) (by omega)
  exact (fss_cons (fs_if (ft_not (t_tru (e_isi .tup Z.z_isinstance Z.z_tuple (e_v 0))))
    (fss_one (fs_ret e_int))
    fss_nil)
    (fss_cons (s_par2 1 2 G (a_cons (e_call true G Q.g_3 Z.i_3 (a_cons (e_ix (e_v 0) e_int) fa_nil)) (a_cons (e_call true G Q.g_3 Z.i_3 (a_cons (e_ix (e_v 0) e_int) fa_nil)) fa_nil)))
    (fss_one (fs_ret (fe_if (t_cmp (k_eq G) (e_v 1) (e_v 2)) (e_add false (e_v 1) e_int) (e_bi (u_max2 G) Z.z_max (a_cons (e_v 1) (a_cons (e_v 2) fa_nil))))))))
theorem sc_4 : FnScope ["tree"] ["tree"] (defScope (top 14)) := ⟨rfl, rfl, rfl, by decide +kernel, rfl, by decide +kernel, by decide +kernel⟩
/-- needed -/
theorem ok_4 (Z : Tx P K mg T a) (Q : Al P w K mg base T a k) : FnG P w K mg base (3 * (k + 1)) a.f4 a.d4 ["tree"] (spF K T 1 (run (k + 1) 4)) := by
  refine fn_of' (k := 3 * k + 2) (code := c_4 (run k)) Z.u_4 sc_4 (run_4 k) rfl rfl rfl fun cdv A outer s H E G2 => ?_
  have G := G2.mono (j := 3 * k + 1) (by omega)
  exact (fss_cons (s_expr (e_call true G Q.g_2 Z.i_2 (a_cons (e_v 0) fa_nil)))
    (fss_one (fs_ret (e_call true G Q.g_3 Z.i_3 (a_cons (e_v 0) fa_nil)))))
theorem sc_5 : FnScope ["tree", "free", "first", "second", "rows"] ["tree", "free"] (defScope (top 15)) := ⟨rfl, rfl, rfl, by decide +kernel, rfl, by decide +kernel, by decide +kernel⟩
/-- worked -/
theorem ok_5 (Z : Tx P K mg T a) (Q : Al P w K mg base T a k) : FnG P w K mg base (3 * (k + 1)) a.f5 a.d5 ["tree", "free"] (spF K T 2 (run (k + 1) 5)) := by
  refine fn_of' (k := 3 * k + 2) (code := c_5 (run k)) Z.u_5 sc_5 (run_5 k) rfl rfl rfl fun cdv A outer s H E G2 => ?_
  have G := G2.mono (j := 3 * k + 1) (by omega)
  exact (fss_cons (fs_if (ft_not (t_tru (e_isi .tup Z.z_isinstance Z.z_tuple (e_v 0))))
    (fss_one (fs_ret (fe_lst (a_cons (fe_tup (a_cons (e_str [108, 111, 97, 100] (by decide +kernel) (by decide)) (a_cons (e_ix (e_v 1) e_int) (a_cons (e_v 0) fa_nil)))) fa_nil))))
    fss_nil)
    (fss_cons (s_asg (e_v 0) (g_t G (len_cns (len_cns len_nil)) (gs_cons (g_n 2 G) (gs_cons (g_n 3 G) fgs_nil))))
    (fss_cons (fs_if (t_cmp (k_ge) (e_call true G Q.g_3 Z.i_3 (a_cons (e_v 2) fa_nil)) (e_call true G Q.g_3 Z.i_3 (a_cons (e_v 3) fa_nil)))
    (fss_cons (s_set 4 G (e_add false (e_call true G Q.g_5 Z.i_5 (a_cons (e_v 2) (a_cons (e_v 1) fa_nil))) (e_call true G Q.g_5 Z.i_5 (a_cons (e_v 3) (a_cons (fe_sl (m := false) (e_v 1) (fo_s e_int) fo_n) fa_nil)))))
    (fss_one (fs_ret (e_add false (e_v 4) (fe_lst (a_cons (fe_tup (a_cons (e_str [106, 111, 105, 110] (by decide +kernel) (by decide)) (a_cons (e_ix (e_v 1) e_int) (a_cons (e_ix (e_v 1) e_int) (a_cons (e_ix (e_v 1) e_int) fa_nil))))) fa_nil))))))
    fss_nil)
    (fss_cons (s_set 4 G (e_add false (e_call true G Q.g_5 Z.i_5 (a_cons (e_v 3) (a_cons (e_v 1) fa_nil))) (e_call true G Q.g_5 Z.i_5 (a_cons (e_v 2) (a_cons (fe_sl (m := false) (e_v 1) (fo_s e_int) fo_n) fa_nil)))))
    (fss_one (fs_ret (e_add false (e_v 4) (fe_lst (a_cons (fe_tup (a_cons (e_str [106, 111, 105, 110] (by decide +kernel) (by decide)) (a_cons (e_ix (e_v 1) e_int) (a_cons (e_ix (e_v 1) e_int) (a_cons (e_ix (e_v 1) e_int) fa_nil))))) fa_nil)))))))))
theorem sc_6 : FnScope ["tree"] ["tree"] (defScope (top 16)) := ⟨rfl, rfl, rfl, by decide +kernel, rfl, by decide +kernel, by decide +kernel⟩
/-- deeds_for -/
theorem ok_6 (Z : Tx P K mg T a) (Q : Al P w K mg base T a k) : FnG P w K mg base (3 * (k + 1)) a.f6 a.d6 ["tree"] (spF K T 1 (run (k + 1) 6)) := by
  refine fn_of' (k := 3 * k + 2) (code := c_6 (run k)) Z.u_6 sc_6 (run_6 k) rfl rfl rfl fun cdv A outer s H E G2 => ?_
  have G := G2.mono (j := 3 * k + 1) (by omega)
  exact (fss_cons (s_expr (e_call true G Q.g_2 Z.i_2 (a_cons (e_v 0) fa_nil)))
    (fss_one (fs_ret (e_bi u_tuple Z.z_tuple (a_cons (e_call true G Q.g_5 Z.i_5 (a_cons (e_v 0) (a_cons (e_lr1 false G Z.z_list Z.z_range (e_call true G Q.g_3 Z.i_3 (a_cons (e_v 0) fa_nil))) fa_nil))) fa_nil)))))
theorem sc_7 : FnScope ["many", "deeds", "found"] ["many", "deeds"] (defScope (top 17)) := ⟨rfl, rfl, rfl, by decide +kernel, rfl, by decide +kernel, by decide +kernel⟩
/-- run_deeds -/
theorem ok_7 (Z : Tx P K mg T a) (Q : Al P w K mg base T a k) : FnG P w K mg base (3 * (k + 1)) a.f7 a.d7 ["many", "deeds"] (spF K T 2 (run (k + 1) 7)) := by
  refine fn_of' (k := 3 * k + 2) (code := c_7 (run k)) Z.u_7 sc_7 (run_7 k) rfl rfl rfl fun cdv A outer s H E G2 => ?_
  have G := G2.mono (j := 3 * k + 1) (by omega)
  exact (fss_cons (fs_if (ft_w (fw_or (ft_not (t_tru (e_call true G Q.g_0 Z.i_0 (a_cons (e_v 0) fa_nil)))) (fw_1 (ft_not (t_ch (k_le) (k_le) e_int (e_v 0) (e_gi 60 Z.c_MAX_SPANS))))))
    (fss_one (s_raise (P := P) 1 G2 Z.x_1 Z.xb_1 Z.xf_1 Z.xm_1 (e_str [109, 97, 110, 121] (by decide +kernel) (by decide))))
    fss_nil)
    (fss_cons (s_set 2 G (e_call false G Q.g_8 Z.i_8 (a_cons (e_v 0) (a_cons (e_v 1) fa_nil))))
    (fss_cons (fs_if (t_cmp (k_isN) (e_v 2) e_non)
    (fss_one (s_raise (P := P) 1 G2 Z.x_1 Z.xb_1 Z.xf_1 Z.xm_1 (e_str [100, 101, 101, 100, 115] (by decide +kernel) (by decide))))
    fss_nil)
    (fss_one (fs_ret (e_bi u_tuple Z.z_tuple (a_cons (e_v 2) fa_nil)))))))
theorem sc_8 : FnScope ["many", "deeds", "found", "deed", "part", "pair"] ["many", "deeds"] (defScope (top 18)) := ⟨rfl, rfl, rfl, by decide +kernel, rfl, by decide +kernel, by decide +kernel⟩
/-- run_of -/
theorem ok_8 (Z : Tx P K mg T a) (Q : Al P w K mg base T a k) : FnG P w K mg base (3 * (k + 1)) a.f8 a.d8 ["many", "deeds"] (spF K T 2 (run (k + 1) 8)) := by
  refine fn_of' (k := 3 * k + 2) (code := c_8 (run k)) Z.u_8 sc_8 (run_8 k) rfl rfl rfl fun cdv A outer s H E G2 => ?_
  have G := G2.mono (j := 3 * k + 1) (by omega)
  exact (fss_cons (fs_if (ft_not (t_tru (e_isi .tup Z.z_isinstance Z.z_tuple (e_v 1))))
    (fss_one (fs_ret e_non))
    fss_nil)
    (fss_cons (s_set 2 G (e_mul true (fe_lstM (a_cons e_non fa_nil)) (e_v 0)))
    (fss_cons (s_for G (fi_it (e_v 1)) (fy_n (g_n 3 G))
    (fss_cons (fs_if (ft_w (fw_or (ft_not (t_tru (e_isi .tup Z.z_isinstance Z.z_tuple (e_v 3)))) (fw_or (t_cmp (k_nin G) (e_bi u_len Z.z_len (a_cons (e_v 3) fa_nil)) (fe_tup (a_cons e_int (a_cons e_int fa_nil)))) (fw_1 (ft_not (t_tru (e_bi (u_all G) Z.z_all (a_cons (e_lc false [("part", 4)] G (by rfl) (by decide) (fi_it (fe_sl (m := false) (e_v 3) (fo_s e_int) fo_n)) (fun _ _ _ _ _ G => (fy_n (g_n 4 G))) (fun _ _ _ _ _ G => fts_nil) (fun _ _ _ _ _ G => (e_call true G Q.g_0 Z.i_0 (a_cons (e_v 4) fa_nil)))) fa_nil))))))))
    (fss_one (fs_ret e_non))
    fss_nil)
    (fss_cons (fs_if (ft_not (t_ch (k_le) (k_lt) e_int (e_ix (e_v 3) e_int) (e_v 0)))
    (fss_one (fs_ret e_non))
    fss_nil)
    (fss_one (fs_if (ft_w (fw_and (t_cmp (k_eq G) (e_ix (e_v 3) e_int) (e_str [108, 111, 97, 100] (by decide +kernel) (by decide))) (fw_1 (t_cmp (k_eq G) (e_bi u_len Z.z_len (a_cons (e_v 3) fa_nil)) e_int))))
    (fss_one (s_setL (e_ix (e_v 3) e_int) (e_v 2) (e_ix (e_v 3) e_int)))
    (fss_one (fs_if (ft_w (fw_and (t_cmp (k_eq G) (e_ix (e_v 3) e_int) (e_str [106, 111, 105, 110] (by decide +kernel) (by decide))) (fw_and (t_cmp (k_eq G) (e_bi u_len Z.z_len (a_cons (e_v 3) fa_nil)) e_int) (fw_and (t_ch (k_le) (k_lt) e_int (e_ix (e_v 3) e_int) (e_v 0)) (fw_1 (t_ch (k_le) (k_lt) e_int (e_ix (e_v 3) e_int) (e_v 0)))))))
    (fss_cons (s_set 5 G (fe_tup (a_cons (e_ix (e_v 2) (e_ix (e_v 3) e_int)) (a_cons (e_ix (e_v 2) (e_ix (e_v 3) e_int)) fa_nil))))
    (fss_cons (fs_if (ft_w (fw_or (t_cmp (k_in G) e_non (e_v 5)) (fw_1 (ft_not (t_tru (e_call true G Q.g_1 Z.i_1 (a_cons (e_v 5) (a_cons (e_gi 12 Z.c_MAX_DEPTH) fa_nil))))))))
    (fss_one (fs_ret e_non))
    fss_nil)
    (fss_one (s_setL (e_v 5) (e_v 2) (e_ix (e_v 3) e_int)))))
    (fss_one (fs_ret e_non)))))))))
    (fss_one (fs_ret (e_v 2))))))
theorem sc_9 : FnScope ["tree", "many", "deeds", "found"] ["tree", "many", "deeds"] (defScope (top 19)) := ⟨rfl, rfl, rfl, by decide +kernel, rfl, by decide +kernel, by decide +kernel⟩
/-- accept_deeds -/
theorem ok_9 (Z : Tx P K mg T a) (Q : Al P w K mg base T a k) : FnG P w K mg base (3 * (k + 1)) a.f9 a.d9 ["tree", "many", "deeds"] (spF K T 3 (run (k + 1) 9)) := by
  refine fn_of' (k := 3 * k + 2) (code := c_9 (run k)) Z.u_9 sc_9 (run_9 k) rfl rfl rfl fun cdv A outer s H E G2 => ?_
  have G := G2.mono (j := 3 * k + 1) (by omega)
  exact (fss_cons (s_expr (e_call true G Q.g_2 Z.i_2 (a_cons (e_v 0) fa_nil)))
    (fss_cons (fs_if (ft_w (fw_or (ft_not (t_tru (e_call true G Q.g_0 Z.i_0 (a_cons (e_v 1) fa_nil)))) (fw_1 (ft_not (t_ch (k_le) (k_le) e_int (e_v 1) (e_gi 60 Z.c_MAX_SPANS))))))
    (fss_one (s_raise (P := P) 1 G2 Z.x_1 Z.xb_1 Z.xf_1 Z.xm_1 (e_str [109, 97, 110, 121] (by decide +kernel) (by decide))))
    fss_nil)
    (fss_cons (s_set 3 G (e_call false G Q.g_8 Z.i_8 (a_cons (e_v 1) (a_cons (e_v 2) fa_nil))))
    (fss_cons (fs_if (t_cmp (k_isN) (e_v 3) e_non)
    (fss_one (s_raise (P := P) 2 G2 Z.x_2 Z.xb_2 Z.xf_2 Z.xm_2 (e_str [100, 101, 101, 100, 115] (by decide +kernel) (by decide))))
    fss_nil)
    (fss_one (fs_if (ft_w (fw_or (ft_not (t_tru (e_v 3))) (fw_1 (t_cmp (k_ne G) (e_ix (e_v 3) e_int) (e_v 0)))))
    (fss_one (s_raise (P := P) 2 G2 Z.x_2 Z.xb_2 Z.xf_2 Z.xm_2 (e_str [116, 114, 101, 101] (by decide +kernel) (by decide))))
    fss_nil))))))
theorem sc_10 : FnScope ["tree"] ["tree"] (defScope (top 20)) := ⟨rfl, rfl, rfl, by decide +kernel, rfl, by decide +kernel, by decide +kernel⟩
/-- numbered -/
theorem ok_10 (Z : Tx P K mg T a) (Q : Al P w K mg base T a k) : FnG P w K mg base (3 * (k + 1)) a.f10 a.d10 ["tree"] (spF K T 1 (run (k + 1) 10)) := by
  refine fn_of' (k := 3 * k + 2) (code := c_10 (run k)) Z.u_10 sc_10 (run_10 k) rfl rfl rfl fun cdv A outer s H E G2 => ?_
  have G := G2.mono (j := 3 * k + 1) (by omega)
  exact (fss_cons (s_expr (e_call true G Q.g_2 Z.i_2 (a_cons (e_v 0) fa_nil)))
    (fss_one (fs_ret (e_call true G Q.g_11 Z.i_11 (a_cons (e_v 0) fa_nil)))))
theorem sc_11 : FnScope ["tree"] ["tree"] (defScope (top 21)) := ⟨rfl, rfl, rfl, by decide +kernel, rfl, by decide +kernel, by decide +kernel⟩
/-- numbers_of -/
theorem ok_11 (Z : Tx P K mg T a) (Q : Al P w K mg base T a k) : FnG P w K mg base (3 * (k + 1)) a.f11 a.d11 ["tree"] (spF K T 1 (run (k + 1) 11)) := by
  refine fn_of' (k := 3 * k + 2) (code := c_11 (run k)) Z.u_11 sc_11 (run_11 k) rfl rfl rfl fun cdv A outer s H E G2 => ?_
  have G := G2.mono (j := 3 * k + 1) (by omega)
  exact (fss_cons (fs_if (ft_not (t_tru (e_isi .tup Z.z_isinstance Z.z_tuple (e_v 0))))
    (fss_one (fs_ret e_int))
    fss_nil)
    (fss_one (fs_ret (fe_tup (a_cons (e_call true G Q.g_3 Z.i_3 (a_cons (e_v 0) fa_nil)) (a_cons (e_call true G Q.g_11 Z.i_11 (a_cons (e_ix (e_v 0) e_int) fa_nil)) (a_cons (e_call true G Q.g_11 Z.i_11 (a_cons (e_ix (e_v 0) e_int) fa_nil)) fa_nil)))))))
theorem sc_12 : FnScope ["tree", "numbers"] ["tree", "numbers"] (defScope (top 22)) := ⟨rfl, rfl, rfl, by decide +kernel, rfl, by decide +kernel, by decide +kernel⟩
/-- accept_numbers -/
theorem ok_12 (Z : Tx P K mg T a) (Q : Al P w K mg base T a k) : FnG P w K mg base (3 * (k + 1)) a.f12 a.d12 ["tree", "numbers"] (spF K T 2 (run (k + 1) 12)) := by
  refine fn_of' (k := 3 * k + 2) (code := c_12 (run k)) Z.u_12 sc_12 (run_12 k) rfl rfl rfl fun cdv A outer s H E G2 => ?_
  have G := G2.mono (j := 3 * k + 1) (by omega)
  exact (fss_cons (s_expr (e_call true G Q.g_2 Z.i_2 (a_cons (e_v 0) fa_nil)))
    (fss_one (fs_if (ft_not (t_tru (e_call true G Q.g_13 Z.i_13 (a_cons (e_v 0) (a_cons (e_v 1) fa_nil)))))
    (fss_one (s_raise (P := P) 2 G2 Z.x_2 Z.xb_2 Z.xf_2 Z.xm_2 (e_str [110, 117, 109, 98, 101, 114, 115] (by decide +kernel) (by decide))))
    fss_nil)))
theorem sc_13 : FnScope ["tree", "numbers", "one", "other", "part"] ["tree", "numbers"] (defScope (top 23)) := ⟨rfl, rfl, rfl, by decide +kernel, rfl, by decide +kernel, by decide +kernel⟩
/-- are_numbers -/
theorem ok_13 (Z : Tx P K mg T a) (Q : Al P w K mg base T a k) : FnG P w K mg base (3 * (k + 1)) a.f13 a.d13 ["tree", "numbers"] (spF K T 2 (run (k + 1) 13)) := by
  refine fn_of' (k := 3 * k + 2) (code := c_13 (run k)) Z.u_13 sc_13 (run_13 k) rfl rfl rfl fun cdv A outer s H E G2 => ?_
  have G := G2.mono (j := 3 * k + 1) (by omega)
  exact (fss_cons (fs_if (ft_not (t_tru (e_isi .tup Z.z_isinstance Z.z_tuple (e_v 0))))
    (fss_one (fs_ret (fe_and (e_call true G Q.g_0 Z.i_0 (a_cons (e_v 1) fa_nil)) (fe_one (e_cmp (k_eq G) (e_v 1) e_int)))))
    fss_nil)
    (fss_cons (fs_if (ft_w (fw_or (ft_not (t_tru (e_isi .tup Z.z_isinstance Z.z_tuple (e_v 1)))) (fw_or (t_cmp (k_ne G) (e_bi u_len Z.z_len (a_cons (e_v 1) fa_nil)) e_int) (fw_1 (ft_not (t_tru (e_call true G Q.g_0 Z.i_0 (a_cons (e_ix (e_v 1) e_int) fa_nil))))))))
    (fss_one (fs_ret e_bl))
    fss_nil)
    (fss_cons (fs_if (ft_w (fw_or (ft_not (t_tru (e_call true G Q.g_13 Z.i_13 (a_cons (e_ix (e_v 0) e_int) (a_cons (e_ix (e_v 1) e_int) fa_nil))))) (fw_1 (ft_not (t_tru (e_call true G Q.g_13 Z.i_13 (a_cons (e_ix (e_v 0) e_int) (a_cons (e_ix (e_v 1) e_int) fa_nil))))))))
    (fss_one (fs_ret e_bl))
    fss_nil)
    (fss_cons (s_asg (e_lc false [("part", 4)] G (by rfl) (by decide) (fi_it (fe_sl (m := false) (e_v 1) (fo_s e_int) fo_n)) (fun _ _ _ _ _ G => (fy_n (g_n 4 G))) (fun _ _ _ _ _ G => fts_nil) (fun _ _ _ _ _ G => (fe_if (t_tru (e_call true G Q.g_0 Z.i_0 (a_cons (e_v 4) fa_nil))) (e_v 4) (e_ix (e_v 4) e_int)))) (g_l G (len_cns (len_cns len_nil)) (gs_cons (g_n 2 G) (gs_cons (g_n 3 G) fgs_nil))))
    (fss_one (fs_ret (e_cmp (k_eq G) (e_ix (e_v 1) e_int) (fe_if (t_cmp (k_eq G) (e_v 2) (e_v 3)) (e_add false (e_v 2) e_int) (e_bi (u_max2 G) Z.z_max (a_cons (e_v 2) (a_cons (e_v 3) fa_nil)))))))))))
theorem sc_14 : FnScope ["script", "seed", "cell"] ["script"] (defScope (top 25)) := ⟨rfl, rfl, rfl, by decide +kernel, rfl, by decide +kernel, by decide +kernel⟩
/-- _law_start -/
theorem ok_14 (Z : Tx P K mg T a) (Q : Al P w K mg base T a k) : FnG P w K mg base (3 * (k + 1)) a.f14 a.d14 ["script"] (spF K T 1 (run (k + 1) 14)) := by
  refine fn_of' (k := 3 * k + 2) (code := c_14 (run k)) Z.u_14 sc_14 (run_14 k) rfl rfl rfl fun cdv A outer s H E G2 => ?_
  have G := G2.mono (j := 3 * k + 1) (by omega)
  exact (fss_cons (s_set 1 G e_int)
    (fss_cons (s_for G (fi_it (e_v 0)) (fy_n (g_n 2 G))
    (fss_one (s_set 1 G (e_add false (e_mod (e_bi u_int Z.z_int (a_cons (e_add false (e_mul false (e_v 1) e_int) (e_v 2)) fa_nil)) e_int) e_int))))
    (fss_one (fs_ret (fe_lstM (a_cons (e_bi (u_list false) Z.z_list (a_cons (e_v 0) fa_nil)) (a_cons e_int (a_cons e_int (a_cons (e_v 1) fa_nil)))))))))
theorem sc_15 : FnScope ["state", "many", "value"] ["state", "many"] (defScope (top 26)) := ⟨rfl, rfl, rfl, by decide +kernel, rfl, by decide +kernel, by decide +kernel⟩
/-- _law_draw -/
theorem ok_15 (Z : Tx P K mg T a) (Q : Al P w K mg base T a k) : FnG P w K mg base (3 * (k + 1)) a.f15 a.d15 ["state", "many"] (spF K T 2 (run (k + 1) 15)) := by
  refine fn_of' (k := 3 * k + 2) (code := c_15 (run k)) Z.u_15 sc_15 (run_15 k) rfl rfl rfl fun cdv A outer s H E G2 => ?_
  have G := G2.mono (j := 3 * k + 1) (by omega)
  exact (fss_cons (fs_if (ft_w (fw_and (t_cmp (k_eq G) (e_ix (e_v 0) e_int) e_int) (fw_1 (t_cmp (k_ge) (e_ix (e_v 0) e_int) (e_bi u_len Z.z_len (a_cons (e_ix (e_v 0) e_int) fa_nil))))))
    (fss_cons (s_setL (e_mod (e_bi u_int Z.z_int (a_cons (e_add false (e_mul false (e_ix (e_v 0) e_int) e_int) e_int) fa_nil)) e_int) (e_v 0) e_int)
    (fss_one (fs_ret (e_mod (e_bi u_int Z.z_int (a_cons (e_fdiv (e_ix (e_v 0) e_int) e_int) fa_nil)) (e_v 1)))))
    fss_nil)
    (fss_cons (fs_if (t_cmp (k_eq G) (e_ix (e_v 0) e_int) e_int)
    (fss_cons (s_setL (e_bi u_abs Z.z_abs (a_cons (e_ix (e_ix (e_v 0) e_int) (e_ix (e_v 0) e_int)) fa_nil)) (e_v 0) e_int)
    (fss_one (s_setL (e_add false (e_ix (e_v 0) e_int) e_int) (e_v 0) e_int)))
    fss_nil)
    (fss_cons (s_set 2 G (e_mod (e_bi u_int Z.z_int (a_cons (e_ix (e_v 0) e_int) fa_nil)) (e_v 1)))
    (fss_cons (s_setL (e_fdiv (e_ix (e_v 0) e_int) (e_v 1)) (e_v 0) e_int)
    (fss_one (fs_ret (e_v 2)))))))
theorem sc_16 : FnScope ["state", "some"] ["state", "some"] (defScope (top 27)) := ⟨rfl, rfl, rfl, by decide +kernel, rfl, by decide +kernel, by decide +kernel⟩
/-- _law_pick -/
theorem ok_16 (Z : Tx P K mg T a) (Q : Al P w K mg base T a k) : FnG P w K mg base (3 * (k + 1)) a.f16 a.d16 ["state", "some"] (spF K T 2 (run (k + 1) 16)) := by
  refine fn_of' (k := 3 * k + 2) (code := c_16 (run k)) Z.u_16 sc_16 (run_16 k) rfl rfl rfl fun cdv A outer s H E G2 => ?_
  have G := G2.mono (j := 3 * k + 1) (by omega)
  exact (fss_one (fs_ret (e_ix (e_v 1) (e_call false G Q.g_15 Z.i_15 (a_cons (e_v 0) (a_cons (e_bi u_len Z.z_len (a_cons (e_v 1) fa_nil)) fa_nil))))))
theorem sc_17 : FnScope ["actual", "due"] ["actual", "due"] (defScope (top 28)) := ⟨rfl, rfl, rfl, by decide +kernel, rfl, by decide +kernel, by decide +kernel⟩
/-- _law_same -/
theorem ok_17 (Z : Tx P K mg T a) (Q : Al P w K mg base T a k) : FnG P w K mg base (3 * (k + 1)) a.f17 a.d17 ["actual", "due"] (spF K T 2 (run (k + 1) 17)) := by
  refine fn_of' (k := 3 * k + 2) (code := c_17 (run k)) Z.u_17 sc_17 (run_17 k) rfl rfl rfl fun cdv A outer s H E G2 => ?_
  have G := G2.mono (j := 3 * k + 1) (by omega)
  exact (fss_one (fs_ret (fe_same (fe_and (e_cmp (k_eq G) (e_v 0) (e_v 1)) (fe_one (e_cmp k_eqS (e_bi (u_repr G) Z.z_repr (a_cons (e_v 0) fa_nil)) (e_bi (u_repr G) Z.z_repr (a_cons (e_v 1) fa_nil))))))))
theorem sc_18 : FnScope ["way", "some", "error"] ["way", "some"] (defScope (top 30)) := ⟨rfl, rfl, rfl, by decide +kernel, rfl, by decide +kernel, by decide +kernel⟩
/-- _law_asked -/
theorem ok_18 (Z : Tx P K mg T a) (Q : Al P w K mg base T a k) : FnG P w K mg base (3 * (k + 1)) a.f18 a.d18 ["way", "some"] (spF K T 2 (run (k + 1) 18)) := by
  refine fn_of' (k := 3 * k + 2) (code := c_18 (run k)) Z.u_18 sc_18 (run_18 k) rfl rfl rfl fun cdv A outer s H E G2 => ?_
  have G := G2.mono (j := 3 * k + 1) (by omega)
  exact (fss_one (fs_try (su := su_0) (cs := [1, 2]) (i := 2) G rfl rfl (by rfl) (by rfl) ⟨by rfl, by decide, .inl Z.mm⟩ (fun c hc => by
      simp only [List.mem_cons, List.not_mem_nil, or_false] at hc
      rcases hc with rfl | rfl
      · exact Z.em_1
      · exact Z.em_2)
    (fun W pn xe G => (fss_cons (fs_if (t_cmp (k_lt) (e_bi u_len Z.z_len (a_cons (e_v 1) fa_nil)) e_int)
    (fss_one (fs_ret (fe_if (t_cmp (k_eq G) (e_bi u_len Z.z_len (a_cons (e_v 1) fa_nil)) e_int) (fe_lst (a_cons (e_cv 0 G (tl_1 Z Q) (a_cons (e_ix (e_v 1) e_int) fa_nil)) fa_nil)) (fe_lst (a_cons (e_cv 0 G (tl_2 Z Q) (a_cons (e_ix (e_v 1) e_int) (a_cons (e_ix (e_v 1) e_int) fa_nil))) fa_nil)))))
    fss_nil)
    (fss_cons (fs_if (t_cmp (k_lt) (e_bi u_len Z.z_len (a_cons (e_v 1) fa_nil)) e_int)
    (fss_one (fs_ret (fe_if (t_cmp (k_eq G) (e_bi u_len Z.z_len (a_cons (e_v 1) fa_nil)) e_int) (fe_lst (a_cons (e_cv 0 G (tl_3 Z Q) (a_cons (e_ix (e_v 1) e_int) (a_cons (e_ix (e_v 1) e_int) (a_cons (e_ix (e_v 1) e_int) fa_nil)))) fa_nil)) (fe_lst (a_cons (e_cv 0 G (tl_4 Z Q) (a_cons (e_ix (e_v 1) e_int) (a_cons (e_ix (e_v 1) e_int) (a_cons (e_ix (e_v 1) e_int) (a_cons (e_ix (e_v 1) e_int) fa_nil))))) fa_nil)))))
    fss_nil)
    (fss_one (fs_ret (fe_lst (a_cons (e_cv 0 G (tl_5 Z Q) (a_cons (e_ix (e_v 1) e_int) (a_cons (e_ix (e_v 1) e_int) (a_cons (e_ix (e_v 1) e_int) (a_cons (e_ix (e_v 1) e_int) (a_cons (e_ix (e_v 1) e_int) fa_nil)))))) fa_nil)))))))
    (fun c hc => by
      simp only [List.mem_cons, List.not_mem_nil, or_false] at hc
      rcases hc with rfl | rfl
      · exact ⟨_, suf_wd [97, 114, 103, 117, 109, 101, 110, 116, 32] (fun _ => rfl) (by decide), fun a oe dd pn hz hf => by rw [Z.xf_1]; exact k_word (wd_1 Z hz hf) (roomH_su (G.room.mono (by omega))) List.mem_cons_self Z.i_w.bn Z.i_w.mg Z.i_w.kp⟩
      · exact ⟨_, suf_wd [112, 97, 112, 101, 114, 32] (fun _ => rfl) (by decide), fun a oe dd pn hz hf => by rw [Z.xf_2]; exact k_word (wd_2 Z hz hf) (roomH_su (G.room.mono (by omega))) List.mem_cons_self Z.i_w.bn Z.i_w.mg Z.i_w.kp⟩)))
theorem sc_19 : FnScope ["state", "depth", "full", "low", "pair"] ["state", "depth", "full"] (defScope (top 31)) := ⟨rfl, rfl, rfl, by decide +kernel, rfl, by decide +kernel, by decide +kernel⟩
/-- _law_tree -/
theorem ok_19 (Z : Tx P K mg T a) (Q : Al P w K mg base T a k) : FnG P w K mg base (3 * (k + 1)) a.f19 a.d19 ["state", "depth", "full"] (spF K T 3 (run (k + 1) 19)) := by
  refine fn_of' (k := 3 * k + 2) (code := c_19 (run k)) Z.u_19 sc_19 (run_19 k) rfl rfl rfl fun cdv A outer s H E G2 => ?_
  have G := G2.mono (j := 3 * k + 1) (by omega)
  exact (fss_cons (fs_if (ft_w (fw_or (t_cmp (k_eq G) (e_v 1) e_int) (fw_1 (ft_w (fw_and (ft_not (t_tru (e_v 2))) (fw_1 (t_cmp (k_eq G) (e_call false G Q.g_15 Z.i_15 (a_cons (e_v 0) (a_cons e_int fa_nil))) e_int)))))))
    (fss_one (fs_ret (e_call false G Q.g_16 Z.i_16 (a_cons (e_v 0) (a_cons (fe_lst (a_cons e_int (a_cons e_int (a_cons (e_neg e_int) (a_cons (e_pow e_int e_int) (a_cons (e_call false G Q.g_15 Z.i_15 (a_cons (e_v 0) (a_cons e_int fa_nil))) fa_nil)))))) fa_nil)))))
    fss_nil)
    (fss_cons (s_set 3 G (e_call false G Q.g_16 Z.i_16 (a_cons (e_v 0) (a_cons (fe_lst (a_cons (e_sub (e_v 1) e_int) (a_cons (e_sub (e_v 1) e_int) (a_cons e_int (a_cons (e_call false G Q.g_15 Z.i_15 (a_cons (e_v 0) (a_cons (e_v 1) fa_nil))) fa_nil))))) fa_nil))))
    (fss_cons (s_set 4 G (fe_tup (a_cons (e_call false G Q.g_19 Z.i_19 (a_cons (e_v 0) (a_cons (e_sub (e_v 1) e_int) (a_cons (e_v 2) fa_nil)))) (a_cons (e_call false G Q.g_19 Z.i_19 (a_cons (e_v 0) (a_cons (e_v 3) (a_cons (e_v 2) fa_nil)))) fa_nil))))
    (fss_one (fs_ret (fe_if (t_cmp (k_eq G) (e_call false G Q.g_15 Z.i_15 (a_cons (e_v 0) (a_cons e_int fa_nil))) e_int) (e_v 4) (fe_revT (e_v 4))))))))
theorem sc_20 : FnScope ["tree", "one", "other"] ["tree"] (defScope (top 32)) := ⟨rfl, rfl, rfl, by decide +kernel, rfl, by decide +kernel, by decide +kernel⟩
/-- _law_need -/
theorem ok_20 (Z : Tx P K mg T a) (Q : Al P w K mg base T a k) : FnG P w K mg base (3 * (k + 1)) a.f20 a.d20 ["tree"] (spF K T 1 (run (k + 1) 20)) := by
  refine fn_of' (k := 3 * k + 2) (code := c_20 (run k)) Z.u_20 sc_20 (run_20 k) rfl rfl rfl fun cdv A outer s H E G2 => ?_
  have G := G2.mono (j := 3 * k + 1) (by omega)
  exact (fss_cons (fs_if (ft_not (t_tru (e_isi .tup Z.z_isinstance Z.z_tuple (e_v 0))))
    (fss_one (fs_ret e_int))
    fss_nil)
    (fss_cons (s_asg (e_bi (u_sort false G) Z.z_sorted (a_cons (fe_lst (a_cons (e_call true G Q.g_20 Z.i_20 (a_cons (e_ix (e_v 0) e_int) fa_nil)) (a_cons (e_call true G Q.g_20 Z.i_20 (a_cons (e_ix (e_v 0) e_int) fa_nil)) fa_nil))) fa_nil)) (g_l G (len_cns (len_cns len_nil)) (gs_cons (g_n 1 G) (gs_cons (g_n 2 G) fgs_nil))))
    (fss_one (fs_ret (fe_if (t_cmp (k_lt) (e_v 1) (e_v 2)) (e_v 2) (e_add false (e_v 1) e_int))))))
theorem sc_21 : FnScope ["tree", "first"] ["tree", "first"] (defScope (top 33)) := ⟨rfl, rfl, rfl, by decide +kernel, rfl, by decide +kernel, by decide +kernel⟩
/-- _law_deeds -/
theorem ok_21 (Z : Tx P K mg T a) (Q : Al P w K mg base T a k) : FnG P w K mg base (3 * (k + 1)) a.f21 a.d21 ["tree", "first"] (spF K T 2 (run (k + 1) 21)) := by
  refine fn_of' (k := 3 * k + 2) (code := c_21 (run k)) Z.u_21 sc_21 (run_21 k) rfl rfl rfl fun cdv A outer s H E G2 => ?_
  have G := G2.mono (j := 3 * k + 1) (by omega)
  exact (fss_cons (fs_if (ft_not (t_tru (e_isi .tup Z.z_isinstance Z.z_tuple (e_v 0))))
    (fss_one (fs_ret (fe_tup (a_cons (fe_tup (a_cons (e_str [108, 111, 97, 100] (by decide +kernel) (by decide)) (a_cons (e_v 1) (a_cons (e_v 0) fa_nil)))) fa_nil))))
    fss_nil)
    (fss_cons (fs_if (t_cmp (k_lt) (e_call true G Q.g_20 Z.i_20 (a_cons (e_ix (e_v 0) e_int) fa_nil)) (e_call true G Q.g_20 Z.i_20 (a_cons (e_ix (e_v 0) e_int) fa_nil)))
    (fss_one (fs_ret (e_add false (e_add false (e_call true G Q.g_21 Z.i_21 (a_cons (e_ix (e_v 0) e_int) (a_cons (e_v 1) fa_nil))) (e_call true G Q.g_21 Z.i_21 (a_cons (e_ix (e_v 0) e_int) (a_cons (e_add false (e_v 1) e_int) fa_nil)))) (fe_tup (a_cons (fe_tup (a_cons (e_str [106, 111, 105, 110] (by decide +kernel) (by decide)) (a_cons (e_v 1) (a_cons (e_add false (e_v 1) e_int) (a_cons (e_v 1) fa_nil))))) fa_nil)))))
    fss_nil)
    (fss_one (fs_ret (e_add false (e_add false (e_call true G Q.g_21 Z.i_21 (a_cons (e_ix (e_v 0) e_int) (a_cons (e_v 1) fa_nil))) (e_call true G Q.g_21 Z.i_21 (a_cons (e_ix (e_v 0) e_int) (a_cons (e_add false (e_v 1) e_int) fa_nil)))) (fe_tup (a_cons (fe_tup (a_cons (e_str [106, 111, 105, 110] (by decide +kernel) (by decide)) (a_cons (e_v 1) (a_cons (e_v 1) (a_cons (e_add false (e_v 1) e_int) fa_nil))))) fa_nil)))))))
theorem sc_22 : FnScope ["tree"] ["tree"] (defScope (top 34)) := ⟨rfl, rfl, rfl, by decide +kernel, rfl, by decide +kernel, by decide +kernel⟩
/-- _law_numbers -/
theorem ok_22 (Z : Tx P K mg T a) (Q : Al P w K mg base T a k) : FnG P w K mg base (3 * (k + 1)) a.f22 a.d22 ["tree"] (spF K T 1 (run (k + 1) 22)) := by
  refine fn_of' (k := 3 * k + 2) (code := c_22 (run k)) Z.u_22 sc_22 (run_22 k) rfl rfl rfl fun cdv A outer s H E G2 => ?_
  have G := G2.mono (j := 3 * k + 1) (by omega)
  exact (fss_one (fs_ret (fe_if (t_tru (e_isi .tup Z.z_isinstance Z.z_tuple (e_v 0))) (fe_tup (a_cons (e_call true G Q.g_20 Z.i_20 (a_cons (e_v 0) fa_nil)) (a_cons (e_call true G Q.g_22 Z.i_22 (a_cons (e_ix (e_v 0) e_int) fa_nil)) (a_cons (e_call true G Q.g_22 Z.i_22 (a_cons (e_ix (e_v 0) e_int) fa_nil)) fa_nil)))) e_int)))
theorem sc_23 : FnScope ["tree"] ["tree"] (defScope (top 35)) := ⟨rfl, rfl, rfl, by decide +kernel, rfl, by decide +kernel, by decide +kernel⟩
/-- _law_depth -/
theorem ok_23 (Z : Tx P K mg T a) (Q : Al P w K mg base T a k) : FnG P w K mg base (3 * (k + 1)) a.f23 a.d23 ["tree"] (spF K T 1 (run (k + 1) 23)) := by
  refine fn_of' (k := 3 * k + 2) (code := c_23 (run k)) Z.u_23 sc_23 (run_23 k) rfl rfl rfl fun cdv A outer s H E G2 => ?_
  have G := G2.mono (j := 3 * k + 1) (by omega)
  exact (fss_one (fs_ret (fe_if (t_tru (e_isi .tup Z.z_isinstance Z.z_tuple (e_v 0))) (e_add false e_int (e_bi (u_maxD G) Z.z_max (a_cons (fe_lst (a_cons (e_call true G Q.g_23 Z.i_23 (a_cons (e_ix (e_v 0) e_int) fa_nil)) (a_cons (e_call true G Q.g_23 Z.i_23 (a_cons (e_ix (e_v 0) e_int) fa_nil)) fa_nil))) fa_nil))) e_int)))
theorem sc_24 : FnScope ["value"] ["value"] (defScope (top 36)) := ⟨rfl, rfl, rfl, by decide +kernel, rfl, by decide +kernel, by decide +kernel⟩
/-- _law_whole -/
theorem ok_24 (Z : Tx P K mg T a) (Q : Al P w K mg base T a k) : FnG P w K mg base (3 * (k + 1)) a.f24 a.d24 ["value"] (spF K T 1 (run (k + 1) 24)) := by
  refine fn_of' (k := 3 * k + 2) (code := c_24 (run k)) Z.u_24 sc_24 (run_24 k) rfl rfl rfl fun cdv A outer s H E G2 => ?_
  have G := G2.mono (j := 3 * k + 1) (by omega)
  exact (fss_one (fs_ret (fe_and (e_isi .int Z.z_isinstance Z.z_int (e_v 0)) (fe_one (fe_not (e_isi .bool Z.z_isinstance Z.z_bool (e_v 0)))))))
theorem sc_25 : FnScope ["many", "deeds", "found", "deed", "part", "one", "other"] ["many", "deeds"] (defScope (top 38)) := ⟨rfl, rfl, rfl, by decide +kernel, rfl, by decide +kernel, by decide +kernel⟩
/-- _law_done -/
theorem ok_25 (Z : Tx P K mg T a) (Q : Al P w K mg base T a k) : FnG P w K mg base (3 * (k + 1)) a.f25 a.d25 ["many", "deeds"] (spF K T 2 (run (k + 1) 25)) := by
  refine fn_of' (k := 3 * k + 2) (code := c_25 (run k)) Z.u_25 sc_25 (run_25 k) rfl rfl rfl fun cdv A outer s H E G2 => ?_
  have G := G2.mono (j := 3 * k + 1) (by omega)
  exact (fss_cons (fs_if (ft_not (t_tru (e_isi .tup Z.z_isinstance Z.z_tuple (e_v 1))))
    (fss_one (fs_ret e_non))
    fss_nil)
    (fss_cons (s_set 2 G (e_mul true (fe_lstM (a_cons e_non fa_nil)) (e_v 0)))
    (fss_cons (s_for G (fi_it (e_v 1)) (fy_n (g_n 3 G))
    (fss_cons (fs_if (ft_w (fw_or (ft_not (t_tru (e_isi .tup Z.z_isinstance Z.z_tuple (e_v 3)))) (fw_or (ft_not (t_tru (e_v 3))) (fw_1 (t_tru (e_lc false [("part", 4)] G (by rfl) (by decide) (fi_it (fe_sl (m := false) (e_v 3) (fo_s e_int) fo_n)) (fun _ _ _ _ _ G => (fy_n (g_n 4 G))) (fun _ _ _ _ _ G => (fts_one (ft_not (t_tru (e_call true G Q.g_24 Z.i_24 (a_cons (e_v 4) fa_nil)))))) (fun _ _ _ _ _ G => (e_v 4))))))))
    (fss_one (fs_ret e_non))
    fss_nil)
    (fss_one (fs_if (ft_w (fw_and (t_cmp (k_eq G) (e_bi u_len Z.z_len (a_cons (e_v 3) fa_nil)) e_int) (fw_and (t_cmp (k_eq G) (e_ix (e_v 3) e_int) (e_str [108, 111, 97, 100] (by decide +kernel) (by decide))) (fw_1 (t_ch (k_le) (k_lt) e_int (e_ix (e_v 3) e_int) (e_v 0))))))
    (fss_one (s_setL (e_ix (e_v 3) e_int) (e_v 2) (e_ix (e_v 3) e_int)))
    (fss_one (fs_if (ft_w (fw_and (t_cmp (k_eq G) (e_bi u_len Z.z_len (a_cons (e_v 3) fa_nil)) e_int) (fw_and (t_cmp (k_eq G) (e_ix (e_v 3) e_int) (e_str [106, 111, 105, 110] (by decide +kernel) (by decide))) (fw_1 (ft_not (t_tru (e_lc false [("part", 4)] G (by rfl) (by decide) (fi_it (fe_sl (m := false) (e_v 3) (fo_s e_int) fo_n)) (fun _ _ _ _ _ G => (fy_n (g_n 4 G))) (fun _ _ _ _ _ G => (fts_one (ft_not (t_ch (k_le) (k_lt) e_int (e_v 4) (e_v 0))))) (fun _ _ _ _ _ G => (e_v 4)))))))))
    (fss_cons (s_par2 5 6 G (a_cons (e_ix (e_v 2) (e_ix (e_v 3) e_int)) (a_cons (e_ix (e_v 2) (e_ix (e_v 3) e_int)) fa_nil)))
    (fss_cons (fs_if (ft_w (fw_or (t_cmp (k_isN) (e_v 5) e_non) (fw_or (t_cmp (k_isN) (e_v 6) e_non) (fw_1 (t_cmp (k_gt) (e_call true G Q.g_23 Z.i_23 (a_cons (fe_tup (a_cons (e_v 5) (a_cons (e_v 6) fa_nil))) fa_nil)) e_int)))))
    (fss_one (fs_ret e_non))
    fss_nil)
    (fss_one (s_setL (fe_tup (a_cons (e_v 5) (a_cons (e_v 6) fa_nil))) (e_v 2) (e_ix (e_v 3) e_int)))))
    (fss_one (fs_ret e_non))))))))
    (fss_one (fs_ret (e_bi u_tuple Z.z_tuple (a_cons (e_v 2) fa_nil)))))))
theorem sc_26 : FnScope ["tree", "value", "due"] ["tree", "value"] (defScope (top 39)) := ⟨rfl, rfl, rfl, by decide +kernel, rfl, by decide +kernel, by decide +kernel⟩
/-- _law_are_numbers -/
theorem ok_26 (Z : Tx P K mg T a) (Q : Al P w K mg base T a k) : FnG P w K mg base (3 * (k + 1)) a.f26 a.d26 ["tree", "value"] (spF K T 2 (run (k + 1) 26)) := by
  refine fn_of' (k := 3 * k + 2) (code := c_26 (run k)) Z.u_26 sc_26 (run_26 k) rfl rfl rfl fun cdv A outer s H E G2 => ?_
  have G := G2.mono (j := 3 * k + 1) (by omega)
  exact (fss_cons (s_set 2 G (e_call true G Q.g_22 Z.i_22 (a_cons (e_v 0) fa_nil)))
    (fss_one (fs_ret (fe_and (e_cmp (k_eq G) (e_v 1) (e_v 2)) (fe_one (e_cmp (k_eqS) (e_bi (u_repr G) Z.z_repr (a_cons (e_v 1) fa_nil)) (e_bi (u_repr G) Z.z_repr (a_cons (e_v 2) fa_nil))))))))
theorem sc_27 : FnScope ["tree", "many", "deeds", "found"] ["tree", "many", "deeds"] (defScope (top 40)) := ⟨rfl, rfl, rfl, by decide +kernel, rfl, by decide +kernel, by decide +kernel⟩
/-- _law_deeds_due -/
theorem ok_27 (Z : Tx P K mg T a) (Q : Al P w K mg base T a k) : FnG P w K mg base (3 * (k + 1)) a.f27 a.d27 ["tree", "many", "deeds"] (spF K T 3 (run (k + 1) 27)) := by
  refine fn_of' (k := 3 * k + 2) (code := c_27 (run k)) Z.u_27 sc_27 (run_27 k) rfl rfl rfl fun cdv A outer s H E G2 => ?_
  have G := G2.mono (j := 3 * k + 1) (by omega)
  exact (fss_cons (s_set 3 G (e_call true G Q.g_25 Z.i_25 (a_cons (e_v 1) (a_cons (e_v 2) fa_nil))))
    (fss_cons (fs_if (t_cmp (k_isN) (e_v 3) e_non)
    (fss_one (fs_ret (e_str [112, 97, 112, 101, 114, 32, 100, 101, 101, 100, 115] (by decide +kernel) (by decide))))
    fss_nil)
    (fss_one (fs_ret (fe_if (ft_w (fw_and (t_tru (e_v 3)) (fw_and (t_cmp (k_eq G) (e_ix (e_v 3) e_int) (e_v 0)) (fw_1 (t_cmp (k_eqS) (e_bi (u_repr G) Z.z_repr (a_cons (e_ix (e_v 3) e_int) fa_nil)) (e_bi (u_repr G) Z.z_repr (a_cons (e_v 0) fa_nil))))))) (fe_lst (a_cons e_non fa_nil)) (e_str [112, 97, 112, 101, 114, 32, 116, 114, 101, 101] (by decide +kernel) (by decide)))))))
theorem sc_28 : FnScope ["state", "some"] ["state"] (defScope (top 41)) := ⟨rfl, rfl, rfl, by decide +kernel, rfl, by decide +kernel, by decide +kernel⟩
/-- _law_odd -/
theorem ok_28 (Z : Tx P K mg T a) (Q : Al P w K mg base T a k) : FnG P w K mg base (3 * (k + 1)) a.f28 a.d28 ["state"] (spF K T 1 (run (k + 1) 28)) := by
  refine fn_of' (k := 3 * k + 2) (code := c_28 (run k)) Z.u_28 sc_28 (run_28 k) rfl rfl rfl fun cdv A outer s H E G2 => ?_
  have G := G2.mono (j := 3 * k + 1) (by omega)
  exact (fss_cons (s_set 1 G (fe_lst (a_cons e_non (a_cons e_bl (a_cons (e_str [108, 111, 97, 100] (by decide +kernel) (by decide)) (a_cons (e_str [106, 111, 105, 110] (by decide +kernel) (by decide)) (a_cons (e_neg e_int) (a_cons e_int (a_cons e_int (a_cons e_int (a_cons e_int (a_cons (fe_tup fa_nil) (a_cons (fe_tup (a_cons (e_str [108, 111, 97, 100] (by decide +kernel) (by decide)) (a_cons e_int (a_cons e_int fa_nil)))) (a_cons (fe_tup (a_cons (e_str [106, 111, 105, 110] (by decide +kernel) (by decide)) (a_cons e_int (a_cons e_int (a_cons e_int fa_nil))))) (a_cons (fe_tup (a_cons (e_str [106, 111, 105, 110] (by decide +kernel) (by decide)) (a_cons e_int (a_cons e_int (a_cons e_int fa_nil))))) fa_nil)))))))))))))))
    (fss_one (fs_ret (e_call false G Q.g_16 Z.i_16 (a_cons (e_v 0) (a_cons (e_add false (e_v 1) (fe_lst (a_cons (fe_tup (a_cons (e_str [108, 111, 97, 100] (by decide +kernel) (by decide)) (a_cons e_int (a_cons e_non fa_nil)))) (a_cons (fe_tup (a_cons (e_str [108, 111, 97, 100] (by decide +kernel) (by decide)) (a_cons e_int fa_nil))) (a_cons (fe_tup (a_cons e_int (a_cons e_int (a_cons e_int fa_nil)))) (a_cons (fe_tup (a_cons (e_str [108, 111, 97, 100] (by decide +kernel) (by decide)) (a_cons e_int (a_cons e_int fa_nil)))) (a_cons (fe_tup (a_cons (e_str [108, 111, 97, 100] (by decide +kernel) (by decide)) (a_cons e_int (a_cons e_bl fa_nil)))) fa_nil))))))) fa_nil))))))
theorem sc_29 : FnScope ["state", "value", "at", "deep"] ["state", "value"] (defScope (top 42)) := ⟨rfl, rfl, rfl, by decide +kernel, rfl, by decide +kernel, by decide +kernel⟩
/-- _law_spoilt -/
theorem ok_29 (Z : Tx P K mg T a) (Q : Al P w K mg base T a k) : FnG P w K mg base (3 * (k + 1)) a.f29 a.d29 ["state", "value"] (spF K T 2 (run (k + 1) 29)) := by
  refine fn_of' (k := 3 * k + 2) (code := c_29 (run k)) Z.u_29 sc_29 (run_29 k) rfl rfl rfl fun cdv A outer s H E G2 => ?_
  have G := G2.mono (j := 3 * k + 1) (by omega)
  exact (fss_cons (fs_if (ft_w (fw_or (ft_not (t_tru (e_isi .tup Z.z_isinstance Z.z_tuple (e_v 1)))) (fw_or (ft_not (t_tru (e_v 1))) (fw_1 (t_cmp (k_eq G) (e_call false G Q.g_15 Z.i_15 (a_cons (e_v 0) (a_cons e_int fa_nil))) e_int)))))
    (fss_one (fs_ret (fe_if (ft_w (fw_and (t_tru (e_call true G Q.g_24 Z.i_24 (a_cons (e_v 1) fa_nil))) (fw_1 (t_cmp (k_eq G) (e_call false G Q.g_15 Z.i_15 (a_cons (e_v 0) (a_cons e_int fa_nil))) e_int)))) (e_add false (e_v 1) (e_call false G Q.g_16 Z.i_16 (a_cons (e_v 0) (a_cons (fe_lst (a_cons e_int (a_cons (e_neg e_int) fa_nil))) fa_nil)))) (e_call false G Q.g_28 Z.i_28 (a_cons (e_v 0) fa_nil)))))
    fss_nil)
    (fss_cons (s_set 2 G (e_call false G Q.g_15 Z.i_15 (a_cons (e_v 0) (a_cons (e_bi u_len Z.z_len (a_cons (e_v 1) fa_nil)) fa_nil))))
    (fss_cons (s_set 3 G (e_add false (e_add false (fe_sl (m := false) (e_v 1) fo_n (fo_s (e_v 2))) (fe_tup (a_cons (e_call false G Q.g_29 Z.i_29 (a_cons (e_v 0) (a_cons (e_ix (e_v 1) (e_v 2)) fa_nil))) fa_nil))) (fe_sl (m := false) (e_v 1) (fo_s (e_add false (e_v 2) e_int)) fo_n)))
    (fss_one (fs_ret (e_call false G Q.g_16 Z.i_16 (a_cons (e_v 0) (a_cons (fe_lst (a_cons (e_add false (fe_sl (m := false) (e_v 1) fo_n (fo_s (e_v 2))) (fe_sl (m := false) (e_v 1) (fo_s (e_add false (e_v 2) e_int)) fo_n)) (a_cons (e_add false (e_v 1) (fe_sl (m := false) (e_v 1) (fo_s (e_v 2)) (fo_s (e_add false (e_v 2) e_int)))) (a_cons (fe_revT (e_v 1)) (a_cons (e_add false (e_add false (fe_sl (m := false) (e_v 1) fo_n (fo_s (e_v 2))) (fe_tup (a_cons (e_call false G Q.g_28 Z.i_28 (a_cons (e_v 0) fa_nil)) fa_nil))) (fe_sl (m := false) (e_v 1) (fo_s (e_add false (e_v 2) e_int)) fo_n)) (a_cons (e_v 3) (a_cons (e_v 3) (a_cons (e_v 3) (a_cons (e_v 3) fa_nil))))))))) fa_nil))))))))
theorem sc_30 : FnScope ["state", "tree", "deep", "k", "inner", "bad", "many", "told", "shown", "own"] ["state", "tree"] (defScope (top 43)) := ⟨rfl, rfl, rfl, by decide +kernel, rfl, by decide +kernel, by decide +kernel⟩
/-- _law_refused -/
theorem ok_30 (Z : Tx P K mg T a) (Q : Al P w K mg base T a k) : FnG P w K mg base (3 * (k + 1)) a.f30 a.d30 ["state", "tree"] (spF K T 2 (run (k + 1) 30)) := by
  refine fn_of' (k := 3 * k + 2) (code := c_30 (run k)) Z.u_30 sc_30 (run_30 k) rfl rfl rfl fun cdv A outer s H E G2 => ?_
  have G := G2.mono (j := 3 * k + 1) (by omega)
  exact (fss_cons (s_set 2 G e_int)
    (fss_cons (s_for G (i_r1 Z.z_range e_int) (fy_n (g_n 3 G))
    (fss_one (s_set 2 G (fe_if (t_cmp (k_eq G) (e_call false G Q.g_15 Z.i_15 (a_cons (e_v 0) (a_cons e_int fa_nil))) e_int) (fe_tup (a_cons (e_v 2) (a_cons e_int fa_nil))) (fe_tup (a_cons e_int (a_cons (e_v 2) fa_nil)))))))
    (fss_cons (s_set 4 G (fe_if (t_tru (e_isi .tup Z.z_isinstance Z.z_tuple (e_ix (e_v 2) e_int))) (e_ix (e_v 2) e_int) (e_ix (e_v 2) e_int)))
    (fss_cons (s_par2 5 6 G (a_cons (e_call false G Q.g_16 Z.i_16 (a_cons (e_v 0) (a_cons (fe_lst (a_cons e_non (a_cons e_bl (a_cons (fe_tup (a_cons e_int fa_nil)) (a_cons (fe_tup (a_cons e_int (a_cons e_int (a_cons e_int fa_nil)))) (a_cons (fe_tup (a_cons e_int (a_cons e_non fa_nil))) (a_cons (e_str [49] (by decide +kernel) (by decide)) (a_cons (fe_tup (a_cons e_int (a_cons (fe_tup (a_cons e_int (a_cons e_bl fa_nil))) fa_nil))) (a_cons (e_v 2) (a_cons (fe_tup fa_nil) fa_nil)))))))))) fa_nil))) (a_cons (e_call false G Q.g_16 Z.i_16 (a_cons (e_v 0) (a_cons (fe_lst (a_cons (e_neg e_int) (a_cons e_int (a_cons e_bl (a_cons e_non fa_nil))))) fa_nil))) fa_nil)))
    (fss_cons (s_set 7 G (fe_lst (a_cons (e_call false G Q.g_18 Z.i_18 (a_cons (e_f [110, 101, 101, 100, 101, 100] Z.v_4 Z.i_4.mg) (a_cons (fe_lst (a_cons (e_v 5) fa_nil)) fa_nil))) (a_cons (e_call false G Q.g_18 Z.i_18 (a_cons (e_f [100, 101, 101, 100, 115, 95, 102, 111, 114] Z.v_6 Z.i_6.mg) (a_cons (fe_lst (a_cons (e_v 5) fa_nil)) fa_nil))) (a_cons (e_call false G Q.g_18 Z.i_18 (a_cons (e_f [110, 117, 109, 98, 101, 114, 101, 100] Z.v_10 Z.i_10.mg) (a_cons (fe_lst (a_cons (e_v 5) fa_nil)) fa_nil))) (a_cons (e_call false G Q.g_18 Z.i_18 (a_cons (e_f [97, 99, 99, 101, 112, 116, 95, 100, 101, 101, 100, 115] Z.v_9 Z.i_9.mg) (a_cons (fe_lst (a_cons (e_v 5) (a_cons (e_v 6) (a_cons e_non fa_nil)))) fa_nil))) (a_cons (e_call false G Q.g_18 Z.i_18 (a_cons (e_f [97, 99, 99, 101, 112, 116, 95, 110, 117, 109, 98, 101, 114, 115] Z.v_12 Z.i_12.mg) (a_cons (fe_lst (a_cons (e_v 5) (a_cons e_non fa_nil))) fa_nil))) fa_nil)))))))
    (fss_cons (fs_if (ft_w (fw_or (t_cmp (k_ne G) (e_v 7) (e_mul false (fe_lstM (a_cons (e_str [97, 114, 103, 117, 109, 101, 110, 116, 32, 116, 114, 101, 101] (by decide +kernel) (by decide)) fa_nil)) e_int)) (fw_or (t_cmp (k_ne G) (e_call false G Q.g_18 Z.i_18 (a_cons (e_f [97, 99, 99, 101, 112, 116, 95, 100, 101, 101, 100, 115] Z.v_9 Z.i_9.mg) (a_cons (fe_lst (a_cons (e_v 1) (a_cons (e_v 6) (a_cons e_non fa_nil)))) fa_nil))) (e_str [97, 114, 103, 117, 109, 101, 110, 116, 32, 109, 97, 110, 121] (by decide +kernel) (by decide))) (fw_1 (t_cmp (k_ne G) (e_call false G Q.g_18 Z.i_18 (a_cons (e_f [114, 117, 110, 95, 100, 101, 101, 100, 115] Z.v_7 Z.i_7.mg) (a_cons (fe_lst (a_cons (e_v 6) (a_cons e_non fa_nil))) fa_nil))) (e_str [97, 114, 103, 117, 109, 101, 110, 116, 32, 109, 97, 110, 121] (by decide +kernel) (by decide)))))))
    (fss_one (fs_ret e_bl))
    fss_nil)
    (fss_cons (s_set 8 G (e_call true G Q.g_21 Z.i_21 (a_cons (e_v 4) (a_cons e_int fa_nil))))
    (fss_cons (fs_if (ft_not (t_tru (e_call true G Q.g_17 Z.i_17 (a_cons (e_call false G Q.g_18 Z.i_18 (a_cons (e_f [97, 99, 99, 101, 112, 116, 95, 100, 101, 101, 100, 115] Z.v_9 Z.i_9.mg) (a_cons (fe_lst (a_cons (e_v 4) (a_cons e_int (a_cons (e_v 8) fa_nil)))) fa_nil))) (a_cons (fe_lst (a_cons e_non fa_nil)) fa_nil)))))
    (fss_one (fs_ret e_bl))
    fss_nil)
    (fss_cons (s_set 9 G (fe_tup (a_cons (fe_tup (a_cons (e_str [108, 111, 97, 100] (by decide +kernel) (by decide)) (a_cons e_int (a_cons e_int fa_nil)))) fa_nil)))
    (fss_one (fs_ret (fe_and (e_cmp (k_eq G) (e_call false G Q.g_18 Z.i_18 (a_cons (e_f [114, 117, 110, 95, 100, 101, 101, 100, 115] Z.v_7 Z.i_7.mg) (a_cons (fe_lst (a_cons e_int (a_cons (e_add false (e_add false (e_v 8) (e_v 9)) (fe_tup (a_cons (fe_tup (a_cons (e_str [106, 111, 105, 110] (by decide +kernel) (by decide)) (a_cons e_int (a_cons e_int (a_cons e_int fa_nil))))) fa_nil))) fa_nil))) fa_nil))) (e_str [97, 114, 103, 117, 109, 101, 110, 116, 32, 100, 101, 101, 100, 115] (by decide +kernel) (by decide))) (fe_one (e_isi .lst Z.z_isinstance Z.z_list (e_call false G Q.g_18 Z.i_18 (a_cons (e_f [114, 117, 110, 95, 100, 101, 101, 100, 115] Z.v_7 Z.i_7.mg) (a_cons (fe_lst (a_cons e_int (a_cons (e_add false (e_v 8) (e_v 9)) fa_nil))) fa_nil)))))))))))))))))
theorem sc_31 : FnScope ["script", "state", "turn", "tree", "need", "deeds", "k", "many", "some", "found", "paper"] ["script"] (defScope (top 44)) := ⟨rfl, rfl, rfl, by decide +kernel, rfl, by decide +kernel, by decide +kernel⟩
/-- law -/
theorem ok_31 (Z : Tx P K mg T a) (Q : Al P w K mg base T a k) : FnG P w K mg base (3 * (k + 1)) a.f31 a.d31 ["script"] (spF K T 1 (run (k + 1) 31)) := by
  refine fn_of' (k := 3 * k + 2) (code := c_31 (run k)) Z.u_31 sc_31 (run_31 k) rfl rfl rfl fun cdv A outer s H E G2 => ?_
  have G := G2.mono (j := 3 * k + 1) (by omega)
  exact (fss_cons (s_set 1 G (e_call false G Q.g_14 Z.i_14 (a_cons (e_v 0) fa_nil)))
    (fss_cons (s_for G (i_r1 Z.z_range e_int) (fy_n (g_n 2 G))
    (fss_cons (s_set 3 G (e_call false G Q.g_19 Z.i_19 (a_cons (e_v 1) (a_cons (e_call false G Q.g_16 Z.i_16 (a_cons (e_v 1) (a_cons (fe_lst (a_cons e_int (a_cons e_int (a_cons e_int (a_cons e_int fa_nil))))) fa_nil))) (a_cons e_bl fa_nil)))))
    (fss_cons (s_par2 4 5 G (a_cons (e_call true G Q.g_20 Z.i_20 (a_cons (e_v 3) fa_nil)) (a_cons (e_call true G Q.g_21 Z.i_21 (a_cons (e_v 3) (a_cons e_int fa_nil))) fa_nil)))
    (fss_cons (s_for G (i_r1 Z.z_range e_int) (fy_n (g_n 6 G))
    (fss_cons (s_set 7 G (e_call false G Q.g_16 Z.i_16 (a_cons (e_v 1) (a_cons (fe_lst (a_cons (e_v 4) (a_cons (e_v 4) (a_cons (e_v 4) (a_cons (e_add false (e_v 4) e_int) (a_cons (e_sub (e_v 4) e_int) (a_cons e_int (a_cons e_int fa_nil)))))))) fa_nil))))
    (fss_cons (s_set 8 G (fe_if (t_cmp (k_eq G) (e_v 6) e_int) (e_v 5) (e_call false G Q.g_29 Z.i_29 (a_cons (e_v 1) (a_cons (e_v 5) fa_nil)))))
    (fss_cons (fs_if (ft_not (t_tru (e_call true G Q.g_17 Z.i_17 (a_cons (e_call false G Q.g_18 Z.i_18 (a_cons (e_f [97, 99, 99, 101, 112, 116, 95, 100, 101, 101, 100, 115] Z.v_9 Z.i_9.mg) (a_cons (fe_lst (a_cons (e_v 3) (a_cons (e_v 7) (a_cons (e_v 8) fa_nil)))) fa_nil))) (a_cons (e_call true G Q.g_27 Z.i_27 (a_cons (e_v 3) (a_cons (e_v 7) (a_cons (e_v 8) fa_nil)))) fa_nil)))))
    (fss_one (fs_ret e_bl))
    fss_nil)
    (fss_cons (s_set 9 G (e_call true G Q.g_25 Z.i_25 (a_cons (e_v 7) (a_cons (e_v 8) fa_nil))))
    (fss_cons (fs_if (ft_not (t_tru (e_call true G Q.g_17 Z.i_17 (a_cons (e_call false G Q.g_18 Z.i_18 (a_cons (e_f [114, 117, 110, 95, 100, 101, 101, 100, 115] Z.v_7 Z.i_7.mg) (a_cons (fe_lst (a_cons (e_v 7) (a_cons (e_v 8) fa_nil))) fa_nil))) (a_cons (fe_if (t_cmp (k_isN) (e_v 9) e_non) (e_str [97, 114, 103, 117, 109, 101, 110, 116, 32, 100, 101, 101, 100, 115] (by decide +kernel) (by decide)) (fe_lst (a_cons (e_v 9) fa_nil))) fa_nil)))))
    (fss_one (fs_ret e_bl))
    fss_nil)
    (fss_cons (s_set 10 G (fe_if (t_cmp (k_eq G) (e_v 6) e_int) (e_call true G Q.g_22 Z.i_22 (a_cons (e_v 3) fa_nil)) (e_call false G Q.g_29 Z.i_29 (a_cons (e_v 1) (a_cons (e_call true G Q.g_22 Z.i_22 (a_cons (e_v 3) fa_nil)) fa_nil)))))
    (fss_one (fs_if (ft_not (t_tru (e_call true G Q.g_17 Z.i_17 (a_cons (e_call false G Q.g_18 Z.i_18 (a_cons (e_f [97, 99, 99, 101, 112, 116, 95, 110, 117, 109, 98, 101, 114, 115] Z.v_12 Z.i_12.mg) (a_cons (fe_lst (a_cons (e_v 3) (a_cons (e_v 10) fa_nil))) fa_nil))) (a_cons (fe_if (t_tru (e_call true G Q.g_26 Z.i_26 (a_cons (e_v 3) (a_cons (e_v 10) fa_nil)))) (fe_lst (a_cons e_non fa_nil)) (e_str [112, 97, 112, 101, 114, 32, 110, 117, 109, 98, 101, 114, 115] (by decide +kernel) (by decide))) fa_nil)))))
    (fss_one (fs_ret e_bl))
    fss_nil)))))))))
    (fss_one (fs_if (ft_not (t_tru (e_call false G Q.g_30 Z.i_30 (a_cons (e_v 1) (a_cons (e_v 3) fa_nil)))))
    (fss_one (fs_ret e_bl))
    fss_nil))))))
    (fss_one (fs_ret e_bl))))
theorem al (Z : Tx P K mg T a) : ∀ k, Al P w K mg base T a k
  | 0 => by constructor <;> exact fn_zero
  | k + 1 => ⟨ok_0 Z (al Z k), ok_1 Z (al Z k), ok_2 Z (al Z k), ok_3 Z (al Z k), ok_4 Z (al Z k), ok_5 Z (al Z k), ok_6 Z (al Z k), ok_7 Z (al Z k), ok_8 Z (al Z k), ok_9 Z (al Z k), ok_10 Z (al Z k), ok_11 Z (al Z k), ok_12 Z (al Z k), ok_13 Z (al Z k), ok_14 Z (al Z k), ok_15 Z (al Z k), ok_16 Z (al Z k), ok_17 Z (al Z k), ok_18 Z (al Z k), ok_19 Z (al Z k), ok_20 Z (al Z k), ok_21 Z (al Z k), ok_22 Z (al Z k), ok_23 Z (al Z k), ok_24 Z (al Z k), ok_25 Z (al Z k), ok_26 Z (al Z k), ok_27 Z (al Z k), ok_28 Z (al Z k), ok_29 Z (al Z k), ok_30 Z (al Z k), ok_31 Z (al Z k)⟩
end
theorem all_mk {l : PySem.W.OpenLaw} {w : World} {K : PySem.W.Frag} {h : Heap} {mg : Str → Option Value} {fa : Addr} (X : K.In h) (G : h.Ns mainGlobals mg) (hfa : mg "law" = some (.ref fa))
    {f0 : Addr} {od0 an0 : Option Addr} {sl0 : Array (Option Value)} {oc0 kV0 dc0 pm0 cd0 ct0 : Value}
    {f1 : Addr} {od1 an1 : Option Addr} {sl1 : Array (Option Value)} {oc1 kV1 dc1 pm1 cd1 ct1 : Value}
    {f2 : Addr} {od2 an2 : Option Addr} {sl2 : Array (Option Value)} {oc2 kV2 dc2 pm2 cd2 ct2 : Value}
    {f3 : Addr} {od3 an3 : Option Addr} {sl3 : Array (Option Value)} {oc3 kV3 dc3 pm3 cd3 ct3 : Value}
    {f4 : Addr} {od4 an4 : Option Addr} {sl4 : Array (Option Value)} {oc4 kV4 dc4 pm4 cd4 ct4 : Value}
    {f5 : Addr} {od5 an5 : Option Addr} {sl5 : Array (Option Value)} {oc5 kV5 dc5 pm5 cd5 ct5 : Value}
    {f6 : Addr} {od6 an6 : Option Addr} {sl6 : Array (Option Value)} {oc6 kV6 dc6 pm6 cd6 ct6 : Value}
    {f7 : Addr} {od7 an7 : Option Addr} {sl7 : Array (Option Value)} {oc7 kV7 dc7 pm7 cd7 ct7 : Value}
    {f8 : Addr} {od8 an8 : Option Addr} {sl8 : Array (Option Value)} {oc8 kV8 dc8 pm8 cd8 ct8 : Value}
    {f9 : Addr} {od9 an9 : Option Addr} {sl9 : Array (Option Value)} {oc9 kV9 dc9 pm9 cd9 ct9 : Value}
    {f10 : Addr} {od10 an10 : Option Addr} {sl10 : Array (Option Value)} {oc10 kV10 dc10 pm10 cd10 ct10 : Value}
    {f11 : Addr} {od11 an11 : Option Addr} {sl11 : Array (Option Value)} {oc11 kV11 dc11 pm11 cd11 ct11 : Value}
    {f12 : Addr} {od12 an12 : Option Addr} {sl12 : Array (Option Value)} {oc12 kV12 dc12 pm12 cd12 ct12 : Value}
    {f13 : Addr} {od13 an13 : Option Addr} {sl13 : Array (Option Value)} {oc13 kV13 dc13 pm13 cd13 ct13 : Value}
    {f14 : Addr} {od14 an14 : Option Addr} {sl14 : Array (Option Value)} {oc14 kV14 dc14 pm14 cd14 ct14 : Value}
    {f15 : Addr} {od15 an15 : Option Addr} {sl15 : Array (Option Value)} {oc15 kV15 dc15 pm15 cd15 ct15 : Value}
    {f16 : Addr} {od16 an16 : Option Addr} {sl16 : Array (Option Value)} {oc16 kV16 dc16 pm16 cd16 ct16 : Value}
    {f17 : Addr} {od17 an17 : Option Addr} {sl17 : Array (Option Value)} {oc17 kV17 dc17 pm17 cd17 ct17 : Value}
    {f18 : Addr} {od18 an18 : Option Addr} {sl18 : Array (Option Value)} {oc18 kV18 dc18 pm18 cd18 ct18 : Value}
    {f19 : Addr} {od19 an19 : Option Addr} {sl19 : Array (Option Value)} {oc19 kV19 dc19 pm19 cd19 ct19 : Value}
    {f20 : Addr} {od20 an20 : Option Addr} {sl20 : Array (Option Value)} {oc20 kV20 dc20 pm20 cd20 ct20 : Value}
    {f21 : Addr} {od21 an21 : Option Addr} {sl21 : Array (Option Value)} {oc21 kV21 dc21 pm21 cd21 ct21 : Value}
    {f22 : Addr} {od22 an22 : Option Addr} {sl22 : Array (Option Value)} {oc22 kV22 dc22 pm22 cd22 ct22 : Value}
    {f23 : Addr} {od23 an23 : Option Addr} {sl23 : Array (Option Value)} {oc23 kV23 dc23 pm23 cd23 ct23 : Value}
    {f24 : Addr} {od24 an24 : Option Addr} {sl24 : Array (Option Value)} {oc24 kV24 dc24 pm24 cd24 ct24 : Value}
    {f25 : Addr} {od25 an25 : Option Addr} {sl25 : Array (Option Value)} {oc25 kV25 dc25 pm25 cd25 ct25 : Value}
    {f26 : Addr} {od26 an26 : Option Addr} {sl26 : Array (Option Value)} {oc26 kV26 dc26 pm26 cd26 ct26 : Value}
    {f27 : Addr} {od27 an27 : Option Addr} {sl27 : Array (Option Value)} {oc27 kV27 dc27 pm27 cd27 ct27 : Value}
    {f28 : Addr} {od28 an28 : Option Addr} {sl28 : Array (Option Value)} {oc28 kV28 dc28 pm28 cd28 ct28 : Value}
    {f29 : Addr} {od29 an29 : Option Addr} {sl29 : Array (Option Value)} {oc29 kV29 dc29 pm29 cd29 ct29 : Value}
    {f30 : Addr} {od30 an30 : Option Addr} {sl30 : Array (Option Value)} {oc30 kV30 dc30 pm30 cd30 ct30 : Value}
    {f31 : Addr} {od31 an31 : Option Addr} {sl31 : Array (Option Value)} {oc31 kV31 dc31 pm31 cd31 ct31 : Value}
    {t_MAX_DEPTH : Tok}
    {t_MAX_SPANS : Tok}
    {fw : Addr} {odw anw : Option Addr} {slw : Array (Option Value)} {ocw kVw dcw pmw cdw ctw : Value}
    {xM : Addr}
    {X0 I0 xN0 cda0 cc0 : Addr} {xnm0 xqn0 xfi0 : Str} {xbs0 xbm0 xsu0 : List Value} {xsn0 : List Str} {xab0 : Bool} {xco0 : Option Bool} {xdd0 xod0 xan0 xcd0 xld0 : Option Addr} {xk00 xk10 xk20 xk30 xk50 : Option Value} {xoc0 xkV0 xdo0 xpm0 xct0 xcc0 xcl0 : Value} {xos0 xcs0 xls0 : Array (Option Value)} {xvs0 : Array Value} {xtf0 : Tok}
    {X1 I1 xN1 cda1 cc1 : Addr} {xnm1 xqn1 xfi1 : Str} {xbs1 xbm1 xsu1 : List Value} {xsn1 : List Str} {xab1 : Bool} {xco1 : Option Bool} {xdd1 xod1 xan1 xcd1 xld1 : Option Addr} {xk01 xk11 xk21 xk31 xk51 : Option Value} {xoc1 xkV1 xdo1 xpm1 xct1 xcc1 xcl1 : Value} {xos1 xcs1 xls1 : Array (Option Value)} {xvs1 : Array Value} {xtf1 : Tok}
    {X2 I2 xN2 cda2 cc2 : Addr} {xnm2 xqn2 xfi2 : Str} {xbs2 xbm2 xsu2 : List Value} {xsn2 : List Str} {xab2 : Bool} {xco2 : Option Bool} {xdd2 xod2 xan2 xcd2 xld2 : Option Addr} {xk02 xk12 xk22 xk32 xk52 : Option Value} {xoc2 xkV2 xdo2 xpm2 xct2 xcc2 xcl2 : Value} {xos2 xcs2 xls2 : Array (Option Value)} {xvs2 : Array Value} {xtf2 : Tok}
    {X3 I3 xN3 cda3 cc3 : Addr} {xnm3 xqn3 xfi3 : Str} {xbs3 xbm3 xsu3 : List Value} {xsn3 : List Str} {xab3 : Bool} {xco3 : Option Bool} {xdd3 xod3 xan3 xcd3 xld3 : Option Addr} {xk03 xk13 xk23 xk33 xk53 : Option Value} {xoc3 xkV3 xdo3 xpm3 xct3 xcc3 xcl3 : Value} {xos3 xcs3 xls3 : Array (Option Value)} {xvs3 : Array Value} {xtf3 : Tok}
    (a0 : PySem.W.nsIn K mainGlobals "is_integer" = some (some (.ref f0)))
    (l0 : K.lookup f0 = some ⟨oc0, od0, .func (PySem.W.fnOf "is_integer" "is_integer" (defArgs (top 7)) (defBody (top 7)) (defScope (top 7)) .none kV0 dc0 pm0 an0 cd0 ct0), sl0⟩)
    (c0 : PySem.W.codeIn K cd0 "is_integer" = true)
    (k0 : PySem.W.keepIn K (.ref f0) = true)
    (a1 : PySem.W.nsIn K mainGlobals "is_tree" = some (some (.ref f1)))
    (l1 : K.lookup f1 = some ⟨oc1, od1, .func (PySem.W.fnOf "is_tree" "is_tree" (defArgs (top 11)) (defBody (top 11)) (defScope (top 11)) .none kV1 dc1 pm1 an1 cd1 ct1), sl1⟩)
    (c1 : PySem.W.codeIn K cd1 "is_tree" = true)
    (k1 : PySem.W.keepIn K (.ref f1) = true)
    (a2 : PySem.W.nsIn K mainGlobals "check_tree" = some (some (.ref f2)))
    (l2 : K.lookup f2 = some ⟨oc2, od2, .func (PySem.W.fnOf "check_tree" "check_tree" (defArgs (top 12)) (defBody (top 12)) (defScope (top 12)) .none kV2 dc2 pm2 an2 cd2 ct2), sl2⟩)
    (c2 : PySem.W.codeIn K cd2 "check_tree" = true)
    (k2 : PySem.W.keepIn K (.ref f2) = true)
    (a3 : PySem.W.nsIn K mainGlobals "needed_of" = some (some (.ref f3)))
    (l3 : K.lookup f3 = some ⟨oc3, od3, .func (PySem.W.fnOf "needed_of" "needed_of" (defArgs (top 13)) (defBody (top 13)) (defScope (top 13)) .none kV3 dc3 pm3 an3 cd3 ct3), sl3⟩)
    (c3 : PySem.W.codeIn K cd3 "needed_of" = true)
    (k3 : PySem.W.keepIn K (.ref f3) = true)
    (a4 : PySem.W.nsIn K mainGlobals "needed" = some (some (.ref f4)))
    (l4 : K.lookup f4 = some ⟨oc4, od4, .func (PySem.W.fnOf "needed" "needed" (defArgs (top 14)) (defBody (top 14)) (defScope (top 14)) .none kV4 dc4 pm4 an4 cd4 ct4), sl4⟩)
    (c4 : PySem.W.codeIn K cd4 "needed" = true)
    (k4 : PySem.W.keepIn K (.ref f4) = true)
    (v4 : fnAt K (toStr [110, 101, 101, 100, 101, 100]) = some f4)
    (a5 : PySem.W.nsIn K mainGlobals "worked" = some (some (.ref f5)))
    (l5 : K.lookup f5 = some ⟨oc5, od5, .func (PySem.W.fnOf "worked" "worked" (defArgs (top 15)) (defBody (top 15)) (defScope (top 15)) .none kV5 dc5 pm5 an5 cd5 ct5), sl5⟩)
    (c5 : PySem.W.codeIn K cd5 "worked" = true)
    (k5 : PySem.W.keepIn K (.ref f5) = true)
    (a6 : PySem.W.nsIn K mainGlobals "deeds_for" = some (some (.ref f6)))
    (l6 : K.lookup f6 = some ⟨oc6, od6, .func (PySem.W.fnOf "deeds_for" "deeds_for" (defArgs (top 16)) (defBody (top 16)) (defScope (top 16)) .none kV6 dc6 pm6 an6 cd6 ct6), sl6⟩)
    (c6 : PySem.W.codeIn K cd6 "deeds_for" = true)
    (k6 : PySem.W.keepIn K (.ref f6) = true)
    (v6 : fnAt K (toStr [100, 101, 101, 100, 115, 95, 102, 111, 114]) = some f6)
    (a7 : PySem.W.nsIn K mainGlobals "run_deeds" = some (some (.ref f7)))
    (l7 : K.lookup f7 = some ⟨oc7, od7, .func (PySem.W.fnOf "run_deeds" "run_deeds" (defArgs (top 17)) (defBody (top 17)) (defScope (top 17)) .none kV7 dc7 pm7 an7 cd7 ct7), sl7⟩)
    (c7 : PySem.W.codeIn K cd7 "run_deeds" = true)
    (k7 : PySem.W.keepIn K (.ref f7) = true)
    (v7 : fnAt K (toStr [114, 117, 110, 95, 100, 101, 101, 100, 115]) = some f7)
    (a8 : PySem.W.nsIn K mainGlobals "run_of" = some (some (.ref f8)))
    (l8 : K.lookup f8 = some ⟨oc8, od8, .func (PySem.W.fnOf "run_of" "run_of" (defArgs (top 18)) (defBody (top 18)) (defScope (top 18)) .none kV8 dc8 pm8 an8 cd8 ct8), sl8⟩)
    (c8 : PySem.W.codeIn K cd8 "run_of" = true)
    (k8 : PySem.W.keepIn K (.ref f8) = true)
    (a9 : PySem.W.nsIn K mainGlobals "accept_deeds" = some (some (.ref f9)))
    (l9 : K.lookup f9 = some ⟨oc9, od9, .func (PySem.W.fnOf "accept_deeds" "accept_deeds" (defArgs (top 19)) (defBody (top 19)) (defScope (top 19)) .none kV9 dc9 pm9 an9 cd9 ct9), sl9⟩)
    (c9 : PySem.W.codeIn K cd9 "accept_deeds" = true)
    (k9 : PySem.W.keepIn K (.ref f9) = true)
    (v9 : fnAt K (toStr [97, 99, 99, 101, 112, 116, 95, 100, 101, 101, 100, 115]) = some f9)
    (a10 : PySem.W.nsIn K mainGlobals "numbered" = some (some (.ref f10)))
    (l10 : K.lookup f10 = some ⟨oc10, od10, .func (PySem.W.fnOf "numbered" "numbered" (defArgs (top 20)) (defBody (top 20)) (defScope (top 20)) .none kV10 dc10 pm10 an10 cd10 ct10), sl10⟩)
    (c10 : PySem.W.codeIn K cd10 "numbered" = true)
    (k10 : PySem.W.keepIn K (.ref f10) = true)
    (v10 : fnAt K (toStr [110, 117, 109, 98, 101, 114, 101, 100]) = some f10)
    (a11 : PySem.W.nsIn K mainGlobals "numbers_of" = some (some (.ref f11)))
    (l11 : K.lookup f11 = some ⟨oc11, od11, .func (PySem.W.fnOf "numbers_of" "numbers_of" (defArgs (top 21)) (defBody (top 21)) (defScope (top 21)) .none kV11 dc11 pm11 an11 cd11 ct11), sl11⟩)
    (c11 : PySem.W.codeIn K cd11 "numbers_of" = true)
    (k11 : PySem.W.keepIn K (.ref f11) = true)
    (a12 : PySem.W.nsIn K mainGlobals "accept_numbers" = some (some (.ref f12)))
    (l12 : K.lookup f12 = some ⟨oc12, od12, .func (PySem.W.fnOf "accept_numbers" "accept_numbers" (defArgs (top 22)) (defBody (top 22)) (defScope (top 22)) .none kV12 dc12 pm12 an12 cd12 ct12), sl12⟩)
    (c12 : PySem.W.codeIn K cd12 "accept_numbers" = true)
    (k12 : PySem.W.keepIn K (.ref f12) = true)
    (v12 : fnAt K (toStr [97, 99, 99, 101, 112, 116, 95, 110, 117, 109, 98, 101, 114, 115]) = some f12)
    (a13 : PySem.W.nsIn K mainGlobals "are_numbers" = some (some (.ref f13)))
    (l13 : K.lookup f13 = some ⟨oc13, od13, .func (PySem.W.fnOf "are_numbers" "are_numbers" (defArgs (top 23)) (defBody (top 23)) (defScope (top 23)) .none kV13 dc13 pm13 an13 cd13 ct13), sl13⟩)
    (c13 : PySem.W.codeIn K cd13 "are_numbers" = true)
    (k13 : PySem.W.keepIn K (.ref f13) = true)
    (a14 : PySem.W.nsIn K mainGlobals "_law_start" = some (some (.ref f14)))
    (l14 : K.lookup f14 = some ⟨oc14, od14, .func (PySem.W.fnOf "_law_start" "_law_start" (defArgs (top 25)) (defBody (top 25)) (defScope (top 25)) .none kV14 dc14 pm14 an14 cd14 ct14), sl14⟩)
    (c14 : PySem.W.codeIn K cd14 "_law_start" = true)
    (k14 : PySem.W.keepIn K (.ref f14) = true)
    (a15 : PySem.W.nsIn K mainGlobals "_law_draw" = some (some (.ref f15)))
    (l15 : K.lookup f15 = some ⟨oc15, od15, .func (PySem.W.fnOf "_law_draw" "_law_draw" (defArgs (top 26)) (defBody (top 26)) (defScope (top 26)) .none kV15 dc15 pm15 an15 cd15 ct15), sl15⟩)
    (c15 : PySem.W.codeIn K cd15 "_law_draw" = true)
    (k15 : PySem.W.keepIn K (.ref f15) = true)
    (a16 : PySem.W.nsIn K mainGlobals "_law_pick" = some (some (.ref f16)))
    (l16 : K.lookup f16 = some ⟨oc16, od16, .func (PySem.W.fnOf "_law_pick" "_law_pick" (defArgs (top 27)) (defBody (top 27)) (defScope (top 27)) .none kV16 dc16 pm16 an16 cd16 ct16), sl16⟩)
    (c16 : PySem.W.codeIn K cd16 "_law_pick" = true)
    (k16 : PySem.W.keepIn K (.ref f16) = true)
    (a17 : PySem.W.nsIn K mainGlobals "_law_same" = some (some (.ref f17)))
    (l17 : K.lookup f17 = some ⟨oc17, od17, .func (PySem.W.fnOf "_law_same" "_law_same" (defArgs (top 28)) (defBody (top 28)) (defScope (top 28)) .none kV17 dc17 pm17 an17 cd17 ct17), sl17⟩)
    (c17 : PySem.W.codeIn K cd17 "_law_same" = true)
    (k17 : PySem.W.keepIn K (.ref f17) = true)
    (a18 : PySem.W.nsIn K mainGlobals "_law_asked" = some (some (.ref f18)))
    (l18 : K.lookup f18 = some ⟨oc18, od18, .func (PySem.W.fnOf "_law_asked" "_law_asked" (defArgs (top 30)) (defBody (top 30)) (defScope (top 30)) .none kV18 dc18 pm18 an18 cd18 ct18), sl18⟩)
    (c18 : PySem.W.codeIn K cd18 "_law_asked" = true)
    (k18 : PySem.W.keepIn K (.ref f18) = true)
    (a19 : PySem.W.nsIn K mainGlobals "_law_tree" = some (some (.ref f19)))
    (l19 : K.lookup f19 = some ⟨oc19, od19, .func (PySem.W.fnOf "_law_tree" "_law_tree" (defArgs (top 31)) (defBody (top 31)) (defScope (top 31)) .none kV19 dc19 pm19 an19 cd19 ct19), sl19⟩)
    (c19 : PySem.W.codeIn K cd19 "_law_tree" = true)
    (k19 : PySem.W.keepIn K (.ref f19) = true)
    (a20 : PySem.W.nsIn K mainGlobals "_law_need" = some (some (.ref f20)))
    (l20 : K.lookup f20 = some ⟨oc20, od20, .func (PySem.W.fnOf "_law_need" "_law_need" (defArgs (top 32)) (defBody (top 32)) (defScope (top 32)) .none kV20 dc20 pm20 an20 cd20 ct20), sl20⟩)
    (c20 : PySem.W.codeIn K cd20 "_law_need" = true)
    (k20 : PySem.W.keepIn K (.ref f20) = true)
    (a21 : PySem.W.nsIn K mainGlobals "_law_deeds" = some (some (.ref f21)))
    (l21 : K.lookup f21 = some ⟨oc21, od21, .func (PySem.W.fnOf "_law_deeds" "_law_deeds" (defArgs (top 33)) (defBody (top 33)) (defScope (top 33)) .none kV21 dc21 pm21 an21 cd21 ct21), sl21⟩)
    (c21 : PySem.W.codeIn K cd21 "_law_deeds" = true)
    (k21 : PySem.W.keepIn K (.ref f21) = true)
    (a22 : PySem.W.nsIn K mainGlobals "_law_numbers" = some (some (.ref f22)))
    (l22 : K.lookup f22 = some ⟨oc22, od22, .func (PySem.W.fnOf "_law_numbers" "_law_numbers" (defArgs (top 34)) (defBody (top 34)) (defScope (top 34)) .none kV22 dc22 pm22 an22 cd22 ct22), sl22⟩)
    (c22 : PySem.W.codeIn K cd22 "_law_numbers" = true)
    (k22 : PySem.W.keepIn K (.ref f22) = true)
    (a23 : PySem.W.nsIn K mainGlobals "_law_depth" = some (some (.ref f23)))
    (l23 : K.lookup f23 = some ⟨oc23, od23, .func (PySem.W.fnOf "_law_depth" "_law_depth" (defArgs (top 35)) (defBody (top 35)) (defScope (top 35)) .none kV23 dc23 pm23 an23 cd23 ct23), sl23⟩)
    (c23 : PySem.W.codeIn K cd23 "_law_depth" = true)
    (k23 : PySem.W.keepIn K (.ref f23) = true)
    (a24 : PySem.W.nsIn K mainGlobals "_law_whole" = some (some (.ref f24)))
    (l24 : K.lookup f24 = some ⟨oc24, od24, .func (PySem.W.fnOf "_law_whole" "_law_whole" (defArgs (top 36)) (defBody (top 36)) (defScope (top 36)) .none kV24 dc24 pm24 an24 cd24 ct24), sl24⟩)
    (c24 : PySem.W.codeIn K cd24 "_law_whole" = true)
    (k24 : PySem.W.keepIn K (.ref f24) = true)
    (a25 : PySem.W.nsIn K mainGlobals "_law_done" = some (some (.ref f25)))
    (l25 : K.lookup f25 = some ⟨oc25, od25, .func (PySem.W.fnOf "_law_done" "_law_done" (defArgs (top 38)) (defBody (top 38)) (defScope (top 38)) .none kV25 dc25 pm25 an25 cd25 ct25), sl25⟩)
    (c25 : PySem.W.codeIn K cd25 "_law_done" = true)
    (k25 : PySem.W.keepIn K (.ref f25) = true)
    (a26 : PySem.W.nsIn K mainGlobals "_law_are_numbers" = some (some (.ref f26)))
    (l26 : K.lookup f26 = some ⟨oc26, od26, .func (PySem.W.fnOf "_law_are_numbers" "_law_are_numbers" (defArgs (top 39)) (defBody (top 39)) (defScope (top 39)) .none kV26 dc26 pm26 an26 cd26 ct26), sl26⟩)
    (c26 : PySem.W.codeIn K cd26 "_law_are_numbers" = true)
    (k26 : PySem.W.keepIn K (.ref f26) = true)
    (a27 : PySem.W.nsIn K mainGlobals "_law_deeds_due" = some (some (.ref f27)))
    (l27 : K.lookup f27 = some ⟨oc27, od27, .func (PySem.W.fnOf "_law_deeds_due" "_law_deeds_due" (defArgs (top 40)) (defBody (top 40)) (defScope (top 40)) .none kV27 dc27 pm27 an27 cd27 ct27), sl27⟩)
    (c27 : PySem.W.codeIn K cd27 "_law_deeds_due" = true)
    (k27 : PySem.W.keepIn K (.ref f27) = true)
    (a28 : PySem.W.nsIn K mainGlobals "_law_odd" = some (some (.ref f28)))
    (l28 : K.lookup f28 = some ⟨oc28, od28, .func (PySem.W.fnOf "_law_odd" "_law_odd" (defArgs (top 41)) (defBody (top 41)) (defScope (top 41)) .none kV28 dc28 pm28 an28 cd28 ct28), sl28⟩)
    (c28 : PySem.W.codeIn K cd28 "_law_odd" = true)
    (k28 : PySem.W.keepIn K (.ref f28) = true)
    (a29 : PySem.W.nsIn K mainGlobals "_law_spoilt" = some (some (.ref f29)))
    (l29 : K.lookup f29 = some ⟨oc29, od29, .func (PySem.W.fnOf "_law_spoilt" "_law_spoilt" (defArgs (top 42)) (defBody (top 42)) (defScope (top 42)) .none kV29 dc29 pm29 an29 cd29 ct29), sl29⟩)
    (c29 : PySem.W.codeIn K cd29 "_law_spoilt" = true)
    (k29 : PySem.W.keepIn K (.ref f29) = true)
    (a30 : PySem.W.nsIn K mainGlobals "_law_refused" = some (some (.ref f30)))
    (l30 : K.lookup f30 = some ⟨oc30, od30, .func (PySem.W.fnOf "_law_refused" "_law_refused" (defArgs (top 43)) (defBody (top 43)) (defScope (top 43)) .none kV30 dc30 pm30 an30 cd30 ct30), sl30⟩)
    (c30 : PySem.W.codeIn K cd30 "_law_refused" = true)
    (k30 : PySem.W.keepIn K (.ref f30) = true)
    (a31 : PySem.W.nsIn K mainGlobals "law" = some (some (.ref f31)))
    (l31 : K.lookup f31 = some ⟨oc31, od31, .func (PySem.W.fnOf "law" "law" (defArgs (top 44)) (defBody (top 44)) (defScope (top 44)) .none kV31 dc31 pm31 an31 cd31 ct31), sl31⟩)
    (c31 : PySem.W.codeIn K cd31 "law" = true)
    (k31 : PySem.W.keepIn K (.ref f31) = true)
    (z_ValueError : PySem.W.nsIn K mainGlobals "ValueError" = some none)
    (z_abs : PySem.W.nsIn K mainGlobals "abs" = some none)
    (z_all : PySem.W.nsIn K mainGlobals "all" = some none)
    (z_bool : PySem.W.nsIn K mainGlobals "bool" = some none)
    (z_int : PySem.W.nsIn K mainGlobals "int" = some none)
    (z_isinstance : PySem.W.nsIn K mainGlobals "isinstance" = some none)
    (z_len : PySem.W.nsIn K mainGlobals "len" = some none)
    (z_list : PySem.W.nsIn K mainGlobals "list" = some none)
    (z_max : PySem.W.nsIn K mainGlobals "max" = some none)
    (z_range : PySem.W.nsIn K mainGlobals "range" = some none)
    (z_repr : PySem.W.nsIn K mainGlobals "repr" = some none)
    (z_sorted : PySem.W.nsIn K mainGlobals "sorted" = some none)
    (z_str : PySem.W.nsIn K mainGlobals "str" = some none)
    (z_super : PySem.W.nsIn K mainGlobals "super" = some none)
    (z_tuple : PySem.W.nsIn K mainGlobals "tuple" = some none)
    (q_MAX_DEPTH : PySem.W.nsIn K mainGlobals "MAX_DEPTH" = some (some (.int 12 t_MAX_DEPTH)))
    (q_MAX_SPANS : PySem.W.nsIn K mainGlobals "MAX_SPANS" = some (some (.int 60 t_MAX_SPANS)))
    (aw : PySem.W.nsIn K mainGlobals "_law_word" = some (some (.ref fw)))
    (lw : K.lookup fw = some ⟨ocw, odw, .func (PySem.W.fnOf "_law_word" "_law_word" (defArgs (top 29)) (defBody (top 29)) (defScope (top 29)) .none kVw dcw pmw anw cdw ctw), slw⟩)
    (cw : PySem.W.codeIn K cdw "_law_word" = true)
    (kw : PySem.W.keepIn K (.ref fw) = true)
    (nopq : PySem.W.nsIn K cStatics "thirdparty.any" = some none)
    (ntop : (l.prog.main.scope.names.lookup ("super" : Str)).isSome = false)
    (ma : PySem.W.nsIn K mainGlobals "MemoryFault" = some (some (.ref xM)))
    (ms : PySem.W.subIn K (.ref xM) (.type "BaseException") = some true)
    (md : PySem.W.hasDictIn K xM = true)
    (mt : PySem.W.typeIn K (.ref xM) = some (.type "type"))
    (xa0 : PySem.W.nsIn K mainGlobals "HeapError" = some (some (.ref X0)))
    (xl0 : K.lookup X0 = some (excClassObj xnm0 xqn0 X0 xN0 xbs0 xbm0 true xsn0 xsu0 xab0 xco0 xdd0 xk00 xk10 xk20 xk30 xk50 "ValueError.__new__"))
    (xr0 : PySem.HandSPX.refsVE xbm0 = true)
    (xs0 : PySem.W.findIn K (.ref X0) "__setattr__" = some (some (.builtin "object.__setattr__")))
    (xx0 : PySem.W.subIn K (.ref X0) (.type "BaseException") = some true)
    (xy0 : PySem.W.typeIn K (.ref X0) = some (.type "type"))
    (xk0 : PySem.W.keepIn K (.ref X0) = true)
    (xi0 : PySem.W.findIn K (.ref X0) "__init__" = some (some (.ref I0)))
    (xt0 : PySem.W.typeIn K (.ref I0) = some (.type "function"))
    (xf0 : K.lookup I0 = some ⟨xoc0, xod0, .func (PySem.W.ksFn "__init__" "HeapError.__init__" (defArgs (inClass (top 2) 0)) (defBody (inClass (top 2) 0)) (defScope (inClass (top 2) 0)) .none xkV0 xdo0 xpm0 xan0 (.ref cda0) xct0 cc0), xos0⟩)
    (xc0 : PySem.W.codeIn K (.ref cda0) "HeapError.__init__" = true)
    (xo0 : K.lookup cda0 = some ⟨xcc0, xcd0, .fields xvs0, xcs0⟩)
    (xv0 : xvs0[2]? = some (.str xfi0 xtf0))
    (xq0 : ((l.prog.main.file : Str) == xfi0) = true)
    (xz0 : K.lookup cc0 = some ⟨xcl0, xld0, .cell (some (.ref X0)), xls0⟩)
    (xu0 : PySem.W.ks_superIn K X0 X0 "__init__" = some (some (.builtin "ValueError.__init__")))
    (xb0 : PySem.W.subIn K (.ref X0) (.type "ValueError") = some true)
    (xw0 : PySem.W.mroIn K X0 (.ref X0) = some true)
    (xn0 : PySem.W.findIn K (.ref X0) "reason" = some none)
    (mc0 : PySem.W.subIn K (.ref X0) (.ref xM) = some true)
    (ga0 : PySem.W.findIn K (.ref X0) "__getattribute__" = some (some (.builtin "BaseException.__getattribute__")))
    (gg0 : PySem.W.findIn K (.ref X0) "__getattr__" = some none)
    (gd0 : PySem.W.hasDictIn K X0 = true)
    (gc0 : PySem.W.findIn K (.ref X0) "__class__" = some (some (.builtin "object.__class__")))
    (gn0 : PySem.W.specialIn K (.builtin "object.__class__") "__get__" = some (some (.builtin "getset_descriptor.__get__")))
    (gt0 : PySem.W.takesIn K (.builtin "object.__class__") = some true)
    (go0 : PySem.W.mroIn K X0 (.type "object") = some true)
    (kv0 : PySem.W.kitOne K (.ref X0) (.type "ValueError") = some true)
    (xa1 : PySem.W.nsIn K mainGlobals "ArgumentError" = some (some (.ref X1)))
    (xl1 : K.lookup X1 = some (excClassObj xnm1 xqn1 X1 xN1 xbs1 xbm1 true xsn1 xsu1 xab1 xco1 xdd1 xk01 xk11 xk21 xk31 xk51 "ValueError.__new__"))
    (xr1 : PySem.HandSPX.refsVE xbm1 = true)
    (xs1 : PySem.W.findIn K (.ref X1) "__setattr__" = some (some (.builtin "object.__setattr__")))
    (xx1 : PySem.W.subIn K (.ref X1) (.type "BaseException") = some true)
    (xy1 : PySem.W.typeIn K (.ref X1) = some (.type "type"))
    (xk1 : PySem.W.keepIn K (.ref X1) = true)
    (xi1 : PySem.W.findIn K (.ref X1) "__init__" = some (some (.ref I1)))
    (xt1 : PySem.W.typeIn K (.ref I1) = some (.type "function"))
    (xf1 : K.lookup I1 = some ⟨xoc1, xod1, .func (PySem.W.ksFn "__init__" "ArgumentError.__init__" (defArgs (inClass (top 3) 0)) (defBody (inClass (top 3) 0)) (defScope (inClass (top 3) 0)) .none xkV1 xdo1 xpm1 xan1 (.ref cda1) xct1 cc1), xos1⟩)
    (xc1 : PySem.W.codeIn K (.ref cda1) "ArgumentError.__init__" = true)
    (xo1 : K.lookup cda1 = some ⟨xcc1, xcd1, .fields xvs1, xcs1⟩)
    (xv1 : xvs1[2]? = some (.str xfi1 xtf1))
    (xq1 : ((l.prog.main.file : Str) == xfi1) = true)
    (xz1 : K.lookup cc1 = some ⟨xcl1, xld1, .cell (some (.ref X1)), xls1⟩)
    (xu1 : PySem.W.ks_superIn K X1 X1 "__init__" = some (some (.builtin "ValueError.__init__")))
    (xb1 : PySem.W.subIn K (.ref X1) (.type "ValueError") = some true)
    (xw1 : PySem.W.mroIn K X1 (.ref X1) = some true)
    (xn1 : PySem.W.findIn K (.ref X1) "reason" = some none)
    (mc1 : PySem.W.subIn K (.ref X1) (.ref xM) = some true)
    (ga1 : PySem.W.findIn K (.ref X1) "__getattribute__" = some (some (.builtin "BaseException.__getattribute__")))
    (gg1 : PySem.W.findIn K (.ref X1) "__getattr__" = some none)
    (gd1 : PySem.W.hasDictIn K X1 = true)
    (gc1 : PySem.W.findIn K (.ref X1) "__class__" = some (some (.builtin "object.__class__")))
    (gn1 : PySem.W.specialIn K (.builtin "object.__class__") "__get__" = some (some (.builtin "getset_descriptor.__get__")))
    (gt1 : PySem.W.takesIn K (.builtin "object.__class__") = some true)
    (go1 : PySem.W.mroIn K X1 (.type "object") = some true)
    (kv1 : PySem.W.kitOne K (.ref X1) (.type "ValueError") = some true)
    (xa2 : PySem.W.nsIn K mainGlobals "PaperError" = some (some (.ref X2)))
    (xl2 : K.lookup X2 = some (excClassObj xnm2 xqn2 X2 xN2 xbs2 xbm2 true xsn2 xsu2 xab2 xco2 xdd2 xk02 xk12 xk22 xk32 xk52 "ValueError.__new__"))
    (xr2 : PySem.HandSPX.refsVE xbm2 = true)
    (xs2 : PySem.W.findIn K (.ref X2) "__setattr__" = some (some (.builtin "object.__setattr__")))
    (xx2 : PySem.W.subIn K (.ref X2) (.type "BaseException") = some true)
    (xy2 : PySem.W.typeIn K (.ref X2) = some (.type "type"))
    (xk2 : PySem.W.keepIn K (.ref X2) = true)
    (xi2 : PySem.W.findIn K (.ref X2) "__init__" = some (some (.ref I2)))
    (xt2 : PySem.W.typeIn K (.ref I2) = some (.type "function"))
    (xf2 : K.lookup I2 = some ⟨xoc2, xod2, .func (PySem.W.ksFn "__init__" "PaperError.__init__" (defArgs (inClass (top 4) 0)) (defBody (inClass (top 4) 0)) (defScope (inClass (top 4) 0)) .none xkV2 xdo2 xpm2 xan2 (.ref cda2) xct2 cc2), xos2⟩)
    (xc2 : PySem.W.codeIn K (.ref cda2) "PaperError.__init__" = true)
    (xo2 : K.lookup cda2 = some ⟨xcc2, xcd2, .fields xvs2, xcs2⟩)
    (xv2 : xvs2[2]? = some (.str xfi2 xtf2))
    (xq2 : ((l.prog.main.file : Str) == xfi2) = true)
    (xz2 : K.lookup cc2 = some ⟨xcl2, xld2, .cell (some (.ref X2)), xls2⟩)
    (xu2 : PySem.W.ks_superIn K X2 X2 "__init__" = some (some (.builtin "ValueError.__init__")))
    (xb2 : PySem.W.subIn K (.ref X2) (.type "ValueError") = some true)
    (xw2 : PySem.W.mroIn K X2 (.ref X2) = some true)
    (xn2 : PySem.W.findIn K (.ref X2) "reason" = some none)
    (mc2 : PySem.W.subIn K (.ref X2) (.ref xM) = some true)
    (ga2 : PySem.W.findIn K (.ref X2) "__getattribute__" = some (some (.builtin "BaseException.__getattribute__")))
    (gg2 : PySem.W.findIn K (.ref X2) "__getattr__" = some none)
    (gd2 : PySem.W.hasDictIn K X2 = true)
    (gc2 : PySem.W.findIn K (.ref X2) "__class__" = some (some (.builtin "object.__class__")))
    (gn2 : PySem.W.specialIn K (.builtin "object.__class__") "__get__" = some (some (.builtin "getset_descriptor.__get__")))
    (gt2 : PySem.W.takesIn K (.builtin "object.__class__") = some true)
    (go2 : PySem.W.mroIn K X2 (.type "object") = some true)
    (kv2 : PySem.W.kitOne K (.ref X2) (.type "ValueError") = some true)
    (xa3 : PySem.W.nsIn K mainGlobals "TooMany" = some (some (.ref X3)))
    (xl3 : K.lookup X3 = some (excClassObj xnm3 xqn3 X3 xN3 xbs3 xbm3 true xsn3 xsu3 xab3 xco3 xdd3 xk03 xk13 xk23 xk33 xk53 "ValueError.__new__"))
    (xr3 : PySem.HandSPX.refsVE xbm3 = true)
    (xs3 : PySem.W.findIn K (.ref X3) "__setattr__" = some (some (.builtin "object.__setattr__")))
    (xx3 : PySem.W.subIn K (.ref X3) (.type "BaseException") = some true)
    (xy3 : PySem.W.typeIn K (.ref X3) = some (.type "type"))
    (xk3 : PySem.W.keepIn K (.ref X3) = true)
    (xi3 : PySem.W.findIn K (.ref X3) "__init__" = some (some (.ref I3)))
    (xt3 : PySem.W.typeIn K (.ref I3) = some (.type "function"))
    (xf3 : K.lookup I3 = some ⟨xoc3, xod3, .func (PySem.W.ksFn "__init__" "TooMany.__init__" (defArgs (inClass (top 5) 0)) (defBody (inClass (top 5) 0)) (defScope (inClass (top 5) 0)) .none xkV3 xdo3 xpm3 xan3 (.ref cda3) xct3 cc3), xos3⟩)
    (xc3 : PySem.W.codeIn K (.ref cda3) "TooMany.__init__" = true)
    (xo3 : K.lookup cda3 = some ⟨xcc3, xcd3, .fields xvs3, xcs3⟩)
    (xv3 : xvs3[2]? = some (.str xfi3 xtf3))
    (xq3 : ((l.prog.main.file : Str) == xfi3) = true)
    (xz3 : K.lookup cc3 = some ⟨xcl3, xld3, .cell (some (.ref X3)), xls3⟩)
    (xu3 : PySem.W.ks_superIn K X3 X3 "__init__" = some (some (.builtin "ValueError.__init__")))
    (xb3 : PySem.W.subIn K (.ref X3) (.type "ValueError") = some true)
    (xw3 : PySem.W.mroIn K X3 (.ref X3) = some true)
    (xn3 : PySem.W.findIn K (.ref X3) "reason" = some none)
    (mc3 : PySem.W.subIn K (.ref X3) (.ref xM) = some true)
    (ga3 : PySem.W.findIn K (.ref X3) "__getattribute__" = some (some (.builtin "BaseException.__getattribute__")))
    (gg3 : PySem.W.findIn K (.ref X3) "__getattr__" = some none)
    (gd3 : PySem.W.hasDictIn K X3 = true)
    (gc3 : PySem.W.findIn K (.ref X3) "__class__" = some (some (.builtin "object.__class__")))
    (gn3 : PySem.W.specialIn K (.builtin "object.__class__") "__get__" = some (some (.builtin "getset_descriptor.__get__")))
    (gt3 : PySem.W.takesIn K (.builtin "object.__class__") = some true)
    (go3 : PySem.W.mroIn K X3 (.type "object") = some true)
    (kv3 : PySem.W.kitOne K (.ref X3) (.type "ValueError") = some true)
    (kt1_0 : PySem.W.kitOne K (.ref X1) (.ref X0) = some false)
    (kt1_1 : PySem.W.kitOne K (.ref X1) (.ref X1) = some true)
    (kt1_2 : PySem.W.kitOne K (.ref X1) (.ref X2) = some false)
    (kt1_3 : PySem.W.kitOne K (.ref X1) (.ref X3) = some false)
    (kt2_0 : PySem.W.kitOne K (.ref X2) (.ref X0) = some false)
    (kt2_1 : PySem.W.kitOne K (.ref X2) (.ref X1) = some false)
    (kt2_2 : PySem.W.kitOne K (.ref X2) (.ref X2) = some true)
    (kt2_3 : PySem.W.kitOne K (.ref X2) (.ref X3) = some false) :
    ∃ (fd : FuncData) (T : Tb), (∀ (s : Shared) (v : Value), BindsTo s fd ⟨[v], []⟩ [("script", v)]) ∧ ∀ base : Heap, K.In base → base.Ns mainGlobals mg → FnG l.prog w K mg base (3 * 40) fa fd ["script"] (spF K T 1 (run 40 31)) := by
  have e := hfa.symm.trans (PySem.W.mg_of X G a31)
  cases e
  have F0 := fun_mk (st := top 7) l0 c0 k0
  have b0 := F0.binds (ps := ["value"]) fun _ _ _ _ _ _ us hl => match us, hl with | [_], _ => rfl
  have F1 := fun_mk (st := top 11) l1 c1 k1
  have b1 := F1.binds (ps := ["value", "depth"]) fun _ _ _ _ _ _ us hl => match us, hl with | [_, _], _ => rfl
  have F2 := fun_mk (st := top 12) l2 c2 k2
  have b2 := F2.binds (ps := ["tree"]) fun _ _ _ _ _ _ us hl => match us, hl with | [_], _ => rfl
  have F3 := fun_mk (st := top 13) l3 c3 k3
  have b3 := F3.binds (ps := ["tree"]) fun _ _ _ _ _ _ us hl => match us, hl with | [_], _ => rfl
  have F4 := fun_mk (st := top 14) l4 c4 k4
  have b4 := F4.binds (ps := ["tree"]) fun _ _ _ _ _ _ us hl => match us, hl with | [_], _ => rfl
  have F5 := fun_mk (st := top 15) l5 c5 k5
  have b5 := F5.binds (ps := ["tree", "free"]) fun _ _ _ _ _ _ us hl => match us, hl with | [_, _], _ => rfl
  have F6 := fun_mk (st := top 16) l6 c6 k6
  have b6 := F6.binds (ps := ["tree"]) fun _ _ _ _ _ _ us hl => match us, hl with | [_], _ => rfl
  have F7 := fun_mk (st := top 17) l7 c7 k7
  have b7 := F7.binds (ps := ["many", "deeds"]) fun _ _ _ _ _ _ us hl => match us, hl with | [_, _], _ => rfl
  have F8 := fun_mk (st := top 18) l8 c8 k8
  have b8 := F8.binds (ps := ["many", "deeds"]) fun _ _ _ _ _ _ us hl => match us, hl with | [_, _], _ => rfl
  have F9 := fun_mk (st := top 19) l9 c9 k9
  have b9 := F9.binds (ps := ["tree", "many", "deeds"]) fun _ _ _ _ _ _ us hl => match us, hl with | [_, _, _], _ => rfl
  have F10 := fun_mk (st := top 20) l10 c10 k10
  have b10 := F10.binds (ps := ["tree"]) fun _ _ _ _ _ _ us hl => match us, hl with | [_], _ => rfl
  have F11 := fun_mk (st := top 21) l11 c11 k11
  have b11 := F11.binds (ps := ["tree"]) fun _ _ _ _ _ _ us hl => match us, hl with | [_], _ => rfl
  have F12 := fun_mk (st := top 22) l12 c12 k12
  have b12 := F12.binds (ps := ["tree", "numbers"]) fun _ _ _ _ _ _ us hl => match us, hl with | [_, _], _ => rfl
  have F13 := fun_mk (st := top 23) l13 c13 k13
  have b13 := F13.binds (ps := ["tree", "numbers"]) fun _ _ _ _ _ _ us hl => match us, hl with | [_, _], _ => rfl
  have F14 := fun_mk (st := top 25) l14 c14 k14
  have b14 := F14.binds (ps := ["script"]) fun _ _ _ _ _ _ us hl => match us, hl with | [_], _ => rfl
  have F15 := fun_mk (st := top 26) l15 c15 k15
  have b15 := F15.binds (ps := ["state", "many"]) fun _ _ _ _ _ _ us hl => match us, hl with | [_, _], _ => rfl
  have F16 := fun_mk (st := top 27) l16 c16 k16
  have b16 := F16.binds (ps := ["state", "some"]) fun _ _ _ _ _ _ us hl => match us, hl with | [_, _], _ => rfl
  have F17 := fun_mk (st := top 28) l17 c17 k17
  have b17 := F17.binds (ps := ["actual", "due"]) fun _ _ _ _ _ _ us hl => match us, hl with | [_, _], _ => rfl
  have F18 := fun_mk (st := top 30) l18 c18 k18
  have b18 := F18.binds (ps := ["way", "some"]) fun _ _ _ _ _ _ us hl => match us, hl with | [_, _], _ => rfl
  have F19 := fun_mk (st := top 31) l19 c19 k19
  have b19 := F19.binds (ps := ["state", "depth", "full"]) fun _ _ _ _ _ _ us hl => match us, hl with | [_, _, _], _ => rfl
  have F20 := fun_mk (st := top 32) l20 c20 k20
  have b20 := F20.binds (ps := ["tree"]) fun _ _ _ _ _ _ us hl => match us, hl with | [_], _ => rfl
  have F21 := fun_mk (st := top 33) l21 c21 k21
  have b21 := F21.binds (ps := ["tree", "first"]) fun _ _ _ _ _ _ us hl => match us, hl with | [_, _], _ => rfl
  have F22 := fun_mk (st := top 34) l22 c22 k22
  have b22 := F22.binds (ps := ["tree"]) fun _ _ _ _ _ _ us hl => match us, hl with | [_], _ => rfl
  have F23 := fun_mk (st := top 35) l23 c23 k23
  have b23 := F23.binds (ps := ["tree"]) fun _ _ _ _ _ _ us hl => match us, hl with | [_], _ => rfl
  have F24 := fun_mk (st := top 36) l24 c24 k24
  have b24 := F24.binds (ps := ["value"]) fun _ _ _ _ _ _ us hl => match us, hl with | [_], _ => rfl
  have F25 := fun_mk (st := top 38) l25 c25 k25
  have b25 := F25.binds (ps := ["many", "deeds"]) fun _ _ _ _ _ _ us hl => match us, hl with | [_, _], _ => rfl
  have F26 := fun_mk (st := top 39) l26 c26 k26
  have b26 := F26.binds (ps := ["tree", "value"]) fun _ _ _ _ _ _ us hl => match us, hl with | [_, _], _ => rfl
  have F27 := fun_mk (st := top 40) l27 c27 k27
  have b27 := F27.binds (ps := ["tree", "many", "deeds"]) fun _ _ _ _ _ _ us hl => match us, hl with | [_, _, _], _ => rfl
  have F28 := fun_mk (st := top 41) l28 c28 k28
  have b28 := F28.binds (ps := ["state"]) fun _ _ _ _ _ _ us hl => match us, hl with | [_], _ => rfl
  have F29 := fun_mk (st := top 42) l29 c29 k29
  have b29 := F29.binds (ps := ["state", "value"]) fun _ _ _ _ _ _ us hl => match us, hl with | [_, _], _ => rfl
  have F30 := fun_mk (st := top 43) l30 c30 k30
  have b30 := F30.binds (ps := ["state", "tree"]) fun _ _ _ _ _ _ us hl => match us, hl with | [_, _], _ => rfl
  have F31 := fun_mk (st := top 44) l31 c31 k31
  have b31 := F31.binds (ps := ["script"]) fun _ _ _ _ _ _ us hl => match us, hl with | [_], _ => rfl
  have Fw := fun_mk (st := top 29) lw cw kw
  have bw := Fw.binds (ps := ["error"]) fun _ _ _ _ _ _ us hl => match us, hl with | [_], _ => rfl
  let T : Tb := ⟨fun _ => "", fun _ => 0, fun c => match c with | 0 => "reason" | 1 => "reason" | 2 => "reason" | 3 => "reason" | _ => "", fun c => match c with | 0 => X0 | 1 => X1 | 2 => X2 | 3 => X3 | _ => X0⟩
  have Z : Tx l.prog K mg T ⟨f0, _, f1, _, f2, _, f3, _, f4, _, f5, _, f6, _, f7, _, f8, _, f9, _, f10, _, f11, _, f12, _, f13, _, f14, _, f15, _, f16, _, f17, _, f18, _, f19, _, f20, _, f21, _, f22, _, f23, _, f24, _, f25, _, f26, _, f27, _, f28, _, f29, _, f30, _, fa, _, fw, _, I0, _, I1, _, I2, _, I3, _, xM⟩ := {
    i_0 := ⟨PySem.W.mg_of X G a0, k0, b0⟩,
    u_0 := F0,
    i_1 := ⟨PySem.W.mg_of X G a1, k1, b1⟩,
    u_1 := F1,
    i_2 := ⟨PySem.W.mg_of X G a2, k2, b2⟩,
    u_2 := F2,
    i_3 := ⟨PySem.W.mg_of X G a3, k3, b3⟩,
    u_3 := F3,
    i_4 := ⟨PySem.W.mg_of X G a4, k4, b4⟩,
    u_4 := F4,
    v_4 := v4,
    i_5 := ⟨PySem.W.mg_of X G a5, k5, b5⟩,
    u_5 := F5,
    i_6 := ⟨PySem.W.mg_of X G a6, k6, b6⟩,
    u_6 := F6,
    v_6 := v6,
    i_7 := ⟨PySem.W.mg_of X G a7, k7, b7⟩,
    u_7 := F7,
    v_7 := v7,
    i_8 := ⟨PySem.W.mg_of X G a8, k8, b8⟩,
    u_8 := F8,
    i_9 := ⟨PySem.W.mg_of X G a9, k9, b9⟩,
    u_9 := F9,
    v_9 := v9,
    i_10 := ⟨PySem.W.mg_of X G a10, k10, b10⟩,
    u_10 := F10,
    v_10 := v10,
    i_11 := ⟨PySem.W.mg_of X G a11, k11, b11⟩,
    u_11 := F11,
    i_12 := ⟨PySem.W.mg_of X G a12, k12, b12⟩,
    u_12 := F12,
    v_12 := v12,
    i_13 := ⟨PySem.W.mg_of X G a13, k13, b13⟩,
    u_13 := F13,
    i_14 := ⟨PySem.W.mg_of X G a14, k14, b14⟩,
    u_14 := F14,
    i_15 := ⟨PySem.W.mg_of X G a15, k15, b15⟩,
    u_15 := F15,
    i_16 := ⟨PySem.W.mg_of X G a16, k16, b16⟩,
    u_16 := F16,
    i_17 := ⟨PySem.W.mg_of X G a17, k17, b17⟩,
    u_17 := F17,
    i_18 := ⟨PySem.W.mg_of X G a18, k18, b18⟩,
    u_18 := F18,
    i_19 := ⟨PySem.W.mg_of X G a19, k19, b19⟩,
    u_19 := F19,
    i_20 := ⟨PySem.W.mg_of X G a20, k20, b20⟩,
    u_20 := F20,
    i_21 := ⟨PySem.W.mg_of X G a21, k21, b21⟩,
    u_21 := F21,
    i_22 := ⟨PySem.W.mg_of X G a22, k22, b22⟩,
    u_22 := F22,
    i_23 := ⟨PySem.W.mg_of X G a23, k23, b23⟩,
    u_23 := F23,
    i_24 := ⟨PySem.W.mg_of X G a24, k24, b24⟩,
    u_24 := F24,
    i_25 := ⟨PySem.W.mg_of X G a25, k25, b25⟩,
    u_25 := F25,
    i_26 := ⟨PySem.W.mg_of X G a26, k26, b26⟩,
    u_26 := F26,
    i_27 := ⟨PySem.W.mg_of X G a27, k27, b27⟩,
    u_27 := F27,
    i_28 := ⟨PySem.W.mg_of X G a28, k28, b28⟩,
    u_28 := F28,
    i_29 := ⟨PySem.W.mg_of X G a29, k29, b29⟩,
    u_29 := F29,
    i_30 := ⟨PySem.W.mg_of X G a30, k30, b30⟩,
    u_30 := F30,
    i_31 := ⟨PySem.W.mg_of X G a31, k31, b31⟩,
    u_31 := F31,
    z_ValueError := PySem.W.mg_none_of X G z_ValueError,
    z_abs := PySem.W.mg_none_of X G z_abs,
    z_all := PySem.W.mg_none_of X G z_all,
    z_bool := PySem.W.mg_none_of X G z_bool,
    z_int := PySem.W.mg_none_of X G z_int,
    z_isinstance := PySem.W.mg_none_of X G z_isinstance,
    z_len := PySem.W.mg_none_of X G z_len,
    z_list := PySem.W.mg_none_of X G z_list,
    z_max := PySem.W.mg_none_of X G z_max,
    z_range := PySem.W.mg_none_of X G z_range,
    z_repr := PySem.W.mg_none_of X G z_repr,
    z_sorted := PySem.W.mg_none_of X G z_sorted,
    z_str := PySem.W.mg_none_of X G z_str,
    z_super := PySem.W.mg_none_of X G z_super,
    z_tuple := PySem.W.mg_none_of X G z_tuple,
    c_MAX_DEPTH := ⟨_, PySem.W.mg_of X G q_MAX_DEPTH⟩,
    c_MAX_SPANS := ⟨_, PySem.W.mg_of X G q_MAX_SPANS⟩,
    i_w := ⟨PySem.W.mg_of X G aw, kw, bw⟩,
    u_w := Fw,
    mm := PySem.W.mg_of X G ma,
    x_0 := ⟨⟨⟨_, _, _, _, _, _, _, _, _, _, _, _, _, _, _, xl0, xr0⟩, xs0, xx0, xy0, xk0⟩, xi0, xt0, ⟨_, _, _, _, _, _, _, _, _, _, _, _, _, _, _, rfl, fun _ => ⟨_, rfl⟩, fun _ => rfl, fun _ => rfl⟩, by decide, ⟨rfl, rfl, rfl, rfl, rfl, rfl, rfl, rfl, by decide +kernel, by decide +kernel, by decide, by decide, by decide⟩, ⟨_, rfl, rfl⟩, ⟨_, _, _, _, _, _, _, _, _, _, _, rfl, xf0, xc0, ⟨_, _, _, _, _, _, xo0, xv0, xq0⟩, _, _, _, xz0⟩, xu0, xb0, xw0, xn0, nopq, PySem.W.mg_none_of X G z_super, PySem.W.mg_none_of X G z_str, ntop⟩,
    xb_0 := fun us hl => match us, hl with | [_, _], _ => rfl,
    xf_0 := rfl,
    xm_0 := PySem.W.mg_of X G xa0,
    em_0 := PySem.W.exm_ref ms md mt mc0,
    xe_0 := ⟨ga0, gg0, xx0, gd0, gc0, gn0, gt0, go0⟩,
    xt_0 := ⟨ga0, gg0, xx0, gd0⟩,
    kv_0 := kv0,
    x_1 := ⟨⟨⟨_, _, _, _, _, _, _, _, _, _, _, _, _, _, _, xl1, xr1⟩, xs1, xx1, xy1, xk1⟩, xi1, xt1, ⟨_, _, _, _, _, _, _, _, _, _, _, _, _, _, _, rfl, fun _ => ⟨_, rfl⟩, fun _ => rfl, fun _ => rfl⟩, by decide, ⟨rfl, rfl, rfl, rfl, rfl, rfl, rfl, rfl, by decide +kernel, by decide +kernel, by decide, by decide, by decide⟩, ⟨_, rfl, rfl⟩, ⟨_, _, _, _, _, _, _, _, _, _, _, rfl, xf1, xc1, ⟨_, _, _, _, _, _, xo1, xv1, xq1⟩, _, _, _, xz1⟩, xu1, xb1, xw1, xn1, nopq, PySem.W.mg_none_of X G z_super, PySem.W.mg_none_of X G z_str, ntop⟩,
    xb_1 := fun us hl => match us, hl with | [_, _], _ => rfl,
    xf_1 := rfl,
    xm_1 := PySem.W.mg_of X G xa1,
    em_1 := PySem.W.exm_ref ms md mt mc1,
    xe_1 := ⟨ga1, gg1, xx1, gd1, gc1, gn1, gt1, go1⟩,
    xt_1 := ⟨ga1, gg1, xx1, gd1⟩,
    kv_1 := kv1,
    x_2 := ⟨⟨⟨_, _, _, _, _, _, _, _, _, _, _, _, _, _, _, xl2, xr2⟩, xs2, xx2, xy2, xk2⟩, xi2, xt2, ⟨_, _, _, _, _, _, _, _, _, _, _, _, _, _, _, rfl, fun _ => ⟨_, rfl⟩, fun _ => rfl, fun _ => rfl⟩, by decide, ⟨rfl, rfl, rfl, rfl, rfl, rfl, rfl, rfl, by decide +kernel, by decide +kernel, by decide, by decide, by decide⟩, ⟨_, rfl, rfl⟩, ⟨_, _, _, _, _, _, _, _, _, _, _, rfl, xf2, xc2, ⟨_, _, _, _, _, _, xo2, xv2, xq2⟩, _, _, _, xz2⟩, xu2, xb2, xw2, xn2, nopq, PySem.W.mg_none_of X G z_super, PySem.W.mg_none_of X G z_str, ntop⟩,
    xb_2 := fun us hl => match us, hl with | [_, _], _ => rfl,
    xf_2 := rfl,
    xm_2 := PySem.W.mg_of X G xa2,
    em_2 := PySem.W.exm_ref ms md mt mc2,
    xe_2 := ⟨ga2, gg2, xx2, gd2, gc2, gn2, gt2, go2⟩,
    xt_2 := ⟨ga2, gg2, xx2, gd2⟩,
    kv_2 := kv2,
    x_3 := ⟨⟨⟨_, _, _, _, _, _, _, _, _, _, _, _, _, _, _, xl3, xr3⟩, xs3, xx3, xy3, xk3⟩, xi3, xt3, ⟨_, _, _, _, _, _, _, _, _, _, _, _, _, _, _, rfl, fun _ => ⟨_, rfl⟩, fun _ => rfl, fun _ => rfl⟩, by decide, ⟨rfl, rfl, rfl, rfl, rfl, rfl, rfl, rfl, by decide +kernel, by decide +kernel, by decide, by decide, by decide⟩, ⟨_, rfl, rfl⟩, ⟨_, _, _, _, _, _, _, _, _, _, _, rfl, xf3, xc3, ⟨_, _, _, _, _, _, xo3, xv3, xq3⟩, _, _, _, xz3⟩, xu3, xb3, xw3, xn3, nopq, PySem.W.mg_none_of X G z_super, PySem.W.mg_none_of X G z_str, ntop⟩,
    xb_3 := fun us hl => match us, hl with | [_, _], _ => rfl,
    xf_3 := rfl,
    xm_3 := PySem.W.mg_of X G xa3,
    em_3 := PySem.W.exm_ref ms md mt mc3,
    xe_3 := ⟨ga3, gg3, xx3, gd3, gc3, gn3, gt3, go3⟩,
    xt_3 := ⟨ga3, gg3, xx3, gd3⟩,
    kv_3 := kv3,
    kt_1_0 := kt1_0,
    kt_1_1 := kt1_1,
    kt_1_2 := kt1_2,
    kt_1_3 := kt1_3,
    kt_2_0 := kt2_0,
    kt_2_1 := kt2_1,
    kt_2_2 := kt2_2,
    kt_2_3 := kt2_3 }
  exact ⟨_, T, fun s v => .of_eq rfl, fun base _ _ => (al Z 40).g_31⟩
end K40
set_option Elab.async false
set_option linter.all false
set_option maxRecDepth 100000
set_option maxHeartbeats 1000000
namespace K40
open Fz
inductive Tr where
  | leaf (i : Int) | node (a b : Tr)
def Tr.d : Tr → D
  | .leaf i => .int i
  | .node a b => .tup [a.d, b.d]
def Tr.dep : Tr → Nat
  | .leaf _ => 0
  | .node a b => max a.dep b.dep + 1
def nd (a b : Int) : Int := if a = b then a + 1 else if b > a then b else a
def Tr.need : Tr → Int
  | .leaf _ => 1
  | .node a b => nd a.need b.need
theorem s0i {k : Nat} {i : Int} {h : Hh} : run (k + 1) 0 [.d (.int i)] h = .ok (.d (.bl true)) h := by
  rw [run_0]; simp [mkFn, c_0, isD]
theorem s0t {k : Nat} {l : List D} {h : Hh} : run (k + 1) 0 [.d (.tup l)] h = .ok (.d (.bl false)) h := by
  rw [run_0]; simp [mkFn, c_0, isD]
theorem p0i {k : Nat} {i : Int} {h : Hh} : pure' (run (k + 1) 0) [.d (.int i)] h = .ok (.d (.bl true)) h := pure_ok rfl s0i
theorem p0t {k : Nat} {l : List D} {h : Hh} : pure' (run (k + 1) 0) [.d (.tup l)] h = .ok (.d (.bl false)) h := pure_ok rfl s0t
theorem ix0 {a b : D} {h : Hh} : opIx (.d (.tup [a, b])) (.d (.int 0)) h = .ok (.d a) h := rfl
theorem ix1 {a b : D} {h : Hh} : opIx (.d (.tup [a, b])) (.d (.int 1)) h = .ok (.d b) h := rfl
theorem s1 : ∀ (t : Tr) (n k : Nat) (h : Hh), t.dep ≤ n → t.dep + 2 ≤ k → run k 1 [.d t.d, .d (.int n)] h = .ok (.d (.bl true)) h
  | .leaf i, n, k + 2, h, _, _ => by
    rw [run_1]; simp [mkFn, c_1, Tr.d, p0i]
  | .node a b, n, k + 2, h, hn, hk => by
    simp only [Tr.dep] at hn hk
    have e1 := s1 a (n - 1) (k + 1) [] (by omega) (by omega)
    have e2 := s1 b (n - 1) (k + 1) [] (by omega) (by omega)
    have hn0 : ((n : Int) == 0) = false := by simp; omega
    have hs : ((n : Int) - 1) = ((n - 1 : Nat) : Int) := by omega
    rw [run_1]
    simp [mkFn, c_1, Tr.d, p0t, isD, hn0, ix0, ix1, hs, pure_ok rfl e1, pure_ok rfl e2]
  | .leaf i, n, 0, h, _, hk => by simp [Tr.dep] at hk
  | .leaf i, n, 1, h, _, hk => by simp [Tr.dep] at hk
  | .node a b, n, 0, h, _, hk => by simp [Tr.dep] at hk
  | .node a b, n, 1, h, _, hk => by simp [Tr.dep] at hk
theorem p1 {t : Tr} {n k : Nat} {h : Hh} (h1 : t.dep ≤ n) (h2 : t.dep + 2 ≤ k) : pure' (run k 1) [.d t.d, .d (.int n)] h = .ok (.d (.bl true)) h := pure_ok rfl (s1 t n k [] h1 h2)
theorem s2 {t : Tr} {k : Nat} {h : Hh} (h1 : t.dep ≤ 12) (h2 : t.dep + 3 ≤ k) : run k 2 [.d t.d] h = .ok (.d .non) h := by
  obtain ⟨k, rfl⟩ : ∃ j, k = j + 1 := ⟨k - 1, by omega⟩
  rw [run_2]
  have q : pure' (run k 1) [.d t.d, .d (.int 12)] h = .ok (.d (.bl true)) h := p1 (t := t) (n := 12) (k := k) (h := h) h1 (by omega)
  simp [mkFn, c_2, q]
theorem p2 {t : Tr} {k : Nat} {h : Hh} (h1 : t.dep ≤ 12) (h2 : t.dep + 3 ≤ k) : pure' (run k 2) [.d t.d] h = .ok (.d .non) h := pure_ok rfl (s2 h1 h2)
theorem s3 : ∀ (t : Tr) (k : Nat) (h : Hh), t.dep + 1 ≤ k → run k 3 [.d t.d] h = .ok (.d (.int t.need)) h
  | .leaf i, k + 1, h, _ => by
    rw [run_3]; simp [mkFn, c_3, Tr.d, isD, Tr.need]
  | .node a b, k + 1, h, hk => by
    simp only [Tr.dep] at hk
    have e1 := s3 a k [] (by omega)
    have e2 := s3 b k [] (by omega)
    rw [run_3]
    by_cases q : a.need = b.need <;> simp [mkFn, c_3, Tr.d, isD, Tr.need, ix0, ix1, pure_ok rfl e1, pure_ok rfl e2, nd, q]
  | .leaf i, 0, h, hk => by omega
  | .node a b, 0, h, hk => by omega
theorem p3 {t : Tr} {k : Nat} {h : Hh} (h2 : t.dep + 1 ≤ k) : pure' (run k 3) [.d t.d] h = .ok (.d (.int t.need)) h := pure_ok rfl (s3 t k [] h2)
theorem s4 {t : Tr} {k : Nat} {h : Hh} (h1 : t.dep ≤ 12) (h2 : t.dep + 4 ≤ k) : run k 4 [.d t.d] h = .ok (.d (.int t.need)) h := by
  obtain ⟨k, rfl⟩ : ∃ j, k = j + 1 := ⟨k - 1, by omega⟩
  rw [run_4]
  simp [mkFn, c_4, p2 (t := t) (k := k) h1 (by omega), p3 (t := t) (k := k) (by omega)]
/-- the told deeds -/
def row3 (r : Int) (v : D) : D := .tup [.str [108, 111, 97, 100], .int r, v]
def row4 (r a b : Int) : D := .tup [.str [106, 111, 105, 110], .int r, .int a, .int b]
def Tr.deeds : Tr → Int → List D
  | .leaf i, f => [row3 f (.int i)]
  | .node a b, f => if a.need < b.need then b.deeds f ++ a.deeds (f + 1) ++ [row4 f (f + 1) f] else a.deeds f ++ b.deeds (f + 1) ++ [row4 f f (f + 1)]
def Tr.size : Tr → Nat
  | .leaf _ => 1
  | .node a b => a.size + b.size + 1
theorem deeds_len : ∀ (t : Tr) (f : Int), (t.deeds f).length = t.size
  | .leaf _, _ => rfl
  | .node a b, f => by
    unfold Tr.deeds Tr.size
    split <;> simp [deeds_len a, deeds_len b] <;> omega
theorem size_le : ∀ t : Tr, t.size + 1 ≤ 2 ^ (t.dep + 1)
  | .leaf _ => by simp [Tr.size, Tr.dep]
  | .node a b => by
    have h1 := size_le a
    have h2 := size_le b
    have m1 : 2 ^ (a.dep + 1) ≤ 2 ^ (max a.dep b.dep + 1) := Nat.pow_le_pow_right (by decide) (by omega)
    have m2 : 2 ^ (b.dep + 1) ≤ 2 ^ (max a.dep b.dep + 1) := Nat.pow_le_pow_right (by decide) (by omega)
    simp only [Tr.size, Tr.dep]
    rw [Nat.pow_succ 2 (max a.dep b.dep + 1)]
    omega
theorem size_small {t : Tr} (h : t.dep ≤ 12) : t.size ≤ 8191 := by
  have := size_le t
  have : 2 ^ (t.dep + 1) ≤ 2 ^ 13 := Nat.pow_le_pow_right (by decide) (by omega)
  omega
theorem need_pos : ∀ t : Tr, 1 ≤ t.need
  | .leaf _ => by simp [Tr.need]
  | .node a b => by
    have := need_pos a
    have := need_pos b
    simp only [Tr.need, nd]
    split
    · omega
    · split <;> omega
theorem need_le : ∀ t : Tr, t.need ≤ t.dep + 1
  | .leaf _ => by simp [Tr.need, Tr.dep]
  | .node a b => by
    have := need_le a
    have := need_le b
    simp only [Tr.need, nd, Tr.dep]
    split
    · omega
    · split <;> omega
/-- registers f, f + 1, .. -/
def free (f : Int) (n : Nat) : List D := (List.range n).map fun (i : Nat) => .int (f + i)
theorem free_get {f : Int} {n j : Nat} (h : j < n) : (free f n)[j]? = some (.int (f + j)) := by
  simp [free, List.getElem?_map, List.getElem?_range h]
theorem free_drop {f : Int} {n : Nat} : (free f (n + 1)).drop 1 = free (f + 1) n := by
  unfold free
  rw [List.range_succ_eq_map, List.map_cons, List.map_map]
  simp only [List.drop_succ_cons, List.drop_zero]
  refine List.map_congr_left fun i _ => ?_
  simp only [Function.comp]
  congr 1
  omega
theorem fr0 {f : Int} {n : Nat} {h : Hh} : opIx (.d (.lst (free f (n + 1)))) (.d (.int 0)) h = .ok (.d (.int f)) h := by
  have := ix_l (l := free f (n + 1)) (j := 0) (h := h) (free_get (by omega))
  simpa using this
theorem fr1 {f : Int} {n : Nat} {h : Hh} : opIx (.d (.lst (free f (n + 2)))) (.d (.int 1)) h = .ok (.d (.int (f + 1))) h := by
  have := ix_l (l := free f (n + 2)) (j := 1) (h := h) (free_get (by omega))
  simpa using this
theorem frS {f : Int} {n : Nat} {h : Hh} (hn : n ≤ 16777216) : opSl false (.d (.lst (free f (n + 1)))) (some 1) none h = .ok (.d (.lst (free (f + 1) n))) h := by
  have e : cut ((free f (n + 1)).map W.d) (some 1) none = (free (f + 1) n).map .d := by
    have := cut_from (l := (free f (n + 1)).map W.d) (j := 1) (by simp [free])
    rw [← List.map_drop, free_drop] at this
    exact this
  simp only [opSl, lstW, e, fin, mkL, allD_map]
  rw [if_neg Bool.false_ne_true, if_pos (by simp [free]; exact hn)]
theorem addL {a b : List D} {h : Hh} (hl : (a ++ b).length ≤ 16777216) : opAdd false (.d (.lst a)) (.d (.lst b)) h = .ok (.d (.lst (a ++ b))) h := by
  simp only [opAdd, lstW, ← List.map_append, fin, mkL, allD_map]
  rw [if_neg Bool.false_ne_true, if_pos hl]
theorem mkT_d {l : List D} {h : Hh} (hl : l.length ≤ 16777216) : mkT (l.map .d) h = .ok (.d (.tup l)) h := by
  unfold mkT; rw [allD_map]; dsimp only; rw [if_pos hl]
theorem s5 : ∀ (t : Tr) (f : Int) (n k : Nat) (h : Hh), t.dep ≤ 12 → t.need ≤ n → n ≤ 100 → t.dep + 2 ≤ k → run k 5 [.d t.d, .d (.lst (free f n))] h = .ok (.d (.lst (t.deeds f))) h
  | .leaf i, f, n, k + 1, h, _, hn, hb, hk => by
    simp only [Tr.need] at hn
    obtain ⟨n, rfl⟩ : ∃ j, n = j + 1 := ⟨n - 1, by omega⟩
    rw [run_5]
    simp [mkFn, c_5, Tr.d, isD, fr0, mkT, mkL, Tr.deeds, row3]
  | .node a b, f, n, k + 1, h, hd, hn, hb, hk => by
    simp only [Tr.dep] at hk hd
    have pa := need_pos a
    have pb := need_pos b
    have na := p3 (t := a) (k := k) (h := h) (by omega)
    have nb := p3 (t := b) (k := k) (h := h) (by omega)
    have sz := size_small (t := .node a b) (by simp only [Tr.dep]; omega)
    simp only [Tr.size] at sz
    rw [run_5]
    by_cases q : a.need < b.need
    · have hn' : b.need ≤ n ∧ a.need + 1 ≤ n := by
        simp only [Tr.need, nd] at hn
        rw [if_neg (by omega), if_pos q] at hn
        omega
      obtain ⟨n, rfl⟩ : ∃ j, n = j + 2 := ⟨n - 2, by omega⟩
      have e1 := pure_ok (h := h) rfl (s5 b f (n + 2) k [] (by omega) hn'.1 hb (by omega))
      have e2 := pure_ok (h := h) rfl (s5 a (f + 1) (n + 1) k [] (by omega) (by omega) (by omega) (by omega))
      have l1 := addL (a := b.deeds f) (b := a.deeds (f + 1)) (h := h) (by simp [deeds_len]; omega)
      have l2 := addL (a := b.deeds f ++ a.deeds (f + 1)) (b := [row4 f (f + 1) f]) (h := h) (by simp [deeds_len]; omega)
      simp only [row4, List.append_assoc] at l2
      simp [mkFn, c_5, Tr.d, isD, na, nb, q, fr0, fr1, cSl, oS, oN, frS, e1, e2, l1, l2, mkT, mkL, Tr.deeds, row4, show n + 1 ≤ 16777216 by omega, show ¬ b.need ≤ a.need by omega]
    · have hn' : a.need ≤ n ∧ b.need + 1 ≤ n := by
        simp only [Tr.need, nd] at hn
        by_cases q2 : a.need = b.need
        · rw [if_pos q2] at hn; omega
        · rw [if_neg q2, if_neg q] at hn; omega
      obtain ⟨n, rfl⟩ : ∃ j, n = j + 2 := ⟨n - 2, by omega⟩
      have e1 := pure_ok (h := h) rfl (s5 a f (n + 2) k [] (by omega) hn'.1 hb (by omega))
      have e2 := pure_ok (h := h) rfl (s5 b (f + 1) (n + 1) k [] (by omega) (by omega) (by omega) (by omega))
      have l1 := addL (a := a.deeds f) (b := b.deeds (f + 1)) (h := h) (by simp [deeds_len]; omega)
      have l2 := addL (a := a.deeds f ++ b.deeds (f + 1)) (b := [row4 f f (f + 1)]) (h := h) (by simp [deeds_len]; omega)
      simp only [row4, List.append_assoc] at l2
      simp [mkFn, c_5, Tr.d, isD, na, nb, q, fr0, fr1, cSl, oS, oN, frS, e1, e2, l1, l2, mkT, mkL, Tr.deeds, row4, show n + 1 ≤ 16777216 by omega, show b.need ≤ a.need by omega]
  | .leaf i, f, n, 0, h, _, hn, hb, hk => by omega
  | .node a b, f, n, 0, h, _, hn, hb, hk => by omega
theorem s6 {t : Tr} {k : Nat} {h : Hh} (h1 : t.dep ≤ 12) (h2 : t.dep + 4 ≤ k) : run k 6 [.d t.d] h = .ok (.d (.tup (t.deeds 0))) h := by
  obtain ⟨k, rfl⟩ : ∃ j, k = j + 1 := ⟨k - 1, by omega⟩
  have nl := need_le t
  have np := need_pos t
  rw [run_6]
  have e3 := p3 (t := t) (k := k) (h := h) (by omega)
  have ef : lrg false [.d (.int t.need)] h = .ok (.d (.lst (free 0 t.need.toNat))) h := by
    unfold lrg
    dsimp only
    rw [if_pos (by omega)]
    have : ((List.range t.need.toNat).map fun (i : Nat) => W.d (D.int i)) = (free 0 t.need.toNat).map .d := by
      unfold free; rw [List.map_map]; refine List.map_congr_left fun i _ => ?_; simp
    rw [this]
    simp only [fin, mkL, allD_map]
    rw [if_neg Bool.false_ne_true, if_pos (by simp [free]; omega)]
  have e5 := pure_ok (h := h) rfl (s5 t 0 t.need.toNat k [] h1 (by omega) (by omega) (by omega))
  have sz := size_small h1
  have et : biTuple [.d (.lst (t.deeds 0))] h = .ok (.d (.tup (t.deeds 0))) h := by
    show (match lstW (.d (.lst (t.deeds 0))) h with
      | some l => mkT l h
      | none => .no) = _
    simp only [lstW]
    exact mkT_d (by rw [deeds_len]; omega)
  simp [mkFn, c_6, p2 (t := t) (k := k) h1 (by omega), cLr, e3, ef, e5, et]
/-! ### running deeds -/
theorem eq_ll {h : Hh} : opEq false (.d (.str [108, 111, 97, 100])) (.d (.str [108, 111, 97, 100])) h = .ok (.d (.bl true)) h := rfl
theorem eq_jl {h : Hh} : opEq false (.d (.str [106, 111, 105, 110])) (.d (.str [108, 111, 97, 100])) h = .ok (.d (.bl false)) h := rfl
theorem eq_jj {h : Hh} : opEq false (.d (.str [106, 111, 105, 110])) (.d (.str [106, 111, 105, 110])) h = .ok (.d (.bl true)) h := rfl
theorem in3 {h : Hh} : opIn true (.d (.int 3)) (.d (.tup [.int 3, .int 4])) h = .ok (.d (.bl false)) h := rfl
theorem in4 {h : Hh} : opIn true (.d (.int 4)) (.d (.tup [.int 3, .int 4])) h = .ok (.d (.bl false)) h := rfl
theorem t30 {a b c : D} {h : Hh} : opIx (.d (.tup [a, b, c])) (.d (.int 0)) h = .ok (.d a) h := rfl
theorem t31 {a b c : D} {h : Hh} : opIx (.d (.tup [a, b, c])) (.d (.int 1)) h = .ok (.d b) h := rfl
theorem t32 {a b c : D} {h : Hh} : opIx (.d (.tup [a, b, c])) (.d (.int 2)) h = .ok (.d c) h := rfl
theorem t40 {a b c d : D} {h : Hh} : opIx (.d (.tup [a, b, c, d])) (.d (.int 0)) h = .ok (.d a) h := rfl
theorem t41 {a b c d : D} {h : Hh} : opIx (.d (.tup [a, b, c, d])) (.d (.int 1)) h = .ok (.d b) h := rfl
theorem t42 {a b c d : D} {h : Hh} : opIx (.d (.tup [a, b, c, d])) (.d (.int 2)) h = .ok (.d c) h := rfl
theorem t43 {a b c d : D} {h : Hh} : opIx (.d (.tup [a, b, c, d])) (.d (.int 3)) h = .ok (.d d) h := rfl
theorem all3 {k : Nat} {i j : Int} {e0 e1 e2 x4 x5 : Option W} {r : D} {h : Hh} : cLc false [4] (cIt (cSl false (cv 3) (oS (cc (.int 1))) oN)) (yN (tN 4)) bYes (cCall true 1 (run (k + 1) 0) (aCons (cv 4) aNil)) [e0, e1, e2, some (.d (.tup [r, .int i, .int j])), x4, x5] h = .ok (.d (.lst [.bl true, .bl true])) h := by
  rw [cLc_fix (l := [.w (.d (.int i)), .w (.d (.int j))]) (h' := h) (by rfl)]
  simp [lcL, ew, yN, yw, bYes, p0i, noX, fin, mkL]
theorem all4 {k : Nat} {i j l : Int} {e0 e1 e2 x4 x5 : Option W} {r : D} {h : Hh} : cLc false [4] (cIt (cSl false (cv 3) (oS (cc (.int 1))) oN)) (yN (tN 4)) bYes (cCall true 1 (run (k + 1) 0) (aCons (cv 4) aNil)) [e0, e1, e2, some (.d (.tup [r, .int i, .int j, .int l])), x4, x5] h = .ok (.d (.lst [.bl true, .bl true, .bl true])) h := by
  rw [cLc_fix (l := [.w (.d (.int i)), .w (.d (.int j)), .w (.d (.int l))]) (h' := h) (by rfl)]
  simp [lcL, ew, yN, yw, bYes, p0i, noX, fin, mkL]
theorem alls2 {h : Hh} : biAll [.d (.lst [.bl true, .bl true])] h = .ok (.d (.bl true)) h := rfl
theorem alls3 {h : Hh} : biAll [.d (.lst [.bl true, .bl true, .bl true])] h = .ok (.d (.bl true)) h := rfl
theorem row_load {k m f n : Nat} {i : Int} {g : List W} {T : Option W} {x4 x5 : Option W} {h : Hh} (hn : h[n]? = some (.lst g)) (hf : f < m) (hm : g.length = m) :
    c_8_0 (run (k + 1)) [some (.d (.int m)), T, some (.r n), some (.d (row3 f (.int i))), x4, x5] h = .nx [some (.d (.int m)), T, some (.r n), some (.d (row3 f (.int i))), x4, x5] (h.set n (.lst (g.set f (.d (.int i))))) := by
  simp [c_8_0, row3, isD, mkT, in3, all3, alls2, cch, t30, t31, t32, eq_ll, set_r hn (show f < g.length by omega), hf]
theorem sh_d : ∀ (t : Tr) (n : Nat), t.dep ≤ n → sh n t.d = true
  | .leaf _, n, _ => by cases n <;> rfl
  | .node a b, 0, h => by simp [Tr.dep] at h
  | .node a b, n + 1, h => by
    simp only [Tr.dep] at h
    simp [Tr.d, sh, sh_d a n (by omega), sh_d b n (by omega)]
theorem eqv_non : ∀ t : Tr, D.eqv t.d .non = false
  | .leaf _ => rfl
  | .node _ _ => rfl
theorem none_no {a b : Tr} {h : Hh} (ha : a.dep ≤ 12) (hb : b.dep ≤ 12) : opIn false (.d .non) (.d (.tup [a.d, b.d])) h = .ok (.d (.bl false)) h := by
  simp [opIn, valD, D.items, sh, sh_d a 63 (by omega), sh_d b 63 (by omega), eqv_non]
theorem row_join {k m f n p q : Nat} {a b : Tr} {g : List W} {T : Option W} {x4 x5 : Option W} {h : Hh} (hn : h[n]? = some (.lst g)) (hf : f < m) (hp : g[p]? = some (.d a.d)) (hq : g[q]? = some (.d b.d)) (hm : g.length = m) (ha : (Tr.node a b).dep ≤ 12) (hk : 14 ≤ k) :
    c_8_0 (run (k + 1)) [some (.d (.int m)), T, some (.r n), some (.d (row4 f p q)), x4, x5] h = .nx [some (.d (.int m)), T, some (.r n), some (.d (row4 f p q)), x4, some (.d (.tup [a.d, b.d]))] (h.set n (.lst (g.set f (.d (.tup [a.d, b.d]))))) := by
  have hp' := (List.getElem?_eq_some_iff.mp hp).1
  have hq' := (List.getElem?_eq_some_iff.mp hq).1
  simp only [Tr.dep] at ha
  have e1 : pure' (run (k + 1) 1) [.d (.tup [a.d, b.d]), .d (.int 12)] h = .ok (.d (.bl true)) h := p1 (t := .node a b) (n := 12) (k := k + 1) (h := h) (by simp only [Tr.dep]; omega) (by simp only [Tr.dep]; omega)
  simp [c_8_0, row4, isD, mkT, in4, all4, alls3, cch, t40, t41, t42, t43, eq_jl, eq_jj, set_r hn (show f < g.length by omega), hf, show p < m by omega, show q < m by omega, ix_r hn hp, ix_r hn hq, none_no (a := a) (b := b) (by omega) (by omega), e1]
/-- registers behind the deeds -/
def Tr.ex : Tr → Nat → List W → List W
  | .leaf i, f, g => g.set f (.d (.int i))
  | .node a b, f, g => (if a.need < b.need then a.ex (f + 1) (b.ex f g) else b.ex (f + 1) (a.ex f g)).set f (.d (.tup [a.d, b.d]))
theorem ex_len : ∀ (t : Tr) (f : Nat) (g : List W), (t.ex f g).length = g.length
  | .leaf _, f, g => by simp [Tr.ex]
  | .node a b, f, g => by
    unfold Tr.ex
    rw [List.length_set]
    split
    · rw [ex_len a, ex_len b]
    · rw [ex_len b, ex_len a]
theorem ex_low : ∀ (t : Tr) (f j : Nat) (g : List W), j < f → (t.ex f g)[j]? = g[j]?
  | .leaf _, f, j, g, h => by
    unfold Tr.ex
    exact List.getElem?_set_ne (by omega)
  | .node a b, f, j, g, h => by
    unfold Tr.ex
    rw [List.getElem?_set_ne (by omega)]
    split
    · rw [ex_low a _ _ _ (by omega), ex_low b _ _ _ h]
    · rw [ex_low b _ _ _ (by omega), ex_low a _ _ _ h]
theorem ex_at : ∀ (t : Tr) (f : Nat) (g : List W), f < g.length → (t.ex f g)[f]? = some (.d t.d)
  | .leaf _, f, g, h => by
    unfold Tr.ex
    rw [List.getElem?_set_self h]
    rfl
  | .node a b, f, g, h => by
    unfold Tr.ex
    have : f < (if a.need < b.need then a.ex (f + 1) (b.ex f g) else b.ex (f + 1) (a.ex f g)).length := by
      split
      · rw [ex_len, ex_len]; exact h
      · rw [ex_len, ex_len]; exact h
    rw [List.getElem?_set_self this]
    rfl
def ys (l : List D) : List Y := l.map fun x => .w (.d x)
theorem run8 {k m n : Nat} {T : Option W} (hk : 14 ≤ k) : ∀ (t : Tr) (f : Nat) (g : List W) (h : Hh) (x3 x4 x5 : Option W), t.dep ≤ 12 → h[n]? = some (.lst g) → g.length = m → (f : Int) + t.need ≤ m →
    ∃ y3 y5, forK (yN (tN 3)) (c_8_0 (run (k + 1))) (ys (t.deeds f)) [some (.d (.int m)), T, some (.r n), x3, x4, x5] h = .nx [some (.d (.int m)), T, some (.r n), y3, x4, y5] (h.set n (.lst (t.ex f g)))
  | .leaf i, f, g, h, x3, x4, x5, hd, hn, hm, hf => by
    simp only [Tr.need] at hf
    refine ⟨some (.d (row3 f (.int i))), x5, ?_⟩
    exact forK_one (by simp [ys, yN, yw]) (row_load hn (by omega) hm)
  | .node a b, f, g, h, x3, x4, x5, hd, hn, hm, hf => by
    have hd' := hd
    simp only [Tr.dep] at hd
    have pa := need_pos a
    have pb := need_pos b
    have hl : n < h.length := (List.getElem?_eq_some_iff.mp hn).1
    unfold Tr.deeds Tr.ex
    by_cases q : a.need < b.need
    · have hn' : (f : Int) + b.need ≤ m ∧ (f : Int) + 1 + a.need ≤ m := by
        simp only [Tr.need, nd] at hf
        rw [if_neg (by omega), if_pos q] at hf
        omega
      rw [if_pos q, if_pos q]
      obtain ⟨y3, y5, e1⟩ := run8 (m := m) (n := n) (T := T) hk b f g h x3 x4 x5 (by omega) hn hm hn'.1
      obtain ⟨z3, z5, e2⟩ := run8 (m := m) (n := n) (T := T) hk a (f + 1) (b.ex f g) (h.set n (.lst (b.ex f g))) y3 x4 y5 (by omega) (by rw [List.getElem?_set_self hl]) (by simpa [ex_len] using hm) (by push_cast; omega)
      rw [List.set_set] at e2
      have e3 := row_join (k := k) (m := m) (f := f) (n := n) (p := f + 1) (q := f) (a := a) (b := b) (g := a.ex (f + 1) (b.ex f g)) (T := T) (x4 := x4) (x5 := z5) (h := h.set n (.lst (a.ex (f + 1) (b.ex f g)))) (by rw [List.getElem?_set_self hl]) (by omega)
        (ex_at a _ _ (by rw [ex_len, hm]; omega)) (by rw [ex_low a _ _ _ (by omega)]; exact ex_at b _ _ (by omega)) (by rw [ex_len, ex_len]; exact hm) hd' hk
      rw [List.set_set] at e3
      refine ⟨some (.d (row4 f (f + 1) f)), some (.d (.tup [a.d, b.d])), ?_⟩
      unfold ys at e1 e2 ⊢
      rw [List.map_append, List.map_append, forK_app, forK_app, e1, SR.bind_nx]
      push_cast at e2 e3
      rw [e2, SR.bind_nx]
      exact forK_one (by simp [yN, yw]) e3
    · have hn' : (f : Int) + a.need ≤ m ∧ (f : Int) + 1 + b.need ≤ m := by
        simp only [Tr.need, nd] at hf
        by_cases q2 : a.need = b.need
        · rw [if_pos q2] at hf; omega
        · rw [if_neg q2, if_neg q] at hf; omega
      rw [if_neg q, if_neg q]
      obtain ⟨y3, y5, e1⟩ := run8 (m := m) (n := n) (T := T) hk a f g h x3 x4 x5 (by omega) hn hm hn'.1
      obtain ⟨z3, z5, e2⟩ := run8 (m := m) (n := n) (T := T) hk b (f + 1) (a.ex f g) (h.set n (.lst (a.ex f g))) y3 x4 y5 (by omega) (by rw [List.getElem?_set_self hl]) (by simpa [ex_len] using hm) (by push_cast; omega)
      rw [List.set_set] at e2
      have e3 := row_join (k := k) (m := m) (f := f) (n := n) (p := f) (q := f + 1) (a := a) (b := b) (g := b.ex (f + 1) (a.ex f g)) (T := T) (x4 := x4) (x5 := z5) (h := h.set n (.lst (b.ex (f + 1) (a.ex f g)))) (by rw [List.getElem?_set_self hl]) (by omega)
        (by rw [ex_low b _ _ _ (by omega)]; exact ex_at a _ _ (by omega)) (ex_at b _ _ (by rw [ex_len, hm]; omega)) (by rw [ex_len, ex_len]; exact hm) hd' hk
      rw [List.set_set] at e3
      refine ⟨some (.d (row4 f f (f + 1))), some (.d (.tup [a.d, b.d])), ?_⟩
      unfold ys at e1 e2 ⊢
      rw [List.map_append, List.map_append, forK_app, forK_app, e1, SR.bind_nx]
      push_cast at e2 e3
      rw [e2, SR.bind_nx]
      exact forK_one (by simp [yN, yw]) e3
def nones (m : Nat) : List W := List.replicate m (.d .non)
theorem mul_nones {m : Nat} {h : Hh} (hm : m ≤ 100) : opMul true (.r h.length) (.d (.int m)) (h ++ [.lst [.d .non]]) = .ok (.r (h.length + 1)) (h ++ [.lst [.d .non], .lst (nones m)]) := by
  have e : (List.replicate m [W.d D.non]).flatten = nones m := by
    unfold nones
    induction m with
    | zero => rfl
    | succ m ih => rw [List.replicate_succ, List.flatten_cons, ih (by omega)]; rfl
  simp [opMul, fin, mkM, e, nones, show (m : Int) < 9223372036854775808 by omega, show -(9223372036854775808 : Int) ≤ m by omega, show m ≤ 16777216 by omega]
/-- run_of: the list of what the registers have is the second of two new things -/
theorem s8 {t : Tr} {k m : Nat} {h : Hh} (hd : t.dep ≤ 12) (hm : (m : Int) = t.need) (hk : 15 ≤ k) : run (k + 1) 8 [.d (.int m), .d (.tup (t.deeds 0))] h = .ok (.r (h.length + 1)) (h ++ [.lst [.d .non], .lst (t.ex 0 (nones m))]) := by
  have nl := need_le t
  obtain ⟨k, rfl⟩ : ∃ j, k = j + 1 := ⟨k - 1, by omega⟩
  obtain ⟨y3, y5, e⟩ := run8 (k := k) (m := m) (n := h.length + 1) (T := some (.d (.tup (t.deeds 0)))) (by omega) t 0 (nones m) (h ++ [.lst [.d .non], .lst (nones m)]) none none none hd (by simp) (by simp [nones]) (by omega)
  have es : sFor (cIt (cv 1)) (yN (tN 3)) (c_8_0 (run (k + 1))) [some (.d (.int m)), some (.d (.tup (t.deeds 0))), some (.r (h.length + 1)), none, none, none] (h ++ [.lst [.d .non], .lst (nones m)]) = _ := sFor_K (l := ys (t.deeds 0)) (h' := h ++ [.lst [.d .non], .lst (nones m)]) rfl
  change forK (yN (tN 3)) (c_8_0 (run (k + 1))) (ys (t.deeds 0)) _ _ = _ at e
  rw [e] at es
  rw [run_8]
  simp [mkFn, c_8, isD, mkM, mul_nones (show m ≤ 100 by omega), es, unbk]
def Tr.exD : Tr → Nat → List D → List D
  | .leaf i, f, g => g.set f (.int i)
  | .node a b, f, g => (if a.need < b.need then a.exD (f + 1) (b.exD f g) else b.exD (f + 1) (a.exD f g)).set f (.tup [a.d, b.d])
theorem ex_map : ∀ (t : Tr) (f : Nat) (g : List D), t.ex f (g.map .d) = (t.exD f g).map .d
  | .leaf i, f, g => by simp [Tr.ex, Tr.exD, List.map_set]
  | .node a b, f, g => by
    unfold Tr.ex Tr.exD
    split
    · rw [ex_map b, ex_map a, List.map_set]
    · rw [ex_map a, ex_map b, List.map_set]
theorem nones_map (m : Nat) : nones m = (List.replicate m D.non).map .d := by simp [nones]
/-- what the registers have -/
def Tr.regs (t : Tr) : List D := t.exD 0 (List.replicate t.need.toNat .non)
theorem exD_len (t : Tr) (f : Nat) (g : List D) : (t.exD f g).length = g.length := by
  have := ex_len t f (g.map .d)
  rw [ex_map] at this
  simpa using this
theorem regs_eq {t : Tr} {m : Nat} (hm : (m : Int) = t.need) : t.ex 0 (nones m) = t.regs.map .d := by
  have e : t.need.toNat = m := by omega
  rw [nones_map, ex_map]
  unfold Tr.regs
  rw [e]
theorem regs_at {t : Tr} : t.regs[0]? = some t.d := by
  have np := need_pos t
  have := ex_at t 0 (nones t.need.toNat) (by simp [nones]; omega)
  rw [regs_eq (by omega), List.getElem?_map, Option.map_eq_some_iff] at this
  obtain ⟨x, h1, h2⟩ := this
  cases h2
  exact h1
theorem regs_len {t : Tr} : t.regs.length = t.need.toNat := by simp [Tr.regs, exD_len]
theorem tup_r {n : Nat} {l : List D} {h : Hh} (hn : h[n]? = some (.lst (l.map .d))) (hl : l.length ≤ 16777216) : biTuple [.r n] h = .ok (.d (.tup l)) h := by
  show (match lstW (.r n) h with
    | some l => mkT l h
    | none => .no) = _
  simp only [lstW, hn]
  exact mkT_d hl
theorem s7 {t : Tr} {k m : Nat} {h : Hh} (hd : t.dep ≤ 12) (hm : (m : Int) = t.need) (hk : 16 ≤ k) : run (k + 1) 7 [.d (.int m), .d (.tup (t.deeds 0))] h = .ok (.d (.tup t.regs)) (h ++ [.lst [.d .non], .lst (t.regs.map .d)]) := by
  have nl := need_le t
  obtain ⟨k, rfl⟩ : ∃ j, k = j + 1 := ⟨k - 1, by omega⟩
  have e8 := s8 (h := h) hd hm (show 15 ≤ k by omega)
  rw [regs_eq hm] at e8
  have et : biTuple [.r (h.length + 1)] (h ++ [.lst [.d .non], .lst (t.regs.map .d)]) = .ok (.d (.tup t.regs)) (h ++ [.lst [.d .non], .lst (t.regs.map .d)]) := tup_r (by simp) (by rw [regs_len]; omega)
  rw [run_7]
  simp [mkFn, c_7, p0i, cch, e8, opNone, W.isN, show (m : Int) ≤ 60 by omega, et]
/-! ### accepting -/
theorem s9 {t : Tr} {k m : Nat} {h : Hh} (hd : t.dep ≤ 12) (hm : (m : Int) = t.need) (hk : 16 ≤ k) : run (k + 1) 9 [.d t.d, .d (.int m), .d (.tup (t.deeds 0))] h = .ok (.d .non) (h ++ [.lst [.d .non], .lst (t.regs.map .d)]) := by
  have nl := need_le t
  have np := need_pos t
  obtain ⟨k, rfl⟩ : ∃ j, k = j + 1 := ⟨k - 1, by omega⟩
  have e8 := s8 (h := h) hd hm (show 15 ≤ k by omega)
  rw [regs_eq hm] at e8
  have e2 := p2 (t := t) (k := k + 1) (h := h) hd (by omega)
  have ra := regs_at (t := t)
  have ex : opIx (.r (h.length + 1)) (.d (.int 0)) (h ++ [.lst [.d .non], .lst (t.regs.map .d)]) = .ok (.d t.d) (h ++ [.lst [.d .non], .lst (t.regs.map .d)]) := ix_r (j := 0) (l := t.regs.map .d) (by simp) (by rw [List.getElem?_map, ra]; rfl)
  have tr : tru (.r (h.length + 1)) (h ++ [.lst [.d .non], .lst (t.regs.map .d)]) = .ok true (h ++ [.lst [.d .non], .lst (t.regs.map .d)]) := by
    have : t.regs ≠ [] := fun e => by rw [e] at ra; cases ra
    simp [tru, this]
  have eq : opEq true (.d t.d) (.d t.d) (h ++ [.lst [.d .non], .lst (t.regs.map .d)]) = .ok (.d (.bl false)) (h ++ [.lst [.d .non], .lst (t.regs.map .d)]) := by
    simp [opEq, valD, sh_d t 64 (by omega), eqv_refl]
  rw [run_9]
  simp [mkFn, c_9, p0i, cch, e8, opNone, W.isN, show (m : Int) ≤ 60 by omega, e2, tr, ex, eq]
def Tr.nums : Tr → D
  | .leaf _ => .int 1
  | .node a b => .tup [.int (nd a.need b.need), a.nums, b.nums]
theorem s11 : ∀ (t : Tr) (k : Nat) (h : Hh), t.dep + 2 ≤ k → run k 11 [.d t.d] h = .ok (.d t.nums) h
  | .leaf i, k + 1, h, _ => by
    rw [run_11]; simp [mkFn, c_11, Tr.d, isD, Tr.nums]
  | .node a b, k + 1, h, hk => by
    have e0 := p3 (t := .node a b) (k := k) (h := h) (by omega)
    simp only [Tr.dep] at hk
    have e1 := pure_ok (h := h) rfl (s11 a k [] (by omega))
    have e2 := pure_ok (h := h) rfl (s11 b k [] (by omega))
    simp only [Tr.d, Tr.need] at e0
    rw [run_11]
    simp [mkFn, c_11, Tr.d, isD, Tr.nums, ix0, ix1, e0, e1, e2, mkT]
  | .leaf i, 0, h, hk => by omega
  | .node a b, 0, h, hk => by omega
theorem s10 {t : Tr} {k : Nat} {h : Hh} (h1 : t.dep ≤ 12) (h2 : t.dep + 4 ≤ k) : run k 10 [.d t.d] h = .ok (.d t.nums) h := by
  obtain ⟨k, rfl⟩ : ∃ j, k = j + 1 := ⟨k - 1, by omega⟩
  rw [run_10]
  simp [mkFn, c_10, p2 (t := t) (k := k) h1 (by omega), pure_ok (h := h) rfl (s11 t k [] (by omega))]
theorem t3T {a b c : D} {h : Hh} : cIt (cSl false (cv 1) (oS (cc (.int 1))) oN) [some (.d a), some (.d (.tup [a, b, c]))] h = .ok (fixS [.w (.d b), .w (.d c)]) h := rfl
theorem ixh {x : D} {l : List D} {h : Hh} : opIx (.d (.tup (x :: l))) (.d (.int 0)) h = .ok (.d x) h := by
  have := ix_t (l := x :: l) (j := 0) (x := x) (h := h) rfl
  simpa using this
/-- a number, or a row that begins with one -/
theorem nums_first : ∀ (t : Tr), (∃ x l, t.nums = .tup (.int x :: l) ∧ x = t.need) ∨ (t.nums = .int 1 ∧ t.need = 1)
  | .leaf _ => .inr ⟨rfl, rfl⟩
  | .node a b => .inl ⟨_, _, rfl, rfl⟩
theorem s13 : ∀ (t : Tr) (k : Nat) (h : Hh), t.dep + 2 ≤ k → run k 13 [.d t.d, .d t.nums] h = .ok (.d (.bl true)) h
  | .leaf i, k + 2, h, _ => by
    rw [run_13]; simp [mkFn, c_13, Tr.d, isD, Tr.nums, p0i]
  | .node a b, k + 2, h, hk => by
    simp only [Tr.dep] at hk
    have e1 := pure_ok (h := h) rfl (s13 a (k + 1) [] (by omega))
    have e2 := pure_ok (h := h) rfl (s13 b (k + 1) [] (by omega))
    have el : ∀ {x y z w : Option W}, cLc false [4] (cIt (cSl false (cv 1) (oS (cc (.int 1))) oN)) (yN (tN 4)) bYes (cIf (cT (cCall true 1 (run (k + 1) 0) (aCons (cv 4) aNil))) (cv 4) (c2 opIx (cv 4) (cc (.int 0)))) [x, some (.d (.tup [.int (nd a.need b.need), a.nums, b.nums])), y, z, w] h = .ok (.d (.lst [.int a.need, .int b.need])) h := by
      intro x y z w
      rw [cLc_fix (l := [.w (.d a.nums), .w (.d b.nums)]) (h' := h) (by rfl)]
      rcases nums_first a with ⟨xa, la, ea, na⟩ | ⟨ea, na⟩ <;> rcases nums_first b with ⟨xb, lb, eb, nb⟩ | ⟨eb, nb⟩ <;>
        simp [lcL, ew, yN, yw, bYes, ea, eb, na, nb, p0i, p0t, noX, fin, mkL, ixh]
    have hnd : (nd a.need b.need == if a.need = b.need then a.need + 1 else if b.need > a.need then b.need else a.need) = true := by simp [nd]
    rw [run_13]
    simp only [Tr.nums, Tr.d]
    generalize nd a.need b.need = v at *
    simp [mkFn, c_13, isD, p0i, ix0, ix1, t30, t31, t32, e1, e2, el]
    simp only [beq_iff_eq] at hnd
    by_cases q : a.need = b.need
    · rw [if_pos q] at hnd
      simp [q, hnd]
    · rw [if_neg q] at hnd
      simp [q, hnd]
  | .leaf i, 0, h, hk => by simp at hk
  | .leaf i, 1, h, hk => by simp [Tr.dep] at hk
  | .node a b, 0, h, hk => by simp at hk
  | .node a b, 1, h, hk => by simp [Tr.dep] at hk
theorem s12 {t : Tr} {k : Nat} {h : Hh} (h1 : t.dep ≤ 12) (h2 : t.dep + 4 ≤ k) : run k 12 [.d t.d, .d t.nums] h = .ok (.d .non) h := by
  obtain ⟨k, rfl⟩ : ∃ j, k = j + 1 := ⟨k - 1, by omega⟩
  rw [run_12]
  simp [mkFn, c_12, p2 (t := t) (k := k) h1 (by omega), pure_ok (h := h) rfl (s13 t k [] (by omega))]
/-! ### what the law reckons -/
theorem sort2 {a b : Int} {h : Hh} : biSort false [.d (.lst [.int a, .int b])] h = .ok (.d (.lst [.int (min a b), .int (max a b)])) h := by
  by_cases q : b < a
  · simp [biSort, seqW, lstW, allAl, D.al, canSort, sh, isort, ins, D.le, D.lt, fin, mkL, q, show min a b = b by omega, show max a b = a by omega]
  · simp [biSort, seqW, lstW, allAl, D.al, canSort, sh, isort, ins, D.le, D.lt, fin, mkL, q, show min a b = a by omega, show max a b = b by omega]
theorem s20 : ∀ (t : Tr) (k : Nat) (h : Hh), t.dep + 1 ≤ k → run k 20 [.d t.d] h = .ok (.d (.int t.need)) h
  | .leaf i, k + 1, h, _ => by
    rw [run_20]; simp [mkFn, c_20, Tr.d, isD, Tr.need]
  | .node a b, k + 1, h, hk => by
    simp only [Tr.dep] at hk
    have e1 := pure_ok (h := h) rfl (s20 a k [] (by omega))
    have e2 := pure_ok (h := h) rfl (s20 b k [] (by omega))
    rw [run_20]
    simp [mkFn, c_20, Tr.d, isD, Tr.need, ix0, ix1, e1, e2, mkL, sort2, nd]
    by_cases q : a.need = b.need
    · simp [q]
    · by_cases q2 : b.need > a.need
      · simp [q, show a.need < b.need by omega, show min a.need b.need = a.need by omega, show max a.need b.need = b.need by omega]
      · simp [q, show ¬ a.need < b.need by omega, show b.need < a.need by omega, show min a.need b.need = b.need by omega, show max a.need b.need = a.need by omega]
  | .leaf i, 0, h, hk => by omega
  | .node a b, 0, h, hk => by omega
theorem p20 {t : Tr} {k : Nat} {h : Hh} (h2 : t.dep + 1 ≤ k) : pure' (run k 20) [.d t.d] h = .ok (.d (.int t.need)) h := pure_ok rfl (s20 t k [] h2)
theorem addT {a b : List D} {m : Bool} {h : Hh} (hl : a.length + b.length ≤ 16777216) : opAdd m (.d (.tup a)) (.d (.tup b)) h = .ok (.d (.tup (a ++ b))) h := by
  simp only [opAdd]
  rw [if_pos hl]
theorem s21 : ∀ (t : Tr) (f : Int) (k : Nat) (h : Hh), t.dep ≤ 12 → t.dep + 2 ≤ k → run k 21 [.d t.d, .d (.int f)] h = .ok (.d (.tup (t.deeds f))) h
  | .leaf i, f, k + 1, h, _, _ => by
    rw [run_21]; simp [mkFn, c_21, Tr.d, isD, Tr.deeds, row3, mkT]
  | .node a b, f, k + 1, h, hd, hk => by
    have sz := size_small hd
    simp only [Tr.size] at sz
    simp only [Tr.dep] at hk hd
    have na := p20 (t := a) (k := k) (h := h) (by omega)
    have nb := p20 (t := b) (k := k) (h := h) (by omega)
    rw [run_21]
    by_cases q : a.need < b.need
    · have e1 := pure_ok (h := h) rfl (s21 b f k [] (by omega) (by omega))
      have e2 := pure_ok (h := h) rfl (s21 a (f + 1) k [] (by omega) (by omega))
      have l1 := addT (m := false) (a := b.deeds f) (b := a.deeds (f + 1)) (h := h) (by simp [deeds_len]; omega)
      have l2 := addT (m := false) (a := b.deeds f ++ a.deeds (f + 1)) (b := [row4 f (f + 1) f]) (h := h) (by simp [deeds_len]; omega)
      simp only [row4, List.append_assoc] at l2
      simp [mkFn, c_21, Tr.d, isD, Tr.deeds, row4, mkT, ix0, ix1, na, nb, q, e1, e2, l1, l2]
    · have e1 := pure_ok (h := h) rfl (s21 a f k [] (by omega) (by omega))
      have e2 := pure_ok (h := h) rfl (s21 b (f + 1) k [] (by omega) (by omega))
      have l1 := addT (m := false) (a := a.deeds f) (b := b.deeds (f + 1)) (h := h) (by simp [deeds_len]; omega)
      have l2 := addT (m := false) (a := a.deeds f ++ b.deeds (f + 1)) (b := [row4 f f (f + 1)]) (h := h) (by simp [deeds_len]; omega)
      simp only [row4, List.append_assoc] at l2
      simp [mkFn, c_21, Tr.d, isD, Tr.deeds, row4, mkT, ix0, ix1, na, nb, q, e1, e2, l1, l2]
  | .leaf i, f, 0, h, _, hk => by omega
  | .node a b, f, 0, h, _, hk => by omega
theorem s22 : ∀ (t : Tr) (k : Nat) (h : Hh), t.dep + 2 ≤ k → run k 22 [.d t.d] h = .ok (.d t.nums) h
  | .leaf i, k + 1, h, _ => by
    rw [run_22]; simp [mkFn, c_22, Tr.d, isD, Tr.nums]
  | .node a b, k + 1, h, hk => by
    have e0 := p20 (t := .node a b) (k := k) (h := h) (by omega)
    simp only [Tr.dep] at hk
    have e1 := pure_ok (h := h) rfl (s22 a k [] (by omega))
    have e2 := pure_ok (h := h) rfl (s22 b k [] (by omega))
    simp only [Tr.d, Tr.need] at e0
    rw [run_22]
    simp [mkFn, c_22, Tr.d, isD, Tr.nums, ix0, ix1, e0, e1, e2, mkT]
  | .leaf i, 0, h, hk => by omega
  | .node a b, 0, h, hk => by omega
/-! ### the law's own run -/
end K40
set_option Elab.async false
set_option linter.all false
set_option maxRecDepth 100000
set_option maxHeartbeats 1000000
namespace K40
open Fz
/-! ### what may be a tree -/
def isI : D → Bool
  | .int _ => true
  | _ => false
theorem s0 {k : Nat} {x : D} {h : Hh} : run (k + 1) 0 [.d x] h = .ok (.d (.bl (isI x))) h := by
  rw [run_0]
  cases x <;> simp [mkFn, c_0, isD, isI]
theorem p0 {k : Nat} {x : D} {h : Hh} : pure' (run (k + 1) 0) [.d x] h = .ok (.d (.bl (isI x))) h := pure_ok rfl s0
theorem s24 {k : Nat} {x : D} {h : Hh} : run (k + 1) 24 [.d x] h = .ok (.d (.bl (isI x))) h := by
  rw [run_24]
  cases x <;> simp [mkFn, c_24, isD, isI]
theorem p24 {k : Nat} {x : D} {h : Hh} : pure' (run (k + 1) 24) [.d x] h = .ok (.d (.bl (isI x))) h := pure_ok rfl s24
def isT : D → Nat → Bool
  | .int _, _ => true
  | .tup [a, b], n + 1 => isT a n && isT b n
  | _, _ => false
theorem isT_tr : ∀ {n : Nat} {x : D}, isT x n = true → ∃ t : Tr, x = t.d ∧ t.dep ≤ n
  | n, .int i, _ => ⟨.leaf i, rfl, Nat.zero_le _⟩
  | n + 1, .tup [a, b], h => by
    simp only [isT, Bool.and_eq_true] at h
    obtain ⟨t, rfl, ht⟩ := isT_tr h.1
    obtain ⟨u, rfl, hu⟩ := isT_tr h.2
    exact ⟨.node t u, rfl, by simp only [Tr.dep]; omega⟩
  | 0, .tup l, h => by
    match l with
    | [] => simp [isT] at h
    | [_] => simp [isT] at h
    | [_, _] => simp [isT] at h
    | _ :: _ :: _ :: _ => simp [isT] at h
  | n + 1, .tup [], h => by simp [isT] at h
  | n + 1, .tup [_], h => by simp [isT] at h
  | n + 1, .tup (_ :: _ :: _ :: _), h => by simp [isT] at h
  | n, .non, h => by simp [isT] at h
  | n, .bl _, h => by simp [isT] at h
  | n, .str _, h => by simp [isT] at h
  | n, .lst _, h => by simp [isT] at h
theorem tr_isT : ∀ {t : Tr} {n : Nat}, t.dep ≤ n → isT t.d n = true
  | .leaf i, n, _ => by simp [Tr.d, isT]
  | .node a b, 0, h => by simp only [Tr.dep] at h; omega
  | .node a b, n + 1, h => by
    simp only [Tr.dep] at h
    simp only [Tr.d, isT, Bool.and_eq_true]
    exact ⟨tr_isT (by omega), tr_isT (by omega)⟩
theorem s1g : ∀ (n k : Nat) (x : D) (h : Hh), n + 2 ≤ k → run k 1 [.d x, .d (.int n)] h = .ok (.d (.bl (isT x n))) h
  | n, 0, x, h, hk => by omega
  | n, k + 1, x, h, hk => by
    obtain ⟨k, rfl⟩ : ∃ j, k = j + 1 := ⟨k - 1, by omega⟩
    rw [run_1]
    cases x with
    | int i => simp [mkFn, c_1, p0, isI, isT]
    | tup l =>
      match l with
      | [] => cases n <;> simp [mkFn, c_1, p0, isI, isT, isD]
      | [a] => cases n <;> simp [mkFn, c_1, p0, isI, isT, isD]
      | a :: b :: c :: l =>
        have : ¬ ((l.length : Int) + 1 + 1 + 1 = 2) := by omega
        cases n <;> simp [mkFn, c_1, p0, isI, isT, isD, this]
      | [a, b] =>
        cases n with
        | zero => simp [mkFn, c_1, p0, isI, isT, isD]
        | succ n =>
          have e : ((n + 1 : Nat) : Int) - 1 = (n : Nat) := by omega
          have h1 : pure' (run (k + 1) 1) [.d a, .d (.int (n : Nat))] h = .ok (.d (.bl (isT a n))) h := pure_ok rfl (s1g n (k + 1) a [] (by omega))
          have h2 : pure' (run (k + 1) 1) [.d b, .d (.int (n : Nat))] h = .ok (.d (.bl (isT b n))) h := pure_ok rfl (s1g n (k + 1) b [] (by omega))
          have hz : ¬ ((n : Int) + 1 = 0) := by omega
          have e' : (n : Int) + 1 - 1 = n := by omega
          cases ha : isT a n <;> simp [mkFn, c_1, p0, isI, isT, isD, hz, e', h1, h2, ha]
    | _ => cases n <;> simp [mkFn, c_1, p0, isI, isT, isD]
theorem p1g {n k : Nat} {x : D} {h : Hh} (hk : n + 2 ≤ k) : pure' (run k 1) [.d x, .d (.int n)] h = .ok (.d (.bl (isT x n))) h := pure_ok rfl (s1g n k x [] hk)
def treeS : D := .str [116, 114, 101, 101]
def manyS : D := .str [109, 97, 110, 121]
def deedsS : D := .str [100, 101, 101, 100, 115]
def numbersS : D := .str [110, 117, 109, 98, 101, 114, 115]
theorem s2g {k : Nat} {x : D} {h : Hh} (hk : 15 ≤ k) : run k 2 [.d x] h = if isT x 12 then .ok (.d .non) h else .ex 1 (.d treeS) h := by
  obtain ⟨k, rfl⟩ : ∃ j, k = j + 1 := ⟨k - 1, by omega⟩
  rw [run_2]
  have e := p1g (n := 12) (k := k) (x := x) (h := h) (by omega)
  have e : pure' (run k 1) [.d x, .d (.int 12)] h = .ok (.d (.bl (isT x 12))) h := e
  cases hx : isT x 12 <;> simp [mkFn, c_2, e, hx, sRaise, okP, treeS]
theorem pure_ex {g : Fn} {ws : List W} {ds : List D} {c : Nat} {d : D} {h h' : Hh} (ha : allD ws = some ds) (hg : g ws [] = .ex c (.d d) h') : pure' g ws h = .ex c (.d d) h := by
  unfold pure'
  rw [ha]
  dsimp only
  rw [hg]
theorem p2g {k : Nat} {x : D} {h : Hh} (hk : 15 ≤ k) : pure' (run k 2) [.d x] h = if isT x 12 then .ok (.d .non) h else .ex 1 (.d treeS) h := by
  cases hx : isT x 12 with
  | true => exact pure_ok rfl ((s2g (h := []) hk).trans (by rw [hx]; rfl))
  | false => exact pure_ex rfl ((s2g (h := []) hk).trans (by rw [hx]; rfl))
end K40
set_option Elab.async false
set_option linter.all false
set_option maxRecDepth 100000
set_option maxHeartbeats 1000000
namespace K40
open Fz
/-! ### deeds, any values -/
def loadS : D := .str [108, 111, 97, 100]
def joinS : D := .str [106, 111, 105, 110]
def inR (m : Nat) (i : Int) : Bool := decide (0 ≤ i) && decide (i < m)
/-- what a register has: nothing, or a tree -/
def okG (g : List D) : Prop := ∀ x ∈ g, x = .non ∨ ∃ t : Tr, x = t.d ∧ t.dep ≤ 12
def joinN (g : List D) (a p q : Nat) : Option (List D) := match g[p]?, g[q]? with
  | some x, some y => if isT (.tup [x, y]) 12 then some (g.set a (.tup [x, y])) else none
  | _, _ => none
def stepN (m : Nat) (g : List D) (x : D) : Option (List D) := match x with
  | .tup [h, .int a, .int v] => if inR m a && decide (h = loadS) then some (g.set a.toNat (.int v)) else none
  | .tup [h, .int a, .int p, .int q] => if inR m a && decide (h = joinS) && inR m p && inR m q then joinN g a.toNat p.toNat q.toNat else none
  | _ => none
theorem eq_txt {x : D} {s : List Nat} {h : Hh} (hx : sh 60 x = true) (hs : s.all (· < 1114112) = true) : opEq false (.d x) (.d (.str s)) h = .ok (.d (.bl (decide (x = .str s)))) h := by
  unfold opEq
  have h1 : sh 64 x = true := sh_up 60 64 (by omega) x hx
  have h2 : sh 64 (.str s) = true := hs
  cases x with
  | str u =>
    by_cases q : u = s
    · subst q; simp [valD, h1, h2, D.eqv]
    · simp [valD, h1, h2, D.eqv, q]
  | _ => simp [valD, h1, h2, D.eqv]
theorem drop1 {x : D} {l : List D} : cut (x :: l) (some 1) none = l := by
  have := cut_from (l := x :: l) (j := 1) (by simp)
  simpa using this
theorem parts {k : Nat} {x : D} {l : List D} {e0 e1 e2 x4 x5 : Option W} {h : Hh} (hl : l.length ≤ 1000) : cLc false [4] (cIt (cSl false (cv 3) (oS (cc (.int 1))) oN)) (yN (tN 4)) bYes (cCall true 1 (run (k + 1) 0) (aCons (cv 4) aNil)) [e0, e1, e2, some (.d (.tup (x :: l))), x4, x5] h = .ok (.d (.lst (l.map fun z => .bl (isI z)))) h := by
  have hc : cIt (cSl false (cv 3) (oS (cc (.int 1))) oN) [e0, e1, e2, some (.d (.tup (x :: l))), x4, x5] h = .ok (fixS (l.map fun z => .w (.d z))) h := it_tup (by simp [cSl, oS, oN, opSl, drop1])
  exact lc_m l _ (fun z => .bl (isI z)) hc (by omega) fun z hz => ⟨_, rfl, by simp [ew, p0]⟩
theorem bools_bl {l : List D} {f : D → Bool} : bools ((l.map fun z => D.bl (f z)).map .d) = some (l.map f) := by
  induction l with
  | nil => rfl
  | cons x l ih => rw [List.map_cons, List.map_cons, List.map_cons]; unfold bools; rw [ih]; rfl
theorem all_bl {l : List D} {f : D → Bool} {h : Hh} : biAll [.d (.lst (l.map fun z => .bl (f z)))] h = .ok (.d (.bl (l.all f))) h := by
  unfold biAll
  dsimp only [lstW]
  rw [Option.bind_some, bools_bl]
  dsimp only
  rw [List.all_map]
  rfl
theorem in34 {n : Nat} {h : Hh} : opIn true (.d (.int n)) (.d (.tup [.int 3, .int 4])) h = .ok (.d (.bl (!(decide (n = 3) || decide (n = 4))))) h := by
  unfold opIn
  have : ([D.int 3, D.int 4].any fun z => D.eqv z (.int n)) = (decide (n = 3) || decide (n = 4)) := by
    rw [Bool.eq_iff_iff]
    simp [D.eqv]
    omega
  simp [valD, D.items, sh, this]
theorem isI_int {x : D} (h : isI x = true) : ∃ i, x = .int i := by
  cases x <;> simp [isI] at h
  exact ⟨_, rfl⟩
theorem inR_bC {m : Nat} {i : Int} {c : Cd} {e : Ev} {h : Hh} (h0 : e[0]? = some (some (.d (.int m)))) (hc : c e h = .ok (.d (.int i)) h) : bCh opLe opLt (cc (.int 0)) c (cv 0) e h = .ok (inR m i) h := by
  rw [z_bCh]
  exact congrArg asB (ch3 (p := fun x y => decide (x ≤ y)) (q := fun x y => decide (x < y)) (x := 0) (y := i) (z := m) rfl hc (z_cv h0))
theorem okG_at {g : List D} (hg : okG g) {p : Nat} (hp : p < g.length) : (g[p] = .non ∨ ∃ t : Tr, g[p] = t.d ∧ t.dep ≤ 12) := hg _ (List.getElem_mem hp)
theorem okG_set {g : List D} (hg : okG g) {a : Nat} {x : D} (hx : ∃ t : Tr, x = t.d ∧ t.dep ≤ 12) : okG (g.set a x) := fun y hy => by
  rcases List.mem_or_eq_of_mem_set hy with hy | rfl
  · exact hg y hy
  · exact .inr hx
theorem inR_lt {m : Nat} {i : Int} (h : inR m i = true) : ∃ j : Nat, i = j ∧ j < m := by
  simp [inR] at h
  exact ⟨i.toNat, by omega, by omega⟩
theorem pair_in {x y : D} (hx : x = .non ∨ ∃ t : Tr, x = t.d ∧ t.dep ≤ 12) (hy : y = .non ∨ ∃ t : Tr, y = t.d ∧ t.dep ≤ 12) {h : Hh} : ∃ b, opIn false (.d .non) (.d (.tup [x, y])) h = .ok (.d (.bl b)) h ∧ (b = true → isT (.tup [x, y]) 12 = false) := by
  have s1 : ∀ z : D, (z = .non ∨ ∃ t : Tr, z = t.d ∧ t.dep ≤ 12) → sh 63 z = true := fun z hz => by
    rcases hz with rfl | ⟨t, rfl, ht⟩
    · rfl
    · exact sh_d t 63 (by omega)
  have s2 : sh 64 (.tup [x, y]) = true := by
    show [x, y].all (sh 63) = true
    simp [s1 x hx, s1 y hy]
  refine ⟨[x, y].any fun z => D.eqv z .non, ?_, fun hb => ?_⟩
  · unfold opIn
    simp [valD, D.items, s2]
    rfl
  · simp only [List.any_cons, List.any_nil, Bool.or_false, Bool.or_eq_true] at hb
    have nn : ∀ z : D, (z = .non ∨ ∃ t : Tr, z = t.d ∧ t.dep ≤ 12) → D.eqv z .non = true → z = .non := fun z hz he => by
      rcases hz with rfl | ⟨t, rfl, ht⟩
      · rfl
      · rw [eqv_non] at he; cases he
    rcases hb with hb | hb
    · rw [nn x hx hb]; rfl
    · rw [nn y hy hb]
      simp [isT]
/-- run_of's turn -/
theorem row8 {k m n : Nat} {g : List D} {x T : D} {x4 x5 : Option W} {h : Hh} (hx : sh 50 x = true) (hg : okG g) (hm : g.length = m) (hn : h[n]? = some (.lst (g.map .d))) :
    match stepN m g x with
    | some g' => okG g' ∧ g'.length = m ∧ ∃ y5, c_8_0 (run (k + 20)) [some (.d (.int m)), some (.d T), some (.r n), some (.d x), x4, x5] h = .nx [some (.d (.int m)), some (.d T), some (.r n), some (.d x), x4, y5] (h.set n (.lst (g'.map .d)))
    | none => ∃ h', c_8_0 (run (k + 20)) [some (.d (.int m)), some (.d T), some (.r n), some (.d x), x4, x5] h = .rt (.d .non) h' := by
  -- what is no row of three or four with whole numbers
  have bad : ∀ x : D, (bOr (bNot (cT (cIsi .tup (cv 3)))) (bOr (bC (opIn true) (cCl biLen (aCons (cv 3) aNil)) (cCl mkT (aCons (cc (.int 3)) (aCons (cc (.int 4)) aNil)))) (bNot (cT (cCl biAll (aCons (cLc false [4] (cIt (cSl false (cv 3) (oS (cc (.int 1))) oN)) (yN (tN 4)) bYes (cCall true 1 (run (k + 20) 0) (aCons (cv 4) aNil))) aNil)))))) [some (.d (.int m)), some (.d T), some (.r n), some (.d x), x4, x5] h = .ok true h → c_8_0 (run (k + 20)) [some (.d (.int m)), some (.d T), some (.r n), some (.d x), x4, x5] h = .rt (.d .non) h := fun x q => by
    unfold c_8_0
    rw [z_seq, z_if, q, lift_ok, if_pos rfl]
    rfl
  cases x with
  | tup l =>
    match l with
    | [] => exact ⟨h, bad _ (by simp [isD, mkT_2, in34 (n := 0) (h := h)]; exact in34 (n := 0) ▸ rfl)⟩
    | [hd] => exact ⟨h, bad _ (by simp [isD, mkT_2]; have := in34 (n := 1) (h := h); simp at this; rw [this]; rfl)⟩
    | [hd, a] =>
      have : stepN m g (.tup [hd, a]) = none := by unfold stepN; split <;> simp_all
      rw [this]
      exact ⟨h, bad _ (by simp [isD, mkT_2]; have := in34 (n := 2) (h := h); simp at this; rw [this]; rfl)⟩
    | hd :: a :: b :: c :: d :: l =>
      have : stepN m g (.tup (hd :: a :: b :: c :: d :: l)) = none := by unfold stepN; split <;> simp_all
      rw [this]
      refine ⟨h, bad _ ?_⟩
      have e := in34 (n := l.length + 5) (h := h)
      simp at e
      have e2 : ((l.length : Int) + 1 + 1 + 1 + 1 + 1) = (l.length : Int) + 5 := by omega
      simp [isD, mkT_2, e2, e]
    | [hd, a, v] =>
      have ep := parts (k := k + 19) (x := hd) (l := [a, v]) (e0 := some (.d (.int m))) (e1 := some (.d T)) (e2 := some (.r n)) (x4 := x4) (x5 := x5) (h := h) (by simp)
      have e34 := in34 (n := 3) (h := h)
      have ea := all_bl (l := [a, v]) (f := isI) (h := h)
      by_cases q : isI a = true ∧ isI v = true
      · obtain ⟨⟨a, rfl⟩, ⟨v, rfl⟩⟩ := And.intro (isI_int q.1) (isI_int q.2)
        have e1 : (bOr (bNot (cT (cIsi .tup (cv 3)))) (bOr (bC (opIn true) (cCl biLen (aCons (cv 3) aNil)) (cCl mkT (aCons (cc (.int 3)) (aCons (cc (.int 4)) aNil)))) (bNot (cT (cCl biAll (aCons (cLc false [4] (cIt (cSl false (cv 3) (oS (cc (.int 1))) oN)) (yN (tN 4)) bYes (cCall true 1 (run (k + 20) 0) (aCons (cv 4) aNil))) aNil)))))) [some (.d (.int m)), some (.d T), some (.r n), some (.d (.tup [hd, .int a, .int v])), x4, x5] h = .ok false h := by
          simp [isI] at e34 ea
          simp [isD, mkT_2, e34, ep, ea, isI]
        have e2 := inR_bC (m := m) (i := a) (c := c2 opIx (cv 3) (cc (.int 1))) (e := [some (.d (.int m)), some (.d T), some (.r n), some (.d (.tup [hd, .int a, .int v])), x4, x5]) (h := h) rfl (by simp)
        have hh : sh 60 hd = true := by
          have := List.all_eq_true.mp (show [hd, .int a, .int v].all (sh 49) = true from hx) hd (by simp)
          exact sh_up 49 60 (by omega) _ this
        have e3 := eq_txt (x := hd) (s := [108, 111, 97, 100]) (h := h) hh rfl
        have e4 := eq_txt (x := hd) (s := [106, 111, 105, 110]) (h := h) hh rfl
        cases q1 : inR m a with
        | false =>
          rw [q1] at e2
          have : stepN m g (.tup [hd, .int a, .int v]) = none := by simp [stepN, q1]
          rw [this]
          refine ⟨h, ?_⟩
          unfold c_8_0
          rw [z_seq, z_if, e1, lift_ok, if_neg Bool.false_ne_true, z_nx, SR.bind_nx, z_seq, z_if, z_bNot, e2]
          rfl
        | true =>
          rw [q1] at e2
          obtain ⟨j, rfl, hj⟩ := inR_lt q1
          by_cases q2 : hd = loadS
          · have : stepN m g (.tup [hd, .int j, .int v]) = some (g.set j (.int v)) := by simp [stepN, q1, q2]
            rw [this]
            refine ⟨okG_set hg ⟨.leaf v, rfl, Nat.zero_le _⟩, by simpa using hm, x5, ?_⟩
            have es : setAt (.r n) (.d (.int (j : Int))) (.d (.int v)) h = some (h.set n (.lst ((g.set j (.int v)).map .d))) := by
              rw [set_r hn (by simpa [hm] using hj), List.map_set]
            unfold c_8_0
            rw [z_seq, z_if, e1, lift_ok, if_neg Bool.false_ne_true, z_nx, SR.bind_nx, z_seq, z_if, z_bNot, e2]
            have q2' : hd = .str [108, 111, 97, 100] := q2
            rw [decide_eq_true q2'] at e3
            simp [e3, es]
          · have : stepN m g (.tup [hd, .int j, .int v]) = none := by simp [stepN, q2]
            rw [this]
            refine ⟨h, ?_⟩
            unfold c_8_0
            rw [z_seq, z_if, e1, lift_ok, if_neg Bool.false_ne_true, z_nx, SR.bind_nx, z_seq, z_if, z_bNot, e2]
            have q2' : ¬ hd = .str [108, 111, 97, 100] := q2
            rw [decide_eq_false q2'] at e3
            cases q3 : decide (hd = .str [106, 111, 105, 110]) <;> rw [q3] at e4 <;> simp [e3, e4]
      · have : stepN m g (.tup [hd, a, v]) = none := by
          cases a <;> cases v <;> simp [isI] at q <;> rfl
        rw [this]
        refine ⟨h, bad _ ?_⟩
        have hq : (isI a && isI v) = false := by simpa using q
        simp at e34 ea
        simp [isD, mkT_2, e34, ep, ea]
        cases h1 : isI a <;> simp_all
    | [hd, a, p, q] =>
      have ep := parts (k := k + 19) (x := hd) (l := [a, p, q]) (e0 := some (.d (.int m))) (e1 := some (.d T)) (e2 := some (.r n)) (x4 := x4) (x5 := x5) (h := h) (by simp)
      have e34 := in34 (n := 4) (h := h)
      have ea := all_bl (l := [a, p, q]) (f := isI) (h := h)
      by_cases z : isI a = true ∧ isI p = true ∧ isI q = true
      · obtain ⟨a, rfl⟩ := isI_int z.1
        obtain ⟨p, rfl⟩ := isI_int z.2.1
        obtain ⟨q, rfl⟩ := isI_int z.2.2
        have e1 : (bOr (bNot (cT (cIsi .tup (cv 3)))) (bOr (bC (opIn true) (cCl biLen (aCons (cv 3) aNil)) (cCl mkT (aCons (cc (.int 3)) (aCons (cc (.int 4)) aNil)))) (bNot (cT (cCl biAll (aCons (cLc false [4] (cIt (cSl false (cv 3) (oS (cc (.int 1))) oN)) (yN (tN 4)) bYes (cCall true 1 (run (k + 20) 0) (aCons (cv 4) aNil))) aNil)))))) [some (.d (.int m)), some (.d T), some (.r n), some (.d (.tup [hd, .int a, .int p, .int q])), x4, x5] h = .ok false h := by
          simp [isI] at e34 ea
          simp [isD, mkT_2, e34, ep, ea, isI]
        have e2 := inR_bC (m := m) (i := a) (c := c2 opIx (cv 3) (cc (.int 1))) (e := [some (.d (.int m)), some (.d T), some (.r n), some (.d (.tup [hd, .int a, .int p, .int q])), x4, x5]) (h := h) rfl (by simp)
        have f2 := inR_bC (m := m) (i := p) (c := c2 opIx (cv 3) (cc (.int 2))) (e := [some (.d (.int m)), some (.d T), some (.r n), some (.d (.tup [hd, .int a, .int p, .int q])), x4, x5]) (h := h) rfl (by simp)
        have f3 := inR_bC (m := m) (i := q) (c := c2 opIx (cv 3) (cc (.int 3))) (e := [some (.d (.int m)), some (.d T), some (.r n), some (.d (.tup [hd, .int a, .int p, .int q])), x4, x5]) (h := h) rfl (by simp)
        have hh : sh 60 hd = true := by
          have := List.all_eq_true.mp (show [hd, .int a, .int p, .int q].all (sh 49) = true from hx) hd (by simp)
          exact sh_up 49 60 (by omega) _ this
        have e3 := eq_txt (x := hd) (s := [108, 111, 97, 100]) (h := h) hh rfl
        have e4 := eq_txt (x := hd) (s := [106, 111, 105, 110]) (h := h) hh rfl
        have head : ∀ {b : Bool}, inR m a = b → c_8_0 (run (k + 20)) [some (.d (.int m)), some (.d T), some (.r n), some (.d (.tup [hd, .int a, .int p, .int q])), x4, x5] h = if b then (sIf (bAnd (bC (opEq false) (c2 opIx (cv 3) (cc (.int 0))) (cc (.str [108, 111, 97, 100]))) (bC (opEq false) (cCl biLen (aCons (cv 3) aNil)) (cc (.int 3))))
    (sSet (c2 opIx (cv 3) (cc (.int 2))) (cv 2) (c2 opIx (cv 3) (cc (.int 1))))
    (sIf (bAnd (bC (opEq false) (c2 opIx (cv 3) (cc (.int 0))) (cc (.str [106, 111, 105, 110]))) (bAnd (bC (opEq false) (cCl biLen (aCons (cv 3) aNil)) (cc (.int 4))) (bAnd (bCh opLe opLt (cc (.int 0)) (c2 opIx (cv 3) (cc (.int 2))) (cv 0)) (bCh opLe opLt (cc (.int 0)) (c2 opIx (cv 3) (cc (.int 3))) (cv 0)))))
    (sSeq (sAsg (cCl mkT (aCons (c2 opIx (cv 2) (c2 opIx (cv 3) (cc (.int 2)))) (aCons (c2 opIx (cv 2) (c2 opIx (cv 3) (cc (.int 3)))) aNil))) (tN 5))
    (sSeq (sIf (bOr (bC (opIn false) (cc .non) (cv 5)) (bNot (cT (cCall true 2 (run (k + 20) 1) (aCons (cv 5) (aCons (cc (.int 12)) aNil))))))
    (sRet (cc .non))
    sNx)
    (sSet (cv 5) (cv 2) (c2 opIx (cv 3) (cc (.int 1))))))
    (sRet (cc .non)))) [some (.d (.int m)), some (.d T), some (.r n), some (.d (.tup [hd, .int a, .int p, .int q])), x4, x5] h else .rt (.d .non) h := fun {b} hb => by
          unfold c_8_0
          rw [z_seq, z_if, e1, lift_ok, if_neg Bool.false_ne_true, z_nx, SR.bind_nx, z_seq, z_if, z_bNot, e2, hb]
          cases b <;> rfl
        cases q1 : inR m a with
        | false =>
          have : stepN m g (.tup [hd, .int a, .int p, .int q]) = none := by simp [stepN, q1]
          rw [this]
          exact ⟨h, head q1⟩
        | true =>
          obtain ⟨j, rfl, hj⟩ := inR_lt q1
          have l4 : ∀ e : List D, (bC (opEq false) (cCl biLen (aCons (cv 3) aNil)) (cc (.int 3))) [some (.d (.int m)), some (.d T), some (.r n), some (.d (.tup [hd, .int j, .int p, .int q])), x4, x5] h = .ok false h := fun _ => by simp
          have l5 : (bAnd (bC (opEq false) (c2 opIx (cv 3) (cc (.int 0))) (cc (.str [108, 111, 97, 100]))) (bC (opEq false) (cCl biLen (aCons (cv 3) aNil)) (cc (.int 3)))) [some (.d (.int m)), some (.d T), some (.r n), some (.d (.tup [hd, .int j, .int p, .int q])), x4, x5] h = .ok false h := by
            cases q3 : decide (hd = .str [108, 111, 97, 100]) <;> rw [q3] at e3 <;> simp [e3]
          by_cases q2 : hd = joinS ∧ inR m p = true ∧ inR m q = true
          · obtain ⟨q2, q3, q4⟩ := q2
            rw [q3] at f2
            rw [q4] at f3
            obtain ⟨u, rfl, hu⟩ := inR_lt q3
            obtain ⟨v, rfl, hv⟩ := inR_lt q4
            have hu' : u < g.length := by omega
            have hv' : v < g.length := by omega
            have st : stepN m g (.tup [hd, .int j, .int u, .int v]) = if isT (.tup [g[u], g[v]]) 12 then some (g.set j (.tup [g[u], g[v]])) else none := by
              simp [stepN, q1, q2, q3, q4, joinN, List.getElem?_eq_getElem hu', List.getElem?_eq_getElem hv']
            have q2' : hd = .str [106, 111, 105, 110] := q2
            rw [decide_eq_true q2'] at e4
            have e4' : (bC (opEq false) (c2 opIx (cv 3) (cc (.int 0))) (cc (.str [106, 111, 105, 110]))) [some (.d (.int m)), some (.d T), some (.r n), some (.d (.tup [hd, .int j, .int u, .int v])), x4, x5] h = .ok true h := by simp [e4]
            have e5' : (bC (opEq false) (cCl biLen (aCons (cv 3) aNil)) (cc (.int 4))) [some (.d (.int m)), some (.d T), some (.r n), some (.d (.tup [hd, .int j, .int u, .int v])), x4, x5] h = .ok true h := by simp
            have i1 : opIx (.r n) (.d (.int (u : Int))) h = .ok (.d g[u]) h := ix_r hn (by rw [List.getElem?_map, List.getElem?_eq_getElem hu']; rfl)
            have i2 : opIx (.r n) (.d (.int (v : Int))) h = .ok (.d g[v]) h := ix_r hn (by rw [List.getElem?_map, List.getElem?_eq_getElem hv']; rfl)
            obtain ⟨b, eb, hb⟩ := pair_in (okG_at hg hu') (okG_at hg hv') (h := h)
            have e12 := p1g (n := 12) (k := k + 20) (x := .tup [g[u], g[v]]) (h := h) (by omega)
            have e12 : pure' (run (k + 20) 1) [.d (.tup [g[u], g[v]]), .d (.int 12)] h = _ := e12
            have c5 : (bOr (bC (opIn false) (cc .non) (cv 5)) (bNot (cT (cCall true 2 (run (k + 20) 1) (aCons (cv 5) (aCons (cc (.int 12)) aNil)))))) [some (.d (.int m)), some (.d T), some (.r n), some (.d (.tup [hd, .int j, .int u, .int v])), x4, some (.d (.tup [g[u], g[v]]))] h = .ok (!(isT (.tup [g[u], g[v]]) 12)) h := by
              cases b with
              | true => rw [hb rfl]; simp [eb]
              | false => simp [eb, e12]
            rw [st]
            have cj : (bAnd (bC (opEq false) (c2 opIx (cv 3) (cc (.int 0))) (cc (.str [106, 111, 105, 110]))) (bAnd (bC (opEq false) (cCl biLen (aCons (cv 3) aNil)) (cc (.int 4))) (bAnd (bCh opLe opLt (cc (.int 0)) (c2 opIx (cv 3) (cc (.int 2))) (cv 0)) (bCh opLe opLt (cc (.int 0)) (c2 opIx (cv 3) (cc (.int 3))) (cv 0))))) [some (.d (.int m)), some (.d T), some (.r n), some (.d (.tup [hd, .int j, .int u, .int v])), x4, x5] h = .ok true h := by
              rw [z_bAnd, e4', R.bind_ok, if_pos rfl, z_bAnd, e5', R.bind_ok, if_pos rfl, z_bAnd, f2, R.bind_ok, if_pos rfl, f3]
            have as5 : sAsg (cCl mkT (aCons (c2 opIx (cv 2) (c2 opIx (cv 3) (cc (.int 2)))) (aCons (c2 opIx (cv 2) (c2 opIx (cv 3) (cc (.int 3)))) aNil))) (tN 5) [some (.d (.int m)), some (.d T), some (.r n), some (.d (.tup [hd, .int j, .int u, .int v])), x4, x5] h = .nx [some (.d (.int m)), some (.d T), some (.r n), some (.d (.tup [hd, .int j, .int u, .int v])), x4, some (.d (.tup [g[u], g[v]]))] h := by
              simp [i1, i2, mkT_2]
            cases hT : isT (.tup [g[u], g[v]]) 12 with
            | true =>
              rw [hT] at c5
              refine ⟨okG_set hg (isT_tr hT), by simpa using hm, some (.d (.tup [g[u], g[v]])), ?_⟩
              have es : setAt (.r n) (.d (.int (j : Int))) (.d (.tup [g[u], g[v]])) h = some (h.set n (.lst ((g.set j (.tup [g[u], g[v]])).map .d))) := by
                rw [set_r hn (by simpa [hm] using hj), List.map_set]
              rw [head q1, if_pos rfl, z_if, l5, lift_ok, if_neg Bool.false_ne_true, z_if, cj, lift_ok, if_pos rfl, seq_nx as5, z_seq, z_if, c5, lift_ok]
              simp [es]
            | false =>
              rw [hT] at c5
              refine ⟨h, ?_⟩
              rw [head q1, if_pos rfl, z_if, l5, lift_ok, if_neg Bool.false_ne_true, z_if, cj, lift_ok, if_pos rfl, seq_nx as5, z_seq, z_if, c5, lift_ok]
              rfl
          · have st : stepN m g (.tup [hd, .int j, .int p, .int q]) = none := by
              simp only [stepN]
              rw [if_neg]
              simp only [Bool.and_eq_true, decide_eq_true_eq]
              exact fun z => q2 ⟨z.1.1.2, z.1.2, z.2⟩
            rw [st]
            refine ⟨h, ?_⟩
            have cj : (bAnd (bC (opEq false) (c2 opIx (cv 3) (cc (.int 0))) (cc (.str [106, 111, 105, 110]))) (bAnd (bC (opEq false) (cCl biLen (aCons (cv 3) aNil)) (cc (.int 4))) (bAnd (bCh opLe opLt (cc (.int 0)) (c2 opIx (cv 3) (cc (.int 2))) (cv 0)) (bCh opLe opLt (cc (.int 0)) (c2 opIx (cv 3) (cc (.int 3))) (cv 0))))) [some (.d (.int m)), some (.d T), some (.r n), some (.d (.tup [hd, .int j, .int p, .int q])), x4, x5] h = .ok false h := by
              by_cases w1 : hd = joinS
              · have w1' : hd = .str [106, 111, 105, 110] := w1
                rw [decide_eq_true w1'] at e4
                have e4' : (bC (opEq false) (c2 opIx (cv 3) (cc (.int 0))) (cc (.str [106, 111, 105, 110]))) [some (.d (.int m)), some (.d T), some (.r n), some (.d (.tup [hd, .int j, .int p, .int q])), x4, x5] h = .ok true h := by simp [e4]
                have e5' : (bC (opEq false) (cCl biLen (aCons (cv 3) aNil)) (cc (.int 4))) [some (.d (.int m)), some (.d T), some (.r n), some (.d (.tup [hd, .int j, .int p, .int q])), x4, x5] h = .ok true h := by simp
                rw [z_bAnd, e4', R.bind_ok, if_pos rfl, z_bAnd, e5', R.bind_ok, if_pos rfl, z_bAnd, f2, R.bind_ok]
                cases w2 : inR m p
                · rfl
                · rw [if_pos rfl, f3]
                  cases w3 : inR m q
                  · rfl
                  · exact absurd ⟨w1, w2, w3⟩ q2
              · have w1' : ¬ hd = .str [106, 111, 105, 110] := w1
                rw [decide_eq_false w1'] at e4
                simp [e4]
            rw [head q1, if_pos rfl, z_if, l5, lift_ok, if_neg Bool.false_ne_true, z_if, cj, lift_ok, if_neg Bool.false_ne_true]
            rfl
      · have : stepN m g (.tup [hd, a, p, q]) = none := by
          unfold stepN
          split <;> simp_all [isI]
        rw [this]
        refine ⟨h, bad _ ?_⟩
        have hq : (isI a && (isI p && isI q)) = false := by
          cases h1 : isI a <;> cases h2 : isI p <;> cases h3 : isI q <;> simp_all
        simp at e34 ea
        simp [isD, mkT_2, e34, ep, ea]
        cases h1 : isI a <;> cases h2 : isI p <;> cases h3 : isI q <;> simp_all
  | _ => exact ⟨h, bad _ (by simp [isD])⟩
end K40
set_option Elab.async false
set_option linter.all false
set_option maxRecDepth 100000
set_option maxHeartbeats 1000000
namespace K40
open Fz
/-- all deeds -/
def doneN (m : Nat) (l : List D) : Option (List D) := l.foldlM (stepN m) (List.replicate m .non)
theorem okG_nones {m : Nat} : okG (List.replicate m .non) := fun x hx => .inl (List.eq_of_mem_replicate hx)
/-- run_of -/
theorem s8g {k m : Nat} {l : List D} {h : Hh} (hm : m ≤ 100) (hl : ∀ x ∈ l, sh 50 x = true) :
    match doneN m l with
    | some g => okG g ∧ g.length = m ∧ run (k + 21) 8 [.d (.int m), .d (.tup l)] h = .ok (.r (h.length + 1)) (h ++ [.lst [.d .non], .lst (g.map .d)])
    | none => ∃ h', run (k + 21) 8 [.d (.int m), .d (.tup l)] h = .ok (.d .non) h' := by
  have hN : nones m = (List.replicate m D.non).map .d := nones_map m
  have q1 : sAsg (c2 (opMul true) (cCl mkM (aCons (cc .non) aNil)) (cv 0)) (tN 2) [some (.d (.int m)), some (.d (.tup l)), none, none, none, none] h = .nx [some (.d (.int m)), some (.d (.tup l)), some (.r (h.length + 1)), none, none, none] (h ++ [.lst [.d .non], .lst (nones m)]) := by
    have e0 : mkM [.d .non] h = .ok (.r h.length) (h ++ [.lst [.d .non]]) := rfl
    have e1 := mul_nones (h := h) hm
    simp only [z_asg, z_c2, z_cl, z_aCons, z_aNil, z_cc, R.bind_ok, e0, z_cv0, e1, lift_ok, z_tN, List.set_cons_succ, List.set_cons_zero]
  have key := forL_opt (t := yN (tN 3)) (b := c_8_0 (run (k + 20))) (fun x => .w (.d x)) (stepN m) (.d .non)
    (fun g e h' => okG g ∧ g.length = m ∧ ∃ x3 x4 x5, e = [some (.d (.int m)), some (.d (.tup l)), some (.r (h.length + 1)), x3, x4, x5] ∧ h' = h ++ [.lst [.d .non], .lst (g.map .d)]) l (List.replicate m .non) [some (.d (.int m)), some (.d (.tup l)), some (.r (h.length + 1)), none, none, none] (h ++ [.lst [.d .non], .lst (nones m)])
    ⟨okG_nones, by simp, none, none, none, rfl, by rw [hN]⟩ fun x hx g e h' hi => by
      obtain ⟨hg, hgl, x3, x4, x5, rfl, rfl⟩ := hi
      refine ⟨_, rfl, ?_⟩
      have hn : (h ++ [O.lst [.d .non], .lst (g.map .d)])[h.length + 1]? = some (.lst (g.map .d)) := by
        rw [List.getElem?_append_right (by omega)]
        simp
      have r := row8 (k := k) (m := m) (n := h.length + 1) (g := g) (x := x) (T := .tup l) (x4 := x4) (x5 := x5) (h := h ++ [.lst [.d .non], .lst (g.map .d)]) (hl x hx) hg hgl hn
      cases hs : stepN m g x with
      | none => rw [hs] at r; exact r
      | some g' =>
        rw [hs] at r
        obtain ⟨r1, r2, y5, r3⟩ := r
        refine ⟨_, _, r3, r1, r2, some (.d x), x4, y5, rfl, ?_⟩
        rw [List.set_append]
        simp
        intro z
        omega
  have es := sFor_fix (t := yN (tN 3)) (b := c_8_0 (run (k + 20))) (it_tup (c := cv 1) (e := [some (.d (.int m)), some (.d (.tup l)), some (.r (h.length + 1)), none, none, none]) (h := h ++ [.lst [.d .non], .lst (nones m)]) (l := l) rfl)
  have hd : sIf (bNot (cT (cIsi .tup (cv 1)))) (sRet (cc .non)) sNx [some (.d (.int m)), some (.d (.tup l)), none, none, none, none] h = .nx [some (.d (.int m)), some (.d (.tup l)), none, none, none, none] h := by simp [isD]
  rw [show run (k + 21) 8 = mkFn 2 6 (c_8 (run (k + 20))) from rfl]
  unfold doneN
  cases hq : l.foldlM (stepN m) (List.replicate m D.non) with
  | some g =>
    rw [hq] at key
    obtain ⟨e', h', k1, k2, k3, x3, x4, x5, rfl, rfl⟩ := key
    refine ⟨k2, k3, fn_rt rfl ?_⟩
    unfold c_8
    refine (seq_nx hd).trans ?_
    refine (seq_nx q1).trans ?_
    refine (seq_nx (es.trans k1)).trans ?_
    simp only [z_ret, z_cvS, z_cv0, lift_ok]
  | none =>
    rw [hq] at key
    obtain ⟨h', k1⟩ := key
    refine ⟨h', fn_rt rfl ?_⟩
    unfold c_8
    refine (seq_nx hd).trans ?_
    refine (seq_nx q1).trans ?_
    exact seq_rt (es.trans k1)
theorem s8x {k : Nat} {m : Int} {x : D} {h : Hh} (hx : ∀ l, x ≠ .tup l) : run (k + 1) 8 [.d (.int m), .d x] h = .ok (.d .non) h := by
  rw [run_8]
  cases x with
  | tup l => exact absurd rfl (hx l)
  | _ => simp [mkFn, c_8, isD]
/-! ### the law's -/
theorem nonI {k : Nat} {hd : D} {l : List D} {e0 e1 e2 x4 x5 x6 : Option W} {h : Hh} (hl : l.length ≤ 1000) : cLc false [4] (cIt (cSl false (cv 3) (oS (cc (.int 1))) oN)) (yN (tN 4)) (bNot (cT (cCall true 1 (run (k + 1) 24) (aCons (cv 4) aNil)))) (cv 4) [e0, e1, e2, some (.d (.tup (hd :: l))), x4, x5, x6] h = .ok (.d (.lst (l.filter fun z => !isI z))) h := by
  have hc : cIt (cSl false (cv 3) (oS (cc (.int 1))) oN) [e0, e1, e2, some (.d (.tup (hd :: l))), x4, x5, x6] h = .ok (fixS (l.map fun z => .w (.d z))) h := it_tup (by simp [cSl, oS, oN, opSl, drop1])
  have := lc_d (t := yN (tN 4)) (vs := [4]) (q := bNot (cT (cCall true 1 (run (k + 1) 24) (aCons (cv 4) aNil)))) (c := cv 4) l _ (fun z => !isI z) (fun z => z) hc (by omega) fun z hz => ⟨_, rfl, by simp [ew, p24], fun _ => rfl⟩
  rw [this]
  simp
theorem outI {m : Nat} {hd : D} {is : List Int} {e1 e2 x4 x5 x6 : Option W} {h : Hh} (hl : is.length ≤ 1000) : cLc false [4] (cIt (cSl false (cv 3) (oS (cc (.int 1))) oN)) (yN (tN 4)) (bNot (bCh opLe opLt (cc (.int 0)) (cv 4) (cv 0))) (cv 4) [some (.d (.int m)), e1, e2, some (.d (.tup (hd :: is.map .int))), x4, x5, x6] h = .ok (.d (.lst ((is.filter fun i => !(inR m i)).map .int))) h := by
  have hc : cIt (cSl false (cv 3) (oS (cc (.int 1))) oN) [some (.d (.int m)), e1, e2, some (.d (.tup (hd :: is.map .int))), x4, x5, x6] h = .ok (fixS (is.map fun i => .w (.d (.int i)))) h := (it_tup (l := is.map .int) (h' := h) (by simp [cSl, oS, oN, opSl, drop1])).trans (by rw [List.map_map]; rfl)
  refine lc_d (h' := h) (t := yN (tN 4)) (vs := [4]) (q := bNot (bCh opLe opLt (cc (.int 0)) (cv 4) (cv 0))) (c := cv 4) is _ (fun i => !(inR m i)) (fun i => D.int i) hc (by omega) fun i hi => ⟨_, rfl, ?_, fun _ => rfl⟩
  have := inR_bC (m := m) (i := i) (c := cv 4) (e := [some (.d (.int m)), e1, e2, some (.d (.tup (hd :: is.map .int))), some (.d (.int i)), x5, x6]) (h := h) rfl rfl
  simp only [ew, List.set_cons_succ, List.set_cons_zero, z_bNot, this, R.bind_ok]
/-- _law_depth -/
theorem s23 : ∀ (t : Tr) (k : Nat) (h : Hh), t.dep + 1 ≤ k → run k 23 [.d t.d] h = .ok (.d (.int (t.dep : Nat))) h
  | .leaf i, k + 1, h, _ => by rw [run_23]; simp [mkFn, c_23, Tr.d, isD, Tr.dep]
  | .node a b, k + 1, h, hk => by
    simp only [Tr.dep] at hk
    have e1 : pure' (run k 23) [.d a.d] h = _ := pure_ok rfl (s23 a k [] (by omega))
    have e2 : pure' (run k 23) [.d b.d] h = _ := pure_ok rfl (s23 b k [] (by omega))
    have em : mkL [.d (.int (a.dep : Nat)), .d (.int (b.dep : Nat))] h = .ok (.d (.lst [.int (a.dep : Nat), .int (b.dep : Nat)])) h := rfl
    have eb : biMaxD [.d (.lst [.int (a.dep : Nat), .int (b.dep : Nat)])] h = .ok (.d (.int (max a.dep b.dep : Nat))) h := by
      have ee : (seqW (.d (.lst [.int (a.dep : Nat), .int (b.dep : Nat)])) h).bind allD = some [.int (a.dep : Nat), .int (b.dep : Nat)] := rfl
      unfold biMaxD biBest
      dsimp only
      rw [ee]
      have : (allAl [D.int (a.dep : Nat), D.int (b.dep : Nat)] && noNone [D.int (a.dep : Nat), D.int (b.dep : Nat)] && [D.int (a.dep : Nat), D.int (b.dep : Nat)].all (sh 64)) = true := rfl
      dsimp only
      rw [if_pos this]
      have e3 : dBest D.lt (.int (a.dep : Nat)) [.int (b.dep : Nat)] = .int (max a.dep b.dep : Nat) := by
        show (if D.lt (.int (a.dep : Nat)) (.int (b.dep : Nat)) then D.int (b.dep : Nat) else D.int (a.dep : Nat)) = _
        simp only [D.lt, decide_eq_true_eq]
        split
        · congr 1; omega
        · congr 1; omega
      rw [e3]
    rw [run_23]
    refine fn_rt rfl ?_
    have e0 : cT (cIsi .tup (cv 0)) [some (.d (Tr.node a b).d)] h = .ok true h := by simp [Tr.d, isD]
    have e4 : cCl biMaxD (aCons (cCl mkL (aCons (cCall true 1 (run k 23) (aCons (c2 opIx (cv 0) (cc (.int 0))) aNil)) (aCons (cCall true 1 (run k 23) (aCons (c2 opIx (cv 0) (cc (.int 1))) aNil)) aNil))) aNil) [some (.d (Tr.node a b).d)] h = .ok (.d (.int (max a.dep b.dep : Nat))) h := by
      simp only [z_cl, z_aCons, z_aNil, z_call, z_c2, z_cv0, z_cc, R.bind_ok, Tr.d, ixt0, ixt1, List.length_cons, List.length_nil, if_true, e1, e2, em, eb]
    unfold c_23
    show lift (cIf _ _ _ [some (.d (Tr.node a b).d)] h) _ _ = _
    rw [z_cIf, e0, R.bind_ok, if_pos rfl, z_c2, z_cc, R.bind_ok, e4, R.bind_ok, z_add, lift_ok]
    have : (1 : Int) + (max a.dep b.dep : Nat) = ((Tr.node a b).dep : Nat) := by simp only [Tr.dep]; omega
    rw [this]
  | .leaf i, 0, h, hk => by omega
  | .node a b, 0, h, hk => by omega
end K40
set_option Elab.async false
set_option linter.all false
set_option maxRecDepth 100000
set_option maxHeartbeats 2000000
namespace K40
open Fz
theorem isT_dep : ∀ {t : Tr} {n : Nat}, isT t.d n = true → t.dep ≤ n
  | .leaf i, n, _ => Nat.zero_le _
  | .node a b, 0, h => by simp [Tr.d, isT] at h
  | .node a b, n + 1, h => by
    simp only [Tr.d, isT, Bool.and_eq_true] at h
    have := isT_dep h.1
    have := isT_dep h.2
    simp only [Tr.dep]
    omega
theorem non_of {x : D} (hx : x = .non ∨ ∃ t : Tr, x = t.d ∧ t.dep ≤ 12) (h : x ≠ .non) : ∃ t : Tr, x = t.d ∧ t.dep ≤ 12 := hx.elim (fun e => absurd e h) id
theorem isN_at {x : D} {h : Hh} : opNone false (.d x) (.d .non) h = .ok (.d (.bl (decide (x = .non)))) h := by
  cases x <;> simp [opNone] <;> rfl
theorem ints_of {l : List D} (h : l.all isI = true) : ∃ is : List Int, l = is.map .int := by
  induction l with
  | nil => exact ⟨[], rfl⟩
  | cons x l ih =>
    rw [List.all_cons, Bool.and_eq_true] at h
    obtain ⟨i, rfl⟩ := isI_int h.1
    obtain ⟨is, rfl⟩ := ih h.2
    exact ⟨i :: is, rfl⟩
/-- _law_done's turn -/
theorem row25 {k m n : Nat} {g : List D} {x T : D} {x4 x5 x6 : Option W} {h : Hh} (hx : sh 50 x = true) (hlen : ∀ l, x = .tup l → l.length ≤ 900) (hg : okG g) (hm : g.length = m) (hn : h[n]? = some (.lst (g.map .d))) :
    match stepN m g x with
    | some g' => okG g' ∧ g'.length = m ∧ ∃ y5 y6, c_25_0 (run (k + 20)) [some (.d (.int m)), some (.d T), some (.r n), some (.d x), x4, x5, x6] h = .nx [some (.d (.int m)), some (.d T), some (.r n), some (.d x), x4, y5, y6] (h.set n (.lst (g'.map .d)))
    | none => ∃ h', c_25_0 (run (k + 20)) [some (.d (.int m)), some (.d T), some (.r n), some (.d x), x4, x5, x6] h = .rt (.d .non) h' := by
  have bad : ∀ x : D, (bOr (bNot (cT (cIsi .tup (cv 3)))) (bOr (bNot (cT (cv 3))) (cT (cLc false [4] (cIt (cSl false (cv 3) (oS (cc (.int 1))) oN)) (yN (tN 4)) (bNot (cT (cCall true 1 (run (k + 20) 24) (aCons (cv 4) aNil)))) (cv 4))))) [some (.d (.int m)), some (.d T), some (.r n), some (.d x), x4, x5, x6] h = .ok true h → c_25_0 (run (k + 20)) [some (.d (.int m)), some (.d T), some (.r n), some (.d x), x4, x5, x6] h = .rt (.d .non) h := fun x q => by
    unfold c_25_0
    rw [z_seq, z_if, q, lift_ok, if_pos rfl]
    rfl
  cases x with
  | tup l =>
    cases l with
    | nil => exact ⟨h, bad _ (by simp [isD])⟩
    | cons hd l =>
      have hl : l.length ≤ 1000 := by
        have := hlen _ rfl
        simp at this
        omega
      have ep := nonI (k := k + 19) (hd := hd) (l := l) (e0 := some (.d (.int m))) (e1 := some (.d T)) (e2 := some (.r n)) (x4 := x4) (x5 := x5) (x6 := x6) (h := h) hl
      have hh : sh 60 hd = true := by
        have := List.all_eq_true.mp (show (hd :: l).all (sh 49) = true from hx) hd (by simp)
        exact sh_up 49 60 (by omega) _ this
      have e3 := eq_txt (x := hd) (s := [108, 111, 97, 100]) (h := h) hh rfl
      have e4 := eq_txt (x := hd) (s := [106, 111, 105, 110]) (h := h) hh rfl
      by_cases q : l.all isI = true
      · have qf : l.filter (fun z => !isI z) = [] := by
          rw [List.filter_eq_nil_iff]
          intro z hz
          have := List.all_eq_true.mp q z hz
          simp [this]
        rw [qf] at ep
        obtain ⟨is, rfl⟩ := ints_of q
        have e1 : (bOr (bNot (cT (cIsi .tup (cv 3)))) (bOr (bNot (cT (cv 3))) (cT (cLc false [4] (cIt (cSl false (cv 3) (oS (cc (.int 1))) oN)) (yN (tN 4)) (bNot (cT (cCall true 1 (run (k + 20) 24) (aCons (cv 4) aNil)))) (cv 4))))) [some (.d (.int m)), some (.d T), some (.r n), some (.d (.tup (hd :: is.map .int))), x4, x5, x6] h = .ok false h := by
          simp [isD, ep]
        have ln : ∀ c : Int, (bC (opEq false) (cCl biLen (aCons (cv 3) aNil)) (cc (.int c))) [some (.d (.int m)), some (.d T), some (.r n), some (.d (.tup (hd :: is.map .int))), x4, x5, x6] h = .ok (((is.length : Int) + 1) == c) h := fun c => by simp
        have hL : (bC (opEq false) (c2 opIx (cv 3) (cc (.int 0))) (cc (.str [108, 111, 97, 100]))) [some (.d (.int m)), some (.d T), some (.r n), some (.d (.tup (hd :: is.map .int))), x4, x5, x6] h = .ok (decide (hd = loadS)) h := by simp [e3, loadS]; exact decide_eq_decide.mpr Iff.rfl
        have hJ : (bC (opEq false) (c2 opIx (cv 3) (cc (.int 0))) (cc (.str [106, 111, 105, 110]))) [some (.d (.int m)), some (.d T), some (.r n), some (.d (.tup (hd :: is.map .int))), x4, x5, x6] h = .ok (decide (hd = joinS)) h := by simp [e4, joinS]; exact decide_eq_decide.mpr Iff.rfl
        have eo := outI (m := m) (hd := hd) (is := is) (e1 := some (.d T)) (e2 := some (.r n)) (x4 := x4) (x5 := x5) (x6 := x6) (h := h) (by simpa using hl)
        have ho : bNot (cT (cLc false [4] (cIt (cSl false (cv 3) (oS (cc (.int 1))) oN)) (yN (tN 4)) (bNot (bCh opLe opLt (cc (.int 0)) (cv 4) (cv 0))) (cv 4))) [some (.d (.int m)), some (.d T), some (.r n), some (.d (.tup (hd :: is.map .int))), x4, x5, x6] h = .ok (is.all (inR m)) h := by
          rw [z_bNot, z_cT, eo, R.bind_ok, z_truL, R.bind_ok, Bool.not_not]
          congr 1
          rw [Bool.eq_iff_iff]
          simp [List.filter_eq_nil_iff]
        let E : Ev := [some (.d (.int m)), some (.d T), some (.r n), some (.d (.tup (hd :: is.map .int))), x4, x5, x6]
        let J : Cs := (sSeq (sPar (aCons (c2 opIx (cv 2) (c2 opIx (cv 3) (cc (.int 2)))) (aCons (c2 opIx (cv 2) (c2 opIx (cv 3) (cc (.int 3)))) aNil)) (tCns (tN 5) (tCns (tN 6) Fz.tNil)))
    (sSeq (sIf (bOr (bC (opNone false) (cv 5) (cc .non)) (bOr (bC (opNone false) (cv 6) (cc .non)) (bC opGt (cCall true 1 (run (k + 20) 23) (aCons (cCl mkT (aCons (cv 5) (aCons (cv 6) aNil))) aNil)) (cc (.int 12)))))
    (sRet (cc .non))
    sNx)
    (sSet (cCl mkT (aCons (cv 5) (aCons (cv 6) aNil))) (cv 2) (c2 opIx (cv 3) (cc (.int 1))))))
        have head : ∀ b1 b2 : Bool, (bAnd (bC (opEq false) (cCl biLen (aCons (cv 3) aNil)) (cc (.int 3))) (bAnd (bC (opEq false) (c2 opIx (cv 3) (cc (.int 0))) (cc (.str [108, 111, 97, 100]))) (bCh opLe opLt (cc (.int 0)) (c2 opIx (cv 3) (cc (.int 1))) (cv 0)))) E h = .ok b1 h → (b1 = false → (bAnd (bC (opEq false) (cCl biLen (aCons (cv 3) aNil)) (cc (.int 4))) (bAnd (bC (opEq false) (c2 opIx (cv 3) (cc (.int 0))) (cc (.str [106, 111, 105, 110]))) (bNot (cT (cLc false [4] (cIt (cSl false (cv 3) (oS (cc (.int 1))) oN)) (yN (tN 4)) (bNot (bCh opLe opLt (cc (.int 0)) (cv 4) (cv 0))) (cv 4)))))) E h = .ok b2 h) →
            c_25_0 (run (k + 20)) E h = if b1 then sSet (c2 opIx (cv 3) (cc (.int 2))) (cv 2) (c2 opIx (cv 3) (cc (.int 1))) E h else if b2 then J E h else .rt (.d .non) h := fun b1 b2 t1 t2 => by
          unfold c_25_0
          rw [z_seq, z_if, e1, lift_ok, if_neg Bool.false_ne_true, z_nx, SR.bind_nx, z_if, t1, lift_ok]
          cases b1 with
          | true => rfl
          | false =>
            rw [if_neg Bool.false_ne_true, if_neg Bool.false_ne_true, z_if, t2 rfl, lift_ok]
            cases b2 <;> rfl
        have t0 : ∀ c : Int, ((is.length : Int) + 1 == c) = false → ∀ y : Cb, bAnd (bC (opEq false) (cCl biLen (aCons (cv 3) aNil)) (cc (.int c))) y E h = .ok false h := fun c q y => by
          rw [z_bAnd]
          show (bC _ _ _ E h).bind _ = _
          rw [ln c, q]
          rfl
        rcases is with _ | ⟨a, _ | ⟨v, _ | ⟨w, _ | ⟨u, is⟩⟩⟩⟩
        · have st : stepN m g (.tup [hd]) = none := by unfold stepN; split <;> simp_all
          rw [show stepN m g (.tup (hd :: List.map D.int [])) = none from st]
          exact ⟨h, head false false (t0 3 rfl _) fun _ => t0 4 rfl _⟩
        · have st : stepN m g (.tup [hd, .int a]) = none := by unfold stepN; split <;> simp_all
          rw [show stepN m g (.tup (hd :: List.map D.int [a])) = none from st]
          exact ⟨h, head false false (t0 3 rfl _) fun _ => t0 4 rfl _⟩
        · have e2 := inR_bC (m := m) (i := a) (c := c2 opIx (cv 3) (cc (.int 1))) (e := E) (h := h) rfl (by simp [E])
          by_cases z : hd = loadS ∧ inR m a = true
          · obtain ⟨z1, z2⟩ := z
            rw [z2] at e2
            rw [decide_eq_true z1] at hL
            obtain ⟨j, rfl, hj⟩ := inR_lt z2
            have st : stepN m g (.tup [hd, .int j, .int v]) = some (g.set j (.int v)) := by simp [stepN, z1, z2]
            rw [show stepN m g (.tup (hd :: List.map D.int [(j : Int), v])) = some (g.set j (.int v)) from st]
            refine ⟨okG_set hg ⟨.leaf v, rfl, Nat.zero_le _⟩, by simpa using hm, x5, x6, ?_⟩
            have es : setAt (.r n) (.d (.int (j : Int))) (.d (.int v)) h = some (h.set n (.lst ((g.set j (.int v)).map .d))) := by
              rw [set_r hn (by simpa [hm] using hj), List.map_set]
            refine (head true false ?_ (fun q => nomatch q)).trans ?_
            · rw [z_bAnd]
              show (bC _ _ _ E h).bind _ = _
              rw [ln 3]
              show (bAnd _ _ E h) = _
              rw [z_bAnd]
              show (bC _ _ _ E h).bind _ = _
              rw [hL]
              exact e2
            · rw [if_pos rfl]
              simp [E, es]
          · have st : stepN m g (.tup [hd, .int a, .int v]) = none := by
              simp only [stepN]
              rw [if_neg]
              simp only [Bool.and_eq_true, decide_eq_true_eq]
              exact fun y => z ⟨y.2, y.1⟩
            rw [show stepN m g (.tup (hd :: List.map D.int [a, v])) = none from st]
            refine ⟨h, head false false ?_ fun _ => t0 4 rfl _⟩
            rw [z_bAnd]
            show (bC _ _ _ E h).bind _ = _
            rw [ln 3]
            show (bAnd _ _ E h) = _
            rw [z_bAnd]
            show (bC _ _ _ E h).bind _ = _
            rw [hL]
            by_cases z1 : hd = loadS
            · rw [decide_eq_true z1]
              have z2 : inR m a = false := by
                cases q2 : inR m a with
                | false => rfl
                | true => exact absurd ⟨z1, q2⟩ z
              rw [z2] at e2
              exact e2
            · rw [decide_eq_false z1]
              rfl
        · by_cases z : hd = joinS ∧ inR m a = true ∧ inR m v = true ∧ inR m w = true
          · obtain ⟨z1, z2, z3, z4⟩ := z
            rw [decide_eq_true z1] at hJ
            have ha : [a, v, w].all (inR m) = true := by simp [z2, z3, z4]
            rw [ha] at ho
            obtain ⟨j, rfl, hj⟩ := inR_lt z2
            obtain ⟨p, rfl, hp⟩ := inR_lt z3
            obtain ⟨u9, rfl, hq⟩ := inR_lt z4
            have hp' : p < g.length := by omega
            have hq' : u9 < g.length := by omega
            have st : stepN m g (.tup [hd, .int j, .int p, .int u9]) = if isT (.tup [g[p], g[u9]]) 12 then some (g.set j (.tup [g[p], g[u9]])) else none := by
              simp [stepN, z1, z2, z3, z4, joinN, List.getElem?_eq_getElem hp', List.getElem?_eq_getElem hq']
            rw [show stepN m g (.tup (hd :: List.map D.int [(j : Int), (p : Int), (u9 : Int)])) = _ from st]
            have hd1 := head false true (t0 3 rfl _) fun _ => by
              rw [z_bAnd]
              show (bC _ _ _ E h).bind _ = _
              rw [ln 4]
              show (bAnd _ _ E h) = _
              rw [z_bAnd]
              show (bC _ _ _ E h).bind _ = _
              rw [hJ]
              exact ho
            rw [if_neg Bool.false_ne_true, if_pos rfl] at hd1
            have i1 : opIx (.r n) (.d (.int (p : Int))) h = .ok (.d g[p]) h := ix_r hn (by rw [List.getElem?_map, List.getElem?_eq_getElem hp']; rfl)
            have i2 : opIx (.r n) (.d (.int (u9 : Int))) h = .ok (.d g[u9]) h := ix_r hn (by rw [List.getElem?_map, List.getElem?_eq_getElem hq']; rfl)
            have s1 : sPar (aCons (c2 opIx (cv 2) (c2 opIx (cv 3) (cc (.int 2)))) (aCons (c2 opIx (cv 2) (c2 opIx (cv 3) (cc (.int 3)))) aNil)) (tCns (tN 5) (tCns (tN 6) Fz.tNil)) E h = .nx [some (.d (.int m)), some (.d T), some (.r n), some (.d (.tup [hd, .int j, .int p, .int u9])), x4, some (.d g[p]), some (.d g[u9])] h := by
              simp [E, i1, i2]
            have c5 : (bOr (bC (opNone false) (cv 5) (cc .non)) (bOr (bC (opNone false) (cv 6) (cc .non)) (bC opGt (cCall true 1 (run (k + 20) 23) (aCons (cCl mkT (aCons (cv 5) (aCons (cv 6) aNil))) aNil)) (cc (.int 12))))) [some (.d (.int m)), some (.d T), some (.r n), some (.d (.tup [hd, .int j, .int p, .int u9])), x4, some (.d g[p]), some (.d g[u9])] h = .ok (!(isT (.tup [g[p], g[u9]]) 12)) h := by
              by_cases n1 : g[p] = .non
              · rw [n1]
                have : isT (.tup [.non, g[u9]]) 12 = false := rfl
                rw [this]
                simp [isN_at]
              · by_cases n2 : g[u9] = .non
                · rw [n2]
                  have : isT (.tup [g[p], .non]) 12 = false := by simp [isT]
                  rw [this]
                  simp [isN_at, n1]
                · obtain ⟨t, et, ht⟩ := non_of (okG_at hg hp') n1
                  obtain ⟨u, eu, hu⟩ := non_of (okG_at hg hq') n2
                  rw [et, eu]
                  have e23 : pure' (run (k + 20) 23) [.d (.tup [t.d, u.d])] h = .ok (.d (.int ((Tr.node t u).dep : Nat))) h := pure_ok rfl (s23 (.node t u) (k + 20) [] (by simp only [Tr.dep]; omega))
                  have m1 : t.d ≠ .non := by cases t <;> simp [Tr.d]
                  have m2 : u.d ≠ .non := by cases u <;> simp [Tr.d]
                  have hT : isT (.tup [t.d, u.d]) 12 = decide ((Tr.node t u).dep ≤ 12) := by
                    rw [Bool.eq_iff_iff, decide_eq_true_eq]
                    constructor
                    · intro hh
                      exact isT_dep (t := .node t u) hh
                    · exact fun hh => tr_isT (t := .node t u) hh
                  simp [isN_at, m1, m2, mkT_2, e23, opGt, hT]
                  rw [Bool.eq_iff_iff]
                  simp
                  omega
            cases hT : isT (.tup [g[p], g[u9]]) 12 with
            | true =>
              rw [hT] at c5
              refine ⟨okG_set hg (isT_tr hT), by simpa using hm, some (.d g[p]), some (.d g[u9]), hd1.trans ?_⟩
              have es : setAt (.r n) (.d (.int (j : Int))) (.d (.tup [g[p], g[u9]])) h = some (h.set n (.lst ((g.set j (.tup [g[p], g[u9]])).map .d))) := by
                rw [set_r hn (by simpa [hm] using hj), List.map_set]
              refine (seq_nx s1).trans ?_
              rw [z_seq, z_if, c5, lift_ok]
              simp [mkT_2, es]
            | false =>
              rw [hT] at c5
              refine ⟨h, hd1.trans ?_⟩
              refine (seq_nx s1).trans ?_
              rw [z_seq, z_if, c5, lift_ok]
              rfl
          · have st : stepN m g (.tup [hd, .int a, .int v, .int w]) = none := by
              simp only [stepN]
              rw [if_neg]
              simp only [Bool.and_eq_true, decide_eq_true_eq]
              exact fun y => z ⟨y.1.1.2, y.1.1.1, y.1.2, y.2⟩
            rw [show stepN m g (.tup (hd :: List.map D.int [a, v, w])) = none from st]
            refine ⟨h, head false false (t0 3 rfl _) fun _ => ?_⟩
            rw [z_bAnd]
            show (bC _ _ _ E h).bind _ = _
            rw [ln 4]
            show (bAnd _ _ E h) = _
            rw [z_bAnd]
            show (bC _ _ _ E h).bind _ = _
            rw [hJ]
            by_cases z1 : hd = joinS
            · rw [decide_eq_true z1]
              have z2 : [a, v, w].all (inR m) = false := by
                cases q2 : [a, v, w].all (inR m) with
                | false => rfl
                | true =>
                  simp at q2
                  exact absurd ⟨z1, q2⟩ z
              rw [z2] at ho
              exact ho
            · rw [decide_eq_false z1]
              rfl
        · have st : stepN m g (.tup (hd :: .int a :: .int v :: .int w :: .int u :: is.map .int)) = none := by unfold stepN; split <;> simp_all
          rw [show stepN m g (.tup (hd :: List.map D.int (a :: v :: w :: u :: is))) = none from st]
          exact ⟨h, head false false (t0 3 (by simp; omega) _) fun _ => t0 4 (by simp; omega) _⟩
      · have q' : l.all isI = false := by simpa using q
        have : stepN m g (.tup (hd :: l)) = none := by
          unfold stepN
          split
          · rename_i h1; cases h1; simp [isI] at q
          · rename_i h1; cases h1; simp [isI] at q
          · rfl
        rw [this]
        refine ⟨h, bad _ ?_⟩
        have qf : (l.filter fun z => !isI z).isEmpty = false := by
          cases hf : l.filter fun z => !isI z with
          | nil =>
            rw [List.filter_eq_nil_iff] at hf
            exfalso
            apply q
            rw [List.all_eq_true]
            intro z hz
            have := hf z hz
            simpa using this
          | cons _ _ => rfl
        simp [isD, ep]
        simpa using qf
  | _ => exact ⟨h, bad _ (by simp [isD])⟩
end K40
set_option Elab.async false
set_option linter.all false
set_option maxRecDepth 100000
set_option maxHeartbeats 1000000
namespace K40
open Fz
/-- _law_done -/
theorem s25g {k m : Nat} {l : List D} {h : Hh} (hm : m ≤ 100) (hl : ∀ x ∈ l, sh 50 x = true ∧ ∀ y, x = .tup y → y.length ≤ 900) :
    match doneN m l with
    | some g => okG g ∧ g.length = m ∧ ∃ h', run (k + 21) 25 [.d (.int m), .d (.tup l)] h = .ok (.d (.tup g)) h'
    | none => ∃ h', run (k + 21) 25 [.d (.int m), .d (.tup l)] h = .ok (.d .non) h' := by
  have hN : nones m = (List.replicate m D.non).map .d := nones_map m
  have q1 : sAsg (c2 (opMul true) (cCl mkM (aCons (cc .non) aNil)) (cv 0)) (tN 2) [some (.d (.int m)), some (.d (.tup l)), none, none, none, none, none] h = .nx [some (.d (.int m)), some (.d (.tup l)), some (.r (h.length + 1)), none, none, none, none] (h ++ [.lst [.d .non], .lst (nones m)]) := by
    have e0 : mkM [.d .non] h = .ok (.r h.length) (h ++ [.lst [.d .non]]) := rfl
    have e1 := mul_nones (h := h) hm
    simp only [z_asg, z_c2, z_cl, z_aCons, z_aNil, z_cc, R.bind_ok, e0, z_cv0, e1, lift_ok, z_tN, List.set_cons_succ, List.set_cons_zero]
  have key := forL_opt (t := yN (tN 3)) (b := c_25_0 (run (k + 20))) (fun x => .w (.d x)) (stepN m) (.d .non)
    (fun g e h' => okG g ∧ g.length = m ∧ ∃ x3 x4 x5 x6, e = [some (.d (.int m)), some (.d (.tup l)), some (.r (h.length + 1)), x3, x4, x5, x6] ∧ h' = h ++ [.lst [.d .non], .lst (g.map .d)]) l (List.replicate m .non) [some (.d (.int m)), some (.d (.tup l)), some (.r (h.length + 1)), none, none, none, none] (h ++ [.lst [.d .non], .lst (nones m)])
    ⟨okG_nones, by simp, none, none, none, none, rfl, by rw [hN]⟩ fun x hx g e h' hi => by
      obtain ⟨hg, hgl, x3, x4, x5, x6, rfl, rfl⟩ := hi
      refine ⟨_, rfl, ?_⟩
      have hn : (h ++ [O.lst [.d .non], .lst (g.map .d)])[h.length + 1]? = some (.lst (g.map .d)) := by
        rw [List.getElem?_append_right (by omega)]
        simp
      have r := row25 (k := k) (m := m) (n := h.length + 1) (g := g) (x := x) (T := .tup l) (x4 := x4) (x5 := x5) (x6 := x6) (h := h ++ [.lst [.d .non], .lst (g.map .d)]) (hl x hx).1 (hl x hx).2 hg hgl hn
      cases hs : stepN m g x with
      | none => rw [hs] at r; exact r
      | some g' =>
        rw [hs] at r
        obtain ⟨r1, r2, y5, y6, r3⟩ := r
        refine ⟨_, _, r3, r1, r2, some (.d x), x4, y5, y6, rfl, ?_⟩
        rw [List.set_append]
        simp
        intro z
        omega
  have es := sFor_fix (t := yN (tN 3)) (b := c_25_0 (run (k + 20))) (it_tup (c := cv 1) (e := [some (.d (.int m)), some (.d (.tup l)), some (.r (h.length + 1)), none, none, none, none]) (h := h ++ [.lst [.d .non], .lst (nones m)]) (l := l) rfl)
  have hd : sIf (bNot (cT (cIsi .tup (cv 1)))) (sRet (cc .non)) sNx [some (.d (.int m)), some (.d (.tup l)), none, none, none, none, none] h = .nx [some (.d (.int m)), some (.d (.tup l)), none, none, none, none, none] h := by simp [isD]
  rw [show run (k + 21) 25 = mkFn 2 7 (c_25 (run (k + 20))) from rfl]
  unfold doneN
  cases hq : l.foldlM (stepN m) (List.replicate m D.non) with
  | some g =>
    rw [hq] at key
    obtain ⟨e', h', k1, k2, k3, x3, x4, x5, x6, rfl, rfl⟩ := key
    refine ⟨k2, k3, h ++ [.lst [.d .non], .lst (g.map .d)], fn_rt rfl ?_⟩
    unfold c_25
    refine (seq_nx hd).trans ?_
    refine (seq_nx q1).trans ?_
    refine (seq_nx (es.trans k1)).trans ?_
    have et : biTuple [.r (h.length + 1)] (h ++ [.lst [.d .non], .lst (g.map .d)]) = .ok (.d (.tup g)) (h ++ [.lst [.d .non], .lst (g.map .d)]) := tup_r (by
      rw [List.getElem?_append_right (by omega)]
      simp) (by omega)
    simp only [z_ret, z_cl, z_aCons, z_aNil, z_cvS, z_cv0, R.bind_ok, et, lift_ok]
  | none =>
    rw [hq] at key
    obtain ⟨h', k1⟩ := key
    refine ⟨h', fn_rt rfl ?_⟩
    unfold c_25
    refine (seq_nx hd).trans ?_
    refine (seq_nx q1).trans ?_
    exact seq_rt (es.trans k1)
theorem s25x {k : Nat} {m : Int} {x : D} {h : Hh} (hx : ∀ l, x ≠ .tup l) : run (k + 1) 25 [.d (.int m), .d x] h = .ok (.d .non) h := by
  rw [run_25]
  cases x with
  | tup l => exact absurd rfl (hx l)
  | _ => simp [mkFn, c_25, isD]
end K40
set_option Elab.async false
set_option linter.all false
set_option maxRecDepth 100000
set_option maxHeartbeats 1000000
namespace K40
open Fz
theorem eqv_tr : ∀ a b : Tr, D.eqv a.d b.d = decide (a.d = b.d)
  | .leaf i, .leaf j => by
    rw [Bool.eq_iff_iff]
    simp [Tr.d, D.eqv]
  | .leaf i, .node a b => by simp [Tr.d, D.eqv]
  | .node a b, .leaf i => by simp [Tr.d, D.eqv]
  | .node a b, .node c d => by
    have h1 := eqv_tr a c
    have h2 := eqv_tr b d
    rw [Bool.eq_iff_iff]
    simp [Tr.d, D.eqv, eqvL, h1, h2]
theorem eqv_non' (t : Tr) : D.eqv .non t.d = false := by cases t <;> simp [Tr.d, D.eqv]
/-- what a row of deeds is -/
def doneD (m : Nat) (x : D) : Option (List D) := match x with
  | .tup l => doneN m l
  | _ => none
/-- rows of deeds that are looked at -/
structure Row (x : D) : Prop where
  sh : ∀ l, x = .tup l → ∀ y ∈ l, sh 50 y = true ∧ ∀ z, y = .tup z → z.length ≤ 900
theorem r8 {k m : Nat} {x : D} {h : Hh} (hm : m ≤ 100) (hx : Row x) :
    match doneD m x with
    | some g => okG g ∧ g.length = m ∧ run (k + 21) 8 [.d (.int m), .d x] h = .ok (.r (h.length + 1)) (h ++ [.lst [.d .non], .lst (g.map .d)])
    | none => ∃ h', run (k + 21) 8 [.d (.int m), .d x] h = .ok (.d .non) h' := by
  cases x with
  | tup l => exact s8g hm fun y hy => (hx.sh l rfl y hy).1
  | _ => exact ⟨h, s8x (k := k + 20) (fun l e => nomatch e)⟩
theorem r25 {k m : Nat} {x : D} {h : Hh} (hm : m ≤ 100) (hx : Row x) :
    match doneD m x with
    | some g => okG g ∧ g.length = m ∧ ∃ h', run (k + 21) 25 [.d (.int m), .d x] h = .ok (.d (.tup g)) h'
    | none => ∃ h', run (k + 21) 25 [.d (.int m), .d x] h = .ok (.d .non) h' := by
  cases x with
  | tup l => exact s25g hm fun y hy => hx.sh l rfl y hy
  | _ => exact ⟨h, s25x (k := k + 20) (fun l e => nomatch e)⟩
/-- accept_deeds -/
def accD (t : Tr) (m : Nat) (x : D) : Option D := match doneD m x with
  | none => some deedsS
  | some g => if g[0]? = some t.d then none else some treeS
theorem s9g {k m : Nat} {t : Tr} {x : D} {h : Hh} (ht : t.dep ≤ 12) (hm : m ≤ 60) (hx : Row x) :
    ∃ h', run (k + 22) 9 [.d t.d, .d (.int m), .d x] h = match accD t m x with
      | none => .ok (.d .non) h'
      | some p => .ex 2 (.d p) h' := by
  have q1 : sExpr (cCall true 1 (run (k + 21) 2) (aCons (cv 0) aNil)) [some (.d t.d), some (.d (.int m)), some (.d x), none] h = .nx [some (.d t.d), some (.d (.int m)), some (.d x), none] h := by
    simp [p2g (k := k + 21) (x := t.d) (h := h) (by omega), tr_isT ht]
  have q2 : sIf (bOr (bNot (cT (cCall true 1 (run (k + 21) 0) (aCons (cv 1) aNil)))) (bNot (bCh opLe opLe (cc (.int 0)) (cv 1) (cc (.int 60))))) (sRaise 1 (cc (.str [109, 97, 110, 121]))) sNx [some (.d t.d), some (.d (.int m)), some (.d x), none] h = .nx [some (.d t.d), some (.d (.int m)), some (.d x), none] h := by
    have e0 : pure' (run (k + 21) 0) [.d (.int m)] h = _ := p0 (k := k + 20)
    have e1 : cch opLe opLe (cc (.int 0)) (cv 1) (cc (.int 60)) [some (.d t.d), some (.d (.int m)), some (.d x), none] h = _ := ch3 (p := fun x y => decide (x ≤ y)) (q := fun x y => decide (x ≤ y)) (x := 0) (y := m) (z := 60) rfl rfl rfl
    have e2 : (decide ((0 : Int) ≤ m) && decide ((m : Int) ≤ 60)) = true := by simp; omega
    rw [e2] at e1
    rw [z_if, z_bOr, z_bNot, z_cT, z_call]
    simp only [z_aCons, z_aNil, z_cvS, z_cv0, R.bind_ok, List.length_cons, List.length_nil, if_true, e0, isI, z_truB, Bool.not_true, Bool.false_eq_true, if_false, z_bNot, z_bCh, e1, z_asB, lift_ok, z_nx]
  have r := r8 (k := k) (m := m) (x := x) (h := h) (by omega) hx
  unfold accD
  cases hq : doneD m x with
  | none =>
    rw [hq] at r
    obtain ⟨h', r⟩ := r
    refine ⟨h', ?_⟩
    rw [show run (k + 22) 9 = mkFn 3 4 (c_9 (run (k + 21))) from rfl]
    refine fn_ex (e := [some (.d t.d), some (.d (.int m)), some (.d x), some (.d .non)]) rfl ?_
    unfold c_9
    refine (seq_nx q1).trans ?_
    refine (seq_nx q2).trans ?_
    simp [r, opNone, W.isN, sRaise, okP, deedsS]
  | some g =>
    rw [hq] at r
    obtain ⟨r1, r2, r3⟩ := r
    have hn : (h ++ [O.lst [.d .non], .lst (g.map .d)])[h.length + 1]? = some (.lst (g.map .d)) := by
      rw [List.getElem?_append_right (by omega)]
      simp
    let H := h ++ [O.lst [.d .non], .lst (g.map .d)]
    have e3 : sAsg (cCall false 2 (run (k + 21) 8) (aCons (cv 1) (aCons (cv 2) aNil))) (tN 3) [some (.d t.d), some (.d (.int m)), some (.d x), none] h = .nx [some (.d t.d), some (.d (.int m)), some (.d x), some (.r (h.length + 1))] H := by
      simp [r3, H]
    have e4 : sIf (bC (opNone false) (cv 3) (cc .non)) (sRaise 2 (cc (.str [100, 101, 101, 100, 115]))) sNx [some (.d t.d), some (.d (.int m)), some (.d x), some (.r (h.length + 1))] H = .nx [some (.d t.d), some (.d (.int m)), some (.d x), some (.r (h.length + 1))] H := by
      simp [opNone, W.isN]
    have tr : tru (.r (h.length + 1)) H = .ok (!g.isEmpty) H := by
      unfold tru
      dsimp only [H]
      rw [hn]
      simp
    have e5 : (bOr (bNot (cT (cv 3))) (bC (opEq true) (c2 opIx (cv 3) (cc (.int 0))) (cv 0))) [some (.d t.d), some (.d (.int m)), some (.d x), some (.r (h.length + 1))] H = .ok (!decide (g[0]? = some t.d)) H := by
      cases hg : g with
      | nil =>
        rw [hg] at tr
        simp [tr]
      | cons g0 gs =>
        have i0 : opIx (.r (h.length + 1)) (.d (.int 0)) H = .ok (.d g0) H := ix_r (j := 0) (l := g.map .d) hn (by rw [hg]; rfl)
        have hg0 := r1 g0 (by rw [hg]; simp)
        have s1 : sh 64 t.d = true := sh_d t 64 (by omega)
        have s0 : sh 64 g0 = true := by
          rcases hg0 with rfl | ⟨u, rfl, hu⟩
          · rfl
          · exact sh_d u 64 (by omega)
        have ev : D.eqv g0 t.d = decide (g0 = t.d) := by
          rcases hg0 with rfl | ⟨u, rfl, hu⟩
          · rw [eqv_non']
            cases t <;> simp [Tr.d]
          · exact eqv_tr u t
        have oe : opEq true (.d g0) (.d t.d) H = .ok (.d (.bl (!decide (g0 = t.d)))) H := by
          unfold opEq
          simp [valD, s0, s1, ev]
        rw [hg] at tr
        simp [tr, i0, oe]
    rw [show run (k + 22) 9 = mkFn 3 4 (c_9 (run (k + 21))) from rfl]
    by_cases z : g[0]? = some t.d
    · rw [decide_eq_true z] at e5
      simp only [z, if_true]
      refine ⟨H, fn_nx (e := [some (.d t.d), some (.d (.int m)), some (.d x), some (.r (h.length + 1))]) rfl ?_⟩
      unfold c_9
      refine (seq_nx q1).trans ?_
      refine (seq_nx q2).trans ?_
      refine (seq_nx e3).trans ?_
      refine (seq_nx e4).trans ?_
      rw [z_if, e5]
      rfl
    · rw [decide_eq_false z] at e5
      simp only [z, if_false]
      refine ⟨H, fn_ex (e := [some (.d t.d), some (.d (.int m)), some (.d x), some (.r (h.length + 1))]) rfl ?_⟩
      unfold c_9
      refine (seq_nx q1).trans ?_
      refine (seq_nx q2).trans ?_
      refine (seq_nx e3).trans ?_
      refine (seq_nx e4).trans ?_
      rw [z_if, e5]
      rfl
end K40
set_option Elab.async false
set_option linter.all false
set_option maxRecDepth 100000
set_option maxHeartbeats 1000000
namespace K40
open Fz
/-- run_deeds -/
theorem s7g {k m : Nat} {x : D} {h : Hh} (hm : m ≤ 60) (hx : Row x) :
    ∃ h', run (k + 22) 7 [.d (.int m), .d x] h = match doneD m x with
      | some g => .ok (.d (.tup g)) h'
      | none => .ex 1 (.d deedsS) h' := by
  have q2 : sIf (bOr (bNot (cT (cCall true 1 (run (k + 21) 0) (aCons (cv 0) aNil)))) (bNot (bCh opLe opLe (cc (.int 0)) (cv 0) (cc (.int 60))))) (sRaise 1 (cc (.str [109, 97, 110, 121]))) sNx [some (.d (.int m)), some (.d x), none] h = .nx [some (.d (.int m)), some (.d x), none] h := by
    have e0 : pure' (run (k + 21) 0) [.d (.int m)] h = _ := p0 (k := k + 20)
    have e1 : cch opLe opLe (cc (.int 0)) (cv 0) (cc (.int 60)) [some (.d (.int m)), some (.d x), none] h = _ := ch3 (p := fun x y => decide (x ≤ y)) (q := fun x y => decide (x ≤ y)) (x := 0) (y := m) (z := 60) rfl rfl rfl
    have e2 : (decide ((0 : Int) ≤ m) && decide ((m : Int) ≤ 60)) = true := by simp; omega
    rw [e2] at e1
    rw [z_if, z_bOr, z_bNot, z_cT, z_call]
    simp only [z_aCons, z_aNil, z_cvS, z_cv0, R.bind_ok, List.length_cons, List.length_nil, if_true, e0, isI, z_truB, Bool.not_true, Bool.false_eq_true, if_false, z_bNot, z_bCh, e1, z_asB, lift_ok, z_nx]
  have r := r8 (k := k) (m := m) (x := x) (h := h) (by omega) hx
  rw [show run (k + 22) 7 = mkFn 2 3 (c_7 (run (k + 21))) from rfl]
  cases hq : doneD m x with
  | none =>
    rw [hq] at r
    obtain ⟨h', r⟩ := r
    refine ⟨h', fn_ex (e := [some (.d (.int m)), some (.d x), some (.d .non)]) rfl ?_⟩
    unfold c_7
    refine (seq_nx q2).trans ?_
    simp [r, opNone, W.isN, sRaise, okP, deedsS]
  | some g =>
    rw [hq] at r
    obtain ⟨r1, r2, r3⟩ := r
    have hn : (h ++ [O.lst [.d .non], .lst (g.map .d)])[h.length + 1]? = some (.lst (g.map .d)) := by
      rw [List.getElem?_append_right (by omega)]
      simp
    have et : biTuple [.r (h.length + 1)] (h ++ [.lst [.d .non], .lst (g.map .d)]) = .ok (.d (.tup g)) (h ++ [.lst [.d .non], .lst (g.map .d)]) := tup_r hn (by omega)
    refine ⟨h ++ [O.lst [.d .non], .lst (g.map .d)], fn_rt rfl ?_⟩
    unfold c_7
    refine (seq_nx q2).trans ?_
    simp [r3, opNone, W.isN, et]
end K40
set_option Elab.async false
set_option linter.all false
set_option maxRecDepth 100000
set_option maxHeartbeats 1000000
local macro_rules | `(tactic| walk_at "e") => `(tactic| ((try simp only [List.map_cons, List.map_nil, List.length_cons, List.length_nil, List.replicate, List.cons_append, List.nil_append, List.set_cons_succ, List.set_cons_zero, List.getElem?_cons_succ, List.getElem?_cons_zero]); first | done | rfl))
local macro_rules | `(tactic| walk_at "z") => `(tactic| with_reducible repeat (first
  | (refine Fz.is_ok ?_; first
    | refine Fz.wp_cv (by walk_at "e") ?_
    | refine Fz.wp_cc ?_
    | refine Fz.wp_cons ?_
    | refine Fz.wp_nil ?_
    | refine Fz.wp_c2 ?_
    | refine Fz.wp_cl ?_
    | refine Fz.wp_bC ?_
    | refine Fz.wp_call ?_
    | refine Fz.wp_callP ?_
    | refine Fz.wp_cT ?_
    | refine Fz.wp_bAnd ?_
    | refine Fz.wp_bOr ?_
    | refine Fz.wp_bNot ?_
    | refine Fz.wp_bCh ?_
    | refine Fz.wp_c1 ?_
    | refine Fz.wp_cIf ?_
    | refine Fz.wp_and ?_
    | refine Fz.wp_or ?_
    | refine Fz.wp_not ?_
    | refine Fz.wp_isi ?_
    | refine Fz.wp_cSl ?_
    | refine Fz.wp_oN ?_
    | refine Fz.wp_oS ?_
    | refine Fz.wp_fld' ?_
    | refine Fz.wp_lm ?_
    | refine Fz.wp_meth ?_
    | refine Fz.wp_new ?_
    | refine Fz.wp_dK ?_
    | refine Fz.wp_cch ?_
    | refine Fz.wp_cF ?_
    | refine Fz.wp_bC1 ?_
    | refine Fz.wp_truB ?_
    | refine Fz.wp_eqI ?_
    | refine Fz.wp_addI ?_
    | refine Fz.wp_subI ?_
    | refine Fz.wp_lt ?_
    | refine Fz.wp_le ?_
    | refine Fz.wp_gt ?_
    | refine Fz.wp_ge ?_
    | refine Fz.wp_neI ?_
    | refine Fz.wp_neg ?_
    | refine Fz.wp_truT ?_
    | refine Fz.wp_truL ?_
    | refine Fz.wp_truN ?_
    | refine Fz.wp_truI ?_
    | refine Fz.wp_len1 ?_
    | refine Fz.wp_len2 ?_
    | refine Fz.wp_isN1 ?_
    | refine Fz.wp_isNr ?_
    | refine Fz.wp_isNI ?_
    | refine Fz.wp_isNT ?_
    | refine Fz.wp_notN1 ?_
    | refine Fz.wp_notNr ?_
    | refine Fz.wp_notNI ?_
    | refine Fz.wp_notNT ?_
    | refine Fz.wp_isN ?_
    | refine Fz.wp_notN ?_
    | refine Fz.wp_mkT (by ((try simp only [Fz.z_allD0, Fz.z_allD, Option.map_some]); first | done | with_unfolding_all rfl)) (by (try simp only [List.length_cons, List.length_nil, List.length_append]); omega) ?_
    | refine Fz.wp_mkL (by ((try simp only [Fz.z_allD0, Fz.z_allD, Option.map_some]); first | done | with_unfolding_all rfl)) (by (try simp only [List.length_cons, List.length_nil, List.length_append]); omega) ?_
    | refine Fz.wp_mkM (by (try simp only [List.length_cons, List.length_nil, List.length_append]); omega) ?_
    | refine Fz.wp_sl_t ?_
    | refine Fz.wp_revT ?_
    | refine Fz.wp_int ?_
    | refine Fz.wp_max2 ?_
    | refine Fz.wp_tupT ?_
    | refine Fz.wp_eqS ?_
    | refine Fz.wp_repr (by assumption) ?_
    | refine Fz.wp_addLL (by (try simp only [List.length_cons, List.length_nil, List.length_append]); omega) ?_
    | refine Fz.wp_addTT (by (try simp only [List.length_cons, List.length_nil, List.length_append]); omega) ?_
    | refine Fz.wp_ok ?_)
  | (refine Fz.is_sk ?_; first
    | refine Fz.wp_seq ?_
    | refine Fz.wp_asgN ?_
    | refine Fz.wp_if ?_
    | refine Fz.wp_ret ?_
    | refine Fz.wp_nx ?_
    | refine Fz.wp_asg ?_
    | refine Fz.wp_par ?_
    | refine Fz.wp_set ?_
    | refine Fz.wp_dset ?_
    | refine Fz.wp_sfld ?_
    | refine Fz.wp_raise ?_
    | refine Fz.wp_aug (by walk_at "e") ?_
    | refine Fz.wp_expr ?_
    | refine Fz.wp_retN ?_
    | refine Fz.wp_bk ?_
    | refine Fz.wp_ct ?_)
  | (refine Fz.is_br ?_; first
    | refine Fz.br_t ?_
    | refine Fz.br_f ?_
    | refine Fz.br_n ?_
    | refine Fz.br_tt (by with_unfolding_all exact rfl) ?_
    | refine Fz.br_ff (by with_unfolding_all exact rfl) ?_)
  | refine Fz.wp_thn (by walk_at "e") ?_
  | refine Fz.so_lst (by first | assumption | (simp only [List.getElem?_cons_succ, List.getElem?_cons_zero]; assumption)) ?_
  | refine Fz.so_ins (by first | assumption | (simp only [List.getElem?_cons_succ, List.getElem?_cons_zero]; assumption)) ?_
  | refine Fz.so_fld (by first | assumption | (simp only [List.getElem?_cons_succ, List.getElem?_cons_zero]; assumption)) (by with_unfolding_all exact rfl) ?_
  | refine Fz.cm_i (by with_unfolding_all exact rfl) ?_
  | refine Fz.bo_b ?_
  | refine Fz.wp_thR ?_
  | refine Fz.wp_thX ?_
  | refine Fz.wp_thB ?_
  | refine Fz.wp_thC ?_
  | refine Fz.so_i (by with_unfolding_all exact rfl) ?_
  | refine Fz.wp_reR ?_
  | refine Fz.wp_reN ?_
  | refine Fz.wp_reX ?_
  | refine Fz.dw_i ?_
  | refine Fz.wp_tuN (by walk_at "e") ?_
  | refine Fz.wp_tuC (by walk_at "e") ?_
  | refine Fz.wp_tuB ?_
  | refine Fz.wp_tuR ?_
  | refine Fz.wp_tuX ?_))
namespace K40
open Fz
/-! ### trees by draws -/
theorem e15 (k : Nat) : run (k + 1) 15 = mkFn 2 3 drawC := rfl
theorem e16 (k : Nat) : run (k + 2) 16 = mkFn 2 2 (pickC (mkFn 2 3 drawC)) := rfl
/-- leaves of at most 10 ** 30 -/
def Tr.ok : Tr → Prop
  | .leaf i => i.natAbs ≤ 10 ^ 30
  | .node a b => a.ok ∧ b.ok
section
variable {ns : List Int} {rest : List W} {t : Hh}
theorem dr {k : Nat} {a b s m : Int} {P : W → Hh → Prop} {E : Nat → W → Hh → Prop} (ha : 0 ≤ a) (hb : 0 ≤ b) (hm : 0 < m ∧ m < 1073741824) (p : ∀ v a' b' s', 0 ≤ v → v < m → 0 ≤ a' → 0 ≤ b' → P (.d (.int v)) (St ns a' b' s' rest :: t)) : Ok (run (k + 1) 15 [.r 0, .d (.int m)] (St ns a b s rest :: t)) P E := draw_ok ha hb hm p
theorem pk_l {k : Nat} {a b s : Int} {P : W → Hh → Prop} {E : Nat → W → Hh → Prop} {l : List D} (ha : 0 ≤ a) (hb : 0 ≤ b) (hl : 0 < l.length ∧ l.length < 1073741824) (p : ∀ x a' b' s', x ∈ l → 0 ≤ a' → 0 ≤ b' → P (.d x) (St ns a' b' s' rest :: t)) : Ok (run (k + 2) 16 [.r 0, .d (.lst l)] (St ns a b s rest :: t)) P E := pick_l ha hb hl p
def OutT (ns : List Int) (rest : List W) (t : Hh) (d : Nat) (w : W) (h : Hh) : Prop := ∃ tr a' b' s', w = .d (Tr.d tr) ∧ h = St ns a' b' s' rest :: t ∧ tr.dep ≤ d ∧ tr.ok ∧ 0 ≤ a' ∧ 0 ≤ b'
theorem pow30 {h : Hh} {P : W → Hh → Prop} {E : Nat → W → Hh → Prop} (p : P (.d (.int 1000000000000000000000000000000)) h) : Ok (opPow (.d (.int 10)) (.d (.int 30)) h) P E := wp_eq (by rfl) p
theorem s19 : ∀ (k d : Nat) (a b s : Int), d + 4 ≤ k → d ≤ 12 → 0 ≤ a → 0 ≤ b → Ok (run k 19 [.r 0, .d (.int d), .d (.bl false)] (St ns a b s rest :: t)) (OutT ns rest t d) noE
  | 0, d, a, b, s, hk, _, _, _ => by omega
  | k + 1, d, a, b, s, hk, hd, ha, hb => by
    obtain ⟨k, rfl⟩ : ∃ j, k = j + 2 := ⟨k - 2, by omega⟩
    rw [run_19]
    refine wp_fn rfl (by walk_at "e") ?_
    unfold c_19
    walk_at "z"
    refine br_d (fun z => ?_) fun z => ?_
    · walk_at "z"
      refine pow30 ?_
      walk_at "z"
      refine dr ha hb (by omega) fun v a1 b1 s1 v1 v2 g1 g2 => ?_
      walk_at "z"
      refine pk_l g1 g2 (by simp) fun x a2 b2 s2 hx g1 g2 => ?_
      walk_at "z"
      simp only [List.mem_cons, List.not_mem_nil, or_false] at hx
      rcases hx with rfl | rfl | rfl | rfl | rfl <;> exact ⟨.leaf _, a2, b2, s2, rfl, rfl, Nat.zero_le _, by simp only [Tr.ok]; omega, g1, g2⟩
    walk_at "z"
    refine dr ha hb (by omega) fun v a1 b1 s1 v1 v2 g1 g2 => ?_
    walk_at "z"
    refine br_d (fun z => ?_) fun z => ?_
    · walk_at "z"
      refine pow30 ?_
      walk_at "z"
      refine dr g1 g2 (by omega) fun v a1 b1 s1 v1 v2 g1 g2 => ?_
      walk_at "z"
      refine pk_l g1 g2 (by simp) fun x a2 b2 s2 hx g1 g2 => ?_
      walk_at "z"
      simp only [List.mem_cons, List.not_mem_nil, or_false] at hx
      rcases hx with rfl | rfl | rfl | rfl | rfl <;> exact ⟨.leaf _, a2, b2, s2, rfl, rfl, Nat.zero_le _, by simp only [Tr.ok]; omega, g1, g2⟩
    walk_at "z"
    refine dr g1 g2 (by omega) fun v a1 b1 s1 v1 v2 g1 g2 => ?_
    walk_at "z"
    refine pk_l g1 g2 (by simp) fun x a2 b2 s2 hx g1 g2 => ?_
    have : ∃ l : Nat, x = .int l ∧ l < d := by
      simp only [List.mem_cons, List.not_mem_nil, or_false] at hx
      rcases hx with rfl | rfl | rfl | rfl
      · exact ⟨d - 1, by congr 1; omega, by omega⟩
      · exact ⟨d - 1, by congr 1; omega, by omega⟩
      · exact ⟨0, rfl, by omega⟩
      · exact ⟨v.toNat, by congr 1; omega, by omega⟩
    obtain ⟨l, rfl, hl⟩ := this
    walk_at "z"
    rw [show (d : Int) - 1 = ((d - 1 : Nat) : Int) by omega]
    refine wp_n (s19 (k + 2) (d - 1) _ _ _ (by omega) (by omega) g1 g2) ?_
    rintro _ _ ⟨t1, a3, b3, s3, rfl, rfl, d1, o1, g1, g2⟩
    walk_at "z"
    refine wp_n (s19 (k + 2) l _ _ _ (by omega) (by omega) g1 g2) ?_
    rintro _ _ ⟨t2, a4, b4, s4, rfl, rfl, d2, o2, g1, g2⟩
    walk_at "z"
    refine dr g1 g2 (by omega) fun v a1 b1 s1 v1 v2 g1 g2 => ?_
    walk_at "z"
    refine br_d (fun z => ?_) fun z => ?_
    · walk_at "z"
      exact ⟨.node t1 t2, _, _, _, rfl, rfl, by simp only [Tr.dep]; omega, ⟨o1, o2⟩, g1, g2⟩
    · walk_at "z"
      exact ⟨.node t2 t1, _, _, _, rfl, rfl, by simp only [Tr.dep]; omega, ⟨o2, o1⟩, g1, g2⟩
end
end K40
set_option Elab.async false
set_option linter.all false
set_option maxRecDepth 100000
set_option maxHeartbeats 1000000
namespace K40
open Fz
/-! ### are_numbers on any value -/
theorem s13g : ∀ (t : Tr) (k : Nat) (x : D) (h : Hh), t.dep + 2 ≤ k → run k 13 [.d t.d, .d x] h = .ok (.d (.bl (decide (x = t.nums)))) h
  | .leaf i, k + 2, x, h, _ => by
    refine ok_get ?_
    rw [run_13]
    refine wp_fn rfl (by walk_at "e") ?_
    unfold c_13
    simp only [Tr.d]
    walk_at "z"
    refine wp_eq p0 ?_
    walk_at "z"
    refine br_c (fun z => ?_) fun z => ?_
    · obtain ⟨n, rfl⟩ := isI_int z
      walk_at "z"
      simp [Tr.nums]
    · walk_at "z"
      refine ⟨?_, rfl⟩
      have : x ≠ (Tr.leaf i).nums := by
        rintro rfl
        cases z
      rw [decide_eq_false this, z]
  | .node a b, k + 2, x, h, hk => by
    simp only [Tr.dep] at hk
    have e1 := fun x => pure_ok (h := h) rfl (s13g a (k + 1) x [] (by omega))
    have e2 := fun x => pure_ok (h := h) rfl (s13g b (k + 1) x [] (by omega))
    have el : ∀ {x y z w : Option W} {n : D}, cLc false [4] (cIt (cSl false (cv 1) (oS (cc (.int 1))) oN)) (yN (tN 4)) bYes (cIf (cT (cCall true 1 (run (k + 1) 0) (aCons (cv 4) aNil))) (cv 4) (c2 opIx (cv 4) (cc (.int 0)))) [x, some (.d (.tup [n, a.nums, b.nums])), y, z, w] h = .ok (.d (.lst [.int a.need, .int b.need])) h := by
      intro x y z w n
      rw [cLc_fix (l := [.w (.d a.nums), .w (.d b.nums)]) (h' := h) (by rfl)]
      rcases nums_first a with ⟨xa, la, ea, na⟩ | ⟨ea, na⟩ <;> rcases nums_first b with ⟨xb, lb, eb, nb⟩ | ⟨eb, nb⟩ <;>
        simp [lcL, ew, yN, yw, bYes, ea, eb, na, nb, p0i, p0t, noX, fin, mkL, ixh]
    have no : (∀ n p q, x ≠ .tup [n, p, q]) → decide (x = (Tr.node a b).nums) = false := fun q => decide_eq_false (q _ _ _)
    refine ok_get ?_
    rw [run_13]
    refine wp_fn rfl (by walk_at "e") ?_
    unfold c_13
    simp only [Tr.d]
    walk_at "z"
    have nt : (∀ l, x ≠ .tup l) → isD .tup x = false := fun q => by cases x <;> first | rfl | exact absurd rfl (q _)
    by_cases hx : ∃ l, x = .tup l
    · obtain ⟨l, rfl⟩ := hx
      simp only [isD]
      walk_at "z"
      by_cases h3 : l.length = 3
      · match l, h3 with
        | [n, p, q], _ =>
          walk_at "z"
          refine wp_ixt (j := 0) rfl ?_
          walk_at "z"
          refine wp_eq p0 ?_
          walk_at "z"
          refine br_c (fun z => ?_) fun z => ?_
          · obtain ⟨n, rfl⟩ := isI_int z
            walk_at "z"
            refine wp_ixt (j := 0) rfl ?_
            walk_at "z"
            refine wp_ixt (j := 1) rfl ?_
            walk_at "z"
            refine wp_eq (e1 p) ?_
            walk_at "z"
            refine br_d (fun z => ?_) fun z => ?_
            · subst z
              walk_at "z"
              refine wp_ixt (j := 1) rfl ?_
              walk_at "z"
              refine wp_ixt (j := 2) rfl ?_
              walk_at "z"
              refine wp_eq (e2 q) ?_
              walk_at "z"
              refine br_d (fun z => ?_) fun z => ?_
              · subst z
                walk_at "z"
                refine wp_eq el ?_
                walk_at "z"
                refine wp_ixt (j := 0) rfl ?_
                walk_at "z"
                refine br_d (fun z => ?_) fun z => ?_
                · walk_at "z"
                  exact ⟨by simp [Tr.nums, nd, z], rfl⟩
                · walk_at "z"
                  exact ⟨by simp [Tr.nums, nd, z], rfl⟩
              · walk_at "z"
                exact ⟨by rw [decide_eq_false]; simp [Tr.nums, z], rfl⟩
            · walk_at "z"
              exact ⟨by rw [decide_eq_false]; simp [Tr.nums, z], rfl⟩
          · walk_at "z"
            refine ⟨?_, rfl⟩
            rw [decide_eq_false]
            simp only [Tr.nums, D.tup.injEq, List.cons.injEq, not_and]
            rintro rfl
            cases z
      · refine br_df (by omega) ?_
        walk_at "z"
        exact ⟨by rw [no (by rintro n p q ⟨⟩; exact h3 rfl)], rfl⟩
    · rw [nt fun l e => hx ⟨l, e⟩]
      walk_at "z"
      exact ⟨by rw [no (fun n p q e => hx ⟨_, e⟩)], rfl⟩
  | .leaf i, 0, x, h, hk => by simp at hk
  | .leaf i, 1, x, h, hk => by simp [Tr.dep] at hk
  | .node a b, 0, x, h, hk => by simp at hk
  | .node a b, 1, x, h, hk => by simp [Tr.dep] at hk
end K40
set_option Elab.async false
set_option linter.all false
set_option maxRecDepth 100000
set_option maxHeartbeats 1000000
namespace K40
open Fz
def pDeeds : D := .str [112, 97, 112, 101, 114, 32, 100, 101, 101, 100, 115]
def pTree : D := .str [112, 97, 112, 101, 114, 32, 116, 114, 101, 101]
def pNum : D := .str [112, 97, 112, 101, 114, 32, 110, 117, 109, 98, 101, 114, 115]
def aDeeds : D := .str [97, 114, 103, 117, 109, 101, 110, 116, 32, 100, 101, 101, 100, 115]
/-- what is due of deeds -/
def lawD (t : Tr) (m : Nat) (x : D) : D := match doneD m x with
  | none => pDeeds
  | some g => if g[0]? = some t.d then .lst [.non] else pTree
theorem okG_eq {g0 : D} {t : Tr} (hg0 : g0 = .non ∨ ∃ t : Tr, g0 = t.d ∧ t.dep ≤ 12) (ht : t.dep ≤ 12) {P : W → Hh → Prop} {E : Nat → W → Hh → Prop} {h : Hh} (p : P (.d (.bl (decide (g0 = t.d)))) h) : Ok (opEq false (.d g0) (.d t.d) h) P E := by
  have s1 : sh 64 t.d = true := sh_d t 64 (by omega)
  have s0 : sh 64 g0 = true := by
    rcases hg0 with rfl | ⟨u, rfl, hu⟩
    · rfl
    · exact sh_d u 64 (by omega)
  have ev : D.eqv g0 t.d = decide (g0 = t.d) := by
    rcases hg0 with rfl | ⟨u, rfl, hu⟩
    · rw [eqv_non']
      cases t <;> simp [Tr.d]
    · exact eqv_tr u t
  unfold opEq
  simp only [valD, s0, s1, ev, Bool.and_self, if_true, Bool.false_eq_true, if_false]
  exact p
theorem s27 {k m : Nat} {t : Tr} {x : D} {h : Hh} (ht : t.dep ≤ 12) (hs : canShow t.d = true) (hm : m ≤ 60) (hx : Row x) : run (k + 22) 27 [.d t.d, .d (.int m), .d x] h = .ok (.d (lawD t m x)) h := by
  refine ok_get ?_
  rw [run_27]
  refine wp_fn rfl (by walk_at "e") ?_
  unfold c_27
  walk_at "z"
  have r := r25 (k := k) (m := m) (x := x) (h := []) (by omega) hx
  unfold lawD
  cases hq : doneD m x with
  | none =>
    rw [hq] at r
    obtain ⟨h', r⟩ := r
    refine wp_eq (pure_ok rfl r) ?_
    walk_at "z"
    exact ⟨rfl, rfl⟩
  | some g =>
    rw [hq] at r
    obtain ⟨r1, r2, h', r3⟩ := r
    refine wp_eq (pure_ok rfl r3) ?_
    walk_at "z"
    cases g with
    | nil =>
      walk_at "z"
      exact ⟨rfl, rfl⟩
    | cons g0 gs =>
      walk_at "z"
      refine wp_ixt (j := 0) rfl ?_
      walk_at "z"
      refine okG_eq (r1 g0 (by simp)) ht ?_
      walk_at "z"
      refine br_d (fun z => ?_) fun z => ?_
      · subst z
        walk_at "z"
        refine wp_ixt (j := 0) rfl ?_
        walk_at "z"
        refine br_dt rfl ?_
        walk_at "z"
        simp
      · walk_at "z"
        simp [z, pTree]
/-! ### what is asked -/
def accQ : List Nat := [97, 99, 99, 101, 112, 116, 95, 100, 101, 101, 100, 115]
def runQ : List Nat := [114, 117, 110, 95, 100, 101, 101, 100, 115]
def numQ : List Nat := [97, 99, 99, 101, 112, 116, 95, 110, 117, 109, 98, 101, 114, 115]
def needQ : List Nat := [110, 101, 101, 100, 101, 100]
def forQ : List Nat := [100, 101, 101, 100, 115, 95, 102, 111, 114]
def nbdQ : List Nat := [110, 117, 109, 98, 101, 114, 101, 100]
theorem a1 {k : Nat} {q : List Nat} {g : Fn} {x : D} {h : Hh} (hg : tbl_1 (run k) q = some (true, g)) : run (k + 1) 18 [.f q, .d (.lst [x])] h = asked [1, 2] su_0 (pure' g [.d x] h) :=
  (ask5_1 (t1 := tbl_1 (run k)) (t2 := tbl_2 (run k)) (t3 := tbl_3 (run k)) (t4 := tbl_4 (run k)) (t5 := tbl_5 (run k)) (cs := [1, 2]) (su := su_0) (x1 := x) hg)
theorem a2 {k : Nat} {q : List Nat} {g : Fn} {x y : D} {h : Hh} (hg : tbl_2 (run k) q = some (true, g)) : run (k + 1) 18 [.f q, .d (.lst [x, y])] h = asked [1, 2] su_0 (pure' g [.d x, .d y] h) :=
  (ask5_2 (t1 := tbl_1 (run k)) (t2 := tbl_2 (run k)) (t3 := tbl_3 (run k)) (t4 := tbl_4 (run k)) (t5 := tbl_5 (run k)) (cs := [1, 2]) (su := su_0) (x1 := x) (x2 := y) hg)
theorem a3 {k : Nat} {q : List Nat} {g : Fn} {x y z : D} {h : Hh} (hg : tbl_3 (run k) q = some (true, g)) : run (k + 1) 18 [.f q, .d (.lst [x, y, z])] h = asked [1, 2] su_0 (pure' g [.d x, .d y, .d z] h) :=
  (ask5_3 (t1 := tbl_1 (run k)) (t2 := tbl_2 (run k)) (t3 := tbl_3 (run k)) (t4 := tbl_4 (run k)) (t5 := tbl_5 (run k)) (cs := [1, 2]) (su := su_0) (x1 := x) (x2 := y) (x3 := z) hg)
theorem ask_acc {k m : Nat} {t : Tr} {x : D} {h : Hh} (ht : t.dep ≤ 12) (hm : m ≤ 60) (hx : Row x) : run (k + 23) 18 [.f accQ, .d (.lst [t.d, .int m, x])] h = .ok (.d (lawD t m x)) h := by
  rw [a3 (g := run (k + 22) 9) rfl]
  obtain ⟨h', e⟩ := s9g (k := k) (m := m) (t := t) (x := x) (h := []) ht hm hx
  unfold accD at e
  unfold lawD
  cases hq : doneD m x with
  | none =>
    rw [hq] at e
    rw [pure_ex rfl e]
    rfl
  | some g =>
    rw [hq] at e
    dsimp only at e ⊢
    by_cases z : g[0]? = some t.d
    · rw [if_pos z] at e ⊢
      rw [pure_ok rfl e]
      rfl
    · rw [if_neg z] at e ⊢
      rw [pure_ex rfl e]
      rfl
def runD (m : Nat) (x : D) : D := match doneD m x with
  | none => aDeeds
  | some g => .lst [.tup g]
theorem ask_run {k m : Nat} {x : D} {h : Hh} (hm : m ≤ 60) (hx : Row x) : run (k + 23) 18 [.f runQ, .d (.lst [.int m, x])] h = .ok (.d (runD m x)) h := by
  rw [a2 (g := run (k + 22) 7) rfl]
  obtain ⟨h', e⟩ := s7g (k := k) (m := m) (x := x) (h := []) hm hx
  unfold runD
  cases hq : doneD m x with
  | none =>
    rw [hq] at e
    rw [pure_ex rfl e]
    rfl
  | some g =>
    rw [hq] at e
    rw [pure_ok rfl e]
    rfl
theorem s12g {k : Nat} {t : Tr} {x : D} {h : Hh} (ht : t.dep ≤ 12) (hk : 15 ≤ k) : run (k + 1) 12 [.d t.d, .d x] h = if x = t.nums then .ok (.d .non) h else .ex 2 (.d numbersS) h := by
  have q : pure' (run k 13) [.d t.d, .d x] h = .ok (.d (.bl (decide (x = t.nums)))) h := pure_ok rfl (s13g t k x [] (by omega))
  rw [run_12]
  by_cases z : x = t.nums
  · subst z
    simp [mkFn, c_12, q, p2 (t := t) (k := k) (h := h) ht (by omega)]
  · simp [mkFn, c_12, q, z, p2 (t := t) (k := k) (h := h) ht (by omega), sRaise, okP, numbersS]
def numD (t : Tr) (x : D) : D := if x = t.nums then .lst [.non] else pNum
theorem ask_num {k : Nat} {t : Tr} {x : D} {h : Hh} (ht : t.dep ≤ 12) : run (k + 23) 18 [.f numQ, .d (.lst [t.d, x])] h = .ok (.d (numD t x)) h := by
  rw [a2 (g := run (k + 22) 12) rfl]
  have e := s12g (k := k + 21) (t := t) (x := x) (h := []) ht (by omega)
  unfold numD
  by_cases z : x = t.nums
  · rw [if_pos z] at e ⊢
    rw [pure_ok rfl e]
    rfl
  · rw [if_neg z] at e ⊢
    rw [pure_ex rfl e]
    rfl
theorem s26 {k : Nat} {t : Tr} {x : D} {h : Hh} (ht : t.dep ≤ 12) (h1 : canShow x = true) (h2 : canShow t.nums = true) : run (k + 15) 26 [.d t.d, .d x] h = .ok (.d (.bl (decide (x = t.nums)))) h := by
  refine ok_get ?_
  rw [run_26]
  refine wp_fn rfl (by walk_at "e") ?_
  unfold c_26
  walk_at "z"
  refine wp_eq (pure_ok rfl (s22 t (k + 14) [] (by omega))) ?_
  refine wp_thn (by walk_at "e") ?_
  refine wp_ret ?_
  refine wp_eq (and_same (x := x) (y := t.nums) rfl rfl h1 h2) ?_
  have : D.beq x t.nums = decide (x = t.nums) := by
    rw [Bool.eq_iff_iff, D.beq_iff, decide_eq_true_iff]
  rw [this]
  exact ⟨rfl, rfl⟩
end K40
set_option Elab.async false
set_option linter.all false
set_option maxRecDepth 100000
set_option maxHeartbeats 1000000
namespace K40
open Fz
/-! ### values with a part changed -/
/-- data of few levels, no long rows, no great numbers -/
def Qd (B L : Nat) : Nat → D → Bool
  | _, .non => true
  | _, .bl _ => true
  | _, .int i => decide (i.natAbs ≤ B)
  | _, .str s => decide (s.length ≤ 10) && s.all (· < 1114112)
  | n + 1, .tup l => decide (l.length ≤ L) && l.all (Qd B L n)
  | _, _ => false
theorem Qd_up : ∀ {B L B' L' : Nat} {n n' : Nat} {x : D}, B ≤ B' → L ≤ L' → n ≤ n' → Qd B L n x = true → Qd B' L' n' x = true
  | B, L, B', L', n, n', .non, _, _, _, _ => by cases n' <;> rfl
  | B, L, B', L', n, n', .bl _, _, _, _, _ => by cases n' <;> rfl
  | B, L, B', L', n, n', .int i, hB, _, _, h => by
    have : i.natAbs ≤ B := by cases n <;> simpa [Qd] using h
    cases n' <;> simp [Qd] <;> omega
  | B, L, B', L', n, n', .str s, _, _, _, h => by cases n <;> cases n' <;> simpa [Qd] using h
  | B, L, B', L', 0, n', .tup l, _, _, _, h => by simp [Qd] at h
  | B, L, B', L', n + 1, 0, .tup l, _, _, hn, h => by omega
  | B, L, B', L', n + 1, n' + 1, .tup l, hB, hL, hn, h => by
    simp only [Qd, Bool.and_eq_true, decide_eq_true_eq, List.all_eq_true] at h ⊢
    exact ⟨by omega, fun x hx => Qd_up hB hL (by omega) (h.2 x hx)⟩
  | B, L, B', L', n, n', .lst _, _, _, _, h => by cases n <;> simp [Qd] at h
section
variable {ns : List Int} {rest : List W} {t : Hh}
def OutP (p : D → Prop) (ns : List Int) (rest : List W) (t : Hh) (w : W) (h : Hh) : Prop := ∃ d a' b' s', w = .d d ∧ h = St ns a' b' s' rest :: t ∧ 0 ≤ a' ∧ 0 ≤ b' ∧ p d
def oddL : List D := [.non, .bl true, loadS, joinS, .int (-1), .int 0, .int 1, .int 2, .int 61, .tup [], .tup [loadS, .int 0, .int 1], .tup [joinS, .int 0, .int 0, .int 0], .tup [joinS, .int 0, .int 0, .int 1],
  .tup [loadS, .int 0, .non], .tup [loadS, .int 0], .tup [.int 0, .int 0, .int 0], .tup [loadS, .int 9, .int 5], .tup [loadS, .int 0, .bl true]]
theorem s28 {k : Nat} {a b s : Int} (ha : 0 ≤ a) (hb : 0 ≤ b) : Ok (run (k + 3) 28 [.r 0] (St ns a b s rest :: t)) (OutP (fun d => Qd 61 4 1 d = true) ns rest t) noE := by
  rw [run_28]
  refine wp_fn rfl (by walk_at "e") ?_
  unfold c_28
  walk_at "z"
  refine pk_l ha hb (by simp) fun x a' b' s' hx g1 g2 => ?_
  walk_at "z"
  refine ⟨x, _, _, _, rfl, rfl, g1, g2, ?_⟩
  have key : ∀ x ∈ oddL, Qd 61 4 1 x = true := by decide
  exact key x hx
theorem Qd_tup {B L n : Nat} {l : List D} (h1 : l.length ≤ L) (h2 : ∀ x ∈ l, Qd B L n x = true) : Qd B L (n + 1) (.tup l) = true := by
  simp only [Qd, Bool.and_eq_true, decide_eq_true_eq, List.all_eq_true]
  exact ⟨h1, h2⟩
theorem s29 {B L : Nat} (hB : 61 ≤ B) (hL : 4 ≤ L ∧ L ≤ 1000) : ∀ (n k : Nat) (x : D) (a b s : Int), n + 4 ≤ k → Qd B L n x = true → 0 ≤ a → 0 ≤ b → Ok (run k 29 [.r 0, .d x] (St ns a b s rest :: t)) (OutP (fun d => Qd (B + 1) (L + 1) (n + 1) d = true) ns rest t) noE
  | n, 0, x, a, b, s, hk, _, _, _ => by omega
  | n, k + 1, x, a, b, s, hk, hx, ha, hb => by
    obtain ⟨k, rfl⟩ : ∃ j, k = j + 3 := ⟨k - 3, by omega⟩
    rw [run_29]
    refine wp_fn rfl (by walk_at "e") ?_
    unfold c_29
    refine wp_seq (wp_if (wp_n (P' := fun k h => ∃ a' b' s', h = St ns a' b' s' rest :: t ∧ 0 ≤ a' ∧ 0 ≤ b' ∧ (k = false → ∃ l, x = .tup l ∧ l ≠ [])) ?_ ?_))
    · walk_at "z"
      have fin : ∀ {l : List D}, l ≠ [] → l.isEmpty = false := fun q => by cases ‹List D› <;> simp_all
      by_cases hl : ∃ l, x = .tup l ∧ l ≠ []
      · obtain ⟨l, rfl, hl⟩ := hl
        refine br_tt rfl ?_
        walk_at "z"
        rw [fin hl]
        walk_at "z"
        refine dr ha hb (by omega) fun v a b s v1 v2 g1 g2 => ?_
        walk_at "z"
        exact ⟨_, _, _, rfl, g1, g2, fun _ => ⟨_, rfl, hl⟩⟩
      · cases x with
        | tup l =>
          cases l with
          | nil =>
            walk_at "z"
            exact ⟨_, _, _, rfl, ha, hb, fun q => nomatch q⟩
          | cons y l => exact absurd ⟨_, rfl, by simp⟩ hl
        | _ =>
          walk_at "z"
          exact ⟨_, _, _, rfl, ha, hb, fun q => nomatch q⟩
    rintro tt _ ⟨a1, b1, s1, rfl, g1, g2, htt⟩
    cases tt with
    | true =>
      have fin : ∀ (a b s : Int), 0 ≤ a → 0 ≤ b → Ok (run (k + 3) 28 [.r 0] (St ns a b s rest :: t)) (fun w h => OutP (fun d => Qd (B + 1) (L + 1) (n + 1) d = true) ns rest t w h) noE := fun a b s h1 h2 => (s28 h1 h2).mono (by
        rintro _ _ ⟨d, a', b', s', rfl, rfl, q1, q2, q3⟩
        exact ⟨_, _, _, _, rfl, rfl, q1, q2, Qd_up (by omega) (by omega) (by omega) q3⟩) fun _ _ _ q => q
      walk_at "z"
      refine wp_eq p24 ?_
      walk_at "z"
      refine br_c (fun hi => ?_) fun hi => ?_
      · obtain ⟨i, rfl⟩ := isI_int hi
        walk_at "z"
        refine dr g1 g2 (by omega) fun v a b s v1 v2 g1 g2 => ?_
        walk_at "z"
        refine br_d (fun _ => ?_) fun _ => ?_
        · walk_at "z"
          refine pk_l g1 g2 (by simp) fun x a b s hx' g1 g2 => ?_
          have hi : i.natAbs ≤ B := by cases n <;> simpa [Qd] using hx
          simp only [List.mem_cons, List.not_mem_nil, or_false] at hx'
          rcases hx' with rfl | rfl
          · walk_at "z"
            exact ⟨_, _, _, _, rfl, rfl, g1, g2, by simp [Qd]; omega⟩
          · walk_at "z"
            exact ⟨_, _, _, _, rfl, rfl, g1, g2, by simp [Qd]; omega⟩
        · walk_at "z"
          refine wp_n (fin _ _ _ g1 g2) fun w h q => ?_
          walk_at "z"
          exact q
      · walk_at "z"
        refine wp_n (fin _ _ _ g1 g2) fun w h q => ?_
        walk_at "z"
        exact q
    | false =>
      obtain ⟨l, rfl, hl⟩ := htt rfl
      obtain ⟨n, rfl⟩ : ∃ m, n = m + 1 := by
        cases n with
        | zero => simp [Qd] at hx
        | succ m => exact ⟨m, rfl⟩
      simp only [Qd, Bool.and_eq_true, decide_eq_true_eq, List.all_eq_true] at hx
      have hlen : 0 < l.length := List.length_pos_iff.mpr hl
      walk_at "z"
      refine dr g1 g2 (by omega) fun v a b s v1 v2 g1 g2 => ?_
      obtain ⟨j, rfl⟩ := Int.eq_ofNat_of_zero_le v1
      have hj : j < l.length := by omega
      have c1 : cut l none (some (j : Int)) = l.take j := cut_to (by omega)
      have c2 : cut l (some ((j : Int) + 1)) none = l.drop (j + 1) := cut_from (j := j + 1) (by omega)
      have c3 : cut l (some (j : Int)) (some ((j : Int) + 1)) = (l.drop j).take 1 := by
        have := cut_ab (l := l) (i := j) (j := j + 1) (by omega) (by omega)
        rw [show j + 1 - j = 1 by omega] at this
        exact this
      have l1 : (l.take j).length = j := by simp; omega
      have l2 : (l.drop (j + 1)).length = l.length - j - 1 := by simp; omega
      have l3 : ((l.drop j).take 1).length ≤ 1 := by simp; omega
      have m1 : ∀ x ∈ l, Qd (B + 1) (L + 1) (n + 1) x = true := fun x h => Qd_up (by omega) (by omega) (by omega) (hx.2 x h)
      have t1 : ∀ x ∈ l.take j, Qd (B + 1) (L + 1) (n + 1) x = true := fun x h => m1 x (List.mem_of_mem_take h)
      have t2 : ∀ x ∈ l.drop (j + 1), Qd (B + 1) (L + 1) (n + 1) x = true := fun x h => m1 x (List.mem_of_mem_drop h)
      have t3 : ∀ x ∈ (l.drop j).take 1, Qd (B + 1) (L + 1) (n + 1) x = true := fun x h => m1 x (List.mem_of_mem_drop (List.mem_of_mem_take h))
      have n1 : (cut l none (some (j : Int))).length = j := by rw [c1, l1]
      have n2 : (cut l (some ((j : Int) + 1)) none).length = l.length - j - 1 := by rw [c2, l2]
      have n3 : (cut l (some (j : Int)) (some ((j : Int) + 1))).length ≤ 1 := by rw [c3]; exact l3
      walk_at "z"
      refine wp_ixt (List.getElem?_eq_getElem hj) ?_
      walk_at "z"
      refine wp_n (s29 hB hL n (k + 3) l[j] _ _ _ (by omega) (hx.2 _ (List.getElem_mem hj)) g1 g2) ?_
      rintro _ _ ⟨y, a, b, s, rfl, rfl, g1, g2, hy⟩
      walk_at "z"
      refine wp_n (s28 g1 g2) ?_
      rintro _ _ ⟨o, a, b, s, rfl, rfl, g1, g2, ho⟩
      have ho := Qd_up (B' := B + 1) (L' := L + 1) (n' := n + 1) (by omega) (by omega) (by omega) ho
      walk_at "z"
      refine pk_l g1 g2 (by simp) fun z a b s hz g1 g2 => ?_
      walk_at "z"
      refine ⟨_, _, _, _, rfl, rfl, g1, g2, ?_⟩
      rw [c1, c2, c3] at hz
      simp only [List.mem_cons, List.not_mem_nil, or_false] at hz
      rcases hz with rfl | rfl | rfl | rfl | rfl | rfl | rfl | rfl
      · exact Qd_tup (by rw [List.length_append, l1, l2]; omega) fun x h => (List.mem_append.mp h).elim (t1 x) (t2 x)
      · exact Qd_tup (by rw [List.length_append]; omega) fun x h => (List.mem_append.mp h).elim (m1 x) (t3 x)
      · exact Qd_tup (by rw [List.length_reverse]; omega) fun x h => m1 x (List.mem_reverse.mp h)
      · refine Qd_tup (by rw [List.length_append, List.length_append, l1, l2, List.length_singleton]; omega) fun x h => ?_
        rcases List.mem_append.mp h with h | h
        · rcases List.mem_append.mp h with h | h
          · exact t1 x h
          · rw [List.mem_singleton.mp h]; exact ho
        · exact t2 x h
      all_goals
        refine Qd_tup (by rw [List.length_append, List.length_append, l1, l2, List.length_singleton]; omega) fun x h => ?_
        rcases List.mem_append.mp h with h | h
        · rcases List.mem_append.mp h with h | h
          · exact t1 x h
          · rw [List.mem_singleton.mp h]; exact hy
        · exact t2 x h
end
end K40
set_option Elab.async false
set_option linter.all false
set_option maxRecDepth 100000
set_option maxHeartbeats 1000000
namespace K40
open Fz
/-! ### sizes -/
def Gz (L : Nat) : Nat → Nat
  | 0 => 102
  | n + 1 => 2 + L * (Gz L n + 2)
theorem Gz_pos (L n : Nat) (hL : 1 ≤ L) : 102 ≤ Gz L n := by
  induction n with
  | zero => exact Nat.le_refl _
  | succ n ih =>
    unfold Gz
    have := Nat.mul_le_mul hL (Nat.le_refl (Gz L n + 2))
    omega
theorem szL_le {N : Nat} : ∀ {l : List D}, (∀ x ∈ l, D.sz x ≤ N) → szL l ≤ l.length * (N + 2)
  | [], _ => by simp [szL]
  | x :: l, h => by
    have h1 := h x (by simp)
    have h2 := szL_le (l := l) fun y hy => h y (by simp [hy])
    simp only [szL, List.length_cons, Nat.succ_mul]
    omega
theorem log100 {i : Int} {B : Nat} (hB : B < 2 ^ 100) (h : i.natAbs ≤ B) : i.natAbs.log2 < 100 := log_lt (by omega) (by omega)
theorem Qd_sz {B L : Nat} (hB : B < 2 ^ 100) (hL : 1 ≤ L) : ∀ {n : Nat} {x : D}, Qd B L n x = true → D.sz x ≤ Gz L n
  | n, .non, _ => by have := Gz_pos L n hL; simp only [D.sz]; omega
  | n, .bl _, _ => by have := Gz_pos L n hL; simp only [D.sz]; omega
  | n, .int i, h => by
    have := Gz_pos L n hL
    have hi : i.natAbs ≤ B := by cases n <;> simpa [Qd] using h
    have := log100 hB hi
    simp only [D.sz]; omega
  | n, .str s, h => by
    have := Gz_pos L n hL
    have hi : s.length ≤ 10 := by cases n <;> (simp [Qd] at h; exact h.1)
    simp only [D.sz]; omega
  | 0, .tup l, h => by simp [Qd] at h
  | n + 1, .tup l, h => by
    simp only [Qd, Bool.and_eq_true, decide_eq_true_eq, List.all_eq_true] at h
    have h1 := szL_le (N := Gz L n) fun x hx => Qd_sz hB hL (h.2 x hx)
    have h2 := Nat.mul_le_mul_right (Gz L n + 2) h.1
    simp only [D.sz, Gz]
    omega
  | n, .lst _, h => by cases n <;> simp [Qd] at h
theorem Qd_sh {B L : Nat} : ∀ {n : Nat} {x : D}, Qd B L n x = true → sh n x = true
  | n, .non, _ => by cases n <;> rfl
  | n, .bl _, _ => by cases n <;> rfl
  | n, .int i, h => by cases n <;> rfl
  | n, .str s, h => by cases n <;> (simp only [Qd, Bool.and_eq_true] at h; exact h.2)
  | 0, .tup l, h => by simp [Qd] at h
  | n + 1, .tup l, h => by
    simp only [Qd, Bool.and_eq_true, decide_eq_true_eq, List.all_eq_true] at h
    exact List.all_eq_true.mpr fun x hx => Qd_sh (h.2 x hx)
  | n, .lst _, h => by cases n <;> simp [Qd] at h
theorem shwL_of : ∀ {l : List D}, (∀ x ∈ l, D.shw x = true) → shwL l = true
  | [], _ => rfl
  | x :: l, h => by
    simp only [shwL, h x (by simp), shwL_of (l := l) fun y hy => h y (by simp [hy])]
    rfl
theorem Qd_shw {B L : Nat} (hB : B < 2 ^ 100) : ∀ {n : Nat} {x : D}, Qd B L n x = true → D.shw x = true
  | n, .non, _ => rfl
  | n, .bl _, _ => rfl
  | n, .int i, h => by
    have hi : i.natAbs ≤ B := by cases n <;> simpa [Qd] using h
    have := log100 hB hi
    simp only [D.shw, decide_eq_true_eq]; omega
  | n, .str s, h => rfl
  | 0, .tup l, h => by simp [Qd] at h
  | n + 1, .tup l, h => by
    simp only [Qd, Bool.and_eq_true, decide_eq_true_eq, List.all_eq_true] at h
    exact shwL_of fun x hx => Qd_shw hB (h.2 x hx)
  | n, .lst _, h => by cases n <;> simp [Qd] at h
theorem Qd_show {B L n : Nat} {x : D} (hB : B < 2 ^ 100) (hL : 1 ≤ L) (hG : Gz L n ≤ 16000000) (hn : n ≤ 60) (h : Qd B L n x = true) : canShow x = true := by
  unfold canShow
  rw [sh_up n 60 hn x (Qd_sh h), Qd_shw hB h, decide_eq_true (Nat.le_trans (Qd_sz hB hL h) (Nat.le_trans hG (by omega)))]
  rfl
/-! ### trees -/
def Tr.okB (B : Nat) : Tr → Prop
  | .leaf i => i.natAbs ≤ B
  | .node a b => a.okB B ∧ b.okB B
theorem ok_okB : ∀ {t : Tr}, t.ok → t.okB (10 ^ 30)
  | .leaf _, h => h
  | .node _ _, h => ⟨ok_okB h.1, ok_okB h.2⟩
theorem tr_sz {B : Nat} (hB : B < 2 ^ 100) : ∀ {t : Tr}, t.okB B → D.sz t.d + 6 ≤ 107 * 2 ^ t.dep
  | .leaf i, h => by
    have := log100 hB h
    simp only [Tr.d, D.sz, Tr.dep, Nat.pow_zero]
    omega
  | .node a b, h => by
    have h1 := tr_sz hB h.1
    have h2 := tr_sz hB h.2
    have m1 : 2 ^ a.dep ≤ 2 ^ (max a.dep b.dep) := Nat.pow_le_pow_right (by decide) (by omega)
    have m2 : 2 ^ b.dep ≤ 2 ^ (max a.dep b.dep) := Nat.pow_le_pow_right (by decide) (by omega)
    simp only [Tr.d, D.sz, szL, Tr.dep, Nat.pow_succ]
    omega
theorem tr_shw {B : Nat} (hB : B < 2 ^ 100) : ∀ {t : Tr}, t.okB B → D.shw t.d = true
  | .leaf i, h => by
    have := log100 hB h
    simp only [Tr.d, D.shw, decide_eq_true_eq]
    omega
  | .node a b, h => by simp only [Tr.d, D.shw, shwL, tr_shw hB h.1, tr_shw hB h.2]; rfl
theorem pow_dep {t : Tr} (h : t.dep ≤ 12) : 2 ^ t.dep ≤ 4096 := by
  have : 2 ^ t.dep ≤ 2 ^ 12 := Nat.pow_le_pow_right (by decide) h
  omega
theorem tr_show {B : Nat} {t : Tr} (hB : B < 2 ^ 100) (h : t.okB B) (hd : t.dep ≤ 12) : canShow t.d = true := by
  unfold canShow
  have h1 := tr_sz hB h
  have h2 := pow_dep hd
  rw [sh_d t 60 (by omega), tr_shw hB h, decide_eq_true (by omega)]
  rfl
theorem Qd_nums : ∀ {t : Tr}, t.dep ≤ 12 → Qd 61 4 t.dep t.nums = true
  | .leaf i, _ => rfl
  | .node a b, h => by
    simp only [Tr.dep] at h
    have h1 := Qd_up (B' := 61) (L' := 4) (n' := max a.dep b.dep) (Nat.le_refl _) (Nat.le_refl _) (by omega) (Qd_nums (t := a) (by omega))
    have h2 := Qd_up (B' := 61) (L' := 4) (n' := max a.dep b.dep) (Nat.le_refl _) (Nat.le_refl _) (by omega) (Qd_nums (t := b) (by omega))
    have h3 := need_le (.node a b)
    have h4 := need_pos (.node a b)
    simp only [Tr.dep] at h3
    simp only [Tr.nums, Tr.dep]
    refine Qd_tup (by simp) fun x hx => ?_
    simp only [List.mem_cons, List.not_mem_nil, or_false] at hx
    rcases hx with rfl | rfl | rfl
    · have : ((Tr.node a b).need).natAbs ≤ 61 := by omega
      simp only [Tr.need] at this
      generalize max a.dep b.dep = n
      cases n <;> simp [Qd] <;> exact this
    · exact h1
    · exact h2
theorem Qd_deeds {B : Nat} (hB : 61 ≤ B) : ∀ {t : Tr} {f : Int}, t.okB B → 0 ≤ f → f + t.dep ≤ 60 → ∀ x ∈ t.deeds f, Qd B 4 1 x = true
  | .leaf i, f, h, h1, h2, x, hx => by
    simp only [Tr.dep] at h2
    simp only [Tr.deeds, List.mem_cons, List.not_mem_nil, or_false] at hx
    subst hx
    have hi : i.natAbs ≤ B := h
    simp [row3, Qd]
    omega
  | .node a b, f, h, h1, h2, x, hx => by
    simp only [Tr.dep] at h2
    unfold Tr.deeds at hx
    have j : ∀ p q : Int, 0 ≤ p → p ≤ 61 → 0 ≤ q → q ≤ 61 → Qd B 4 1 (row4 f p q) = true := fun p q z1 z2 z3 z4 => by
      simp [row4, Qd]
      omega
    split at hx
    · simp only [List.mem_append, List.mem_cons, List.not_mem_nil, or_false] at hx
      rcases hx with (hx | hx) | rfl
      · exact Qd_deeds hB h.2 h1 (by omega) x hx
      · exact Qd_deeds hB h.1 (by omega) (by omega) x hx
      · exact j _ _ (by omega) (by omega) (by omega) (by omega)
    · simp only [List.mem_append, List.mem_cons, List.not_mem_nil, or_false] at hx
      rcases hx with (hx | hx) | rfl
      · exact Qd_deeds hB h.1 h1 (by omega) x hx
      · exact Qd_deeds hB h.2 (by omega) (by omega) x hx
      · exact j _ _ (by omega) (by omega) (by omega) (by omega)
theorem Qd_all {B : Nat} {t : Tr} (hB : 61 ≤ B) (h : t.okB B) (hd : t.dep ≤ 12) {L : Nat} (hs : t.size ≤ L) (hL : 4 ≤ L) : Qd B L 2 (.tup (t.deeds 0)) = true :=
  Qd_tup (by rw [deeds_len]; exact hs) fun x hx => Qd_up (Nat.le_refl _) hL (Nat.le_refl _) (Qd_deeds hB h (by omega) (by omega) x hx)
theorem row_of {B L n : Nat} {x : D} (hL : L ≤ 900) (hn : n ≤ 50) (h : Qd B L (n + 1) x = true) : Row x := ⟨fun l e y hy => by
  subst e
  simp only [Qd, Bool.and_eq_true, decide_eq_true_eq, List.all_eq_true] at h
  have := h.2 y hy
  refine ⟨sh_up n 50 hn y (Qd_sh this), fun z e => ?_⟩
  subst e
  cases n with
  | zero => simp [Qd] at this
  | succ n =>
    simp only [Qd, Bool.and_eq_true, decide_eq_true_eq] at this
    omega⟩
/-! ### what registers have can be written -/
def okB (B : Nat) (g : List D) : Prop := ∀ x ∈ g, x = .non ∨ ∃ t : Tr, x = t.d ∧ t.dep ≤ 12 ∧ t.okB B
theorem szL_set : ∀ {g : List D} {a : Nat} {x : D}, szL (g.set a x) ≤ szL g + (D.sz x + 2)
  | [], a, x => by simp [szL]
  | y :: g, 0, x => by simp only [List.set_cons_zero, szL]; omega
  | y :: g, a + 1, x => by
    have := szL_set (g := g) (a := a) (x := x)
    simp only [List.set_cons_succ, szL]
    omega
theorem okB_set {B : Nat} {g : List D} (hg : okB B g) {a : Nat} {x : D} (hx : ∃ t : Tr, x = t.d ∧ t.dep ≤ 12 ∧ t.okB B) : okB B (g.set a x) := fun y hy => by
  rcases List.mem_or_eq_of_mem_set hy with h | rfl
  · exact hg y h
  · exact .inr hx
theorem step_sz {B m : Nat} {g g' : List D} {x : D} (hB : B < 2 ^ 100) (hx : Qd B 40 2 x = true) (hg : okB B g) (h : stepN m g x = some g') : okB B g' ∧ szL g' ≤ szL g + 438272 := by
  have key : ∀ (t : Tr) (a : Nat), t.dep ≤ 12 → t.okB B → okB B (g.set a t.d) ∧ szL (g.set a t.d) ≤ szL g + 438272 := fun t a h1 h2 => by
    refine ⟨okB_set hg ⟨t, rfl, h1, h2⟩, ?_⟩
    have := szL_set (g := g) (a := a) (x := t.d)
    have := tr_sz hB h2
    have := pow_dep h1
    omega
  unfold stepN at h
  split at h
  · rename_i w a v
    split at h
    · cases h
      refine key (.leaf v) _ (by simp [Tr.dep]) ?_
      simp only [Qd, Bool.and_eq_true, decide_eq_true_eq, List.all_eq_true] at hx
      have := hx.2 (.int v) (by simp)
      simpa [Qd, Tr.okB] using this
    · cases h
  · rename_i w a p q
    split at h
    · unfold joinN at h
      split at h
      · rename_i x y e1 e2
        split at h
        · rename_i ht
          cases h
          have f1 := hg x (List.mem_of_getElem? e1)
          have f2 := hg y (List.mem_of_getElem? e2)
          have nx : ∀ z, isT .non z = false := fun z => by cases z <;> rfl
          simp only [isT, Bool.and_eq_true] at ht
          rcases f1 with rfl | ⟨t1, rfl, d1, o1⟩
          · rw [nx] at ht; cases ht.1
          rcases f2 with rfl | ⟨t2, rfl, d2, o2⟩
          · rw [nx] at ht; cases ht.2
          have r1 := isT_dep ht.1
          have r2 := isT_dep ht.2
          exact key (.node t1 t2) _ (by simp only [Tr.dep]; omega) ⟨o1, o2⟩
        · cases h
      · cases h
    · cases h
  · cases h
theorem fold_sz {B m : Nat} (hB : B < 2 ^ 100) : ∀ {l : List D} {g g' : List D}, (∀ x ∈ l, Qd B 40 2 x = true) → okB B g → l.foldlM (stepN m) g = some g' → okB B g' ∧ szL g' ≤ szL g + 438272 * l.length
  | [], g, g', _, hg, h => by
    simp only [List.foldlM_nil, pure, Option.some.injEq] at h
    subst h
    exact ⟨hg, by simp⟩
  | x :: l, g, g', hl, hg, h => by
    rw [List.foldlM_cons] at h
    cases e : stepN m g x with
    | none => rw [e] at h; cases h
    | some g1 =>
      rw [e] at h
      obtain ⟨h1, h2⟩ := step_sz hB (hl x (by simp)) hg e
      obtain ⟨h3, h4⟩ := fold_sz hB (fun y hy => hl y (by simp [hy])) h1 h
      refine ⟨h3, ?_⟩
      rw [List.length_cons, Nat.mul_succ]
      omega
theorem szL_nones (m : Nat) : szL (List.replicate m D.non) = 6 * m := by
  induction m with
  | zero => rfl
  | succ m ih => simp only [List.replicate_succ, szL, ih, D.sz]; omega
theorem run_show {B m : Nat} {x : D} (hB : B < 2 ^ 100) (hm : m ≤ 60) (hx : Qd B 33 3 x = true) : canShow (runD m x) = true := by
  unfold runD
  cases hq : doneD m x with
  | none => decide +kernel
  | some g =>
    cases x with
    | tup l =>
      simp only [Qd, Bool.and_eq_true, decide_eq_true_eq, List.all_eq_true] at hx
      have h0 : okB B (List.replicate m .non) := fun x hx => .inl (List.eq_of_mem_replicate hx)
      obtain ⟨h1, h2⟩ := fold_sz hB (fun x h => Qd_up (Nat.le_refl _) (by omega) (Nat.le_refl _) (hx.2 x h)) h0 hq
      rw [szL_nones] at h2
      have hl := Nat.mul_le_mul_left 438272 hx.1
      have e1 : ∀ x ∈ g, sh 12 x = true := fun x hx => by
        rcases h1 x hx with rfl | ⟨t, rfl, hd, _⟩
        · rfl
        · exact sh_d t 12 hd
      have e2 : shwL g = true := shwL_of fun x hx => by
        rcases h1 x hx with rfl | ⟨t, rfl, hd, ho⟩
        · rfl
        · exact tr_shw hB ho
      have e3 : sh 14 (.lst [.tup g]) = true := by
        simp only [sh, List.all_cons, List.all_nil, Bool.and_true]
        exact List.all_eq_true.mpr e1
      have e4 : D.sz (.lst [.tup g]) ≤ 16777216 := by simp only [D.sz, szL]; omega
      have e5 : D.shw (.lst [.tup g]) = true := by simp only [D.shw, shwL, e2]; rfl
      dsimp only
      unfold canShow
      rw [sh_up 14 60 (by omega) _ e3, e5, decide_eq_true e4]
      rfl
    | _ => cases hq
end K40
set_option Elab.async false
set_option linter.all false
set_option maxRecDepth 100000
set_option maxHeartbeats 1000000
namespace K40
open Fz
/-! ### what is refused -/
theorem exD_len' (t : Tr) (f : Nat) (g : List D) : (t.exD f g).length = g.length := exD_len t f g
theorem exD_at (t : Tr) (f : Nat) (g : List D) (h : f < g.length) : (t.exD f g)[f]? = some t.d := by
  have h1 := ex_at t f (g.map .d) (by simpa using h)
  rw [ex_map, List.getElem?_map] at h1
  cases e : (t.exD f g)[f]? with
  | none => rw [e] at h1; cases h1
  | some x =>
    rw [e] at h1
    simp only [Option.map_some, Option.some.injEq, W.d.injEq] at h1
    rw [h1]
theorem exD_low (t : Tr) (f j : Nat) (g : List D) (h : j < f) : (t.exD f g)[j]? = g[j]? := by
  have h1 := ex_low t f j (g.map .d) h
  rw [ex_map, List.getElem?_map, List.getElem?_map] at h1
  cases e : (t.exD f g)[j]? <;> cases e2 : g[j]? <;> rw [e, e2] at h1 <;> simp_all
theorem inR_nat {m p : Nat} (h : p < m) : inR m (p : Nat) = true := by
  unfold inR
  simp; omega
theorem step_load {m f : Nat} {g : List D} {i : Int} (hf : f < m) : stepN m g (row3 f (.int i)) = some (g.set f (.int i)) := by
  unfold stepN row3
  simp only [inR_nat hf]
  rfl
theorem step_join {m f p q : Nat} {g : List D} {a b : Tr} (hf : f < m) (hp : p < m) (hq : q < m) (e1 : g[p]? = some a.d) (e2 : g[q]? = some b.d) (hd : (Tr.node a b).dep ≤ 12) : stepN m g (row4 f p q) = some (g.set f (.tup [a.d, b.d])) := by
  unfold stepN row4
  simp only [inR_nat hf, inR_nat hp, inR_nat hq, Int.toNat_natCast]
  rw [if_pos (by rfl)]
  unfold joinN
  rw [e1, e2]
  dsimp only
  exact if_pos (tr_isT (t := .node a b) hd)
theorem done_deeds {m : Nat} : ∀ (t : Tr) (f : Nat) (g : List D), t.dep ≤ 12 → g.length = m → (f : Int) + t.need ≤ m → (t.deeds f).foldlM (stepN m) g = some (t.exD f g)
  | .leaf i, f, g, _, hm, hf => by
    simp only [Tr.need] at hf
    have := step_load (m := m) (f := f) (g := g) (i := i) (by omega)
    simp only [Tr.deeds, List.foldlM_cons, this, List.foldlM_nil]
    rfl
  | .node a b, f, g, hd, hm, hf => by
    have hd' := hd
    simp only [Tr.dep] at hd
    have pa := need_pos a
    have pb := need_pos b
    unfold Tr.deeds Tr.exD
    by_cases q : a.need < b.need
    · have hn' : (f : Int) + b.need ≤ m ∧ (f : Int) + 1 + a.need ≤ m := by
        simp only [Tr.need, nd] at hf
        rw [if_neg (by omega), if_pos q] at hf
        omega
      rw [if_pos q, if_pos q]
      have e1 := done_deeds b f g (by omega) hm hn'.1
      have e2 := done_deeds (m := m) a (f + 1) (b.exD f g) (by omega) (by rw [exD_len']; exact hm) (by omega)
      rw [show ((f + 1 : Nat) : Int) = (f : Int) + 1 by omega] at e2
      rw [List.foldlM_append, List.foldlM_append, e1]
      show (List.foldlM (stepN m) (b.exD f g) (a.deeds (f + 1)) >>= fun s => List.foldlM (stepN m) s [row4 f (f + 1) f]) = _
      rw [e2]
      have e3 := step_join (m := m) (f := f) (p := f + 1) (q := f) (g := a.exD (f + 1) (b.exD f g)) (a := a) (b := b) (by omega) (by omega) (by omega) (exD_at a _ _ (by rw [exD_len']; omega)) (by rw [exD_low a _ _ _ (by omega)]; exact exD_at b _ _ (by omega)) hd'
      rw [show ((f + 1 : Nat) : Int) = (f : Int) + 1 by omega] at e3
      show List.foldlM (stepN m) (a.exD (f + 1) (b.exD f g)) [row4 f (f + 1) f] = _
      simp only [List.foldlM_cons, e3, List.foldlM_nil]
      rfl
    · have hn' : (f : Int) + a.need ≤ m ∧ (f : Int) + 1 + b.need ≤ m := by
        simp only [Tr.need, nd] at hf
        by_cases q2 : a.need = b.need
        · rw [if_pos q2] at hf; omega
        · rw [if_neg q2, if_neg q] at hf; omega
      rw [if_neg q, if_neg q]
      have e1 := done_deeds a f g (by omega) hm hn'.1
      have e2 := done_deeds (m := m) b (f + 1) (a.exD f g) (by omega) (by rw [exD_len']; exact hm) (by omega)
      rw [show ((f + 1 : Nat) : Int) = (f : Int) + 1 by omega] at e2
      rw [List.foldlM_append, List.foldlM_append, e1]
      show (List.foldlM (stepN m) (a.exD f g) (b.deeds (f + 1)) >>= fun s => List.foldlM (stepN m) s [row4 f f (f + 1)]) = _
      rw [e2]
      have e3 := step_join (m := m) (f := f) (p := f) (q := f + 1) (g := b.exD (f + 1) (a.exD f g)) (a := a) (b := b) (by omega) (by omega) (by omega) (by rw [exD_low b _ _ _ (by omega)]; exact exD_at a _ _ (by omega)) (exD_at b _ _ (by rw [exD_len']; omega)) hd'
      rw [show ((f + 1 : Nat) : Int) = (f : Int) + 1 by omega] at e3
      show List.foldlM (stepN m) (b.exD (f + 1) (a.exD f g)) [row4 f f (f + 1)] = _
      simp only [List.foldlM_cons, e3, List.foldlM_nil]
      rfl
/-- pairs one within the other -/
inductive Chn : Nat → Tr → Prop
  | one : Chn 0 (.leaf 1)
  | l {n : Nat} {t : Tr} : Chn n t → Chn (n + 1) (.node t (.leaf 2))
  | r {n : Nat} {t : Tr} : Chn n t → Chn (n + 1) (.node (.leaf 2) t)
theorem Chn.dep {n : Nat} {t : Tr} (h : Chn n t) : t.dep = n := by
  induction h with
  | one => rfl
  | l h ih => simp only [Tr.dep, ih]; omega
  | r h ih => simp only [Tr.dep, ih]; omega
theorem Chn.ok {n : Nat} {t : Tr} (h : Chn n t) : t.okB 61 := by
  induction h with
  | one => simp [Tr.okB]
  | l h ih => exact ⟨ih, by simp [Tr.okB]⟩
  | r h ih => exact ⟨by simp [Tr.okB], ih⟩
theorem Chn.need {n : Nat} {t : Tr} (h : Chn n t) : t.need ≤ 2 := by
  induction h with
  | one => simp [Tr.need]
  | @l n t h ih =>
    have := need_pos t
    simp only [Tr.need, nd]
    rcases (by omega : t.need = 1 ∨ t.need = 2) with q | q <;> rw [q] <;> decide
  | @r n t h ih =>
    have := need_pos t
    simp only [Tr.need, nd]
    rcases (by omega : t.need = 1 ∨ t.need = 2) with q | q <;> rw [q] <;> decide
theorem isT_big {t : Tr} {n : Nat} (h : n < t.dep) : isT t.d n = false := by
  cases q : isT t.d n with
  | false => rfl
  | true =>
    have := isT_dep q
    omega
/-- the functions that look at the tree first -/
theorem bad_tree {k : Nat} {x : D} {h : Hh} (hx : isT x 12 = false) (hk : 15 ≤ k) :
    run (k + 1) 4 [.d x] h = .ex 1 (.d treeS) h ∧ run (k + 1) 6 [.d x] h = .ex 1 (.d treeS) h ∧ run (k + 1) 10 [.d x] h = .ex 1 (.d treeS) h ∧
    (∀ y z, run (k + 1) 9 [.d x, .d y, .d z] h = .ex 1 (.d treeS) h) ∧ ∀ y, run (k + 1) 12 [.d x, .d y] h = .ex 1 (.d treeS) h := by
  have e := p2g (k := k) (x := x) (h := h) hk
  rw [hx, if_neg Bool.false_ne_true] at e
  refine ⟨?_, ?_, ?_, fun y z => ?_, fun y => ?_⟩
  · rw [run_4]; simp [mkFn, c_4, e]
  · rw [run_6]; simp [mkFn, c_6, e]
  · rw [run_10]; simp [mkFn, c_10, e]
  · rw [run_9]; simp [mkFn, c_9, e]
  · rw [run_12]; simp [mkFn, c_12, e]
def manyL : List D := [.int (-1), .int 61, .bl true, .non]
theorem bad_many {k : Nat} {t : Tr} {y : D} {h : Hh} (ht : t.dep ≤ 12) (hy : y ∈ manyL) (hk : 15 ≤ k) : run (k + 1) 9 [.d t.d, .d y, .d .non] h = .ex 1 (.d manyS) h ∧ run (k + 1) 7 [.d y, .d .non] h = .ex 1 (.d manyS) h := by
  obtain ⟨k, rfl⟩ : ∃ j, k = j + 1 := ⟨k - 1, by omega⟩
  have e := p2g (k := k + 1) (x := t.d) (h := h) (by omega)
  rw [tr_isT ht, if_pos rfl] at e
  simp only [manyL, List.mem_cons, List.not_mem_nil, or_false] at hy
  constructor
  · rw [run_9]
    rcases hy with rfl | rfl | rfl | rfl <;> simp [mkFn, c_9, e, p0, isI, cch, sRaise, okP, manyS]
  · rw [run_7]
    rcases hy with rfl | rfl | rfl | rfl <;> simp [mkFn, c_7, p0, isI, cch, sRaise, okP, manyS]
end K40
set_option Elab.async false
set_option linter.all false
set_option maxRecDepth 100000
set_option maxHeartbeats 1000000
namespace K40
open Fz
def aTree : D := .str [97, 114, 103, 117, 109, 101, 110, 116, 32, 116, 114, 101, 101]
def aMany : D := .str [97, 114, 103, 117, 109, 101, 110, 116, 32, 109, 97, 110, 121]
section
variable {k : Nat} {x y z : D} {h : Hh} {t : Tr}
theorem ex_ask {g : Fn} {ws : List W} {ds : List D} {h' : Hh} (ha : allD ws = some ds) (e : g ws [] = .ex 1 (.d treeS) h') : asked [1, 2] su_0 (pure' g ws h) = .ok (.d aTree) h := by
  rw [pure_ex ha e]
  rfl
theorem ex_askM {g : Fn} {ws : List W} {ds : List D} {h' : Hh} (ha : allD ws = some ds) (e : g ws [] = .ex 1 (.d manyS) h') : asked [1, 2] su_0 (pure' g ws h) = .ok (.d aMany) h := by
  rw [pure_ex ha e]
  rfl
theorem ask_t4 (hx : isT x 12 = false) : run (k + 17) 18 [.f needQ, .d (.lst [x])] h = .ok (.d aTree) h := by
  rw [a1 (g := run (k + 16) 4) rfl]
  exact ex_ask rfl (bad_tree (k := k + 15) (h := []) hx (by omega)).1
theorem ask_t6 (hx : isT x 12 = false) : run (k + 17) 18 [.f forQ, .d (.lst [x])] h = .ok (.d aTree) h := by
  rw [a1 (g := run (k + 16) 6) rfl]
  exact ex_ask rfl (bad_tree (k := k + 15) (h := []) hx (by omega)).2.1
theorem ask_t10 (hx : isT x 12 = false) : run (k + 17) 18 [.f nbdQ, .d (.lst [x])] h = .ok (.d aTree) h := by
  rw [a1 (g := run (k + 16) 10) rfl]
  exact ex_ask rfl (bad_tree (k := k + 15) (h := []) hx (by omega)).2.2.1
theorem ask_t9 (hx : isT x 12 = false) : run (k + 17) 18 [.f accQ, .d (.lst [x, y, z])] h = .ok (.d aTree) h := by
  rw [a3 (g := run (k + 16) 9) rfl]
  exact ex_ask rfl ((bad_tree (k := k + 15) (h := []) hx (by omega)).2.2.2.1 y z)
theorem ask_t12 (hx : isT x 12 = false) : run (k + 17) 18 [.f numQ, .d (.lst [x, y])] h = .ok (.d aTree) h := by
  rw [a2 (g := run (k + 16) 12) rfl]
  exact ex_ask rfl ((bad_tree (k := k + 15) (h := []) hx (by omega)).2.2.2.2 y)
theorem ask_m9 (ht : t.dep ≤ 12) (hy : y ∈ manyL) : run (k + 17) 18 [.f accQ, .d (.lst [t.d, y, .non])] h = .ok (.d aMany) h := by
  rw [a3 (g := run (k + 16) 9) rfl]
  exact ex_askM rfl (bad_many (k := k + 15) (h := []) ht hy (by omega)).1
theorem ask_m7 (hy : y ∈ manyL) : run (k + 17) 18 [.f runQ, .d (.lst [y, .non])] h = .ok (.d aMany) h := by
  rw [a2 (g := run (k + 16) 7) rfl]
  exact ex_askM rfl (bad_many (t := .leaf 0) (k := k + 15) (h := []) (by simp [Tr.dep]) hy (by omega)).2
end
theorem p17 {k : Nat} {d : D} {h : Hh} (hd : canShow d = true) : pure' (run (k + 1) 17) [.d d, .d d] h = .ok (.d (.bl true)) h := same_pure hd
theorem row_deeds {B : Nat} {t : Tr} {l : List D} (hB : 61 ≤ B) (h : t.okB B) (hd : t.dep ≤ 12) (hl : ∀ x ∈ l, Qd B 4 1 x = true) : Row (.tup (t.deeds 0 ++ l)) := ⟨fun m e y hy => by
  cases e
  have : Qd B 4 1 y = true := (List.mem_append.mp hy).elim (Qd_deeds hB h (by omega) (by omega) y) (hl y)
  refine ⟨sh_up 1 50 (by omega) y (Qd_sh this), fun z e => ?_⟩
  subst e
  simp only [Qd, Bool.and_eq_true, decide_eq_true_eq] at this
  omega⟩
def ownR : D := .tup [loadS, .int 1, .int 7]
def ownJ : D := .tup [joinS, .int 0, .int 0, .int 1]
theorem chain_done {t : Tr} (hc : Chn 12 t) : doneN 13 (t.deeds 0) = some (t.exD 0 (List.replicate 13 .non)) := by
  have h1 := hc.need
  have h2 := hc.dep
  exact done_deeds (m := 13) t 0 (List.replicate 13 .non) (by omega) (by simp) (by simp; omega)
theorem chain_own {t : Tr} (hc : Chn 12 t) : doneN 13 (t.deeds 0 ++ [ownR]) = some ((t.exD 0 (List.replicate 13 .non)).set 1 (.int 7)) := by
  have e := chain_done hc
  unfold doneN at e ⊢
  rw [List.foldlM_append, e]
  rfl
theorem chain_no {t : Tr} (hc : Chn 12 t) : doneN 13 (t.deeds 0 ++ [ownR] ++ [ownJ]) = none := by
  have e := chain_own hc
  have h2 := hc.dep
  unfold doneN at e ⊢
  rw [List.foldlM_append, e]
  have q0 : ((t.exD 0 (List.replicate 13 .non)).set 1 (.int 7))[0]? = some t.d := by
    rw [List.getElem?_set_ne (by omega)]
    exact exD_at t 0 _ (by simp)
  have q1 : ((t.exD 0 (List.replicate 13 .non)).set 1 (.int 7))[1]? = some (.int 7) := List.getElem?_set_self (by rw [exD_len']; simp)
  show List.foldlM (stepN 13) _ [ownJ] = none
  have : stepN 13 ((t.exD 0 (List.replicate 13 .non)).set 1 (.int 7)) ownJ = none := by
    show joinN _ 0 0 1 = none
    unfold joinN
    rw [q0, q1]
    dsimp only
    rw [if_neg]
    simp only [isT, Bool.and_eq_true, not_and]
    intro q
    rw [isT_big (by omega)] at q
    cases q
  simp only [List.foldlM_cons, this]
  rfl
theorem mul5 {x : D} {h : Hh} : opMul false (.r h.length) (.d (.int 5)) (h ++ [.lst [.d x]]) = .ok (.d (.lst [x, x, x, x, x])) (h ++ [.lst [.d x]]) := by
  unfold opMul
  have e : (h ++ [O.lst [.d x]])[h.length]? = some (.lst [.d x]) := by simp
  dsimp only
  rw [e]
  dsimp only
  rw [if_pos (by simp)]
  rfl
section
variable {ns : List Int} {rest : List W}
theorem s30 {k : Nat} {t : Hh} {tr : Tr} {a b s : Int} (ht : tr.dep ≤ 12) (ha : 0 ≤ a) (hb : 0 ≤ b) :
    Ok (run (k + 24) 30 [.r 0, .d tr.d] (St ns a b s rest :: t)) (fun w h => ∃ a' b' s' t', w = .d (.bl true) ∧ h = St ns a' b' s' rest :: t' ∧ 0 ≤ a' ∧ 0 ≤ b') noE := by
  rw [run_30]
  refine wp_fn rfl (by walk_at "e") ?_
  unfold c_30
  walk_at "z"
  refine sk_for (I := fun j e h => ∃ u y3 a b s, Chn j u ∧ e = [some (.r 0), some (.d tr.d), some (.d u.d), y3, none, none, none, none, none, none] ∧ h = St ns a b s rest :: t ∧ 0 ≤ a ∧ 0 ≤ b) (r1_at (n := 13) rfl (by omega)) ⟨_, _, _, _, _, .one, rfl, rfl, ha, hb⟩ ?_ ?_
  · rintro j y _ _ hj ⟨u, y3, a, b, s, hu, rfl, rfl, g1, g2⟩
    rw [List.getElem?_map, Option.map_eq_some_iff] at hj
    obtain ⟨i, hi, rfl⟩ := hj
    refine ⟨_, rfl, ?_⟩
    unfold c_30_0
    walk_at "z"
    refine dr g1 g2 (by omega) fun v a b s v1 v2 g1 g2 => ?_
    walk_at "z"
    refine br_d (fun z => ?_) fun z => ?_
    · walk_at "z"
      exact ⟨.node u (.leaf 2), _, _, _, _, .l hu, rfl, rfl, g1, g2⟩
    · walk_at "z"
      exact ⟨.node (.leaf 2) u, _, _, _, _, .r hu, rfl, rfl, g1, g2⟩
  · rintro _ _ ⟨u, y3, a, b, s, hu, rfl, rfl, g1, g2⟩
    rw [List.length_map, List.length_range] at hu
    have hu : Chn 13 u := hu
    have hud := hu.dep
    obtain ⟨p, q, rfl⟩ : ∃ p q, u = .node p q := by
      cases u with
      | leaf i => simp [Tr.dep] at hud
      | node p q => exact ⟨p, q, rfl⟩
    have hin : ∃ v, Chn 12 v ∧ (v = p ∧ isD .tup p.d = true ∨ v = q ∧ isD .tup p.d = false) := by
      cases hu with
      | l h =>
        refine ⟨_, h, .inl ⟨rfl, ?_⟩⟩
        have := h.dep
        cases p with
        | leaf i => simp [Tr.dep] at this
        | node _ _ => rfl
      | r h => exact ⟨_, h, .inr ⟨rfl, rfl⟩⟩
    simp only [Tr.d]
    obtain ⟨v, hv, hv2⟩ := hin
    refine wp_thn (by walk_at "e") (wp_seq (wp_asgN (wp_eq (a := W.d v.d) (h := St ns a b s rest :: t) ?_ ?_)))
    · rcases hv2 with ⟨rfl, e⟩ | ⟨rfl, e⟩ <;> simp [e]
    walk_at "z"
    refine pk_l g1 g2 (by simp) fun x a b s hx g1 g2 => ?_
    have hbad : isT x 12 = false := by
      simp only [List.mem_cons, List.not_mem_nil, or_false] at hx
      rcases hx with rfl | rfl | rfl | rfl | rfl | rfl | rfl | rfl | rfl
      · rfl
      · rfl
      · rfl
      · rfl
      · rfl
      · rfl
      · rfl
      · exact isT_big (t := .node p q) (by omega)
      · rfl
    walk_at "z"
    refine pk_l g1 g2 (by simp) fun y a b s hy g1 g2 => ?_
    walk_at "z"
    refine wp_eq (ask_t4 (k := k + 6) hbad) ?_
    walk_at "z"
    refine wp_eq (ask_t6 (k := k + 6) hbad) ?_
    walk_at "z"
    refine wp_eq (ask_t10 (k := k + 6) hbad) ?_
    walk_at "z"
    refine wp_eq (ask_t9 (k := k + 6) hbad) ?_
    walk_at "z"
    refine wp_eq (ask_t12 (k := k + 6) hbad) ?_
    walk_at "z"
    refine wp_eq mul5 ?_
    refine wp_eq (a := .d (.bl false)) (by rfl) ?_
    walk_at "z"
    refine wp_eq (ask_m9 (k := k + 6) ht hy) ?_
    refine wp_cc ?_
    refine wp_eq (a := .d (.bl false)) (by rfl) ?_
    walk_at "z"
    refine wp_eq (ask_m7 (k := k + 6) hy) ?_
    refine wp_cc ?_
    refine wp_eq (a := .d (.bl false)) (by rfl) ?_
    walk_at "z"
    have hvd := hv.dep
    refine wp_eq (pure_ok rfl (s21 v 0 (k + 23) [] (by omega) (by omega))) ?_
    walk_at "z"
    have r0 : Row (.tup (v.deeds 0)) := by
      have := row_deeds (l := []) (Nat.le_refl _) hv.ok (by omega) (fun x hx => nomatch hx)
      rwa [List.append_nil] at this
    have r1 : Row (.tup (v.deeds 0 ++ [ownR])) := row_deeds (Nat.le_refl _) hv.ok (by omega) (by decide)
    have r2 : Row (.tup (v.deeds 0 ++ [ownR] ++ [ownJ])) := by
      rw [List.append_assoc]
      exact row_deeds (Nat.le_refl _) hv.ok (by omega) (by decide)
    have sz := size_small (t := v) (by omega)
    have dl := deeds_len v 0
    refine wp_eq (ask_acc (k := k) (m := 13) (t := v) (x := .tup (v.deeds 0)) (by omega) (by omega) r0) ?_
    have hl : lawD v 13 (.tup (v.deeds 0)) = .lst [.non] := by
      unfold lawD
      rw [show doneD 13 (.tup (v.deeds 0)) = doneN 13 (v.deeds 0) from rfl, chain_done hv]
      dsimp only
      rw [if_pos (exD_at v 0 _ (by simp))]
    rw [hl]
    walk_at "z"
    refine wp_eq (p17 (by decide +kernel)) ?_
    walk_at "z"
    refine wp_eq (ask_run (k := k) (m := 13) (x := .tup (v.deeds 0 ++ [ownR] ++ [ownJ])) (by omega) r2) ?_
    have hr : runD 13 (.tup (v.deeds 0 ++ [ownR] ++ [ownJ])) = aDeeds := by
      unfold runD
      rw [show doneD 13 (.tup (v.deeds 0 ++ [ownR] ++ [ownJ])) = doneN 13 (v.deeds 0 ++ [ownR] ++ [ownJ]) from rfl, chain_no hv]
    rw [hr]
    refine wp_cc ?_
    refine wp_eq (a := .d (.bl true)) (by rfl) ?_
    walk_at "z"
    refine wp_eq (ask_run (k := k) (m := 13) (x := .tup (v.deeds 0 ++ [ownR])) (by omega) r1) ?_
    have hr : runD 13 (.tup (v.deeds 0 ++ [ownR])) = .lst [.tup ((v.exD 0 (List.replicate 13 .non)).set 1 (.int 7))] := by
      unfold runD
      rw [show doneD 13 (.tup (v.deeds 0 ++ [ownR])) = doneN 13 (v.deeds 0 ++ [ownR]) from rfl, chain_own hv]
    rw [hr]
    walk_at "z"
    exact ⟨a, b, s, _, rfl, rfl, g1, g2⟩
end
end K40
set_option Elab.async false
set_option linter.all false
set_option maxRecDepth 100000
set_option maxHeartbeats 1000000
namespace K40
open Fz
theorem lawD_show {t : Tr} {m : Nat} {x : D} : canShow (lawD t m x) = true := by
  unfold lawD
  cases doneD m x with
  | none =>
    dsimp only
    decide +kernel
  | some g =>
    dsimp only
    split <;> decide +kernel
theorem numD_show {t : Tr} {x : D} : canShow (numD t x) = true := by
  unfold numD
  split <;> decide +kernel
def BB : Nat := 10 ^ 30
theorem BB_lt : BB + 1 < 2 ^ 100 := by decide
section
variable {ns : List Int} {rest : List W}
theorem turn_k {k i : Nat} {t : Hh} {tr : Tr} {a b s : Int} {x0 x2 x7 x8 x9 x10 : Option W} (hd : tr.dep ≤ 4) (ho : tr.ok) (ha : 0 ≤ a) (hb : 0 ≤ b) :
    Sk (c_31_0 (run (k + 23)) [x0, some (.r 0), x2, some (.d tr.d), some (.d (.int tr.need)), some (.d (.tup (tr.deeds 0))), some (.d (.int i)), x7, x8, x9, x10] (St ns a b s rest :: t))
      (fun r => ∃ y7 y8 y9 y10 a' b' s', r = .nx [x0, some (.r 0), x2, some (.d tr.d), some (.d (.int tr.need)), some (.d (.tup (tr.deeds 0))), some (.d (.int i)), y7, y8, y9, y10] (St ns a' b' s' rest :: t) ∧ 0 ≤ a' ∧ 0 ≤ b') := by
  have n1 := need_le tr
  have n2 := need_pos tr
  have hob := ok_okB ho
  have hsz : tr.size ≤ 31 := by
    have := size_le tr
    have : 2 ^ (tr.dep + 1) ≤ 2 ^ 5 := Nat.pow_le_pow_right (by decide) (by omega)
    omega
  have qd : Qd BB 32 2 (.tup (tr.deeds 0)) = true := Qd_all (B := BB) (by decide) hob (by omega) (by omega) (by omega)
  have qn : Qd 61 4 tr.dep tr.nums = true := Qd_nums (by omega)
  unfold c_31_0
  walk_at "z"
  refine pk_l ha hb (by simp) fun x a b s hx g1 g2 => ?_
  have : ∃ m : Nat, x = .int m ∧ m ≤ 60 := by
    simp only [List.mem_cons, List.not_mem_nil, or_false] at hx
    rcases hx with rfl | rfl | rfl | rfl | rfl | rfl | rfl
    · exact ⟨tr.need.toNat, by congr 1; omega, by omega⟩
    · exact ⟨tr.need.toNat, by congr 1; omega, by omega⟩
    · exact ⟨tr.need.toNat, by congr 1; omega, by omega⟩
    · exact ⟨(tr.need + 1).toNat, by congr 1; omega, by omega⟩
    · exact ⟨(tr.need - 1).toNat, by congr 1; omega, by omega⟩
    · exact ⟨0, rfl, by omega⟩
    · exact ⟨60, rfl, by omega⟩
  obtain ⟨m, rfl, hm⟩ := this
  refine wp_thn (by walk_at "e") (wp_seq (wp_asgN (wp_n (P' := fun w h => ∃ x a b s, w = .d x ∧ h = St ns a b s rest :: t ∧ Qd (BB + 1) 33 3 x = true ∧ 0 ≤ a ∧ 0 ≤ b) ?_ ?_)))
  · walk_at "z"
    refine br_d (fun z => ?_) fun z => ?_
    · walk_at "z"
      exact ⟨_, _, _, _, rfl, rfl, Qd_up (by omega) (by omega) (by omega) qd, g1, g2⟩
    · walk_at "z"
      refine wp_n (s29 (B := BB) (L := 32) (by decide) (by omega) 2 (k + 23) _ _ _ _ (by omega) qd g1 g2) ?_
      rintro _ _ ⟨d, a, b, s, rfl, rfl, g1, g2, hq⟩
      exact ⟨_, _, _, _, rfl, rfl, hq, g1, g2⟩
  rintro _ _ ⟨x, a, b, s, rfl, rfl, hx, g1, g2⟩
  have hr : Row x := row_of (by omega) (by omega) hx
  walk_at "z"
  refine wp_eq (ask_acc (k := k) (by omega) hm hr) ?_
  walk_at "z"
  refine wp_eq (pure_ok rfl (s27 (k := k + 1) (h := []) (by omega) (tr_show (B := BB) (by decide) hob (by omega)) hm hr)) ?_
  walk_at "z"
  refine wp_eq (p17 lawD_show) ?_
  walk_at "z"
  have rs : canShow (runD m x) = true := run_show BB_lt hm hx
  have r := r25 (k := k + 2) (m := m) (x := x) (h := []) (by omega) hr
  have q25 : pure' (run (k + 23) 25) [.d (.int m), .d x] (St ns a b s rest :: t) = .ok (.d (match doneD m x with | none => .non | some g => .tup g)) (St ns a b s rest :: t) := by
    cases hq : doneD m x with
    | none =>
      rw [hq] at r
      obtain ⟨h', r⟩ := r
      exact pure_ok rfl r
    | some g =>
      rw [hq] at r
      obtain ⟨_, _, h', r⟩ := r
      exact pure_ok rfl r
  refine wp_eq q25 ?_
  walk_at "z"
  refine wp_eq (ask_run (k := k) hm hr) ?_
  refine wp_cons (wp_n (P' := fun w h => w = .d (runD m x) ∧ h = St ns a b s rest :: t) ?_ ?_)
  · unfold runD
    cases doneD m x with
    | none =>
      walk_at "z"
      exact ⟨rfl, rfl⟩
    | some g =>
      walk_at "z"
      exact ⟨rfl, rfl⟩
  rintro _ _ ⟨rfl, rfl⟩
  walk_at "z"
  refine wp_eq (p17 rs) ?_
  refine wp_truB (br_n (br_t (wp_nx (wp_thn (by walk_at "e") (wp_seq (wp_asgN (wp_n (P' := fun w h => ∃ x a b s, w = .d x ∧ h = St ns a b s rest :: t ∧ canShow x = true ∧ 0 ≤ a ∧ 0 ≤ b) ?_ ?_)))))))
  · walk_at "z"
    refine br_d (fun z => ?_) fun z => ?_
    · walk_at "z"
      refine wp_eq (pure_ok rfl (s22 tr (k + 23) [] (by omega))) ?_
      exact ⟨_, _, _, _, rfl, rfl, Qd_show (B := 61) (L := 4) (n := 4) (by decide) (by decide) (by decide) (by decide) (Qd_up (Nat.le_refl _) (Nat.le_refl _) hd qn), g1, g2⟩
    · walk_at "z"
      refine wp_eq (pure_ok rfl (s22 tr (k + 23) [] (by omega))) ?_
      walk_at "z"
      refine wp_n (s29 (B := 61) (L := 4) (by decide) (by omega) 4 (k + 23) _ _ _ _ (by omega) (Qd_up (Nat.le_refl _) (Nat.le_refl _) hd qn) g1 g2) ?_
      rintro _ _ ⟨d, a, b, s, rfl, rfl, g1, g2, hq⟩
      exact ⟨_, _, _, _, rfl, rfl, Qd_show (B := 62) (L := 5) (n := 5) (by decide) (by decide) (by decide) (by decide) hq, g1, g2⟩
  rintro _ _ ⟨y, a, b, s, rfl, rfl, hy, g1, g2⟩
  walk_at "z"
  refine wp_eq (ask_num (k := k) (by omega)) ?_
  walk_at "z"
  refine wp_eq (pure_ok rfl (s26 (k := k + 8) (h := []) (by omega) hy (Qd_show (B := 61) (L := 4) (n := 4) (by decide) (by decide) (by decide) (by decide) (Qd_up (Nat.le_refl _) (Nat.le_refl _) hd qn)))) ?_
  have ns' := numD_show (t := tr) (x := y)
  unfold numD at ns' ⊢
  by_cases z : y = tr.nums
  · rw [if_pos z] at ns' ⊢
    rw [decide_eq_true z]
    walk_at "z"
    refine wp_eq (p17 ns') ?_
    walk_at "z"
    exact ⟨_, _, _, _, _, _, _, rfl, g1, g2⟩
  · rw [if_neg z] at ns' ⊢
    rw [decide_eq_false z]
    walk_at "z"
    refine wp_eq (p17 ns') ?_
    walk_at "z"
    exact ⟨_, _, _, _, _, _, _, rfl, g1, g2⟩
end
end K40
set_option Elab.async false
set_option linter.all false
set_option maxRecDepth 100000
set_option maxHeartbeats 1000000
namespace K40
open Fz
section
variable {ns : List Int} {rest : List W}
theorem turn {k : Nat} {t : Hh} {a b s : Int} {x0 x2 x3 x4 x5 x6 x7 x8 x9 x10 : Option W} (ha : 0 ≤ a) (hb : 0 ≤ b) :
    Sk (c_31_1 (run (k + 24)) [x0, some (.r 0), x2, x3, x4, x5, x6, x7, x8, x9, x10] (St ns a b s rest :: t))
      (fun r => ∃ y3 y4 y5 y6 y7 y8 y9 y10 a' b' s' t', r = .nx [x0, some (.r 0), x2, y3, y4, y5, y6, y7, y8, y9, y10] (St ns a' b' s' rest :: t') ∧ 0 ≤ a' ∧ 0 ≤ b') := by
  unfold c_31_1
  walk_at "z"
  refine pk_l ha hb (by simp) fun x a b s hx g1 g2 => ?_
  have : ∃ d : Nat, x = .int d ∧ d ≤ 4 := by
    simp only [List.mem_cons, List.not_mem_nil, or_false] at hx
    rcases hx with rfl | rfl | rfl | rfl
    · exact ⟨0, rfl, by omega⟩
    · exact ⟨1, rfl, by omega⟩
    · exact ⟨2, rfl, by omega⟩
    · exact ⟨4, rfl, by omega⟩
  obtain ⟨d, rfl, hd⟩ := this
  walk_at "z"
  refine wp_n (s19 (k + 24) d _ _ _ (by omega) (by omega) g1 g2) ?_
  rintro _ _ ⟨tr, a, b, s, rfl, rfl, hdep, ho, g1, g2⟩
  walk_at "z"
  refine wp_eq (p20 (t := tr) (by omega)) ?_
  walk_at "z"
  refine wp_eq (pure_ok rfl (s21 tr 0 (k + 24) [] (by omega) (by omega))) ?_
  walk_at "z"
  refine sk_for (I := fun j e h => ∃ y6 y7 y8 y9 y10 a b s, e = [x0, some (.r 0), x2, some (.d tr.d), some (.d (.int tr.need)), some (.d (.tup (tr.deeds 0))), y6, y7, y8, y9, y10] ∧ h = St ns a b s rest :: t ∧ 0 ≤ a ∧ 0 ≤ b) (r1_at (n := 8) rfl (by omega)) ⟨_, _, _, _, _, _, _, _, rfl, rfl, g1, g2⟩ ?_ ?_
  · rintro j y _ _ hj ⟨y6, y7, y8, y9, y10, a, b, s, rfl, rfl, g1, g2⟩
    rw [List.getElem?_map, Option.map_eq_some_iff] at hj
    obtain ⟨i, hi, rfl⟩ := hj
    refine ⟨_, rfl, ?_⟩
    refine Sk.mono (turn_k (ns := ns) (rest := rest) (k := k + 1) (i := i) (tr := tr) (by omega) ho g1 g2) ?_
    rintro _ ⟨y7, y8, y9, y10, a, b, s, rfl, g1, g2⟩
    exact ⟨_, _, _, _, _, _, _, _, rfl, rfl, g1, g2⟩
  · rintro _ _ ⟨y6, y7, y8, y9, y10, a, b, s, rfl, rfl, g1, g2⟩
    walk_at "z"
    refine wp_n (s30 (ns := ns) (rest := rest) (k := k) (tr := tr) (by omega) g1 g2) ?_
    rintro _ _ ⟨a, b, s, t', rfl, rfl, g1, g2⟩
    walk_at "z"
    exact ⟨_, _, _, _, _, _, _, _, _, _, _, _, rfl, g1, g2⟩
end
/-! ### the end -/
theorem plain (ns : List Int) (hn : ns.length ≤ 63) (_ : ∀ z ∈ ns, PySem.Builtin.Int.intBits z ≤ 1048576) : ∃ h', run 40 31 [scr ns] [] = .ok (.d (.bl true)) h' := by
  refine ok_val ?_
  rw [run_31]
  refine wp_fn rfl (by walk_at "e") ?_
  unfold c_31
  walk_at "z"
  refine wp_n (start_ok (ns := ns) (P := fun w h => ∃ s, w = .r 0 ∧ h = [St ns 0 0 s []]) (E := noE) hn fun s => ⟨s, rfl, rfl⟩) ?_
  rintro _ _ ⟨s, rfl, rfl⟩
  walk_at "z"
  refine sk_for (I := fun j e h => ∃ y2 y3 y4 y5 y6 y7 y8 y9 y10 a b s T, e = [some (scr ns), some (.r 0), y2, y3, y4, y5, y6, y7, y8, y9, y10] ∧ h = St ns a b s [] :: T ∧ 0 ≤ a ∧ 0 ≤ b) (r1_at (n := 3) rfl (by omega)) ⟨_, _, _, _, _, _, _, _, _, 0, 0, s, [], rfl, rfl, by omega, by omega⟩ ?_ ?_
  · rintro j y _ _ hj ⟨y2, y3, y4, y5, y6, y7, y8, y9, y10, a, b, s, T, rfl, rfl, g1, g2⟩
    rw [List.getElem?_map, Option.map_eq_some_iff] at hj
    obtain ⟨i, hi, rfl⟩ := hj
    refine ⟨_, rfl, ?_⟩
    refine Sk.mono (turn (ns := ns) (rest := []) (k := 15) g1 g2) ?_
    rintro _ ⟨y3, y4, y5, y6, y7, y8, y9, y10, a, b, s, T, rfl, g1, g2⟩
    exact ⟨_, _, _, _, _, _, _, _, _, _, _, _, _, rfl, rfl, g1, g2⟩
  · rintro _ _ ⟨y2, y3, y4, y5, y6, y7, y8, y9, y10, a, b, s, T, rfl, rfl, g1, g2⟩
    walk_at "z"
    rfl
end K40
open PySem PySem.W PyProof.Rows in
set_option maxRecDepth 100000 in
set_option maxHeartbeats 0 in
theorem PySem.Challenge.cw_nowayleft_k40_papers_and_arguments_of_tr_holds : PySem.Challenge.rw_nowayleft_k40_papers_and_arguments_of_tr.Holds := by
  w_on; o_law; k_head; (case hw => w_witness2)
  k_fill
  refine Fz.walkG (l := PySem.Challenge.rw_nowayleft_k40_papers_and_arguments_of_tr) (n := 63) (k := 3 * 40) (x := "script") (g := K40.run 40 31) rfl (by decide) rfl ⟨rfl, by decide, by decide⟩ (fun w h Y => PySem.W.kIn_of Y) (fun w => Fz.noLst_of (by rfl)) ?F K40.plain
  case F =>
    intro w mg fa h KX G hmg
    refine' K40.all_mk KX G hmg ?a0 ?l0 ?c0 ?k0 ?a1 ?l1 ?c1 ?k1 ?a2 ?l2 ?c2 ?k2 ?a3 ?l3 ?c3 ?k3 ?a4 ?l4 ?c4 ?k4 ?v4 ?a5 ?l5 ?c5 ?k5 ?a6 ?l6 ?c6 ?k6 ?v6 ?a7 ?l7 ?c7 ?k7 ?v7 ?a8 ?l8 ?c8 ?k8 ?a9 ?l9 ?c9 ?k9 ?v9 ?a10 ?l10 ?c10 ?k10 ?v10 ?a11 ?l11 ?c11 ?k11 ?a12 ?l12 ?c12 ?k12 ?v12 ?a13 ?l13 ?c13 ?k13 ?a14 ?l14 ?c14 ?k14 ?a15 ?l15 ?c15 ?k15 ?a16 ?l16 ?c16 ?k16 ?a17 ?l17 ?c17 ?k17 ?a18 ?l18 ?c18 ?k18 ?a19 ?l19 ?c19 ?k19 ?a20 ?l20 ?c20 ?k20 ?a21 ?l21 ?c21 ?k21 ?a22 ?l22 ?c22 ?k22 ?a23 ?l23 ?c23 ?k23 ?a24 ?l24 ?c24 ?k24 ?a25 ?l25 ?c25 ?k25 ?a26 ?l26 ?c26 ?k26 ?a27 ?l27 ?c27 ?k27 ?a28 ?l28 ?c28 ?k28 ?a29 ?l29 ?c29 ?k29 ?a30 ?l30 ?c30 ?k30 ?a31 ?l31 ?c31 ?k31 ?z_ValueError ?z_abs ?z_all ?z_bool ?z_int ?z_isinstance ?z_len ?z_list ?z_max ?z_range ?z_repr ?z_sorted ?z_str ?z_super ?z_tuple ?q_MAX_DEPTH ?q_MAX_SPANS ?aw ?lw ?cw ?kw ?nopq ?ntop ?ma ?ms ?md ?mt ?xa0 ?xl0 ?xr0 ?xs0 ?xx0 ?xy0 ?xk0 ?xi0 ?xt0 ?xf0 ?xc0 ?xo0 ?xv0 ?xq0 ?xz0 ?xu0 ?xb0 ?xw0 ?xn0 ?mc0 ?ga0 ?gg0 ?gd0 ?gc0 ?gn0 ?gt0 ?go0 ?kv0 ?xa1 ?xl1 ?xr1 ?xs1 ?xx1 ?xy1 ?xk1 ?xi1 ?xt1 ?xf1 ?xc1 ?xo1 ?xv1 ?xq1 ?xz1 ?xu1 ?xb1 ?xw1 ?xn1 ?mc1 ?ga1 ?gg1 ?gd1 ?gc1 ?gn1 ?gt1 ?go1 ?kv1 ?xa2 ?xl2 ?xr2 ?xs2 ?xx2 ?xy2 ?xk2 ?xi2 ?xt2 ?xf2 ?xc2 ?xo2 ?xv2 ?xq2 ?xz2 ?xu2 ?xb2 ?xw2 ?xn2 ?mc2 ?ga2 ?gg2 ?gd2 ?gc2 ?gn2 ?gt2 ?go2 ?kv2 ?xa3 ?xl3 ?xr3 ?xs3 ?xx3 ?xy3 ?xk3 ?xi3 ?xt3 ?xf3 ?xc3 ?xo3 ?xv3 ?xq3 ?xz3 ?xu3 ?xb3 ?xw3 ?xn3 ?mc3 ?ga3 ?gg3 ?gd3 ?gc3 ?gn3 ?gt3 ?go3 ?kv3 ?kt1_0 ?kt1_1 ?kt1_2 ?kt1_3 ?kt2_0 ?kt2_1 ?kt2_2 ?kt2_3
    (case a0 => k_is)
    (case l0 => k_is)
    (case c0 => k_is)
    (case k0 => k_is)
    (case a1 => k_is)
    (case l1 => k_is)
    (case c1 => k_is)
    (case k1 => k_is)
    (case a2 => k_is)
    (case l2 => k_is)
    (case c2 => k_is)
    (case k2 => k_is)
    (case a3 => k_is)
    (case l3 => k_is)
    (case c3 => k_is)
    (case k3 => k_is)
    (case a4 => k_is)
    (case l4 => k_is)
    (case c4 => k_is)
    (case k4 => k_is)
    (case v4 => first | rfl | decide +kernel)
    (case a5 => k_is)
    (case l5 => k_is)
    (case c5 => k_is)
    (case k5 => k_is)
    (case a6 => k_is)
    (case l6 => k_is)
    (case c6 => k_is)
    (case k6 => k_is)
    (case v6 => first | rfl | decide +kernel)
    (case a7 => k_is)
    (case l7 => k_is)
    (case c7 => k_is)
    (case k7 => k_is)
    (case v7 => first | rfl | decide +kernel)
    (case a8 => k_is)
    (case l8 => k_is)
    (case c8 => k_is)
    (case k8 => k_is)
    (case a9 => k_is)
    (case l9 => k_is)
    (case c9 => k_is)
    (case k9 => k_is)
    (case v9 => first | rfl | decide +kernel)
    (case a10 => k_is)
    (case l10 => k_is)
    (case c10 => k_is)
    (case k10 => k_is)
    (case v10 => first | rfl | decide +kernel)
    (case a11 => k_is)
    (case l11 => k_is)
    (case c11 => k_is)
    (case k11 => k_is)
    (case a12 => k_is)
    (case l12 => k_is)
    (case c12 => k_is)
    (case k12 => k_is)
    (case v12 => first | rfl | decide +kernel)
    (case a13 => k_is)
    (case l13 => k_is)
    (case c13 => k_is)
    (case k13 => k_is)
    (case a14 => k_is)
    (case l14 => k_is)
    (case c14 => k_is)
    (case k14 => k_is)
    (case a15 => k_is)
    (case l15 => k_is)
    (case c15 => k_is)
    (case k15 => k_is)
    (case a16 => k_is)
    (case l16 => k_is)
    (case c16 => k_is)
    (case k16 => k_is)
    (case a17 => k_is)
    (case l17 => k_is)
    (case c17 => k_is)
    (case k17 => k_is)
    (case a18 => k_is)
    (case l18 => k_is)
    (case c18 => k_is)
    (case k18 => k_is)
    (case a19 => k_is)
    (case l19 => k_is)
    (case c19 => k_is)
    (case k19 => k_is)
    (case a20 => k_is)
    (case l20 => k_is)
    (case c20 => k_is)
    (case k20 => k_is)
    (case a21 => k_is)
    (case l21 => k_is)
    (case c21 => k_is)
    (case k21 => k_is)
    (case a22 => k_is)
    (case l22 => k_is)
    (case c22 => k_is)
    (case k22 => k_is)
    (case a23 => k_is)
    (case l23 => k_is)
    (case c23 => k_is)
    (case k23 => k_is)
    (case a24 => k_is)
    (case l24 => k_is)
    (case c24 => k_is)
    (case k24 => k_is)
    (case a25 => k_is)
    (case l25 => k_is)
    (case c25 => k_is)
    (case k25 => k_is)
    (case a26 => k_is)
    (case l26 => k_is)
    (case c26 => k_is)
    (case k26 => k_is)
    (case a27 => k_is)
    (case l27 => k_is)
    (case c27 => k_is)
    (case k27 => k_is)
    (case a28 => k_is)
    (case l28 => k_is)
    (case c28 => k_is)
    (case k28 => k_is)
    (case a29 => k_is)
    (case l29 => k_is)
    (case c29 => k_is)
    (case k29 => k_is)
    (case a30 => k_is)
    (case l30 => k_is)
    (case c30 => k_is)
    (case k30 => k_is)
    (case a31 => k_is)
    (case l31 => k_is)
    (case c31 => k_is)
    (case k31 => k_is)
    (case z_ValueError => k_is)
    (case z_abs => k_is)
    (case z_all => k_is)
    (case z_bool => k_is)
    (case z_int => k_is)
    (case z_isinstance => k_is)
    (case z_len => k_is)
    (case z_list => k_is)
    (case z_max => k_is)
    (case z_range => k_is)
    (case z_repr => k_is)
    (case z_sorted => k_is)
    (case z_str => k_is)
    (case z_super => k_is)
    (case z_tuple => k_is)
    (case q_MAX_DEPTH => k_is)
    (case q_MAX_SPANS => k_is)
    (case aw => k_is)
    (case lw => k_is)
    (case cw => k_is)
    (case kw => k_is)
    (case nopq => k_is)
    (case ntop => first | rfl | decide +kernel)
    (case ma => k_is)
    (case ms => k_is)
    (case md => k_is)
    (case mt => k_is)
    (case xa0 => k_is)
    (case xl0 => k_is)
    (case xr0 => first | rfl | decide +kernel)
    (case xs0 => k_is)
    (case xx0 => k_is)
    (case xy0 => k_is)
    (case xk0 => k_is)
    (case xi0 => k_is)
    (case xt0 => k_is)
    (case xf0 => k_is)
    (case xc0 => k_is)
    (case xo0 => k_is)
    (case xv0 => rfl)
    (case xq0 => first | rfl | decide +kernel)
    (case xz0 => k_is)
    (case xu0 => first | ks_is | k_is | rfl)
    (case xb0 => k_is)
    (case xw0 => first | k_is | rfl)
    (case xn0 => k_is)
    (case mc0 => first | k_is | rfl)
    (case ga0 => k_is)
    (case gg0 => k_is)
    (case gd0 => k_is)
    (case gc0 => k_is)
    (case gn0 => first | k_is | rfl)
    (case gt0 => first | k_is | rfl)
    (case go0 => first | k_is | rfl)
    (case kv0 => first | k_is | rfl | decide +kernel)
    (case xa1 => k_is)
    (case xl1 => k_is)
    (case xr1 => first | rfl | decide +kernel)
    (case xs1 => k_is)
    (case xx1 => k_is)
    (case xy1 => k_is)
    (case xk1 => k_is)
    (case xi1 => k_is)
    (case xt1 => k_is)
    (case xf1 => k_is)
    (case xc1 => k_is)
    (case xo1 => k_is)
    (case xv1 => rfl)
    (case xq1 => first | rfl | decide +kernel)
    (case xz1 => k_is)
    (case xu1 => first | ks_is | k_is | rfl)
    (case xb1 => k_is)
    (case xw1 => first | k_is | rfl)
    (case xn1 => k_is)
    (case mc1 => first | k_is | rfl)
    (case ga1 => k_is)
    (case gg1 => k_is)
    (case gd1 => k_is)
    (case gc1 => k_is)
    (case gn1 => first | k_is | rfl)
    (case gt1 => first | k_is | rfl)
    (case go1 => first | k_is | rfl)
    (case kv1 => first | k_is | rfl | decide +kernel)
    (case xa2 => k_is)
    (case xl2 => k_is)
    (case xr2 => first | rfl | decide +kernel)
    (case xs2 => k_is)
    (case xx2 => k_is)
    (case xy2 => k_is)
    (case xk2 => k_is)
    (case xi2 => k_is)
    (case xt2 => k_is)
    (case xf2 => k_is)
    (case xc2 => k_is)
    (case xo2 => k_is)
    (case xv2 => rfl)
    (case xq2 => first | rfl | decide +kernel)
    (case xz2 => k_is)
    (case xu2 => first | ks_is | k_is | rfl)
    (case xb2 => k_is)
    (case xw2 => first | k_is | rfl)
    (case xn2 => k_is)
    (case mc2 => first | k_is | rfl)
    (case ga2 => k_is)
    (case gg2 => k_is)
    (case gd2 => k_is)
    (case gc2 => k_is)
    (case gn2 => first | k_is | rfl)
    (case gt2 => first | k_is | rfl)
    (case go2 => first | k_is | rfl)
    (case kv2 => first | k_is | rfl | decide +kernel)
    (case xa3 => k_is)
    (case xl3 => k_is)
    (case xr3 => first | rfl | decide +kernel)
    (case xs3 => k_is)
    (case xx3 => k_is)
    (case xy3 => k_is)
    (case xk3 => k_is)
    (case xi3 => k_is)
    (case xt3 => k_is)
    (case xf3 => k_is)
    (case xc3 => k_is)
    (case xo3 => k_is)
    (case xv3 => rfl)
    (case xq3 => first | rfl | decide +kernel)
    (case xz3 => k_is)
    (case xu3 => first | ks_is | k_is | rfl)
    (case xb3 => k_is)
    (case xw3 => first | k_is | rfl)
    (case xn3 => k_is)
    (case mc3 => first | k_is | rfl)
    (case ga3 => k_is)
    (case gg3 => k_is)
    (case gd3 => k_is)
    (case gc3 => k_is)
    (case gn3 => first | k_is | rfl)
    (case gt3 => first | k_is | rfl)
    (case go3 => first | k_is | rfl)
    (case kv3 => first | k_is | rfl | decide +kernel)
    (case kt1_0 => first | k_is | rfl | decide +kernel)
    (case kt1_1 => first | k_is | rfl | decide +kernel)
    (case kt1_2 => first | k_is | rfl | decide +kernel)
    (case kt1_3 => first | k_is | rfl | decide +kernel)
    (case kt2_0 => first | k_is | rfl | decide +kernel)
    (case kt2_1 => first | k_is | rfl | decide +kernel)
    (case kt2_2 => first | k_is | rfl | decide +kernel)
    (case kt2_3 => first | k_is | rfl | decide +kernel)
