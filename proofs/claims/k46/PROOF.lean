import PyProof.Rows.All
import Wide.All
import OpenK.AllK
import Wide.FinOn
import HandS.ForExc
import HandS.ForMost
import HandS.IsInst
import HandS.TryMany
import HandS.CallSlots
import HandS.Lambda
import HandS.Conv
import HandS.TupAny
import KE.DataEq
import HandS.Wide
import HandS.Walk
import HandS.Zip
import PyProof.EnumMake
import HandS.TupMul
import HandS.Style
import HandS.Dict
import HandS.More
import HandS.WrittenGet
import HandS.Ends
import HandS.ExcSuper
import HandS.ExcInit
import KE.KSuper
import KE.KExcInit
import HandS.ExcField
import HandS.Defaults
import HandS.EndTab
import KE.KNestM
import HandS.RevRange
import PyProof.MeetsDictList
import KE.RegKSuper
import KE.RegKTryMore
import PySem.Challenge.RW_leastpromise_k46_whole_patterns_are_what
set_option Elab.async false
set_option linter.all false
set_option maxRecDepth 100000
set_option autoImplicit false
set_option maxHeartbeats 8000000
/-! LpA: plain data over the hand layer: values as trees, immutable objects, boxes, the state of a body. -/
namespace LP
open PySem PySem.Spec PyProof.Rows L2
/-- no row of simp is to be checked by computing -/
theorem pr {α : Sort _} {a b : α} (h : a = b) : a = b := h
/-- data: lists are trees too (never written again); ptr: a list that may be written; loc: the list that slot i owns; frz: a locked list (the script) -/
inductive D where
  | non | bl (b : Bool) | int (i : Int) | str (x : Str) | tup (xs : List D) | lst (xs : List D) | ptr (n : Nat) | loc (i : Nat) | frz (xs : List D)
  | lam (k : Nat) | fn (x : Str)
/-- what is known never to change -/
abbrev Imm := Addr → Option HO
def KTup (K : PySem.W.Frag) (a : Addr) (vs : List V) : Prop :=
  ∃ (o : Obj) (its : Array Value) (n : Nat), K.lookup a = some o ∧ o.cls = .type "tuple" ∧ o.data = .seq its n ∧ its.size ≤ 1000000 ∧ Vals vs its.toList
def KLst (K : PySem.W.Frag) (a : Addr) (vs : List V) : Prop :=
  ∃ (o : Obj) (its : Array Value) (n : Nat), K.lookup a = some o ∧ o.cls = .type "list" ∧ o.dict = none ∧ o.data = .seq its n ∧ its.size ≤ 1000000 ∧ Vals vs its.toList
/-- a list that stands for good: locked, or written by the module -/
def LstU (u : HO) (vs : List V) : Prop := u = .lst vs ∨ ∃ o, u = .frz o (.lst vs)
def FLst (K : PySem.W.Frag) (M : Imm) (a : Addr) (vs : List V) : Prop := (∃ u, M a = some u ∧ LstU u vs) ∨ KLst K a vs
/-- what a lambda's object is: its number, its address, the object, its code's address, its name -/
abbrev LamP := Nat → Addr → Obj → Addr → Str → Prop
/-- the written part; the lambdas of a frame; the module's names -/
structure Jd where
  K : PySem.W.Frag
  L : LamP
  mg : Str → Option Value
/-- a function object, never written -/
def LamO (f : Addr) (o : Obj) : HO := .ext fun h => h.get? f = some o
mutual
def Rep (J : Jd) (M : Imm) (r : List Addr) : D → V → Prop
  | .non, v => v = .non
  | .bl b, v => v = .bl b
  | .int i, v => v = .int i
  | .str x, v => v = .str x
  | .tup ds, v => ∃ a vs, v = .ref a ∧ (M a = some (.tup vs) ∨ KTup J.K a vs) ∧ Reps J M r ds vs
  | .lst ds, v => ∃ a vs, v = .ref a ∧ M a = some (.lst vs) ∧ Reps J M r ds vs
  | .ptr n, v => ∃ a, v = .ref a ∧ r[n]? = some a
  | .loc _, _ => False
  | .frz ds, v => ∃ a vs, v = .ref a ∧ FLst J.K M a vs ∧ Reps J M r ds vs
  | .lam k, v => ∃ f o c q, v = .ref f ∧ M f = some (LamO f o) ∧ M c = some (LamX.CodeO c q) ∧ J.L k f o c q
  | .fn x, v => ∃ a, v = .ref a ∧ J.mg x = some (.ref a)
def Reps (J : Jd) (M : Imm) (r : List Addr) : List D → List V → Prop
  | [], vs => vs = []
  | d :: ds, vs => ∃ v vt, vs = v :: vt ∧ Rep J M r d v ∧ Reps J M r ds vt
end
section
variable {K : PySem.W.Frag} {J : Jd} {M M' : Imm} {r r' : List Addr}
def Le (M M' : Imm) : Prop := ∀ a o, M a = some o → M' a = some o
theorem Le.refl : Le M M := fun _ _ h => h
theorem Le.trans {M'' : Imm} (h : Le M M') (h' : Le M' M'') : Le M M'' := fun a o e => h' a o (h a o e)
theorem pre_get {n : Nat} {a : Addr} (h : r <+: r') (e : r[n]? = some a) : r'[n]? = some a := by
  obtain ⟨t, rfl⟩ := h
  rw [List.getElem?_append_left (List.getElem?_eq_some_iff.mp e).1]; exact e
mutual
theorem Rep.mono (hM : Le M M') (hr : r <+: r') : ∀ (d : D) (v : V), Rep J M r d v → Rep J M' r' d v
  | .non, _, h => h
  | .bl _, _, h => h
  | .int _, _, h => h
  | .str _, _, h => h
  | .tup ds, _, h => by
    obtain ⟨a, vs, e, q, t⟩ := h
    exact ⟨a, vs, e, q.imp (fun z => hM _ _ z) id, Reps.mono hM hr ds vs t⟩
  | .lst ds, _, h => by
    obtain ⟨a, vs, e, q, t⟩ := h
    exact ⟨a, vs, e, hM _ _ q, Reps.mono hM hr ds vs t⟩
  | .ptr n, _, h => by
    obtain ⟨a, e, q⟩ := h
    exact ⟨a, e, pre_get hr q⟩
  | .loc _, _, h => h
  | .frz ds, _, h => by
    obtain ⟨a, vs, e, q, t⟩ := h
    exact ⟨a, vs, e, q.imp (fun ⟨o, z, y⟩ => ⟨o, hM _ _ z, y⟩) id, Reps.mono hM hr ds vs t⟩
  | .lam k, _, h => by
    obtain ⟨f, o, c, q, e, h1, h2, h3⟩ := h
    exact ⟨f, o, c, q, e, hM _ _ h1, hM _ _ h2, h3⟩
  | .fn _, _, h => h
theorem Reps.mono (hM : Le M M') (hr : r <+: r') : ∀ (ds : List D) (vs : List V), Reps J M r ds vs → Reps J M' r' ds vs
  | [], _, h => h
  | d :: ds, _, h => by
    obtain ⟨v, vt, e, h1, h2⟩ := h
    exact ⟨v, vt, e, Rep.mono hM hr d v h1, Reps.mono hM hr ds vt h2⟩
end
theorem Reps.length : ∀ {ds : List D} {vs : List V}, Reps J M r ds vs → vs.length = ds.length
  | [], _, h => by cases h; rfl
  | d :: ds, _, h => by
    obtain ⟨v, vt, rfl, _, h2⟩ := h
    simp [Reps.length h2]
theorem Reps.get : ∀ {ds : List D} {vs : List V} {i : Nat} {d : D}, Reps J M r ds vs → ds[i]? = some d → ∃ v, vs[i]? = some v ∧ Rep J M r d v
  | [], _, _, _, _, e => by simp at e
  | d :: ds, _, 0, _, h, e => by
    obtain ⟨v, vt, rfl, h1, _⟩ := h
    simp at e; subst e
    exact ⟨v, rfl, h1⟩
  | d :: ds, _, i + 1, _, h, e => by
    obtain ⟨v, vt, rfl, _, h2⟩ := h
    obtain ⟨v', e', q⟩ := Reps.get (i := i) h2 (by simpa using e)
    exact ⟨v', by simpa using e', q⟩
theorem Reps.append : ∀ {ds es : List D} {vs us : List V}, Reps J M r ds vs → Reps J M r es us → Reps J M r (ds ++ es) (vs ++ us)
  | [], _, _, _, h, h' => by cases h; exact h'
  | d :: ds, _, _, _, h, h' => by
    obtain ⟨v, vt, rfl, h1, h2⟩ := h
    exact ⟨v, _, rfl, h1, Reps.append h2 h'⟩
theorem Reps.one {d : D} {v : V} (h : Rep J M r d v) : Reps J M r [d] [v] := ⟨v, [], rfl, h, rfl⟩
theorem Reps.set : ∀ {ds : List D} {vs : List V} {d : D} {v : V} (i : Nat), Reps J M r ds vs → Rep J M r d v → Reps J M r (ds.set i d) (vs.set i v)
  | [], _, _, _, _, h, _ => by cases h; rfl
  | d :: ds, _, _, _, 0, h, q => by
    obtain ⟨v, vt, rfl, h1, h2⟩ := h
    exact ⟨_, _, rfl, q, h2⟩
  | d :: ds, _, _, _, i + 1, h, q => by
    obtain ⟨v, vt, rfl, h1, h2⟩ := h
    exact ⟨_, _, rfl, h1, Reps.set i h2 q⟩
theorem Reps.take : ∀ {ds : List D} {vs : List V} (n : Nat), Reps J M r ds vs → Reps J M r (ds.take n) (vs.take n)
  | _, _, 0, _ => by simp [Reps]
  | [], _, n + 1, h => by cases h; rfl
  | d :: ds, _, n + 1, h => by
    obtain ⟨v, vt, rfl, h1, h2⟩ := h
    exact ⟨_, _, rfl, h1, Reps.take n h2⟩
theorem Reps.drop : ∀ {ds : List D} {vs : List V} (n : Nat), Reps J M r ds vs → Reps J M r (ds.drop n) (vs.drop n)
  | _, _, 0, h => h
  | [], _, n + 1, h => by cases h; rfl
  | d :: ds, _, n + 1, h => by
    obtain ⟨v, vt, rfl, h1, h2⟩ := h
    exact Reps.drop n h2
end
/-! ### the state -/
/-- a body's fixed things: the written part, the module's names, the tables of code objects; at the entry: what is known, the boxes, the heap -/
structure Cfg where
  K : PySem.W.Frag
  mg : Str → Option Value
  T : List (Addr × Str)
  M0 : Imm
  r0 : List Addr
  H0 : Hp
  L : LamP
abbrev Cfg.J (G : Cfg) : Jd := ⟨G.K, G.L, G.mg⟩
/-- what a slot holds -/
inductive SV where
  | no | v (d : D) | own (ds : List D)
abbrev DE := List SV
abbrev Bx := List (List D)
/-- a size that every list and tuple keeps to -/
abbrev big : Nat := 1000000
theorem big_line {n : Nat} (h : n ≤ big) : n ≤ sizeLine := by rw [sizeLine_eq]; unfold big at h; omega
theorem big_lt {n : Nat} (h : n < big) : n < sizeLine := by rw [sizeLine_eq]; unfold big at h; omega
def immO : HO → Prop
  | .lst xs => xs.length ≤ big
  | .tup xs => xs.length ≤ big
  | .frz _ (.lst xs) => xs.length ≤ big
  | .ext _ => True
  | _ => False
def MOk (M : Imm) (H : Hp) : Prop := ∀ a o, M a = some o → immO o ∧ H a = some o
structure BxOk (J : Jd) (M : Imm) (r : List Addr) (h : Bx) (H : Hp) : Prop where
  len : r.length = h.length
  nd : r.Nodup
  at_ : ∀ (n : Nat) (a : Addr) (ds : List D), r[n]? = some a → h[n]? = some ds → M a = none ∧ ds.length ≤ big ∧ ∃ vs, H a = some (.lst vs) ∧ Reps J M r ds vs
/-- all but the boxes and the tables stays -/
def Keep (r : List Addr) (H H' : Hp) : Prop := ∀ a o, H a = some o → (∀ ps, o ≠ .tbl ps) → a ∉ r → H' a = some o
/-- nothing stands there, or a table -/
def Free (H : Hp) (a : Addr) : Prop := ∀ o, H a = some o → ∃ ps, o = .tbl ps
/-- a list stands there -/
def IsL (H : Hp) (a : Addr) : Prop := ∃ vs, H a = some (.lst vs)
theorem IsL.nf {H : Hp} {a : Addr} (i : IsL H a) : ¬ Free H a := fun f => by
  obtain ⟨vs, e⟩ := i
  obtain ⟨ps, z⟩ := f _ e
  cases z
theorem Free.of {H : Hp} {a : Addr} (h : H a = none) : Free H a := fun o e => by rw [h] at e; cases e
def SlotRep (J : Jd) (M : Imm) (r : List Addr) (H0 H : Hp) : SV → Option V → Prop
  | .no, _ => True
  | .v d, o => ∃ v, o = some v ∧ Rep J M r d v
  | .own ds, o => ∃ a vs, o = some (.ref a) ∧ M a = none ∧ a ∉ r ∧ Free H0 a ∧ ds.length ≤ big ∧ H a = some (.lst vs) ∧ Reps J M r ds vs
structure BS (G : Cfg) (M : Imm) (r : List Addr) (h : Bx) (δ : DE) (σ : L2.St) (H : Hp) : Prop where
  mok : MOk M H
  bx : BxOk G.J M r h H
  tb : LamX.Tabs G.T H
  len : σ.length = δ.length
  sl : ∀ (i : Nat) (s : SV) (o : Option V), δ[i]? = some s → σ[i]? = some o → SlotRep G.J M r G.H0 H s o
  sep : ∀ (i j : Nat) (ds es : List D), δ[i]? = some (.own ds) → δ[j]? = some (.own es) → i ≠ j → σ[i]? ≠ σ[j]?
  le : Le G.M0 M
  pre : G.r0 <+: r
  new : ∀ a, a ∈ r → a ∈ G.r0 ∨ Free G.H0 a
  keep : Keep G.r0 G.H0 H
  nf : ∀ a, G.M0 a = none → IsL G.H0 a → a ∉ G.r0 → M a = none
/-- between two moments of an expression -/
structure Stp (M : Imm) (r : List Addr) (H : Hp) (M' : Imm) (r' : List Addr) (H' : Hp) : Prop where
  le : Le M M'
  pre : r <+: r'
  new : ∀ a, a ∈ r' → a ∈ r ∨ Free H a
  keep : Keep r H H'
  nf : ∀ a, M a = none → IsL H a → a ∉ r → M' a = none
theorem Keep.refl {r : List Addr} {H : Hp} : Keep r H H := fun _ _ h _ _ => h
theorem IsL.fwd {r : List Addr} {H H1 : Hp} {a : Addr} (k : Keep r H H1) (n : a ∉ r) (i : IsL H a) : IsL H1 a := i.imp fun _ z => k a _ z (fun _ y => by cases y) n
theorem Free.back {r : List Addr} {H H1 : Hp} {a : Addr} (k : Keep r H H1) (n : a ∉ r) (f : Free H1 a) : Free H a := fun o e => by
  cases o with
  | tbl ps => exact ⟨ps, rfl⟩
  | _ => exact f _ (k a _ e (fun ps z => by cases z) n)
theorem Stp.refl {M : Imm} {r : List Addr} {H : Hp} : Stp M r H M r H := ⟨Le.refl, List.prefix_rfl, fun _ h => .inl h, Keep.refl, fun _ h _ _ => h⟩
theorem Stp.trans {M M1 M2 : Imm} {r r1 r2 : List Addr} {H H1 H2 : Hp} (a : Stp M r H M1 r1 H1) (b : Stp M1 r1 H1 M2 r2 H2) : Stp M r H M2 r2 H2 := by
  refine ⟨a.le.trans b.le, a.pre.trans b.pre, fun x hx => ?_, fun x o e t n => ?_, fun x m e n => b.nf x (a.nf x m e n) (e.imp fun vs z => a.keep x _ z (fun ps y => by cases y) n) fun z => (a.new x z).elim n e.nf⟩
  · by_cases hr : x ∈ r
    · exact .inl hr
    · rcases b.new x hx with z | z
      · rcases a.new x z with y | y
        · exact .inl y
        · exact .inr y
      · exact .inr (z.back a.keep hr)
  · refine b.keep x o (a.keep x o e t n) t fun z => ?_
    rcases a.new x z with q | q
    · exact n q
    · obtain ⟨ps, y⟩ := q o e
      exact t ps y
/-! ### results -/
inductive R (α : Type) where
  | ok (a : α) (h : Bx)
  | exc (c : Str) (fs : List (Str × D)) (h : Bx)
  | bad
def R.bind {α β : Type} (x : R α) (k : α → Bx → R β) : R β := match x with
  | .ok a h => k a h
  | .exc c fs h => .exc c fs h
  | .bad => .bad
@[simp] theorem R.bind_ok {α β : Type} (a : α) (h : Bx) (k : α → Bx → R β) : (R.ok a h).bind k = k a h := pr rfl
@[simp] theorem R.bind_exc {α β : Type} (c : Str) (fs : List (Str × D)) (h : Bx) (k : α → Bx → R β) : (R.exc c fs h : R α).bind k = .exc c fs h := pr rfl
@[simp] theorem R.bind_bad {α β : Type} (k : α → Bx → R β) : (R.bad : R α).bind k = .bad := pr rfl
abbrev EF := DE → Bx → R D
def RepV (J : Jd) (M : Imm) (r : List Addr) (δ : DE) (σ : L2.St) : D → V → Prop
  | .loc i, v => σ[i]? = some (some v) ∧ ∃ ds, δ[i]? = some (.own ds)
  | d, v => Rep J M r d v
theorem RepV.mono {J : Jd} {M M' : Imm} {r r' : List Addr} {δ : DE} {σ : L2.St} (hM : Le M M') (hr : r <+: r') : ∀ {d : D} {v : V}, RepV J M r δ σ d v → RepV J M' r' δ σ d v := by
  intro d v h
  cases d with
  | loc i => exact h
  | _ => exact Rep.mono hM hr _ _ h
/-- the fields of an exception -/
def ExcAt (J : Jd) (M : Imm) (r : List Addr) (H : Hp) : List (Str × D) → Option Addr → Prop
  | [], dd => dd = none
  | fs, dd => ∃ d vs, dd = some d ∧ H d = some (.xd ((fs.map (·.1)).zip vs)) ∧ Reps J M r (fs.map (·.2)) vs
/-- what stands for what, at a moment -/
abbrev Rl (α β : Type) := Imm → List Addr → α → β → Prop
def After {α β : Type} (G : Cfg) (W : WX) (σ : L2.St) (δ : DE) (rl : Rl α β) (M : Imm) (r : List Addr) (H : Hp) (x : R α) (Q : β → Hp → Prop) : Prop := match x with
  | .ok d h => ∀ v M' r' H', Stp M r H M' r' H' → BS G M' r' h δ σ H' → rl M' r' d v → Q v H'
  | .exc c fs h => ∀ C dd M' r' H', G.mg c = some (.ref C) → Stp M r H M' r' H' → BS G M' r' h δ σ H' → ExcAt G.J M' r' H' fs dd → W (.ref C) dd σ H'
  | .bad => False
/-- a reading: from the state as it stands -/
def tG {α β : Type} (G : Cfg) (W : WX) (rl : DE → L2.St → Rl α β) (f : DE → Bx → R α) : L2.St → Hp → (β → Hp → Prop) → Prop := fun σ H Q =>
  ∃ M r h δ, BS G M r h δ σ H ∧ After G W σ δ (rl δ σ) M r H (f δ h) Q
def rV (J : Jd) (δ : DE) (σ : L2.St) : Rl D V := fun M r => RepV J M r δ σ
def RepVs (J : Jd) (M : Imm) (r : List Addr) (δ : DE) (σ : L2.St) : List D → List V → Prop
  | [], vs => vs = []
  | d :: ds, vs => ∃ v vt, vs = v :: vt ∧ RepV J M r δ σ d v ∧ RepVs J M r δ σ ds vt
def rVs (J : Jd) (δ : DE) (σ : L2.St) : Rl (List D) (List V) := fun M r => RepVs J M r δ σ
def rB (_ : DE) (_ : L2.St) : Rl Bool Bool := fun _ _ a b => a = b
/-- an expression of the body computes f; an argument list; a test -/
def Ev (X : Cx) (G : Cfg) (W : WX) (e : Expr) (f : EF) : Prop := PE X e (tG G W (rV G.J) f)
def EvA (X : Cx) (G : Cfg) (W : WX) (es : List Expr) (f : DE → Bx → R (List D)) : Prop := PA X es (tG G W (rVs G.J) f)
def EvT (X : Cx) (G : Cfg) (W : WX) (e : Expr) (f : DE → Bx → R Bool) : Prop := PT X e (tG G W rB f)
def EvW (X : Cx) (G : Cfg) (W : WX) (e : Expr) (f : DE → Bx → R Bool) : Prop := PW X e (tG G W rB f)
theorem RepVs.mono {J : Jd} {M M' : Imm} {r r' : List Addr} {δ : DE} {σ : L2.St} (hM : Le M M') (hr : r <+: r') : ∀ {ds : List D} {vs : List V}, RepVs J M r δ σ ds vs → RepVs J M' r' δ σ ds vs
  | [], _, h => h
  | d :: ds, _, h => by
    obtain ⟨v, vt, e, h1, h2⟩ := h
    exact ⟨v, vt, e, h1.mono hM hr, RepVs.mono hM hr h2⟩
section
variable {X : Cx} {G : Cfg} {W : WX} {σ : L2.St} {δ : DE} {M M1 M2 : Imm} {r r1 r2 : List Addr} {h h1 h2 : Bx} {H H1 H2 : Hp}
theorem BS.fresh_r (b : BS G M r h δ σ H) {a : Addr} (e : H a = none) : a ∉ r := fun z => by
  obtain ⟨n, hn⟩ := List.getElem?_of_mem z
  have hl : n < h.length := by rw [← b.bx.len]; exact (List.getElem?_eq_some_iff.mp hn).1
  obtain ⟨_, _, vs, q, _⟩ := b.bx.at_ n a _ hn (List.getElem?_eq_getElem hl)
  rw [e] at q; cases q
theorem BS.fresh_M (b : BS G M r h δ σ H) {a : Addr} (e : H a = none) : M a = none := by
  cases q : M a with
  | none => rfl
  | some o =>
    obtain ⟨_, z⟩ := b.mok a o q
    rw [e] at z; cases z
theorem BS.lt (b : BS G M r h δ σ H) {i : Nat} {s : SV} (e : δ[i]? = some s) : ∃ o, σ[i]? = some o := by
  have hl : i < σ.length := by rw [b.len]; exact (List.getElem?_eq_some_iff.mp e).1
  exact ⟨_, List.getElem?_eq_getElem hl⟩
variable {α β α' β' : Type} {rl : Rl α β} {rl' : Rl α' β'}
/-- a further end -/
theorem After.more {x : R α} {Q Q' : β → Hp → Prop} (q : After G W σ δ rl M r H x Q) (f : ∀ v H', Q v H' → Q' v H') : After G W σ δ rl M r H x Q' := by
  cases x with
  | ok d h => exact fun v M' r' H' a b c => f v H' (q v M' r' H' a b c)
  | exc c fs h => exact q
  | bad => exact q
theorem After.from {x : R α} {Q : β → Hp → Prop} (s : Stp M r H M1 r1 H1) (q : After G W σ δ rl M r H x Q) : After G W σ δ rl M1 r1 H1 x Q := by
  cases x with
  | ok d h => exact fun v M' r' H' a b c => q v M' r' H' (s.trans a) b c
  | exc c fs h => exact fun C dd M' r' H' m a b e => q C dd M' r' H' m (s.trans a) b e
  | bad => exact q
/-- one behind the other -/
theorem After.bind {x : R α} {k : α → Bx → R α'} {Q : β' → Hp → Prop} (q : After G W σ δ rl' M r H (x.bind k) Q) :
    After G W σ δ rl M r H x fun v H1 => ∃ d M1 r1 h1, Stp M r H M1 r1 H1 ∧ BS G M1 r1 h1 δ σ H1 ∧ rl M1 r1 d v ∧ After G W σ δ rl' M1 r1 H1 (k d h1) Q := by
  cases x with
  | ok d h => exact fun v M' r' H' a b c => ⟨d, M', r', h, a, b, c, q.from a⟩
  | exc c fs h => exact q
  | bad => exact q
/-- the value as it stands -/
theorem After.now {d : α} {v : β} {Q : β → Hp → Prop} (b : BS G M r h δ σ H) (q : After G W σ δ rl M r H (.ok d h) Q) (rv : rl M r d v) : Q v H := q v M r H Stp.refl b rv
theorem tG.intro {rl : DE → L2.St → Rl α β} {f : DE → Bx → R α} {Q : β → Hp → Prop} (b : BS G M r h δ σ H) (q : After G W σ δ (rl δ σ) M r H (f δ h) Q) : tG G W rl f σ H Q := ⟨M, r, h, δ, b, q⟩
end
/-! ### readings that are asked less -/
theorem PE.imp {X : Cx} {e : Expr} {t t' : TE} (p : PE X e t) (f : ∀ σ H Q, t' σ H Q → t σ H Q) : PE X e t' := ⟨fun pins s σ H Q I h => p.run pins s σ H Q I (f σ H Q h)⟩
theorem PT.imp {X : Cx} {e : Expr} {t t' : TT} (p : PT X e t) (f : ∀ σ H Q, t' σ H Q → t σ H Q) : PT X e t' := ⟨fun pins s σ H Q I h => p.run pins s σ H Q I (f σ H Q h)⟩
theorem PW.imp {X : Cx} {e : Expr} {t t' : TT} (p : PW X e t) (f : ∀ σ H Q, t' σ H Q → t σ H Q) : PW X e t' := ⟨fun w pins s σ H Q I h => p.run w pins s σ H Q I (f σ H Q h)⟩
theorem PA.imp {X : Cx} {e : List Expr} {t t' : TA} (p : PA X e t) (f : ∀ σ H Q, t' σ H Q → t σ H Q) : PA X e t' := ⟨fun w pins s σ H Q I h => p.run w pins s σ H Q I (f σ H Q h)⟩
theorem PS.imp {X : Cx} {e : Stmt} {t t' : TS} (p : PS X e t) (f : ∀ D σ H, t' D σ H → t D σ H) : PS X e t' := ⟨fun pins s σ H D I h => p.run pins s σ H D I (f D σ H h)⟩
theorem PSs.imp {X : Cx} {e : List Stmt} {t t' : TS} (p : PSs X e t) (f : ∀ D σ H, t' D σ H → t D σ H) : PSs X e t' := ⟨fun pins s σ H D I h => p.run pins s σ H D I (f D σ H h)⟩
/-! ### new objects -/
def updM (M : Imm) (a : Addr) (o : HO) : Imm := fun b => if b = a then some o else M b
section
variable {G : Cfg} {σ : L2.St} {δ : DE} {M : Imm} {r : List Addr} {h : Bx} {H : Hp} {p : Addr} {o : HO}
theorem BS.leNew (b : BS G M r h δ σ H) (hp : H p = none) : Le M (updM M p o) := fun a u e => by
  unfold updM
  by_cases z : a = p
  · subst z; rw [b.fresh_M hp] at e; cases e
  · rw [if_neg z]; exact e
theorem upd_new (hp : H p = none) {a : Addr} {u : HO} (e : H a = some u) : upd H p o a = some u := by
  rw [upd_ne (ne_of_none e hp)]; exact e
theorem Rd.new (hp : H p = none) {a : Addr} {u : HO} (e : Rd H a u) : Rd (upd H p o) a u := by
  rcases e with e | ⟨x, e⟩
  · exact .inl (upd_new hp e)
  · exact .inr ⟨x, upd_new hp e⟩
theorem SlotRep.mono {J : Jd} {M' : Imm} {r' : List Addr} {H0 H' : Hp} (hM : Le M M') (hr : r <+: r') (hn : ∀ a vs, M a = none → H a = some (.lst vs) → a ∉ r → M' a = none ∧ a ∉ r' ∧ H' a = some (.lst vs)) :
    ∀ {s : SV} {x : Option V}, SlotRep J M r H0 H s x → SlotRep J M' r' H0 H' s x
  | .no, _, _ => trivial
  | .v d, _, q => by
    obtain ⟨v, e, q⟩ := q
    exact ⟨v, e, Rep.mono hM hr _ _ q⟩
  | .own ds, _, q => by
    obtain ⟨a, vs, e, m, n, f, z, q, t⟩ := q
    obtain ⟨m', n', q'⟩ := hn a vs m q n
    exact ⟨a, vs, e, m', n', f, z, q', Reps.mono hM hr _ _ t⟩
/-- a new list or tuple that is never written -/
theorem BS.laid (b : BS G M r h δ σ H) (hp : H p = none) (im : immO o) : BS G (updM M p o) r h δ σ (upd H p o) ∧ Stp M r H (updM M p o) r (upd H p o) := by
  have le : Le M (updM M p o) := b.leNew hp
  have pr : p ∉ r := b.fresh_r hp
  have nM : ∀ a, a ≠ p → M a = none → updM M p o a = none := fun a n e => by unfold updM; rw [if_neg n]; exact e
  refine ⟨⟨fun a u e => ?_, ⟨b.bx.len, b.bx.nd, fun n a ds e1 e2 => ?_⟩, b.tb.ext fun a u e => upd_new hp e, b.len, fun i s x e1 e2 => ?_, b.sep, b.le.trans le, b.pre, b.new, fun a u e t n => upd_new hp (b.keep a u e t n), fun a m f n => nM a (fun z => by obtain ⟨vs, y⟩ := f.fwd b.keep n; rw [z, hp] at y; cases y) (b.nf a m f n)⟩,
    le, List.prefix_rfl, fun a z => .inl z, fun a u e _ _ => upd_new hp e, fun a m f _ => nM a (fun z => by obtain ⟨vs, y⟩ := f; rw [z, hp] at y; cases y) m⟩
  · unfold updM at e
    by_cases z : a = p
    · subst z
      rw [if_pos (Eq.refl a)] at e; cases e
      exact ⟨im, upd_same⟩
    · rw [if_neg z] at e
      exact ⟨(b.mok a u e).1, upd_new hp (b.mok a u e).2⟩
  · obtain ⟨m, z, vs, q, t⟩ := b.bx.at_ n a ds e1 e2
    exact ⟨nM a (fun y => pr (y ▸ List.mem_of_getElem? e1)) m, z, vs, upd_new hp q, Reps.mono le List.prefix_rfl _ _ t⟩
  · exact (b.sl i s x e1 e2).mono le List.prefix_rfl fun a vs m q n => ⟨nM a (ne_of_none q hp) m, n, upd_new hp q⟩
theorem updM_same : updM M p o p = some o := if_pos rfl
end
section
variable {G : Cfg} {σ σ' : L2.St} {δ δ' : DE} {M M' : Imm} {r r' : List Addr} {h h' : Bx} {H H' : Hp} {p : Addr} {o : HO}
/-- the slots as they stood -/
theorem BS.step (b : BS G M r h δ σ H) (s : Stp M r H M' r' H') (b' : BS G M' r' h' δ' σ' H') : BS G M' r' h' δ σ H' := by
  refine ⟨b'.mok, b'.bx, b'.tb, b.len, fun i x o e1 e2 => ?_, b.sep, b'.le, b'.pre, b'.new, b'.keep, b'.nf⟩
  refine (b.sl i x o e1 e2).mono s.le s.pre fun a vs m q n => ?_
  have nf : IsL H a := ⟨vs, q⟩
  exact ⟨s.nf a m nf n, fun z => (s.new a z).elim n nf.nf, s.keep a _ q (fun ps y => by cases y) n⟩
/-- slots forgotten -/
theorem BS.weak (b : BS G M r h δ σ H) (hl : σ'.length = δ'.length) (w : ∀ (i : Nat) (s : SV), δ'[i]? = some s → s = .no ∨ (δ[i]? = some s ∧ σ'[i]? = σ[i]?)) : BS G M r h δ' σ' H := by
  refine ⟨b.mok, b.bx, b.tb, hl, fun i x o e1 e2 => ?_, fun i j ds es e1 e2 n => ?_, b.le, b.pre, b.new, b.keep, b.nf⟩
  · rcases w i x e1 with rfl | ⟨z, y⟩
    · trivial
    · exact b.sl i x o z (by rw [← y]; exact e2)
  · rcases w i _ e1 with z | ⟨z, y⟩
    · cases z
    · rcases w j _ e2 with z' | ⟨z', y'⟩
      · cases z'
      · rw [y, y']; exact b.sep i j ds es z z' n
/-- a slot takes a value -/
theorem BS.put (b : BS G M r h δ σ H) {i : Nat} {d : D} {v : V} (rv : Rep G.J M r d v) : BS G M r h (δ.set i (.v d)) (σ.set i (some v)) H := by
  refine ⟨b.mok, b.bx, b.tb, by rw [List.length_set, List.length_set]; exact b.len, fun j x o e1 e2 => ?_, fun j l ds es e1 e2 n => ?_, b.le, b.pre, b.new, b.keep, b.nf⟩
  · by_cases hj : i = j
    · subst hj
      have hi : i < δ.length := by
        have := (List.getElem?_eq_some_iff.mp e1).1
        simpa using this
      rw [List.getElem?_set_self hi] at e1
      rw [List.getElem?_set_self (by rw [b.len]; exact hi)] at e2
      cases e1; cases e2
      exact ⟨v, rfl, rv⟩
    · rw [List.getElem?_set_ne hj] at e1 e2
      exact b.sl j x o e1 e2
  · have nj : ∀ {j : Nat} {ds : List D}, (δ.set i (.v d))[j]? = some (.own ds) → i ≠ j ∧ δ[j]? = some (.own ds) := fun {j ds} e => by
      by_cases hj : i = j
      · subst hj
        have hi : i < δ.length := by
          have := (List.getElem?_eq_some_iff.mp e).1
          simpa using this
        rw [List.getElem?_set_self hi] at e; cases e
      · rw [List.getElem?_set_ne hj] at e
        exact ⟨hj, e⟩
    obtain ⟨a1, a2⟩ := nj e1
    obtain ⟨c1, c2⟩ := nj e2
    rw [List.getElem?_set_ne a1, List.getElem?_set_ne c1]
    exact b.sep j l ds es a2 c2 n
/-- no slot owns it -/
def NoOwn (δ : DE) (σ : L2.St) (a : Addr) : Prop := ∀ (i : Nat) (ds : List D), δ[i]? = some (.own ds) → σ[i]? ≠ some (some (.ref a))
theorem BS.noOwn (b : BS G M r h δ σ H) {a : Addr} (e : H a = none) : NoOwn δ σ a := fun i ds e1 e2 => by
  obtain ⟨x, vs, z, _, _, _, _, q, _⟩ := b.sl i _ _ e1 e2
  cases z
  rw [e] at q; cases q
/-- a list that nobody knows of is written -/
theorem BS.wrote (b : BS G M r h δ σ H) {a : Addr} (m : M a = none) (n : a ∉ r) (f : Free G.H0 a) (no : NoOwn δ σ a) {xs ys : List V} (q : H a = some (.lst xs)) : BS G M r h δ σ (upd H a (.lst ys)) := by
  have ne : ∀ {c u}, M c = some u → c ≠ a := fun e z => by rw [z, m] at e; cases e
  refine ⟨fun c u e => ⟨(b.mok c u e).1, by rw [upd_ne (ne e)]; exact (b.mok c u e).2⟩, ⟨b.bx.len, b.bx.nd, fun k c ds e1 e2 => ?_⟩, fun p hp => ?_, b.len, fun i s x e1 e2 => ?_, b.sep, b.le, b.pre, b.new, fun c u e t nr => ?_, b.nf⟩
  · obtain ⟨m', z, vs, q', t⟩ := b.bx.at_ k c ds e1 e2
    have hc : c ≠ a := fun y => by
      subst y
      exact n (List.mem_of_getElem? e1)
    exact ⟨m', z, vs, by rw [upd_ne hc]; exact q', t⟩
  · obtain ⟨ps, e1, e2, e3⟩ := b.tb p hp
    refine ⟨ps, by rw [upd_ne (fun z => by rw [z, q] at e1; cases e1)]; exact e1, e2, fun pos cv hc => ?_⟩
    obtain ⟨c, z1, z2⟩ := e3 pos cv hc
    refine ⟨c, z1, ?_⟩
    rw [upd_ne (fun z => by rw [z, q] at z2; cases z2)]
    exact z2
  · cases s with
    | no => trivial
    | v d => exact b.sl i _ x e1 e2
    | own ds =>
      obtain ⟨c, vs, z, m', n', f', l', q', t⟩ := b.sl i _ x e1 e2
      refine ⟨c, vs, z, m', n', f', l', ?_, t⟩
      rw [upd_ne (fun y => no i ds e1 (by rw [e2, z, y]))]
      exact q'
  · rw [upd_ne (fun z => by
      subst z
      obtain ⟨ps, y⟩ := f u e
      exact t ps y)]
    exact b.keep c u e t nr
/-- a new list, known to nobody -/
theorem BS.new_list (b : BS G M r h δ σ H) (hp : H p = none) {xs : List V} : BS G M r h δ σ (upd H p (.lst xs)) := by
  refine ⟨fun c u e => ⟨(b.mok c u e).1, upd_new hp (b.mok c u e).2⟩, ⟨b.bx.len, b.bx.nd, fun k c ds e1 e2 => ?_⟩, b.tb.ext fun a u e => upd_new hp e, b.len, fun i s x e1 e2 => ?_, b.sep, b.le, b.pre, b.new, fun c u e t nr => upd_new hp (b.keep c u e t nr), b.nf⟩
  · obtain ⟨m', z, vs, q', t⟩ := b.bx.at_ k c ds e1 e2
    exact ⟨m', z, vs, upd_new hp q', t⟩
  · exact (b.sl i s x e1 e2).mono Le.refl List.prefix_rfl fun a vs m q n => ⟨m, n, upd_new hp q⟩
/-- a list that nobody knows of is left out -/
theorem BS.erase (b : BS G M r h δ σ H) {a : Addr} (m : M a = none) (n : a ∉ r) (f : Free G.H0 a) (no : NoOwn δ σ a) {xs : List V} (q : H a = some (.lst xs)) : BS G M r h δ σ (fun c => if c = a then none else H c) := by
  have ne : ∀ {c u}, M c = some u → c ≠ a := fun e z => by rw [z, m] at e; cases e
  have at_ : ∀ {c : Addr} {u : HO}, c ≠ a → H c = some u → (fun c => if c = a then none else H c) c = some u := fun n e => by
    show (if _ = a then none else H _) = _
    rw [if_neg n]; exact e
  refine ⟨fun c u e => ⟨(b.mok c u e).1, at_ (ne e) (b.mok c u e).2⟩, ⟨b.bx.len, b.bx.nd, fun k c ds e1 e2 => ?_⟩, fun p hp => ?_, b.len, fun i s x e1 e2 => ?_, b.sep, b.le, b.pre, b.new, fun c u e t nr => ?_, b.nf⟩
  · obtain ⟨m', z, vs, q', t⟩ := b.bx.at_ k c ds e1 e2
    refine ⟨m', z, vs, at_ (fun y => ?_) q', t⟩
    subst y
    exact n (List.mem_of_getElem? e1)
  · obtain ⟨ps, e1, e2, e3⟩ := b.tb p hp
    refine ⟨ps, at_ (fun z => by rw [z, q] at e1; cases e1) e1, e2, fun pos cv hc => ?_⟩
    obtain ⟨c, z1, z2⟩ := e3 pos cv hc
    exact ⟨c, z1, at_ (fun z => by rw [z, q] at z2; cases z2) z2⟩
  · cases s with
    | no => trivial
    | v d => exact b.sl i _ x e1 e2
    | own ds =>
      obtain ⟨c, vs, z, m', n', f', l', q', t⟩ := b.sl i _ x e1 e2
      exact ⟨c, vs, z, m', n', f', l', at_ (fun y => no i ds e1 (by rw [e2, z, y])) q', t⟩
  · refine at_ (fun z => ?_) (b.keep c u e t nr)
    subst z
    obtain ⟨ps, y⟩ := f u e
    exact t ps y
theorem BS.free0 (b : BS G M r h δ σ H) (hp : H p = none) : Free G.H0 p := fun o e => by
  cases o with
  | tbl ps => exact ⟨ps, rfl⟩
  | _ =>
    by_cases hr : p ∈ G.r0
    · exact absurd (b.pre.subset hr) (b.fresh_r hp)
    · have := b.keep p _ e (fun ps z => by cases z) hr
      rw [hp] at this; cases this
end
end LP
/-! LpB: expressions over plain data. -/
namespace LP
open PySem PySem.Spec PyProof.Rows L2
/-! ### what a list or a tuple holds -/
def lstOf (δ : DE) (h : Bx) : D → Option (List D)
  | .lst ds => some ds
  | .frz ds => some ds
  | .ptr n => h[n]?
  | .loc i => match δ[i]? with
    | some (.own ds) => some ds
    | _ => none
  | _ => none
def seqOf (δ : DE) (h : Bx) : D → Option (List D)
  | .tup ds => some ds
  | d => lstOf δ h d
@[simp] theorem lstOf_lst (δ : DE) (h : Bx) (ds : List D) : lstOf δ h (.lst ds) = some ds := pr rfl
@[simp] theorem lstOf_ptr (δ : DE) (h : Bx) (n : Nat) : lstOf δ h (.ptr n) = h[n]? := pr rfl
@[simp] theorem seqOf_lst (δ : DE) (h : Bx) (ds : List D) : seqOf δ h (.lst ds) = some ds := pr rfl
@[simp] theorem seqOf_tup (δ : DE) (h : Bx) (ds : List D) : seqOf δ h (.tup ds) = some ds := pr rfl
@[simp] theorem seqOf_ptr (δ : DE) (h : Bx) (n : Nat) : seqOf δ h (.ptr n) = h[n]? := pr rfl
section
variable {X : Cx} {G : Cfg} {W : WX} {σ : L2.St} {δ : DE} {M M1 M2 : Imm} {r r1 r2 : List Addr} {h h1 h2 : Bx} {H H1 H2 : Hp} {K : PySem.W.Frag} {J : Jd}
theorem sqF {a : Addr} {vs : List V} (b : BS G M r h δ σ H) (q : FLst G.K M a vs) : SqL G.K H a vs := by
  rcases q with ⟨u, q, rfl | ⟨o, rfl⟩⟩ | ⟨o, its, n, k1, k2, k3, k4, k5, k6⟩
  · exact .inl (.inl (b.mok a _ q).2)
  · exact .inl (.inr ⟨o, (b.mok a _ q).2⟩)
  · exact .inr ⟨o, its, n, k1, k2, k3, k4, big_line k5, k6⟩
theorem fbig {a : Addr} {vs : List V} (b : BS G M r h δ σ H) (q : FLst G.K M a vs) : vs.length ≤ big := by
  rcases q with ⟨u, q, rfl | ⟨o, rfl⟩⟩ | ⟨o, its, n, k1, k2, k3, k4, k5, k6⟩
  · exact (b.mok a _ q).1
  · exact (b.mok a _ q).1
  · have := k6.length
    simp only [Array.length_toList] at this
    show vs.length ≤ 1000000
    omega
theorem BS.lst (b : BS G M r h δ σ H) {d : D} {v : V} {ds : List D} (rv : RepV G.J M r δ σ d v) (e : lstOf δ h d = some ds) :
    ∃ a vs, v = .ref a ∧ SqL G.K H a vs ∧ Reps G.J M r ds vs ∧ ds.length ≤ big := by
  cases d with
  | lst es =>
    cases e
    obtain ⟨a, vs, e1, e2, t⟩ := rv
    obtain ⟨z, q⟩ := b.mok a _ e2
    exact ⟨a, vs, e1, .inl (.inl q), t, by rw [← t.length]; exact z⟩
  | frz es =>
    cases e
    obtain ⟨a, vs, e1, e2, t⟩ := rv
    exact ⟨a, vs, e1, sqF b e2, t, by rw [← t.length]; exact fbig b e2⟩
  | ptr n =>
    obtain ⟨a, e1, e2⟩ := rv
    obtain ⟨_, z, vs, q, t⟩ := b.bx.at_ n a ds e2 e
    exact ⟨a, vs, e1, .inl (.inl q), t, z⟩
  | loc i =>
    obtain ⟨e1, es, e2⟩ := rv
    simp only [lstOf, e2] at e
    cases e
    obtain ⟨a, vs, e3, _, _, _, z, q, t⟩ := b.sl i _ _ e2 e1
    cases e3
    exact ⟨a, vs, rfl, .inl (.inl q), t, z⟩
  | _ => cases e
theorem sqT_of {a : Addr} {vs : List V} (b : BS G M r h δ σ H) (q : M a = some (.tup vs) ∨ KTup G.K a vs) : SqT G.K H a vs := by
  rcases q with q | ⟨o, its, n, k1, k2, k3, k4, k5⟩
  · exact .inl (.inl (b.mok a _ q).2)
  · exact .inr ⟨o, its, n, k1, k2, k3, big_line k4, k5⟩
/-- a list that is not locked -/
def wrOf (δ : DE) (h : Bx) (d : D) : Option (List D) := match d with
  | .frz _ => none
  | d => lstOf δ h d
@[simp] theorem wrOf_lst (δ : DE) (h : Bx) (ds : List D) : wrOf δ h (.lst ds) = some ds := pr rfl
@[simp] theorem wrOf_ptr (δ : DE) (h : Bx) (n : Nat) : wrOf δ h (.ptr n) = h[n]? := pr rfl
theorem BS.wr (b : BS G M r h δ σ H) {d : D} {v : V} {ds : List D} (rv : RepV G.J M r δ σ d v) (e : wrOf δ h d = some ds) :
    ∃ a vs, v = .ref a ∧ H a = some (.lst vs) ∧ Reps G.J M r ds vs ∧ ds.length ≤ big := by
  cases d with
  | frz es => cases e
  | lst es =>
    cases e
    obtain ⟨a, vs, e1, e2, t⟩ := rv
    obtain ⟨z, q⟩ := b.mok a _ e2
    exact ⟨a, vs, e1, q, t, by rw [← t.length]; exact z⟩
  | ptr n =>
    obtain ⟨a, e1, e2⟩ := rv
    obtain ⟨_, z, vs, q, t⟩ := b.bx.at_ n a ds e2 e
    exact ⟨a, vs, e1, q, t, z⟩
  | loc i =>
    obtain ⟨e1, es, e2⟩ := rv
    simp only [wrOf, lstOf, e2] at e
    cases e
    obtain ⟨a, vs, e3, _, _, _, z, q, t⟩ := b.sl i _ _ e2 e1
    cases e3
    exact ⟨a, vs, rfl, q, t, z⟩
  | _ => cases e
theorem tup_big (b : BS G M r h δ σ H) {a : Addr} {vs : List V} (q : M a = some (.tup vs) ∨ KTup G.K a vs) : vs.length ≤ big := by
  rcases q with q | ⟨o, its, n, k1, k2, k3, k4, k5⟩
  · exact (b.mok a _ q).1
  · have := k5.length
    simp only [Array.length_toList] at this
    show vs.length ≤ 1000000
    omega
theorem BS.seq (b : BS G M r h δ σ H) {d : D} {v : V} {ds : List D} (rv : RepV G.J M r δ σ d v) (e : seqOf δ h d = some ds) :
    ∃ a vs, v = .ref a ∧ (SqL G.K H a vs ∨ SqT G.K H a vs) ∧ Reps G.J M r ds vs := by
  cases d with
  | tup es =>
    cases e
    obtain ⟨a, vs, e1, e2, t⟩ := rv
    exact ⟨a, vs, e1, .inr (sqT_of b e2), t⟩
  | _ =>
    obtain ⟨a, vs, e1, q, t, _⟩ := b.lst rv e
    exact ⟨a, vs, e1, .inl q, t⟩
/-! ### names, constants -/
def varF (i : Nat) : EF := fun δ h => match δ[i]? with
  | some (.v d) => .ok d h
  | some (.own _) => .ok (.loc i) h
  | _ => .bad
def cF (d : D) : EF := fun _ h => .ok d h
theorem ev_var {i : Nat} {x : Str} {pos : Pos} (hN : X.N[i]? = some x) (hv : Vis X.env.scope x) (hd : (x == ("__debug__" : Str)) = false := by decide) (hcd : (x == ("__classdict__" : Str)) = false := by decide) :
    Ev X G W (.Name x pos) (varF i) := by
  refine PE.imp (pe_var hN hv hd hcd) fun σ H Q q => ?_
  obtain ⟨M, r, h, δ, b, q⟩ := q
  unfold varF at q
  cases e : δ[i]? with
  | none => rw [e] at q; exact q.elim
  | some s =>
    rw [e] at q
    obtain ⟨o, eo⟩ := b.lt e
    have sr := b.sl i s o e eo
    cases s with
    | no => exact q.elim
    | v d =>
      obtain ⟨v, e1, rp⟩ := sr
      subst e1
      refine ⟨v, eo, q.now b ?_⟩
      cases d with
      | loc j => exact rp.elim
      | _ => exact rp
    | own ds =>
      obtain ⟨a, vs, e1, _⟩ := sr
      subst e1
      exact ⟨_, eo, q.now (d := D.loc i) (v := V.ref a) b ⟨eo, ds, e⟩⟩
theorem ev_const {e : Expr} {d : D} {v : V} (p : PE X e (tC v)) (rp : ∀ M r δ σ, RepV G.J M r δ σ d v) : Ev X G W e (cF d) :=
  PE.imp p fun σ H Q q => by
    obtain ⟨M, r, h, δ, b, q⟩ := q
    exact q.now b (rp _ _ _ _)
theorem ev_int {i : Int} {j pos} : Ev X G W (.Constant (.int i) j pos) (cF (.int i)) := ev_const pe_int fun _ _ _ _ => rfl
theorem ev_bl {i : Bool} {j pos} : Ev X G W (.Constant (.bool i) j pos) (cF (.bl i)) := ev_const pe_bl fun _ _ _ _ => rfl
theorem ev_non {j pos} : Ev X G W (.Constant .none j pos) (cF .non) := ev_const pe_non fun _ _ _ _ => rfl
theorem ev_str {i : Str} {j pos} : Ev X G W (.Constant (.str i) j pos) (cF (.str i)) := ev_const pe_str fun _ _ _ _ => rfl
/-- a module's constant -/
theorem ev_glob {x : Str} {i : Int} {t : Tok} {pos : Pos} (hg : Gl X x) (hm : X.mg x = some (.int i t)) (hd : (x == ("__debug__" : Str)) = false := by decide) : Ev X G W (.Name x pos) (cF (.int i)) :=
  ev_const (pe_glob hg hm (v := .int i) ⟨t, rfl⟩ hd) fun _ _ _ _ => rfl
/-! ### two values -/
/-- a rule by values keeps to k -/
def OpK (G : Cfg) (W : WX) (rr : R2) (k : D → D → DE → Bx → R D) : Prop := ∀ (σ : L2.St) (δ : DE) (M : Imm) (r : List Addr) (h : Bx) (H : Hp) (x y : V) (dx dy : D) (Q : VK),
  BS G M r h δ σ H → RepV G.J M r δ σ dx x → RepV G.J M r δ σ dy y → After G W σ δ (rV G.J δ σ) M r H (k dx dy δ h) Q → rr x y H Q
def bin2 (k : D → D → DE → Bx → R D) (f g : EF) : EF := fun δ h => (f δ h).bind fun a h1 => (g δ h1).bind fun b h2 => k a b δ h2
theorem tOp_of {rr : R2} {k : D → D → DE → Bx → R D} {f g : EF} (hk : OpK G W rr k) {Q : VK} (q : tG G W (rV G.J) (bin2 k f g) σ H Q) : tOp rr (tG G W (rV G.J) f) (tG G W (rV G.J) g) σ H Q := by
  obtain ⟨M, r, h, δ, b, q⟩ := q
  refine ⟨M, r, h, δ, b, (After.bind q).more fun x H1 ⟨dx, M1, r1, h1, s1, b1, rx, q1⟩ => ?_⟩
  refine ⟨M1, r1, h1, δ, b1, (After.bind q1).more fun y H2 ⟨dy, M2, r2, h2, s2, b2, ry, q2⟩ => ?_⟩
  exact hk σ δ M2 r2 h2 H2 x y dx dy Q b2 (rx.mono s2.le s2.pre) ry q2
variable {a b c : Expr} {f g f3 : EF} {pos : Pos} {rr rr' : R2} {k k' : D → D → DE → Bx → R D}
theorem ev_op {op : Operator} (ho : OpR X (binaryOp op) rr) (hk : OpK G W rr k) (ha : Ev X G W a f) (hb : Ev X G W b g) : Ev X G W (.BinOp a op b pos) (bin2 k f g) :=
  PE.imp (pe_op ho ha hb) fun _ _ _ q => tOp_of hk q
theorem ev_cmp {op : CmpOp} (ho : OpR X (compareOp op) rr) (hk : OpK G W rr k) (ha : Ev X G W a f) (hb : Ev X G W b g) (hm : behindInMarks op b = false) : Ev X G W (.Compare a [op] [b] pos) (bin2 k f g) :=
  PE.imp (pe_cmpR ho ha hb hm) fun _ _ _ q => tOp_of hk q
/-- the answer as a truth value -/
def bOf : D → Bx → R Bool
  | .bl b, h => .ok b h
  | _, _ => .bad
@[simp] theorem bOf_bl (b : Bool) (h : Bx) : bOf (.bl b) h = .ok b h := pr rfl
def testF (f : EF) : DE → Bx → R Bool := fun δ h => (f δ h).bind bOf
theorem tTest_of {f : EF} {Q : Bool → Hp → Prop} (q : tG G W rB (testF f) σ H Q) : tTest (tG G W (rV G.J) f) σ H Q := by
  obtain ⟨M, r, h, δ, b, q⟩ := q
  refine ⟨M, r, h, δ, b, (After.bind q).more fun x H1 ⟨dx, M1, r1, h1, s1, b1, rx, q1⟩ => ?_⟩
  cases dx with
  | bl v => exact ⟨v, rx, q1.now b1 rfl⟩
  | _ => exact q1.elim
theorem evt_cmp {op : CmpOp} (ho : OpR X (compareOp op) rr) (hk : OpK G W rr k) (ha : Ev X G W a f) (hb : Ev X G W b g) (hm : behindInMarks op b = false) : EvT X G W (.Compare a [op] [b] pos) (testF (bin2 k f g)) :=
  PT.imp (pt_cmpR ho ha hb hm) fun σ H Q q => by
    have z := tTest_of q
    exact tOp_of (Q := fun x H' => ∃ k, x = .bl k ∧ Q k H') hk z
/-- any expression whose test is its value (a name, a call, ..): he by fun _ => rfl -/
theorem evt_val (ha : Ev X G W a f) (he : ∀ whole, isTrue a X.env whole = (do let v ← whole; standAt a.pos; holding [v] (truthy v))) : EvT X G W a (testF f) :=
  PT.imp (pt_val ha he) fun _ _ _ q => tTest_of q
/-- a op b op' c -/
def chainF (k k' : D → D → DE → Bx → R D) (f g f3 : EF) : EF := fun δ h => (f δ h).bind fun a h1 => (g δ h1).bind fun b h2 => (k a b δ h2).bind fun z h3 => match z with
  | .bl true => (f3 δ h3).bind fun c h4 => k' b c δ h4
  | .bl false => .ok (.bl false) h3
  | _ => .bad
theorem tChain_of (hk : OpK G W rr k) (hk' : OpK G W rr' k') {Q : VK} (q : tG G W (rV G.J) (chainF k k' f g f3) σ H Q) : tChain rr rr' (tG G W (rV G.J) f) (tG G W (rV G.J) g) (tG G W (rV G.J) f3) σ H Q := by
  obtain ⟨M, r, h, δ, b, q⟩ := q
  refine ⟨M, r, h, δ, b, (After.bind q).more fun x H1 ⟨dx, M1, r1, h1, s1, b1, rx, q1⟩ => ?_⟩
  refine ⟨M1, r1, h1, δ, b1, (After.bind q1).more fun y H2 ⟨dy, M2, r2, h2, s2, b2, ry, q2⟩ => ?_⟩
  refine hk σ δ M2 r2 h2 H2 x y dx dy _ b2 (rx.mono s2.le s2.pre) ry ((After.bind q2).more fun z H3 ⟨dz, M3, r3, h3, s3, b3, rz, q3⟩ => ?_)
  cases dz with
  | bl v =>
    refine ⟨v, rz, ?_⟩
    cases v with
    | true =>
      rw [if_pos rfl]
      refine ⟨M3, r3, h3, δ, b3, (After.bind q3).more fun w H4 ⟨dw, M4, r4, h4, s4, b4, rw', q4⟩ => ?_⟩
      exact hk' σ δ M4 r4 h4 H4 y w dy dw Q b4 ((ry.mono s3.le s3.pre).mono s4.le s4.pre) rw' q4
    | false =>
      rw [if_neg (by decide)]
      exact q3.now b3 rfl
  | _ => exact q3.elim
theorem ev_chain {op op' : CmpOp} (ho : OpR X (compareOp op) rr) (ho' : OpR X (compareOp op') rr') (hk : OpK G W rr k) (hk' : OpK G W rr' k') (ha : Ev X G W a f) (hb : Ev X G W b g) (hc : Ev X G W c f3)
    (hm : lastMarks [op, op'] [b, c] = false := by with_unfolding_all rfl) : Ev X G W (.Compare a [op, op'] [b, c] pos) (chainF k k' f g f3) :=
  PE.imp (pe_chain ho ho' ha hb hc hm) fun _ _ _ q => tChain_of hk hk' q
theorem evt_chain {op op' : CmpOp} (ho : OpR X (compareOp op) rr) (ho' : OpR X (compareOp op') rr') (hk : OpK G W rr k) (hk' : OpK G W rr' k') (ha : Ev X G W a f) (hb : Ev X G W b g) (hc : Ev X G W c f3)
    (hm : lastMarks [op, op'] [b, c] = false := by with_unfolding_all rfl) : EvT X G W (.Compare a [op, op'] [b, c] pos) (testF (chainF k k' f g f3)) :=
  PT.imp (pt_chain ho ho' ha hb hc hm) fun σ H Q q => by
    have z := tTest_of q
    exact tChain_of (Q := fun x H' => ∃ k, x = .bl k ∧ Q k H') hk hk' z
/-! ### and, or, not, a if t else b -/
variable {tf tg : DE → Bx → R Bool} {rest : List Expr}
def andT (tf tg : DE → Bx → R Bool) : DE → Bx → R Bool := fun δ h => (tf δ h).bind fun b h1 => if b = true then tg δ h1 else .ok false h1
def orT (tf tg : DE → Bx → R Bool) : DE → Bx → R Bool := fun δ h => (tf δ h).bind fun b h1 => if b = true then .ok true h1 else tg δ h1
def notT (tf : DE → Bx → R Bool) : DE → Bx → R Bool := fun δ h => (tf δ h).bind fun b h1 => .ok (!b) h1
theorem evw_and1 (ha : EvT X G W a tf) : EvW X G W (.BoolOp .And [a] pos) tf := pw_and1 ha
theorem evw_or1 (ha : EvT X G W a tf) : EvW X G W (.BoolOp .Or [a] pos) tf := pw_or1 ha
theorem evw_and (ha : EvT X G W a tf) (hb : EvW X G W (.BoolOp .And (b :: rest) pos) tg) : EvW X G W (.BoolOp .And (a :: b :: rest) pos) (andT tf tg) :=
  PW.imp (pw_and ha hb) fun σ H Q q => by
    obtain ⟨M, r, h, δ, b, q⟩ := q
    refine ⟨M, r, h, δ, b, (After.bind q).more fun x H1 ⟨dx, M1, r1, h1, s1, b1, rx, q1⟩ => ?_⟩
    cases rx
    cases x with
    | true => exact ⟨M1, r1, h1, δ, b1, q1⟩
    | false => exact q1.now b1 rfl
theorem evw_or (ha : EvT X G W a tf) (hb : EvW X G W (.BoolOp .Or (b :: rest) pos) tg) : EvW X G W (.BoolOp .Or (a :: b :: rest) pos) (orT tf tg) :=
  PW.imp (pw_or ha hb) fun σ H Q q => by
    obtain ⟨M, r, h, δ, b, q⟩ := q
    refine ⟨M, r, h, δ, b, (After.bind q).more fun x H1 ⟨dx, M1, r1, h1, s1, b1, rx, q1⟩ => ?_⟩
    cases rx
    cases x with
    | false => exact ⟨M1, r1, h1, δ, b1, q1⟩
    | true => exact q1.now b1 rfl
theorem evt_w (ha : EvW X G W a tf) : EvT X G W a tf := PW.pt ha
theorem evt_not (ha : EvT X G W a tf) : EvT X G W (.UnaryOp .Not a pos) (notT tf) :=
  PT.imp (pt_not ha) fun σ H Q q => by
    obtain ⟨M, r, h, δ, b, q⟩ := q
    refine ⟨M, r, h, δ, b, (After.bind q).more fun x H1 ⟨dx, M1, r1, h1, s1, b1, rx, q1⟩ => ?_⟩
    cases rx
    exact q1.now b1 rfl
def andV (f g : EF) : EF := fun δ h => (f δ h).bind fun a h1 => match a with
  | .bl true => g δ h1
  | .bl false => .ok (.bl false) h1
  | _ => .bad
def orV (f g : EF) : EF := fun δ h => (f δ h).bind fun a h1 => match a with
  | .bl false => g δ h1
  | .bl true => .ok (.bl true) h1
  | _ => .bad
def notV (f : EF) : EF := fun δ h => (f δ h).bind fun a h1 => match a with
  | .bl b => .ok (.bl (!b)) h1
  | _ => .bad
theorem ev_one {op} (ha : Ev X G W a f) : Ev X G W (.BoolOp op [a] pos) f := pe_one ha
theorem ev_and (ha : Ev X G W a f) (hb : Ev X G W (.BoolOp .And (b :: rest) pos) g) : Ev X G W (.BoolOp .And (a :: b :: rest) pos) (andV f g) :=
  PE.imp (pe_and ha hb) fun σ H Q q => by
    obtain ⟨M, r, h, δ, b, q⟩ := q
    refine ⟨M, r, h, δ, b, (After.bind q).more fun x H1 ⟨dx, M1, r1, h1, s1, b1, rx, q1⟩ => ?_⟩
    cases dx with
    | bl v =>
      refine ⟨v, rx, ?_⟩
      cases v with
      | true => exact ⟨M1, r1, h1, δ, b1, q1⟩
      | false => exact q1.now b1 rfl
    | _ => exact q1.elim
theorem ev_or (ha : Ev X G W a f) (hb : Ev X G W (.BoolOp .Or (b :: rest) pos) g) : Ev X G W (.BoolOp .Or (a :: b :: rest) pos) (orV f g) :=
  PE.imp (pe_or ha hb) fun σ H Q q => by
    obtain ⟨M, r, h, δ, b, q⟩ := q
    refine ⟨M, r, h, δ, b, (After.bind q).more fun x H1 ⟨dx, M1, r1, h1, s1, b1, rx, q1⟩ => ?_⟩
    cases dx with
    | bl v =>
      refine ⟨v, rx, ?_⟩
      cases v with
      | false => exact ⟨M1, r1, h1, δ, b1, q1⟩
      | true => exact q1.now b1 rfl
    | _ => exact q1.elim
theorem ev_not (ha : Ev X G W a f) : Ev X G W (.UnaryOp .Not a pos) (notV f) :=
  PE.imp (pe_not ha) fun σ H Q q => by
    obtain ⟨M, r, h, δ, b, q⟩ := q
    refine ⟨M, r, h, δ, b, (After.bind q).more fun x H1 ⟨dx, M1, r1, h1, s1, b1, rx, q1⟩ => ?_⟩
    cases dx with
    | bl v => exact ⟨v, rx, q1.now b1 rfl⟩
    | _ => exact q1.elim
def iteF (t : DE → Bx → R Bool) (f g : EF) : EF := fun δ h => (t δ h).bind fun b h1 => if b = true then f δ h1 else g δ h1
theorem ev_if (hc : EvT X G W c tf) (ha : Ev X G W a f) (hb : Ev X G W b g) : Ev X G W (.IfExp c a b pos) (iteF tf f g) :=
  PE.imp (pe_ifExp hc ha hb) fun σ H Q q => by
    obtain ⟨M, r, h, δ, b, q⟩ := q
    refine ⟨M, r, h, δ, b, (After.bind q).more fun x H1 ⟨dx, M1, r1, h1, s1, b1, rx, q1⟩ => ?_⟩
    cases rx
    cases x with
    | true => exact ⟨M1, r1, h1, δ, b1, q1⟩
    | false => exact ⟨M1, r1, h1, δ, b1, q1⟩
/-! ### lists of arguments; displays -/
variable {e : Expr} {es : List Expr} {fs : DE → Bx → R (List D)}
def nilA : DE → Bx → R (List D) := fun _ h => .ok [] h
def consA (f : EF) (fs : DE → Bx → R (List D)) : DE → Bx → R (List D) := fun δ h => (f δ h).bind fun d h1 => (fs δ h1).bind fun ds h2 => .ok (d :: ds) h2
theorem eva_nil : EvA X G W [] nilA := PA.imp pa_nil fun σ H Q q => by
  obtain ⟨M, r, h, δ, b, q⟩ := q
  exact q.now b rfl
theorem eva_cons (ha : Ev X G W e f) (hr : EvA X G W es fs) (hs : starEach (e :: es) X.env = (false, eval e X.env) :: starEach es X.env := by rfl) : EvA X G W (e :: es) (consA f fs) :=
  PA.imp (pa_cons ha hr hs) fun σ H Q q => by
    obtain ⟨M, r, h, δ, b, q⟩ := q
    refine ⟨M, r, h, δ, b, (After.bind q).more fun x H1 ⟨dx, M1, r1, h1, s1, b1, rx, q1⟩ => ?_⟩
    refine ⟨M1, r1, h1, δ, b1, (After.bind q1).more fun xs H2 ⟨ds, M2, r2, h2, s2, b2, rs, q2⟩ => ?_⟩
    exact q2.now b2 ⟨x, xs, rfl, RepV.mono s2.le s2.pre rx, rs⟩
/-- no slot's own list -/
def isV : D → Bool
  | .loc _ => false
  | _ => true
theorem RepVs.reps : ∀ {ds : List D} {vs : List V}, RepVs J M r δ σ ds vs → ds.all isV = true → Reps J M r ds vs
  | [], _, q, _ => q
  | d :: ds, _, q, e => by
    obtain ⟨v, vt, rfl, h1, h2⟩ := q
    rw [List.all_cons, Bool.and_eq_true] at e
    refine ⟨v, vt, rfl, ?_, RepVs.reps h2 e.2⟩
    cases d with
    | loc i => cases e.1
    | _ => exact h1
theorem RepVs.length : ∀ {ds : List D} {vs : List V}, RepVs J M r δ σ ds vs → vs.length = ds.length
  | [], _, q => by cases q; rfl
  | d :: ds, _, q => by
    obtain ⟨v, vt, rfl, _, h2⟩ := q
    simp [RepVs.length h2]
def mkD (c : List D → D) (ds : List D) (h : Bx) : R D := if (ds.all isV && decide (ds.length ≤ big)) = true then .ok (c ds) h else .bad
theorem mkD_ok {c : List D → D} {ds : List D} {h : Bx} (e : (ds.all isV && decide (ds.length ≤ big)) = true) : mkD c ds h = .ok (c ds) h := if_pos e
/-- a new tuple, a new list: laid -/
theorem tup_new (b : BS G M r h δ σ H) {ds : List D} {vs : List V} (t : Reps G.J M r ds vs) (z : ds.length ≤ big) {Q : VK} (q : After G W σ δ (rV G.J δ σ) M r H (.ok (.tup ds) h) Q) : ∀ p, H p = none → Q (.ref p) (upd H p (.tup vs)) := fun p hp => by
  obtain ⟨b', s⟩ := b.laid (o := .tup vs) hp (by show vs.length ≤ big; rw [t.length]; exact z)
  exact q _ _ _ _ s b' ⟨p, vs, rfl, .inl updM_same, Reps.mono s.le s.pre _ _ t⟩
theorem lst_new (b : BS G M r h δ σ H) {ds : List D} {vs : List V} (t : Reps G.J M r ds vs) (z : ds.length ≤ big) {Q : VK} (q : After G W σ δ (rV G.J δ σ) M r H (.ok (.lst ds) h) Q) : ∀ p, H p = none → Q (.ref p) (upd H p (.lst vs)) := fun p hp => by
  obtain ⟨b', s⟩ := b.laid (o := .lst vs) hp (by show vs.length ≤ big; rw [t.length]; exact z)
  exact q _ _ _ _ s b' ⟨p, vs, rfl, updM_same, Reps.mono s.le s.pre _ _ t⟩
def tupF (fs : DE → Bx → R (List D)) : EF := fun δ h => (fs δ h).bind (mkD .tup)
def lstF (fs : DE → Bx → R (List D)) : EF := fun δ h => (fs δ h).bind (mkD .lst)
theorem ev_tup {x1} (ha : EvA X G W es fs) : Ev X G W (.Tuple es x1 pos) (tupF fs) :=
  PE.imp (pe_tup ha) fun σ H Q q => by
    obtain ⟨M, r, h, δ, b, q⟩ := q
    refine ⟨M, r, h, δ, b, (After.bind q).more fun xs H1 ⟨ds, M1, r1, h1, s1, b1, rx, q1⟩ => ?_⟩
    unfold mkD at q1
    split at q1
    · rename_i e
      rw [Bool.and_eq_true, decide_eq_true_eq] at e
      have t := RepVs.reps rx e.1
      exact ⟨by rw [t.length]; exact big_line e.2, tup_new b1 t e.2 q1⟩
    · exact q1.elim
theorem ev_lst (ha : EvA X G W es fs) : Ev X G W (.List es pos) (lstF fs) :=
  PE.imp (pe_lst ha) fun σ H Q q => by
    obtain ⟨M, r, h, δ, b, q⟩ := q
    refine ⟨M, r, h, δ, b, (After.bind q).more fun xs H1 ⟨ds, M1, r1, h1, s1, b1, rx, q1⟩ => ?_⟩
    unfold mkD at q1
    split at q1
    · rename_i e
      rw [Bool.and_eq_true, decide_eq_true_eq] at e
      have t := RepVs.reps rx e.1
      exact ⟨by rw [t.length]; exact big_line e.2, lst_new b1 t e.2 q1⟩
    · exact q1.elim
end
end LP
/-! LpC: operators, comparisons, built-ins by values of plain data. -/
namespace LP
open PySem PySem.Spec PyProof.Rows L2
/-! ### data as the library's data -/
mutual
def D.py : D → PyData
  | .non => .none
  | .bl b => .bool b
  | .int i => .int i
  | .str x => .str x
  | .tup ds => .tuple (D.pys ds)
  | .lst ds => .list (D.pys ds)
  | .ptr _ => .none
  | .loc _ => .none
  | .frz ds => .list (D.pys ds)
  | .lam _ => .none
  | .fn _ => .none
def D.pys : List D → List PyData
  | [] => []
  | d :: ds => d.py :: D.pys ds
end
mutual
/-- no box within -/
def D.pure : D → Bool
  | .tup ds => D.pures ds
  | .lst ds => D.pures ds
  | .frz ds => D.pures ds
  | .ptr _ => false
  | .loc _ => false
  | .lam _ => false
  | .fn _ => false
  | _ => true
def D.pures : List D → Bool
  | [] => true
  | d :: ds => d.pure && D.pures ds
end
mutual
def D.dep : D → Nat
  | .tup ds => D.deps ds + 1
  | .lst ds => D.deps ds + 1
  | .frz ds => D.deps ds + 1
  | _ => 0
def D.deps : List D → Nat
  | [] => 0
  | d :: ds => max d.dep (D.deps ds)
end
/-- == -/
def D.eq (a b : D) : Bool := PyData.eqv a.py b.py
mutual
theorem plain_py : ∀ d : D, d.py.plain = true
  | .non => rfl
  | .bl _ => rfl
  | .int _ => rfl
  | .str _ => rfl
  | .tup ds => by show PyData.plainAll (D.pys ds) = true; exact plain_pys ds
  | .lst ds => by show PyData.plainAll (D.pys ds) = true; exact plain_pys ds
  | .frz ds => by show PyData.plainAll (D.pys ds) = true; exact plain_pys ds
  | .ptr _ => rfl
  | .loc _ => rfl
  | .lam _ => rfl
  | .fn _ => rfl
theorem plain_pys : ∀ ds : List D, PyData.plainAll (D.pys ds) = true
  | [] => rfl
  | d :: ds => by show (d.py.plain && PyData.plainAll (D.pys ds)) = true; rw [plain_py d, plain_pys ds]; rfl
end
mutual
theorem depth_py : ∀ d : D, d.py.depth = d.dep
  | .non => rfl
  | .bl _ => rfl
  | .int _ => rfl
  | .str _ => rfl
  | .tup ds => by show PyData.depthAll (D.pys ds) + 1 = D.deps ds + 1; rw [depth_pys ds]
  | .lst ds => by show PyData.depthAll (D.pys ds) + 1 = D.deps ds + 1; rw [depth_pys ds]
  | .frz ds => by show PyData.depthAll (D.pys ds) + 1 = D.deps ds + 1; rw [depth_pys ds]
  | .ptr _ => rfl
  | .loc _ => rfl
  | .lam _ => rfl
  | .fn _ => rfl
theorem depth_pys : ∀ ds : List D, PyData.depthAll (D.pys ds) = D.deps ds
  | [] => rfl
  | d :: ds => by show max d.py.depth (PyData.depthAll (D.pys ds)) = max d.dep (D.deps ds); rw [depth_py d, depth_pys ds]
end
/-- a box as what it holds -/
def vw (δ : DE) (h : Bx) (d : D) : D := match lstOf δ h d with
  | some ds => .lst ds
  | none => d
section
variable {X : Cx} {G : Cfg} {W : WX} {σ : L2.St} {δ : DE} {M M1 M2 : Imm} {r r1 r2 : List Addr} {h h1 h2 : Bx} {H H1 H2 : Hp} {K : PySem.W.Frag} {J : Jd}
mutual
theorem dp_rep (b : BS G M r h δ σ H) : ∀ (d : D) (v : V), Rep G.J M r d v → d.pure = true → Dp G.K H v d.py
  | .non, _, q, _ => by cases q; exact .non
  | .bl _, _, q, _ => by cases q; exact .bl _
  | .int _, _, q, _ => by cases q; exact .int _
  | .str _, _, q, _ => by cases q; exact .str _
  | .tup ds, _, q, p => by
    obtain ⟨a, vs, e, q, t⟩ := q
    subst e
    exact .tup (sqT_of b q) (dp_reps b ds vs t p)
  | .lst ds, _, q, p => by
    obtain ⟨a, vs, e, q, t⟩ := q
    subst e
    exact .lst (.inl (.inl (b.mok a _ q).2)) (dp_reps b ds vs t p)
  | .frz ds, _, q, p => by
    obtain ⟨a, vs, e, q, t⟩ := q
    subst e
    exact .lst (sqF b q) (dp_reps b ds vs t p)
  | .ptr _, _, _, p => by cases p
  | .loc _, _, _, p => by cases p
  | .lam _, _, _, p => by cases p
  | .fn _, _, _, p => by cases p
theorem dp_reps (b : BS G M r h δ σ H) : ∀ (ds : List D) (vs : List V), Reps G.J M r ds vs → D.pures ds = true → DpAll G.K H vs (D.pys ds)
  | [], _, q, _ => by cases q; exact .nil
  | d :: ds, _, q, p => by
    obtain ⟨v, vt, rfl, h1, h2⟩ := q
    have p' : (d.pure && D.pures ds) = true := p
    rw [Bool.and_eq_true] at p'
    exact .cons (dp_rep b d v h1 p'.1) (dp_reps b ds vt h2 p'.2)
end
theorem dp_of (b : BS G M r h δ σ H) {d : D} {v : V} (rv : RepV G.J M r δ σ d v) (p : (vw δ h d).pure = true) : Dp G.K H v (vw δ h d).py := by
  unfold vw at p ⊢
  cases e : lstOf δ h d with
  | some ds =>
    rw [e] at p
    obtain ⟨a, vs, e1, q, t, _⟩ := b.lst rv e
    subst e1
    exact .lst q (dp_reps b ds vs t p)
  | none =>
    rw [e] at p
    cases d with
    | ptr n => cases p
    | loc i => cases p
    | lam k => cases p
    | fn x => cases p
    | _ => exact dp_rep b _ _ rv p
def rEqP (K : PySem.W.Frag) (ng : Bool) : R2 := fun x y H Q => ∃ d e : D, Dp K H x d.py ∧ Dp K H y e.py ∧ min d.dep e.dep ≤ 64 ∧ Q (.bl (if ng then !D.eq d e else D.eq d e)) H
theorem op_eqP (hu : X.A.units + 64 < cLine) : OpR X (compareOp .Eq) (rEqP X.K false) := by
  intro pins s σ H x y v u Q I rx ry h
  obtain ⟨d, e, hd, he, z, q⟩ := h
  obtain ⟨as, r1⟩ := Dp.reads I _ x v hd rx
  obtain ⟨bs, r2⟩ := Dp.reads I _ y u he ry
  exact SeqAt.eq_plain r1 r2 (plain_py d) (plain_py e) (by rw [depth_py, depth_py]; omega) ⟨.bl _, H, I, rfl, q⟩
theorem op_neP (hu : X.A.units + 64 < cLine) : OpR X (compareOp .NotEq) (rEqP X.K true) := by
  intro pins s σ H x y v u Q I rx ry h
  obtain ⟨d, e, hd, he, z, q⟩ := h
  obtain ⟨as, r1⟩ := Dp.reads I _ x v hd rx
  obtain ⟨bs, r2⟩ := Dp.reads I _ y u he ry
  exact SeqAt.ne_plain r1 r2 (plain_py d) (plain_py e) (by rw [depth_py, depth_py]; omega) ⟨.bl _, H, I, rfl, q⟩
def eqK (ng : Bool) (a b : D) (δ : DE) (h : Bx) : R D :=
  if ((vw δ h a).pure && (vw δ h b).pure && decide (min (vw δ h a).dep (vw δ h b).dep ≤ 64)) = true then .ok (.bl (if ng then !D.eq (vw δ h a) (vw δ h b) else D.eq (vw δ h a) (vw δ h b))) h else .bad
theorem eqK_ok (ng : Bool) : OpK G W (rEqP G.K ng) (eqK ng) := by
  intro σ δ M r h H x y dx dy Q b rx ry q
  unfold eqK at q
  split at q
  · rename_i e
    rw [Bool.and_eq_true, Bool.and_eq_true, decide_eq_true_eq] at e
    exact ⟨_, _, dp_of b rx e.1.1, dp_of b ry e.1.2, e.2, q.now b rfl⟩
  · exact q.elim
/-! ### in, not in -/
def rInP (K : PySem.W.Frag) (ng : Bool) : R2 := fun x y H Q => ∃ (d : D) (ds : List D), Dp K H x d.py ∧ (Dp K H y (.list (D.pys ds)) ∨ Dp K H y (.tuple (D.pys ds))) ∧ min (D.deps ds) d.dep ≤ 60 ∧
  Q (.bl (if ng then !ds.any (fun z => D.eq z d) else ds.any fun z => D.eq z d)) H
theorem any_pys (d : PyData) : ∀ ds : List D, ((D.pys ds).any fun z => PyData.eqv z d) = ds.any fun z => PyData.eqv z.py d
  | [] => rfl
  | e :: ds => by show (PyData.eqv e.py d || (D.pys ds).any fun z => PyData.eqv z d) = _; rw [any_pys d ds]; rfl
theorem op_inP (hu : X.A.units + 64 < cLine) : OpR X (compareOp .In) (rInP X.K false) := by
  intro pins s σ H x y v u Q I rx ry h
  obtain ⟨d, ds, hd, he, z, q⟩ := h
  obtain ⟨as, r1⟩ := Dp.reads I _ x v hd rx
  have hq : EP X pins σ Q (.bool ((D.pys ds).any fun z => PyData.eqv z d.py)) s := ⟨.bl _, H, I, rfl, by rw [any_pys]; exact q⟩
  have hz : X.A.units + 1 + min (PyData.depthAll (D.pys ds)) d.py.depth < cLine := by rw [depth_py, depth_pys]; omega
  rcases he with he | he
  · obtain ⟨bs, r2⟩ := Dp.reads I _ y u he ry
    exact SeqAt.in_list_data r2 r1 (plain_pys ds) (plain_py d) hz hq
  · obtain ⟨bs, r2⟩ := Dp.reads I _ y u he ry
    exact SeqAt.in_tuple_data r2 r1 (plain_pys ds) (plain_py d) hz hq
theorem op_notInP (hu : X.A.units + 64 < cLine) : OpR X (compareOp .NotIn) (rInP X.K true) := by
  intro pins s σ H x y v u Q I rx ry h
  obtain ⟨d, ds, hd, he, z, q⟩ := h
  obtain ⟨as, r1⟩ := Dp.reads I _ x v hd rx
  have hq : EP X pins σ Q (.bool (!(D.pys ds).any fun z => PyData.eqv z d.py)) s := ⟨.bl _, H, I, rfl, by rw [any_pys]; exact q⟩
  have hz : X.A.units + 1 + min (PyData.depthAll (D.pys ds)) d.py.depth < cLine := by rw [depth_py, depth_pys]; omega
  rcases he with he | he
  · obtain ⟨bs, r2⟩ := Dp.reads I _ y u he ry
    exact SeqAt.notIn_list_data r2 r1 (plain_pys ds) (plain_py d) hz hq
  · obtain ⟨bs, r2⟩ := Dp.reads I _ y u he ry
    exact SeqAt.notIn_tuple_data r2 r1 (plain_pys ds) (plain_py d) hz hq
def inK (ng : Bool) (a b : D) (δ : DE) (h : Bx) : R D := match seqOf δ h b with
  | some ds => if ((vw δ h a).pure && D.pures ds && decide (min (D.deps ds) (vw δ h a).dep ≤ 60)) = true then
      .ok (.bl (if ng then !ds.any (fun z => D.eq z (vw δ h a)) else ds.any fun z => D.eq z (vw δ h a))) h else .bad
  | none => .bad
theorem inK_ok (ng : Bool) : OpK G W (rInP G.K ng) (inK ng) := by
  intro σ δ M r h H x y dx dy Q b rx ry q
  unfold inK at q
  split at q
  · rename_i ds es
    split at q
    · rename_i e
      rw [Bool.and_eq_true, Bool.and_eq_true, decide_eq_true_eq] at e
      obtain ⟨a, vs, e1, hs, t⟩ := b.seq ry es
      subst e1
      refine ⟨_, ds, dp_of b rx e.1.1, ?_, e.2, q.now b rfl⟩
      rcases hs with hs | hs
      · exact .inl (.lst hs (dp_reps b ds vs t e.1.2))
      · exact .inr (.tup hs (dp_reps b ds vs t e.1.2))
    · exact q.elim
  · exact q.elim
/-! ### is None; <, <=, >, >= of ints -/
def isNon : D → Bool
  | .non => true
  | _ => false
def isNK (a b : D) (_ : DE) (h : Bx) : R D := match b with
  | .non => .ok (.bl (isNon a)) h
  | _ => .bad
def notNK (a b : D) (_ : DE) (h : Bx) : R D := match b with
  | .non => .ok (.bl (!isNon a)) h
  | _ => .bad
theorem non_iff {d : D} {x : V} (rv : RepV J M r δ σ d x) (nl : ∀ i, d ≠ .loc i) : decide (x = .non) = isNon d := by
  cases d with
  | loc i => exact absurd rfl (nl i)
  | non => cases rv; rfl
  | bl _ => cases rv; rfl
  | int _ => cases rv; rfl
  | str _ => cases rv; rfl
  | tup _ => obtain ⟨a, vs, e, _⟩ := rv; subst e; rfl
  | lst _ => obtain ⟨a, vs, e, _⟩ := rv; subst e; rfl
  | frz _ => obtain ⟨a, vs, e, _⟩ := rv; subst e; rfl
  | ptr _ => obtain ⟨a, e, _⟩ := rv; subst e; rfl
  | fn _ => obtain ⟨a, e, _⟩ := rv; subst e; rfl
  | lam _ => obtain ⟨f, o, c, q, e, _⟩ := rv; subst e; rfl
theorem non_loc (b : BS G M r h δ σ H) {d : D} {x : V} (rv : RepV G.J M r δ σ d x) : decide (x = .non) = isNon d := by
  cases d with
  | loc i =>
    obtain ⟨e1, ds, e2⟩ := rv
    obtain ⟨a, vs, e3, _⟩ := b.sl i _ _ e2 e1
    cases e3; rfl
  | _ => exact non_iff rv (fun i z => by cases z)
theorem isNK_ok : OpK G W (fun x y H Q => y = .non ∧ Q (.bl (decide (x = .non))) H) isNK := by
  intro σ δ M r h H x y dx dy Q b rx ry q
  cases dy with
  | non =>
    cases ry
    refine ⟨rfl, ?_⟩
    rw [non_loc b rx]
    exact q.now b rfl
  | _ => exact q.elim
theorem notNK_ok : OpK G W (fun x y H Q => y = .non ∧ Q (.bl (!decide (x = .non))) H) notNK := by
  intro σ δ M r h H x y dx dy Q b rx ry q
  cases dy with
  | non =>
    cases ry
    refine ⟨rfl, ?_⟩
    rw [non_loc b rx]
    exact q.now b rfl
  | _ => exact q.elim
def i2K (g : Int → Int → D) (a b : D) (_ : DE) (h : Bx) : R D := match a, b with
  | .int i, .int j => .ok (g i j) h
  | _, _ => .bad
theorem i2K_ok {g : Int → Int → D} {gv : Int → Int → V} (hg : ∀ i j M r δ σ, RepV G.J M r δ σ (g i j) (gv i j)) : OpK G W (rI0 gv) (i2K g) := by
  intro σ δ M r h H x y dx dy Q b rx ry q
  unfold i2K at q
  split at q
  · rename_i i j
    cases rx; cases ry
    exact ⟨i, j, rfl, rfl, q.now b (hg i j _ _ _ _)⟩
  · exact q.elim
def i2KC (C : Int → Int → Bool) (g : Int → Int → D) (a b : D) (_ : DE) (h : Bx) : R D := match a, b with
  | .int i, .int j => if C i j = true then .ok (g i j) h else .bad
  | _, _ => .bad
theorem i2KC_ok {C : Int → Int → Bool} {P : Int → Int → Prop} {g : Int → Int → D} {gv : Int → Int → V} (hC : ∀ i j, C i j = true → P i j) (hg : ∀ i j M r δ σ, RepV G.J M r δ σ (g i j) (gv i j)) : OpK G W (rI P gv) (i2KC C g) := by
  intro σ δ M r h H x y dx dy Q b rx ry q
  unfold i2KC at q
  split at q
  · rename_i i j
    cases rx; cases ry
    split at q
    · rename_i e
      exact ⟨i, j, rfl, rfl, hC i j e, q.now b (hg i j _ _ _ _)⟩
    · exact q.elim
  · exact q.elim
abbrev ltK := i2K fun i j => .bl (decide (i < j))
abbrev leK := i2K fun i j => .bl (decide (i ≤ j))
abbrev gtK := i2K fun i j => .bl (decide (j < i))
abbrev geK := i2K fun i j => .bl (decide (j ≤ i))
theorem ltK_ok : OpK G W (rI0 fun i j => .bl (decide (i < j))) ltK := i2K_ok fun _ _ _ _ _ _ => rfl
theorem leK_ok : OpK G W (rI0 fun i j => .bl (decide (i ≤ j))) leK := i2K_ok fun _ _ _ _ _ _ => rfl
theorem gtK_ok : OpK G W (rI0 fun i j => .bl (decide (j < i))) gtK := i2K_ok fun _ _ _ _ _ _ => rfl
theorem geK_ok : OpK G W (rI0 fun i j => .bl (decide (j ≤ i))) geK := i2K_ok fun _ _ _ _ _ _ => rfl
/-! ### arithmetic -/
abbrev subK := i2K fun i j => .int (i - j)
theorem subK_ok : OpK G W (rI0 fun i j => .int (i - j)) subK := i2K_ok fun _ _ _ _ _ _ => rfl
abbrev modK := i2KC (fun _ j => decide (0 < j)) fun i j => .int (i % j)
theorem modK_ok : OpK G W (rI (fun _ j => 0 < j) fun i j => .int (i % j)) modK := i2KC_ok (fun _ _ e => by have e' := of_decide_eq_true e; exact e') fun _ _ _ _ _ _ => rfl
abbrev divK := i2KC (fun _ j => decide (0 < j ∧ j < 1073741824)) fun i j => .int (i / j)
theorem divK_ok : OpK G W (rI CDiv fun i j => .int (i / j)) divK := i2KC_ok (fun _ _ e => by have e' := of_decide_eq_true e; exact e') fun _ _ _ _ _ _ => rfl
abbrev powK := i2KC (fun i j => decide (0 ≤ j ∧ j ≤ 1000000 ∧ i.natAbs < 2 ^ 64)) fun i j => .int (i ^ j.toNat)
theorem powK_ok : OpK G W (rI CPow fun i j => .int (i ^ j.toNat)) powK := i2KC_ok (fun _ _ e => by have e' := of_decide_eq_true e; exact e') fun _ _ _ _ _ _ => rfl
abbrev mulK := i2KC (fun i j => decide ((-(2 ^ 64) < i ∧ i < 2 ^ 64) ∨ (-(2 ^ 64) < j ∧ j < 2 ^ 64))) fun i j => .int (i * j)
theorem mulK_ok : OpK G W (rI CMul fun i j => .int (i * j)) mulK := i2KC_ok (fun _ _ e => by have e' := of_decide_eq_true e; exact e') fun _ _ _ _ _ _ => rfl
def addK (a b : D) (δ : DE) (h : Bx) : R D := match a, b with
  | .int i, .int j => .ok (.int (i + j)) h
  | .str x, .str y => if x.length + y.length ≤ big then .ok (.str (x ++ y)) h else .bad
  | .tup xs, .tup ys => if xs.length + ys.length ≤ big then .ok (.tup (xs ++ ys)) h else .bad
  | a, b => match wrOf δ h a, wrOf δ h b with
    | some xs, some ys => if xs.length + ys.length ≤ big then .ok (.lst (xs ++ ys)) h else .bad
    | _, _ => .bad
abbrev rAddK (K : PySem.W.Frag) : R2 := fun x y H Q => rI0 (fun i j => .int (i + j)) x y H Q ∨ (fun x y H Q => (fun x y H Q => ∃ i j : Str, x = .str i ∧ y = .str j ∧ i.length + j.length ≤ sizeLine ∧ Q (.str (i ++ j)) H) x y H Q ∨
  (fun x y H Q => rCatA K x y H Q ∨ rCat x y H Q) x y H Q) x y H Q
theorem op_addK : OpR X (binaryOp .Add) (rAddK X.K) := OpR.or op_add (OpR.or op_add_str (OpR.or op_catA op_cat))
theorem addK_ok : OpK G W (rAddK G.K) addK := by
  intro σ δ M r h H x y dx dy Q b rx ry q
  unfold addK at q
  split at q
  · rename_i i j
    cases rx; cases ry
    exact .inl ⟨i, j, rfl, rfl, q.now b rfl⟩
  · rename_i i j
    split at q
    · rename_i e
      cases rx; cases ry
      exact .inr (.inl ⟨i, j, rfl, rfl, big_line e, q.now b rfl⟩)
    · exact q.elim
  · rename_i xs ys
    split at q
    · rename_i e
      obtain ⟨a, vs, e1, m1, t1⟩ := rx
      obtain ⟨c, us, e2, m2, t2⟩ := ry
      subst e1 e2
      refine .inr (.inr (.inl ⟨a, c, vs, us, rfl, rfl, sqT_of b m1, sqT_of b m2, by rw [t1.length, t2.length]; exact big_line e, fun z => ?_, fun n z => ?_, fun n n' => ?_⟩))
      · have : xs = [] := List.eq_nil_of_length_eq_zero (by rw [← t1.length, z]; rfl)
        subst this
        exact q.now b ⟨c, us, rfl, m2, t2⟩
      · have : ys = [] := List.eq_nil_of_length_eq_zero (by rw [← t2.length, z]; rfl)
        subst this
        rw [List.append_nil] at q
        exact q.now b ⟨a, vs, rfl, m1, t1⟩
      · exact tup_new b (t1.append t2) (by rw [List.length_append]; exact e) q
    · exact q.elim
  · split at q
    · rename_i xs ys e1 e2
      split at q
      · rename_i e
        obtain ⟨a, vs, z1, q1, t1, _⟩ := b.wr rx e1
        obtain ⟨c, us, z2, q2, t2, _⟩ := b.wr ry e2
        subst z1 z2
        exact .inr (.inr (.inr ⟨a, c, vs, us, rfl, rfl, q1, q2, by rw [t1.length, t2.length]; exact big_line e, lst_new b (t1.append t2) (by rw [List.length_append]; exact e) q⟩))
      · exact q.elim
    · exact q.elim
def negF (f : EF) : EF := fun δ h => (f δ h).bind fun d h1 => match d with
  | .int i => .ok (.int (-i)) h1
  | _ => .bad
theorem ev_neg {a : Expr} {f : EF} {pos : Pos} (ha : Ev X G W a f) : Ev X G W (.UnaryOp .USub a pos) (negF f) :=
  PE.imp (pe_un un_neg ha) fun σ H Q q => by
    obtain ⟨M, r, h, δ, b, q⟩ := q
    refine ⟨M, r, h, δ, b, (After.bind q).more fun x H1 ⟨dx, M1, r1, h1, s1, b1, rx, q1⟩ => ?_⟩
    cases dx with
    | int i => exact ⟨i, rx, q1.now b1 rfl⟩
    | _ => exact q1.elim
/-! ### a place, a slice -/
theorem atI_rep {ds : List D} {vs : List V} {i : Int} {d : D} (t : Reps J M r ds vs) (e : atI ds i = some d) : ∃ v, atI vs i = some v ∧ Rep J M r d v := by
  unfold atI at e ⊢
  rw [t.length]
  cases q : ixN ds.length i with
  | none => rw [q] at e; cases e
  | some j =>
    rw [q] at e
    exact t.get e
def ixK (a b : D) (δ : DE) (h : Bx) : R D := match b with
  | .int i => match seqOf δ h a with
    | some ds => match atI ds i with
      | some d => .ok d h
      | none => .bad
    | none => .bad
  | _ => .bad
theorem rep_V {d : D} {v : V} (q : Rep J M r d v) : RepV J M r δ σ d v := by
  cases d with
  | loc i => exact q.elim
  | _ => exact q
theorem ixK_ok : OpK G W (rIx G.K) ixK := by
  intro σ δ M r h H x y dx dy Q b rx ry q
  unfold ixK at q
  split at q
  · rename_i i
    cases ry
    split at q
    · rename_i ds e
      split at q
      · rename_i d e2
        obtain ⟨a, vs, e1, hs, t⟩ := b.seq rx e
        subst e1
        obtain ⟨v, e3, rp⟩ := atI_rep t e2
        rcases hs with hs | hs
        · exact .inl ⟨a, vs, i, v, rfl, rfl, hs, e3, q.now b (rep_V rp)⟩
        · exact .inr (.inl ⟨a, vs, i, v, rfl, rfl, hs, e3, q.now b (rep_V rp)⟩)
      · exact q.elim
    · exact q.elim
  · exact q.elim
variable {a b c : Expr} {f g f3 : EF} {pos p2 : Pos}
theorem ev_ix (ha : Ev X G W a f) (hb : Ev X G W b g) (hK : X.K = G.K) (hs : PlainIx b := by exact fun _ _ => rfl) : Ev X G W (.Subscript a b pos) (bin2 ixK f g) :=
  PE.imp (pe_ix ix_seq ha hb hs) fun σ H Q q => by rw [hK]; exact tOp_of ixK_ok q
/-- the parts of a slice -/
def cutD (xs : List D) (lo hi : Option Int) : List D := (xs.drop (HT.sIx xs.length 0 lo)).take (HT.sIx xs.length xs.length hi - HT.sIx xs.length 0 lo)
theorem cut_rep {ds : List D} {vs : List V} (t : Reps J M r ds vs) (lo hi : Option Int) : Reps J M r (cutD ds lo hi) (cutV vs lo hi) := by
  unfold cutD cutV
  rw [t.length]
  exact (t.drop _).take _
theorem cut_len (ds : List D) (lo hi : Option Int) : (cutD ds lo hi).length ≤ ds.length := by
  unfold cutD
  rw [List.length_take, List.length_drop]
  omega
def rOI (_ : DE) (_ : L2.St) : Rl (Option Int) (Option Int) := fun _ _ a b => a = b
def EvO (X : Cx) (G : Cfg) (W : WX) (e : Option Expr) (f : DE → Bx → R (Option Int)) : Prop := PO X e (tG G W rOI f)
theorem PO.imp {e : Option Expr} {t t' : TO} (p : PO X e t) (f : ∀ σ H Q, t' σ H Q → t σ H Q) : PO X e t' := ⟨fun pins s σ H Q I h => p.run pins s σ H Q I (f σ H Q h)⟩
def noO : DE → Bx → R (Option Int) := fun _ h => .ok none h
def someO (f : EF) : DE → Bx → R (Option Int) := fun δ h => (f δ h).bind fun d h1 => match d with
  | .int i => .ok (some i) h1
  | _ => .bad
theorem evo_none : EvO X G W none noO := PO.imp po_none fun σ H Q q => by
  obtain ⟨M, r, h, δ, b, q⟩ := q
  exact q.now b rfl
theorem evo_some (ha : Ev X G W a f) : EvO X G W (some a) (someO f) := PO.imp (po_some ha) fun σ H Q q => by
  obtain ⟨M, r, h, δ, b, q⟩ := q
  refine ⟨M, r, h, δ, b, (After.bind q).more fun x H1 ⟨dx, M1, r1, h1, s1, b1, rx, q1⟩ => ?_⟩
  cases dx with
  | int i => exact ⟨i, rx, q1.now b1 rfl⟩
  | _ => exact q1.elim
def slF (f : EF) (fl fh : DE → Bx → R (Option Int)) : EF := fun δ h => (f δ h).bind fun d h1 => (fl δ h1).bind fun lo h2 => (fh δ h2).bind fun hi h3 => match d with
  | .tup ds => .ok (.tup (cutD ds lo hi)) h3
  | d => match lstOf δ h3 d with
    | some ds => .ok (.lst (cutD ds lo hi)) h3
    | none => .bad
theorem cut_whole {ds : List D} {n : Nat} {lo hi : Option Int} (e : n = ds.length) (w : HT.sIx n 0 lo = 0 ∧ HT.sIx n n hi = n) : cutD ds lo hi = ds := by
  subst e
  unfold cutD
  rw [w.1, w.2, List.drop_zero, Nat.sub_zero, List.take_length]
theorem ev_sl {lo hi : Option Expr} {fl fh : DE → Bx → R (Option Int)} (ha : Ev X G W a f) (hl : EvO X G W lo fl) (hh : EvO X G W hi fh) (hK : X.K = G.K) : Ev X G W (.Subscript a (.Slice lo hi none p2) pos) (slF f fl fh) :=
  PE.imp (pe_slice (SlR.or sl_list sl_tupA) ha hl hh) fun σ H Q q => by
    rw [hK]
    obtain ⟨M, r, h, δ, b, q⟩ := q
    refine ⟨M, r, h, δ, b, (After.bind q).more fun x H1 ⟨dx, M1, r1, h1, s1, b1, rx, q1⟩ => ?_⟩
    refine ⟨M1, r1, h1, δ, b1, (After.bind q1).more fun o H2 ⟨o2, M2, r2, h2, s2, b2, e2, q2⟩ => ?_⟩
    refine ⟨M2, r2, h2, δ, b2, (After.bind q2).more fun o' H3 ⟨o3, M3, r3, h3, s3, b3, e3, q3⟩ => ?_⟩
    cases e2; cases e3
    have rx3 := RepV.mono s3.le s3.pre (RepV.mono s2.le s2.pre rx)
    have other : ∀ ds, lstOf δ h3 dx = some ds → After G W σ δ (rV G.J δ σ) M3 r3 H3 (.ok (.lst (cutD ds o o')) h3) Q → (fun x lo hi H Q => rSlL G.K x lo hi H Q ∨ rSlA G.K x lo hi H Q) x o o' H3 Q := fun ds e q => by
      obtain ⟨a, vs, e1, q1, t, z⟩ := b3.lst rx3 e
      subst e1
      exact .inl ⟨a, vs, rfl, q1, lst_new b3 (cut_rep t o o') (Nat.le_trans (cut_len _ _ _) z) q⟩
    cases dx with
    | tup ds =>
      obtain ⟨a, vs, e1, m, t⟩ := rx3
      subst e1
      refine .inr ⟨a, vs, rfl, sqT_of b3 m, fun w => ?_, fun _ => ?_⟩
      · have q3 : After G W σ δ (rV G.J δ σ) M3 r3 H3 (.ok (.tup (cutD ds o o')) h3) Q := q3
        rw [cut_whole t.length w] at q3
        exact q3.now b3 ⟨a, vs, rfl, m, t⟩
      · exact tup_new b3 (cut_rep t o o') (Nat.le_trans (cut_len _ _ _) (by rw [← t.length]; exact tup_big b3 m)) q3
    | _ =>
      simp only at q3
      split at q3
      · rename_i ds e
        exact other ds e q3
      · exact q3.elim
end
end LP
/-! LpD: statements over plain data; what loops walk; comprehensions. -/
namespace LP
open PySem PySem.Spec PyProof.Rows L2
inductive RS where
  | nx (δ : DE) (h : Bx) | rt (d : D) (h : Bx) | bk (δ : DE) (h : Bx) | ct (δ : DE) (h : Bx) | exc (c : Str) (fs : List (Str × D)) (δ : DE) (h : Bx) | bad
abbrev SF := DE → Bx → RS
def AfterS (G : Cfg) (W : WX) (M0 : Imm) (r0 : List Addr) (x : RS) (E : Ends) : Prop := match x with
  | .nx δ h => ∀ M r σ H, Le M0 M → r0 <+: r → BS G M r h δ σ H → E.nx σ H
  | .rt d h => ∀ v M r δ σ H, Le M0 M → r0 <+: r → BS G M r h δ σ H → Rep G.J M r d v → E.rt v H
  | .bk δ h => ∀ M r σ H, Le M0 M → r0 <+: r → BS G M r h δ σ H → E.bk σ H
  | .ct δ h => ∀ M r σ H, Le M0 M → r0 <+: r → BS G M r h δ σ H → E.ct σ H
  | .exc c fs δ h => ∀ C dd M r σ H, G.mg c = some (.ref C) → Le M0 M → r0 <+: r → BS G M r h δ σ H → ExcAt G.J M r H fs dd → W (.ref C) dd σ H
  | .bad => False
def tS (G : Cfg) (W : WX) (f : SF) : TS := fun E σ H => ∃ M r h δ, BS G M r h δ σ H ∧ AfterS G W M r (f δ h) E
def Es (X : Cx) (G : Cfg) (W : WX) (st : Stmt) (f : SF) : Prop := PS X st (tS G W f)
def Ess (X : Cx) (G : Cfg) (W : WX) (st : List Stmt) (f : SF) : Prop := PSs X st (tS G W f)
/-- an expression ahead of a statement -/
def R.toS {α : Type} (δ : DE) (x : R α) (k : α → Bx → RS) : RS := match x with
  | .ok a h => k a h
  | .exc c fs h => .exc c fs δ h
  | .bad => .bad
@[simp] theorem R.toS_ok {α : Type} (δ : DE) (a : α) (h : Bx) (k : α → Bx → RS) : (R.ok a h).toS δ k = k a h := pr rfl
@[simp] theorem R.toS_exc {α : Type} (δ : DE) (c : Str) (fs : List (Str × D)) (h : Bx) (k : α → Bx → RS) : (R.exc c fs h : R α).toS δ k = .exc c fs δ h := pr rfl
@[simp] theorem R.toS_bad {α : Type} (δ : DE) (k : α → Bx → RS) : (R.bad : R α).toS δ k = .bad := pr rfl
section
variable {X : Cx} {G : Cfg} {W : WX} {σ : L2.St} {δ : DE} {M M1 M2 : Imm} {r r1 r2 : List Addr} {h h1 h2 : Bx} {H H1 H2 : Hp} {E : Ends}
theorem AfterS.from {x : RS} {E : Ends} (le : Le M M1) (pr : r <+: r1) (q : AfterS G W M r x E) : AfterS G W M1 r1 x E := by
  cases x with
  | nx δ h => exact fun M' r' σ H a c b => q M' r' σ H (le.trans a) (pr.trans c) b
  | rt d h => exact fun v M' r' δ σ H a c b z => q v M' r' δ σ H (le.trans a) (pr.trans c) b z
  | bk δ h => exact fun M' r' σ H a c b => q M' r' σ H (le.trans a) (pr.trans c) b
  | ct δ h => exact fun M' r' σ H a c b => q M' r' σ H (le.trans a) (pr.trans c) b
  | exc c fs δ h => exact fun C dd M' r' σ H m a c b z => q C dd M' r' σ H m (le.trans a) (pr.trans c) b z
  | bad => exact q
/-- an expression, then a statement -/
theorem AfterS.expr {α β : Type} {rl : DE → L2.St → Rl α β} {x : R α} {k : α → Bx → RS} (b : BS G M r h δ σ H) (q : AfterS G W M r (x.toS δ k) E) :
    After G W σ δ (rl δ σ) M r H x fun v H1 => ∃ d M1 r1 h1, Stp M r H M1 r1 H1 ∧ BS G M1 r1 h1 δ σ H1 ∧ rl δ σ M1 r1 d v ∧ AfterS G W M1 r1 (k d h1) E := by
  cases x with
  | ok d h => exact fun v M' r' H' a b c => ⟨d, M', r', h, a, b, c, AfterS.from a.le a.pre q⟩
  | exc c fs h => exact fun C dd M' r' H' m a b e => q C dd M' r' σ H' m a.le a.pre b e
  | bad => exact q
/-- now -/
theorem AfterS.nxt {δ' : DE} {h' : Bx} {σ' : L2.St} {H' : Hp} (q : AfterS G W M r (.nx δ' h') E) (b : BS G M r h' δ' σ' H') : E.nx σ' H' := q M r σ' H' Le.refl List.prefix_rfl b
variable {e c : Expr} {f g : EF} {st : Stmt} {sts : List Stmt} {sf sg : SF} {tf : DE → Bx → R Bool} {pos : Pos}
def seqS (sf sg : SF) : SF := fun δ h => match sf δ h with
  | .nx δ' h' => sg δ' h'
  | x => x
theorem ess_nil : Ess X G W [] (fun δ h => .nx δ h) := PSs.imp pss_nil fun E σ H q => by
  obtain ⟨M, r, h, δ, b, q⟩ := q
  exact q M r σ H Le.refl List.prefix_rfl b
theorem ess_one (p : Es X G W st sf) : Ess X G W [st] sf := pss_one p
theorem ess_cons (p : Es X G W st sf) (q : Ess X G W sts sg) : Ess X G W (st :: sts) (seqS sf sg) := PSs.imp (pss_cons p q) fun E σ H q => by
  obtain ⟨M, r, h, δ, b, q⟩ := q
  refine ⟨M, r, h, δ, b, ?_⟩
  unfold seqS at q
  cases e : sf δ h with
  | nx δ' h' => rw [e] at q; exact fun M' r' σ' H' le pr b' => ⟨M', r', h', δ', b', AfterS.from le pr q⟩
  | rt d h => rw [e] at q; exact q
  | bk δ h => rw [e] at q; exact q
  | ct δ h => rw [e] at q; exact q
  | exc c fs δ h => rw [e] at q; exact q
  | bad => rw [e] at q; exact q
theorem es_pass : Es X G W (.Pass pos) (fun δ h => .nx δ h) := PS.imp ps_pass fun E σ H q => by
  obtain ⟨M, r, h, δ, b, q⟩ := q
  exact q M r σ H Le.refl List.prefix_rfl b
theorem es_break : Es X G W (.Break pos) (fun δ h => .bk δ h) := PS.imp ps_break fun E σ H q => by
  obtain ⟨M, r, h, δ, b, q⟩ := q
  exact q M r σ H Le.refl List.prefix_rfl b
theorem es_continue : Es X G W (.Continue pos) (fun δ h => .ct δ h) := PS.imp ps_continue fun E σ H q => by
  obtain ⟨M, r, h, δ, b, q⟩ := q
  exact q M r σ H Le.refl List.prefix_rfl b
/-- an expression, its value dropped -/
def exprS (f : EF) : SF := fun δ h => (f δ h).toS δ fun _ h1 => .nx δ h1
theorem es_expr (p : Ev X G W e f) (hs : swapsWith e none pos.line X.env = pure false := by rfl) : Es X G W (.Expr e pos) (exprS f) := PS.imp (ps_expr p hs) fun E σ H q => by
  obtain ⟨M, r, h, δ, b, q⟩ := q
  exact ⟨M, r, h, δ, b, (AfterS.expr (rl := rV G.J) b q).more fun v H1 ⟨d, M1, r1, h1, s1, b1, _, q1⟩ => q1.nxt b1⟩
/-- the list of a slot is never written again -/
theorem BS.freeze (b : BS G M r h δ σ H) {i : Nat} {ds : List D} (e : δ[i]? = some (.own ds)) : ∃ M' a vs, σ[i]? = some (some (.ref a)) ∧ Le M M' ∧ BS G M' r h (δ.set i (.v (.lst ds))) σ H ∧ M' a = some (.lst vs) ∧ Reps G.J M' r ds vs := by
  obtain ⟨o, eo⟩ := b.lt e
  obtain ⟨a, vs, rfl, m, n, f, z, q, t⟩ := b.sl i _ _ e eo
  have le : Le M (updM M a (.lst vs)) := fun c u e => by
    unfold updM
    by_cases y : c = a
    · subst y; rw [m] at e; cases e
    · rw [if_neg y]; exact e
  have nM : ∀ c, c ≠ a → M c = none → updM M a (.lst vs) c = none := fun c y e => by unfold updM; rw [if_neg y]; exact e
  have hi : i < δ.length := (List.getElem?_eq_some_iff.mp e).1
  refine ⟨updM M a (.lst vs), a, vs, eo, le, ⟨fun c u e => ?_, ⟨b.bx.len, b.bx.nd, fun k c es e1 e2 => ?_⟩, b.tb, by rw [List.length_set]; exact b.len, fun j s x e1 e2 => ?_, fun j l ds' es' e1 e2 n' => ?_, b.le.trans le, b.pre, b.new, b.keep, fun c m0 fr nr => nM c (fun y => by subst y; exact fr.nf f) (b.nf c m0 fr nr)⟩, updM_same, Reps.mono le List.prefix_rfl _ _ t⟩
  · unfold updM at e
    by_cases y : c = a
    · subst y
      rw [if_pos rfl] at e; cases e
      exact ⟨by show vs.length ≤ big; rw [t.length]; exact z, q⟩
    · rw [if_neg y] at e
      exact b.mok c u e
  · obtain ⟨m', z', vs', q', t'⟩ := b.bx.at_ k c es e1 e2
    refine ⟨nM c (fun y => ?_) m', z', vs', q', Reps.mono le List.prefix_rfl _ _ t'⟩
    subst y
    exact n (List.mem_of_getElem? e1)
  · by_cases hj : i = j
    · subst hj
      rw [List.getElem?_set_self hi] at e1
      cases e1
      rw [eo] at e2; cases e2
      exact ⟨_, rfl, a, vs, rfl, updM_same, Reps.mono le List.prefix_rfl _ _ t⟩
    · rw [List.getElem?_set_ne hj] at e1
      cases s with
      | no => trivial
      | v d =>
        obtain ⟨v, y1, y2⟩ := b.sl j _ x e1 e2
        exact ⟨v, y1, Rep.mono le List.prefix_rfl _ _ y2⟩
      | own es =>
        obtain ⟨c, us, y1, m', n', f', z', q', t'⟩ := b.sl j _ x e1 e2
        refine ⟨c, us, y1, nM c (fun y => ?_) m', n', f', z', q', Reps.mono le List.prefix_rfl _ _ t'⟩
        subst y
        exact b.sep i j ds es e e1 hj (by rw [eo, e2, y1])
  · have nj : ∀ {j : Nat} {es : List D}, (δ.set i (.v (.lst ds)))[j]? = some (.own es) → δ[j]? = some (.own es) := fun {j es} e => by
      by_cases hj : i = j
      · subst hj
        rw [List.getElem?_set_self hi] at e; cases e
      · rw [List.getElem?_set_ne hj] at e
        exact e
    exact b.sep j l ds' es' (nj e1) (nj e2) n'
/-- what is handed back: a slot's own list is never written again -/
def retK (δ : DE) (d : D) (h : Bx) : RS := match d with
  | .loc i => match δ[i]? with
    | some (.own ds) => .rt (.lst ds) h
    | _ => .bad
  | d => .rt d h
def retS (f : EF) : SF := fun δ h => (f δ h).toS δ (retK δ)
theorem es_ret (p : Ev X G W e f) : Es X G W (.Return (some e) pos) (retS f) := PS.imp (ps_ret p) fun E σ H q => by
  obtain ⟨M, r, h, δ, b, q⟩ := q
  refine ⟨M, r, h, δ, b, (AfterS.expr (rl := rV G.J) b q).more fun v H1 ⟨d, M1, r1, h1, s1, b1, rv, q1⟩ => ?_⟩
  cases d with
  | loc i =>
    obtain ⟨e1, ds, e2⟩ := rv
    simp only [retK, e2] at q1
    obtain ⟨M', a, vs, e3, le, b', m, t⟩ := b1.freeze e2
    rw [e1] at e3; cases e3
    exact q1 _ M' r1 _ σ H1 le List.prefix_rfl b' ⟨a, vs, rfl, m, t⟩
  | _ => exact q1 v M1 r1 δ σ H1 Le.refl List.prefix_rfl b1 rv
theorem es_retN : Es X G W (.Return none pos) (fun _ h => .rt .non h) := PS.imp ps_retN fun E σ H q => by
  obtain ⟨M, r, h, δ, b, q⟩ := q
  exact q .non M r δ σ H Le.refl List.prefix_rfl b rfl
def ifS (tf : DE → Bx → R Bool) (sf sg : SF) : SF := fun δ h => (tf δ h).toS δ fun c h1 => if c = true then sf δ h1 else sg δ h1
theorem es_if {a b : List Stmt} (hc : EvT X G W c tf) (ha : Ess X G W a sf) (hb : Ess X G W b sg) : Es X G W (.If c a b pos) (ifS tf sf sg) := PS.imp (ps_if hc ha hb) fun E σ H q => by
  obtain ⟨M, r, h, δ, b, q⟩ := q
  refine ⟨M, r, h, δ, b, (AfterS.expr (rl := rB) b q).more fun v H1 ⟨d, M1, r1, h1, s1, b1, rv, q1⟩ => ?_⟩
  cases rv
  cases v with
  | true => exact ⟨M1, r1, h1, δ, b1, q1⟩
  | false => exact ⟨M1, r1, h1, δ, b1, q1⟩
/-- name = value -/
def setS (i : Nat) (f : EF) : SF := fun δ h => (f δ h).toS δ fun d h1 => if isV d = true then .nx (δ.set i (.v d)) h1 else .bad
theorem es_set {i : Nat} {x : Str} {pos' : Pos} (hN : X.N.Nodup) (hi : X.N[i]? = some x) (hx : Loc X.env.scope x) (he : Ev X G W e f) (hs : swapsWith e (some (.Name x pos')) pos.line X.env = pure false := by rfl) (hf : X.fn x = true ∨ X.env.scope.names.lookup x = some .local := by first | exact .inl rfl | exact .inr rfl | assumption) :
    Es X G W (.Assign [.Name x pos'] e pos) (setS i f) := PS.imp (ps_set hN hi hx he hs hf) fun E σ H q => by
  obtain ⟨M, r, h, δ, b, q⟩ := q
  refine ⟨M, r, h, δ, b, (AfterS.expr (rl := rV G.J) b q).more fun v H1 ⟨d, M1, r1, h1, s1, b1, rv, q1⟩ => ?_⟩
  cases d with
  | loc i => exact q1.elim
  | _ => exact q1.nxt (b1.put rv)
/-- ahead of a statement: the list of slot i is never written again -/
def frzS (i : Nat) (sf : SF) : SF := fun δ h => match δ[i]? with
  | some (.own ds) => sf (δ.set i (.v (.lst ds))) h
  | _ => .bad
theorem es_frz (i : Nat) (p : Es X G W st sf) : Es X G W st (frzS i sf) := PS.imp p fun E σ H q => by
  obtain ⟨M, r, h, δ, b, q⟩ := q
  unfold frzS at q
  split at q
  · rename_i ds e
    obtain ⟨M', a, vs, _, le, b', _⟩ := b.freeze e
    exact ⟨M', r, h, _, b', AfterS.from le List.prefix_rfl q⟩
  · exact q.elim
/-- ahead of a statement: slots are forgotten -/
def dropS (i : Nat) (sf : SF) : SF := fun δ h => sf (δ.set i .no) h
theorem BS.drop (b : BS G M r h δ σ H) (i : Nat) : BS G M r h (δ.set i .no) σ H := by
  refine b.weak (by rw [List.length_set]; exact b.len) fun j s e => ?_
  by_cases hj : i = j
  · subst hj
    by_cases hi : i < δ.length
    · rw [List.getElem?_set_self hi] at e
      cases e; exact .inl rfl
    · rw [List.getElem?_eq_none (by rw [List.length_set]; omega)] at e; cases e
  · rw [List.getElem?_set_ne hj] at e
    exact .inr ⟨e, rfl⟩
theorem es_drop (i : Nat) (p : Es X G W st sf) : Es X G W st (dropS i sf) := PS.imp p fun E σ H q => by
  obtain ⟨M, r, h, δ, b, q⟩ := q
  exact ⟨M, r, h, _, b.drop i, q⟩
/-! ### new lists -/
/-- an expression that lays a new list -/
def AfterN (G : Cfg) (W : WX) (σ : L2.St) (δ : DE) (M : Imm) (r : List Addr) (H : Hp) (x : R (List D)) (Q : VK) : Prop := match x with
  | .ok ds h => ∀ vs M' r' H' p, Stp M r H M' r' H' → BS G M' r' h δ σ H' → Reps G.J M' r' ds vs → ds.length ≤ big → H' p = none → Q (.ref p) (upd H' p (.lst vs))
  | .exc c fs h => ∀ C dd M' r' H', G.mg c = some (.ref C) → Stp M r H M' r' H' → BS G M' r' h δ σ H' → ExcAt G.J M' r' H' fs dd → W (.ref C) dd σ H'
  | .bad => False
def tN (G : Cfg) (W : WX) (f : DE → Bx → R (List D)) : TE := fun σ H Q => ∃ M r h δ, BS G M r h δ σ H ∧ AfterN G W σ δ M r H (f δ h) Q
def EvN (X : Cx) (G : Cfg) (W : WX) (e : Expr) (f : DE → Bx → R (List D)) : Prop := PE X e (tN G W f)
/-- a new list as a value -/
def valN (fs : DE → Bx → R (List D)) : EF := fun δ h => (fs δ h).bind fun ds h1 => .ok (.lst ds) h1
/-- a new list as a box -/
def boxN (fs : DE → Bx → R (List D)) : EF := fun δ h => (fs δ h).bind fun ds h1 => .ok (.ptr h1.length) (h1 ++ [ds])
variable {fs : DE → Bx → R (List D)}
theorem AfterN.from {x : R (List D)} {Q : VK} (s : Stp M r H M1 r1 H1) (q : AfterN G W σ δ M r H x Q) : AfterN G W σ δ M1 r1 H1 x Q := by
  cases x with
  | ok d h => exact fun vs M' r' H' p a b c => q vs M' r' H' p (s.trans a) b c
  | exc c fs h => exact fun C dd M' r' H' m a b e => q C dd M' r' H' m (s.trans a) b e
  | bad => exact q
theorem AfterN.bind {α β : Type} {rl : Rl α β} {x : R α} {k : α → Bx → R (List D)} {Q : VK} (q : AfterN G W σ δ M r H (x.bind k) Q) :
    After G W σ δ rl M r H x fun v H1 => ∃ d M1 r1 h1, Stp M r H M1 r1 H1 ∧ BS G M1 r1 h1 δ σ H1 ∧ rl M1 r1 d v ∧ AfterN G W σ δ M1 r1 H1 (k d h1) Q := by
  cases x with
  | ok d h => exact fun v M' r' H' a b c => ⟨d, M', r', h, a, b, c, AfterN.from a q⟩
  | exc c fs h => exact q
  | bad => exact q
def lstN (fs : DE → Bx → R (List D)) : DE → Bx → R (List D) := fun δ h => (fs δ h).bind fun ds h1 => if (ds.all isV && decide (ds.length ≤ big)) = true then .ok ds h1 else .bad
theorem evn_lst {es : List Expr} (ha : EvA X G W es fs) : EvN X G W (.List es pos) (lstN fs) :=
  PE.imp (pe_lst ha) fun σ H Q q => by
    obtain ⟨M, r, h, δ, b, q⟩ := q
    refine ⟨M, r, h, δ, b, (AfterN.bind (rl := rVs G.J δ σ) q).more fun vs H1 ⟨ds, M1, r1, h1, s1, b1, rv, q1⟩ => ?_⟩
    split at q1
    · rename_i z
      rw [Bool.and_eq_true, decide_eq_true_eq] at z
      have t := RepVs.reps rv z.1
      exact ⟨by rw [t.length]; exact big_line z.2, fun p hp => q1 vs M1 r1 H1 p Stp.refl b1 t z.2 hp⟩
    · exact q1.elim
theorem ev_valN (p : EvN X G W e fs) : Ev X G W e (valN fs) := PE.imp p fun σ H Q q => by
  obtain ⟨M, r, h, δ, b, q⟩ := q
  refine ⟨M, r, h, δ, b, ?_⟩
  unfold valN at q
  cases e : fs δ h with
  | ok ds h1 =>
    rw [e] at q
    intro vs M' r' H' p s b' t z hp
    exact lst_new b' t z (After.from s q) p hp
  | exc c fs h => rw [e] at q; exact q
  | bad => rw [e] at q; exact q
theorem BS.box (b : BS G M r h δ σ H) {p : Addr} {ds : List D} {vs : List V} (hp : H p = none) (t : Reps G.J M r ds vs) (z : ds.length ≤ big) : BS G M (r ++ [p]) (h ++ [ds]) δ σ (upd H p (.lst vs)) ∧ Stp M r H M (r ++ [p]) (upd H p (.lst vs)) := by
  have pr : p ∉ r := b.fresh_r hp
  have pm : M p = none := b.fresh_M hp
  have pre : r <+: r ++ [p] := List.prefix_append _ _
  have b1 := b.new_list hp (xs := vs)
  refine ⟨⟨b1.mok, ⟨by rw [List.length_append, List.length_append, b.bx.len]; rfl, ?_, fun n a es e1 e2 => ?_⟩, b1.tb, b1.len, fun i s x e1 e2 => ?_, b1.sep, b1.le, b1.pre.trans pre, fun a ha => ?_, b1.keep, b1.nf⟩, Le.refl, pre, fun a ha => ?_, fun a o e _ _ => upd_new hp e, fun a m _ _ => m⟩
  · rw [List.nodup_append]
    exact ⟨b.bx.nd, by simp, fun x hx y hy => by
      have : y = p := by simpa using hy
      subst this
      exact fun z => pr (z ▸ hx)⟩
  · by_cases hn : n < r.length
    · rw [List.getElem?_append_left hn] at e1
      rw [List.getElem?_append_left (by rw [← b.bx.len]; exact hn)] at e2
      obtain ⟨m, z', us, q', t'⟩ := b1.bx.at_ n a es e1 e2
      exact ⟨m, z', us, q', Reps.mono Le.refl pre _ _ t'⟩
    · have hn' : n = r.length := by
        have := (List.getElem?_eq_some_iff.mp e1).1
        rw [List.length_append] at this
        simp at this
        omega
      subst hn'
      rw [List.getElem?_append_right (Nat.le_refl _)] at e1
      rw [b.bx.len, List.getElem?_append_right (Nat.le_refl _)] at e2
      simp at e1 e2
      subst e1 e2
      exact ⟨pm, z, vs, upd_same, Reps.mono Le.refl pre _ _ t⟩
  · refine (b.sl i s x e1 e2).mono Le.refl pre fun a us m q n => ⟨m, fun ha => ?_, upd_new hp q⟩
    rcases List.mem_append.mp ha with ha | ha
    · exact n ha
    · have : a = p := by simpa using ha
      subst this
      rw [hp] at q; cases q
  · rcases List.mem_append.mp ha with ha | ha
    · exact b.new a ha
    · have : a = p := by simpa using ha
      subst this
      exact .inr (b.free0 hp)
  · rcases List.mem_append.mp ha with ha | ha
    · exact .inl ha
    · have : a = p := by simpa using ha
      subst this
      exact .inr (Free.of hp)
theorem ev_boxN (p : EvN X G W e fs) : Ev X G W e (boxN fs) := PE.imp p fun σ H Q q => by
  obtain ⟨M, r, h, δ, b, q⟩ := q
  refine ⟨M, r, h, δ, b, ?_⟩
  unfold boxN at q
  cases e : fs δ h with
  | ok ds h1 =>
    rw [e] at q
    intro vs M' r' H' p s b' t z hp
    obtain ⟨b2, s2⟩ := b'.box hp t z
    refine q _ _ _ _ (s.trans s2) b2 ⟨p, rfl, ?_⟩
    rw [← b'.bx.len, List.getElem?_append_right (Nat.le_refl _)]
    simp
  | exc c fs h => rw [e] at q; exact q
  | bad => rw [e] at q; exact q
/-- name = a new list, of the slot's own -/
def ownS (i : Nat) (fs : DE → Bx → R (List D)) : SF := fun δ h => (fs δ h).toS δ fun ds h1 => .nx (δ.set i (.own ds)) h1
theorem BS.own (b : BS G M r h δ σ H) {p : Addr} {i : Nat} {ds : List D} {vs : List V} (hp : H p = none) (t : Reps G.J M r ds vs) (z : ds.length ≤ big) : BS G M r h (δ.set i (.own ds)) (σ.set i (some (.ref p))) (upd H p (.lst vs)) := by
  have b1 := b.new_list hp (xs := vs)
  have no := b.noOwn hp
  have at_ : ∀ {j : Nat} {s : SV}, (δ.set i (.own ds))[j]? = some s → i ≠ j → δ[j]? = some s := fun e n => by rwa [List.getElem?_set_ne n] at e
  have lt : ∀ {s : SV}, (δ.set i (.own ds))[i]? = some s → i < δ.length ∧ s = .own ds := fun {s} e => by
    have hi : i < δ.length := by
      have := (List.getElem?_eq_some_iff.mp e).1
      simpa using this
    rw [List.getElem?_set_self hi] at e
    exact ⟨hi, (Option.some.inj e).symm⟩
  refine ⟨b1.mok, b1.bx, b1.tb, by rw [List.length_set, List.length_set]; exact b.len, fun j s x e1 e2 => ?_, fun j l es us e1 e2 n => ?_, b1.le, b1.pre, b1.new, b1.keep, b1.nf⟩
  · by_cases hj : i = j
    · subst hj
      obtain ⟨hi, rfl⟩ := lt e1
      rw [List.getElem?_set_self (by rw [b.len]; exact hi)] at e2
      cases e2
      exact ⟨p, vs, rfl, b.fresh_M hp, b.fresh_r hp, b.free0 hp, z, upd_same, t⟩
    · rw [List.getElem?_set_ne hj] at e2
      exact b1.sl j s x (at_ e1 hj) e2
  · by_cases hj : i = j
    · subst hj
      obtain ⟨hi, _⟩ := lt e1
      rw [List.getElem?_set_self (by rw [b.len]; exact hi), List.getElem?_set_ne n]
      exact fun y => no l us (at_ e2 n) y.symm
    · by_cases hl : i = l
      · subst hl
        obtain ⟨hi, _⟩ := lt e2
        rw [List.getElem?_set_self (by rw [b.len]; exact hi), List.getElem?_set_ne hj]
        exact no j es (at_ e1 hj)
      · rw [List.getElem?_set_ne hj, List.getElem?_set_ne hl]
        exact b.sep j l es us (at_ e1 hj) (at_ e2 hl) n
theorem es_own {i : Nat} {x : Str} {pos' : Pos} (hN : X.N.Nodup) (hi : X.N[i]? = some x) (hx : Loc X.env.scope x) (he : EvN X G W e fs) (hs : swapsWith e (some (.Name x pos')) pos.line X.env = pure false := by rfl) (hf : X.fn x = true ∨ X.env.scope.names.lookup x = some .local := by first | exact .inl rfl | exact .inr rfl | assumption) :
    Es X G W (.Assign [.Name x pos'] e pos) (ownS i fs) := PS.imp (ps_set hN hi hx he hs hf) fun E σ H q => by
  obtain ⟨M, r, h, δ, b, q⟩ := q
  refine ⟨M, r, h, δ, b, ?_⟩
  unfold ownS at q
  cases e : fs δ h with
  | ok ds h1 =>
    rw [e] at q
    intro vs M' r' H' p s b' t z hp
    exact (AfterS.from s.le s.pre q).nxt (b'.own hp t z)
  | exc c fs h => rw [e] at q; exact fun C dd M' r' H' m s b e => q C dd M' r' σ H' m s.le s.pre b e
  | bad => rw [e] at q; exact q
/-! ### what a loop walks -/
/-- the walk hands on ds, one by one -/
def Good (G : Cfg) (J : It) (M' : Imm) (r' : List Addr) (ds : List D) : Prop := ∃ (Gd : Hp → Prop) (Y : Nat → Hp → V → Hp → Prop), Walk J ds.length Gd Y ∧
  (∀ M r h δ σ H, Le M' M → r' <+: r → BS G M r h δ σ H → Gd H) ∧
  ∀ i x H1 H2 M r h δ σ, i < ds.length → Le M' M → r' <+: r → BS G M r h δ σ H1 → Y i H1 x H2 → ∃ M2 d, BS G M2 r h δ σ H2 ∧ Stp M r H1 M2 r H2 ∧ ds[i]? = some d ∧ Rep G.J M2 r d x
def AfterI (G : Cfg) (W : WX) (σ : L2.St) (δ : DE) (M : Imm) (r : List Addr) (H : Hp) (x : R (List D)) (Q : It → Hp → Prop) : Prop := match x with
  | .ok ds h => ∀ J M' r' H', Stp M r H M' r' H' → BS G M' r' h δ σ H' → Good G J M' r' ds → Q J H'
  | .exc c fs h => ∀ C dd M' r' H', G.mg c = some (.ref C) → Stp M r H M' r' H' → BS G M' r' h δ σ H' → ExcAt G.J M' r' H' fs dd → W (.ref C) dd σ H'
  | .bad => False
def tI (G : Cfg) (W : WX) (f : DE → Bx → R (List D)) : TI := fun σ H Q => ∃ M r h δ, BS G M r h δ σ H ∧ AfterI G W σ δ M r H (f δ h) Q
def EvI (X : Cx) (G : Cfg) (W : WX) (tg e : Expr) (f : DE → Bx → R (List D)) : Prop := PI X tg e (tI G W f)
theorem PI.imp {tg e : Expr} {t t' : TI} (p : PI X tg e t) (f : ∀ σ H Q, t' σ H Q → t σ H Q) : PI X tg e t' := ⟨fun pins s σ H Q I h => p.run pins s σ H Q I (f σ H Q h)⟩
theorem AfterI.bind {α β : Type} {rl : Rl α β} {x : R α} {k : α → Bx → R (List D)} {Q : It → Hp → Prop} (q : AfterI G W σ δ M r H (x.bind k) Q) :
    After G W σ δ rl M r H x fun v H1 => ∃ d M1 r1 h1, Stp M r H M1 r1 H1 ∧ BS G M1 r1 h1 δ σ H1 ∧ rl M1 r1 d v ∧ AfterI G W σ δ M1 r1 H1 (k d h1) Q := by
  cases x with
  | ok d h =>
    intro v M' r' H' a b c
    refine ⟨d, M', r', h, a, b, c, ?_⟩
    have q : AfterI G W σ δ M r H (k d h) Q := q
    cases e : k d h with
    | ok ds h2 => rw [e] at q; exact fun J M2 r2 H2 s2 => q J M2 r2 H2 (a.trans s2)
    | exc c fs h2 => rw [e] at q; exact fun C dd M2 r2 H2 m s2 => q C dd M2 r2 H2 m (a.trans s2)
    | bad => rw [e] at q; exact q
  | exc c fs h => exact q
  | bad => exact q
/-- lists and tuples that are never written -/
def immOf : D → Option (List D)
  | .lst ds => some ds
  | .frz ds => some ds
  | .tup ds => some ds
  | _ => none
def itemsI (f : EF) : DE → Bx → R (List D) := fun δ h => (f δ h).bind fun d h1 => match immOf d with
  | some ds => .ok ds h1
  | none => .bad
def lstI (f : EF) : DE → Bx → R (List D) := fun δ h => (f δ h).bind fun d h1 => match d with
  | .lst ds => .ok ds h1
  | .frz ds => .ok ds h1
  | _ => .bad
def tupI (f : EF) : DE → Bx → R (List D) := fun δ h => (f δ h).bind fun d h1 => match d with
  | .tup ds => .ok ds h1
  | _ => .bad
theorem good_lst {a : Addr} {ds : List D} {vs : List V} (b : BS G M r h δ σ H) (m : M a = some (.lst vs) ∨ FLst G.K M a vs) (t : Reps G.J M r ds vs) : Good G (Itl G.K a) M r ds := by
  refine ⟨fun H => SqL G.K H a vs, YAt vs, by rw [← t.length]; exact walk_list, fun M' r' h' δ' σ' H' le pr b' => ?_, fun i x H1 H2 M' r' h' δ' σ' _ le pr b' y => ?_⟩
  · rcases m with m | m
    · exact .inl (.inl (b'.mok a _ (le _ _ m)).2)
    · exact sqF b' (m.imp (fun ⟨o, z, y⟩ => ⟨o, le _ _ z, y⟩) id)
  · obtain ⟨rfl, e⟩ := y
    have hl : i < ds.length := by rw [← t.length]; exact (List.getElem?_eq_some_iff.mp e).1
    obtain ⟨v, e2, rp⟩ := t.get (List.getElem?_eq_getElem hl)
    rw [e] at e2; cases e2
    exact ⟨M', _, b', Stp.refl, List.getElem?_eq_getElem hl, Rep.mono le pr _ _ rp⟩
theorem good_tup {a : Addr} {ds : List D} {vs : List V} (b : BS G M r h δ σ H) (m : M a = some (.tup vs) ∨ KTup G.K a vs) (t : Reps G.J M r ds vs) : Good G (Itt G.K a) M r ds := by
  refine ⟨fun H => SqT G.K H a vs, YAt vs, by rw [← t.length]; exact walk_tup, fun M' r' h' δ' σ' H' le pr b' => sqT_of b' (m.imp (le _ _) id), fun i x H1 H2 M' r' h' δ' σ' _ le pr b' y => ?_⟩
  obtain ⟨rfl, e⟩ := y
  have hl : i < ds.length := by rw [← t.length]; exact (List.getElem?_eq_some_iff.mp e).1
  obtain ⟨v, e2, rp⟩ := t.get (List.getElem?_eq_getElem hl)
  rw [e] at e2; cases e2
  exact ⟨M', _, b', Stp.refl, List.getElem?_eq_getElem hl, Rep.mono le pr _ _ rp⟩
theorem evi_list {tg : Expr} (p : Ev X G W e f) (hK : X.K = G.K) : EvI X G W tg e (lstI f) := PI.imp (pi_list p) fun σ H Q q => by
  rw [hK]
  obtain ⟨M, r, h, δ, b, q⟩ := q
  refine ⟨M, r, h, δ, b, (AfterI.bind (rl := rV G.J δ σ) q).more fun v H1 ⟨d, M1, r1, h1, s1, b1, rv, q1⟩ => ?_⟩
  cases d with
  | lst ds =>
    obtain ⟨a, vs, e1, m, t⟩ := rv
    exact ⟨a, e1, ⟨vs, .inl (.inl (b1.mok a _ m).2)⟩, q1 _ M1 r1 H1 Stp.refl b1 (good_lst b1 (.inl m) t)⟩
  | frz ds =>
    obtain ⟨a, vs, e1, m, t⟩ := rv
    exact ⟨a, e1, ⟨vs, sqF b1 m⟩, q1 _ M1 r1 H1 Stp.refl b1 (good_lst b1 (.inr m) t)⟩
  | _ => exact q1.elim
theorem evi_tup {tg : Expr} (p : Ev X G W e f) (hK : X.K = G.K) : EvI X G W tg e (tupI f) := PI.imp (pi_tup p) fun σ H Q q => by
  rw [hK]
  obtain ⟨M, r, h, δ, b, q⟩ := q
  refine ⟨M, r, h, δ, b, (AfterI.bind (rl := rV G.J δ σ) q).more fun v H1 ⟨d, M1, r1, h1, s1, b1, rv, q1⟩ => ?_⟩
  cases d with
  | tup ds =>
    obtain ⟨a, vs, e1, m, t⟩ := rv
    exact ⟨a, e1, ⟨vs, sqT_of b1 m⟩, q1 _ M1 r1 H1 Stp.refl b1 (good_tup b1 m t)⟩
  | _ => exact q1.elim
end
end LP
/-! LpE: what is walked; targets; for, while, comprehensions. -/
namespace LP
open PySem PySem.Spec PyProof.Rows L2 RZ
section
variable {X : Cx} {G : Cfg} {W : WX} {σ : L2.St} {δ : DE} {M M1 M2 : Imm} {r r1 r2 : List Addr} {h h1 h2 : Bx} {H H1 H2 : Hp} {E : Ends}
variable {e c : Expr} {f g : EF} {tg : Expr} {fs : DE → Bx → R (List D)} {pos : Pos}
theorem PI.or {t t' : TI} (p : PI X tg e t) (p' : PI X tg e t') : PI X tg e (fun σ H R => t σ H R ∨ t' σ H R) := ⟨fun pins s σ H R I h => h.elim (p.run pins s σ H R I) (p'.run pins s σ H R I)⟩
/-- a list or a tuple -/
theorem evi_seq (p : Ev X G W e f) (hK : X.K = G.K) : EvI X G W tg e (itemsI f) := PI.imp (PI.or (evi_list (tg := tg) p hK) (evi_tup (tg := tg) p hK)) fun σ H Q q => by
  obtain ⟨M, r, h, δ, b, q⟩ := q
  unfold itemsI at q
  cases z : f δ h with
  | ok d h1 =>
    rw [z] at q
    cases d with
    | tup ds => exact .inr ⟨M, r, h, δ, b, by unfold tupI; rw [z]; exact q⟩
    | lst ds => exact .inl ⟨M, r, h, δ, b, by unfold lstI; rw [z]; exact q⟩
    | frz ds => exact .inl ⟨M, r, h, δ, b, by unfold lstI; rw [z]; exact q⟩
    | _ => exact q.elim
  | exc c fs h1 => rw [z] at q; exact .inl ⟨M, r, h, δ, b, by unfold lstI; rw [z]; exact q⟩
  | bad => rw [z] at q; exact q.elim
/-! ### ranges -/
def rgD (lo hi : Int) : List D := (List.range (hi - lo).toNat).map fun i => .int (lo + (i : Nat))
theorem good_range {lo : Int} {n : Nat} (b : BS G M r h δ σ H) : Good G (Itr lo n) M r ((List.range n).map fun i => .int (lo + (i : Nat))) := by
  refine ⟨fun _ => True, YFn fun i => .int (lo + i), by rw [List.length_map, List.length_range]; exact walk_range, fun _ _ _ _ _ _ _ _ _ => trivial, fun i x H1 H2 M' r' h' δ' σ' hi le pr b' y => ?_⟩
  obtain ⟨rfl, rfl⟩ := y
  rw [List.length_map, List.length_range] at hi
  exact ⟨M', .int (lo + (i : Nat)), b', Stp.refl, by rw [List.getElem?_map, List.getElem?_range hi]; rfl, rfl⟩
def rgC (i : Int) : Bool := decide (-(2 ^ 62) ≤ i ∧ i < 2 ^ 62)
def rg1K (ds : List D) (h : Bx) : R (List D) := match ds with
  | [.int j] => if rgC j = true then .ok (rgD 0 j) h else .bad
  | _ => .bad
def rg2K (ds : List D) (h : Bx) : R (List D) := match ds with
  | [.int i, .int j] => if (rgC i && rgC j) = true then .ok (rgD i j) h else .bad
  | _ => .bad
theorem evi_range1 {a : Expr} {p : Pos} (hg : Gl X "range") (hm : X.mg "range" = none) (ha : EvA X G W [a] fs) (hs : starEach [a] X.env = [(false, eval a X.env)] := by rfl) :
    EvI X G W tg (.Call (.Name "range" p) [a] [] pos) (fun δ h => (fs δ h).bind rg1K) := PI.imp (pi_range1 hg hm ha hs) fun σ H Q q => by
  obtain ⟨M, r, h, δ, b, q⟩ := q
  refine ⟨M, r, h, δ, b, (AfterI.bind (rl := rVs G.J δ σ) q).more fun vs H1 ⟨ds, M1, r1, h1, s1, b1, rv, q1⟩ => ?_⟩
  unfold rg1K at q1
  split at q1
  · rename_i j
    split at q1
    · rename_i z
      have z' := of_decide_eq_true z
      obtain ⟨v, vt, rfl, e1, e2⟩ := rv
      cases e1; cases e2
      refine ⟨j, rfl, z'.1, z'.2, q1 _ M1 r1 H1 Stp.refl b1 ?_⟩
      unfold rgD
      rw [Int.sub_zero]
      exact good_range b1
    · exact q1.elim
  · exact q1.elim
theorem evi_range2 {a c : Expr} {p : Pos} (hg : Gl X "range") (hm : X.mg "range" = none) (ha : EvA X G W [a, c] fs) (hs : starEach [a, c] X.env = [(false, eval a X.env), (false, eval c X.env)] := by rfl) (hs2 : starEach [c] X.env = [(false, eval c X.env)] := by rfl) :
    EvI X G W tg (.Call (.Name "range" p) [a, c] [] pos) (fun δ h => (fs δ h).bind rg2K) := PI.imp (pi_range2 hg hm ha hs hs2) fun σ H Q q => by
  obtain ⟨M, r, h, δ, b, q⟩ := q
  refine ⟨M, r, h, δ, b, (AfterI.bind (rl := rVs G.J δ σ) q).more fun vs H1 ⟨ds, M1, r1, h1, s1, b1, rv, q1⟩ => ?_⟩
  unfold rg2K at q1
  split at q1
  · rename_i i j
    split at q1
    · rename_i z
      rw [Bool.and_eq_true] at z
      have z1 := of_decide_eq_true z.1
      have z2 := of_decide_eq_true z.2
      obtain ⟨v, vt, rfl, e1, v2, vt2, rfl, e2, e3⟩ := rv
      cases e1; cases e2; cases e3
      exact ⟨i, j, rfl, ⟨z1.1, z1.2, z2.1, z2.2⟩, q1 _ M1 r1 H1 Stp.refl b1 (good_range b1)⟩
    · exact q1.elim
  · exact q1.elim
/-! ### zip of two lists, of two tuples -/
theorem good_pair {J : It} {Gd : Hp → Prop} {n : Nat} {xs ys : Nat → Option V} {as bs : Nat → D} (w : Walk J n Gd (YPair xs ys)) (gd : ∀ M' r' h δ σ H, Le M M' → r <+: r' → BS G M' r' h δ σ H → Gd H)
    (rp : ∀ i x y, i < n → xs i = some x → ys i = some y → Rep G.J M r (as i) x ∧ Rep G.J M r (bs i) y) : Good G J M r ((List.range n).map fun i => .tup [as i, bs i]) := by
  refine ⟨Gd, _, by rw [List.length_map, List.length_range]; exact w, gd, fun i x H1 H2 M' r' h' δ' σ' hi le pr b' y => ?_⟩
  obtain ⟨T, u, v, rfl, hT, rfl, e1, e2⟩ := y
  rw [List.length_map, List.length_range] at hi
  obtain ⟨q1, q2⟩ := rp i u v hi e1 e2
  obtain ⟨b2, s2⟩ := b'.laid (o := .tup [u, v]) hT (by show 2 ≤ big; decide)
  refine ⟨_, .tup [as i, bs i], b2, s2, by rw [List.getElem?_map, List.getElem?_range hi]; rfl, T, [u, v], rfl, .inl updM_same, ?_⟩
  exact ⟨u, [v], rfl, Rep.mono (le.trans s2.le) (pr.trans s2.pre) _ _ q1, v, [], rfl, Rep.mono (le.trans s2.le) (pr.trans s2.pre) _ _ q2, rfl⟩
theorem walk_zipT {K : PySem.W.Frag} {a b : Addr} {xs ys : List V} {n : Nat} (hn : n = min xs.length ys.length) : Walk (ItzT K a b) n (fun H => SqT K H a xs ∧ SqT K H b ys) (YPair (fun i => xs[i]?) (fun i => ys[i]?)) := by
  subst hn
  refine ⟨fun i _ hi q => ⟨xs, ys, xs[i]'(by omega), ys[i]'(by omega), q.1, q.2, List.getElem?_eq_getElem _, List.getElem?_eq_getElem _⟩, fun _ q => ⟨xs, ys, q.1, q.2, by omega⟩, fun i H v H' _ q y => ?_⟩
  obtain ⟨T, x, y', e1, e2, e3, e4, e5⟩ := y
  exact ⟨T, x, y', e1, e2, e3, e4 xs q.1, e5 ys q.2⟩
def zipD (as bs : List D) : List D := (List.zip as bs).map fun p => .tup [p.1, p.2]
theorem zipD_eq (as bs : List D) : zipD as bs = (List.range (min as.length bs.length)).map fun i => .tup [as.getD i .non, bs.getD i .non] := by
  unfold zipD
  apply List.ext_getElem?
  intro i
  rw [List.getElem?_map, List.getElem?_map]
  by_cases hi : i < min as.length bs.length
  · rw [List.getElem?_range hi, List.getElem?_eq_getElem (by rw [List.length_zip]; exact hi), List.getElem_zip]
    have h1 : i < as.length := by omega
    have h2 : i < bs.length := by omega
    simp [List.getD_eq_getElem?_getD, h1, h2]
  · rw [List.getElem?_eq_none (by rw [List.length_zip]; omega), List.getElem?_eq_none (by rw [List.length_range]; omega)]
    rfl
def zipK (ds : List D) (h : Bx) : R (List D) := match ds with
  | [.lst as, .lst bs] => .ok (zipD as bs) h
  | [.tup as, .tup bs] => .ok (zipD as bs) h
  | _ => .bad
theorem reps_getD {J : Jd} {as : List D} {vs : List V} (t : Reps J M r as vs) {i : Nat} {x : V} (e : vs[i]? = some x) : Rep J M r (as.getD i .non) x := by
  have hl : i < as.length := by rw [← t.length]; exact (List.getElem?_eq_some_iff.mp e).1
  obtain ⟨v, e2, rp⟩ := t.get (List.getElem?_eq_getElem hl)
  rw [e] at e2; cases e2
  rw [List.getD_eq_getElem?_getD, List.getElem?_eq_getElem hl]
  exact rp
theorem evi_zip {a c : Expr} {p tpos : Pos} {elts : List Expr} {kk : Nat} (hg : Gl X "zip") (hm : X.mg "zip" = none) (ha : EvA X G W [a, c] fs) (hK : X.K = G.K)
    (hs : starEach [a, c] X.env = (false, eval a X.env) :: starEach [c] X.env := by rfl) (hpl : (backTo pos (starEach [c] X.env)).any (·.1) = false := by rfl) :
    EvI X G W (.Tuple elts kk tpos) (.Call (.Name "zip" p) [a, c] [] pos) (fun δ h => (fs δ h).bind zipK) := PI.imp (pi_zipA hg hm ha hs hpl) fun σ H Q q => by
  rw [hK]
  obtain ⟨M, r, h, δ, b, q⟩ := q
  refine ⟨M, r, h, δ, b, (AfterI.bind (rl := rVs G.J δ σ) q).more fun vs H1 ⟨ds, M1, r1, h1, s1, b1, rv, q1⟩ => ?_⟩
  unfold zipK at q1
  split at q1
  · rename_i as bs
    obtain ⟨v, vt, rfl, e1, v2, vt2, rfl, e2, e3⟩ := rv
    cases e3
    obtain ⟨x, us, rfl, m1, t1⟩ := e1
    obtain ⟨y, ws, rfl, m2, t2⟩ := e2
    refine ⟨x, y, us, ws, rfl, .inl ⟨.inl (.inl (b1.mok _ _ m1).2), .inl (.inl (b1.mok _ _ m2).2), q1 _ M1 r1 H1 Stp.refl b1 ?_⟩⟩
    rw [zipD_eq]
    refine good_pair (walk_zip (xs := us) (ys := ws) (by rw [t1.length, t2.length])) (fun M' r' h δ σ H le pr b' => ⟨.inl (.inl (b'.mok _ _ (le _ _ m1)).2), .inl (.inl (b'.mok _ _ (le _ _ m2)).2)⟩) fun i x y _ e1 e2 => ⟨reps_getD t1 e1, reps_getD t2 e2⟩
  · rename_i as bs
    obtain ⟨v, vt, rfl, e1, v2, vt2, rfl, e2, e3⟩ := rv
    cases e3
    obtain ⟨x, us, rfl, m1, t1⟩ := e1
    obtain ⟨y, ws, rfl, m2, t2⟩ := e2
    refine ⟨x, y, us, ws, rfl, .inr ⟨sqT_of b1 m1, sqT_of b1 m2, q1 _ M1 r1 H1 Stp.refl b1 ?_⟩⟩
    rw [zipD_eq]
    refine good_pair (walk_zipT (xs := us) (ys := ws) (by rw [t1.length, t2.length])) (fun M' r' h δ σ H le pr b' => ⟨sqT_of b' (m1.imp (le _ _) id), sqT_of b' (m2.imp (le _ _) id)⟩) fun i x y _ e1 e2 => ⟨reps_getD t1 e1, reps_getD t2 e2⟩
  · exact q1.elim
/-! ### targets -/
/-- the slots ts take what u says -/
def tGt (G : Cfg) (ts : List Nat) (u : D → DE → Option DE) : TG := fun v σ H Q => ∃ M r h δ d δ', BS G M r h δ σ H ∧ Rep G.J M r d v ∧ u d δ = some δ' ∧
  ∀ σ', BS G M r h δ' σ' H → σ'.length = σ.length → (∀ i, i ∉ ts → σ'[i]? = σ[i]?) → Q σ' H
def EvG (X : Cx) (G : Cfg) (tg : Expr) (ts : List Nat) (u : D → DE → Option DE) : Prop := PG X tg (tGt G ts u)
theorem PG.imp {t t' : TG} (p : PG X tg t) (f : ∀ v σ H Q, t' v σ H Q → t v σ H Q) : PG X tg t' := ⟨fun pins s σ H v u Q I r h => p.run pins s σ H v u Q I r (f v σ H Q h)⟩
theorem PGs.imp {tgs : List Expr} {t t' : TGs} (p : PGs X tgs t) (f : ∀ v σ H Q, t' v σ H Q → t v σ H Q) : PGs X tgs t' := ⟨fun pins s σ H v u Q I r h => p.run pins s σ H v u Q I r (f v σ H Q h)⟩
def nameU (i : Nat) (d : D) (δ : DE) : Option DE := some (δ.set i (.v d))
theorem evg_name {i : Nat} {x : Str} (hN : X.N.Nodup) (hi : X.N[i]? = some x) (hx : Loc X.env.scope x) (hf : X.fn x = true ∨ X.env.scope.names.lookup x = some .local := by first | exact .inl rfl | exact .inr rfl | assumption) :
    EvG X G (.Name x pos) [i] (nameU i) := PG.imp (pg_name hN hi hx hf) fun v σ H Q q => by
  obtain ⟨M, r, h, δ, d, δ', b, rv, e, q⟩ := q
  cases e
  refine q _ (b.put rv) (by rw [List.length_set]) fun j hj => ?_
  rw [List.getElem?_set_ne (fun z => hj (by simp [z]))]
def tGts (G : Cfg) (ts : List Nat) (u : List D → DE → Option DE) : TGs := fun vs σ H Q => ∃ M r h δ ds δ', BS G M r h δ σ H ∧ Reps G.J M r ds vs ∧ u ds δ = some δ' ∧
  ∀ σ', BS G M r h δ' σ' H → σ'.length = σ.length → (∀ i, i ∉ ts → σ'[i]? = σ[i]?) → Q σ' H
def EvGs (X : Cx) (G : Cfg) (tgs : List Expr) (ts : List Nat) (u : List D → DE → Option DE) : Prop := PGs X tgs (tGts G ts u)
def nilU (ds : List D) (δ : DE) : Option DE := match ds with
  | [] => some δ
  | _ => none
def consU (u : D → DE → Option DE) (us : List D → DE → Option DE) (ds : List D) (δ : DE) : Option DE := match ds with
  | d :: ds => (u d δ).bind fun δ' => us ds δ'
  | [] => none
theorem evgs_nil : EvGs X G [] [] nilU := PGs.imp pgs_nil fun vs σ H Q q => by
  obtain ⟨M, r, h, δ, ds, δ', b, rv, e, q⟩ := q
  cases ds with
  | nil => cases rv; cases e; exact ⟨rfl, q σ b rfl fun _ _ => rfl⟩
  | cons d ds => cases e
theorem evgs_cons {tgs : List Expr} {ts1 ts2 : List Nat} {u : D → DE → Option DE} {us : List D → DE → Option DE} (p : EvG X G tg ts1 u) (ps : EvGs X G tgs ts2 us)
    (hs : (assignEach (tg :: tgs) X.env).map (·.2) = assign tg X.env :: (assignEach tgs X.env).map (·.2) := by rfl) : EvGs X G (tg :: tgs) (ts1 ++ ts2) (consU u us) := PGs.imp (pgs_cons p ps hs) fun vs σ H Q q => by
  obtain ⟨M, r, h, δ, ds, δ', b, rv, e, q⟩ := q
  cases ds with
  | nil => cases e
  | cons d ds =>
    obtain ⟨v, vt, rfl, e1, e2⟩ := rv
    unfold consU at e
    cases z : u d δ with
    | none => simp only [z] at e; cases e
    | some δ1 =>
      simp only [z, Option.bind_some] at e
      refine ⟨v, vt, rfl, M, r, h, δ, d, δ1, b, e1, z, fun σ1 b1 l1 k1 => ⟨M, r, h, δ1, ds, δ', b1, e2, e, fun σ2 b2 l2 k2 => q σ2 b2 (l2.trans l1) fun i hi => ?_⟩⟩
      rw [List.mem_append] at hi
      rw [k2 i (fun z => hi (.inr z)), k1 i (fun z => hi (.inl z))]
def tupU (n : Nat) (us : List D → DE → Option DE) (d : D) (δ : DE) : Option DE := match d with
  | .tup ds => if ds.length = n then us ds δ else none
  | _ => none
theorem evg_tup {es : List Expr} {k : Nat} {n : Nat} {ts : List Nat} {us : List D → DE → Option DE} (hc : X.calm = true) (p : EvGs X G es ts us) (hK : X.K = G.K)
    (hn : (assignEach es X.env).length = n := by rfl) (hst : (assignEach es X.env).findIdx? (·.1) = none := by rfl) : EvG X G (.Tuple es k pos) ts (tupU n us) := PG.imp (pg_tup hc p hn hst) fun v σ H Q q => by
  rw [hK]
  obtain ⟨M, r, h, δ, d, δ', b, rv, e, q⟩ := q
  cases d with
  | tup ds =>
    obtain ⟨a, vs, rfl, m, t⟩ := rv
    unfold tupU at e
    simp only at e
    split at e
    · rename_i z
      exact ⟨a, vs, rfl, sqT_of b m, by rw [t.length]; exact z, M, r, h, δ, ds, δ', b, t, e, q⟩
    · cases e
  | _ => cases e
/-- target = value -/
def asgS (u : D → DE → Option DE) (f : EF) : SF := fun δ h => (f δ h).toS δ fun d h1 => if isV d = true then match u d δ with
  | some δ' => .nx δ' h1
  | none => .bad
  else .bad
theorem es_asg {ts : List Nat} {u : D → DE → Option DE} (he : Ev X G W e f) (hg : EvG X G tg ts u) (hs : swapsWithSole [tg] e pos.line X.env = pure false := by rfl) (hw : swappedStores [tg] e X.env = pure none := by rfl)
    (h1 : (assignEach [tg] X.env).map (·.2) = [assign tg X.env] := by rfl) : Es X G W (.Assign [tg] e pos) (asgS u f) := PS.imp (ps_asg he hg hs hw h1) fun E σ H q => by
  obtain ⟨M, r, h, δ, b, q⟩ := q
  refine ⟨M, r, h, δ, b, (AfterS.expr (rl := rV G.J) b q).more fun v H1 ⟨d, M1, r1, h1, s1, b1, rv, q1⟩ => ?_⟩
  have main : ∀ {rp : Rep G.J M1 r1 d v}, AfterS G W M1 r1 (match u d δ with | some δ' => .nx δ' h1 | none => .bad) E → tGt G ts u v σ H1 E.nx := fun {rp} q1 => by
    cases z : u d δ with
    | none => rw [z] at q1; exact q1.elim
    | some δ' =>
      rw [z] at q1
      exact ⟨M1, r1, h1, δ, d, δ', b1, rp, z, fun σ' b' _ _ => q1.nxt b'⟩
  cases d with
  | loc i => exact q1.elim
  | _ => exact main (rp := rv) q1
/-! ### for -/
def forF (u : D → DE → Option DE) (body : SF) : List D → SF
  | [], δ, h => .nx δ h
  | d :: ds, δ, h => match u d δ with
    | none => .bad
    | some δ1 => match body δ1 h with
      | .nx δ2 h2 => forF u body ds δ2 h2
      | .ct δ2 h2 => forF u body ds δ2 h2
      | .bk δ2 h2 => .nx δ2 h2
      | x => x
def forS (gi : DE → Bx → R (List D)) (u : D → DE → Option DE) (body : SF) : SF := fun δ h => (gi δ h).toS δ fun ds h1 => forF u body ds δ h1
theorem es_for {iter : Expr} {body : List Stmt} {gi : DE → Bx → R (List D)} {ts : List Nat} {u : D → DE → Option DE} {sf : SF} (hp : PassesOwn (model X.prog X.w) X.A X.env X.xe) (hc : X.calm = true)
    (hi : EvI X G W tg iter gi) (hg : EvG X G tg ts u) (hb : Ess X G W body sf) (hs : ∀ x, foldedSetIterable iter X.env x = pure x := by intro _; rfl) :
    Es X G W (.For tg iter body [] pos) (forS gi u sf) := PS.imp (ps_for hp hc hi hg hb hs) fun E σ H q => by
  obtain ⟨M, r, h, δ, b, q⟩ := q
  refine ⟨M, r, h, δ, b, ?_⟩
  unfold forS at q
  cases z : gi δ h with
  | bad => rw [z] at q; exact q.elim
  | exc c fs h1 => rw [z] at q; exact fun C dd M' r' H' m s b e => q C dd M' r' σ H' m s.le s.pre b e
  | ok ds h1 =>
    rw [z] at q
    simp only [R.toS_ok] at q
    intro J M' r' H' st b' gd
    obtain ⟨Gd, Y, w, gd, yd⟩ := gd
    refine for_it w (fun i σ1 H1 => ∃ M1 r1 h2 δ1, Le M' M1 ∧ r' <+: r1 ∧ BS G M1 r1 h2 δ1 σ1 H1 ∧ AfterS G W M1 r1 (forF u sf (ds.drop i) δ1 h2) E) ⟨M', r', h1, δ, Le.refl, List.prefix_rfl, b', AfterS.from st.le st.pre q⟩
      (fun i σ1 H1 _ ⟨M1, r1, h2, δ1, le, pr, b1, _⟩ => gd M1 r1 h2 δ1 σ1 H1 le pr b1) (fun i x σ1 H1 H2 hi ⟨M1, r1, h2, δ1, le, pr, b1, q1⟩ y => ?_)
      (fun σ1 H1 ⟨M1, r1, h2, δ1, le, pr, b1, q1⟩ => by rw [List.drop_length] at q1; exact q1.nxt b1)
    obtain ⟨M2, d, b2, s2, e2, rp⟩ := yd i x H1 H2 M1 r1 h2 δ1 σ1 hi le pr b1 y
    rw [List.drop_eq_getElem_cons hi] at q1
    rw [List.getElem?_eq_getElem hi] at e2
    have e3 := Option.some.inj e2
    rw [e3] at q1
    unfold forF at q1
    cases z1 : u d δ1 with
    | none => rw [z1] at q1; exact q1.elim
    | some δ2 =>
      rw [z1] at q1
      simp only at q1
      refine ⟨M2, r1, h2, δ1, d, δ2, b2, rp, z1, fun σ2 b3 _ _ => ⟨M2, r1, h2, δ2, b3, ?_⟩⟩
      have q1 := AfterS.from s2.le List.prefix_rfl q1
      show AfterS G W M2 r1 (sf δ2 h2) _
      cases y1 : sf δ2 h2 with
      | nx δ3 h3 => rw [y1] at q1; exact fun M3 r3 σ3 H3 le3 pr3 b4 => ⟨M3, r3, h3, δ3, (le.trans s2.le).trans le3, pr.trans pr3, b4, AfterS.from le3 pr3 q1⟩
      | ct δ3 h3 => rw [y1] at q1; exact fun M3 r3 σ3 H3 le3 pr3 b4 => ⟨M3, r3, h3, δ3, (le.trans s2.le).trans le3, pr.trans pr3, b4, AfterS.from le3 pr3 q1⟩
      | bk δ3 h3 => rw [y1] at q1; exact q1
      | rt d h => rw [y1] at q1; exact q1
      | exc c fs δ3 h3 => rw [y1] at q1; exact q1
      | bad => rw [y1] at q1; exact q1
/-! ### while: at most n turns -/
def whileF (tf : DE → Bx → R Bool) (body : SF) : Nat → SF
  | 0, _, _ => .bad
  | n + 1, δ, h => (tf δ h).toS δ fun b h1 => if b = true then (match body δ h1 with
      | .nx δ2 h2 => whileF tf body n δ2 h2
      | .ct δ2 h2 => whileF tf body n δ2 h2
      | .bk δ2 h2 => .nx δ2 h2
      | x => x)
    else .nx δ h1
theorem es_while (n : Nat) {body : List Stmt} {tf : DE → Bx → R Bool} {sf : SF} (hp : PassesOwn (model X.prog X.w) X.A X.env X.xe) (hc : EvT X G W c tf) (hb : Ess X G W body sf) : Es X G W (.While c body [] pos) (whileF tf sf n) :=
  PS.imp (ps_while hp hc hb) fun E σ H q => by
    obtain ⟨M, r, h, δ, b, q⟩ := q
    refine ⟨fun m σ1 H1 => ∃ M1 r1 h1 δ1, BS G M1 r1 h1 δ1 σ1 H1 ∧ AfterS G W M1 r1 (whileF tf sf m δ1 h1) E, ⟨n, M, r, h, δ, b, q⟩, ?_⟩
    rintro m σ1 H1 ⟨M1, r1, h1, δ1, b1, q1⟩
    cases m with
    | zero => exact q1.elim
    | succ m =>
      unfold whileF at q1
      refine ⟨M1, r1, h1, δ1, b1, (AfterS.expr (rl := rB) b1 q1).more fun v H2 ⟨d, M2, r2, h2, s2, b2, rv, q2⟩ => ?_⟩
      cases rv
      cases v with
      | false => exact q2.nxt b2
      | true =>
        refine ⟨fun σ' H' => ∃ M1 r1 h1 δ1, BS G M1 r1 h1 δ1 σ' H' ∧ AfterS G W M1 r1 (whileF tf sf m δ1 h1) E, fun σ' H' z => ⟨m, Nat.lt_succ_self m, z⟩, M2, r2, h2, δ1, b2, ?_⟩
        simp only [if_true] at q2
        show AfterS G W M2 r2 (sf δ1 h2) _
        cases y1 : sf δ1 h2 with
        | nx δ3 h3 => rw [y1] at q2; exact fun M3 r3 σ3 H3 le3 pr3 b4 => ⟨M3, r3, h3, δ3, b4, AfterS.from le3 pr3 q2⟩
        | ct δ3 h3 => rw [y1] at q2; exact fun M3 r3 σ3 H3 le3 pr3 b4 => ⟨M3, r3, h3, δ3, b4, AfterS.from le3 pr3 q2⟩
        | bk δ3 h3 => rw [y1] at q2; exact q2
        | rt d h => rw [y1] at q2; exact q2
        | exc c fs δ3 h3 => rw [y1] at q2; exact q2
        | bad => rw [y1] at q2; exact q2
/-! ### comprehensions -/
abbrev W0 : WX := fun _ _ _ _ => False
theorem takes0 {X : Cx} : Takes X W0 := takes_none5
def EvTs (X : Cx) (G : Cfg) (W : WX) (ifs : List Expr) (tf : DE → Bx → R Bool) : Prop := PTs X ifs (tG G W rB tf)
theorem PTs.imp {ifs : List Expr} {t t' : TT} (p : PTs X ifs t) (f : ∀ σ H Q, t' σ H Q → t σ H Q) : PTs X ifs t' := ⟨fun pins s σ H Q I h => p.run pins s σ H Q I (f σ H Q h)⟩
def yesF : DE → Bx → R Bool := fun _ h => .ok true h
theorem evts_nil : EvTs X G W [] yesF := PTs.imp pts_nil fun σ H Q q => by
  obtain ⟨M, r, h, δ, b, q⟩ := q
  exact q.now b rfl
theorem evts_one {tf : DE → Bx → R Bool} (p : EvT X G W c tf) : EvTs X G W [c] tf := pts_one p
def wipeD (δ : DE) : List Nat → DE
  | [] => δ
  | v :: vs => (wipeD δ vs).set v .no
theorem wipeD_length (δ : DE) : ∀ vs : List Nat, (wipeD δ vs).length = δ.length
  | [] => rfl
  | v :: vs => by unfold wipeD; rw [List.length_set, wipeD_length δ vs]
theorem BS.wipe (b : BS G M r h δ σ H) : ∀ vs : List Nat, BS G M r h (wipeD δ vs) (L2.wipe σ vs) H
  | [] => b
  | v :: vs => by
    have b1 := BS.wipe b vs
    have b2 := b1.drop v
    refine b2.weak (by show (List.set _ v none).length = (List.set _ v SV.no).length; rw [List.length_set, List.length_set, b1.len]) fun i s e => ?_
    by_cases hv : v = i
    · subst hv
      by_cases hi : v < (wipeD δ vs).length
      · have e : ((wipeD δ vs).set v .no)[v]? = some s := e
        rw [List.getElem?_set_self hi] at e
        cases e; exact .inl rfl
      · have e : ((wipeD δ vs).set v .no)[v]? = some s := e
        rw [List.getElem?_eq_none (by rw [List.length_set]; omega)] at e; cases e
    · refine .inr ⟨e, ?_⟩
      show ((L2.wipe σ vs).set v none)[i]? = _
      rw [List.getElem?_set_ne hv]
theorem wipe_get (σ : L2.St) : ∀ (vs : List Nat) (i : Nat), (L2.wipe σ vs)[i]? = if i ∈ vs then (σ[i]?).map fun _ => none else σ[i]?
  | [], i => by simp [L2.wipe]
  | v :: vs, i => by
    show ((L2.wipe σ vs).set v none)[i]? = _
    by_cases hv : v = i
    · subst hv
      rw [if_pos (List.mem_cons_self ..)]
      by_cases hi : v < σ.length
      · rw [List.getElem?_set_self (by rw [wipe_length]; exact hi), List.getElem?_eq_getElem hi]; rfl
      · rw [List.getElem?_eq_none (by rw [List.length_set, wipe_length]; omega), List.getElem?_eq_none (by omega)]; rfl
    · rw [List.getElem?_set_ne hv, wipe_get σ vs i]
      have : (i ∈ v :: vs) ↔ i ∈ vs := by
        rw [List.mem_cons]
        exact ⟨fun z => z.resolve_left fun y => hv y.symm, .inr⟩
      by_cases hm : i ∈ vs
      · rw [if_pos hm, if_pos (this.mpr hm)]
      · rw [if_neg hm, if_neg (fun z => hm (this.mp z))]
theorem wipe_ext {σ σ' : L2.St} {vs : List Nat} (hl : σ'.length = σ.length) (hk : ∀ i, i ∉ vs → σ'[i]? = σ[i]?) : L2.wipe σ' vs = L2.wipe σ vs := by
  apply List.ext_getElem?
  intro i
  rw [wipe_get, wipe_get]
  split
  · by_cases hi : i < σ.length
    · rw [List.getElem?_eq_getElem hi, List.getElem?_eq_getElem (by omega)]; rfl
    · rw [List.getElem?_eq_none (by omega), List.getElem?_eq_none (by omega)]
  · rename_i n
    exact hk i n
theorem wipe_wipe (σ : L2.St) (vs : List Nat) : L2.wipe (L2.wipe σ vs) vs = L2.wipe σ vs :=
  wipe_ext (wipe_length _ _) fun i hi => by rw [wipe_get, if_neg hi]
def quiet {α : Type} (x : R α) : R α := match x with
  | .exc _ _ _ => .bad
  | x => x
def compF (u : D → DE → Option DE) (tf : DE → Bx → R Bool) (ef : EF) (δ : DE) : List D → Bx → R (List D)
  | [], h => .ok [] h
  | d :: ds, h => match u d δ with
    | none => .bad
    | some δ1 => (quiet (tf δ1 h)).bind fun b h1 => if b = true then (quiet (ef δ1 h1)).bind fun y h2 => if isV y = true then (compF u tf ef δ ds h2).bind fun ys h3 => .ok (y :: ys) h3 else .bad
      else compF u tf ef δ ds h1
theorem compF_exc {u : D → DE → Option DE} {tf : DE → Bx → R Bool} {ef : EF} {δ : DE} {c : Str} {fs : List (Str × D)} {h' : Bx} : ∀ (ds : List D) (h : Bx), compF u tf ef δ ds h ≠ .exc c fs h'
  | [], h => fun e => nomatch e
  | d :: ds, h => by
    unfold compF
    cases u d δ with
    | none => exact fun e => nomatch e
    | some δ1 =>
      simp only
      cases tf δ1 h with
      | exc _ _ _ => exact fun e => nomatch e
      | bad => exact fun e => nomatch e
      | ok b h1 =>
        simp only [quiet, R.bind_ok]
        split
        · cases ef δ1 h1 with
          | exc _ _ _ => exact fun e => nomatch e
          | bad => exact fun e => nomatch e
          | ok y h2 =>
            simp only [R.bind_ok]
            split
            · have := compF_exc (u := u) (tf := tf) (ef := ef) (δ := δ) (c := c) (fs := fs) (h' := h') ds h2
              cases z : compF u tf ef δ ds h2 with
              | exc c' fs' h'' => exact fun e => by simp only [R.bind_exc] at e; cases e; exact this z
              | bad => exact fun e => nomatch e
              | ok ys h3 => exact fun e => nomatch e
            · exact fun e => nomatch e
        · exact compF_exc ds h1
/-- the answers of the rest, whatever stands ahead -/
def lcN (gi : DE → Bx → R (List D)) (vs : List Nat) (u : D → DE → Option DE) (tf : DE → Bx → R Bool) (ef : EF) : DE → Bx → R (List D) := fun δ h => (gi δ h).bind fun ds h1 => if ds.length ≤ big then compF u tf ef (wipeD δ vs) ds h1 else .bad
theorem After.quiet {α β : Type} {rl : Rl α β} {x : R α} {Q : β → Hp → Prop} (q : After G W σ δ rl M r H (LP.quiet x) Q) : After G W0 σ δ rl M r H x Q := by
  cases x with
  | ok d h => exact q
  | exc c fs h => exact q.elim
  | bad => exact q
def LcEnd (x : R (List D)) (P : List D → Bx → Prop) : Prop := match x with
  | .ok ys h => P ys h
  | _ => False
theorem lc_of {gi : DE → Bx → R (List D)} {ts vs : List Nat} {u : D → DE → Option DE} {tf : DE → Bx → R Bool} {ef : EF} (hts : ∀ i ∈ ts, i ∈ vs) {Q : VK} (q : tN G W (lcN gi vs u tf ef) σ H Q) :
    tLc (tI G W gi) (tGt G ts u) (tG G W0 rB tf) (tG G W0 (rV G.J) ef) vs σ H Q := by
  obtain ⟨M, r, h, δ, b, q⟩ := q
  refine ⟨M, r, h, δ, b, ?_⟩
  unfold lcN at q
  cases z : gi δ h with
  | bad => rw [z] at q; exact q.elim
  | exc c fs h1 => rw [z] at q; exact q
  | ok ds h1 =>
    rw [z] at q
    simp only [R.bind_ok] at q
    split at q
    · rename_i hz
      intro J M' r' H' st b' gd Dd hD
      obtain ⟨Gd, Y, w, gd, yd⟩ := gd
      have f0 : Free G.H0 Dd := b'.free0 hD
      have no : NoOwn (wipeD δ vs) (L2.wipe σ vs) Dd := (b'.wipe vs).noOwn hD
      have noσ : NoOwn δ σ Dd := b'.noOwn hD
      -- what holds between two turns
      let Pv : Nat → Hp → Prop := fun i H1 => ∃ M1 r1 h2 acc va, Stp M' r' H' M1 r1 H1 ∧ BS G M1 r1 h2 (wipeD δ vs) (L2.wipe σ vs) H1 ∧ H1 Dd = some (.lst va) ∧ M1 Dd = none ∧ Dd ∉ r1 ∧ Reps G.J M1 r1 acc va ∧ acc.length ≤ i ∧
        LcEnd (compF u tf ef (wipeD δ vs) (ds.drop i) h2) fun ys h3 => AfterN G W σ δ M r H (.ok (acc ++ ys) h3) Q
      have hst : Stp M' r' H' M' r' (upd H' Dd (.lst [])) := ⟨Le.refl, List.prefix_rfl, fun a z => .inl z, fun a o e _ _ => upd_new hD e, fun a m _ _ => m⟩
      refine lc_it w Pv ⟨M', r', h1, [], [], hst, (b'.wipe vs).new_list hD, upd_same, b'.fresh_M hD, b'.fresh_r hD, rfl, Nat.zero_le _, ?_⟩
        (fun i H1 _ ⟨M1, r1, h2, acc, va, s1, b1, _⟩ => gd M1 r1 h2 _ _ H1 s1.le s1.pre b1) (fun i x H1 H2 hi ⟨M1, r1, h2, acc, va, s1, b1, e1, m1, n1, t1, l1, q1⟩ y => ?_) (fun H1 ⟨M1, r1, h2, acc, va, s1, b1, e1, m1, n1, t1, l1, q1⟩ => ?_)
      · rw [List.drop_zero]
        cases y : compF u tf ef (wipeD δ vs) ds h1 with
        | ok ys h3 => rw [y] at q; exact q
        | exc c fs h3 => exact (compF_exc _ _ y).elim
        | bad => rw [y] at q; exact q
      · -- one turn
        obtain ⟨M2, d, b2, s2, e2, rp⟩ := yd i x H1 H2 M1 r1 h2 _ _ hi s1.le s1.pre b1 y
        rw [List.drop_eq_getElem_cons hi] at q1
        rw [List.getElem?_eq_getElem hi] at e2
        rw [Option.some.inj e2] at q1
        unfold compF at q1
        cases z1 : u d (wipeD δ vs) with
        | none => rw [z1] at q1; exact q1.elim
        | some δ2 =>
          rw [z1] at q1
          simp only at q1
          have nf : ∀ {Hx : Hp}, Hx Dd = some (.lst va) → IsL Hx Dd := fun e => ⟨_, e⟩
          have mD : ∀ {Ma ra Ha Mb rb Hb}, Stp Ma ra Ha Mb rb Hb → Ha Dd = some (.lst va) → Ma Dd = none → Dd ∉ ra → Hb Dd = some (.lst va) ∧ Mb Dd = none ∧ Dd ∉ rb := fun s e m n =>
            ⟨s.keep _ _ e (fun ps z => by cases z) n, s.nf _ m (nf e) n, fun z => (s.new _ z).elim n (nf e).nf⟩
          obtain ⟨e3, m3, n3⟩ := mD s2 e1 m1 n1
          refine ⟨M2, r1, h2, _, d, δ2, b2, rp, z1, fun σ2 b3 l3 k3 => ⟨?_, M2, r1, h2, δ2, b3, ?_⟩⟩
          · rw [← wipe_wipe σ vs]
            exact wipe_ext l3 fun j hj => k3 j fun z => hj (hts j z)
          · -- the test
            cases y1 : tf δ2 h2 with
            | exc c fs h3 => rw [y1] at q1; exact q1.elim
            | bad => rw [y1] at q1; exact q1.elim
            | ok bb h3 =>
              rw [y1] at q1
              simp only [quiet, R.bind_ok] at q1
              intro bv M4 r4 H4 s4 b4 ev
              cases ev
              obtain ⟨e5, m5, n5⟩ := mD s4 e3 m3 n3
              have b4w : BS G M4 r4 h3 (wipeD δ vs) (L2.wipe σ vs) H4 := b2.step s4 b4
              cases bb with
              | false =>
                simp only [Bool.false_eq_true, if_false] at q1 ⊢
                exact ⟨M4, r4, h3, acc, va, s1.trans (s2.trans s4), b4w, e5, m5, n5, Reps.mono (s2.trans s4).le (s2.trans s4).pre _ _ t1, by omega, q1⟩
              | true =>
                simp only [if_true] at q1 ⊢
                refine ⟨M4, r4, h3, δ2, b4, ?_⟩
                cases y2 : ef δ2 h3 with
                | exc c fs h5 => rw [y2] at q1; exact q1.elim
                | bad => rw [y2] at q1; exact q1.elim
                | ok yd h5 =>
                  rw [y2] at q1
                  simp only [R.bind_ok] at q1
                  by_cases hv : isV yd = true
                  · rw [if_pos hv] at q1
                    intro yv M6 r6 H6 s6 b6 rv
                    obtain ⟨e7, m7, n7⟩ := mD s6 e5 m5 n5
                    have b6w : BS G M6 r6 h5 (wipeD δ vs) (L2.wipe σ vs) H6 := b4w.step s6 b6
                    have st6 := s2.trans (s4.trans s6)
                    have rv' : Rep G.J M6 r6 yd yv := by
                      cases yd with
                      | loc i => cases hv
                      | _ => exact rv
                    have la : va.length = acc.length := t1.length
                    have hl : acc.length < ds.length := by omega
                    refine ⟨va, e7, by rw [la]; exact big_lt (by omega), M6, r6, h5, acc ++ [yd], va ++ [yv], ?_, b6w.wrote m7 n7 f0 no e7, upd_same, m7, n7, (Reps.mono st6.le st6.pre _ _ t1).append (Reps.one rv'), by rw [List.length_append]; simp; omega, ?_⟩
                    · have s0 := s1.trans st6
                      refine ⟨s0.le, s0.pre, s0.new, fun a o e t n => ?_, s0.nf⟩
                      rw [upd_ne (ne_of_none e hD)]
                      exact s0.keep a o e t n
                    · cases y3 : compF u tf ef (wipeD δ vs) (ds.drop (i + 1)) h5 with
                      | exc c fs h7 => rw [y3] at q1; exact q1.elim
                      | bad => rw [y3] at q1; exact q1.elim
                      | ok ys h7 =>
                        rw [y3] at q1
                        simp only [R.bind_ok] at q1
                        show AfterN G W σ δ M r H (.ok ((acc ++ [yd]) ++ ys) h7) Q
                        rw [List.append_assoc]
                        exact q1
                  · rw [if_neg hv] at q1
                    exact q1.elim
      · -- behind all
        rw [List.drop_length] at q1
        have q1 : AfterN G W σ δ M r H (.ok (acc ++ []) h2) Q := q1
        rw [List.append_nil] at q1
        have s2 := st.trans s1
        have b2 := (b'.step s1 b1).erase m1 n1 f0 noσ e1
        have z := q1 va M1 r1 _ Dd ⟨s2.le, s2.pre, s2.new, fun a o e t n => ?_, s2.nf⟩ b2 t1 (Nat.le_trans l1 hz) (if_pos rfl)
        · have : upd (fun c => if c = Dd then none else H1 c) Dd (.lst va) = H1 := by
            funext c
            unfold upd
            by_cases hc : c = Dd
            · subst hc; rw [if_pos rfl, e1]
            · rw [if_neg hc]; exact if_neg hc
          rw [this] at z
          exact z
        · have ne : a ≠ Dd := fun y => by
            subst y
            have := st.keep a o e t n
            rw [hD] at this; cases this
          show (if a = Dd then none else H1 a) = _
          rw [if_neg ne]
          exact s2.keep a o e t n
    · exact q.elim
theorem evn_lc {elt iter : Expr} {ifs : List Expr} {scope : Scope} {own : List (Str × Nat)} {gi : DE → Bx → R (List D)} {ts : List Nat} {u : D → DE → Option DE} {tf : DE → Bx → R Bool} {ef : EF} (hc : X.calm = true) (hN : X.N.Nodup)
    (hi : EvI X G W tg iter gi) (ok : BlkOk X.N X.env.scope scope own) (hts : ∀ i ∈ ts, i ∈ own.map (·.2))
    (hg : ∀ (s : Shared) (H : Hp) (C : Addr) (cl : List (Str × Addr)) (fp : List Addr), EvG (X.blk s H scope (compEnvC scope cl C X.env) fp) G tg ts u) (ht : ∀ (s : Shared) (H : Hp) (C : Addr) (cl : List (Str × Addr)) (fp : List Addr), EvTs (X.blk s H scope (compEnvC scope cl C X.env) fp) G W0 ifs tf)
    (he : ∀ (s : Shared) (H : Hp) (C : Addr) (cl : List (Str × Addr)) (fp : List Addr), Ev (X.blk s H scope (compEnvC scope cl C X.env) fp) G W0 elt ef) (hs : ∀ x, foldedSetIterable iter X.env x = pure x := by intro _; rfl) :
    EvN X G W (.ListComp elt [⟨tg, iter, ifs, 0⟩] scope pos) (lcN gi (own.map (·.2)) u tf ef) := PE.imp (pe_lc hc hN hi ok hg ht he hs) fun σ H Q q => lc_of hts q
end
end LP
/-! LpF: defs and their calls; built-ins; methods that write. -/
namespace LP
open PySem PySem.Spec PyProof.Rows L2
section
variable {X : Cx} {G : Cfg} {W : WX} {σ : L2.St} {δ : DE} {M M' M1 M2 : Imm} {r r' r1 r2 : List Addr} {h h' h1 h2 : Bx} {H H' H1 H2 : Hp} {E : Ends}
variable {e c : Expr} {f g : EF} {tg : Expr} {fs : DE → Bx → R (List D)} {pos : Pos}
theorem BS.after (b : BS G M r h δ σ H) (s : Stp M r H M' r' H') (mok : MOk M' H') (bx : BxOk G.J M' r' h' H') (tb : LamX.Tabs G.T H') : BS G M' r' h' δ σ H' := by
  have nr : ∀ {a o}, G.H0 a = some o → (∀ ps, o ≠ .tbl ps) → a ∉ G.r0 → a ∉ r := fun e t n z => by
    rcases b.new _ z with y | y
    · exact n y
    · obtain ⟨ps, x⟩ := y _ e
      exact t ps x
  refine ⟨mok, bx, tb, b.len, fun i x o e1 e2 => ?_, b.sep, b.le.trans s.le, b.pre.trans s.pre, fun a ha => ?_, fun a o e t n => s.keep a o (b.keep a o e t n) t (nr e t n), fun a m f n => ?_⟩
  · refine (b.sl i x o e1 e2).mono s.le s.pre fun a vs m q n => ?_
    have nf : IsL H a := ⟨vs, q⟩
    exact ⟨s.nf a m nf n, fun z => (s.new a z).elim n nf.nf, s.keep a _ q (fun ps y => by cases y) n⟩
  · by_cases hr : a ∈ G.r0
    · exact .inl hr
    · rcases s.new a ha with z | z
      · exact b.new a z
      · exact .inr (z.back b.keep hr)
  · refine s.nf a (b.nf a m f n) (f.fwd b.keep n) fun z => ?_
    rcases b.new a z with y | y
    · exact n y
    · exact f.nf y
/-! ### what a def promises -/
def spF (K : PySem.W.Frag) (mg : Str → Option Value) (T : List (Addr × Str)) (n : Nat) (F : List D → Bx → R D) : Sp := fun vs H Q E => ∃ L M r h ds, vs.length = n ∧ MOk M H ∧ BxOk ⟨K, L, mg⟩ M r h H ∧ LamX.Tabs T H ∧ Reps ⟨K, L, mg⟩ M r ds vs ∧ match F ds h with
  | .ok d h' => ∀ v M' r' H', Stp M r H M' r' H' → MOk M' H' → BxOk ⟨K, L, mg⟩ M' r' h' H' → LamX.Tabs T H' → Rep ⟨K, L, mg⟩ M' r' d v → Q v H'
  | .exc c fs h' => ∀ C dd M' r' H', mg c = some (.ref C) → Stp M r H M' r' H' → MOk M' H' → BxOk ⟨K, L, mg⟩ M' r' h' H' → LamX.Tabs T H' → ExcAt ⟨K, L, mg⟩ M' r' H' fs dd → E (.ref C) dd H'
  | .bad => False
/-- a body's answer -/
def RS.fin (x : RS) : R D := match x with
  | .nx _ h => .ok .non h
  | .rt d h => .ok d h
  | .exc c fs _ h => .exc c fs h
  | _ => .bad
@[simp] theorem RS.fin_nx (δ : DE) (h : Bx) : (RS.nx δ h).fin = .ok .non h := pr rfl
@[simp] theorem RS.fin_rt (d : D) (h : Bx) : (RS.rt d h).fin = .ok d h := pr rfl
@[simp] theorem RS.fin_exc (c : Str) (fs : List (Str × D)) (δ : DE) (h : Bx) : (RS.exc c fs δ h).fin = .exc c fs h := pr rfl
def startD (n : Nat) (ds : List D) : DE := ds.map .v ++ List.replicate (n - ds.length) .no
def runF (n : Nat) (sf : SF) (ds : List D) (h : Bx) : R D := (sf (startD n ds) h).fin
theorem bs_start {K : PySem.W.Frag} {L : LamP} {mg : Str → Option Value} {T : List (Addr × Str)} {N : List Str} {ds : List D} {vs : List V} (mok : MOk M H) (bx : BxOk ⟨K, L, mg⟩ M r h H) (tb : LamX.Tabs T H) (t : Reps ⟨K, L, mg⟩ M r ds vs) :
    BS ⟨K, mg, T, M, r, H, L⟩ M r h (startD N.length ds) (L2.start N vs) H := by
  have own : ∀ {j : Nat} {es : List D}, (startD N.length ds)[j]? ≠ some (.own es) := fun {j es} e => by
    unfold startD at e
    by_cases hj : j < ds.length
    · rw [List.getElem?_append_left (by simpa using hj), List.getElem?_map, List.getElem?_eq_getElem hj] at e
      cases e
    · rw [List.getElem?_append_right (by simpa using hj), List.getElem?_replicate] at e
      split at e <;> cases e
  refine ⟨mok, bx, tb, ?_, fun i s o e1 e2 => ?_, fun i j ds es e1 _ _ => (own e1).elim, Le.refl, List.prefix_rfl, fun a ha => .inl ha, Keep.refl, fun a m _ _ => m⟩
  · unfold L2.start startD
    simp only [List.length_append, List.length_map, List.length_replicate, t.length]
  · unfold startD at e1
    unfold L2.start at e2
    by_cases hi : i < ds.length
    · rw [List.getElem?_append_left (by simpa using hi), List.getElem?_map, List.getElem?_eq_getElem hi] at e1
      cases e1
      rw [List.getElem?_append_left (by simpa [t.length] using hi), List.getElem?_map] at e2
      obtain ⟨v, ev, rp⟩ := t.get (List.getElem?_eq_getElem hi)
      rw [ev] at e2
      cases e2
      exact ⟨v, rfl, rp⟩
    · rw [List.getElem?_append_right (by simpa using hi), List.getElem?_replicate] at e1
      split at e1
      · cases e1; trivial
      · cases e1
/-- THE RULE for a def -/
theorem fn_ok {P : Program} {w : World} {K : PySem.W.Frag} {mg : Str → Option Value} {T : List (Addr × Str)} {base : Heap} {x qual : Str} {st : Stmt} {fa : Addr} {fd : FuncData} {N ps : List Str} {k : Nat} {sf : SF} (F : Fun K x qual st fa fd) (S : FnScope N ps (defScope st))
    (hb : ∀ (cdv : Value) (A : Around) (outer : List PySem.Env) (s : Shared) (H : Hp) (E : XK) (M : Imm) (r : List Addr) (L : LamP), Room k (A.deeper (envOfC qual (defScope st) s.heap.objs.size fa cdv)) →
      Ess (cxOf (L2.CX P w) P w K mg base N qual (defScope st) fa cdv A outer s H E) ⟨K, mg, T, M, r, H, L⟩ (fun c d _ H => E c d H) (defBody st) sf) :
    FnOk P w K mg base (L2.CX P w) (k + 1) fa fd ps (spF K mg T ps.length (runF N.length sf)) := by
  refine F.okX S (fun vs H Q E q => ?_) fun cdv A outer s H vs Q E hr q => ?_
  · obtain ⟨L, M, r, h, ds, e, _⟩ := q
    exact e
  · obtain ⟨L, M, r, h, ds, e, mok, bx, tb, t, q⟩ := q
    refine ⟨_, hb cdv A outer s H E M r L hr, M, r, h, _, bs_start mok bx tb t, ?_⟩
    unfold runF at q
    have st : ∀ {M' r' h' δ' σ' H'}, BS ⟨K, mg, T, M, r, H, L⟩ M' r' h' δ' σ' H' → Stp M r H M' r' H' := fun b => ⟨b.le, b.pre, b.new, b.keep, b.nf⟩
    cases z : sf (startD N.length ds) h with
    | nx δ h' => rw [z] at q; exact fun M' r' σ' H' _ _ b => q .non M' r' H' (st b) b.mok b.bx b.tb rfl
    | rt d h' => rw [z] at q; exact fun v M' r' δ' σ' H' _ _ b rv => q v M' r' H' (st b) b.mok b.bx b.tb rv
    | exc c fs δ h' => rw [z] at q; exact fun C dd M' r' σ' H' m _ _ b ea => q C dd M' r' H' m (st b) b.mok b.bx b.tb ea
    | bk δ h' => rw [z] at q; exact q.elim
    | ct δ h' => rw [z] at q; exact q.elim
    | bad => rw [z] at q; exact q.elim
/-- a def that is not asked -/
theorem fn_bad {P : Program} {w : World} {K : PySem.W.Frag} {mg : Str → Option Value} {T : List (Addr × Str)} {base : Heap} {CXT : CXT} {fa : Addr} {fd : FuncData} {ps : List Str} {k : Nat} : FnOk P w K mg base CXT k fa fd ps (spF K mg T ps.length fun _ _ => .bad) :=
  ⟨fun vs H Q E q => by obtain ⟨L, M, r, h, ds, e, _⟩ := q; exact e, fun A outer s H args us vs Q E _ _ _ _ q => by obtain ⟨L, M, r, h, ds, _, _, _, _, _, q⟩ := q; exact q.elim⟩
def callF (F : List D → Bx → R D) (fs : DE → Bx → R (List D)) : EF := fun δ h => (fs δ h).bind fun ds h1 => if ds.all isV = true then F ds h1 else .bad
theorem call_sp {n : Nat} {F : List D → Bx → R D} {vs : List V} {ds : List D} {Q : VK} (b : BS G M r h δ σ H) (rv : RepVs G.J M r δ σ ds vs) (hn : ∀ d h', F ds h = .ok d h' → ds.length = n) (hn2 : ∀ c fs h', F ds h = .exc c fs h' → ds.length = n)
    (q : After G W σ δ (rV G.J δ σ) M r H (if ds.all isV = true then F ds h else .bad) Q) : spF G.K G.mg G.T n F vs H Q (WE W σ) := by
  split at q
  · rename_i z
    have t := RepVs.reps rv z
    refine ⟨G.L, M, r, h, ds, ?_, b.mok, b.bx, b.tb, t, ?_⟩
    · rw [t.length]
      cases y : F ds h with
      | ok d h' => exact hn d h' y
      | exc c fs h' => exact hn2 c fs h' y
      | bad => rw [y] at q; exact q.elim
    · cases y : F ds h with
      | ok d h' =>
        rw [y] at q
        exact fun v M' r' H' s mok bx tb rp => q v M' r' H' s (b.after s mok bx tb) (rep_V rp)
      | exc c fs h' =>
        rw [y] at q
        exact fun C dd M' r' H' m s mok bx tb ea => q C dd M' r' H' m s (b.after s mok bx tb) ea
      | bad => rw [y] at q; exact q.elim
  · exact q.elim
/-- the number of the arguments is right -/
def nArgs (n : Nat) (F : List D → Bx → R D) : List D → Bx → R D := fun ds h => if ds.length = n then F ds h else .bad
theorem nArgs_eq {n : Nat} {F : List D → Bx → R D} {ds : List D} {h : Bx} (e : ds.length = n) : nArgs n F ds h = F ds h := if_pos e
theorem ev_call {k n : Nat} {fa : Addr} {fd : FuncData} {ps : List Str} {x : Str} {p : Pos} {es : List Expr} {F : List D → Bx → R D} (FF : FnOk X.prog X.w X.K X.mg X.base (L2.CX X.prog X.w) k fa fd ps (spF G.K G.mg G.T n F)) (hr : Room k X.A) (tk : Takes X W)
    (hg : Gl X x) (hm : X.mg x = some (.ref fa)) (hk : PySem.W.keepIn X.K (.ref fa) = true) (hb : Binds X.K fd ps [])
    (ha : EvA X G W (e :: es) fs) (hdb : (x == ("__debug__" : Str)) = false := by decide) (he : starEach (e :: es) X.env = (false, eval e X.env) :: starEach es X.env := by rfl) (hpl : (backTo pos (starEach es X.env)).any (·.1) = false := by rfl) :
    Ev X G W (.Call (.Name x p) (e :: es) [] pos) (callF (nArgs n F) fs) := PE.imp (pe_callS FF hr hg hm hk hb (fun σ => passAt tk σ) ha hdb he hpl) fun σ H Q q => by
  obtain ⟨M, r, h, δ, b, q⟩ := q
  refine ⟨M, r, h, δ, b, (After.bind q).more fun vs H1 ⟨ds, M1, r1, h1, s1, b1, rv, q1⟩ => ?_⟩
  by_cases z : ds.length = n
  · rw [nArgs_eq z] at q1
    exact call_sp b1 rv (fun _ _ _ => z) (fun _ _ _ _ => z) q1
  · exfalso
    unfold nArgs at q1
    rw [if_neg z] at q1
    split at q1 <;> exact q1
/-! ### built-ins -/
def CallK (G : Cfg) (W : WX) (rr : List V → Hp → VK → Prop) (k : List D → DE → Bx → R D) : Prop := ∀ (σ : L2.St) (δ : DE) (M : Imm) (r : List Addr) (h : Bx) (H : Hp) (vs : List V) (ds : List D) (Q : VK),
  BS G M r h δ σ H → RepVs G.J M r δ σ ds vs → After G W σ δ (rV G.J δ σ) M r H (k ds δ h) Q → rr vs H Q
def blt (k : List D → DE → Bx → R D) (fs : DE → Bx → R (List D)) : EF := fun δ h => (fs δ h).bind fun ds h1 => k ds δ h1
theorem tCB_of {rr : List V → Hp → VK → Prop} {k : List D → DE → Bx → R D} (hk : CallK G W rr k) {Q : VK} (q : tG G W (rV G.J) (blt k fs) σ H Q) : tCB rr (tG G W (rVs G.J) fs) σ H Q := by
  obtain ⟨M, r, h, δ, b, q⟩ := q
  exact ⟨M, r, h, δ, b, (After.bind q).more fun vs H1 ⟨ds, M1, r1, h1, s1, b1, rv, q1⟩ => hk σ δ M1 r1 h1 H1 vs ds Q b1 rv q1⟩
variable {rr : List V → Hp → VK → Prop} {k : List D → DE → Bx → R D} {bid T : String} {x : Str} {p : Pos} {es : List Expr}
theorem ev_callB (hc : CallR X (.builtin bid) rr) (hk : CallK G W rr k) (hg : Gl X x) (hm : X.mg x = none) (hv : bootBuiltins x = some (.builtin bid)) (ha : EvA X G W (e :: es) fs) (hn : x ≠ "__name__" := by decide) (hdb : (x == ("__debug__" : Str)) = false := by decide)
    (he : starEach (e :: es) X.env = (false, eval e X.env) :: starEach es X.env := by rfl) (hpl : (backTo pos (starEach es X.env)).any (·.1) = false := by rfl) : Ev X G W (.Call (.Name x p) (e :: es) [] pos) (blt k fs) :=
  PE.imp (pe_callB hc hg hm hv ha hn hdb he hpl) fun _ _ _ q => tCB_of hk q
theorem ev_callTy (hc : CallR X (.type T) rr) (hk : CallK G W rr k) (hg : Gl X x) (hm : X.mg x = none) (hv : bootBuiltins x = some (.type T)) (ha : EvA X G W (e :: es) fs) (hn : x ≠ "__name__" := by decide) (hdb : (x == ("__debug__" : Str)) = false := by decide)
    (he : starEach (e :: es) X.env = (false, eval e X.env) :: starEach es X.env := by rfl) (hpl : (backTo pos (starEach es X.env)).any (·.1) = false := by rfl) : Ev X G W (.Call (.Name x p) (e :: es) [] pos) (blt k fs) :=
  PE.imp (pe_callTy hc hg hm hv ha hn hdb he hpl) fun _ _ _ q => tCB_of hk q
theorem one_rep {d : D} {vs : List V} (q : RepVs G.J M r δ σ [d] vs) : ∃ v, vs = [v] ∧ RepV G.J M r δ σ d v := by
  obtain ⟨v, vt, rfl, e1, e2⟩ := q
  cases e2
  exact ⟨v, rfl, e1⟩
theorem two_rep {d d2 : D} {vs : List V} (q : RepVs G.J M r δ σ [d, d2] vs) : ∃ v v2, vs = [v, v2] ∧ RepV G.J M r δ σ d v ∧ RepV G.J M r δ σ d2 v2 := by
  obtain ⟨v, vt, rfl, e1, e2⟩ := q
  obtain ⟨v2, rfl, e3⟩ := one_rep e2
  exact ⟨v, v2, rfl, e1, e3⟩
/-- len of lists, tuples, texts -/
def lenK (ds : List D) (δ : DE) (h : Bx) : R D := match ds with
  | [.str x] => if x.length ≤ big then .ok (.int x.length) h else .bad
  | [d] => match seqOf δ h d with
    | some es => .ok (.int es.length) h
    | none => .bad
  | _ => .bad
abbrev rLen (K : PySem.W.Frag) : List V → Hp → VK → Prop := fun xs H Q => (∃ p ys, xs = [.ref p] ∧ (SqL K H p ys ∨ SqT K H p ys) ∧ Q (.int ys.length) H) ∨ ∃ z : Str, xs = [.str z] ∧ z.length ≤ sizeLine ∧ Q (.int z.length) H
theorem call_lenK : CallR X (.builtin "len") (rLen X.K) := CallR.or call_len_seq call_len_str
theorem lenK_ok : CallK G W (rLen G.K) lenK := by
  intro σ δ M r h H vs ds Q b rv q
  unfold lenK at q
  split at q
  · rename_i x
    obtain ⟨v, rfl, e⟩ := one_rep rv
    cases e
    split at q
    · rename_i z
      exact .inr ⟨x, rfl, big_line z, q.now b rfl⟩
    · exact q.elim
  · rename_i d _
    obtain ⟨v, rfl, e⟩ := one_rep rv
    split at q
    · rename_i es z
      obtain ⟨a, us, rfl, hs, t⟩ := b.seq e z
      refine .inl ⟨a, us, rfl, hs, ?_⟩
      rw [t.length]
      exact q.now b rfl
    · exact q.elim
  · exact q.elim
def absK (ds : List D) (_ : DE) (h : Bx) : R D := match ds with
  | [.int i] => .ok (.int (if i < 0 then -i else i)) h
  | _ => .bad
theorem absK_ok : CallK G W (fun xs H Q => ∃ i, xs = [.int i] ∧ Q (.int (if i < 0 then -i else i)) H) absK := by
  intro σ δ M r h H vs ds Q b rv q
  unfold absK at q
  split at q
  · obtain ⟨v, rfl, e⟩ := one_rep rv
    cases e
    exact ⟨_, rfl, q.now b rfl⟩
  · exact q.elim
def intK (ds : List D) (_ : DE) (h : Bx) : R D := match ds with
  | [.int i] => .ok (.int i) h
  | [.bl b] => .ok (.int (if b = true then 1 else 0)) h
  | _ => .bad
theorem intK_ok : CallK G W (fun xs H Q => (∃ i, xs = [.int i] ∧ Q (.int i) H) ∨ ∃ k, xs = [.bl k] ∧ Q (.int (if k then 1 else 0)) H) intK := by
  intro σ δ M r h H vs ds Q b rv q
  unfold intK at q
  split at q
  · obtain ⟨v, rfl, e⟩ := one_rep rv
    cases e
    exact .inl ⟨_, rfl, q.now b rfl⟩
  · obtain ⟨v, rfl, e⟩ := one_rep rv
    cases e
    exact .inr ⟨_, rfl, q.now b rfl⟩
  · exact q.elim
/-- tuple(x) -/
def tupK (ds : List D) (δ : DE) (h : Bx) : R D := match ds with
  | [.tup es] => .ok (.tup es) h
  | [d] => match lstOf δ h d with
    | some es => .ok (.tup es) h
    | none => .bad
  | _ => .bad
theorem tupK_ok : CallK G W (fun xs H Q => ∃ p ys, xs = [.ref p] ∧ ((SqL G.K H p ys ∧ ∀ l, H l = none → Q (.ref l) (upd H l (.tup ys))) ∨ (SqT G.K H p ys ∧ Q (.ref p) H))) tupK := by
  intro σ δ M r h H vs ds Q b rv q
  unfold tupK at q
  split at q
  · rename_i es
    obtain ⟨v, rfl, e⟩ := one_rep rv
    obtain ⟨a, us, rfl, m, t⟩ := e
    exact ⟨a, us, rfl, .inr ⟨sqT_of b m, q.now b ⟨a, us, rfl, m, t⟩⟩⟩
  · rename_i d _
    obtain ⟨v, rfl, e⟩ := one_rep rv
    split at q
    · rename_i es z
      obtain ⟨a, us, rfl, hs, t, l⟩ := b.lst e z
      exact ⟨a, us, rfl, .inl ⟨hs, tup_new b t l q⟩⟩
    · exact q.elim
  · exact q.elim
/-- list(x): a new one -/
def listN (fs : DE → Bx → R (List D)) : DE → Bx → R (List D) := fun δ h => (fs δ h).bind fun ds h1 => match ds with
  | [d] => match seqOf δ h1 d with
    | some es => if es.length ≤ big then .ok es h1 else .bad
    | none => .bad
  | _ => .bad
theorem evn_list {p : Pos} {es : List Expr} (hg : Gl X "list") (hm : X.mg "list" = none) (ha : EvA X G W (e :: es) fs) (hK : X.K = G.K)
    (he : starEach (e :: es) X.env = (false, eval e X.env) :: starEach es X.env := by rfl) (hpl : (backTo pos (starEach es X.env)).any (·.1) = false := by rfl) : EvN X G W (.Call (.Name "list" p) (e :: es) [] pos) (listN fs) :=
  PE.imp (pe_callTy call_list_of hg hm (by decide +kernel) ha (by decide) (by decide) he hpl) fun σ H Q q => by
    rw [hK]
    obtain ⟨M, r, h, δ, b, q⟩ := q
    refine ⟨M, r, h, δ, b, (AfterN.bind (rl := rVs G.J δ σ) q).more fun vs H1 ⟨ds, M1, r1, h1, s1, b1, rv, q1⟩ => ?_⟩
    split at q1
    · rename_i d
      obtain ⟨v, rfl, e⟩ := one_rep rv
      split at q1
      · rename_i es' z
        split at q1
        · rename_i l
          obtain ⟨a, us, rfl, hs, t⟩ := b1.seq e z
          exact ⟨a, us, rfl, hs, fun p hp => q1 us M1 r1 H1 p Stp.refl b1 t l hp⟩
        · exact q1.elim
      · exact q1.elim
    · exact q1.elim
/-- truth values -/
def bls : List D → Option (List Bool)
  | [] => some []
  | .bl b :: ds => (bls ds).map (b :: ·)
  | _ :: _ => none
theorem bls_rep {J : Jd} : ∀ {ds : List D} {vs : List V} {bs : List Bool}, Reps J M r ds vs → bls ds = some bs → vs = bs.map V.bl
  | [], _, _, q, e => by cases q; cases e; rfl
  | d :: ds, _, bs, q, e => by
    obtain ⟨v, vt, rfl, e1, e2⟩ := q
    cases d with
    | bl b =>
      unfold bls at e
      cases z : bls ds with
      | none => rw [z] at e; cases e
      | some cs =>
        rw [z] at e
        cases e
        cases e1
        rw [bls_rep e2 z]; rfl
    | _ => cases e
theorem bls_map (bs : List Bool) : bls (bs.map D.bl) = some bs := by
  induction bs with
  | nil => rfl
  | cons b bs ih => simp [bls, ih]
def allK (ds : List D) (δ : DE) (h : Bx) : R D := match ds with
  | [d] => match lstOf δ h d with
    | some es => match bls es with
      | some bs => .ok (.bl (bs.all id)) h
      | none => .bad
    | none => .bad
  | _ => .bad
def anyK (ds : List D) (δ : DE) (h : Bx) : R D := match ds with
  | [d] => match lstOf δ h d with
    | some es => match bls es with
      | some bs => .ok (.bl (bs.any id)) h
      | none => .bad
    | none => .bad
  | _ => .bad
theorem allK_ok : CallK G W (rAll G.K) allK := by
  intro σ δ M r h H vs ds Q b rv q
  unfold allK at q
  split at q
  · obtain ⟨v, rfl, e⟩ := one_rep rv
    split at q
    · rename_i es z
      split at q
      · rename_i bs y
        obtain ⟨a, us, rfl, hs, t, l⟩ := b.lst e z
        exact ⟨a, bs, rfl, by rw [← bls_rep t y]; exact hs, q.now b rfl⟩
      · exact q.elim
    · exact q.elim
  · exact q.elim
theorem anyK_ok : CallK G W (rAny G.K) anyK := by
  intro σ δ M r h H vs ds Q b rv q
  unfold anyK at q
  split at q
  · obtain ⟨v, rfl, e⟩ := one_rep rv
    split at q
    · rename_i es z
      split at q
      · rename_i bs y
        obtain ⟨a, us, rfl, hs, t, l⟩ := b.lst e z
        exact ⟨a, bs, rfl, by rw [← bls_rep t y]; exact hs, q.now b rfl⟩
      · exact q.elim
    · exact q.elim
  · exact q.elim
/-! ### isinstance -/
/-- a value's type -/
def D.ty : D → String
  | .non => "NoneType"
  | .bl _ => "bool"
  | .int _ => "int"
  | .str _ => "str"
  | .tup _ => "tuple"
  | .lam _ => "function"
  | .fn _ => "function"
  | _ => "list"
def D.fun? : D → Bool
  | .lam _ => true
  | .fn _ => true
  | _ => false
theorem tyx_of (b : BS G M r h δ σ H) {d : D} {v : V} (rv : RepV G.J M r δ σ d v) (nf : d.fun? = false) : TyX G.K H v (.type d.ty) := by
  cases d with
  | lam _ => cases nf
  | fn _ => cases nf
  | non => cases rv; exact .base .non
  | bl _ => cases rv; exact .base (.bl _)
  | int _ => cases rv; exact .base (.int _)
  | str _ => cases rv; exact .base (.str _)
  | tup ds =>
    obtain ⟨a, vs, rfl, m, t⟩ := rv
    rcases m with m | ⟨o, its, n, k1, k2, _⟩
    · exact .base (.tup (b.mok _ _ m).2)
    · exact .kTuple k1 k2
  | lst ds =>
    obtain ⟨a, vs, rfl, m, t⟩ := rv
    exact .base (.lst (b.mok _ _ m).2)
  | frz ds =>
    obtain ⟨a, vs, rfl, m, t⟩ := rv
    rcases m with ⟨u, m, rfl | ⟨o, rfl⟩⟩ | ⟨o, its, n, k1, k2, _⟩
    · exact .base (.lst (b.mok _ _ m).2)
    · exact .base (.frz (b.mok _ _ m).2)
    · exact .kList k1 k2
  | ptr n =>
    obtain ⟨a, rfl, e⟩ := rv
    have hl : n < h.length := by rw [← b.bx.len]; exact (List.getElem?_eq_some_iff.mp e).1
    obtain ⟨_, _, vs, q, _⟩ := b.bx.at_ n a _ e (List.getElem?_eq_getElem hl)
    exact .base (.lst q)
  | loc i =>
    obtain ⟨e1, ds, e2⟩ := rv
    obtain ⟨a, vs, e3, _, _, _, _, q, _⟩ := b.sl i _ _ e2 e1
    cases e3
    exact .base (.lst q)
def isT (t T : String) : Bool := t == T || (t == "bool" && T == "int")
def isiR (T : List String) (d : D) (h : Bx) : R D := if d.fun? = true then .bad else .ok (.bl (T.any (isT d.ty))) h
def isiF (T : List String) (f : EF) : EF := fun δ h => (f δ h).bind fun d h1 => isiR T d h1
/-- isinstance(e, T), T one of int, bool, str, list, tuple -/
theorem ev_isi {T : String} {xt : Str} {p p2 : Pos} (hg : Gl X "isinstance") (hm : X.mg "isinstance" = none) (hgt : Gl X xt) (hmt : X.mg xt = none) (hvt : bootBuiltins xt = some (.type T)) (ha : Ev X G W e f) (hK : X.K = G.K)
    (hT : ∀ t ∈ ["NoneType", "bool", "int", "str", "tuple", "list"], kitB t T = some (isT t T)) (hn : xt ≠ "__name__" := by decide) (hdb : (xt == ("__debug__" : Str)) = false := by decide)
    (he : starEach [e, .Name xt p2] X.env = (false, eval e X.env) :: starEach [.Name xt p2] X.env := by rfl) (hpl : (backTo pos (starEach [.Name xt p2] X.env)).any (·.1) = false := by rfl)
    (hs2 : starEach [.Name xt p2] X.env = (false, eval (.Name xt p2) X.env) :: starEach [] X.env := by rfl) : Ev X G W (.Call (.Name "isinstance" p) [e, .Name xt p2] [] pos) (isiF [T] f) :=
  PE.imp (pe_callB call_isi hg hm (by decide +kernel) (pa_cons ha (pa_cons (pe_bltn (v := .ty T) hgt hmt hvt rfl hn hdb) pa_nil hs2) he) (by decide) (by decide) he hpl) fun σ H Q q => by
    rw [hK]
    obtain ⟨M, r, h, δ, b, q⟩ := q
    refine ⟨M, r, h, δ, b, (After.bind q).more fun v H1 ⟨d, M1, r1, h1, s1, b1, rv, q1⟩ => ?_⟩
    by_cases nf : d.fun? = true
    · unfold isiR at q1; rw [if_pos nf] at q1; exact q1.elim
    unfold isiR at q1
    rw [if_neg nf] at q1
    have nf : d.fun? = false := by simpa using nf
    have hd : d.ty ∈ ["NoneType", "bool", "int", "str", "tuple", "list"] := by cases d <;> first | (cases nf; done) | simp [D.ty]
    have q1 : After G W σ δ (rV G.J δ σ) M1 r1 H1 (.ok (.bl (isT d.ty T || false)) h1) Q := q1
    rw [Bool.or_false] at q1
    exact ⟨v, .ty T, .type d.ty, .type T, _, rfl, .ty T, tyx_of b1 rv nf, kit_ty (hT _ hd), q1.now b1 rfl⟩
/-- isinstance(e, (T1, T2)) -/
theorem ev_isi2 {T T' : String} {xt xt' : Str} {p p2 p3 p4 : Pos} {kk : Nat} (hg : Gl X "isinstance") (hm : X.mg "isinstance" = none) (hgt : Gl X xt) (hmt : X.mg xt = none) (hvt : bootBuiltins xt = some (.type T)) (hgt' : Gl X xt') (hmt' : X.mg xt' = none) (hvt' : bootBuiltins xt' = some (.type T')) (ha : Ev X G W e f) (hK : X.K = G.K)
    (hT : ∀ t ∈ ["NoneType", "bool", "int", "str", "tuple", "list"], kitB t T = some (isT t T)) (hT' : ∀ t ∈ ["NoneType", "bool", "int", "str", "tuple", "list"], kitB t T' = some (isT t T'))
    (hn : xt ≠ "__name__" := by decide) (hdb : (xt == ("__debug__" : Str)) = false := by decide) (hn' : xt' ≠ "__name__" := by decide) (hdb' : (xt' == ("__debug__" : Str)) = false := by decide)
    (he : starEach [e, .Tuple [.Name xt p2, .Name xt' p3] kk p4] X.env = (false, eval e X.env) :: starEach [.Tuple [.Name xt p2, .Name xt' p3] kk p4] X.env := by rfl) (hpl : (backTo pos (starEach [.Tuple [.Name xt p2, .Name xt' p3] kk p4] X.env)).any (·.1) = false := by rfl)
    (hs2 : starEach [.Tuple [.Name xt p2, .Name xt' p3] kk p4] X.env = (false, eval (.Tuple [.Name xt p2, .Name xt' p3] kk p4) X.env) :: starEach [] X.env := by rfl)
    (hs3 : starEach [.Name xt p2, .Name xt' p3] X.env = (false, eval (.Name xt p2) X.env) :: starEach [.Name xt' p3] X.env := by rfl) (hs4 : starEach [.Name xt' p3] X.env = (false, eval (.Name xt' p3) X.env) :: starEach [] X.env := by rfl) :
    Ev X G W (.Call (.Name "isinstance" p) [e, .Tuple [.Name xt p2, .Name xt' p3] kk p4] [] pos) (isiF [T, T'] f) :=
  PE.imp (pe_callB call_isiT hg hm (by decide +kernel) (pa_cons ha (pa_cons (pe_tup (pa_cons (pe_bltn (v := .ty T) hgt hmt hvt rfl hn hdb) (pa_cons (pe_bltn (v := .ty T') hgt' hmt' hvt' rfl hn' hdb') pa_nil hs4) hs3)) pa_nil hs2) he) (by decide) (by decide) he hpl) fun σ H Q q => by
    rw [hK]
    obtain ⟨M, r, h, δ, b, q⟩ := q
    refine ⟨M, r, h, δ, b, (After.bind q).more fun v H1 ⟨d, M1, r1, h1, s1, b1, rv, q1⟩ => ?_⟩
    by_cases nf : d.fun? = true
    · unfold isiR at q1; rw [if_pos nf] at q1; exact q1.elim
    unfold isiR at q1
    rw [if_neg nf] at q1
    have nf : d.fun? = false := by simpa using nf
    have hd : d.ty ∈ ["NoneType", "bool", "int", "str", "tuple", "list"] := by cases d <;> first | (cases nf; done) | simp [D.ty]
    refine ⟨by show 2 ≤ sizeLine; decide, fun p hp => ?_⟩
    obtain ⟨b2, s2⟩ := b1.laid (o := .tup [.ty T, .ty T']) hp (by show 2 ≤ big; decide)
    have rv2 := RepV.mono s2.le s2.pre rv
    have q1 : After G W σ δ (rV G.J δ σ) M1 r1 H1 (.ok (.bl (isT d.ty T || (isT d.ty T' || false))) h1) Q := q1
    refine ⟨v, p, [.ty T, .ty T'], .type d.ty, [.type T, .type T'], isT d.ty T || (isT d.ty T' || false), rfl, upd_same, .cons (.ty T) (.cons (.ty T') .nil), tyx_of b2 rv2 nf, ?_, (After.from s2 q1).now b2 rfl⟩
    refine kitAny_cons (kit_ty (hT _ hd)) (fun e => ?_) (fun e => by rw [e]; rfl)
    rw [e]
    exact kitAny_cons (kit_ty (hT' _ hd)) (fun e' => by rw [e']; rfl) (fun e' => by rw [e']; rfl)
end
end LP
/-! LpG: lists that are written: slots' own ones, boxes. -/
namespace LP
open PySem PySem.Spec PyProof.Rows L2
section
variable {X : Cx} {G : Cfg} {W : WX} {σ : L2.St} {δ : DE} {M M' M1 M2 : Imm} {r r' r1 r2 : List Addr} {h h' h1 h2 : Bx} {H H' H1 H2 : Hp} {E : Ends}
variable {e c : Expr} {f g : EF} {tg : Expr} {fs : DE → Bx → R (List D)} {pos : Pos}
/-- a list that is written: that of slot i, or a box that slot i names -/
def wrS (i : Nat) (δ : DE) (h : Bx) : Option (List D) := match δ[i]? with
  | some (.own ds) => some ds
  | some (.v (.ptr n)) => h[n]?
  | _ => none
/-- behind the writing -/
def putS (i : Nat) (δ : DE) (h : Bx) (ds : List D) : DE × Bx := match δ[i]? with
  | some (.v (.ptr n)) => (δ, h.set n ds)
  | _ => (δ.set i (.own ds), h)
theorem BS.ownW (b : BS G M r h δ σ H) {i : Nat} {ds es : List D} {a : Addr} {us : List V} (e : δ[i]? = some (.own ds)) (ea : σ[i]? = some (some (.ref a))) (t : Reps G.J M r es us) (z : es.length ≤ big) : BS G M r h (δ.set i (.own es)) σ (upd H a (.lst us)) := by
  obtain ⟨a', vs, e1, m, n, fr, _, q, _⟩ := b.sl i _ _ e ea
  cases e1
  have hi : i < δ.length := (List.getElem?_eq_some_iff.mp e).1
  have b1 := (b.drop i).wrote (ys := us) m n fr (fun j ds' e1 e2 => ?_) q
  · refine ⟨b1.mok, b1.bx, b1.tb, by rw [List.length_set]; exact b.len, fun j s x e1 e2 => ?_, fun j l es' us' e1 e2 n' => ?_, b1.le, b1.pre, b1.new, b1.keep, b1.nf⟩
    · by_cases hj : i = j
      · subst hj
        rw [List.getElem?_set_self hi] at e1
        cases e1
        rw [ea] at e2; cases e2
        exact ⟨a, us, rfl, m, n, fr, z, upd_same, t⟩
      · rw [List.getElem?_set_ne hj] at e1
        exact b1.sl j s x (by rw [List.getElem?_set_ne hj]; exact e1) e2
    · have back : ∀ {j : Nat} {es' : List D}, (δ.set i (.own es))[j]? = some (.own es') → ∃ ds', δ[j]? = some (.own ds') := fun {j es'} e1 => by
        by_cases hj : i = j
        · subst hj; exact ⟨ds, e⟩
        · rw [List.getElem?_set_ne hj] at e1; exact ⟨es', e1⟩
      obtain ⟨d1, y1⟩ := back e1
      obtain ⟨d2, y2⟩ := back e2
      exact b.sep j l d1 d2 y1 y2 n'
  · by_cases hj : i = j
    · subst hj
      rw [List.getElem?_set_self hi] at e1; cases e1
    · rw [List.getElem?_set_ne hj] at e1
      exact b.sep i j ds ds' e e1 hj (by rw [ea, e2])
theorem BS.boxW (b : BS G M r h δ σ H) {n : Nat} {a : Addr} {es : List D} {us : List V} (ea : r[n]? = some a) (t : Reps G.J M r es us) (z : es.length ≤ big) : BS G M r (h.set n es) δ σ (upd H a (.lst us)) ∧ Stp M r H M r (upd H a (.lst us)) := by
  have hn : n < h.length := by rw [← b.bx.len]; exact (List.getElem?_eq_some_iff.mp ea).1
  obtain ⟨m, _, vs, q, _⟩ := b.bx.at_ n a _ ea (List.getElem?_eq_getElem hn)
  have har : a ∈ r := List.mem_of_getElem? ea
  have ne : ∀ {c u}, M c = some u → c ≠ a := fun e z => by rw [z, m] at e; cases e
  have kp : Keep r H (upd H a (.lst us)) := fun c u e t n => by
    rw [upd_ne (fun z => n (by rw [z]; exact har))]; exact e
  refine ⟨⟨fun c u e => ⟨(b.mok c u e).1, by rw [upd_ne (ne e)]; exact (b.mok c u e).2⟩, ⟨by rw [List.length_set]; exact b.bx.len, b.bx.nd, fun k c ds e1 e2 => ?_⟩, fun p hp => ?_, b.len, fun i s x e1 e2 => ?_, b.sep, b.le, b.pre, b.new, fun c u e t nr => ?_, b.nf⟩,
    Le.refl, List.prefix_rfl, fun c z => .inl z, kp, fun c m _ _ => m⟩
  · by_cases hk : n = k
    · subst hk
      rw [List.getElem?_set_self hn] at e2
      cases e2
      rw [ea] at e1; cases e1
      exact ⟨m, z, us, upd_same, t⟩
    · rw [List.getElem?_set_ne hk] at e2
      obtain ⟨m', z', vs', q', t'⟩ := b.bx.at_ k c ds e1 e2
      refine ⟨m', z', vs', ?_, t'⟩
      rw [upd_ne fun y => hk ?_]
      · exact q'
      · subst y
        obtain ⟨l1, x1⟩ := List.getElem?_eq_some_iff.mp ea
        obtain ⟨l2, x2⟩ := List.getElem?_eq_some_iff.mp e1
        exact (List.getElem_inj b.bx.nd).mp (x1.trans x2.symm)
  · obtain ⟨ps, e1, e2, e3⟩ := b.tb p hp
    refine ⟨ps, by rw [upd_ne (fun z => by rw [z, q] at e1; cases e1)]; exact e1, e2, fun pos cv hc => ?_⟩
    obtain ⟨c, z1, z2⟩ := e3 pos cv hc
    refine ⟨c, z1, ?_⟩
    rw [upd_ne (fun z => by rw [z, q] at z2; cases z2)]
    exact z2
  · exact (b.sl i s x e1 e2).mono Le.refl List.prefix_rfl fun c vs m' q' n' => ⟨m', n', kp c _ q' (fun ps y => by cases y) n'⟩
  · have nr' : c ∉ r := fun z => by
      rcases b.new c z with y | y
      · exact nr y
      · obtain ⟨ps, w⟩ := y _ e
        exact t ps w
    exact kp c u (b.keep c u e t nr) t nr'
/-- the list that is written, as it stands -/
theorem BS.wrS (b : BS G M r h δ σ H) {i : Nat} {ds : List D} (e : wrS i δ h = some ds) : ∃ a vs, σ[i]? = some (some (.ref a)) ∧ H a = some (.lst vs) ∧ Reps G.J M r ds vs ∧ ds.length ≤ big ∧
    ∀ (es : List D) (us : List V), Reps G.J M r es us → es.length ≤ big → BS G M r (putS i δ h es).2 (putS i δ h es).1 σ (upd H a (.lst us)) := by
  unfold LP.wrS at e
  unfold putS
  cases z : δ[i]? with
  | none => rw [z] at e; cases e
  | some s =>
    rw [z] at e
    obtain ⟨o, eo⟩ := b.lt z
    cases s with
    | no => cases e
    | own es =>
      cases e
      obtain ⟨a, vs, rfl, m, n, fr, l, q, t⟩ := b.sl i _ _ z eo
      exact ⟨a, vs, eo, q, t, l, fun es us t' z' => b.ownW z eo t' z'⟩
    | v d =>
      cases d with
      | ptr n =>
        obtain ⟨v, rfl, a, rfl, ea⟩ := b.sl i _ _ z eo
        have e : h[n]? = some ds := e
        obtain ⟨m, l, vs, q, t⟩ := b.bx.at_ n a ds ea e
        exact ⟨a, vs, eo, q, t, l, fun es us t' z' => (b.boxW ea t' z').1⟩
      | _ => cases e
/-! ### append, extend, pop as statements -/
variable {x : Str} {px apos : Pos} {i j : Nat}
theorem recv_list (b : BS G M r h δ σ H) {i : Nat} (hw : (LP.wrS i δ h).isSome = true) : ∃ v, σ[i]? = some (some v) ∧ tyV G.K "list" v H := by
  cases e : LP.wrS i δ h with
  | none => rw [e] at hw; cases hw
  | some ds =>
    obtain ⟨a, vs, e1, q, _⟩ := b.wrS e
    exact ⟨_, e1, .inl ⟨rfl, vs, .inl (.inl q)⟩⟩
/-- the receiver, the argument, the writing: k tells the new list -/
def methS (i : Nat) (f : EF) (k : List D → D → DE → Bx → Option (List D)) : SF := fun δ h => if (wrS i δ h).isSome = true then (f δ h).toS δ fun d h1 => match wrS i δ h1 with
  | some ds => match k ds d δ h1 with
    | some es => .nx (putS i δ h1 es).1 (putS i δ h1 es).2
    | none => .bad
  | none => .bad
else .bad
theorem meth_of {rr : V → List V → Hp → VK → Prop} {k : List D → D → DE → Bx → Option (List D)}
    (hr : ∀ a w d M1 r1 h1 H1 ds vs es (Q : VK), BS G M1 r1 h1 δ σ H1 → H1 a = some (.lst vs) → Reps G.J M1 r1 ds vs → ds.length ≤ big → RepV G.J M1 r1 δ σ d w → k ds d δ h1 = some es →
      (∀ us, Reps G.J M1 r1 es us → es.length ≤ big → Q .non (upd H1 a (.lst us))) → rr (.ref a) [w] H1 Q)
    (b : BS G M r h δ σ H) (q : AfterS G W M r (methS i f k δ h) E) : tBM G.K "list" rr (tVar i) (tCons (tG G W (rV G.J) f) tNil) σ H fun _ H1 => E.nx σ H1 := by
  unfold methS at q
  split at q
  · rename_i hw
    obtain ⟨v, e1, ty⟩ := recv_list b hw
    refine ⟨v, e1, ty, M, r, h, δ, b, (AfterS.expr (rl := rV G.J) b q).more fun w H1 ⟨d, M1, r1, h1, s1, b1, rv, q1⟩ => ?_⟩
    split at q1
    · rename_i ds z
      split at q1
      · rename_i es y
        obtain ⟨a, vs, e2, q2, t, l, wr⟩ := b1.wrS z
        rw [e1] at e2; cases e2
        exact hr a w d M1 r1 h1 H1 ds vs es _ b1 q2 t l rv y fun us t' l' => q1.nxt (wr es us t' l')
      · exact q1.elim
    · exact q1.elim
  · exact q.elim
def appK (ds : List D) (d : D) (_ : DE) (_ : Bx) : Option (List D) := if (isV d && decide (ds.length < big)) = true then some (ds ++ [d]) else none
def extK (ds : List D) (d : D) (δ : DE) (h : Bx) : Option (List D) := match wrOf δ h d with
  | some es => if ds.length + es.length ≤ big then some (ds ++ es) else none
  | none => none
abbrev appS (i : Nat) (f : EF) : SF := methS i f appK
abbrev extS (i : Nat) (f : EF) : SF := methS i f extK
theorem es_app {cpos : Pos} (hN : X.N[i]? = some x) (hv : Vis X.env.scope x) (ha : Ev X G W e f) (hK : X.K = G.K)
    (hbase : attributeBase (.Name x px) "append" X.env (eval (.Name x px) X.env) = eval (.Name x px) X.env := by rfl)
    (hfew : ((backTo cpos (starEach [e] X.env)).all (fun x => !x.1) && (backToKw cpos (keywordEach [] X.env)).all (fun x => x.1.isSome) && decide ([e].length + ([] : List Keyword).length + (if ([] : List Keyword).isEmpty then 0 else 1) < 30)) = true := by rfl)
    (hline : (apos.endLine == cpos.line) = true := by rfl) (hs : starEach [e] X.env = (false, eval e X.env) :: starEach [] X.env := by rfl) (hplain : (backTo cpos (starEach [] X.env)).any (·.1) = false := by rfl)
    (hd : (x == ("__debug__" : Str)) = false := by decide) (hcd : (x == ("__classdict__" : Str)) = false := by decide)
    (hsw : swapsWith (.Call (.Attribute (.Name x px) "append" apos) [e] [] cpos) none pos.line X.env = pure false := by rfl) :
    Es X G W (.Expr (.Call (.Attribute (.Name x px) "append" apos) [e] [] cpos) pos) (appS i f) :=
  PS.imp (ps_expr (pe_bm PySem.F.plainAttrs_list PySem.F.slot_list_append PySem.F.type_list_append mt_append (pe_var hN hv hd hcd) (pa_cons ha pa_nil hs) hbase hfew hline hs hplain) hsw) fun E σ H q => by
    rw [hK]
    obtain ⟨M, r, h, δ, b, q⟩ := q
    refine meth_of (fun a w d M1 r1 h1 H1 ds vs es Q b1 q2 t l rv y put => ?_) b q
    unfold appK at y
    split at y
    · rename_i z
      cases y
      rw [Bool.and_eq_true, decide_eq_true_eq] at z
      have rp : Rep G.J M1 r1 d w := by
        cases d with
        | loc i => cases z.1
        | _ => exact rv
      exact ⟨a, vs, w, rfl, rfl, q2, by rw [t.length]; exact big_lt z.2, put _ (t.append (Reps.one rp)) (by rw [List.length_append]; simp; have := z.2; omega)⟩
    · cases y
theorem es_ext {cpos : Pos} (hN : X.N[i]? = some x) (hv : Vis X.env.scope x) (ha : Ev X G W e f) (hK : X.K = G.K)
    (hbase : attributeBase (.Name x px) "extend" X.env (eval (.Name x px) X.env) = eval (.Name x px) X.env := by rfl)
    (hfew : ((backTo cpos (starEach [e] X.env)).all (fun x => !x.1) && (backToKw cpos (keywordEach [] X.env)).all (fun x => x.1.isSome) && decide ([e].length + ([] : List Keyword).length + (if ([] : List Keyword).isEmpty then 0 else 1) < 30)) = true := by rfl)
    (hline : (apos.endLine == cpos.line) = true := by rfl) (hs : starEach [e] X.env = (false, eval e X.env) :: starEach [] X.env := by rfl) (hplain : (backTo cpos (starEach [] X.env)).any (·.1) = false := by rfl)
    (hd : (x == ("__debug__" : Str)) = false := by decide) (hcd : (x == ("__classdict__" : Str)) = false := by decide)
    (hsw : swapsWith (.Call (.Attribute (.Name x px) "extend" apos) [e] [] cpos) none pos.line X.env = pure false := by rfl) :
    Es X G W (.Expr (.Call (.Attribute (.Name x px) "extend" apos) [e] [] cpos) pos) (extS i f) :=
  PS.imp (ps_expr (pe_bm PySem.F.plainAttrs_list PySem.F.slot_list_extend PySem.F.type_list_extend mt_extend (pe_var hN hv hd hcd) (pa_cons ha pa_nil hs) hbase hfew hline hs hplain) hsw) fun E σ H q => by
    rw [hK]
    obtain ⟨M, r, h, δ, b, q⟩ := q
    refine meth_of (fun a w d M1 r1 h1 H1 ds vs es Q b1 q2 t l rv y put => ?_) b q
    unfold extK at y
    split at y
    · rename_i zs z
      split at y
      · rename_i l2
        cases y
        obtain ⟨c, us, rfl, q3, t3, _⟩ := b1.wr rv z
        exact ⟨a, c, vs, us, rfl, rfl, q2, q3, by rw [t.length, t3.length]; exact big_line l2, put _ (t.append t3) (by rw [List.length_append]; exact l2)⟩
      · cases y
    · cases y
/-- y = x.pop() -/
def popS (i j : Nat) : SF := fun δ h => match wrS i δ h with
  | some ds => match ds.getLast? with
    | some d => if isV d = true then .nx ((putS i δ h ds.dropLast).1.set j (.v d)) (putS i δ h ds.dropLast).2 else .bad
    | none => .bad
  | none => .bad
theorem Reps.dropLast {J : Jd} {ds : List D} {vs : List V} (t : Reps J M r ds vs) : Reps J M r ds.dropLast vs.dropLast := by
  rw [List.dropLast_eq_take, List.dropLast_eq_take, t.length]
  exact t.take _
theorem es_pop {y : Str} {py cpos : Pos} (hNd : X.N.Nodup) (hN : X.N[i]? = some x) (hv : Vis X.env.scope x) (hj : X.N[j]? = some y) (hy : Loc X.env.scope y) (hK : X.K = G.K)
    (hbase : attributeBase (.Name x px) "pop" X.env (eval (.Name x px) X.env) = eval (.Name x px) X.env := by rfl) (hline : (apos.endLine == cpos.line) = true := by rfl)
    (hd : (x == ("__debug__" : Str)) = false := by decide) (hcd : (x == ("__classdict__" : Str)) = false := by decide)
    (hsw : swapsWith (.Call (.Attribute (.Name x px) "pop" apos) [] [] cpos) (some (.Name y py)) pos.line X.env = pure false := by rfl) (hf : X.fn y = true ∨ X.env.scope.names.lookup y = some .local := by first | exact .inl rfl | exact .inr rfl | assumption) :
    Es X G W (.Assign [.Name y py] (.Call (.Attribute (.Name x px) "pop" apos) [] [] cpos) pos) (popS i j) :=
  PS.imp (ps_set hNd hj hy (pe_bm0 PySem.F.plainAttrs_list PySem.F.slot_list_pop PySem.F.type_list_pop mt_pop (pe_var hN hv hd hcd) hbase hline) hsw hf) fun E σ H q => by
    rw [hK]
    obtain ⟨M, r, h, δ, b, q⟩ := q
    unfold popS at q
    split at q
    · rename_i ds z
      split at q
      · rename_i d y
        split at q
        · rename_i iv
          obtain ⟨a, vs, e2, q2, t, l, wr⟩ := b.wrS z
          have hx : ds[ds.length - 1]? = some d := by rw [← List.getLast?_eq_getElem?]; exact y
          obtain ⟨v, ev, rp⟩ := t.get hx
          refine ⟨_, e2, .inl ⟨rfl, vs, .inl (.inl q2)⟩, a, vs, v, rfl, rfl, q2, by rw [t.length]; exact ev, ?_⟩
          have b2 := wr ds.dropLast vs.dropLast t.dropLast (by rw [List.length_dropLast]; omega)
          exact q.nxt (b2.put (i := j) rp)
        · exact q.elim
      · exact q.elim
    · exact q.elim
/-! ### xs[i] = e -/
def setiS (i : Nat) (fi fe : EF) : SF := fun δ h => (fe δ h).toS δ fun d h1 => if (wrS i δ h1).isSome = true then (fi δ h1).toS δ fun n h2 => match n with
  | .int k => match wrS i δ h2 with
    | some ds => match ixN ds.length k with
      | some j => if isV d = true then .nx (putS i δ h2 (ds.set j d)).1 (putS i δ h2 (ds.set j d)).2 else .bad
      | none => .bad
    | none => .bad
  | _ => .bad
else .bad
theorem es_seti {ei : Expr} {fi fe : EF} {spos : Pos} (hN : X.N[i]? = some x) (hv : Vis X.env.scope x) (hi : Ev X G W ei fi) (he : Ev X G W e fe)
    (hd : (x == ("__debug__" : Str)) = false := by decide) (hcd : (x == ("__classdict__" : Str)) = false := by decide)
    (ha : ∀ v, assign (.Subscript (.Name x px) ei spos) X.env v = (do
      let ov ← holding [v] (eval (.Name x px) X.env)
      let iv ← holding [v, ov] (eval ei X.env)
      standAt spos
      holding [v, ov, iv] (setItem ov iv v)
      release [v, ov, iv] []) := by intro _; rfl)
    (hs : swapsWithSole [.Subscript (.Name x px) ei spos] e pos.line X.env = pure false := by rfl) (hw : swappedStores [.Subscript (.Name x px) ei spos] e X.env = pure none := by rfl)
    (h1 : (assignEach [.Subscript (.Name x px) ei spos] X.env).map (·.2) = [assign (.Subscript (.Name x px) ei spos) X.env] := by rfl) :
    Es X G W (.Assign [.Subscript (.Name x px) ei spos] e pos) (setiS i fi fe) :=
  PS.imp (ps_asg he (pg_sub (pe_var hN hv hd hcd) hi set_list ha) hs hw h1) fun E σ H q => by
    obtain ⟨M, r, h, δ, b, q⟩ := q
    refine ⟨M, r, h, δ, b, (AfterS.expr (rl := rV G.J) b q).more fun v H1 ⟨d, M1, r1, h1, s1, b1, rv, q1⟩ => ?_⟩
    split at q1
    · rename_i hw
      obtain ⟨o, eo, _⟩ := recv_list b1 hw
      refine ⟨o, eo, M1, r1, h1, δ, b1, (AfterS.expr (rl := rV G.J) b1 q1).more fun w H2 ⟨n, M2, r2, h2, s2, b2, rn, q2⟩ => ?_⟩
      split at q2
      · rename_i k
        cases rn
        split at q2
        · rename_i ds z
          split at q2
          · rename_i j' y
            split at q2
            · rename_i iv
              obtain ⟨a, vs, e2, q3, t, l, wr⟩ := b2.wrS z
              rw [eo] at e2; cases e2
              have rp : Rep G.J M2 r2 d v := by
                have := RepV.mono s2.le s2.pre rv
                cases d with
                | loc i => cases iv
                | _ => exact this
              exact ⟨a, vs, k, j', rfl, rfl, q3, by rw [t.length]; exact y, q2.nxt (wr _ _ (t.set j' rp) (by rw [List.length_set]; exact l))⟩
            · exact q2.elim
          · exact q2.elim
        · exact q2.elim
      · exact q2.elim
    · exact q1.elim
/-! ### name = [.. for ..], the name a local -/
theorem es_ownLc {y : Str} {py spos : Pos} {elt iter : Expr} {ifs : List Expr} {scope : Scope} {own : List (Str × Nat)} {gi : DE → Bx → R (List D)} {ts : List Nat} {u : D → DE → Option DE} {tf : DE → Bx → R Bool} {ef : EF} (hc : X.calm = true) (hN : X.N.Nodup)
    (hy : X.N[i]? = some y) (hyl : X.env.scope.names.lookup y = some .local) (hsw : swapsWith (.ListComp elt [⟨tg, iter, ifs, 0⟩] scope pos) (some (.Name y py)) spos.line X.env = pure true)
    (hi : EvI X G W tg iter gi) (ok : BlkOk X.N X.env.scope scope own) (hts : ∀ i ∈ ts, i ∈ own.map (·.2))
    (hg : ∀ (s : Shared) (H : Hp) (C : Addr) (cl : List (Str × Addr)) (fp : List Addr), EvG (X.blk s H scope (compEnvC scope cl C X.env) fp) G tg ts u) (ht : ∀ (s : Shared) (H : Hp) (C : Addr) (cl : List (Str × Addr)) (fp : List Addr), EvTs (X.blk s H scope (compEnvC scope cl C X.env) fp) G W0 ifs tf)
    (he : ∀ (s : Shared) (H : Hp) (C : Addr) (cl : List (Str × Addr)) (fp : List Addr), Ev (X.blk s H scope (compEnvC scope cl C X.env) fp) G W0 elt ef) (hs : ∀ x, foldedSetIterable iter X.env x = pure x := by intro _; rfl) :
    Es X G W (.Assign [.Name y py] (.ListComp elt [⟨tg, iter, ifs, 0⟩] scope pos) spos) (ownS i (lcN gi (own.map (·.2)) u tf ef)) :=
  PS.imp (ps_setLc hc hN hy hyl hsw hi ok hg ht he hs) fun E σ H q => by
    obtain ⟨M, r, h, δ, b, q⟩ := q
    refine lc_of (G := G) (W := W) (u := u) (Q := fun x H1 => gName i x σ H1 E.nx) hts ⟨M, r, h, δ, b, ?_⟩
    unfold ownS at q
    cases e : lcN gi (own.map (·.2)) u tf ef δ h with
    | ok ds h1 =>
      rw [e] at q
      intro vs M' r' H' p s b' t z hp
      exact (AfterS.from s.le s.pre q).nxt (b'.own hp t z)
    | exc c fs h => rw [e] at q; exact fun C dd M' r' H' m s b e => q C dd M' r' σ H' m s.le s.pre b e
    | bad => rw [e] at q; exact q
end
end LP
/-! LpH: enumerate of a tuple, t[::-1]: at the library's level and as rules. -/
namespace LP
open PySem PySem.Spec PyProof.Rows L2 HT
open AutoSeq1 (wpAny_loadPart')
section
variable {prog : Program} {w : World} {A : Around} {E : Value → Shared → Prop} {s : Shared}
theorem fm_congr {α β : Type} {f g : α → Option β} : ∀ (l : List α), (∀ a ∈ l, f a = g a) → l.filterMap f = l.filterMap g
  | [], _ => rfl
  | a :: l, h => by
    rw [List.filterMap_cons, List.filterMap_cons, h a (List.mem_cons_self ..), fm_congr l fun b hb => h b (List.mem_cons_of_mem _ hb)]
theorem adjust_rev (n : Nat) : Builtin.Slice.sliceAdjust none none (-1) (n : Int) = ((n : Int) - 1, -1) := by
  unfold Builtin.Slice.sliceAdjust
  rfl
theorem places_rev (n : Nat) : Builtin.Slice.slicePlaces ((n : Int) - 1) (-1) (-1) = n := by
  unfold Builtin.Slice.slicePlaces
  have h1 : ¬ ((-1 : Int) > 0) := by omega
  simp only [h1, if_false]
  have e : (- -1 : Int) = 1 := by decide
  rw [e]
  simp only [Int.ediv_one]
  split <;> omega
theorem sliceApplied_rev {sl : Addr} {vk : Value} {n : Nat} {Q : Int × Int × Nat → Shared → Prop} (hs : s.heap.IsSliceOf sl .none .none vk) (pk : IsPart vk (some (-1)))
    (h : Q ((n : Int) - 1, -1, n) s) : wpAny (model prog w) A (Builtin.Slice.sliceApplied (.ref sl) (pure (n : Int))) Q E s := by
  obtain ⟨os, hos, hcs, hds⟩ := id hs
  unfold Builtin.Slice.sliceApplied Builtin.Slice.sliceFields
  refine wpAny_bind (wpAny_bind (wpAny_field hos hds (x := .none) rfl (wpAny_bind (wpAny_field hos hds (x := .none) rfl (wpAny_bind (wpAny_field hos hds (x := vk) rfl (wpAny_pure ?_)))))))
  refine wpAny_bind (slicePart_ pk ?_)
  show wpAny _ _ (if ((-1 : Int) == 0) = true then _ else _) _ _ s
  rw [if_neg (by decide)]
  refine wpAny_bind (slicePart_ .none (wpAny_bind (slicePart_ .none (wpAny_bind (wpAny_pure ?_)))))
  show wpAny _ _ (match Builtin.Slice.sliceAdjust none none (-1) (n : Int) with | (lo, hi) => pure (lo, (-1 : Int), Builtin.Slice.slicePlaces lo hi (-1))) _ _ s
  rw [adjust_rev n]
  show wpAny _ _ (pure ((n : Int) - 1, (-1 : Int), Builtin.Slice.slicePlaces ((n : Int) - 1) (-1) (-1))) _ _ s
  rw [places_rev]
  exact wpAny_pure h
theorem pick_rev (xs : Array Value) : ((List.range xs.size).filterMap fun (m : Nat) => xs[((xs.size : Int) - 1 + (m : Int) * (-1)).toNat]?).toArray = xs.toList.reverse.toArray := by
  have e : ((List.range xs.size).filterMap fun (m : Nat) => xs[((xs.size : Int) - 1 + (m : Int) * (-1)).toNat]?) = ((List.range xs.size).map fun k => xs.size - 1 - k).filterMap (xs[·]?) := by
    rw [List.filterMap_map]
    apply fm_congr
    intro m hm
    rw [List.mem_range] at hm
    show xs[_]? = xs[xs.size - 1 - m]?
    have : ((xs.size : Int) - 1 + (m : Int) * (-1)).toNat = xs.size - 1 - m := by omega
    rw [this]
  rw [e, PySem.W.krv_range, List.filterMap_reverse, PySem.W.krv_all]
theorem getItem_tuple_rev {t sl : Addr} {items : Array Value} {vk : Value} {Q : Value → Shared → Prop} (ht : IsTup s.heap t items) (hs : s.heap.IsSliceOf sl .none .none vk) (pk : IsPart vk (some (-1)))
    (h : Q (.ref s.heap.objs.size) { s with heap := s.heap.push { cls := .type "tuple", data := .seq items.toList.reverse.toArray } })
    (hsz : items.size ≤ sizeLine) : wpAny (model prog w) A (getItem (.ref t) (.ref sl)) Q E s := by
  have htake : sizeOk (.seq items.toList.reverse.toArray) := by
    show items.toList.reverse.toArray.size ≤ sizeLine
    rw [List.size_toArray, List.length_reverse, Array.length_toList]
    exact hsz
  obtain ⟨os, hos, hcs, hds⟩ := id hs
  have hTs : s.TypeIs (.ref sl) "slice" := ⟨os, hos, hcs⟩
  unfold getItem
  try with_reducible refine wpAny_holding ?_
  first | refine wpAny_bind (wpAny_pure ?_) | skip
  refine wpAny_bind (wpAny_sequenceKey ht.typeIs (by decide) ?_)
  refine wpAny_bind (wpAny_callSpecial?_slot (name := Str.ofString "__getitem__") ht.typeIs PyProof.Rows.slot_tuple_getitem
    (wpAny_call_entry PyProof.Rows.slot_tuple_getitem ht.typeIs entry_tuple_getitem ?_ (args_tuple_getitem _ _)))
  show wpAny _ _ (Builtin.Tuple.tupleItemsOf (.ref t) >>= _) _ _ s
  refine wpAny_bind (tupleItemsOf_ ht ?_)
  refine wpAny_bind (wpAny_typeOf hTs ?_)
  rw [if_pos (by decide)]
  refine wpAny_bind (sliceApplied_rev hs pk ?_)
  have hno : ¬ ((((items.size : Int) - 1) == 0 && (-1 : Int) == 1 && items.size == items.size) = true) := by
    rw [Bool.and_eq_true, Bool.and_eq_true]
    exact fun q => absurd q.1.2 (by decide)
  show wpAny _ _ (if (((items.size : Int) - 1) == 0 && (-1 : Int) == 1 && items.size == items.size) = true then _ else _) _ _ s
  rw [if_neg hno, pick_rev]
  first
    | exact wpAny_bind (m := Builtin.Tuple.tupleExact _) (wpAny_newObj_type (wpAny_pure ⟨_, rfl, wpAny_pure h⟩) htake)
    | exact wpAny_bind (m := Builtin.Tuple.tupleExact _) (wpAny_newObj_type (wpAny_bind (wpAny_pure (wpAny_pure ⟨_, rfl, wpAny_pure h⟩))) htake)
    | exact wpAny_bind (wpAny_bind (m := Builtin.Tuple.tupleExact _) (wpAny_newObj_type (wpAny_pure (wpAny_pure ⟨_, rfl, wpAny_pure h⟩)) htake))
    | exact wpAny_bind (wpAny_bind (m := Builtin.Tuple.tupleExact _) (wpAny_newObj_type (wpAny_pure ⟨_, rfl, wpAny_pure h⟩) htake))
end
/-- x[::-1], x a list or a tuple -/
def tRevA (K : PySem.W.Frag) (te : TE) : TE := fun σ H Q => te σ H fun x H1 => ∃ a xs, x = .ref a ∧ ((SqL K H1 a xs ∧ ∀ p, H1 p = none → Q (.ref p) (upd H1 p (.lst xs.reverse))) ∨ (SqT K H1 a xs ∧ ∀ p, H1 p = none → Q (.ref p) (upd H1 p (.tup xs.reverse))))
theorem pe_revA {X : Cx} {e : Expr} {te : TE} {k : Nat} {p1 p2 p3 pos : Pos} (he : PE X e te) : PE X (.Subscript e (.Slice none none (some (.UnaryOp .USub (.Constant (.int 1) k p1) p2)) p3) pos) (tRevA X.K te) := by
  refine ⟨fun pins s σ H Q I h => ?_⟩
  refine Subscript_ (thn (he.run pins s σ H _ I h) fun v s1 ⟨x, H1, I1, r1, q1⟩ => ?_)
  obtain ⟨a, xs, ex, hx⟩ := q1
  subst ex
  cases r1
  have hst : PO X (some (.UnaryOp .USub (.Constant (.int 1) k p1) p2)) (tPart (tUn (rU fun i => .int (-i)) (tC (.int 1)))) := po_some (pe_un un_neg pe_int)
  refine wpAny_Slice (thn (po_none.run pins s1 σ H1 (fun o H2 => o = none ∧ H2 = H1) I1 ⟨rfl, rfl⟩) fun vl s2 ⟨l, H2, I2, pl, el, e2⟩ => ?_)
  subst el e2
  refine thn (po_none.run pins s2 σ H2 (fun o H3 => o = none ∧ H3 = H2) I2 ⟨rfl, rfl⟩) fun vu s3 ⟨u, H3, I3, pu, eu, e3⟩ => ?_
  subst eu e3
  refine thn (hst.run pins s3 σ H3 (fun o H4 => o = some (-1) ∧ H4 = H3) I3 ⟨1, rfl, -1, rfl, rfl, rfl⟩) fun vs s4 ⟨o, H4, I4, ps, eo, e4⟩ => ?_
  subst eo e4
  have I5 : Inv X pins σ H4 { s4 with heap := s4.heap.push { cls := .type "slice", data := .fields #[vl, vu, vs] } } := I4.kept (t' := s4.toks) fun b ob q => Heap.get?_push_of_some _ q
  show wpAny (model X.prog X.w) X.A (subscriptTail e (.Slice none none (some (.UnaryOp .USub (.Constant (.int 1) k p1) p2)) p3) (.ref a) (.ref s4.heap.objs.size)) (EP X pins σ Q) X.xe { s4 with heap := s4.heap.push { cls := .type "slice", data := .fields #[vl, vu, vs] } }
  rcases hx with ⟨hx, q⟩ | ⟨hx, q⟩
  · obtain ⟨its, r, ht, hz⟩ := I5.list hx
    have hlen := r.length
    refine tail_any (ops := [.ref a, .ref s4.heap.objs.size]) ht.isList.typeIs (PySem.slot_list_getitem.lookup) ?_ (by with_unfolding_all rfl)
    refine wpAny_getItem_list_slice ht.isList (Heap.IsSliceOf.new _ vl vu vs) pl pu ps (by decide) ?_ (by rw [List.size_toArray]; omega)
    rw [PySem.W.krv_pick]
    refine ⟨.ref _, _, I5.laid (t' := s4.toks) (o := .lst xs.reverse) (fun b ob q => Heap.get?_push_of_some _ q) (Nat.le_refl _) ?_, rfl, q _ (I5.hok.fresh (Nat.le_refl _))⟩
    exact ⟨by rw [List.length_reverse]; exact hz, _, 0, r.reverse, Heap.get?_push_size _ rfl⟩
  · obtain ⟨its, r, ht, hz⟩ := I5.tuple hx
    have hlen := r.length
    cases pl; cases pu
    refine tail_any (ops := [.ref a, .ref s4.heap.objs.size]) ht.typeIs PyProof.Rows.slot_tuple_getitem.lookup ?_ (by with_unfolding_all rfl)
    refine getItem_tuple_rev ht (Heap.IsSliceOf.new _ .none .none vs) ps ?_ (by rw [List.size_toArray]; omega)
    refine ⟨.ref _, _, I5.laid (t' := s4.toks) (o := .tup xs.reverse) (fun b ob q => Heap.get?_push_of_some _ q) (Nat.le_refl _) ?_, rfl, q _ (I5.hok.fresh (Nat.le_refl _))⟩
    exact ⟨by rw [List.length_reverse]; exact hz, _, r.reverse, IsTup.new _ _⟩
/-! ### enumerate(tuple) -/
section
variable {prog : Program} {w : World} {A : Around} {E : Value → Shared → Prop} {s : Shared}
theorem enumT_next_item {e it l : Addr} {i : Nat} {items : Array Value} {x old : Value} {Q : Value → Shared → Prop}
    (he : IsEnum s.heap e it i old) (hit : s.heap.IsTupleIter it l i) (hl : s.heap.IsTuple l items) (hx : items[i]? = some x) (hne : e ≠ it)
    (hQ : ∀ h', IsEnumOut h' e it ((i : Int) + 1) x s.heap.objs.size → h'.IsTupleIter it l (i + 1) →
      h'.get? s.heap.objs.size = some { cls := .type "tuple", data := .seq #[.int i s.toks, x] } → h'.objs.size = s.heap.objs.size + 1 →
      (∀ b o, b ≠ e → b ≠ it → s.heap.get? b = some o → h'.get? b = some o) → Q (.ref s.heap.objs.size) { s with heap := h', toks := s.toks + 1 }) :
    wpAny (model prog w) A (Builtin.«enumerate.__next__» ⟨[.ref e], []⟩) (fun fin s' => ∃ v, fin = .done (.ret v) ∧ Q v s') E s := by
  obtain ⟨hp, g, d, tk, os⟩ := s
  show wpAny _ _ (field (.ref e) 2 >>= _) _ _ _
  refine wpAny_bind (wpAny_field he rfl (x := .ref it) rfl ?_)
  refine wpAny_bind (RZ.nextOf_tuple_item hit hl hx fun h₁ hit₁ hs₁ => ?_)
  replace hs₁ : Heap.SameBut it hp h₁ := hs₁
  have he₁ : IsEnum h₁ e it i old := (hs₁.2 e hne).trans he
  show wpAny _ _ (field (.ref e) 3 >>= _) _ _ ⟨h₁, g, d, tk, os⟩
  refine wpAny_bind (wpAny_field he₁ rfl (x := rawInt i) rfl ?_)
  show wpAny _ _ (field (.ref e) 4 >>= _) _ _ ⟨h₁, g, d, tk, os⟩
  refine wpAny_bind (wpAny_field he₁ rfl (x := .none) rfl ?_)
  show wpAny _ _ (mkInt i >>= _) _ _ ⟨h₁, g, d, tk, os⟩
  refine wpAny_bind (wpAny_mkInt ?_)
  show wpAny _ _ (setField (.ref e) 3 (rawInt ((i : Int) + 1)) >>= _) _ _ ⟨h₁, g, d, tk + 1, os⟩
  refine wpAny_bind (wpAny_setField_rec he₁ (by simp) fun h₂ he₂ hs₂ => ?_)
  replace hs₂ : Heap.SameBut e h₁ h₂ := hs₂
  replace he₂ : IsEnum h₂ e it ((i : Int) + 1) old := he₂
  show wpAny _ _ (setField (.ref e) 4 .none >>= _) _ _ ⟨h₂, g, d, tk + 1, os⟩
  refine wpAny_bind (wpAny_setField_rec he₂ (by simp) fun h₃ he₃ hs₃ => ?_)
  replace hs₃ : Heap.SameBut e h₂ h₃ := hs₃
  replace he₃ : IsEnum h₃ e it ((i : Int) + 1) old := he₃
  show wpAny _ _ (newTuple [.int i tk, x] >>= _) _ _ ⟨h₃, g, d, tk + 1, os⟩
  refine wpAny_bind (wpAny_newTuple ?_)
  have he₄ : IsEnum (h₃.push { cls := .type "tuple", data := .seq #[.int i tk, x] }) e it ((i : Int) + 1) old := Heap.get?_push_of_some _ he₃
  generalize hh₄ : h₃.push { cls := .type "tuple", data := .seq #[.int i tk, x] } = h₄ at he₄
  have hsz : h₃.objs.size = hp.objs.size := by rw [hs₃.1, hs₂.1, hs₁.1]
  have hel : e < hp.objs.size := Heap.lt_size he
  have ht₄ : h₄.get? hp.objs.size = some { cls := .type "tuple", data := .seq #[.int i tk, x] } := by rw [← hh₄, ← hsz]; exact Heap.get?_push_size _ rfl
  have hz₄ : h₄.objs.size = hp.objs.size + 1 := by rw [← hh₄, Heap.size_push, hsz]
  have hk₄ : ∀ b o, b ≠ e → b ≠ it → hp.get? b = some o → h₄.get? b = some o := fun b o hbe hbi hb => by
    rw [← hh₄]; exact Heap.get?_push_of_some _ (hs₃.extBut b o hbe (hs₂.extBut b o hbe (hs₁.extBut b o hbi hb)))
  have hit₄ : h₄.IsTupleIter it l (i + 1) := by
    rw [← hh₄]; obtain ⟨o, ho, r⟩ := (hit₁.extBut hs₂.extBut (Ne.symm hne)).extBut hs₃.extBut (Ne.symm hne); exact ⟨o, Heap.get?_push_of_some _ ho, r⟩
  show wpAny _ _ (Builtin.SmallTypes.ownedTupleIsFree (.ref e) >>= _) _ _ ⟨h₄, g, d, tk + 1, os⟩
  rw [hsz]
  clear hh₄ he₃ hs₃ he₂ hs₂ he₁ hs₁ hit₁ hsz h₃ h₂ h₁
  refine wpAny_bind ?_
  · unfold Builtin.SmallTypes.ownedTupleIsFree
    refine wpAny_bind (wpAny_field he₄ rfl (x := .none) rfl (wpAny_pure ?_))
    simp only [if_true]
    refine wpAny_bind (wpAny_rule ?_)
    refine wpAny_bind (wpAny_field he₄ rfl (x := old) rfl ?_)
    refine wpAny_bind (wpAny_setField_rec he₄ (by simp) fun h₅ he₅ hs₅ => ?_)
    replace hs₅ : Heap.SameBut e h₄ h₅ := hs₅
    replace he₅ : IsEnum h₅ e it ((i : Int) + 1) x := he₅
    show wpAny _ _ (Builtin.SmallTypes.ownedTupleHandOut (.ref e) (.ref hp.objs.size) >>= _) _ _ ⟨h₅, g, d, tk + 1, os⟩
    refine wpAny_bind ?_
    · unfold Builtin.SmallTypes.ownedTupleHandOut
      refine wpAny_bind (wpAny_setField_rec he₅ (by simp) fun h₆ he₆ hs₆ => ?_)
      replace hs₆ : Heap.SameBut e h₅ h₆ := hs₆
      replace he₆ : IsEnumOut h₆ e it ((i : Int) + 1) x hp.objs.size := he₆
      refine wpAny_setField_rec he₆ (by simp) fun h₇ he₇ hs₇ => ?_
      replace hs₇ : Heap.SameBut e h₆ h₇ := hs₇
      replace he₇ : IsEnumOut h₇ e it ((i : Int) + 1) x hp.objs.size := he₇
      refine wpAny_bind (wpAny_letGo (wpAny_pure ⟨_, rfl, hQ h₇ he₇ ?_ ?_ ?_ ?_⟩))
      · exact ((hit₄.extBut hs₅.extBut (Ne.symm hne)).extBut hs₆.extBut (Ne.symm hne)).extBut hs₇.extBut (Ne.symm hne)
      · exact hs₇.extBut _ _ (Nat.ne_of_gt hel) (hs₆.extBut _ _ (Nat.ne_of_gt hel) (hs₅.extBut _ _ (Nat.ne_of_gt hel) ht₄))
      · rw [hs₇.1, hs₆.1, hs₅.1, hz₄]
      · exact fun b o hbe hbi hb => hs₇.extBut b o hbe (hs₆.extBut b o hbe (hs₅.extBut b o hbe (hk₄ b o hbe hbi hb)))
theorem pyNext_enumT_item {e it l : Addr} {i : Nat} {items : Array Value} {x old : Value} {Q : Option Value → Shared → Prop}
    (he : IsEnum s.heap e it i old) (hit : s.heap.IsTupleIter it l i) (hl : s.heap.IsTuple l items) (hx : items[i]? = some x) (hne : e ≠ it)
    (hQ : ∀ h', IsEnumOut h' e it ((i : Int) + 1) x s.heap.objs.size → h'.IsTupleIter it l (i + 1) →
      h'.get? s.heap.objs.size = some { cls := .type "tuple", data := .seq #[.int i s.toks, x] } → h'.objs.size = s.heap.objs.size + 1 →
      (∀ b o, b ≠ e → b ≠ it → s.heap.get? b = some o → h'.get? b = some o) → Q (some (.ref s.heap.objs.size)) { s with heap := h', toks := s.toks + 1 }) :
    wpAny (model prog w) A (pyNext (.ref e)) Q E s := by
  have hT : s.TypeIs (.ref e) "enumerate" := ⟨_, he, rfl⟩
  unfold pyNext
  exact wpAny_bind (wpAny_attempt (wpAny_callSpecial?_slot (name := Str.ofString "__next__") hT F.slot_enumerate_next
    (wpAny_call_entry F.slot_enumerate_next hT F.entry_enumerate_next
      (enumT_next_item he hit hl hx hne fun h' a b c d k => wpAny_pure (hQ h' a b c d k)) (F.args_enumerate_next_1 _))))
theorem pyNext_enumT_end {e it l : Addr} {i : Nat} {items : Array Value} {old : Value} {Q : Option Value → Shared → Prop} (hh : A.handled = none)
    (he : IsEnum s.heap e it i old) (hit : s.heap.IsTupleIter it l i) (hl : s.heap.IsTuple l items) (hx : items[i]? = none)
    (hQ : ∀ h', Heap.ExtBut it s.heap h' → Q none { s with heap := h' }) : wpAny (model prog w) A (pyNext (.ref e)) Q E s := by
  have hT : s.TypeIs (.ref e) "enumerate" := ⟨_, he, rfl⟩
  unfold pyNext
  refine wpAny_bind (wpAny_attempt (wpAny_callSpecial?_slot (name := Str.ofString "__next__") hT F.slot_enumerate_next
    (wpAny_call_entry F.slot_enumerate_next hT F.entry_enumerate_next ?_ (F.args_enumerate_next_1 _))))
  show wpAny _ _ (field (.ref e) 2 >>= _) _ _ _
  refine wpAny_bind (wpAny_field he rfl (x := .ref it) rfl ?_)
  refine wpAny_bind (RZ.nextOf_tuple_end hh hit hl hx fun h' x he' hx' => ?_)
  obtain ⟨o, ho, hc⟩ := hx'
  refine wpAny_bind (wpAny_isInstance (T := "StopIteration") (b := true) ⟨o, ho, hc⟩ isSubtype_stop ?_)
  exact wpAny_pure (hQ _ he')
theorem meets_enumerate_newT (l : Addr) (items : Array Value) :
    Meets (Builtin.«enumerate.__new__» ⟨[.type "enumerate", .ref l], []⟩) (fun _ R s => s.heap.IsTuple l items ∧
      R (.ok (.ret (.ref (s.heap.push { cls := .type "tuple_iterator", data := .fields #[.ref l, .int 0 0] }).objs.size)))
        { s with heap := (s.heap.push { cls := .type "tuple_iterator", data := .fields #[.ref l, .int 0 0] }).push { cls := .type "enumerate", data := .fields #[.none, .bool false, .ref s.heap.objs.size, rawInt 0, .none, .none] } }) :=
  .of_wp fun prog w A R s h => by
    obtain ⟨hp, g, d, tk, os⟩ := s; obtain ⟨hl, h⟩ := h
    have hsub := sub_enumerate
    have hL : Heap.IsTuple (Shared.heap ⟨hp, g, d, tk, os⟩) l items := hl
    wp_walk using wpAny_pyIter_tuple hL
    refine wpAny_stack_any fun st => wpAny_pure ?_
    split
    · rename_i c _ _ _ _ _
      cases (c == Value.type "enumerate")
      · wp_walk using wpAny_pyIter_tuple hL
        exact ⟨_, rfl, h⟩
      · wp_walk using wpAny_pyIter_tuple hL
        exact ⟨_, rfl, h⟩
    · wp_walk using wpAny_pyIter_tuple hL
      exact ⟨_, rfl, h⟩
theorem call_enumerate_tup {l : Addr} {items : Array Value} {Q : Value → Shared → Prop} (hL : s.heap.IsTuple l items)
    (h : ∀ h', IsEnum h' (s.heap.objs.size + 1) s.heap.objs.size 0 .none → h'.IsTupleIter s.heap.objs.size l 0 → h'.objs.size = s.heap.objs.size + 2 →
      (∀ b o, s.heap.get? b = some o → h'.get? b = some o) → Q (.ref (s.heap.objs.size + 1)) { s with heap := h' }) :
    wpAny (model prog w) A (call (.type "enumerate") [.ref l]) Q E s := by
  refine callType_new F.called_enumerate (by decide) (F.typeCall_enumerate_1 _) (F.newCall_enumerate_1 _) (fun obj => F.args_object_init_2 obj _) F.entry_enumerate_new
    (meets_enumerate_newT l items) ⟨hL, ?_⟩
  have hz : (s.heap.push { cls := .type "tuple_iterator", data := .fields #[.ref l, .int 0 0] }).objs.size = s.heap.objs.size + 1 := Heap.size_push ..
  show _ ∧ _
  rw [hz]
  have he : IsEnum ((s.heap.push { cls := .type "tuple_iterator", data := .fields #[.ref l, .int 0 0] }).push
      { cls := .type "enumerate", data := .fields #[.none, .bool false, .ref s.heap.objs.size, rawInt 0, .none, .none] }) (s.heap.objs.size + 1) s.heap.objs.size 0 .none := by
    have := Heap.get?_push_size (s.heap.push { cls := .type "tuple_iterator", data := .fields #[.ref l, .int 0 0] })
      (o := { cls := .type "enumerate", data := .fields #[.none, .bool false, .ref s.heap.objs.size, rawInt 0, .none, .none] }) rfl
    rw [hz] at this; exact this
  refine ⟨⟨_, he, rfl⟩, h _ he ⟨_, Heap.get?_push_of_some _ (Heap.get?_push_size _ rfl), rfl, rfl⟩ (by rw [Heap.size_push, hz]) fun b o x => Heap.get?_push_of_some _ (Heap.get?_push_of_some _ x)⟩
end
/-- the tuple at a, each item in a new pair -/
def IteT (K : PySem.W.Frag) (a : Addr) : It :=
  ⟨fun i H => ∃ (xs : List V) (x : V), SqT K H a xs ∧ xs[i]? = some x, fun i H v H' => ∃ T x, v = .ref T ∧ H T = none ∧ H' = upd H T (.tup [.int (i : Nat), x]) ∧ ∀ xs, SqT K H a xs → xs[i]? = some x, fun i H => ∃ xs : List V, SqT K H a xs ∧ xs.length ≤ i⟩
theorem turn_enumT {P : Program} {w : World} {K : PySem.W.Frag} {elts : List Expr} {kk : Nat} {tpos : Pos} (a e it : Addr) :
    Turn P w K (.Tuple elts kk tpos) (IteT K a) [e, it] e (fun i h => (∃ old, IsEnum h e it ((i : Nat) : Int) old) ∧ h.IsTupleIter it a i ∧ e ≠ it) where
  mem := by simp
  obj := fun i h st b hb => by
    obtain ⟨⟨old, he⟩, ⟨o, ho, hc, hd⟩, _⟩ := st
    have e' : b = e ∨ b = it := by simpa using hb
    rcases e' with z | z
    · rw [z]; exact ⟨_, he, fun v q => nomatch q⟩
    · rw [z]; exact ⟨o, ho, fun v q => by rw [hd] at q; cases q⟩
  keep := fun i h h' st k => let ⟨⟨old, he⟩, hi, hne⟩ := st; ⟨⟨old, k e (by simp) _ he⟩, hi.at fun o q => k it (by simp) o q, hne⟩
  item := by
    intro X hP hw hK hc i pins s σ H E I hf st hg
    subst hP hw hK
    obtain ⟨⟨old, he⟩, hit, hne⟩ := st
    obtain ⟨xs, x, hq, hx⟩ := hg
    obtain ⟨its, rv, p, hz⟩ := I.tuple hq
    obtain ⟨u, hu, ru⟩ := rv.get hx
    have hel : e < s.heap.objs.size := Heap.lt_size he
    have hil : it < s.heap.objs.size := by obtain ⟨_, q, _⟩ := hit; exact Heap.lt_size q
    refine pyNext_enumT_item he hit p (x := u) (by simpa using hu) hne fun h' ho hit' hT hsz hk => ?_
    refine ⟨_, rfl, wpAny_letOwnedTupleGo_enum (s := { s with heap := h', toks := s.toks + 1 }) ho fun h'' he' sb => ?_⟩
    have hT2 : h''.get? s.heap.objs.size = some { cls := .type "tuple", data := .seq #[.int i s.toks, u] } := (sb.2 _ (Nat.ne_of_gt hel)).trans hT
    have new : ObjOk X.prog X.w (upd H s.heap.objs.size (.tup [.int (i : Nat), x])) h'' s.heap.objs.size (.tup [.int (i : Nat), x]) :=
      ⟨by show 2 ≤ sizeLine; decide, [.int i s.toks, u], .cons ⟨_, rfl⟩ (.cons ru .nil), ⟨_, hT2, rfl, _, rfl⟩⟩
    have I1 : Inv X pins σ (upd H s.heap.objs.size (.tup [.int (i : Nat), x])) { s with heap := h'', toks := s.toks + 1 } :=
      I.turnedNew (ch := [e, it]) (fun b ob hb q => (sb.2 b (fun z => hb (by simp [z]))).trans (hk b ob (fun z => hb (by simp [z])) (fun z => hb (by simp [z])) q)) hf (Nat.le_refl _) new
    refine ⟨.ref s.heap.objs.size, _, I1, rfl, ⟨_, x, rfl, I.hok.fresh (Nat.le_refl _), rfl, fun ys hy => by rw [I.tuple_inj hy hq]; exact hx⟩, ⟨⟨u, ?_⟩, hit'.at fun o q => (sb.2 it (Ne.symm hne)).trans q, hne⟩, fun b hb => ?_⟩
    · have e1 : ((i + 1 : Nat) : Int) = (i : Int) + 1 := by omega
      rw [e1]; exact he'
    · have hb' : b < s.heap.objs.size := by
        have e' : b = e ∨ b = it := by simpa using hb
        rcases e' with z | z
        · rw [z]; exact hel
        · rw [z]; exact hil
      rw [upd_ne (Nat.ne_of_lt hb')]
      exact (hf b hb).1
  done := by
    intro X hP hw hK hc i pins s σ H E I hf st hg
    subst hP hw hK
    obtain ⟨⟨old, he⟩, hit, hne⟩ := st
    obtain ⟨xs, hq, hx⟩ := hg
    obtain ⟨its, rv, p, hz⟩ := I.tuple hq
    obtain ⟨f0, f1, f2, f3, f4, f5⟩ := hf it (by simp)
    have hl := rv.length
    exact pyNext_enumT_end (I.ok.hd hc) he hit p (by simp; omega) fun h' eb => ⟨rfl, I.turned (t' := s.toks) (fun b o hb q => eb b o hb q) f0 f1 f3 f4 f5⟩
  self := fun A i s Q E st h => let ⟨⟨_, he⟩, _⟩ := st; wpAny_pyIter_enum he h
def iEnumA (K : PySem.W.Frag) (ta : TA) : TI := fun σ H R => ta σ H fun vs H1 => ∃ a xs, vs = [.ref a] ∧ ((SqL K H1 a xs ∧ R (Ite K a) H1) ∨ (SqT K H1 a xs ∧ R (IteT K a) H1))
theorem pi_enumA {X : Cx} {e : Expr} {ta : TA} {p pos tpos : Pos} {elts : List Expr} {kk : Nat} (hg : Gl X "enumerate") (hm : X.mg "enumerate" = none) (ha : PA X [e] ta) (hs : starEach [e] X.env = [(false, eval e X.env)] := by rfl) :
    PI X (.Tuple elts kk tpos) (.Call (.Name "enumerate" p) [e] [] pos) (iEnumA X.K ta) := by
  refine ⟨fun pins s σ H R I h => ?_⟩
  refine Call_ (ld_blt I hg hm boot_enumerate (PyProof.Rows.callWith_type1 (thn (ha.run pos pins s σ H _ I h) fun us s1 ⟨vs, H1, I1, r1, q1⟩ => ?_) hs rfl))
  obtain ⟨a, xs, ex, q1⟩ := q1
  subst ex
  cases r1 with
  | cons r rr =>
    cases rr
    cases r
    have fp : ∀ {b : Addr}, b ∈ [s1.heap.objs.size + 1, s1.heap.objs.size] → s1.heap.objs.size ≤ b := fun {b} hb => by
      have e' : b = s1.heap.objs.size + 1 ∨ b = s1.heap.objs.size := by simpa using hb
      rcases e' with z | z
      · rw [z]; exact Nat.le_add_right _ _
      · rw [z]; exact Nat.le_refl _
    rcases q1 with ⟨hq, q⟩ | ⟨hq, q⟩
    · obtain ⟨its, rv, p', hz⟩ := I1.list hq
      refine call_enumerate_list p'.isList fun h' he hit hsz hk => wpAny_pyIter_enum he ?_
      have I2 : Inv X pins σ H1 { s1 with heap := h' } := I1.kept (t' := s1.toks) hk
      exact ⟨s1.heap.objs.size + 1, [s1.heap.objs.size + 1, s1.heap.objs.size], _, _, H1, rfl, I2, turn_enum a (s1.heap.objs.size + 1) s1.heap.objs.size, ⟨⟨.none, he⟩, hit, Nat.succ_ne_self _⟩, fun b hb => I1.fpOk (fp hb) (I1.hok.fresh (fp hb)), q⟩
    · obtain ⟨its, rv, p', hz⟩ := I1.tuple hq
      refine call_enumerate_tup p' fun h' he hit hsz hk => wpAny_pyIter_enum he ?_
      have I2 : Inv X pins σ H1 { s1 with heap := h' } := I1.kept (t' := s1.toks) hk
      exact ⟨s1.heap.objs.size + 1, [s1.heap.objs.size + 1, s1.heap.objs.size], _, _, H1, rfl, I2, turn_enumT a (s1.heap.objs.size + 1) s1.heap.objs.size, ⟨⟨.none, he⟩, hit, Nat.succ_ne_self _⟩, fun b hb => I1.fpOk (fp hb) (I1.hok.fresh (fp hb)), q⟩
theorem walk_enumT {K : PySem.W.Frag} {a : Addr} {xs : List V} : Walk (IteT K a) xs.length (fun H => SqT K H a xs) (YPair (fun i => some (.int (i : Nat))) (fun i => xs[i]?)) := by
  refine ⟨fun i _ hi q => ⟨xs, xs[i], q, by simp [hi]⟩, fun _ q => ⟨xs, q, Nat.le_refl _⟩, fun i H v H' _ q y => ?_⟩
  obtain ⟨T, x, h1, h2, h3, h4⟩ := y
  exact ⟨T, .int (i : Nat), x, h1, h2, h3, rfl, h4 xs q⟩
section
variable {X : Cx} {G : Cfg} {W : WX} {σ : L2.St} {δ : DE} {M M' M1 M2 : Imm} {r r' r1 r2 : List Addr} {h h' h1 h2 : Bx} {H H' H1 H2 : Hp} {E : Ends}
variable {e c : Expr} {f g : EF} {tg : Expr} {fs : DE → Bx → R (List D)} {pos : Pos}
/-- x[::-1] -/
def revK (d : D) (δ : DE) (h : Bx) : R D := match d with
  | .tup ds => .ok (.tup ds.reverse) h
  | d => match lstOf δ h d with
    | some ds => .ok (.lst ds.reverse) h
    | none => .bad
def revF (f : EF) : EF := fun δ h => (f δ h).bind fun d h1 => revK d δ h1
theorem Reps.rev {J : Jd} {ds : List D} {vs : List V} (t : Reps J M r ds vs) : Reps J M r ds.reverse vs.reverse := by
  induction ds generalizing vs with
  | nil => cases t; rfl
  | cons d ds ih =>
    obtain ⟨v, vt, rfl, e1, e2⟩ := t
    rw [List.reverse_cons, List.reverse_cons]
    exact (ih e2).append (Reps.one e1)
theorem ev_rev {k : Nat} {p1 p2 p3 : Pos} (ha : Ev X G W e f) (hK : X.K = G.K) : Ev X G W (.Subscript e (.Slice none none (some (.UnaryOp .USub (.Constant (.int 1) k p1) p2)) p3) pos) (revF f) :=
  PE.imp (pe_revA ha) fun σ H Q q => by
    rw [hK]
    obtain ⟨M, r, h, δ, b, q⟩ := q
    refine ⟨M, r, h, δ, b, (After.bind q).more fun x H1 ⟨d, M1, r1, h1, s1, b1, rx, q1⟩ => ?_⟩
    unfold revK at q1
    split at q1
    · rename_i ds
      obtain ⟨a, vs, rfl, m, t⟩ := rx
      exact ⟨a, vs, rfl, .inr ⟨sqT_of b1 m, tup_new b1 t.rev (by rw [List.length_reverse, ← t.length]; exact tup_big b1 m) q1⟩⟩
    · split at q1
      · rename_i ds z
        obtain ⟨a, vs, rfl, hs, t, l⟩ := b1.lst rx z
        exact ⟨a, vs, rfl, .inl ⟨hs, lst_new b1 t.rev (by rw [List.length_reverse]; exact l) q1⟩⟩
      · exact q1.elim
/-- enumerate -/
def enumD (ds : List D) : List D := (List.range ds.length).map fun i => .tup [.int (i : Nat), ds.getD i .non]
def enumK (ds : List D) (_ : DE) (h : Bx) : R (List D) := match ds with
  | [d] => match immOf d with
    | some es => .ok (enumD es) h
    | none => .bad
  | _ => .bad
theorem evi_enum {p tpos : Pos} {elts : List Expr} {kk : Nat} (hg : Gl X "enumerate") (hm : X.mg "enumerate" = none) (ha : EvA X G W [e] fs) (hK : X.K = G.K) (hs : starEach [e] X.env = [(false, eval e X.env)] := by rfl) :
    EvI X G W (.Tuple elts kk tpos) (.Call (.Name "enumerate" p) [e] [] pos) (fun δ h => (fs δ h).bind fun ds h1 => enumK ds δ h1) := PI.imp (pi_enumA hg hm ha hs) fun σ H Q q => by
  rw [hK]
  obtain ⟨M, r, h, δ, b, q⟩ := q
  refine ⟨M, r, h, δ, b, (AfterI.bind (rl := rVs G.J δ σ) q).more fun vs H1 ⟨ds, M1, r1, h1, s1, b1, rv, q1⟩ => ?_⟩
  unfold enumK at q1
  split at q1
  · rename_i d
    obtain ⟨v, rfl, rx⟩ := one_rep rv
    split at q1
    · rename_i es z
      cases d with
      | tup ds =>
        cases z
        obtain ⟨a, us, rfl, m, t⟩ := rx
        refine ⟨a, us, rfl, .inr ⟨sqT_of b1 m, q1 _ M1 r1 H1 Stp.refl b1 ?_⟩⟩
        exact good_pair (as := fun i => .int (i : Nat)) (bs := fun i => es.getD i .non) (by rw [← t.length]; exact walk_enumT) (fun M' r' h δ σ H le pr b' => sqT_of b' (m.imp (le _ _) id)) fun i x y _ e1 e2 => ⟨by cases e1; rfl, reps_getD t e2⟩
      | lst ds =>
        cases z
        obtain ⟨a, us, rfl, m, t⟩ := rx
        refine ⟨a, us, rfl, .inl ⟨.inl (.inl (b1.mok _ _ m).2), q1 _ M1 r1 H1 Stp.refl b1 ?_⟩⟩
        exact good_pair (as := fun i => .int (i : Nat)) (bs := fun i => es.getD i .non) (by rw [← t.length]; exact walk_enum) (gd := fun M' r' h δ σ H le pr b' => show SqL G.K H a us from .inl (.inl (b'.mok _ _ (le _ _ m)).2)) fun i x y _ e1 e2 => ⟨by cases e1; rfl, reps_getD t e2⟩
      | frz ds =>
        cases z
        obtain ⟨a, us, rfl, m, t⟩ := rx
        refine ⟨a, us, rfl, .inl ⟨sqF b1 m, q1 _ M1 r1 H1 Stp.refl b1 ?_⟩⟩
        exact good_pair (as := fun i => .int (i : Nat)) (bs := fun i => es.getD i .non) (by rw [← t.length]; exact walk_enum) (gd := fun M' r' h δ σ H le pr b' => sqF b' (m.imp (fun ⟨o, z, y⟩ => ⟨o, le _ _ z, y⟩) id)) fun i x y _ e1 e2 => ⟨by cases e1; rfl, reps_getD t e2⟩
      | _ => cases z
    · exact q1.elim
  · exact q1.elim
end
end LP
/-! LpI: several names at once; lists added and repeated; a written dict; rows never reached. -/
namespace LP
open PySem PySem.Spec PyProof.Rows L2 HT
section
variable {X : Cx} {G : Cfg} {W : WX} {σ : L2.St} {δ : DE} {M M' M1 M2 : Imm} {r r' r1 r2 : List Addr} {h h' h1 h2 : Bx} {H H' H1 H2 : Hp} {E : Ends}
variable {e c : Expr} {f g : EF} {tg : Expr} {fs : DE → Bx → R (List D)} {pos : Pos}
/-! ### a list that stands, of no slot yet -/
structure Lone (G : Cfg) (M : Imm) (r : List Addr) (δ : DE) (σ : L2.St) (H : Hp) (ds : List D) (a : Addr) : Prop where
  m : M a = none
  n : a ∉ r
  f : Free G.H0 a
  no : NoOwn δ σ a
  z : ds.length ≤ big
  at_ : ∃ vs, H a = some (.lst vs) ∧ Reps G.J M r ds vs
theorem Lone.step {ds : List D} {a : Addr} (l : Lone G M r δ σ H ds a) (s : Stp M r H M' r' H') : Lone G M' r' δ σ H' ds a := by
  obtain ⟨vs, q, t⟩ := l.at_
  have nf : IsL H a := ⟨_, q⟩
  exact ⟨s.nf a l.m nf l.n, fun z => (s.new a z).elim l.n nf.nf, l.f, l.no, l.z, vs, s.keep a _ q (fun ps y => by cases y) l.n, Reps.mono s.le s.pre _ _ t⟩
theorem BS.take (b : BS G M r h δ σ H) {i : Nat} {ds : List D} {a : Addr} (l : Lone G M r δ σ H ds a) : BS G M r h (δ.set i (.own ds)) (σ.set i (some (.ref a))) H := by
  obtain ⟨vs, q, t⟩ := l.at_
  have no := l.no
  have at_ : ∀ {j : Nat} {s : SV}, (δ.set i (.own ds))[j]? = some s → i ≠ j → δ[j]? = some s := fun e n => by rwa [List.getElem?_set_ne n] at e
  have lt : ∀ {s : SV}, (δ.set i (.own ds))[i]? = some s → i < δ.length ∧ s = .own ds := fun {s} e => by
    have hi : i < δ.length := by
      have := (List.getElem?_eq_some_iff.mp e).1
      simpa using this
    rw [List.getElem?_set_self hi] at e
    exact ⟨hi, (Option.some.inj e).symm⟩
  refine ⟨b.mok, b.bx, b.tb, by rw [List.length_set, List.length_set]; exact b.len, fun j s x e1 e2 => ?_, fun j l' es us e1 e2 n => ?_, b.le, b.pre, b.new, b.keep, b.nf⟩
  · by_cases hj : i = j
    · subst hj
      obtain ⟨hi, rfl⟩ := lt e1
      rw [List.getElem?_set_self (by rw [b.len]; exact hi)] at e2
      cases e2
      exact ⟨a, vs, rfl, l.m, l.n, l.f, l.z, q, t⟩
    · rw [List.getElem?_set_ne hj] at e2
      exact b.sl j s x (at_ e1 hj) e2
  · by_cases hj : i = j
    · subst hj
      obtain ⟨hi, _⟩ := lt e1
      rw [List.getElem?_set_self (by rw [b.len]; exact hi), List.getElem?_set_ne n]
      exact fun y => no l' us (at_ e2 n) y.symm
    · by_cases hl : i = l'
      · subst hl
        obtain ⟨hi, _⟩ := lt e2
        rw [List.getElem?_set_self (by rw [b.len]; exact hi), List.getElem?_set_ne hj]
        exact no j es (at_ e1 hj)
      · rw [List.getElem?_set_ne hj, List.getElem?_set_ne hl]
        exact b.sep j l' es us (at_ e1 hj) (at_ e2 hl) n
/-- values and lone lists, one behind the other -/
def RSv (G : Cfg) (M : Imm) (r : List Addr) (δ : DE) (σ : L2.St) (H : Hp) : List SV → List V → Prop
  | [], vs => vs = []
  | .no :: _, _ => False
  | .v d :: ss, vs => ∃ v vt, vs = v :: vt ∧ Rep G.J M r d v ∧ RSv G M r δ σ H ss vt
  | .own ds :: ss, vs => ∃ a vt, vs = .ref a :: vt ∧ Lone G M r δ σ H ds a ∧ RSv G M r δ σ H ss vt ∧ ∀ (j : Nat) (es : List D), ss[j]? = some (.own es) → vt[j]? ≠ some (.ref a)
theorem RSv.step (s : Stp M r H M' r' H') : ∀ {ss : List SV} {vs : List V}, RSv G M r δ σ H ss vs → RSv G M' r' δ σ H' ss vs
  | [], _, q => q
  | .no :: _, _, q => q.elim
  | .v d :: ss, _, q => by
    obtain ⟨v, vt, e, q1, q2⟩ := q
    exact ⟨v, vt, e, Rep.mono s.le s.pre _ _ q1, RSv.step s q2⟩
  | .own ds :: ss, _, q => by
    obtain ⟨a, vt, e, q1, q2, q3⟩ := q
    exact ⟨a, vt, e, q1.step s, RSv.step s q2, q3⟩
theorem RSv.at_ : ∀ {ss : List SV} {vs : List V} {j : Nat} {es : List D}, RSv G M r δ σ H ss vs → ss[j]? = some (.own es) → ∃ a, vs[j]? = some (.ref a) ∧ Lone G M r δ σ H es a
  | [], _, _, _, _, e => by simp at e
  | .no :: _, _, _, _, q, _ => q.elim
  | .v d :: ss, _, 0, _, q, e => by simp at e
  | .v d :: ss, _, j + 1, es, q, e => by
    obtain ⟨v, vt, rfl, _, q2⟩ := q
    obtain ⟨a, e1, l⟩ := RSv.at_ (j := j) q2 (by simpa using e)
    exact ⟨a, by simpa using e1, l⟩
  | .own ds :: ss, _, 0, es, q, e => by
    obtain ⟨a, vt, rfl, l, _⟩ := q
    simp at e; subst e
    exact ⟨a, rfl, l⟩
  | .own ds :: ss, _, j + 1, es, q, e => by
    obtain ⟨a, vt, rfl, _, q2, _⟩ := q
    obtain ⟨a', e1, l⟩ := RSv.at_ (j := j) q2 (by simpa using e)
    exact ⟨a', by simpa using e1, l⟩
/-- the lone ones are new -/
def NewX (H : Hp) (ss : List SV) (vs : List V) : Prop := ∀ (j : Nat) (es : List D) (a : Addr), ss[j]? = some (.own es) → vs[j]? = some (.ref a) → Free H a
def AfterX (G : Cfg) (W : WX) (σ : L2.St) (δ : DE) (M : Imm) (r : List Addr) (H : Hp) (x : R (List SV)) (Q : List V → Hp → Prop) : Prop := match x with
  | .ok ss h => ∀ vs M' r' H', Stp M r H M' r' H' → BS G M' r' h δ σ H' → RSv G M' r' δ σ H' ss vs → NewX H ss vs → Q vs H'
  | .exc c fs h => ∀ C dd M' r' H', G.mg c = some (.ref C) → Stp M r H M' r' H' → BS G M' r' h δ σ H' → ExcAt G.J M' r' H' fs dd → W (.ref C) dd σ H'
  | .bad => False
theorem NewX.back {ss : List SV} {vs : List V} (s : Stp M r H M1 r1 H1) (p : r1 <+: r') (q : RSv G M' r' δ σ H' ss vs) (n : NewX H1 ss vs) : NewX H ss vs := fun j es a e1 e2 => by
  obtain ⟨a', e3, l⟩ := q.at_ e1
  rw [e2] at e3
  cases e3
  exact (n j es a e1 e2).back s.keep fun z => l.n (p.subset (s.pre.subset z))
def EvX (X : Cx) (G : Cfg) (W : WX) (es : List Expr) (f : DE → Bx → R (List SV)) : Prop := PA X es fun σ H Q => ∃ M r h δ, BS G M r h δ σ H ∧ AfterX G W σ δ M r H (f δ h) Q
theorem AfterX.from {x : R (List SV)} {Q : List V → Hp → Prop} (s : Stp M r H M1 r1 H1) (q : AfterX G W σ δ M r H x Q) : AfterX G W σ δ M1 r1 H1 x Q := by
  cases x with
  | ok d h => exact fun vs M' r' H' a b c n => q vs M' r' H' (s.trans a) b c (n.back s a.pre c)
  | exc c fs h => exact fun C dd M' r' H' m a b e => q C dd M' r' H' m (s.trans a) b e
  | bad => exact q
def nilX : DE → Bx → R (List SV) := fun _ h => .ok [] h
def consX (f : EF) (fs : DE → Bx → R (List SV)) : DE → Bx → R (List SV) := fun δ h => (f δ h).bind fun d h1 => if isV d = true then (fs δ h1).bind fun ds h2 => .ok (.v d :: ds) h2 else .bad
def consXN (f : DE → Bx → R (List D)) (fs : DE → Bx → R (List SV)) : DE → Bx → R (List SV) := fun δ h => (f δ h).bind fun d h1 => (fs δ h1).bind fun ds h2 => .ok (.own d :: ds) h2
theorem evx_nil : EvX X G W [] nilX := PA.imp pa_nil fun σ H Q q => by
  obtain ⟨M, r, h, δ, b, q⟩ := q
  exact q [] M r H Stp.refl b rfl (fun j es a e => by simp at e)
variable {es : List Expr} {gs : DE → Bx → R (List SV)}
theorem AfterX.more {x : R (List SV)} {Q Q' : List V → Hp → Prop} (q : AfterX G W σ δ M r H x Q) (f : ∀ v H', Q v H' → Q' v H') : AfterX G W σ δ M r H x Q' := by
  cases x with
  | ok d h => exact fun v M' r' H' a b c n => f v H' (q v M' r' H' a b c n)
  | exc c fs h => exact q
  | bad => exact q
theorem AfterX.bind0 {α β : Type} {rl : Rl α β} {x : R α} {k : α → Bx → R (List SV)} {Q : List V → Hp → Prop} (q : AfterX G W σ δ M r H (x.bind k) Q) :
    After G W σ δ rl M r H x fun v H1 => ∃ d M1 r1 h1, Stp M r H M1 r1 H1 ∧ BS G M1 r1 h1 δ σ H1 ∧ rl M1 r1 d v ∧ AfterX G W σ δ M r H (k d h1) Q := by
  cases x with
  | ok d h => exact fun v M' r' H' a b c => ⟨d, M', r', h, a, b, c, q⟩
  | exc c fs h => exact q
  | bad => exact q
theorem evx_cons (ha : Ev X G W e f) (hr : EvX X G W es gs) (hs : starEach (e :: es) X.env = (false, eval e X.env) :: starEach es X.env := by rfl) : EvX X G W (e :: es) (consX f gs) :=
  PA.imp (pa_cons ha hr hs) fun σ H Q q => by
    obtain ⟨M, r, h, δ, b, q⟩ := q
    refine ⟨M, r, h, δ, b, (AfterX.bind0 (rl := rV G.J δ σ) q).more fun x H1 ⟨dx, M1, r1, h1, s1, b1, rx, q1⟩ => ?_⟩
    split at q1
    · rename_i hv
      refine ⟨M1, r1, h1, δ, b1, ?_⟩
      cases z : gs δ h1 with
      | bad => rw [z] at q1; exact q1
      | exc c fs h2 => rw [z] at q1; exact fun C dd M' r' H' m a b e => q1 C dd M' r' H' m (s1.trans a) b e
      | ok ss h2 =>
        rw [z] at q1
        simp only [R.bind_ok] at q1
        refine fun xs M2 r2 H2 s2 b2 rs nx => q1 (x :: xs) M2 r2 H2 (s1.trans s2) b2 ⟨x, xs, rfl, ?_, rs⟩ fun j es a e1 e2 => ?_
        · have := RepV.mono s2.le s2.pre rx
          cases dx with
          | loc i => cases hv
          | _ => exact this
        · cases j with
          | zero => simp at e1
          | succ j => exact nx.back s1 s2.pre rs j es a (by simpa using e1) (by simpa using e2)
    · exact q1.elim
theorem evx_consN {fn : DE → Bx → R (List D)} (ha : EvN X G W e fn) (hr : EvX X G W es gs) (hs : starEach (e :: es) X.env = (false, eval e X.env) :: starEach es X.env := by rfl) : EvX X G W (e :: es) (consXN fn gs) :=
  PA.imp (pa_cons ha hr hs) fun σ H Q q => by
    obtain ⟨M, r, h, δ, b, q⟩ := q
    refine ⟨M, r, h, δ, b, ?_⟩
    unfold consXN at q
    cases z : fn δ h with
    | bad => rw [z] at q; exact q
    | exc c fs h1 => rw [z] at q; exact q
    | ok ds h1 =>
      rw [z] at q
      simp only [R.bind_ok] at q
      intro vs M' r' H' p s b' t hz hp
      have b1 : BS G M' r' h1 δ σ (upd H' p (.lst vs)) := b'.new_list hp
      have s1 : Stp M r H M' r' (upd H' p (.lst vs)) := ⟨s.le, s.pre, s.new, fun a o e t n => upd_new hp (s.keep a o e t n), s.nf⟩
      have lone : Lone G M' r' δ σ (upd H' p (.lst vs)) ds p := ⟨b'.fresh_M hp, b'.fresh_r hp, b'.free0 hp, b'.noOwn hp, hz, vs, upd_same, t⟩
      have pf : Free H p := (Free.of hp).back s.keep fun z => b'.fresh_r hp (s.pre.subset z)
      refine ⟨M', r', h1, δ, b1, ?_⟩
      cases z : gs δ h1 with
      | bad => rw [z] at q; exact q
      | exc c fs h2 => rw [z] at q; exact fun C dd M' r' H' m a b e => q C dd M' r' H' m (s1.trans a) b e
      | ok ss h2 =>
        rw [z] at q
        simp only [R.bind_ok] at q
        refine fun xs M2 r2 H2 s2 b2 rs nx => q (.ref p :: xs) M2 r2 H2 (s1.trans s2) b2 ⟨p, xs, rfl, lone.step s2, rs, fun j es e1 e2 => ?_⟩ fun j es a e1 e2 => ?_
        · obtain ⟨ps, y⟩ := nx j es p e1 e2 _ upd_same
          cases y
        · cases j with
          | zero =>
            have e2 : some (V.ref p) = some (V.ref a) := by simpa using e2
            cases e2
            exact pf
          | succ j => exact nx.back s1 s2.pre rs j es a (by simpa using e1) (by simpa using e2)
/-- the slots take them, the last first -/
def putX (δ : DE) : List Nat → List SV → Option DE
  | [], [] => some δ
  | i :: is, s :: ss => (putX (δ.set i s) is ss)
  | _, _ => none
def setAll (σ : L2.St) : List Nat → List V → L2.St
  | i :: is, v :: vs => setAll (σ.set i (some v)) is vs
  | _, _ => σ
def parS (is : List Nat) (gs : DE → Bx → R (List SV)) : SF := fun δ h => (gs δ h).toS δ fun ss h1 => match putX δ is ss with
  | some δ' => .nx δ' h1
  | none => .bad
theorem Lone.put {ds : List D} {a : Addr} {i : Nat} {d : D} {v : V} (l : Lone G M r δ σ H ds a) : Lone G M r (δ.set i (.v d)) (σ.set i (some v)) H ds a := by
  refine ⟨l.m, l.n, l.f, fun j es e1 e2 => ?_, l.z, l.at_⟩
  by_cases hj : i = j
  · subst hj
    have hi : i < δ.length := by
      have := (List.getElem?_eq_some_iff.mp e1).1
      simpa using this
    rw [List.getElem?_set_self hi] at e1
    cases e1
  · rw [List.getElem?_set_ne hj] at e1 e2
    exact l.no j es e1 e2
theorem Lone.take {ds es : List D} {a c : Addr} {i : Nat} (l : Lone G M r δ σ H ds a) (n : c ≠ a) : Lone G M r (δ.set i (.own es)) (σ.set i (some (.ref c))) H ds a := by
  refine ⟨l.m, l.n, l.f, fun j es' e1 e2 => ?_, l.z, l.at_⟩
  by_cases hj : i = j
  · subst hj
    by_cases hi : i < σ.length
    · rw [List.getElem?_set_self hi] at e2
      cases e2
      exact n rfl
    · rw [List.getElem?_eq_none (by simpa using hi)] at e2
      cases e2
  · rw [List.getElem?_set_ne hj] at e1 e2
    exact l.no j es' e1 e2
theorem RSv.put {i : Nat} {d : D} {v : V} : ∀ {ss : List SV} {vs : List V}, RSv G M r δ σ H ss vs → RSv G M r (δ.set i (.v d)) (σ.set i (some v)) H ss vs
  | [], _, q => q
  | .no :: _, _, q => q.elim
  | .v d :: ss, _, q => by
    obtain ⟨v, vt, e, q1, q2⟩ := q
    exact ⟨v, vt, e, q1, RSv.put q2⟩
  | .own ds :: ss, _, q => by
    obtain ⟨a, vt, e, q1, q2, q3⟩ := q
    exact ⟨a, vt, e, q1.put, RSv.put q2, q3⟩
theorem RSv.take {i : Nat} {es : List D} {c : Addr} : ∀ {ss : List SV} {vs : List V}, RSv G M r δ σ H ss vs → (∀ (j : Nat) (es : List D), ss[j]? = some (.own es) → vs[j]? ≠ some (.ref c)) → RSv G M r (δ.set i (.own es)) (σ.set i (some (.ref c))) H ss vs
  | [], _, q, _ => q
  | .no :: _, _, q, _ => q.elim
  | .v d :: ss, _, q, n => by
    obtain ⟨v, vt, rfl, q1, q2⟩ := q
    exact ⟨v, vt, rfl, q1, RSv.take q2 fun j es e => by have := n (j + 1) es (by simpa using e); simpa using this⟩
  | .own ds :: ss, _, q, n => by
    obtain ⟨a, vt, rfl, q1, q2, q3⟩ := q
    refine ⟨a, vt, rfl, q1.take fun z => ?_, RSv.take q2 fun j es e => by have := n (j + 1) es (by simpa using e); simpa using this, q3⟩
    subst z
    exact n 0 ds rfl rfl
theorem putX_bs : ∀ {is : List Nat} {ss : List SV} {vs : List V} {δ δ' : DE} {σ : L2.St}, BS G M r h δ σ H → RSv G M r δ σ H ss vs → putX δ is ss = some δ' → BS G M r h δ' (setAll σ is vs) H
  | [], [], _, _, _, _, b, _, e => by cases e; exact b
  | [], _ :: _, _, _, _, _, _, _, e => by cases e
  | _ :: _, [], _, _, _, _, _, _, e => by cases e
  | i :: is, .no :: ss, _, _, _, _, _, q, _ => q.elim
  | i :: is, .v d :: ss, _, δ, δ', σ, b, q, e => by
    obtain ⟨v, vt, rfl, q1, q2⟩ := q
    exact putX_bs (is := is) (ss := ss) (b.put q1) (RSv.put q2) e
  | i :: is, .own ds :: ss, _, δ, δ', σ, b, q, e => by
    obtain ⟨a, vt, rfl, q1, q2, q3⟩ := q
    exact putX_bs (is := is) (ss := ss) (b.take q1) (RSv.take q2 q3) e
theorem RSv.length : ∀ {ss : List SV} {vs : List V}, RSv G M r δ σ H ss vs → vs.length = ss.length
  | [], _, q => by cases q; rfl
  | .no :: _, _, q => q.elim
  | .v d :: ss, _, q => by obtain ⟨v, vt, rfl, _, q2⟩ := q; simp [RSv.length q2]
  | .own ds :: ss, _, q => by obtain ⟨v, vt, rfl, _, q2, _⟩ := q; simp [RSv.length q2]
theorem putX_len : ∀ {is : List Nat} {ss : List SV} {δ δ' : DE}, putX δ is ss = some δ' → ss.length = is.length
  | [], [], _, _, _ => rfl
  | [], _ :: _, _, _, e => by cases e
  | _ :: _, [], _, _, e => by cases e
  | i :: is, s :: ss, δ, δ', e => by simp [putX_len (is := is) (ss := ss) e]
theorem par_of {is : List Nat} {n : Nat} (b : BS G M r h δ σ H) (hn : is.length = n) (q : AfterS G W M r (parS is gs δ h) E) :
    AfterX G W σ δ M r H (gs δ h) fun vs H1 => vs.length = n ∧ E.nx (setAll σ is vs) H1 := by
  unfold parS at q
  cases z : gs δ h with
  | bad => rw [z] at q; exact q
  | exc c fs h1 => rw [z] at q; exact fun C dd M' r' H' m s b e => q C dd M' r' σ H' m s.le s.pre b e
  | ok ss h1 =>
    rw [z] at q
    simp only [R.toS_ok] at q
    intro vs M' r' H' s b' rs _
    cases y : putX δ is ss with
    | none => rw [y] at q; exact q.elim
    | some δ' =>
      rw [y] at q
      refine ⟨by rw [rs.length, putX_len y, hn], (AfterS.from s.le s.pre q).nxt (putX_bs b' rs y)⟩
theorem es_par {i j : Nat} {x y : Str} {a c : Expr} {px py pt : Pos} {kt k2 pt2} (hc : X.calm = true) (hN : X.N.Nodup) (hi : X.N[i]? = some x) (hj : X.N[j]? = some y)
    (hx : X.env.scope.names.lookup x = some .local) (hy : X.env.scope.names.lookup y = some .local) (ha : EvX X G W [a, c] gs) (hij : i ≠ j := by decide)
    (hw : swappedStores [.Tuple [.Name x px, .Name y py] kt pt] (.Tuple [a, c] k2 pt2) X.env = pure (some [x, y]) := by rfl)
    (hs : swapsWithSole [.Tuple [.Name x px, .Name y py] kt pt] (.Tuple [a, c] k2 pt2) pos.line X.env = pure false := by rfl) :
    Es X G W (.Assign [.Tuple [.Name x px, .Name y py] kt pt] (.Tuple [a, c] k2 pt2) pos) (parS [i, j] gs) := PS.imp (ps_par hc hN hi hj hij hx hy ha hw hs) fun E σ H q => by
  obtain ⟨M, r, h, δ, b, q⟩ := q
  refine ⟨M, r, h, δ, b, AfterX.more (par_of (is := [i, j]) (n := 2) b rfl q) fun vs H1 ⟨l, q1⟩ => ?_⟩
  match vs, l with
  | [u, v], _ => exact ⟨u, v, rfl, q1⟩
theorem es_par3 {i j l : Nat} {x y z : Str} {a c d : Expr} {px py pz pt : Pos} {kt k2 pt2} (hc : X.calm = true) (hN : X.N.Nodup) (hi : X.N[i]? = some x) (hj : X.N[j]? = some y) (hl : X.N[l]? = some z)
    (hx : X.env.scope.names.lookup x = some .local) (hy : X.env.scope.names.lookup y = some .local) (hz : X.env.scope.names.lookup z = some .local) (ha : EvX X G W [a, c, d] gs) (hij : i ≠ j := by decide) (hil : i ≠ l := by decide) (hjl : j ≠ l := by decide)
    (hw : swappedStores [.Tuple [.Name x px, .Name y py, .Name z pz] kt pt] (.Tuple [a, c, d] k2 pt2) X.env = pure (some [x, y, z]) := by rfl)
    (hs : swapsWithSole [.Tuple [.Name x px, .Name y py, .Name z pz] kt pt] (.Tuple [a, c, d] k2 pt2) pos.line X.env = pure false := by rfl) :
    Es X G W (.Assign [.Tuple [.Name x px, .Name y py, .Name z pz] kt pt] (.Tuple [a, c, d] k2 pt2) pos) (parS [i, j, l] gs) := PS.imp (ps_par3 hc hN hi hj hl hij hil hjl hx hy hz ha hw hs) fun E σ H q => by
  obtain ⟨M, r, h, δ, b, q⟩ := q
  refine ⟨M, r, h, δ, b, AfterX.more (par_of (is := [i, j, l]) (n := 3) b rfl q) fun vs H1 ⟨l, q1⟩ => ?_⟩
  match vs, l with
  | [u, v, w], _ => exact ⟨u, v, w, rfl, q1⟩
/-! ### lists added and repeated, as new ones -/
def addN (f g : EF) : DE → Bx → R (List D) := fun δ h => (f δ h).bind fun a h1 => (g δ h1).bind fun b h2 => match wrOf δ h2 a, wrOf δ h2 b with
  | some xs, some ys => if xs.length + ys.length ≤ big then .ok (xs ++ ys) h2 else .bad
  | _, _ => .bad
variable {a : Expr} {k : D → D → DE → Bx → R (List D)}
theorem tOpN_of {rr : R2} (hk : ∀ (M : Imm) (r : List Addr) (h : Bx) (H : Hp) (x y : V) (dx dy : D) (Q : VK),
    BS G M r h δ σ H → RepV G.J M r δ σ dx x → RepV G.J M r δ σ dy y → AfterN G W σ δ M r H (k dx dy δ h) Q → rr x y H Q) {Q : VK} (b : BS G M r h δ σ H) (q : AfterN G W σ δ M r H ((f δ h).bind fun a h1 => (g δ h1).bind fun b h2 => k a b δ h2) Q) :
    tOp rr (tG G W (rV G.J) f) (tG G W (rV G.J) g) σ H Q := by
  refine ⟨M, r, h, δ, b, (AfterN.bind q).more fun x H1 ⟨dx, M1, r1, h1, s1, b1, rx, q1⟩ => ?_⟩
  refine ⟨M1, r1, h1, δ, b1, (AfterN.bind q1).more fun y H2 ⟨dy, M2, r2, h2, s2, b2, ry, q2⟩ => ?_⟩
  exact hk M2 r2 h2 H2 x y dx dy Q b2 (rx.mono s2.le s2.pre) ry q2
theorem evn_add (ha : Ev X G W a f) (hb : Ev X G W c g) : EvN X G W (.BinOp a .Add c pos) (addN f g) :=
  PE.imp (pe_op op_cat ha hb) fun σ H Q q => by
    obtain ⟨M, r, h, δ, b, q⟩ := q
    refine tOpN_of (k := fun a b δ h2 => match wrOf δ h2 a, wrOf δ h2 b with
      | some xs, some ys => if xs.length + ys.length ≤ big then .ok (xs ++ ys) h2 else .bad
      | _, _ => .bad) (fun M r h H x y dx dy Q b rx ry q => ?_) b q
    split at q
    · rename_i xs ys e1 e2
      split at q
      · rename_i e
        obtain ⟨a, vs, z1, q1, t1, _⟩ := b.wr rx e1
        obtain ⟨c, us, z2, q2, t2, _⟩ := b.wr ry e2
        subst z1 z2
        exact ⟨a, c, vs, us, rfl, rfl, q1, q2, by rw [t1.length, t2.length]; exact big_line e, fun p hp => q _ M r H p Stp.refl b (t1.append t2) (by rw [List.length_append]; exact e) hp⟩
      · exact q.elim
    · exact q.elim
/-- ds, k times -/
def repD (ds : List D) (k : Int) : List D := (List.replicate k.toNat ds).flatten
theorem rep_len {α : Type} (ds : List α) (n : Nat) : (List.replicate n ds).flatten.length = ds.length * n := by
  induction n with
  | zero => rfl
  | succ n ih => rw [List.replicate_succ, List.flatten_cons, List.length_append, ih, Nat.mul_succ]; omega
theorem rep_rep {J : Jd} {ds : List D} {vs : List V} (t : Reps J M r ds vs) (n : Nat) : Reps J M r (List.replicate n ds).flatten (List.replicate n vs).flatten := by
  induction n with
  | zero => rfl
  | succ n ih => rw [List.replicate_succ, List.flatten_cons, List.replicate_succ, List.flatten_cons]; exact t.append ih
def repC (n : Nat) (k : Int) : Bool := decide (-(2 ^ 63) ≤ k ∧ k < 2 ^ 63 ∧ n * k.toNat ≤ big)
def repN (f g : EF) : DE → Bx → R (List D) := fun δ h => (f δ h).bind fun a h1 => (g δ h1).bind fun b h2 => match wrOf δ h2 a, b with
  | some xs, .int k => if repC xs.length k = true then .ok (repD xs k) h2 else .bad
  | _, _ => .bad
theorem evn_rep (ha : Ev X G W a f) (hb : Ev X G W c g) : EvN X G W (.BinOp a .Mult c pos) (repN f g) :=
  PE.imp (pe_op op_rep ha hb) fun σ H Q q => by
    obtain ⟨M, r, h, δ, b, q⟩ := q
    refine tOpN_of (k := fun a b δ h2 => match wrOf δ h2 a, b with
      | some xs, .int k => if repC xs.length k = true then .ok (repD xs k) h2 else .bad
      | _, _ => .bad) (fun M r h H x y dx dy Q b rx ry q => ?_) b q
    split at q
    · rename_i xs k e1
      split at q
      · rename_i e
        have e := of_decide_eq_true e
        obtain ⟨a, vs, z1, q1, t1, _⟩ := b.wr rx e1
        cases ry
        subst z1
        exact ⟨a, k, vs, rfl, rfl, q1, e.1, e.2.1, by rw [t1.length]; exact big_line e.2.2, fun p hp => q _ M r H p Stp.refl b (rep_rep t1 _) (by unfold repD; rw [rep_len]; exact e.2.2) hp⟩
      · exact q.elim
    · exact q.elim
/-! ### a row that is never reached -/
theorem es_never {st : Stmt} : Es X G W st (fun _ _ => .bad) := PS.imp ps_never fun E σ H q => by
  obtain ⟨M, r, h, δ, b, q⟩ := q
  exact q.elim
/-! ### a dict that the module has written: texts to numbers; keys that are not there are not asked -/
def findT (tab : List (Str × Int)) (x : Str) : Option Int := match tab with
  | [] => none
  | (k, v) :: r => if k = x then some v else findT r x
def kgetF (tab : List (Str × Int)) (f g : EF) : EF := fun δ h => (f δ h).bind fun d h1 => (g δ h1).bind fun d2 h2 => match d with
  | .str x => match findT tab x with
    | some v => .ok (.int v) h2
    | none => if isV d2 = true then .ok d2 h2 else .bad
  | _ => .bad
def keyOf (e : DictEntry) : Option Str := match e.key with
  | .str x _ => some x
  | _ => none
/-- the dict at p holds tab -/
def KTab (K : PySem.W.Frag) (w : World) (p : Addr) (tab : List (Str × Int)) : Prop := (p == sysModules) = false ∧ ∃ es n, K.lookup p = some ⟨.type "dict", none, .dict es n, #[]⟩ ∧ PySem.W.KeysLit w.params es.toList ∧ (∀ kv ∈ tab, ∃ t, PySem.W.nsIn K p kv.1 = some (some (.int kv.2 t))) ∧ es.toList.map keyOf = tab.map fun kv => some kv.1
theorem findT_mem {x : Str} {v : Int} : ∀ {tab : List (Str × Int)}, findT tab x = some v → (x, v) ∈ tab
  | [], e => by cases e
  | (k, u) :: r, e => by
    unfold findT at e
    split at e
    · rename_i z
      cases e
      subst z
      exact List.mem_cons_self ..
    · exact List.mem_cons_of_mem _ (findT_mem e)
theorem findT_no {x : Str} : ∀ {tab : List (Str × Int)}, findT tab x = none → ∀ kv ∈ tab, kv.1 ≠ x
  | [], _, _, h => by cases h
  | (k, u) :: r, e, kv, h => by
    unfold findT at e
    split at e
    · cases e
    · rename_i z
      rcases List.mem_cons.mp h with h | h
      · subst h; exact z
      · exact findT_no e kv h
theorem ns_no {K : PySem.W.Frag} {p : Addr} {w : World} {tab : List (Str × Int)} {es : Array DictEntry} {n : Nat} {x : Str} (hl : K.lookup p = some ⟨.type "dict", none, .dict es n, #[]⟩) (hk : PySem.W.KeysLit w.params es.toList)
    (hy : es.toList.map keyOf = tab.map fun kv => some kv.1) (e : findT tab x = none) : PySem.W.nsIn K p x = some none := by
  have no : ∀ d ∈ es.toList, d.key.isStr x = false := fun d hd => by
    obtain ⟨y, t, e1, _⟩ := hk.all d hd
    have m : some y ∈ es.toList.map keyOf := List.mem_map.mpr ⟨d, hd, by unfold keyOf; rw [e1]⟩
    rw [hy] at m
    obtain ⟨kv, h1, h2⟩ := List.mem_map.mp m
    have ne := findT_no e kv h1
    rw [Option.some.inj h2] at ne
    rw [e1]
    show (y == x) = false
    simpa using ne
  have rk : es.toList.any (·.refKey) = false := by
    rw [List.any_eq_false]
    intro d hd
    obtain ⟨y, t, e1, _⟩ := hk.all d hd
    unfold DictEntry.refKey
    rw [e1]
    simp
  unfold PySem.W.nsIn
  rw [hl]
  simp only
  have f : es.toList.find? (·.key.isStr x) = none := List.find?_eq_none.mpr fun d hd => by simp [no d hd]
  rw [f]
  simp only
  rw [rk]
  rfl
theorem ev_kget {x : Str} {p : Addr} {tab : List (Str × Int)} {px apos cpos : Pos} {d : Expr} (hg : Gl X x) (hm : X.mg x = some (.ref p)) (hT : KTab X.K X.w p tab) (he : Ev X G W e f) (hd : Ev X G W d g)
    (hbase : attributeBase (.Name x px) "get" X.env (eval (.Name x px) X.env) = eval (.Name x px) X.env := by rfl)
    (hfew : ((backTo cpos (starEach [e, d] X.env)).all (fun x => !x.1) && (backToKw cpos (keywordEach [] X.env)).all (fun x => x.1.isSome) && decide (([e, d] : List Expr).length + ([] : List Keyword).length + (if ([] : List Keyword).isEmpty then 0 else 1) < 30)) = true := by rfl)
    (hline : (apos.endLine == cpos.line) = true := by rfl) (htr : backTo cpos (starEach [e, d] X.env) = [(false, eval e X.env), (false, eval d X.env)] := by rfl) (hdb : (x == ("__debug__" : Str)) = false := by decide) :
    Ev X G W (.Call (.Attribute (.Name x px) "get" apos) [e, d] [] cpos) (kgetF tab f g) := by
  refine ⟨fun pins s σ H Q I q => ?_⟩
  obtain ⟨hs, es, n, hl, hk, hv, hy⟩ := hT
  have hp : PE X (.Name x px) (tC (.ref p)) := pe_glob hg hm (v := .ref p) rfl hdb
  refine wpAny_Call_method hbase hfew hline PySem.F.plainAttrs_dict PySem.F.slot_dict_get PySem.F.type_dict_get (thn (hp.run pins s σ H (fun v H1 => v = .ref p ∧ H1 = H) I ⟨rfl, rfl⟩) fun u s1 ⟨x, H1, I1, rx, ex, eh⟩ => ?_)
  subst ex eh
  obtain rfl : u = Value.ref p := rx
  have hm1 := PySem.W.mapOf_K (prog := X.prog) (w := X.w) I1.kIn hl hk
  refine ⟨hm1.typeIs, hm1.noDict, ?_⟩
  rw [htr]
  obtain ⟨M, r, h, δ, b, q⟩ := q
  refine Calls.callWith_builtin rfl (Calls.evalArgs_plain (Calls.spliced_cons (thn (he.run pins s1 σ H1 _ I1 ⟨M, r, h, δ, b, After.bind q⟩) fun iv s2 ⟨y, H2, I2, ry, q2⟩ => ?_)))
  obtain ⟨dy, M1, r1, h1, st1, b1, rdy, q2⟩ := q2
  refine Calls.spliced_cons (thn (hd.run pins s2 σ H2 _ I2 ⟨M1, r1, h1, δ, b1, After.bind q2⟩) fun fv s3 ⟨z, H3, I3, rz, q3⟩ => Calls.spliced_nil ?_)
  obtain ⟨dz, M2, r2, h2, st2, b2, rdz, q3⟩ := q3
  cases dy with
  | str kx =>
    simp only at q3
    cases hf : findT tab kx with
    | none =>
      rw [hf] at q3
      by_cases ivz : isV dz = true
      · simp only [ivz, if_true] at q3
        cases rdy
        obtain ⟨t, rfl⟩ := (show ∃ t, iv = Value.str kx t from ry)
        have e2 := ns_no hl hk hy hf
        have hm3 := PySem.W.mapOf_K (prog := X.prog) (w := X.w) I3.kIn hl hk
        refine call_meetsIn PySem.F.slot_dict_get hm3.typeIs PySem.F.entry_dict_get (PySem.F.args_dict_get_3 _ _ _) (meets_dict_get_default (strKind X.prog X.w) p (strKind_is X.prog X.w kx t) hs fv) ⟨_, hm3, ?_⟩
        rw [PySem.W.find_K hl e2]
        exact ⟨z, H3, I3.tok _, rz, q3.now b2 rdz⟩
      · simp only [ivz] at q3; exact q3.elim
    | some v =>
      rw [hf] at q3
      cases rdy
      obtain ⟨t, rfl⟩ := (show ∃ t, iv = Value.str kx t from ry)
      obtain ⟨t2, e2⟩ := hv _ (findT_mem hf)
      have hm3 := PySem.W.mapOf_K (prog := X.prog) (w := X.w) I3.kIn hl hk
      refine call_meetsIn PySem.F.slot_dict_get hm3.typeIs PySem.F.entry_dict_get (PySem.F.args_dict_get_3 _ _ _) (meets_dict_get_default (strKind X.prog X.w) p (strKind_is X.prog X.w kx t) hs fv) ⟨_, hm3, ?_⟩
      rw [PySem.W.find_K hl e2]
      exact ⟨.int v, H3, I3.tok _, ⟨t2, rfl⟩, q3.now b2 rfl⟩
  | _ => exact q3.elim
end
end LP
/-! LpJ: int * int or list * int; the law's head. -/
namespace LP
open PySem PySem.Spec PyProof.Rows L2 HT
section
variable {X : Cx} {G : Cfg} {W : WX}
def mulA (a b : D) (δ : DE) (h : Bx) : R D := match a with
  | .int _ => mulK a b δ h
  | .tup ds => match b with
    | .int k => if (decide (2 ≤ k ∧ k ≤ 1000 ∧ 0 < ds.length ∧ ds.length ≤ 1000)) = true then .ok (.tup (repD ds k)) h else .bad
    | _ => .bad
  | a => match wrOf δ h a, b with
    | some xs, .int k => if repC xs.length k = true then .ok (.lst (repD xs k)) h else .bad
    | _, _ => .bad
abbrev rMulA (K : PySem.W.Frag) : R2 := fun x y H Q => rI CMul (fun i j => .int (i * j)) x y H Q ∨ rRep x y H Q ∨ rRepT K x y H Q
theorem op_mulA : OpR X (binaryOp .Mult) (rMulA X.K) := OpR.or op_mul (OpR.or op_rep op_repT)
theorem mulA_ok : OpK G W (rMulA G.K) mulA := by
  intro σ δ M r h H x y dx dy Q b rx ry q
  unfold mulA at q
  split at q
  · exact .inl (mulK_ok σ δ M r h H x y _ dy Q b rx ry q)
  · rename_i ds
    split at q
    · rename_i k
      split at q
      · rename_i e
        have e := of_decide_eq_true e
        obtain ⟨a, vs, z1, q1, t1⟩ := rx
        cases ry
        subst z1
        have hl := t1.length
        refine .inr (.inr ⟨a, k, vs, rfl, rfl, sqT_of b q1, fun z => ?_, e.1, e.2.1, by rw [hl]; exact e.2.2.2, ?_⟩)
        · rw [z] at hl; have := e.2.2.1; rw [← hl] at this; exact Nat.lt_irrefl _ this
        · exact tup_new b (rep_rep t1 _) (by
            rw [rep_len]
            have h1 : k.toNat ≤ 1000 := by omega
            exact Nat.le_trans (Nat.mul_le_mul e.2.2.2 h1) (by decide)) q
      · exact q.elim
    · exact q.elim
  · split at q
    · rename_i xs k e1
      split at q
      · rename_i e
        have e := of_decide_eq_true e
        obtain ⟨a, vs, z1, q1, t1, _⟩ := b.wr rx e1
        cases ry
        subst z1
        exact .inr (.inl ⟨a, k, vs, rfl, rfl, q1, e.1, e.2.1, by rw [t1.length]; exact big_line e.2.2, lst_new b (rep_rep t1 _) (by rw [rep_len]; exact e.2.2) q⟩)
      · exact q.elim
    · exact q.elim
end
/-! ### the law's head -/
def spLaw (n : Nat) (K : PySem.W.Frag) : Sp := fun vs H Q _ => ∃ (a : Addr) (ns : List Int), vs = [.ref a] ∧ ns.length ≤ n ∧ Only H ∧ SqL K H a (ns.map V.int) ∧ ∀ v H', v = .bl true → Q v H'
theorem reps_ints {J : Jd} {M : Imm} {r : List Addr} : ∀ ns : List Int, Reps J M r (ns.map D.int) (ns.map V.int)
  | [] => rfl
  | i :: ns => ⟨_, _, rfl, rfl, reps_ints ns⟩
theorem spLaw_of {n : Nat} {K : PySem.W.Frag} {mg : Str → Option Value} {F : List D → Bx → R D} (hn : n ≤ 1000000) (hF : ∀ ns : List Int, ns.length ≤ n → ∃ h, F [.frz (ns.map D.int)] [] = .ok (.bl true) h) :
    ∀ vs H Q E, spLaw n K vs H Q E → spF K mg [] 1 F vs H Q E := by
  rintro vs H Q E ⟨a, ns, rfl, hl, on, sq, q⟩
  obtain ⟨h', e⟩ := hF ns hl
  have fin : ∀ M, MOk M H → FLst K M a (ns.map V.int) → spF K mg [] 1 F [.ref a] H Q E := fun M mok fl => by
    refine ⟨fun _ _ _ _ _ => False, M, [], [], [.frz (ns.map D.int)], rfl, mok, ⟨rfl, List.nodup_nil, fun n a ds e => by simp at e⟩, fun p hp => by simp at hp, ⟨_, [], rfl, ⟨a, _, rfl, fl, reps_ints ns⟩, rfl⟩, ?_⟩
    rw [e]
    exact fun v M' r' H' _ _ _ _ rp => q v H' rp
  rcases sq with ⟨sq | ⟨o, sq⟩⟩ | ⟨o, its, m, k1, k2, k3, k4, k5, k6⟩
  · rcases on a with z | ⟨o, xs, z⟩
    · rw [sq] at z; cases z
    · rw [sq] at z; cases z
  · refine fin (fun b => if b = a then some (.frz o (.lst (ns.map V.int))) else none) (fun b u e => ?_) (.inl ⟨_, if_pos rfl, .inr ⟨o, rfl⟩⟩)
    simp only at e
    split at e
    · rename_i z
      cases e
      subst z
      exact ⟨by show (ns.map V.int).length ≤ big; rw [List.length_map]; exact Nat.le_trans hl hn, sq⟩
    · cases e
  · refine fin (fun _ => none) (fun b u e => by cases e) (.inr ⟨o, its, m, k1, k2, k3, k4, ?_, k6⟩)
    have := k6.length
    simp only [Array.length_toList, List.length_map] at this
    omega
end LP
/-! LpS: the functions of plain data, applied: rows for simp. -/
namespace LP
open PySem PySem.Spec PyProof.Rows L2 HT
section
variable {δ : DE} {h : Bx} {f g f3 : EF} {k k' : D → D → DE → Bx → R D} {tf tg : DE → Bx → R Bool} {fs : DE → Bx → R (List D)} {sf sg : SF} {i j : Nat} {d e : D} {ds es : List D}
@[simp] theorem varF_ap : varF i δ h = (match δ[i]? with | some (.v d) => .ok d h | some (.own _) => .ok (.loc i) h | _ => .bad) := pr rfl
@[simp] theorem cF_ap : cF d δ h = .ok d h := pr rfl
@[simp] theorem bin2_ap : bin2 k f g δ h = (f δ h).bind fun a h1 => (g δ h1).bind fun b h2 => k a b δ h2 := pr rfl
@[simp] theorem testF_ap : testF f δ h = (f δ h).bind bOf := pr rfl
@[simp] theorem chainF_ap : chainF k k' f g f3 δ h = (f δ h).bind fun a h1 => (g δ h1).bind fun b h2 => (k a b δ h2).bind fun z h3 => match z with
  | .bl true => (f3 δ h3).bind fun c h4 => k' b c δ h4
  | .bl false => .ok (.bl false) h3
  | _ => .bad := pr rfl
@[simp] theorem andT_ap : andT tf tg δ h = (tf δ h).bind fun b h1 => if b = true then tg δ h1 else .ok false h1 := pr rfl
@[simp] theorem orT_ap : orT tf tg δ h = (tf δ h).bind fun b h1 => if b = true then .ok true h1 else tg δ h1 := pr rfl
@[simp] theorem notT_ap : notT tf δ h = (tf δ h).bind fun b h1 => .ok (!b) h1 := pr rfl
@[simp] theorem andV_ap : andV f g δ h = (f δ h).bind fun a h1 => match a with
  | .bl true => g δ h1
  | .bl false => .ok (.bl false) h1
  | _ => .bad := pr rfl
@[simp] theorem orV_ap : orV f g δ h = (f δ h).bind fun a h1 => match a with
  | .bl false => g δ h1
  | .bl true => .ok (.bl true) h1
  | _ => .bad := pr rfl
@[simp] theorem notV_ap : notV f δ h = (f δ h).bind fun a h1 => match a with
  | .bl b => .ok (.bl (!b)) h1
  | _ => .bad := pr rfl
@[simp] theorem iteF_ap : iteF tf f g δ h = (tf δ h).bind fun b h1 => if b = true then f δ h1 else g δ h1 := pr rfl
@[simp] theorem nilA_ap : nilA δ h = .ok [] h := pr rfl
@[simp] theorem consA_ap : consA f fs δ h = (f δ h).bind fun d h1 => (fs δ h1).bind fun ds h2 => .ok (d :: ds) h2 := pr rfl
@[simp] theorem mkD_ap {c : List D → D} : mkD c ds h = if (ds.all isV && decide (ds.length ≤ 1000000)) = true then .ok (c ds) h else .bad := pr rfl
@[simp] theorem tupF_ap : tupF fs δ h = (fs δ h).bind (mkD .tup) := pr rfl
@[simp] theorem lstF_ap : lstF fs δ h = (fs δ h).bind (mkD .lst) := pr rfl
@[simp] theorem isV_int {n : Int} : isV (.int n) = true := pr rfl
@[simp] theorem isV_bl {b : Bool} : isV (.bl b) = true := pr rfl
@[simp] theorem isV_str {b : Str} : isV (.str b) = true := pr rfl
@[simp] theorem isV_non : isV .non = true := pr rfl
@[simp] theorem isV_tup : isV (.tup ds) = true := pr rfl
@[simp] theorem isV_lst : isV (.lst ds) = true := pr rfl
@[simp] theorem isV_frz : isV (.frz ds) = true := pr rfl
@[simp] theorem isV_ptr {n : Nat} : isV (.ptr n) = true := pr rfl
@[simp] theorem isV_loc {n : Nat} : isV (.loc n) = false := pr rfl
@[simp] theorem seqOf_frz : seqOf δ h (.frz ds) = some ds := pr rfl
@[simp] theorem lstOf_frz : lstOf δ h (.frz ds) = some ds := pr rfl
@[simp] theorem lstOf_loc : lstOf δ h (.loc i) = (match δ[i]? with | some (.own ds) => some ds | _ => none) := pr rfl
@[simp] theorem seqOf_loc : seqOf δ h (.loc i) = (match δ[i]? with | some (.own ds) => some ds | _ => none) := pr rfl
@[simp] theorem wrOf_loc : wrOf δ h (.loc i) = (match δ[i]? with | some (.own ds) => some ds | _ => none) := pr rfl
@[simp] theorem lstOf_tup : lstOf δ h (.tup ds) = none := pr rfl
@[simp] theorem lstOf_int {n : Int} : lstOf δ h (.int n) = none := pr rfl
@[simp] theorem lstOf_str {n : Str} : lstOf δ h (.str n) = none := pr rfl
@[simp] theorem lstOf_bl {n : Bool} : lstOf δ h (.bl n) = none := pr rfl
@[simp] theorem lstOf_non : lstOf δ h .non = none := pr rfl
@[simp] theorem i2K_ap {gg : Int → Int → D} {a b : Int} : i2K gg (.int a) (.int b) δ h = .ok (gg a b) h := pr rfl
@[simp] theorem i2KC_ap {C : Int → Int → Bool} {gg : Int → Int → D} {a b : Int} : i2KC C gg (.int a) (.int b) δ h = if C a b = true then .ok (gg a b) h else .bad := pr rfl
@[simp] theorem addK_int {a b : Int} : addK (.int a) (.int b) δ h = .ok (.int (a + b)) h := pr rfl
@[simp] theorem addK_str {a b : Str} : addK (.str a) (.str b) δ h = if a.length + b.length ≤ 1000000 then .ok (.str (a ++ b)) h else .bad := pr rfl
@[simp] theorem addK_tup : addK (.tup ds) (.tup es) δ h = if ds.length + es.length ≤ 1000000 then .ok (.tup (ds ++ es)) h else .bad := pr rfl
@[simp] theorem addK_lst : addK (.lst ds) (.lst es) δ h = if ds.length + es.length ≤ 1000000 then .ok (.lst (ds ++ es)) h else .bad := pr rfl
@[simp] theorem mulA_int {a b : Int} : mulA (.int a) (.int b) δ h = if ((-(2 ^ 64) < a ∧ a < 2 ^ 64) ∨ (-(2 ^ 64) < b ∧ b < 2 ^ 64)) then .ok (.int (a * b)) h else .bad := by
  show (if decide ((-(2 ^ 64) < a ∧ a < 2 ^ 64) ∨ (-(2 ^ 64) < b ∧ b < 2 ^ 64)) = true then R.ok (D.int (a * b)) h else R.bad) = _
  simp only [decide_eq_true_eq]
@[simp] theorem mulA_lst {n : Int} : mulA (.lst ds) (.int n) δ h = if repC ds.length n = true then .ok (.lst (repD ds n)) h else .bad := pr rfl
@[simp] theorem mulA_tup {n : Int} : mulA (.tup ds) (.int n) δ h = if (decide (2 ≤ n ∧ n ≤ 1000 ∧ 0 < ds.length ∧ ds.length ≤ 1000)) = true then .ok (.tup (repD ds n)) h else .bad := pr rfl
@[simp] theorem negF_ap : negF f δ h = (f δ h).bind fun d h1 => match d with
  | .int i => .ok (.int (-i)) h1
  | _ => .bad := pr rfl
@[simp] theorem ixK_ap {n : Int} : ixK d (.int n) δ h = (match seqOf δ h d with | some ds => (match atI ds n with | some d => .ok d h | none => .bad) | none => .bad) := pr rfl
theorem atI_at {α : Type} {xs : List α} {n : Int} (h0 : 0 ≤ n) (h1 : n < xs.length) : atI xs n = xs[n.toNat]? := by
  unfold atI ixN
  rw [if_pos h0, if_pos h1]
  rfl
theorem atI_nat {α : Type} {xs : List α} {n : Nat} (h1 : n < xs.length) : atI xs (n : Int) = xs[n]? := by
  rw [atI_at (by omega) (by omega)]; rfl
@[simp] theorem atI_lit {n : Nat} : atI ds (no_index (OfNat.ofNat n : Int)) = ds[(OfNat.ofNat n : Nat)]? := by
  by_cases hn : n < ds.length
  · exact atI_nat (n := n) hn
  · have : ds[(OfNat.ofNat n : Nat)]? = none := List.getElem?_eq_none (by show ds.length ≤ n; omega)
    rw [this]
    unfold atI ixN
    show (if 0 ≤ ((n : Nat) : Int) then (if ((n : Nat) : Int) < (ds.length : Int) then some ((n : Nat) : Int).toNat else none) else if -(ds.length : Int) ≤ ((n : Nat) : Int) then some (((n : Nat) : Int) + (ds.length : Int)).toNat else none).bind (fun j => ds[j]?) = none
    rw [if_pos (by omega), if_neg (by omega)]
    rfl
@[simp] theorem noO_ap : noO δ h = .ok none h := pr rfl
@[simp] theorem someO_ap : someO f δ h = (f δ h).bind fun d h1 => match d with
  | .int i => .ok (some i) h1
  | _ => .bad := pr rfl
@[simp] theorem slF_ap {fl fh : DE → Bx → R (Option Int)} : slF f fl fh δ h = (f δ h).bind fun d h1 => (fl δ h1).bind fun lo h2 => (fh δ h2).bind fun hi h3 => match d with
  | .tup ds => .ok (.tup (cutD ds lo hi)) h3
  | d => match lstOf δ h3 d with
    | some ds => .ok (.lst (cutD ds lo hi)) h3
    | none => .bad := pr rfl
@[simp] theorem cutD_nn : cutD ds none none = ds := by unfold cutD; simp [HT.sIx]
theorem sIx_of {n d : Nat} {v : Int} (hv : 0 ≤ v) : HT.sIx n d (some v) = min v.toNat n := by
  show (if v < 0 then (v + (n : Int)).toNat else min v.toNat n) = _
  rw [if_neg (by omega)]
theorem cutD_to {v : Int} (hv : 0 ≤ v) : cutD ds none (some v) = ds.take v.toNat := by
  unfold cutD
  rw [sIx_of hv, HT.sIx_none, List.drop_zero, Nat.sub_zero]
  apply List.ext_getElem?
  intro i
  simp only [List.getElem?_take]
  by_cases h1 : i < v.toNat
  · by_cases h2 : i < ds.length
    · rw [if_pos (by omega), if_pos h1]
    · rw [List.getElem?_eq_none (by omega)]; simp
  · rw [if_neg (by omega), if_neg h1]
theorem cutD_from {v : Int} (hv : 0 ≤ v) : cutD ds (some v) none = ds.drop v.toNat := by
  unfold cutD
  rw [sIx_of hv, HT.sIx_none]
  by_cases h1 : v.toNat ≤ ds.length
  · rw [Nat.min_eq_left h1]
    exact List.take_of_length_le (by rw [List.length_drop]; exact Nat.le_refl _)
  · rw [Nat.min_eq_right (by omega), Nat.sub_self, List.take_zero, List.drop_eq_nil_of_le (by omega)]
@[simp] theorem cutD_to_lit {n : Nat} : cutD ds none (some (no_index (OfNat.ofNat n : Int))) = ds.take (OfNat.ofNat n) := cutD_to (by show (0 : Int) ≤ (n : Int); omega)
@[simp] theorem cutD_from_lit {n : Nat} : cutD ds (some (no_index (OfNat.ofNat n : Int))) none = ds.drop (OfNat.ofNat n) := cutD_from (by show (0 : Int) ≤ (n : Int); omega)
@[simp] theorem revF_ap : revF f δ h = (f δ h).bind fun d h1 => revK d δ h1 := pr rfl
@[simp] theorem revK_tup : revK (.tup ds) δ h = .ok (.tup ds.reverse) h := pr rfl
@[simp] theorem revK_lst : revK (.lst ds) δ h = .ok (.lst ds.reverse) h := pr rfl
@[simp] theorem seqS_ap : seqS sf sg δ h = (match sf δ h with | .nx δ' h' => sg δ' h' | x => x) := pr rfl
@[simp] theorem exprS_ap : exprS f δ h = (f δ h).toS δ fun _ h1 => .nx δ h1 := pr rfl
@[simp] theorem retS_ap : retS f δ h = (f δ h).toS δ (retK δ) := pr rfl
@[simp] theorem retK_int {n : Int} : retK δ (.int n) h = .rt (.int n) h := pr rfl
@[simp] theorem retK_bl {n : Bool} : retK δ (.bl n) h = .rt (.bl n) h := pr rfl
@[simp] theorem retK_str {n : Str} : retK δ (.str n) h = .rt (.str n) h := pr rfl
@[simp] theorem retK_non : retK δ .non h = .rt .non h := pr rfl
@[simp] theorem retK_tup : retK δ (.tup ds) h = .rt (.tup ds) h := pr rfl
@[simp] theorem retK_lst : retK δ (.lst ds) h = .rt (.lst ds) h := pr rfl
@[simp] theorem retK_ptr : retK δ (.ptr i) h = .rt (.ptr i) h := pr rfl
@[simp] theorem retK_loc : retK δ (.loc i) h = (match δ[i]? with | some (.own ds) => .rt (.lst ds) h | _ => .bad) := pr rfl
theorem retK_v (e : isV d = true) : retK δ d h = .rt d h := by cases d <;> first | rfl | cases e
@[simp] theorem ifS_ap : ifS tf sf sg δ h = (tf δ h).toS δ fun c h1 => if c = true then sf δ h1 else sg δ h1 := pr rfl
@[simp] theorem setS_ap : setS i f δ h = (f δ h).toS δ fun d h1 => if isV d = true then .nx (δ.set i (.v d)) h1 else .bad := pr rfl
@[simp] theorem frzS_ap : frzS i sf δ h = (match δ[i]? with | some (.own ds) => sf (δ.set i (.v (.lst ds))) h | _ => .bad) := pr rfl
@[simp] theorem valN_ap : valN fs δ h = (fs δ h).bind fun ds h1 => .ok (.lst ds) h1 := pr rfl
@[simp] theorem boxN_ap : boxN fs δ h = (fs δ h).bind fun ds h1 => .ok (.ptr h1.length) (h1 ++ [ds]) := pr rfl
@[simp] theorem lstN_ap : lstN fs δ h = (fs δ h).bind fun ds h1 => if (ds.all isV && decide (ds.length ≤ 1000000)) = true then .ok ds h1 else .bad := pr rfl
@[simp] theorem ownS_ap : ownS i fs δ h = (fs δ h).toS δ fun ds h1 => .nx (δ.set i (.own ds)) h1 := pr rfl
@[simp] theorem itemsI_ap : itemsI f δ h = (f δ h).bind fun d h1 => match immOf d with | some ds => .ok ds h1 | none => .bad := pr rfl
@[simp] theorem immOf_tup : immOf (.tup ds) = some ds := pr rfl
@[simp] theorem immOf_lst : immOf (.lst ds) = some ds := pr rfl
@[simp] theorem immOf_frz : immOf (.frz ds) = some ds := pr rfl
@[simp] theorem rg1K_ap {n : Int} : rg1K [.int n] h = if rgC n = true then .ok (rgD 0 n) h else .bad := pr rfl
@[simp] theorem zipK_tup : zipK [.tup ds, .tup es] h = .ok (zipD ds es) h := pr rfl
@[simp] theorem zipK_lst : zipK [.lst ds, .lst es] h = .ok (zipD ds es) h := pr rfl
@[simp] theorem enumK_tup : enumK [.tup ds] δ h = .ok (enumD ds) h := pr rfl
@[simp] theorem enumK_lst : enumK [.lst ds] δ h = .ok (enumD ds) h := pr rfl
@[simp] theorem nameU_ap : nameU i d δ = some (δ.set i (.v d)) := pr rfl
@[simp] theorem nilU_ap : nilU [] δ = some δ := pr rfl
@[simp] theorem consU_ap {u : D → DE → Option DE} {us : List D → DE → Option DE} : consU u us (d :: ds) δ = (u d δ).bind fun δ' => us ds δ' := pr rfl
@[simp] theorem tupU_ap {n : Nat} {us : List D → DE → Option DE} : tupU n us (.tup ds) δ = if ds.length = n then us ds δ else none := pr rfl
@[simp] theorem asgS_ap {u : D → DE → Option DE} : asgS u f δ h = (f δ h).toS δ fun d h1 => if isV d = true then match u d δ with | some δ' => .nx δ' h1 | none => .bad else .bad := pr rfl
@[simp] theorem forS_ap {gi : DE → Bx → R (List D)} {u : D → DE → Option DE} : forS gi u sf δ h = (gi δ h).toS δ fun ds h1 => forF u sf ds δ h1 := pr rfl
@[simp] theorem lcN_ap {gi : DE → Bx → R (List D)} {vs : List Nat} {u : D → DE → Option DE} {ef : EF} : lcN gi vs u tf ef δ h = (gi δ h).bind fun ds h1 => if ds.length ≤ 1000000 then compF u tf ef (wipeD δ vs) ds h1 else .bad := pr rfl
@[simp] theorem wipeD_nil : wipeD δ [] = δ := pr rfl
@[simp] theorem wipeD_cons {vs : List Nat} : wipeD δ (i :: vs) = (wipeD δ vs).set i .no := pr rfl
@[simp] theorem yesF_ap : yesF δ h = .ok true h := pr rfl
@[simp] theorem callF_ap {F : List D → Bx → R D} : callF F fs δ h = (fs δ h).bind fun ds h1 => if ds.all isV = true then F ds h1 else .bad := pr rfl
@[simp] theorem nArgs_1 {F : List D → Bx → R D} {a : D} : nArgs 1 F [a] h = F [a] h := pr rfl
@[simp] theorem nArgs_2 {F : List D → Bx → R D} {a b : D} : nArgs 2 F [a, b] h = F [a, b] h := pr rfl
@[simp] theorem nArgs_3 {F : List D → Bx → R D} {a b c : D} : nArgs 3 F [a, b, c] h = F [a, b, c] h := pr rfl
@[simp] theorem nArgs_4 {F : List D → Bx → R D} {a b c d : D} : nArgs 4 F [a, b, c, d] h = F [a, b, c, d] h := pr rfl
@[simp] theorem nArgs_5 {F : List D → Bx → R D} {a b c d e : D} : nArgs 5 F [a, b, c, d, e] h = F [a, b, c, d, e] h := pr rfl
@[simp] theorem nArgs_6 {F : List D → Bx → R D} {a b c d e f : D} : nArgs 6 F [a, b, c, d, e, f] h = F [a, b, c, d, e, f] h := pr rfl
@[simp] theorem blt_ap {kk : List D → DE → Bx → R D} : blt kk fs δ h = (fs δ h).bind fun ds h1 => kk ds δ h1 := pr rfl
@[simp] theorem lenK_tup : lenK [.tup ds] δ h = .ok (.int ds.length) h := pr rfl
@[simp] theorem lenK_lst : lenK [.lst ds] δ h = .ok (.int ds.length) h := pr rfl
@[simp] theorem lenK_frz : lenK [.frz ds] δ h = .ok (.int ds.length) h := pr rfl
@[simp] theorem lenK_loc : lenK [.loc i] δ h = (match δ[i]? with | some (.own ds) => .ok (.int ds.length) h | _ => .bad) := by
  show (match lstOf δ h (.loc i) with | some es => R.ok (D.int es.length) h | none => R.bad) = _
  rw [lstOf_loc]
  cases δ[i]? with
  | none => rfl
  | some s => cases s <;> rfl
@[simp] theorem absK_ap {n : Int} : absK [.int n] δ h = .ok (.int (if n < 0 then -n else n)) h := pr rfl
@[simp] theorem intK_int {n : Int} : intK [.int n] δ h = .ok (.int n) h := pr rfl
@[simp] theorem intK_bl {n : Bool} : intK [.bl n] δ h = .ok (.int (if n = true then 1 else 0)) h := pr rfl
@[simp] theorem tupK_tup : tupK [.tup ds] δ h = .ok (.tup ds) h := pr rfl
@[simp] theorem tupK_lst : tupK [.lst ds] δ h = .ok (.tup ds) h := pr rfl
@[simp] theorem tupK_loc : tupK [.loc i] δ h = (match δ[i]? with | some (.own ds) => .ok (.tup ds) h | _ => .bad) := by
  show (match lstOf δ h (.loc i) with | some es => R.ok (D.tup es) h | none => R.bad) = _
  rw [lstOf_loc]
  cases δ[i]? with
  | none => rfl
  | some s => cases s <;> rfl
@[simp] theorem listN_ap : listN fs δ h = (fs δ h).bind fun ds h1 => match ds with
  | [d] => match seqOf δ h1 d with
    | some es => if es.length ≤ 1000000 then .ok es h1 else .bad
    | none => .bad
  | _ => .bad := pr rfl
@[simp] theorem allK_lst : allK [.lst ds] δ h = (match bls ds with | some bs => .ok (.bl (bs.all id)) h | none => .bad) := pr rfl
@[simp] theorem anyK_lst : anyK [.lst ds] δ h = (match bls ds with | some bs => .ok (.bl (bs.any id)) h | none => .bad) := pr rfl
@[simp] theorem isiF_ap {T : List String} : isiF T f δ h = (f δ h).bind fun d h1 => isiR T d h1 := pr rfl
@[simp] theorem isiR_int {T : List String} {n : Int} : isiR T (.int n) h = .ok (.bl (T.any (isT "int"))) h := pr rfl
@[simp] theorem isiR_bl {T : List String} {n : Bool} : isiR T (.bl n) h = .ok (.bl (T.any (isT "bool"))) h := pr rfl
@[simp] theorem isiR_str {T : List String} {n : Str} : isiR T (.str n) h = .ok (.bl (T.any (isT "str"))) h := pr rfl
@[simp] theorem isiR_non {T : List String} : isiR T .non h = .ok (.bl (T.any (isT "NoneType"))) h := pr rfl
@[simp] theorem isiR_tup {T : List String} : isiR T (.tup ds) h = .ok (.bl (T.any (isT "tuple"))) h := pr rfl
@[simp] theorem isiR_lst {T : List String} : isiR T (.lst ds) h = .ok (.bl (T.any (isT "list"))) h := pr rfl
@[simp] theorem ty_int {n : Int} : D.ty (.int n) = "int" := pr rfl
@[simp] theorem ty_bl {n : Bool} : D.ty (.bl n) = "bool" := pr rfl
@[simp] theorem ty_str {n : Str} : D.ty (.str n) = "str" := pr rfl
@[simp] theorem ty_non : D.ty .non = "NoneType" := pr rfl
@[simp] theorem ty_tup : D.ty (.tup ds) = "tuple" := pr rfl
@[simp] theorem ty_lst : D.ty (.lst ds) = "list" := pr rfl
@[simp] theorem isT_ap {t T : String} : isT t T = (t == T || (t == "bool" && T == "int")) := pr rfl
@[simp] theorem methS_ap {kk : List D → D → DE → Bx → Option (List D)} : methS i f kk δ h = if (wrS i δ h).isSome = true then (f δ h).toS δ fun d h1 => match wrS i δ h1 with
  | some ds => match kk ds d δ h1 with
    | some es => .nx (putS i δ h1 es).1 (putS i δ h1 es).2
    | none => .bad
  | none => .bad
else .bad := pr rfl
@[simp] theorem appK_ap : appK ds d δ h = if (isV d && decide (ds.length < 1000000)) = true then some (ds ++ [d]) else none := pr rfl
@[simp] theorem extK_ap : extK ds d δ h = (match wrOf δ h d with | some es => if ds.length + es.length ≤ 1000000 then some (ds ++ es) else none | none => none) := pr rfl
@[simp] theorem popS_ap : popS i j δ h = (match wrS i δ h with
  | some ds => match ds.getLast? with
    | some d => if isV d = true then .nx ((putS i δ h ds.dropLast).1.set j (.v d)) (putS i δ h ds.dropLast).2 else .bad
    | none => .bad
  | none => .bad) := pr rfl
@[simp] theorem setiS_ap : setiS i f g δ h = (g δ h).toS δ fun d h1 => if (wrS i δ h1).isSome = true then (f δ h1).toS δ fun n h2 => match n with
  | .int k => match wrS i δ h2 with
    | some ds => match ixN ds.length k with
      | some j => if isV d = true then .nx (putS i δ h2 (ds.set j d)).1 (putS i δ h2 (ds.set j d)).2 else .bad
      | none => .bad
    | none => .bad
  | _ => .bad
else .bad := pr rfl
@[simp] theorem wrS_ap : wrS i δ h = (match δ[i]? with | some (.own ds) => some ds | some (.v (.ptr n)) => h[n]? | _ => none) := pr rfl
@[simp] theorem putS_ap : putS i δ h ds = (match δ[i]? with | some (.v (.ptr n)) => (δ, h.set n ds) | _ => (δ.set i (.own ds), h)) := pr rfl
theorem ixN_at {m : Nat} {n : Int} (h0 : 0 ≤ n) (h1 : n < m) : ixN m n = some n.toNat := by
  unfold ixN
  rw [if_pos h0, if_pos h1]
@[simp] theorem ixN_lit {m n : Nat} : ixN m (no_index (OfNat.ofNat n : Int)) = if n < m then some (OfNat.ofNat n) else none := by
  unfold ixN
  show (if 0 ≤ ((n : Nat) : Int) then (if ((n : Nat) : Int) < (m : Int) then some ((n : Nat) : Int).toNat else none) else if -(m : Int) ≤ ((n : Nat) : Int) then some (((n : Nat) : Int) + (m : Int)).toNat else none) = _
  rw [if_pos (by omega)]
  by_cases hn : n < m
  · rw [if_pos (by omega), if_pos hn]; rfl
  · rw [if_neg (by omega), if_neg hn]
@[simp] theorem parS_ap {gs : DE → Bx → R (List SV)} {is : List Nat} : parS is gs δ h = (gs δ h).toS δ fun ss h1 => match putX δ is ss with | some δ' => .nx δ' h1 | none => .bad := pr rfl
@[simp] theorem nilX_ap : nilX δ h = .ok [] h := pr rfl
@[simp] theorem consX_ap {gs : DE → Bx → R (List SV)} : consX f gs δ h = (f δ h).bind fun d h1 => if isV d = true then (gs δ h1).bind fun ds h2 => .ok (.v d :: ds) h2 else .bad := pr rfl
@[simp] theorem consXN_ap {gs : DE → Bx → R (List SV)} : consXN fs gs δ h = (fs δ h).bind fun d h1 => (gs δ h1).bind fun ds h2 => .ok (.own d :: ds) h2 := pr rfl
@[simp] theorem putX_nil : putX δ [] [] = some δ := pr rfl
@[simp] theorem putX_cons {is : List Nat} {s : SV} {ss : List SV} : putX δ (i :: is) (s :: ss) = putX (δ.set i s) is ss := pr rfl
@[simp] theorem addN_ap : addN f g δ h = (f δ h).bind fun a h1 => (g δ h1).bind fun b h2 => match wrOf δ h2 a, wrOf δ h2 b with
  | some xs, some ys => if xs.length + ys.length ≤ 1000000 then .ok (xs ++ ys) h2 else .bad
  | _, _ => .bad := pr rfl
@[simp] theorem repN_ap : repN f g δ h = (f δ h).bind fun a h1 => (g δ h1).bind fun b h2 => match wrOf δ h2 a, b with
  | some xs, .int k => if repC xs.length k = true then .ok (repD xs k) h2 else .bad
  | _, _ => .bad := pr rfl
@[simp] theorem kgetF_ap {tab : List (Str × Int)} : kgetF tab f g δ h = (f δ h).bind fun d h1 => (g δ h1).bind fun d2 h2 => match d with
  | .str x => match findT tab x with
    | some v => .ok (.int v) h2
    | none => if isV d2 = true then .ok d2 h2 else .bad
  | _ => .bad := pr rfl
theorem runF_ap {n : Nat} : runF n sf ds h = (sf (startD n ds) h).fin := pr rfl
@[simp] theorem eqK_ap {ng : Bool} : eqK ng d e δ h = if ((vw δ h d).pure && (vw δ h e).pure && decide (min (vw δ h d).dep (vw δ h e).dep ≤ 64)) = true then .ok (.bl (if ng then !D.eq (vw δ h d) (vw δ h e) else D.eq (vw δ h d) (vw δ h e))) h else .bad := pr rfl
@[simp] theorem inK_ap {ng : Bool} : inK ng d e δ h = (match seqOf δ h e with
  | some ds => if ((vw δ h d).pure && D.pures ds && decide (min (D.deps ds) (vw δ h d).dep ≤ 60)) = true then
      .ok (.bl (if ng then !ds.any (fun z => D.eq z (vw δ h d)) else ds.any fun z => D.eq z (vw δ h d))) h else .bad
  | none => .bad) := pr rfl
@[simp] theorem vw_int {n : Int} : vw δ h (.int n) = .int n := pr rfl
@[simp] theorem vw_bl {n : Bool} : vw δ h (.bl n) = .bl n := pr rfl
@[simp] theorem vw_str {n : Str} : vw δ h (.str n) = .str n := pr rfl
@[simp] theorem vw_non : vw δ h .non = .non := pr rfl
@[simp] theorem vw_tup : vw δ h (.tup ds) = .tup ds := pr rfl
@[simp] theorem vw_lst : vw δ h (.lst ds) = .lst ds := pr rfl
@[simp] theorem pure_int {n : Int} : D.pure (.int n) = true := pr rfl
@[simp] theorem pure_bl {n : Bool} : D.pure (.bl n) = true := pr rfl
@[simp] theorem pure_str {n : Str} : D.pure (.str n) = true := pr rfl
@[simp] theorem pure_non : D.pure .non = true := pr rfl
@[simp] theorem pure_tup : D.pure (.tup ds) = D.pures ds := pr rfl
@[simp] theorem pure_lst : D.pure (.lst ds) = D.pures ds := pr rfl
@[simp] theorem pures_nil : D.pures [] = true := pr rfl
@[simp] theorem pures_cons : D.pures (d :: ds) = (d.pure && D.pures ds) := pr rfl
@[simp] theorem dep_int {n : Int} : D.dep (.int n) = 0 := pr rfl
@[simp] theorem dep_bl {n : Bool} : D.dep (.bl n) = 0 := pr rfl
@[simp] theorem dep_str {n : Str} : D.dep (.str n) = 0 := pr rfl
@[simp] theorem dep_non : D.dep .non = 0 := pr rfl
@[simp] theorem dep_tup : D.dep (.tup ds) = D.deps ds + 1 := pr rfl
@[simp] theorem dep_lst : D.dep (.lst ds) = D.deps ds + 1 := pr rfl
@[simp] theorem deps_nil : D.deps [] = 0 := pr rfl
@[simp] theorem deps_cons : D.deps (d :: ds) = max d.dep (D.deps ds) := pr rfl
/-- == of two rows -/
def D.eqs (as bs : List D) : Bool := PyData.eqvAll (D.pys as) (D.pys bs)
@[simp] theorem eq_int {a b : Int} : D.eq (.int a) (.int b) = decide (a = b) := by
  show (a == b) = _
  by_cases h : a = b
  · subst h; simp
  · simp [h]
@[simp] theorem eq_str {a b : Str} : D.eq (.str a) (.str b) = decide (a = b) := by
  show (a == b) = _
  by_cases h : a = b
  · subst h; simp
  · simp [h]
@[simp] theorem eq_tup {a b : List D} : D.eq (.tup a) (.tup b) = D.eqs a b := pr rfl
@[simp] theorem eq_lst {a b : List D} : D.eq (.lst a) (.lst b) = D.eqs a b := pr rfl
@[simp] theorem eqs_nil : D.eqs [] [] = true := pr rfl
@[simp] theorem eqs_cons {a b : List D} : D.eqs (d :: a) (e :: b) = (D.eq d e && D.eqs a b) := pr rfl
@[simp] theorem eqs_nc {a : List D} : D.eqs [] (d :: a) = false := pr rfl
@[simp] theorem eqs_cn {a : List D} : D.eqs (d :: a) [] = false := pr rfl
theorem eq_refl (d : D) : D.eq d d = true := PySem.SeqAt.eqv_refl_plain _ (plain_py d)
theorem eqs_refl (ds : List D) : D.eqs ds ds = true := eq_refl (.tup ds)
@[simp] theorem set_concat {α : Type} {hs : List α} {b c : α} : (hs ++ [b]).set hs.length c = hs ++ [c] := by
  rw [List.set_append_right _ _ (Nat.le_refl _), Nat.sub_self]; rfl
end
end LP
/-! LpT: loops and comprehensions over plain data, by their turns. -/
namespace LP
open PySem PySem.Spec PyProof.Rows L2 HT
inductive All2 {α β : Type} (Q : α → β → Prop) : List α → List β → Prop
  | nil : All2 Q [] []
  | cons {a : α} {b : β} {as : List α} {bs : List β} : Q a b → All2 Q as bs → All2 Q (a :: as) (b :: bs)
theorem All2.length {α β : Type} {Q : α → β → Prop} : ∀ {as : List α} {bs : List β}, All2 Q as bs → bs.length = as.length
  | _, _, .nil => rfl
  | _, _, .cons _ t => by simp [t.length]
section
variable {δ : DE} {h : Bx} {u : D → DE → Option DE} {tf : DE → Bx → R Bool} {ef : EF} {sf : SF}
@[simp] theorem quiet_ok {α : Type} {a : α} : quiet (.ok a h : R α) = .ok a h := pr rfl
/-- [ef for d in ds], nothing written -/
theorem compF_map {g : D → D} : ∀ {ds : List D}, (∀ d ∈ ds, ∃ δ1, u d δ = some δ1 ∧ ef δ1 h = .ok (g d) h ∧ isV (g d) = true) → compF u yesF ef δ ds h = .ok (ds.map g) h
  | [], _ => rfl
  | d :: ds, H => by
    obtain ⟨δ1, e1, e2, e3⟩ := H d (List.mem_cons_self ..)
    have ih := compF_map (g := g) (ds := ds) fun d hd => H d (List.mem_cons_of_mem _ hd)
    unfold compF
    simp [e1, e2, e3, ih]
/-- [ef for d in ds if tf], nothing written -/
theorem compF_filter {g : D → D} {p : D → Bool} : ∀ {ds : List D}, (∀ d ∈ ds, ∃ δ1, u d δ = some δ1 ∧ tf δ1 h = .ok (p d) h ∧ (p d = true → ef δ1 h = .ok (g d) h ∧ isV (g d) = true)) → compF u tf ef δ ds h = .ok ((ds.filter p).map g) h
  | [], _ => rfl
  | d :: ds, H => by
    obtain ⟨δ1, e1, e2, e3⟩ := H d (List.mem_cons_self ..)
    have ih := compF_filter (g := g) (p := p) (ds := ds) fun d hd => H d (List.mem_cons_of_mem _ hd)
    unfold compF
    cases hp : p d with
    | true =>
      obtain ⟨e4, e5⟩ := e3 hp
      simp [e1, e2, hp, e4, e5, ih]
    | false => simp [e1, e2, hp, ih]
/-- [ef for d in ds], what is written is handed on -/
theorem compF_st {P : Bx → Prop} {Q : D → D → Prop} : ∀ {ds : List D} {h : Bx}, P h → (∀ d ∈ ds, ∀ h, P h → ∃ δ1 y h', u d δ = some δ1 ∧ ef δ1 h = .ok y h' ∧ isV y = true ∧ Q d y ∧ P h') →
    ∃ ys h', compF u yesF ef δ ds h = .ok ys h' ∧ P h' ∧ All2 Q ds ys
  | [], h, hp, _ => ⟨[], h, rfl, hp, .nil⟩
  | d :: ds, h, hp, H => by
    obtain ⟨δ1, y, h1, e1, e2, e3, e4, e5⟩ := H d (List.mem_cons_self ..) h hp
    obtain ⟨ys, h2, f1, f2, f3⟩ := compF_st (ds := ds) e5 fun d hd => H d (List.mem_cons_of_mem _ hd)
    refine ⟨y :: ys, h2, ?_, f2, .cons e4 f3⟩
    unfold compF
    simp [e1, e2, e3, f1]
/-- a for whose turns go on: what holds between two turns -/
theorem forF_inv {P : List D → DE → Bx → Prop} : ∀ {ds : List D} {δ : DE} {h : Bx}, P ds δ h → (∀ d ds δ h, P (d :: ds) δ h → ∃ δ1 δ2 h2, u d δ = some δ1 ∧ (sf δ1 h = .nx δ2 h2 ∨ sf δ1 h = .ct δ2 h2) ∧ P ds δ2 h2) →
    ∃ δ' h', forF u sf ds δ h = .nx δ' h' ∧ P [] δ' h'
  | [], δ, h, hp, _ => ⟨δ, h, rfl, hp⟩
  | d :: ds, δ, h, hp, H => by
    obtain ⟨δ1, δ2, h2, e1, e2, e3⟩ := H d ds δ h hp
    obtain ⟨δ', h', f1, f2⟩ := forF_inv (ds := ds) e3 H
    refine ⟨δ', h', ?_, f2⟩
    unfold forF
    rcases e2 with e2 | e2 <;> simp [e1, e2, f1]
theorem forF_nil : forF u sf [] δ h = .nx δ h := rfl
theorem forF_nx {d : D} {ds : List D} {δ1 δ2 : DE} {h2 : Bx} (e1 : u d δ = some δ1) (e2 : sf δ1 h = .nx δ2 h2) : forF u sf (d :: ds) δ h = forF u sf ds δ2 h2 := by
  rw [forF]; simp only [e1, e2]
theorem forF_ct {d : D} {ds : List D} {δ1 δ2 : DE} {h2 : Bx} (e1 : u d δ = some δ1) (e2 : sf δ1 h = .ct δ2 h2) : forF u sf (d :: ds) δ h = forF u sf ds δ2 h2 := by
  rw [forF]; simp only [e1, e2]
theorem forF_bk {d : D} {ds : List D} {δ1 δ2 : DE} {h2 : Bx} (e1 : u d δ = some δ1) (e2 : sf δ1 h = .bk δ2 h2) : forF u sf (d :: ds) δ h = .nx δ2 h2 := by
  rw [forF]; simp only [e1, e2]
theorem forF_rt {d v : D} {ds : List D} {δ1 : DE} {h2 : Bx} (e1 : u d δ = some δ1) (e2 : sf δ1 h = .rt v h2) : forF u sf (d :: ds) δ h = .rt v h2 := by
  rw [forF]; simp only [e1, e2]
theorem whileF_nx {n : Nat} {δ2 : DE} {h1 h2 : Bx} (e1 : tf δ h = .ok true h1) (e2 : sf δ h1 = .nx δ2 h2) : whileF tf sf (n + 1) δ h = whileF tf sf n δ2 h2 := by
  rw [whileF]; simp [e1, e2]
theorem whileF_end {n : Nat} {h1 : Bx} (e1 : tf δ h = .ok false h1) : whileF tf sf (n + 1) δ h = .nx δ h1 := by
  rw [whileF]; simp [e1]
end
/-! ### small numbers as data -/
def nD (n : Nat) : D := .int n
def nsD (l : List Nat) : List D := l.map nD
@[simp] theorem isV_nD {n : Nat} : isV (nD n) = true := pr rfl
@[simp] theorem nsD_length {l : List Nat} : (nsD l).length = l.length := by simp [nsD]
/-- the number at i -/
def nth (l : List Nat) (i : Nat) : Nat := l.getD i 0
theorem nth_eq {l : List Nat} {i : Nat} (h : i < l.length) : nth l i = l[i] := by
  unfold nth
  rw [List.getD_eq_getElem?_getD, List.getElem?_eq_getElem h]; rfl
theorem nsD_get {l : List Nat} {i : Nat} (h : i < l.length) : (nsD l)[i]? = some (.int (nth l i)) := by
  simp [nsD, List.getElem?_map, List.getElem?_eq_getElem h, nth_eq h, nD]
theorem nsD_at {l : List Nat} {i : Nat} (h : i < l.length) : atI (nsD l) (i : Int) = some (.int (nth l i)) := by
  rw [atI_nat (by simpa using h), nsD_get h]
@[simp] theorem pure_nD {n : Nat} : (nD n).pure = true := pr rfl
@[simp] theorem dep_nD {n : Nat} : (nD n).dep = 0 := pr rfl
@[simp] theorem pures_nsD {l : List Nat} : D.pures (nsD l) = true := by
  induction l with
  | nil => rfl
  | cons a l ih => show (true && D.pures (nsD l)) = true; rw [ih]; rfl
@[simp] theorem deps_nsD {l : List Nat} : D.deps (nsD l) = 0 := by
  induction l with
  | nil => rfl
  | cons a l ih => show max 0 (D.deps (nsD l)) = 0; rw [ih]; rfl
@[simp] theorem bls_nil : bls [] = some [] := pr rfl
@[simp] theorem bls_cons {b : Bool} {ds : List D} : bls (.bl b :: ds) = (bls ds).map (b :: ·) := pr rfl
@[simp] theorem bls_trues {α : Type} {l : List α} : bls (l.map fun _ => D.bl true) = some (l.map fun _ => true) := by
  have := bls_map (l.map fun _ => true)
  rw [List.map_map] at this
  exact this
@[simp] theorem bls_trues2 {α β : Type} {g : α → β} {l : List α} : bls (l.map ((fun _ => D.bl true) ∘ g)) = some (l.map fun _ => true) := bls_trues
theorem all_trues {α : Type} {l : List α} : (l.map fun _ => true).all id = true := by
  induction l with
  | nil => rfl
  | cons a l ih => simp
@[simp] theorem pures_append {a b : List D} : D.pures (a ++ b) = (D.pures a && D.pures b) := by
  induction a with
  | nil => rfl
  | cons d a ih => show (d.pure && D.pures (a ++ b)) = ((d.pure && D.pures a) && D.pures b); rw [ih, Bool.and_assoc]
@[simp] theorem deps_append {a b : List D} : D.deps (a ++ b) = max (D.deps a) (D.deps b) := by
  induction a with
  | nil => show D.deps b = max 0 _; omega
  | cons d a ih => show max d.dep (D.deps (a ++ b)) = max (max d.dep (D.deps a)) _; rw [ih]; omega
theorem pures_all {a : List D} (h : ∀ d ∈ a, d.pure = true) : D.pures a = true := by
  induction a with
  | nil => rfl
  | cons d a ih => show (d.pure && D.pures a) = true; rw [h d (List.mem_cons_self ..), ih fun d hd => h d (List.mem_cons_of_mem _ hd)]; rfl
theorem deps_le {a : List D} {n : Nat} (h : ∀ d ∈ a, d.dep ≤ n) : D.deps a ≤ n := by
  induction a with
  | nil => exact Nat.zero_le _
  | cons d a ih =>
    have h1 := h d (List.mem_cons_self ..)
    have h2 := ih fun d hd => h d (List.mem_cons_of_mem _ hd)
    show max d.dep (D.deps a) ≤ n
    omega
end LP
/-! LpK: an own exception whose __init__ says super().__init__(text); self.f = x. -/
namespace LP
open PySem PySem.Spec PyProof.Rows L2 HT
open PySem.W (Frag)
abbrev exT : List Value := [.type "Exception", .type "BaseException", .type "object"]
/-- own classes, then Exception's mro -/
def refsE (l : List Value) : Bool := PySem.W.excTail exT l
theorem refsE_contains (X : String) (l : List Value) (h : refsE l = true) : l.contains (.type X) = exT.contains (.type X) := PySem.W.excTail_contains X l h
theorem refsE_pass (self : Value) (l : List Value) (h : refsE l = true) : refuseLoop self "__setattr__" l = pure () := PySem.W.excTail_pass self (F.store_Exception.passes self) l h
section
open Builtin Builtin.ObjectAttr PySem.W
variable {prog : Program} {w : World} {A : Around} {E : Value → Shared → Prop} {R : Result → Shared → Prop} {hp : Heap} {g : Array GenState} {d : Drawn} {t : Nat} {os : OsState}
/-- x.name = v on an exception that has no dict yet -/
theorem osa_newE {K : Frag} {name : Str} {tk : Tok} {v : Value} {x C : Addr} {fv : Array Value} {cd : ClassData}
    (X : K.In hp) (hx : hp.get? x = some { cls := .ref C, data := .fields fv }) (hcd : clsIn K C = some cd) (hm : refsE cd.mro = true) (hh : cd.hasDict = true) (ha : findIn K (.ref C) name = some none)
    (hq : ∀ h' tk' dx, (∀ b o, b ≠ x → hp.get? b = some o → h'.get? b = some o) → hp.objs.size ≤ dx → dx ≠ x → h'.get? x = some { cls := .ref C, dict := some dx, data := .fields fv } →
      h'.Ns1 dx (fun y => if y = name then some v else none) → R (.ok (.ret .none)) ⟨h', g, d, tk', os⟩) :
    codeAny (model prog w) A (.call (.builtin "object.__setattr__") ⟨[.ref x, .str name tk, v], []⟩) R ⟨hp, g, d, t, os⟩ := by
  have I : InstAt hp x { cls := .ref C, data := .fields fv } C none := ⟨hx, rfl, rfl, trivial⟩
  have SF := F.store_object
  have hob : cd.mro.contains (.type "object") = true := (refsE_contains "object" _ hm).trans (by decide +kernel)
  have ne : cd.mro.isEmpty = false := by
    cases h : cd.mro with
    | nil => rw [h] at hob; cases hob
    | cons _ _ => rfl
  have hxs : x ≠ hp.objs.size := Nat.ne_of_lt (Heap.lt_size hx)
  have sub : Looks (model prog w) hp (isInstance (.ref x) (.type "object")) true := I.type.andThen (looks_mroIn X (by unfold mroIn; rw [hcd, Option.bind_some, if_neg (by rw [ne]; decide), hob]))
  refine codeAny_call_builtin SF.slot.plain SF.entry (@check_slot (model prog w) _ _ ⟨hp, g, d, t, os⟩ "object.__setattr__" "object" "__setattr__" (.ref x) [.str name tk, v] [] _ SF.kind SF.split sub (SF.args (.ref x) (.str name tk) v) ?_)
  have hmr : Looks (model prog w) hp (mroOf (.ref C)) cd.mro := (looks_clsIn X hcd).andThen .now
  have L3 : Looks (model prog w) hp (storeTaker? none) none := .now
  have hcls : Looks (model prog w) hp (classData C) cd := looks_clsIn X hcd
  rw [osa_eq, refuse_eq]
  refine wpAny_bind (wpAny_bind (I.type.at (wpAny_bind (hmr.at ?_))))
  rw [refsE_pass _ _ hm]
  refine wpAny_pure (wpAny_bind (I.type.at (wpAny_bind ((looks_findIn X ha).at (wpAny_bind (L3.at ?_))))))
  show wpAny _ _ (storeInOwnDict (.ref x) (.ref C) (.str name tk) name v false) _ _ _
  obtain ⟨nm, bs, mro, ns, qn, hd, sn, sb, ab, col, del⟩ := cd
  dsimp only at hh
  subst hh
  unfold storeInOwnDict ownDictForStores
  repeat (first | with_reducible refine HandSPX.store_in_new ?_ ?_ | with_reducible refine wpAny_loadPart_at hx ?_ | with_reducible refine hcls.at ?_ | wp_step)
  · exact ⟨_, #[], _, (Heap.get?_update_ne _ _ _ _ hxs.symm).trans (Heap.get?_push_at rfl rfl), rfl, fun e he => absurd he (by simp), fun _ => rfl⟩
  · intro h' tk' hn' hs
    have hx₁ : (hp.push { cls := .type "dict", data := .dict #[] }).get? x = some { cls := .ref C, data := .fields fv } := Heap.get?_push_of_some _ hx
    refine hq h' tk' hp.objs.size (fun b o hb ho => ?_) (Nat.le_refl _) hxs.symm ?_ hn'
    · exact (hs.2 b (Nat.ne_of_lt (Heap.lt_size ho))).trans ((Heap.get?_update_ne _ _ _ _ hb).trans (Heap.get?_push_of_some _ ho))
    · exact (hs.2 x hxs).trans (Heap.get?_update_self _ hx₁ rfl)
end
end LP
/-! LpK2: __init__ that says super().__init__(text); self.f = x. -/
namespace LP
open PySem PySem.Spec PyProof.Rows L2 HT
open PySem.W (Frag)
section
open PySem.W PySem.Calls
variable {prog : Program} {w : World} {A : Around} {R : Result → Shared → Prop} {hp : Heap} {g : Array GenState} {d : Drawn} {t : Nat} {os : OsState}
/-- what the written part says of the class -/
structure ExC (K : Frag) (prog : Program) (C fI : Addr) (fl : Str) (params : Arguments) (body : List Stmt) (scope : Scope) (pn : Str) : Prop where
  cls : ∃ nm q N bs bm sn sub ab col dd k0 k1 k2 k3 k5, K.lookup C = some (excClassObj nm q C N bs bm true sn sub ab col dd k0 k1 k2 k3 k5 "Exception.__new__") ∧ refsE bm = true
  sa : findIn K (.ref C) "__setattr__" = some (some (.builtin "object.__setattr__"))
  exC : subIn K (.ref C) (.type "BaseException") = some true
  tyC : typeIn K (.ref C) = some (.type "type")
  kC : keepIn K (.ref C) = true
  fl_ : findIn K (.ref C) fl = some none
  sup : ks_superIn K C C "__init__" = some (some (.builtin "Exception.__init__"))
  op : nsIn K cStatics "thirdparty.any" = some none
  selfM : mroIn K C (.ref C) = some true
  exM : mroIn K C (.type "Exception") = some true
  ini : findIn K (.ref C) "__init__" = some (some (.ref fI))
  fn : typeIn K (.ref fI) = some (.type "function")
  lk : ∃ (oc dV kV doc pm ct : Value) (od an : Option Addr) (osl : Array (Option Value)) (cc cda : Addr) (qual : Str) (ccl cl : Value) (cdd cld : Option Addr) (ccs csl : Array (Option Value)) (vs : Array Value) (file : Str) (tf : Tok),
    K.lookup fI = some ⟨oc, od, .func (ksFn "__init__" qual params body scope dV kV doc pm an (.ref cda) ct cc), osl⟩ ∧ codeIn K (.ref cda) qual = true ∧ K.lookup cda = some ⟨ccl, cdd, .fields vs, ccs⟩ ∧ vs[2]? = some (.str file tf) ∧ ((prog.main.file : Str) == file) = true ∧
    K.lookup cc = some ⟨cl, cld, .cell (some (.ref C)), csl⟩ ∧ ∀ (us : List Value), us.length = 2 → bindArgs (ksFn "__init__" qual params body scope dV kV doc pm an (.ref cda) ct cc) ⟨us, []⟩ = pure ([("self" : Str), pn].zip us)
theorem init_run {K : Frag} {C fI e t0 : Addr} {fl text pn : Str} {v : Value} {params : Arguments} {scope : Scope} {p0 p1 p2 p3 p4 p5 p6 p7 p8 p9 : Pos} {j : Nat} {ar : Arg} {mg mb : Str → Option Value}
    (T : ExC K prog C fI fl params [.Expr (.Call (.Attribute (.Call (.Name "super" p0) [] [] p1) "__init__" p2) [.Constant (.str text) j p3] [] p4) p5, .Assign [.Attribute (.Name "self" p6) fl p7] (.Name pn p8) p9] scope pn)
    (X : K.In hp) (hG : hp.Ns mainGlobals mg) (hsu : mg "super" = none) (hB : hp.Ns builtinsNs mb) (hbb : mb "super" = some (.type "super")) (hlim : hp.NoLimit) (hroom : A.depth < recursionLimit)
    (he : hp.get? e = some (HandSPX.excO C t0)) (hnK : ∀ o, K.lookup e ≠ some o)
    (hks : scope.names.lookup ("super" : Str) = some .globalImplicit) (hkc : scope.names.lookup ("__class__" : Str) = some .free) (hself : scope.names.lookup ("self" : Str) = some .local) (hpn : scope.names.lookup pn = some .local) (hne : pn ≠ ("self" : Str))
    (hcell : ∀ x ∈ scope.names, x.2 ≠ .cell) (hco : scope.isCoroutine = false) (hgen : scope.isGenerator = false) (hk : scope.kind = .function) (hpar : (params.posonlyargs ++ params.args).head? = some ar) (har : ar.arg = "self") (htop : (prog.main.scope.names.lookup ("super" : Str)).isSome = false) (hdb : (pn == ("__debug__" : Str)) = false)
    {pl : Env → Sem Bool} (hev : ∀ env : Env, eval (.Call (.Attribute (.Call (.Name "super" p0) [] [] p1) "__init__" p2) [.Constant (.str text) j p3] [] p4) env = (do
      let ov ← attributeBase (.Call (.Name "super" p0) [] [] p1) "__init__" env (eval (.Call (.Name "super" p0) [] [] p1) env)
      standAt p2.atName
      let (f, first) ← holding [ov] (getMethod ov "__init__" (pl env))
      callWith p4 f first (backTo p4 (starEach [.Constant (.str text) j p3] env)) []))
    (hin : ∀ env : Env, env.scope = scope → interactive env = false)
    (hsw1 : ∀ env : Env, swapsWith (.Call (.Attribute (.Call (.Name "super" p0) [] [] p1) "__init__" p2) [.Constant (.str text) j p3] [] p4) none p5.line env = pure false)
    (hsw2 : ∀ env : Env, swapsWith (.Name pn p8) (some (.Attribute (.Name "self" p6) fl p7)) p9.line env = pure false)
    (hst : ∀ env : Env, starEach [.Constant (.str text) j p3] env = [(false, eval (.Constant (.str text) j p3) env)])
    (h : ∀ h' tk' t1 dx, (∀ b o, b ≠ e → hp.get? b = some o → h'.get? b = some o) → hp.objs.size ≤ dx → dx ≠ e → h'.get? e = some { cls := .ref C, dict := some dx, data := .fields #[.ref t1, .none, .none, .none, .bool false, .none] } →
      h'.Ns1 dx (fun y => if y = fl then some v else none) → R (.ok (.ret .none)) ⟨h', g, d, tk', os⟩) :
    codeAny (model prog w) A (.call (.ref fI) ⟨[.ref e, v], []⟩) R ⟨hp, g, d, t, os⟩ := by
  obtain ⟨nm, q, N, bs, bm, sn, sub, ab, col, dd, k0, k1, k2, k3, k5, hC, hbm⟩ := T.cls
  obtain ⟨oc, dV, kV, doc, pm, ct, od, an, osl, cc, cda, qual, ccl, cl, cdd, cld, ccs, csl, vs, file, tf, lk, hcd, lcda, hvs, hfile, lcc, hbind⟩ := T.lk
  have hcl : clsIn K C = some { name := nm, bases := bs, mro := .ref C :: bm, ns := N, qualname := q, hasDict := true, slotNames := sn, subclasses := sub, abstract := ab, collection := col, hasDel := false } := by unfold clsIn; rw [hC] <;> rfl
  refine ks_codeAny_call_defAt (binds := [(("self" : Str), .ref e), (pn, v)]) hroom (X _ _ lk) rfl hlim (codeRec_of X hcd) rfl (.of_eq (hbind [.ref e, v] rfl)) hcell (fun y hy => ?_) (fun h₀ hns kp => ?_) hco hgen hk
  · rcases List.mem_cons.mp hy with rfl | hy
    · exact hself
    · have : y = (pn, v) := by simpa using hy
      subst this; exact hpn
  · have X0 : K.In h₀ := X.keeps kp
    have se : ([(("self" : Str), Value.ref e), (pn, v)].reverse).lookup ("self" : Str) = some (.ref e) := by
      show List.lookup ("self" : Str) [(pn, v), (("self" : Str), Value.ref e)] = _
      rw [List.lookup_cons]
      rw [show (("self" : Str) == pn) = false from beq_eq_false_iff_ne.mpr (Ne.symm hne)]
      rfl
    have sp : ([(("self" : Str), Value.ref e), (pn, v)].reverse).lookup pn = some v := by
      show List.lookup pn [(pn, v), (("self" : Str), Value.ref e)] = _
      rw [List.lookup_cons, beq_self_eq_true]
    refine ks_wpAt_execs_cons (ks_wpAt_Expr_any (ks_wpAt_MethodCall ?_ (hev _)) (hin _ rfl) (hsw1 _))
    refine ks_wpAt_super_base hks hkc (by decide) rfl (X0 _ _ lk) rfl hpar rfl (X0 _ _ lcda) rfl hvs hfile htop ?_
    refine ks_loadName_global hk hks (loadGlobal_builtin (hG.keeps kp) hsu (hB.keeps kp) hbb ⟨rfl, ?_⟩)
    refine wpAny_loadName_free hk hkc rfl ⟨_, X0 _ _ lcc, rfl⟩ ?_
    rw [har]
    refine wpAny_loadName_local hk hself hns se ?_
    refine ks_wpAny_isType_cls (X0 _ _ hC) rfl ⟨rfl, ?_⟩
    refine ks_wpAny_call_super (X0 _ _ hC) rfl (kp _ _ he) rfl (fun c z => by cases z) (looks_mroIn X0 T.selfM) (fun h1 hso k1 => ?_)
    have X1 : K.In h1 := X0.keeps k1
    have hC1 := X1 _ _ hC
    have e0 : h₀.get? e = some (HandSPX.excO C t0) := kp _ _ he
    have e1 : h1.get? e = some (HandSPX.excO C t0) := k1 _ _ e0
    have hxC : e ≠ C := fun z => by
      rw [z, hC1] at e1
      cases e1
    have I1 : InstAt h1 e (HandSPX.excO C t0) C none := ⟨e1, rfl, rfl, trivial⟩
    have hf : alongIn K "__init__" bm = some (some (.builtin "Exception.__init__")) := by
      have z := T.sup
      unfold ks_superIn at z
      rw [hcl, Option.bind_some, ESX.drop_own] at z
      exact z
    refine ESX.getMethod_super (D := C) (l₀ := .ref C :: bm) hso (looks_opaque X1 T.op) ((looks_clsIn X1 hcl).andThen .now) (ESX.drop_own C bm) X1 hf hxC (by decide) (I1.type.andThen (looks_mroIn X1 T.exM)) ?_
    refine ESX.callWith_bound (x := e) ?_
    rw [hst]
    refine spliced_cons (Constant_str (k := j) (pos := p3) (spliced_nil ⟨Heap.get?_push_size _ rfl, ?_⟩))
    have k2 : ∀ b o, h1.get? b = some o → (h1.push (ESX.bw e)).get? b = some o := fun b o q => Heap.get?_push_of_some _ q
    refine ESX.call_bw (k2 _ _ hC1) (k2 _ _ e1) (Heap.get?_push_size _ rfl) (by show 1 ≤ sizeLine; decide) (fun h3 t1 k3 e3 => ?_)
    have up3 : ∀ b o, b ≠ e → h₀.get? b = some o → h3.get? b = some o := fun b o nb q => k3 b o nb (k2 _ _ (k1 _ _ q))
    have el : e ≠ hp.objs.size := Nat.ne_of_lt (Heap.lt_size he)
    have X3 : K.In h3 := fun b o q => by
      by_cases hb : b = e
      · subst hb; exact (hnK o q).elim
      · exact k3 b o hb (k2 _ _ (X1 b o q))
    have ns3 : h3.Ns hp.objs.size (fun x => [(("self" : Str), Value.ref e), (pn, v)].reverse.lookup x) := by
      obtain ⟨oL, es, ep, hL, r⟩ := hns
      exact ⟨oL, es, ep, up3 _ _ (Ne.symm el) hL, r⟩
    refine ks_wpAt_execs_cons (wpAt_of_wpAny (plainObj_wpAny_Assign_Attribute ?_ (hsw2 _)))
    refine wpAny_Name (wpAny_loadName_local hk hpn ns3 sp ?_) hdb
    refine wpAny_Name (wpAny_loadName_local hk hself ns3 se ?_) (by decide)
    have I3 : InstAt h3 e (HandSPX.excO C t1) C none := ⟨e3, rfl, rfl, trivial⟩
    refine set_plain X3 I3 T.sa ?_
    refine osa_newE X3 e3 hcl (show refsE (.ref C :: bm) = true from hbm) rfl T.fl_ (fun h4 tk dx k4 dn dne hx hn => ?_)
    have sz : hp.objs.size ≤ h3.objs.size := by
      obtain ⟨oL, es, ep, hL, r⟩ := ns3
      exact Nat.le_of_lt (Heap.lt_size hL)
    have fin := h h4 tk t1 dx (fun b o nb q => k4 b o nb (up3 b o nb (kp _ _ q))) (Nat.le_trans sz dn) dne hx hn
    exact wpAt_of_wpAny (wpAny_execs_nil fin)
end
section
variable {X : Cx} {e : Expr} {ta : TA}
/-- C(e): an exception with the one field fl -/
def tMkE (C : Addr) (fl : Str) (ta : TA) : L2.St → Hp → XK → Prop := fun σ H Q => ta σ H fun vs H1 => ∃ y, vs = [y] ∧ ∀ d, H1 d = none → Q (.ref C) (some d) (upd H1 d (.xd [(fl, y)]))
theorem pmk_E {x : Str} {C fI : Addr} {fl text pn : Str} {params : Arguments} {scope : Scope} {p pos p0 p1 p2 p3 p4 p5 p6 p7 p8 p9 : Pos} {j k : Nat} {ar : Arg}
    (T : ExC X.K X.prog C fI fl params [.Expr (.Call (.Attribute (.Call (.Name "super" p0) [] [] p1) "__init__" p2) [.Constant (.str text) j p3] [] p4) p5, .Assign [.Attribute (.Name "self" p6) fl p7] (.Name pn p8) p9] scope pn)
    (hsu : X.mg "super" = none) (hr : Room (k + 1) X.A) (hg : Gl X x) (hm : X.mg x = some (.ref C)) (ha : PA X [e] ta)
    (hks : scope.names.lookup ("super" : Str) = some .globalImplicit) (hkc : scope.names.lookup ("__class__" : Str) = some .free) (hself : scope.names.lookup ("self" : Str) = some .local) (hpn : scope.names.lookup pn = some .local) (hne : pn ≠ ("self" : Str))
    (hcell : ∀ x ∈ scope.names, x.2 ≠ .cell) (hco : scope.isCoroutine = false) (hgen : scope.isGenerator = false) (hk : scope.kind = .function) (hpar : (params.posonlyargs ++ params.args).head? = some ar) (har : ar.arg = "self") (htop : (X.prog.main.scope.names.lookup ("super" : Str)).isSome = false) (hdbp : (pn == ("__debug__" : Str)) = false)
    {pl : Env → Sem Bool} (hev : ∀ env : Env, eval (.Call (.Attribute (.Call (.Name "super" p0) [] [] p1) "__init__" p2) [.Constant (.str text) j p3] [] p4) env = (do
      let ov ← attributeBase (.Call (.Name "super" p0) [] [] p1) "__init__" env (eval (.Call (.Name "super" p0) [] [] p1) env)
      standAt p2.atName
      let (f, first) ← holding [ov] (getMethod ov "__init__" (pl env))
      callWith p4 f first (backTo p4 (starEach [.Constant (.str text) j p3] env)) []))
    (hin : ∀ env : Env, env.scope = scope → interactive env = false)
    (hsw1 : ∀ env : Env, swapsWith (.Call (.Attribute (.Call (.Name "super" p0) [] [] p1) "__init__" p2) [.Constant (.str text) j p3] [] p4) none p5.line env = pure false)
    (hsw2 : ∀ env : Env, swapsWith (.Name pn p8) (some (.Attribute (.Name "self" p6) fl p7)) p9.line env = pure false)
    (hst : ∀ env : Env, starEach [.Constant (.str text) j p3] env = [(false, eval (.Constant (.str text) j p3) env)])
    (hdb : (x == ("__debug__" : Str)) = false := by decide) (he : starEach [e] X.env = (false, eval e X.env) :: starEach [] X.env := by rfl) (hpl : (backTo pos (starEach [] X.env)).any (·.1) = false := by rfl) :
    PMk X (.Call (.Name x p) [e] [] pos) (tMkE C fl ta) := by
  intro pins s σ H Q I h
  obtain ⟨nm, q, N, bs, bm, sn, sub, ab, col, dd, k0, k1, k2, k3, k5, hC, hbm⟩ := T.cls
  refine wpAny_Call_Name_kw (ld_glob I hg hm ?_ hdb)
  refine PySem.W.callWith_K (h₀ := X.base) I.ok.mod.kin T.kC (thn (ha.run pos pins s σ H _ I h) fun us s1 ⟨vs, H1, I1, r1, y, ev, q1⟩ => ⟨I1.kIn, ?_⟩) he hpl
  subst ev
  obtain ⟨u, rfl, ru⟩ : ∃ u, us = [u] ∧ RelV y u := by
    cases r1 with
    | cons a b => cases b; exact ⟨_, rfl, a⟩
  show wpAny _ _ (call (.ref C) [u]) _ _ _
  obtain ⟨hp, g, dr, tk, os⟩ := s1
  have hget : ((hp.push (PySem.W.kdv_tup [u])).push (PySem.HandSPX.excO C hp.objs.size)).get? (hp.objs.size + 1) = some (PySem.HandSPX.excO C hp.objs.size) := by heap_get
  have kk : ∀ b o, hp.get? b = some o → ((hp.push (PySem.W.kdv_tup [u])).push (PySem.HandSPX.excO C hp.objs.size)).get? b = some o := fun b o e => Heap.get?_push_of_some _ (Heap.get?_push_of_some _ e)
  have Kin := I1.kIn
  have hno : ∀ o, X.K.lookup (hp.objs.size + 1) ≠ some o := fun o z => by
    have this : hp.objs.size + 1 < hp.objs.size := Heap.lt_size (Kin _ _ z)
    omega
  obtain ⟨mb, hB, hbb⟩ := I1.ok.mod.blt
  refine wpAny_call (PySem.HandSPX.call_own F.excBase_Exception (fun Y => refsE_contains Y bm hbm) (Kin _ _ hC) (PySem.W.looks_findIn Kin T.ini) (fun self => PySem.W.bind_fn Kin self T.fn) (by show 1 ≤ sizeLine; decide)
    (init_run T (Kin.keeps kk) (mg := X.mg) (mb := mb) ?_ hsu ?_ ?_ ?_ ?_ hget hno hks hkc hself hpn hne hcell hco hgen hk hpar har htop hdbp hev hin hsw1 hsw2 hst fun h' tk' t1 dx k3 dn dne hx hns => ?_))
  · exact (I1.ok.mod.glob.keeps I1.bk).keeps kk
  · exact (hB.keeps I1.bk).keeps kk
  · exact (hbb "super" (by decide)).trans (by decide +kernel)
  · exact I1.nolimit.keeps kk
  · exact (hr.make C [u] []).depth
  · have hd1 : H1 dx = none := I1.hok.fresh (Nat.le_trans (by show hp.objs.size ≤ _; rw [Heap.size_push, Heap.size_push]; omega) dn)
    obtain ⟨G, g1', g2'⟩ := restrict h' fun b => decide (b ≠ hp.objs.size + 1)
    have gk : ∀ b, b ≠ hp.objs.size + 1 → G.get? b = h'.get? b := fun b hb => g1' b (decide_eq_true hb)
    have ge : G.get? (hp.objs.size + 1) = none := g2' _ (by simp)
    have hgd : hp.objs.size ≤ dx := Nat.le_trans (by show hp.objs.size ≤ _; rw [Heap.size_push, Heap.size_push]; omega) dn
    have rel : ∀ f, RelO ([(fl, y)].lookup f) (if f = fl then some u else none) := fun f => relO_put (fs := []) (mA := fun _ => none) ru (fun g => True.intro) f
    have hok : ObjOk X.prog X.w (upd H1 dx (.xd [(fl, y)])) G dx (.xd [(fl, y)]) := ⟨_, hns.at fun o q => (gk dx dne).trans q, rel⟩
    have J : Inv X pins σ (upd H1 dx (.xd [(fl, y)])) { ({ heap := hp, gens := g, drawn := dr, toks := tk, os := os } : Shared) with heap := G, toks := tk' } :=
      I1.laid (t' := tk') (fun b o q => by
        have hb : b ≠ hp.objs.size + 1 := fun z => by
          have q' : hp.get? b = some o := q
          rw [z] at q'
          have this : hp.objs.size + 1 < hp.objs.size := Heap.lt_size q'
          omega
        rw [gk b hb]
        exact k3 b o hb (kk b o q)) hgd hok
    exact ⟨rfl, hp.objs.size + 1, _, _, { heap := G, gens := g, drawn := dr, toks := tk', os := os }, _, .ref C, some dx, rfl, J, fun b o q => by
      have hb : b ≠ hp.objs.size + 1 := fun z => by
        have q' : G.get? b = some o := q
        rw [z, ge] at q'; cases q'
      rw [← gk b hb]; exact q, ge, hx, ⟨rfl, rfl⟩, rfl, rfl, by rw [upd_ne dne.symm]; exact I1.hok.fresh (Nat.le_succ _), rfl, I1.bare, raises_own T.exC T.tyC, q1 dx hd1⟩
end
end LP
/-! LpL: try with several clauses, with or without a name. -/
namespace LP
open PySem PySem.Spec PyProof.Rows L2
/-- a clause's wish where the exception has a name: slot i holds it, and is empty behind the suite -/
def asW (i : Nat) (ts : Addr → Value → Option Addr → TS) : Addr → Value → Option Addr → TS := fun a cls d D σ H =>
  ts a cls d ⟨fun σ' H' => D.nx (σ'.set i none) H', D.rt, fun σ' H' => D.bk (σ'.set i none) H', fun σ' H' => D.ct (σ'.set i none) H'⟩ (σ.set i (some (.ref a))) H
/-- one clause -/
inductive Cl (X : Cx) : ExceptHandler → Value → (Addr → Value → Option Addr → TS) → Prop
  | one {x : Str} {c : Value} {ts : Addr → Value → Option Addr → TS} {b : Stmt} {bs : List Stmt} {p q : Pos} (hc : Names X x c)
      (su : ∀ (a : Addr) (oe : Obj) (cls : Value) (d : Option Addr) (pn : List (Addr × Obj)), Zc cls d oe → (∃ vs, oe.data = .fields vs) → PSs (X.suite a ((a, oe) :: pn)) (b :: bs) (ts a cls d)) :
      Cl X (.ExceptHandler (some (.Name x p)) none (b :: bs) q) c ts
  | as_ {x n : Str} {i : Nat} {c : Value} {ts : Addr → Value → Option Addr → TS} {b : Stmt} {bs : List Stmt} {p q : Pos} (hc : Names X x c) (hN : X.N.Nodup) (hi : X.N[i]? = some n) (hl : X.env.kindOf n = some .local)
      (su : ∀ (a : Addr) (oe : Obj) (cls : Value) (d : Option Addr) (pn : List (Addr × Obj)), Zc cls d oe → (∃ vs, oe.data = .fields vs) → PSs (X.suite a ((a, oe) :: pn)) (b :: bs) (ts a cls d)) :
      Cl X (.ExceptHandler (some (.Name x p)) (some n) (b :: bs) q) c (asW i ts)
inductive Cls (X : Cx) : List ExceptHandler → List (Value × (Addr → Value → Option Addr → TS)) → Prop
  | nil : Cls X [] []
  | cons {hd : ExceptHandler} {hds : List ExceptHandler} {c : Value} {ts : Addr → Value → Option Addr → TS} {l : List (Value × (Addr → Value → Option Addr → TS))} (h : Cl X hd c ts) (r : Cls X hds l) : Cls X (hd :: hds) ((c, ts) :: l)
/-- an exception that came down in the frame of X, at the heap h -/
structure Air (X : Cx) (pins : List (Addr × Obj)) (σ : L2.St) (H : Hp) (a : Addr) (cls : Value) (d : Option Addr) (B : Heap) (sI s : Shared) (h : Heap) : Prop where
  J : Inv X pins σ H sI
  nb : ∀ b o, sI.heap.get? b = some o → b ∉ frs X.stack → B.get? b = some o
  up : sI.heap.UpToSlots h
  na : H a = none
  os : s.os = sI.os
  ag : AllBare s.gens
  fl : HandSPX.FlyingZ B (X.env :: X.outer) a (Zc cls d) h
section
variable {X : Cx} {pins : List (Addr × Obj)} {σ : L2.St} {H : Hp} {a : Addr} {cls : Value} {d : Option Addr} {B : Heap} {sI s : Shared} {h : Heap}
theorem Air.inv (A : Air X pins σ H a cls d B sI s h) : Inv X pins σ H { s with heap := h } := Inv.landed (s' := { s with heap := h }) A.J A.nb A.fl.1 A.up A.os A.ag
theorem Air.apart (A : Air X pins σ H a cls d B sI s h) (hf : X.env.frame = some X.env.locals) : a ≠ X.env.locals ∧ a ∉ X.fs := by
  obtain ⟨oe, vs, e1, _, e2⟩ := A.fl.there
  have no : a ∉ frs (X.env :: X.outer) := by
    intro z
    obtain ⟨_, o, e3, nf⟩ := A.fl.2.2.1.mem z
    cases e1.symm.trans e3
    exact nf _ e2
  constructor
  · intro z
    apply no
    rw [z]
    exact List.mem_filterMap.mpr ⟨X.env, List.mem_cons_self, hf⟩
  · intro z
    obtain ⟨e, m, q⟩ := List.mem_filterMap.mp z
    exact no (List.mem_filterMap.mpr ⟨e, List.mem_cons_of_mem _ m, q⟩)
theorem Air.go (A : Air X pins σ H a cls d B sI s h) {h' : Heap} (f : HandSPX.FlyingZ B (X.env :: X.outer) a (Zc cls d) h') (u : h.UpToSlots h') : Air X pins σ H a cls d B sI s h' :=
  ⟨A.J, A.nb, A.up.trans u, A.na, A.os, A.ag, f⟩
theorem Air.in_suite (A : Air X pins σ H a cls d B sI s h) (hf : X.env.frame = some X.env.locals) :
    ∃ oe, Zc cls d oe ∧ (∃ vs, oe.data = .fields vs) ∧ Inv (X.suite a ((a, oe) :: (X.pn ++ pins))) [] σ H { s with heap := h } := by
  obtain ⟨oe, vs, e1, z, e2⟩ := A.fl.there
  have n := A.apart hf
  exact ⟨oe, z, ⟨vs, e2⟩, A.inv.suite e1 e2 A.na n.1 n.2⟩
/-- the clauses, one after the other -/
theorem Cls.run {Wout : WX} {E : Ends} {l : List (Value × (Addr → Value → Option Addr → TS))} {hds : List ExceptHandler} (hs : X.stack = X.env :: X.outer) (hf : X.env.frame = some X.env.locals) (tk : Takes X Wout)
    (A : Air X pins σ H a cls d B sI s h) (k : Cls X hds l) (w : wMany X.K Wout E l cls d σ H) :
    wpAny (model X.prog X.w) X.A (handleBy (.ref a) X.env hds) (SP X pins E) X.xe { s with heap := h } := by
  have ok := A.J.ok
  induction k with
  | nil =>
    -- nobody took it: it flies on
    obtain ⟨_, _, _, oe, vs, T, oT, ts, e1, z, e2, e3, _⟩ := id A.fl
    refine wpAny_handleBy_nil ?_
    have on_ : wpAny (model X.prog X.w) X.A (setFlight (.ref a) X.env.frame) (fun _ s1 => wpAny (model X.prog X.w) X.A (throw (.ref a) : Sem Flow) (SP X pins E) X.xe s1) X.xe { s with heap := h } := by
      rw [hf]
      refine HandSPX.setFlight_upZ A.fl fun h1 held u => ?_
      refine wpAny_throw (tk _ _ ⟨a, B, sI, pins, σ, H, cls, d, rfl, A.J, A.nb, A.up.trans u, ?_, A.na, A.os, A.ag, w⟩)
      rw [hs]
      exact .inr (.inr held)
    unfold PySem.passOn
    refine wpAny_bind (wpAny_field e1 e2 e3 ?_)
    have ne : ¬ ((Value.ref T == Value.none) = true) := by simp
    rw [if_neg ne]
    first
      | exact wpAny_bind (wpAny_pure (wpAny_bind on_))
      | exact wpAny_bind on_
  | @cons hd hds c ts l hc r ih =>
    obtain ⟨b, eb, yes, no⟩ := w
    obtain ⟨oe, z, ⟨vs, ed⟩, S⟩ := A.in_suite hf
    obtain ⟨oe', vs', eo, z', _⟩ := A.fl.there
    have LT : PySem.W.Looks (model X.prog X.w) h (typeOf (.ref a)) cls := fun _ _ _ _ k q => wpAny_typeOf_ref (k _ _ eo) (by rw [z'.1]; exact q)
    have LM := PySem.W.exm_one (M := model X.prog X.w) A.inv.kIn LT eb
    have nm : ∀ {x : Str} {p : Pos} {Q : Value → Shared → Prop} {E' : Value → Shared → Prop}, Names X x c → Q c { s with heap := h } → wpAny (model X.prog X.w) (X.A.mark (some (.ref a))) (eval (.Name x p) X.env) Q E' { s with heap := h } := by
      intro x p Q E' n q
      obtain ⟨g, db, m⟩ := n
      rcases m with m | ⟨m, v, nn⟩
      · exact ld_glob (X := X.suite a ((a, oe) :: (X.pn ++ pins))) S g m q db
      · exact ld_blt (X := X.suite a ((a, oe) :: (X.pn ++ pins))) S g m v q nn db
    cases hc with
    | one n su =>
      refine wpAny_handleBy_cons (codeAny_handlers_test ?_) (by intro q; cases q)
      refine nm n (LM.here ?_)
      cases b with
      | false => exact ih (no rfl)
      | true =>
        refine codeAny_handlers_suite (HandSPX.lands_againZ A.fl fun h1 f1 u1 => ?_)
        obtain ⟨o1, z1, d1, S1⟩ := (A.go f1 u1).in_suite hf
        refine wpAny_mono ((su a o1 cls d (X.pn ++ pins) z1 d1).run [] _ _ H _ S1 (yes rfl a A.na)) (fun f s6 q => ?_) (fun _ _ y => y.elim)
        cases f with
        | ret u =>
          obtain ⟨v6, σ6, H6, S6, r6, q6⟩ := q
          exact ⟨v6, σ6, H6, S6.unsuite ok, r6, q6⟩
        | _ =>
          obtain ⟨σ6, H6, S6, q6⟩ := q
          exact ⟨σ6, H6, S6.unsuite ok, q6⟩
    | @as_ x n i c ts b0 bs p q hn hN hi hl su =>
      refine wpAny_handleBy_cons (codeAny_handlers_test ?_) (by intro q; cases q)
      refine nm hn (LM.here ?_)
      cases b with
      | false => exact ih (no rfl)
      | true =>
        refine codeAny_handlers_suite_as (HandSPX.lands_againZ A.fl fun h1 f1 u1 => ?_)
        obtain ⟨o1, z1, d1, S1⟩ := (A.go f1 u1).in_suite hf
        refine store_ok (X := X.suite a ((a, o1) :: (X.pn ++ pins))) (v := .ref a) S1 hN hi (.inl hl) rfl (fun s5 S5 => ?_) (.inr hl)
        refine wpAny_mono ((su a o1 cls d (X.pn ++ pins) z1 d1).run [] s5 _ H _ S5 (yes rfl a A.na)) (fun f s6 y => ?_) (fun _ _ y => y.elim)
        have last : ∀ {σ6 : L2.St} {H6 : Hp} {Q : Shared → Prop}, Inv (X.suite a ((a, o1) :: (X.pn ++ pins))) [] σ6 H6 s6 → (∀ s7, Inv X pins (σ6.set i none) H6 s7 → Q s7) →
            wpAny (model X.prog X.w) X.A (do bindName X.env n .none; unbindBehindTheSuite X.env n q) (fun _ s7 => Q s7) X.xe s6 := by
          intro σ6 H6 Q S6 k
          exact gone_ok (S6.unsuite ok) hN hi hl k
        cases f with
        | ret u =>
          obtain ⟨v6, σ6, H6, S6, r6, q6⟩ := y
          exact last S6 fun s7 J7 => ⟨v6, _, _, J7, r6, q6⟩
        | next =>
          obtain ⟨σ6, H6, S6, q6⟩ := y
          exact last S6 fun s7 J7 => ⟨_, _, J7, q6⟩
        | brk =>
          obtain ⟨σ6, H6, S6, q6⟩ := y
          exact last S6 fun s7 J7 => ⟨_, _, J7, q6⟩
        | cont =>
          obtain ⟨σ6, H6, S6, q6⟩ := y
          exact last S6 fun s7 J7 => ⟨_, _, J7, q6⟩
end
section
variable {X : Cx} {body : List Stmt} {hd : ExceptHandler} {hds : List ExceptHandler} {l : List (Value × (Addr → Value → Option Addr → TS))} {pos : Pos} {tb : WX → TS} {Wout : WX}
theorem ps_tryA (hs : X.stack = X.env :: X.outer) (hf : X.env.frame = some X.env.locals) (tk : Takes X Wout)
    (hb : ∀ (W : WX) (pn : List (Addr × Obj)) (xe : Value → Shared → Prop), Takes (X.tr pn xe) W → PassesOwn (model X.prog X.w) X.A X.env xe → PSs (X.tr pn xe) body (tb W))
    (hc : Cls X (hd :: hds) l) : PS X (.Try body (hd :: hds) [] [] pos) (fun E σ H => tb (wMany X.K Wout E l) E σ H) := by
  refine ⟨fun pins s σ H E I h => wpAny_Try_except ?_⟩
  have ok := I.ok
  have fr : X.A.frames = some (X.env :: X.outer) := ok.frames.trans (by rw [hs])
  have bd := (hb (wMany X.K Wout E l) (X.pn ++ pins) (fun e s₁ => wpAny (model X.prog X.w) X.A (noteFrame e X.env) (fun _ s₂ => wpAny (model X.prog X.w) X.A (setFlight e none)
    (fun _ s₃ => wpAny (model X.prog X.w) X.A (handleBy e X.env (hd :: hds)) (SP X pins E) X.xe s₃) X.xe s₂) X.xe s₁) (fun u s' xx => ?_) PassesOwn.looking).run [] s σ H E (I.toTry _) h
  · refine wpAny_mono bd (fun f s1 q => ?_) (fun _ _ q => q)
    cases f with
    | next =>
      obtain ⟨σ', H', J, q⟩ := q
      exact wpAny_execs_nil ⟨σ', H', J.ofTry ok, q⟩
    | ret u =>
      obtain ⟨v, σ', H', J, r, q⟩ := q
      exact ⟨v, σ', H', J.ofTry ok, r, q⟩
    | _ =>
      obtain ⟨σ', H', J, q⟩ := q
      exact ⟨σ', H', J.ofTry ok, q⟩
  · obtain ⟨a, B, sI, pins', σ', H', cls, d, rfl, J, nb, up, sky, na, os, ag, w⟩ := xx
    have sky : Sky B (X.env :: X.outer) a (Zc cls d) X.env.locals s'.heap := hs ▸ sky
    show wpAny (model X.prog X.w) X.A (noteFrame (.ref a) X.env) _ _ _
    refine Sky.land Zc.steady fr hf sky fun h3 f3 u3 => ?_
    exact Cls.run hs hf tk ⟨J.ofTry ok, nb, up.trans u3, na, os, ag, f3⟩ hc w
end
end LP
/-! LpM: raise and try over plain data. -/
namespace LP
open PySem PySem.Spec PyProof.Rows L2
/-- an exception class with one field: how it is made, how it is read -/
structure Exn (K : PySem.W.Frag) (prog : Program) (mg : Str → Option Value) (c fl : Str) : Prop where
  made : ∃ C, mg c = some (.ref C) ∧ ∀ {X : Cx} {k : Nat} {e : Expr} {ta : TA} {p pos : Pos}, X.K = K → X.prog = prog → X.mg = mg → Room (k + 1) X.A → Gl X c → PA X [e] ta →
    starEach [e] X.env = (false, eval e X.env) :: starEach [] X.env → PMk X (.Call (.Name c p) [e] [] pos) (tMkE C fl ta)
  xf : ∀ C, mg c = some (.ref C) → XfC K C ∧ PySem.W.findIn K (.ref C) fl = some none
/-- all of them: tab tells each class's field; they are of the class base -/
structure ExT (K : PySem.W.Frag) (prog : Program) (mg : Str → Option Value) (tab : List (Str × Str)) (base : Str) : Prop where
  cls : ∀ p ∈ tab, Exn K prog mg p.1 p.2
  sub : ∀ p ∈ tab, ∀ (x : Str) (C Y : Addr), x = base ∨ x ∈ tab.map (·.1) → mg p.1 = some (.ref C) → mg x = some (.ref Y) → PySem.W.exmOne K (.ref C) (.ref Y) = some (x == p.1 || x == base)
section
variable {X : Cx} {G : Cfg} {W : WX} {σ : L2.St} {δ : DE} {M M' M1 M2 : Imm} {r r' r1 r2 : List Addr} {h h' h1 h2 : Bx} {H H' H1 H2 : Hp} {E : Ends}
variable {e c : Expr} {f g : EF} {tg : Expr} {fs : DE → Bx → R (List D)} {pos : Pos}
/-- a new object, known to nobody -/
theorem BS.newO (b : BS G M r h δ σ H) {p : Addr} {o : HO} (hp : H p = none) : BS G M r h δ σ (upd H p o) := by
  refine ⟨fun c u e => ⟨(b.mok c u e).1, upd_new hp (b.mok c u e).2⟩, ⟨b.bx.len, b.bx.nd, fun k c ds e1 e2 => ?_⟩, b.tb.ext fun a u e => upd_new hp e, b.len, fun i s x e1 e2 => ?_, b.sep, b.le, b.pre, b.new, fun c u e t nr => upd_new hp (b.keep c u e t nr), b.nf⟩
  · obtain ⟨m', z, vs, q', t⟩ := b.bx.at_ k c ds e1 e2
    exact ⟨m', z, vs, upd_new hp q', t⟩
  · exact (b.sl i s x e1 e2).mono Le.refl List.prefix_rfl fun a vs m q n => ⟨m, n, upd_new hp q⟩
/-- raise C(e) -/
def raiseS (c fl : Str) (f : EF) : SF := fun δ h => (f δ h).toS δ fun d h1 => if isV d = true then .exc c [(fl, d)] δ h1 else .bad
theorem es_raise {k : Nat} {cn fl : Str} {p p2 : Pos} (T : Exn X.K X.prog X.mg cn fl) (hG : X.mg = G.mg) (hc : X.calm = true) (tk : Takes X W) (hr : Room (k + 1) X.A) (hg : Gl X cn) (he : Ev X G W e f) (hs : starEach [e] X.env = (false, eval e X.env) :: starEach [] X.env := by rfl) :
    Es X G W (.Raise (some (.Call (.Name cn p) [e] [] p2)) none pos) (raiseS cn fl f) := by
  obtain ⟨C, mC, mk⟩ := T.made
  refine PS.imp (ps_raise hc tk (mk rfl rfl rfl hr hg (pa_cons he pa_nil hs) hs)) fun E σ H q => ?_
  obtain ⟨M, r, h, δ, b, q⟩ := q
  refine ⟨M, r, h, δ, b, (AfterS.expr (rl := rV G.J) b q).more fun v H1 ⟨d, M1, r1, h1, s1, b1, rv, q1⟩ => ?_⟩
  refine ⟨v, rfl, fun dx hd => ?_⟩
  by_cases iv : isV d = true
  · rw [if_pos iv] at q1
    refine q1 C (some dx) M1 r1 σ _ (hG ▸ mC) Le.refl List.prefix_rfl (b1.newO hd) ⟨dx, [v], rfl, upd_same, v, [], rfl, ?_, rfl⟩
    cases d with
    | loc i => cases iv
    | _ => exact rv
  · rw [if_neg iv] at q1; exact q1.elim
/-! ### try -/
/-- the first clause that takes c -/
def hitH {α : Type} (c base : Str) : List (Str × α) → Option α
  | [] => none
  | p :: ps => if (p.1 == c || p.1 == base) = true then some p.2 else hitH c base ps
/-- a suite raises nothing -/
def noX (x : RS) : RS := match x with
  | .exc _ _ _ _ => .bad
  | x => x
theorem AfterS.noX {G : Cfg} {W : WX} {M : Imm} {r : List Addr} {x : RS} {E : Ends} (q : AfterS G W M r (LP.noX x) E) : AfterS G W0 M r x E := by
  cases x with
  | exc c fs δ h => exact q.elim
  | _ => exact q
/-- what the clauses make of the exception c with the fields fs -/
def catchS (tab : List (Str × Str)) (base : Str) (hs : List (Str × (List (Str × D) → SF))) (c : Str) (fs : List (Str × D)) : SF := fun δ h =>
  if (tab.map (·.1)).contains c = true then match hitH c base hs with
    | some s => noX (s fs δ h)
    | none => .exc c fs δ h
  else .bad
def tryS (tab : List (Str × Str)) (base : Str) (body : SF) (hs : List (Str × (List (Str × D) → SF))) : SF := fun δ h => match body δ h with
  | .exc c fs δ' h' => catchS tab base hs c fs δ' h'
  | x => x
/-- the wish of a suite that knows the exception: slot i holds it -/
def tX (G : Cfg) (a : Addr) (cls : Value) (d : Option Addr) (i : Nat) (tab : List (Str × Str)) (base x : Str) (sf : List (Str × D) → SF) : TS := fun E σ H => ∃ M r h δ fs C fl, BS G M r h δ σ H ∧ (i < σ.length → σ[i]? = some (some (.ref a))) ∧ cls = .ref C ∧ XfC G.K C ∧
  PySem.W.findIn G.K (.ref C) fl = some none ∧ (∃ c, (c, fl) ∈ tab ∧ (x == c || x == base) = true ∧ G.mg c = some (.ref C)) ∧ ExcAt G.J M r H fs d ∧ AfterS G W0 M r (sf fs δ h) E
/-- behind a suite: the slot is empty -/
def dropE (i : Nat) (x : RS) : RS := match x with
  | .nx δ h => .nx (δ.set i .no) h
  | .bk δ h => .bk (δ.set i .no) h
  | .ct δ h => .ct (δ.set i .no) h
  | x => x
theorem BS.emptied (b : BS G M r h δ σ H) (i : Nat) (o : Option V) : BS G M r h (δ.set i .no) (σ.set i o) H := by
  refine b.weak (by rw [List.length_set, List.length_set]; exact b.len) fun j s e => ?_
  by_cases hj : i = j
  · subst hj
    by_cases hi : i < δ.length
    · rw [List.getElem?_set_self hi] at e
      cases e; exact .inl rfl
    · rw [List.getElem?_eq_none (by rw [List.length_set]; omega)] at e; cases e
  · rw [List.getElem?_set_ne hj] at e
    exact .inr ⟨e, List.getElem?_set_ne hj⟩
inductive HsOk (X : Cx) (G : Cfg) (tab : List (Str × Str)) (base : Str) : List ExceptHandler → List (Str × (List (Str × D) → SF)) → Prop
  | nil : HsOk X G tab base [] []
  | one {x : Str} {p q : Pos} {b : Stmt} {bs : List Stmt} {sf : SF} {hds : List ExceptHandler} {hs : List (Str × (List (Str × D) → SF))} (hg : Gl X x) (hm : ∃ C, X.mg x = some (.ref C)) (hd : (x == ("__debug__" : Str)) = false)
      (su : ∀ (a : Addr) (oe : Obj) (pn : List (Addr × Obj)), Ess (X.suite a ((a, oe) :: pn)) G W0 (b :: bs) sf) (r : HsOk X G tab base hds hs) :
      HsOk X G tab base (.ExceptHandler (some (.Name x p)) none (b :: bs) q :: hds) ((x, fun _ => sf) :: hs)
  | as_ {x n : Str} {i : Nat} {p q : Pos} {b : Stmt} {bs : List Stmt} {sf : List (Str × D) → SF} {hds : List ExceptHandler} {hs : List (Str × (List (Str × D) → SF))} (hg : Gl X x) (hm : ∃ C, X.mg x = some (.ref C)) (hd : (x == ("__debug__" : Str)) = false)
      (hN : X.N.Nodup) (hi : X.N[i]? = some n) (hl : X.env.scope.names.lookup n = some .local)
      (su : ∀ (a : Addr) (oe : Obj) (cls : Value) (d : Option Addr) (pn : List (Addr × Obj)), Zc cls d oe → (∃ vs, oe.data = .fields vs) → PSs (X.suite a ((a, oe) :: pn)) (b :: bs) (tX G a cls d i tab base x sf)) (r : HsOk X G tab base hds hs) :
      HsOk X G tab base (.ExceptHandler (some (.Name x p)) (some n) (b :: bs) q :: hds) ((x, fun fs δ h => dropE i (sf fs (δ.set i .no) h)) :: hs)
theorem names_of {x : Str} {C : Addr} (hg : Gl X x) (hm : X.mg x = some (.ref C)) (hd : (x == ("__debug__" : Str)) = false) : Names X x (.ref C) := ⟨hg, hd, .inl hm⟩
theorem excAt_drop {J : Jd} {fs : List (Str × D)} {d : Option Addr} (q : ExcAt J M r H fs d) (le : Le M M') (pr : r <+: r') : ExcAt J M' r' H fs d := by
  cases fs with
  | nil => exact q
  | cons p ps =>
    obtain ⟨dx, vs, e1, e2, t⟩ := q
    exact ⟨dx, vs, e1, e2, Reps.mono le pr _ _ t⟩
theorem AfterS.dropE {i : Nat} {x : RS} (q : AfterS G W M r (LP.dropE i x) E) : AfterS G W M r x ⟨fun s h => E.nx (s.set i none) h, E.rt, fun s h => E.bk (s.set i none) h, fun s h => E.ct (s.set i none) h⟩ := by
  cases x with
  | nx δ h => exact fun M' r' σ H a c b => q M' r' _ H a c (b.emptied i none)
  | bk δ h => exact fun M' r' σ H a c b => q M' r' _ H a c (b.emptied i none)
  | ct δ h => exact fun M' r' σ H a c b => q M' r' _ H a c (b.emptied i none)
  | rt d h => exact q
  | exc c fs δ h => exact q
  | bad => exact q
/-- nothing leaves a suite but by its end -/
theorem AfterS.w0 {x : RS} (q : AfterS G W0 M r x E) : AfterS G W M r x E := by
  cases x with
  | exc c fs δ h => exact fun C dd M' r' σ H m a b c e => (q C dd M' r' σ H m a b c e).elim
  | _ => exact q
/-- the clauses' readings -/
theorem hs_read {tab : List (Str × Str)} {base : Str} {hds : List ExceptHandler} {hs : List (Str × (List (Str × D) → SF))} (T : ExT X.K X.prog X.mg tab base) (hK : X.K = G.K) (hG : X.mg = G.mg) (hx : ∀ p ∈ hs, p.1 = base ∨ p.1 ∈ tab.map (·.1)) (k : HsOk X G tab base hds hs) :
    ∃ l, Cls X hds l ∧ ∀ (c fl : Str) (fs : List (Str × D)) (C : Addr) (dd : Option Addr) (M : Imm) (r : List Addr) (h : Bx) (δ : DE) (σ : L2.St) (H : Hp) (E : Ends), (c, fl) ∈ tab → G.mg c = some (.ref C) → BS G M r h δ σ H → ExcAt G.J M r H fs dd →
      (match hitH c base hs with
        | some s => AfterS G W0 M r (s fs δ h) E
        | none => W (.ref C) dd σ H) → wMany X.K W E l (.ref C) dd σ H := by
  induction k with
  | nil => exact ⟨[], .nil, fun c fl fs C dd M r h δ σ H E _ _ _ _ q => q⟩
  | @one x p q b bs sf hds hs hg hm hd su _ ih =>
    obtain ⟨l, hl, ih⟩ := ih fun p hp => hx p (List.mem_cons_of_mem _ hp)
    obtain ⟨Y, mY⟩ := hm
    refine ⟨(.ref Y, fun _ _ _ => tS G W0 sf) :: l, .cons (.one (names_of hg mY hd) fun a oe cls d pn _ _ => su a oe pn) hl, fun c fl fs C dd M r h δ σ H E ht mC bs ea z => ?_⟩
    have sb := T.sub (c, fl) ht x C Y (hx _ List.mem_cons_self) (hG ▸ mC) mY
    refine ⟨_, sb, fun e a na => ?_, fun e => ?_⟩
    · have e : (x == c || x == base) = true := e
      unfold hitH at z
      rw [if_pos e] at z
      exact ⟨M, r, h, δ, bs, z⟩
    · have e : (x == c || x == base) = false := e
      unfold hitH at z
      rw [if_neg (by rw [e]; decide)] at z
      exact ih c fl fs C dd M r h δ σ H E ht mC bs ea z
  | @as_ x n i p q b bs sf hds hs hg hm hd hN hi hl' su _ ih =>
    obtain ⟨l, hl, ih⟩ := ih fun p hp => hx p (List.mem_cons_of_mem _ hp)
    obtain ⟨Y, mY⟩ := hm
    refine ⟨(.ref Y, asW i fun a cls d => tX G a cls d i tab base x sf) :: l, .cons (.as_ (names_of hg mY hd) hN hi hl' fun a oe cls d pn z1 z2 => su a oe cls d pn z1 z2) hl, fun c fl fs C dd M r h δ σ H E ht mC bs ea z => ?_⟩
    have sb := T.sub (c, fl) ht x C Y (hx _ List.mem_cons_self) (hG ▸ mC) mY
    refine ⟨_, sb, fun e a na => ?_, fun e => ?_⟩
    · have e : (x == c || x == base) = true := e
      unfold hitH at z
      rw [if_pos e] at z
      have xf := (T.cls (c, fl) ht).xf C (hG ▸ mC)
      rw [hK] at xf
      refine ⟨M, r, h, δ.set i .no, fs, C, fl, bs.emptied i _, fun hl => List.getElem?_set_self (by simpa using hl), rfl, xf.1, xf.2, ⟨c, ht, e, mC⟩, ea, AfterS.dropE z⟩
    · have e : (x == c || x == base) = false := e
      unfold hitH at z
      rw [if_neg (by rw [e]; decide)] at z
      exact ih c fl fs C dd M r h δ σ H E ht mC bs ea z
theorem es_try {tab : List (Str × Str)} {base : Str} {body : List Stmt} {hd : ExceptHandler} {hds : List ExceptHandler} {hs : List (Str × (List (Str × D) → SF))} {sf : SF} (T : ExT X.K X.prog X.mg tab base) (hK : X.K = G.K) (hG : X.mg = G.mg)
    (hx : (hs.map (·.1)).all (fun x => x == base || (tab.map (·.1)).contains x) = true) (hs1 : X.stack = X.env :: X.outer) (hf : X.env.frame = some X.env.locals) (tk : Takes X W)
    (hb : ∀ (W' : WX) (pn : List (Addr × Obj)) (xe : Value → Shared → Prop), Takes (X.tr pn xe) W' → PassesOwn (model X.prog X.w) X.A X.env xe → Ess (X.tr pn xe) G W' body sf) (k : HsOk X G tab base (hd :: hds) hs) :
    Es X G W (.Try body (hd :: hds) [] [] pos) (tryS tab base sf hs) := by
  have hx : ∀ p ∈ hs, p.1 = base ∨ p.1 ∈ tab.map (·.1) := fun p hp => by
    have z := List.all_eq_true.mp hx p.1 (List.mem_map.mpr ⟨p, hp, rfl⟩)
    rw [Bool.or_eq_true] at z
    exact z.imp (fun y => eq_of_beq y) (fun y => List.contains_iff_mem.mp y)
  obtain ⟨l, hl, rd⟩ := hs_read (W := W) T hK hG hx k
  refine PS.imp (ps_tryA hs1 hf tk hb hl) fun E σ H q => ?_
  obtain ⟨M, r, h, δ, b, q⟩ := q
  refine ⟨M, r, h, δ, b, ?_⟩
  unfold tryS at q
  cases z : sf δ h with
  | nx δ' h' => rw [z] at q; exact q
  | rt d h' => rw [z] at q; exact q
  | bk δ' h' => rw [z] at q; exact q
  | ct δ' h' => rw [z] at q; exact q
  | bad => rw [z] at q; exact q
  | exc c fs δ' h' =>
    rw [z] at q
    simp only at q
    unfold catchS at q
    split at q
    · rename_i hc
      obtain ⟨⟨c', fl⟩, ht, rfl⟩ := List.mem_map.mp (List.contains_iff_mem.mp hc)
      intro C dd M' r' σ' H' mC le pr b' ea
      refine rd c' fl fs C dd M' r' h' δ' σ' H' E ht mC b' ea ?_
      split at q
      · rename_i s e
        rw [show hitH c' base hs = some s from e]
        exact (AfterS.from le pr q).noX
      · rename_i e
        rw [show hitH c' base hs = none from e]
        exact q C dd M' r' σ' H' mC le pr b' ea
    · exact q.elim
/-! ### suites that read the exception's field -/
/-- e.f in a suite -/
theorem pe_xn {a : Addr} {oe : Obj} {cls : Value} {d : Option Addr} {pn : List (Addr × Obj)} {n fl : Str} {i : Nat} {p1 p2 : Pos} (hz : Zc cls d oe) (hf : ∃ vs, oe.data = .fields vs) (hN : X.N[i]? = some n) (hv : X.env.scope.names.lookup n = some .local)
    (hd : (n == ("__debug__" : Str)) = false := by decide) (hcd : (n == ("__classdict__" : Str)) = false := by decide) (hb : attributeBase (.Name n p1) fl X.env (eval (.Name n p1) X.env) = eval (.Name n p1) X.env := by rfl) :
    PE (X.suite a ((a, oe) :: pn)) (.Attribute (.Name n p1) fl p2) (fun σ H Q => (i < σ.length → σ[i]? = some (some (.ref a))) ∧ ∃ C dd fs v, cls = .ref C ∧ XfC X.K C ∧ PySem.W.findIn X.K (.ref C) fl = some none ∧ d = some dd ∧ H dd = some (.xd fs) ∧ fs.lookup fl = some v ∧ Q v H) := by
  refine ⟨fun pins s σ H Q I h => ?_⟩
  obtain ⟨hl, C, dd, fs, v, ec, T, nf, ed, e1, e2, q⟩ := h
  have ln := I.len
  have hi : i < σ.length := by rw [ln]; exact (List.getElem?_eq_some_iff.mp hN).1
  refine (pe_xf T nf hz hf (pe_var (X := X.suite a ((a, oe) :: pn)) hN (.inl hv) hd hcd) hb).run pins s σ H Q I ?_
  exact ⟨.ref a, hl hi, rfl, ec, dd, fs, v, ed, e1, e2, q⟩
/-- a constant of a suite -/
inductive KD : Expr → D → V → Prop
  | int {i : Int} {j : Nat} {p : Pos} : KD (.Constant (.int i) j p) (.int i) (.int i)
  | str {i : Str} {j : Nat} {p : Pos} : KD (.Constant (.str i) j p) (.str i) (.str i)
theorem KD.pe {e : Expr} {d : D} {v : V} (k : KD e d v) : PE X e (tC v) := by
  cases k with
  | int => exact pe_int
  | str => exact pe_str
theorem KD.rep {e : Expr} {d : D} {v : V} (k : KD e d v) {J : Jd} : Rep J M r d v := by
  cases k with
  | int => rfl
  | str => rfl
/-- (k, e.f) in a suite -/
def xtF (fl : Str) (kd : D) (fs : List (Str × D)) : EF := fun _ h => match fs.lookup fl with
  | some d => if isV d = true then .ok (.tup [kd, d]) h else .bad
  | none => .bad
theorem zip_lookup {J : Jd} {fl : Str} {d : D} : ∀ (fs : List (Str × D)) (vs : List V), Reps J M r (fs.map (·.2)) vs → fs.lookup fl = some d → ∃ v, ((fs.map (·.1)).zip vs).lookup fl = some v ∧ Rep J M r d v
  | [], _, _, e => by cases e
  | (f, x) :: fs, vs, t, e => by
    obtain ⟨v, vt, rfl, h1, h2⟩ := t
    rw [List.lookup_cons] at e
    show ∃ w, List.lookup fl ((f, v) :: (fs.map (·.1)).zip vt) = some w ∧ _
    rw [List.lookup_cons]
    cases z : fl == f with
    | true =>
      rw [z] at e
      cases e
      exact ⟨v, rfl, h1⟩
    | false =>
      rw [z] at e
      exact zip_lookup fs vt h2 e
theorem x_tup {a : Addr} {oe : Obj} {cls : Value} {d : Option Addr} {pn : List (Addr × Obj)} {n fl : Str} {i : Nat} {p1 p2 p3 : Pos} {x1 : Nat} {ke : Expr} {kd : D} {kv : V} (hz : Zc cls d oe) (hf : ∃ vs, oe.data = .fields vs) (k : KD ke kd kv) (hN : X.N[i]? = some n) (hv : X.env.scope.names.lookup n = some .local)
    (hb : attributeBase (.Name n p1) fl X.env (eval (.Name n p1) X.env) = eval (.Name n p1) X.env := by rfl) (hd : (n == ("__debug__" : Str)) = false := by decide) (hcd : (n == ("__classdict__" : Str)) = false := by decide)
    (hs1 : starEach [ke, .Attribute (.Name n p1) fl p2] X.env = (false, eval ke X.env) :: starEach [.Attribute (.Name n p1) fl p2] X.env := by rfl) (hs2 : starEach [.Attribute (.Name n p1) fl p2] X.env = (false, eval (.Attribute (.Name n p1) fl p2) X.env) :: starEach [] X.env := by rfl) :
    PE (X.suite a ((a, oe) :: pn)) (.Tuple [ke, .Attribute (.Name n p1) fl p2] x1 p3) (fun σ H Q => (i < σ.length → σ[i]? = some (some (.ref a))) ∧ ∃ C dd fs v, cls = .ref C ∧ XfC X.K C ∧ PySem.W.findIn X.K (.ref C) fl = some none ∧ d = some dd ∧ H dd = some (.xd fs) ∧ fs.lookup fl = some v ∧
      ∀ p, H p = none → Q (.ref p) (upd H p (.tup [kv, v]))) := by
  refine PE.imp (pe_tup (pa_cons (X := X.suite a ((a, oe) :: pn)) k.pe (pa_cons (X := X.suite a ((a, oe) :: pn)) (pe_xn hz hf hN hv hd hcd hb) pa_nil hs2) hs1)) fun σ H Q q => ?_
  obtain ⟨h1, C, dd, fs, v, h2, h3, h4, h5, h6, h7, q⟩ := q
  exact ⟨h1, C, dd, fs, v, h2, h3, h4, h5, h6, h7, by show 2 ≤ sizeLine; decide, q⟩
/-- except C as n: return (k, n.f) -/
theorem su_ret {a : Addr} {oe : Obj} {cls : Value} {d : Option Addr} {pn : List (Addr × Obj)} {n fl : Str} {i : Nat} {tab : List (Str × Str)} {base x : Str} {p1 p2 p3 : Pos} {x1 : Nat} {ke : Expr} {kd : D} {kv : V} (hK : X.K = G.K) (hz : Zc cls d oe) (hf : ∃ vs, oe.data = .fields vs) (k : KD ke kd kv) (hN : X.N[i]? = some n) (hv : X.env.scope.names.lookup n = some .local)
    (ht : tab.all (fun p => !(x == p.1 || x == base) || p.2 == fl) = true)
    (hb : attributeBase (.Name n p1) fl X.env (eval (.Name n p1) X.env) = eval (.Name n p1) X.env := by rfl) (hd : (n == ("__debug__" : Str)) = false := by decide) (hcd : (n == ("__classdict__" : Str)) = false := by decide)
    (hs1 : starEach [ke, .Attribute (.Name n p1) fl p2] X.env = (false, eval ke X.env) :: starEach [.Attribute (.Name n p1) fl p2] X.env := by rfl) (hs2 : starEach [.Attribute (.Name n p1) fl p2] X.env = (false, eval (.Attribute (.Name n p1) fl p2) X.env) :: starEach [] X.env := by rfl) :
    PSs (X.suite a ((a, oe) :: pn)) [.Return (some (.Tuple [ke, .Attribute (.Name n p1) fl p2] x1 p3)) pos] (tX G a cls d i tab base x fun fs => retS (xtF fl kd fs)) := by
  refine pss_one (PS.imp (ps_ret (x_tup hz hf k hN hv hb hd hcd hs1 hs2)) fun E σ H q => ?_)
  obtain ⟨M, r, h, δ, fs, C, fl', b, h1, h2, h3, h4, ⟨c, ht', hx, mC⟩, ea, q⟩ := q
  have hfl : fl' = fl := by
    have y := List.all_eq_true.mp ht _ ht'
    simp only [hx, Bool.not_true, Bool.false_or] at y
    exact eq_of_beq y
  subst hfl
  rw [hK]
  unfold retS xtF at q
  cases z : fs.lookup fl' with
  | none => simp only [z] at q; exact q.elim
  | some xd =>
    simp only [z] at q
    split at q
    · rename_i iv
      have ne : fs ≠ [] := fun y => by subst y; cases z
      have ea : ∃ dx vs, d = some dx ∧ H dx = some (.xd ((fs.map (·.1)).zip vs)) ∧ Reps G.J M r (fs.map (·.2)) vs := by
        cases fs with
        | nil => exact (ne rfl).elim
        | cons _ _ => exact ea
      obtain ⟨dx, vs, e1, e2, t⟩ := ea
      obtain ⟨v, e3, rv⟩ := zip_lookup fs vs t z
      refine ⟨h1, C, dx, _, v, h2, h3, h4, e1, e2, e3, fun p hp => ?_⟩
      obtain ⟨b', s⟩ := b.laid (o := .tup [kv, v]) hp (by show 2 ≤ big; decide)
      exact q _ _ _ _ _ _ s.le s.pre b' ⟨p, _, rfl, .inl updM_same, kv, _, rfl, k.rep, v, _, rfl, Rep.mono s.le s.pre _ _ rv, rfl⟩
    · exact q.elim
end
end LP
/-! LpN: calls by keywords, calls without arguments. -/
namespace LP
open PySem PySem.Spec PyProof.Rows L2
section
variable {X : Cx} {G : Cfg} {W : WX} {σ : L2.St} {δ : DE} {M M' M1 M2 : Imm} {r r' r1 r2 : List Addr} {h h' h1 h2 : Bx} {H H' H1 H2 : Hp} {E : Ends}
variable {e c : Expr} {f g : EF} {tg : Expr} {fs : DE → Bx → R (List D)} {pos : Pos}
theorem PK.imp {kws : List Keyword} {t t' : TA} (p : PK X kws t) (f : ∀ σ H Q, t' σ H Q → t σ H Q) : PK X kws t' := ⟨fun pos pins s σ H Q I h => p.run pos pins s σ H Q I (f σ H Q h)⟩
/-- the keywords' values, as they are written -/
def EvK (X : Cx) (G : Cfg) (W : WX) (kws : List Keyword) (fs : DE → Bx → R (List D)) : Prop := PK X kws (tG G W (rVs G.J) fs)
theorem evk_nil : EvK X G W [] nilA := PK.imp pk_nil fun σ H Q q => by
  obtain ⟨M, r, h, δ, b, q⟩ := q
  exact q.now b rfl
theorem evk_cons {kws : List Keyword} {nm : Option Str} {kpos : Pos} (ha : Ev X G W e f) (hr : EvK X G W kws fs) : EvK X G W (⟨nm, e, kpos⟩ :: kws) (consA f fs) :=
  PK.imp (pk_cons ha hr) fun σ H Q q => by
    obtain ⟨M, r, h, δ, b, q⟩ := q
    refine ⟨M, r, h, δ, b, (After.bind q).more fun x H1 ⟨dx, M1, r1, h1, s1, b1, rx, q1⟩ => ?_⟩
    refine ⟨M1, r1, h1, δ, b1, (After.bind q1).more fun xs H2 ⟨ds, M2, r2, h2, s2, b2, rs, q2⟩ => ?_⟩
    exact q2.now b2 ⟨x, xs, rfl, RepV.mono s2.le s2.pre rx, rs⟩
/-- some of a list, by their places -/
def pickL {α : Type} (ix : List Nat) (l : List α) : List α := ix.filterMap fun i => l[i]?
theorem pickL_len {α : Type} {l : List α} : ∀ {ix : List Nat}, (∀ i ∈ ix, i < l.length) → (pickL ix l).length = ix.length
  | [], _ => rfl
  | i :: ix, h => by
    have hi := h i List.mem_cons_self
    have ih := pickL_len (l := l) (ix := ix) fun j hj => h j (List.mem_cons_of_mem _ hj)
    unfold pickL at ih ⊢
    rw [List.filterMap_cons, List.getElem?_eq_getElem hi]
    simp only [List.length_cons, ih]
theorem RepVs.at_ {J : Jd} : ∀ {ds : List D} {vs : List V} {i : Nat} {d : D}, RepVs J M r δ σ ds vs → ds[i]? = some d → ∃ v, vs[i]? = some v ∧ RepV J M r δ σ d v
  | [], _, _, _, _, e => by simp at e
  | d :: ds, _, 0, _, h, e => by
    obtain ⟨v, vt, rfl, h1, _⟩ := h
    simp at e; subst e
    exact ⟨v, rfl, h1⟩
  | d :: ds, _, i + 1, _, h, e => by
    obtain ⟨v, vt, rfl, _, h2⟩ := h
    obtain ⟨v', e', q⟩ := RepVs.at_ (i := i) h2 (by simpa using e)
    exact ⟨v', by simpa using e', q⟩
theorem pickL_rep {J : Jd} {ds : List D} {vs : List V} (t : RepVs J M r δ σ ds vs) : ∀ {ix : List Nat}, (∀ i ∈ ix, i < ds.length) → RepVs J M r δ σ (pickL ix ds) (pickL ix vs)
  | [], _ => rfl
  | i :: ix, h => by
    have hi := h i List.mem_cons_self
    have ih := pickL_rep t (ix := ix) fun j hj => h j (List.mem_cons_of_mem _ hj)
    obtain ⟨v, e, rv⟩ := t.at_ (List.getElem?_eq_getElem hi)
    unfold pickL at ih ⊢
    rw [List.filterMap_cons, List.filterMap_cons, List.getElem?_eq_getElem hi, e]
    exact ⟨v, _, rfl, rv, ih⟩
theorem pickL_vals : ∀ {ix : List Nat} {vs : List V} {us : List Value}, Vals vs us → Vals (pickL ix vs) (pickL ix us)
  | [], _, _, _ => .nil
  | i :: ix, vs, us, r => by
    have ih := pickL_vals (ix := ix) r
    unfold pickL at ih ⊢
    rw [List.filterMap_cons, List.filterMap_cons]
    cases e : vs[i]? with
    | none => rw [r.none_of e]; exact ih
    | some x =>
      obtain ⟨u, e1, e2⟩ := r.get e
      rw [e1]
      exact .cons e2 ih
/-- how a call by keywords alone binds: the parameter at j takes the keyword at ix j -/
def KwB (fd : FuncData) (ps ks : List Str) (ix : List Nat) : Prop := ∀ (s : Shared) (ws : List Value), ws.length = ks.length → BindsTo s fd ⟨[], ks.zip ws⟩ (ps.zip (pickL ix ws))
theorem kwB_of {K : PySem.W.Frag} {x qual : Str} {st : Stmt} {f : Addr} {fd : FuncData} {ps ks : List Str} {ix : List Nat} (F : Fun K x qual st f fd)
    (h : ∀ (kV doc pm : Value) (an : Option Addr) (cdv ct : Value) (ws : List Value), ws.length = ks.length → bindArgs (PySem.W.fnOf x qual (defArgs st) (defBody st) (defScope st) .none kV doc pm an cdv ct) ⟨[], ks.zip ws⟩ = pure (ps.zip (pickL ix ws))) : KwB fd ps ks ix := by
  obtain ⟨oc, od, kV, doc, pm, an, cdv, ct, osl, rfl, lk, hcd⟩ := F.ex
  exact fun s ws hl => .of_eq (h kV doc pm an cdv ct ws hl)
def callKwF (n : Nat) (ix : List Nat) (F : List D → Bx → R D) (fs : DE → Bx → R (List D)) : EF := fun δ h => (fs δ h).bind fun ds h1 => if (decide (ds.length = n) && ds.all isV) = true then F (pickL ix ds) h1 else .bad
theorem ev_callKw {k n : Nat} {fa : Addr} {fd : FuncData} {ps ks : List Str} {ix : List Nat} {x : Str} {p : Pos} {kws : List Keyword} {F : List D → Bx → R D} (FF : FnOk X.prog X.w X.K X.mg X.base (L2.CX X.prog X.w) k fa fd ps (spF G.K G.mg G.T ps.length F)) (hr : Room k X.A) (tk : Takes X W)
    (hg : Gl X x) (hm : X.mg x = some (.ref fa)) (hk : PySem.W.keepIn X.K (.ref fa) = true) (hb : KwB fd ps ks ix) (hix : ix.all (fun i => decide (i < ks.length)) = true ∧ ix.length = ps.length)
    (ha : EvK X G W kws fs) (hn : ks.length = n := by rfl) (hdb : (x == ("__debug__" : Str)) = false := by decide) (hall : (backToKw pos (keywordEach kws X.env)).all (·.1.isSome) = true := by rfl) (hks : (backToKw pos (keywordEach kws X.env)).filterMap (·.1) = ks := by rfl)
    (hpl : ((backTo pos (starEach [] X.env)).any (·.1) || (backToKw pos (keywordEach kws X.env)).any (·.1.isNone)) = false := by rfl) :
    Ev X G W (.Call (.Name x p) [] kws pos) (callKwF n ix F fs) := by
  subst hn
  refine ⟨fun pins s σ H Q I h => ?_⟩
  obtain ⟨M, r, h, δ, b, q⟩ := h
  refine wpAny_Call_Name_kw (ld_glob I hg hm ?_ hdb)
  refine PySem.W.callWith_KW0 (h₀ := X.base) I.ok.mod.kin hk hall (thn (ha.run pos pins s σ H (fun vs H1 => ∃ ds M1 r1 h1, BS G M1 r1 h1 δ σ H1 ∧ RepVs G.J M1 r1 δ σ ds vs ∧ After G W σ δ (rV G.J δ σ) M1 r1 H1 (if (decide (ds.length = ks.length) && ds.all isV) = true then F (pickL ix ds) h1 else .bad) Q) I
    ⟨M, r, h, δ, b, (After.bind q).more fun vs H1 ⟨ds, M1, r1, h1, s1, b1, rv, q1⟩ => ⟨ds, M1, r1, h1, b1, rv, q1⟩⟩) fun ws s2 ⟨vs, H1, I1, rz, ds, M1, r1, h1, b1, rv, q1⟩ => ⟨I1.kIn, ?_⟩) hpl
  rw [hks]
  split at q1
  · rename_i z
    rw [Bool.and_eq_true, decide_eq_true_eq] at z
    have lv : vs.length = ks.length := by rw [rv.length]; exact z.1
    have lw : ws.length = ks.length := by rw [← rz.length]; exact lv
    have hin : ∀ i ∈ ix, i < ks.length := fun i hi => by
      have y := List.all_eq_true.mp hix.1 i hi
      exact of_decide_eq_true y
    have rp := pickL_rep rv (ix := ix) fun i hi => by rw [z.1]; exact hin i hi
    have ln : (pickL ix ds).length = ps.length := by rw [pickL_len fun i hi => by rw [z.1]; exact hin i hi]; exact hix.2
    have allV : (pickL ix ds).all isV = true := by
      rw [List.all_eq_true]
      intro d hd
      unfold pickL at hd
      obtain ⟨i, _, hi⟩ := List.mem_filterMap.mp hd
      exact List.all_eq_true.mp z.2 d (List.mem_of_getElem? hi)
    have sp : spF G.K G.mg G.T ps.length F (pickL ix vs) H1 Q (WE W σ) := call_sp b1 rp (fun _ _ _ => ln) (fun _ _ _ _ => ln) (by rw [if_pos allV]; exact q1)
    refine wpAny_call (codeAny_mono (FF.run X.A X.stack s2 H1 ⟨[], ks.zip ws⟩ (pickL ix ws) (pickL ix vs) Q (WE W σ) hr I1.env0 (hb s2 ws lw) (pickL_vals rz) sp) fun rr s' hq => ?_)
    cases rr with
    | error er => exact passAt tk σ pins H1 s2 er s' I1 hq
    | ok fl =>
      cases fl with
      | ret u => exact I1.after hq
      | next => exact hq.elim
      | brk => exact hq.elim
      | cont => exact hq.elim
  · exact q1.elim
/-- f() -/
theorem ev_call0 {k : Nat} {fa : Addr} {fd : FuncData} {x : Str} {p : Pos} {F : List D → Bx → R D} (FF : FnOk X.prog X.w X.K X.mg X.base (L2.CX X.prog X.w) k fa fd [] (spF G.K G.mg G.T 0 F)) (hr : Room k X.A) (tk : Takes X W)
    (hg : Gl X x) (hm : X.mg x = some (.ref fa)) (hk : PySem.W.keepIn X.K (.ref fa) = true) (hb : Binds X.K fd [] []) (hdb : (x == ("__debug__" : Str)) = false := by decide) :
    Ev X G W (.Call (.Name x p) [] [] pos) (fun _ h => F [] h) := by
  refine ⟨fun pins s σ H Q I h => ?_⟩
  obtain ⟨M, r, h, δ, b, q⟩ := h
  refine wpAny_Call_Name_kw (ld_glob I hg hm ?_ hdb)
  refine PySem.W.callWith_K0 I.kIn hk ?_
  have sp : spF G.K G.mg G.T 0 F [] H Q (WE W σ) := call_sp (ds := []) b rfl (fun _ _ _ => rfl) (fun _ _ _ _ => rfl) q
  refine wpAny_call (codeAny_mono (FF.run X.A X.stack s H ⟨[], []⟩ [] [] Q (WE W σ) hr I.env0 (hb s [] I.kIn rfl) .nil sp) fun rr s' hq => ?_)
  cases rr with
  | error er => exact passAt tk σ pins H s er s' I hq
  | ok fl =>
    cases fl with
    | ret u => exact I.after hq
    | next => exact hq.elim
    | brk => exact hq.elim
    | cont => exact hq.elim
end
end LP
/-! LpO: lambdas without parameters as data. -/
namespace LP
open PySem PySem.Spec PyProof.Rows L2
open PySem.W (kla_obj kla_fn)
section
variable {X : Cx} {G : Cfg} {W : WX} {σ : L2.St} {δ : DE} {M M' M1 M2 : Imm} {r r' r1 r2 : List Addr} {h h' h1 h2 : Bx} {H H' H1 H2 : Hp} {E : Ends}
variable {e c : Expr} {f g : EF} {tg : Expr} {fs : DE → Bx → R (List D)} {pos : Pos}
/-- a known thing is known to be so for good -/
theorem BS.know (b : BS G M r h δ σ H) {p : Addr} {φ : Heap → Prop} (e : H p = some (.ext φ)) : BS G (updM M p (.ext φ)) r h δ σ H ∧ Stp M r H (updM M p (.ext φ)) r H := by
  have le : Le M (updM M p (.ext φ)) := fun a u q => by
    unfold updM
    by_cases z : a = p
    · subst z
      have := (b.mok a u q).2
      rw [e] at this
      rw [if_pos rfl]; exact this
    · rw [if_neg z]; exact q
  have nM : ∀ a, a ≠ p → M a = none → updM M p (.ext φ) a = none := fun a n q => by unfold updM; rw [if_neg n]; exact q
  have nl : ∀ {a : Addr} {vs : List V}, H a = some (.lst vs) → a ≠ p := fun q z => by rw [z, e] at q; cases q
  refine ⟨⟨fun a u q => ?_, ⟨b.bx.len, b.bx.nd, fun n a ds e1 e2 => ?_⟩, b.tb, b.len, fun i s x e1 e2 => ?_, b.sep, b.le.trans le, b.pre, b.new, b.keep, fun a m f n => nM a (fun z => ?_) (b.nf a m f n)⟩, le, List.prefix_rfl, fun a z => .inl z, Keep.refl, fun a m f n => nM a (fun z => ?_) m⟩
  · unfold updM at q
    by_cases z : a = p
    · subst z
      rw [if_pos rfl] at q; cases q
      exact ⟨trivial, e⟩
    · rw [if_neg z] at q
      exact b.mok a u q
  · obtain ⟨m, z, vs, q, t⟩ := b.bx.at_ n a ds e1 e2
    exact ⟨nM a (nl q) m, z, vs, q, Reps.mono le List.prefix_rfl _ _ t⟩
  · exact (b.sl i s x e1 e2).mono le List.prefix_rfl fun a vs m q n => ⟨nM a (nl q) m, n, q⟩
  · obtain ⟨vs, q⟩ := f.fwd b.keep n
    exact nl q z
  · obtain ⟨vs, q⟩ := f
    exact nl q z
/-- a table grows -/
theorem BS.grown (b : BS G M r h δ σ H) (hT : ∀ p ∈ G.T, H p.1 ≠ none) {P : Addr} {ps qs : Array Value} (e : H P = some (.tbl ps)) (tb : LamX.Tabs G.T (upd H P (.tbl qs))) : BS G M r h δ σ (upd H P (.tbl qs)) ∧ Stp M r H M r (upd H P (.tbl qs)) := by
  have ne : ∀ {a : Addr} {u : HO}, H a = some u → (∀ ps, u ≠ .tbl ps) → upd H P (.tbl qs) a = some u := fun q n => by
    rw [upd_ne (fun z => by rw [z, e] at q; cases q; exact n ps rfl)]; exact q
  have nM : ∀ {a : Addr} {u : HO}, M a = some u → ∀ ps, u ≠ .tbl ps := fun q ps z => by
    subst z
    exact (b.mok _ _ q).1
  refine ⟨⟨fun a u q => ⟨(b.mok a u q).1, ne (b.mok a u q).2 (nM q)⟩, ⟨b.bx.len, b.bx.nd, fun n a ds e1 e2 => ?_⟩, tb, b.len, fun i s x e1 e2 => ?_, b.sep, b.le, b.pre, b.new, fun a u q t n => ne (b.keep a u q t n) t, b.nf⟩, Le.refl, List.prefix_rfl, fun a z => .inl z, fun a u q t n => ne q t, fun a m _ _ => m⟩
  · obtain ⟨m, z, vs, q, t⟩ := b.bx.at_ n a ds e1 e2
    exact ⟨m, z, vs, ne q (fun _ z => by cases z), t⟩
  · exact (b.sl i s x e1 e2).mono Le.refl List.prefix_rfl fun a vs m q n => ⟨m, n, ne q (fun _ z => by cases z)⟩
/-! ### the making -/
/-- the lambdas of a def, by their numbers -/
structure LamD where
  params : Arguments
  body : Expr
  scope : Scope
def lamL (tab : List LamD) (env : Env) : LamP := fun k f o c q => ∃ (ld : LamD) (pm ctv : Value), tab[k]? = some ld ∧ q = env.qual ++ "<lambda>" ∧ o = kla_obj "<lambda>" q ld.params ld.body ld.scope (cloFrom env.cells ld.scope.names []) pm c ctv
/-- a lambda of the frame is made: what stands behind it -/
theorem lam_new {pins : List (Addr × Obj)} {s : Shared} {T : List (Addr × Str)} {c P : Addr} {params : Arguments} {body : Expr} {scope : Scope} {E : Value → Shared → Prop} {Q : Value → Shared → Prop} (I : Inv X pins σ H s) (TB : LamX.TabB X.base X.mg c P) (hcode : X.env.code = .ref c)
    (hm : (P, X.env.qual ++ "<lambda>") ∈ T) (hu : ∀ p ∈ T, p.1 = P → p.2 = X.env.qual ++ "<lambda>") (hT : LamX.Tabs T H) (hdef : defaultsOf params X.env = ([], [])) (hfree : ∀ y ∈ scope.names, y.2 = .free → ∃ c, X.env.cells.lookup y.1 = some c)
    (h1 : ∀ (ps : Array Value) (c' f : Addr) (more : Array Value) (pm ctv : Value) (s' : Shared), H P = some (.tbl ps) → H c' = none → c' ≠ P → H f = none → f ≠ c' → f ≠ P → LamX.Tabs T (upd (upd H P (.tbl (ps ++ more))) c' (LamX.CodeO c' (X.env.qual ++ "<lambda>"))) →
      Inv X pins σ (upd (upd (upd H P (.tbl (ps ++ more))) c' (LamX.CodeO c' (X.env.qual ++ "<lambda>"))) f (LamO f (kla_obj "<lambda>" (X.env.qual ++ "<lambda>") params body scope (cloFrom X.env.cells scope.names []) pm c' ctv))) s' → Q (.ref f) s')
    (h2 : ∀ (c' f : Addr) (pm ctv : Value) (s' : Shared), H c' = some (LamX.CodeO c' (X.env.qual ++ "<lambda>")) → H f = none →
      Inv X pins σ (upd H f (LamO f (kla_obj "<lambda>" (X.env.qual ++ "<lambda>") params body scope (cloFrom X.env.cells scope.names []) pm c' ctv))) s' → Q (.ref f) s') :
    wpAny (model X.prog X.w) X.A (eval (.Lambda params body scope pos) X.env) Q E s := by
  have okF : ∀ {G : Hp} {hp : Heap} {f : Addr} {o : Obj}, hp.get? f = some o → ObjOk X.prog X.w G hp f (LamO f o) := fun q => ⟨q, ⟨_, q⟩, fun _ _ y k => k _ y⟩
  obtain ⟨ps, hP, tri, among⟩ := hT _ hm
  have bP : s.heap.BuiltinsAt X.mg P := TB.bm.keeps I.bk
  have atP : s.heap.get? P = some (PySem.W.tabObj ps) := I.hok P _ hP
  have glob := I.mod.glob.keeps I.bk
  have hd := TB.code.keeps I.bk
  have clo := closure_ok hfree
  refine PySem.W.kla_eval hdef ?_
  cases hc : codeAmong pos ps.toList with
  | some cv =>
    obtain ⟨c', rfl, hC⟩ := among pos cv hc
    refine PySem.W.kla_makeFunctionHit (mg := X.mg) clo I.ok.glob glob hcode hd atP tri hc bP fun ctv hp tk up sz => ?_
    have I1 : Inv X pins σ H { s with heap := hp } := I.kept (t' := s.toks) up
    refine h2 c' hp.objs.size ((X.mg "__name__").getD .none) ctv _ hC (I.hok.fresh sz) ?_
    exact I1.laid (t' := tk) (fun _ _ q => Heap.get?_push_of_some _ q) (Nat.le_refl _) (okF (Heap.get?_push_size _ rfl))
  | none =>
    refine PySem.W.kla_makeFunction (mg := X.mg) clo I.ok.glob glob hcode hd atP tri hc TB.gP bP fun c' ctv hp tk up ge lt rec_ tab => ?_
    obtain ⟨c2, oc, vs, t, e2, q1, q2, q3⟩ := rec_
    cases e2
    have nC : H c' = none := I.hok.fresh ge
    have I1 := LamX.inv_table (q := X.env.qual ++ "<lambda>") (t' := tk) (more := #[rawInt pos.line, rawInt pos.col, .ref c']) I hP (fun b o nb q => up b o nb q) tab ge ⟨oc, vs, t, q1, q2, q3⟩
    have PC : P ≠ c' := ne_of_none hP nC
    have sz : s.heap.objs.size ≤ hp.objs.size := Nat.le_trans ge (Nat.le_of_lt lt)
    have nF : H hp.objs.size = none := I.hok.fresh sz
    have fc : hp.objs.size ≠ c' := Nat.ne_of_gt lt
    have fP : hp.objs.size ≠ P := Nat.ne_of_gt (Nat.lt_of_lt_of_le (Heap.lt_size atP) sz)
    refine h1 ps c' hp.objs.size _ ((X.mg "__name__").getD .none) ctv _ hP nC (Ne.symm PC) nF fc fP (fun p hp' => ?_) (I1.laid (t' := tk) (fun _ _ q => Heap.get?_push_of_some _ q) (Nat.le_refl _) (okF (Heap.get?_push_size _ rfl)))
    -- the tables
    have old : ∀ {b : Addr} {o : HO}, H b = some o → (∀ ps, o ≠ .tbl ps) → upd (upd H P (.tbl (ps ++ #[rawInt pos.line, rawInt pos.col, .ref c']))) c' (LamX.CodeO c' (X.env.qual ++ "<lambda>")) b = some o := fun q n => by
      have y : ∀ {b : Addr} {o : HO}, H b = some o → (∀ ps, o ≠ .tbl ps) → b ≠ P := fun {b o} q n z => by
        subst z
        exact n ps (Option.some.inj (q.symm.trans hP))
      rw [upd_ne (ne_of_none q nC), upd_ne (y q n)]
      exact q
    by_cases hb : p.1 = P
    · have eq : p.2 = X.env.qual ++ "<lambda>" := hu p hp' hb
      have app : (ps ++ #[rawInt pos.line, rawInt pos.col, .ref c']).toList = ps.toList ++ [rawInt pos.line, rawInt pos.col, .ref c'] := by simp
      refine ⟨_, by rw [hb, upd_ne PC, upd_same], by rw [app]; exact PySem.TriplesOk_snoc _ _ _ _ tri, fun p' cv y => ?_⟩
      rw [app] at y
      rw [eq]
      rcases LamX.among_app _ tri y with y | y
      · obtain ⟨c0, y1, y2⟩ := among p' cv y
        exact ⟨c0, y1, old y2 LamX.codeO_ne⟩
      · exact ⟨c', y, upd_same⟩
    · obtain ⟨qs, y1, y2, y3⟩ := hT p hp'
      refine ⟨qs, by rw [upd_ne (ne_of_none y1 nC), upd_ne hb]; exact y1, y2, fun p' cv y => ?_⟩
      obtain ⟨c0, z1, z2⟩ := y3 p' cv y
      exact ⟨c0, z1, old z2 LamX.codeO_ne⟩
theorem ev_lam {tab : List LamD} {k : Nat} {ca P : Addr} {params : Arguments} {body : Expr} {scope : Scope} (hL : G.L = lamL tab X.env) (hk : tab[k]? = some ⟨params, body, scope⟩) (TB : LamX.TabB X.base X.mg ca P) (hcode : X.env.code = .ref ca)
    (hm : (P, X.env.qual ++ "<lambda>") ∈ G.T) (hu : ∀ p ∈ G.T, p.1 = P → p.2 = X.env.qual ++ "<lambda>") (L : LamX.LamS X.env.scope scope) (hdef : defaultsOf params X.env = ([], []) := by rfl) :
    Ev X G W (.Lambda params body scope pos) (cF (.lam k)) := by
  refine ⟨fun pins s σ H Q I q => ?_⟩
  obtain ⟨M, r, h, δ, b, q⟩ := q
  have q : ∀ v M' r' H', Stp M r H M' r' H' → BS G M' r' h δ σ H' → RepV G.J M' r' δ σ (.lam k) v → Q v H' := q
  refine lam_new I TB hcode hm hu b.tb hdef (L.has I.ok) (fun ps c' f more pm ctv s' hP nC cP nF fc fP tb I' => ?_) (fun c' f pm ctv s' hC nF I' => ?_)
  · -- a new code object
    have nM : ∀ {a : Addr} {u : HO}, M a = some u → ∀ ps, u ≠ .tbl ps := fun q ps z => by
      subst z
      exact (b.mok _ _ q).1
    have tb0 : LamX.Tabs G.T (upd (upd H P (.tbl (ps ++ more))) c' (LamX.CodeO c' (X.env.qual ++ "<lambda>"))) := tb
    have ne : ∀ {a : Addr} {u : HO}, H a = some u → (∀ ps, u ≠ .tbl ps) → upd (upd H P (.tbl (ps ++ more))) c' (LamX.CodeO c' (X.env.qual ++ "<lambda>")) a = some u := fun {a u} q n => by
      have y : a ≠ P := fun z => by
        subst z
        exact n ps (Option.some.inj (q.symm.trans hP))
      rw [upd_ne (ne_of_none q nC), upd_ne y]
      exact q
    have st0 : Stp M r H M r (upd (upd H P (.tbl (ps ++ more))) c' (LamX.CodeO c' (X.env.qual ++ "<lambda>"))) := ⟨Le.refl, List.prefix_rfl, fun a z => .inl z, fun a u q t n => ne q t, fun a m _ _ => m⟩
    have b0 : BS G M r h δ σ (upd (upd H P (.tbl (ps ++ more))) c' (LamX.CodeO c' (X.env.qual ++ "<lambda>"))) := by
      refine b.after st0 (fun a u y => ⟨(b.mok a u y).1, ne (b.mok a u y).2 (nM y)⟩) ⟨b.bx.len, b.bx.nd, fun n a ds e1 e2 => ?_⟩ tb0
      obtain ⟨m, z, vs, y, t⟩ := b.bx.at_ n a ds e1 e2
      exact ⟨m, z, vs, ne y (fun _ z => by cases z), t⟩
    obtain ⟨b1, st1⟩ := b0.know (p := c') upd_same
    have nF1 : upd (upd H P (.tbl (ps ++ more))) c' (LamX.CodeO c' (X.env.qual ++ "<lambda>")) f = none := by rw [upd_ne fc, upd_ne fP]; exact nF
    obtain ⟨b2, st2⟩ := b1.laid (o := LamO f (kla_obj "<lambda>" (X.env.qual ++ "<lambda>") params body scope (cloFrom X.env.cells scope.names []) pm c' ctv)) nF1 trivial
    refine ⟨.ref f, _, I', rfl, q _ _ _ _ ((st0.trans st1).trans st2) b2 ⟨f, _, c', _, rfl, updM_same, st2.le _ _ updM_same, ?_⟩⟩
    show G.L _ _ _ _ _
    rw [hL]
    exact ⟨⟨params, body, scope⟩, pm, ctv, hk, rfl, rfl⟩
  · obtain ⟨b1, st1⟩ := b.know (p := c') hC
    obtain ⟨b2, st2⟩ := b1.laid (o := LamO f (kla_obj "<lambda>" (X.env.qual ++ "<lambda>") params body scope (cloFrom X.env.cells scope.names []) pm c' ctv)) nF trivial
    refine ⟨.ref f, _, I', rfl, q _ _ _ _ (st1.trans st2) b2 ⟨f, _, c', _, rfl, updM_same, st2.le _ _ updM_same, ?_⟩⟩
    show G.L _ _ _ _ _
    rw [hL]
    exact ⟨⟨params, body, scope⟩, pm, ctv, hk, rfl, rfl⟩
end
end LP
/-! LpP: a def that calls the lambda it got. -/
namespace LP
open PySem PySem.Spec PyProof.Rows L2
open PySem.W (kla_obj kla_fn)
section
variable {X : Cx} {G : Cfg} {W : WX} {σ : L2.St} {δ : DE} {M M' M1 M2 : Imm} {r r' r1 r2 : List Addr} {h h' h1 h2 : Bx} {H H' H1 H2 : Hp} {E : Ends}
variable {e c : Expr} {f g : EF} {tg : Expr} {fs : DE → Bx → R (List D)} {pos : Pos}
/-- the slots without own lists -/
def pubS : SV → SV
  | .own _ => .no
  | s => s
def pubD (δ : DE) : DE := δ.map pubS
abbrev Cfg.at_ (G : Cfg) (M : Imm) (r : List Addr) (H : Hp) : Cfg := ⟨G.K, G.mg, G.T, M, r, H, G.L⟩
theorem BS.rebase (b : BS G M r h δ σ H) : BS (G.at_ M r H) M r h (pubD δ) σ H := by
  have no : ∀ {i : Nat} {ds : List D}, (pubD δ)[i]? ≠ some (.own ds) := fun {i ds} e => by
    unfold pubD at e
    rw [List.getElem?_map] at e
    cases z : δ[i]? with
    | none => rw [z] at e; cases e
    | some s => rw [z] at e; cases s <;> cases e
  refine ⟨b.mok, b.bx, b.tb, by unfold pubD; rw [List.length_map]; exact b.len, fun i s o e1 e2 => ?_, fun i j ds es e1 _ _ => (no e1).elim, Le.refl, List.prefix_rfl, fun a z => .inl z, Keep.refl, fun a m _ _ => m⟩
  unfold pubD at e1
  rw [List.getElem?_map] at e1
  cases z : δ[i]? with
  | none => rw [z] at e1; cases e1
  | some s0 =>
    rw [z] at e1
    have q := b.sl i s0 o z e2
    cases s0 with
    | no => cases e1; trivial
    | own ds => cases e1; trivial
    | v d => cases e1; exact q
/-- from here on -/
theorem BS.stp (b : BS (G.at_ M r H) M' r' h' δ σ H') : Stp M r H M' r' H' := ⟨b.le, b.pre, b.new, b.keep, b.nf⟩
/-- the lambda that a slot holds, called -/
def actF (Λ : Nat → Bx → R D) (i : Nat) : EF := fun δ h => match δ[i]? with
  | some (.v (.lam k)) => (Λ k h).bind fun d h1 => if isV d = true then .ok d h1 else .bad
  | _ => .bad
/-- what is asked of the lambdas' texts -/
structure LamOk (X : Cx) (G : Cfg) (j : Nat) (ld : LamD) (f : EF) : Prop where
  L : LamX.LamS X.env.scope ld.scope
  bind : ∀ (q : Str) (cl : List (Str × Addr)) (pm cv ctv : Value), bindArgs (kla_fn "<lambda>" q ld.params ld.body ld.scope cl pm cv ctv) ⟨[], []⟩ = pure []
  body : ∀ (A : Around) (outer : List PySem.Env) (s : Shared) (H : Hp) (E : XK) (f' c' : Addr) (M : Imm) (r : List Addr), Room j (A.deeper (LamX.lamEnv X ld.scope s.heap.objs.size f' c')) →
    Ev (LamX.lamCx X A outer s H E ld.scope f' c') (G.at_ M r H) (fun c d _ H => E c d H) ld.body f
theorem act_ok {X0 : Cx} {pins0 : List (Addr × Obj)} {s : Shared} {tab : List LamD} {bodies : Nat → EF} {j i : Nat} {Nh : List Str} {qh : Str} {sh : Scope} {fh : Addr} {cdh : Value} {Eh : XK} {pn : List (Addr × Obj)} {xe : Value → Shared → Prop} {W' : WX} {a : Str} {p1 p2 : Pos}
    (I : Inv X0 pins0 σ H s) (b : BS G M r h δ σ H) (hL : G.L = lamL tab X0.env) (hb : ∀ k ld, tab[k]? = some ld → LamOk X0 G j ld (bodies k))
    (hr : Room (j + 1) (X0.A.deeper (envOfC qh sh s.heap.objs.size fh cdh))) (tk : Takes ((cxOf (L2.CX X0.prog X0.w) X0.prog X0.w X0.K X0.mg X0.base Nh qh sh fh cdh X0.A X0.stack s H Eh).tr pn xe) W')
    (hN : Nh[i]? = some a) (hv : Vis sh a) (hd : (a == ("__debug__" : Str)) = false := by decide) (hcd : (a == ("__classdict__" : Str)) = false := by decide) :
    Ev ((cxOf (L2.CX X0.prog X0.w) X0.prog X0.w X0.K X0.mg X0.base Nh qh sh fh cdh X0.A X0.stack s H Eh).tr pn xe) (G.at_ M r H) W' (.Call (.Name a p1) [] [] p2) (actF (fun k h => bodies k (pubD δ) h) i) := by
  refine ⟨fun pinsZ sZ σZ HZ Q IZ q => ?_⟩
  obtain ⟨M', r', h', δZ, bZ, q⟩ := q
  have hr' : Room (j + 1) ((cxOf (L2.CX X0.prog X0.w) X0.prog X0.w X0.K X0.mg X0.base Nh qh sh fh cdh X0.A X0.stack s H Eh).tr pn xe).A := hr
  unfold actF at q
  split at q
  · rename_i k ek
    obtain ⟨o, eo⟩ := bZ.lt ek
    obtain ⟨v, rfl, f0, ob, c, qn, rfl, mf, mc, hk⟩ := bZ.sl i _ _ ek eo
    have hk : G.L k f0 ob c qn := hk
    rw [hL] at hk
    obtain ⟨ld, pm, ctv, et, rfl, rfl⟩ := hk
    have LO := hb k ld et
    refine wpAny_Call_Name_kw (thn ((pe_var (pos := p1) (i := i) hN hv hd hcd).run pinsZ sZ σZ HZ (fun v H1 => v = .ref f0 ∧ H1 = HZ) IZ ⟨.ref f0, eo, rfl, rfl⟩) fun u s1 ⟨v, H1, I1, r1, e1, e2⟩ => ?_)
    subst e1
    subst e2
    obtain rfl : u = Value.ref f0 := r1
    have atf : s1.heap.get? f0 = some (kla_obj "<lambda>" (X0.env.qual ++ "<lambda>") ld.params ld.body ld.scope (cloFrom X0.env.cells ld.scope.names []) pm c ctv) := (I1.hok f0 _ (bZ.mok f0 _ mf).2).1
    obtain ⟨⟨oc, us, t, hoc, hdc, hvc⟩, _, _⟩ := I1.hok c _ (bZ.mok c _ mc).2
    have un : Un (frs X0.stack) [] H H1 s.heap s1.heap := I1.base
    refine PySem.W.callWith_F0 ⟨_, _, _, _, atf⟩ ?_
    have run : codeAny (model X0.prog X0.w) (X0.A.deeper (envOfC qh sh s.heap.objs.size fh cdh)) (.call (.ref f0) ⟨[], []⟩) (CR (L2.CX X0.prog X0.w) (envOfC qh sh s.heap.objs.size fh cdh :: X0.stack) X0.prog X0.w H1 s1 Q (WE W' σZ)) s1 := by
      refine PySem.W.kla_callFunE hr'.depth atf rfl LO.L.co LO.L.gen rfl ⟨c, oc, us, t, rfl, hoc, hdc, hvc⟩ ?_
      rw [LO.bind]
      refine wpAny_pure (wpAny_newFunctionEnv (fun y hy => (LO.L.own y hy).2) (fun y hy => absurd hy (by simp)) (fun hp hns hsb => ⟨I1.nolimit.fresh _ hsb, ?_⟩) LO.L.kind)
      have up : ∀ b o, s1.heap.get? b = some o → hp.get? b = some o := fun b o e => hsb.extBut b o (Nat.ne_of_lt (Heap.lt_size e)) (Heap.get?_push_of_some _ e)
      have J := LamX.lam_start2 (A := X0.A.deeper (envOfC qh sh s.heap.objs.size fh cdh)) (outer := envOfC qh sh s.heap.objs.size fh cdh :: X0.stack) (E := WE W' σZ) (f := f0) (c' := c) (tk := s1.toks + ([] : List (Str × Value)).length) I LO.L I1.env0 hr'.hd un hns up
      -- the maker's slots, as they stand now
      have bM := (b.after bZ.stp bZ.mok bZ.bx bZ.tb).rebase
      refine PySem.W.kla_codeExpr (wpAny_mono ((LO.body _ _ s1 H1 (WE W' σZ) f0 c M' r' (hr'.deeper _)).run [] _ _ H1 Q J ⟨M', r', h', pubD δ, bM, ?_⟩) (fun v s' hq => ?_) fun e s' hq => hq)
      · -- back in the def
        have back : ∀ {M2 r2 h2 H2}, BS (Cfg.at_ (Cfg.at_ G M r H) M' r' H1) M2 r2 h2 (pubD δ) σ H2 → Stp M' r' H1 M2 r2 H2 → BS (G.at_ M r H) M2 r2 h2 δZ σZ H2 := fun b2 s2 => bZ.after s2 b2.mok b2.bx b2.tb
        have q : After (G.at_ M r H) W' σZ δZ (rV G.J δZ σZ) M' r' H1 ((bodies k (pubD δ) h').bind fun d h1 => if isV d = true then R.ok d h1 else R.bad) Q := q
        cases y : bodies k (pubD δ) h' with
        | ok d h2 =>
          rw [y] at q
          simp only [R.bind_ok] at q
          split at q
          · rename_i iv
            intro v M2 r2 H2 s2 b2 rv
            refine q v M2 r2 H2 s2 (back b2 s2) ?_
            cases d with
            | loc i => cases iv
            | _ => exact rv
          · exact q.elim
        | exc cn fs h2 =>
          rw [y] at q
          exact fun C dd M2 r2 H2 m s2 b2 ea => q C dd M2 r2 H2 m s2 (back b2 s2) ea
        | bad => rw [y] at q; exact q.elim
      · obtain ⟨w', H', J', rv, hq⟩ := hq
        exact ⟨w', H', J'.os, J'.bare, J'.base, J'.hok, rv, hq⟩
    refine wpAny_call (codeAny_mono run fun rr s' hq => ?_)
    cases rr with
    | error er => exact passAt tk σZ pinsZ H1 s1 er s' I1 hq
    | ok fl =>
      cases fl with
      | ret u => exact I1.after hq
      | next => exact False.elim hq
      | brk => exact False.elim hq
      | cont => exact False.elim hq
  · exact q.elim
end
end LP
namespace LP
open PySem PySem.Spec PyProof.Rows L2
section
variable {X : Cx} {G : Cfg} {W : WX} {σ : L2.St} {δ : DE} {M M' M1 M2 : Imm} {r r' r1 r2 : List Addr} {h h' h1 h2 : Bx} {H H' H1 H2 : Hp} {E : Ends}
variable {e c : Expr} {f g : EF} {tg : Expr} {fs : DE → Bx → R (List D)} {pos : Pos}
/-- the def at fa calls what it gets: its body by the functions of the lambdas -/
def HeardOk (P : Program) (w : World) (K : PySem.W.Frag) (mg : Str → Option Value) (base : Heap) (k : Nat) (st : Stmt) (fa : Addr) (x a : Str) (N : List Str) (sf : (Nat → Bx → R D) → SF) : Prop :=
  ∀ (Λ : Nat → Bx → R D) (cdv : Value) (A : Around) (outer : List PySem.Env) (s : Shared) (H : Hp) (E : XK) (T : List (Addr × Str)) (M : Imm) (r : List Addr) (L : LamP), Room k (A.deeper (envOfC x (defScope st) s.heap.objs.size fa cdv)) →
    (∀ (W' : WX) (pn : List (Addr × Obj)) (xe : Value → Shared → Prop) (p1 p2 : Pos), Takes ((cxOf (L2.CX P w) P w K mg base N x (defScope st) fa cdv A outer s H E).tr pn xe) W' →
      Ev ((cxOf (L2.CX P w) P w K mg base N x (defScope st) fa cdv A outer s H E).tr pn xe) ⟨K, mg, T, M, r, H, L⟩ W' (.Call (.Name a p1) [] [] p2) (actF Λ 0)) →
    Ess (cxOf (L2.CX P w) P w K mg base N x (defScope st) fa cdv A outer s H E) ⟨K, mg, T, M, r, H, L⟩ (fun c d _ H => E c d H) (defBody st) (sf Λ)
/-- what the call of such a def computes -/
def heardF (bodies : Nat → EF) (n : Nat) (sf : (Nat → Bx → R D) → SF) (δ : DE) (d : D) (h : Bx) : R D := match d with
  | .lam k => runF n (sf fun k h => bodies k (pubD δ) h) [.lam k] h
  | _ => .bad
theorem heard_run {k : Nat} {st : Stmt} {fa : Addr} {fd : FuncData} {x a : Str} {N : List Str} {sf : (Nat → Bx → R D) → SF} {Λ : Nat → Bx → R D} {pins : List (Addr × Obj)} {s : Shared} {Q : VK} {v : V} {u : Value} {n : Nat}
    (Fh : Fun X.K x x st fa fd) (S : FnScope N [a] (defScope st)) (hb : Binds X.K fd [a] []) (ho : HeardOk X.prog X.w X.K X.mg X.base k st fa x a N sf) (hr : Room (k + 1) X.A) (tk : Takes X W) (hGK : G.K = X.K) (hGm : G.mg = X.mg)
    (I : Inv X pins σ H s) (b : BS G M r h δ σ H) (rv : Rep G.J M r (.lam n) v) (ru : RelV v u)
    (act : ∀ (cdv : Value) (E : XK), Room k (X.A.deeper (envOfC x (defScope st) s.heap.objs.size fa cdv)) → ∀ (W' : WX) (pn : List (Addr × Obj)) (xe : Value → Shared → Prop) (p1 p2 : Pos), Takes ((cxOf (L2.CX X.prog X.w) X.prog X.w X.K X.mg X.base N x (defScope st) fa cdv X.A X.stack s H E).tr pn xe) W' →
      Ev ((cxOf (L2.CX X.prog X.w) X.prog X.w X.K X.mg X.base N x (defScope st) fa cdv X.A X.stack s H E).tr pn xe) (G.at_ M r H) W' (.Call (.Name a p1) [] [] p2) (actF Λ 0))
    (q : After G W σ δ (rV G.J δ σ) M r H (runF N.length (sf Λ) [.lam n] h) Q) :
    wpAny (model X.prog X.w) X.A (call (.ref fa) [u]) (EP X pins σ Q) X.xe s := by
  obtain ⟨oc, od, kV, doc, pm, an, cdv, ct, osl, rfl, lk, hcd⟩ := Fh.ex
  refine wpAny_call (codeAny_mono (LamX.run_ofS (N := N) (ps := [a]) (CX := L2.CX X.prog X.w) (us := [u]) (vs := [v]) (Q := Q) (E := WE W σ) lk hcd S hr I.env0 (hb s [u] I.kIn rfl) (.cons ru .nil) rfl fun hr' => ?_) fun rr s' hq => ?_)
  · have hs := ho Λ cdv X.A X.stack s H (WE W σ) G.T M r G.L hr'
    rw [← hGK, ← hGm] at hs
    have act := act cdv (WE W σ) hr'
    rw [← hGK, ← hGm] at act
    have hs := hs act
    have key : spF G.K G.mg G.T 1 (runF N.length (sf Λ)) [v] H Q (WE W σ) := call_sp (ds := [.lam n]) b ⟨v, [], rfl, rv, rfl⟩ (fun _ _ _ => rfl) (fun _ _ _ _ => rfl) q
    rw [← hGK, ← hGm]
    refine ⟨_, hs, M, r, h, _, bs_start (ds := [.lam n]) (L := G.L) (N := N) b.mok b.bx b.tb ⟨v, [], rfl, rv, rfl⟩, ?_⟩
    unfold runF at q
    have st : ∀ {M' r' h' δ' σ' H'}, BS ⟨G.K, G.mg, G.T, M, r, H, G.L⟩ M' r' h' δ' σ' H' → Stp M r H M' r' H' := fun b => ⟨b.le, b.pre, b.new, b.keep, b.nf⟩
    cases z : sf Λ (startD N.length [.lam n]) h with
    | nx δ' h' => rw [z] at q; exact fun M' r' σ' H' _ _ b' => q .non M' r' H' (st b') (b.after (st b') b'.mok b'.bx b'.tb) rfl
    | rt d h' => rw [z] at q; exact fun v M' r' δ' σ' H' _ _ b' rv => q v M' r' H' (st b') (b.after (st b') b'.mok b'.bx b'.tb) (rep_V rv)
    | exc c fs δ' h' => rw [z] at q; exact fun C dd M' r' σ' H' m _ _ b' ea => q C dd M' r' H' m (st b') (b.after (st b') b'.mok b'.bx b'.tb) ea
    | bk δ h' => rw [z] at q; exact q.elim
    | ct δ h' => rw [z] at q; exact q.elim
    | bad => rw [z] at q; exact q.elim
  · cases rr with
    | error er => exact passAt tk σ pins H s er s' I hq
    | ok fl =>
      cases fl with
      | ret u => exact I.after hq
      | next => exact hq.elim
      | brk => exact hq.elim
      | cont => exact hq.elim
/-- x(e), e a lambda of this frame -/
theorem ev_heard {k j : Nat} {tab : List LamD} {bodies : Nat → EF} {st : Stmt} {fa : Addr} {fd : FuncData} {x a : Str} {N : List Str} {sf : (Nat → Bx → R D) → SF} {p : Pos}
    (Fh : Fun X.K x x st fa fd) (S : FnScope N [a] (defScope st)) (hb : Binds X.K fd [a] []) (ho : HeardOk X.prog X.w X.K X.mg X.base k st fa x a N sf) (hr : Room (k + 1) X.A) (tk : Takes X W) (hGK : G.K = X.K) (hGm : G.mg = X.mg) (hjk : j + 1 ≤ k)
    (hL : G.L = lamL tab X.env) (hbd : ∀ k ld, tab[k]? = some ld → LamOk X G j ld (bodies k)) (hNa : N[0]? = some a) (hva : Vis (defScope st) a) (hg : Gl X x) (hm : X.mg x = some (.ref fa)) (ha : Ev X G W e f)
    (hda : (a == ("__debug__" : Str)) = false := by decide) (hca : (a == ("__classdict__" : Str)) = false := by decide) (hdb : (x == ("__debug__" : Str)) = false := by decide)
    (he : starEach [e] X.env = (false, eval e X.env) :: starEach [] X.env := by rfl) (hpl : (backTo pos (starEach [] X.env)).any (·.1) = false := by rfl) :
    Ev X G W (.Call (.Name x p) [e] [] pos) (fun δ h => (f δ h).bind fun d h1 => heardF bodies N.length sf δ d h1) := by
  refine ⟨fun pins s σ H Q I q => ?_⟩
  obtain ⟨M, r, h, δ, b, q⟩ := q
  refine wpAny_Call_Name_kw (ld_glob I hg hm ?_ hdb)
  have pa : PA X [e] (tCons (tG G W (rV G.J) f) tNil) := pa_cons ha pa_nil he
  refine PySem.W.callWith_K (h₀ := X.base) I.ok.mod.kin Fh.kp (thn (pa.run pos pins s σ H (fun vs H1 => ∃ v d M1 r1 h1, vs = [v] ∧ BS G M1 r1 h1 δ σ H1 ∧ RepV G.J M1 r1 δ σ d v ∧ After G W σ δ (rV G.J δ σ) M1 r1 H1 (heardF bodies N.length sf δ d h1) Q) I
    ⟨M, r, h, δ, b, (After.bind q).more fun v H1 ⟨d, M1, r1, h1, s1, b1, rv, q1⟩ => ⟨v, d, M1, r1, h1, rfl, b1, rv, q1⟩⟩) fun us s1 ⟨vs, H1, I1, r0, v, d, M1, r1, h1, ev, b1, rv, q1⟩ => ⟨I1.kIn, ?_⟩) he hpl
  subst ev
  cases r0 with
  | @cons _ u _ ur ru rt =>
    cases rt
    cases d with
    | lam n =>
      refine heard_run Fh S hb ho hr tk hGK hGm I1 b1 rv ru (fun cdv E hr' W' pn xe p1 p2 tk' => ?_) q1
      exact act_ok (j := j) I1 b1 hL hbd (hr'.mono hjk) tk' hNa hva hda hca
    | _ => exact q1.elim
end
end LP
/-! LpQ: comprehensions that call lambdas of the frame. -/
namespace LP
open PySem PySem.Spec PyProof.Rows L2
section
variable {X : Cx} {pins : List (Addr × Obj)} {σ : L2.St} {H H3 : Hp} {s s3 : Shared} {scope : Scope} {fp : List Addr}
/-- within a block the def's own state stands too -/
theorem blk_back {C : Addr} {cl : List (Str × Addr)} {pins' : List (Addr × Obj)} {σ' : L2.St} {H' : Hp} {s' : Shared} (I3 : Inv X pins σ H3 s3) (f : ∀ b ∈ fp, FpOk X pins H3 b ∧ b < s3.heap.objs.size)
    (I : Inv (X.blk s3 H3 scope (compEnvC scope cl C X.env) fp) pins' σ' H' s') : Inv X pins σ H' s' :=
  I3.call' (ch := fp) I.os I.base I.hok I.bare fun b hb => by
    obtain ⟨⟨_, y1, y2, y3, y4, y5⟩, _⟩ := f b hb
    exact ⟨y3, y1, y4, y5⟩
variable {elt tg iter : Expr} {ifs : List Expr} {own : List (Str × Nat)} {pos : Pos} {wi : TI} {g : TG} {tt : TT} {te : TE} {Q : VK}
/-- the parts of a block, each told of the state at which the block began -/
structure Inner (X : Cx) (pins : List (Addr × Obj)) (σ : L2.St) (scope : Scope) (tg elt : Expr) (ifs : List Expr) (g : TG) (tt : TT) (te : TE) : Prop where
  of : ∀ (s : Shared) (H : Hp) (C : Addr) (cl : List (Str × Addr)) (fp : List Addr), Inv X pins σ H s → (∀ b ∈ fp, FpOk X pins H b ∧ b < s.heap.objs.size) →
    PG (X.blk s H scope (compEnvC scope cl C X.env) fp) tg g ∧ PTs (X.blk s H scope (compEnvC scope cl C X.env) fp) ifs tt ∧ PE (X.blk s H scope (compEnvC scope cl C X.env) fp) elt te
theorem lcI_run (hc : X.calm = true) (hN : X.N.Nodup) (I : Inv X pins σ H s) (hi : PI X tg iter wi) (ok : BlkOk X.N X.env.scope scope own) (inner : Inner X pins σ scope tg elt ifs g tt te) (hs : ∀ x, foldedSetIterable iter X.env x = pure x)
    (q : tLc wi g tt te (own.map (·.2)) σ H Q) : wpAny (model X.prog X.w) X.A (eval (.ListComp elt [⟨tg, iter, ifs, 0⟩] scope pos) X.env) (EP X pins σ Q) X.xe s := by
  have clo : ∀ y ∈ scope.names, y.2 = .free → ∃ c, X.env.cells.lookup y.1 = some c := by
    intro y hy e
    exact (ok.free y hy e).elim (fun k => I.ok.has _ (.inl k)) (fun k => I.ok.has _ (.inr k))
  rw [eval_ListComp]
  refine wpAny_comprehension_free rfl hs (closure_ok clo) ok.kind (fun y hy e => (ok.uniq y hy).trans (by rw [e])) (thn (hi.run pins s σ H _ I q) fun _ s1 first => thn first fun _ s2 w => ?_)
  obtain ⟨it, fp, tn, J, H2, rfl, I2, T, st2, f2, q2⟩ := w
  refine wpAny_newObj_type (newEnv_comp ?_) (by show 0 ≤ sizeLine; decide)
  -- the new list, at D
  obtain ⟨W, ⟨m0, w0⟩, turn⟩ := q2 s2.heap.objs.size (I2.hok.fresh (Nat.le_refl _))
  obtain ⟨D, eD⟩ : ∃ D, D = s2.heap.objs.size := ⟨_, rfl⟩
  rw [← eD] at turn w0 ⊢
  obtain ⟨sL, eL⟩ : ∃ sL : Shared, sL = { s2 with heap := s2.heap.push { cls := .type "list", data := .seq ([] : List Value).toArray } } := ⟨_, rfl⟩
  obtain ⟨HL, eH⟩ : ∃ HL : Hp, HL = upd H2 D (.lst []) := ⟨_, rfl⟩
  rw [← eH] at w0
  have IL : Inv X pins σ HL sL := by
    rw [eL, eH, eD]
    exact I2.laid (t' := s2.toks) (fun b o e => Heap.get?_push_of_some _ e) (Nat.le_refl _) ⟨Nat.zero_le _, [], 0, .nil, Heap.get?_push_size _ rfl⟩
  have up : ∀ b o, s2.heap.get? b = some o → sL.heap.get? b = some o := by
    rw [eL]
    exact fun b o e => Heap.get?_push_of_some _ e
  have lt2 : ∀ b ∈ fp, b < s2.heap.objs.size := by
    intro b hb
    obtain ⟨o, e, _⟩ := T.obj _ _ st2 b hb
    exact Heap.lt_size e
  have fL : ∀ b ∈ fp, FpOk X pins HL b ∧ b < sL.heap.objs.size := by
    intro b hb
    obtain ⟨y0, y⟩ := f2 b hb
    obtain ⟨o, e, _⟩ := T.obj _ _ st2 b hb
    refine ⟨⟨?_, y⟩, Heap.lt_size (up b o e)⟩
    rw [eH, upd_ne (fun z => Nat.lt_irrefl _ (by have := lt2 b hb; rw [z, eD] at this; exact this))]
    exact y0
  have stL : tn 0 sL.heap := T.keep _ _ _ st2 fun b _ o e => up b o e
  have IB := block_start IL ok hN fL
  obtain ⟨pg, pt, pe⟩ := inner.of sL HL sL.heap.objs.size (cellsFrom (sL.heap.objs.size + 1) scope.names (cloFrom X.env.cells scope.names [])) fp IL fL
  rw [← eL]
  show codeAny _ _ (.compStart (.ListComp elt [⟨tg, iter, ifs, 0⟩] scope pos) 0 (.ref it) (.ref D) (compEnvC scope (cellsFrom (sL.heap.objs.size + 1) scope.names (cloFrom X.env.cells scope.names [])) sL.heap.objs.size X.env)) (compPost (model X.prog X.w) X.A X.xe none (EP X pins σ Q) (.ref D) sL.heap.objs.size) { sL with heap := pushCells (sL.heap.push { cls := .type "dict", data := .dict #[] }) scope.names }
  obtain ⟨ce, ec⟩ : ∃ ce, ce = compEnvC scope (cellsFrom (sL.heap.objs.size + 1) scope.names (cloFrom X.env.cells scope.names [])) sL.heap.objs.size X.env := ⟨_, rfl⟩
  obtain ⟨sB, eB⟩ : ∃ sB : Shared, sB = { sL with heap := pushCells (sL.heap.push { cls := .type "dict", data := .dict #[] }) scope.names } := ⟨_, rfl⟩
  have stB : tn 0 sB.heap := T.keep _ _ _ stL fun b _ o e => by
    rw [eB]
    exact pushCells_keeps _ _ _ _ (Heap.get?_push_of_some _ e)
  have locC : ce.locals = sL.heap.objs.size := by rw [ec]; rfl
  rw [← ec, ← eB] at IB
  rw [← ec] at pg pt pe
  rw [← ec, ← eB]
  have steady : ∀ {σ' : L2.St} {H' : Hp} {s' : Shared}, Inv (X.blk sL HL scope ce fp) [] σ' H' s' → (∀ b ∈ fp, H' b = none) → ∀ b ∈ fp, FpOk (X.blk sL HL scope ce fp) [] H' b := by
    intro σ' H' s' I' n b hb
    exact ⟨n b hb, (I'.ok.exf b hb).1, I'.ok.exfs b hb, .inl hb, (I'.ok.exf b hb).2, fun p hp => absurd (show p ∈ ([] : List (Addr × Obj)) ++ [] from hp) (by simp)⟩
  have all_ : codeAny (model X.prog X.w) X.A (.compLoop (.ListComp elt [⟨tg, iter, ifs, 0⟩] scope pos) 0 (.ref it) (.ref D) ce) (compPost (model X.prog X.w) X.A X.xe none (EP X pins σ Q) (.ref D) sL.heap.objs.size) sB := by
    refine compLoop_any (fun n s' => ∃ i H', Inv (X.blk sL HL scope ce fp) [] (wipe σ (own.map (·.2))) H' s' ∧ tn i s'.heap ∧ (∀ b ∈ fp, H' b = none) ∧ W i n H') (fun n s5 st => ?_) m0 ⟨0, HL, IB, stB, fun b hb => (fL b hb).1.1, w0⟩
    obtain ⟨i, H5, I5, st5, n5, w5⟩ := st
    rcases turn i n H5 w5 with ⟨stop, fin⟩ | ⟨go, Nx, next, step⟩
    · -- the end
      refine thnF (T.done (X.blk sL HL scope ce fp) rfl rfl rfl hc i [] s5 _ H5 (fun _ _ => False) I5 (steady I5 n5) st5 stop) fun r s6 ⟨er, I6⟩ => ?_
      subst er
      have I7 : Inv X pins σ H5 s6 := blk_back IL fL (by rw [← ec]; exact I6)
      obtain ⟨m, nsC, _⟩ := id I6.loc
      have nsC : s6.heap.Ns ce.locals m := nsC
      have freeC : H5 ce.locals = none := I6.free
      rw [locC] at nsC freeC
      obtain ⟨k0, k1, k2, k3, k4, k5⟩ := IL.fpOk (Nat.le_refl _) freeC
      refine ⟨m, nsC, fun hp sb => ⟨.ref D, H5, ?_, rfl, fin⟩⟩
      exact I7.turned (t' := s6.toks) (fun b o hb e => (sb.2 b hb).trans e) k0 k1 k3 k4 k5
    · -- one turn
      refine thnF (T.item (X.blk sL HL scope ce fp) rfl rfl rfl hc i [] s5 _ H5 (fun _ _ => False) I5 (steady I5 n5) st5 go) fun r s6 ⟨u, er, h6⟩ => ?_
      subst er
      refine thnF h6 fun _ s7 ⟨x, H7, I7, r7, y7, st7, n7⟩ => ?_
      have P7 := I7.pinned (steady I7 n7) (T.obj _ _ st7)
      refine thnF (pg.run _ s7 _ H7 x u _ P7 r7 (step x H7 y7)) fun _ s8 ⟨σ8, H8, I8, w8, q8⟩ => thnF (pt.run _ s8 σ8 H8 _ I8 q8) fun b s9 ⟨H9, I9, q9⟩ => ?_
      have again : ∀ {s' : Shared} {H' : Hp}, Inv (X.blk sL HL scope ce fp) ([] ++ pinsAt fp s7.heap) σ8 H' s' → Nx H' → ∃ m, m < n ∧ ∃ i H', Inv (X.blk sL HL scope ce fp) [] (wipe σ (own.map (·.2))) H' s' ∧ tn i s'.heap ∧ (∀ b ∈ fp, H' b = none) ∧ W i m H' := by
        intro s' H' I' nx
        obtain ⟨m', lt, w'⟩ := next H' nx
        have pn : ∀ b ∈ fp, ∀ o, s7.heap.get? b = some o → s'.heap.get? b = some o ∧ H' b = none := by
          intro b hb o e
          obtain ⟨z1, z2, _⟩ := I'.pin (b, o) (List.mem_append_right _ (List.mem_append_right _ (mem_pinsAt hb e)))
          exact ⟨z1, z2⟩
        refine ⟨m', lt, i + 1, H', (I'.unpinned (pins := [])).weak ?_ fun j v e => ?_, T.keep _ _ _ st7 fun b hb o e => (pn b hb o e).1, fun b hb => ?_, w'⟩
        · rw [← w8, wipe_length]
        · rw [← w8] at e
          exact (wipe_some e).1
        · obtain ⟨o, e, _⟩ := T.obj _ _ st7 b hb
          exact (pn b hb o e).2
      cases b with
      | true =>
        simp only [if_true] at q9 ⊢
        refine thnF (pe.run _ s9 σ8 H9 _ I9 q9) fun z s10 ⟨yv, H10, I10, r10, acc, a1, a2, nx⟩ => ?_
        exact app_ok (X := X.blk sL HL scope ce fp) I10 a1 a2 r10 fun s11 I11 => again I11 nx
      | false =>
        simp only [Bool.false_eq_true, if_false] at q9 ⊢
        exact again I9 q9
  exact codeAny_compStart_list all_ (T.self X.A 0 _ _ _ stB all_)
end
end LP
/-! LpR: comprehensions over plain data that call lambdas of the frame. -/
namespace LP
open PySem PySem.Spec PyProof.Rows L2
section
variable {X : Cx} {G : Cfg} {W : WX} {σ : L2.St} {δ : DE} {M M' M1 M2 : Imm} {r r' r1 r2 : List Addr} {h h' h1 h2 : Bx} {H H' H1 H2 : Hp} {E : Ends}
variable {e c : Expr} {f g : EF} {tg : Expr} {fs : DE → Bx → R (List D)} {pos : Pos}
/-- the slots of now by those of then -/
theorem BS.now (b : BS G M r h δ σ H) {δ' : DE} {σ' : L2.St} (b' : BS (G.at_ M r H) M' r' h' δ' σ' H') : BS G M' r' h' δ σ H' := b.after b'.stp b'.mok b'.bx b'.tb
theorem Good.at_ {J : It} {ds : List D} (b : BS G M r h δ σ H) (g : Good G J M' r' ds) : Good (G.at_ M r H) J M' r' ds := by
  obtain ⟨Gd, Y, w, g1, g2⟩ := g
  refine ⟨Gd, Y, w, fun M1 r1 h1 δ1 σ1 H1 le pr b1 => g1 M1 r1 h1 δ σ H1 le pr (b.now b1), fun i x H1 H2 M1 r1 h1 δ1 σ1 hi le pr b1 y => ?_⟩
  obtain ⟨M2, d, b2, s2, e2, rp⟩ := g2 i x H1 H2 M1 r1 h1 δ σ hi le pr (b.now b1) y
  exact ⟨M2, d, b1.after s2 b2.mok b2.bx b2.tb, s2, e2, rp⟩
/-- parts of the comprehension know the slots of the frame -/
def lcNL (gi : DE → Bx → R (List D)) (vs : List Nat) (u : D → DE → Option DE) (tf : DE → DE → Bx → R Bool) (ef : DE → EF) : DE → Bx → R (List D) := fun δ h => lcN (fun _ h => gi δ h) vs u (tf δ) (ef δ) (pubD δ) h
theorem evn_lcL {elt iter : Expr} {ifs : List Expr} {scope : Scope} {own : List (Str × Nat)} {gi : DE → Bx → R (List D)} {ts : List Nat} {u : D → DE → Option DE} {tf : DE → DE → Bx → R Bool} {ef : DE → EF} (hc : X.calm = true) (hN : X.N.Nodup)
    (hi : EvI X G W tg iter gi) (ok : BlkOk X.N X.env.scope scope own) (hts : ∀ i ∈ ts, i ∈ own.map (·.2))
    (inner : ∀ (pins : List (Addr × Obj)) (σ : L2.St) (H : Hp) (M : Imm) (r : List Addr) (h : Bx) (δ : DE), BS G M r h δ σ H →
      Inner X pins σ scope tg elt ifs (tGt (G.at_ M r H) ts u) (tG (G.at_ M r H) W0 rB (tf δ)) (tG (G.at_ M r H) W0 (rV G.J) (ef δ)))
    (hs : ∀ x, foldedSetIterable iter X.env x = pure x := by intro _; rfl) : EvN X G W (.ListComp elt [⟨tg, iter, ifs, 0⟩] scope pos) (lcNL gi (own.map (·.2)) u tf ef) := by
  refine ⟨fun pins s σ H Q I q => ?_⟩
  obtain ⟨M, r, h, δ, b, q⟩ := q
  refine lcI_run (wi := tI G W gi) hc hN I hi ok (inner pins σ H M r h δ b) hs ?_
  have b1 := b.rebase
  have q1 : AfterN (G.at_ M r H) W σ (pubD δ) M r H (lcN (fun _ h => gi δ h) (own.map (·.2)) u (tf δ) (ef δ) (pubD δ) h) Q := by
    have q : AfterN G W σ δ M r H (lcN (fun _ h => gi δ h) (own.map (·.2)) u (tf δ) (ef δ) (pubD δ) h) Q := q
    cases z : lcN (fun _ h => gi δ h) (own.map (·.2)) u (tf δ) (ef δ) (pubD δ) h with
    | ok ds h1 => rw [z] at q; exact fun vs M' r' H' p s b' t l hp => q vs M' r' H' p s (b.after s b'.mok b'.bx b'.tb) t l hp
    | exc c fs h1 => rw [z] at q; exact fun C dd M' r' H' m s b' ea => q C dd M' r' H' m s (b.after s b'.mok b'.bx b'.tb) ea
    | bad => rw [z] at q; exact q.elim
  have z := lc_of (G := G.at_ M r H) (W := W) (gi := fun _ h => gi δ h) (u := u) (tf := tf δ) (ef := ef δ) hts (Q := Q) ⟨M, r, h, pubD δ, b1, q1⟩
  -- the iterator, by the frame's own slots
  unfold tLc at z ⊢
  obtain ⟨M2, r2, h2, δ2, b2, z⟩ := z
  refine ⟨M2, r2, h2, δ, b.now b2, ?_⟩
  have z : AfterI (G.at_ M r H) W σ δ2 M2 r2 H (gi δ h2) _ := z
  cases y : gi δ h2 with
  | ok ds h3 =>
    rw [y] at z
    exact fun J M' r' H' s b' g => z J M' r' H' s (b2.after s b'.mok b'.bx b'.tb) (Good.at_ b g)
  | exc c fs h3 =>
    rw [y] at z
    exact fun C dd M' r' H' m s b' ea => z C dd M' r' H' m s (b2.after s b'.mok b'.bx b'.tb) ea
  | bad => rw [y] at z; exact z.elim
/-- x(e) within such a comprehension -/
theorem ev_heardB {k j : Nat} {tab : List LamD} {bodies : Nat → EF} {st : Stmt} {fa : Addr} {fd : FuncData} {x a : Str} {N : List Str} {sf : (Nat → Bx → R D) → SF} {p : Pos} {pins : List (Addr × Obj)} {s3 : Shared} {H3 : Hp} {scope : Scope} {C : Addr} {cl : List (Str × Addr)} {fp : List Addr} {W : WX}
    (b0 : BS G M r h δ σ H) (I3 : Inv X pins σ H3 s3) (f3 : ∀ b ∈ fp, FpOk X pins H3 b ∧ b < s3.heap.objs.size)
    (Fh : Fun X.K x x st fa fd) (S : FnScope N [a] (defScope st)) (hb : Binds X.K fd [a] []) (ho : HeardOk X.prog X.w X.K X.mg X.base k st fa x a N sf) (hr : Room (k + 1) X.A) (tk : Takes (X.blk s3 H3 scope (compEnvC scope cl C X.env) fp) W) (hGK : G.K = X.K) (hGm : G.mg = X.mg) (hjk : j + 1 ≤ k)
    (hL : G.L = lamL tab X.env) (hbd : ∀ k ld, tab[k]? = some ld → LamOk X G j ld (bodies k)) (hNa : N[0]? = some a) (hva : Vis (defScope st) a) (hg : Gl (X.blk s3 H3 scope (compEnvC scope cl C X.env) fp) x) (hm : X.mg x = some (.ref fa))
    (ha : Ev (X.blk s3 H3 scope (compEnvC scope cl C X.env) fp) (G.at_ M r H) W e f)
    (hda : (a == ("__debug__" : Str)) = false := by decide) (hca : (a == ("__classdict__" : Str)) = false := by decide) (hdb : (x == ("__debug__" : Str)) = false := by decide)
    (he : starEach [e] (compEnvC scope cl C X.env) = (false, eval e (compEnvC scope cl C X.env)) :: starEach [] (compEnvC scope cl C X.env) := by rfl) (hpl : (backTo pos (starEach [] (compEnvC scope cl C X.env))).any (·.1) = false := by rfl) :
    Ev (X.blk s3 H3 scope (compEnvC scope cl C X.env) fp) (G.at_ M r H) W (.Call (.Name x p) [e] [] pos) (fun δ' h => (f δ' h).bind fun d h1 => heardF bodies N.length sf δ d h1) := by
  refine ⟨fun pinsB sB σB HB Q IB q => ?_⟩
  obtain ⟨MB, rB_, hB, δB, bB, q⟩ := q
  refine wpAny_Call_Name_kw (ld_glob IB hg hm ?_ hdb)
  have pa : PA (X.blk s3 H3 scope (compEnvC scope cl C X.env) fp) [e] (tCons (tG (G.at_ M r H) W (rV G.J) f) tNil) := pa_cons ha pa_nil he
  refine PySem.W.callWith_K (h₀ := X.base) IB.ok.mod.kin Fh.kp (thn (pa.run pos pinsB sB σB HB (fun vs H1 => ∃ v d M1 r1 h1, vs = [v] ∧ BS (G.at_ M r H) M1 r1 h1 δB σB H1 ∧ RepV G.J M1 r1 δB σB d v ∧ After (G.at_ M r H) W σB δB (rV G.J δB σB) M1 r1 H1 (heardF bodies N.length sf δ d h1) Q) IB
    ⟨MB, rB_, hB, δB, bB, (After.bind q).more fun v H1 ⟨d, M1, r1, h1, s1, b1, rv, q1⟩ => ⟨v, d, M1, r1, h1, rfl, b1, rv, q1⟩⟩) fun us s1 ⟨vs, H1, I1, r0, v, d, M1, r1, h1, ev, b1, rv, q1⟩ => ⟨I1.kIn, ?_⟩) he hpl
  subst ev
  cases r0 with
  | @cons _ u _ ur ru rt =>
    cases rt
    cases d with
    | lam n =>
      refine heard_run (X := X.blk s3 H3 scope (compEnvC scope cl C X.env) fp) (G := G.at_ M r H) Fh S hb ho hr tk hGK hGm I1 b1 rv ru (fun cdv E hr' W' pn xe p1 p2 tk' => ?_) q1
      exact act_ok (X0 := X) (G := G) (j := j) (blk_back I3 f3 I1) (b0.now b1) hL hbd (hr'.mono hjk) tk' hNa hva hda hca
    | _ => exact q1.elim
end
end LP
/-! LpU: defs that make lambdas; the law's head with tables. -/
namespace LP
open PySem PySem.Spec PyProof.Rows L2 HT
mutual
/-- no lambda within -/
def D.noLam : D → Bool
  | .tup ds => D.noLams ds
  | .lst ds => D.noLams ds
  | .frz ds => D.noLams ds
  | .lam _ => false
  | _ => true
def D.noLams : List D → Bool
  | [] => true
  | d :: ds => d.noLam && D.noLams ds
end
section
variable {K : PySem.W.Frag} {mg : Str → Option Value} {L L' : LamP} {M M' : Imm} {r r' : List Addr} {h h' : Bx} {H H' : Hp}
mutual
theorem Rep.chg : ∀ (d : D) (v : V), d.noLam = true → Rep ⟨K, L, mg⟩ M r d v → Rep ⟨K, L', mg⟩ M r d v
  | .non, _, _, q => q
  | .bl _, _, _, q => q
  | .int _, _, _, q => q
  | .str _, _, _, q => q
  | .ptr _, _, _, q => q
  | .loc _, _, _, q => q
  | .fn _, _, _, q => q
  | .lam _, _, e, _ => by cases e
  | .tup ds, v, e, q => by
    obtain ⟨a, vs, e1, m, t⟩ := q
    exact ⟨a, vs, e1, m, Reps.chg ds vs e t⟩
  | .lst ds, v, e, q => by
    obtain ⟨a, vs, e1, m, t⟩ := q
    exact ⟨a, vs, e1, m, Reps.chg ds vs e t⟩
  | .frz ds, v, e, q => by
    obtain ⟨a, vs, e1, m, t⟩ := q
    exact ⟨a, vs, e1, m, Reps.chg ds vs e t⟩
theorem Reps.chg : ∀ (ds : List D) (vs : List V), D.noLams ds = true → Reps ⟨K, L, mg⟩ M r ds vs → Reps ⟨K, L', mg⟩ M r ds vs
  | [], _, _, q => q
  | d :: ds, _, e, q => by
    obtain ⟨v, vt, rfl, h1, h2⟩ := q
    have e : (d.noLam && D.noLams ds) = true := e
    rw [Bool.and_eq_true] at e
    exact ⟨v, vt, rfl, Rep.chg d v e.1 h1, Reps.chg ds vt e.2 h2⟩
end
def noLamB (h : Bx) : Bool := h.all D.noLams
theorem BxOk.chg (b : BxOk ⟨K, L, mg⟩ M r h H) (e : noLamB h = true) : BxOk ⟨K, L', mg⟩ M r h H := by
  refine ⟨b.len, b.nd, fun n a ds e1 e2 => ?_⟩
  obtain ⟨m, z, vs, q, t⟩ := b.at_ n a ds e1 e2
  exact ⟨m, z, vs, q, Reps.chg ds vs (List.all_eq_true.mp e ds (List.mem_of_getElem? e2)) t⟩
theorem ExcAt.chg {fs : List (Str × D)} {d : Option Addr} (e : D.noLams (fs.map (·.2)) = true) (q : ExcAt ⟨K, L, mg⟩ M r H fs d) : ExcAt ⟨K, L', mg⟩ M r H fs d := by
  cases fs with
  | nil => exact q
  | cons p ps =>
    obtain ⟨dx, vs, e1, e2, t⟩ := q
    exact ⟨dx, vs, e1, e2, Reps.chg _ vs e t⟩
end
/-- the end of a def that makes lambdas: none of them is handed on -/
def finL (x : RS) : R D := match x.fin with
  | .ok d h => if (d.noLam && noLamB h) = true then .ok d h else .bad
  | .exc c fs h => if (D.noLams (fs.map (·.2)) && noLamB h) = true then .exc c fs h else .bad
  | .bad => .bad
def runFL (n : Nat) (sf : SF) (ds : List D) (h : Bx) : R D := if (D.noLams ds && noLamB h) = true then finL (sf (startD n ds) h) else .bad
/-- a def of the text whose code object is known -/
structure FunC (K : PySem.W.Frag) (x : Str) (st : Stmt) (f : Addr) (fd : FuncData) (ca : Addr) : Prop where
  ex : ∃ (oc : Value) (od : Option Addr) (kV doc pm : Value) (an : Option Addr) (ct : Value) (osl : Array (Option Value)),
    fd = PySem.W.fnOf x x (defArgs st) (defBody st) (defScope st) .none kV doc pm an (.ref ca) ct ∧ K.lookup f = some ⟨oc, od, .func fd, osl⟩ ∧ PySem.W.codeIn K (.ref ca) x = true
  kp : PySem.W.keepIn K (.ref f) = true
theorem funC_mk {K : PySem.W.Frag} {x : Str} {st : Stmt} {f ca : Addr} {oc : Value} {od an : Option Addr} {osl : Array (Option Value)} {kV doc pm ct : Value} (l : K.lookup f = some ⟨oc, od, .func (PySem.W.fnOf x x (defArgs st) (defBody st) (defScope st) .none kV doc pm an (.ref ca) ct), osl⟩)
    (c : PySem.W.codeIn K (.ref ca) x = true) (k : PySem.W.keepIn K (.ref f) = true) : FunC K x st f (PySem.W.fnOf x x (defArgs st) (defBody st) (defScope st) .none kV doc pm an (.ref ca) ct) ca := ⟨⟨oc, od, kV, doc, pm, an, ct, osl, rfl, l, c⟩, k⟩
section
variable {P : Program} {w : World} {K : PySem.W.Frag} {mg : Str → Option Value} {T : List (Addr × Str)} {base : Heap} {x : Str} {st : Stmt} {fa ca : Addr} {fd : FuncData} {N ps : List Str} {k : Nat} {sf : SF} {tab : List LamD}
/-- what is asked of such a def's body -/
def BodyL (P : Program) (w : World) (K : PySem.W.Frag) (mg : Str → Option Value) (T : List (Addr × Str)) (base : Heap) (x : Str) (st : Stmt) (fa ca : Addr) (N : List Str) (k : Nat) (tab : List LamD) (sf : SF) : Prop :=
  ∀ (A : Around) (outer : List PySem.Env) (s : Shared) (H : Hp) (E : XK) (M : Imm) (r : List Addr), Room k (A.deeper (envOfC x (defScope st) s.heap.objs.size fa (.ref ca))) →
    Ess (cxOf (L2.CX P w) P w K mg base N x (defScope st) fa (.ref ca) A outer s H E) ⟨K, mg, T, M, r, H, lamL tab (envOfC x (defScope st) s.heap.objs.size fa (.ref ca))⟩ (fun c d _ H => E c d H) (defBody st) sf
theorem fn_okL (F : FunC K x st fa fd ca) (S : FnScope N ps (defScope st)) (hb : BodyL P w K mg T base x st fa ca N k tab sf) : FnOk P w K mg base (L2.CX P w) (k + 1) fa fd ps (spF K mg T ps.length (runFL N.length sf)) := by
  obtain ⟨oc, od, kV, doc, pm, an, ct, osl, rfl, lk, hcd⟩ := F.ex
  refine fn_of lk hcd S (fun vs H Q E q => by obtain ⟨L, M, r, h, ds, e, _⟩ := q; exact e) fun A outer s H vs Q E hr q => ?_
  obtain ⟨L, M, r, h, ds, e, mok, bx, tb, t, q⟩ := q
  unfold runFL at q
  by_cases z : (D.noLams ds && noLamB h) = true
  · rw [if_pos z] at q
    rw [Bool.and_eq_true] at z
    refine ⟨_, hb A outer s H E M r hr, M, r, h, _, bs_start mok (bx.chg z.2) tb (Reps.chg ds vs z.1 t), ?_⟩
    unfold finL at q
    have st : ∀ {M' r' h' δ' σ' H'}, BS ⟨K, mg, T, M, r, H, lamL tab (envOfC x (defScope st) s.heap.objs.size fa (.ref ca))⟩ M' r' h' δ' σ' H' → Stp M r H M' r' H' := fun b => ⟨b.le, b.pre, b.new, b.keep, b.nf⟩
    cases y : sf (startD N.length ds) h with
    | nx δ h' =>
      rw [y] at q
      simp only [RS.fin_nx] at q
      by_cases n : (D.non.noLam && noLamB h') = true
      · rw [if_pos n] at q
        rw [Bool.and_eq_true] at n
        exact fun M' r' σ' H' _ _ b => q .non M' r' H' (st b) b.mok (b.bx.chg n.2) b.tb rfl
      · rw [if_neg n] at q; exact q.elim
    | rt d h' =>
      rw [y] at q
      simp only [RS.fin_rt] at q
      by_cases n : (d.noLam && noLamB h') = true
      · rw [if_pos n] at q
        rw [Bool.and_eq_true] at n
        exact fun v M' r' δ' σ' H' _ _ b rv => q v M' r' H' (st b) b.mok (b.bx.chg n.2) b.tb (Rep.chg d v n.1 rv)
      · rw [if_neg n] at q; exact q.elim
    | exc c fs δ h' =>
      rw [y] at q
      simp only [RS.fin_exc] at q
      by_cases n : (D.noLams (fs.map (·.2)) && noLamB h') = true
      · rw [if_pos n] at q
        rw [Bool.and_eq_true] at n
        exact fun C dd M' r' σ' H' m _ _ b ea => q C dd M' r' H' m (st b) b.mok (b.bx.chg n.2) b.tb (ExcAt.chg n.1 ea)
      · rw [if_neg n] at q; exact q.elim
    | bk δ h' => rw [y] at q; exact q.elim
    | ct δ h' => rw [y] at q; exact q.elim
    | bad => rw [y] at q; exact q.elim
  · rw [if_neg z] at q
    exact q.elim
/-! ### the law's head -/
/-- the law's promise; cs: the code objects of the defs that make lambdas, and their tables -/
def spLawT (cs : List (Addr × Addr)) (n : Nat) (K : PySem.W.Frag) : Sp := fun vs H Q _ => ∃ (a : Addr) (ns : List Int), vs = [.ref a] ∧ ns.length ≤ n ∧ (∀ z ∈ ns, Builtin.Int.intBits z ≤ 1048576) ∧ (∀ p ∈ cs, H p.2 = some (.tbl #[])) ∧ SqL K H a (ns.map V.int) ∧ ∀ v H', v = .bl true → Q v H'
/-- what the head tells of the script and the tables -/
theorem law_start {cs : List (Addr × Addr)} {n : Nat} {vs : List V} {H : Hp} {Q : VK} {E : XK} (hn : n ≤ 1000000) (hT : ∀ t ∈ T, ∃ p ∈ cs, p.2 = t.1) (q : spLawT cs n K vs H Q E) : ∃ (ns : List Int) (M : Imm), ns.length ≤ n ∧ (∀ z ∈ ns, Builtin.Int.intBits z ≤ 1048576) ∧ MOk M H ∧ LamX.Tabs T H ∧
    (∀ L, Reps ⟨K, L, mg⟩ M [] [.frz (ns.map D.int)] vs) ∧ ∀ v H', v = .bl true → Q v H' := by
  obtain ⟨a, ns, rfl, hl, hbits, ht, sq, q⟩ := q
  have tb : LamX.Tabs T H := fun t htm => by
    obtain ⟨p, hp, e⟩ := hT t htm
    exact LamX.TabS.nil (by rw [← e]; exact ht p hp)
  have one : ∀ (M : Imm) (L : LamP), FLst K M a (ns.map V.int) → Reps ⟨K, L, mg⟩ M [] [.frz (ns.map D.int)] [.ref a] := fun M L f => ⟨.ref a, [], rfl, ⟨a, _, rfl, f, reps_ints ns⟩, rfl⟩
  have len : (ns.map V.int).length ≤ big := by rw [List.length_map]; exact Nat.le_trans hl hn
  have imm : ∀ u : HO, LstU u (ns.map V.int) → H a = some u → ∃ M : Imm, MOk M H ∧ FLst K M a (ns.map V.int) := fun u hu e => by
    refine ⟨fun b => if b = a then some u else none, fun b o z => ?_, .inl ⟨u, if_pos rfl, hu⟩⟩
    simp only at z
    split at z
    · rename_i y
      cases z
      subst y
      refine ⟨?_, e⟩
      rcases hu with rfl | ⟨o, rfl⟩
      · exact len
      · exact len
    · cases z
  have key : ∃ M : Imm, MOk M H ∧ FLst K M a (ns.map V.int) := by
    rcases sq with ⟨sq | ⟨o, sq⟩⟩ | ⟨o, its, m, k1, k2, k3, k4, k5, k6⟩
    · exact imm _ (.inl rfl) sq
    · exact imm _ (.inr ⟨o, rfl⟩) sq
    · refine ⟨fun _ => none, fun b u e => (nomatch e), .inr ⟨o, its, m, k1, k2, k3, k4, ?_, k6⟩⟩
      have := k6.length
      simp only [Array.length_toList, List.length_map] at this
      omega
  obtain ⟨M, m1, m2⟩ := key
  exact ⟨ns, M, hl, hbits, m1, tb, fun L => one M L m2, q⟩
/-- the law, where it makes lambdas -/
theorem law_okL {cs : List (Addr × Addr)} {n : Nat} (hn : n ≤ 1000000) (F : FunC K x st fa fd ca) (S : FnScope N ps (defScope st)) (hp : ps.length = 1) (hT : ∀ t ∈ T, ∃ p ∈ cs, p.2 = t.1) (hb : BodyL P w K mg T base x st fa ca N k tab sf)
    (hF : ∀ ns : List Int, ns.length ≤ n → (∀ z ∈ ns, Builtin.Int.intBits z ≤ 1048576) → ∃ h, runF N.length sf [.frz (ns.map D.int)] [] = .ok (.bl true) h) : FnOk P w K mg base (L2.CX P w) (k + 1) fa fd ps (spLawT cs n K) := by
  obtain ⟨oc, od, kV, doc, pm, an, ct, osl, rfl, lk, hcd⟩ := F.ex
  refine fn_of lk hcd S (fun vs H Q E q => by obtain ⟨a, ns, rfl, _⟩ := q; rw [hp]; rfl) fun A outer s H vs Q E hr q => ?_
  obtain ⟨ns, M, hl, hbits, mok, tb, t, q⟩ := law_start (mg := mg) hn hT q
  obtain ⟨h', e⟩ := hF ns hl hbits
  refine ⟨_, hb A outer s H E M [] hr, M, [], [], _, bs_start (ds := [.frz (ns.map D.int)]) (N := N) mok ⟨rfl, List.nodup_nil, fun n a ds e => by simp at e⟩ tb (t _), ?_⟩
  unfold runF at e
  cases y : sf (startD N.length [.frz (ns.map D.int)]) [] with
  | nx δ h' => rw [y] at e; cases e
  | rt d h' =>
    rw [y] at e
    cases e
    exact fun v M' r' δ' σ' H' _ _ b rv => q v H' rv
  | exc c fs δ h' => rw [y] at e; cases e
  | bk δ h' => rw [y] at e; cases e
  | ct δ h' => rw [y] at e; cases e
  | bad => rw [y] at e; cases e
/-- the law, where it makes none -/
theorem spLawT_of {cs : List (Addr × Addr)} {n : Nat} {F : List D → Bx → R D} (hn : n ≤ 1000000) (hT : ∀ t ∈ T, ∃ p ∈ cs, p.2 = t.1) (hF : ∀ ns : List Int, ns.length ≤ n → (∀ z ∈ ns, Builtin.Int.intBits z ≤ 1048576) → ∃ h, F [.frz (ns.map D.int)] [] = .ok (.bl true) h) :
    ∀ vs H Q E, spLawT cs n K vs H Q E → spF K mg T 1 F vs H Q E := by
  intro vs H Q E q
  obtain ⟨ns, M, hl, hbits, mok, tb, t, q⟩ := law_start (mg := mg) hn hT q
  obtain ⟨h', e⟩ := hF ns hl hbits
  refine ⟨fun _ _ _ _ _ => False, M, [], [], [.frz (ns.map D.int)], ?_, mok, ⟨rfl, List.nodup_nil, fun n a ds e => by simp at e⟩, tb, t _, ?_⟩
  · obtain ⟨v, vt, rfl, _, z⟩ := t fun _ _ _ _ _ => False
    cases z; rfl
  · rw [e]
    exact fun v M' r' H' _ _ _ _ rp => q v H' rp
end
end LP
/-! LpV: parts of a text; what the head tells of exception classes. -/
namespace LP
open PySem PySem.Spec PyProof.Rows L2 HT
open PySem.W (Frag findIn subIn typeIn keepIn nsIn mroIn ks_superIn ksFn codeIn hasDictIn)
/-- the __init__ of a class of the text -/
abbrev clsInit (s : Stmt) : Stmt := match s with
  | .ClassDef _ _ _ b _ _ _ _ _ _ _ => b.getD 0 s
  | s => s
/-! ### one step down in a text -/
abbrev sBl (s : Stmt) : List (List Stmt) := match s with
  | .FunctionDef _ _ b _ _ _ _ _ _ _ => [b]
  | .For _ _ b o _ => [b, o]
  | .While _ b o _ => [b, o]
  | .If _ b o _ => [b, o]
  | .Try b _ o f _ => [b, o, f]
  | _ => []
abbrev sEx (s : Stmt) : List Expr := match s with
  | .Return (some e) _ => [e]
  | .Assign ts e _ => e :: ts
  | .Expr e _ => [e]
  | .If t _ _ _ => [t]
  | .While t _ _ _ => [t]
  | .For t i _ _ _ => [t, i]
  | _ => []
abbrev eEx (e : Expr) : List Expr := match e with
  | .BoolOp _ vs _ => vs
  | .BinOp a _ b _ => [a, b]
  | .UnaryOp _ a _ => [a]
  | .IfExp t a b _ => [t, a, b]
  | .Compare a _ bs _ => a :: bs
  | .Call f as ks _ => (f :: as) ++ ks.map (·.value)
  | .Attribute a _ _ => [a]
  | .Subscript a b _ => [a, b]
  | .List es _ => es
  | .Tuple es _ _ => es
  | .ListComp e gs _ _ => e :: (gs.map (·.iter) ++ (gs.map (·.ifs)).flatten)
  | _ => []
abbrev dE : Expr := .Constant .none 0 ⟨0, 0, 0, 0⟩
abbrev dS : Stmt := .Pass ⟨0, 0, 0, 0⟩
abbrev stAt (s : Stmt) (b i : Nat) : Stmt := ((sBl s).getD b []).getD i dS
abbrev exAt (s : Stmt) (i : Nat) : Expr := (sEx s).getD i dE
abbrev inAt (e : Expr) (i : Nat) : Expr := (eEx e).getD i dE
abbrev lamOf (e : Expr) : LamD := match e with
  | .Lambda a b s _ => ⟨a, b, s⟩
  | e => ⟨⟨[], [], none, [], [], none, []⟩, e, ⟨.function, [], false, false, []⟩⟩
/-! ### exception classes -/
theorem exn_mk {K : Frag} {prog : Program} {mg : Str → Option Value} {c fl text pn : Str} {C fI : Addr} {params : Arguments} {scope : Scope} {p0 p1 p2 p3 p4 p5 p6 p7 p8 p9 : Pos} {j : Nat} {ar : Arg}
    (g : mg c = some (.ref C)) (T : ExC K prog C fI fl params [.Expr (.Call (.Attribute (.Call (.Name "super" p0) [] [] p1) "__init__" p2) [.Constant (.str text) j p3] [] p4) p5, .Assign [.Attribute (.Name "self" p6) fl p7] (.Name pn p8) p9] scope pn)
    (hsu : mg "super" = none) (xf : XfC K C) (hdbc : (c == ("__debug__" : Str)) = false)
    (hks : scope.names.lookup ("super" : Str) = some .globalImplicit) (hkc : scope.names.lookup ("__class__" : Str) = some .free) (hself : scope.names.lookup ("self" : Str) = some .local) (hpn : scope.names.lookup pn = some .local) (hne : pn ≠ ("self" : Str))
    (hcell : ∀ x ∈ scope.names, x.2 ≠ .cell) (hco : scope.isCoroutine = false) (hgen : scope.isGenerator = false) (hk : scope.kind = .function) (hpar : (params.posonlyargs ++ params.args).head? = some ar) (har : ar.arg = "self") (htop : (prog.main.scope.names.lookup ("super" : Str)).isSome = false) (hdbp : (pn == ("__debug__" : Str)) = false)
    {pl : PySem.Env → Sem Bool} (hev : ∀ env : PySem.Env, eval (.Call (.Attribute (.Call (.Name "super" p0) [] [] p1) "__init__" p2) [.Constant (.str text) j p3] [] p4) env = (do
      let ov ← attributeBase (.Call (.Name "super" p0) [] [] p1) "__init__" env (eval (.Call (.Name "super" p0) [] [] p1) env)
      standAt p2.atName
      let (f, first) ← holding [ov] (getMethod ov "__init__" (pl env))
      callWith p4 f first (backTo p4 (starEach [.Constant (.str text) j p3] env)) []))
    (hin : ∀ env : PySem.Env, env.scope = scope → interactive env = false)
    (hsw1 : ∀ env : PySem.Env, swapsWith (.Call (.Attribute (.Call (.Name "super" p0) [] [] p1) "__init__" p2) [.Constant (.str text) j p3] [] p4) none p5.line env = pure false)
    (hsw2 : ∀ env : PySem.Env, swapsWith (.Name pn p8) (some (.Attribute (.Name "self" p6) fl p7)) p9.line env = pure false)
    (hst : ∀ env : PySem.Env, starEach [.Constant (.str text) j p3] env = [(false, eval (.Constant (.str text) j p3) env)]) : Exn K prog mg c fl := by
  refine ⟨⟨C, g, fun {X k e ta p pos} hK hp hm hr hg ha he => ?_⟩, fun C' g' => ?_⟩
  · subst hK hp hm
    exact pmk_E T hsu hr hg g ha hks hkc hself hpn hne hcell hco hgen hk hpar har htop hdbp hev hin hsw1 hsw2 hst hdbc he
  · rw [g] at g'
    cases g'
    exact ⟨xf, T.fl_⟩
end LP
/-! LpW: rows for simp: exceptions, keywords, lambdas. -/
namespace LP
open PySem PySem.Spec PyProof.Rows L2 HT
section
variable {δ : DE} {h : Bx} {f g f3 : EF} {tf tg : DE → Bx → R Bool} {fs : DE → Bx → R (List D)} {sf sg : SF} {i j : Nat} {d e : D} {ds es : List D}
@[simp] theorem raiseS_ap {c fl : Str} : raiseS c fl f δ h = (f δ h).toS δ fun d h1 => if isV d = true then .exc c [(fl, d)] δ h1 else .bad := pr rfl
theorem tryS_ap {tab : List (Str × Str)} {base : Str} {hs : List (Str × (List (Str × D) → SF))} : tryS tab base sf hs δ h = (match sf δ h with
  | .exc c fs δ' h' => catchS tab base hs c fs δ' h'
  | x => x) := rfl
@[simp] theorem noX_nx : noX (.nx δ h) = .nx δ h := pr rfl
@[simp] theorem noX_rt : noX (.rt d h) = .rt d h := pr rfl
@[simp] theorem dropE_rt : dropE i (.rt d h) = .rt d h := pr rfl
@[simp] theorem dropE_nx : dropE i (.nx δ h) = .nx (δ.set i .no) h := pr rfl
@[simp] theorem xtF_ap {fl : Str} {kd : D} {xs : List (Str × D)} : xtF fl kd xs δ h = (match xs.lookup fl with
  | some d => if isV d = true then .ok (.tup [kd, d]) h else .bad
  | none => .bad) := pr rfl
@[simp] theorem callKwF_ap {n : Nat} {ix : List Nat} {F : List D → Bx → R D} : callKwF n ix F fs δ h = (fs δ h).bind fun ds h1 => if (decide (ds.length = n) && ds.all isV) = true then F (pickL ix ds) h1 else .bad := pr rfl
@[simp] theorem pickL_nil {α : Type} {l : List α} : pickL [] l = [] := pr rfl
@[simp] theorem pickL_cons {α : Type} {n : Nat} {ix : List Nat} {l : List α} : pickL (n :: ix) l = (match l[n]? with | some a => a :: pickL ix l | none => pickL ix l) := by
  unfold pickL
  rw [List.filterMap_cons]
  cases l[n]? <;> rfl
@[simp] theorem actF_ap {Λ : Nat → Bx → R D} : actF Λ i δ h = (match δ[i]? with
  | some (.v (.lam k)) => (Λ k h).bind fun d h1 => if isV d = true then .ok d h1 else .bad
  | _ => .bad) := pr rfl
@[simp] theorem isV_lam {n : Nat} : isV (.lam n) = true := pr rfl
@[simp] theorem isV_fn {x : Str} : isV (.fn x) = true := pr rfl
@[simp] theorem pubS_own : pubS (.own ds) = .no := pr rfl
@[simp] theorem pubS_v : pubS (.v d) = .v d := pr rfl
@[simp] theorem pubS_no : pubS .no = .no := pr rfl
@[simp] theorem pubD_nil : pubD [] = [] := pr rfl
@[simp] theorem pubD_cons {s : SV} : pubD (s :: δ) = pubS s :: pubD δ := pr rfl
@[simp] theorem retK_lam {n : Nat} : retK δ (.lam n) h = .rt (.lam n) h := pr rfl
@[simp] theorem R.bind_exc' {α β : Type} {c : Str} {xs : List (Str × D)} {k : α → Bx → R β} : (R.exc c xs h : R α).bind k = .exc c xs h := pr rfl
theorem seq_nx {δ' : DE} {h' : Bx} (e : sf δ h = .nx δ' h') : seqS sf sg δ h = sg δ' h' := by rw [seqS_ap, e]
end
end LP
/-! LpX: comprehensions of two clauses over plain data. -/
namespace LP
open PySem PySem.Spec PyProof.Rows L2
section
variable {X : Cx} {G : Cfg} {W : WX} {σ : L2.St} {δ : DE} {M M' M1 M2 : Imm} {r r' r1 r2 : List Addr} {h h' h1 h2 : Bx} {H H' H1 H2 : Hp} {E : Ends}
variable {e c : Expr} {f g : EF} {tg : Expr} {fs : DE → Bx → R (List D)} {pos : Pos}
/-- a walk, whatever one turn is -/
theorem it_of {J : It} {n : Nat} {Gd : Hp → Prop} {Y : Nat → Hp → V → Hp → Prop} (w : Walk J n Gd Y) {B : (Hp → Prop) → V → Hp → Prop} {Hs : Hp} {Qd : Hp → Prop} (Pv : Nat → Hp → Prop) (h0 : Pv 0 Hs) (hG : ∀ i H, i ≤ n → Pv i H → Gd H)
    (hs : ∀ i x H H', i < n → Pv i H → Y i H x H' → B (Pv (i + 1)) x H') (hd : ∀ H, Pv n H → Qd H) :
    ∃ W : Nat → Nat → Hp → Prop, (∃ m, W 0 m Hs) ∧ ∀ i m H, W i m H → (J.stop i H ∧ Qd H) ∨ (J.go i H ∧ ∃ Nx : Hp → Prop, (∀ H', Nx H' → ∃ m', m' < m ∧ W (i + 1) m' H') ∧ ∀ x H', J.yld i H x H' → B Nx x H') := by
  refine ⟨fun i m H => m = n - i ∧ i ≤ n ∧ Pv i H, ⟨n, by simp, Nat.zero_le _, h0⟩, ?_⟩
  rintro i m H ⟨rfl, hi, p⟩
  have q := hG i H hi p
  by_cases hlt : i < n
  · exact .inr ⟨w.goes i H hlt q, Pv (i + 1), fun H' p' => ⟨n - (i + 1), by omega, rfl, hlt, p'⟩, fun x H' y => hs i x H H' hlt p (w.yields i H x H' hlt q y)⟩
  · have e : i = n := by omega
    subst e
    exact .inl ⟨w.stops H q, hd H p⟩
/-- targets make no own list -/
def UOk (ts : List Nat) (u : D → DE → Option DE) : Prop := ∀ (d : D) (δ δ' : DE), u d δ = some δ' → ∀ (i : Nat) (ds : List D), δ'[i]? = some (.own ds) → δ[i]? = some (.own ds) ∧ i ∉ ts
def UsOk (ts : List Nat) (us : List D → DE → Option DE) : Prop := ∀ (d : List D) (δ δ' : DE), us d δ = some δ' → ∀ (i : Nat) (ds : List D), δ'[i]? = some (.own ds) → δ[i]? = some (.own ds) ∧ i ∉ ts
theorem uo_name {i : Nat} : UOk [i] (nameU i) := fun d δ δ' e j ds z => by
  cases (Option.some.inj e : δ.set i (.v d) = δ')
  by_cases hj : i = j
  · subst hj
    by_cases hi : i < δ.length
    · rw [List.getElem?_set_self hi] at z; cases z
    · rw [List.getElem?_eq_none (by rw [List.length_set]; omega)] at z; cases z
  · rw [List.getElem?_set_ne hj] at z
    exact ⟨z, fun y => hj (List.mem_singleton.mp y).symm⟩
theorem uo_nil : UsOk [] nilU := fun d δ δ' e j ds z => by
  cases d with
  | nil => cases (Option.some.inj e : δ = δ'); exact ⟨z, by simp⟩
  | cons a l => cases e
theorem uo_cons {ts ts' : List Nat} {u : D → DE → Option DE} {us : List D → DE → Option DE} (a : UOk ts u) (b : UsOk ts' us) : UsOk (ts ++ ts') (consU u us) := fun d δ δ' e j ds z => by
  cases d with
  | nil => cases e
  | cons x l =>
    have e : (u x δ).bind (fun δ' => us l δ') = some δ' := e
    cases y : u x δ with
    | none => rw [y] at e; cases e
    | some δ1 =>
      rw [y] at e
      obtain ⟨z1, n1⟩ := b l δ1 δ' e j ds z
      obtain ⟨z2, n2⟩ := a x δ δ1 y j ds z1
      exact ⟨z2, fun w => (List.mem_append.mp w).elim n2 n1⟩
theorem uo_tup {n : Nat} {ts : List Nat} {us : List D → DE → Option DE} (a : UsOk ts us) : UOk ts (tupU n us) := fun d δ δ' e j ds z => by
  cases d with
  | tup l =>
    have e : (if l.length = n then us l δ else none) = some δ' := e
    split at e
    · exact a l δ δ' e j ds z
    · cases e
  | _ => cases e
/-- [ef for u in .. if tf for u1 in gi1 if tf1] -/
def comp2F (u : D → DE → Option DE) (tf : DE → Bx → R Bool) (gi1 : DE → Bx → R (List D)) (vs1 : List Nat) (u1 : D → DE → Option DE) (tf1 : DE → Bx → R Bool) (ef : EF) (δ : DE) : List D → Nat → Bx → R (List D)
  | [], _, h => .ok [] h
  | d :: ds, n, h => match u d δ with
    | none => .bad
    | some δ1 => (quiet (tf δ1 h)).bind fun b h1 => if b = true then (quiet (gi1 δ1 h1)).bind fun es h2 => if n + es.length ≤ big then (compF u1 tf1 ef (wipeD δ1 vs1) es h2).bind fun ys h3 => (comp2F u tf gi1 vs1 u1 tf1 ef δ ds (n + ys.length) h3).bind fun zs h4 => .ok (ys ++ zs) h4 else .bad
      else comp2F u tf gi1 vs1 u1 tf1 ef δ ds n h1
def lc2N (gi : DE → Bx → R (List D)) (vs : List Nat) (u : D → DE → Option DE) (tf : DE → Bx → R Bool) (gi1 : DE → Bx → R (List D)) (vs1 : List Nat) (u1 : D → DE → Option DE) (tf1 : DE → Bx → R Bool) (ef : EF) : DE → Bx → R (List D) :=
  fun δ h => (gi δ h).bind fun ds h1 => quiet (comp2F u tf gi1 vs1 u1 tf1 ef (wipeD δ vs) ds 0 h1)
theorem wipe_ext1 {σ σ' : L2.St} {vs : List Nat} (hl : σ'.length = σ.length) (hk : ∀ i, i ∉ vs → σ'[i]? = σ[i]?) : L2.wipe σ' vs = L2.wipe σ vs := wipe_ext hl hk
theorem wipeD_own {δ : DE} : ∀ {vs : List Nat} {i : Nat} {ds : List D}, (wipeD δ vs)[i]? = some (.own ds) → δ[i]? = some (.own ds)
  | [], _, _, e => e
  | v :: vs, i, ds, e => by
    have e : ((wipeD δ vs).set v .no)[i]? = some (.own ds) := e
    by_cases hv : v = i
    · subst hv
      by_cases hi : v < (wipeD δ vs).length
      · rw [List.getElem?_set_self hi] at e; cases e
      · rw [List.getElem?_eq_none (by rw [List.length_set]; omega)] at e; cases e
    · rw [List.getElem?_set_ne hv] at e
      exact wipeD_own e
theorem lc2_of {gi gi1 : DE → Bx → R (List D)} {ts vs ts1 vs1 : List Nat} {u u1 : D → DE → Option DE} {tf tf1 : DE → Bx → R Bool} {ef : EF} (hts : ∀ i ∈ ts, i ∈ vs) (hts1 : ∀ i ∈ ts1, i ∈ vs1) (hu : UOk ts u) {Q : VK} (q : tN G W (lc2N gi vs u tf gi1 vs1 u1 tf1 ef) σ H Q) :
    tLc2 (tI G W gi) (tGt G ts u) (tG G W0 rB tf) (tI G W0 gi1) (tGt G ts1 u1) (tG G W0 rB tf1) (tG G W0 (rV G.J) ef) vs vs1 σ H Q := by
  obtain ⟨M, r, h, δ, b, q⟩ := q
  refine ⟨M, r, h, δ, b, ?_⟩
  unfold lc2N at q
  cases z : gi δ h with
  | bad => rw [z] at q; exact q.elim
  | exc c fs h1 => rw [z] at q; exact q
  | ok ds h1 =>
    rw [z] at q
    simp only [R.bind_ok] at q
    intro J M' r' H' st b' gd Dd hD
    obtain ⟨Gd, Y, w, gd, yd⟩ := gd
    have f0 : Free G.H0 Dd := b'.free0 hD
    have no : NoOwn (wipeD δ vs) (L2.wipe σ vs) Dd := (b'.wipe vs).noOwn hD
    have noσ : NoOwn δ σ Dd := b'.noOwn hD
    let Pv : Nat → Hp → Prop := fun i H1 => ∃ M1 r1 h2 acc va, Stp M' r' H' M1 r1 H1 ∧ BS G M1 r1 h2 (wipeD δ vs) (L2.wipe σ vs) H1 ∧ H1 Dd = some (.lst va) ∧ M1 Dd = none ∧ Dd ∉ r1 ∧ Reps G.J M1 r1 acc va ∧ acc.length ≤ big ∧
      LcEnd (comp2F u tf gi1 vs1 u1 tf1 ef (wipeD δ vs) (ds.drop i) acc.length h2) fun ys h3 => AfterN G W σ δ M r H (.ok (acc ++ ys) h3) Q
    have hst : Stp M' r' H' M' r' (upd H' Dd (.lst [])) := ⟨Le.refl, List.prefix_rfl, fun a z => .inl z, fun a o e _ _ => upd_new hD e, fun a m _ _ => m⟩
    refine it_of w Pv ⟨M', r', h1, [], [], hst, (b'.wipe vs).new_list hD, upd_same, b'.fresh_M hD, b'.fresh_r hD, rfl, Nat.zero_le _, ?_⟩
      (fun i H1 _ ⟨M1, r1, h2, acc, va, s1, b1, _⟩ => gd M1 r1 h2 _ _ H1 s1.le s1.pre b1) (fun i x H1 H2 hi ⟨M1, r1, h2, acc, va, s1, b1, e1, m1, n1, t1, l1, q1⟩ y => ?_) (fun H1 ⟨M1, r1, h2, acc, va, s1, b1, e1, m1, n1, t1, l1, q1⟩ => ?_)
    · rw [List.drop_zero]
      show LcEnd (comp2F u tf gi1 vs1 u1 tf1 ef (wipeD δ vs) ds 0 h1) _
      cases y : comp2F u tf gi1 vs1 u1 tf1 ef (wipeD δ vs) ds 0 h1 with
      | ok ys h3 => rw [y] at q; exact q
      | exc c fs h3 => rw [y] at q; exact q.elim
      | bad => rw [y] at q; exact q
    · -- one turn
      obtain ⟨M2, d, b2, s2, e2, rp⟩ := yd i x H1 H2 M1 r1 h2 _ _ hi s1.le s1.pre b1 y
      rw [List.drop_eq_getElem_cons hi] at q1
      rw [List.getElem?_eq_getElem hi] at e2
      rw [Option.some.inj e2] at q1
      unfold comp2F at q1
      cases z1 : u d (wipeD δ vs) with
      | none => rw [z1] at q1; exact q1.elim
      | some δ2 =>
        rw [z1] at q1
        simp only at q1
        have mD : ∀ {Ma ra Ha Mb rb Hb va}, Stp Ma ra Ha Mb rb Hb → Ha Dd = some (.lst va) → Ma Dd = none → Dd ∉ ra → Hb Dd = some (.lst va) ∧ Mb Dd = none ∧ Dd ∉ rb := fun {Ma ra Ha Mb rb Hb va} s e m n =>
          have nf : IsL Ha Dd := ⟨va, e⟩
          ⟨s.keep _ _ e (fun ps z => by cases z) n, s.nf _ m nf n, fun z => (s.new _ z).elim n nf.nf⟩
        obtain ⟨e3, m3, n3⟩ := mD s2 e1 m1 n1
        refine ⟨M2, r1, h2, _, d, δ2, b2, rp, z1, fun σ2 b3 l3 k3 => ⟨?_, M2, r1, h2, δ2, b3, ?_⟩⟩
        · rw [← wipe_wipe σ vs]
          exact wipe_ext l3 fun j hj => k3 j fun z => hj (hts j z)
        · have no2 : NoOwn δ2 σ2 Dd := fun j ds' e y => by
            obtain ⟨z2, z3⟩ := hu d _ _ z1 j ds' e
            rw [k3 j z3] at y
            exact no j ds' z2 y
          have no2w : NoOwn (wipeD δ2 vs1) (L2.wipe σ2 vs1) Dd := fun j ds' e y => no2 j ds' (wipeD_own e) (wipe_some y).1
          -- the test
          cases y1 : tf δ2 h2 with
          | exc c fs h3 => rw [y1] at q1; exact q1.elim
          | bad => rw [y1] at q1; exact q1.elim
          | ok bb h3 =>
            rw [y1] at q1
            simp only [quiet, R.bind_ok] at q1
            intro bv M4 r4 H4 s4 b4 ev
            cases ev
            obtain ⟨e5, m5, n5⟩ := mD s4 e3 m3 n3
            have b4w : BS G M4 r4 h3 (wipeD δ vs) (L2.wipe σ vs) H4 := b2.step s4 b4
            have s04 := s1.trans (s2.trans s4)
            cases bb with
            | false =>
              simp only [Bool.false_eq_true, if_false] at q1 ⊢
              exact ⟨M4, r4, h3, acc, va, s04, b4w, e5, m5, n5, Reps.mono (s2.trans s4).le (s2.trans s4).pre _ _ t1, l1, q1⟩
            | true =>
              simp only [if_true] at q1 ⊢
              refine ⟨M4, r4, h3, δ2, b4, ?_⟩
              cases y2 : gi1 δ2 h3 with
              | exc c fs h5 => rw [y2] at q1; exact q1.elim
              | bad => rw [y2] at q1; exact q1.elim
              | ok es h5 =>
                rw [y2] at q1
                simp only [quiet, R.bind_ok] at q1
                by_cases hz : acc.length + es.length ≤ big
                · rw [if_pos hz] at q1
                  intro J1 M5 r5 H5 s5 b5 gd1
                  obtain ⟨Gd1, Y1, w1, gd1, yd1⟩ := gd1
                  obtain ⟨e6, m6, n6⟩ := mD s5 e5 m5 n5
                  have s05 := s04.trans s5
                  have t5 : Reps G.J M5 r5 acc va := Reps.mono (s2.trans (s4.trans s5)).le (s2.trans (s4.trans s5)).pre _ _ t1
                  let Pv1 : Nat → Hp → Prop := fun j Hx => ∃ M6 r6 h6 acc' va', Stp M' r' H' M6 r6 Hx ∧ Le M5 M6 ∧ r5 <+: r6 ∧ BS G M6 r6 h6 (wipeD δ2 vs1) (L2.wipe σ2 vs1) Hx ∧ Hx Dd = some (.lst va') ∧ M6 Dd = none ∧ Dd ∉ r6 ∧ Reps G.J M6 r6 acc' va' ∧ acc'.length ≤ acc.length + j ∧
                    LcEnd (compF u1 tf1 ef (wipeD δ2 vs1) (es.drop j) h6) fun ys h7 => LcEnd (comp2F u tf gi1 vs1 u1 tf1 ef (wipeD δ vs) (ds.drop (i + 1)) (acc'.length + ys.length) h7) fun zs h8 => AfterN G W σ δ M r H (.ok (acc' ++ ys ++ zs) h8) Q
                  refine it_of w1 Pv1 ⟨M5, r5, h5, acc, va, s05, Le.refl, List.prefix_rfl, b5.wipe vs1, e6, m6, n6, t5, Nat.le_refl _, ?_⟩
                    (fun j Hx _ ⟨M6, r6, h6, acc', va', _, le6, pre6, b6, e7, _⟩ => gd1 M6 r6 h6 _ _ Hx le6 pre6 b6) (fun j x' Hx Hy hj ⟨M6, r6, h6, acc', va', s6, le6, pre6, b6, e7, m7, n7, t6, l6, q6⟩ y' => ?_) (fun Hx ⟨M6, r6, h6, acc', va', s6, le6, pre6, b6, e7, m7, n7, t6, l6, q6⟩ => ?_)
                  · rw [List.drop_zero]
                    cases y3 : compF u1 tf1 ef (wipeD δ2 vs1) es h5 with
                    | exc c fs h7 => rw [y3] at q1; exact q1.elim
                    | bad => rw [y3] at q1; exact q1.elim
                    | ok ys h7 =>
                      rw [y3] at q1
                      simp only [R.bind_ok] at q1
                      show LcEnd (comp2F u tf gi1 vs1 u1 tf1 ef (wipeD δ vs) (ds.drop (i + 1)) (acc.length + ys.length) h7) _
                      cases y4 : comp2F u tf gi1 vs1 u1 tf1 ef (wipeD δ vs) (ds.drop (i + 1)) (acc.length + ys.length) h7 with
                      | exc c fs h8 => rw [y4] at q1; exact q1.elim
                      | bad => rw [y4] at q1; exact q1.elim
                      | ok zs h8 =>
                        rw [y4] at q1
                        show AfterN G W σ δ M r H (.ok (acc ++ ys ++ zs) h8) Q
                        rw [List.append_assoc]
                        exact q1
                  · -- one inner turn
                    obtain ⟨M7, d', b7, s8, e8, rp7⟩ := yd1 j x' Hx Hy M6 r6 h6 _ _ hj le6 pre6 b6 y'
                    rw [List.drop_eq_getElem_cons hj] at q6
                    rw [List.getElem?_eq_getElem hj] at e8
                    rw [Option.some.inj e8] at q6
                    unfold compF at q6
                    cases z2 : u1 d' (wipeD δ2 vs1) with
                    | none => rw [z2] at q6; exact q6.elim
                    | some δ3 =>
                      rw [z2] at q6
                      simp only at q6
                      obtain ⟨e9, m9, n9⟩ := mD s8 e7 m7 n7
                      refine ⟨M7, r6, h6, _, d', δ3, b7, rp7, z2, fun σ3 b8 l8 k8 => ⟨?_, M7, r6, h6, δ3, b8, ?_⟩⟩
                      · rw [← wipe_wipe σ2 vs1]
                        exact wipe_ext l8 fun j hj => k8 j fun z => hj (hts1 j z)
                      · cases y3 : tf1 δ3 h6 with
                        | exc c fs h7 => rw [y3] at q6; exact q6.elim
                        | bad => rw [y3] at q6; exact q6.elim
                        | ok bb h7 =>
                          rw [y3] at q6
                          simp only [quiet, R.bind_ok] at q6
                          intro bv M8 r8 H8 s9 b9 ev
                          cases ev
                          obtain ⟨eA, mA, nA⟩ := mD s9 e9 m9 n9
                          have b9w : BS G M8 r8 h7 (wipeD δ2 vs1) (L2.wipe σ2 vs1) H8 := b7.step s9 b9
                          cases bb with
                          | false =>
                            simp only [Bool.false_eq_true, if_false] at q6 ⊢
                            exact ⟨M8, r8, h7, acc', va', s6.trans (s8.trans s9), le6.trans (s8.trans s9).le, pre6.trans (s8.trans s9).pre, b9w, eA, mA, nA, Reps.mono (s8.trans s9).le (s8.trans s9).pre _ _ t6, by omega, q6⟩
                          | true =>
                            simp only [if_true] at q6 ⊢
                            refine ⟨M8, r8, h7, δ3, b9, ?_⟩
                            cases y5 : ef δ3 h7 with
                            | exc c fs h8 => rw [y5] at q6; exact q6.elim
                            | bad => rw [y5] at q6; exact q6.elim
                            | ok yd' h8 =>
                              rw [y5] at q6
                              simp only [R.bind_ok] at q6
                              by_cases hv : isV yd' = true
                              · rw [if_pos hv] at q6
                                intro yv M9 r9 H9 sA bA rv
                                obtain ⟨eB, mB, nB⟩ := mD sA eA mA nA
                                have bAw : BS G M9 r9 h8 (wipeD δ2 vs1) (L2.wipe σ2 vs1) H9 := b9w.step sA bA
                                have st6 := s8.trans (s9.trans sA)
                                have rv' : Rep G.J M9 r9 yd' yv := by
                                  cases yd' with
                                  | loc i => cases hv
                                  | _ => exact rv
                                have la : va'.length = acc'.length := t6.length
                                refine ⟨va', eB, by rw [la]; exact big_lt (by omega), M9, r9, h8, acc' ++ [yd'], va' ++ [yv], ?_, le6.trans st6.le, pre6.trans st6.pre, bAw.wrote mB nB f0 no2w eB, upd_same, mB, nB, (Reps.mono st6.le st6.pre _ _ t6).append (Reps.one rv'), by rw [List.length_append]; simp; omega, ?_⟩
                                · have s0 := s6.trans st6
                                  refine ⟨s0.le, s0.pre, s0.new, fun a o e t n => ?_, s0.nf⟩
                                  rw [upd_ne (ne_of_none e hD)]
                                  exact s0.keep a o e t n
                                · cases y6 : compF u1 tf1 ef (wipeD δ2 vs1) (es.drop (j + 1)) h8 with
                                  | exc c fs h9 => rw [y6] at q6; exact q6.elim
                                  | bad => rw [y6] at q6; exact q6.elim
                                  | ok ys h9 =>
                                    rw [y6] at q6
                                    simp only [R.bind_ok] at q6
                                    have q6 : LcEnd (comp2F u tf gi1 vs1 u1 tf1 ef (wipeD δ vs) (ds.drop (i + 1)) (acc'.length + (yd' :: ys).length) h9) fun zs h8 => AfterN G W σ δ M r H (.ok (acc' ++ (yd' :: ys) ++ zs) h8) Q := q6
                                    show LcEnd (comp2F u tf gi1 vs1 u1 tf1 ef (wipeD δ vs) (ds.drop (i + 1)) ((acc' ++ [yd']).length + ys.length) h9) fun zs h8 => AfterN G W σ δ M r H (.ok ((acc' ++ [yd']) ++ ys ++ zs) h8) Q
                                    have x1 : (acc' ++ [yd']).length + ys.length = acc'.length + (yd' :: ys).length := by simp; omega
                                    have x2 : (acc' ++ [yd']) ++ ys = acc' ++ (yd' :: ys) := by simp
                                    rw [x1, x2]
                                    exact q6
                              · rw [if_neg hv] at q6
                                exact q6.elim
                  · -- the inner end
                    rw [List.drop_length] at q6
                    have q6 : LcEnd (comp2F u tf gi1 vs1 u1 tf1 ef (wipeD δ vs) (ds.drop (i + 1)) (acc'.length + 0) h6) fun zs h8 => AfterN G W σ δ M r H (.ok (acc' ++ [] ++ zs) h8) Q := q6
                    rw [List.append_nil, Nat.add_zero] at q6
                    exact ⟨M6, r6, h6, acc', va', s6, (b'.wipe vs).step s6 b6, e7, m7, n7, t6, by omega, q6⟩
                · rw [if_neg hz] at q1; exact q1.elim
    · -- behind all
      rw [List.drop_length] at q1
      have q1 : AfterN G W σ δ M r H (.ok (acc ++ []) h2) Q := q1
      rw [List.append_nil] at q1
      have s2 := st.trans s1
      have b2 := (b'.step s1 b1).erase m1 n1 f0 noσ e1
      have z := q1 va M1 r1 _ Dd ⟨s2.le, s2.pre, s2.new, fun a o e t n => ?_, s2.nf⟩ b2 t1 l1 (if_pos rfl)
      · have : upd (fun c => if c = Dd then none else H1 c) Dd (.lst va) = H1 := by
          funext c
          unfold upd
          by_cases hc : c = Dd
          · subst hc; rw [if_pos rfl, e1]
          · rw [if_neg hc]; exact if_neg hc
        rw [this] at z
        exact z
      · have ne : a ≠ Dd := fun y => by
          subst y
          have := st.keep a o e t n
          rw [hD] at this; cases this
        show (if a = Dd then none else H1 a) = _
        rw [if_neg ne]
        exact s2.keep a o e t n
theorem evn_lc2 {elt iter tg1 iter1 : Expr} {ifs ifs1 : List Expr} {scope : Scope} {own : List (Str × Nat)} {gi gi1 : DE → Bx → R (List D)} {ts ts1 vs1 : List Nat} {u u1 : D → DE → Option DE} {tf tf1 : DE → Bx → R Bool} {ef : EF} (hc : X.calm = true) (hN : X.N.Nodup)
    (hi : EvI X G W tg iter gi) (ok : BlkOk X.N X.env.scope scope own) (hts : ∀ i ∈ ts, i ∈ own.map (·.2)) (hts1 : ∀ i ∈ ts1, i ∈ vs1) (hv : ∀ i ∈ vs1, i ∈ own.map (·.2)) (hu : UOk ts u)
    (hg : ∀ (s : Shared) (H : Hp) (C : Addr) (cl : List (Str × Addr)) (fp : List Addr), EvG (X.blk s H scope (compEnvC scope cl C X.env) fp) G tg ts u) (ht : ∀ (s : Shared) (H : Hp) (C : Addr) (cl : List (Str × Addr)) (fp : List Addr), EvTs (X.blk s H scope (compEnvC scope cl C X.env) fp) G W0 ifs tf)
    (hi1 : ∀ (s : Shared) (H : Hp) (C : Addr) (cl : List (Str × Addr)) (fp : List Addr), EvI (X.blk s H scope (compEnvC scope cl C X.env) fp) G W0 tg1 iter1 gi1)
    (hg1 : ∀ (s : Shared) (H : Hp) (C : Addr) (cl : List (Str × Addr)) (fp : List Addr), EvG (X.blk s H scope (compEnvC scope cl C X.env) fp) G tg1 ts1 u1) (ht1 : ∀ (s : Shared) (H : Hp) (C : Addr) (cl : List (Str × Addr)) (fp : List Addr), EvTs (X.blk s H scope (compEnvC scope cl C X.env) fp) G W0 ifs1 tf1)
    (he : ∀ (s : Shared) (H : Hp) (C : Addr) (cl : List (Str × Addr)) (fp : List Addr), Ev (X.blk s H scope (compEnvC scope cl C X.env) fp) G W0 elt ef) (hs : ∀ x, foldedSetIterable iter X.env x = pure x := by intro _; rfl) (hs1 : ∀ env x, foldedSetIterable iter1 env x = pure x := by intro _ _; rfl) :
    EvN X G W (.ListComp elt [⟨tg, iter, ifs, 0⟩, ⟨tg1, iter1, ifs1, 0⟩] scope pos) (lc2N gi (own.map (·.2)) u tf gi1 vs1 u1 tf1 ef) := PE.imp (pe_lc2 hc hN hi ok hv hg ht hi1 hg1 ht1 he hs hs1) fun σ H Q q => lc2_of hts hts1 hu q
end
@[simp] theorem lc2N_ap {gi : DE → Bx → R (List D)} {vs : List Nat} {u : D → DE → Option DE} {tf : DE → Bx → R Bool} {gi1 : DE → Bx → R (List D)} {vs1 : List Nat} {u1 : D → DE → Option DE} {tf1 : DE → Bx → R Bool} {ef : EF} {δ : DE} {h : Bx} :
    lc2N gi vs u tf gi1 vs1 u1 tf1 ef δ h = (gi δ h).bind fun ds h1 => quiet (comp2F u tf gi1 vs1 u1 tf1 ef (wipeD δ vs) ds 0 h1) := pr rfl
end LP
/-! LpY: l.index(x). -/
namespace LP
open PySem PySem.Spec PyProof.Rows L2
def rIdxP (K : PySem.W.Frag) : V → List V → Hp → VK → Prop := fun x xs H Q => ∃ (a : Addr) (y : V) (d : D) (ds : List D) (j : Nat), x = V.ref a ∧ xs = [y] ∧ Dp K H (V.ref a) (.list (D.pys ds)) ∧ Dp K H y d.py ∧
  min (D.deps ds) d.dep ≤ 60 ∧ ds.findIdx? (fun z => D.eq z d) = some j ∧ Q (.int (j : Nat)) H
theorem pys_get : ∀ {ds : List D} {j : Nat}, (D.pys ds)[j]? = (ds[j]?).map D.py
  | [], j => by simp [D.pys]
  | d :: ds, 0 => rfl
  | d :: ds, j + 1 => by
    show (D.pys ds)[j]? = (ds[j]?).map D.py
    exact pys_get
theorem pys_len : ∀ {ds : List D}, (D.pys ds).length = ds.length
  | [] => rfl
  | d :: ds => by show (D.pys ds).length + 1 = ds.length + 1; rw [pys_len]
section
variable {X : Cx}
theorem mt_indexP (hu : X.A.units + 64 < cLine) : MtR X "list.index" (rIdxP X.K) := by
  intro pins s σ H x xs v us Q I rx rxs h
  obtain ⟨a, y, d, ds, j, rfl, rfl, hl, hy, hz, hf, q⟩ := h
  cases rx
  cases rxs with
  | cons ry rt =>
    rename_i uy ut
    cases rt
    obtain ⟨bs, r1⟩ := Dp.reads I _ y uy hy ry
    have hroom : X.A.units + 1 + min (PyData.depthAll (D.pys ds)) d.py.depth < cLine := by rw [depth_py, depth_pys]; omega
    obtain ⟨hjd, hej, hno⟩ := List.findIdx?_eq_some_iff_getElem.mp hf
    cases hl with
    | lst hs ha =>
      obtain ⟨its, rv, ⟨⟨cls, dd, data, sls⟩, n, ho, hc, hdn, hdt⟩, hlen⟩ := I.list hs
      simp only at hc hdt
      subst hc hdt
      obtain ⟨as, h4⟩ := Dp.readsAll I (D.pys ds) _ its ha rv
      have hn : its.length = (D.pys ds).length := SeqAt.ReadsAll.length (D.pys ds) its as h4
      have hmap : its.map (SeqAt.readOf s.heap) = D.pys ds := SeqAt.readsAll_map_plain (D.pys ds) its as (plain_pys ds) h4
      have hvl := rv.length
      have hsl := sizeLine_eq
      rw [pys_len] at hn
      have hjl : j < its.length := by omega
      have hj : j < its.toArray.size := by simpa using hjl
      have at_ : ∀ (m : Nat) (hm : m < its.toArray.size) (hm' : m < ds.length), SeqAt.readOf s.heap its.toArray[m] = (ds[m]).py := by
        intro m hm hm'
        have hml : m < its.length := by simpa using hm
        have e0 : (its.map (SeqAt.readOf s.heap))[m]? = (D.pys ds)[m]? := by rw [hmap]
        rw [List.getElem?_map, List.getElem?_eq_getElem hml, pys_get, List.getElem?_eq_getElem hm'] at e0
        have e1 : SeqAt.readOf s.heap its[m] = (ds[m]).py := Option.some.inj e0
        simpa using e1
      refine call_meets PySem.F.slot_list_index ⟨_, ho, rfl⟩ PySem.F.entry_list_index (PySem.F.args_list_index_2 _ _)
        (SeqAt.list_indexAt a its.toArray n dd sls uy (fun u => PyData.eqv (SeqAt.readOf s.heap u) d.py) j hj (by omega) ?_ ?_) ⟨ho, SeqAt.items_plain (vs := its.toArray) (show ReadsAll s.heap its.toArray.toList (D.pys ds) as from h4) r1 (plain_pys ds) (plain_py d) hroom, ?_⟩
      · show PyData.eqv (SeqAt.readOf s.heap its.toArray[j]) d.py = true
        rw [at_ j hj hjd]
        exact hej
      · intro m hm hmj
        have hmd : m < ds.length := by omega
        show PyData.eqv (SeqAt.readOf s.heap its.toArray[m]) d.py = false
        rw [at_ m hm hmd]
        have := hno m hmj
        exact (by simpa using this : D.eq ds[m] d = false)
      · exact ⟨.int (j : Nat), H, I.tok _, ⟨_, rfl⟩, q⟩
end
section
variable {X : Cx} {G : Cfg} {W : WX} {σ : L2.St} {δ : DE} {M M' M1 M2 : Imm} {r r' r1 r2 : List Addr} {h h' h1 h2 : Bx} {H H' H1 H2 : Hp} {E : Ends}
variable {e o : Expr} {f g : EF} {apos cpos : Pos}
def idxK (a b : D) (δ : DE) (h : Bx) : R D := match lstOf δ h a with
  | some ds => if ((vw δ h b).pure && D.pures ds && decide (min (D.deps ds) (vw δ h b).dep ≤ 60)) = true then
      match ds.findIdx? (fun z => D.eq z (vw δ h b)) with
      | some j => .ok (.int (j : Nat)) h
      | none => .bad
    else .bad
  | none => .bad
/-- f.index(g) -/
def idxF (f g : EF) : EF := fun δ h => (f δ h).bind fun a h1 => if (lstOf δ h1 a).isSome = true then (g δ h1).bind fun b h2 => idxK a b δ h2 else .bad
theorem ev_index (hu : X.A.units + 64 < cLine) (ho : Ev X G W o f) (ha : Ev X G W e g) (hK : X.K = G.K)
    (hbase : attributeBase o "index" X.env (eval o X.env) = eval o X.env := by rfl)
    (hfew : ((backTo cpos (starEach [e] X.env)).all (fun x => !x.1) && (backToKw cpos (keywordEach [] X.env)).all (fun x => x.1.isSome) && decide ([e].length + ([] : List Keyword).length + (if ([] : List Keyword).isEmpty then 0 else 1) < 30)) = true := by rfl)
    (hline : (apos.endLine == cpos.line) = true := by rfl) (hs : starEach [e] X.env = (false, eval e X.env) :: starEach [] X.env := by rfl) (hplain : (backTo cpos (starEach [] X.env)).any (·.1) = false := by rfl) :
    Ev X G W (.Call (.Attribute o "index" apos) [e] [] cpos) (idxF f g) :=
  PE.imp (pe_bm PySem.F.plainAttrs_list PySem.F.slot_list_index PySem.F.type_list_index (mt_indexP hu) ho (pa_cons ha pa_nil hs) hbase hfew hline hs hplain) fun σ H Q q => by
    rw [hK]
    obtain ⟨M, r, h, δ, b, q⟩ := q
    refine ⟨M, r, h, δ, b, (After.bind (rl := rV G.J δ σ) q).more fun x H1 ⟨dx, M1, r1, h1, s1, b1, rx, q1⟩ => ?_⟩
    by_cases z : (lstOf δ h1 dx).isSome = true
    · rw [if_pos z] at q1
      obtain ⟨es, ez⟩ := Option.isSome_iff_exists.mp z
      obtain ⟨a, vs, e1, hq, _, _⟩ := b1.lst rx ez
      subst e1
      refine ⟨.inl ⟨rfl, vs, hq⟩, M1, r1, h1, δ, b1, (After.bind (rl := rV G.J δ σ) q1).more fun y H2 ⟨dy, M2, r2, h2, s2, b2, ry, q2⟩ => ?_⟩
      unfold idxK at q2
      split at q2
      · rename_i ds ed
        split at q2
        · rename_i e
          rw [Bool.and_eq_true, Bool.and_eq_true, decide_eq_true_eq] at e
          split at q2
          · rename_i j ej
            obtain ⟨a', vs', e2, hs, t, _⟩ := b2.lst (rx.mono s2.le s2.pre) ed
            cases e2
            exact ⟨a, y, _, ds, j, rfl, rfl, .lst hs (dp_reps b2 ds vs' t e.1.2), dp_of b2 ry e.1.1, e.2, ej, q2.now b2 rfl⟩
          · exact q2.elim
        · exact q2.elim
      · exact q2.elim
    · rw [if_neg z] at q1; exact q1.elim
@[simp] theorem idxF_ap : idxF f g δ h = (f δ h).bind fun a h1 => if (lstOf δ h1 a).isSome = true then (g δ h1).bind fun b h2 => idxK a b δ h2 else .bad := pr rfl
end
end LP
/-! LpZ: names that take comprehensions. -/
namespace LP
open PySem PySem.Spec PyProof.Rows L2
section
variable {X : Cx} {G : Cfg} {W : WX} {σ : L2.St} {δ : DE} {M M' M1 M2 : Imm} {r r' r1 r2 : List Addr} {h h' h1 h2 : Bx} {H H' H1 H2 : Hp} {E : Ends}
variable {e c : Expr} {f g : EF} {tg : Expr} {fs : DE → Bx → R (List D)} {pos : Pos} {i : Nat} {st : Stmt} {sf : SF}
/-- behind a statement the list of slot i is never written again -/
def endFrz (i : Nat) (sf : SF) : SF := fun δ h => match sf δ h with
  | .nx δ' h' => match δ'[i]? with
    | some (.own ds) => .nx (δ'.set i (.v (.lst ds))) h'
    | _ => .bad
  | x => x
theorem es_endFrz (i : Nat) (p : Es X G W st sf) : Es X G W st (endFrz i sf) := PS.imp p fun E σ H q => by
  obtain ⟨M, r, h, δ, b, q⟩ := q
  refine ⟨M, r, h, δ, b, ?_⟩
  unfold endFrz at q
  cases z : sf δ h with
  | nx δ' h' =>
    rw [z] at q
    simp only at q
    intro M1 r1 σ1 H1 le pre b1
    split at q
    · rename_i ds e
      obtain ⟨M2, a, vs, _, le2, b2, _⟩ := b1.freeze e
      exact q M2 r1 σ1 H1 (le.trans le2) pre b2
    · exact q.elim
  | rt d h' => rw [z] at q; exact q
  | bk δ' h' => rw [z] at q; exact q
  | ct δ' h' => rw [z] at q; exact q
  | exc c fs δ' h' => rw [z] at q; exact q
  | bad => rw [z] at q; exact q
theorem es_ownLc2 {y : Str} {py spos : Pos} {elt iter tg1 iter1 : Expr} {ifs ifs1 : List Expr} {scope : Scope} {own : List (Str × Nat)} {gi gi1 : DE → Bx → R (List D)} {ts ts1 vs1 : List Nat} {u u1 : D → DE → Option DE} {tf tf1 : DE → Bx → R Bool} {ef : EF} (hc : X.calm = true) (hN : X.N.Nodup)
    (hy : X.N[i]? = some y) (hyl : X.env.scope.names.lookup y = some .local) (hsw : swapsWith (.ListComp elt [⟨tg, iter, ifs, 0⟩, ⟨tg1, iter1, ifs1, 0⟩] scope pos) (some (.Name y py)) spos.line X.env = pure true)
    (hi : EvI X G W tg iter gi) (ok : BlkOk X.N X.env.scope scope own) (hts : ∀ i ∈ ts, i ∈ own.map (·.2)) (hts1 : ∀ i ∈ ts1, i ∈ vs1) (hv : ∀ i ∈ vs1, i ∈ own.map (·.2)) (hu : UOk ts u)
    (hg : ∀ (s : Shared) (H : Hp) (C : Addr) (cl : List (Str × Addr)) (fp : List Addr), EvG (X.blk s H scope (compEnvC scope cl C X.env) fp) G tg ts u) (ht : ∀ (s : Shared) (H : Hp) (C : Addr) (cl : List (Str × Addr)) (fp : List Addr), EvTs (X.blk s H scope (compEnvC scope cl C X.env) fp) G W0 ifs tf)
    (hi1 : ∀ (s : Shared) (H : Hp) (C : Addr) (cl : List (Str × Addr)) (fp : List Addr), EvI (X.blk s H scope (compEnvC scope cl C X.env) fp) G W0 tg1 iter1 gi1)
    (hg1 : ∀ (s : Shared) (H : Hp) (C : Addr) (cl : List (Str × Addr)) (fp : List Addr), EvG (X.blk s H scope (compEnvC scope cl C X.env) fp) G tg1 ts1 u1) (ht1 : ∀ (s : Shared) (H : Hp) (C : Addr) (cl : List (Str × Addr)) (fp : List Addr), EvTs (X.blk s H scope (compEnvC scope cl C X.env) fp) G W0 ifs1 tf1)
    (he : ∀ (s : Shared) (H : Hp) (C : Addr) (cl : List (Str × Addr)) (fp : List Addr), Ev (X.blk s H scope (compEnvC scope cl C X.env) fp) G W0 elt ef) (hs : ∀ x, foldedSetIterable iter X.env x = pure x := by intro _; rfl) (hs1 : ∀ env x, foldedSetIterable iter1 env x = pure x := by intro _ _; rfl) :
    Es X G W (.Assign [.Name y py] (.ListComp elt [⟨tg, iter, ifs, 0⟩, ⟨tg1, iter1, ifs1, 0⟩] scope pos) spos) (ownS i (lc2N gi (own.map (·.2)) u tf gi1 vs1 u1 tf1 ef)) :=
  PS.imp (ps_setLc2 hc hN hy hyl hsw hi ok hv hg ht hi1 hg1 ht1 he hs hs1) fun E σ H q => by
    obtain ⟨M, r, h, δ, b, q⟩ := q
    refine lc2_of (G := G) (W := W) (u := u) (Q := fun x H1 => gName i x σ H1 E.nx) hts hts1 hu ⟨M, r, h, δ, b, ?_⟩
    unfold ownS at q
    cases e : lc2N gi (own.map (·.2)) u tf gi1 vs1 u1 tf1 ef δ h with
    | ok ds h1 =>
      rw [e] at q
      intro vs M' r' H' p s b' t z hp
      exact (AfterS.from s.le s.pre q).nxt (b'.own hp t z)
    | exc c fs h => rw [e] at q; exact fun C dd M' r' H' m s b e => q C dd M' r' σ H' m s.le s.pre b e
    | bad => rw [e] at q; exact q
@[simp] theorem endFrz_ap : endFrz i sf δ h = (match sf δ h with
  | .nx δ' h' => match δ'[i]? with
    | some (.own ds) => .nx (δ'.set i (.v (.lst ds))) h'
    | _ => .bad
  | x => x) := pr rfl
@[simp] theorem vw_loc : vw δ h (.loc i) = (match lstOf δ h (.loc i) with | some ds => .lst ds | none => .loc i) := pr rfl
@[simp] theorem isNK_ap {a : D} : isNK a .non δ h = .ok (.bl (isNon a)) h := pr rfl
@[simp] theorem notNK_ap {a : D} : notNK a .non δ h = .ok (.bl (!isNon a)) h := pr rfl
@[simp] theorem isNon_non : isNon .non = true := pr rfl
@[simp] theorem isNon_int {n : Int} : isNon (.int n) = false := pr rfl
theorem seq_rt {sf sg : SF} {h' : Bx} {d : D} (e : sf δ h = .rt d h') : seqS sf sg δ h = .rt d h' := by rw [seqS_ap, e]
theorem seq_exc {sf sg : SF} {δ' : DE} {h' : Bx} {c : Str} {fs : List (Str × D)} (e : sf δ h = .exc c fs δ' h') : seqS sf sg δ h = .exc c fs δ' h' := by rw [seqS_ap, e]
end
end LP
/-! LpZa: boxes within boxes: o.pop(), o.append(e), l[::-1] as a new list. -/
namespace LP
open PySem PySem.Spec PyProof.Rows L2
section
variable {X : Cx} {G : Cfg} {W : WX} {σ : L2.St} {δ : DE} {M M' M1 M2 : Imm} {r r' r1 r2 : List Addr} {h h' h1 h2 : Bx} {H H' H1 H2 : Hp} {E : Ends}
variable {e o : Expr} {f g : EF} {pos apos cpos : Pos}
/-- f.pop(), f a box -/
def popF (f : EF) : EF := fun δ h => (f δ h).bind fun d h1 => match d with
  | .ptr n => match h1[n]? with
    | some ds => match ds.getLast? with
      | some y => if isV y = true then .ok y (h1.set n ds.dropLast) else .bad
      | none => .bad
    | none => .bad
  | _ => .bad
theorem ev_popF (ho : Ev X G W o f) (hK : X.K = G.K) (hbase : attributeBase o "pop" X.env (eval o X.env) = eval o X.env := by rfl) (hline : (apos.endLine == cpos.line) = true := by rfl) :
    Ev X G W (.Call (.Attribute o "pop" apos) [] [] cpos) (popF f) :=
  PE.imp (pe_bm0 PySem.F.plainAttrs_list PySem.F.slot_list_pop PySem.F.type_list_pop mt_pop ho hbase hline) fun σ H Q q => by
    rw [hK]
    obtain ⟨M, r, h, δ, b, q⟩ := q
    refine ⟨M, r, h, δ, b, (After.bind (rl := rV G.J δ σ) q).more fun x H1 ⟨d, M1, r1, h1, s1, b1, rx, q1⟩ => ?_⟩
    cases d with
    | ptr n =>
      simp only at q1
      cases y : h1[n]? with
      | none => rw [y] at q1; exact q1.elim
      | some ds =>
        rw [y] at q1
        simp only at q1
        cases z : ds.getLast? with
        | none => rw [z] at q1; exact q1.elim
        | some w =>
          rw [z] at q1
          simp only at q1
          by_cases iv : isV w = true
          · rw [if_pos iv] at q1
            obtain ⟨a, rfl, ea⟩ := rx
            obtain ⟨m, l, vs, q2, t⟩ := b1.bx.at_ n a ds ea y
            have hx : ds[ds.length - 1]? = some w := by rw [← List.getLast?_eq_getElem?]; exact z
            obtain ⟨v, ev, rp⟩ := t.get hx
            obtain ⟨b2, s2⟩ := b1.boxW (es := ds.dropLast) (us := vs.dropLast) ea t.dropLast (by rw [List.length_dropLast]; omega)
            refine ⟨.inl ⟨rfl, vs, .inl (.inl q2)⟩, a, vs, v, rfl, rfl, q2, by rw [t.length]; exact ev, q1 v M1 r1 _ s2 b2 ?_⟩
            cases w with
            | loc i => cases iv
            | _ => exact rp
          · rw [if_neg iv] at q1; exact q1.elim
    | _ => exact q1.elim
/-- f.append(g), f a box -/
def appX (f g : EF) : SF := fun δ h => (f δ h).toS δ fun d h1 => match d with
  | .ptr n => (if (h1[n]?).isSome = true then (g δ h1).toS δ fun y h2 => match h2[n]? with
    | some ds => if (isV y && decide (ds.length < big)) = true then .nx δ (h2.set n (ds ++ [y])) else .bad
    | none => .bad
    else .bad)
  | _ => .bad
theorem es_appX (ho : Ev X G W o f) (ha : Ev X G W e g) (hK : X.K = G.K)
    (hbase : attributeBase o "append" X.env (eval o X.env) = eval o X.env := by rfl)
    (hfew : ((backTo cpos (starEach [e] X.env)).all (fun x => !x.1) && (backToKw cpos (keywordEach [] X.env)).all (fun x => x.1.isSome) && decide ([e].length + ([] : List Keyword).length + (if ([] : List Keyword).isEmpty then 0 else 1) < 30)) = true := by rfl)
    (hline : (apos.endLine == cpos.line) = true := by rfl) (hs : starEach [e] X.env = (false, eval e X.env) :: starEach [] X.env := by rfl) (hplain : (backTo cpos (starEach [] X.env)).any (·.1) = false := by rfl)
    (hsw : swapsWith (.Call (.Attribute o "append" apos) [e] [] cpos) none pos.line X.env = pure false := by rfl) :
    Es X G W (.Expr (.Call (.Attribute o "append" apos) [e] [] cpos) pos) (appX f g) :=
  PS.imp (ps_expr (pe_bm PySem.F.plainAttrs_list PySem.F.slot_list_append PySem.F.type_list_append mt_append ho (pa_cons ha pa_nil hs) hbase hfew hline hs hplain) hsw) fun E σ H q => by
    rw [hK]
    obtain ⟨M, r, h, δ, b, q⟩ := q
    refine ⟨M, r, h, δ, b, (AfterS.expr (rl := rV G.J) b q).more fun x H1 ⟨d, M1, r1, h1, s1, b1, rx, q1⟩ => ?_⟩
    cases d with
    | ptr n =>
      simp only at q1
      by_cases hs : (h1[n]?).isSome = true
      · rw [if_pos hs] at q1
        obtain ⟨a, rfl, ea⟩ := rx
        obtain ⟨ds0, y0⟩ := Option.isSome_iff_exists.mp hs
        obtain ⟨m0, l0, vs0, q0, t0⟩ := b1.bx.at_ n a ds0 ea y0
        refine ⟨.inl ⟨rfl, vs0, .inl (.inl q0)⟩, M1, r1, h1, δ, b1, (AfterS.expr (rl := rV G.J) b1 q1).more fun w H2 ⟨y, M2, r2, h2, s2, b2, ry, q2⟩ => ?_⟩
        cases z : h2[n]? with
        | none => rw [z] at q2; exact q2.elim
        | some ds =>
          rw [z] at q2
          simp only at q2
          split at q2
          · rename_i c
            rw [Bool.and_eq_true, decide_eq_true_eq] at c
            have ea2 : r2[n]? = some a := by
              obtain ⟨t, ht⟩ := s2.pre
              rw [← ht, List.getElem?_append_left (List.getElem?_eq_some_iff.mp ea).1]
              exact ea
            obtain ⟨m, l, vs, q3, t⟩ := b2.bx.at_ n a ds ea2 z
            have rp : Rep G.J M2 r2 y w := by
              cases y with
              | loc i => cases c.1
              | _ => exact ry
            obtain ⟨b3, s3⟩ := b2.boxW (es := ds ++ [y]) (us := vs ++ [w]) ea2 (t.append (Reps.one rp)) (by rw [List.length_append]; simp; have := c.2; omega)
            exact ⟨a, vs, w, rfl, rfl, q3, by rw [t.length]; exact big_lt c.2, q2.nxt b3⟩
          · exact q2.elim
      · rw [if_neg hs] at q1; exact q1.elim
    | _ => exact q1.elim
/-- l[::-1], l a list, as a new list -/
def revN (f : EF) : DE → Bx → R (List D) := fun δ h => (f δ h).bind fun d h1 => match d with
  | .tup _ => .bad
  | d => match lstOf δ h1 d with
    | some ds => .ok ds.reverse h1
    | none => .bad
theorem evn_rev {k : Nat} {p1 p2 p3 : Pos} (ha : Ev X G W e f) (hK : X.K = G.K) : EvN X G W (.Subscript e (.Slice none none (some (.UnaryOp .USub (.Constant (.int 1) k p1) p2)) p3) pos) (revN f) :=
  PE.imp (pe_revA ha) fun σ H Q q => by
    rw [hK]
    obtain ⟨M, r, h, δ, b, q⟩ := q
    refine ⟨M, r, h, δ, b, (AfterN.bind q).more fun x H1 ⟨d, M1, r1, h1, s1, b1, rx, q1⟩ => ?_⟩
    split at q1
    · exact q1.elim
    · split at q1
      · rename_i ds z
        obtain ⟨a, vs, rfl, hs, t, l⟩ := b1.lst rx z
        exact ⟨a, vs, rfl, .inl ⟨hs, fun p hp => q1 _ M1 r1 H1 p Stp.refl b1 t.rev (by rw [List.length_reverse]; exact l) hp⟩⟩
      · exact q1.elim
@[simp] theorem popF_ap : popF f δ h = (f δ h).bind fun d h1 => match d with
  | .ptr n => match h1[n]? with
    | some ds => match ds.getLast? with
      | some y => if isV y = true then .ok y (h1.set n ds.dropLast) else .bad
      | none => .bad
    | none => .bad
  | _ => .bad := pr rfl
@[simp] theorem appX_ap : appX f g δ h = (f δ h).toS δ fun d h1 => match d with
  | .ptr n => (if (h1[n]?).isSome = true then (g δ h1).toS δ fun y h2 => match h2[n]? with
    | some ds => if (isV y && decide (ds.length < 1000000)) = true then .nx δ (h2.set n (ds ++ [y])) else .bad
    | none => .bad
    else .bad)
  | _ => .bad := pr rfl
end
end LP
/-! LpZb: i in range(n); list(range(n)), tuple(range(n)). -/
namespace LP
open PySem PySem.Spec PyProof.Rows L2
theorem range_contains_meets (r : Addr) (a b c i : Int) (t u v ti : Tok) :
    Meets (Builtin.«range.__contains__» ⟨[.ref r, .int i ti], []⟩) (fun _ R s => s.heap.get? r = some { cls := .type "range", dict := none, data := .fields #[.int a t, .int b u, .int c v], slots := #[] } ∧ R (.ok (.ret (.bool (Builtin.Range.rangePlace? a b c i).isSome))) s) :=
  .of_wp fun prog w A R s h => by obtain ⟨hp, g, d, tk, os⟩ := s; obtain ⟨hl, h⟩ := h; wp_walk; first | exact ⟨_, rfl, h⟩ | exact h
end LP
namespace LP
open PySem PySem.Spec PyProof.Rows L2
section
variable {prog : Program} {w : World} {A : Around} {E : Value → Shared → Prop} {s : Shared} {r : Addr} {a b c i : Int} {t u v ti : Tok}
theorem range_typeIs (hr : IsRange s.heap r a b c t u v) : s.TypeIs (.ref r) "range" := ⟨_, hr, rfl⟩
theorem contains_range {Q : Bool → Shared → Prop} (hr : IsRange s.heap r a b c t u v) (h : Q (Builtin.Range.rangePlace? a b c i).isSome s) :
    wpAny (model prog w) A (contains (.ref r) (.int i ti)) Q E s := by
  unfold contains
  try with_reducible refine wpAny_holding ?_
  refine wpAny_bind (wpAny_specialOf (range_typeIs hr) PySem.F.slot_range_contains.lookup ?_)
  show wpAny _ _ (if (some (Value.builtin "range.__contains__") == some Value.none) = true then _ else _) _ E s
  rw [if_neg (by rw [beq_builtin_none]; exact Bool.false_ne_true)]
  refine wpAny_bind (wpAny_callSpecialUnlessNone?_slot (name := Str.ofString "__contains__") (range_typeIs hr) PySem.F.slot_range_contains
    (call_meets PySem.F.slot_range_contains (range_typeIs hr) PySem.F.entry_range_contains (PySem.F.args_range_contains_2 _ _) (range_contains_meets r a b c i t u v ti) ⟨hr, ?_⟩))
  show wpAny (model prog w) A (truthy (.bool _)) Q E s
  exact wpAny_truthy_bool h
theorem in_range {Q : Value → Shared → Prop} (hr : IsRange s.heap r a b c t u v) (h : Q (.bool (Builtin.Range.rangePlace? a b c i).isSome) s) : wpAny (model prog w) A (compareOp .In (.int i ti) (.ref r)) Q E s := by
  show wpAny _ _ (do return .bool (← contains (.ref r) (.int i ti))) Q E s
  exact wpAny_bind (contains_range hr (wpAny_pure h))
theorem notIn_range {Q : Value → Shared → Prop} (hr : IsRange s.heap r a b c t u v) (h : Q (.bool (!(Builtin.Range.rangePlace? a b c i).isSome)) s) : wpAny (model prog w) A (compareOp .NotIn (.int i ti) (.ref r)) Q E s := by
  show wpAny _ _ (do return .bool (!(← contains (.ref r) (.int i ti)))) Q E s
  exact wpAny_bind (contains_range hr (wpAny_pure h))
end
theorem place_one (a b i : Int) : (Builtin.Range.rangePlace? a b 1 i).isSome = (decide (a ≤ i) && decide (i < b)) := by
  unfold Builtin.Range.rangePlace?
  by_cases h1 : a ≤ i <;> by_cases h2 : i < b <;> simp [h1, h2, Int.emod_one]
section
variable {X : Cx} {G : Cfg} {W : WX} {σ : L2.St} {δ : DE} {M M' M1 M2 : Imm} {r r' r1 r2 : List Addr} {h h' h1 h2 : Bx} {H H' H1 H2 : Hp}
variable {e o : Expr} {f g g2 : EF} {pos : Pos} {b1 b2 : Expr}
def tInRg (ng : Bool) (ty : TE) (te : L2.St → Hp → (Int → Int → Hp → Prop) → Prop) : TE := fun σ H Q => ty σ H fun y H1 => te σ H1 fun a b H2 => ∃ i, y = .int i ∧ Q (.bl (if ng then !(decide (a ≤ i) && decide (i < b)) else (decide (a ≤ i) && decide (i < b)))) H2
theorem pc_inRg {ty : TE} {te : L2.St → Hp → (Int → Int → Hp → Prop) → Prop} (hi : PE X e ty) (ho : PRg X o te) : PC X .In e o (tInRg false ty te) := by
  refine ⟨fun pins s σ H Q I h => ?_⟩
  refine thn (hi.run pins s σ H _ I h) fun iv s1 ⟨y, H1, I1, ry, q1⟩ => thn (ho pins s1 σ H1 _ I1 q1) fun u s2 ⟨r, a, b, t, u', v, H2, ex, hr, I2, i, ey, q2⟩ => ?_
  subst ex ey
  obtain ⟨ti, rfl⟩ := ry
  refine in_range hr ?_
  rw [place_one]
  exact ⟨.bl _, H2, I2, rfl, q2⟩
theorem pc_notInRg {ty : TE} {te : L2.St → Hp → (Int → Int → Hp → Prop) → Prop} (hi : PE X e ty) (ho : PRg X o te) : PC X .NotIn e o (tInRg true ty te) := by
  refine ⟨fun pins s σ H Q I h => ?_⟩
  refine thn (hi.run pins s σ H _ I h) fun iv s1 ⟨y, H1, I1, ry, q1⟩ => thn (ho pins s1 σ H1 _ I1 q1) fun u s2 ⟨r, a, b, t, u', v, H2, ex, hr, I2, i, ey, q2⟩ => ?_
  subst ex ey
  obtain ⟨ti, rfl⟩ := ry
  refine notIn_range hr ?_
  rw [place_one]
  exact ⟨.bl _, H2, I2, rfl, q2⟩
/-- a range's ends -/
def rB2 (_ : DE) (_ : L2.St) : Rl (Int × Int) (Int × Int) := fun _ _ a b => a = b
def tR (G : Cfg) (W : WX) (fr : DE → Bx → R (Int × Int)) : L2.St → Hp → (Int → Int → Hp → Prop) → Prop := fun σ H Q => ∃ M r h δ, BS G M r h δ σ H ∧ After G W σ δ (rB2 δ σ) M r H (fr δ h) fun p H1 => Q p.1 p.2 H1
def EvR (X : Cx) (G : Cfg) (W : WX) (e : Expr) (fr : DE → Bx → R (Int × Int)) : Prop := PRg X e (tR G W fr)
def rg1F (f : EF) : DE → Bx → R (Int × Int) := fun δ h => (f δ h).bind fun d h1 => match d with
  | .int n => .ok (0, n) h1
  | _ => .bad
def rg2F (f g : EF) : DE → Bx → R (Int × Int) := fun δ h => (f δ h).bind fun d h1 => (g δ h1).bind fun e h2 => match d, e with
  | .int n, .int m => .ok (n, m) h2
  | _, _ => .bad
theorem PRg.imp {e : Expr} {t t' : L2.St → Hp → (Int → Int → Hp → Prop) → Prop} (p : PRg X e t) (f : ∀ σ H Q, t' σ H Q → t σ H Q) : PRg X e t' := fun pins s σ H Q I h => p pins s σ H Q I (f σ H Q h)
theorem evr_1 {p : Pos} (hg : Gl X "range") (hm : X.mg "range" = none) (ha : Ev X G W b1 f) (na : starEach [b1] X.env = (false, eval b1 X.env) :: starEach [] X.env := by rfl) : EvR X G W (.Call (.Name "range" p) [b1] [] pos) (rg1F f) :=
  PRg.imp (prg_1 hg hm ha na) fun σ H Q q => by
    obtain ⟨M, r, h, δ, b, q⟩ := q
    refine ⟨M, r, h, δ, b, (After.bind (rl := rV G.J δ σ) q).more fun x H1 ⟨d, M1, r1, h1, s1, b1, rx, q1⟩ => ?_⟩
    cases d with
    | int n => cases rx; exact ⟨n, rfl, q1.now b1 (v := (0, n)) rfl⟩
    | _ => exact q1.elim
theorem evr_2 {p : Pos} (hg : Gl X "range") (hm : X.mg "range" = none) (ha : Ev X G W b1 f) (hb : Ev X G W b2 g) (na : starEach [b1, b2] X.env = (false, eval b1 X.env) :: starEach [b2] X.env := by rfl)
    (nb : starEach [b2] X.env = (false, eval b2 X.env) :: starEach [] X.env := by rfl) (hp : (backTo pos (starEach [b2] X.env)).any (·.1) = false := by rfl) : EvR X G W (.Call (.Name "range" p) [b1, b2] [] pos) (rg2F f g) :=
  PRg.imp (prg_2 hg hm ha hb na nb hp) fun σ H Q q => by
    obtain ⟨M, r, h, δ, b, q⟩ := q
    refine ⟨M, r, h, δ, b, (After.bind (rl := rV G.J δ σ) q).more fun x H1 ⟨d, M1, r1, h1, s1, b1, rx, q1⟩ => ?_⟩
    refine ⟨M1, r1, h1, δ, b1, (After.bind (rl := rV G.J δ σ) q1).more fun y H2 ⟨d2, M2, r2, h2, s2, b2, ry, q2⟩ => ?_⟩
    cases d with
    | int n => cases d2 with
      | int m => cases rx; cases ry; exact ⟨n, m, rfl, rfl, q2.now b2 (v := (n, m)) rfl⟩
      | _ => exact q2.elim
    | _ => exact q2.elim
/-- e in range(..) -/
def inRgF (ng : Bool) (f : EF) (fr : DE → Bx → R (Int × Int)) : EF := fun δ h => (f δ h).bind fun d h1 => (fr δ h1).bind fun p h2 => match d with
  | .int i => .ok (.bl (if ng then !(decide (p.1 ≤ i) && decide (i < p.2)) else (decide (p.1 ≤ i) && decide (i < p.2)))) h2
  | _ => .bad
theorem inRg_of {ng : Bool} {fr : DE → Bx → R (Int × Int)} {Q : VK} (q : tG G W (rV G.J) (inRgF ng f fr) σ H Q) : tInRg ng (tG G W (rV G.J) f) (tR G W fr) σ H Q := by
  obtain ⟨M, r, h, δ, b, q⟩ := q
  refine ⟨M, r, h, δ, b, (After.bind (rl := rV G.J δ σ) q).more fun x H1 ⟨d, M1, r1, h1, s1, b1, rx, q1⟩ => ?_⟩
  refine ⟨M1, r1, h1, δ, b1, (After.bind (rl := rB2 δ σ) q1).more fun p H2 ⟨p', M2, r2, h2, s2, b2, ep, q2⟩ => ?_⟩
  cases (show p' = p from ep)
  cases d with
  | int i => cases rx; exact ⟨i, rfl, q2.now b2 rfl⟩
  | _ => exact q2.elim
theorem ev_inRg {fr : DE → Bx → R (Int × Int)} (ha : Ev X G W e f) (hb : EvR X G W o fr) (hm : behindInMarks .In o = false) : Ev X G W (.Compare e [.In] [o] pos) (inRgF false f fr) := PE.imp (pe_cmp (pc_inRg ha hb) hm) fun σ H Q q => inRg_of q
theorem ev_notInRg {fr : DE → Bx → R (Int × Int)} (ha : Ev X G W e f) (hb : EvR X G W o fr) (hm : behindInMarks .NotIn o = false) : Ev X G W (.Compare e [.NotIn] [o] pos) (inRgF true f fr) := PE.imp (pe_cmp (pc_notInRg ha hb) hm) fun σ H Q q => inRg_of q
theorem evt_inRg {fr : DE → Bx → R (Int × Int)} (ha : Ev X G W e f) (hb : EvR X G W o fr) (hm : behindInMarks .In o = false) : EvT X G W (.Compare e [.In] [o] pos) (testF (inRgF false f fr)) := PT.imp (pt_cmp (pc_inRg ha hb) hm) fun σ H Q q => inRg_of (tTest_of q)
theorem evt_notInRg {fr : DE → Bx → R (Int × Int)} (ha : Ev X G W e f) (hb : EvR X G W o fr) (hm : behindInMarks .NotIn o = false) : EvT X G W (.Compare e [.NotIn] [o] pos) (testF (inRgF true f fr)) := PT.imp (pt_cmp (pc_notInRg ha hb) hm) fun σ H Q q => inRg_of (tTest_of q)
/-- a .. b - 1 -/
def rgI (p : Int × Int) : List D := (List.range (p.2 - p.1).toNat).map fun i => .int (p.1 + (i : Nat))
def rgIC (p : Int × Int) : Bool := decide (-(2 ^ 62) ≤ p.1 ∧ p.1 < 2 ^ 62 ∧ -(2 ^ 62) ≤ p.2 ∧ p.2 < 2 ^ 62 ∧ (p.2 - p.1).toNat ≤ 1000000)
theorem rgI_reps {J : Jd} (p : Int × Int) : Reps J M r (rgI p) (rgV p.1 p.2) := by
  unfold rgI rgV
  generalize List.range (p.2 - p.1).toNat = l
  induction l with
  | nil => rfl
  | cons i l ih => exact ⟨_, _, rfl, rfl, ih⟩
theorem rgI_len (p : Int × Int) : (rgI p).length = (p.2 - p.1).toNat := by unfold rgI; rw [List.length_map, List.length_range]
/-- list(range(..)) as a new list -/
def listRgN (fr : DE → Bx → R (Int × Int)) : DE → Bx → R (List D) := fun δ h => (fr δ h).bind fun p h1 => if rgIC p = true then .ok (rgI p) h1 else .bad
theorem evn_listRg {p : Pos} {fr : DE → Bx → R (Int × Int)} (hc : X.calm = true) (hg : Gl X "list") (hm : X.mg "list" = none) (he : EvR X G W e fr) (na : starEach [e] X.env = (false, eval e X.env) :: starEach [] X.env := by rfl) : EvN X G W (.Call (.Name "list" p) [e] [] pos) (listRgN fr) :=
  PE.imp (pe_listRg hc hg hm he na) fun σ H Q q => by
    obtain ⟨M, r, h, δ, b, q⟩ := q
    refine ⟨M, r, h, δ, b, (AfterN.bind (rl := rB2 δ σ) q).more fun p H1 ⟨p', M1, r1, h1, s1, b1, ep, q1⟩ => ?_⟩
    cases (show p' = p from ep)
    by_cases c : rgIC p = true
    · rw [if_pos c] at q1
      have c := of_decide_eq_true c
      exact ⟨⟨c.1, c.2.1, c.2.2.1, c.2.2.2.1, by have := c.2.2.2.2; omega⟩, fun q0 hq => q1 _ M1 r1 H1 q0 Stp.refl b1 (rgI_reps p) (by rw [rgI_len]; exact c.2.2.2.2) hq⟩
    · rw [if_neg c] at q1; exact q1.elim
/-- tuple(range(..)) -/
def tupRgF (fr : DE → Bx → R (Int × Int)) : EF := fun δ h => (fr δ h).bind fun p h1 => if rgIC p = true then .ok (.tup (rgI p)) h1 else .bad
theorem ev_tupRg {p : Pos} {fr : DE → Bx → R (Int × Int)} (hc : X.calm = true) (hg : Gl X "tuple") (hm : X.mg "tuple" = none) (he : EvR X G W e fr) (na : starEach [e] X.env = (false, eval e X.env) :: starEach [] X.env := by rfl) : Ev X G W (.Call (.Name "tuple" p) [e] [] pos) (tupRgF fr) :=
  PE.imp (pe_tupRg hc hg hm he na) fun σ H Q q => by
    obtain ⟨M, r, h, δ, b, q⟩ := q
    refine ⟨M, r, h, δ, b, (After.bind (rl := rB2 δ σ) q).more fun p H1 ⟨p', M1, r1, h1, s1, b1, ep, q1⟩ => ?_⟩
    cases (show p' = p from ep)
    by_cases c : rgIC p = true
    · rw [if_pos c] at q1
      have c := of_decide_eq_true c
      exact ⟨⟨c.1, c.2.1, c.2.2.1, c.2.2.2.1, by have := c.2.2.2.2; omega⟩, tup_new b1 (rgI_reps p) (by rw [rgI_len]; exact c.2.2.2.2) q1⟩
    · rw [if_neg c] at q1; exact q1.elim
@[simp] theorem rg1F_ap : rg1F f δ h = (f δ h).bind fun d h1 => match d with
  | .int n => .ok ((0 : Int), n) h1
  | _ => .bad := pr rfl
@[simp] theorem rg2F_ap : rg2F f g δ h = (f δ h).bind fun d h1 => (g δ h1).bind fun e h2 => match d, e with
  | .int n, .int m => .ok (n, m) h2
  | _, _ => .bad := pr rfl
@[simp] theorem inRgF_ap {ng : Bool} {fr : DE → Bx → R (Int × Int)} : inRgF ng f fr δ h = (f δ h).bind fun d h1 => (fr δ h1).bind fun p h2 => match d with
  | .int i => .ok (.bl (if ng then !(decide (p.1 ≤ i) && decide (i < p.2)) else (decide (p.1 ≤ i) && decide (i < p.2)))) h2
  | _ => .bad := pr rfl
@[simp] theorem listRgN_ap {fr : DE → Bx → R (Int × Int)} : listRgN fr δ h = (fr δ h).bind fun p h1 => if rgIC p = true then .ok (rgI p) h1 else .bad := pr rfl
@[simp] theorem tupRgF_ap {fr : DE → Bx → R (Int × Int)} : tupRgF fr δ h = (fr δ h).bind fun p h1 => if rgIC p = true then .ok (.tup (rgI p)) h1 else .bad := pr rfl
end
end LP
namespace LP
open PySem PySem.Spec PyProof.Rows L2 HT
/-- turns of a while at most -/
def wf : Nat := 1000000
/-- depth of a def's own calls at most -/
abbrev rf : Nat := 12
def topS (i : Nat) : Stmt := PySem.Challenge.pw_leastpromise_k46_whole_patterns_are_what.main.body.getD i (.Pass ⟨0, 0, 0, 0⟩)
abbrev xtab : List (Str × Str) := [("InvalidCache", "at"), ("InvalidIndex", "at"), ("InvalidSize", "word")]
abbrev xbase : Str := "PromiseError"
abbrev i_InvalidCache : Stmt := clsInit (topS 2)
abbrev i_InvalidIndex : Stmt := clsInit (topS 3)
abbrev i_InvalidSize : Stmt := clsInit (topS 4)
abbrev s_is_integer : Stmt := topS 6
abbrev N_is_integer : List Str := ["value"]
abbrev ps_is_integer : List Str := ["value"]
theorem sc_is_integer : FnScope N_is_integer ps_is_integer (defScope s_is_integer) := ⟨rfl, rfl, rfl, by decide +kernel, rfl, by decide +kernel, by decide +kernel⟩
abbrev s_is_number : Stmt := topS 7
abbrev N_is_number : List Str := ["value"]
abbrev ps_is_number : List Str := ["value"]
theorem sc_is_number : FnScope N_is_number ps_is_number (defScope s_is_number) := ⟨rfl, rfl, rfl, by decide +kernel, rfl, by decide +kernel, by decide +kernel⟩
abbrev s_is_sequence : Stmt := topS 8
abbrev N_is_sequence : List Str := ["value"]
abbrev ps_is_sequence : List Str := ["value"]
theorem sc_is_sequence : FnScope N_is_sequence ps_is_sequence (defScope s_is_sequence) := ⟨rfl, rfl, rfl, by decide +kernel, rfl, by decide +kernel, by decide +kernel⟩
abbrev s_need_accesses : Stmt := topS 10
abbrev N_need_accesses : List Str := ["value", "at", "name"]
abbrev ps_need_accesses : List Str := ["value"]
theorem sc_need_accesses : FnScope N_need_accesses ps_need_accesses (defScope s_need_accesses) := ⟨rfl, rfl, rfl, by decide +kernel, rfl, by decide +kernel, by decide +kernel⟩
abbrev s_row_pattern : Stmt := topS 13
abbrev N_row_pattern : List Str := ["row", "unlike", "at", "name"]
abbrev ps_row_pattern : List Str := ["row"]
theorem sc_row_pattern : FnScope N_row_pattern ps_row_pattern (defScope s_row_pattern) := ⟨rfl, rfl, rfl, by decide +kernel, rfl, by decide +kernel, by decide +kernel⟩
abbrev s_one_line : Stmt := topS 14
abbrev N_one_line : List Str := []
abbrev ps_one_line : List Str := []
theorem sc_one_line : FnScope N_one_line ps_one_line (defScope s_one_line) := ⟨rfl, rfl, rfl, by decide +kernel, rfl, by decide +kernel, by decide +kernel⟩
abbrev s_pinning : Stmt := topS 15
abbrev N_pinning : List Str := ["place", "controls", "at"]
abbrev ps_pinning : List Str := ["place"]
theorem sc_pinning : FnScope N_pinning ps_pinning (defScope s_pinning) := ⟨rfl, rfl, rfl, by decide +kernel, rfl, by decide +kernel, by decide +kernel⟩
abbrev s_parting_cache : Stmt := topS 16
abbrev N_parting_cache : List Str := ["one", "other", "at", "row", "place"]
abbrev ps_parting_cache : List Str := ["one", "other"]
theorem sc_parting_cache : FnScope N_parting_cache ps_parting_cache (defScope s_parting_cache) := ⟨rfl, rfl, rfl, by decide +kernel, rfl, by decide +kernel, by decide +kernel⟩
abbrev s__law_draw : Stmt := topS 18
abbrev N__law_draw : List Str := ["_law_script", "_law_salt", "_law_cells", "_law_blend", "_law_cell"]
abbrev ps__law_draw : List Str := ["_law_script", "_law_salt"]
theorem sc__law_draw : FnScope N__law_draw ps__law_draw (defScope s__law_draw) := ⟨rfl, rfl, rfl, by decide +kernel, rfl, by decide +kernel, by decide +kernel⟩
abbrev s__law_any : Stmt := topS 19
abbrev N__law_any : List Str := ["_law_deal", "_law_bound", "_law_rest"]
abbrev ps__law_any : List Str := ["_law_deal", "_law_bound"]
theorem sc__law_any : FnScope N__law_any ps__law_any (defScope s__law_any) := ⟨rfl, rfl, rfl, by decide +kernel, rfl, by decide +kernel, by decide +kernel⟩
abbrev s__law_of : Stmt := topS 20
abbrev N__law_of : List Str := ["_law_deal", "_law_some"]
abbrev ps__law_of : List Str := ["_law_deal", "_law_some"]
theorem sc__law_of : FnScope N__law_of ps__law_of (defScope s__law_of) := ⟨rfl, rfl, rfl, by decide +kernel, rfl, by decide +kernel, by decide +kernel⟩
abbrev s__law_cache : Stmt := topS 21
abbrev N__law_cache : List Str := ["_law_deal", "_law_lines", "_law_controls", "_law_kind", "_law_found", "_law_control", "_law_hits", "_law_line", "_law_following"]
abbrev ps__law_cache : List Str := ["_law_deal"]
theorem sc__law_cache : FnScope N__law_cache ps__law_cache (defScope s__law_cache) := ⟨rfl, rfl, rfl, by decide +kernel, rfl, by decide +kernel, by decide +kernel⟩
abbrev s__law_walk : Stmt := topS 22
abbrev N__law_walk : List Str := ["_law_cache_here", "_law_row", "_law_control", "_law_held", "_law_views", "_law_name"]
abbrev ps__law_walk : List Str := ["_law_cache_here", "_law_row"]
theorem sc__law_walk : FnScope N__law_walk ps__law_walk (defScope s__law_walk) := ⟨rfl, rfl, rfl, by decide +kernel, rfl, by decide +kernel, by decide +kernel⟩
abbrev s__law_tried : Stmt := topS 23
abbrev N__law_tried : List Str := ["_law_work", "e"]
abbrev ps__law_tried : List Str := ["_law_work"]
theorem sc__law_tried : FnScope N__law_tried ps__law_tried (defScope s__law_tried) := ⟨rfl, rfl, rfl, by decide +kernel, rfl, by decide +kernel, by decide +kernel⟩
abbrev s__law_wrong_row : Stmt := topS 25
abbrev N__law_wrong_row : List Str := ["_law_deal"]
abbrev ps__law_wrong_row : List Str := ["_law_deal"]
theorem sc__law_wrong_row : FnScope N__law_wrong_row ps__law_wrong_row (defScope s__law_wrong_row) := ⟨rfl, rfl, rfl, by decide +kernel, rfl, by decide +kernel, by decide +kernel⟩
abbrev s__law_pattern : Stmt := topS 26
abbrev N__law_pattern : List Str := ["_law_row", "_law_names", "_law_name"]
abbrev ps__law_pattern : List Str := ["_law_row"]
theorem sc__law_pattern : FnScope N__law_pattern ps__law_pattern (defScope s__law_pattern) := ⟨rfl, rfl, rfl, by decide +kernel, rfl, by decide +kernel, by decide +kernel⟩
abbrev s__law_is_cache : Stmt := topS 27
abbrev N__law_is_cache : List Str := ["_law_value", "_law_control", "_law_number"]
abbrev ps__law_is_cache : List Str := ["_law_value"]
theorem sc__law_is_cache : FnScope N__law_is_cache ps__law_is_cache (defScope s__law_is_cache) := ⟨rfl, rfl, rfl, by decide +kernel, rfl, by decide +kernel, by decide +kernel⟩
abbrev s__law_two : Stmt := topS 28
abbrev N__law_two : List Str := ["_law_deal", "_law_one", "_law_other", "_law_turn", "_law_move", "_law_at", "_law_name"]
abbrev ps__law_two : List Str := ["_law_deal"]
theorem sc__law_two : FnScope N__law_two ps__law_two (defScope s__law_two) := ⟨rfl, rfl, rfl, by decide +kernel, rfl, by decide +kernel, by decide +kernel⟩
abbrev s_law : Stmt := topS 29
abbrev N_law : List Str := ["_law_script", "_law_deal", "_law_turn", "_law_one", "_law_other", "_law_told", "_law_alike", "_law_cache_here", "_law_bad", "_law_spot"]
abbrev ps_law : List Str := ["_law_script"]
theorem sc_law : FnScope N_law ps_law (defScope s_law) := ⟨rfl, rfl, rfl, by decide +kernel, rfl, by decide +kernel, by decide +kernel⟩
abbrev qn_law : Str := (envOfC "law" (defScope s_law) 0 0 .none).qual ++ "<lambda>"
def sf_is_integer  : SF := (retS (andV (isiF ["int"] (varF 0)) (notV (isiF ["bool"] (varF 0)))))
def F_is_integer : List D → Bx → R D := runF N_is_integer.length sf_is_integer
def sf_is_number  : SF := (retS (andV (callF (nArgs 1 F_is_integer) (consA (varF 0) nilA)) (bin2 geK (varF 0) (cF (.int 0)))))
def F_is_number : List D → Bx → R D := runF N_is_number.length sf_is_number
def sf_is_sequence  : SF := (retS (isiF ["list", "tuple"] (varF 0)))
def F_is_sequence : List D → Bx → R D := runF N_is_sequence.length sf_is_sequence
def sf_need_accesses  : SF := (seqS (ifS (notT (testF (callF (nArgs 1 F_is_sequence) (consA (varF 0) nilA))))
    (raiseS "InvalidIndex" "at" (negF (cF (.int 1))))
    (fun δ h => .nx δ h))
    (seqS (forS (fun δ h => ((consA (varF 0) nilA) δ h).bind fun ds h1 => enumK ds δ h1) (tupU 2 (consU (nameU 1) (consU (nameU 2) nilU)))
    (ifS (notT (testF (callF (nArgs 1 F_is_number) (consA (varF 2) nilA))))
    (raiseS "InvalidIndex" "at" (varF 1))
    (fun δ h => .nx δ h)))
    (retS (blt tupK (consA (varF 0) nilA)))))
def F_need_accesses : List D → Bx → R D := runF N_need_accesses.length sf_need_accesses
def sf_row_pattern  : SF := (seqS (setS 0 (callF (nArgs 1 F_need_accesses) (consA (varF 0) nilA)))
    (seqS (setS 1 (valN (lcN (fun δ h => ((consA (varF 0) nilA) δ h).bind fun ds h1 => enumK ds δ h1) [2, 3] (tupU 2 (consU (nameU 2) (consU (nameU 3) nilU))) (testF (bin2 (inK true) (varF 3) (slF (varF 0) noO (someO (varF 2))))) (varF 3))))
    (retS (blt tupK (consA (valN (lcN (itemsI (varF 0)) [3] (nameU 3) yesF (idxF (varF 1) (varF 3)))) nilA)))))
def F_row_pattern : List D → Bx → R D := runF N_row_pattern.length sf_row_pattern
def sf_one_line  : SF := (retS (tupF (consA (tupF (consA (tupF (consA (cF (.int 0)) nilA)) (consA (cF (.int 0)) (consA (cF (.int 0)) nilA)))) nilA)))
def F_one_line : List D → Bx → R D := runF N_one_line.length sf_one_line
def sf_pinning  : SF := (seqS (ownS 1 (lcN (fun δ h => ((consA (bin2 addK (varF 0) (cF (.int 1))) nilA) δ h).bind rg1K) [2] (nameU 2) yesF (tupF (consA (tupF (consA (bin2 addK (varF 2) (cF (.int 1))) (consA (bin2 addK (varF 2) (cF (.int 1))) nilA))) (consA (cF (.int 0)) (consA (bin2 addK (varF 2) (cF (.int 1))) nilA))))))
    (retS (blt tupK (consA (bin2 addK (varF 1) (lstF (consA (tupF (consA (tupF (consA (bin2 addK (varF 0) (cF (.int 1))) (consA (bin2 addK (varF 0) (cF (.int 1))) nilA))) (consA (cF (.int 1)) (consA (bin2 addK (varF 0) (cF (.int 1))) nilA)))) nilA))) nilA))))
def F_pinning : List D → Bx → R D := runF N_pinning.length sf_pinning
def sf_parting_cache  : SF := (seqS (asgS (tupU 2 (consU (nameU 0) (consU (nameU 1) nilU))) (tupF (consA (callF (nArgs 1 F_row_pattern) (consA (varF 0) nilA)) (consA (callF (nArgs 1 F_row_pattern) (consA (varF 1) nilA)) nilA))))
    (seqS (ifS (orT (testF (bin2 (eqK true) (blt lenK (consA (varF 0) nilA)) (blt lenK (consA (varF 1) nilA)))) (testF (bin2 gtK (blt lenK (consA (varF 0) nilA)) (cF (.int 61)))))
    (raiseS "InvalidSize" "word" (cF (.str "rows")))
    (fun δ h => .nx δ h))
    (seqS (ifS (testF (bin2 (eqK false) (varF 0) (varF 1)))
    (retS (cF .non))
    (fun δ h => .nx δ h))
    (seqS (setS 2 (bin2 ixK (valN (lcN (fun δ h => ((consA (blt lenK (consA (varF 0) nilA)) nilA) δ h).bind rg1K) [4] (nameU 4) (testF (bin2 (eqK true) (bin2 ixK (varF 0) (varF 4)) (bin2 ixK (varF 1) (varF 4)))) (varF 4))) (cF (.int 0))))
    (seqS (forS (itemsI (tupF (consA (varF 0) (consA (varF 1) nilA)))) (nameU 3)
    (ifS (andT (testF (bin2 gtK (varF 2) (cF (.int 0)))) (testF (bin2 (eqK false) (bin2 ixK (varF 3) (varF 2)) (bin2 ixK (varF 3) (bin2 subK (varF 2) (cF (.int 1)))))))
    (retS (fun _ h => F_one_line [] h))
    (fun δ h => .nx δ h)))
    (seqS (setS 3 (iteF (testF (bin2 (inK false) (bin2 ixK (varF 0) (varF 2)) (slF (varF 0) noO (someO (varF 2))))) (varF 0) (varF 1)))
    (retS (callF (nArgs 1 F_pinning) (consA (bin2 ixK (valN (lcN (fun δ h => ((consA (varF 2) nilA) δ h).bind rg1K) [4] (nameU 4) (testF (bin2 (eqK false) (bin2 ixK (varF 3) (varF 4)) (bin2 ixK (varF 3) (varF 2)))) (varF 4))) (negF (cF (.int 1)))) nilA)))))))))
def F_parting_cache : List D → Bx → R D := runF N_parting_cache.length sf_parting_cache
def sf__law_draw  : SF := (seqS (endFrz 2 (ownS 2 (lcN (itemsI (slF (varF 0) noO (someO (cF (.int 48))))) [4] (nameU 4) yesF (blt absK (consA (blt intK (consA (varF 4) nilA)) nilA)))))
    (seqS (setS 3 (bin2 addK (cF (.int 7919)) (bin2 mulA (cF (.int 104729)) (varF 1))))
    (seqS (forS (itemsI (varF 2)) (nameU 4)
    (setS 3 (bin2 modK (blt intK (consA (bin2 addK (bin2 addK (bin2 mulA (varF 3) (cF (.int 48271))) (bin2 modK (varF 4) (cF (.int 2147483549)))) (cF (.int 11))) nilA)) (cF (.int 2147483647)))))
    (retS (boxN (lstN (consA (boxN (revN (valN (lcN (itemsI (varF 2)) [4] (nameU 4) (testF (bin2 geK (varF 4) (bin2 powK (cF (.int 10)) (cF (.int 18))))) (varF 4))))) (consA (varF 3) nilA))))))))
def F__law_draw : List D → Bx → R D := runF N__law_draw.length sf__law_draw
def sf__law_any  : SF := (seqS (whileF (andT (testF (bin2 (eqK true) (bin2 ixK (varF 0) (cF (.int 0))) (lstF nilA))) (testF (bin2 (eqK false) (bin2 ixK (bin2 ixK (varF 0) (cF (.int 0))) (negF (cF (.int 1)))) (cF (.int 0)))))
    (exprS (popF (bin2 ixK (varF 0) (cF (.int 0))))) wf)
    (seqS (ifS (testF (bin2 (eqK true) (bin2 ixK (varF 0) (cF (.int 0))) (lstF nilA)))
    (seqS (setS 2 (blt intK (consA (popF (bin2 ixK (varF 0) (cF (.int 0)))) nilA)))
    (seqS (appX (bin2 ixK (varF 0) (cF (.int 0))) (bin2 divK (varF 2) (varF 1)))
    (retS (bin2 modK (varF 2) (varF 1)))))
    (fun δ h => .nx δ h))
    (seqS (setiS 0 (cF (.int 1)) (bin2 modK (blt intK (consA (bin2 addK (bin2 mulA (bin2 ixK (varF 0) (cF (.int 1))) (cF (.int 40693))) (cF (.int 71))) nilA)) (cF (.int 2147483647))))
    (retS (bin2 modK (blt intK (consA (bin2 divK (bin2 ixK (varF 0) (cF (.int 1))) (cF (.int 64))) nilA)) (varF 1))))))
def F__law_any : List D → Bx → R D := runF N__law_any.length sf__law_any
def sf__law_of  : SF := (retS (bin2 ixK (varF 1) (callF (nArgs 2 F__law_any) (consA (varF 0) (consA (blt lenK (consA (varF 1) nilA)) nilA)))))
def F__law_of : List D → Bx → R D := runF N__law_of.length sf__law_of
def sf__law_cache  : SF := (seqS (asgS (tupU 3 (consU (nameU 1) (consU (nameU 2) (consU (nameU 3) nilU)))) (tupF (consA (bin2 addK (cF (.int 1)) (callF (nArgs 2 F__law_any) (consA (varF 0) (consA (cF (.int 3)) nilA)))) (consA (bin2 addK (cF (.int 1)) (callF (nArgs 2 F__law_any) (consA (varF 0) (consA (cF (.int 4)) nilA)))) (consA (callF (nArgs 2 F__law_any) (consA (varF 0) (consA (cF (.int 4)) nilA))) nilA)))))
    (seqS (ownS 4 (lstN nilA))
    (seqS (forS (fun δ h => ((consA (varF 2) nilA) δ h).bind rg1K) (nameU 5)
    (seqS (setS 6 (blt tupK (consA (valN (lcN (fun δ h => ((consA (varF 1) nilA) δ h).bind rg1K) [7] (nameU 7) yesF (iteF (testF (bin2 gtK (varF 3) (cF (.int 0)))) (callF (nArgs 2 F__law_any) (consA (varF 0) (consA (varF 2) nilA))) (varF 5)))) nilA)))
    (seqS (setS 7 (iteF (testF (bin2 ltK (varF 3) (cF (.int 2)))) (bin2 modK (varF 5) (varF 1)) (callF (nArgs 2 F__law_any) (consA (varF 0) (consA (varF 1) nilA)))))
    (seqS (setS 8 (iteF (testF (bin2 ltK (varF 3) (cF (.int 3)))) (bin2 modK (bin2 addK (varF 5) (cF (.int 1))) (varF 2)) (callF (nArgs 2 F__law_any) (consA (varF 0) (consA (varF 2) nilA)))))
    (appS 4 (tupF (consA (varF 6) (consA (varF 7) (consA (varF 8) nilA)))))))))
    (retS (blt tupK (consA (varF 4) nilA))))))
def F__law_cache : List D → Bx → R D := runF N__law_cache.length sf__law_cache
def sf__law_walk  : SF := (seqS (parS [2, 3, 4] (consX (cF (.int 0)) (consXN (repN (lstF (consA (cF .non) nilA)) (blt lenK (consA (bin2 ixK (bin2 ixK (varF 0) (cF (.int 0))) (cF (.int 0))) nilA))) (consXN (lstN nilA) nilX))))
    (seqS (forS (itemsI (varF 1)) (nameU 5)
    (ifS (testF (bin2 (inK false) (varF 5) (varF 3)))
    (seqS (appS 4 (cF (.int 1)))
    (setS 2 (bin2 ixK (bin2 ixK (bin2 ixK (varF 0) (varF 2)) (cF (.int 0))) (idxF (varF 3) (varF 5)))))
    (seqS (appS 4 (cF (.int 0)))
    (seqS (setiS 3 (bin2 ixK (bin2 ixK (varF 0) (varF 2)) (cF (.int 1))) (varF 5))
    (setS 2 (bin2 ixK (bin2 ixK (varF 0) (varF 2)) (cF (.int 2))))))))
    (retS (tupF (consA (blt tupK (consA (varF 4) nilA)) (consA (blt tupK (consA (varF 3) nilA)) nilA))))))
def F__law_walk : List D → Bx → R D := runF N__law_walk.length sf__law_walk
def sf__law_tried (Λ : Nat → Bx → R D) : SF := (tryS xtab xbase (retS (tupF (consA (cF (.str "told")) (consA (actF Λ 0) nilA)))) (("InvalidCache", fun fs δ h => dropE 1 (retS (xtF "at" (.str "cache") fs) (δ.set 1 .no) h)) :: (("InvalidIndex", fun fs δ h => dropE 1 (retS (xtF "at" (.str "index") fs) (δ.set 1 .no) h)) :: (("InvalidSize", fun fs δ h => dropE 1 (retS (xtF "word" (.str "size") fs) (δ.set 1 .no) h)) :: []))))
def sf__law_wrong_row  : SF := (retS (callF (nArgs 2 F__law_of) (consA (varF 0) (consA (lstF (consA (tupF (consA (cF .non) (consA (negF (cF (.int 1))) nilA))) (consA (tupF (consA (cF (.int 3)) (consA (negF (cF (.int 1))) nilA))) (consA (tupF (consA (cF (.str "01")) (consA (negF (cF (.int 1))) nilA))) (consA (tupF (consA (lstF (consA (cF (.int 0)) (consA (cF .non) nilA))) (consA (cF (.int 1)) nilA))) (consA (tupF (consA (tupF (consA (negF (cF (.int 1))) nilA)) (consA (cF (.int 0)) nilA))) (consA (tupF (consA (lstF (consA (cF (.int 0)) (consA (cF (.int 0)) (consA (cF (.bl true)) nilA)))) (consA (cF (.int 2)) nilA))) (consA (tupF (consA (lstF (consA (cF (.str "0")) nilA)) (consA (cF (.int 0)) nilA))) nilA)))))))) nilA))))
def F__law_wrong_row : List D → Bx → R D := runF N__law_wrong_row.length sf__law_wrong_row
def sf__law_pattern  : SF := (seqS (setS 1 (lstF nilA))
    (seqS (forS (itemsI (varF 0)) (nameU 2)
    (setS 1 (bin2 addK (varF 1) (iteF (testF (bin2 (inK true) (varF 2) (varF 1))) (lstF (consA (varF 2) nilA)) (lstF nilA)))))
    (retS (blt tupK (consA (valN (lcN (itemsI (varF 0)) [2] (nameU 2) yesF (idxF (varF 1) (varF 2)))) nilA)))))
def F__law_pattern : List D → Bx → R D := runF N__law_pattern.length sf__law_pattern
def sf__law_is_cache  : SF := (seqS (ifS (orT (notT (testF (isiF ["tuple"] (varF 0)))) (notT (testF (chainF leK leK (cF (.int 1)) (blt lenK (consA (varF 0) nilA)) (cF (.int 60))))))
    (retS (cF (.bl false)))
    (fun δ h => .nx δ h))
    (seqS (forS (itemsI (varF 0)) (nameU 1)
    (seqS (ifS (orT (notT (testF (isiF ["tuple"] (varF 1)))) (orT (testF (bin2 (eqK true) (blt lenK (consA (varF 1) nilA)) (cF (.int 3)))) (notT (testF (isiF ["tuple"] (bin2 ixK (varF 1) (cF (.int 0))))))))
    (retS (cF (.bl false)))
    (fun δ h => .nx δ h))
    (seqS (ifS (orT (testF (bin2 (inK true) (blt lenK (consA (bin2 ixK (varF 1) (cF (.int 0))) nilA)) (tupF (consA (cF (.int 1)) (consA (cF (.int 2)) nilA))))) (testF (bin2 (eqK true) (blt lenK (consA (bin2 ixK (varF 1) (cF (.int 0))) nilA)) (blt lenK (consA (bin2 ixK (bin2 ixK (varF 0) (cF (.int 0))) (cF (.int 0))) nilA)))))
    (retS (cF (.bl false)))
    (fun δ h => .nx δ h))
    (seqS (forS (itemsI (bin2 addK (bin2 ixK (varF 1) (cF (.int 0))) (tupF (consA (bin2 ixK (varF 1) (cF (.int 2))) nilA)))) (nameU 2)
    (ifS (orT (notT (testF (isiF ["int"] (varF 2)))) (orT (testF (isiF ["bool"] (varF 2))) (notT (testF (chainF leK ltK (cF (.int 0)) (varF 2) (blt lenK (consA (varF 0) nilA)))))))
    (retS (cF (.bl false)))
    (fun δ h => .nx δ h)))
    (ifS (orT (testF (isiF ["bool"] (bin2 ixK (varF 1) (cF (.int 1))))) (testF (inRgF true (bin2 ixK (varF 1) (cF (.int 1))) (rg1F (blt lenK (consA (bin2 ixK (varF 1) (cF (.int 0))) nilA))))))
    (retS (cF (.bl false)))
    (fun δ h => .nx δ h))))))
    (retS (cF (.bl true)))))
def F__law_is_cache : List D → Bx → R D := runF N__law_is_cache.length sf__law_is_cache
def sf__law_two  : SF := (seqS (endFrz 1 (ownS 1 (lcN (fun δ h => ((consA (callF (nArgs 2 F__law_any) (consA (varF 0) (consA (cF (.int 10)) nilA))) nilA) δ h).bind rg1K) [5] (nameU 5) yesF (callF (nArgs 2 F__law_any) (consA (varF 0) (consA (cF (.int 4)) nilA))))))
    (seqS (ownS 2 (listN (consA (varF 1) nilA)))
    (seqS (forS (fun δ h => ((consA (callF (nArgs 2 F__law_any) (consA (varF 0) (consA (cF (.int 3)) nilA))) nilA) δ h).bind rg1K) (nameU 3)
    (ifS (testF (bin2 (eqK true) (varF 1) (lstF nilA)))
    (setiS 2 (callF (nArgs 2 F__law_any) (consA (varF 0) (consA (blt lenK (consA (varF 1) nilA)) nilA))) (callF (nArgs 2 F__law_any) (consA (varF 0) (consA (cF (.int 5)) nilA))))
    (fun δ h => .nx δ h)))
    (seqS (setS 4 (callF (nArgs 2 F__law_any) (consA (varF 0) (consA (cF (.int 3)) nilA))))
    (frzS 2 (retS (tupF (consA (varF 1) (consA (valN (lcN (itemsI (varF 2)) [6] (nameU 6) yesF (bin2 addK (bin2 mulA (varF 6) (bin2 addK (cF (.int 1)) (varF 4))) (varF 4)))) nilA)))))))))
def F__law_two : List D → Bx → R D := runF N__law_two.length sf__law_two
abbrev ld_law_0 : LamD := lamOf (inAt (inAt (exAt (stAt (stAt s_law 0 2) 0 5) 0) 0) 1)
def lf_law_0 : EF := (callF (nArgs 1 F_row_pattern) (consA (varF 8) nilA))
theorem ls_law_0 : LamX.LamS (defScope s_law) ld_law_0.scope := LamX.lamS_by (by decide +kernel)
abbrev ld_law_1 : LamD := lamOf (inAt (inAt (exAt (stAt (stAt s_law 0 2) 0 6) 0) 0) 1)
def lf_law_1 : EF := (callF (nArgs 2 F_parting_cache) (consA (varF 8) (consA (cF .non) nilA)))
theorem ls_law_1 : LamX.LamS (defScope s_law) ld_law_1.scope := LamX.lamS_by (by decide +kernel)
abbrev ld_law_2 : LamD := lamOf (inAt (inAt (exAt (stAt (stAt s_law 0 2) 0 7) 0) 0) 1)
def lf_law_2 : EF := (callF (nArgs 2 F_parting_cache) (consA (varF 3) (consA (varF 8) nilA)))
theorem ls_law_2 : LamX.LamS (defScope s_law) ld_law_2.scope := LamX.lamS_by (by decide +kernel)
abbrev ld_law_3 : LamD := lamOf (inAt (inAt (exAt (stAt (stAt s_law 0 2) 0 8) 0) 0) 1)
def lf_law_3 : EF := (callF (nArgs 2 F_parting_cache) (consA (varF 3) (consA (bin2 addK (varF 4) (lstF (consA (cF (.int 0)) nilA))) nilA)))
theorem ls_law_3 : LamX.LamS (defScope s_law) ld_law_3.scope := LamX.lamS_by (by decide +kernel)
abbrev ld_law_4 : LamD := lamOf (inAt (inAt (exAt (stAt (stAt s_law 0 2) 0 9) 0) 0) 1)
def lf_law_4 : EF := (callF (nArgs 2 F_parting_cache) (consA (bin2 mulA (lstF (consA (cF (.int 0)) nilA)) (cF (.int 62))) (consA (bin2 mulA (tupF (consA (cF (.int 1)) nilA)) (cF (.int 62))) nilA)))
theorem ls_law_4 : LamX.LamS (defScope s_law) ld_law_4.scope := LamX.lamS_by (by decide +kernel)
abbrev lt_law : List LamD := [ld_law_0, ld_law_1, ld_law_2, ld_law_3, ld_law_4]
def bod_law (k : Nat) : EF := match k with
  | 0 => lf_law_0
  | 1 => lf_law_1
  | 2 => lf_law_2
  | 3 => lf_law_3
  | 4 => lf_law_4
  | _ => fun _ _ => .bad
def sf_law  : SF := (seqS (setS 1 (callF (nArgs 2 F__law_draw) (consA (varF 0) (consA (cF (.int 46)) nilA))))
    (seqS (ifS (orT (testF (bin2 (eqK true) (callKwF 1 [0] F_row_pattern (consA (lstF (consA (cF (.int 5)) (consA (cF (.int 2)) (consA (cF (.int 5)) nilA)))) nilA)) (tupF (consA (cF (.int 0)) (consA (cF (.int 1)) (consA (cF (.int 0)) nilA)))))) (testF (bin2 notNK (callKwF 2 [0, 1] F_parting_cache (consA (lstF nilA) (consA (tupF nilA) nilA))) (cF .non))))
    (retS (cF (.bl false)))
    (fun δ h => .nx δ h))
    (seqS (forS (fun δ h => ((consA (cF (.int 3)) nilA) δ h).bind rg1K) (nameU 2)
    (seqS (asgS (tupU 2 (consU (nameU 3) (consU (nameU 4) nilU))) (callF (nArgs 1 F__law_two) (consA (varF 1) nilA)))
    (seqS (parS [5, 6] (consX (callF (nArgs 2 F_parting_cache) (consA (varF 3) (consA (blt tupK (consA (varF 4) nilA)) nilA))) (consX (bin2 (eqK false) (callF (nArgs 1 F__law_pattern) (consA (varF 3) nilA)) (callF (nArgs 1 F__law_pattern) (consA (varF 4) nilA))) nilX)))
    (seqS (ifS (orT (testF (bin2 (eqK true) (callF (nArgs 1 F_row_pattern) (consA (varF 3) nilA)) (callF (nArgs 1 F__law_pattern) (consA (varF 3) nilA)))) (testF (bin2 (eqK true) (bin2 isNK (varF 5) (cF .non)) (varF 6))))
    (retS (cF (.bl false)))
    (fun δ h => .nx δ h))
    (seqS (ifS (testF (varF 6))
    (seqS (setS 7 (callF (nArgs 1 F__law_cache) (consA (varF 1) nilA)))
    (ifS (testF (bin2 (eqK true) (bin2 ixK (callF (nArgs 2 F__law_walk) (consA (varF 7) (consA (varF 3) nilA))) (cF (.int 0))) (bin2 ixK (callF (nArgs 2 F__law_walk) (consA (varF 7) (consA (varF 4) nilA))) (cF (.int 0)))))
    (retS (cF (.bl false)))
    (fun δ h => .nx δ h)))
    (ifS (orT (notT (testF (callF (nArgs 1 F__law_is_cache) (consA (varF 5) nilA)))) (testF (bin2 (eqK false) (bin2 ixK (callF (nArgs 2 F__law_walk) (consA (varF 5) (consA (varF 3) nilA))) (cF (.int 0))) (bin2 ixK (callF (nArgs 2 F__law_walk) (consA (varF 5) (consA (varF 4) nilA))) (cF (.int 0))))))
    (retS (cF (.bl false)))
    (fun δ h => .nx δ h)))
    (seqS (asgS (tupU 2 (consU (nameU 8) (consU (nameU 9) nilU))) (callF (nArgs 1 F__law_wrong_row) (consA (varF 1) nilA)))
    (seqS (ifS (testF (bin2 (eqK true) (fun δ h => ((cF (.lam 0)) δ h).bind fun d h1 => heardF bod_law N__law_tried.length sf__law_tried δ d h1) (tupF (consA (cF (.str "index")) (consA (varF 9) nilA)))))
    (retS (cF (.bl false)))
    (fun δ h => .nx δ h))
    (seqS (ifS (testF (bin2 (eqK true) (fun δ h => ((cF (.lam 1)) δ h).bind fun d h1 => heardF bod_law N__law_tried.length sf__law_tried δ d h1) (tupF (consA (cF (.str "index")) (consA (varF 9) nilA)))))
    (retS (cF (.bl false)))
    (fun δ h => .nx δ h))
    (seqS (ifS (testF (bin2 (eqK true) (fun δ h => ((cF (.lam 2)) δ h).bind fun d h1 => heardF bod_law N__law_tried.length sf__law_tried δ d h1) (tupF (consA (cF (.str "index")) (consA (varF 9) nilA)))))
    (retS (cF (.bl false)))
    (fun δ h => .nx δ h))
    (seqS (ifS (testF (bin2 (eqK true) (fun δ h => ((cF (.lam 3)) δ h).bind fun d h1 => heardF bod_law N__law_tried.length sf__law_tried δ d h1) (tupF (consA (cF (.str "size")) (consA (cF (.str "rows")) nilA)))))
    (retS (cF (.bl false)))
    (fun δ h => .nx δ h))
    (ifS (testF (bin2 (eqK true) (fun δ h => ((cF (.lam 4)) δ h).bind fun d h1 => heardF bod_law N__law_tried.length sf__law_tried δ d h1) (tupF (consA (cF (.str "size")) (consA (cF (.str "rows")) nilA)))))
    (retS (cF (.bl false)))
    (fun δ h => .nx δ h))))))))))))
    (retS (cF (.bl true))))))
def F_law : List D → Bx → R D := runF N_law.length sf_law
structure Pk (P : Program) (w : World) (K : PySem.W.Frag) (mg : Str → Option Value) (base : Heap) where
  tb : List (Addr × Str)
  a_is_integer : Addr
  fd_is_integer : FuncData
  F_is_integer : Fun K "is_integer" "is_integer" s_is_integer a_is_integer fd_is_integer
  g_is_integer : mg "is_integer" = some (.ref a_is_integer)
  b_is_integer : Binds K fd_is_integer ps_is_integer []
  a_is_number : Addr
  fd_is_number : FuncData
  F_is_number : Fun K "is_number" "is_number" s_is_number a_is_number fd_is_number
  g_is_number : mg "is_number" = some (.ref a_is_number)
  b_is_number : Binds K fd_is_number ps_is_number []
  a_is_sequence : Addr
  fd_is_sequence : FuncData
  F_is_sequence : Fun K "is_sequence" "is_sequence" s_is_sequence a_is_sequence fd_is_sequence
  g_is_sequence : mg "is_sequence" = some (.ref a_is_sequence)
  b_is_sequence : Binds K fd_is_sequence ps_is_sequence []
  a_need_accesses : Addr
  fd_need_accesses : FuncData
  F_need_accesses : Fun K "need_accesses" "need_accesses" s_need_accesses a_need_accesses fd_need_accesses
  g_need_accesses : mg "need_accesses" = some (.ref a_need_accesses)
  b_need_accesses : Binds K fd_need_accesses ps_need_accesses []
  a_row_pattern : Addr
  fd_row_pattern : FuncData
  F_row_pattern : Fun K "row_pattern" "row_pattern" s_row_pattern a_row_pattern fd_row_pattern
  g_row_pattern : mg "row_pattern" = some (.ref a_row_pattern)
  b_row_pattern : Binds K fd_row_pattern ps_row_pattern []
  a_one_line : Addr
  fd_one_line : FuncData
  F_one_line : Fun K "one_line" "one_line" s_one_line a_one_line fd_one_line
  g_one_line : mg "one_line" = some (.ref a_one_line)
  b_one_line : Binds K fd_one_line ps_one_line []
  a_pinning : Addr
  fd_pinning : FuncData
  F_pinning : Fun K "pinning" "pinning" s_pinning a_pinning fd_pinning
  g_pinning : mg "pinning" = some (.ref a_pinning)
  b_pinning : Binds K fd_pinning ps_pinning []
  a_parting_cache : Addr
  fd_parting_cache : FuncData
  F_parting_cache : Fun K "parting_cache" "parting_cache" s_parting_cache a_parting_cache fd_parting_cache
  g_parting_cache : mg "parting_cache" = some (.ref a_parting_cache)
  b_parting_cache : Binds K fd_parting_cache ps_parting_cache []
  a__law_draw : Addr
  fd__law_draw : FuncData
  F__law_draw : Fun K "_law_draw" "_law_draw" s__law_draw a__law_draw fd__law_draw
  g__law_draw : mg "_law_draw" = some (.ref a__law_draw)
  b__law_draw : Binds K fd__law_draw ps__law_draw []
  a__law_any : Addr
  fd__law_any : FuncData
  F__law_any : Fun K "_law_any" "_law_any" s__law_any a__law_any fd__law_any
  g__law_any : mg "_law_any" = some (.ref a__law_any)
  b__law_any : Binds K fd__law_any ps__law_any []
  a__law_of : Addr
  fd__law_of : FuncData
  F__law_of : Fun K "_law_of" "_law_of" s__law_of a__law_of fd__law_of
  g__law_of : mg "_law_of" = some (.ref a__law_of)
  b__law_of : Binds K fd__law_of ps__law_of []
  a__law_cache : Addr
  fd__law_cache : FuncData
  F__law_cache : Fun K "_law_cache" "_law_cache" s__law_cache a__law_cache fd__law_cache
  g__law_cache : mg "_law_cache" = some (.ref a__law_cache)
  b__law_cache : Binds K fd__law_cache ps__law_cache []
  a__law_walk : Addr
  fd__law_walk : FuncData
  F__law_walk : Fun K "_law_walk" "_law_walk" s__law_walk a__law_walk fd__law_walk
  g__law_walk : mg "_law_walk" = some (.ref a__law_walk)
  b__law_walk : Binds K fd__law_walk ps__law_walk []
  a__law_tried : Addr
  fd__law_tried : FuncData
  F__law_tried : Fun K "_law_tried" "_law_tried" s__law_tried a__law_tried fd__law_tried
  g__law_tried : mg "_law_tried" = some (.ref a__law_tried)
  b__law_tried : Binds K fd__law_tried ps__law_tried []
  a__law_wrong_row : Addr
  fd__law_wrong_row : FuncData
  F__law_wrong_row : Fun K "_law_wrong_row" "_law_wrong_row" s__law_wrong_row a__law_wrong_row fd__law_wrong_row
  g__law_wrong_row : mg "_law_wrong_row" = some (.ref a__law_wrong_row)
  b__law_wrong_row : Binds K fd__law_wrong_row ps__law_wrong_row []
  a__law_pattern : Addr
  fd__law_pattern : FuncData
  F__law_pattern : Fun K "_law_pattern" "_law_pattern" s__law_pattern a__law_pattern fd__law_pattern
  g__law_pattern : mg "_law_pattern" = some (.ref a__law_pattern)
  b__law_pattern : Binds K fd__law_pattern ps__law_pattern []
  a__law_is_cache : Addr
  fd__law_is_cache : FuncData
  F__law_is_cache : Fun K "_law_is_cache" "_law_is_cache" s__law_is_cache a__law_is_cache fd__law_is_cache
  g__law_is_cache : mg "_law_is_cache" = some (.ref a__law_is_cache)
  b__law_is_cache : Binds K fd__law_is_cache ps__law_is_cache []
  a__law_two : Addr
  fd__law_two : FuncData
  F__law_two : Fun K "_law_two" "_law_two" s__law_two a__law_two fd__law_two
  g__law_two : mg "_law_two" = some (.ref a__law_two)
  b__law_two : Binds K fd__law_two ps__law_two []
  a_law : Addr
  fd_law : FuncData
  F_law : Fun K "law" "law" s_law a_law fd_law
  g_law : mg "law" = some (.ref a_law)
  b_law : Binds K fd_law ps_law []
  ca_law : Addr
  P_law : Addr
  C_law : FunC K "law" s_law a_law fd_law ca_law
  tb_law : LamX.TabB base mg ca_law P_law
  tm_law : (P_law, qn_law) ∈ tb
  tu_law : ∀ p ∈ tb, p.1 = P_law → p.2 = qn_law
  kw_row_pattern_0 : KwB fd_row_pattern ps_row_pattern ["row"] [0]
  kw_parting_cache_0_1 : KwB fd_parting_cache ps_parting_cache ["one", "other"] [0, 1]
  n_abs : mg "abs" = none
  n_bool : mg "bool" = none
  n_enumerate : mg "enumerate" = none
  n_int : mg "int" = none
  n_isinstance : mg "isinstance" = none
  n_len : mg "len" = none
  n_list : mg "list" = none
  n_range : mg "range" = none
  n_tuple : mg "tuple" = none
  k_MOST_ACCESSES : Tok
  c_MOST_ACCESSES : mg "MOST_ACCESSES" = some (.int 61 k_MOST_ACCESSES)
  ax_InvalidCache : Addr
  gx_InvalidCache : mg "InvalidCache" = some (.ref ax_InvalidCache)
  ax_InvalidIndex : Addr
  gx_InvalidIndex : mg "InvalidIndex" = some (.ref ax_InvalidIndex)
  ax_InvalidSize : Addr
  gx_InvalidSize : mg "InvalidSize" = some (.ref ax_InvalidSize)
  xt : ExT K P mg xtab xbase
section
variable {P : Program} {w : World} {K : PySem.W.Frag} {mg : Str → Option Value} {base : Heap}
theorem ok_is_integer (T : Pk P w K mg base) : FnOk P w K mg base (L2.CX P w) 1 T.a_is_integer T.fd_is_integer ps_is_integer (spF K mg T.tb ps_is_integer.length F_is_integer) :=
  fn_ok (N := N_is_integer) (sf := sf_is_integer) T.F_is_integer sc_is_integer fun cdv A outer s H E M r L hr =>
    (ess_one (es_ret (ev_and (ev_isi (T := "int") rfl T.n_isinstance rfl T.n_int (by decide +kernel) (ev_var (i := 0) rfl (.inl rfl)) rfl (by decide +kernel)) (ev_one (ev_not (ev_isi (T := "bool") rfl T.n_isinstance rfl T.n_bool (by decide +kernel) (ev_var (i := 0) rfl (.inl rfl)) rfl (by decide +kernel)))))))
theorem ok_is_number (T : Pk P w K mg base) : FnOk P w K mg base (L2.CX P w) 2 T.a_is_number T.fd_is_number ps_is_number (spF K mg T.tb ps_is_number.length F_is_number) :=
  fn_ok (N := N_is_number) (sf := sf_is_number) T.F_is_number sc_is_number fun cdv A outer s H E M r L hr =>
    (ess_one (es_ret (ev_and (ev_call (n := 1) ((ok_is_integer T).mono (show 1 ≤ 1 by decide)) hr (takes_of rfl rfl rfl rfl) rfl T.g_is_integer T.F_is_integer.kp T.b_is_integer (eva_cons (ev_var (i := 0) rfl (.inl rfl)) eva_nil)) (ev_one (ev_cmp op_ge geK_ok (ev_var (i := 0) rfl (.inl rfl)) ev_int (nomark _))))))
theorem ok_is_sequence (T : Pk P w K mg base) : FnOk P w K mg base (L2.CX P w) 1 T.a_is_sequence T.fd_is_sequence ps_is_sequence (spF K mg T.tb ps_is_sequence.length F_is_sequence) :=
  fn_ok (N := N_is_sequence) (sf := sf_is_sequence) T.F_is_sequence sc_is_sequence fun cdv A outer s H E M r L hr =>
    (ess_one (es_ret (ev_isi2 (T := "list") (T' := "tuple") rfl T.n_isinstance rfl T.n_list (by decide +kernel) rfl T.n_tuple (by decide +kernel) (ev_var (i := 0) rfl (.inl rfl)) rfl (by decide +kernel) (by decide +kernel))))
theorem ok_need_accesses (T : Pk P w K mg base) : FnOk P w K mg base (L2.CX P w) 3 T.a_need_accesses T.fd_need_accesses ps_need_accesses (spF K mg T.tb ps_need_accesses.length F_need_accesses) :=
  fn_ok (N := N_need_accesses) (sf := sf_need_accesses) T.F_need_accesses sc_need_accesses fun cdv A outer s H E M r L hr =>
    (ess_cons (es_if (evt_not (evt_val (ev_call (n := 1) ((ok_is_sequence T).mono (show 1 ≤ 2 by decide)) hr (takes_of rfl rfl rfl rfl) rfl T.g_is_sequence T.F_is_sequence.kp T.b_is_sequence (eva_cons (ev_var (i := 0) rfl (.inl rfl)) eva_nil)) fun _ => rfl))
    (ess_one (es_raise (k := 0) (T.xt.cls ("InvalidIndex", "at") (by decide)) rfl rfl (takes_of rfl rfl rfl rfl) (hr.mono (show 1 ≤ 2 by decide)) rfl (ev_neg ev_int)))
    ess_nil)
    (ess_cons (es_for (ts := ([1] ++ ([2] ++ []))) (passes_of rfl) rfl (evi_enum rfl T.n_enumerate (eva_cons (ev_var (i := 0) rfl (.inl rfl)) eva_nil) rfl) (evg_tup rfl (evgs_cons (evg_name (i := 1) sc_need_accesses.nd rfl (.inl rfl)) (evgs_cons (evg_name (i := 2) sc_need_accesses.nd rfl (.inl rfl)) evgs_nil)) rfl)
    (ess_one (es_if (evt_not (evt_val (ev_call (n := 1) ((ok_is_number T).mono (show 2 ≤ 2 by decide)) hr (takes_of rfl rfl rfl rfl) rfl T.g_is_number T.F_is_number.kp T.b_is_number (eva_cons (ev_var (i := 2) rfl (.inl rfl)) eva_nil)) fun _ => rfl))
    (ess_one (es_raise (k := 0) (T.xt.cls ("InvalidIndex", "at") (by decide)) rfl rfl (takes_of rfl rfl rfl rfl) (hr.mono (show 1 ≤ 2 by decide)) rfl (ev_var (i := 1) rfl (.inl rfl))))
    ess_nil)))
    (ess_one (es_ret (ev_callTy call_tuple_of tupK_ok rfl T.n_tuple (by decide +kernel) (eva_cons (ev_var (i := 0) rfl (.inl rfl)) eva_nil))))))
theorem ok_row_pattern (T : Pk P w K mg base) : FnOk P w K mg base (L2.CX P w) 4 T.a_row_pattern T.fd_row_pattern ps_row_pattern (spF K mg T.tb ps_row_pattern.length F_row_pattern) :=
  fn_ok (N := N_row_pattern) (sf := sf_row_pattern) T.F_row_pattern sc_row_pattern fun cdv A outer s H E M r L hr =>
    (ess_cons (es_set (i := 0) sc_row_pattern.nd rfl (.inr rfl) (ev_call (n := 1) ((ok_need_accesses T).mono (show 3 ≤ 3 by decide)) hr (takes_of rfl rfl rfl rfl) rfl T.g_need_accesses T.F_need_accesses.kp T.b_need_accesses (eva_cons (ev_var (i := 0) rfl (.inr (.inl rfl))) eva_nil)))
    (ess_cons (es_set (i := 1) sc_row_pattern.nd rfl (.inr rfl) (ev_valN (evn_lc (own := [("at", 2), ("name", 3)]) (ts := ([2] ++ ([3] ++ []))) rfl sc_row_pattern.nd (evi_enum rfl T.n_enumerate (eva_cons (ev_var (i := 0) rfl (.inr (.inl rfl))) eva_nil) rfl) (show BlkOk N_row_pattern (defScope s_row_pattern) _ [("at", 2), ("name", 3)] from ⟨rfl, by decide +kernel, by decide +kernel, by decide +kernel, by decide +kernel⟩) (by decide) (fun _ _ _ _ _ => (evg_tup rfl (evgs_cons (evg_name (i := 2) sc_row_pattern.nd rfl (.inl rfl)) (evgs_cons (evg_name (i := 3) sc_row_pattern.nd rfl (.inl rfl)) evgs_nil)) rfl)) (fun _ _ _ _ _ => (evts_one (evt_cmp (op_notInP hr.units) (inK_ok true) (ev_var (i := 3) rfl (.inl rfl)) (ev_sl (ev_var (i := 0) rfl (.inr (.inl rfl))) evo_none (evo_some (ev_var (i := 2) rfl (.inl rfl))) rfl) rfl))) (fun _ _ _ _ _ => (ev_var (i := 3) rfl (.inl rfl))))))
    (ess_one (es_ret (ev_callTy call_tuple_of tupK_ok rfl T.n_tuple (by decide +kernel) (eva_cons (ev_valN (evn_lc (own := [("name", 3)]) (ts := [3]) rfl sc_row_pattern.nd (evi_seq (ev_var (i := 0) rfl (.inr (.inl rfl))) rfl) (show BlkOk N_row_pattern (defScope s_row_pattern) _ [("name", 3)] from ⟨rfl, by decide +kernel, by decide +kernel, by decide +kernel, by decide +kernel⟩) (by decide) (fun _ _ _ _ _ => (evg_name (i := 3) sc_row_pattern.nd rfl (.inl rfl))) (fun _ _ _ _ _ => evts_nil) (fun _ _ _ _ _ => (ev_index hr.units (ev_var (i := 1) rfl (.inr (.inl rfl))) (ev_var (i := 3) rfl (.inl rfl)) rfl)))) eva_nil))))))
theorem ok_one_line (T : Pk P w K mg base) : FnOk P w K mg base (L2.CX P w) 1 T.a_one_line T.fd_one_line ps_one_line (spF K mg T.tb ps_one_line.length F_one_line) :=
  fn_ok (N := N_one_line) (sf := sf_one_line) T.F_one_line sc_one_line fun cdv A outer s H E M r L hr =>
    (ess_one (es_ret (ev_tup (eva_cons (ev_tup (eva_cons (ev_tup (eva_cons ev_int eva_nil)) (eva_cons ev_int (eva_cons ev_int eva_nil)))) eva_nil))))
theorem ok_pinning (T : Pk P w K mg base) : FnOk P w K mg base (L2.CX P w) 1 T.a_pinning T.fd_pinning ps_pinning (spF K mg T.tb ps_pinning.length F_pinning) :=
  fn_ok (N := N_pinning) (sf := sf_pinning) T.F_pinning sc_pinning fun cdv A outer s H E M r L hr =>
    (ess_cons (es_ownLc (i := 1) (own := [("at", 2)]) (ts := [2]) rfl sc_pinning.nd rfl rfl rfl (evi_range1 rfl T.n_range (eva_cons (ev_op op_addK addK_ok (ev_var (i := 0) rfl (.inl rfl)) ev_int) eva_nil)) (show BlkOk N_pinning (defScope s_pinning) _ [("at", 2)] from ⟨rfl, by decide +kernel, by decide +kernel, by decide +kernel, by decide +kernel⟩) (by decide) (fun _ _ _ _ _ => (evg_name (i := 2) sc_pinning.nd rfl (.inl rfl))) (fun _ _ _ _ _ => evts_nil) (fun _ _ _ _ _ => (ev_tup (eva_cons (ev_tup (eva_cons (ev_op op_addK addK_ok (ev_var (i := 2) rfl (.inl rfl)) ev_int) (eva_cons (ev_op op_addK addK_ok (ev_var (i := 2) rfl (.inl rfl)) ev_int) eva_nil))) (eva_cons ev_int (eva_cons (ev_op op_addK addK_ok (ev_var (i := 2) rfl (.inl rfl)) ev_int) eva_nil))))))
    (ess_one (es_ret (ev_callTy call_tuple_of tupK_ok rfl T.n_tuple (by decide +kernel) (eva_cons (ev_op op_addK addK_ok (ev_var (i := 1) rfl (.inl rfl)) (ev_lst (eva_cons (ev_tup (eva_cons (ev_tup (eva_cons (ev_op op_addK addK_ok (ev_var (i := 0) rfl (.inl rfl)) ev_int) (eva_cons (ev_op op_addK addK_ok (ev_var (i := 0) rfl (.inl rfl)) ev_int) eva_nil))) (eva_cons ev_int (eva_cons (ev_op op_addK addK_ok (ev_var (i := 0) rfl (.inl rfl)) ev_int) eva_nil)))) eva_nil))) eva_nil)))))
theorem ok_parting_cache (T : Pk P w K mg base) : FnOk P w K mg base (L2.CX P w) 5 T.a_parting_cache T.fd_parting_cache ps_parting_cache (spF K mg T.tb ps_parting_cache.length F_parting_cache) :=
  fn_ok (N := N_parting_cache) (sf := sf_parting_cache) T.F_parting_cache sc_parting_cache fun cdv A outer s H E M r L hr =>
    (ess_cons (es_asg (ts := ([0] ++ ([1] ++ []))) (ev_tup (eva_cons (ev_call (n := 1) ((ok_row_pattern T).mono (show 4 ≤ 4 by decide)) hr (takes_of rfl rfl rfl rfl) rfl T.g_row_pattern T.F_row_pattern.kp T.b_row_pattern (eva_cons (ev_var (i := 0) rfl (.inr (.inl rfl))) eva_nil)) (eva_cons (ev_call (n := 1) ((ok_row_pattern T).mono (show 4 ≤ 4 by decide)) hr (takes_of rfl rfl rfl rfl) rfl T.g_row_pattern T.F_row_pattern.kp T.b_row_pattern (eva_cons (ev_var (i := 1) rfl (.inr (.inl rfl))) eva_nil)) eva_nil))) (evg_tup rfl (evgs_cons (evg_name (i := 0) sc_parting_cache.nd rfl (.inr rfl)) (evgs_cons (evg_name (i := 1) sc_parting_cache.nd rfl (.inr rfl)) evgs_nil)) rfl))
    (ess_cons (es_if (evt_w (evw_or (evt_cmp (op_neP hr.units) (eqK_ok true) (ev_callB call_lenK lenK_ok rfl T.n_len (by decide +kernel) (eva_cons (ev_var (i := 0) rfl (.inr (.inl rfl))) eva_nil)) (ev_callB call_lenK lenK_ok rfl T.n_len (by decide +kernel) (eva_cons (ev_var (i := 1) rfl (.inr (.inl rfl))) eva_nil)) (nomark _)) (evw_or1 (evt_cmp op_gt gtK_ok (ev_callB call_lenK lenK_ok rfl T.n_len (by decide +kernel) (eva_cons (ev_var (i := 0) rfl (.inr (.inl rfl))) eva_nil)) (ev_glob rfl T.c_MOST_ACCESSES) (nomark _)))))
    (ess_one (es_raise (k := 0) (T.xt.cls ("InvalidSize", "word") (by decide)) rfl rfl (takes_of rfl rfl rfl rfl) (hr.mono (show 1 ≤ 4 by decide)) rfl ev_str))
    ess_nil)
    (ess_cons (es_if (evt_cmp (op_eqP hr.units) (eqK_ok false) (ev_var (i := 0) rfl (.inr (.inl rfl))) (ev_var (i := 1) rfl (.inr (.inl rfl))) (nomark _))
    (ess_one (es_ret ev_non))
    ess_nil)
    (ess_cons (es_set (i := 2) sc_parting_cache.nd rfl (.inr rfl) (ev_ix (ev_valN (evn_lc (own := [("place", 4)]) (ts := [4]) rfl sc_parting_cache.nd (evi_range1 rfl T.n_range (eva_cons (ev_callB call_lenK lenK_ok rfl T.n_len (by decide +kernel) (eva_cons (ev_var (i := 0) rfl (.inr (.inl rfl))) eva_nil)) eva_nil)) (show BlkOk N_parting_cache (defScope s_parting_cache) _ [("place", 4)] from ⟨rfl, by decide +kernel, by decide +kernel, by decide +kernel, by decide +kernel⟩) (by decide) (fun _ _ _ _ _ => (evg_name (i := 4) sc_parting_cache.nd rfl (.inl rfl))) (fun _ _ _ _ _ => (evts_one (evt_cmp (op_neP hr.units) (eqK_ok true) (ev_ix (ev_var (i := 0) rfl (.inr (.inl rfl))) (ev_var (i := 4) rfl (.inl rfl)) rfl) (ev_ix (ev_var (i := 1) rfl (.inr (.inl rfl))) (ev_var (i := 4) rfl (.inl rfl)) rfl) (nomark _)))) (fun _ _ _ _ _ => (ev_var (i := 4) rfl (.inl rfl))))) ev_int rfl))
    (ess_cons (es_for (ts := [3]) (passes_of rfl) rfl (evi_seq (ev_tup (eva_cons (ev_var (i := 0) rfl (.inr (.inl rfl))) (eva_cons (ev_var (i := 1) rfl (.inr (.inl rfl))) eva_nil))) rfl) (evg_name (i := 3) sc_parting_cache.nd rfl (.inr rfl))
    (ess_one (es_if (evt_w (evw_and (evt_cmp op_gt gtK_ok (ev_var (i := 2) rfl (.inr (.inl rfl))) ev_int (nomark _)) (evw_and1 (evt_cmp (op_eqP hr.units) (eqK_ok false) (ev_ix (ev_var (i := 3) rfl (.inr (.inl rfl))) (ev_var (i := 2) rfl (.inr (.inl rfl))) rfl) (ev_ix (ev_var (i := 3) rfl (.inr (.inl rfl))) (ev_op op_sub subK_ok (ev_var (i := 2) rfl (.inr (.inl rfl))) ev_int) rfl) (nomark _)))))
    (ess_one (es_ret (ev_call0 ((ok_one_line T).mono (show 1 ≤ 4 by decide)) hr (takes_of rfl rfl rfl rfl) rfl T.g_one_line T.F_one_line.kp T.b_one_line)))
    ess_nil)))
    (ess_cons (es_set (i := 3) sc_parting_cache.nd rfl (.inr rfl) (ev_if (evt_cmp (op_inP hr.units) (inK_ok false) (ev_ix (ev_var (i := 0) rfl (.inr (.inl rfl))) (ev_var (i := 2) rfl (.inr (.inl rfl))) rfl) (ev_sl (ev_var (i := 0) rfl (.inr (.inl rfl))) evo_none (evo_some (ev_var (i := 2) rfl (.inr (.inl rfl)))) rfl) rfl) (ev_var (i := 0) rfl (.inr (.inl rfl))) (ev_var (i := 1) rfl (.inr (.inl rfl)))))
    (ess_one (es_ret (ev_call (n := 1) ((ok_pinning T).mono (show 1 ≤ 4 by decide)) hr (takes_of rfl rfl rfl rfl) rfl T.g_pinning T.F_pinning.kp T.b_pinning (eva_cons (ev_ix (ev_valN (evn_lc (own := [("place", 4)]) (ts := [4]) rfl sc_parting_cache.nd (evi_range1 rfl T.n_range (eva_cons (ev_var (i := 2) rfl (.inr (.inl rfl))) eva_nil)) (show BlkOk N_parting_cache (defScope s_parting_cache) _ [("place", 4)] from ⟨rfl, by decide +kernel, by decide +kernel, by decide +kernel, by decide +kernel⟩) (by decide) (fun _ _ _ _ _ => (evg_name (i := 4) sc_parting_cache.nd rfl (.inl rfl))) (fun _ _ _ _ _ => (evts_one (evt_cmp (op_eqP hr.units) (eqK_ok false) (ev_ix (ev_var (i := 3) rfl (.inr (.inl rfl))) (ev_var (i := 4) rfl (.inl rfl)) rfl) (ev_ix (ev_var (i := 3) rfl (.inr (.inl rfl))) (ev_var (i := 2) rfl (.inr (.inl rfl))) rfl) (nomark _)))) (fun _ _ _ _ _ => (ev_var (i := 4) rfl (.inl rfl))))) (ev_neg ev_int) rfl) eva_nil))))))))))
theorem ok__law_draw (T : Pk P w K mg base) : FnOk P w K mg base (L2.CX P w) 1 T.a__law_draw T.fd__law_draw ps__law_draw (spF K mg T.tb ps__law_draw.length F__law_draw) :=
  fn_ok (N := N__law_draw) (sf := sf__law_draw) T.F__law_draw sc__law_draw fun cdv A outer s H E M r L hr =>
    (ess_cons (es_endFrz 2 (es_ownLc (i := 2) (own := [("_law_cell", 4)]) (ts := [4]) rfl sc__law_draw.nd rfl rfl rfl (evi_seq (ev_sl (ev_var (i := 0) rfl (.inl rfl)) evo_none (evo_some ev_int) rfl) rfl) (show BlkOk N__law_draw (defScope s__law_draw) _ [("_law_cell", 4)] from ⟨rfl, by decide +kernel, by decide +kernel, by decide +kernel, by decide +kernel⟩) (by decide) (fun _ _ _ _ _ => (evg_name (i := 4) sc__law_draw.nd rfl (.inl rfl))) (fun _ _ _ _ _ => evts_nil) (fun _ _ _ _ _ => (ev_callB call_abs absK_ok rfl T.n_abs (by decide +kernel) (eva_cons (ev_callTy call_int1 intK_ok rfl T.n_int (by decide +kernel) (eva_cons (ev_var (i := 4) rfl (.inl rfl)) eva_nil)) eva_nil)))))
    (ess_cons (es_set (i := 3) sc__law_draw.nd rfl (.inl rfl) (ev_op op_addK addK_ok ev_int (ev_op op_mulA mulA_ok ev_int (ev_var (i := 1) rfl (.inl rfl)))))
    (ess_cons (es_for (ts := [4]) (passes_of rfl) rfl (evi_seq (ev_var (i := 2) rfl (.inl rfl)) rfl) (evg_name (i := 4) sc__law_draw.nd rfl (.inl rfl))
    (ess_one (es_set (i := 3) sc__law_draw.nd rfl (.inl rfl) (ev_op op_mod modK_ok (ev_callTy call_int1 intK_ok rfl T.n_int (by decide +kernel) (eva_cons (ev_op op_addK addK_ok (ev_op op_addK addK_ok (ev_op op_mulA mulA_ok (ev_var (i := 3) rfl (.inl rfl)) ev_int) (ev_op op_mod modK_ok (ev_var (i := 4) rfl (.inl rfl)) ev_int)) ev_int) eva_nil)) ev_int))))
    (ess_one (es_ret (ev_boxN (evn_lst (eva_cons (ev_boxN (evn_rev (ev_valN (evn_lc (own := [("_law_cell", 4)]) (ts := [4]) rfl sc__law_draw.nd (evi_seq (ev_var (i := 2) rfl (.inl rfl)) rfl) (show BlkOk N__law_draw (defScope s__law_draw) _ [("_law_cell", 4)] from ⟨rfl, by decide +kernel, by decide +kernel, by decide +kernel, by decide +kernel⟩) (by decide) (fun _ _ _ _ _ => (evg_name (i := 4) sc__law_draw.nd rfl (.inl rfl))) (fun _ _ _ _ _ => (evts_one (evt_cmp op_ge geK_ok (ev_var (i := 4) rfl (.inl rfl)) (ev_op op_pow powK_ok ev_int ev_int) (nomark _)))) (fun _ _ _ _ _ => (ev_var (i := 4) rfl (.inl rfl))))) rfl)) (eva_cons (ev_var (i := 3) rfl (.inl rfl)) eva_nil)))))))))
theorem ok__law_any (T : Pk P w K mg base) : FnOk P w K mg base (L2.CX P w) 1 T.a__law_any T.fd__law_any ps__law_any (spF K mg T.tb ps__law_any.length F__law_any) :=
  fn_ok (N := N__law_any) (sf := sf__law_any) T.F__law_any sc__law_any fun cdv A outer s H E M r L hr =>
    (ess_cons (es_while wf (passes_of rfl) (evt_w (evw_and (evt_cmp (op_neP hr.units) (eqK_ok true) (ev_ix (ev_var (i := 0) rfl (.inl rfl)) ev_int rfl) (ev_lst eva_nil) (nomark _)) (evw_and1 (evt_cmp (op_eqP hr.units) (eqK_ok false) (ev_ix (ev_ix (ev_var (i := 0) rfl (.inl rfl)) ev_int rfl) (ev_neg ev_int) rfl) ev_int (nomark _)))))
    (ess_one (es_expr (ev_popF (ev_ix (ev_var (i := 0) rfl (.inl rfl)) ev_int rfl) rfl))))
    (ess_cons (es_if (evt_cmp (op_neP hr.units) (eqK_ok true) (ev_ix (ev_var (i := 0) rfl (.inl rfl)) ev_int rfl) (ev_lst eva_nil) (nomark _))
    (ess_cons (es_set (i := 2) sc__law_any.nd rfl (.inl rfl) (ev_callTy call_int1 intK_ok rfl T.n_int (by decide +kernel) (eva_cons (ev_popF (ev_ix (ev_var (i := 0) rfl (.inl rfl)) ev_int rfl) rfl) eva_nil)))
    (ess_cons (es_appX (ev_ix (ev_var (i := 0) rfl (.inl rfl)) ev_int rfl) (ev_op op_fdiv divK_ok (ev_var (i := 2) rfl (.inl rfl)) (ev_var (i := 1) rfl (.inl rfl))) rfl)
    (ess_one (es_ret (ev_op op_mod modK_ok (ev_var (i := 2) rfl (.inl rfl)) (ev_var (i := 1) rfl (.inl rfl)))))))
    ess_nil)
    (ess_cons (es_seti (i := 0) rfl (.inl rfl) ev_int (ev_op op_mod modK_ok (ev_callTy call_int1 intK_ok rfl T.n_int (by decide +kernel) (eva_cons (ev_op op_addK addK_ok (ev_op op_mulA mulA_ok (ev_ix (ev_var (i := 0) rfl (.inl rfl)) ev_int rfl) ev_int) ev_int) eva_nil)) ev_int))
    (ess_one (es_ret (ev_op op_mod modK_ok (ev_callTy call_int1 intK_ok rfl T.n_int (by decide +kernel) (eva_cons (ev_op op_fdiv divK_ok (ev_ix (ev_var (i := 0) rfl (.inl rfl)) ev_int rfl) ev_int) eva_nil)) (ev_var (i := 1) rfl (.inl rfl))))))))
theorem ok__law_of (T : Pk P w K mg base) : FnOk P w K mg base (L2.CX P w) 2 T.a__law_of T.fd__law_of ps__law_of (spF K mg T.tb ps__law_of.length F__law_of) :=
  fn_ok (N := N__law_of) (sf := sf__law_of) T.F__law_of sc__law_of fun cdv A outer s H E M r L hr =>
    (ess_one (es_ret (ev_ix (ev_var (i := 1) rfl (.inl rfl)) (ev_call (n := 2) ((ok__law_any T).mono (show 1 ≤ 1 by decide)) hr (takes_of rfl rfl rfl rfl) rfl T.g__law_any T.F__law_any.kp T.b__law_any (eva_cons (ev_var (i := 0) rfl (.inl rfl)) (eva_cons (ev_callB call_lenK lenK_ok rfl T.n_len (by decide +kernel) (eva_cons (ev_var (i := 1) rfl (.inl rfl)) eva_nil)) eva_nil))) rfl)))
theorem ok__law_cache (T : Pk P w K mg base) : FnOk P w K mg base (L2.CX P w) 2 T.a__law_cache T.fd__law_cache ps__law_cache (spF K mg T.tb ps__law_cache.length F__law_cache) :=
  fn_ok (N := N__law_cache) (sf := sf__law_cache) T.F__law_cache sc__law_cache fun cdv A outer s H E M r L hr =>
    (ess_cons (es_asg (ts := ([1] ++ ([2] ++ ([3] ++ [])))) (ev_tup (eva_cons (ev_op op_addK addK_ok ev_int (ev_call (n := 2) ((ok__law_any T).mono (show 1 ≤ 1 by decide)) hr (takes_of rfl rfl rfl rfl) rfl T.g__law_any T.F__law_any.kp T.b__law_any (eva_cons (ev_var (i := 0) rfl (.inr (.inl rfl))) (eva_cons ev_int eva_nil)))) (eva_cons (ev_op op_addK addK_ok ev_int (ev_call (n := 2) ((ok__law_any T).mono (show 1 ≤ 1 by decide)) hr (takes_of rfl rfl rfl rfl) rfl T.g__law_any T.F__law_any.kp T.b__law_any (eva_cons (ev_var (i := 0) rfl (.inr (.inl rfl))) (eva_cons ev_int eva_nil)))) (eva_cons (ev_call (n := 2) ((ok__law_any T).mono (show 1 ≤ 1 by decide)) hr (takes_of rfl rfl rfl rfl) rfl T.g__law_any T.F__law_any.kp T.b__law_any (eva_cons (ev_var (i := 0) rfl (.inr (.inl rfl))) (eva_cons ev_int eva_nil))) eva_nil)))) (evg_tup rfl (evgs_cons (evg_name (i := 1) sc__law_cache.nd rfl (.inl rfl)) (evgs_cons (evg_name (i := 2) sc__law_cache.nd rfl (.inr rfl)) (evgs_cons (evg_name (i := 3) sc__law_cache.nd rfl (.inr rfl)) evgs_nil))) rfl))
    (ess_cons (es_own (i := 4) sc__law_cache.nd rfl (.inl rfl) (evn_lst eva_nil))
    (ess_cons (es_for (ts := [5]) (passes_of rfl) rfl (evi_range1 rfl T.n_range (eva_cons (ev_var (i := 2) rfl (.inr (.inl rfl))) eva_nil)) (evg_name (i := 5) sc__law_cache.nd rfl (.inr rfl))
    (ess_cons (es_set (i := 6) sc__law_cache.nd rfl (.inl rfl) (ev_callTy call_tuple_of tupK_ok rfl T.n_tuple (by decide +kernel) (eva_cons (ev_valN (evn_lc (own := [("_law_line", 7)]) (ts := [7]) rfl sc__law_cache.nd (evi_range1 rfl T.n_range (eva_cons (ev_var (i := 1) rfl (.inl rfl)) eva_nil)) (show BlkOk N__law_cache (defScope s__law_cache) _ [("_law_line", 7)] from ⟨rfl, by decide +kernel, by decide +kernel, by decide +kernel, by decide +kernel⟩) (by decide) (fun _ _ _ _ _ => (evg_name (i := 7) sc__law_cache.nd rfl (.inl rfl))) (fun _ _ _ _ _ => evts_nil) (fun _ _ _ _ _ => (ev_if (evt_cmp op_gt gtK_ok (ev_var (i := 3) rfl (.inr (.inl rfl))) ev_int (nomark _)) (ev_call (n := 2) ((ok__law_any T).mono (show 1 ≤ 1 by decide)) hr takes0 rfl T.g__law_any T.F__law_any.kp T.b__law_any (eva_cons (ev_var (i := 0) rfl (.inr (.inl rfl))) (eva_cons (ev_var (i := 2) rfl (.inr (.inl rfl))) eva_nil))) (ev_var (i := 5) rfl (.inr (.inl rfl))))))) eva_nil)))
    (ess_cons (es_set (i := 7) sc__law_cache.nd rfl (.inl rfl) (ev_if (evt_cmp op_lt ltK_ok (ev_var (i := 3) rfl (.inr (.inl rfl))) ev_int (nomark _)) (ev_op op_mod modK_ok (ev_var (i := 5) rfl (.inr (.inl rfl))) (ev_var (i := 1) rfl (.inl rfl))) (ev_call (n := 2) ((ok__law_any T).mono (show 1 ≤ 1 by decide)) hr (takes_of rfl rfl rfl rfl) rfl T.g__law_any T.F__law_any.kp T.b__law_any (eva_cons (ev_var (i := 0) rfl (.inr (.inl rfl))) (eva_cons (ev_var (i := 1) rfl (.inl rfl)) eva_nil)))))
    (ess_cons (es_set (i := 8) sc__law_cache.nd rfl (.inl rfl) (ev_if (evt_cmp op_lt ltK_ok (ev_var (i := 3) rfl (.inr (.inl rfl))) ev_int (nomark _)) (ev_op op_mod modK_ok (ev_op op_addK addK_ok (ev_var (i := 5) rfl (.inr (.inl rfl))) ev_int) (ev_var (i := 2) rfl (.inr (.inl rfl)))) (ev_call (n := 2) ((ok__law_any T).mono (show 1 ≤ 1 by decide)) hr (takes_of rfl rfl rfl rfl) rfl T.g__law_any T.F__law_any.kp T.b__law_any (eva_cons (ev_var (i := 0) rfl (.inr (.inl rfl))) (eva_cons (ev_var (i := 2) rfl (.inr (.inl rfl))) eva_nil)))))
    (ess_one (es_app (i := 4) rfl (.inl rfl) (ev_tup (eva_cons (ev_var (i := 6) rfl (.inl rfl)) (eva_cons (ev_var (i := 7) rfl (.inl rfl)) (eva_cons (ev_var (i := 8) rfl (.inl rfl)) eva_nil)))) rfl))))))
    (ess_one (es_ret (ev_callTy call_tuple_of tupK_ok rfl T.n_tuple (by decide +kernel) (eva_cons (ev_var (i := 4) rfl (.inl rfl)) eva_nil)))))))
theorem ok__law_walk (T : Pk P w K mg base) : FnOk P w K mg base (L2.CX P w) 1 T.a__law_walk T.fd__law_walk ps__law_walk (spF K mg T.tb ps__law_walk.length F__law_walk) :=
  fn_ok (N := N__law_walk) (sf := sf__law_walk) T.F__law_walk sc__law_walk fun cdv A outer s H E M r L hr =>
    (ess_cons (es_par3 (i := 2) (j := 3) (l := 4) rfl sc__law_walk.nd rfl rfl rfl rfl rfl rfl (evx_cons ev_int (evx_consN (evn_rep (ev_lst (eva_cons ev_non eva_nil)) (ev_callB call_lenK lenK_ok rfl T.n_len (by decide +kernel) (eva_cons (ev_ix (ev_ix (ev_var (i := 0) rfl (.inl rfl)) ev_int rfl) ev_int rfl) eva_nil))) (evx_consN (evn_lst eva_nil) evx_nil))))
    (ess_cons (es_for (ts := [5]) (passes_of rfl) rfl (evi_seq (ev_var (i := 1) rfl (.inl rfl)) rfl) (evg_name (i := 5) sc__law_walk.nd rfl (.inl rfl))
    (ess_one (es_if (evt_cmp (op_inP hr.units) (inK_ok false) (ev_var (i := 5) rfl (.inl rfl)) (ev_var (i := 3) rfl (.inl rfl)) rfl)
    (ess_cons (es_app (i := 4) rfl (.inl rfl) ev_int rfl)
    (ess_one (es_set (i := 2) sc__law_walk.nd rfl (.inl rfl) (ev_ix (ev_ix (ev_ix (ev_var (i := 0) rfl (.inl rfl)) (ev_var (i := 2) rfl (.inl rfl)) rfl) ev_int rfl) (ev_index hr.units (ev_var (i := 3) rfl (.inl rfl)) (ev_var (i := 5) rfl (.inl rfl)) rfl) rfl))))
    (ess_cons (es_app (i := 4) rfl (.inl rfl) ev_int rfl)
    (ess_cons (es_seti (i := 3) rfl (.inl rfl) (ev_ix (ev_ix (ev_var (i := 0) rfl (.inl rfl)) (ev_var (i := 2) rfl (.inl rfl)) rfl) ev_int rfl) (ev_var (i := 5) rfl (.inl rfl)))
    (ess_one (es_set (i := 2) sc__law_walk.nd rfl (.inl rfl) (ev_ix (ev_ix (ev_var (i := 0) rfl (.inl rfl)) (ev_var (i := 2) rfl (.inl rfl)) rfl) ev_int rfl))))))))
    (ess_one (es_ret (ev_tup (eva_cons (ev_callTy call_tuple_of tupK_ok rfl T.n_tuple (by decide +kernel) (eva_cons (ev_var (i := 4) rfl (.inl rfl)) eva_nil)) (eva_cons (ev_callTy call_tuple_of tupK_ok rfl T.n_tuple (by decide +kernel) (eva_cons (ev_var (i := 3) rfl (.inl rfl)) eva_nil)) eva_nil)))))))
theorem hk__law_tried (T : Pk P w K mg base) : HeardOk P w K mg base 6 s__law_tried T.a__law_tried "_law_tried" "_law_work" N__law_tried sf__law_tried := fun Λ cdv A outer s H E T' M r L hr act =>
    (ess_one (es_try (tab := xtab) (base := xbase) T.xt rfl rfl rfl rfl rfl (takes_of rfl rfl rfl rfl) (fun W tk_pn tk_xe tk ps => (ess_one (es_ret (ev_tup (eva_cons ev_str (eva_cons (act _ _ _ _ _ tk) eva_nil))))))
    (HsOk.as_ rfl ⟨_, T.gx_InvalidCache⟩ (by decide) sc__law_tried.nd (i := 1) rfl rfl (fun a oe cls d pn hz hf => su_ret rfl hz hf KD.str (i := 1) rfl rfl rfl) (HsOk.as_ rfl ⟨_, T.gx_InvalidIndex⟩ (by decide) sc__law_tried.nd (i := 1) rfl rfl (fun a oe cls d pn hz hf => su_ret rfl hz hf KD.str (i := 1) rfl rfl rfl) (HsOk.as_ rfl ⟨_, T.gx_InvalidSize⟩ (by decide) sc__law_tried.nd (i := 1) rfl rfl (fun a oe cls d pn hz hf => su_ret rfl hz hf KD.str (i := 1) rfl rfl rfl) .nil)))))
theorem ok__law_wrong_row (T : Pk P w K mg base) : FnOk P w K mg base (L2.CX P w) 3 T.a__law_wrong_row T.fd__law_wrong_row ps__law_wrong_row (spF K mg T.tb ps__law_wrong_row.length F__law_wrong_row) :=
  fn_ok (N := N__law_wrong_row) (sf := sf__law_wrong_row) T.F__law_wrong_row sc__law_wrong_row fun cdv A outer s H E M r L hr =>
    (ess_one (es_ret (ev_call (n := 2) ((ok__law_of T).mono (show 2 ≤ 2 by decide)) hr (takes_of rfl rfl rfl rfl) rfl T.g__law_of T.F__law_of.kp T.b__law_of (eva_cons (ev_var (i := 0) rfl (.inl rfl)) (eva_cons (ev_lst (eva_cons (ev_tup (eva_cons ev_non (eva_cons (ev_neg ev_int) eva_nil))) (eva_cons (ev_tup (eva_cons ev_int (eva_cons (ev_neg ev_int) eva_nil))) (eva_cons (ev_tup (eva_cons ev_str (eva_cons (ev_neg ev_int) eva_nil))) (eva_cons (ev_tup (eva_cons (ev_lst (eva_cons ev_int (eva_cons ev_non eva_nil))) (eva_cons ev_int eva_nil))) (eva_cons (ev_tup (eva_cons (ev_tup (eva_cons (ev_neg ev_int) eva_nil)) (eva_cons ev_int eva_nil))) (eva_cons (ev_tup (eva_cons (ev_lst (eva_cons ev_int (eva_cons ev_int (eva_cons ev_bl eva_nil)))) (eva_cons ev_int eva_nil))) (eva_cons (ev_tup (eva_cons (ev_lst (eva_cons ev_str eva_nil)) (eva_cons ev_int eva_nil))) eva_nil)))))))) eva_nil)))))
theorem ok__law_pattern (T : Pk P w K mg base) : FnOk P w K mg base (L2.CX P w) 1 T.a__law_pattern T.fd__law_pattern ps__law_pattern (spF K mg T.tb ps__law_pattern.length F__law_pattern) :=
  fn_ok (N := N__law_pattern) (sf := sf__law_pattern) T.F__law_pattern sc__law_pattern fun cdv A outer s H E M r L hr =>
    (ess_cons (es_set (i := 1) sc__law_pattern.nd rfl (.inr rfl) (ev_lst eva_nil))
    (ess_cons (es_for (ts := [2]) (passes_of rfl) rfl (evi_seq (ev_var (i := 0) rfl (.inl rfl)) rfl) (evg_name (i := 2) sc__law_pattern.nd rfl (.inl rfl))
    (ess_one (es_set (i := 1) sc__law_pattern.nd rfl (.inr rfl) (ev_op op_addK addK_ok (ev_var (i := 1) rfl (.inr (.inl rfl))) (ev_if (evt_cmp (op_notInP hr.units) (inK_ok true) (ev_var (i := 2) rfl (.inl rfl)) (ev_var (i := 1) rfl (.inr (.inl rfl))) rfl) (ev_lst (eva_cons (ev_var (i := 2) rfl (.inl rfl)) eva_nil)) (ev_lst eva_nil))))))
    (ess_one (es_ret (ev_callTy call_tuple_of tupK_ok rfl T.n_tuple (by decide +kernel) (eva_cons (ev_valN (evn_lc (own := [("_law_name", 2)]) (ts := [2]) rfl sc__law_pattern.nd (evi_seq (ev_var (i := 0) rfl (.inl rfl)) rfl) (show BlkOk N__law_pattern (defScope s__law_pattern) _ [("_law_name", 2)] from ⟨rfl, by decide +kernel, by decide +kernel, by decide +kernel, by decide +kernel⟩) (by decide) (fun _ _ _ _ _ => (evg_name (i := 2) sc__law_pattern.nd rfl (.inl rfl))) (fun _ _ _ _ _ => evts_nil) (fun _ _ _ _ _ => (ev_index hr.units (ev_var (i := 1) rfl (.inr (.inl rfl))) (ev_var (i := 2) rfl (.inl rfl)) rfl)))) eva_nil))))))
theorem ok__law_is_cache (T : Pk P w K mg base) : FnOk P w K mg base (L2.CX P w) 1 T.a__law_is_cache T.fd__law_is_cache ps__law_is_cache (spF K mg T.tb ps__law_is_cache.length F__law_is_cache) :=
  fn_ok (N := N__law_is_cache) (sf := sf__law_is_cache) T.F__law_is_cache sc__law_is_cache fun cdv A outer s H E M r L hr =>
    (ess_cons (es_if (evt_w (evw_or (evt_not (evt_val (ev_isi (T := "tuple") rfl T.n_isinstance rfl T.n_tuple (by decide +kernel) (ev_var (i := 0) rfl (.inl rfl)) rfl (by decide +kernel)) fun _ => rfl)) (evw_or1 (evt_not (evt_chain op_le op_le leK_ok leK_ok ev_int (ev_callB call_lenK lenK_ok rfl T.n_len (by decide +kernel) (eva_cons (ev_var (i := 0) rfl (.inl rfl)) eva_nil)) ev_int)))))
    (ess_one (es_ret ev_bl))
    ess_nil)
    (ess_cons (es_for (ts := [1]) (passes_of rfl) rfl (evi_seq (ev_var (i := 0) rfl (.inl rfl)) rfl) (evg_name (i := 1) sc__law_is_cache.nd rfl (.inl rfl))
    (ess_cons (es_if (evt_w (evw_or (evt_not (evt_val (ev_isi (T := "tuple") rfl T.n_isinstance rfl T.n_tuple (by decide +kernel) (ev_var (i := 1) rfl (.inl rfl)) rfl (by decide +kernel)) fun _ => rfl)) (evw_or (evt_cmp (op_neP hr.units) (eqK_ok true) (ev_callB call_lenK lenK_ok rfl T.n_len (by decide +kernel) (eva_cons (ev_var (i := 1) rfl (.inl rfl)) eva_nil)) ev_int (nomark _)) (evw_or1 (evt_not (evt_val (ev_isi (T := "tuple") rfl T.n_isinstance rfl T.n_tuple (by decide +kernel) (ev_ix (ev_var (i := 1) rfl (.inl rfl)) ev_int rfl) rfl (by decide +kernel)) fun _ => rfl))))))
    (ess_one (es_ret ev_bl))
    ess_nil)
    (ess_cons (es_if (evt_w (evw_or (evt_cmp (op_notInP hr.units) (inK_ok true) (ev_callB call_lenK lenK_ok rfl T.n_len (by decide +kernel) (eva_cons (ev_ix (ev_var (i := 1) rfl (.inl rfl)) ev_int rfl) eva_nil)) (ev_tup (eva_cons ev_int (eva_cons ev_int eva_nil))) rfl) (evw_or1 (evt_cmp (op_neP hr.units) (eqK_ok true) (ev_callB call_lenK lenK_ok rfl T.n_len (by decide +kernel) (eva_cons (ev_ix (ev_var (i := 1) rfl (.inl rfl)) ev_int rfl) eva_nil)) (ev_callB call_lenK lenK_ok rfl T.n_len (by decide +kernel) (eva_cons (ev_ix (ev_ix (ev_var (i := 0) rfl (.inl rfl)) ev_int rfl) ev_int rfl) eva_nil)) (nomark _)))))
    (ess_one (es_ret ev_bl))
    ess_nil)
    (ess_cons (es_for (ts := [2]) (passes_of rfl) rfl (evi_seq (ev_op op_addK addK_ok (ev_ix (ev_var (i := 1) rfl (.inl rfl)) ev_int rfl) (ev_tup (eva_cons (ev_ix (ev_var (i := 1) rfl (.inl rfl)) ev_int rfl) eva_nil))) rfl) (evg_name (i := 2) sc__law_is_cache.nd rfl (.inl rfl))
    (ess_one (es_if (evt_w (evw_or (evt_not (evt_val (ev_isi (T := "int") rfl T.n_isinstance rfl T.n_int (by decide +kernel) (ev_var (i := 2) rfl (.inl rfl)) rfl (by decide +kernel)) fun _ => rfl)) (evw_or (evt_val (ev_isi (T := "bool") rfl T.n_isinstance rfl T.n_bool (by decide +kernel) (ev_var (i := 2) rfl (.inl rfl)) rfl (by decide +kernel)) fun _ => rfl) (evw_or1 (evt_not (evt_chain op_le op_lt leK_ok ltK_ok ev_int (ev_var (i := 2) rfl (.inl rfl)) (ev_callB call_lenK lenK_ok rfl T.n_len (by decide +kernel) (eva_cons (ev_var (i := 0) rfl (.inl rfl)) eva_nil))))))))
    (ess_one (es_ret ev_bl))
    ess_nil)))
    (ess_one (es_if (evt_w (evw_or (evt_val (ev_isi (T := "bool") rfl T.n_isinstance rfl T.n_bool (by decide +kernel) (ev_ix (ev_var (i := 1) rfl (.inl rfl)) ev_int rfl) rfl (by decide +kernel)) fun _ => rfl) (evw_or1 (evt_notInRg (ev_ix (ev_var (i := 1) rfl (.inl rfl)) ev_int rfl) (evr_1 rfl T.n_range (ev_callB call_lenK lenK_ok rfl T.n_len (by decide +kernel) (eva_cons (ev_ix (ev_var (i := 1) rfl (.inl rfl)) ev_int rfl) eva_nil))) rfl))))
    (ess_one (es_ret ev_bl))
    ess_nil))))))
    (ess_one (es_ret ev_bl))))
theorem ok__law_two (T : Pk P w K mg base) : FnOk P w K mg base (L2.CX P w) 2 T.a__law_two T.fd__law_two ps__law_two (spF K mg T.tb ps__law_two.length F__law_two) :=
  fn_ok (N := N__law_two) (sf := sf__law_two) T.F__law_two sc__law_two fun cdv A outer s H E M r L hr =>
    (ess_cons (es_endFrz 1 (es_ownLc (i := 1) (own := [("_law_at", 5)]) (ts := [5]) rfl sc__law_two.nd rfl rfl rfl (evi_range1 rfl T.n_range (eva_cons (ev_call (n := 2) ((ok__law_any T).mono (show 1 ≤ 1 by decide)) hr (takes_of rfl rfl rfl rfl) rfl T.g__law_any T.F__law_any.kp T.b__law_any (eva_cons (ev_var (i := 0) rfl (.inr (.inl rfl))) (eva_cons ev_int eva_nil))) eva_nil)) (show BlkOk N__law_two (defScope s__law_two) _ [("_law_at", 5)] from ⟨rfl, by decide +kernel, by decide +kernel, by decide +kernel, by decide +kernel⟩) (by decide) (fun _ _ _ _ _ => (evg_name (i := 5) sc__law_two.nd rfl (.inl rfl))) (fun _ _ _ _ _ => evts_nil) (fun _ _ _ _ _ => (ev_call (n := 2) ((ok__law_any T).mono (show 1 ≤ 1 by decide)) hr takes0 rfl T.g__law_any T.F__law_any.kp T.b__law_any (eva_cons (ev_var (i := 0) rfl (.inr (.inl rfl))) (eva_cons ev_int eva_nil))))))
    (ess_cons (es_own (i := 2) sc__law_two.nd rfl (.inl rfl) (evn_list rfl T.n_list (eva_cons (ev_var (i := 1) rfl (.inl rfl)) eva_nil) rfl))
    (ess_cons (es_for (ts := [3]) (passes_of rfl) rfl (evi_range1 rfl T.n_range (eva_cons (ev_call (n := 2) ((ok__law_any T).mono (show 1 ≤ 1 by decide)) hr (takes_of rfl rfl rfl rfl) rfl T.g__law_any T.F__law_any.kp T.b__law_any (eva_cons (ev_var (i := 0) rfl (.inr (.inl rfl))) (eva_cons ev_int eva_nil))) eva_nil)) (evg_name (i := 3) sc__law_two.nd rfl (.inl rfl))
    (ess_one (es_if (evt_cmp (op_neP hr.units) (eqK_ok true) (ev_var (i := 1) rfl (.inl rfl)) (ev_lst eva_nil) (nomark _))
    (ess_one (es_seti (i := 2) rfl (.inl rfl) (ev_call (n := 2) ((ok__law_any T).mono (show 1 ≤ 1 by decide)) hr (takes_of rfl rfl rfl rfl) rfl T.g__law_any T.F__law_any.kp T.b__law_any (eva_cons (ev_var (i := 0) rfl (.inr (.inl rfl))) (eva_cons (ev_callB call_lenK lenK_ok rfl T.n_len (by decide +kernel) (eva_cons (ev_var (i := 1) rfl (.inl rfl)) eva_nil)) eva_nil))) (ev_call (n := 2) ((ok__law_any T).mono (show 1 ≤ 1 by decide)) hr (takes_of rfl rfl rfl rfl) rfl T.g__law_any T.F__law_any.kp T.b__law_any (eva_cons (ev_var (i := 0) rfl (.inr (.inl rfl))) (eva_cons ev_int eva_nil)))))
    ess_nil)))
    (ess_cons (es_set (i := 4) sc__law_two.nd rfl (.inr rfl) (ev_call (n := 2) ((ok__law_any T).mono (show 1 ≤ 1 by decide)) hr (takes_of rfl rfl rfl rfl) rfl T.g__law_any T.F__law_any.kp T.b__law_any (eva_cons (ev_var (i := 0) rfl (.inr (.inl rfl))) (eva_cons ev_int eva_nil))))
    (ess_one (es_frz 2 (es_ret (ev_tup (eva_cons (ev_var (i := 1) rfl (.inl rfl)) (eva_cons (ev_valN (evn_lc (own := [("_law_name", 6)]) (ts := [6]) rfl sc__law_two.nd (evi_seq (ev_var (i := 2) rfl (.inl rfl)) rfl) (show BlkOk N__law_two (defScope s__law_two) _ [("_law_name", 6)] from ⟨rfl, by decide +kernel, by decide +kernel, by decide +kernel, by decide +kernel⟩) (by decide) (fun _ _ _ _ _ => (evg_name (i := 6) sc__law_two.nd rfl (.inl rfl))) (fun _ _ _ _ _ => evts_nil) (fun _ _ _ _ _ => (ev_op op_addK addK_ok (ev_op op_mulA mulA_ok (ev_var (i := 6) rfl (.inl rfl)) (ev_op op_addK addK_ok ev_int (ev_var (i := 4) rfl (.inr (.inl rfl))))) (ev_var (i := 4) rfl (.inr (.inl rfl))))))) eva_nil))))))))))
theorem lk_law (T : Pk P w K mg base) (A : Around) (outer : List PySem.Env) (s : Shared) (H : Hp) (E : XK) (M : Imm) (r : List Addr) : ∀ k ld, lt_law[k]? = some ld →
    LamOk (cxOf (L2.CX P w) P w K mg base N_law "law" (defScope s_law) T.a_law (.ref T.ca_law) A outer s H E) ⟨K, mg, T.tb, M, r, H, lamL lt_law (envOfC "law" (defScope s_law) s.heap.objs.size T.a_law (.ref T.ca_law))⟩ 5 ld (bod_law k)
  | 0, _, rfl => ⟨ls_law_0, fun _ _ _ _ _ => rfl, fun A outer s H E f' c' M r hr => show Ev _ _ _ _ (callF (nArgs 1 F_row_pattern) (consA (varF 8) nilA)) from (ev_call (n := 1) ((ok_row_pattern T).mono (show 4 ≤ 5 by decide)) hr (takes_of rfl rfl rfl rfl) rfl T.g_row_pattern T.F_row_pattern.kp T.b_row_pattern (eva_cons (ev_var (i := 8) rfl (.inr (.inr rfl))) eva_nil))⟩
  | 1, _, rfl => ⟨ls_law_1, fun _ _ _ _ _ => rfl, fun A outer s H E f' c' M r hr => show Ev _ _ _ _ (callF (nArgs 2 F_parting_cache) (consA (varF 8) (consA (cF .non) nilA))) from (ev_call (n := 2) ((ok_parting_cache T).mono (show 5 ≤ 5 by decide)) hr (takes_of rfl rfl rfl rfl) rfl T.g_parting_cache T.F_parting_cache.kp T.b_parting_cache (eva_cons (ev_var (i := 8) rfl (.inr (.inr rfl))) (eva_cons ev_non eva_nil)))⟩
  | 2, _, rfl => ⟨ls_law_2, fun _ _ _ _ _ => rfl, fun A outer s H E f' c' M r hr => show Ev _ _ _ _ (callF (nArgs 2 F_parting_cache) (consA (varF 3) (consA (varF 8) nilA))) from (ev_call (n := 2) ((ok_parting_cache T).mono (show 5 ≤ 5 by decide)) hr (takes_of rfl rfl rfl rfl) rfl T.g_parting_cache T.F_parting_cache.kp T.b_parting_cache (eva_cons (ev_var (i := 3) rfl (.inr (.inr rfl))) (eva_cons (ev_var (i := 8) rfl (.inr (.inr rfl))) eva_nil)))⟩
  | 3, _, rfl => ⟨ls_law_3, fun _ _ _ _ _ => rfl, fun A outer s H E f' c' M r hr => show Ev _ _ _ _ (callF (nArgs 2 F_parting_cache) (consA (varF 3) (consA (bin2 addK (varF 4) (lstF (consA (cF (.int 0)) nilA))) nilA))) from (ev_call (n := 2) ((ok_parting_cache T).mono (show 5 ≤ 5 by decide)) hr (takes_of rfl rfl rfl rfl) rfl T.g_parting_cache T.F_parting_cache.kp T.b_parting_cache (eva_cons (ev_var (i := 3) rfl (.inr (.inr rfl))) (eva_cons (ev_op op_addK addK_ok (ev_var (i := 4) rfl (.inr (.inr rfl))) (ev_lst (eva_cons ev_int eva_nil))) eva_nil)))⟩
  | 4, _, rfl => ⟨ls_law_4, fun _ _ _ _ _ => rfl, fun A outer s H E f' c' M r hr => show Ev _ _ _ _ (callF (nArgs 2 F_parting_cache) (consA (bin2 mulA (lstF (consA (cF (.int 0)) nilA)) (cF (.int 62))) (consA (bin2 mulA (tupF (consA (cF (.int 1)) nilA)) (cF (.int 62))) nilA))) from (ev_call (n := 2) ((ok_parting_cache T).mono (show 5 ≤ 5 by decide)) hr (takes_of rfl rfl rfl rfl) rfl T.g_parting_cache T.F_parting_cache.kp T.b_parting_cache (eva_cons (ev_op op_mulA mulA_ok (ev_lst (eva_cons ev_int eva_nil)) ev_int) (eva_cons (ev_op op_mulA mulA_ok (ev_tup (eva_cons ev_int eva_nil)) ev_int) eva_nil)))⟩
  | n + 5, _, e => nomatch e
theorem bd_law (T : Pk P w K mg base) : BodyL P w K mg T.tb base "law" s_law T.a_law T.ca_law N_law 7 lt_law sf_law := fun A outer s H E M r hr =>
    (ess_cons (es_set (i := 1) sc_law.nd rfl (.inl rfl) (ev_call (n := 2) ((ok__law_draw T).mono (show 1 ≤ 7 by decide)) hr (takes_of rfl rfl rfl rfl) rfl T.g__law_draw T.F__law_draw.kp T.b__law_draw (eva_cons (ev_var (i := 0) rfl (.inl rfl)) (eva_cons ev_int eva_nil))))
    (ess_cons (es_if (evt_w (evw_or (evt_cmp (op_neP hr.units) (eqK_ok true) (ev_callKw ((ok_row_pattern T).mono (show 4 ≤ 7 by decide)) hr (takes_of rfl rfl rfl rfl) rfl T.g_row_pattern T.F_row_pattern.kp T.kw_row_pattern_0 (by decide) (evk_cons (ev_lst (eva_cons ev_int (eva_cons ev_int (eva_cons ev_int eva_nil)))) evk_nil)) (ev_tup (eva_cons ev_int (eva_cons ev_int (eva_cons ev_int eva_nil)))) (nomark _)) (evw_or1 (evt_cmp op_notN notNK_ok (ev_callKw ((ok_parting_cache T).mono (show 5 ≤ 7 by decide)) hr (takes_of rfl rfl rfl rfl) rfl T.g_parting_cache T.F_parting_cache.kp T.kw_parting_cache_0_1 (by decide) (evk_cons (ev_lst eva_nil) (evk_cons (ev_tup eva_nil) evk_nil))) ev_non (nomark _)))))
    (ess_one (es_ret ev_bl))
    ess_nil)
    (ess_cons (es_for (ts := [2]) (passes_of rfl) rfl (evi_range1 rfl T.n_range (eva_cons ev_int eva_nil)) (evg_name (i := 2) sc_law.nd rfl (.inl rfl))
    (ess_cons (es_asg (ts := ([3] ++ ([4] ++ []))) (ev_call (n := 1) ((ok__law_two T).mono (show 2 ≤ 7 by decide)) hr (takes_of rfl rfl rfl rfl) rfl T.g__law_two T.F__law_two.kp T.b__law_two (eva_cons (ev_var (i := 1) rfl (.inl rfl)) eva_nil)) (evg_tup rfl (evgs_cons (evg_name (i := 3) sc_law.nd rfl (.inr rfl)) (evgs_cons (evg_name (i := 4) sc_law.nd rfl (.inr rfl)) evgs_nil)) rfl))
    (ess_cons (es_par (i := 5) (j := 6) rfl sc_law.nd rfl rfl rfl rfl (evx_cons (ev_call (n := 2) ((ok_parting_cache T).mono (show 5 ≤ 7 by decide)) hr (takes_of rfl rfl rfl rfl) rfl T.g_parting_cache T.F_parting_cache.kp T.b_parting_cache (eva_cons (ev_var (i := 3) rfl (.inr (.inl rfl))) (eva_cons (ev_callTy call_tuple_of tupK_ok rfl T.n_tuple (by decide +kernel) (eva_cons (ev_var (i := 4) rfl (.inr (.inl rfl))) eva_nil)) eva_nil))) (evx_cons (ev_cmp (op_eqP hr.units) (eqK_ok false) (ev_call (n := 1) ((ok__law_pattern T).mono (show 1 ≤ 7 by decide)) hr (takes_of rfl rfl rfl rfl) rfl T.g__law_pattern T.F__law_pattern.kp T.b__law_pattern (eva_cons (ev_var (i := 3) rfl (.inr (.inl rfl))) eva_nil)) (ev_call (n := 1) ((ok__law_pattern T).mono (show 1 ≤ 7 by decide)) hr (takes_of rfl rfl rfl rfl) rfl T.g__law_pattern T.F__law_pattern.kp T.b__law_pattern (eva_cons (ev_var (i := 4) rfl (.inr (.inl rfl))) eva_nil)) (nomark _)) evx_nil)))
    (ess_cons (es_if (evt_w (evw_or (evt_cmp (op_neP hr.units) (eqK_ok true) (ev_call (n := 1) ((ok_row_pattern T).mono (show 4 ≤ 7 by decide)) hr (takes_of rfl rfl rfl rfl) rfl T.g_row_pattern T.F_row_pattern.kp T.b_row_pattern (eva_cons (ev_var (i := 3) rfl (.inr (.inl rfl))) eva_nil)) (ev_call (n := 1) ((ok__law_pattern T).mono (show 1 ≤ 7 by decide)) hr (takes_of rfl rfl rfl rfl) rfl T.g__law_pattern T.F__law_pattern.kp T.b__law_pattern (eva_cons (ev_var (i := 3) rfl (.inr (.inl rfl))) eva_nil)) (nomark _)) (evw_or1 (evt_cmp (op_neP hr.units) (eqK_ok true) (ev_cmp op_isN isNK_ok (ev_var (i := 5) rfl (.inl rfl)) ev_non (nomark _)) (ev_var (i := 6) rfl (.inl rfl)) (nomark _)))))
    (ess_one (es_ret ev_bl))
    ess_nil)
    (ess_cons (es_if (evt_val (ev_var (i := 6) rfl (.inl rfl)) fun _ => rfl)
    (ess_cons (es_set (i := 7) sc_law.nd rfl (.inl rfl) (ev_call (n := 1) ((ok__law_cache T).mono (show 2 ≤ 7 by decide)) hr (takes_of rfl rfl rfl rfl) rfl T.g__law_cache T.F__law_cache.kp T.b__law_cache (eva_cons (ev_var (i := 1) rfl (.inl rfl)) eva_nil)))
    (ess_one (es_if (evt_cmp (op_neP hr.units) (eqK_ok true) (ev_ix (ev_call (n := 2) ((ok__law_walk T).mono (show 1 ≤ 7 by decide)) hr (takes_of rfl rfl rfl rfl) rfl T.g__law_walk T.F__law_walk.kp T.b__law_walk (eva_cons (ev_var (i := 7) rfl (.inl rfl)) (eva_cons (ev_var (i := 3) rfl (.inr (.inl rfl))) eva_nil))) ev_int rfl) (ev_ix (ev_call (n := 2) ((ok__law_walk T).mono (show 1 ≤ 7 by decide)) hr (takes_of rfl rfl rfl rfl) rfl T.g__law_walk T.F__law_walk.kp T.b__law_walk (eva_cons (ev_var (i := 7) rfl (.inl rfl)) (eva_cons (ev_var (i := 4) rfl (.inr (.inl rfl))) eva_nil))) ev_int rfl) (nomark _))
    (ess_one (es_ret ev_bl))
    ess_nil)))
    (ess_one (es_if (evt_w (evw_or (evt_not (evt_val (ev_call (n := 1) ((ok__law_is_cache T).mono (show 1 ≤ 7 by decide)) hr (takes_of rfl rfl rfl rfl) rfl T.g__law_is_cache T.F__law_is_cache.kp T.b__law_is_cache (eva_cons (ev_var (i := 5) rfl (.inl rfl)) eva_nil)) fun _ => rfl)) (evw_or1 (evt_cmp (op_eqP hr.units) (eqK_ok false) (ev_ix (ev_call (n := 2) ((ok__law_walk T).mono (show 1 ≤ 7 by decide)) hr (takes_of rfl rfl rfl rfl) rfl T.g__law_walk T.F__law_walk.kp T.b__law_walk (eva_cons (ev_var (i := 5) rfl (.inl rfl)) (eva_cons (ev_var (i := 3) rfl (.inr (.inl rfl))) eva_nil))) ev_int rfl) (ev_ix (ev_call (n := 2) ((ok__law_walk T).mono (show 1 ≤ 7 by decide)) hr (takes_of rfl rfl rfl rfl) rfl T.g__law_walk T.F__law_walk.kp T.b__law_walk (eva_cons (ev_var (i := 5) rfl (.inl rfl)) (eva_cons (ev_var (i := 4) rfl (.inr (.inl rfl))) eva_nil))) ev_int rfl) (nomark _)))))
    (ess_one (es_ret ev_bl))
    ess_nil)))
    (ess_cons (es_asg (ts := ([8] ++ ([9] ++ []))) (ev_call (n := 1) ((ok__law_wrong_row T).mono (show 3 ≤ 7 by decide)) hr (takes_of rfl rfl rfl rfl) rfl T.g__law_wrong_row T.F__law_wrong_row.kp T.b__law_wrong_row (eva_cons (ev_var (i := 1) rfl (.inl rfl)) eva_nil)) (evg_tup rfl (evgs_cons (evg_name (i := 8) sc_law.nd rfl (.inr rfl)) (evgs_cons (evg_name (i := 9) sc_law.nd rfl (.inl rfl)) evgs_nil)) rfl))
    (ess_cons (es_if (evt_cmp (op_neP hr.units) (eqK_ok true) (ev_heard (j := 5) T.F__law_tried sc__law_tried T.b__law_tried (hk__law_tried T) (hr.mono (show 7 ≤ 7 by decide)) (takes_of rfl rfl rfl rfl) rfl rfl (show 5 + 1 ≤ 6 by decide) rfl (lk_law T A outer s H E M r) rfl (.inl rfl) rfl T.g__law_tried (ev_lam (k := 0) rfl rfl T.tb_law rfl T.tm_law T.tu_law ls_law_0)) (ev_tup (eva_cons ev_str (eva_cons (ev_var (i := 9) rfl (.inl rfl)) eva_nil))) (nomark _))
    (ess_one (es_ret ev_bl))
    ess_nil)
    (ess_cons (es_if (evt_cmp (op_neP hr.units) (eqK_ok true) (ev_heard (j := 5) T.F__law_tried sc__law_tried T.b__law_tried (hk__law_tried T) (hr.mono (show 7 ≤ 7 by decide)) (takes_of rfl rfl rfl rfl) rfl rfl (show 5 + 1 ≤ 6 by decide) rfl (lk_law T A outer s H E M r) rfl (.inl rfl) rfl T.g__law_tried (ev_lam (k := 1) rfl rfl T.tb_law rfl T.tm_law T.tu_law ls_law_1)) (ev_tup (eva_cons ev_str (eva_cons (ev_var (i := 9) rfl (.inl rfl)) eva_nil))) (nomark _))
    (ess_one (es_ret ev_bl))
    ess_nil)
    (ess_cons (es_if (evt_cmp (op_neP hr.units) (eqK_ok true) (ev_heard (j := 5) T.F__law_tried sc__law_tried T.b__law_tried (hk__law_tried T) (hr.mono (show 7 ≤ 7 by decide)) (takes_of rfl rfl rfl rfl) rfl rfl (show 5 + 1 ≤ 6 by decide) rfl (lk_law T A outer s H E M r) rfl (.inl rfl) rfl T.g__law_tried (ev_lam (k := 2) rfl rfl T.tb_law rfl T.tm_law T.tu_law ls_law_2)) (ev_tup (eva_cons ev_str (eva_cons (ev_var (i := 9) rfl (.inl rfl)) eva_nil))) (nomark _))
    (ess_one (es_ret ev_bl))
    ess_nil)
    (ess_cons (es_if (evt_cmp (op_neP hr.units) (eqK_ok true) (ev_heard (j := 5) T.F__law_tried sc__law_tried T.b__law_tried (hk__law_tried T) (hr.mono (show 7 ≤ 7 by decide)) (takes_of rfl rfl rfl rfl) rfl rfl (show 5 + 1 ≤ 6 by decide) rfl (lk_law T A outer s H E M r) rfl (.inl rfl) rfl T.g__law_tried (ev_lam (k := 3) rfl rfl T.tb_law rfl T.tm_law T.tu_law ls_law_3)) (ev_tup (eva_cons ev_str (eva_cons ev_str eva_nil))) (nomark _))
    (ess_one (es_ret ev_bl))
    ess_nil)
    (ess_one (es_if (evt_cmp (op_neP hr.units) (eqK_ok true) (ev_heard (j := 5) T.F__law_tried sc__law_tried T.b__law_tried (hk__law_tried T) (hr.mono (show 7 ≤ 7 by decide)) (takes_of rfl rfl rfl rfl) rfl rfl (show 5 + 1 ≤ 6 by decide) rfl (lk_law T A outer s H E M r) rfl (.inl rfl) rfl T.g__law_tried (ev_lam (k := 4) rfl rfl T.tb_law rfl T.tm_law T.tu_law ls_law_4)) (ev_tup (eva_cons ev_str (eva_cons ev_str eva_nil))) (nomark _))
    (ess_one (es_ret ev_bl))
    ess_nil))))))))))))
    (ess_one (es_ret ev_bl)))))
end
end LP
/-! K46p: the statements of some defs, named (printed by parts.py). -/
namespace LP
open PySem PySem.Spec PyProof.Rows L2 HT
def p_ldraw_1 : SF := (endFrz 2 (ownS 2 (lcN (itemsI (slF (varF 0) noO (someO (cF (.int 48))))) [4] (nameU 4) yesF (blt absK (consA (blt intK (consA (varF 4) nilA)) nilA)))))
def p_ldraw_2 : SF := (setS 3 (bin2 addK (cF (.int 7919)) (bin2 mulA (cF (.int 104729)) (varF 1))))
def p_ldraw_3 : SF := (forS (itemsI (varF 2)) (nameU 4) (setS 3 (bin2 modK (blt intK (consA (bin2 addK (bin2 addK (bin2 mulA (varF 3) (cF (.int 48271))) (bin2 modK (varF 4) (cF (.int 2147483549)))) (cF (.int 11))) nilA)) (cF (.int 2147483647)))))
def p_ldraw_4 : SF := (retS (boxN (lstN (consA (boxN (revN (valN (lcN (itemsI (varF 2)) [4] (nameU 4) (testF (bin2 geK (varF 4) (bin2 powK (cF (.int 10)) (cF (.int 18))))) (varF 4))))) (consA (varF 3) nilA)))))
def p_ldraw : SF := (seqS p_ldraw_1 (seqS p_ldraw_2 (seqS p_ldraw_3 p_ldraw_4)))
theorem sf__law_draw_eq : sf__law_draw = p_ldraw := rfl
def p_lany_1 : SF := (whileF (andT (testF (bin2 (eqK true) (bin2 ixK (varF 0) (cF (.int 0))) (lstF nilA))) (testF (bin2 (eqK false) (bin2 ixK (bin2 ixK (varF 0) (cF (.int 0))) (negF (cF (.int 1)))) (cF (.int 0))))) (exprS (popF (bin2 ixK (varF 0) (cF (.int 0))))) wf)
def p_lany_2t_1 : SF := (setS 2 (blt intK (consA (popF (bin2 ixK (varF 0) (cF (.int 0)))) nilA)))
def p_lany_2t_2 : SF := (appX (bin2 ixK (varF 0) (cF (.int 0))) (bin2 divK (varF 2) (varF 1)))
def p_lany_2t_3 : SF := (retS (bin2 modK (varF 2) (varF 1)))
def p_lany_2t : SF := (seqS p_lany_2t_1 (seqS p_lany_2t_2 p_lany_2t_3))
def p_lany_2 : SF := (ifS (testF (bin2 (eqK true) (bin2 ixK (varF 0) (cF (.int 0))) (lstF nilA))) p_lany_2t (fun δ h => .nx δ h))
def p_lany_3 : SF := (setiS 0 (cF (.int 1)) (bin2 modK (blt intK (consA (bin2 addK (bin2 mulA (bin2 ixK (varF 0) (cF (.int 1))) (cF (.int 40693))) (cF (.int 71))) nilA)) (cF (.int 2147483647))))
def p_lany_4 : SF := (retS (bin2 modK (blt intK (consA (bin2 divK (bin2 ixK (varF 0) (cF (.int 1))) (cF (.int 64))) nilA)) (varF 1)))
def p_lany : SF := (seqS p_lany_1 (seqS p_lany_2 (seqS p_lany_3 p_lany_4)))
theorem sf__law_any_eq : sf__law_any = p_lany := rfl
def p_need_accesses_1 : SF := (ifS (notT (testF (callF (nArgs 1 F_is_sequence) (consA (varF 0) nilA)))) (raiseS "InvalidIndex" "at" (negF (cF (.int 1)))) (fun δ h => .nx δ h))
def p_need_accesses_2 : SF := (forS (fun δ h => ((consA (varF 0) nilA) δ h).bind fun ds h1 => enumK ds δ h1) (tupU 2 (consU (nameU 1) (consU (nameU 2) nilU))) (ifS (notT (testF (callF (nArgs 1 F_is_number) (consA (varF 2) nilA))))
    (raiseS "InvalidIndex" "at" (varF 1))
    (fun δ h => .nx δ h)))
def p_need_accesses_3 : SF := (retS (blt tupK (consA (varF 0) nilA)))
def p_need_accesses : SF := (seqS p_need_accesses_1 (seqS p_need_accesses_2 p_need_accesses_3))
theorem sf_need_accesses_eq : sf_need_accesses = p_need_accesses := rfl
def p_row_pattern_1 : SF := (setS 0 (callF (nArgs 1 F_need_accesses) (consA (varF 0) nilA)))
def p_row_pattern_2 : SF := (setS 1 (valN (lcN (fun δ h => ((consA (varF 0) nilA) δ h).bind fun ds h1 => enumK ds δ h1) [2, 3] (tupU 2 (consU (nameU 2) (consU (nameU 3) nilU))) (testF (bin2 (inK true) (varF 3) (slF (varF 0) noO (someO (varF 2))))) (varF 3))))
def p_row_pattern_3 : SF := (retS (blt tupK (consA (valN (lcN (itemsI (varF 0)) [3] (nameU 3) yesF (idxF (varF 1) (varF 3)))) nilA)))
def p_row_pattern : SF := (seqS p_row_pattern_1 (seqS p_row_pattern_2 p_row_pattern_3))
theorem sf_row_pattern_eq : sf_row_pattern = p_row_pattern := rfl
def p_pinning_1 : SF := (ownS 1 (lcN (fun δ h => ((consA (bin2 addK (varF 0) (cF (.int 1))) nilA) δ h).bind rg1K) [2] (nameU 2) yesF (tupF (consA (tupF (consA (bin2 addK (varF 2) (cF (.int 1))) (consA (bin2 addK (varF 2) (cF (.int 1))) nilA))) (consA (cF (.int 0)) (consA (bin2 addK (varF 2) (cF (.int 1))) nilA))))))
def p_pinning_2 : SF := (retS (blt tupK (consA (bin2 addK (varF 1) (lstF (consA (tupF (consA (tupF (consA (bin2 addK (varF 0) (cF (.int 1))) (consA (bin2 addK (varF 0) (cF (.int 1))) nilA))) (consA (cF (.int 1)) (consA (bin2 addK (varF 0) (cF (.int 1))) nilA)))) nilA))) nilA)))
def p_pinning : SF := (seqS p_pinning_1 p_pinning_2)
theorem sf_pinning_eq : sf_pinning = p_pinning := rfl
def p_parting_cache_1 : SF := (asgS (tupU 2 (consU (nameU 0) (consU (nameU 1) nilU))) (tupF (consA (callF (nArgs 1 F_row_pattern) (consA (varF 0) nilA)) (consA (callF (nArgs 1 F_row_pattern) (consA (varF 1) nilA)) nilA))))
def p_parting_cache_2 : SF := (ifS (orT (testF (bin2 (eqK true) (blt lenK (consA (varF 0) nilA)) (blt lenK (consA (varF 1) nilA)))) (testF (bin2 gtK (blt lenK (consA (varF 0) nilA)) (cF (.int 61))))) (raiseS "InvalidSize" "word" (cF (.str "rows"))) (fun δ h => .nx δ h))
def p_parting_cache_3 : SF := (ifS (testF (bin2 (eqK false) (varF 0) (varF 1))) (retS (cF .non)) (fun δ h => .nx δ h))
def p_parting_cache_4 : SF := (setS 2 (bin2 ixK (valN (lcN (fun δ h => ((consA (blt lenK (consA (varF 0) nilA)) nilA) δ h).bind rg1K) [4] (nameU 4) (testF (bin2 (eqK true) (bin2 ixK (varF 0) (varF 4)) (bin2 ixK (varF 1) (varF 4)))) (varF 4))) (cF (.int 0))))
def p_parting_cache_5 : SF := (forS (itemsI (tupF (consA (varF 0) (consA (varF 1) nilA)))) (nameU 3) (ifS (andT (testF (bin2 gtK (varF 2) (cF (.int 0)))) (testF (bin2 (eqK false) (bin2 ixK (varF 3) (varF 2)) (bin2 ixK (varF 3) (bin2 subK (varF 2) (cF (.int 1)))))))
    (retS (fun _ h => F_one_line [] h))
    (fun δ h => .nx δ h)))
def p_parting_cache_6 : SF := (setS 3 (iteF (testF (bin2 (inK false) (bin2 ixK (varF 0) (varF 2)) (slF (varF 0) noO (someO (varF 2))))) (varF 0) (varF 1)))
def p_parting_cache_7 : SF := (retS (callF (nArgs 1 F_pinning) (consA (bin2 ixK (valN (lcN (fun δ h => ((consA (varF 2) nilA) δ h).bind rg1K) [4] (nameU 4) (testF (bin2 (eqK false) (bin2 ixK (varF 3) (varF 4)) (bin2 ixK (varF 3) (varF 2)))) (varF 4))) (negF (cF (.int 1)))) nilA)))
def p_parting_cache : SF := (seqS p_parting_cache_1 (seqS p_parting_cache_2 (seqS p_parting_cache_3 (seqS p_parting_cache_4 (seqS p_parting_cache_5 (seqS p_parting_cache_6 p_parting_cache_7))))))
theorem sf_parting_cache_eq : sf_parting_cache = p_parting_cache := rfl
def p_lwalk_1 : SF := (parS [2, 3, 4] (consX (cF (.int 0)) (consXN (repN (lstF (consA (cF .non) nilA)) (blt lenK (consA (bin2 ixK (bin2 ixK (varF 0) (cF (.int 0))) (cF (.int 0))) nilA))) (consXN (lstN nilA) nilX))))
def p_lwalk_2 : SF := (forS (itemsI (varF 1)) (nameU 5) (ifS (testF (bin2 (inK false) (varF 5) (varF 3)))
    (seqS (appS 4 (cF (.int 1)))
    (setS 2 (bin2 ixK (bin2 ixK (bin2 ixK (varF 0) (varF 2)) (cF (.int 0))) (idxF (varF 3) (varF 5)))))
    (seqS (appS 4 (cF (.int 0)))
    (seqS (setiS 3 (bin2 ixK (bin2 ixK (varF 0) (varF 2)) (cF (.int 1))) (varF 5))
    (setS 2 (bin2 ixK (bin2 ixK (varF 0) (varF 2)) (cF (.int 2))))))))
def p_lwalk_3 : SF := (retS (tupF (consA (blt tupK (consA (varF 4) nilA)) (consA (blt tupK (consA (varF 3) nilA)) nilA))))
def p_lwalk : SF := (seqS p_lwalk_1 (seqS p_lwalk_2 p_lwalk_3))
theorem sf__law_walk_eq : sf__law_walk = p_lwalk := rfl
def p_lpattern_1 : SF := (setS 1 (lstF nilA))
def p_lpattern_2 : SF := (forS (itemsI (varF 0)) (nameU 2) (setS 1 (bin2 addK (varF 1) (iteF (testF (bin2 (inK true) (varF 2) (varF 1))) (lstF (consA (varF 2) nilA)) (lstF nilA)))))
def p_lpattern_3 : SF := (retS (blt tupK (consA (valN (lcN (itemsI (varF 0)) [2] (nameU 2) yesF (idxF (varF 1) (varF 2)))) nilA)))
def p_lpattern : SF := (seqS p_lpattern_1 (seqS p_lpattern_2 p_lpattern_3))
theorem sf__law_pattern_eq : sf__law_pattern = p_lpattern := rfl
def p_lis_cache_1 : SF := (ifS (orT (notT (testF (isiF ["tuple"] (varF 0)))) (notT (testF (chainF leK leK (cF (.int 1)) (blt lenK (consA (varF 0) nilA)) (cF (.int 60)))))) (retS (cF (.bl false))) (fun δ h => .nx δ h))
def p_lis_cache_2b_1 : SF := (ifS (orT (notT (testF (isiF ["tuple"] (varF 1)))) (orT (testF (bin2 (eqK true) (blt lenK (consA (varF 1) nilA)) (cF (.int 3)))) (notT (testF (isiF ["tuple"] (bin2 ixK (varF 1) (cF (.int 0)))))))) (retS (cF (.bl false))) (fun δ h => .nx δ h))
def p_lis_cache_2b_2 : SF := (ifS (orT (testF (bin2 (inK true) (blt lenK (consA (bin2 ixK (varF 1) (cF (.int 0))) nilA)) (tupF (consA (cF (.int 1)) (consA (cF (.int 2)) nilA))))) (testF (bin2 (eqK true) (blt lenK (consA (bin2 ixK (varF 1) (cF (.int 0))) nilA)) (blt lenK (consA (bin2 ixK (bin2 ixK (varF 0) (cF (.int 0))) (cF (.int 0))) nilA))))) (retS (cF (.bl false))) (fun δ h => .nx δ h))
def p_lis_cache_2b_3 : SF := (forS (itemsI (bin2 addK (bin2 ixK (varF 1) (cF (.int 0))) (tupF (consA (bin2 ixK (varF 1) (cF (.int 2))) nilA)))) (nameU 2) (ifS (orT (notT (testF (isiF ["int"] (varF 2)))) (orT (testF (isiF ["bool"] (varF 2))) (notT (testF (chainF leK ltK (cF (.int 0)) (varF 2) (blt lenK (consA (varF 0) nilA)))))))
    (retS (cF (.bl false)))
    (fun δ h => .nx δ h)))
def p_lis_cache_2b_4 : SF := (ifS (orT (testF (isiF ["bool"] (bin2 ixK (varF 1) (cF (.int 1))))) (testF (inRgF true (bin2 ixK (varF 1) (cF (.int 1))) (rg1F (blt lenK (consA (bin2 ixK (varF 1) (cF (.int 0))) nilA)))))) (retS (cF (.bl false))) (fun δ h => .nx δ h))
def p_lis_cache_2b : SF := (seqS p_lis_cache_2b_1 (seqS p_lis_cache_2b_2 (seqS p_lis_cache_2b_3 p_lis_cache_2b_4)))
def p_lis_cache_2 : SF := (forS (itemsI (varF 0)) (nameU 1) p_lis_cache_2b)
def p_lis_cache_3 : SF := (retS (cF (.bl true)))
def p_lis_cache : SF := (seqS p_lis_cache_1 (seqS p_lis_cache_2 p_lis_cache_3))
theorem sf__law_is_cache_eq : sf__law_is_cache = p_lis_cache := rfl
def p_ltwo_1 : SF := (endFrz 1 (ownS 1 (lcN (fun δ h => ((consA (callF (nArgs 2 F__law_any) (consA (varF 0) (consA (cF (.int 10)) nilA))) nilA) δ h).bind rg1K) [5] (nameU 5) yesF (callF (nArgs 2 F__law_any) (consA (varF 0) (consA (cF (.int 4)) nilA))))))
def p_ltwo_2 : SF := (ownS 2 (listN (consA (varF 1) nilA)))
def p_ltwo_3 : SF := (forS (fun δ h => ((consA (callF (nArgs 2 F__law_any) (consA (varF 0) (consA (cF (.int 3)) nilA))) nilA) δ h).bind rg1K) (nameU 3) (ifS (testF (bin2 (eqK true) (varF 1) (lstF nilA)))
    (setiS 2 (callF (nArgs 2 F__law_any) (consA (varF 0) (consA (blt lenK (consA (varF 1) nilA)) nilA))) (callF (nArgs 2 F__law_any) (consA (varF 0) (consA (cF (.int 5)) nilA))))
    (fun δ h => .nx δ h)))
def p_ltwo_4 : SF := (setS 4 (callF (nArgs 2 F__law_any) (consA (varF 0) (consA (cF (.int 3)) nilA))))
def p_ltwo_5 : SF := (frzS 2 (retS (tupF (consA (varF 1) (consA (valN (lcN (itemsI (varF 2)) [6] (nameU 6) yesF (bin2 addK (bin2 mulA (varF 6) (bin2 addK (cF (.int 1)) (varF 4))) (varF 4)))) nilA)))))
def p_ltwo : SF := (seqS p_ltwo_1 (seqS p_ltwo_2 (seqS p_ltwo_3 (seqS p_ltwo_4 p_ltwo_5))))
theorem sf__law_two_eq : sf__law_two = p_ltwo := rfl
def p_lcache_1 : SF := (asgS (tupU 3 (consU (nameU 1) (consU (nameU 2) (consU (nameU 3) nilU)))) (tupF (consA (bin2 addK (cF (.int 1)) (callF (nArgs 2 F__law_any) (consA (varF 0) (consA (cF (.int 3)) nilA)))) (consA (bin2 addK (cF (.int 1)) (callF (nArgs 2 F__law_any) (consA (varF 0) (consA (cF (.int 4)) nilA)))) (consA (callF (nArgs 2 F__law_any) (consA (varF 0) (consA (cF (.int 4)) nilA))) nilA)))))
def p_lcache_2 : SF := (ownS 4 (lstN nilA))
def p_lcache_3b_1 : SF := (setS 6 (blt tupK (consA (valN (lcN (fun δ h => ((consA (varF 1) nilA) δ h).bind rg1K) [7] (nameU 7) yesF (iteF (testF (bin2 gtK (varF 3) (cF (.int 0)))) (callF (nArgs 2 F__law_any) (consA (varF 0) (consA (varF 2) nilA))) (varF 5)))) nilA)))
def p_lcache_3b_2 : SF := (setS 7 (iteF (testF (bin2 ltK (varF 3) (cF (.int 2)))) (bin2 modK (varF 5) (varF 1)) (callF (nArgs 2 F__law_any) (consA (varF 0) (consA (varF 1) nilA)))))
def p_lcache_3b_3 : SF := (setS 8 (iteF (testF (bin2 ltK (varF 3) (cF (.int 3)))) (bin2 modK (bin2 addK (varF 5) (cF (.int 1))) (varF 2)) (callF (nArgs 2 F__law_any) (consA (varF 0) (consA (varF 2) nilA)))))
def p_lcache_3b_4 : SF := (appS 4 (tupF (consA (varF 6) (consA (varF 7) (consA (varF 8) nilA)))))
def p_lcache_3b : SF := (seqS p_lcache_3b_1 (seqS p_lcache_3b_2 (seqS p_lcache_3b_3 p_lcache_3b_4)))
def p_lcache_3 : SF := (forS (fun δ h => ((consA (varF 2) nilA) δ h).bind rg1K) (nameU 5) p_lcache_3b)
def p_lcache_4 : SF := (retS (blt tupK (consA (varF 4) nilA)))
def p_lcache : SF := (seqS p_lcache_1 (seqS p_lcache_2 (seqS p_lcache_3 p_lcache_4)))
theorem sf__law_cache_eq : sf__law_cache = p_lcache := rfl
def p_law_1 : SF := (setS 1 (callF (nArgs 2 F__law_draw) (consA (varF 0) (consA (cF (.int 46)) nilA))))
def p_law_2 : SF := (ifS (orT (testF (bin2 (eqK true) (callKwF 1 [0] F_row_pattern (consA (lstF (consA (cF (.int 5)) (consA (cF (.int 2)) (consA (cF (.int 5)) nilA)))) nilA)) (tupF (consA (cF (.int 0)) (consA (cF (.int 1)) (consA (cF (.int 0)) nilA)))))) (testF (bin2 notNK (callKwF 2 [0, 1] F_parting_cache (consA (lstF nilA) (consA (tupF nilA) nilA))) (cF .non)))) (retS (cF (.bl false))) (fun δ h => .nx δ h))
def p_law_3b_1 : SF := (asgS (tupU 2 (consU (nameU 3) (consU (nameU 4) nilU))) (callF (nArgs 1 F__law_two) (consA (varF 1) nilA)))
def p_law_3b_2 : SF := (parS [5, 6] (consX (callF (nArgs 2 F_parting_cache) (consA (varF 3) (consA (blt tupK (consA (varF 4) nilA)) nilA))) (consX (bin2 (eqK false) (callF (nArgs 1 F__law_pattern) (consA (varF 3) nilA)) (callF (nArgs 1 F__law_pattern) (consA (varF 4) nilA))) nilX)))
def p_law_3b_3 : SF := (ifS (orT (testF (bin2 (eqK true) (callF (nArgs 1 F_row_pattern) (consA (varF 3) nilA)) (callF (nArgs 1 F__law_pattern) (consA (varF 3) nilA)))) (testF (bin2 (eqK true) (bin2 isNK (varF 5) (cF .non)) (varF 6)))) (retS (cF (.bl false))) (fun δ h => .nx δ h))
def p_law_3b_4t_1 : SF := (setS 7 (callF (nArgs 1 F__law_cache) (consA (varF 1) nilA)))
def p_law_3b_4t_2 : SF := (ifS (testF (bin2 (eqK true) (bin2 ixK (callF (nArgs 2 F__law_walk) (consA (varF 7) (consA (varF 3) nilA))) (cF (.int 0))) (bin2 ixK (callF (nArgs 2 F__law_walk) (consA (varF 7) (consA (varF 4) nilA))) (cF (.int 0))))) (retS (cF (.bl false))) (fun δ h => .nx δ h))
def p_law_3b_4t : SF := (seqS p_law_3b_4t_1 p_law_3b_4t_2)
def p_law_3b_4 : SF := (ifS (testF (varF 6)) p_law_3b_4t (ifS (orT (notT (testF (callF (nArgs 1 F__law_is_cache) (consA (varF 5) nilA)))) (testF (bin2 (eqK false) (bin2 ixK (callF (nArgs 2 F__law_walk) (consA (varF 5) (consA (varF 3) nilA))) (cF (.int 0))) (bin2 ixK (callF (nArgs 2 F__law_walk) (consA (varF 5) (consA (varF 4) nilA))) (cF (.int 0))))))
    (retS (cF (.bl false)))
    (fun δ h => .nx δ h)))
def p_law_3b_5 : SF := (asgS (tupU 2 (consU (nameU 8) (consU (nameU 9) nilU))) (callF (nArgs 1 F__law_wrong_row) (consA (varF 1) nilA)))
def p_law_3b_6 : SF := (ifS (testF (bin2 (eqK true) (fun δ h => ((cF (.lam 0)) δ h).bind fun d h1 => heardF bod_law N__law_tried.length sf__law_tried δ d h1) (tupF (consA (cF (.str "index")) (consA (varF 9) nilA))))) (retS (cF (.bl false))) (fun δ h => .nx δ h))
def p_law_3b_7 : SF := (ifS (testF (bin2 (eqK true) (fun δ h => ((cF (.lam 1)) δ h).bind fun d h1 => heardF bod_law N__law_tried.length sf__law_tried δ d h1) (tupF (consA (cF (.str "index")) (consA (varF 9) nilA))))) (retS (cF (.bl false))) (fun δ h => .nx δ h))
def p_law_3b_8 : SF := (ifS (testF (bin2 (eqK true) (fun δ h => ((cF (.lam 2)) δ h).bind fun d h1 => heardF bod_law N__law_tried.length sf__law_tried δ d h1) (tupF (consA (cF (.str "index")) (consA (varF 9) nilA))))) (retS (cF (.bl false))) (fun δ h => .nx δ h))
def p_law_3b_9 : SF := (ifS (testF (bin2 (eqK true) (fun δ h => ((cF (.lam 3)) δ h).bind fun d h1 => heardF bod_law N__law_tried.length sf__law_tried δ d h1) (tupF (consA (cF (.str "size")) (consA (cF (.str "rows")) nilA))))) (retS (cF (.bl false))) (fun δ h => .nx δ h))
def p_law_3b_10 : SF := (ifS (testF (bin2 (eqK true) (fun δ h => ((cF (.lam 4)) δ h).bind fun d h1 => heardF bod_law N__law_tried.length sf__law_tried δ d h1) (tupF (consA (cF (.str "size")) (consA (cF (.str "rows")) nilA))))) (retS (cF (.bl false))) (fun δ h => .nx δ h))
def p_law_3b : SF := (seqS p_law_3b_1 (seqS p_law_3b_2 (seqS p_law_3b_3 (seqS p_law_3b_4 (seqS p_law_3b_5 (seqS p_law_3b_6 (seqS p_law_3b_7 (seqS p_law_3b_8 (seqS p_law_3b_9 p_law_3b_10)))))))))
def p_law_3 : SF := (forS (fun δ h => ((consA (cF (.int 3)) nilA) δ h).bind rg1K) (nameU 2) p_law_3b)
def p_law_4 : SF := (retS (cF (.bl true)))
def p_law : SF := (seqS p_law_1 (seqS p_law_2 (seqS p_law_3 p_law_4)))
theorem sf_law_eq : sf_law = p_law := rfl
end LP
/-! K46a: the deal. -/
namespace LP
open PySem PySem.Spec PyProof.Rows L2 HT
theorem rgD_length {n : Nat} : (rgD 0 (n : Int)).length = n := by simp [rgD]
@[simp] theorem vw_ptr {δ : DE} {h : Bx} {n : Nat} : vw δ h (.ptr n) = (match h[n]? with | some ds => .lst ds | none => .ptr n) := pr rfl
theorem atI_last {α : Type} {xs : List α} : atI xs (-1) = xs.getLast? := by
  unfold atI ixN
  rw [List.getLast?_eq_getElem?]
  by_cases h : xs = []
  · subst h; rfl
  · have : 0 < xs.length := List.length_pos_iff.mpr h
    simp
    rw [if_pos (by omega)]
    simp
    congr 1
    omega
/-- numbers of the script -/
def zsD (l : List Int) : List D := l.map .int
theorem zs_pures (l : List Int) : D.pures (zsD l) = true := pures_all fun d hd => by obtain ⟨i, _, rfl⟩ := List.mem_map.mp hd; rfl
theorem zs_deps (l : List Int) : D.deps (zsD l) = 0 := by
  have := deps_le (n := 0) (a := zsD l) fun d hd => by obtain ⟨i, _, rfl⟩ := List.mem_map.mp hd; simp
  omega
theorem eqs_nil_r {ds : List D} : D.eqs ds [] = ds.isEmpty := by cases ds <;> simp
/-- the deal: numbers that are left, and the blend -/
def Dl (h : Bx) : Prop := ∃ (xs : List Int) (b : Int), h = [zsD xs, [.ptr 0, .int b]] ∧ xs.length ≤ 48
def an_test : DE → Bx → R Bool := (andT (testF (bin2 (eqK true) (bin2 ixK (varF 0) (cF (.int 0))) (lstF nilA))) (testF (bin2 (eqK false) (bin2 ixK (bin2 ixK (varF 0) (cF (.int 0))) (negF (cF (.int 1)))) (cF (.int 0)))))
def an_body : SF := (exprS (popF (bin2 ixK (varF 0) (cF (.int 0)))))
theorem strip {m : D} {b : Int} : ∀ (n : Nat) (xs : List Int), xs.length < n → ∃ ys : List Int, ys.length ≤ xs.length ∧ whileF an_test an_body n [.v (.ptr 1), .v m, .no] [zsD xs, [.ptr 0, .int b]] = .nx [.v (.ptr 1), .v m, .no] [zsD ys, [.ptr 0, .int b]]
  | 0, _, h => absurd h (Nat.not_lt_zero _)
  | n + 1, xs, h => by
    have pu := zs_pures xs
    have dp := zs_deps xs
    by_cases e : xs = []
    · subst e
      refine ⟨[], Nat.le_refl _, ?_⟩
      rw [whileF_end (h1 := [zsD [], [.ptr 0, .int b]]) (by simp (decide := true) [an_test, zsD])]
    · have hz : (zsD xs).isEmpty = false := by cases xs <;> first | exact absurd rfl e | rfl
      obtain ⟨ini, z, rfl⟩ : ∃ ini z, xs = ini ++ [z] := ⟨xs.dropLast, xs.getLast e, (List.dropLast_concat_getLast e).symm⟩
      have la : (zsD (ini ++ [z])).getLast? = some (.int z) := by simp [zsD]
      have dr : (zsD (ini ++ [z])).dropLast = zsD ini := by simp [zsD]
      by_cases z0 : z = 0
      · subst z0
        obtain ⟨ys, y1, y2⟩ := strip (m := m) (b := b) n ini (by simp at h; omega)
        refine ⟨ys, by simp; omega, ?_⟩
        rw [whileF_nx (δ2 := [.v (.ptr 1), .v m, .no]) (h1 := [zsD (ini ++ [0]), [.ptr 0, .int b]]) (h2 := [zsD ini, [.ptr 0, .int b]]) ?_ ?_, y2]
        · simp (decide := true) [an_test, pu, dp, eqs_nil_r, hz, atI_last, la]
        · simp (decide := true) [an_body, la, dr]
      · refine ⟨ini ++ [z], Nat.le_refl _, ?_⟩
        rw [whileF_end (h1 := [zsD (ini ++ [z]), [.ptr 0, .int b]]) (by simp (decide := true) [an_test, pu, dp, eqs_nil_r, hz, atI_last, la, z0, bOf])]
theorem any_ok {h : Bx} (B : Dl h) {m : Nat} (h0 : 0 < m) (h1 : m < 1073741824) : ∃ (x : Nat) (h' : Bx), x < m ∧ F__law_any [.ptr 1, .int m] h = .ok (.int x) h' ∧ Dl h' := by
  obtain ⟨xs, b, rfl, hl⟩ := B
  have g0 : (0 : Int) < m := by omega
  have g1 : (m : Int) < 1073741824 := by omega
  suffices ∃ (x : Int) (h' : Bx), 0 ≤ x ∧ x < m ∧ F__law_any [.ptr 1, .int m] [zsD xs, [.ptr 0, .int b]] = .ok (.int x) h' ∧ Dl h' by
    obtain ⟨x, h', x0, x1, e, B⟩ := this
    refine ⟨x.toNat, h', by omega, ?_, B⟩
    rw [e, Int.toNat_of_nonneg x0]
  have st : startD N__law_any.length [.ptr 1, .int m] = [.v (.ptr 1), .v (.int m), .no] := rfl
  obtain ⟨ys, y1, y2⟩ := strip (m := .int m) (b := b) wf xs (by unfold wf; omega)
  have s1 : p_lany_1 [.v (.ptr 1), .v (.int m), .no] [zsD xs, [.ptr 0, .int b]] = .nx [.v (.ptr 1), .v (.int m), .no] [zsD ys, [.ptr 0, .int b]] := y2
  rw [F__law_any, runF_ap, sf__law_any_eq, p_lany, st, seq_nx s1]
  have pu := zs_pures ys
  have dp := zs_deps ys
  by_cases e : ys = []
  · subst e
    have c := Int.emod_nonneg (a := (b * 40693 + 71) % 2147483647 / 64) (b := (m : Int)) (by omega)
    have c2 := Int.emod_lt_of_pos ((b * 40693 + 71) % 2147483647 / 64) g0
    refine ⟨(b * 40693 + 71) % 2147483647 / 64 % m, _, c, c2, ?_, [], (b * 40693 + 71) % 2147483647, rfl, Nat.zero_le _⟩
    rw [seq_nx (δ' := [.v (.ptr 1), .v (.int m), .no]) (h' := [zsD [], [.ptr 0, .int b]]) (by simp (decide := true) [p_lany_2, zsD])]
    rw [seq_nx (δ' := [.v (.ptr 1), .v (.int m), .no]) (h' := [zsD [], [.ptr 0, .int ((b * 40693 + 71) % 2147483647)]]) (by simp (decide := true) [p_lany_3, zsD])]
    simp (decide := true) [p_lany_4, zsD, g0, g1, h0, h1]
  · have hz : (zsD ys).isEmpty = false := by cases ys <;> first | exact absurd rfl e | rfl
    obtain ⟨ini, z, rfl⟩ : ∃ ini z, ys = ini ++ [z] := ⟨ys.dropLast, ys.getLast e, (List.dropLast_concat_getLast e).symm⟩
    have la : (zsD (ini ++ [z])).getLast? = some (.int z) := by simp [zsD]
    have dr : (zsD (ini ++ [z])).dropLast = zsD ini := by simp [zsD]
    have lz : (zsD ini).length < 1000000 := by simp [zsD]; simp at y1; omega
    refine ⟨z % m, [zsD (ini ++ [z / m]), [.ptr 0, .int b]], Int.emod_nonneg _ (by omega), Int.emod_lt_of_pos _ g0, ?_, ini ++ [z / m], b, rfl, by simp at y1 ⊢; omega⟩
    rw [seq_rt (d := .int (z % m)) (h' := [zsD (ini ++ [z / m]), [.ptr 0, .int b]]) ?_]
    · rfl
    · have s2 : p_lany_2t [.v (.ptr 1), .v (.int m), .no] [zsD (ini ++ [z]), [.ptr 0, .int b]] = .rt (.int (z % m)) [zsD (ini ++ [z / m]), [.ptr 0, .int b]] := by
        rw [p_lany_2t, seq_nx (δ' := [.v (.ptr 1), .v (.int m), .v (.int z)]) (h' := [zsD ini, [.ptr 0, .int b]]) (by simp (decide := true) [p_lany_2t_1, la, dr])]
        rw [seq_nx (δ' := [.v (.ptr 1), .v (.int m), .v (.int z)]) (h' := [zsD (ini ++ [z / m]), [.ptr 0, .int b]]) (by simp (decide := true) [p_lany_2t_2, lz, g0, g1, h0, h1]; simp [zsD])]
        simp (decide := true) [p_lany_2t_3, g0, g1, h0, h1]
      rw [p_lany_2, ifS_ap]
      simp (decide := true) [pu, dp, eqs_nil_r, hz, s2]
end LP
/-! K46b: patterns. -/
namespace LP
open PySem PySem.Spec PyProof.Rows L2 HT
/-! ### plain -/
def firsts : List Nat → List Nat → List Nat
  | acc, [] => acc
  | acc, x :: l => if x ∈ acc then firsts acc l else firsts (acc ++ [x]) l
/-- those that are new, p ahead of them -/
def unl : List Nat → List Nat → List Nat
  | _, [] => []
  | p, x :: s => if x ∈ p then unl (p ++ [x]) s else x :: unl (p ++ [x]) s
theorem unl_firsts : ∀ (s acc p : List Nat), (∀ y, y ∈ acc ↔ y ∈ p) → firsts acc s = acc ++ unl p s
  | [], acc, p, _ => by simp [firsts, unl]
  | x :: s, acc, p, h => by
    unfold firsts unl
    by_cases hx : x ∈ acc
    · rw [if_pos hx, if_pos ((h x).mp hx)]
      exact unl_firsts s acc (p ++ [x]) fun y => by
        rw [List.mem_append, List.mem_singleton]
        exact ⟨fun z => .inl ((h y).mp z), fun z => z.elim (h y).mpr fun e => e ▸ hx⟩
    · rw [if_neg hx, if_neg fun z => hx ((h x).mpr z)]
      rw [unl_firsts s (acc ++ [x]) (p ++ [x]) fun y => by rw [List.mem_append, List.mem_append, h y]]
      simp
theorem firsts_mem : ∀ (l acc : List Nat) (y : Nat), y ∈ firsts acc l ↔ y ∈ acc ∨ y ∈ l
  | [], acc, y => by simp [firsts]
  | x :: l, acc, y => by
    unfold firsts
    split
    · rename_i hx
      rw [firsts_mem l acc y, List.mem_cons]
      exact ⟨fun z => z.elim .inl fun w => .inr (.inr w), fun z => z.elim .inl fun w => w.elim (fun e => .inl (e ▸ hx)) .inr⟩
    · rw [firsts_mem l _ y, List.mem_append, List.mem_singleton, List.mem_cons]
      exact ⟨fun z => z.elim (fun w => w.elim .inl fun e => .inr (.inl e)) fun w => .inr (.inr w), fun z => z.elim (fun w => .inl (.inl w)) fun w => w.elim (fun e => .inl (.inr e)) .inr⟩
theorem firsts_nodup : ∀ (l acc : List Nat), acc.Nodup → (firsts acc l).Nodup
  | [], _, h => h
  | x :: l, acc, h => by
    unfold firsts
    split
    · exact firsts_nodup l acc h
    · rename_i hx
      refine firsts_nodup l _ ?_
      rw [List.nodup_append]
      refine ⟨h, by simp, fun a ha b hb => ?_⟩
      have hb : b = x := by simpa using hb
      rw [hb]
      exact fun e => hx (e ▸ ha)
theorem firsts_len : ∀ (l acc : List Nat), (firsts acc l).length ≤ acc.length + l.length
  | [], _ => Nat.le_refl _
  | x :: l, acc => by
    unfold firsts
    split
    · have := firsts_len l acc; simp only [List.length_cons]; omega
    · have := firsts_len l (acc ++ [x]); simp only [List.length_append, List.length_cons, List.length_nil] at this ⊢; omega
def pat (l : List Nat) : List Nat := l.map fun x => (firsts [] l).idxOf x
theorem pat_len (l : List Nat) : (pat l).length = l.length := by simp [pat]
/-! ### as data -/
theorem any_nsD {l : List Nat} {x : Nat} : ((nsD l).any fun z => D.eq z (.int x)) = decide (x ∈ l) := by
  induction l with
  | nil => simp [nsD]
  | cons a l ih =>
    have : nsD (a :: l) = .int a :: nsD l := rfl
    rw [this, List.any_cons, ih, eq_int]
    have e : ((a : Int) = x) = (x = a) := by rw [eq_iff_iff]; omega
    simp only [e, List.mem_cons]
    rw [Bool.or_eq_decide]
    simp
theorem idx_nsD {l : List Nat} {x : Nat} (h : x ∈ l) : ((nsD l).findIdx? fun z => D.eq z (.int x)) = some (l.idxOf x) := by
  induction l with
  | nil => simp at h
  | cons a l ih =>
    have : nsD (a :: l) = .int a :: nsD l := rfl
    rw [this, List.findIdx?_cons, eq_int, List.idxOf_cons]
    by_cases e : a = x
    · subst e; simp
    · have e' : ¬ (a : Int) = x := by omega
      have hx : x ∈ l := by
        rcases List.mem_cons.mp h with z | z
        · exact absurd z.symm e
        · exact z
      have e2 : (a == x) = false := by simpa using e
      rw [ih hx]
      simp [e, e', e2]
theorem nsD_take {l : List Nat} {k : Nat} : (nsD l).take k = nsD (l.take k) := by unfold nsD; rw [List.map_take]
/-- enumerate, from k on -/
def epairs : Nat → List Nat → List D
  | _, [] => []
  | k, x :: s => .tup [.int k, .int x] :: epairs (k + 1) s
theorem enum_nsD (l : List Nat) : enumD (nsD l) = epairs 0 l := by
  have key : ∀ (s p : List Nat), (List.range' p.length s.length).map (fun i => D.tup [.int (i : Nat), (nsD (p ++ s)).getD i .non]) = epairs p.length s := fun s => by
    induction s with
    | nil => intro p; rfl
    | cons x s ih =>
      intro p
      rw [List.length_cons, List.range'_succ, List.map_cons, epairs]
      have e1 : (nsD (p ++ x :: s)).getD p.length .non = .int x := by simp [nsD, nD]
      rw [e1]
      congr 1
      have := ih (p ++ [x])
      rw [List.length_append, List.length_singleton, List.append_assoc] at this
      exact this
  have := key l []
  unfold enumD
  rw [nsD_length, List.range_eq_range']
  exact this
theorem ns_deps (l : List Nat) : D.deps (nsD l) = 0 := by simp
/-! ### the look at a row -/
theorem isnum_nat {n : Nat} {h : Bx} : F_is_number [.int n] h = .ok (.bl true) h := by
  have : (0 : Int) ≤ n := by omega
  simp (decide := true) [F_is_number, runF_ap, sf_is_number, F_is_integer, sf_is_integer, startD, this]
theorem acc_loop {h : Bx} : ∀ (s : List Nat) (k : Nat) (a0 a1 a2 : SV), ∃ b1 b2, forF (tupU 2 (consU (nameU 1) (consU (nameU 2) nilU))) (ifS (notT (testF (callF (nArgs 1 F_is_number) (consA (varF 2) nilA)))) (raiseS "InvalidIndex" "at" (varF 1)) (fun δ h => .nx δ h)) (epairs k s) [a0, a1, a2] h = .nx [a0, b1, b2] h
  | [], k, a0, a1, a2 => ⟨a1, a2, rfl⟩
  | x :: s, k, a0, a1, a2 => by
    obtain ⟨b1, b2, e⟩ := acc_loop (h := h) s (k + 1) a0 (.v (.int k)) (.v (.int x))
    refine ⟨b1, b2, ?_⟩
    rw [epairs, forF_nx (δ1 := [a0, .v (.int k), .v (.int x)]) (δ2 := [a0, .v (.int k), .v (.int x)]) (h2 := h) rfl (by simp [isnum_nat]), e]
/-- a list or a tuple of numbers -/
def IsRow (d : D) (l : List Nat) : Prop := d = .lst (nsD l) ∨ d = .tup (nsD l)
theorem acc_ok {d : D} {l : List Nat} (r : IsRow d l) (h : Bx) : F_need_accesses [d] h = .ok (.tup (nsD l)) h := by
  have st : ∀ d : D, startD N_need_accesses.length [d] = [.v d, .no, .no] := fun _ => rfl
  obtain ⟨b1, b2, e⟩ := acc_loop (h := h) l 0 (.v d) .no .no
  rw [F_need_accesses, runF_ap, sf_need_accesses_eq, p_need_accesses, st]
  have sq : F_is_sequence [d] h = .ok (.bl true) h := by rcases r with rfl | rfl <;> simp (decide := true) [F_is_sequence, runF_ap, sf_is_sequence, startD]
  rw [seq_nx (δ' := [.v d, .no, .no]) (h' := h) (by rcases r with rfl | rfl <;> simp (decide := true) [p_need_accesses_1, sq])]
  rw [seq_nx (δ' := [.v d, b1, b2]) (h' := h) ?_]
  · rcases r with rfl | rfl <;> simp [p_need_accesses_3]
  · rw [p_need_accesses_2, forS_ap]
    have it : ((consA (varF 0) nilA) [.v d, .no, .no] h).bind (fun ds h1 => enumK ds [.v d, .no, .no] h1) = .ok (epairs 0 l) h := by rcases r with rfl | rfl <;> simp [enum_nsD]
    rw [it, R.toS_ok, e]
theorem new_comp {h : Bx} {l : List Nat} {a1 : SV} (hz : l.length ≤ 1000) : ∀ (s p : List Nat), l = p ++ s → compF (tupU 2 (consU (nameU 2) (consU (nameU 3) nilU))) (testF (bin2 (inK true) (varF 3) (slF (varF 0) noO (someO (varF 2))))) (varF 3) [.v (.tup (nsD l)), a1, .no, .no] (epairs p.length s) h = .ok (nsD (unl p s)) h
  | [], p, _ => rfl
  | x :: s, p, e => by
    have ih := new_comp (h := h) (a1 := a1) hz s (p ++ [x]) (by rw [e]; simp)
    rw [List.length_append, List.length_singleton] at ih
    have ct : cutD (nsD l) none (some (p.length : Int)) = nsD p := by
      rw [cutD_to (by omega), Int.toNat_natCast, nsD_take, e]; simp
    rw [epairs, compF, unl]
    have u : (tupU 2 (consU (nameU 2) (consU (nameU 3) nilU))) (.tup [.int p.length, .int x]) [.v (.tup (nsD l)), a1, .no, .no] = some [.v (.tup (nsD l)), a1, .v (.int p.length), .v (.int x)] := rfl
    rw [u]
    by_cases hx : x ∈ p
    · rw [if_pos hx]
      simp [ct, any_nsD, hx, ih, quiet, bOf]
    · rw [if_neg hx]
      simp [ct, any_nsD, hx, ih, quiet, bOf]
      rfl
end LP
/-! K46c: patterns, by the program and by the law. -/
namespace LP
open PySem PySem.Spec PyProof.Rows L2 HT
theorem pat_mem {l : List Nat} {x : Nat} (h : x ∈ l) : x ∈ firsts [] l := (firsts_mem l [] x).mpr (.inr h)
theorem fs_len (l : List Nat) : (firsts [] l).length ≤ l.length := by have := firsts_len l []; simpa using this
theorem rowpat_ok {d : D} {l : List Nat} (r : IsRow d l) (hz : l.length ≤ 1000) (h : Bx) : F_row_pattern [d] h = .ok (.tup (nsD (pat l))) h := by
  have st : startD N_row_pattern.length [d] = [.v d, .no, .no, .no] := rfl
  have a := acc_ok r h
  have vd : isV d = true := by rcases r with rfl | rfl <;> rfl
  have u0 : unl [] l = firsts [] l := by
    have := unl_firsts l [] [] (fun y => Iff.rfl)
    rw [this]; rfl
  have n := new_comp (h := h) (a1 := .no) hz l [] rfl
  rw [u0] at n
  rw [F_row_pattern, runF_ap, sf_row_pattern_eq, p_row_pattern, st]
  rw [seq_nx (δ' := [.v (.tup (nsD l)), .no, .no, .no]) (h' := h) (by simp [p_row_pattern_1, a, vd])]
  have zl : (enumD (nsD l)).length ≤ 1000000 := by simp [enumD]; omega
  rw [seq_nx (δ' := [.v (.tup (nsD l)), .v (.lst (nsD (firsts [] l))), .no, .no]) (h' := h) ?_]
  · have c := compF_map (u := nameU 3) (ef := idxF (varF 1) (varF 3)) (δ := [.v (.tup (nsD l)), .v (.lst (nsD (firsts [] l))), .no, .no]) (h := h) (g := fun d => match d with | .int x => .int ((firsts [] l).idxOf x.toNat : Nat) | x => x) (ds := nsD l) fun d hd => by
      obtain ⟨x, hx, rfl⟩ := List.mem_map.mp hd
      refine ⟨_, rfl, ?_, rfl⟩
      have i := idx_nsD (pat_mem hx)
      simp [nD, idxK, i]
    have cm : (nsD l).map (fun d => match d with | .int x => D.int ((firsts [] l).idxOf x.toNat : Nat) | x => x) = nsD (pat l) := by
      unfold nsD pat
      rw [List.map_map, List.map_map]
      refine List.map_congr_left fun x _ => ?_
      simp [nD]
    rw [cm] at c
    have zz : l.length ≤ 1000000 := by omega
    simp [p_row_pattern_3, c, zz]
  · have it : ((consA (varF 0) nilA) [.v (.tup (nsD l)), .no, .no, .no] h).bind (fun ds h1 => enumK ds [.v (.tup (nsD l)), .no, .no, .no] h1) = .ok (enumD (nsD l)) h := by simp
    have w : wipeD [.v (.tup (nsD l)), .no, .no, .no] [2, 3] = [.v (.tup (nsD l)), .no, .no, .no] := rfl
    have en := enum_nsD l
    rw [p_row_pattern_2, setS_ap, valN_ap, lcN_ap, it, R.bind_ok, if_pos zl, w, en]
    have n' : compF (tupU 2 (consU (nameU 2) (consU (nameU 3) nilU))) (testF (bin2 (inK true) (varF 3) (slF (varF 0) noO (someO (varF 2))))) (varF 3) [.v (.tup (nsD l)), .no, .no, .no] (epairs 0 l) h = .ok (nsD (firsts [] l)) h := n
    rw [n']
    rfl
theorem lpat_loop {h : Bx} {a0 : SV} : ∀ (l acc : List Nat) (a2 : SV), acc.length + l.length ≤ 1000 → ∃ b2, forF (nameU 2) (setS 1 (bin2 addK (varF 1) (iteF (testF (bin2 (inK true) (varF 2) (varF 1))) (lstF (consA (varF 2) nilA)) (lstF nilA)))) (nsD l) [a0, .v (.lst (nsD acc)), a2] h = .nx [a0, .v (.lst (nsD (firsts acc l))), b2] h
  | [], acc, a2, _ => ⟨a2, rfl⟩
  | x :: l, acc, a2, z => by
    have z' : acc.length + (l.length + 1) ≤ 1000 := z
    have e0 : nsD (x :: l) = .int x :: nsD l := rfl
    by_cases hx : x ∈ acc
    · obtain ⟨b2, e⟩ := lpat_loop (h := h) (a0 := a0) l acc (.v (.int x)) (by omega)
      refine ⟨b2, ?_⟩
      have z1 : acc.length ≤ 1000000 := by omega
      rw [e0, firsts, if_pos hx, forF_nx (δ1 := [a0, .v (.lst (nsD acc)), .v (.int x)]) (δ2 := [a0, .v (.lst (nsD acc)), .v (.int x)]) (h2 := h) rfl (by simp [any_nsD, hx, bOf, z1]), e]
    · obtain ⟨b2, e⟩ := lpat_loop (h := h) (a0 := a0) l (acc ++ [x]) (.v (.int x)) (by simp; omega)
      refine ⟨b2, ?_⟩
      have z1 : acc.length + 1 ≤ 1000000 := by omega
      have ap : nsD acc ++ [.int x] = nsD (acc ++ [x]) := by simp [nsD, nD]
      rw [e0, firsts, if_neg hx, forF_nx (δ1 := [a0, .v (.lst (nsD acc)), .v (.int x)]) (δ2 := [a0, .v (.lst (nsD (acc ++ [x]))), .v (.int x)]) (h2 := h) rfl (by simp [any_nsD, hx, bOf, z1, ap]), e]
theorem lpat_ok {l : List Nat} (hz : l.length ≤ 1000) (h : Bx) : F__law_pattern [.lst (nsD l)] h = .ok (.tup (nsD (pat l))) h := by
  have st : startD N__law_pattern.length [.lst (nsD l)] = [.v (.lst (nsD l)), .no, .no] := rfl
  obtain ⟨b2, e⟩ := lpat_loop (h := h) (a0 := .v (.lst (nsD l))) l [] .no (by simpa using hz)
  rw [F__law_pattern, runF_ap, sf__law_pattern_eq, p_lpattern, st]
  rw [seq_nx (δ' := [.v (.lst (nsD l)), .v (.lst (nsD [])), .no]) (h' := h) (by simp [p_lpattern_1, nsD])]
  rw [seq_nx (δ' := [.v (.lst (nsD l)), .v (.lst (nsD (firsts [] l))), b2]) (h' := h) ?_]
  · have c := compF_map (u := nameU 2) (ef := idxF (varF 1) (varF 2)) (δ := [.v (.lst (nsD l)), .v (.lst (nsD (firsts [] l))), .no]) (h := h) (g := fun d => match d with | .int x => .int ((firsts [] l).idxOf x.toNat : Nat) | x => x) (ds := nsD l) fun d hd => by
      obtain ⟨x, hx, rfl⟩ := List.mem_map.mp hd
      refine ⟨_, rfl, ?_, rfl⟩
      have i := idx_nsD (pat_mem hx)
      simp [nD, idxK, i]
    have cm : (nsD l).map (fun d => match d with | .int x => D.int ((firsts [] l).idxOf x.toNat : Nat) | x => x) = nsD (pat l) := by
      unfold nsD pat
      rw [List.map_map, List.map_map]
      refine List.map_congr_left fun x _ => ?_
      simp [nD]
    rw [cm] at c
    have zz : l.length ≤ 1000000 := by omega
    simp [p_lpattern_3, c, zz]
  · rw [p_lpattern_2, forS_ap]
    have it : itemsI (varF 0) [.v (.lst (nsD l)), .v (.lst (nsD [])), .no] h = .ok (nsD l) h := by simp
    rw [it, R.toS_ok, e]
/-! ### what patterns tell -/
theorem idxOf_inj {fs : List Nat} {x y : Nat} (hx : x ∈ fs) (hy : y ∈ fs) : fs.idxOf x = fs.idxOf y ↔ x = y := by
  refine ⟨fun e => ?_, fun e => by rw [e]⟩
  have h1 := List.getElem_idxOf (List.idxOf_lt_length_of_mem hx)
  have h2 := List.getElem_idxOf (List.idxOf_lt_length_of_mem hy)
  rw [← h1, ← h2]
  congr 1
theorem pat_at {l : List Nat} {i : Nat} (h : i < l.length) : (pat l)[i]'(by rw [pat_len]; exact h) = (firsts [] l).idxOf l[i] := by simp [pat]
theorem pat_same {l : List Nat} {i j : Nat} (hi : i < l.length) (hj : j < l.length) : (pat l)[i]'(by rw [pat_len]; exact hi) = (pat l)[j]'(by rw [pat_len]; exact hj) ↔ l[i] = l[j] := by
  rw [pat_at hi, pat_at hj]
  exact idxOf_inj (pat_mem (List.getElem_mem hi)) (pat_mem (List.getElem_mem hj))
end LP
/-! K46d: what patterns are like; the told cache. -/
namespace LP
open PySem PySem.Spec PyProof.Rows L2 HT
theorem firsts_app : ∀ (a acc b : List Nat), firsts acc (a ++ b) = firsts (firsts acc a) b
  | [], _, _ => rfl
  | x :: a, acc, b => by
    rw [List.cons_append, firsts, firsts]
    split
    · exact firsts_app a acc b
    · exact firsts_app a _ b
theorem firsts_pre : ∀ (s acc : List Nat), ∃ t, firsts acc s = acc ++ t
  | [], acc => ⟨[], by simp [firsts]⟩
  | x :: s, acc => by
    unfold firsts
    split
    · exact firsts_pre s acc
    · obtain ⟨t, e⟩ := firsts_pre s (acc ++ [x])
      exact ⟨x :: t, by rw [e]; simp⟩
theorem firsts_map {f : Nat → Nat} : ∀ (s acc : List Nat), (∀ x ∈ acc ++ s, ∀ y ∈ acc ++ s, f x = f y → x = y) → firsts (acc.map f) (s.map f) = (firsts acc s).map f
  | [], _, _ => rfl
  | x :: s, acc, h => by
    have m : f x ∈ acc.map f ↔ x ∈ acc := by
      refine ⟨fun z => ?_, fun z => List.mem_map_of_mem z⟩
      obtain ⟨y, hy, e⟩ := List.mem_map.mp z
      have := h y (List.mem_append_left _ hy) x (List.mem_append_right _ (List.mem_cons_self ..)) e
      exact this ▸ hy
    rw [List.map_cons, firsts, firsts]
    by_cases hx : x ∈ acc
    · rw [if_pos hx, if_pos (m.mpr hx)]
      exact firsts_map s acc fun a ha b hb => h a (by simp only [List.mem_append, List.mem_cons] at ha ⊢; rcases ha with z | z <;> simp [z]) b (by simp only [List.mem_append, List.mem_cons] at hb ⊢; rcases hb with z | z <;> simp [z])
    · rw [if_neg hx, if_neg fun z => hx (m.mp z)]
      have e : acc.map f ++ [f x] = (acc ++ [x]).map f := by simp
      rw [e]
      exact firsts_map s (acc ++ [x]) fun a ha b hb => h a (by simpa using ha) b (by simpa using hb)
/-- a new one is the number of those ahead of it -/
theorem pat_new {l : List Nat} {i : Nat} (hi : i < (pat l).length) (hn : (pat l)[i] ∉ (pat l).take i) : (pat l)[i] = (firsts [] ((pat l).take i)).length := by
  have hl : i < l.length := by rw [pat_len] at hi; exact hi
  have nl : l[i] ∉ l.take i := fun z => by
    obtain ⟨j, hj, e⟩ := List.mem_iff_getElem.mp z
    rw [List.length_take] at hj
    rw [List.getElem_take] at e
    refine hn (List.mem_iff_getElem.mpr ⟨j, by rw [List.length_take, pat_len]; omega, ?_⟩)
    rw [List.getElem_take]
    exact (pat_same (by omega) hl).mpr e
  have e1 : (pat l).take i = (l.take i).map fun x => (firsts [] l).idxOf x := by rw [pat, List.map_take]
  have e2 : (firsts [] ((pat l).take i)).length = (firsts [] (l.take i)).length := by
    rw [e1]
    have := firsts_map (f := fun x => (firsts [] l).idxOf x) (l.take i) [] fun x hx y hy e => by
      rw [List.nil_append] at hx hy
      exact (idxOf_inj (pat_mem (List.mem_of_mem_take hx)) (pat_mem (List.mem_of_mem_take hy))).mp e
    rw [List.map_nil] at this
    rw [this, List.length_map]
  rw [e2, pat_at hl]
  have sp : l = l.take i ++ l[i] :: l.drop (i + 1) := by rw [← List.drop_eq_getElem_cons hl, List.take_append_drop]
  have nf : l[i] ∉ firsts [] (l.take i) := fun z => by
    have := (firsts_mem (l.take i) [] l[i]).mp z
    exact this.elim (by simp) nl
  have fl : ∃ t, firsts [] l = firsts [] (l.take i) ++ [l[i]] ++ t := by
    have a : firsts [] l = firsts [] (l.take i ++ l[i] :: l.drop (i + 1)) := by rw [← sp]
    rw [a, firsts_app, firsts, if_neg nf]
    exact firsts_pre _ _
  obtain ⟨t, et⟩ := fl
  rw [et, List.append_assoc, List.idxOf_append, if_neg nf]
  simp
@[simp] theorem addK_locl {δ : DE} {h : Bx} {i : Nat} {ys : List D} : addK (.loc i) (.lst ys) δ h = (match wrOf δ h (.loc i) with | some xs => (if xs.length + ys.length ≤ 1000000 then .ok (.lst (xs ++ ys)) h else .bad) | none => .bad) := by
  show (match wrOf δ h (D.loc i), wrOf δ h (D.lst ys) with | some xs, some ys => (if xs.length + ys.length ≤ big then R.ok (D.lst (xs ++ ys)) h else R.bad) | _, _ => R.bad) = _
  cases wrOf δ h (D.loc i) <;> rfl
/-! ### caches -/
structure Ctl where
  hits : List Nat
  line : Nat
  next : Nat
def Ctl.d (c : Ctl) : D := .tup [.tup (nsD c.hits), .int c.line, .int c.next]
def cacheD (C : List Ctl) : D := .tup (C.map Ctl.d)
def oneLine : List Ctl := [⟨[0], 0, 0⟩]
def pin (p : Nat) : List Ctl := ((List.range (p + 1)).map fun k => ⟨[k + 1, k + 1], 0, k + 1⟩) ++ [⟨[p + 1, p + 1], 1, p + 1⟩]
theorem one_ok (h : Bx) : F_one_line [] h = .ok (cacheD oneLine) h := by
  simp [F_one_line, runF_ap, sf_one_line, startD, cacheD, oneLine, Ctl.d, nsD, nD]
theorem rgC_nat {n : Nat} (h : n ≤ 1000000) : rgC (n : Int) = true := by unfold rgC; rw [decide_eq_true_eq]; exact ⟨by omega, by omega⟩
theorem pin_ok {p : Nat} (hp : p ≤ 1000) (h : Bx) : F_pinning [.int p] h = .ok (cacheD (pin p)) h := by
  have st : startD N_pinning.length [.int p] = [.v (.int p), .no, .no] := rfl
  have rg : rgD 0 ((p + 1 : Nat) : Int) = (List.range (p + 1)).map fun v : Nat => .int (v : Nat) := by simp [rgD]
  have c := compF_map (u := nameU 2) (ef := tupF (consA (tupF (consA (bin2 addK (varF 2) (cF (.int 1))) (consA (bin2 addK (varF 2) (cF (.int 1))) nilA))) (consA (cF (.int 0)) (consA (bin2 addK (varF 2) (cF (.int 1))) nilA)))) (δ := [.v (.int p), .no, .no]) (h := h)
    (g := fun d => match d with | .int x => Ctl.d ⟨[x.toNat + 1, x.toNat + 1], 0, x.toNat + 1⟩ | x => x) (ds := rgD 0 ((p + 1 : Nat) : Int)) fun d hd => by
      rw [rg] at hd
      obtain ⟨v, _, rfl⟩ := List.mem_map.mp hd
      refine ⟨_, rfl, ?_, rfl⟩
      simp [Ctl.d, nsD, nD]
  have cm : (rgD 0 ((p + 1 : Nat) : Int)).map (fun d => match d with | .int x => Ctl.d ⟨[x.toNat + 1, x.toNat + 1], 0, x.toNat + 1⟩ | x => x) = ((List.range (p + 1)).map fun k => (⟨[k + 1, k + 1], 0, k + 1⟩ : Ctl)).map Ctl.d := by
    rw [rg, List.map_map, List.map_map]
    refine List.map_congr_left fun x _ => ?_
    simp
  rw [cm] at c
  have rl : (rgD 0 ((p + 1 : Nat) : Int)).length = p + 1 := rgD_length
  have rc := rgC_nat (n := p + 1) (by omega)
  rw [Int.natCast_add] at c rl rc
  have z : p + 1 ≤ 1000000 := by omega
  have z2 : p + 1 + 1 ≤ 1000000 := by omega
  have s1 : p_pinning_1 [.v (.int p), .no, .no] h = .nx [.v (.int p), .own (((List.range (p + 1)).map fun k => (⟨[k + 1, k + 1], 0, k + 1⟩ : Ctl)).map Ctl.d), .no] h := by
    have it : ((consA (bin2 addK (varF 0) (cF (.int 1))) nilA) [.v (.int p), .no, .no] h).bind rg1K = .ok (rgD 0 ((p : Int) + 1)) h := by simp at rc; simp [rc]
    have w : wipeD [.v (.int p), .no, .no] [2] = [.v (.int p), .no, .no] := rfl
    have rl' : (rgD 0 ((p : Int) + 1)).length ≤ 1000000 := by have := rl; simp at this; omega
    rw [p_pinning_1, ownS_ap, lcN_ap, it, R.bind_ok, if_pos rl', w]
    have c' := c
    simp only [Int.natCast_one] at c'
    rw [c']
    rfl
  rw [F_pinning, runF_ap, sf_pinning_eq, p_pinning, st, seq_nx s1]
  simp [p_pinning_2, z2, cacheD, pin, Ctl.d, nsD, nD]
end LP
/-! K46f: the told cache. -/
namespace LP
open PySem PySem.Spec PyProof.Rows L2 HT
theorem first_filter (P : Nat → Bool) : ∀ n : Nat, (∃ j, j < n ∧ P j = true) → ∃ k, k < n ∧ ((List.range n).filter P)[0]? = some k ∧ P k = true ∧ ∀ j, j < k → P j = false
  | 0, ⟨_, h, _⟩ => absurd h (Nat.not_lt_zero _)
  | n + 1, ⟨j, hj, pj⟩ => by
    rw [List.range_succ, List.filter_append]
    by_cases ex : ∃ j, j < n ∧ P j = true
    · obtain ⟨k, h1, h2, h3, h4⟩ := first_filter P n ex
      refine ⟨k, by omega, ?_, h3, h4⟩
      rw [List.getElem?_append_left (List.getElem?_eq_some_iff.mp h2).1]
      exact h2
    · have none_ : (List.range n).filter P = [] := List.filter_eq_nil_iff.mpr fun i hi z => ex ⟨i, List.mem_range.mp hi, z⟩
      have e : j = n := by
        by_cases h : j < n
        · exact absurd ⟨j, h, pj⟩ ex
        · omega
      subst e
      refine ⟨j, Nat.lt_succ_self _, by rw [none_]; simp [pj], pj, fun i hi => ?_⟩
      cases z : P i with
      | false => rfl
      | true => exact absurd ⟨i, hi, z⟩ ex
theorem last_filter (P : Nat → Bool) : ∀ n : Nat, (∃ j, j < n ∧ P j = true) → ∃ k, k < n ∧ ((List.range n).filter P).getLast? = some k ∧ P k = true ∧ ∀ j, k < j → j < n → P j = false
  | 0, ⟨_, h, _⟩ => absurd h (Nat.not_lt_zero _)
  | n + 1, ⟨j, hj, pj⟩ => by
    rw [List.range_succ, List.filter_append]
    by_cases pn : P n = true
    · refine ⟨n, Nat.lt_succ_self _, by simp [pn], pn, fun i h1 h2 => by omega⟩
    · have pn' : P n = false := by simpa using pn
      have ex : ∃ j, j < n ∧ P j = true := ⟨j, by
        by_cases e : j = n
        · subst e; exact absurd pj pn
        · omega, pj⟩
      obtain ⟨k, h1, h2, h3, h4⟩ := last_filter P n ex
      refine ⟨k, by omega, by simp [pn', h2], h3, fun i x y => ?_⟩
      by_cases e : i = n
      · subst e; exact pn'
      · exact h4 i x (by omega)
theorem eqs_nsD : ∀ p q : List Nat, D.eqs (nsD p) (nsD q) = decide (p = q)
  | [], [] => rfl
  | [], b :: q => by simp [nsD]
  | a :: p, [] => by simp [nsD]
  | a :: p, b :: q => by
    have e1 : nsD (a :: p) = .int a :: nsD p := rfl
    have e2 : nsD (b :: q) = .int b :: nsD q := rfl
    rw [e1, e2, eqs_cons, eq_int, eqs_nsD p q]
    by_cases h : a = b
    · subst h; simp
    · have h' : ¬ (a : Int) = b := by omega
      simp [h, h']
/-- which places of a range do -/
theorem comp_places {δ : DE} {i n : Nat} {h : Bx} {tf : DE → Bx → R Bool} {P : Nat → Bool} (hi : i < δ.length) (ht : ∀ k : Nat, k < n → tf (δ.set i (.v (.int k))) h = .ok (P k) h) :
    compF (nameU i) tf (varF i) δ (rgD 0 (n : Int)) h = .ok (nsD ((List.range n).filter P)) h := by
  have rg : rgD 0 (n : Int) = (List.range n).map fun v : Nat => .int (v : Nat) := by simp [rgD]
  have := compF_filter (u := nameU i) (tf := tf) (ef := varF i) (δ := δ) (h := h) (g := id) (p := fun d => match d with | .int k => P k.toNat | _ => false) (ds := rgD 0 (n : Int)) fun d hd => by
    rw [rg] at hd
    obtain ⟨v, hv, rfl⟩ := List.mem_map.mp hd
    refine ⟨_, rfl, ?_, fun _ => ⟨by simp [hi], rfl⟩⟩
    rw [ht v (List.mem_range.mp hv)]
    simp
  rw [this, rg, List.map_id, List.filter_map]
  rfl
/-- where two patterns part first, and the cache told of it -/
structure Parts (p q : List Nat) (at_ : Nat) (C : List Ctl) : Prop where
  lt : at_ < p.length
  ne : nth p at_ ≠ nth q at_
  eq : ∀ j, j < at_ → nth p j = nth q j
  C : (C = oneLine ∧ 0 < at_ ∧ (nth p at_ = nth p (at_ - 1) ∨ nth q at_ = nth q (at_ - 1))) ∨
    ((0 < at_ → nth p at_ ≠ nth p (at_ - 1) ∧ nth q at_ ≠ nth q (at_ - 1)) ∧ ∃ k, k < at_ ∧ C = pin k ∧ ((nth p k = nth p at_ ∧ ∀ j, k < j → j < at_ → nth p j ≠ nth p at_) ∨ (nth q k = nth q at_ ∧ ∀ j, k < j → j < at_ → nth q j ≠ nth q at_)))
end LP
/-! K46g: the told cache, by the program. -/
namespace LP
open PySem PySem.Spec PyProof.Rows L2 HT
theorem nsD_atI {l : List Nat} {k : Nat} (h : k < l.length) : atI (nsD l) (k : Int) = some (.int (nth l k)) := nsD_at h
theorem part_head {d e : D} {l m : List Nat} (rd : IsRow d l) (re : IsRow e m) (hz : l.length ≤ 1000) (hy : m.length ≤ 1000) (h : Bx) : p_parting_cache_1 [.v d, .v e, .no, .no, .no] h = .nx [.v (.tup (nsD (pat l))), .v (.tup (nsD (pat m))), .no, .no, .no] h := by
  have a := rowpat_ok rd hz h
  have b := rowpat_ok re hy h
  have vd : isV d = true := by rcases rd with rfl | rfl <;> rfl
  have ve : isV e = true := by rcases re with rfl | rfl <;> rfl
  simp [p_parting_cache_1, a, b, vd, ve]
theorem part_size {d e : D} {l m : List Nat} (rd : IsRow d l) (re : IsRow e m) (hz : l.length ≤ 1000) (hy : m.length ≤ 1000) (hl : l.length ≠ m.length ∨ 61 < l.length) (h : Bx) : F_parting_cache [d, e] h = .exc "InvalidSize" [("word", .str "rows")] h := by
  have st : startD N_parting_cache.length [d, e] = [.v d, .v e, .no, .no, .no] := rfl
  rw [F_parting_cache, runF_ap, sf_parting_cache_eq, p_parting_cache, st, seq_nx (part_head rd re hz hy h)]
  have p1 := pat_len l
  have p2 := pat_len m
  rw [seq_exc (c := "InvalidSize") (fs := [("word", .str "rows")]) (δ' := [.v (.tup (nsD (pat l))), .v (.tup (nsD (pat m))), .no, .no, .no]) (h' := h) ?_]
  · rfl
  · rcases hl with hl | hl
    · have : ¬ (l.length : Int) = m.length := by omega
      simp (decide := true) [p_parting_cache_2, p1, p2, this, bOf]
    · have c : (61 : Int) < l.length := by omega
      by_cases e : (l.length : Int) = m.length
      · simp (decide := true) [p_parting_cache_2, p1, p2, e, bOf]
        rw [e] at c
        simp [c]
      · simp (decide := true) [p_parting_cache_2, p1, p2, e, bOf]
theorem parting_ok {d e : D} {l m : List Nat} (rd : IsRow d l) (re : IsRow e m) (hl : l.length = m.length) (hz : l.length ≤ 60) (h : Bx) :
    (pat l = pat m → F_parting_cache [d, e] h = .ok .non h) ∧ (pat l ≠ pat m → ∃ at_ C, Parts (pat l) (pat m) at_ C ∧ F_parting_cache [d, e] h = .ok (cacheD C) h) := by
  have st : startD N_parting_cache.length [d, e] = [.v d, .v e, .no, .no, .no] := rfl
  have p1 := pat_len l
  have p2 := pat_len m
  have nl := fun i hi hn => pat_new (l := l) (i := i) hi hn
  have nm := fun i hi hn => pat_new (l := m) (i := i) hi hn
  rw [F_parting_cache, runF_ap, sf_parting_cache_eq, p_parting_cache, st, seq_nx (part_head rd re (by omega) (by omega) h)]
  generalize pat l = p at *
  generalize pat m = q at *
  have n1 : p.length ≤ 60 := by omega
  have n2 : q.length = p.length := by omega
  rw [seq_nx (δ' := [.v (.tup (nsD p)), .v (.tup (nsD q)), .no, .no, .no]) (h' := h) (by
    have : ¬ (61 : Int) < p.length := by omega
    simp (decide := true) [p_parting_cache_2, n2, this, bOf])]
  refine ⟨fun e => ?_, fun ne => ?_⟩
  · subst e
    rw [seq_rt (d := .non) (h' := h) (by simp (decide := true) [p_parting_cache_3, eqs_nsD, bOf])]
    rfl
  · rw [seq_nx (δ' := [.v (.tup (nsD p)), .v (.tup (nsD q)), .no, .no, .no]) (h' := h) (by simp (decide := true) [p_parting_cache_3, eqs_nsD, bOf, ne])]
    -- where they part first
    have ex : ∃ j, j < p.length ∧ decide (nth p j ≠ nth q j) = true := by
      by_cases z : ∃ j, j < p.length ∧ decide (nth p j ≠ nth q j) = true
      · exact z
      · refine absurd (List.ext_getElem n2.symm fun i h1 h2 => ?_) ne
        by_cases w : nth p i = nth q i
        · rw [nth_eq h1, nth_eq h2] at w; exact w
        · exact absurd ⟨i, h1, by simpa using w⟩ z
    obtain ⟨k, k1, k2, k3, k4⟩ := first_filter (fun j => decide (nth p j ≠ nth q j)) p.length ex
    have k3 : nth p k ≠ nth q k := by simpa using k3
    have k4 : ∀ j, j < k → nth p j = nth q j := fun j hj => by simpa using k4 j hj
    have c := comp_places (δ := [.v (.tup (nsD p)), .v (.tup (nsD q)), .no, .no, .no]) (i := 4) (n := p.length) (h := h) (tf := testF (bin2 (eqK true) (bin2 ixK (varF 0) (varF 4)) (bin2 ixK (varF 1) (varF 4)))) (P := fun j => decide (nth p j ≠ nth q j)) (by simp) fun j hj => by
      have a1 := nsD_atI (l := p) (k := j) hj
      have a2 := nsD_atI (l := q) (k := j) (by omega)
      by_cases w : nth p j = nth q j
      · simp (decide := true) [a1, a2, w, bOf]
      · have w' : ¬ (nth p j : Int) = nth q j := by omega
        simp (decide := true) [a1, a2, w, w', bOf]
    have s4 : p_parting_cache_4 [.v (.tup (nsD p)), .v (.tup (nsD q)), .no, .no, .no] h = .nx [.v (.tup (nsD p)), .v (.tup (nsD q)), .v (.int k), .no, .no] h := by
      have it : ((consA (blt lenK (consA (varF 0) nilA)) nilA) [.v (.tup (nsD p)), .v (.tup (nsD q)), .no, .no, .no] h).bind rg1K = .ok (rgD 0 (p.length : Int)) h := by simp [rgC_nat (n := p.length) (by omega)]
      have w : wipeD [.v (.tup (nsD p)), .v (.tup (nsD q)), .no, .no, .no] [4] = [.v (.tup (nsD p)), .v (.tup (nsD q)), .no, .no, .no] := rfl
      have rl : (rgD 0 (p.length : Int)).length ≤ 1000000 := by rw [rgD_length]; omega
      have a0 : (nsD ((List.range p.length).filter fun j => decide (nth p j ≠ nth q j)))[0]? = some (.int k) := by
        unfold nsD
        rw [List.getElem?_map, k2]; rfl
      rw [p_parting_cache_4, setS_ap, bin2_ap, valN_ap, lcN_ap, it, R.bind_ok, if_pos rl, w, c]
      generalize (nsD ((List.range p.length).filter fun j => decide (nth p j ≠ nth q j))) = L at a0 ⊢
      simp [a0]
    rw [seq_nx s4]
    have atp := nsD_atI (l := p) (k := k) k1
    have atq := nsD_atI (l := q) (k := k) (by omega)
    by_cases near : 0 < k ∧ (nth p k = nth p (k - 1) ∨ nth q k = nth q (k - 1))
    · -- a name of the access ahead
      refine ⟨k, oneLine, ⟨k1, k3, k4, .inl ⟨rfl, near⟩⟩, ?_⟩
      obtain ⟨k0, near⟩ := near
      have k0' : (0 : Int) < k := by omega
      have km : ((k : Int) - 1) = ((k - 1 : Nat) : Int) := by omega
      have atp1 := nsD_atI (l := p) (k := k - 1) (by omega)
      have atq1 := nsD_atI (l := q) (k := k - 1) (by omega)
      rw [seq_rt (d := cacheD oneLine) (h' := h) ?_]
      · rfl
      · have o := one_ok h
        rw [p_parting_cache_5, forS_ap]
        have it : itemsI (tupF (consA (varF 0) (consA (varF 1) nilA))) [.v (.tup (nsD p)), .v (.tup (nsD q)), .v (.int k), .no, .no] h = .ok [.tup (nsD p), .tup (nsD q)] h := by simp
        rw [it, R.toS_ok]
        by_cases wp : nth p k = nth p (k - 1)
        · rw [forF_rt (δ1 := [.v (.tup (nsD p)), .v (.tup (nsD q)), .v (.int k), .v (.tup (nsD p)), .no]) (v := cacheD oneLine) (h2 := h) rfl (by
            have wp' : (nth p k : Int) = nth p (k - 1) := by omega
            simp (decide := true) [k0, k0', km, atp, atp1, wp', bOf, o, cacheD])]
        · have wp' : ¬ (nth p k : Int) = nth p (k - 1) := by omega
          have wq : nth q k = nth q (k - 1) := near.resolve_left wp
          have wq' : (nth q k : Int) = nth q (k - 1) := by omega
          rw [forF_nx (δ1 := [.v (.tup (nsD p)), .v (.tup (nsD q)), .v (.int k), .v (.tup (nsD p)), .no]) (δ2 := [.v (.tup (nsD p)), .v (.tup (nsD q)), .v (.int k), .v (.tup (nsD p)), .no]) (h2 := h) rfl (by simp (decide := true) [k0, k0', km, atp, atp1, wp', bOf])]
          rw [forF_rt (δ1 := [.v (.tup (nsD p)), .v (.tup (nsD q)), .v (.int k), .v (.tup (nsD q)), .no]) (v := cacheD oneLine) (h2 := h) rfl (by simp (decide := true) [k0, k0', km, atq, atq1, wq', bOf, o, cacheD])]
    · -- one pinned
      have nr : 0 < k → nth p k ≠ nth p (k - 1) ∧ nth q k ≠ nth q (k - 1) := fun z => ⟨fun w => near ⟨z, .inl w⟩, fun w => near ⟨z, .inr w⟩⟩
      have s5 : p_parting_cache_5 [.v (.tup (nsD p)), .v (.tup (nsD q)), .v (.int k), .no, .no] h = .nx [.v (.tup (nsD p)), .v (.tup (nsD q)), .v (.int k), .v (.tup (nsD q)), .no] h := by
        rw [p_parting_cache_5, forS_ap]
        have it : itemsI (tupF (consA (varF 0) (consA (varF 1) nilA))) [.v (.tup (nsD p)), .v (.tup (nsD q)), .v (.int k), .no, .no] h = .ok [.tup (nsD p), .tup (nsD q)] h := by simp
        rw [it, R.toS_ok]
        by_cases k0 : 0 < k
        · have k0' : (0 : Int) < k := by omega
          have km : ((k : Int) - 1) = ((k - 1 : Nat) : Int) := by omega
          have atp1 := nsD_atI (l := p) (k := k - 1) (by omega)
          have atq1 := nsD_atI (l := q) (k := k - 1) (by omega)
          have wp' : ¬ (nth p k : Int) = nth p (k - 1) := by have := (nr k0).1; omega
          have wq' : ¬ (nth q k : Int) = nth q (k - 1) := by have := (nr k0).2; omega
          rw [forF_nx (δ1 := [.v (.tup (nsD p)), .v (.tup (nsD q)), .v (.int k), .v (.tup (nsD p)), .no]) (δ2 := [.v (.tup (nsD p)), .v (.tup (nsD q)), .v (.int k), .v (.tup (nsD p)), .no]) (h2 := h) rfl (by simp (decide := true) [k0, k0', km, atp, atp1, wp', bOf])]
          rw [forF_nx (δ1 := [.v (.tup (nsD p)), .v (.tup (nsD q)), .v (.int k), .v (.tup (nsD q)), .no]) (δ2 := [.v (.tup (nsD p)), .v (.tup (nsD q)), .v (.int k), .v (.tup (nsD q)), .no]) (h2 := h) rfl (by simp (decide := true) [k0, k0', km, atq, atq1, wq', bOf]), forF_nil]
        · have k0' : ¬ (0 : Int) < k := by omega
          rw [forF_nx (δ1 := [.v (.tup (nsD p)), .v (.tup (nsD q)), .v (.int k), .v (.tup (nsD p)), .no]) (δ2 := [.v (.tup (nsD p)), .v (.tup (nsD q)), .v (.int k), .v (.tup (nsD p)), .no]) (h2 := h) rfl (by simp (decide := true) [k0, k0', bOf])]
          rw [forF_nx (δ1 := [.v (.tup (nsD p)), .v (.tup (nsD q)), .v (.int k), .v (.tup (nsD q)), .no]) (δ2 := [.v (.tup (nsD p)), .v (.tup (nsD q)), .v (.int k), .v (.tup (nsD q)), .no]) (h2 := h) rfl (by simp (decide := true) [k0, k0', bOf]), forF_nil]
      rw [seq_nx s5]
      have ct : cutD (nsD p) none (some (k : Int)) = nsD (p.take k) := by rw [cutD_to (by omega), Int.toNat_natCast, nsD_take]
      -- the last one of the same in a row
      have fin : ∀ r : List Nat, r.length = p.length → (∃ j, j < k ∧ nth r j = nth r k) → ∃ c, c < k ∧ (nth r c = nth r k ∧ ∀ j, c < j → j < k → nth r j ≠ nth r k) ∧ (p_parting_cache_7 [.v (.tup (nsD p)), .v (.tup (nsD q)), .v (.int k), .v (.tup (nsD r)), .no] h).fin = .ok (cacheD (pin c)) h := fun r hr ⟨j0, j1, j2⟩ => by
        obtain ⟨c, c1, c2, c3, c4⟩ := last_filter (fun j => decide (nth r j = nth r k)) k ⟨j0, j1, by simpa using j2⟩
        refine ⟨c, c1, ⟨by simpa using c3, fun j x y => by simpa using c4 j x y⟩, ?_⟩
        have cc := comp_places (δ := [.v (.tup (nsD p)), .v (.tup (nsD q)), .v (.int k), .v (.tup (nsD r)), .no]) (i := 4) (n := k) (h := h) (tf := testF (bin2 (eqK false) (bin2 ixK (varF 3) (varF 4)) (bin2 ixK (varF 3) (varF 2)))) (P := fun j => decide (nth r j = nth r k)) (by simp) fun j hj => by
          have a1 := nsD_atI (l := r) (k := j) (by omega)
          have a2 := nsD_atI (l := r) (k := k) (by omega)
          by_cases w : nth r j = nth r k
          · simp (decide := true) [a1, a2, w, bOf]
          · have w' : ¬ (nth r j : Int) = nth r k := by omega
            simp (decide := true) [a1, a2, w, w', bOf]
        have it : ((consA (varF 2) nilA) [.v (.tup (nsD p)), .v (.tup (nsD q)), .v (.int k), .v (.tup (nsD r)), .no] h).bind rg1K = .ok (rgD 0 (k : Int)) h := by simp [rgC_nat (n := k) (by omega)]
        have w : wipeD [.v (.tup (nsD p)), .v (.tup (nsD q)), .v (.int k), .v (.tup (nsD r)), .no] [4] = [.v (.tup (nsD p)), .v (.tup (nsD q)), .v (.int k), .v (.tup (nsD r)), .no] := rfl
        have rl : (rgD 0 (k : Int)).length ≤ 1000000 := by rw [rgD_length]; omega
        have la : atI (nsD ((List.range k).filter fun j => decide (nth r j = nth r k))) (-1) = some (.int c) := by
          rw [atI_last]
          unfold nsD
          rw [List.getLast?_map, c2]; rfl
        have po := pin_ok (p := c) (by omega) h
        have e7 : (valN (lcN (fun δ h => ((consA (varF 2) nilA) δ h).bind rg1K) [4] (nameU 4) (testF (bin2 (eqK false) (bin2 ixK (varF 3) (varF 4)) (bin2 ixK (varF 3) (varF 2)))) (varF 4))) [.v (.tup (nsD p)), .v (.tup (nsD q)), .v (.int k), .v (.tup (nsD r)), .no] h = .ok (.lst (nsD ((List.range k).filter fun j => decide (nth r j = nth r k)))) h := by
          rw [valN_ap, lcN_ap, it, R.bind_ok, if_pos rl, w, cc]; rfl
        rw [p_parting_cache_7, retS_ap, callF_ap, consA_ap, bin2_ap, e7]
        simp [la, po, cacheD]
      by_cases old : nth p k ∈ p.take k
      · rw [seq_nx (δ' := [.v (.tup (nsD p)), .v (.tup (nsD q)), .v (.int k), .v (.tup (nsD p)), .no]) (h' := h) (by simp (decide := true) [p_parting_cache_6, atp, ct, any_nsD, old, bOf])]
        obtain ⟨j, hj, ej⟩ := List.mem_iff_getElem.mp old
        rw [List.length_take] at hj
        rw [List.getElem_take] at ej
        obtain ⟨c, c1, c2, c3⟩ := fin p rfl ⟨j, by omega, by rw [nth_eq (by omega), ej]⟩
        exact ⟨k, pin c, ⟨k1, k3, k4, .inr ⟨nr, c, c1, rfl, .inl c2⟩⟩, c3⟩
      · rw [seq_nx (δ' := [.v (.tup (nsD p)), .v (.tup (nsD q)), .v (.int k), .v (.tup (nsD q)), .no]) (h' := h) (by simp (decide := true) [p_parting_cache_6, atp, ct, any_nsD, old, bOf])]
        have tk : p.take k = q.take k := List.ext_getElem (by rw [List.length_take, List.length_take, n2]) fun i h1 h2 => by
          rw [List.length_take] at h1 h2
          rw [List.getElem_take, List.getElem_take]
          have := k4 i (by omega)
          rw [nth_eq (by omega), nth_eq (by omega)] at this
          exact this
        have oldq : q[k]'(by omega) ∈ q.take k := by
          by_cases z : q[k]'(by omega) ∈ q.take k
          · exact z
          · have e1 := nl k k1 (by rw [nth_eq k1] at old; exact old)
            have e2 := nm k (by omega) z
            rw [tk] at e1
            refine absurd ?_ k3
            rw [nth_eq k1, nth_eq (by omega), e1, e2]
        obtain ⟨j, hj, ej⟩ := List.mem_iff_getElem.mp oldq
        rw [List.length_take] at hj
        rw [List.getElem_take] at ej
        obtain ⟨c, c1, c2, c3⟩ := fin q n2 ⟨j, by omega, by rw [nth_eq (by omega), nth_eq (by omega), ej]⟩
        exact ⟨k, pin c, ⟨k1, k3, k4, .inr ⟨nr, c, c1, rfl, .inr c2⟩⟩, c3⟩
end LP
/-! K46h: the law's walk through a cache. -/
namespace LP
open PySem PySem.Spec PyProof.Rows L2 HT
def optD : Option Nat → D
  | none => .non
  | some x => .int x
def heldD (hs : List (Option Nat)) : List D := hs.map optD
theorem held_len (hs : List (Option Nat)) : (heldD hs).length = hs.length := by simp [heldD]
theorem held_pures (hs : List (Option Nat)) : D.pures (heldD hs) = true := pures_all fun d hd => by
  obtain ⟨o, _, rfl⟩ := List.mem_map.mp hd
  cases o <;> rfl
theorem held_deps (hs : List (Option Nat)) : D.deps (heldD hs) = 0 := by
  have := deps_le (n := 0) (a := heldD hs) fun d hd => by
    obtain ⟨o, _, rfl⟩ := List.mem_map.mp hd
    cases o <;> simp [optD]
  omega
theorem opt_eq {o : Option Nat} {x : Nat} : D.eq (optD o) (.int x) = decide (o = some x) := by
  cases o with
  | none => rfl
  | some y =>
    show D.eq (.int y) (.int x) = _
    rw [eq_int]
    by_cases h : y = x
    · subst h; simp
    · have : ¬ (y : Int) = x := by omega
      simp [h, this]
theorem any_held {hs : List (Option Nat)} {x : Nat} : ((heldD hs).any fun z => D.eq z (.int x)) = decide (some x ∈ hs) := by
  induction hs with
  | nil => simp [heldD]
  | cons o hs ih =>
    have : heldD (o :: hs) = optD o :: heldD hs := rfl
    rw [this, List.any_cons, ih, opt_eq]
    by_cases h : o = some x
    · subst h; simp
    · have h' : ¬ some x = o := fun z => h z.symm
      simp [h, h']
theorem idx_held {hs : List (Option Nat)} {x : Nat} (h : some x ∈ hs) : ((heldD hs).findIdx? fun z => D.eq z (.int x)) = some (hs.idxOf (some x)) := by
  induction hs with
  | nil => simp at h
  | cons o hs ih =>
    have : heldD (o :: hs) = optD o :: heldD hs := rfl
    rw [this, List.findIdx?_cons, opt_eq, List.idxOf_cons]
    by_cases e : o = some x
    · subst e; simp
    · have hx : some x ∈ hs := by
        rcases List.mem_cons.mp h with z | z
        · exact absurd z.symm e
        · exact z
      have e2 : (o == some x) = false := by simpa using e
      rw [ih hx]
      simp [e, e2]
/-- a cache with L lines -/
structure Cok (C : List Ctl) (L : Nat) : Prop where
  ne : 0 < C.length
  len : C.length ≤ 1000
  pos : 0 < L
  le : L ≤ 100
  hits : ∀ c ∈ C, c.hits.length = L ∧ ∀ v ∈ c.hits, v < C.length
  line : ∀ c ∈ C, c.line < L ∧ c.next < C.length
def ctlAt (C : List Ctl) (k : Nat) : Ctl := C.getD k ⟨[], 0, 0⟩
theorem ctl_eq {C : List Ctl} {k : Nat} (h : k < C.length) : ctlAt C k = C[k] := by
  unfold ctlAt
  rw [List.getD_eq_getElem?_getD, List.getElem?_eq_getElem h]; rfl
theorem cache_at {C : List Ctl} {k : Nat} (h : k < C.length) : atI (C.map Ctl.d) (k : Int) = some (ctlAt C k).d := by
  rw [atI_nat (by rw [List.length_map]; exact h), List.getElem?_map, List.getElem?_eq_getElem h, ctl_eq h]; rfl
/-- one access: hit or not, control and what is held behind it -/
def wst (C : List Ctl) (c : Nat) (hs : List (Option Nat)) (x : Nat) : Nat × Nat × List (Option Nat) :=
  if some x ∈ hs then (1, nth (ctlAt C c).hits (hs.idxOf (some x)), hs) else (0, (ctlAt C c).next, hs.set (ctlAt C c).line (some x))
def wlk (C : List Ctl) : Nat → List (Option Nat) → List Nat → List Nat × List (Option Nat)
  | _, hs, [] => ([], hs)
  | c, hs, x :: l => ((wst C c hs x).1 :: (wlk C (wst C c hs x).2.1 (wst C c hs x).2.2 l).1, (wlk C (wst C c hs x).2.1 (wst C c hs x).2.2 l).2)
theorem wst_ok {C : List Ctl} {L c : Nat} {hs : List (Option Nat)} {x : Nat} (o : Cok C L) (hc : c < C.length) (hl : hs.length = L) : (wst C c hs x).2.1 < C.length ∧ (wst C c hs x).2.2.length = L := by
  have m : ctlAt C c ∈ C := by rw [ctl_eq hc]; exact List.getElem_mem hc
  unfold wst
  split
  · rename_i hx
    refine ⟨?_, hl⟩
    have h1 := (o.hits _ m).1
    have h2 := List.idxOf_lt_length_of_mem hx
    show nth (ctlAt C c).hits (hs.idxOf (some x)) < _
    rw [nth_eq (by omega)]
    exact (o.hits _ m).2 _ (List.getElem_mem _)
  · exact ⟨(o.line _ m).2, by show (hs.set _ _).length = L; rw [List.length_set]; exact hl⟩
def wk_body : SF := (ifS (testF (bin2 (inK false) (varF 5) (varF 3)))
    (seqS (appS 4 (cF (.int 1)))
    (setS 2 (bin2 ixK (bin2 ixK (bin2 ixK (varF 0) (varF 2)) (cF (.int 0))) (idxF (varF 3) (varF 5)))))
    (seqS (appS 4 (cF (.int 0)))
    (seqS (setiS 3 (bin2 ixK (bin2 ixK (varF 0) (varF 2)) (cF (.int 1))) (varF 5))
    (setS 2 (bin2 ixK (bin2 ixK (varF 0) (varF 2)) (cF (.int 2)))))))
theorem ixN_nat {m n : Nat} (h : n < m) : ixN m (n : Int) = some n := by rw [ixN_at (by omega) (by omega)]; rfl
theorem wk_step {C : List Ctl} {L c : Nat} {hs : List (Option Nat)} {x : Nat} (o : Cok C L) (hc : c < C.length) (hl : hs.length = L) (a1 : SV) (vs : List Nat) (hv : vs.length < 1000) (h : Bx) :
    wk_body [.v (cacheD C), a1, .v (.int c), .own (heldD hs), .own (nsD vs), .v (.int x)] h = .nx [.v (cacheD C), a1, .v (.int (wst C c hs x).2.1), .own (heldD (wst C c hs x).2.2), .own (nsD (vs ++ [(wst C c hs x).1])), .v (.int x)] h := by
  have m : ctlAt C c ∈ C := by rw [ctl_eq hc]; exact List.getElem_mem hc
  have ca := cache_at hc
  have pu := held_pures hs
  have dp := held_deps hs
  have z1 : vs.length < 1000000 := by omega
  have ap : ∀ v : Nat, nsD vs ++ [.int (v : Int)] = nsD (vs ++ [v]) := fun v => by simp [nsD, nD]
  by_cases hx : some x ∈ hs
  · have i := idx_held hx
    have h1 := (o.hits _ m).1
    have h2 := List.idxOf_lt_length_of_mem hx
    have a2 := nsD_atI (l := (ctlAt C c).hits) (k := hs.idxOf (some x)) (by omega)
    have e : wst C c hs x = (1, nth (ctlAt C c).hits (hs.idxOf (some x)), hs) := if_pos hx
    have ap1 := ap 1
    rw [e]
    simp only [cacheD]
    simp (decide := true) [wk_body, pu, dp, any_held, hx, bOf, z1, ca, Ctl.d, idxK, i, a2]
    simp [nsD, nD]
  · have e : wst C c hs x = (0, (ctlAt C c).next, hs.set (ctlAt C c).line (some x)) := if_neg hx
    have il := ixN_nat (m := hs.length) (n := (ctlAt C c).line) (by have := (o.line _ m).1; omega)
    have hst : (heldD hs).set (ctlAt C c).line (.int x) = heldD (hs.set (ctlAt C c).line (some x)) := by
      unfold heldD
      rw [List.map_set]; rfl
    rw [e]
    simp only [cacheD]
    simp (decide := true) [wk_body, pu, dp, any_held, hx, bOf, z1, ca, Ctl.d, held_len, il, hst]
    simp [nsD, nD]
theorem wk_loop {C : List Ctl} {L : Nat} (o : Cok C L) (a1 : SV) (h : Bx) : ∀ (l : List Nat) (c : Nat) (hs : List (Option Nat)) (vs : List Nat) (a5 : SV), c < C.length → hs.length = L → vs.length + l.length ≤ 1000 →
    ∃ b2 b5, forF (nameU 5) wk_body (nsD l) [.v (cacheD C), a1, .v (.int c), .own (heldD hs), .own (nsD vs), a5] h = .nx [.v (cacheD C), a1, b2, .own (heldD (wlk C c hs l).2), .own (nsD (vs ++ (wlk C c hs l).1)), b5] h
  | [], c, hs, vs, a5, _, _, _ => ⟨.v (.int c), a5, by have : nsD ([] : List Nat) = [] := rfl; rw [this, forF_nil]; simp [wlk]⟩
  | x :: l, c, hs, vs, a5, hc, hl, hz => by
    have z' : vs.length + (l.length + 1) ≤ 1000 := hz
    obtain ⟨w1, w2⟩ := wst_ok (x := x) o hc hl
    obtain ⟨b2, b5, e⟩ := wk_loop o a1 h l _ _ (vs ++ [(wst C c hs x).1]) (.v (.int x)) w1 w2 (by simp; omega)
    refine ⟨b2, b5, ?_⟩
    have e0 : nsD (x :: l) = .int x :: nsD l := rfl
    rw [e0, forF_nx (δ1 := [.v (cacheD C), a1, .v (.int c), .own (heldD hs), .own (nsD vs), .v (.int x)]) rfl (wk_step o hc hl a1 vs (by omega) h), e]
    simp [wlk]
/-- the views of a row, from an empty cache -/
def vws (C : List Ctl) (L : Nat) (l : List Nat) : List Nat := (wlk C 0 (List.replicate L none) l).1
theorem walk_ok {C : List Ctl} {L : Nat} (o : Cok C L) {l : List Nat} (hz : l.length ≤ 1000) (h : Bx) : ∃ y, F__law_walk [cacheD C, .lst (nsD l)] h = .ok (.tup [.tup (nsD (vws C L l)), y]) h := by
  have st : startD N__law_walk.length [cacheD C, .lst (nsD l)] = [.v (cacheD C), .v (.lst (nsD l)), .no, .no, .no, .no] := rfl
  obtain ⟨b2, b5, e⟩ := wk_loop o (.v (.lst (nsD l))) h l 0 (List.replicate L none) [] .no o.ne (by simp) (by simpa using hz)
  refine ⟨.tup (heldD (wlk C 0 (List.replicate L none) l).2), ?_⟩
  have m : ctlAt C 0 ∈ C := by rw [ctl_eq o.ne]; exact List.getElem_mem _
  have ca := cache_at o.ne
  have h1 := (o.hits _ m).1
  have rc : repC 1 (L : Int) = true := by
    unfold repC
    rw [decide_eq_true_eq]
    have := o.le
    refine ⟨by omega, by omega, ?_⟩
    show 1 * (L : Int).toNat ≤ 1000000
    omega
  have rd : repD [.non] (L : Int) = heldD (List.replicate L none) := by
    unfold repD heldD
    rw [Int.toNat_natCast, List.map_replicate]
    induction L with
    | zero => rfl
    | succ n _ => simp [List.replicate_succ, optD]
  have c0 : (C.map Ctl.d)[0]? = some (ctlAt C 0).d := by
    rw [List.getElem?_map, List.getElem?_eq_getElem o.ne, ctl_eq o.ne]; rfl
  rw [F__law_walk, runF_ap, sf__law_walk_eq, p_lwalk, st]
  rw [seq_nx (δ' := [.v (cacheD C), .v (.lst (nsD l)), .v (.int 0), .own (heldD (List.replicate L none)), .own [], .no]) (h' := h) (by
    simp only [cacheD]
    simp (decide := true) [p_lwalk_1, c0, Ctl.d, h1, rc, rd])]
  rw [seq_nx (δ' := [.v (cacheD C), .v (.lst (nsD l)), b2, .own (heldD (wlk C 0 (List.replicate L none) l).2), .own (nsD (vws C L l)), b5]) (h' := h) ?_]
  · simp [p_lwalk_3]
  · unfold wk_body at e
    rw [p_lwalk_2, forS_ap]
    have it : itemsI (varF 1) [.v (cacheD C), .v (.lst (nsD l)), .v (.int 0), .own (heldD (List.replicate L none)), .own [], .no] h = .ok (nsD l) h := by simp
    rw [it, R.toS_ok]
    exact e
end LP
/-! K46i: views hang on patterns alone; the told cache parts. -/
namespace LP
open PySem PySem.Spec PyProof.Rows L2 HT
theorem idxOf_map {g : Option Nat → Option Nat} {a : Option Nat} : ∀ {hs : List (Option Nat)}, (∀ b ∈ hs, g b = g a → b = a) → (hs.map g).idxOf (g a) = hs.idxOf a
  | [], _ => rfl
  | b :: hs, h => by
    rw [List.map_cons, List.idxOf_cons, List.idxOf_cons]
    by_cases e : b = a
    · subst e; simp
    · have e1 : ¬ g b = g a := fun z => e (h b (List.mem_cons_self ..) z)
      have e2 : (b == a) = false := by simpa using e
      have e3 : (g b == g a) = false := by simpa using e1
      rw [e2, e3, idxOf_map fun c hc => h c (List.mem_cons_of_mem _ hc)]
theorem wst_map {C : List Ctl} {c : Nat} {f : Nat → Nat} {hs : List (Option Nat)} {x : Nat} (inj : ∀ a, some a ∈ hs → f a = f x → a = x) :
    wst C c (hs.map (Option.map f)) (f x) = ((wst C c hs x).1, (wst C c hs x).2.1, (wst C c hs x).2.2.map (Option.map f)) := by
  have m : some (f x) ∈ hs.map (Option.map f) ↔ some x ∈ hs := by
    refine ⟨fun z => ?_, fun z => List.mem_map.mpr ⟨some x, z, rfl⟩⟩
    obtain ⟨o, ho, e⟩ := List.mem_map.mp z
    cases o with
    | none => cases e
    | some a => exact (inj a ho (Option.some.inj e)) ▸ ho
  unfold wst
  by_cases hx : some x ∈ hs
  · rw [if_pos hx, if_pos (m.mpr hx)]
    have : (hs.map (Option.map f)).idxOf (some (f x)) = hs.idxOf (some x) := idxOf_map (g := Option.map f) (a := some x) fun b hb e => by
      cases b with
      | none => cases e
      | some a => rw [inj a hb (Option.some.inj e)]
    rw [this]
  · rw [if_neg hx, if_neg fun z => hx (m.mp z), List.map_set]
    rfl
theorem wst_mem {C : List Ctl} {c : Nat} {hs : List (Option Nat)} {x a : Nat} (h : some a ∈ (wst C c hs x).2.2) : some a ∈ hs ∨ a = x := by
  unfold wst at h
  split at h
  · exact .inl h
  · rcases List.mem_or_eq_of_mem_set h with z | z
    · exact .inl z
    · exact .inr (Option.some.inj z)
theorem wlk_map {C : List Ctl} {f : Nat → Nat} : ∀ (l : List Nat) (c : Nat) (hs : List (Option Nat)), (∀ a b, (some a ∈ hs ∨ a ∈ l) → b ∈ l → f a = f b → a = b) → (wlk C c (hs.map (Option.map f)) (l.map f)).1 = (wlk C c hs l).1
  | [], _, _, _ => rfl
  | x :: l, c, hs, inj => by
    rw [List.map_cons, wlk, wlk, wst_map fun a ha e => inj a x (.inl ha) (List.mem_cons_self ..) e]
    have := wlk_map (C := C) l (wst C c hs x).2.1 (wst C c hs x).2.2 fun a b ha hb e => inj a b (ha.elim (fun z => (wst_mem z).elim .inl fun w => .inr (w ▸ List.mem_cons_self ..)) fun z => .inr (List.mem_cons_of_mem _ z)) (List.mem_cons_of_mem _ hb) e
    exact congrArg (List.cons _) this
/-- a row's views are those of its pattern -/
theorem vws_pat (C : List Ctl) (L : Nat) (l : List Nat) : vws C L (pat l) = vws C L l := by
  have := wlk_map (C := C) (f := fun x => (firsts [] l).idxOf x) l 0 (List.replicate L none) fun a b ha hb e => by
    have ha : a ∈ l := ha.elim (fun z => by have := List.eq_of_mem_replicate z; cases this) id
    exact (idxOf_inj (pat_mem ha) (pat_mem hb)).mp e
  unfold vws pat
  rw [List.map_replicate] at this
  exact this
/-! ### the told cache -/
def run (C : List Ctl) : Nat × List (Option Nat) → List Nat → Nat × List (Option Nat)
  | s, [] => s
  | s, x :: l => run C (wst C s.1 s.2 x).2 l
theorem run_app {C : List Ctl} : ∀ (a : List Nat) (s : Nat × List (Option Nat)) (b : List Nat), run C s (a ++ b) = run C (run C s a) b
  | [], _, _ => rfl
  | x :: a, s, b => by rw [List.cons_append, run, run, run_app a]
theorem wlk_at {C : List Ctl} : ∀ (a : List Nat) (c : Nat) (hs : List (Option Nat)) (x : Nat) (b : List Nat), (wlk C c hs (a ++ x :: b)).1[a.length]? = some (wst C (run C (c, hs) a).1 (run C (c, hs) a).2 x).1
  | [], c, hs, x, b => by rw [List.nil_append, wlk]; rfl
  | y :: a, c, hs, x, b => by
    rw [List.cons_append, wlk, List.length_cons, List.getElem?_cons_succ, wlk_at a]
    rfl
theorem wst_fst {C : List Ctl} {c : Nat} {hs : List (Option Nat)} {x : Nat} : (wst C c hs x).1 = if some x ∈ hs then 1 else 0 := by
  unfold wst; split <;> rfl
/-- one name is held, the other is not: views part -/
theorem parts_of {C : List Ctl} {L : Nat} {p q : List Nat} {k : Nat} (hp : k < p.length) (hq : k < q.length) (e : p.take k = q.take k)
    (d : (some (nth p k) ∈ (run C (0, List.replicate L none) (p.take k)).2) ≠ (some (nth q k) ∈ (run C (0, List.replicate L none) (p.take k)).2)) : vws C L p ≠ vws C L q := fun z => by
  have sp : p = p.take k ++ nth p k :: p.drop (k + 1) := by rw [nth_eq hp, ← List.drop_eq_getElem_cons hp, List.take_append_drop]
  have sq : q = q.take k ++ nth q k :: q.drop (k + 1) := by rw [nth_eq hq, ← List.drop_eq_getElem_cons hq, List.take_append_drop]
  have lp : (p.take k).length = k := by rw [List.length_take]; omega
  have lq : (q.take k).length = k := by rw [List.length_take]; omega
  have a1 := wlk_at (C := C) (p.take k) 0 (List.replicate L none) (nth p k) (p.drop (k + 1))
  have a2 := wlk_at (C := C) (q.take k) 0 (List.replicate L none) (nth q k) (q.drop (k + 1))
  rw [← sp, lp, wst_fst] at a1
  rw [← sq, lq, wst_fst, ← e] at a2
  have z : (wlk C 0 (List.replicate L none) p).1 = (wlk C 0 (List.replicate L none) q).1 := z
  rw [z, a2] at a1
  have a1 := Option.some.inj a1
  apply d
  by_cases h1 : some (nth p k) ∈ (run C (0, List.replicate L none) (p.take k)).2 <;> by_cases h2 : some (nth q k) ∈ (run C (0, List.replicate L none) (p.take k)).2
  · exact propext ⟨fun _ => h2, fun _ => h1⟩
  · rw [if_pos h1, if_neg h2] at a1; cases a1
  · rw [if_neg h1, if_pos h2] at a1; cases a1
  · exact propext ⟨fun w => absurd w h1, fun w => absurd w h2⟩
theorem one_run : ∀ (l : List Nat) (o : Option Nat), run oneLine (0, [o]) l = (0, [match l.getLast? with | none => o | some z => some z])
  | [], o => rfl
  | x :: l, o => by
    have s : (wst oneLine 0 [o] x).2 = (0, [some x]) := by
      unfold wst
      by_cases h : some x ∈ [o]
      · rw [if_pos h]
        have : o = some x := (List.mem_singleton.mp h).symm
        subst this
        simp [oneLine, ctlAt, nth]
      · rw [if_neg h]
        simp [oneLine, ctlAt]
    rw [run]
    show run oneLine (wst oneLine 0 [o] x).2 l = _
    rw [s, one_run l (some x)]
    congr 2
    cases l with
    | nil => rfl
    | cons y l =>
      have : (x :: y :: l).getLast? = (y :: l).getLast? := by simp
      rw [this]
      cases w : (y :: l).getLast? with
      | none => simp at w
      | some z => rfl
end LP
/-! K46j: the told cache parts the views. -/
namespace LP
open PySem PySem.Spec PyProof.Rows L2 HT
theorem pin_len (k : Nat) : (pin k).length = k + 2 := by simp [pin]
theorem pin_lo {k j : Nat} (h : j ≤ k) : ctlAt (pin k) j = ⟨[j + 1, j + 1], 0, j + 1⟩ := by
  rw [ctl_eq (by rw [pin_len]; omega)]
  unfold pin
  rw [List.getElem_append_left (by simp; omega)]
  simp
theorem pin_hi {k : Nat} : ctlAt (pin k) (k + 1) = ⟨[k + 1, k + 1], 1, k + 1⟩ := by
  rw [ctl_eq (by rw [pin_len]; omega)]
  unfold pin
  rw [List.getElem_append_right (by simp)]
  simp
theorem pin_lo_step {k j x : Nat} (h : j ≤ k) (o : Option Nat) : (wst (pin k) j [o, none] x).2 = (j + 1, [some x, none]) := by
  unfold wst
  by_cases hx : some x ∈ [o, none]
  · rw [if_pos hx]
    have : o = some x := by
      rcases List.mem_cons.mp hx with z | z
      · exact z.symm
      · have := List.mem_singleton.mp z; cases this
    subst this
    rw [pin_lo h]
    simp [nth]
  · rw [if_neg hx, pin_lo h]
    rfl
theorem pin_hi_step {k x y : Nat} (hy : x ≠ y) (o : Option Nat) : (wst (pin k) (k + 1) [some y, o] x).2 = (k + 1, [some y, some x]) := by
  have ny : ¬ some y = some x := fun z => hy (Option.some.inj z).symm
  unfold wst
  by_cases hx : some x ∈ [some y, o]
  · rw [if_pos hx]
    have : o = some x := by
      rcases List.mem_cons.mp hx with z | z
      · exact absurd z.symm ny
      · exact (List.mem_singleton.mp z).symm
    subst this
    have e : (some y == some x) = false := by simpa using ny
    rw [pin_hi]
    have ix : List.idxOf (some x) [some y, some x] = 1 := by
      rw [List.idxOf_cons, e]; simp
    rw [ix]
    rfl
  · rw [if_neg hx, pin_hi]
    rfl
/-- the first accesses: always line 0 -/
theorem pin_first {k : Nat} : ∀ (l : List Nat) (j : Nat) (o : Option Nat), j + l.length ≤ k + 1 → run (pin k) (j, [o, none]) l = (j + l.length, [match l.getLast? with | none => o | some z => some z, none])
  | [], j, o, _ => rfl
  | x :: l, j, o, h => by
    have h' : j + (l.length + 1) ≤ k + 1 := h
    rw [run]
    show run (pin k) (wst (pin k) j [o, none] x).2 l = _
    rw [pin_lo_step (by omega), pin_first l (j + 1) (some x) (by omega)]
    have e : j + 1 + l.length = j + (x :: l).length := by simp; omega
    rw [e]
    congr 2
    cases l with
    | nil => rfl
    | cons y l =>
      have : (x :: y :: l).getLast? = (y :: l).getLast? := by simp
      rw [this]
      cases w : (y :: l).getLast? with
      | none => simp at w
      | some z => rfl
/-- then one is pinned -/
theorem pin_then {k y : Nat} : ∀ (l : List Nat) (o : Option Nat), (∀ x ∈ l, x ≠ y) → run (pin k) (k + 1, [some y, o]) l = (k + 1, [some y, match l.getLast? with | none => o | some z => some z])
  | [], o, _ => rfl
  | x :: l, o, h => by
    rw [run]
    show run (pin k) (wst (pin k) (k + 1) [some y, o] x).2 l = _
    rw [pin_hi_step (h x (List.mem_cons_self ..)), pin_then l (some x) fun z hz => h z (List.mem_cons_of_mem _ hz)]
    congr 3
    cases l with
    | nil => rfl
    | cons y' l =>
      have : (x :: y' :: l).getLast? = (y' :: l).getLast? := by simp
      rw [this]
      cases w : (y' :: l).getLast? with
      | none => simp at w
      | some z => rfl
theorem take_last {r : List Nat} {k : Nat} (h0 : 0 < k) (h : k ≤ r.length) : (r.take k).getLast? = some (nth r (k - 1)) := by
  rw [List.getLast?_eq_getElem?, List.length_take, Nat.min_eq_left h, List.getElem?_take, if_pos (by omega), List.getElem?_eq_getElem (by omega), nth_eq (by omega)]
/-- lines of a told cache -/
def linesOf (C : List Ctl) : Nat := (ctlAt C 0).hits.length
theorem one_lines : linesOf oneLine = 1 := rfl
theorem pin_lines {k : Nat} : linesOf (pin k) = 2 := by unfold linesOf; rw [pin_lo (Nat.zero_le _)]; rfl
theorem held_pin {r : List Nat} {k at_ : Nat} (ha : at_ ≤ r.length) (hk : k + 1 < at_) (hn : ∀ j, k < j → j < at_ → nth r j ≠ nth r k) : (run (pin k) (0, List.replicate 2 none) (r.take at_)).2 = [some (nth r k), some (nth r (at_ - 1))] := by
  have sp : r.take at_ = r.take (k + 1) ++ (r.take at_).drop (k + 1) := by
    have e : (r.take at_).take (k + 1) = r.take (k + 1) := by rw [List.take_take]; congr 1; omega
    rw [← e, List.take_append_drop]
  have l1 : (r.take (k + 1)).length = k + 1 := by rw [List.length_take]; omega
  have h1 := pin_first (k := k) (r.take (k + 1)) 0 none (by omega)
  rw [l1, Nat.zero_add, take_last (by omega) (by omega), Nat.add_sub_cancel] at h1
  have h2 := pin_then (k := k) (y := nth r k) ((r.take at_).drop (k + 1)) none fun x hx => by
    obtain ⟨i, hi, e⟩ := List.mem_iff_getElem.mp hx
    rw [List.length_drop, List.length_take] at hi
    rw [List.getElem_drop, List.getElem_take] at e
    have := hn (k + 1 + i) (by omega) (by omega)
    rw [nth_eq (i := k + 1 + i) (by omega), e] at this
    exact this
  have l2 : ((r.take at_).drop (k + 1)).getLast? = some (nth r (at_ - 1)) := by
    rw [List.getLast?_drop, if_neg (by rw [List.length_take]; omega), take_last (by omega) ha]
  rw [l2] at h2
  rw [sp, run_app]
  show (run (pin k) (run (pin k) (0, [none, none]) (r.take (k + 1))) _).2 = _
  rw [h1]
  show (run (pin k) (k + 1, [some (nth r k), none]) _).2 = _
  rw [h2]
theorem parts_views {p q : List Nat} {at_ : Nat} {C : List Ctl} (P : Parts p q at_ C) (hl : q.length = p.length) : vws C (linesOf C) p ≠ vws C (linesOf C) q := by
  have tk : p.take at_ = q.take at_ := List.ext_getElem (by rw [List.length_take, List.length_take, hl]) fun i h1 h2 => by
    have lt := P.lt
    rw [List.length_take] at h1 h2
    rw [List.getElem_take, List.getElem_take]
    have := P.eq i (by omega)
    rw [nth_eq (by omega), nth_eq (by omega)] at this
    exact this
  have lt := P.lt
  rcases P.C with ⟨rfl, h0, near⟩ | ⟨nr, k, hk, rfl, same⟩
  · refine parts_of lt (by omega) tk ?_
    have e1 := P.eq (at_ - 1) (by omega)
    have r1 : (run oneLine (0, List.replicate (linesOf oneLine) none) (p.take at_)).2 = [some (nth p (at_ - 1))] := by
      show (run oneLine (0, [none]) (p.take at_)).2 = _
      rw [one_run, take_last h0 (by omega)]
    rw [r1]
    intro z
    have ne := P.ne
    simp only [List.mem_singleton, Option.some.injEq] at z
    rcases near with w | w
    · have : nth q at_ = nth p (at_ - 1) := z ▸ w
      exact ne (w.trans this.symm)
    · have w' : nth q at_ = nth p (at_ - 1) := by rw [w, e1]
      have : nth p at_ = nth p (at_ - 1) := z.symm ▸ w'
      exact ne (this.trans w'.symm)
  · refine parts_of lt (by omega) tk ?_
    have a0 : 0 < at_ := by omega
    obtain ⟨n1, n2⟩ := nr a0
    have e1 := P.eq (at_ - 1) (by omega)
    have ek := P.eq k hk
    rw [pin_lines]
    -- the pinned name is that of k in both
    have kk : k + 1 < at_ := by
      by_cases z : k + 1 < at_
      · exact z
      · have z : k = at_ - 1 := by omega
        rcases same with ⟨w, _⟩ | ⟨w, _⟩
        · rw [z] at w; exact absurd w.symm n1
        · rw [z] at w; exact absurd w.symm n2
    have hn : ∀ j, k < j → j < at_ → nth p j ≠ nth p k := fun j h1 h2 => by
      rcases same with ⟨w, u⟩ | ⟨w, u⟩
      · rw [w]; exact u j h1 h2
      · rw [P.eq j h2, ek, w]; exact u j h1 h2
    rw [held_pin (by omega) kk hn]
    intro z
    have ne := P.ne
    simp only [List.mem_cons, List.not_mem_nil, or_false, Option.some.injEq] at z
    rcases same with ⟨w, _⟩ | ⟨w, _⟩
    · have : nth q at_ = nth p k ∨ nth q at_ = nth p (at_ - 1) := z ▸ .inl w.symm
      rcases this with u | u
      · exact ne (by rw [u, w])
      · exact n2 (by rw [u, e1])
    · have : nth p at_ = nth p k ∨ nth p at_ = nth p (at_ - 1) := z.symm ▸ .inl (by rw [ek, w])
      rcases this with u | u
      · exact ne (by rw [u, ek, w])
      · exact n1 u
end LP
/-! K46k: the named caches are caches, and the law's look at one. -/
namespace LP
open PySem PySem.Spec PyProof.Rows L2 HT
theorem one_cok : Cok oneLine 1 := by
  refine ⟨by decide, by decide, by decide, by decide, fun c hc => ?_, fun c hc => ?_⟩
  · have : c = ⟨[0], 0, 0⟩ := by simpa [oneLine] using hc
    subst this
    exact ⟨rfl, fun v hv => by simp at hv; subst hv; decide⟩
  · have : c = ⟨[0], 0, 0⟩ := by simpa [oneLine] using hc
    subst this
    exact ⟨by decide, by decide⟩
theorem pin_length {k : Nat} : (pin k).length = k + 2 := by simp [pin]
theorem pin_cok {k : Nat} (h : k ≤ 990) : Cok (pin k) 2 := by
  refine ⟨by rw [pin_length]; omega, by rw [pin_length]; omega, by decide, by decide, fun c hc => ?_, fun c hc => ?_⟩
  · rw [pin_length]
    rcases List.mem_append.mp hc with z | z
    · obtain ⟨x, hx, rfl⟩ := List.mem_map.mp z
      have := List.mem_range.mp hx
      exact ⟨rfl, fun v hv => by simp at hv; omega⟩
    · have : c = ⟨[k + 1, k + 1], 1, k + 1⟩ := by simpa using z
      subst this
      exact ⟨rfl, fun v hv => by simp at hv; omega⟩
  · rw [pin_length]
    rcases List.mem_append.mp hc with z | z
    · obtain ⟨x, hx, rfl⟩ := List.mem_map.mp z
      have := List.mem_range.mp hx
      exact ⟨by show 0 < 2; decide, by show x + 1 < k + 2; omega⟩
    · have : c = ⟨[k + 1, k + 1], 1, k + 1⟩ := by simpa using z
      subst this
      exact ⟨by show 1 < 2; decide, by show k + 1 < k + 2; omega⟩
def ic_inner : SF := (ifS (orT (notT (testF (isiF ["int"] (varF 2)))) (orT (testF (isiF ["bool"] (varF 2))) (notT (testF (chainF leK ltK (cF (.int 0)) (varF 2) (blt lenK (consA (varF 0) nilA))))))) (retS (cF (.bl false))) (fun δ h => .nx δ h))
theorem ic_in {C : List Ctl} {v : Nat} (hv : v < C.length) (hz : C.length ≤ 1000) (a : SV) (h : Bx) : ic_inner [.v (cacheD C), a, .v (.int v)] h = .nx [.v (cacheD C), a, .v (.int v)] h := by
  have g : (v : Int) < C.length := by omega
  have g0 : (0 : Int) ≤ v := by omega
  simp only [cacheD]
  simp (decide := true) [ic_inner, hv, g, g0]
theorem ic_inners {C : List Ctl} (hz : C.length ≤ 1000) (a : SV) (h : Bx) : ∀ (l : List Nat) (b : SV), (∀ v ∈ l, v < C.length) → ∃ b', forF (nameU 2) ic_inner (nsD l) [.v (cacheD C), a, b] h = .nx [.v (cacheD C), a, b'] h
  | [], b, _ => ⟨b, by have : nsD ([] : List Nat) = [] := rfl; rw [this, forF_nil]⟩
  | x :: l, b, hl => by
    obtain ⟨b', e⟩ := ic_inners hz a h l (.v (.int x)) fun v hv => hl v (List.mem_cons_of_mem _ hv)
    refine ⟨b', ?_⟩
    have e0 : nsD (x :: l) = .int x :: nsD l := rfl
    rw [e0, forF_nx (δ1 := [.v (cacheD C), a, .v (.int x)]) rfl (ic_in (hl x (List.mem_cons_self ..)) hz a h), e]
theorem ic_turn {C : List Ctl} {L : Nat} (o : Cok C L) (hL : L = 1 ∨ L = 2) {c : Ctl} (hc : c ∈ C) (b : SV) (h : Bx) : ∃ b', p_lis_cache_2b [.v (cacheD C), .v c.d, b] h = .nx [.v (cacheD C), .v c.d, b'] h := by
  have h1 := (o.hits c hc).1
  have h2 := (o.hits c hc).2
  have h3 := o.line c hc
  have hz := o.len
  have m : ctlAt C 0 ∈ C := by rw [ctl_eq o.ne]; exact List.getElem_mem _
  have h0 := (o.hits _ m).1
  have c0 : (C.map Ctl.d)[0]? = some (ctlAt C 0).d := by
    rw [List.getElem?_map, List.getElem?_eq_getElem o.ne, ctl_eq o.ne]; rfl
  have ap : nsD c.hits ++ [.int (c.next : Int)] = nsD (c.hits ++ [c.next]) := by simp [nsD, nD]
  obtain ⟨b', e⟩ := ic_inners hz (.v c.d) h (c.hits ++ [c.next]) b fun v hv => by
    rcases List.mem_append.mp hv with z | z
    · exact h2 v z
    · simp at z; subst z; exact h3.2
  have g1 : (c.line : Int) < L := by omega
  have lh : (nsD c.hits).length = L := by rw [← h1]; simp [nsD]
  have l0 : (nsD (ctlAt C 0).hits).length = L := by rw [← h0]; simp [nsD]
  have zL : L + 1 ≤ 1000000 := by omega
  refine ⟨b', ?_⟩
  rw [p_lis_cache_2b, seq_nx (δ' := [.v (cacheD C), .v c.d, b]) (h' := h) ?_, seq_nx (δ' := [.v (cacheD C), .v c.d, b]) (h' := h) ?_, seq_nx (δ' := [.v (cacheD C), .v c.d, b']) (h' := h) ?_]
  · have e1 : ¬ (c.line : Int) < 0 := by omega
    simp only [Ctl.d, cacheD]
    simp (decide := true) [p_lis_cache_2b_4, lh, g1, bOf]
  · rw [p_lis_cache_2b_3, forS_ap]
    have it : itemsI (bin2 addK (bin2 ixK (varF 1) (cF (.int 0))) (tupF (consA (bin2 ixK (varF 1) (cF (.int 2))) nilA))) [.v (cacheD C), .v c.d, b] h = .ok (nsD (c.hits ++ [c.next])) h := by
      simp only [Ctl.d, cacheD]
      simp (decide := true) [lh, zL, ap, h1]
    rw [it, R.toS_ok]
    unfold ic_inner at e
    exact e
  · simp only [cacheD]
    rcases hL with rfl | rfl
    · simp (decide := true) [p_lis_cache_2b_2, Ctl.d, lh, l0, c0, bOf, h1, h0]
    · simp (decide := true) [p_lis_cache_2b_2, Ctl.d, lh, l0, c0, bOf, h1, h0]
  · simp only [Ctl.d, cacheD]
    simp (decide := true) [p_lis_cache_2b_1, bOf]
theorem ic_turns {C : List Ctl} {L : Nat} (o : Cok C L) (hL : L = 1 ∨ L = 2) (h : Bx) : ∀ (l : List Ctl) (a b : SV), (∀ c ∈ l, c ∈ C) → ∃ a' b', forF (nameU 1) p_lis_cache_2b (l.map Ctl.d) [.v (cacheD C), a, b] h = .nx [.v (cacheD C), a', b'] h
  | [], a, b, _ => ⟨a, b, by rw [List.map_nil, forF_nil]⟩
  | c :: l, a, b, hl => by
    obtain ⟨b1, e1⟩ := ic_turn o hL (hl c (List.mem_cons_self ..)) b h
    obtain ⟨a', b', e⟩ := ic_turns o hL h l (.v c.d) b1 fun v hv => hl v (List.mem_cons_of_mem _ hv)
    refine ⟨a', b', ?_⟩
    rw [List.map_cons, forF_nx (δ1 := [.v (cacheD C), .v c.d, b]) rfl e1, e]
theorem is_cache_ok {C : List Ctl} {L : Nat} (o : Cok C L) (hL : L = 1 ∨ L = 2) (hz : C.length ≤ 60) (h : Bx) : F__law_is_cache [cacheD C] h = .ok (.bl true) h := by
  have st : startD N__law_is_cache.length [cacheD C] = [.v (cacheD C), .no, .no] := rfl
  obtain ⟨a', b', e⟩ := ic_turns o hL h C .no .no fun c hc => hc
  have ne := o.ne
  have g1 : (1 : Int) ≤ C.length := by omega
  have g2 : (C.length : Int) ≤ 60 := by omega
  rw [F__law_is_cache, runF_ap, sf__law_is_cache_eq, p_lis_cache, st]
  rw [seq_nx (δ' := [.v (cacheD C), .no, .no]) (h' := h) (by
    simp only [cacheD]
    simp (decide := true) [p_lis_cache_1, bOf, g1, g2, ne, hz])]
  rw [seq_nx (δ' := [.v (cacheD C), a', b']) (h' := h) ?_]
  · simp [p_lis_cache_3]
  · rw [p_lis_cache_2, forS_ap]
    have it : itemsI (varF 0) [.v (cacheD C), .no, .no] h = .ok (C.map Ctl.d) h := by simp [cacheD]
    rw [it, R.toS_ok]
    exact e
end LP
/-! K46l: what is drawn: the deal. -/
namespace LP
open PySem PySem.Spec PyProof.Rows L2 HT
def dr_body : SF := (setS 3 (bin2 modK (blt intK (consA (bin2 addK (bin2 addK (bin2 mulA (varF 3) (cF (.int 48271))) (bin2 modK (varF 4) (cF (.int 2147483549)))) (cF (.int 11))) nilA)) (cF (.int 2147483647))))
theorem dr_loop (a0 a1 a2 : SV) (h : Bx) : ∀ (l : List Int) (b : Int) (a4 : SV), ∃ (b' : Int) (a4' : SV), forF (nameU 4) dr_body (zsD l) [a0, a1, a2, .v (.int b), a4] h = .nx [a0, a1, a2, .v (.int b'), a4'] h
  | [], b, a4 => ⟨b, a4, by have : zsD [] = [] := rfl; rw [this, forF_nil]⟩
  | x :: l, b, a4 => by
    obtain ⟨b', a4', e⟩ := dr_loop a0 a1 a2 h l ((b * 48271 + x % 2147483549 + 11) % 2147483647) (.v (.int x))
    refine ⟨b', a4', ?_⟩
    have e0 : zsD (x :: l) = .int x :: zsD l := rfl
    rw [e0, forF_nx (δ1 := [a0, a1, a2, .v (.int b), .v (.int x)]) rfl (δ2 := [a0, a1, a2, .v (.int ((b * 48271 + x % 2147483549 + 11) % 2147483647)), .v (.int x)]) (h2 := h) (by simp (decide := true) [dr_body]), e]
theorem draw_ok {ns : List Int} (hn : ns.length ≤ 63) : ∃ h', F__law_draw [.frz (ns.map D.int), .int 46] [] = .ok (.ptr 1) h' ∧ Dl h' := by
  have st : startD N__law_draw.length [.frz (ns.map D.int), .int 46] = [.v (.frz (ns.map D.int)), .v (.int 46), .no, .no, .no] := rfl
  let cs : List Int := (ns.take 48).map fun n => if n < 0 then -n else n
  have cl : cs.length ≤ 48 := by simp [cs]; omega
  have c1 := compF_map (u := nameU 4) (ef := blt absK (consA (blt intK (consA (varF 4) nilA)) nilA)) (δ := [.v (.frz (ns.map D.int)), .v (.int 46), .no, .no, .no]) (h := ([] : Bx))
    (g := fun d => match d with | .int n => .int (if n < 0 then -n else n) | x => x) (ds := (ns.take 48).map D.int) fun d hd => by
      obtain ⟨v, _, rfl⟩ := List.mem_map.mp hd
      refine ⟨_, rfl, ?_, rfl⟩
      simp
  have cm : ((ns.take 48).map D.int).map (fun d => match d with | .int n => D.int (if n < 0 then -n else n) | x => x) = zsD cs := by
    show _ = List.map D.int (List.map (fun n : Int => if n < 0 then -n else n) (ns.take 48))
    rw [List.map_map, List.map_map]
    exact List.map_congr_left fun x _ => rfl
  rw [cm] at c1
  obtain ⟨b', a4', e⟩ := dr_loop (.v (.frz (ns.map D.int))) (.v (.int 46)) (.v (.lst (zsD cs))) [] cs (7919 + 104729 * 46) .no
  have tk : (ns.map D.int).take 48 = (ns.take 48).map D.int := by rw [List.map_take]
  have lt : ((ns.take 48).map D.int).length ≤ 1000000 := by simp; omega
  have s1 : p_ldraw_1 [.v (.frz (ns.map D.int)), .v (.int 46), .no, .no, .no] [] = .nx [.v (.frz (ns.map D.int)), .v (.int 46), .v (.lst (zsD cs)), .no, .no] [] := by
    have it : itemsI (slF (varF 0) noO (someO (cF (.int 48)))) [.v (.frz (ns.map D.int)), .v (.int 46), .no, .no, .no] [] = .ok ((ns.take 48).map D.int) [] := by
      rw [← tk]
      simp (decide := true)
    have w : wipeD [.v (.frz (ns.map D.int)), .v (.int 46), .no, .no, .no] [4] = [.v (.frz (ns.map D.int)), .v (.int 46), .no, .no, .no] := rfl
    rw [p_ldraw_1, endFrz_ap, ownS_ap, lcN_ap, it, R.bind_ok, if_pos lt, w, c1]
    rfl
  let ls : List Int := cs.filter fun n => decide ((1000000000000000000 : Int) ≤ n)
  have c2 := compF_filter (u := nameU 4) (tf := (testF (bin2 geK (varF 4) (bin2 powK (cF (.int 10)) (cF (.int 18)))))) (ef := varF 4) (δ := [.v (.frz (ns.map D.int)), .v (.int 46), .v (.lst (zsD cs)), .v (.int b'), .no]) (h := ([] : Bx))
    (g := fun d => d) (p := fun d => match d with | .int n => decide ((1000000000000000000 : Int) ≤ n) | _ => false) (ds := zsD cs) fun d hd => by
      obtain ⟨v, _, rfl⟩ := List.mem_map.mp hd
      refine ⟨_, rfl, ?_, fun _ => ⟨?_, rfl⟩⟩
      · simp (decide := true) [bOf]
      · simp
  have cf : ((zsD cs).filter (fun d => match d with | .int n => decide ((1000000000000000000 : Int) ≤ n) | _ => false)).map (fun d => d) = zsD ls := by
    simp [ls, zsD, List.filter_map]
    rfl
  rw [cf] at c2
  have ll : ls.length ≤ 48 := Nat.le_trans (List.length_filter_le _ _) cl
  refine ⟨[zsD ls.reverse, [.ptr 0, .int b']], ?_, ls.reverse, b', rfl, by simpa using ll⟩
  rw [F__law_draw, runF_ap, sf__law_draw_eq, p_ldraw, st, seq_nx s1]
  rw [seq_nx (δ' := [.v (.frz (ns.map D.int)), .v (.int 46), .v (.lst (zsD cs)), .v (.int (7919 + 104729 * 46)), .no]) (h' := []) (by simp (decide := true) [p_ldraw_2])]
  rw [seq_nx (δ' := [.v (.frz (ns.map D.int)), .v (.int 46), .v (.lst (zsD cs)), .v (.int b'), a4']) (h' := []) ?_]
  · have it : itemsI (varF 2) [.v (.frz (ns.map D.int)), .v (.int 46), .v (.lst (zsD cs)), .v (.int b'), a4'] [] = .ok (zsD cs) [] := by simp
    have w : wipeD [.v (.frz (ns.map D.int)), .v (.int 46), .v (.lst (zsD cs)), .v (.int b'), a4'] [4] = [.v (.frz (ns.map D.int)), .v (.int 46), .v (.lst (zsD cs)), .v (.int b'), .no] := rfl
    have lz : (zsD cs).length ≤ 1000000 := by simp [zsD]; omega
    have rv : (zsD ls).reverse = zsD ls.reverse := by simp [zsD]
    have q : lcN (itemsI (varF 2)) [4] (nameU 4) (testF (bin2 geK (varF 4) (bin2 powK (cF (.int 10)) (cF (.int 18))))) (varF 4) [.v (.frz (ns.map D.int)), .v (.int 46), .v (.lst (zsD cs)), .v (.int b'), a4'] [] = .ok (zsD ls) [] := by
      rw [lcN_ap, it, R.bind_ok, if_pos lz, w, c2]
    have q2 : revN (valN (lcN (itemsI (varF 2)) [4] (nameU 4) (testF (bin2 geK (varF 4) (bin2 powK (cF (.int 10)) (cF (.int 18))))) (varF 4))) [.v (.frz (ns.map D.int)), .v (.int 46), .v (.lst (zsD cs)), .v (.int b'), a4'] [] = .ok (zsD ls.reverse) [] := by
      unfold revN
      rw [valN_ap, q, R.bind_ok, R.bind_ok, ← rv]
      simp
    simp [p_ldraw_4, q2]
  · rw [p_ldraw_3, forS_ap]
    have it : itemsI (varF 2) [.v (.frz (ns.map D.int)), .v (.int 46), .v (.lst (zsD cs)), .v (.int (7919 + 104729 * 46)), .no] [] = .ok (zsD cs) [] := by simp
    rw [it, R.toS_ok]
    unfold dr_body at e
    exact e
end LP
/-! K46m: one of a list; wrong rows. -/
namespace LP
open PySem PySem.Spec PyProof.Rows L2 HT
theorem of_ok {h : Bx} (B : Dl h) (ds : List D) (h0 : 0 < ds.length) (h1 : ds.length < 1000) (hv : ∀ d ∈ ds, isV d = true) : ∃ (d : D) (h' : Bx), d ∈ ds ∧ F__law_of [.ptr 1, .lst ds] h = .ok d h' ∧ Dl h' := by
  obtain ⟨x, h', q1, q2, q3⟩ := any_ok B h0 (by omega)
  have e1 : atI ds (x : Int) = some ds[x] := by rw [atI_nat q1, List.getElem?_eq_getElem q1]
  have e2 := fun δ h => retK_v (δ := δ) (h := h) (hv _ (List.getElem_mem q1))
  exact ⟨ds[x], h', List.getElem_mem q1, by simp [F__law_of, runF_ap, sf__law_of, startD, q2, e1, e2], q3⟩
/-- a wrong row, and where -/
structure Bad (d : D) (k : Int) : Prop where
  v : isV d = true
  e : ∀ h, F_need_accesses [d] h = .exc "InvalidIndex" [("at", .int k)] h
theorem isnum_non {h : Bx} : F_is_number [.non] h = .ok (.bl false) h := by
  simp (decide := true) [F_is_number, runF_ap, sf_is_number, F_is_integer, sf_is_integer, startD]
theorem isnum_bl {h : Bx} {b : Bool} : F_is_number [.bl b] h = .ok (.bl false) h := by
  simp (decide := true) [F_is_number, runF_ap, sf_is_number, F_is_integer, sf_is_integer, startD]
theorem isnum_str {h : Bx} {s : Str} : F_is_number [.str s] h = .ok (.bl false) h := by
  simp (decide := true) [F_is_number, runF_ap, sf_is_number, F_is_integer, sf_is_integer, startD]
theorem isnum_neg {h : Bx} : F_is_number [.int (-1)] h = .ok (.bl false) h := by
  simp (decide := true) [F_is_number, runF_ap, sf_is_number, F_is_integer, sf_is_integer, startD]
theorem isnum_0 {h : Bx} : F_is_number [.int 0] h = .ok (.bl true) h := isnum_nat (n := 0)
theorem bad_of {d : D} {k : Int} (hd : (d = .non ∧ k = -1) ∨ (d = .int 3 ∧ k = -1) ∨ (d = .str "01" ∧ k = -1) ∨ (d = .lst [.int 0, .non] ∧ k = 1) ∨ (d = .tup [.int (-1)] ∧ k = 0) ∨ (d = .lst [.int 0, .int 0, .bl true] ∧ k = 2) ∨ (d = .lst [.str "0"] ∧ k = 0)) : Bad d k := by
  rcases hd with ⟨rfl, rfl⟩ | ⟨rfl, rfl⟩ | ⟨rfl, rfl⟩ | ⟨rfl, rfl⟩ | ⟨rfl, rfl⟩ | ⟨rfl, rfl⟩ | ⟨rfl, rfl⟩ <;>
  exact ⟨rfl, fun h => by
    simp (decide := true) [F_need_accesses, runF_ap, sf_need_accesses, F_is_sequence, sf_is_sequence, startD, isnum_non, isnum_bl, isnum_str, isnum_neg, isnum_0, enumK, enumD, forF, List.range_succ]⟩
theorem wrong_ok {h : Bx} (B : Dl h) : ∃ (d : D) (k : Int) (h' : Bx), Bad d k ∧ F__law_wrong_row [.ptr 1] h = .ok (.tup [d, .int k]) h' ∧ Dl h' := by
  obtain ⟨x, h', m, e, B'⟩ := of_ok B [.tup [.non, .int (-1)], .tup [.int 3, .int (-1)], .tup [.str "01", .int (-1)], .tup [.lst [.int 0, .non], .int 1], .tup [.tup [.int (-1)], .int 0], .tup [.lst [.int 0, .int 0, .bl true], .int 2], .tup [.lst [.str "0"], .int 0]] (by decide) (by decide) (fun d hd => by
    simp only [List.mem_cons, List.not_mem_nil, or_false] at hd
    rcases hd with rfl | rfl | rfl | rfl | rfl | rfl | rfl <;> rfl)
  have E : ∀ y : D, x = y → isV y = true → F__law_wrong_row [.ptr 1] h = .ok y h' := fun y hy hv => by
    subst hy
    have e2 := fun δ h => retK_v (δ := δ) (h := h) hv
    simp (decide := true) [F__law_wrong_row, runF_ap, sf__law_wrong_row, startD, e, e2]
  simp only [List.mem_cons, List.not_mem_nil, or_false] at m
  rcases m with z | z | z | z | z | z | z <;> exact ⟨_, _, h', bad_of (by simp), E _ z rfl, B'⟩
theorem bad_pat {d : D} {k : Int} (b : Bad d k) (h : Bx) : F_row_pattern [d] h = .exc "InvalidIndex" [("at", .int k)] h := by
  have a := b.e h
  have v := b.v
  simp (decide := true) [F_row_pattern, runF_ap, sf_row_pattern, startD, a, v]
theorem bad_part1 {d e : D} {k : Int} (b : Bad d k) (h : Bx) (hv : isV e = true) : F_parting_cache [d, e] h = .exc "InvalidIndex" [("at", .int k)] h := by
  have a := bad_pat b h
  have v := b.v
  have st : startD N_parting_cache.length [d, e] = [.v d, .v e, .no, .no, .no] := rfl
  rw [F_parting_cache, runF_ap, sf_parting_cache_eq, p_parting_cache, st]
  rw [seq_exc (c := "InvalidIndex") (fs := [("at", .int k)]) (δ' := [.v d, .v e, .no, .no, .no]) (h' := h) (by simp (decide := true) [p_parting_cache_1, a, v])]
  rfl
theorem bad_part2 {d e : D} {k : Int} {l : List Nat} (r : IsRow e l) (hz : l.length ≤ 1000) (b : Bad d k) (h : Bx) : F_parting_cache [e, d] h = .exc "InvalidIndex" [("at", .int k)] h := by
  have a := bad_pat b h
  have c := rowpat_ok r hz h
  have v := b.v
  have ve : isV e = true := by rcases r with rfl | rfl <;> rfl
  have st : startD N_parting_cache.length [e, d] = [.v e, .v d, .no, .no, .no] := rfl
  rw [F_parting_cache, runF_ap, sf_parting_cache_eq, p_parting_cache, st]
  rw [seq_exc (c := "InvalidIndex") (fs := [("at", .int k)]) (δ' := [.v e, .v d, .no, .no, .no]) (h' := h) (by simp (decide := true) [p_parting_cache_1, a, c, v, ve])]
  rfl
end LP
/-! K46o: drawn rows and caches. -/
namespace LP
open PySem PySem.Spec PyProof.Rows L2 HT
theorem nums_of {m : Nat} : ∀ {ds ys : List D}, All2 (fun _ y => ∃ v : Nat, v < m ∧ y = nD v) ds ys → ∃ t : List Nat, ys = nsD t ∧ t.length = ds.length ∧ ∀ v ∈ t, v < m
  | _, _, .nil => ⟨[], rfl, rfl, fun v hv => by simp at hv⟩
  | _, _, .cons ⟨v, hv, e⟩ t => by
    obtain ⟨t', e1, e2, e3⟩ := nums_of t
    refine ⟨v :: t', by rw [e, e1]; rfl, by simp [e2], fun w hw => ?_⟩
    rcases List.mem_cons.mp hw with hw | hw
    · subst hw; exact hv
    · exact e3 w hw
theorem draws_ok {h : Bx} (B : Dl h) {m n : Nat} (h0 : 0 < m) (h1 : m < 1073741824) {δ : DE} {i : Nat} {f : EF} (hi : 0 < i) (e0 : δ[0]? = some (.v (.ptr 1))) (hf : ∀ (d : D) (h : Bx), f (δ.set i (.v d)) h = .ok (.int m) h) :
    ∃ (t : List Nat) (h' : Bx), compF (nameU i) yesF (callF (nArgs 2 F__law_any) (consA (varF 0) (consA f nilA))) δ (rgD 0 (n : Int)) h = .ok (nsD t) h' ∧ t.length = n ∧ (∀ v ∈ t, v < m) ∧ Dl h' := by
  obtain ⟨ys, h', e1, e2, e3⟩ := compF_st (u := nameU i) (ef := callF (nArgs 2 F__law_any) (consA (varF 0) (consA f nilA))) (δ := δ) (P := Dl) (Q := fun _ y => ∃ v : Nat, v < m ∧ y = nD v) (ds := rgD 0 (n : Int)) B fun d hd h B => by
    obtain ⟨x, h', q1, q2, q3⟩ := any_ok B h0 h1
    have e : (δ.set i (.v d))[0]? = some (.v (.ptr 1)) := by rw [List.getElem?_set_ne (by omega)]; exact e0
    exact ⟨δ.set i (.v d), nD x, h', rfl, by simp [e, hf, q2, nD], rfl, ⟨x, q1, rfl⟩, q3⟩
  obtain ⟨t, rfl, t1, t2⟩ := nums_of e3
  exact ⟨t, h', e1, by rw [t1, rgD_length], t2, e2⟩
/-! ### two rows -/
def tw_body : SF := (ifS (testF (bin2 (eqK true) (varF 1) (lstF nilA)))
    (setiS 2 (callF (nArgs 2 F__law_any) (consA (varF 0) (consA (blt lenK (consA (varF 1) nilA)) nilA))) (callF (nArgs 2 F__law_any) (consA (varF 0) (consA (cF (.int 5)) nilA))))
    (fun δ h => .nx δ h))
theorem tw_step {one other : List Nat} (z : one.length < 10) (hl : other.length = one.length) {h : Bx} (B : Dl h) (a3 a4 a5 a6 : SV) :
    ∃ (o2 : List Nat) (h' : Bx), o2.length = one.length ∧ tw_body [.v (.ptr 1), .v (.lst (nsD one)), .own (nsD other), a3, a4, a5, a6] h = .nx [.v (.ptr 1), .v (.lst (nsD one)), .own (nsD o2), a3, a4, a5, a6] h' ∧ Dl h' := by
  by_cases e : one = []
  · subst e
    have e0 : nsD ([] : List Nat) = [] := rfl
    refine ⟨other, h, hl, ?_, B⟩
    simp (decide := true) [tw_body, e0]
  · have p : 0 < one.length := List.length_pos_iff.mpr e
    have ne : (nsD one).isEmpty = false := by cases one <;> first | exact absurd rfl e | rfl
    obtain ⟨x, h1, x1, x2, B1⟩ := any_ok B (m := 5) (by decide) (by decide)
    obtain ⟨y, h2, y1, y2, B2⟩ := any_ok B1 (m := one.length) p (by omega)
    have il := ixN_nat (m := other.length) (n := y) (by omega)
    have st : (nsD other).set y (.int (x : Int)) = nsD (other.set y x) := by
      unfold nsD
      rw [List.map_set]; rfl
    have x2' : F__law_any [.ptr 1, .int 5] h = .ok (.int x) h1 := x2
    refine ⟨other.set y x, h2, by rw [List.length_set]; exact hl, ?_, B2⟩
    simp (decide := true) [tw_body, eqs_nil_r, ne, x2', y2, il, st]
theorem tw_loop {one : List Nat} (z : one.length < 10) (a4 a5 a6 : SV) : ∀ (ds : List D) (other : List Nat) (a3 : SV) (h : Bx), Dl h → other.length = one.length →
    ∃ (o2 : List Nat) (b3 : SV) (h' : Bx), o2.length = one.length ∧ forF (nameU 3) tw_body ds [.v (.ptr 1), .v (.lst (nsD one)), .own (nsD other), a3, a4, a5, a6] h = .nx [.v (.ptr 1), .v (.lst (nsD one)), .own (nsD o2), b3, a4, a5, a6] h' ∧ Dl h'
  | [], other, a3, h, B, hl => ⟨other, a3, h, hl, by rw [forF_nil], B⟩
  | d :: ds, other, a3, h, B, hl => by
    obtain ⟨o1, h1, l1, e1, B1⟩ := tw_step z hl B (.v d) a4 a5 a6
    obtain ⟨o2, b3, h2, l2, e2, B2⟩ := tw_loop z a4 a5 a6 ds o1 (.v d) h1 B1 l1
    exact ⟨o2, b3, h2, l2, by rw [forF_nx (δ1 := [.v (.ptr 1), .v (.lst (nsD one)), .own (nsD other), .v d, a4, a5, a6]) rfl e1, e2], B2⟩
theorem two_ok {h : Bx} (B : Dl h) : ∃ (one other : List Nat) (h' : Bx), one.length = other.length ∧ one.length < 10 ∧ F__law_two [.ptr 1] h = .ok (.tup [.lst (nsD one), .lst (nsD other)]) h' ∧ Dl h' := by
  have st : startD N__law_two.length [.ptr 1] = [.v (.ptr 1), .no, .no, .no, .no, .no, .no] := rfl
  obtain ⟨n, h1, n1, n2, B1⟩ := any_ok B (m := 10) (by decide) (by decide)
  obtain ⟨one, h2, c1, c2, c3, B2⟩ := draws_ok B1 (m := 4) (n := n) (by decide) (by decide) (δ := [.v (.ptr 1), .no, .no, .no, .no, .no, .no]) (i := 5) (f := cF (.int 4)) (by decide) rfl (fun d h => by simp)
  obtain ⟨k, h3, k1, k2, B3⟩ := any_ok B2 (m := 3) (by decide) (by decide)
  obtain ⟨o2, b3, h4, l2, e4, B4⟩ := tw_loop (one := one) (by omega) .no .no .no (rgD 0 (k : Int)) one .no h3 B3 rfl
  obtain ⟨w, h5, w1, w2, B5⟩ := any_ok B4 (m := 3) (by decide) (by decide)
  have n2' : F__law_any [.ptr 1, .int 10] h = .ok (.int n) h1 := n2
  have k2' : F__law_any [.ptr 1, .int 3] h2 = .ok (.int k) h3 := k2
  have w2' : F__law_any [.ptr 1, .int 3] h4 = .ok (.int w) h5 := w2
  have c := compF_map (u := nameU 6) (ef := (bin2 addK (bin2 mulA (varF 6) (bin2 addK (cF (.int 1)) (varF 4))) (varF 4))) (δ := [.v (.ptr 1), .v (.lst (nsD one)), .v (.lst (nsD o2)), b3, .v (.int w), .no, .no]) (h := h5)
    (g := fun d => match d with | .int x => .int ((x.toNat * (1 + w) + w : Nat) : Int) | x => x) (ds := nsD o2) fun d hd => by
      obtain ⟨x, _, rfl⟩ := List.mem_map.mp hd
      refine ⟨_, rfl, ?_, rfl⟩
      have g1 : (-18446744073709551616 : Int) < 1 + (w : Int) := by omega
      have g2 : 1 + (w : Int) < 18446744073709551616 := by omega
      simp [nD, g1, g2]
  have cm : (nsD o2).map (fun d => match d with | .int x => D.int ((x.toNat * (1 + w) + w : Nat) : Int) | x => x) = nsD (o2.map fun x => x * (1 + w) + w) := by
    unfold nsD
    rw [List.map_map, List.map_map]
    exact List.map_congr_left fun x _ => by simp [nD]
  rw [cm] at c
  refine ⟨one, o2.map fun x => x * (1 + w) + w, h5, by simp [l2], by omega, ?_, B5⟩
  have rn : (rgD 0 (n : Int)).length ≤ 1000000 := by rw [rgD_length]; omega
  have rc := rgC_nat (n := n) (by omega)
  have rk := rgC_nat (n := k) (by omega)
  have lo : one.length ≤ 1000000 := by omega
  rw [F__law_two, runF_ap, sf__law_two_eq, p_ltwo, st]
  rw [seq_nx (δ' := [.v (.ptr 1), .v (.lst (nsD one)), .no, .no, .no, .no, .no]) (h' := h2) ?_]
  · rw [seq_nx (δ' := [.v (.ptr 1), .v (.lst (nsD one)), .own (nsD one), .no, .no, .no, .no]) (h' := h2) (by simp (decide := true) [p_ltwo_2, lo])]
    rw [seq_nx (δ' := [.v (.ptr 1), .v (.lst (nsD one)), .own (nsD o2), b3, .no, .no, .no]) (h' := h4) ?_]
    · rw [seq_nx (δ' := [.v (.ptr 1), .v (.lst (nsD one)), .own (nsD o2), b3, .v (.int w), .no, .no]) (h' := h5) (by simp (decide := true) [p_ltwo_4, w2'])]
      have lz : (nsD o2).length ≤ 1000000 := by simp; omega
      obtain ⟨G, hG⟩ : ∃ G, G = valN (lcN (itemsI (varF 2)) [6] (nameU 6) yesF (bin2 addK (bin2 mulA (varF 6) (bin2 addK (cF (.int 1)) (varF 4))) (varF 4))) := ⟨_, rfl⟩
      have it : itemsI (varF 2) [.v (.ptr 1), .v (.lst (nsD one)), .v (.lst (nsD o2)), b3, .v (.int w), .no, .no] h5 = .ok (nsD o2) h5 := by simp
      have wp : wipeD [.v (.ptr 1), .v (.lst (nsD one)), .v (.lst (nsD o2)), b3, .v (.int w), .no, .no] [6] = [.v (.ptr 1), .v (.lst (nsD one)), .v (.lst (nsD o2)), b3, .v (.int w), .no, .no] := rfl
      have qG : G [.v (.ptr 1), .v (.lst (nsD one)), .v (.lst (nsD o2)), b3, .v (.int w), .no, .no] h5 = .ok (.lst (nsD (o2.map fun x => x * (1 + w) + w))) h5 := by
        rw [hG, valN_ap, lcN_ap, it, R.bind_ok, if_pos lz, wp, c, R.bind_ok]
      have pe : p_ltwo_5 = frzS 2 (retS (tupF (consA (varF 1) (consA G nilA)))) := by rw [hG]; rfl
      rw [pe]
      simp [qG]
    · rw [p_ltwo_3, forS_ap]
      have it : ((consA (callF (nArgs 2 F__law_any) (consA (varF 0) (consA (cF (.int 3)) nilA))) nilA) [.v (.ptr 1), .v (.lst (nsD one)), .own (nsD one), .no, .no, .no, .no] h2).bind rg1K = .ok (rgD 0 (k : Int)) h3 := by simp [k2', rk]
      rw [it, R.toS_ok]
      unfold tw_body at e4
      exact e4
  · have it : ((consA (callF (nArgs 2 F__law_any) (consA (varF 0) (consA (cF (.int 10)) nilA))) nilA) [.v (.ptr 1), .no, .no, .no, .no, .no, .no] h).bind rg1K = .ok (rgD 0 (n : Int)) h1 := by simp [n2', rc]
    have w : wipeD [.v (.ptr 1), .no, .no, .no, .no, .no, .no] [5] = [.v (.ptr 1), .no, .no, .no, .no, .no, .no] := rfl
    rw [p_ltwo_1, endFrz_ap, ownS_ap, lcN_ap, it, R.bind_ok, if_pos rn, w, c1]
    rfl
/-! ### a drawn cache -/
theorem ca_turn {h : Bx} (B : Dl h) {L n kd c : Nat} (hL : 0 < L ∧ L ≤ 3) (hn : 0 < n ∧ n ≤ 4) (hc : c < n) {C : List Ctl} (hC : C.length ≤ 100) (a6 a7 a8 : SV) :
    ∃ (t : Ctl) (h' : Bx), (t.hits.length = L ∧ (∀ v ∈ t.hits, v < n) ∧ t.line < L ∧ t.next < n) ∧ p_lcache_3b [.v (.ptr 1), .v (.int L), .v (.int n), .v (.int kd), .own (C.map Ctl.d), .v (.int c), a6, a7, a8] h = .nx [.v (.ptr 1), .v (.int L), .v (.int n), .v (.int kd), .own ((C ++ [t]).map Ctl.d), .v (.int c), .v (.tup (nsD t.hits)), .v (.int t.line), .v (.int t.next)] h' ∧ Dl h' := by
  have gL : (0 : Int) < L := by omega
  have gn : (0 : Int) < n := by omega
  obtain ⟨ys, h1, e1, B1, q⟩ := compF_st (u := nameU 7) (ef := (iteF (testF (bin2 gtK (varF 3) (cF (.int 0)))) (callF (nArgs 2 F__law_any) (consA (varF 0) (consA (varF 2) nilA))) (varF 5))) (δ := [.v (.ptr 1), .v (.int L), .v (.int n), .v (.int kd), .own (C.map Ctl.d), .v (.int c), a6, .no, a8]) (P := Dl) (Q := fun _ y => ∃ v : Nat, v < n ∧ y = nD v) (ds := rgD 0 (L : Int)) B fun d hd h B => by
    obtain ⟨x, h', q1, q2, q3⟩ := any_ok B (m := n) hn.1 (by omega)
    by_cases hk : 0 < kd
    · have gk : (0 : Int) < kd := by omega
      exact ⟨_, nD x, h', rfl, by simp (decide := true) [bOf, hk, q2, nD], rfl, ⟨x, q1, rfl⟩, q3⟩
    · have gk : ¬ (0 : Int) < kd := by omega
      exact ⟨_, nD c, h, rfl, by simp (decide := true) [bOf, hk, nD], rfl, ⟨c, hc, rfl⟩, B⟩
  obtain ⟨hits, rfl, t1, t2⟩ := nums_of q
  rw [rgD_length] at t1
  obtain ⟨x, h2, x1, x2, B2⟩ := any_ok B1 (m := L) hL.1 (by omega)
  have s2 : ∃ (l : Nat) (h' : Bx), l < L ∧ Dl h' ∧ p_lcache_3b_2 [.v (.ptr 1), .v (.int L), .v (.int n), .v (.int kd), .own (C.map Ctl.d), .v (.int c), .v (.tup (nsD hits)), a7, a8] h1 = .nx [.v (.ptr 1), .v (.int L), .v (.int n), .v (.int kd), .own (C.map Ctl.d), .v (.int c), .v (.tup (nsD hits)), .v (.int l), a8] h' := by
    by_cases hk : kd < 2
    · have gk : (kd : Int) < 2 := by omega
      have ne : ¬ (L : Int) = 0 := by omega
      have nl : ¬ L = 0 := by omega
      have gl2 : (L : Int) < 18446744073709551616 := by omega
      have z := hL.1
      refine ⟨c % L, h1, Nat.mod_lt _ hL.1, B1, ?_⟩
      simp (decide := true) [p_lcache_3b_2, bOf, hk, gk, gL, ne, nl, gl2, z]
    · have gk : ¬ (kd : Int) < 2 := by omega
      refine ⟨x, h2, x1, B2, ?_⟩
      simp (decide := true) [p_lcache_3b_2, bOf, hk, gk, x2]
  obtain ⟨l, h3, l1, B3, s2⟩ := s2
  obtain ⟨y, h4, y1, y2, B4⟩ := any_ok B3 (m := n) hn.1 (by omega)
  have s3 : ∃ (w : Nat) (h' : Bx), w < n ∧ Dl h' ∧ p_lcache_3b_3 [.v (.ptr 1), .v (.int L), .v (.int n), .v (.int kd), .own (C.map Ctl.d), .v (.int c), .v (.tup (nsD hits)), .v (.int l), a8] h3 = .nx [.v (.ptr 1), .v (.int L), .v (.int n), .v (.int kd), .own (C.map Ctl.d), .v (.int c), .v (.tup (nsD hits)), .v (.int l), .v (.int w)] h' := by
    by_cases hk : kd < 3
    · have gk : (kd : Int) < 3 := by omega
      have nl : ¬ n = 0 := by omega
      have gl2 : (n : Int) < 18446744073709551616 := by omega
      have z := hn.1
      refine ⟨(c + 1) % n, h3, Nat.mod_lt _ hn.1, B3, ?_⟩
      simp (decide := true) [p_lcache_3b_3, bOf, hk, gk, gn, nl, gl2, z]
    · have gk : ¬ (kd : Int) < 3 := by omega
      refine ⟨y, h4, y1, B4, ?_⟩
      simp (decide := true) [p_lcache_3b_3, bOf, hk, gk, y2]
  obtain ⟨w, h5, w1, B5, s3⟩ := s3
  refine ⟨⟨hits, l, w⟩, h5, ⟨t1, t2, l1, w1⟩, ?_, B5⟩
  have rc := rgC_nat (n := L) (by omega)
  have lz : (rgD 0 (L : Int)).length ≤ 1000000 := by rw [rgD_length]; omega
  have z100 : C.length < 1000000 := by omega
  have zh : hits.length ≤ 1000000 := by omega
  rw [p_lcache_3b]
  rw [seq_nx (δ' := [.v (.ptr 1), .v (.int L), .v (.int n), .v (.int kd), .own (C.map Ctl.d), .v (.int c), .v (.tup (nsD hits)), a7, a8]) (h' := h1) ?_, seq_nx s2, seq_nx s3]
  · simp (decide := true) [p_lcache_3b_4, z100]
    rfl
  · obtain ⟨G, hG⟩ : ∃ G, G = valN (lcN (fun δ h => ((consA (varF 1) nilA) δ h).bind rg1K) [7] (nameU 7) yesF (iteF (testF (bin2 gtK (varF 3) (cF (.int 0)))) (callF (nArgs 2 F__law_any) (consA (varF 0) (consA (varF 2) nilA))) (varF 5))) := ⟨_, rfl⟩
    have it : ((consA (varF 1) nilA) [.v (.ptr 1), .v (.int L), .v (.int n), .v (.int kd), .own (C.map Ctl.d), .v (.int c), a6, a7, a8] h).bind rg1K = .ok (rgD 0 (L : Int)) h := by simp [rc]
    have wp : wipeD [.v (.ptr 1), .v (.int L), .v (.int n), .v (.int kd), .own (C.map Ctl.d), .v (.int c), a6, a7, a8] [7] = [.v (.ptr 1), .v (.int L), .v (.int n), .v (.int kd), .own (C.map Ctl.d), .v (.int c), a6, .no, a8] := rfl
    have qG : G [.v (.ptr 1), .v (.int L), .v (.int n), .v (.int kd), .own (C.map Ctl.d), .v (.int c), a6, a7, a8] h = .ok (.lst (nsD hits)) h1 := by
      rw [hG, valN_ap, lcN_ap]
      show ((((consA (varF 1) nilA) _ _).bind rg1K).bind _).bind _ = _
      rw [it, R.bind_ok, if_pos lz, wp, e1, R.bind_ok]
    have pe : p_lcache_3b_1 = setS 6 (blt tupK (consA G nilA)) := by rw [hG]; rfl
    rw [pe]
    simp [qG]
theorem ca_loop {L n kd : Nat} (hL : 0 < L ∧ L ≤ 3) (hn : 0 < n ∧ n ≤ 4) : ∀ (cs : List Nat) (C : List Ctl) (a5 a6 a7 a8 : SV) (h : Bx), Dl h → (∀ c ∈ cs, c < n) → C.length + cs.length ≤ 100 → (∀ t ∈ C, t.hits.length = L ∧ (∀ v ∈ t.hits, v < n) ∧ t.line < L ∧ t.next < n) →
    ∃ (C2 : List Ctl) (b5 b6 b7 b8 : SV) (h' : Bx), C2.length = C.length + cs.length ∧ (∀ t ∈ C2, t.hits.length = L ∧ (∀ v ∈ t.hits, v < n) ∧ t.line < L ∧ t.next < n) ∧ forF (nameU 5) p_lcache_3b (nsD cs) [.v (.ptr 1), .v (.int L), .v (.int n), .v (.int kd), .own (C.map Ctl.d), a5, a6, a7, a8] h = .nx [.v (.ptr 1), .v (.int L), .v (.int n), .v (.int kd), .own (C2.map Ctl.d), b5, b6, b7, b8] h' ∧ Dl h'
  | [], C, a5, a6, a7, a8, h, B, _, _, ha => ⟨C, a5, a6, a7, a8, h, by simp, ha, by have : nsD ([] : List Nat) = [] := rfl; rw [this, forF_nil], B⟩
  | c :: cs, C, a5, a6, a7, a8, h, B, hc, z, ha => by
    have z' : C.length + (cs.length + 1) ≤ 100 := z
    obtain ⟨t, h1, t1, e1, B1⟩ := ca_turn (kd := kd) B hL hn (hc c (List.mem_cons_self ..)) (C := C) (by omega) a6 a7 a8
    obtain ⟨C2, b5, b6, b7, b8, h', l2, g2, e2, B2⟩ := ca_loop hL hn cs (C ++ [t]) (.v (.int c)) (.v (.tup (nsD t.hits))) (.v (.int t.line)) (.v (.int t.next)) h1 B1 (fun v hv => hc v (List.mem_cons_of_mem _ hv)) (by simp; omega) (fun u hu => by
      rcases List.mem_append.mp hu with hu | hu
      · exact ha u hu
      · have : u = t := by simpa using hu
        subst this; exact t1)
    refine ⟨C2, b5, b6, b7, b8, h', by rw [l2]; simp; omega, g2, ?_, B2⟩
    have e0 : nsD (c :: cs) = .int c :: nsD cs := rfl
    rw [e0, forF_nx (δ1 := [.v (.ptr 1), .v (.int L), .v (.int n), .v (.int kd), .own (C.map Ctl.d), .v (.int c), a6, a7, a8]) rfl e1, e2]
theorem cache_ok {h : Bx} (B : Dl h) : ∃ (C : List Ctl) (L : Nat) (h' : Bx), Cok C L ∧ F__law_cache [.ptr 1] h = .ok (cacheD C) h' ∧ Dl h' := by
  have st : startD N__law_cache.length [.ptr 1] = [.v (.ptr 1), .no, .no, .no, .no, .no, .no, .no, .no] := rfl
  obtain ⟨x, h1, x1, x2, B1⟩ := any_ok B (m := 3) (by decide) (by decide)
  obtain ⟨y, h2, y1, y2, B2⟩ := any_ok B1 (m := 4) (by decide) (by decide)
  obtain ⟨kd, h3, k1, k2, B3⟩ := any_ok B2 (m := 4) (by decide) (by decide)
  have x2' : F__law_any [.ptr 1, .int 3] h = .ok (.int x) h1 := x2
  have y2' : F__law_any [.ptr 1, .int 4] h1 = .ok (.int y) h2 := y2
  have k2' : F__law_any [.ptr 1, .int 4] h2 = .ok (.int kd) h3 := k2
  have rc := rgC_nat (n := 1 + y) (by omega)
  have rg : rgD 0 ((1 + y : Nat) : Int) = nsD (List.range (1 + y)) := by
    unfold rgD nsD
    rw [Int.sub_zero, Int.toNat_natCast]
    exact List.map_congr_left fun x _ => by simp [nD]
  obtain ⟨C, b5, b6, b7, b8, h4, l4, g4, e4, B4⟩ := ca_loop (L := 1 + x) (n := 1 + y) (kd := kd) ⟨by omega, by omega⟩ ⟨by omega, by omega⟩ (List.range (1 + y)) [] .no .no .no .no h3 B3 (fun c hc => List.mem_range.mp hc) (by simp; omega) (fun t ht => by simp at ht)
  have lC : C.length = 1 + y := by simpa using l4
  have lz : C.length ≤ 1000000 := by omega
  refine ⟨C, 1 + x, h4, ⟨by omega, by omega, by omega, by omega, fun c hc => ?_, fun c hc => ?_⟩, ?_, B4⟩
  · rw [lC]; exact ⟨(g4 c hc).1, (g4 c hc).2.1⟩
  · rw [lC]; exact (g4 c hc).2.2
  · rw [F__law_cache, runF_ap, sf__law_cache_eq, p_lcache, st]
    rw [seq_nx (δ' := [.v (.ptr 1), .v (.int (1 + x : Nat)), .v (.int (1 + y : Nat)), .v (.int kd), .no, .no, .no, .no, .no]) (h' := h3) (by simp (decide := true) [p_lcache_1, x2', y2', k2'])]
    rw [seq_nx (δ' := [.v (.ptr 1), .v (.int (1 + x : Nat)), .v (.int (1 + y : Nat)), .v (.int kd), .own [], .no, .no, .no, .no]) (h' := h3) (by simp (decide := true) [p_lcache_2])]
    rw [seq_nx (δ' := [.v (.ptr 1), .v (.int (1 + x : Nat)), .v (.int (1 + y : Nat)), .v (.int kd), .own (C.map Ctl.d), b5, b6, b7, b8]) (h' := h4) ?_]
    · simp [p_lcache_4, cacheD, lz]
    · rw [p_lcache_3, forS_ap]
      have it : ((consA (varF 2) nilA) [.v (.ptr 1), .v (.int (1 + x : Nat)), .v (.int (1 + y : Nat)), .v (.int kd), .own [], .no, .no, .no, .no] h3).bind rg1K = .ok (nsD (List.range (1 + y))) h3 := by
        rw [← rg]
        have r1 : ((consA (varF 2) nilA) [.v (.ptr 1), .v (.int (1 + x : Nat)), .v (.int (1 + y : Nat)), .v (.int kd), .own [], .no, .no, .no, .no] h3) = .ok [.int (1 + y : Nat)] h3 := by simp
        rw [r1, R.bind_ok, rg1K_ap, rc]
        rfl
      rw [it, R.toS_ok]
      exact e4
end LP
/-! K46q: the lambdas, heard. -/
namespace LP
open PySem PySem.Spec PyProof.Rows L2 HT
theorem heard_i {Λ : Nat → Bx → R D} {k : Nat} {v : Int} {h h' : Bx} (e : Λ k h = .exc "InvalidIndex" [("at", .int v)] h') : runF 2 (sf__law_tried Λ) [.lam k] h = .ok (.tup [.str "index", .int v]) h' := by
  simp (decide := true) [runF_ap, sf__law_tried, tryS_ap, startD, e, catchS, hitH]
theorem heard_s {Λ : Nat → Bx → R D} {k : Nat} {h h' : Bx} (e : Λ k h = .exc "InvalidSize" [("word", .str "rows")] h') : runF 2 (sf__law_tried Λ) [.lam k] h = .ok (.tup [.str "size", .str "rows"]) h' := by
  simp (decide := true) [runF_ap, sf__law_tried, tryS_ap, startD, e, catchS, hitH]
theorem bod0 : bod_law 0 = lf_law_0 := rfl
theorem bod1 : bod_law 1 = lf_law_1 := rfl
theorem bod2 : bod_law 2 = lf_law_2 := rfl
theorem bod3 : bod_law 3 = lf_law_3 := rfl
theorem bod4 : bod_law 4 = lf_law_4 := rfl
theorem heardF_ap {n m : Nat} {δ0 : DE} {h : Bx} {sf : (Nat → Bx → R D) → SF} : heardF bod_law n sf δ0 (.lam m) h = runF n (sf fun k h => bod_law k (pubD δ0) h) [.lam m] h := rfl
theorem hear_i {δ0 : DE} {m : Nat} {v : Int} {h : Bx} (e : bod_law m (pubD δ0) h = .exc "InvalidIndex" [("at", .int v)] h) : heardF bod_law 2 sf__law_tried δ0 (.lam m) h = .ok (.tup [.str "index", .int v]) h := by
  rw [heardF_ap]; exact heard_i e
theorem hear_s {δ0 : DE} {m : Nat} {h : Bx} (e : bod_law m (pubD δ0) h = .exc "InvalidSize" [("word", .str "rows")] h) : heardF bod_law 2 sf__law_tried δ0 (.lam m) h = .ok (.tup [.str "size", .str "rows"]) h := by
  rw [heardF_ap]; exact heard_s e
theorem eqi {δ : DE} {h : Bx} {k : Int} : eqK true (.tup [.str "index", .int k]) (.tup [.str "index", .int k]) δ h = .ok (.bl false) h := by
  simp (decide := true) [eq_int]
theorem eqz {δ : DE} {h : Bx} : eqK true (.tup [.str "size", .str "rows"]) (.tup [.str "size", .str "rows"]) δ h = .ok (.bl false) h := by
  simp (decide := true)
section
variable {one other : List Nat} {d : D} {k : Int} {h : Bx} (s0 s1 s2 s5 s6 s7 : SV)
abbrev st10 (s0 s1 s2 s5 s6 s7 : SV) (one other : List Nat) (d : D) (k : Int) : DE := [s0, s1, s2, .v (.lst (nsD one)), .v (.lst (nsD other)), s5, s6, s7, .v d, .v (.int k)]
theorem hv0 (b : Bad d k) : p_law_3b_6 (st10 s0 s1 s2 s5 s6 s7 one other d k) h = .nx (st10 s0 s1 s2 s5 s6 s7 one other d k) h := by
  have a := bad_pat b h
  have v := b.v
  have e4 : bod_law 0 (pubD (st10 s0 s1 s2 s5 s6 s7 one other d k)) h = .exc "InvalidIndex" [("at", .int k)] h := by
    rw [bod0]; simp [lf_law_0, v, a]
  have e5 := hear_i e4
  rw [p_law_3b_6, ifS_ap, testF_ap, bin2_ap, cF_ap, R.bind_ok]
  show (((heardF bod_law 2 sf__law_tried _ (.lam 0) h).bind _).bind bOf).toS _ _ = _
  have ex : (tupF (consA (cF (.str "index")) (consA (varF 9) nilA))) (st10 s0 s1 s2 s5 s6 s7 one other d k) h = .ok (.tup [.str "index", .int k]) h := by simp
  rw [e5, R.bind_ok, ex, R.bind_ok, eqi]
  rfl
theorem hv1 (b : Bad d k) : p_law_3b_7 (st10 s0 s1 s2 s5 s6 s7 one other d k) h = .nx (st10 s0 s1 s2 s5 s6 s7 one other d k) h := by
  have a := bad_part1 (e := .non) b h rfl
  have v := b.v
  have e4 : bod_law 1 (pubD (st10 s0 s1 s2 s5 s6 s7 one other d k)) h = .exc "InvalidIndex" [("at", .int k)] h := by
    rw [bod1]; simp [lf_law_1, v, a]
  have e5 := hear_i e4
  rw [p_law_3b_7, ifS_ap, testF_ap, bin2_ap, cF_ap, R.bind_ok]
  show (((heardF bod_law 2 sf__law_tried _ (.lam 1) h).bind _).bind bOf).toS _ _ = _
  have ex : (tupF (consA (cF (.str "index")) (consA (varF 9) nilA))) (st10 s0 s1 s2 s5 s6 s7 one other d k) h = .ok (.tup [.str "index", .int k]) h := by simp
  rw [e5, R.bind_ok, ex, R.bind_ok, eqi]
  rfl
theorem hv2 (b : Bad d k) (z : one.length < 10) : p_law_3b_8 (st10 s0 s1 s2 s5 s6 s7 one other d k) h = .nx (st10 s0 s1 s2 s5 s6 s7 one other d k) h := by
  have a := bad_part2 (e := .lst (nsD one)) (l := one) (.inl rfl) (by omega) b h
  have v := b.v
  have e4 : bod_law 2 (pubD (st10 s0 s1 s2 s5 s6 s7 one other d k)) h = .exc "InvalidIndex" [("at", .int k)] h := by
    rw [bod2]; simp [lf_law_2, v, a]
  have e5 := hear_i e4
  rw [p_law_3b_8, ifS_ap, testF_ap, bin2_ap, cF_ap, R.bind_ok]
  show (((heardF bod_law 2 sf__law_tried _ (.lam 2) h).bind _).bind bOf).toS _ _ = _
  have ex : (tupF (consA (cF (.str "index")) (consA (varF 9) nilA))) (st10 s0 s1 s2 s5 s6 s7 one other d k) h = .ok (.tup [.str "index", .int k]) h := by simp
  rw [e5, R.bind_ok, ex, R.bind_ok, eqi]
  rfl
theorem hv3 (hl : one.length = other.length) (z : one.length < 10) : p_law_3b_9 (st10 s0 s1 s2 s5 s6 s7 one other d k) h = .nx (st10 s0 s1 s2 s5 s6 s7 one other d k) h := by
  have ap : nsD other ++ [.int 0] = nsD (other ++ [0]) := by simp [nsD, nD]
  have a := part_size (d := .lst (nsD one)) (e := .lst (nsD (other ++ [0]))) (.inl rfl) (.inl rfl) (by omega) (by simp; omega) (.inl (by simp; omega)) h
  have zl : other.length + 1 ≤ 1000000 := by omega
  have e4 : bod_law 3 (pubD (st10 s0 s1 s2 s5 s6 s7 one other d k)) h = .exc "InvalidSize" [("word", .str "rows")] h := by
    rw [bod3]; simp [lf_law_3, zl, ap, a]
  have e5 := hear_s e4
  rw [p_law_3b_9, ifS_ap, testF_ap, bin2_ap, cF_ap, R.bind_ok]
  show (((heardF bod_law 2 sf__law_tried _ (.lam 3) h).bind _).bind bOf).toS _ _ = _
  have ex : (tupF (consA (cF (.str "size")) (consA (cF (.str "rows")) nilA))) (st10 s0 s1 s2 s5 s6 s7 one other d k) h = .ok (.tup [.str "size", .str "rows"]) h := by simp
  rw [e5, R.bind_ok, ex, R.bind_ok, eqz]
  rfl
theorem hv4 : p_law_3b_10 (st10 s0 s1 s2 s5 s6 s7 one other d k) h = .nx (st10 s0 s1 s2 s5 s6 s7 one other d k) h := by
  have r0 : repD [.int 0] 62 = nsD (List.replicate 62 0) := rfl
  have r1 : repD [.int 1] 62 = nsD (List.replicate 62 1) := rfl
  have rc : repC 1 62 = true := by decide
  have a := part_size (d := .lst (nsD (List.replicate 62 0))) (e := .tup (nsD (List.replicate 62 1))) (.inl rfl) (.inr rfl) (by simp) (by simp) (.inr (by simp)) h
  obtain ⟨l0, e0⟩ : ∃ l, l = List.replicate 62 0 := ⟨_, rfl⟩
  obtain ⟨l1, e1⟩ : ∃ l, l = List.replicate 62 1 := ⟨_, rfl⟩
  rw [← e0] at r0 a
  rw [← e1] at r1 a
  have e4 : bod_law 4 (pubD (st10 s0 s1 s2 s5 s6 s7 one other d k)) h = .exc "InvalidSize" [("word", .str "rows")] h := by
    rw [bod4]; simp [lf_law_4, rc, r0, r1, a]
  have e5 := hear_s e4
  rw [p_law_3b_10, ifS_ap, testF_ap, bin2_ap, cF_ap, R.bind_ok]
  show (((heardF bod_law 2 sf__law_tried _ (.lam 4) h).bind _).bind bOf).toS _ _ = _
  have ex : (tupF (consA (cF (.str "size")) (consA (cF (.str "rows")) nilA))) (st10 s0 s1 s2 s5 s6 s7 one other d k) h = .ok (.tup [.str "size", .str "rows"]) h := by simp
  rw [e5, R.bind_ok, ex, R.bind_ok, eqz]
  rfl
end
end LP
/-! K46n: the law. -/
namespace LP
open PySem PySem.Spec PyProof.Rows L2 HT
theorem turn_ok {h : Bx} (B : Dl h) (s0 : SV) (t : Int) (a3 a4 a5 a6 a7 a8 a9 : SV) :
    ∃ (b3 b4 b5 b6 b7 b8 b9 : SV) (h' : Bx), p_law_3b [s0, .v (.ptr 1), .v (.int t), a3, a4, a5, a6, a7, a8, a9] h = .nx [s0, .v (.ptr 1), .v (.int t), b3, b4, b5, b6, b7, b8, b9] h' ∧ Dl h' := by
  obtain ⟨one, other, h1, hl, hz, e1, B1⟩ := two_ok B
  have q := parting_ok (d := .lst (nsD one)) (e := .tup (nsD other)) (.inl rfl) (.inr rfl) hl (by omega) h1
  have rp := rowpat_ok (d := .lst (nsD one)) (.inl rfl) (by omega) h1
  have lp1 := lpat_ok (l := one) (by omega) h1
  have lp2 := lpat_ok (l := other) (by omega) h1
  have zo : other.length ≤ 1000000 := by omega
  have t1 : p_law_3b_1 [s0, .v (.ptr 1), .v (.int t), a3, a4, a5, a6, a7, a8, a9] h = .nx [s0, .v (.ptr 1), .v (.int t), .v (.lst (nsD one)), .v (.lst (nsD other)), a5, a6, a7, a8, a9] h1 := by
    simp (decide := true) [p_law_3b_1, e1]
  have fin : ∀ (b5 b6 b7 : SV) (h2 : Bx), Dl h2 → ∃ (b8 b9 : SV) (h' : Bx), seqS p_law_3b_5 (seqS p_law_3b_6 (seqS p_law_3b_7 (seqS p_law_3b_8 (seqS p_law_3b_9 p_law_3b_10)))) [s0, .v (.ptr 1), .v (.int t), .v (.lst (nsD one)), .v (.lst (nsD other)), b5, b6, b7, a8, a9] h2 = .nx [s0, .v (.ptr 1), .v (.int t), .v (.lst (nsD one)), .v (.lst (nsD other)), b5, b6, b7, b8, b9] h' ∧ Dl h' := fun b5 b6 b7 h2 B2 => by
    obtain ⟨d, k, h3, b, e3, B3⟩ := wrong_ok B2
    have v := b.v
    refine ⟨.v d, .v (.int k), h3, ?_, B3⟩
    rw [seq_nx (δ' := st10 s0 (.v (.ptr 1)) (.v (.int t)) b5 b6 b7 one other d k) (h' := h3) (by simp (decide := true) [p_law_3b_5, e3, v])]
    rw [seq_nx (hv0 _ _ _ _ _ _ b), seq_nx (hv1 _ _ _ _ _ _ b), seq_nx (hv2 _ _ _ _ _ _ b hz), seq_nx (hv3 _ _ _ _ _ _ hl hz), hv4]
  by_cases hp : pat one = pat other
  · have e2 := q.1 hp
    have t2 : p_law_3b_2 [s0, .v (.ptr 1), .v (.int t), .v (.lst (nsD one)), .v (.lst (nsD other)), a5, a6, a7, a8, a9] h1 = .nx [s0, .v (.ptr 1), .v (.int t), .v (.lst (nsD one)), .v (.lst (nsD other)), .v .non, .v (.bl true), a7, a8, a9] h1 := by
      simp (decide := true) [p_law_3b_2, e2, lp1, lp2, zo, eqs_nsD, hp]
    have t3 : p_law_3b_3 [s0, .v (.ptr 1), .v (.int t), .v (.lst (nsD one)), .v (.lst (nsD other)), .v .non, .v (.bl true), a7, a8, a9] h1 = .nx [s0, .v (.ptr 1), .v (.int t), .v (.lst (nsD one)), .v (.lst (nsD other)), .v .non, .v (.bl true), a7, a8, a9] h1 := by
      simp (decide := true) [p_law_3b_3, rp, lp1, eqs_nsD, bOf]
    obtain ⟨C, L, h2, o, e4, B2⟩ := cache_ok B1
    obtain ⟨y1, w1⟩ := walk_ok o (l := one) (by omega) h2
    obtain ⟨y2, w2⟩ := walk_ok o (l := other) (by omega) h2
    have vv : vws C L other = vws C L one := by rw [← vws_pat C L other, ← hp, vws_pat]
    rw [vv] at w2
    have vc : isV (cacheD C) = true := rfl
    have t4 : p_law_3b_4 [s0, .v (.ptr 1), .v (.int t), .v (.lst (nsD one)), .v (.lst (nsD other)), .v .non, .v (.bl true), a7, a8, a9] h1 = .nx [s0, .v (.ptr 1), .v (.int t), .v (.lst (nsD one)), .v (.lst (nsD other)), .v .non, .v (.bl true), .v (cacheD C), a8, a9] h2 := by
      have u1 : p_law_3b_4t_1 [s0, .v (.ptr 1), .v (.int t), .v (.lst (nsD one)), .v (.lst (nsD other)), .v .non, .v (.bl true), a7, a8, a9] h1 = .nx [s0, .v (.ptr 1), .v (.int t), .v (.lst (nsD one)), .v (.lst (nsD other)), .v .non, .v (.bl true), .v (cacheD C), a8, a9] h2 := by
        simp (decide := true) [p_law_3b_4t_1, e4, vc]
      have u2 : p_law_3b_4t_2 [s0, .v (.ptr 1), .v (.int t), .v (.lst (nsD one)), .v (.lst (nsD other)), .v .non, .v (.bl true), .v (cacheD C), a8, a9] h2 = .nx [s0, .v (.ptr 1), .v (.int t), .v (.lst (nsD one)), .v (.lst (nsD other)), .v .non, .v (.bl true), .v (cacheD C), a8, a9] h2 := by
        simp (decide := true) [p_law_3b_4t_2, w1, w2, vc, eqs_nsD, bOf]
      have u3 : p_law_3b_4t [s0, .v (.ptr 1), .v (.int t), .v (.lst (nsD one)), .v (.lst (nsD other)), .v .non, .v (.bl true), a7, a8, a9] h1 = .nx [s0, .v (.ptr 1), .v (.int t), .v (.lst (nsD one)), .v (.lst (nsD other)), .v .non, .v (.bl true), .v (cacheD C), a8, a9] h2 := by
        rw [p_law_3b_4t, seq_nx u1, u2]
      rw [p_law_3b_4, ifS_ap]
      simp (decide := true) [u3, bOf]
    obtain ⟨b8, b9, h', e, B'⟩ := fin (.v .non) (.v (.bl true)) (.v (cacheD C)) h2 B2
    exact ⟨_, _, _, _, _, _, _, h', by rw [p_law_3b, seq_nx t1, seq_nx t2, seq_nx t3, seq_nx t4, e], B'⟩
  · obtain ⟨at_, C, P, e2⟩ := q.2 hp
    have vc : isV (cacheD C) = true := rfl
    have nc : isNon (cacheD C) = false := rfl
    have p1 := pat_len one
    have p2 := pat_len other
    have o : ∃ L, Cok C L ∧ (L = 1 ∨ L = 2) ∧ C.length ≤ 60 ∧ L = linesOf C := by
      have lt := P.lt
      rcases P.C with ⟨rfl, _⟩ | ⟨_, k, hk, rfl, _⟩
      · exact ⟨1, one_cok, .inl rfl, by decide, one_lines.symm⟩
      · exact ⟨2, pin_cok (by omega), .inr rfl, by rw [pin_length]; omega, pin_lines.symm⟩
    obtain ⟨L, o, oL, oz, rfl⟩ := o
    have ic := is_cache_ok o oL oz h1
    have pv := parts_views P (by omega)
    rw [vws_pat, vws_pat] at pv
    obtain ⟨y1, w1⟩ := walk_ok o (l := one) (by omega) h1
    obtain ⟨y2, w2⟩ := walk_ok o (l := other) (by omega) h1
    have t2 : p_law_3b_2 [s0, .v (.ptr 1), .v (.int t), .v (.lst (nsD one)), .v (.lst (nsD other)), a5, a6, a7, a8, a9] h1 = .nx [s0, .v (.ptr 1), .v (.int t), .v (.lst (nsD one)), .v (.lst (nsD other)), .v (cacheD C), .v (.bl false), a7, a8, a9] h1 := by
      simp (decide := true) [p_law_3b_2, e2, lp1, lp2, zo, eqs_nsD, hp, vc]
    have t3 : p_law_3b_3 [s0, .v (.ptr 1), .v (.int t), .v (.lst (nsD one)), .v (.lst (nsD other)), .v (cacheD C), .v (.bl false), a7, a8, a9] h1 = .nx [s0, .v (.ptr 1), .v (.int t), .v (.lst (nsD one)), .v (.lst (nsD other)), .v (cacheD C), .v (.bl false), a7, a8, a9] h1 := by
      simp (decide := true) [p_law_3b_3, rp, lp1, eqs_nsD, bOf, nc, vc]
    have t4 : p_law_3b_4 [s0, .v (.ptr 1), .v (.int t), .v (.lst (nsD one)), .v (.lst (nsD other)), .v (cacheD C), .v (.bl false), a7, a8, a9] h1 = .nx [s0, .v (.ptr 1), .v (.int t), .v (.lst (nsD one)), .v (.lst (nsD other)), .v (cacheD C), .v (.bl false), a7, a8, a9] h1 := by
      simp (decide := true) [p_law_3b_4, ic, w1, w2, vc, eqs_nsD, bOf, pv]
    obtain ⟨b8, b9, h', e, B'⟩ := fin (.v (cacheD C)) (.v (.bl false)) a7 h1 B1
    exact ⟨_, _, _, _, _, _, _, h', by rw [p_law_3b, seq_nx t1, seq_nx t2, seq_nx t3, seq_nx t4, e], B'⟩
theorem turns_ok (s0 : SV) : ∀ (ks : List Nat) (a2 a3 a4 a5 a6 a7 a8 a9 : SV) (h : Bx), Dl h → ∃ δ h', forF (nameU 2) p_law_3b (nsD ks) [s0, .v (.ptr 1), a2, a3, a4, a5, a6, a7, a8, a9] h = .nx δ h'
  | [], a2, a3, a4, a5, a6, a7, a8, a9, h, _ => ⟨_, h, rfl⟩
  | k :: ks, a2, a3, a4, a5, a6, a7, a8, a9, h, B => by
    obtain ⟨b3, b4, b5, b6, b7, b8, b9, h1, e1, B1⟩ := turn_ok B s0 k a3 a4 a5 a6 a7 a8 a9
    obtain ⟨δ, h', e2⟩ := turns_ok s0 ks (.v (.int k)) b3 b4 b5 b6 b7 b8 b9 h1 B1
    refine ⟨δ, h', ?_⟩
    have e0 : nsD (k :: ks) = .int k :: nsD ks := rfl
    rw [e0, forF_nx (δ1 := [s0, .v (.ptr 1), .v (.int k), a3, a4, a5, a6, a7, a8, a9]) rfl e1, e2]
theorem law_ok (ns : List Int) (hn : ns.length ≤ 63) (hb : ∀ z ∈ ns, PySem.Builtin.Int.intBits z ≤ 1048576) : ∃ h, runF N_law.length sf_law [.frz (ns.map D.int)] [] = .ok (.bl true) h := by
  obtain ⟨h0, e0, B0⟩ := draw_ok hn
  obtain ⟨δ, h', e⟩ := turns_ok (.v (.frz (ns.map D.int))) [0, 1, 2] .no .no .no .no .no .no .no .no h0 B0
  have f1 : F_row_pattern [.lst [.int 5, .int 2, .int 5]] h0 = .ok (.tup [.int 0, .int 1, .int 0]) h0 := rowpat_ok (l := [5, 2, 5]) (.inl rfl) (by decide) h0
  have f2 : F_parting_cache [.lst [], .tup []] h0 = .ok .non h0 := (parting_ok (l := []) (m := []) (.inl rfl) (.inr rfl) rfl (by decide) h0).1 rfl
  refine ⟨h', ?_⟩
  rw [runF_ap, sf_law_eq, p_law]
  rw [seq_nx (δ' := [.v (.frz (ns.map D.int)), .v (.ptr 1), .no, .no, .no, .no, .no, .no, .no, .no]) (h' := h0) (by simp [startD, p_law_1, e0])]
  rw [seq_nx (δ' := [.v (.frz (ns.map D.int)), .v (.ptr 1), .no, .no, .no, .no, .no, .no, .no, .no]) (h' := h0) (by simp (decide := true) [p_law_2, pickL, f1, f2, isNon, bOf])]
  rw [seq_nx (δ' := δ) (h' := h') ?_]
  · rfl
  · rw [p_law_3, forS_ap]
    have s : ((consA (cF (.int 3)) nilA) [.v (.frz (ns.map D.int)), .v (.ptr 1), .no, .no, .no, .no, .no, .no, .no, .no] h0).bind rg1K = .ok (nsD [0, 1, 2]) h0 := by
      have r : rgC 3 = true := by decide
      have r2 : rgD 0 3 = nsD [0, 1, 2] := rfl
      simp [r, r2]
    rw [s]
    exact e
end LP
namespace LP
open PySem PySem.Spec PyProof.Rows L2 HT
theorem all_mk {w : World} {K : PySem.W.Frag} {h : Heap} {mg : Str → Option Value} {fa : Addr} (X : K.In h) (G : h.Ns mainGlobals mg) (hfa : mg "law" = some (.ref fa))
    {a0 : Addr} {od0 an0 : Option Addr} {sl0 : Array (Option Value)} {oc0 kV0 dc0 pm0 cd0 ct0 : Value}
    {a1 : Addr} {od1 an1 : Option Addr} {sl1 : Array (Option Value)} {oc1 kV1 dc1 pm1 cd1 ct1 : Value}
    {a2 : Addr} {od2 an2 : Option Addr} {sl2 : Array (Option Value)} {oc2 kV2 dc2 pm2 cd2 ct2 : Value}
    {a3 : Addr} {od3 an3 : Option Addr} {sl3 : Array (Option Value)} {oc3 kV3 dc3 pm3 cd3 ct3 : Value}
    {a4 : Addr} {od4 an4 : Option Addr} {sl4 : Array (Option Value)} {oc4 kV4 dc4 pm4 cd4 ct4 : Value}
    {a5 : Addr} {od5 an5 : Option Addr} {sl5 : Array (Option Value)} {oc5 kV5 dc5 pm5 cd5 ct5 : Value}
    {a6 : Addr} {od6 an6 : Option Addr} {sl6 : Array (Option Value)} {oc6 kV6 dc6 pm6 cd6 ct6 : Value}
    {a7 : Addr} {od7 an7 : Option Addr} {sl7 : Array (Option Value)} {oc7 kV7 dc7 pm7 cd7 ct7 : Value}
    {a8 : Addr} {od8 an8 : Option Addr} {sl8 : Array (Option Value)} {oc8 kV8 dc8 pm8 cd8 ct8 : Value}
    {a9 : Addr} {od9 an9 : Option Addr} {sl9 : Array (Option Value)} {oc9 kV9 dc9 pm9 cd9 ct9 : Value}
    {a10 : Addr} {od10 an10 : Option Addr} {sl10 : Array (Option Value)} {oc10 kV10 dc10 pm10 cd10 ct10 : Value}
    {a11 : Addr} {od11 an11 : Option Addr} {sl11 : Array (Option Value)} {oc11 kV11 dc11 pm11 cd11 ct11 : Value}
    {a12 : Addr} {od12 an12 : Option Addr} {sl12 : Array (Option Value)} {oc12 kV12 dc12 pm12 cd12 ct12 : Value}
    {a13 : Addr} {od13 an13 : Option Addr} {sl13 : Array (Option Value)} {oc13 kV13 dc13 pm13 cd13 ct13 : Value}
    {a14 : Addr} {od14 an14 : Option Addr} {sl14 : Array (Option Value)} {oc14 kV14 dc14 pm14 cd14 ct14 : Value}
    {a15 : Addr} {od15 an15 : Option Addr} {sl15 : Array (Option Value)} {oc15 kV15 dc15 pm15 cd15 ct15 : Value}
    {a16 : Addr} {od16 an16 : Option Addr} {sl16 : Array (Option Value)} {oc16 kV16 dc16 pm16 cd16 ct16 : Value}
    {a17 : Addr} {od17 an17 : Option Addr} {sl17 : Array (Option Value)} {oc17 kV17 dc17 pm17 cd17 ct17 : Value}
    {a18 : Addr} {od18 an18 : Option Addr} {sl18 : Array (Option Value)} {oc18 kV18 dc18 pm18 ct18 : Value} {cb18 : Addr}
    {ob18 : Option Addr} {vb18 : Array Value} {sb18 : Array (Option Value)} {P18 : Addr}
    {k_MOST_ACCESSES : Tok}
    {C_InvalidCache : Addr}
    {C_InvalidIndex : Addr}
    {C_InvalidSize : Addr}
    {nm_InvalidCache xq_InvalidCache : Str} {N_InvalidCache : Addr} {bs_InvalidCache bm_InvalidCache : List Value} {sn_InvalidCache : List Str} {su_InvalidCache : List Value} {ab_InvalidCache : Bool} {co_InvalidCache : Option Bool} {dd_InvalidCache : Option Addr} {k0_InvalidCache k1_InvalidCache k2_InvalidCache k3_InvalidCache k5_InvalidCache : Option Value}
    {f_InvalidCache : Addr} {oc_InvalidCache dV_InvalidCache kV_InvalidCache do_InvalidCache pm_InvalidCache ct_InvalidCache : Value} {od_InvalidCache an_InvalidCache : Option Addr} {os_InvalidCache : Array (Option Value)} {cc_InvalidCache cda_InvalidCache : Addr} {ccl_InvalidCache cl_InvalidCache : Value} {cdd_InvalidCache cld_InvalidCache : Option Addr} {ccs_InvalidCache csl_InvalidCache : Array (Option Value)} {vs_InvalidCache : Array Value} {fi_InvalidCache : Str} {tf_InvalidCache : Tok}
    {nm_InvalidIndex xq_InvalidIndex : Str} {N_InvalidIndex : Addr} {bs_InvalidIndex bm_InvalidIndex : List Value} {sn_InvalidIndex : List Str} {su_InvalidIndex : List Value} {ab_InvalidIndex : Bool} {co_InvalidIndex : Option Bool} {dd_InvalidIndex : Option Addr} {k0_InvalidIndex k1_InvalidIndex k2_InvalidIndex k3_InvalidIndex k5_InvalidIndex : Option Value}
    {f_InvalidIndex : Addr} {oc_InvalidIndex dV_InvalidIndex kV_InvalidIndex do_InvalidIndex pm_InvalidIndex ct_InvalidIndex : Value} {od_InvalidIndex an_InvalidIndex : Option Addr} {os_InvalidIndex : Array (Option Value)} {cc_InvalidIndex cda_InvalidIndex : Addr} {ccl_InvalidIndex cl_InvalidIndex : Value} {cdd_InvalidIndex cld_InvalidIndex : Option Addr} {ccs_InvalidIndex csl_InvalidIndex : Array (Option Value)} {vs_InvalidIndex : Array Value} {fi_InvalidIndex : Str} {tf_InvalidIndex : Tok}
    {nm_InvalidSize xq_InvalidSize : Str} {N_InvalidSize : Addr} {bs_InvalidSize bm_InvalidSize : List Value} {sn_InvalidSize : List Str} {su_InvalidSize : List Value} {ab_InvalidSize : Bool} {co_InvalidSize : Option Bool} {dd_InvalidSize : Option Addr} {k0_InvalidSize k1_InvalidSize k2_InvalidSize k3_InvalidSize k5_InvalidSize : Option Value}
    {f_InvalidSize : Addr} {oc_InvalidSize dV_InvalidSize kV_InvalidSize do_InvalidSize pm_InvalidSize ct_InvalidSize : Value} {od_InvalidSize an_InvalidSize : Option Addr} {os_InvalidSize : Array (Option Value)} {cc_InvalidSize cda_InvalidSize : Addr} {ccl_InvalidSize cl_InvalidSize : Value} {cdd_InvalidSize cld_InvalidSize : Option Addr} {ccs_InvalidSize csl_InvalidSize : Array (Option Value)} {vs_InvalidSize : Array Value} {fi_InvalidSize : Str} {tf_InvalidSize : Tok}
    {Cb : Addr}
    (ha0 : PySem.W.nsIn K mainGlobals "is_integer" = some (some (.ref a0))) (hl0 : K.lookup a0 = some ⟨oc0, od0, .func (PySem.W.fnOf "is_integer" "is_integer" (defArgs s_is_integer) (defBody s_is_integer) (defScope s_is_integer) .none kV0 dc0 pm0 an0 cd0 ct0), sl0⟩) (hc0 : PySem.W.codeIn K cd0 "is_integer" = true) (hk0 : PySem.W.keepIn K (.ref a0) = true)
    (ha1 : PySem.W.nsIn K mainGlobals "is_number" = some (some (.ref a1))) (hl1 : K.lookup a1 = some ⟨oc1, od1, .func (PySem.W.fnOf "is_number" "is_number" (defArgs s_is_number) (defBody s_is_number) (defScope s_is_number) .none kV1 dc1 pm1 an1 cd1 ct1), sl1⟩) (hc1 : PySem.W.codeIn K cd1 "is_number" = true) (hk1 : PySem.W.keepIn K (.ref a1) = true)
    (ha2 : PySem.W.nsIn K mainGlobals "is_sequence" = some (some (.ref a2))) (hl2 : K.lookup a2 = some ⟨oc2, od2, .func (PySem.W.fnOf "is_sequence" "is_sequence" (defArgs s_is_sequence) (defBody s_is_sequence) (defScope s_is_sequence) .none kV2 dc2 pm2 an2 cd2 ct2), sl2⟩) (hc2 : PySem.W.codeIn K cd2 "is_sequence" = true) (hk2 : PySem.W.keepIn K (.ref a2) = true)
    (ha3 : PySem.W.nsIn K mainGlobals "need_accesses" = some (some (.ref a3))) (hl3 : K.lookup a3 = some ⟨oc3, od3, .func (PySem.W.fnOf "need_accesses" "need_accesses" (defArgs s_need_accesses) (defBody s_need_accesses) (defScope s_need_accesses) .none kV3 dc3 pm3 an3 cd3 ct3), sl3⟩) (hc3 : PySem.W.codeIn K cd3 "need_accesses" = true) (hk3 : PySem.W.keepIn K (.ref a3) = true)
    (ha4 : PySem.W.nsIn K mainGlobals "row_pattern" = some (some (.ref a4))) (hl4 : K.lookup a4 = some ⟨oc4, od4, .func (PySem.W.fnOf "row_pattern" "row_pattern" (defArgs s_row_pattern) (defBody s_row_pattern) (defScope s_row_pattern) .none kV4 dc4 pm4 an4 cd4 ct4), sl4⟩) (hc4 : PySem.W.codeIn K cd4 "row_pattern" = true) (hk4 : PySem.W.keepIn K (.ref a4) = true)
    (ha5 : PySem.W.nsIn K mainGlobals "one_line" = some (some (.ref a5))) (hl5 : K.lookup a5 = some ⟨oc5, od5, .func (PySem.W.fnOf "one_line" "one_line" (defArgs s_one_line) (defBody s_one_line) (defScope s_one_line) .none kV5 dc5 pm5 an5 cd5 ct5), sl5⟩) (hc5 : PySem.W.codeIn K cd5 "one_line" = true) (hk5 : PySem.W.keepIn K (.ref a5) = true)
    (ha6 : PySem.W.nsIn K mainGlobals "pinning" = some (some (.ref a6))) (hl6 : K.lookup a6 = some ⟨oc6, od6, .func (PySem.W.fnOf "pinning" "pinning" (defArgs s_pinning) (defBody s_pinning) (defScope s_pinning) .none kV6 dc6 pm6 an6 cd6 ct6), sl6⟩) (hc6 : PySem.W.codeIn K cd6 "pinning" = true) (hk6 : PySem.W.keepIn K (.ref a6) = true)
    (ha7 : PySem.W.nsIn K mainGlobals "parting_cache" = some (some (.ref a7))) (hl7 : K.lookup a7 = some ⟨oc7, od7, .func (PySem.W.fnOf "parting_cache" "parting_cache" (defArgs s_parting_cache) (defBody s_parting_cache) (defScope s_parting_cache) .none kV7 dc7 pm7 an7 cd7 ct7), sl7⟩) (hc7 : PySem.W.codeIn K cd7 "parting_cache" = true) (hk7 : PySem.W.keepIn K (.ref a7) = true)
    (ha8 : PySem.W.nsIn K mainGlobals "_law_draw" = some (some (.ref a8))) (hl8 : K.lookup a8 = some ⟨oc8, od8, .func (PySem.W.fnOf "_law_draw" "_law_draw" (defArgs s__law_draw) (defBody s__law_draw) (defScope s__law_draw) .none kV8 dc8 pm8 an8 cd8 ct8), sl8⟩) (hc8 : PySem.W.codeIn K cd8 "_law_draw" = true) (hk8 : PySem.W.keepIn K (.ref a8) = true)
    (ha9 : PySem.W.nsIn K mainGlobals "_law_any" = some (some (.ref a9))) (hl9 : K.lookup a9 = some ⟨oc9, od9, .func (PySem.W.fnOf "_law_any" "_law_any" (defArgs s__law_any) (defBody s__law_any) (defScope s__law_any) .none kV9 dc9 pm9 an9 cd9 ct9), sl9⟩) (hc9 : PySem.W.codeIn K cd9 "_law_any" = true) (hk9 : PySem.W.keepIn K (.ref a9) = true)
    (ha10 : PySem.W.nsIn K mainGlobals "_law_of" = some (some (.ref a10))) (hl10 : K.lookup a10 = some ⟨oc10, od10, .func (PySem.W.fnOf "_law_of" "_law_of" (defArgs s__law_of) (defBody s__law_of) (defScope s__law_of) .none kV10 dc10 pm10 an10 cd10 ct10), sl10⟩) (hc10 : PySem.W.codeIn K cd10 "_law_of" = true) (hk10 : PySem.W.keepIn K (.ref a10) = true)
    (ha11 : PySem.W.nsIn K mainGlobals "_law_cache" = some (some (.ref a11))) (hl11 : K.lookup a11 = some ⟨oc11, od11, .func (PySem.W.fnOf "_law_cache" "_law_cache" (defArgs s__law_cache) (defBody s__law_cache) (defScope s__law_cache) .none kV11 dc11 pm11 an11 cd11 ct11), sl11⟩) (hc11 : PySem.W.codeIn K cd11 "_law_cache" = true) (hk11 : PySem.W.keepIn K (.ref a11) = true)
    (ha12 : PySem.W.nsIn K mainGlobals "_law_walk" = some (some (.ref a12))) (hl12 : K.lookup a12 = some ⟨oc12, od12, .func (PySem.W.fnOf "_law_walk" "_law_walk" (defArgs s__law_walk) (defBody s__law_walk) (defScope s__law_walk) .none kV12 dc12 pm12 an12 cd12 ct12), sl12⟩) (hc12 : PySem.W.codeIn K cd12 "_law_walk" = true) (hk12 : PySem.W.keepIn K (.ref a12) = true)
    (ha13 : PySem.W.nsIn K mainGlobals "_law_tried" = some (some (.ref a13))) (hl13 : K.lookup a13 = some ⟨oc13, od13, .func (PySem.W.fnOf "_law_tried" "_law_tried" (defArgs s__law_tried) (defBody s__law_tried) (defScope s__law_tried) .none kV13 dc13 pm13 an13 cd13 ct13), sl13⟩) (hc13 : PySem.W.codeIn K cd13 "_law_tried" = true) (hk13 : PySem.W.keepIn K (.ref a13) = true)
    (ha14 : PySem.W.nsIn K mainGlobals "_law_wrong_row" = some (some (.ref a14))) (hl14 : K.lookup a14 = some ⟨oc14, od14, .func (PySem.W.fnOf "_law_wrong_row" "_law_wrong_row" (defArgs s__law_wrong_row) (defBody s__law_wrong_row) (defScope s__law_wrong_row) .none kV14 dc14 pm14 an14 cd14 ct14), sl14⟩) (hc14 : PySem.W.codeIn K cd14 "_law_wrong_row" = true) (hk14 : PySem.W.keepIn K (.ref a14) = true)
    (ha15 : PySem.W.nsIn K mainGlobals "_law_pattern" = some (some (.ref a15))) (hl15 : K.lookup a15 = some ⟨oc15, od15, .func (PySem.W.fnOf "_law_pattern" "_law_pattern" (defArgs s__law_pattern) (defBody s__law_pattern) (defScope s__law_pattern) .none kV15 dc15 pm15 an15 cd15 ct15), sl15⟩) (hc15 : PySem.W.codeIn K cd15 "_law_pattern" = true) (hk15 : PySem.W.keepIn K (.ref a15) = true)
    (ha16 : PySem.W.nsIn K mainGlobals "_law_is_cache" = some (some (.ref a16))) (hl16 : K.lookup a16 = some ⟨oc16, od16, .func (PySem.W.fnOf "_law_is_cache" "_law_is_cache" (defArgs s__law_is_cache) (defBody s__law_is_cache) (defScope s__law_is_cache) .none kV16 dc16 pm16 an16 cd16 ct16), sl16⟩) (hc16 : PySem.W.codeIn K cd16 "_law_is_cache" = true) (hk16 : PySem.W.keepIn K (.ref a16) = true)
    (ha17 : PySem.W.nsIn K mainGlobals "_law_two" = some (some (.ref a17))) (hl17 : K.lookup a17 = some ⟨oc17, od17, .func (PySem.W.fnOf "_law_two" "_law_two" (defArgs s__law_two) (defBody s__law_two) (defScope s__law_two) .none kV17 dc17 pm17 an17 cd17 ct17), sl17⟩) (hc17 : PySem.W.codeIn K cd17 "_law_two" = true) (hk17 : PySem.W.keepIn K (.ref a17) = true)
    (ha18 : PySem.W.nsIn K mainGlobals "law" = some (some (.ref a18))) (hl18 : K.lookup a18 = some ⟨oc18, od18, .func (PySem.W.fnOf "law" "law" (defArgs s_law) (defBody s_law) (defScope s_law) .none kV18 dc18 pm18 an18 (.ref cb18) ct18), sl18⟩) (hc18 : PySem.W.codeIn K (.ref cb18) "law" = true) (hk18 : PySem.W.keepIn K (.ref a18) = true)
    (hq18 : K.lookup cb18 = some ⟨.type "code", ob18, .fields vb18, sb18⟩) (hv18 : (vb18[11]? : Option Value) = some (.ref P18)) (he18 : PySem.W.codeHdIn K cb18 P18 = true) (hn18 : K.lookup P18 = none) (ht18 : h.get? P18 = some (PySem.W.tabObj #[]))
    (hu18 : ∀ p ∈ ([(P18, qn_law)] : List (Addr × Str)), p.1 = P18 → p.2 = qn_law)
    (hz0 : PySem.W.nsIn K mainGlobals "abs" = some none)
    (hz1 : PySem.W.nsIn K mainGlobals "bool" = some none)
    (hz2 : PySem.W.nsIn K mainGlobals "enumerate" = some none)
    (hz3 : PySem.W.nsIn K mainGlobals "int" = some none)
    (hz4 : PySem.W.nsIn K mainGlobals "isinstance" = some none)
    (hz5 : PySem.W.nsIn K mainGlobals "len" = some none)
    (hz6 : PySem.W.nsIn K mainGlobals "list" = some none)
    (hz7 : PySem.W.nsIn K mainGlobals "range" = some none)
    (hz8 : PySem.W.nsIn K mainGlobals "super" = some none)
    (hz9 : PySem.W.nsIn K mainGlobals "tuple" = some none)
    (hi_MOST_ACCESSES : PySem.W.nsIn K mainGlobals "MOST_ACCESSES" = some (some (.int 61 k_MOST_ACCESSES)))
    (hx_InvalidCache : PySem.W.nsIn K mainGlobals "InvalidCache" = some (some (.ref C_InvalidCache)))
    (hx_InvalidIndex : PySem.W.nsIn K mainGlobals "InvalidIndex" = some (some (.ref C_InvalidIndex)))
    (hx_InvalidSize : PySem.W.nsIn K mainGlobals "InvalidSize" = some (some (.ref C_InvalidSize)))
    (xl_InvalidCache : K.lookup C_InvalidCache = some (excClassObj nm_InvalidCache xq_InvalidCache C_InvalidCache N_InvalidCache bs_InvalidCache bm_InvalidCache true sn_InvalidCache su_InvalidCache ab_InvalidCache co_InvalidCache dd_InvalidCache k0_InvalidCache k1_InvalidCache k2_InvalidCache k3_InvalidCache k5_InvalidCache "Exception.__new__"))
    (xb_InvalidCache : refsE bm_InvalidCache = true)
    (xsa_InvalidCache : PySem.W.findIn K (.ref C_InvalidCache) "__setattr__" = some (some (.builtin "object.__setattr__")))
    (xex_InvalidCache : PySem.W.subIn K (.ref C_InvalidCache) (.type "BaseException") = some true)
    (xty_InvalidCache : PySem.W.typeIn K (.ref C_InvalidCache) = some (.type "type"))
    (xkp_InvalidCache : PySem.W.keepIn K (.ref C_InvalidCache) = true)
    (xfl_InvalidCache : PySem.W.findIn K (.ref C_InvalidCache) "at" = some none)
    (xsu_InvalidCache : PySem.W.ks_superIn K C_InvalidCache C_InvalidCache "__init__" = some (some (.builtin "Exception.__init__")))
    (xsm_InvalidCache : PySem.W.mroIn K C_InvalidCache (.ref C_InvalidCache) = some true)
    (xem_InvalidCache : PySem.W.mroIn K C_InvalidCache (.type "Exception") = some true)
    (xin_InvalidCache : PySem.W.findIn K (.ref C_InvalidCache) "__init__" = some (some (.ref f_InvalidCache)))
    (xfn_InvalidCache : PySem.W.typeIn K (.ref f_InvalidCache) = some (.type "function"))
    (xlk_InvalidCache : K.lookup f_InvalidCache = some ⟨oc_InvalidCache, od_InvalidCache, .func (PySem.W.ksFn "__init__" "InvalidCache.__init__" (defArgs i_InvalidCache) (defBody i_InvalidCache) (defScope i_InvalidCache) dV_InvalidCache kV_InvalidCache do_InvalidCache pm_InvalidCache an_InvalidCache (.ref cda_InvalidCache) ct_InvalidCache cc_InvalidCache), os_InvalidCache⟩)
    (xcd_InvalidCache : PySem.W.codeIn K (.ref cda_InvalidCache) "InvalidCache.__init__" = true)
    (xlc_InvalidCache : K.lookup cda_InvalidCache = some ⟨ccl_InvalidCache, cdd_InvalidCache, .fields vs_InvalidCache, ccs_InvalidCache⟩)
    (xvf_InvalidCache : (vs_InvalidCache[2]? : Option Value) = some (.str fi_InvalidCache tf_InvalidCache))
    (xfi_InvalidCache : (((PySem.Challenge.rw_leastpromise_k46_whole_patterns_are_what).prog.main.file : Str) == fi_InvalidCache) = true)
    (xce_InvalidCache : K.lookup cc_InvalidCache = some ⟨cl_InvalidCache, cld_InvalidCache, .cell (some (.ref C_InvalidCache)), csl_InvalidCache⟩)
    (xdn_InvalidCache : dV_InvalidCache = .none)
    (xga_InvalidCache : PySem.W.findIn K (.ref C_InvalidCache) "__getattribute__" = some (some (.builtin "BaseException.__getattribute__")))
    (xgg_InvalidCache : PySem.W.findIn K (.ref C_InvalidCache) "__getattr__" = some none)
    (xhd_InvalidCache : PySem.W.hasDictIn K C_InvalidCache = true)
    (xl_InvalidIndex : K.lookup C_InvalidIndex = some (excClassObj nm_InvalidIndex xq_InvalidIndex C_InvalidIndex N_InvalidIndex bs_InvalidIndex bm_InvalidIndex true sn_InvalidIndex su_InvalidIndex ab_InvalidIndex co_InvalidIndex dd_InvalidIndex k0_InvalidIndex k1_InvalidIndex k2_InvalidIndex k3_InvalidIndex k5_InvalidIndex "Exception.__new__"))
    (xb_InvalidIndex : refsE bm_InvalidIndex = true)
    (xsa_InvalidIndex : PySem.W.findIn K (.ref C_InvalidIndex) "__setattr__" = some (some (.builtin "object.__setattr__")))
    (xex_InvalidIndex : PySem.W.subIn K (.ref C_InvalidIndex) (.type "BaseException") = some true)
    (xty_InvalidIndex : PySem.W.typeIn K (.ref C_InvalidIndex) = some (.type "type"))
    (xkp_InvalidIndex : PySem.W.keepIn K (.ref C_InvalidIndex) = true)
    (xfl_InvalidIndex : PySem.W.findIn K (.ref C_InvalidIndex) "at" = some none)
    (xsu_InvalidIndex : PySem.W.ks_superIn K C_InvalidIndex C_InvalidIndex "__init__" = some (some (.builtin "Exception.__init__")))
    (xsm_InvalidIndex : PySem.W.mroIn K C_InvalidIndex (.ref C_InvalidIndex) = some true)
    (xem_InvalidIndex : PySem.W.mroIn K C_InvalidIndex (.type "Exception") = some true)
    (xin_InvalidIndex : PySem.W.findIn K (.ref C_InvalidIndex) "__init__" = some (some (.ref f_InvalidIndex)))
    (xfn_InvalidIndex : PySem.W.typeIn K (.ref f_InvalidIndex) = some (.type "function"))
    (xlk_InvalidIndex : K.lookup f_InvalidIndex = some ⟨oc_InvalidIndex, od_InvalidIndex, .func (PySem.W.ksFn "__init__" "InvalidIndex.__init__" (defArgs i_InvalidIndex) (defBody i_InvalidIndex) (defScope i_InvalidIndex) dV_InvalidIndex kV_InvalidIndex do_InvalidIndex pm_InvalidIndex an_InvalidIndex (.ref cda_InvalidIndex) ct_InvalidIndex cc_InvalidIndex), os_InvalidIndex⟩)
    (xcd_InvalidIndex : PySem.W.codeIn K (.ref cda_InvalidIndex) "InvalidIndex.__init__" = true)
    (xlc_InvalidIndex : K.lookup cda_InvalidIndex = some ⟨ccl_InvalidIndex, cdd_InvalidIndex, .fields vs_InvalidIndex, ccs_InvalidIndex⟩)
    (xvf_InvalidIndex : (vs_InvalidIndex[2]? : Option Value) = some (.str fi_InvalidIndex tf_InvalidIndex))
    (xfi_InvalidIndex : (((PySem.Challenge.rw_leastpromise_k46_whole_patterns_are_what).prog.main.file : Str) == fi_InvalidIndex) = true)
    (xce_InvalidIndex : K.lookup cc_InvalidIndex = some ⟨cl_InvalidIndex, cld_InvalidIndex, .cell (some (.ref C_InvalidIndex)), csl_InvalidIndex⟩)
    (xdn_InvalidIndex : dV_InvalidIndex = .none)
    (xga_InvalidIndex : PySem.W.findIn K (.ref C_InvalidIndex) "__getattribute__" = some (some (.builtin "BaseException.__getattribute__")))
    (xgg_InvalidIndex : PySem.W.findIn K (.ref C_InvalidIndex) "__getattr__" = some none)
    (xhd_InvalidIndex : PySem.W.hasDictIn K C_InvalidIndex = true)
    (xl_InvalidSize : K.lookup C_InvalidSize = some (excClassObj nm_InvalidSize xq_InvalidSize C_InvalidSize N_InvalidSize bs_InvalidSize bm_InvalidSize true sn_InvalidSize su_InvalidSize ab_InvalidSize co_InvalidSize dd_InvalidSize k0_InvalidSize k1_InvalidSize k2_InvalidSize k3_InvalidSize k5_InvalidSize "Exception.__new__"))
    (xb_InvalidSize : refsE bm_InvalidSize = true)
    (xsa_InvalidSize : PySem.W.findIn K (.ref C_InvalidSize) "__setattr__" = some (some (.builtin "object.__setattr__")))
    (xex_InvalidSize : PySem.W.subIn K (.ref C_InvalidSize) (.type "BaseException") = some true)
    (xty_InvalidSize : PySem.W.typeIn K (.ref C_InvalidSize) = some (.type "type"))
    (xkp_InvalidSize : PySem.W.keepIn K (.ref C_InvalidSize) = true)
    (xfl_InvalidSize : PySem.W.findIn K (.ref C_InvalidSize) "word" = some none)
    (xsu_InvalidSize : PySem.W.ks_superIn K C_InvalidSize C_InvalidSize "__init__" = some (some (.builtin "Exception.__init__")))
    (xsm_InvalidSize : PySem.W.mroIn K C_InvalidSize (.ref C_InvalidSize) = some true)
    (xem_InvalidSize : PySem.W.mroIn K C_InvalidSize (.type "Exception") = some true)
    (xin_InvalidSize : PySem.W.findIn K (.ref C_InvalidSize) "__init__" = some (some (.ref f_InvalidSize)))
    (xfn_InvalidSize : PySem.W.typeIn K (.ref f_InvalidSize) = some (.type "function"))
    (xlk_InvalidSize : K.lookup f_InvalidSize = some ⟨oc_InvalidSize, od_InvalidSize, .func (PySem.W.ksFn "__init__" "InvalidSize.__init__" (defArgs i_InvalidSize) (defBody i_InvalidSize) (defScope i_InvalidSize) dV_InvalidSize kV_InvalidSize do_InvalidSize pm_InvalidSize an_InvalidSize (.ref cda_InvalidSize) ct_InvalidSize cc_InvalidSize), os_InvalidSize⟩)
    (xcd_InvalidSize : PySem.W.codeIn K (.ref cda_InvalidSize) "InvalidSize.__init__" = true)
    (xlc_InvalidSize : K.lookup cda_InvalidSize = some ⟨ccl_InvalidSize, cdd_InvalidSize, .fields vs_InvalidSize, ccs_InvalidSize⟩)
    (xvf_InvalidSize : (vs_InvalidSize[2]? : Option Value) = some (.str fi_InvalidSize tf_InvalidSize))
    (xfi_InvalidSize : (((PySem.Challenge.rw_leastpromise_k46_whole_patterns_are_what).prog.main.file : Str) == fi_InvalidSize) = true)
    (xce_InvalidSize : K.lookup cc_InvalidSize = some ⟨cl_InvalidSize, cld_InvalidSize, .cell (some (.ref C_InvalidSize)), csl_InvalidSize⟩)
    (xdn_InvalidSize : dV_InvalidSize = .none)
    (xga_InvalidSize : PySem.W.findIn K (.ref C_InvalidSize) "__getattribute__" = some (some (.builtin "BaseException.__getattribute__")))
    (xgg_InvalidSize : PySem.W.findIn K (.ref C_InvalidSize) "__getattr__" = some none)
    (xhd_InvalidSize : PySem.W.hasDictIn K C_InvalidSize = true)
    (x_op : PySem.W.nsIn K cStatics "thirdparty.any" = some none)
    (y_InvalidCache_InvalidCache : PySem.W.exmOne K (.ref C_InvalidCache) (.ref C_InvalidCache) = some true)
    (y_InvalidCache_InvalidIndex : PySem.W.exmOne K (.ref C_InvalidCache) (.ref C_InvalidIndex) = some false)
    (y_InvalidCache_InvalidSize : PySem.W.exmOne K (.ref C_InvalidCache) (.ref C_InvalidSize) = some false)
    (y_InvalidIndex_InvalidCache : PySem.W.exmOne K (.ref C_InvalidIndex) (.ref C_InvalidCache) = some false)
    (y_InvalidIndex_InvalidIndex : PySem.W.exmOne K (.ref C_InvalidIndex) (.ref C_InvalidIndex) = some true)
    (y_InvalidIndex_InvalidSize : PySem.W.exmOne K (.ref C_InvalidIndex) (.ref C_InvalidSize) = some false)
    (y_InvalidSize_InvalidCache : PySem.W.exmOne K (.ref C_InvalidSize) (.ref C_InvalidCache) = some false)
    (y_InvalidSize_InvalidIndex : PySem.W.exmOne K (.ref C_InvalidSize) (.ref C_InvalidIndex) = some false)
    (y_InvalidSize_InvalidSize : PySem.W.exmOne K (.ref C_InvalidSize) (.ref C_InvalidSize) = some true)
    (hxb0 : PySem.W.nsIn K mainGlobals "PromiseError" = some (some (.ref Cb)))
    (yb_InvalidCache : PySem.W.exmOne K (.ref C_InvalidCache) (.ref Cb) = some true)
    (yb_InvalidIndex : PySem.W.exmOne K (.ref C_InvalidIndex) (.ref Cb) = some true)
    (yb_InvalidSize : PySem.W.exmOne K (.ref C_InvalidSize) (.ref Cb) = some true) :
    LamX.LawAtS PySem.Challenge.rw_leastpromise_k46_whole_patterns_are_what w K (L2.CX (PySem.Challenge.rw_leastpromise_k46_whole_patterns_are_what).prog w) 8 63 "_law_script" mg fa h := by
  have e := hfa.symm.trans (PySem.W.mg_of X G ha18)
  cases e
  have xE_InvalidCache : Exn K (PySem.Challenge.rw_leastpromise_k46_whole_patterns_are_what).prog mg "InvalidCache" "at" := by
    subst xdn_InvalidCache
    refine exn_mk (pn := "at") (fI := f_InvalidCache) (PySem.W.mg_of X G hx_InvalidCache) ⟨⟨_, _, _, _, _, _, _, _, _, _, _, _, _, _, _, xl_InvalidCache, xb_InvalidCache⟩, xsa_InvalidCache, xex_InvalidCache, xty_InvalidCache, xkp_InvalidCache, xfl_InvalidCache, xsu_InvalidCache, x_op, xsm_InvalidCache, xem_InvalidCache, xin_InvalidCache, xfn_InvalidCache, _, _, _, _, _, _, _, _, _, _, _, _, _, _, _, _, _, _, _, _, _, xlk_InvalidCache, xcd_InvalidCache, xlc_InvalidCache, xvf_InvalidCache, xfi_InvalidCache, xce_InvalidCache, fun us hl => match us, hl with | [_, _], _ => rfl⟩ (PySem.W.mg_none_of X G hz8) ⟨xga_InvalidCache, xgg_InvalidCache, xex_InvalidCache, xhd_InvalidCache⟩ (by decide) rfl rfl rfl rfl (by decide) (by decide +kernel) rfl rfl rfl rfl rfl rfl (by decide) (fun _ => rfl) (fun env e => by unfold interactive; rw [e] <;> rfl) (fun _ => rfl) (fun _ => rfl) (fun _ => rfl)
  have xE_InvalidIndex : Exn K (PySem.Challenge.rw_leastpromise_k46_whole_patterns_are_what).prog mg "InvalidIndex" "at" := by
    subst xdn_InvalidIndex
    refine exn_mk (pn := "at") (fI := f_InvalidIndex) (PySem.W.mg_of X G hx_InvalidIndex) ⟨⟨_, _, _, _, _, _, _, _, _, _, _, _, _, _, _, xl_InvalidIndex, xb_InvalidIndex⟩, xsa_InvalidIndex, xex_InvalidIndex, xty_InvalidIndex, xkp_InvalidIndex, xfl_InvalidIndex, xsu_InvalidIndex, x_op, xsm_InvalidIndex, xem_InvalidIndex, xin_InvalidIndex, xfn_InvalidIndex, _, _, _, _, _, _, _, _, _, _, _, _, _, _, _, _, _, _, _, _, _, xlk_InvalidIndex, xcd_InvalidIndex, xlc_InvalidIndex, xvf_InvalidIndex, xfi_InvalidIndex, xce_InvalidIndex, fun us hl => match us, hl with | [_, _], _ => rfl⟩ (PySem.W.mg_none_of X G hz8) ⟨xga_InvalidIndex, xgg_InvalidIndex, xex_InvalidIndex, xhd_InvalidIndex⟩ (by decide) rfl rfl rfl rfl (by decide) (by decide +kernel) rfl rfl rfl rfl rfl rfl (by decide) (fun _ => rfl) (fun env e => by unfold interactive; rw [e] <;> rfl) (fun _ => rfl) (fun _ => rfl) (fun _ => rfl)
  have xE_InvalidSize : Exn K (PySem.Challenge.rw_leastpromise_k46_whole_patterns_are_what).prog mg "InvalidSize" "word" := by
    subst xdn_InvalidSize
    refine exn_mk (pn := "word") (fI := f_InvalidSize) (PySem.W.mg_of X G hx_InvalidSize) ⟨⟨_, _, _, _, _, _, _, _, _, _, _, _, _, _, _, xl_InvalidSize, xb_InvalidSize⟩, xsa_InvalidSize, xex_InvalidSize, xty_InvalidSize, xkp_InvalidSize, xfl_InvalidSize, xsu_InvalidSize, x_op, xsm_InvalidSize, xem_InvalidSize, xin_InvalidSize, xfn_InvalidSize, _, _, _, _, _, _, _, _, _, _, _, _, _, _, _, _, _, _, _, _, _, xlk_InvalidSize, xcd_InvalidSize, xlc_InvalidSize, xvf_InvalidSize, xfi_InvalidSize, xce_InvalidSize, fun us hl => match us, hl with | [_, _], _ => rfl⟩ (PySem.W.mg_none_of X G hz8) ⟨xga_InvalidSize, xgg_InvalidSize, xex_InvalidSize, xhd_InvalidSize⟩ (by decide) rfl rfl rfl rfl (by decide) (by decide +kernel) rfl rfl rfl rfl rfl rfl (by decide) (fun _ => rfl) (fun env e => by unfold interactive; rw [e] <;> rfl) (fun _ => rfl) (fun _ => rfl) (fun _ => rfl)
  have xT : ExT K (PySem.Challenge.rw_leastpromise_k46_whole_patterns_are_what).prog mg xtab xbase := by
    refine ⟨fun p hp => ?_, fun p hp x C Y hx mC mY => ?_⟩
    · simp only [xtab, List.mem_cons, List.not_mem_nil, or_false] at hp
      rcases hp with rfl | rfl | rfl
      · exact xE_InvalidCache
      · exact xE_InvalidIndex
      · exact xE_InvalidSize
    simp only [xtab, List.mem_cons, List.not_mem_nil, or_false] at hp
    rcases hp with rfl | rfl | rfl
    · rcases hx with rfl | hx
      · cases (PySem.W.mg_of X G hx_InvalidCache).symm.trans mC
        cases (PySem.W.mg_of X G hxb0).symm.trans mY
        exact yb_InvalidCache
      · simp only [xtab, List.map_cons, List.map_nil, List.mem_cons, List.not_mem_nil, or_false] at hx
        rcases hx with rfl | rfl | rfl
        · cases (PySem.W.mg_of X G hx_InvalidCache).symm.trans mC
          cases (PySem.W.mg_of X G hx_InvalidCache).symm.trans mY
          exact y_InvalidCache_InvalidCache
        · cases (PySem.W.mg_of X G hx_InvalidCache).symm.trans mC
          cases (PySem.W.mg_of X G hx_InvalidIndex).symm.trans mY
          exact y_InvalidCache_InvalidIndex
        · cases (PySem.W.mg_of X G hx_InvalidCache).symm.trans mC
          cases (PySem.W.mg_of X G hx_InvalidSize).symm.trans mY
          exact y_InvalidCache_InvalidSize
    · rcases hx with rfl | hx
      · cases (PySem.W.mg_of X G hx_InvalidIndex).symm.trans mC
        cases (PySem.W.mg_of X G hxb0).symm.trans mY
        exact yb_InvalidIndex
      · simp only [xtab, List.map_cons, List.map_nil, List.mem_cons, List.not_mem_nil, or_false] at hx
        rcases hx with rfl | rfl | rfl
        · cases (PySem.W.mg_of X G hx_InvalidIndex).symm.trans mC
          cases (PySem.W.mg_of X G hx_InvalidCache).symm.trans mY
          exact y_InvalidIndex_InvalidCache
        · cases (PySem.W.mg_of X G hx_InvalidIndex).symm.trans mC
          cases (PySem.W.mg_of X G hx_InvalidIndex).symm.trans mY
          exact y_InvalidIndex_InvalidIndex
        · cases (PySem.W.mg_of X G hx_InvalidIndex).symm.trans mC
          cases (PySem.W.mg_of X G hx_InvalidSize).symm.trans mY
          exact y_InvalidIndex_InvalidSize
    · rcases hx with rfl | hx
      · cases (PySem.W.mg_of X G hx_InvalidSize).symm.trans mC
        cases (PySem.W.mg_of X G hxb0).symm.trans mY
        exact yb_InvalidSize
      · simp only [xtab, List.map_cons, List.map_nil, List.mem_cons, List.not_mem_nil, or_false] at hx
        rcases hx with rfl | rfl | rfl
        · cases (PySem.W.mg_of X G hx_InvalidSize).symm.trans mC
          cases (PySem.W.mg_of X G hx_InvalidCache).symm.trans mY
          exact y_InvalidSize_InvalidCache
        · cases (PySem.W.mg_of X G hx_InvalidSize).symm.trans mC
          cases (PySem.W.mg_of X G hx_InvalidIndex).symm.trans mY
          exact y_InvalidSize_InvalidIndex
        · cases (PySem.W.mg_of X G hx_InvalidSize).symm.trans mC
          cases (PySem.W.mg_of X G hx_InvalidSize).symm.trans mY
          exact y_InvalidSize_InvalidSize
  refine ⟨PySem.W.fnOf "law" "law" (defArgs s_law) (defBody s_law) (defScope s_law) .none kV18 dc18 pm18 an18 (.ref cb18) ct18, [(cb18, P18)], spLawT [(cb18, P18)] 63 K, fun p hp => by
    simp only [List.mem_cons, List.not_mem_nil, or_false] at hp
    rcases hp with rfl
    · exact ht18,
    fun p hp => by
    simp only [List.mem_cons, List.not_mem_nil, or_false] at hp
    rcases hp with rfl
    · exact hn18,
    fun p hp => by
    simp only [List.mem_cons, List.not_mem_nil, or_false] at hp
    rcases hp with rfl
    · exact PySem.W.codeHd_of_K X he18,
    fun s v => .of_eq rfl, fun H a ns hl hbits hH hS => ⟨a, ns, rfl, hl, hbits, hH, hS, fun _ _ e => e⟩, fun base _ _ TB => ?_⟩
  let T : Pk (PySem.Challenge.rw_leastpromise_k46_whole_patterns_are_what).prog w K mg base := {
    tb := [(P18, qn_law)],
    k_MOST_ACCESSES := k_MOST_ACCESSES, c_MOST_ACCESSES := PySem.W.mg_of X G hi_MOST_ACCESSES,
    ax_InvalidCache := C_InvalidCache, gx_InvalidCache := PySem.W.mg_of X G hx_InvalidCache,
    ax_InvalidIndex := C_InvalidIndex, gx_InvalidIndex := PySem.W.mg_of X G hx_InvalidIndex,
    ax_InvalidSize := C_InvalidSize, gx_InvalidSize := PySem.W.mg_of X G hx_InvalidSize,
    xt := xT,
    a_is_integer := a0, fd_is_integer := _, F_is_integer := fun_mk (st := s_is_integer) hl0 hc0 hk0, g_is_integer := PySem.W.mg_of X G ha0, b_is_integer := (fun_mk (st := s_is_integer) hl0 hc0 hk0).binds (ps := ps_is_integer) (fun _ _ _ _ _ _ us hl => (match us, hl with | [_], _ => rfl)),
    a_is_number := a1, fd_is_number := _, F_is_number := fun_mk (st := s_is_number) hl1 hc1 hk1, g_is_number := PySem.W.mg_of X G ha1, b_is_number := (fun_mk (st := s_is_number) hl1 hc1 hk1).binds (ps := ps_is_number) (fun _ _ _ _ _ _ us hl => (match us, hl with | [_], _ => rfl)),
    a_is_sequence := a2, fd_is_sequence := _, F_is_sequence := fun_mk (st := s_is_sequence) hl2 hc2 hk2, g_is_sequence := PySem.W.mg_of X G ha2, b_is_sequence := (fun_mk (st := s_is_sequence) hl2 hc2 hk2).binds (ps := ps_is_sequence) (fun _ _ _ _ _ _ us hl => (match us, hl with | [_], _ => rfl)),
    a_need_accesses := a3, fd_need_accesses := _, F_need_accesses := fun_mk (st := s_need_accesses) hl3 hc3 hk3, g_need_accesses := PySem.W.mg_of X G ha3, b_need_accesses := (fun_mk (st := s_need_accesses) hl3 hc3 hk3).binds (ps := ps_need_accesses) (fun _ _ _ _ _ _ us hl => (match us, hl with | [_], _ => rfl)),
    a_row_pattern := a4, fd_row_pattern := _, F_row_pattern := fun_mk (st := s_row_pattern) hl4 hc4 hk4, g_row_pattern := PySem.W.mg_of X G ha4, b_row_pattern := (fun_mk (st := s_row_pattern) hl4 hc4 hk4).binds (ps := ps_row_pattern) (fun _ _ _ _ _ _ us hl => (match us, hl with | [_], _ => rfl)),
    a_one_line := a5, fd_one_line := _, F_one_line := fun_mk (st := s_one_line) hl5 hc5 hk5, g_one_line := PySem.W.mg_of X G ha5, b_one_line := (fun_mk (st := s_one_line) hl5 hc5 hk5).binds (ps := ps_one_line) (fun _ _ _ _ _ _ us hl => (match us, hl with | [], _ => rfl)),
    a_pinning := a6, fd_pinning := _, F_pinning := fun_mk (st := s_pinning) hl6 hc6 hk6, g_pinning := PySem.W.mg_of X G ha6, b_pinning := (fun_mk (st := s_pinning) hl6 hc6 hk6).binds (ps := ps_pinning) (fun _ _ _ _ _ _ us hl => (match us, hl with | [_], _ => rfl)),
    a_parting_cache := a7, fd_parting_cache := _, F_parting_cache := fun_mk (st := s_parting_cache) hl7 hc7 hk7, g_parting_cache := PySem.W.mg_of X G ha7, b_parting_cache := (fun_mk (st := s_parting_cache) hl7 hc7 hk7).binds (ps := ps_parting_cache) (fun _ _ _ _ _ _ us hl => (match us, hl with | [_, _], _ => rfl)),
    a__law_draw := a8, fd__law_draw := _, F__law_draw := fun_mk (st := s__law_draw) hl8 hc8 hk8, g__law_draw := PySem.W.mg_of X G ha8, b__law_draw := (fun_mk (st := s__law_draw) hl8 hc8 hk8).binds (ps := ps__law_draw) (fun _ _ _ _ _ _ us hl => (match us, hl with | [_, _], _ => rfl)),
    a__law_any := a9, fd__law_any := _, F__law_any := fun_mk (st := s__law_any) hl9 hc9 hk9, g__law_any := PySem.W.mg_of X G ha9, b__law_any := (fun_mk (st := s__law_any) hl9 hc9 hk9).binds (ps := ps__law_any) (fun _ _ _ _ _ _ us hl => (match us, hl with | [_, _], _ => rfl)),
    a__law_of := a10, fd__law_of := _, F__law_of := fun_mk (st := s__law_of) hl10 hc10 hk10, g__law_of := PySem.W.mg_of X G ha10, b__law_of := (fun_mk (st := s__law_of) hl10 hc10 hk10).binds (ps := ps__law_of) (fun _ _ _ _ _ _ us hl => (match us, hl with | [_, _], _ => rfl)),
    a__law_cache := a11, fd__law_cache := _, F__law_cache := fun_mk (st := s__law_cache) hl11 hc11 hk11, g__law_cache := PySem.W.mg_of X G ha11, b__law_cache := (fun_mk (st := s__law_cache) hl11 hc11 hk11).binds (ps := ps__law_cache) (fun _ _ _ _ _ _ us hl => (match us, hl with | [_], _ => rfl)),
    a__law_walk := a12, fd__law_walk := _, F__law_walk := fun_mk (st := s__law_walk) hl12 hc12 hk12, g__law_walk := PySem.W.mg_of X G ha12, b__law_walk := (fun_mk (st := s__law_walk) hl12 hc12 hk12).binds (ps := ps__law_walk) (fun _ _ _ _ _ _ us hl => (match us, hl with | [_, _], _ => rfl)),
    a__law_tried := a13, fd__law_tried := _, F__law_tried := fun_mk (st := s__law_tried) hl13 hc13 hk13, g__law_tried := PySem.W.mg_of X G ha13, b__law_tried := (fun_mk (st := s__law_tried) hl13 hc13 hk13).binds (ps := ps__law_tried) (fun _ _ _ _ _ _ us hl => (match us, hl with | [_], _ => rfl)),
    a__law_wrong_row := a14, fd__law_wrong_row := _, F__law_wrong_row := fun_mk (st := s__law_wrong_row) hl14 hc14 hk14, g__law_wrong_row := PySem.W.mg_of X G ha14, b__law_wrong_row := (fun_mk (st := s__law_wrong_row) hl14 hc14 hk14).binds (ps := ps__law_wrong_row) (fun _ _ _ _ _ _ us hl => (match us, hl with | [_], _ => rfl)),
    a__law_pattern := a15, fd__law_pattern := _, F__law_pattern := fun_mk (st := s__law_pattern) hl15 hc15 hk15, g__law_pattern := PySem.W.mg_of X G ha15, b__law_pattern := (fun_mk (st := s__law_pattern) hl15 hc15 hk15).binds (ps := ps__law_pattern) (fun _ _ _ _ _ _ us hl => (match us, hl with | [_], _ => rfl)),
    a__law_is_cache := a16, fd__law_is_cache := _, F__law_is_cache := fun_mk (st := s__law_is_cache) hl16 hc16 hk16, g__law_is_cache := PySem.W.mg_of X G ha16, b__law_is_cache := (fun_mk (st := s__law_is_cache) hl16 hc16 hk16).binds (ps := ps__law_is_cache) (fun _ _ _ _ _ _ us hl => (match us, hl with | [_], _ => rfl)),
    a__law_two := a17, fd__law_two := _, F__law_two := fun_mk (st := s__law_two) hl17 hc17 hk17, g__law_two := PySem.W.mg_of X G ha17, b__law_two := (fun_mk (st := s__law_two) hl17 hc17 hk17).binds (ps := ps__law_two) (fun _ _ _ _ _ _ us hl => (match us, hl with | [_], _ => rfl)),
    a_law := fa, fd_law := _, F_law := fun_mk (st := s_law) hl18 hc18 hk18, g_law := PySem.W.mg_of X G ha18, b_law := (fun_mk (st := s_law) hl18 hc18 hk18).binds (ps := ps_law) (fun _ _ _ _ _ _ us hl => (match us, hl with | [_], _ => rfl)),
    ca_law := cb18, P_law := P18, C_law := funC_mk (st := s_law) hl18 hc18 hk18, tb_law := TB (cb18, P18) (by simp), tm_law := by simp, tu_law := hu18,
    kw_row_pattern_0 := kwB_of (st := s_row_pattern) (fun_mk (st := s_row_pattern) hl4 hc4 hk4) (fun _ _ _ _ _ _ ws hl => (match ws, hl with | [_], _ => rfl)),
    kw_parting_cache_0_1 := kwB_of (st := s_parting_cache) (fun_mk (st := s_parting_cache) hl7 hc7 hk7) (fun _ _ _ _ _ _ ws hl => (match ws, hl with | [_, _], _ => rfl)),
    n_abs := PySem.W.mg_none_of X G hz0,
    n_bool := PySem.W.mg_none_of X G hz1,
    n_enumerate := PySem.W.mg_none_of X G hz2,
    n_int := PySem.W.mg_none_of X G hz3,
    n_isinstance := PySem.W.mg_none_of X G hz4,
    n_len := PySem.W.mg_none_of X G hz5,
    n_list := PySem.W.mg_none_of X G hz6,
    n_range := PySem.W.mg_none_of X G hz7,
    n_tuple := PySem.W.mg_none_of X G hz9 }
  have hT : ∀ t ∈ ([(P18, qn_law)] : List (Addr × Str)), ∃ p ∈ ([(cb18, P18)] : List (Addr × Addr)), p.2 = t.1 := fun t ht => by
    simp only [List.mem_cons, List.not_mem_nil, or_false] at ht
    rcases ht with rfl
    · exact ⟨(cb18, P18), by simp, rfl⟩
  exact law_okL (by decide) T.C_law sc_law rfl hT (bd_law T) law_ok
end LP
open PySem PySem.W PyProof.Rows
set_option maxHeartbeats 0 in
theorem PySem.Challenge.cw_leastpromise_k46_whole_patterns_are_what_holds : PySem.Challenge.rw_leastpromise_k46_whole_patterns_are_what.Holds := by
  w_on; o_law; k_head; (case hw => w_witness2)
  k_fill
  refine LamX.walk_ofTs (l := PySem.Challenge.rw_leastpromise_k46_whole_patterns_are_what) (n := 63) (k := 8) (x := "_law_script") (CX := fun w => L2.CX (PySem.Challenge.rw_leastpromise_k46_whole_patterns_are_what).prog w) rfl (by decide) rfl ⟨rfl, by decide, by decide⟩ (fun w h Y => by first | exact PySem.W.km_in_of Y | exact PySem.W.kIn_of Y) ?F (fun _ _ _ _ _ ⟨_, _, _, _, _, _, _, _, _, _, _, _, h⟩ => h)
  case F =>
    intro w mg fa h Y KX G hmg
    have hT8 := PySem.W.km_tabs_of Y
    refine' LP.all_mk KX G hmg ?ha0 ?hl0 ?hc0 ?hk0 ?ha1 ?hl1 ?hc1 ?hk1 ?ha2 ?hl2 ?hc2 ?hk2 ?ha3 ?hl3 ?hc3 ?hk3 ?ha4 ?hl4 ?hc4 ?hk4 ?ha5 ?hl5 ?hc5 ?hk5 ?ha6 ?hl6 ?hc6 ?hk6 ?ha7 ?hl7 ?hc7 ?hk7 ?ha8 ?hl8 ?hc8 ?hk8 ?ha9 ?hl9 ?hc9 ?hk9 ?ha10 ?hl10 ?hc10 ?hk10 ?ha11 ?hl11 ?hc11 ?hk11 ?ha12 ?hl12 ?hc12 ?hk12 ?ha13 ?hl13 ?hc13 ?hk13 ?ha14 ?hl14 ?hc14 ?hk14 ?ha15 ?hl15 ?hc15 ?hk15 ?ha16 ?hl16 ?hc16 ?hk16 ?ha17 ?hl17 ?hc17 ?hk17 ?ha18 ?hl18 ?hc18 ?hk18 ?hq18 ?hv18 ?he18 ?hn18 ?ht18 ?hu18 ?hz0 ?hz1 ?hz2 ?hz3 ?hz4 ?hz5 ?hz6 ?hz7 ?hz8 ?hz9 ?hi_MOST_ACCESSES ?hx_InvalidCache ?hx_InvalidIndex ?hx_InvalidSize ?xl_InvalidCache ?xb_InvalidCache ?xsa_InvalidCache ?xex_InvalidCache ?xty_InvalidCache ?xkp_InvalidCache ?xfl_InvalidCache ?xsu_InvalidCache ?xsm_InvalidCache ?xem_InvalidCache ?xin_InvalidCache ?xfn_InvalidCache ?xlk_InvalidCache ?xcd_InvalidCache ?xlc_InvalidCache ?xvf_InvalidCache ?xfi_InvalidCache ?xce_InvalidCache ?xdn_InvalidCache ?xga_InvalidCache ?xgg_InvalidCache ?xhd_InvalidCache ?xl_InvalidIndex ?xb_InvalidIndex ?xsa_InvalidIndex ?xex_InvalidIndex ?xty_InvalidIndex ?xkp_InvalidIndex ?xfl_InvalidIndex ?xsu_InvalidIndex ?xsm_InvalidIndex ?xem_InvalidIndex ?xin_InvalidIndex ?xfn_InvalidIndex ?xlk_InvalidIndex ?xcd_InvalidIndex ?xlc_InvalidIndex ?xvf_InvalidIndex ?xfi_InvalidIndex ?xce_InvalidIndex ?xdn_InvalidIndex ?xga_InvalidIndex ?xgg_InvalidIndex ?xhd_InvalidIndex ?xl_InvalidSize ?xb_InvalidSize ?xsa_InvalidSize ?xex_InvalidSize ?xty_InvalidSize ?xkp_InvalidSize ?xfl_InvalidSize ?xsu_InvalidSize ?xsm_InvalidSize ?xem_InvalidSize ?xin_InvalidSize ?xfn_InvalidSize ?xlk_InvalidSize ?xcd_InvalidSize ?xlc_InvalidSize ?xvf_InvalidSize ?xfi_InvalidSize ?xce_InvalidSize ?xdn_InvalidSize ?xga_InvalidSize ?xgg_InvalidSize ?xhd_InvalidSize ?x_op ?y_InvalidCache_InvalidCache ?y_InvalidCache_InvalidIndex ?y_InvalidCache_InvalidSize ?y_InvalidIndex_InvalidCache ?y_InvalidIndex_InvalidIndex ?y_InvalidIndex_InvalidSize ?y_InvalidSize_InvalidCache ?y_InvalidSize_InvalidIndex ?y_InvalidSize_InvalidSize ?hxb0 ?yb_InvalidCache ?yb_InvalidIndex ?yb_InvalidSize
    (case ha0 => k_is); (case hl0 => k_is); (case hc0 => k_is); (case hk0 => k_is); (case ha1 => k_is); (case hl1 => k_is); (case hc1 => k_is); (case hk1 => k_is); (case ha2 => k_is); (case hl2 => k_is); (case hc2 => k_is); (case hk2 => k_is); (case ha3 => k_is); (case hl3 => k_is); (case hc3 => k_is); (case hk3 => k_is); (case ha4 => k_is); (case hl4 => k_is); (case hc4 => k_is); (case hk4 => k_is); (case ha5 => k_is); (case hl5 => k_is); (case hc5 => k_is); (case hk5 => k_is); (case ha6 => k_is); (case hl6 => k_is); (case hc6 => k_is); (case hk6 => k_is); (case ha7 => k_is); (case hl7 => k_is); (case hc7 => k_is); (case hk7 => k_is); (case ha8 => k_is); (case hl8 => k_is); (case hc8 => k_is); (case hk8 => k_is); (case ha9 => k_is); (case hl9 => k_is); (case hc9 => k_is); (case hk9 => k_is); (case ha10 => k_is); (case hl10 => k_is); (case hc10 => k_is); (case hk10 => k_is); (case ha11 => k_is); (case hl11 => k_is); (case hc11 => k_is); (case hk11 => k_is); (case ha12 => k_is); (case hl12 => k_is); (case hc12 => k_is); (case hk12 => k_is); (case ha13 => k_is); (case hl13 => k_is); (case hc13 => k_is); (case hk13 => k_is); (case ha14 => k_is); (case hl14 => k_is); (case hc14 => k_is); (case hk14 => k_is); (case ha15 => k_is); (case hl15 => k_is); (case hc15 => k_is); (case hk15 => k_is); (case ha16 => k_is); (case hl16 => k_is); (case hc16 => k_is); (case hk16 => k_is); (case ha17 => k_is); (case hl17 => k_is); (case hc17 => k_is); (case hk17 => k_is); (case ha18 => k_is); (case hl18 => k_is); (case hc18 => k_is); (case hk18 => k_is); (case hq18 => k_is); (case hz0 => k_is); (case hz1 => k_is); (case hz2 => k_is); (case hz3 => k_is); (case hz4 => k_is); (case hz5 => k_is); (case hz6 => k_is); (case hz7 => k_is); (case hz8 => k_is); (case hz9 => k_is); (case hi_MOST_ACCESSES => k_is); (case hx_InvalidCache => k_is); (case hx_InvalidIndex => k_is); (case hx_InvalidSize => k_is); (case xl_InvalidCache => k_is); (case xsa_InvalidCache => k_is); (case xex_InvalidCache => k_is); (case xty_InvalidCache => k_is); (case xkp_InvalidCache => k_is); (case xfl_InvalidCache => k_is); (case xsm_InvalidCache => k_is); (case xem_InvalidCache => k_is); (case xin_InvalidCache => k_is); (case xfn_InvalidCache => k_is); (case xlk_InvalidCache => k_is); (case xcd_InvalidCache => k_is); (case xlc_InvalidCache => k_is); (case xce_InvalidCache => k_is); (case xga_InvalidCache => k_is); (case xgg_InvalidCache => k_is); (case xhd_InvalidCache => k_is); (case xl_InvalidIndex => k_is); (case xsa_InvalidIndex => k_is); (case xex_InvalidIndex => k_is); (case xty_InvalidIndex => k_is); (case xkp_InvalidIndex => k_is); (case xfl_InvalidIndex => k_is); (case xsm_InvalidIndex => k_is); (case xem_InvalidIndex => k_is); (case xin_InvalidIndex => k_is); (case xfn_InvalidIndex => k_is); (case xlk_InvalidIndex => k_is); (case xcd_InvalidIndex => k_is); (case xlc_InvalidIndex => k_is); (case xce_InvalidIndex => k_is); (case xga_InvalidIndex => k_is); (case xgg_InvalidIndex => k_is); (case xhd_InvalidIndex => k_is); (case xl_InvalidSize => k_is); (case xsa_InvalidSize => k_is); (case xex_InvalidSize => k_is); (case xty_InvalidSize => k_is); (case xkp_InvalidSize => k_is); (case xfl_InvalidSize => k_is); (case xsm_InvalidSize => k_is); (case xem_InvalidSize => k_is); (case xin_InvalidSize => k_is); (case xfn_InvalidSize => k_is); (case xlk_InvalidSize => k_is); (case xcd_InvalidSize => k_is); (case xlc_InvalidSize => k_is); (case xce_InvalidSize => k_is); (case xga_InvalidSize => k_is); (case xgg_InvalidSize => k_is); (case xhd_InvalidSize => k_is); (case x_op => k_is); (case hxb0 => k_is); (case hv18 => rfl); (case he18 => first | kernel_rfl | decide +kernel); (case hn18 => kernel_rfl); (case ht18 => exact hT8 _ (by k_mem)); (case hu18 => decide +kernel); (case xb_InvalidCache => first | kernel_rfl | decide +kernel); (case xsu_InvalidCache => kernel_rfl); (case xvf_InvalidCache => rfl); (case xfi_InvalidCache => rfl); (case xdn_InvalidCache => rfl); (case xb_InvalidIndex => first | kernel_rfl | decide +kernel); (case xsu_InvalidIndex => kernel_rfl); (case xvf_InvalidIndex => rfl); (case xfi_InvalidIndex => rfl); (case xdn_InvalidIndex => rfl); (case xb_InvalidSize => first | kernel_rfl | decide +kernel); (case xsu_InvalidSize => kernel_rfl); (case xvf_InvalidSize => rfl); (case xfi_InvalidSize => rfl); (case xdn_InvalidSize => rfl); (case y_InvalidCache_InvalidCache => kernel_rfl); (case y_InvalidCache_InvalidIndex => kernel_rfl); (case y_InvalidCache_InvalidSize => kernel_rfl); (case y_InvalidIndex_InvalidCache => kernel_rfl); (case y_InvalidIndex_InvalidIndex => kernel_rfl); (case y_InvalidIndex_InvalidSize => kernel_rfl); (case y_InvalidSize_InvalidCache => kernel_rfl); (case y_InvalidSize_InvalidIndex => kernel_rfl); (case y_InvalidSize_InvalidSize => kernel_rfl); (case yb_InvalidCache => kernel_rfl); (case yb_InvalidIndex => kernel_rfl); (case yb_InvalidSize => kernel_rfl)
