import PyProof.Rows.All
import Wide.All
import OpenK.AllK
import Wide.FinOn
import HandS.ForExc
import HandS.ForMost
import HandS.IsInst
import HandS.TryMany
import HandS.CallSlots
import HandS.Lambda
import HandS.Conv
import HandS.TupAny
import KE.DataEq
import HandS.Wide
import HandS.Walk
import HandS.Zip
import PyProof.EnumMake
import HandS.TupMul
import HandS.Style
import HandS.Dict
import HandS.More
import HandS.WrittenGet
import HandS.Ends
import HandS.ExcSuper
import HandS.ExcInit
import KE.KSuper
import KE.KExcInit
import HandS.ExcField
import HandS.Defaults
import HandS.EndTab
import KE.KNestM
import KE.RegKSuper
import KE.RegKTryMore
import PySem.Challenge.RW_leastpromise_k06_whole_frames_and_progra
set_option Elab.async false
set_option linter.all false
set_option maxRecDepth 100000
set_option autoImplicit false
set_option maxHeartbeats 8000000
/-! LpA: plain data over the hand layer: values as trees, immutable objects, boxes, the state of a body. -/
namespace LP
open PySem PySem.Spec PyProof.Rows L2
/-- no row of simp is to be checked by computing -/
theorem pr {α : Sort _} {a b : α} (h : a = b) : a = b := h
/-- data: lists are trees too (never written again); ptr: a list that may be written; loc: the list that slot i owns; frz: a locked list (the script) -/
inductive D where
  | non | bl (b : Bool) | int (i : Int) | str (x : Str) | tup (xs : List D) | lst (xs : List D) | ptr (n : Nat) | loc (i : Nat) | frz (xs : List D)
  | lam (k : Nat) | fn (x : Str)
/-- what is known never to change -/
abbrev Imm := Addr → Option HO
def KTup (K : PySem.W.Frag) (a : Addr) (vs : List V) : Prop :=
  ∃ (o : Obj) (its : Array Value) (n : Nat), K.lookup a = some o ∧ o.cls = .type "tuple" ∧ o.data = .seq its n ∧ its.size ≤ 1000000 ∧ Vals vs its.toList
def KLst (K : PySem.W.Frag) (a : Addr) (vs : List V) : Prop :=
  ∃ (o : Obj) (its : Array Value) (n : Nat), K.lookup a = some o ∧ o.cls = .type "list" ∧ o.dict = none ∧ o.data = .seq its n ∧ its.size ≤ 1000000 ∧ Vals vs its.toList
/-- a list that stands for good: locked, or written by the module -/
def LstU (u : HO) (vs : List V) : Prop := u = .lst vs ∨ ∃ o, u = .frz o (.lst vs)
def FLst (K : PySem.W.Frag) (M : Imm) (a : Addr) (vs : List V) : Prop := (∃ u, M a = some u ∧ LstU u vs) ∨ KLst K a vs
/-- what a lambda's object is: its number, its address, the object, its code's address, its name -/
abbrev LamP := Nat → Addr → Obj → Addr → Str → Prop
/-- the written part; the lambdas of a frame; the module's names -/
structure Jd where
  K : PySem.W.Frag
  L : LamP
  mg : Str → Option Value
/-- a function object, never written -/
def LamO (f : Addr) (o : Obj) : HO := .ext fun h => h.get? f = some o
mutual
def Rep (J : Jd) (M : Imm) (r : List Addr) : D → V → Prop
  | .non, v => v = .non
  | .bl b, v => v = .bl b
  | .int i, v => v = .int i
  | .str x, v => v = .str x
  | .tup ds, v => ∃ a vs, v = .ref a ∧ (M a = some (.tup vs) ∨ KTup J.K a vs) ∧ Reps J M r ds vs
  | .lst ds, v => ∃ a vs, v = .ref a ∧ M a = some (.lst vs) ∧ Reps J M r ds vs
  | .ptr n, v => ∃ a, v = .ref a ∧ r[n]? = some a
  | .loc _, _ => False
  | .frz ds, v => ∃ a vs, v = .ref a ∧ FLst J.K M a vs ∧ Reps J M r ds vs
  | .lam k, v => ∃ f o c q, v = .ref f ∧ M f = some (LamO f o) ∧ M c = some (LamX.CodeO c q) ∧ J.L k f o c q
  | .fn x, v => ∃ a, v = .ref a ∧ J.mg x = some (.ref a)
def Reps (J : Jd) (M : Imm) (r : List Addr) : List D → List V → Prop
  | [], vs => vs = []
  | d :: ds, vs => ∃ v vt, vs = v :: vt ∧ Rep J M r d v ∧ Reps J M r ds vt
end
section
variable {K : PySem.W.Frag} {J : Jd} {M M' : Imm} {r r' : List Addr}
def Le (M M' : Imm) : Prop := ∀ a o, M a = some o → M' a = some o
theorem Le.refl : Le M M := fun _ _ h => h
theorem Le.trans {M'' : Imm} (h : Le M M') (h' : Le M' M'') : Le M M'' := fun a o e => h' a o (h a o e)
theorem pre_get {n : Nat} {a : Addr} (h : r <+: r') (e : r[n]? = some a) : r'[n]? = some a := by
  obtain ⟨t, rfl⟩ := h
  rw [List.getElem?_append_left (List.getElem?_eq_some_iff.mp e).1]; exact e
mutual
theorem Rep.mono (hM : Le M M') (hr : r <+: r') : ∀ (d : D) (v : V), Rep J M r d v → Rep J M' r' d v
  | .non, _, h => h
  | .bl _, _, h => h
  | .int _, _, h => h
  | .str _, _, h => h
  | .tup ds, _, h => by
    obtain ⟨a, vs, e, q, t⟩ := h
    exact ⟨a, vs, e, q.imp (fun z => hM _ _ z) id, Reps.mono hM hr ds vs t⟩
  | .lst ds, _, h => by
    obtain ⟨a, vs, e, q, t⟩ := h
    exact ⟨a, vs, e, hM _ _ q, Reps.mono hM hr ds vs t⟩
  | .ptr n, _, h => by
    obtain ⟨a, e, q⟩ := h
    exact ⟨a, e, pre_get hr q⟩
  | .loc _, _, h => h
  | .frz ds, _, h => by
    obtain ⟨a, vs, e, q, t⟩ := h
    exact ⟨a, vs, e, q.imp (fun ⟨o, z, y⟩ => ⟨o, hM _ _ z, y⟩) id, Reps.mono hM hr ds vs t⟩
  | .lam k, _, h => by
    obtain ⟨f, o, c, q, e, h1, h2, h3⟩ := h
    exact ⟨f, o, c, q, e, hM _ _ h1, hM _ _ h2, h3⟩
  | .fn _, _, h => h
theorem Reps.mono (hM : Le M M') (hr : r <+: r') : ∀ (ds : List D) (vs : List V), Reps J M r ds vs → Reps J M' r' ds vs
  | [], _, h => h
  | d :: ds, _, h => by
    obtain ⟨v, vt, e, h1, h2⟩ := h
    exact ⟨v, vt, e, Rep.mono hM hr d v h1, Reps.mono hM hr ds vt h2⟩
end
theorem Reps.length : ∀ {ds : List D} {vs : List V}, Reps J M r ds vs → vs.length = ds.length
  | [], _, h => by cases h; rfl
  | d :: ds, _, h => by
    obtain ⟨v, vt, rfl, _, h2⟩ := h
    simp [Reps.length h2]
theorem Reps.get : ∀ {ds : List D} {vs : List V} {i : Nat} {d : D}, Reps J M r ds vs → ds[i]? = some d → ∃ v, vs[i]? = some v ∧ Rep J M r d v
  | [], _, _, _, _, e => by simp at e
  | d :: ds, _, 0, _, h, e => by
    obtain ⟨v, vt, rfl, h1, _⟩ := h
    simp at e; subst e
    exact ⟨v, rfl, h1⟩
  | d :: ds, _, i + 1, _, h, e => by
    obtain ⟨v, vt, rfl, _, h2⟩ := h
    obtain ⟨v', e', q⟩ := Reps.get (i := i) h2 (by simpa using e)
    exact ⟨v', by simpa using e', q⟩
theorem Reps.append : ∀ {ds es : List D} {vs us : List V}, Reps J M r ds vs → Reps J M r es us → Reps J M r (ds ++ es) (vs ++ us)
  | [], _, _, _, h, h' => by cases h; exact h'
  | d :: ds, _, _, _, h, h' => by
    obtain ⟨v, vt, rfl, h1, h2⟩ := h
    exact ⟨v, _, rfl, h1, Reps.append h2 h'⟩
theorem Reps.one {d : D} {v : V} (h : Rep J M r d v) : Reps J M r [d] [v] := ⟨v, [], rfl, h, rfl⟩
theorem Reps.set : ∀ {ds : List D} {vs : List V} {d : D} {v : V} (i : Nat), Reps J M r ds vs → Rep J M r d v → Reps J M r (ds.set i d) (vs.set i v)
  | [], _, _, _, _, h, _ => by cases h; rfl
  | d :: ds, _, _, _, 0, h, q => by
    obtain ⟨v, vt, rfl, h1, h2⟩ := h
    exact ⟨_, _, rfl, q, h2⟩
  | d :: ds, _, _, _, i + 1, h, q => by
    obtain ⟨v, vt, rfl, h1, h2⟩ := h
    exact ⟨_, _, rfl, h1, Reps.set i h2 q⟩
theorem Reps.take : ∀ {ds : List D} {vs : List V} (n : Nat), Reps J M r ds vs → Reps J M r (ds.take n) (vs.take n)
  | _, _, 0, _ => by simp [Reps]
  | [], _, n + 1, h => by cases h; rfl
  | d :: ds, _, n + 1, h => by
    obtain ⟨v, vt, rfl, h1, h2⟩ := h
    exact ⟨_, _, rfl, h1, Reps.take n h2⟩
theorem Reps.drop : ∀ {ds : List D} {vs : List V} (n : Nat), Reps J M r ds vs → Reps J M r (ds.drop n) (vs.drop n)
  | _, _, 0, h => h
  | [], _, n + 1, h => by cases h; rfl
  | d :: ds, _, n + 1, h => by
    obtain ⟨v, vt, rfl, h1, h2⟩ := h
    exact Reps.drop n h2
end
/-! ### the state -/
/-- a body's fixed things: the written part, the module's names, the tables of code objects; at the entry: what is known, the boxes, the heap -/
structure Cfg where
  K : PySem.W.Frag
  mg : Str → Option Value
  T : List (Addr × Str)
  M0 : Imm
  r0 : List Addr
  H0 : Hp
  L : LamP
abbrev Cfg.J (G : Cfg) : Jd := ⟨G.K, G.L, G.mg⟩
/-- what a slot holds -/
inductive SV where
  | no | v (d : D) | own (ds : List D)
abbrev DE := List SV
abbrev Bx := List (List D)
/-- a size that every list and tuple keeps to -/
abbrev big : Nat := 1000000
theorem big_line {n : Nat} (h : n ≤ big) : n ≤ sizeLine := by rw [sizeLine_eq]; unfold big at h; omega
theorem big_lt {n : Nat} (h : n < big) : n < sizeLine := by rw [sizeLine_eq]; unfold big at h; omega
def immO : HO → Prop
  | .lst xs => xs.length ≤ big
  | .tup xs => xs.length ≤ big
  | .frz _ (.lst xs) => xs.length ≤ big
  | .ext _ => True
  | _ => False
def MOk (M : Imm) (H : Hp) : Prop := ∀ a o, M a = some o → immO o ∧ H a = some o
structure BxOk (J : Jd) (M : Imm) (r : List Addr) (h : Bx) (H : Hp) : Prop where
  len : r.length = h.length
  nd : r.Nodup
  at_ : ∀ (n : Nat) (a : Addr) (ds : List D), r[n]? = some a → h[n]? = some ds → M a = none ∧ ds.length ≤ big ∧ ∃ vs, H a = some (.lst vs) ∧ Reps J M r ds vs
/-- all but the boxes and the tables stays -/
def Keep (r : List Addr) (H H' : Hp) : Prop := ∀ a o, H a = some o → (∀ ps, o ≠ .tbl ps) → a ∉ r → H' a = some o
/-- nothing stands there, or a table -/
def Free (H : Hp) (a : Addr) : Prop := ∀ o, H a = some o → ∃ ps, o = .tbl ps
/-- a list stands there -/
def IsL (H : Hp) (a : Addr) : Prop := ∃ vs, H a = some (.lst vs)
theorem IsL.nf {H : Hp} {a : Addr} (i : IsL H a) : ¬ Free H a := fun f => by
  obtain ⟨vs, e⟩ := i
  obtain ⟨ps, z⟩ := f _ e
  cases z
theorem Free.of {H : Hp} {a : Addr} (h : H a = none) : Free H a := fun o e => by rw [h] at e; cases e
def SlotRep (J : Jd) (M : Imm) (r : List Addr) (H0 H : Hp) : SV → Option V → Prop
  | .no, _ => True
  | .v d, o => ∃ v, o = some v ∧ Rep J M r d v
  | .own ds, o => ∃ a vs, o = some (.ref a) ∧ M a = none ∧ a ∉ r ∧ Free H0 a ∧ ds.length ≤ big ∧ H a = some (.lst vs) ∧ Reps J M r ds vs
structure BS (G : Cfg) (M : Imm) (r : List Addr) (h : Bx) (δ : DE) (σ : L2.St) (H : Hp) : Prop where
  mok : MOk M H
  bx : BxOk G.J M r h H
  tb : LamX.Tabs G.T H
  len : σ.length = δ.length
  sl : ∀ (i : Nat) (s : SV) (o : Option V), δ[i]? = some s → σ[i]? = some o → SlotRep G.J M r G.H0 H s o
  sep : ∀ (i j : Nat) (ds es : List D), δ[i]? = some (.own ds) → δ[j]? = some (.own es) → i ≠ j → σ[i]? ≠ σ[j]?
  le : Le G.M0 M
  pre : G.r0 <+: r
  new : ∀ a, a ∈ r → a ∈ G.r0 ∨ Free G.H0 a
  keep : Keep G.r0 G.H0 H
  nf : ∀ a, G.M0 a = none → IsL G.H0 a → a ∉ G.r0 → M a = none
/-- between two moments of an expression -/
structure Stp (M : Imm) (r : List Addr) (H : Hp) (M' : Imm) (r' : List Addr) (H' : Hp) : Prop where
  le : Le M M'
  pre : r <+: r'
  new : ∀ a, a ∈ r' → a ∈ r ∨ Free H a
  keep : Keep r H H'
  nf : ∀ a, M a = none → IsL H a → a ∉ r → M' a = none
theorem Keep.refl {r : List Addr} {H : Hp} : Keep r H H := fun _ _ h _ _ => h
theorem IsL.fwd {r : List Addr} {H H1 : Hp} {a : Addr} (k : Keep r H H1) (n : a ∉ r) (i : IsL H a) : IsL H1 a := i.imp fun _ z => k a _ z (fun _ y => by cases y) n
theorem Free.back {r : List Addr} {H H1 : Hp} {a : Addr} (k : Keep r H H1) (n : a ∉ r) (f : Free H1 a) : Free H a := fun o e => by
  cases o with
  | tbl ps => exact ⟨ps, rfl⟩
  | _ => exact f _ (k a _ e (fun ps z => by cases z) n)
theorem Stp.refl {M : Imm} {r : List Addr} {H : Hp} : Stp M r H M r H := ⟨Le.refl, List.prefix_rfl, fun _ h => .inl h, Keep.refl, fun _ h _ _ => h⟩
theorem Stp.trans {M M1 M2 : Imm} {r r1 r2 : List Addr} {H H1 H2 : Hp} (a : Stp M r H M1 r1 H1) (b : Stp M1 r1 H1 M2 r2 H2) : Stp M r H M2 r2 H2 := by
  refine ⟨a.le.trans b.le, a.pre.trans b.pre, fun x hx => ?_, fun x o e t n => ?_, fun x m e n => b.nf x (a.nf x m e n) (e.imp fun vs z => a.keep x _ z (fun ps y => by cases y) n) fun z => (a.new x z).elim n e.nf⟩
  · by_cases hr : x ∈ r
    · exact .inl hr
    · rcases b.new x hx with z | z
      · rcases a.new x z with y | y
        · exact .inl y
        · exact .inr y
      · exact .inr (z.back a.keep hr)
  · refine b.keep x o (a.keep x o e t n) t fun z => ?_
    rcases a.new x z with q | q
    · exact n q
    · obtain ⟨ps, y⟩ := q o e
      exact t ps y
/-! ### results -/
inductive R (α : Type) where
  | ok (a : α) (h : Bx)
  | exc (c : Str) (fs : List (Str × D)) (h : Bx)
  | bad
def R.bind {α β : Type} (x : R α) (k : α → Bx → R β) : R β := match x with
  | .ok a h => k a h
  | .exc c fs h => .exc c fs h
  | .bad => .bad
@[simp] theorem R.bind_ok {α β : Type} (a : α) (h : Bx) (k : α → Bx → R β) : (R.ok a h).bind k = k a h := pr rfl
@[simp] theorem R.bind_exc {α β : Type} (c : Str) (fs : List (Str × D)) (h : Bx) (k : α → Bx → R β) : (R.exc c fs h : R α).bind k = .exc c fs h := pr rfl
@[simp] theorem R.bind_bad {α β : Type} (k : α → Bx → R β) : (R.bad : R α).bind k = .bad := pr rfl
abbrev EF := DE → Bx → R D
def RepV (J : Jd) (M : Imm) (r : List Addr) (δ : DE) (σ : L2.St) : D → V → Prop
  | .loc i, v => σ[i]? = some (some v) ∧ ∃ ds, δ[i]? = some (.own ds)
  | d, v => Rep J M r d v
theorem RepV.mono {J : Jd} {M M' : Imm} {r r' : List Addr} {δ : DE} {σ : L2.St} (hM : Le M M') (hr : r <+: r') : ∀ {d : D} {v : V}, RepV J M r δ σ d v → RepV J M' r' δ σ d v := by
  intro d v h
  cases d with
  | loc i => exact h
  | _ => exact Rep.mono hM hr _ _ h
/-- the fields of an exception -/
def ExcAt (J : Jd) (M : Imm) (r : List Addr) (H : Hp) : List (Str × D) → Option Addr → Prop
  | [], dd => dd = none
  | fs, dd => ∃ d vs, dd = some d ∧ H d = some (.xd ((fs.map (·.1)).zip vs)) ∧ Reps J M r (fs.map (·.2)) vs
/-- what stands for what, at a moment -/
abbrev Rl (α β : Type) := Imm → List Addr → α → β → Prop
def After {α β : Type} (G : Cfg) (W : WX) (σ : L2.St) (δ : DE) (rl : Rl α β) (M : Imm) (r : List Addr) (H : Hp) (x : R α) (Q : β → Hp → Prop) : Prop := match x with
  | .ok d h => ∀ v M' r' H', Stp M r H M' r' H' → BS G M' r' h δ σ H' → rl M' r' d v → Q v H'
  | .exc c fs h => ∀ C dd M' r' H', G.mg c = some (.ref C) → Stp M r H M' r' H' → BS G M' r' h δ σ H' → ExcAt G.J M' r' H' fs dd → W (.ref C) dd σ H'
  | .bad => False
/-- a reading: from the state as it stands -/
def tG {α β : Type} (G : Cfg) (W : WX) (rl : DE → L2.St → Rl α β) (f : DE → Bx → R α) : L2.St → Hp → (β → Hp → Prop) → Prop := fun σ H Q =>
  ∃ M r h δ, BS G M r h δ σ H ∧ After G W σ δ (rl δ σ) M r H (f δ h) Q
def rV (J : Jd) (δ : DE) (σ : L2.St) : Rl D V := fun M r => RepV J M r δ σ
def RepVs (J : Jd) (M : Imm) (r : List Addr) (δ : DE) (σ : L2.St) : List D → List V → Prop
  | [], vs => vs = []
  | d :: ds, vs => ∃ v vt, vs = v :: vt ∧ RepV J M r δ σ d v ∧ RepVs J M r δ σ ds vt
def rVs (J : Jd) (δ : DE) (σ : L2.St) : Rl (List D) (List V) := fun M r => RepVs J M r δ σ
def rB (_ : DE) (_ : L2.St) : Rl Bool Bool := fun _ _ a b => a = b
/-- an expression of the body computes f; an argument list; a test -/
def Ev (X : Cx) (G : Cfg) (W : WX) (e : Expr) (f : EF) : Prop := PE X e (tG G W (rV G.J) f)
def EvA (X : Cx) (G : Cfg) (W : WX) (es : List Expr) (f : DE → Bx → R (List D)) : Prop := PA X es (tG G W (rVs G.J) f)
def EvT (X : Cx) (G : Cfg) (W : WX) (e : Expr) (f : DE → Bx → R Bool) : Prop := PT X e (tG G W rB f)
def EvW (X : Cx) (G : Cfg) (W : WX) (e : Expr) (f : DE → Bx → R Bool) : Prop := PW X e (tG G W rB f)
theorem RepVs.mono {J : Jd} {M M' : Imm} {r r' : List Addr} {δ : DE} {σ : L2.St} (hM : Le M M') (hr : r <+: r') : ∀ {ds : List D} {vs : List V}, RepVs J M r δ σ ds vs → RepVs J M' r' δ σ ds vs
  | [], _, h => h
  | d :: ds, _, h => by
    obtain ⟨v, vt, e, h1, h2⟩ := h
    exact ⟨v, vt, e, h1.mono hM hr, RepVs.mono hM hr h2⟩
section
variable {X : Cx} {G : Cfg} {W : WX} {σ : L2.St} {δ : DE} {M M1 M2 : Imm} {r r1 r2 : List Addr} {h h1 h2 : Bx} {H H1 H2 : Hp}
theorem BS.fresh_r (b : BS G M r h δ σ H) {a : Addr} (e : H a = none) : a ∉ r := fun z => by
  obtain ⟨n, hn⟩ := List.getElem?_of_mem z
  have hl : n < h.length := by rw [← b.bx.len]; exact (List.getElem?_eq_some_iff.mp hn).1
  obtain ⟨_, _, vs, q, _⟩ := b.bx.at_ n a _ hn (List.getElem?_eq_getElem hl)
  rw [e] at q; cases q
theorem BS.fresh_M (b : BS G M r h δ σ H) {a : Addr} (e : H a = none) : M a = none := by
  cases q : M a with
  | none => rfl
  | some o =>
    obtain ⟨_, z⟩ := b.mok a o q
    rw [e] at z; cases z
theorem BS.lt (b : BS G M r h δ σ H) {i : Nat} {s : SV} (e : δ[i]? = some s) : ∃ o, σ[i]? = some o := by
  have hl : i < σ.length := by rw [b.len]; exact (List.getElem?_eq_some_iff.mp e).1
  exact ⟨_, List.getElem?_eq_getElem hl⟩
variable {α β α' β' : Type} {rl : Rl α β} {rl' : Rl α' β'}
/-- a further end -/
theorem After.more {x : R α} {Q Q' : β → Hp → Prop} (q : After G W σ δ rl M r H x Q) (f : ∀ v H', Q v H' → Q' v H') : After G W σ δ rl M r H x Q' := by
  cases x with
  | ok d h => exact fun v M' r' H' a b c => f v H' (q v M' r' H' a b c)
  | exc c fs h => exact q
  | bad => exact q
theorem After.from {x : R α} {Q : β → Hp → Prop} (s : Stp M r H M1 r1 H1) (q : After G W σ δ rl M r H x Q) : After G W σ δ rl M1 r1 H1 x Q := by
  cases x with
  | ok d h => exact fun v M' r' H' a b c => q v M' r' H' (s.trans a) b c
  | exc c fs h => exact fun C dd M' r' H' m a b e => q C dd M' r' H' m (s.trans a) b e
  | bad => exact q
/-- one behind the other -/
theorem After.bind {x : R α} {k : α → Bx → R α'} {Q : β' → Hp → Prop} (q : After G W σ δ rl' M r H (x.bind k) Q) :
    After G W σ δ rl M r H x fun v H1 => ∃ d M1 r1 h1, Stp M r H M1 r1 H1 ∧ BS G M1 r1 h1 δ σ H1 ∧ rl M1 r1 d v ∧ After G W σ δ rl' M1 r1 H1 (k d h1) Q := by
  cases x with
  | ok d h => exact fun v M' r' H' a b c => ⟨d, M', r', h, a, b, c, q.from a⟩
  | exc c fs h => exact q
  | bad => exact q
/-- the value as it stands -/
theorem After.now {d : α} {v : β} {Q : β → Hp → Prop} (b : BS G M r h δ σ H) (q : After G W σ δ rl M r H (.ok d h) Q) (rv : rl M r d v) : Q v H := q v M r H Stp.refl b rv
theorem tG.intro {rl : DE → L2.St → Rl α β} {f : DE → Bx → R α} {Q : β → Hp → Prop} (b : BS G M r h δ σ H) (q : After G W σ δ (rl δ σ) M r H (f δ h) Q) : tG G W rl f σ H Q := ⟨M, r, h, δ, b, q⟩
end
/-! ### readings that are asked less -/
theorem PE.imp {X : Cx} {e : Expr} {t t' : TE} (p : PE X e t) (f : ∀ σ H Q, t' σ H Q → t σ H Q) : PE X e t' := ⟨fun pins s σ H Q I h => p.run pins s σ H Q I (f σ H Q h)⟩
theorem PT.imp {X : Cx} {e : Expr} {t t' : TT} (p : PT X e t) (f : ∀ σ H Q, t' σ H Q → t σ H Q) : PT X e t' := ⟨fun pins s σ H Q I h => p.run pins s σ H Q I (f σ H Q h)⟩
theorem PW.imp {X : Cx} {e : Expr} {t t' : TT} (p : PW X e t) (f : ∀ σ H Q, t' σ H Q → t σ H Q) : PW X e t' := ⟨fun w pins s σ H Q I h => p.run w pins s σ H Q I (f σ H Q h)⟩
theorem PA.imp {X : Cx} {e : List Expr} {t t' : TA} (p : PA X e t) (f : ∀ σ H Q, t' σ H Q → t σ H Q) : PA X e t' := ⟨fun w pins s σ H Q I h => p.run w pins s σ H Q I (f σ H Q h)⟩
theorem PS.imp {X : Cx} {e : Stmt} {t t' : TS} (p : PS X e t) (f : ∀ D σ H, t' D σ H → t D σ H) : PS X e t' := ⟨fun pins s σ H D I h => p.run pins s σ H D I (f D σ H h)⟩
theorem PSs.imp {X : Cx} {e : List Stmt} {t t' : TS} (p : PSs X e t) (f : ∀ D σ H, t' D σ H → t D σ H) : PSs X e t' := ⟨fun pins s σ H D I h => p.run pins s σ H D I (f D σ H h)⟩
/-! ### new objects -/
def updM (M : Imm) (a : Addr) (o : HO) : Imm := fun b => if b = a then some o else M b
section
variable {G : Cfg} {σ : L2.St} {δ : DE} {M : Imm} {r : List Addr} {h : Bx} {H : Hp} {p : Addr} {o : HO}
theorem BS.leNew (b : BS G M r h δ σ H) (hp : H p = none) : Le M (updM M p o) := fun a u e => by
  unfold updM
  by_cases z : a = p
  · subst z; rw [b.fresh_M hp] at e; cases e
  · rw [if_neg z]; exact e
theorem upd_new (hp : H p = none) {a : Addr} {u : HO} (e : H a = some u) : upd H p o a = some u := by
  rw [upd_ne (ne_of_none e hp)]; exact e
theorem Rd.new (hp : H p = none) {a : Addr} {u : HO} (e : Rd H a u) : Rd (upd H p o) a u := by
  rcases e with e | ⟨x, e⟩
  · exact .inl (upd_new hp e)
  · exact .inr ⟨x, upd_new hp e⟩
theorem SlotRep.mono {J : Jd} {M' : Imm} {r' : List Addr} {H0 H' : Hp} (hM : Le M M') (hr : r <+: r') (hn : ∀ a vs, M a = none → H a = some (.lst vs) → a ∉ r → M' a = none ∧ a ∉ r' ∧ H' a = some (.lst vs)) :
    ∀ {s : SV} {x : Option V}, SlotRep J M r H0 H s x → SlotRep J M' r' H0 H' s x
  | .no, _, _ => trivial
  | .v d, _, q => by
    obtain ⟨v, e, q⟩ := q
    exact ⟨v, e, Rep.mono hM hr _ _ q⟩
  | .own ds, _, q => by
    obtain ⟨a, vs, e, m, n, f, z, q, t⟩ := q
    obtain ⟨m', n', q'⟩ := hn a vs m q n
    exact ⟨a, vs, e, m', n', f, z, q', Reps.mono hM hr _ _ t⟩
/-- a new list or tuple that is never written -/
theorem BS.laid (b : BS G M r h δ σ H) (hp : H p = none) (im : immO o) : BS G (updM M p o) r h δ σ (upd H p o) ∧ Stp M r H (updM M p o) r (upd H p o) := by
  have le : Le M (updM M p o) := b.leNew hp
  have pr : p ∉ r := b.fresh_r hp
  have nM : ∀ a, a ≠ p → M a = none → updM M p o a = none := fun a n e => by unfold updM; rw [if_neg n]; exact e
  refine ⟨⟨fun a u e => ?_, ⟨b.bx.len, b.bx.nd, fun n a ds e1 e2 => ?_⟩, b.tb.ext fun a u e => upd_new hp e, b.len, fun i s x e1 e2 => ?_, b.sep, b.le.trans le, b.pre, b.new, fun a u e t n => upd_new hp (b.keep a u e t n), fun a m f n => nM a (fun z => by obtain ⟨vs, y⟩ := f.fwd b.keep n; rw [z, hp] at y; cases y) (b.nf a m f n)⟩,
    le, List.prefix_rfl, fun a z => .inl z, fun a u e _ _ => upd_new hp e, fun a m f _ => nM a (fun z => by obtain ⟨vs, y⟩ := f; rw [z, hp] at y; cases y) m⟩
  · unfold updM at e
    by_cases z : a = p
    · subst z
      rw [if_pos (Eq.refl a)] at e; cases e
      exact ⟨im, upd_same⟩
    · rw [if_neg z] at e
      exact ⟨(b.mok a u e).1, upd_new hp (b.mok a u e).2⟩
  · obtain ⟨m, z, vs, q, t⟩ := b.bx.at_ n a ds e1 e2
    exact ⟨nM a (fun y => pr (y ▸ List.mem_of_getElem? e1)) m, z, vs, upd_new hp q, Reps.mono le List.prefix_rfl _ _ t⟩
  · exact (b.sl i s x e1 e2).mono le List.prefix_rfl fun a vs m q n => ⟨nM a (ne_of_none q hp) m, n, upd_new hp q⟩
theorem updM_same : updM M p o p = some o := if_pos rfl
end
section
variable {G : Cfg} {σ σ' : L2.St} {δ δ' : DE} {M M' : Imm} {r r' : List Addr} {h h' : Bx} {H H' : Hp} {p : Addr} {o : HO}
/-- the slots as they stood -/
theorem BS.step (b : BS G M r h δ σ H) (s : Stp M r H M' r' H') (b' : BS G M' r' h' δ' σ' H') : BS G M' r' h' δ σ H' := by
  refine ⟨b'.mok, b'.bx, b'.tb, b.len, fun i x o e1 e2 => ?_, b.sep, b'.le, b'.pre, b'.new, b'.keep, b'.nf⟩
  refine (b.sl i x o e1 e2).mono s.le s.pre fun a vs m q n => ?_
  have nf : IsL H a := ⟨vs, q⟩
  exact ⟨s.nf a m nf n, fun z => (s.new a z).elim n nf.nf, s.keep a _ q (fun ps y => by cases y) n⟩
/-- slots forgotten -/
theorem BS.weak (b : BS G M r h δ σ H) (hl : σ'.length = δ'.length) (w : ∀ (i : Nat) (s : SV), δ'[i]? = some s → s = .no ∨ (δ[i]? = some s ∧ σ'[i]? = σ[i]?)) : BS G M r h δ' σ' H := by
  refine ⟨b.mok, b.bx, b.tb, hl, fun i x o e1 e2 => ?_, fun i j ds es e1 e2 n => ?_, b.le, b.pre, b.new, b.keep, b.nf⟩
  · rcases w i x e1 with rfl | ⟨z, y⟩
    · trivial
    · exact b.sl i x o z (by rw [← y]; exact e2)
  · rcases w i _ e1 with z | ⟨z, y⟩
    · cases z
    · rcases w j _ e2 with z' | ⟨z', y'⟩
      · cases z'
      · rw [y, y']; exact b.sep i j ds es z z' n
/-- a slot takes a value -/
theorem BS.put (b : BS G M r h δ σ H) {i : Nat} {d : D} {v : V} (rv : Rep G.J M r d v) : BS G M r h (δ.set i (.v d)) (σ.set i (some v)) H := by
  refine ⟨b.mok, b.bx, b.tb, by rw [List.length_set, List.length_set]; exact b.len, fun j x o e1 e2 => ?_, fun j l ds es e1 e2 n => ?_, b.le, b.pre, b.new, b.keep, b.nf⟩
  · by_cases hj : i = j
    · subst hj
      have hi : i < δ.length := by
        have := (List.getElem?_eq_some_iff.mp e1).1
        simpa using this
      rw [List.getElem?_set_self hi] at e1
      rw [List.getElem?_set_self (by rw [b.len]; exact hi)] at e2
      cases e1; cases e2
      exact ⟨v, rfl, rv⟩
    · rw [List.getElem?_set_ne hj] at e1 e2
      exact b.sl j x o e1 e2
  · have nj : ∀ {j : Nat} {ds : List D}, (δ.set i (.v d))[j]? = some (.own ds) → i ≠ j ∧ δ[j]? = some (.own ds) := fun {j ds} e => by
      by_cases hj : i = j
      · subst hj
        have hi : i < δ.length := by
          have := (List.getElem?_eq_some_iff.mp e).1
          simpa using this
        rw [List.getElem?_set_self hi] at e; cases e
      · rw [List.getElem?_set_ne hj] at e
        exact ⟨hj, e⟩
    obtain ⟨a1, a2⟩ := nj e1
    obtain ⟨c1, c2⟩ := nj e2
    rw [List.getElem?_set_ne a1, List.getElem?_set_ne c1]
    exact b.sep j l ds es a2 c2 n
/-- no slot owns it -/
def NoOwn (δ : DE) (σ : L2.St) (a : Addr) : Prop := ∀ (i : Nat) (ds : List D), δ[i]? = some (.own ds) → σ[i]? ≠ some (some (.ref a))
theorem BS.noOwn (b : BS G M r h δ σ H) {a : Addr} (e : H a = none) : NoOwn δ σ a := fun i ds e1 e2 => by
  obtain ⟨x, vs, z, _, _, _, _, q, _⟩ := b.sl i _ _ e1 e2
  cases z
  rw [e] at q; cases q
/-- a list that nobody knows of is written -/
theorem BS.wrote (b : BS G M r h δ σ H) {a : Addr} (m : M a = none) (n : a ∉ r) (f : Free G.H0 a) (no : NoOwn δ σ a) {xs ys : List V} (q : H a = some (.lst xs)) : BS G M r h δ σ (upd H a (.lst ys)) := by
  have ne : ∀ {c u}, M c = some u → c ≠ a := fun e z => by rw [z, m] at e; cases e
  refine ⟨fun c u e => ⟨(b.mok c u e).1, by rw [upd_ne (ne e)]; exact (b.mok c u e).2⟩, ⟨b.bx.len, b.bx.nd, fun k c ds e1 e2 => ?_⟩, fun p hp => ?_, b.len, fun i s x e1 e2 => ?_, b.sep, b.le, b.pre, b.new, fun c u e t nr => ?_, b.nf⟩
  · obtain ⟨m', z, vs, q', t⟩ := b.bx.at_ k c ds e1 e2
    have hc : c ≠ a := fun y => by
      subst y
      exact n (List.mem_of_getElem? e1)
    exact ⟨m', z, vs, by rw [upd_ne hc]; exact q', t⟩
  · obtain ⟨ps, e1, e2, e3⟩ := b.tb p hp
    refine ⟨ps, by rw [upd_ne (fun z => by rw [z, q] at e1; cases e1)]; exact e1, e2, fun pos cv hc => ?_⟩
    obtain ⟨c, z1, z2⟩ := e3 pos cv hc
    refine ⟨c, z1, ?_⟩
    rw [upd_ne (fun z => by rw [z, q] at z2; cases z2)]
    exact z2
  · cases s with
    | no => trivial
    | v d => exact b.sl i _ x e1 e2
    | own ds =>
      obtain ⟨c, vs, z, m', n', f', l', q', t⟩ := b.sl i _ x e1 e2
      refine ⟨c, vs, z, m', n', f', l', ?_, t⟩
      rw [upd_ne (fun y => no i ds e1 (by rw [e2, z, y]))]
      exact q'
  · rw [upd_ne (fun z => by
      subst z
      obtain ⟨ps, y⟩ := f u e
      exact t ps y)]
    exact b.keep c u e t nr
/-- a new list, known to nobody -/
theorem BS.new_list (b : BS G M r h δ σ H) (hp : H p = none) {xs : List V} : BS G M r h δ σ (upd H p (.lst xs)) := by
  refine ⟨fun c u e => ⟨(b.mok c u e).1, upd_new hp (b.mok c u e).2⟩, ⟨b.bx.len, b.bx.nd, fun k c ds e1 e2 => ?_⟩, b.tb.ext fun a u e => upd_new hp e, b.len, fun i s x e1 e2 => ?_, b.sep, b.le, b.pre, b.new, fun c u e t nr => upd_new hp (b.keep c u e t nr), b.nf⟩
  · obtain ⟨m', z, vs, q', t⟩ := b.bx.at_ k c ds e1 e2
    exact ⟨m', z, vs, upd_new hp q', t⟩
  · exact (b.sl i s x e1 e2).mono Le.refl List.prefix_rfl fun a vs m q n => ⟨m, n, upd_new hp q⟩
/-- a list that nobody knows of is left out -/
theorem BS.erase (b : BS G M r h δ σ H) {a : Addr} (m : M a = none) (n : a ∉ r) (f : Free G.H0 a) (no : NoOwn δ σ a) {xs : List V} (q : H a = some (.lst xs)) : BS G M r h δ σ (fun c => if c = a then none else H c) := by
  have ne : ∀ {c u}, M c = some u → c ≠ a := fun e z => by rw [z, m] at e; cases e
  have at_ : ∀ {c : Addr} {u : HO}, c ≠ a → H c = some u → (fun c => if c = a then none else H c) c = some u := fun n e => by
    show (if _ = a then none else H _) = _
    rw [if_neg n]; exact e
  refine ⟨fun c u e => ⟨(b.mok c u e).1, at_ (ne e) (b.mok c u e).2⟩, ⟨b.bx.len, b.bx.nd, fun k c ds e1 e2 => ?_⟩, fun p hp => ?_, b.len, fun i s x e1 e2 => ?_, b.sep, b.le, b.pre, b.new, fun c u e t nr => ?_, b.nf⟩
  · obtain ⟨m', z, vs, q', t⟩ := b.bx.at_ k c ds e1 e2
    refine ⟨m', z, vs, at_ (fun y => ?_) q', t⟩
    subst y
    exact n (List.mem_of_getElem? e1)
  · obtain ⟨ps, e1, e2, e3⟩ := b.tb p hp
    refine ⟨ps, at_ (fun z => by rw [z, q] at e1; cases e1) e1, e2, fun pos cv hc => ?_⟩
    obtain ⟨c, z1, z2⟩ := e3 pos cv hc
    exact ⟨c, z1, at_ (fun z => by rw [z, q] at z2; cases z2) z2⟩
  · cases s with
    | no => trivial
    | v d => exact b.sl i _ x e1 e2
    | own ds =>
      obtain ⟨c, vs, z, m', n', f', l', q', t⟩ := b.sl i _ x e1 e2
      exact ⟨c, vs, z, m', n', f', l', at_ (fun y => no i ds e1 (by rw [e2, z, y])) q', t⟩
  · refine at_ (fun z => ?_) (b.keep c u e t nr)
    subst z
    obtain ⟨ps, y⟩ := f u e
    exact t ps y
theorem BS.free0 (b : BS G M r h δ σ H) (hp : H p = none) : Free G.H0 p := fun o e => by
  cases o with
  | tbl ps => exact ⟨ps, rfl⟩
  | _ =>
    by_cases hr : p ∈ G.r0
    · exact absurd (b.pre.subset hr) (b.fresh_r hp)
    · have := b.keep p _ e (fun ps z => by cases z) hr
      rw [hp] at this; cases this
end
end LP
/-! LpB: expressions over plain data. -/
namespace LP
open PySem PySem.Spec PyProof.Rows L2
/-! ### what a list or a tuple holds -/
def lstOf (δ : DE) (h : Bx) : D → Option (List D)
  | .lst ds => some ds
  | .frz ds => some ds
  | .ptr n => h[n]?
  | .loc i => match δ[i]? with
    | some (.own ds) => some ds
    | _ => none
  | _ => none
def seqOf (δ : DE) (h : Bx) : D → Option (List D)
  | .tup ds => some ds
  | d => lstOf δ h d
@[simp] theorem lstOf_lst (δ : DE) (h : Bx) (ds : List D) : lstOf δ h (.lst ds) = some ds := pr rfl
@[simp] theorem lstOf_ptr (δ : DE) (h : Bx) (n : Nat) : lstOf δ h (.ptr n) = h[n]? := pr rfl
@[simp] theorem seqOf_lst (δ : DE) (h : Bx) (ds : List D) : seqOf δ h (.lst ds) = some ds := pr rfl
@[simp] theorem seqOf_tup (δ : DE) (h : Bx) (ds : List D) : seqOf δ h (.tup ds) = some ds := pr rfl
@[simp] theorem seqOf_ptr (δ : DE) (h : Bx) (n : Nat) : seqOf δ h (.ptr n) = h[n]? := pr rfl
section
variable {X : Cx} {G : Cfg} {W : WX} {σ : L2.St} {δ : DE} {M M1 M2 : Imm} {r r1 r2 : List Addr} {h h1 h2 : Bx} {H H1 H2 : Hp} {K : PySem.W.Frag} {J : Jd}
theorem sqF {a : Addr} {vs : List V} (b : BS G M r h δ σ H) (q : FLst G.K M a vs) : SqL G.K H a vs := by
  rcases q with ⟨u, q, rfl | ⟨o, rfl⟩⟩ | ⟨o, its, n, k1, k2, k3, k4, k5, k6⟩
  · exact .inl (.inl (b.mok a _ q).2)
  · exact .inl (.inr ⟨o, (b.mok a _ q).2⟩)
  · exact .inr ⟨o, its, n, k1, k2, k3, k4, big_line k5, k6⟩
theorem fbig {a : Addr} {vs : List V} (b : BS G M r h δ σ H) (q : FLst G.K M a vs) : vs.length ≤ big := by
  rcases q with ⟨u, q, rfl | ⟨o, rfl⟩⟩ | ⟨o, its, n, k1, k2, k3, k4, k5, k6⟩
  · exact (b.mok a _ q).1
  · exact (b.mok a _ q).1
  · have := k6.length
    simp only [Array.length_toList] at this
    show vs.length ≤ 1000000
    omega
theorem BS.lst (b : BS G M r h δ σ H) {d : D} {v : V} {ds : List D} (rv : RepV G.J M r δ σ d v) (e : lstOf δ h d = some ds) :
    ∃ a vs, v = .ref a ∧ SqL G.K H a vs ∧ Reps G.J M r ds vs ∧ ds.length ≤ big := by
  cases d with
  | lst es =>
    cases e
    obtain ⟨a, vs, e1, e2, t⟩ := rv
    obtain ⟨z, q⟩ := b.mok a _ e2
    exact ⟨a, vs, e1, .inl (.inl q), t, by rw [← t.length]; exact z⟩
  | frz es =>
    cases e
    obtain ⟨a, vs, e1, e2, t⟩ := rv
    exact ⟨a, vs, e1, sqF b e2, t, by rw [← t.length]; exact fbig b e2⟩
  | ptr n =>
    obtain ⟨a, e1, e2⟩ := rv
    obtain ⟨_, z, vs, q, t⟩ := b.bx.at_ n a ds e2 e
    exact ⟨a, vs, e1, .inl (.inl q), t, z⟩
  | loc i =>
    obtain ⟨e1, es, e2⟩ := rv
    simp only [lstOf, e2] at e
    cases e
    obtain ⟨a, vs, e3, _, _, _, z, q, t⟩ := b.sl i _ _ e2 e1
    cases e3
    exact ⟨a, vs, rfl, .inl (.inl q), t, z⟩
  | _ => cases e
theorem sqT_of {a : Addr} {vs : List V} (b : BS G M r h δ σ H) (q : M a = some (.tup vs) ∨ KTup G.K a vs) : SqT G.K H a vs := by
  rcases q with q | ⟨o, its, n, k1, k2, k3, k4, k5⟩
  · exact .inl (.inl (b.mok a _ q).2)
  · exact .inr ⟨o, its, n, k1, k2, k3, big_line k4, k5⟩
/-- a list that is not locked -/
def wrOf (δ : DE) (h : Bx) (d : D) : Option (List D) := match d with
  | .frz _ => none
  | d => lstOf δ h d
@[simp] theorem wrOf_lst (δ : DE) (h : Bx) (ds : List D) : wrOf δ h (.lst ds) = some ds := pr rfl
@[simp] theorem wrOf_ptr (δ : DE) (h : Bx) (n : Nat) : wrOf δ h (.ptr n) = h[n]? := pr rfl
theorem BS.wr (b : BS G M r h δ σ H) {d : D} {v : V} {ds : List D} (rv : RepV G.J M r δ σ d v) (e : wrOf δ h d = some ds) :
    ∃ a vs, v = .ref a ∧ H a = some (.lst vs) ∧ Reps G.J M r ds vs ∧ ds.length ≤ big := by
  cases d with
  | frz es => cases e
  | lst es =>
    cases e
    obtain ⟨a, vs, e1, e2, t⟩ := rv
    obtain ⟨z, q⟩ := b.mok a _ e2
    exact ⟨a, vs, e1, q, t, by rw [← t.length]; exact z⟩
  | ptr n =>
    obtain ⟨a, e1, e2⟩ := rv
    obtain ⟨_, z, vs, q, t⟩ := b.bx.at_ n a ds e2 e
    exact ⟨a, vs, e1, q, t, z⟩
  | loc i =>
    obtain ⟨e1, es, e2⟩ := rv
    simp only [wrOf, lstOf, e2] at e
    cases e
    obtain ⟨a, vs, e3, _, _, _, z, q, t⟩ := b.sl i _ _ e2 e1
    cases e3
    exact ⟨a, vs, rfl, q, t, z⟩
  | _ => cases e
theorem tup_big (b : BS G M r h δ σ H) {a : Addr} {vs : List V} (q : M a = some (.tup vs) ∨ KTup G.K a vs) : vs.length ≤ big := by
  rcases q with q | ⟨o, its, n, k1, k2, k3, k4, k5⟩
  · exact (b.mok a _ q).1
  · have := k5.length
    simp only [Array.length_toList] at this
    show vs.length ≤ 1000000
    omega
theorem BS.seq (b : BS G M r h δ σ H) {d : D} {v : V} {ds : List D} (rv : RepV G.J M r δ σ d v) (e : seqOf δ h d = some ds) :
    ∃ a vs, v = .ref a ∧ (SqL G.K H a vs ∨ SqT G.K H a vs) ∧ Reps G.J M r ds vs := by
  cases d with
  | tup es =>
    cases e
    obtain ⟨a, vs, e1, e2, t⟩ := rv
    exact ⟨a, vs, e1, .inr (sqT_of b e2), t⟩
  | _ =>
    obtain ⟨a, vs, e1, q, t, _⟩ := b.lst rv e
    exact ⟨a, vs, e1, .inl q, t⟩
/-! ### names, constants -/
def varF (i : Nat) : EF := fun δ h => match δ[i]? with
  | some (.v d) => .ok d h
  | some (.own _) => .ok (.loc i) h
  | _ => .bad
def cF (d : D) : EF := fun _ h => .ok d h
theorem ev_var {i : Nat} {x : Str} {pos : Pos} (hN : X.N[i]? = some x) (hv : Vis X.env.scope x) (hd : (x == ("__debug__" : Str)) = false := by decide) (hcd : (x == ("__classdict__" : Str)) = false := by decide) :
    Ev X G W (.Name x pos) (varF i) := by
  refine PE.imp (pe_var hN hv hd hcd) fun σ H Q q => ?_
  obtain ⟨M, r, h, δ, b, q⟩ := q
  unfold varF at q
  cases e : δ[i]? with
  | none => rw [e] at q; exact q.elim
  | some s =>
    rw [e] at q
    obtain ⟨o, eo⟩ := b.lt e
    have sr := b.sl i s o e eo
    cases s with
    | no => exact q.elim
    | v d =>
      obtain ⟨v, e1, rp⟩ := sr
      subst e1
      refine ⟨v, eo, q.now b ?_⟩
      cases d with
      | loc j => exact rp.elim
      | _ => exact rp
    | own ds =>
      obtain ⟨a, vs, e1, _⟩ := sr
      subst e1
      exact ⟨_, eo, q.now (d := D.loc i) (v := V.ref a) b ⟨eo, ds, e⟩⟩
theorem ev_const {e : Expr} {d : D} {v : V} (p : PE X e (tC v)) (rp : ∀ M r δ σ, RepV G.J M r δ σ d v) : Ev X G W e (cF d) :=
  PE.imp p fun σ H Q q => by
    obtain ⟨M, r, h, δ, b, q⟩ := q
    exact q.now b (rp _ _ _ _)
theorem ev_int {i : Int} {j pos} : Ev X G W (.Constant (.int i) j pos) (cF (.int i)) := ev_const pe_int fun _ _ _ _ => rfl
theorem ev_bl {i : Bool} {j pos} : Ev X G W (.Constant (.bool i) j pos) (cF (.bl i)) := ev_const pe_bl fun _ _ _ _ => rfl
theorem ev_non {j pos} : Ev X G W (.Constant .none j pos) (cF .non) := ev_const pe_non fun _ _ _ _ => rfl
theorem ev_str {i : Str} {j pos} : Ev X G W (.Constant (.str i) j pos) (cF (.str i)) := ev_const pe_str fun _ _ _ _ => rfl
/-- a module's constant -/
theorem ev_glob {x : Str} {i : Int} {t : Tok} {pos : Pos} (hg : Gl X x) (hm : X.mg x = some (.int i t)) (hd : (x == ("__debug__" : Str)) = false := by decide) : Ev X G W (.Name x pos) (cF (.int i)) :=
  ev_const (pe_glob hg hm (v := .int i) ⟨t, rfl⟩ hd) fun _ _ _ _ => rfl
/-! ### two values -/
/-- a rule by values keeps to k -/
def OpK (G : Cfg) (W : WX) (rr : R2) (k : D → D → DE → Bx → R D) : Prop := ∀ (σ : L2.St) (δ : DE) (M : Imm) (r : List Addr) (h : Bx) (H : Hp) (x y : V) (dx dy : D) (Q : VK),
  BS G M r h δ σ H → RepV G.J M r δ σ dx x → RepV G.J M r δ σ dy y → After G W σ δ (rV G.J δ σ) M r H (k dx dy δ h) Q → rr x y H Q
def bin2 (k : D → D → DE → Bx → R D) (f g : EF) : EF := fun δ h => (f δ h).bind fun a h1 => (g δ h1).bind fun b h2 => k a b δ h2
theorem tOp_of {rr : R2} {k : D → D → DE → Bx → R D} {f g : EF} (hk : OpK G W rr k) {Q : VK} (q : tG G W (rV G.J) (bin2 k f g) σ H Q) : tOp rr (tG G W (rV G.J) f) (tG G W (rV G.J) g) σ H Q := by
  obtain ⟨M, r, h, δ, b, q⟩ := q
  refine ⟨M, r, h, δ, b, (After.bind q).more fun x H1 ⟨dx, M1, r1, h1, s1, b1, rx, q1⟩ => ?_⟩
  refine ⟨M1, r1, h1, δ, b1, (After.bind q1).more fun y H2 ⟨dy, M2, r2, h2, s2, b2, ry, q2⟩ => ?_⟩
  exact hk σ δ M2 r2 h2 H2 x y dx dy Q b2 (rx.mono s2.le s2.pre) ry q2
variable {a b c : Expr} {f g f3 : EF} {pos : Pos} {rr rr' : R2} {k k' : D → D → DE → Bx → R D}
theorem ev_op {op : Operator} (ho : OpR X (binaryOp op) rr) (hk : OpK G W rr k) (ha : Ev X G W a f) (hb : Ev X G W b g) : Ev X G W (.BinOp a op b pos) (bin2 k f g) :=
  PE.imp (pe_op ho ha hb) fun _ _ _ q => tOp_of hk q
theorem ev_cmp {op : CmpOp} (ho : OpR X (compareOp op) rr) (hk : OpK G W rr k) (ha : Ev X G W a f) (hb : Ev X G W b g) (hm : behindInMarks op b = false) : Ev X G W (.Compare a [op] [b] pos) (bin2 k f g) :=
  PE.imp (pe_cmpR ho ha hb hm) fun _ _ _ q => tOp_of hk q
/-- the answer as a truth value -/
def bOf : D → Bx → R Bool
  | .bl b, h => .ok b h
  | _, _ => .bad
@[simp] theorem bOf_bl (b : Bool) (h : Bx) : bOf (.bl b) h = .ok b h := pr rfl
def testF (f : EF) : DE → Bx → R Bool := fun δ h => (f δ h).bind bOf
theorem tTest_of {f : EF} {Q : Bool → Hp → Prop} (q : tG G W rB (testF f) σ H Q) : tTest (tG G W (rV G.J) f) σ H Q := by
  obtain ⟨M, r, h, δ, b, q⟩ := q
  refine ⟨M, r, h, δ, b, (After.bind q).more fun x H1 ⟨dx, M1, r1, h1, s1, b1, rx, q1⟩ => ?_⟩
  cases dx with
  | bl v => exact ⟨v, rx, q1.now b1 rfl⟩
  | _ => exact q1.elim
theorem evt_cmp {op : CmpOp} (ho : OpR X (compareOp op) rr) (hk : OpK G W rr k) (ha : Ev X G W a f) (hb : Ev X G W b g) (hm : behindInMarks op b = false) : EvT X G W (.Compare a [op] [b] pos) (testF (bin2 k f g)) :=
  PT.imp (pt_cmpR ho ha hb hm) fun σ H Q q => by
    have z := tTest_of q
    exact tOp_of (Q := fun x H' => ∃ k, x = .bl k ∧ Q k H') hk z
/-- any expression whose test is its value (a name, a call, ..): he by fun _ => rfl -/
theorem evt_val (ha : Ev X G W a f) (he : ∀ whole, isTrue a X.env whole = (do let v ← whole; standAt a.pos; holding [v] (truthy v))) : EvT X G W a (testF f) :=
  PT.imp (pt_val ha he) fun _ _ _ q => tTest_of q
/-- a op b op' c -/
def chainF (k k' : D → D → DE → Bx → R D) (f g f3 : EF) : EF := fun δ h => (f δ h).bind fun a h1 => (g δ h1).bind fun b h2 => (k a b δ h2).bind fun z h3 => match z with
  | .bl true => (f3 δ h3).bind fun c h4 => k' b c δ h4
  | .bl false => .ok (.bl false) h3
  | _ => .bad
theorem tChain_of (hk : OpK G W rr k) (hk' : OpK G W rr' k') {Q : VK} (q : tG G W (rV G.J) (chainF k k' f g f3) σ H Q) : tChain rr rr' (tG G W (rV G.J) f) (tG G W (rV G.J) g) (tG G W (rV G.J) f3) σ H Q := by
  obtain ⟨M, r, h, δ, b, q⟩ := q
  refine ⟨M, r, h, δ, b, (After.bind q).more fun x H1 ⟨dx, M1, r1, h1, s1, b1, rx, q1⟩ => ?_⟩
  refine ⟨M1, r1, h1, δ, b1, (After.bind q1).more fun y H2 ⟨dy, M2, r2, h2, s2, b2, ry, q2⟩ => ?_⟩
  refine hk σ δ M2 r2 h2 H2 x y dx dy _ b2 (rx.mono s2.le s2.pre) ry ((After.bind q2).more fun z H3 ⟨dz, M3, r3, h3, s3, b3, rz, q3⟩ => ?_)
  cases dz with
  | bl v =>
    refine ⟨v, rz, ?_⟩
    cases v with
    | true =>
      rw [if_pos rfl]
      refine ⟨M3, r3, h3, δ, b3, (After.bind q3).more fun w H4 ⟨dw, M4, r4, h4, s4, b4, rw', q4⟩ => ?_⟩
      exact hk' σ δ M4 r4 h4 H4 y w dy dw Q b4 ((ry.mono s3.le s3.pre).mono s4.le s4.pre) rw' q4
    | false =>
      rw [if_neg (by decide)]
      exact q3.now b3 rfl
  | _ => exact q3.elim
theorem ev_chain {op op' : CmpOp} (ho : OpR X (compareOp op) rr) (ho' : OpR X (compareOp op') rr') (hk : OpK G W rr k) (hk' : OpK G W rr' k') (ha : Ev X G W a f) (hb : Ev X G W b g) (hc : Ev X G W c f3)
    (hm : lastMarks [op, op'] [b, c] = false := by with_unfolding_all rfl) : Ev X G W (.Compare a [op, op'] [b, c] pos) (chainF k k' f g f3) :=
  PE.imp (pe_chain ho ho' ha hb hc hm) fun _ _ _ q => tChain_of hk hk' q
theorem evt_chain {op op' : CmpOp} (ho : OpR X (compareOp op) rr) (ho' : OpR X (compareOp op') rr') (hk : OpK G W rr k) (hk' : OpK G W rr' k') (ha : Ev X G W a f) (hb : Ev X G W b g) (hc : Ev X G W c f3)
    (hm : lastMarks [op, op'] [b, c] = false := by with_unfolding_all rfl) : EvT X G W (.Compare a [op, op'] [b, c] pos) (testF (chainF k k' f g f3)) :=
  PT.imp (pt_chain ho ho' ha hb hc hm) fun σ H Q q => by
    have z := tTest_of q
    exact tChain_of (Q := fun x H' => ∃ k, x = .bl k ∧ Q k H') hk hk' z
/-! ### and, or, not, a if t else b -/
variable {tf tg : DE → Bx → R Bool} {rest : List Expr}
def andT (tf tg : DE → Bx → R Bool) : DE → Bx → R Bool := fun δ h => (tf δ h).bind fun b h1 => if b = true then tg δ h1 else .ok false h1
def orT (tf tg : DE → Bx → R Bool) : DE → Bx → R Bool := fun δ h => (tf δ h).bind fun b h1 => if b = true then .ok true h1 else tg δ h1
def notT (tf : DE → Bx → R Bool) : DE → Bx → R Bool := fun δ h => (tf δ h).bind fun b h1 => .ok (!b) h1
theorem evw_and1 (ha : EvT X G W a tf) : EvW X G W (.BoolOp .And [a] pos) tf := pw_and1 ha
theorem evw_or1 (ha : EvT X G W a tf) : EvW X G W (.BoolOp .Or [a] pos) tf := pw_or1 ha
theorem evw_and (ha : EvT X G W a tf) (hb : EvW X G W (.BoolOp .And (b :: rest) pos) tg) : EvW X G W (.BoolOp .And (a :: b :: rest) pos) (andT tf tg) :=
  PW.imp (pw_and ha hb) fun σ H Q q => by
    obtain ⟨M, r, h, δ, b, q⟩ := q
    refine ⟨M, r, h, δ, b, (After.bind q).more fun x H1 ⟨dx, M1, r1, h1, s1, b1, rx, q1⟩ => ?_⟩
    cases rx
    cases x with
    | true => exact ⟨M1, r1, h1, δ, b1, q1⟩
    | false => exact q1.now b1 rfl
theorem evw_or (ha : EvT X G W a tf) (hb : EvW X G W (.BoolOp .Or (b :: rest) pos) tg) : EvW X G W (.BoolOp .Or (a :: b :: rest) pos) (orT tf tg) :=
  PW.imp (pw_or ha hb) fun σ H Q q => by
    obtain ⟨M, r, h, δ, b, q⟩ := q
    refine ⟨M, r, h, δ, b, (After.bind q).more fun x H1 ⟨dx, M1, r1, h1, s1, b1, rx, q1⟩ => ?_⟩
    cases rx
    cases x with
    | false => exact ⟨M1, r1, h1, δ, b1, q1⟩
    | true => exact q1.now b1 rfl
theorem evt_w (ha : EvW X G W a tf) : EvT X G W a tf := PW.pt ha
theorem evt_not (ha : EvT X G W a tf) : EvT X G W (.UnaryOp .Not a pos) (notT tf) :=
  PT.imp (pt_not ha) fun σ H Q q => by
    obtain ⟨M, r, h, δ, b, q⟩ := q
    refine ⟨M, r, h, δ, b, (After.bind q).more fun x H1 ⟨dx, M1, r1, h1, s1, b1, rx, q1⟩ => ?_⟩
    cases rx
    exact q1.now b1 rfl
def andV (f g : EF) : EF := fun δ h => (f δ h).bind fun a h1 => match a with
  | .bl true => g δ h1
  | .bl false => .ok (.bl false) h1
  | _ => .bad
def orV (f g : EF) : EF := fun δ h => (f δ h).bind fun a h1 => match a with
  | .bl false => g δ h1
  | .bl true => .ok (.bl true) h1
  | _ => .bad
def notV (f : EF) : EF := fun δ h => (f δ h).bind fun a h1 => match a with
  | .bl b => .ok (.bl (!b)) h1
  | _ => .bad
theorem ev_one {op} (ha : Ev X G W a f) : Ev X G W (.BoolOp op [a] pos) f := pe_one ha
theorem ev_and (ha : Ev X G W a f) (hb : Ev X G W (.BoolOp .And (b :: rest) pos) g) : Ev X G W (.BoolOp .And (a :: b :: rest) pos) (andV f g) :=
  PE.imp (pe_and ha hb) fun σ H Q q => by
    obtain ⟨M, r, h, δ, b, q⟩ := q
    refine ⟨M, r, h, δ, b, (After.bind q).more fun x H1 ⟨dx, M1, r1, h1, s1, b1, rx, q1⟩ => ?_⟩
    cases dx with
    | bl v =>
      refine ⟨v, rx, ?_⟩
      cases v with
      | true => exact ⟨M1, r1, h1, δ, b1, q1⟩
      | false => exact q1.now b1 rfl
    | _ => exact q1.elim
theorem ev_or (ha : Ev X G W a f) (hb : Ev X G W (.BoolOp .Or (b :: rest) pos) g) : Ev X G W (.BoolOp .Or (a :: b :: rest) pos) (orV f g) :=
  PE.imp (pe_or ha hb) fun σ H Q q => by
    obtain ⟨M, r, h, δ, b, q⟩ := q
    refine ⟨M, r, h, δ, b, (After.bind q).more fun x H1 ⟨dx, M1, r1, h1, s1, b1, rx, q1⟩ => ?_⟩
    cases dx with
    | bl v =>
      refine ⟨v, rx, ?_⟩
      cases v with
      | false => exact ⟨M1, r1, h1, δ, b1, q1⟩
      | true => exact q1.now b1 rfl
    | _ => exact q1.elim
theorem ev_not (ha : Ev X G W a f) : Ev X G W (.UnaryOp .Not a pos) (notV f) :=
  PE.imp (pe_not ha) fun σ H Q q => by
    obtain ⟨M, r, h, δ, b, q⟩ := q
    refine ⟨M, r, h, δ, b, (After.bind q).more fun x H1 ⟨dx, M1, r1, h1, s1, b1, rx, q1⟩ => ?_⟩
    cases dx with
    | bl v => exact ⟨v, rx, q1.now b1 rfl⟩
    | _ => exact q1.elim
def iteF (t : DE → Bx → R Bool) (f g : EF) : EF := fun δ h => (t δ h).bind fun b h1 => if b = true then f δ h1 else g δ h1
theorem ev_if (hc : EvT X G W c tf) (ha : Ev X G W a f) (hb : Ev X G W b g) : Ev X G W (.IfExp c a b pos) (iteF tf f g) :=
  PE.imp (pe_ifExp hc ha hb) fun σ H Q q => by
    obtain ⟨M, r, h, δ, b, q⟩ := q
    refine ⟨M, r, h, δ, b, (After.bind q).more fun x H1 ⟨dx, M1, r1, h1, s1, b1, rx, q1⟩ => ?_⟩
    cases rx
    cases x with
    | true => exact ⟨M1, r1, h1, δ, b1, q1⟩
    | false => exact ⟨M1, r1, h1, δ, b1, q1⟩
/-! ### lists of arguments; displays -/
variable {e : Expr} {es : List Expr} {fs : DE → Bx → R (List D)}
def nilA : DE → Bx → R (List D) := fun _ h => .ok [] h
def consA (f : EF) (fs : DE → Bx → R (List D)) : DE → Bx → R (List D) := fun δ h => (f δ h).bind fun d h1 => (fs δ h1).bind fun ds h2 => .ok (d :: ds) h2
theorem eva_nil : EvA X G W [] nilA := PA.imp pa_nil fun σ H Q q => by
  obtain ⟨M, r, h, δ, b, q⟩ := q
  exact q.now b rfl
theorem eva_cons (ha : Ev X G W e f) (hr : EvA X G W es fs) (hs : starEach (e :: es) X.env = (false, eval e X.env) :: starEach es X.env := by rfl) : EvA X G W (e :: es) (consA f fs) :=
  PA.imp (pa_cons ha hr hs) fun σ H Q q => by
    obtain ⟨M, r, h, δ, b, q⟩ := q
    refine ⟨M, r, h, δ, b, (After.bind q).more fun x H1 ⟨dx, M1, r1, h1, s1, b1, rx, q1⟩ => ?_⟩
    refine ⟨M1, r1, h1, δ, b1, (After.bind q1).more fun xs H2 ⟨ds, M2, r2, h2, s2, b2, rs, q2⟩ => ?_⟩
    exact q2.now b2 ⟨x, xs, rfl, RepV.mono s2.le s2.pre rx, rs⟩
/-- no slot's own list -/
def isV : D → Bool
  | .loc _ => false
  | _ => true
theorem RepVs.reps : ∀ {ds : List D} {vs : List V}, RepVs J M r δ σ ds vs → ds.all isV = true → Reps J M r ds vs
  | [], _, q, _ => q
  | d :: ds, _, q, e => by
    obtain ⟨v, vt, rfl, h1, h2⟩ := q
    rw [List.all_cons, Bool.and_eq_true] at e
    refine ⟨v, vt, rfl, ?_, RepVs.reps h2 e.2⟩
    cases d with
    | loc i => cases e.1
    | _ => exact h1
theorem RepVs.length : ∀ {ds : List D} {vs : List V}, RepVs J M r δ σ ds vs → vs.length = ds.length
  | [], _, q => by cases q; rfl
  | d :: ds, _, q => by
    obtain ⟨v, vt, rfl, _, h2⟩ := q
    simp [RepVs.length h2]
def mkD (c : List D → D) (ds : List D) (h : Bx) : R D := if (ds.all isV && decide (ds.length ≤ big)) = true then .ok (c ds) h else .bad
theorem mkD_ok {c : List D → D} {ds : List D} {h : Bx} (e : (ds.all isV && decide (ds.length ≤ big)) = true) : mkD c ds h = .ok (c ds) h := if_pos e
/-- a new tuple, a new list: laid -/
theorem tup_new (b : BS G M r h δ σ H) {ds : List D} {vs : List V} (t : Reps G.J M r ds vs) (z : ds.length ≤ big) {Q : VK} (q : After G W σ δ (rV G.J δ σ) M r H (.ok (.tup ds) h) Q) : ∀ p, H p = none → Q (.ref p) (upd H p (.tup vs)) := fun p hp => by
  obtain ⟨b', s⟩ := b.laid (o := .tup vs) hp (by show vs.length ≤ big; rw [t.length]; exact z)
  exact q _ _ _ _ s b' ⟨p, vs, rfl, .inl updM_same, Reps.mono s.le s.pre _ _ t⟩
theorem lst_new (b : BS G M r h δ σ H) {ds : List D} {vs : List V} (t : Reps G.J M r ds vs) (z : ds.length ≤ big) {Q : VK} (q : After G W σ δ (rV G.J δ σ) M r H (.ok (.lst ds) h) Q) : ∀ p, H p = none → Q (.ref p) (upd H p (.lst vs)) := fun p hp => by
  obtain ⟨b', s⟩ := b.laid (o := .lst vs) hp (by show vs.length ≤ big; rw [t.length]; exact z)
  exact q _ _ _ _ s b' ⟨p, vs, rfl, updM_same, Reps.mono s.le s.pre _ _ t⟩
def tupF (fs : DE → Bx → R (List D)) : EF := fun δ h => (fs δ h).bind (mkD .tup)
def lstF (fs : DE → Bx → R (List D)) : EF := fun δ h => (fs δ h).bind (mkD .lst)
theorem ev_tup {x1} (ha : EvA X G W es fs) : Ev X G W (.Tuple es x1 pos) (tupF fs) :=
  PE.imp (pe_tup ha) fun σ H Q q => by
    obtain ⟨M, r, h, δ, b, q⟩ := q
    refine ⟨M, r, h, δ, b, (After.bind q).more fun xs H1 ⟨ds, M1, r1, h1, s1, b1, rx, q1⟩ => ?_⟩
    unfold mkD at q1
    split at q1
    · rename_i e
      rw [Bool.and_eq_true, decide_eq_true_eq] at e
      have t := RepVs.reps rx e.1
      exact ⟨by rw [t.length]; exact big_line e.2, tup_new b1 t e.2 q1⟩
    · exact q1.elim
theorem ev_lst (ha : EvA X G W es fs) : Ev X G W (.List es pos) (lstF fs) :=
  PE.imp (pe_lst ha) fun σ H Q q => by
    obtain ⟨M, r, h, δ, b, q⟩ := q
    refine ⟨M, r, h, δ, b, (After.bind q).more fun xs H1 ⟨ds, M1, r1, h1, s1, b1, rx, q1⟩ => ?_⟩
    unfold mkD at q1
    split at q1
    · rename_i e
      rw [Bool.and_eq_true, decide_eq_true_eq] at e
      have t := RepVs.reps rx e.1
      exact ⟨by rw [t.length]; exact big_line e.2, lst_new b1 t e.2 q1⟩
    · exact q1.elim
end
end LP
/-! LpC: operators, comparisons, built-ins by values of plain data. -/
namespace LP
open PySem PySem.Spec PyProof.Rows L2
/-! ### data as the library's data -/
mutual
def D.py : D → PyData
  | .non => .none
  | .bl b => .bool b
  | .int i => .int i
  | .str x => .str x
  | .tup ds => .tuple (D.pys ds)
  | .lst ds => .list (D.pys ds)
  | .ptr _ => .none
  | .loc _ => .none
  | .frz ds => .list (D.pys ds)
  | .lam _ => .none
  | .fn _ => .none
def D.pys : List D → List PyData
  | [] => []
  | d :: ds => d.py :: D.pys ds
end
mutual
/-- no box within -/
def D.pure : D → Bool
  | .tup ds => D.pures ds
  | .lst ds => D.pures ds
  | .frz ds => D.pures ds
  | .ptr _ => false
  | .loc _ => false
  | .lam _ => false
  | .fn _ => false
  | _ => true
def D.pures : List D → Bool
  | [] => true
  | d :: ds => d.pure && D.pures ds
end
mutual
def D.dep : D → Nat
  | .tup ds => D.deps ds + 1
  | .lst ds => D.deps ds + 1
  | .frz ds => D.deps ds + 1
  | _ => 0
def D.deps : List D → Nat
  | [] => 0
  | d :: ds => max d.dep (D.deps ds)
end
/-- == -/
def D.eq (a b : D) : Bool := PyData.eqv a.py b.py
mutual
theorem plain_py : ∀ d : D, d.py.plain = true
  | .non => rfl
  | .bl _ => rfl
  | .int _ => rfl
  | .str _ => rfl
  | .tup ds => by show PyData.plainAll (D.pys ds) = true; exact plain_pys ds
  | .lst ds => by show PyData.plainAll (D.pys ds) = true; exact plain_pys ds
  | .frz ds => by show PyData.plainAll (D.pys ds) = true; exact plain_pys ds
  | .ptr _ => rfl
  | .loc _ => rfl
  | .lam _ => rfl
  | .fn _ => rfl
theorem plain_pys : ∀ ds : List D, PyData.plainAll (D.pys ds) = true
  | [] => rfl
  | d :: ds => by show (d.py.plain && PyData.plainAll (D.pys ds)) = true; rw [plain_py d, plain_pys ds]; rfl
end
mutual
theorem depth_py : ∀ d : D, d.py.depth = d.dep
  | .non => rfl
  | .bl _ => rfl
  | .int _ => rfl
  | .str _ => rfl
  | .tup ds => by show PyData.depthAll (D.pys ds) + 1 = D.deps ds + 1; rw [depth_pys ds]
  | .lst ds => by show PyData.depthAll (D.pys ds) + 1 = D.deps ds + 1; rw [depth_pys ds]
  | .frz ds => by show PyData.depthAll (D.pys ds) + 1 = D.deps ds + 1; rw [depth_pys ds]
  | .ptr _ => rfl
  | .loc _ => rfl
  | .lam _ => rfl
  | .fn _ => rfl
theorem depth_pys : ∀ ds : List D, PyData.depthAll (D.pys ds) = D.deps ds
  | [] => rfl
  | d :: ds => by show max d.py.depth (PyData.depthAll (D.pys ds)) = max d.dep (D.deps ds); rw [depth_py d, depth_pys ds]
end
/-- a box as what it holds -/
def vw (δ : DE) (h : Bx) (d : D) : D := match lstOf δ h d with
  | some ds => .lst ds
  | none => d
section
variable {X : Cx} {G : Cfg} {W : WX} {σ : L2.St} {δ : DE} {M M1 M2 : Imm} {r r1 r2 : List Addr} {h h1 h2 : Bx} {H H1 H2 : Hp} {K : PySem.W.Frag} {J : Jd}
mutual
theorem dp_rep (b : BS G M r h δ σ H) : ∀ (d : D) (v : V), Rep G.J M r d v → d.pure = true → Dp G.K H v d.py
  | .non, _, q, _ => by cases q; exact .non
  | .bl _, _, q, _ => by cases q; exact .bl _
  | .int _, _, q, _ => by cases q; exact .int _
  | .str _, _, q, _ => by cases q; exact .str _
  | .tup ds, _, q, p => by
    obtain ⟨a, vs, e, q, t⟩ := q
    subst e
    exact .tup (sqT_of b q) (dp_reps b ds vs t p)
  | .lst ds, _, q, p => by
    obtain ⟨a, vs, e, q, t⟩ := q
    subst e
    exact .lst (.inl (.inl (b.mok a _ q).2)) (dp_reps b ds vs t p)
  | .frz ds, _, q, p => by
    obtain ⟨a, vs, e, q, t⟩ := q
    subst e
    exact .lst (sqF b q) (dp_reps b ds vs t p)
  | .ptr _, _, _, p => by cases p
  | .loc _, _, _, p => by cases p
  | .lam _, _, _, p => by cases p
  | .fn _, _, _, p => by cases p
theorem dp_reps (b : BS G M r h δ σ H) : ∀ (ds : List D) (vs : List V), Reps G.J M r ds vs → D.pures ds = true → DpAll G.K H vs (D.pys ds)
  | [], _, q, _ => by cases q; exact .nil
  | d :: ds, _, q, p => by
    obtain ⟨v, vt, rfl, h1, h2⟩ := q
    have p' : (d.pure && D.pures ds) = true := p
    rw [Bool.and_eq_true] at p'
    exact .cons (dp_rep b d v h1 p'.1) (dp_reps b ds vt h2 p'.2)
end
theorem dp_of (b : BS G M r h δ σ H) {d : D} {v : V} (rv : RepV G.J M r δ σ d v) (p : (vw δ h d).pure = true) : Dp G.K H v (vw δ h d).py := by
  unfold vw at p ⊢
  cases e : lstOf δ h d with
  | some ds =>
    rw [e] at p
    obtain ⟨a, vs, e1, q, t, _⟩ := b.lst rv e
    subst e1
    exact .lst q (dp_reps b ds vs t p)
  | none =>
    rw [e] at p
    cases d with
    | ptr n => cases p
    | loc i => cases p
    | lam k => cases p
    | fn x => cases p
    | _ => exact dp_rep b _ _ rv p
def rEqP (K : PySem.W.Frag) (ng : Bool) : R2 := fun x y H Q => ∃ d e : D, Dp K H x d.py ∧ Dp K H y e.py ∧ min d.dep e.dep ≤ 64 ∧ Q (.bl (if ng then !D.eq d e else D.eq d e)) H
theorem op_eqP (hu : X.A.units + 64 < cLine) : OpR X (compareOp .Eq) (rEqP X.K false) := by
  intro pins s σ H x y v u Q I rx ry h
  obtain ⟨d, e, hd, he, z, q⟩ := h
  obtain ⟨as, r1⟩ := Dp.reads I _ x v hd rx
  obtain ⟨bs, r2⟩ := Dp.reads I _ y u he ry
  exact SeqAt.eq_plain r1 r2 (plain_py d) (plain_py e) (by rw [depth_py, depth_py]; omega) ⟨.bl _, H, I, rfl, q⟩
theorem op_neP (hu : X.A.units + 64 < cLine) : OpR X (compareOp .NotEq) (rEqP X.K true) := by
  intro pins s σ H x y v u Q I rx ry h
  obtain ⟨d, e, hd, he, z, q⟩ := h
  obtain ⟨as, r1⟩ := Dp.reads I _ x v hd rx
  obtain ⟨bs, r2⟩ := Dp.reads I _ y u he ry
  exact SeqAt.ne_plain r1 r2 (plain_py d) (plain_py e) (by rw [depth_py, depth_py]; omega) ⟨.bl _, H, I, rfl, q⟩
def eqK (ng : Bool) (a b : D) (δ : DE) (h : Bx) : R D :=
  if ((vw δ h a).pure && (vw δ h b).pure && decide (min (vw δ h a).dep (vw δ h b).dep ≤ 64)) = true then .ok (.bl (if ng then !D.eq (vw δ h a) (vw δ h b) else D.eq (vw δ h a) (vw δ h b))) h else .bad
theorem eqK_ok (ng : Bool) : OpK G W (rEqP G.K ng) (eqK ng) := by
  intro σ δ M r h H x y dx dy Q b rx ry q
  unfold eqK at q
  split at q
  · rename_i e
    rw [Bool.and_eq_true, Bool.and_eq_true, decide_eq_true_eq] at e
    exact ⟨_, _, dp_of b rx e.1.1, dp_of b ry e.1.2, e.2, q.now b rfl⟩
  · exact q.elim
/-! ### in, not in -/
def rInP (K : PySem.W.Frag) (ng : Bool) : R2 := fun x y H Q => ∃ (d : D) (ds : List D), Dp K H x d.py ∧ (Dp K H y (.list (D.pys ds)) ∨ Dp K H y (.tuple (D.pys ds))) ∧ min (D.deps ds) d.dep ≤ 60 ∧
  Q (.bl (if ng then !ds.any (fun z => D.eq z d) else ds.any fun z => D.eq z d)) H
theorem any_pys (d : PyData) : ∀ ds : List D, ((D.pys ds).any fun z => PyData.eqv z d) = ds.any fun z => PyData.eqv z.py d
  | [] => rfl
  | e :: ds => by show (PyData.eqv e.py d || (D.pys ds).any fun z => PyData.eqv z d) = _; rw [any_pys d ds]; rfl
theorem op_inP (hu : X.A.units + 64 < cLine) : OpR X (compareOp .In) (rInP X.K false) := by
  intro pins s σ H x y v u Q I rx ry h
  obtain ⟨d, ds, hd, he, z, q⟩ := h
  obtain ⟨as, r1⟩ := Dp.reads I _ x v hd rx
  have hq : EP X pins σ Q (.bool ((D.pys ds).any fun z => PyData.eqv z d.py)) s := ⟨.bl _, H, I, rfl, by rw [any_pys]; exact q⟩
  have hz : X.A.units + 1 + min (PyData.depthAll (D.pys ds)) d.py.depth < cLine := by rw [depth_py, depth_pys]; omega
  rcases he with he | he
  · obtain ⟨bs, r2⟩ := Dp.reads I _ y u he ry
    exact SeqAt.in_list_data r2 r1 (plain_pys ds) (plain_py d) hz hq
  · obtain ⟨bs, r2⟩ := Dp.reads I _ y u he ry
    exact SeqAt.in_tuple_data r2 r1 (plain_pys ds) (plain_py d) hz hq
theorem op_notInP (hu : X.A.units + 64 < cLine) : OpR X (compareOp .NotIn) (rInP X.K true) := by
  intro pins s σ H x y v u Q I rx ry h
  obtain ⟨d, ds, hd, he, z, q⟩ := h
  obtain ⟨as, r1⟩ := Dp.reads I _ x v hd rx
  have hq : EP X pins σ Q (.bool (!(D.pys ds).any fun z => PyData.eqv z d.py)) s := ⟨.bl _, H, I, rfl, by rw [any_pys]; exact q⟩
  have hz : X.A.units + 1 + min (PyData.depthAll (D.pys ds)) d.py.depth < cLine := by rw [depth_py, depth_pys]; omega
  rcases he with he | he
  · obtain ⟨bs, r2⟩ := Dp.reads I _ y u he ry
    exact SeqAt.notIn_list_data r2 r1 (plain_pys ds) (plain_py d) hz hq
  · obtain ⟨bs, r2⟩ := Dp.reads I _ y u he ry
    exact SeqAt.notIn_tuple_data r2 r1 (plain_pys ds) (plain_py d) hz hq
def inK (ng : Bool) (a b : D) (δ : DE) (h : Bx) : R D := match seqOf δ h b with
  | some ds => if ((vw δ h a).pure && D.pures ds && decide (min (D.deps ds) (vw δ h a).dep ≤ 60)) = true then
      .ok (.bl (if ng then !ds.any (fun z => D.eq z (vw δ h a)) else ds.any fun z => D.eq z (vw δ h a))) h else .bad
  | none => .bad
theorem inK_ok (ng : Bool) : OpK G W (rInP G.K ng) (inK ng) := by
  intro σ δ M r h H x y dx dy Q b rx ry q
  unfold inK at q
  split at q
  · rename_i ds es
    split at q
    · rename_i e
      rw [Bool.and_eq_true, Bool.and_eq_true, decide_eq_true_eq] at e
      obtain ⟨a, vs, e1, hs, t⟩ := b.seq ry es
      subst e1
      refine ⟨_, ds, dp_of b rx e.1.1, ?_, e.2, q.now b rfl⟩
      rcases hs with hs | hs
      · exact .inl (.lst hs (dp_reps b ds vs t e.1.2))
      · exact .inr (.tup hs (dp_reps b ds vs t e.1.2))
    · exact q.elim
  · exact q.elim
/-! ### is None; <, <=, >, >= of ints -/
def isNon : D → Bool
  | .non => true
  | _ => false
def isNK (a b : D) (_ : DE) (h : Bx) : R D := match b with
  | .non => .ok (.bl (isNon a)) h
  | _ => .bad
def notNK (a b : D) (_ : DE) (h : Bx) : R D := match b with
  | .non => .ok (.bl (!isNon a)) h
  | _ => .bad
theorem non_iff {d : D} {x : V} (rv : RepV J M r δ σ d x) (nl : ∀ i, d ≠ .loc i) : decide (x = .non) = isNon d := by
  cases d with
  | loc i => exact absurd rfl (nl i)
  | non => cases rv; rfl
  | bl _ => cases rv; rfl
  | int _ => cases rv; rfl
  | str _ => cases rv; rfl
  | tup _ => obtain ⟨a, vs, e, _⟩ := rv; subst e; rfl
  | lst _ => obtain ⟨a, vs, e, _⟩ := rv; subst e; rfl
  | frz _ => obtain ⟨a, vs, e, _⟩ := rv; subst e; rfl
  | ptr _ => obtain ⟨a, e, _⟩ := rv; subst e; rfl
  | fn _ => obtain ⟨a, e, _⟩ := rv; subst e; rfl
  | lam _ => obtain ⟨f, o, c, q, e, _⟩ := rv; subst e; rfl
theorem non_loc (b : BS G M r h δ σ H) {d : D} {x : V} (rv : RepV G.J M r δ σ d x) : decide (x = .non) = isNon d := by
  cases d with
  | loc i =>
    obtain ⟨e1, ds, e2⟩ := rv
    obtain ⟨a, vs, e3, _⟩ := b.sl i _ _ e2 e1
    cases e3; rfl
  | _ => exact non_iff rv (fun i z => by cases z)
theorem isNK_ok : OpK G W (fun x y H Q => y = .non ∧ Q (.bl (decide (x = .non))) H) isNK := by
  intro σ δ M r h H x y dx dy Q b rx ry q
  cases dy with
  | non =>
    cases ry
    refine ⟨rfl, ?_⟩
    rw [non_loc b rx]
    exact q.now b rfl
  | _ => exact q.elim
theorem notNK_ok : OpK G W (fun x y H Q => y = .non ∧ Q (.bl (!decide (x = .non))) H) notNK := by
  intro σ δ M r h H x y dx dy Q b rx ry q
  cases dy with
  | non =>
    cases ry
    refine ⟨rfl, ?_⟩
    rw [non_loc b rx]
    exact q.now b rfl
  | _ => exact q.elim
def i2K (g : Int → Int → D) (a b : D) (_ : DE) (h : Bx) : R D := match a, b with
  | .int i, .int j => .ok (g i j) h
  | _, _ => .bad
theorem i2K_ok {g : Int → Int → D} {gv : Int → Int → V} (hg : ∀ i j M r δ σ, RepV G.J M r δ σ (g i j) (gv i j)) : OpK G W (rI0 gv) (i2K g) := by
  intro σ δ M r h H x y dx dy Q b rx ry q
  unfold i2K at q
  split at q
  · rename_i i j
    cases rx; cases ry
    exact ⟨i, j, rfl, rfl, q.now b (hg i j _ _ _ _)⟩
  · exact q.elim
def i2KC (C : Int → Int → Bool) (g : Int → Int → D) (a b : D) (_ : DE) (h : Bx) : R D := match a, b with
  | .int i, .int j => if C i j = true then .ok (g i j) h else .bad
  | _, _ => .bad
theorem i2KC_ok {C : Int → Int → Bool} {P : Int → Int → Prop} {g : Int → Int → D} {gv : Int → Int → V} (hC : ∀ i j, C i j = true → P i j) (hg : ∀ i j M r δ σ, RepV G.J M r δ σ (g i j) (gv i j)) : OpK G W (rI P gv) (i2KC C g) := by
  intro σ δ M r h H x y dx dy Q b rx ry q
  unfold i2KC at q
  split at q
  · rename_i i j
    cases rx; cases ry
    split at q
    · rename_i e
      exact ⟨i, j, rfl, rfl, hC i j e, q.now b (hg i j _ _ _ _)⟩
    · exact q.elim
  · exact q.elim
abbrev ltK := i2K fun i j => .bl (decide (i < j))
abbrev leK := i2K fun i j => .bl (decide (i ≤ j))
abbrev gtK := i2K fun i j => .bl (decide (j < i))
abbrev geK := i2K fun i j => .bl (decide (j ≤ i))
theorem ltK_ok : OpK G W (rI0 fun i j => .bl (decide (i < j))) ltK := i2K_ok fun _ _ _ _ _ _ => rfl
theorem leK_ok : OpK G W (rI0 fun i j => .bl (decide (i ≤ j))) leK := i2K_ok fun _ _ _ _ _ _ => rfl
theorem gtK_ok : OpK G W (rI0 fun i j => .bl (decide (j < i))) gtK := i2K_ok fun _ _ _ _ _ _ => rfl
theorem geK_ok : OpK G W (rI0 fun i j => .bl (decide (j ≤ i))) geK := i2K_ok fun _ _ _ _ _ _ => rfl
/-! ### arithmetic -/
abbrev subK := i2K fun i j => .int (i - j)
theorem subK_ok : OpK G W (rI0 fun i j => .int (i - j)) subK := i2K_ok fun _ _ _ _ _ _ => rfl
abbrev modK := i2KC (fun _ j => decide (0 < j)) fun i j => .int (i % j)
theorem modK_ok : OpK G W (rI (fun _ j => 0 < j) fun i j => .int (i % j)) modK := i2KC_ok (fun _ _ e => by have e' := of_decide_eq_true e; exact e') fun _ _ _ _ _ _ => rfl
abbrev divK := i2KC (fun _ j => decide (0 < j ∧ j < 1073741824)) fun i j => .int (i / j)
theorem divK_ok : OpK G W (rI CDiv fun i j => .int (i / j)) divK := i2KC_ok (fun _ _ e => by have e' := of_decide_eq_true e; exact e') fun _ _ _ _ _ _ => rfl
abbrev powK := i2KC (fun i j => decide (0 ≤ j ∧ j ≤ 1000000 ∧ i.natAbs < 2 ^ 64)) fun i j => .int (i ^ j.toNat)
theorem powK_ok : OpK G W (rI CPow fun i j => .int (i ^ j.toNat)) powK := i2KC_ok (fun _ _ e => by have e' := of_decide_eq_true e; exact e') fun _ _ _ _ _ _ => rfl
abbrev mulK := i2KC (fun i j => decide ((-(2 ^ 64) < i ∧ i < 2 ^ 64) ∨ (-(2 ^ 64) < j ∧ j < 2 ^ 64))) fun i j => .int (i * j)
theorem mulK_ok : OpK G W (rI CMul fun i j => .int (i * j)) mulK := i2KC_ok (fun _ _ e => by have e' := of_decide_eq_true e; exact e') fun _ _ _ _ _ _ => rfl
def addK (a b : D) (δ : DE) (h : Bx) : R D := match a, b with
  | .int i, .int j => .ok (.int (i + j)) h
  | .str x, .str y => if x.length + y.length ≤ big then .ok (.str (x ++ y)) h else .bad
  | .tup xs, .tup ys => if xs.length + ys.length ≤ big then .ok (.tup (xs ++ ys)) h else .bad
  | a, b => match wrOf δ h a, wrOf δ h b with
    | some xs, some ys => if xs.length + ys.length ≤ big then .ok (.lst (xs ++ ys)) h else .bad
    | _, _ => .bad
abbrev rAddK (K : PySem.W.Frag) : R2 := fun x y H Q => rI0 (fun i j => .int (i + j)) x y H Q ∨ (fun x y H Q => (fun x y H Q => ∃ i j : Str, x = .str i ∧ y = .str j ∧ i.length + j.length ≤ sizeLine ∧ Q (.str (i ++ j)) H) x y H Q ∨
  (fun x y H Q => rCatA K x y H Q ∨ rCat x y H Q) x y H Q) x y H Q
theorem op_addK : OpR X (binaryOp .Add) (rAddK X.K) := OpR.or op_add (OpR.or op_add_str (OpR.or op_catA op_cat))
theorem addK_ok : OpK G W (rAddK G.K) addK := by
  intro σ δ M r h H x y dx dy Q b rx ry q
  unfold addK at q
  split at q
  · rename_i i j
    cases rx; cases ry
    exact .inl ⟨i, j, rfl, rfl, q.now b rfl⟩
  · rename_i i j
    split at q
    · rename_i e
      cases rx; cases ry
      exact .inr (.inl ⟨i, j, rfl, rfl, big_line e, q.now b rfl⟩)
    · exact q.elim
  · rename_i xs ys
    split at q
    · rename_i e
      obtain ⟨a, vs, e1, m1, t1⟩ := rx
      obtain ⟨c, us, e2, m2, t2⟩ := ry
      subst e1 e2
      refine .inr (.inr (.inl ⟨a, c, vs, us, rfl, rfl, sqT_of b m1, sqT_of b m2, by rw [t1.length, t2.length]; exact big_line e, fun z => ?_, fun n z => ?_, fun n n' => ?_⟩))
      · have : xs = [] := List.eq_nil_of_length_eq_zero (by rw [← t1.length, z]; rfl)
        subst this
        exact q.now b ⟨c, us, rfl, m2, t2⟩
      · have : ys = [] := List.eq_nil_of_length_eq_zero (by rw [← t2.length, z]; rfl)
        subst this
        rw [List.append_nil] at q
        exact q.now b ⟨a, vs, rfl, m1, t1⟩
      · exact tup_new b (t1.append t2) (by rw [List.length_append]; exact e) q
    · exact q.elim
  · split at q
    · rename_i xs ys e1 e2
      split at q
      · rename_i e
        obtain ⟨a, vs, z1, q1, t1, _⟩ := b.wr rx e1
        obtain ⟨c, us, z2, q2, t2, _⟩ := b.wr ry e2
        subst z1 z2
        exact .inr (.inr (.inr ⟨a, c, vs, us, rfl, rfl, q1, q2, by rw [t1.length, t2.length]; exact big_line e, lst_new b (t1.append t2) (by rw [List.length_append]; exact e) q⟩))
      · exact q.elim
    · exact q.elim
def negF (f : EF) : EF := fun δ h => (f δ h).bind fun d h1 => match d with
  | .int i => .ok (.int (-i)) h1
  | _ => .bad
theorem ev_neg {a : Expr} {f : EF} {pos : Pos} (ha : Ev X G W a f) : Ev X G W (.UnaryOp .USub a pos) (negF f) :=
  PE.imp (pe_un un_neg ha) fun σ H Q q => by
    obtain ⟨M, r, h, δ, b, q⟩ := q
    refine ⟨M, r, h, δ, b, (After.bind q).more fun x H1 ⟨dx, M1, r1, h1, s1, b1, rx, q1⟩ => ?_⟩
    cases dx with
    | int i => exact ⟨i, rx, q1.now b1 rfl⟩
    | _ => exact q1.elim
/-! ### a place, a slice -/
theorem atI_rep {ds : List D} {vs : List V} {i : Int} {d : D} (t : Reps J M r ds vs) (e : atI ds i = some d) : ∃ v, atI vs i = some v ∧ Rep J M r d v := by
  unfold atI at e ⊢
  rw [t.length]
  cases q : ixN ds.length i with
  | none => rw [q] at e; cases e
  | some j =>
    rw [q] at e
    exact t.get e
def ixK (a b : D) (δ : DE) (h : Bx) : R D := match b with
  | .int i => match seqOf δ h a with
    | some ds => match atI ds i with
      | some d => .ok d h
      | none => .bad
    | none => .bad
  | _ => .bad
theorem rep_V {d : D} {v : V} (q : Rep J M r d v) : RepV J M r δ σ d v := by
  cases d with
  | loc i => exact q.elim
  | _ => exact q
theorem ixK_ok : OpK G W (rIx G.K) ixK := by
  intro σ δ M r h H x y dx dy Q b rx ry q
  unfold ixK at q
  split at q
  · rename_i i
    cases ry
    split at q
    · rename_i ds e
      split at q
      · rename_i d e2
        obtain ⟨a, vs, e1, hs, t⟩ := b.seq rx e
        subst e1
        obtain ⟨v, e3, rp⟩ := atI_rep t e2
        rcases hs with hs | hs
        · exact .inl ⟨a, vs, i, v, rfl, rfl, hs, e3, q.now b (rep_V rp)⟩
        · exact .inr (.inl ⟨a, vs, i, v, rfl, rfl, hs, e3, q.now b (rep_V rp)⟩)
      · exact q.elim
    · exact q.elim
  · exact q.elim
variable {a b c : Expr} {f g f3 : EF} {pos p2 : Pos}
theorem ev_ix (ha : Ev X G W a f) (hb : Ev X G W b g) (hK : X.K = G.K) (hs : PlainIx b := by exact fun _ _ => rfl) : Ev X G W (.Subscript a b pos) (bin2 ixK f g) :=
  PE.imp (pe_ix ix_seq ha hb hs) fun σ H Q q => by rw [hK]; exact tOp_of ixK_ok q
/-- the parts of a slice -/
def cutD (xs : List D) (lo hi : Option Int) : List D := (xs.drop (HT.sIx xs.length 0 lo)).take (HT.sIx xs.length xs.length hi - HT.sIx xs.length 0 lo)
theorem cut_rep {ds : List D} {vs : List V} (t : Reps J M r ds vs) (lo hi : Option Int) : Reps J M r (cutD ds lo hi) (cutV vs lo hi) := by
  unfold cutD cutV
  rw [t.length]
  exact (t.drop _).take _
theorem cut_len (ds : List D) (lo hi : Option Int) : (cutD ds lo hi).length ≤ ds.length := by
  unfold cutD
  rw [List.length_take, List.length_drop]
  omega
def rOI (_ : DE) (_ : L2.St) : Rl (Option Int) (Option Int) := fun _ _ a b => a = b
def EvO (X : Cx) (G : Cfg) (W : WX) (e : Option Expr) (f : DE → Bx → R (Option Int)) : Prop := PO X e (tG G W rOI f)
theorem PO.imp {e : Option Expr} {t t' : TO} (p : PO X e t) (f : ∀ σ H Q, t' σ H Q → t σ H Q) : PO X e t' := ⟨fun pins s σ H Q I h => p.run pins s σ H Q I (f σ H Q h)⟩
def noO : DE → Bx → R (Option Int) := fun _ h => .ok none h
def someO (f : EF) : DE → Bx → R (Option Int) := fun δ h => (f δ h).bind fun d h1 => match d with
  | .int i => .ok (some i) h1
  | _ => .bad
theorem evo_none : EvO X G W none noO := PO.imp po_none fun σ H Q q => by
  obtain ⟨M, r, h, δ, b, q⟩ := q
  exact q.now b rfl
theorem evo_some (ha : Ev X G W a f) : EvO X G W (some a) (someO f) := PO.imp (po_some ha) fun σ H Q q => by
  obtain ⟨M, r, h, δ, b, q⟩ := q
  refine ⟨M, r, h, δ, b, (After.bind q).more fun x H1 ⟨dx, M1, r1, h1, s1, b1, rx, q1⟩ => ?_⟩
  cases dx with
  | int i => exact ⟨i, rx, q1.now b1 rfl⟩
  | _ => exact q1.elim
def slF (f : EF) (fl fh : DE → Bx → R (Option Int)) : EF := fun δ h => (f δ h).bind fun d h1 => (fl δ h1).bind fun lo h2 => (fh δ h2).bind fun hi h3 => match d with
  | .tup ds => .ok (.tup (cutD ds lo hi)) h3
  | d => match lstOf δ h3 d with
    | some ds => .ok (.lst (cutD ds lo hi)) h3
    | none => .bad
theorem cut_whole {ds : List D} {n : Nat} {lo hi : Option Int} (e : n = ds.length) (w : HT.sIx n 0 lo = 0 ∧ HT.sIx n n hi = n) : cutD ds lo hi = ds := by
  subst e
  unfold cutD
  rw [w.1, w.2, List.drop_zero, Nat.sub_zero, List.take_length]
theorem ev_sl {lo hi : Option Expr} {fl fh : DE → Bx → R (Option Int)} (ha : Ev X G W a f) (hl : EvO X G W lo fl) (hh : EvO X G W hi fh) (hK : X.K = G.K) : Ev X G W (.Subscript a (.Slice lo hi none p2) pos) (slF f fl fh) :=
  PE.imp (pe_slice (SlR.or sl_list sl_tupA) ha hl hh) fun σ H Q q => by
    rw [hK]
    obtain ⟨M, r, h, δ, b, q⟩ := q
    refine ⟨M, r, h, δ, b, (After.bind q).more fun x H1 ⟨dx, M1, r1, h1, s1, b1, rx, q1⟩ => ?_⟩
    refine ⟨M1, r1, h1, δ, b1, (After.bind q1).more fun o H2 ⟨o2, M2, r2, h2, s2, b2, e2, q2⟩ => ?_⟩
    refine ⟨M2, r2, h2, δ, b2, (After.bind q2).more fun o' H3 ⟨o3, M3, r3, h3, s3, b3, e3, q3⟩ => ?_⟩
    cases e2; cases e3
    have rx3 := RepV.mono s3.le s3.pre (RepV.mono s2.le s2.pre rx)
    have other : ∀ ds, lstOf δ h3 dx = some ds → After G W σ δ (rV G.J δ σ) M3 r3 H3 (.ok (.lst (cutD ds o o')) h3) Q → (fun x lo hi H Q => rSlL G.K x lo hi H Q ∨ rSlA G.K x lo hi H Q) x o o' H3 Q := fun ds e q => by
      obtain ⟨a, vs, e1, q1, t, z⟩ := b3.lst rx3 e
      subst e1
      exact .inl ⟨a, vs, rfl, q1, lst_new b3 (cut_rep t o o') (Nat.le_trans (cut_len _ _ _) z) q⟩
    cases dx with
    | tup ds =>
      obtain ⟨a, vs, e1, m, t⟩ := rx3
      subst e1
      refine .inr ⟨a, vs, rfl, sqT_of b3 m, fun w => ?_, fun _ => ?_⟩
      · have q3 : After G W σ δ (rV G.J δ σ) M3 r3 H3 (.ok (.tup (cutD ds o o')) h3) Q := q3
        rw [cut_whole t.length w] at q3
        exact q3.now b3 ⟨a, vs, rfl, m, t⟩
      · exact tup_new b3 (cut_rep t o o') (Nat.le_trans (cut_len _ _ _) (by rw [← t.length]; exact tup_big b3 m)) q3
    | _ =>
      simp only at q3
      split at q3
      · rename_i ds e
        exact other ds e q3
      · exact q3.elim
end
end LP
/-! LpD: statements over plain data; what loops walk; comprehensions. -/
namespace LP
open PySem PySem.Spec PyProof.Rows L2
inductive RS where
  | nx (δ : DE) (h : Bx) | rt (d : D) (h : Bx) | bk (δ : DE) (h : Bx) | ct (δ : DE) (h : Bx) | exc (c : Str) (fs : List (Str × D)) (δ : DE) (h : Bx) | bad
abbrev SF := DE → Bx → RS
def AfterS (G : Cfg) (W : WX) (M0 : Imm) (r0 : List Addr) (x : RS) (E : Ends) : Prop := match x with
  | .nx δ h => ∀ M r σ H, Le M0 M → r0 <+: r → BS G M r h δ σ H → E.nx σ H
  | .rt d h => ∀ v M r δ σ H, Le M0 M → r0 <+: r → BS G M r h δ σ H → Rep G.J M r d v → E.rt v H
  | .bk δ h => ∀ M r σ H, Le M0 M → r0 <+: r → BS G M r h δ σ H → E.bk σ H
  | .ct δ h => ∀ M r σ H, Le M0 M → r0 <+: r → BS G M r h δ σ H → E.ct σ H
  | .exc c fs δ h => ∀ C dd M r σ H, G.mg c = some (.ref C) → Le M0 M → r0 <+: r → BS G M r h δ σ H → ExcAt G.J M r H fs dd → W (.ref C) dd σ H
  | .bad => False
def tS (G : Cfg) (W : WX) (f : SF) : TS := fun E σ H => ∃ M r h δ, BS G M r h δ σ H ∧ AfterS G W M r (f δ h) E
def Es (X : Cx) (G : Cfg) (W : WX) (st : Stmt) (f : SF) : Prop := PS X st (tS G W f)
def Ess (X : Cx) (G : Cfg) (W : WX) (st : List Stmt) (f : SF) : Prop := PSs X st (tS G W f)
/-- an expression ahead of a statement -/
def R.toS {α : Type} (δ : DE) (x : R α) (k : α → Bx → RS) : RS := match x with
  | .ok a h => k a h
  | .exc c fs h => .exc c fs δ h
  | .bad => .bad
@[simp] theorem R.toS_ok {α : Type} (δ : DE) (a : α) (h : Bx) (k : α → Bx → RS) : (R.ok a h).toS δ k = k a h := pr rfl
@[simp] theorem R.toS_exc {α : Type} (δ : DE) (c : Str) (fs : List (Str × D)) (h : Bx) (k : α → Bx → RS) : (R.exc c fs h : R α).toS δ k = .exc c fs δ h := pr rfl
@[simp] theorem R.toS_bad {α : Type} (δ : DE) (k : α → Bx → RS) : (R.bad : R α).toS δ k = .bad := pr rfl
section
variable {X : Cx} {G : Cfg} {W : WX} {σ : L2.St} {δ : DE} {M M1 M2 : Imm} {r r1 r2 : List Addr} {h h1 h2 : Bx} {H H1 H2 : Hp} {E : Ends}
theorem AfterS.from {x : RS} {E : Ends} (le : Le M M1) (pr : r <+: r1) (q : AfterS G W M r x E) : AfterS G W M1 r1 x E := by
  cases x with
  | nx δ h => exact fun M' r' σ H a c b => q M' r' σ H (le.trans a) (pr.trans c) b
  | rt d h => exact fun v M' r' δ σ H a c b z => q v M' r' δ σ H (le.trans a) (pr.trans c) b z
  | bk δ h => exact fun M' r' σ H a c b => q M' r' σ H (le.trans a) (pr.trans c) b
  | ct δ h => exact fun M' r' σ H a c b => q M' r' σ H (le.trans a) (pr.trans c) b
  | exc c fs δ h => exact fun C dd M' r' σ H m a c b z => q C dd M' r' σ H m (le.trans a) (pr.trans c) b z
  | bad => exact q
/-- an expression, then a statement -/
theorem AfterS.expr {α β : Type} {rl : DE → L2.St → Rl α β} {x : R α} {k : α → Bx → RS} (b : BS G M r h δ σ H) (q : AfterS G W M r (x.toS δ k) E) :
    After G W σ δ (rl δ σ) M r H x fun v H1 => ∃ d M1 r1 h1, Stp M r H M1 r1 H1 ∧ BS G M1 r1 h1 δ σ H1 ∧ rl δ σ M1 r1 d v ∧ AfterS G W M1 r1 (k d h1) E := by
  cases x with
  | ok d h => exact fun v M' r' H' a b c => ⟨d, M', r', h, a, b, c, AfterS.from a.le a.pre q⟩
  | exc c fs h => exact fun C dd M' r' H' m a b e => q C dd M' r' σ H' m a.le a.pre b e
  | bad => exact q
/-- now -/
theorem AfterS.nxt {δ' : DE} {h' : Bx} {σ' : L2.St} {H' : Hp} (q : AfterS G W M r (.nx δ' h') E) (b : BS G M r h' δ' σ' H') : E.nx σ' H' := q M r σ' H' Le.refl List.prefix_rfl b
variable {e c : Expr} {f g : EF} {st : Stmt} {sts : List Stmt} {sf sg : SF} {tf : DE → Bx → R Bool} {pos : Pos}
def seqS (sf sg : SF) : SF := fun δ h => match sf δ h with
  | .nx δ' h' => sg δ' h'
  | x => x
theorem ess_nil : Ess X G W [] (fun δ h => .nx δ h) := PSs.imp pss_nil fun E σ H q => by
  obtain ⟨M, r, h, δ, b, q⟩ := q
  exact q M r σ H Le.refl List.prefix_rfl b
theorem ess_one (p : Es X G W st sf) : Ess X G W [st] sf := pss_one p
theorem ess_cons (p : Es X G W st sf) (q : Ess X G W sts sg) : Ess X G W (st :: sts) (seqS sf sg) := PSs.imp (pss_cons p q) fun E σ H q => by
  obtain ⟨M, r, h, δ, b, q⟩ := q
  refine ⟨M, r, h, δ, b, ?_⟩
  unfold seqS at q
  cases e : sf δ h with
  | nx δ' h' => rw [e] at q; exact fun M' r' σ' H' le pr b' => ⟨M', r', h', δ', b', AfterS.from le pr q⟩
  | rt d h => rw [e] at q; exact q
  | bk δ h => rw [e] at q; exact q
  | ct δ h => rw [e] at q; exact q
  | exc c fs δ h => rw [e] at q; exact q
  | bad => rw [e] at q; exact q
theorem es_pass : Es X G W (.Pass pos) (fun δ h => .nx δ h) := PS.imp ps_pass fun E σ H q => by
  obtain ⟨M, r, h, δ, b, q⟩ := q
  exact q M r σ H Le.refl List.prefix_rfl b
theorem es_break : Es X G W (.Break pos) (fun δ h => .bk δ h) := PS.imp ps_break fun E σ H q => by
  obtain ⟨M, r, h, δ, b, q⟩ := q
  exact q M r σ H Le.refl List.prefix_rfl b
theorem es_continue : Es X G W (.Continue pos) (fun δ h => .ct δ h) := PS.imp ps_continue fun E σ H q => by
  obtain ⟨M, r, h, δ, b, q⟩ := q
  exact q M r σ H Le.refl List.prefix_rfl b
/-- an expression, its value dropped -/
def exprS (f : EF) : SF := fun δ h => (f δ h).toS δ fun _ h1 => .nx δ h1
theorem es_expr (p : Ev X G W e f) (hs : swapsWith e none pos.line X.env = pure false := by rfl) : Es X G W (.Expr e pos) (exprS f) := PS.imp (ps_expr p hs) fun E σ H q => by
  obtain ⟨M, r, h, δ, b, q⟩ := q
  exact ⟨M, r, h, δ, b, (AfterS.expr (rl := rV G.J) b q).more fun v H1 ⟨d, M1, r1, h1, s1, b1, _, q1⟩ => q1.nxt b1⟩
/-- the list of a slot is never written again -/
theorem BS.freeze (b : BS G M r h δ σ H) {i : Nat} {ds : List D} (e : δ[i]? = some (.own ds)) : ∃ M' a vs, σ[i]? = some (some (.ref a)) ∧ Le M M' ∧ BS G M' r h (δ.set i (.v (.lst ds))) σ H ∧ M' a = some (.lst vs) ∧ Reps G.J M' r ds vs := by
  obtain ⟨o, eo⟩ := b.lt e
  obtain ⟨a, vs, rfl, m, n, f, z, q, t⟩ := b.sl i _ _ e eo
  have le : Le M (updM M a (.lst vs)) := fun c u e => by
    unfold updM
    by_cases y : c = a
    · subst y; rw [m] at e; cases e
    · rw [if_neg y]; exact e
  have nM : ∀ c, c ≠ a → M c = none → updM M a (.lst vs) c = none := fun c y e => by unfold updM; rw [if_neg y]; exact e
  have hi : i < δ.length := (List.getElem?_eq_some_iff.mp e).1
  refine ⟨updM M a (.lst vs), a, vs, eo, le, ⟨fun c u e => ?_, ⟨b.bx.len, b.bx.nd, fun k c es e1 e2 => ?_⟩, b.tb, by rw [List.length_set]; exact b.len, fun j s x e1 e2 => ?_, fun j l ds' es' e1 e2 n' => ?_, b.le.trans le, b.pre, b.new, b.keep, fun c m0 fr nr => nM c (fun y => by subst y; exact fr.nf f) (b.nf c m0 fr nr)⟩, updM_same, Reps.mono le List.prefix_rfl _ _ t⟩
  · unfold updM at e
    by_cases y : c = a
    · subst y
      rw [if_pos rfl] at e; cases e
      exact ⟨by show vs.length ≤ big; rw [t.length]; exact z, q⟩
    · rw [if_neg y] at e
      exact b.mok c u e
  · obtain ⟨m', z', vs', q', t'⟩ := b.bx.at_ k c es e1 e2
    refine ⟨nM c (fun y => ?_) m', z', vs', q', Reps.mono le List.prefix_rfl _ _ t'⟩
    subst y
    exact n (List.mem_of_getElem? e1)
  · by_cases hj : i = j
    · subst hj
      rw [List.getElem?_set_self hi] at e1
      cases e1
      rw [eo] at e2; cases e2
      exact ⟨_, rfl, a, vs, rfl, updM_same, Reps.mono le List.prefix_rfl _ _ t⟩
    · rw [List.getElem?_set_ne hj] at e1
      cases s with
      | no => trivial
      | v d =>
        obtain ⟨v, y1, y2⟩ := b.sl j _ x e1 e2
        exact ⟨v, y1, Rep.mono le List.prefix_rfl _ _ y2⟩
      | own es =>
        obtain ⟨c, us, y1, m', n', f', z', q', t'⟩ := b.sl j _ x e1 e2
        refine ⟨c, us, y1, nM c (fun y => ?_) m', n', f', z', q', Reps.mono le List.prefix_rfl _ _ t'⟩
        subst y
        exact b.sep i j ds es e e1 hj (by rw [eo, e2, y1])
  · have nj : ∀ {j : Nat} {es : List D}, (δ.set i (.v (.lst ds)))[j]? = some (.own es) → δ[j]? = some (.own es) := fun {j es} e => by
      by_cases hj : i = j
      · subst hj
        rw [List.getElem?_set_self hi] at e; cases e
      · rw [List.getElem?_set_ne hj] at e
        exact e
    exact b.sep j l ds' es' (nj e1) (nj e2) n'
/-- what is handed back: a slot's own list is never written again -/
def retK (δ : DE) (d : D) (h : Bx) : RS := match d with
  | .loc i => match δ[i]? with
    | some (.own ds) => .rt (.lst ds) h
    | _ => .bad
  | d => .rt d h
def retS (f : EF) : SF := fun δ h => (f δ h).toS δ (retK δ)
theorem es_ret (p : Ev X G W e f) : Es X G W (.Return (some e) pos) (retS f) := PS.imp (ps_ret p) fun E σ H q => by
  obtain ⟨M, r, h, δ, b, q⟩ := q
  refine ⟨M, r, h, δ, b, (AfterS.expr (rl := rV G.J) b q).more fun v H1 ⟨d, M1, r1, h1, s1, b1, rv, q1⟩ => ?_⟩
  cases d with
  | loc i =>
    obtain ⟨e1, ds, e2⟩ := rv
    simp only [retK, e2] at q1
    obtain ⟨M', a, vs, e3, le, b', m, t⟩ := b1.freeze e2
    rw [e1] at e3; cases e3
    exact q1 _ M' r1 _ σ H1 le List.prefix_rfl b' ⟨a, vs, rfl, m, t⟩
  | _ => exact q1 v M1 r1 δ σ H1 Le.refl List.prefix_rfl b1 rv
theorem es_retN : Es X G W (.Return none pos) (fun _ h => .rt .non h) := PS.imp ps_retN fun E σ H q => by
  obtain ⟨M, r, h, δ, b, q⟩ := q
  exact q .non M r δ σ H Le.refl List.prefix_rfl b rfl
def ifS (tf : DE → Bx → R Bool) (sf sg : SF) : SF := fun δ h => (tf δ h).toS δ fun c h1 => if c = true then sf δ h1 else sg δ h1
theorem es_if {a b : List Stmt} (hc : EvT X G W c tf) (ha : Ess X G W a sf) (hb : Ess X G W b sg) : Es X G W (.If c a b pos) (ifS tf sf sg) := PS.imp (ps_if hc ha hb) fun E σ H q => by
  obtain ⟨M, r, h, δ, b, q⟩ := q
  refine ⟨M, r, h, δ, b, (AfterS.expr (rl := rB) b q).more fun v H1 ⟨d, M1, r1, h1, s1, b1, rv, q1⟩ => ?_⟩
  cases rv
  cases v with
  | true => exact ⟨M1, r1, h1, δ, b1, q1⟩
  | false => exact ⟨M1, r1, h1, δ, b1, q1⟩
/-- name = value -/
def setS (i : Nat) (f : EF) : SF := fun δ h => (f δ h).toS δ fun d h1 => if isV d = true then .nx (δ.set i (.v d)) h1 else .bad
theorem es_set {i : Nat} {x : Str} {pos' : Pos} (hN : X.N.Nodup) (hi : X.N[i]? = some x) (hx : Loc X.env.scope x) (he : Ev X G W e f) (hs : swapsWith e (some (.Name x pos')) pos.line X.env = pure false := by rfl) (hf : X.fn x = true ∨ X.env.scope.names.lookup x = some .local := by first | exact .inl rfl | exact .inr rfl | assumption) :
    Es X G W (.Assign [.Name x pos'] e pos) (setS i f) := PS.imp (ps_set hN hi hx he hs hf) fun E σ H q => by
  obtain ⟨M, r, h, δ, b, q⟩ := q
  refine ⟨M, r, h, δ, b, (AfterS.expr (rl := rV G.J) b q).more fun v H1 ⟨d, M1, r1, h1, s1, b1, rv, q1⟩ => ?_⟩
  cases d with
  | loc i => exact q1.elim
  | _ => exact q1.nxt (b1.put rv)
/-- ahead of a statement: the list of slot i is never written again -/
def frzS (i : Nat) (sf : SF) : SF := fun δ h => match δ[i]? with
  | some (.own ds) => sf (δ.set i (.v (.lst ds))) h
  | _ => .bad
theorem es_frz (i : Nat) (p : Es X G W st sf) : Es X G W st (frzS i sf) := PS.imp p fun E σ H q => by
  obtain ⟨M, r, h, δ, b, q⟩ := q
  unfold frzS at q
  split at q
  · rename_i ds e
    obtain ⟨M', a, vs, _, le, b', _⟩ := b.freeze e
    exact ⟨M', r, h, _, b', AfterS.from le List.prefix_rfl q⟩
  · exact q.elim
/-- ahead of a statement: slots are forgotten -/
def dropS (i : Nat) (sf : SF) : SF := fun δ h => sf (δ.set i .no) h
theorem BS.drop (b : BS G M r h δ σ H) (i : Nat) : BS G M r h (δ.set i .no) σ H := by
  refine b.weak (by rw [List.length_set]; exact b.len) fun j s e => ?_
  by_cases hj : i = j
  · subst hj
    by_cases hi : i < δ.length
    · rw [List.getElem?_set_self hi] at e
      cases e; exact .inl rfl
    · rw [List.getElem?_eq_none (by rw [List.length_set]; omega)] at e; cases e
  · rw [List.getElem?_set_ne hj] at e
    exact .inr ⟨e, rfl⟩
theorem es_drop (i : Nat) (p : Es X G W st sf) : Es X G W st (dropS i sf) := PS.imp p fun E σ H q => by
  obtain ⟨M, r, h, δ, b, q⟩ := q
  exact ⟨M, r, h, _, b.drop i, q⟩
/-! ### new lists -/
/-- an expression that lays a new list -/
def AfterN (G : Cfg) (W : WX) (σ : L2.St) (δ : DE) (M : Imm) (r : List Addr) (H : Hp) (x : R (List D)) (Q : VK) : Prop := match x with
  | .ok ds h => ∀ vs M' r' H' p, Stp M r H M' r' H' → BS G M' r' h δ σ H' → Reps G.J M' r' ds vs → ds.length ≤ big → H' p = none → Q (.ref p) (upd H' p (.lst vs))
  | .exc c fs h => ∀ C dd M' r' H', G.mg c = some (.ref C) → Stp M r H M' r' H' → BS G M' r' h δ σ H' → ExcAt G.J M' r' H' fs dd → W (.ref C) dd σ H'
  | .bad => False
def tN (G : Cfg) (W : WX) (f : DE → Bx → R (List D)) : TE := fun σ H Q => ∃ M r h δ, BS G M r h δ σ H ∧ AfterN G W σ δ M r H (f δ h) Q
def EvN (X : Cx) (G : Cfg) (W : WX) (e : Expr) (f : DE → Bx → R (List D)) : Prop := PE X e (tN G W f)
/-- a new list as a value -/
def valN (fs : DE → Bx → R (List D)) : EF := fun δ h => (fs δ h).bind fun ds h1 => .ok (.lst ds) h1
/-- a new list as a box -/
def boxN (fs : DE → Bx → R (List D)) : EF := fun δ h => (fs δ h).bind fun ds h1 => .ok (.ptr h1.length) (h1 ++ [ds])
variable {fs : DE → Bx → R (List D)}
theorem AfterN.from {x : R (List D)} {Q : VK} (s : Stp M r H M1 r1 H1) (q : AfterN G W σ δ M r H x Q) : AfterN G W σ δ M1 r1 H1 x Q := by
  cases x with
  | ok d h => exact fun vs M' r' H' p a b c => q vs M' r' H' p (s.trans a) b c
  | exc c fs h => exact fun C dd M' r' H' m a b e => q C dd M' r' H' m (s.trans a) b e
  | bad => exact q
theorem AfterN.bind {α β : Type} {rl : Rl α β} {x : R α} {k : α → Bx → R (List D)} {Q : VK} (q : AfterN G W σ δ M r H (x.bind k) Q) :
    After G W σ δ rl M r H x fun v H1 => ∃ d M1 r1 h1, Stp M r H M1 r1 H1 ∧ BS G M1 r1 h1 δ σ H1 ∧ rl M1 r1 d v ∧ AfterN G W σ δ M1 r1 H1 (k d h1) Q := by
  cases x with
  | ok d h => exact fun v M' r' H' a b c => ⟨d, M', r', h, a, b, c, AfterN.from a q⟩
  | exc c fs h => exact q
  | bad => exact q
def lstN (fs : DE → Bx → R (List D)) : DE → Bx → R (List D) := fun δ h => (fs δ h).bind fun ds h1 => if (ds.all isV && decide (ds.length ≤ big)) = true then .ok ds h1 else .bad
theorem evn_lst {es : List Expr} (ha : EvA X G W es fs) : EvN X G W (.List es pos) (lstN fs) :=
  PE.imp (pe_lst ha) fun σ H Q q => by
    obtain ⟨M, r, h, δ, b, q⟩ := q
    refine ⟨M, r, h, δ, b, (AfterN.bind (rl := rVs G.J δ σ) q).more fun vs H1 ⟨ds, M1, r1, h1, s1, b1, rv, q1⟩ => ?_⟩
    split at q1
    · rename_i z
      rw [Bool.and_eq_true, decide_eq_true_eq] at z
      have t := RepVs.reps rv z.1
      exact ⟨by rw [t.length]; exact big_line z.2, fun p hp => q1 vs M1 r1 H1 p Stp.refl b1 t z.2 hp⟩
    · exact q1.elim
theorem ev_valN (p : EvN X G W e fs) : Ev X G W e (valN fs) := PE.imp p fun σ H Q q => by
  obtain ⟨M, r, h, δ, b, q⟩ := q
  refine ⟨M, r, h, δ, b, ?_⟩
  unfold valN at q
  cases e : fs δ h with
  | ok ds h1 =>
    rw [e] at q
    intro vs M' r' H' p s b' t z hp
    exact lst_new b' t z (After.from s q) p hp
  | exc c fs h => rw [e] at q; exact q
  | bad => rw [e] at q; exact q
theorem BS.box (b : BS G M r h δ σ H) {p : Addr} {ds : List D} {vs : List V} (hp : H p = none) (t : Reps G.J M r ds vs) (z : ds.length ≤ big) : BS G M (r ++ [p]) (h ++ [ds]) δ σ (upd H p (.lst vs)) ∧ Stp M r H M (r ++ [p]) (upd H p (.lst vs)) := by
  have pr : p ∉ r := b.fresh_r hp
  have pm : M p = none := b.fresh_M hp
  have pre : r <+: r ++ [p] := List.prefix_append _ _
  have b1 := b.new_list hp (xs := vs)
  refine ⟨⟨b1.mok, ⟨by rw [List.length_append, List.length_append, b.bx.len]; rfl, ?_, fun n a es e1 e2 => ?_⟩, b1.tb, b1.len, fun i s x e1 e2 => ?_, b1.sep, b1.le, b1.pre.trans pre, fun a ha => ?_, b1.keep, b1.nf⟩, Le.refl, pre, fun a ha => ?_, fun a o e _ _ => upd_new hp e, fun a m _ _ => m⟩
  · rw [List.nodup_append]
    exact ⟨b.bx.nd, by simp, fun x hx y hy => by
      have : y = p := by simpa using hy
      subst this
      exact fun z => pr (z ▸ hx)⟩
  · by_cases hn : n < r.length
    · rw [List.getElem?_append_left hn] at e1
      rw [List.getElem?_append_left (by rw [← b.bx.len]; exact hn)] at e2
      obtain ⟨m, z', us, q', t'⟩ := b1.bx.at_ n a es e1 e2
      exact ⟨m, z', us, q', Reps.mono Le.refl pre _ _ t'⟩
    · have hn' : n = r.length := by
        have := (List.getElem?_eq_some_iff.mp e1).1
        rw [List.length_append] at this
        simp at this
        omega
      subst hn'
      rw [List.getElem?_append_right (Nat.le_refl _)] at e1
      rw [b.bx.len, List.getElem?_append_right (Nat.le_refl _)] at e2
      simp at e1 e2
      subst e1 e2
      exact ⟨pm, z, vs, upd_same, Reps.mono Le.refl pre _ _ t⟩
  · refine (b.sl i s x e1 e2).mono Le.refl pre fun a us m q n => ⟨m, fun ha => ?_, upd_new hp q⟩
    rcases List.mem_append.mp ha with ha | ha
    · exact n ha
    · have : a = p := by simpa using ha
      subst this
      rw [hp] at q; cases q
  · rcases List.mem_append.mp ha with ha | ha
    · exact b.new a ha
    · have : a = p := by simpa using ha
      subst this
      exact .inr (b.free0 hp)
  · rcases List.mem_append.mp ha with ha | ha
    · exact .inl ha
    · have : a = p := by simpa using ha
      subst this
      exact .inr (Free.of hp)
theorem ev_boxN (p : EvN X G W e fs) : Ev X G W e (boxN fs) := PE.imp p fun σ H Q q => by
  obtain ⟨M, r, h, δ, b, q⟩ := q
  refine ⟨M, r, h, δ, b, ?_⟩
  unfold boxN at q
  cases e : fs δ h with
  | ok ds h1 =>
    rw [e] at q
    intro vs M' r' H' p s b' t z hp
    obtain ⟨b2, s2⟩ := b'.box hp t z
    refine q _ _ _ _ (s.trans s2) b2 ⟨p, rfl, ?_⟩
    rw [← b'.bx.len, List.getElem?_append_right (Nat.le_refl _)]
    simp
  | exc c fs h => rw [e] at q; exact q
  | bad => rw [e] at q; exact q
/-- name = a new list, of the slot's own -/
def ownS (i : Nat) (fs : DE → Bx → R (List D)) : SF := fun δ h => (fs δ h).toS δ fun ds h1 => .nx (δ.set i (.own ds)) h1
theorem BS.own (b : BS G M r h δ σ H) {p : Addr} {i : Nat} {ds : List D} {vs : List V} (hp : H p = none) (t : Reps G.J M r ds vs) (z : ds.length ≤ big) : BS G M r h (δ.set i (.own ds)) (σ.set i (some (.ref p))) (upd H p (.lst vs)) := by
  have b1 := b.new_list hp (xs := vs)
  have no := b.noOwn hp
  have at_ : ∀ {j : Nat} {s : SV}, (δ.set i (.own ds))[j]? = some s → i ≠ j → δ[j]? = some s := fun e n => by rwa [List.getElem?_set_ne n] at e
  have lt : ∀ {s : SV}, (δ.set i (.own ds))[i]? = some s → i < δ.length ∧ s = .own ds := fun {s} e => by
    have hi : i < δ.length := by
      have := (List.getElem?_eq_some_iff.mp e).1
      simpa using this
    rw [List.getElem?_set_self hi] at e
    exact ⟨hi, (Option.some.inj e).symm⟩
  refine ⟨b1.mok, b1.bx, b1.tb, by rw [List.length_set, List.length_set]; exact b.len, fun j s x e1 e2 => ?_, fun j l es us e1 e2 n => ?_, b1.le, b1.pre, b1.new, b1.keep, b1.nf⟩
  · by_cases hj : i = j
    · subst hj
      obtain ⟨hi, rfl⟩ := lt e1
      rw [List.getElem?_set_self (by rw [b.len]; exact hi)] at e2
      cases e2
      exact ⟨p, vs, rfl, b.fresh_M hp, b.fresh_r hp, b.free0 hp, z, upd_same, t⟩
    · rw [List.getElem?_set_ne hj] at e2
      exact b1.sl j s x (at_ e1 hj) e2
  · by_cases hj : i = j
    · subst hj
      obtain ⟨hi, _⟩ := lt e1
      rw [List.getElem?_set_self (by rw [b.len]; exact hi), List.getElem?_set_ne n]
      exact fun y => no l us (at_ e2 n) y.symm
    · by_cases hl : i = l
      · subst hl
        obtain ⟨hi, _⟩ := lt e2
        rw [List.getElem?_set_self (by rw [b.len]; exact hi), List.getElem?_set_ne hj]
        exact no j es (at_ e1 hj)
      · rw [List.getElem?_set_ne hj, List.getElem?_set_ne hl]
        exact b.sep j l es us (at_ e1 hj) (at_ e2 hl) n
theorem es_own {i : Nat} {x : Str} {pos' : Pos} (hN : X.N.Nodup) (hi : X.N[i]? = some x) (hx : Loc X.env.scope x) (he : EvN X G W e fs) (hs : swapsWith e (some (.Name x pos')) pos.line X.env = pure false := by rfl) (hf : X.fn x = true ∨ X.env.scope.names.lookup x = some .local := by first | exact .inl rfl | exact .inr rfl | assumption) :
    Es X G W (.Assign [.Name x pos'] e pos) (ownS i fs) := PS.imp (ps_set hN hi hx he hs hf) fun E σ H q => by
  obtain ⟨M, r, h, δ, b, q⟩ := q
  refine ⟨M, r, h, δ, b, ?_⟩
  unfold ownS at q
  cases e : fs δ h with
  | ok ds h1 =>
    rw [e] at q
    intro vs M' r' H' p s b' t z hp
    exact (AfterS.from s.le s.pre q).nxt (b'.own hp t z)
  | exc c fs h => rw [e] at q; exact fun C dd M' r' H' m s b e => q C dd M' r' σ H' m s.le s.pre b e
  | bad => rw [e] at q; exact q
/-! ### what a loop walks -/
/-- the walk hands on ds, one by one -/
def Good (G : Cfg) (J : It) (M' : Imm) (r' : List Addr) (ds : List D) : Prop := ∃ (Gd : Hp → Prop) (Y : Nat → Hp → V → Hp → Prop), Walk J ds.length Gd Y ∧
  (∀ M r h δ σ H, Le M' M → r' <+: r → BS G M r h δ σ H → Gd H) ∧
  ∀ i x H1 H2 M r h δ σ, i < ds.length → Le M' M → r' <+: r → BS G M r h δ σ H1 → Y i H1 x H2 → ∃ M2 d, BS G M2 r h δ σ H2 ∧ Stp M r H1 M2 r H2 ∧ ds[i]? = some d ∧ Rep G.J M2 r d x
def AfterI (G : Cfg) (W : WX) (σ : L2.St) (δ : DE) (M : Imm) (r : List Addr) (H : Hp) (x : R (List D)) (Q : It → Hp → Prop) : Prop := match x with
  | .ok ds h => ∀ J M' r' H', Stp M r H M' r' H' → BS G M' r' h δ σ H' → Good G J M' r' ds → Q J H'
  | .exc c fs h => ∀ C dd M' r' H', G.mg c = some (.ref C) → Stp M r H M' r' H' → BS G M' r' h δ σ H' → ExcAt G.J M' r' H' fs dd → W (.ref C) dd σ H'
  | .bad => False
def tI (G : Cfg) (W : WX) (f : DE → Bx → R (List D)) : TI := fun σ H Q => ∃ M r h δ, BS G M r h δ σ H ∧ AfterI G W σ δ M r H (f δ h) Q
def EvI (X : Cx) (G : Cfg) (W : WX) (tg e : Expr) (f : DE → Bx → R (List D)) : Prop := PI X tg e (tI G W f)
theorem PI.imp {tg e : Expr} {t t' : TI} (p : PI X tg e t) (f : ∀ σ H Q, t' σ H Q → t σ H Q) : PI X tg e t' := ⟨fun pins s σ H Q I h => p.run pins s σ H Q I (f σ H Q h)⟩
theorem AfterI.bind {α β : Type} {rl : Rl α β} {x : R α} {k : α → Bx → R (List D)} {Q : It → Hp → Prop} (q : AfterI G W σ δ M r H (x.bind k) Q) :
    After G W σ δ rl M r H x fun v H1 => ∃ d M1 r1 h1, Stp M r H M1 r1 H1 ∧ BS G M1 r1 h1 δ σ H1 ∧ rl M1 r1 d v ∧ AfterI G W σ δ M1 r1 H1 (k d h1) Q := by
  cases x with
  | ok d h =>
    intro v M' r' H' a b c
    refine ⟨d, M', r', h, a, b, c, ?_⟩
    have q : AfterI G W σ δ M r H (k d h) Q := q
    cases e : k d h with
    | ok ds h2 => rw [e] at q; exact fun J M2 r2 H2 s2 => q J M2 r2 H2 (a.trans s2)
    | exc c fs h2 => rw [e] at q; exact fun C dd M2 r2 H2 m s2 => q C dd M2 r2 H2 m (a.trans s2)
    | bad => rw [e] at q; exact q
  | exc c fs h => exact q
  | bad => exact q
/-- lists and tuples that are never written -/
def immOf : D → Option (List D)
  | .lst ds => some ds
  | .frz ds => some ds
  | .tup ds => some ds
  | _ => none
def itemsI (f : EF) : DE → Bx → R (List D) := fun δ h => (f δ h).bind fun d h1 => match immOf d with
  | some ds => .ok ds h1
  | none => .bad
def lstI (f : EF) : DE → Bx → R (List D) := fun δ h => (f δ h).bind fun d h1 => match d with
  | .lst ds => .ok ds h1
  | .frz ds => .ok ds h1
  | _ => .bad
def tupI (f : EF) : DE → Bx → R (List D) := fun δ h => (f δ h).bind fun d h1 => match d with
  | .tup ds => .ok ds h1
  | _ => .bad
theorem good_lst {a : Addr} {ds : List D} {vs : List V} (b : BS G M r h δ σ H) (m : M a = some (.lst vs) ∨ FLst G.K M a vs) (t : Reps G.J M r ds vs) : Good G (Itl G.K a) M r ds := by
  refine ⟨fun H => SqL G.K H a vs, YAt vs, by rw [← t.length]; exact walk_list, fun M' r' h' δ' σ' H' le pr b' => ?_, fun i x H1 H2 M' r' h' δ' σ' _ le pr b' y => ?_⟩
  · rcases m with m | m
    · exact .inl (.inl (b'.mok a _ (le _ _ m)).2)
    · exact sqF b' (m.imp (fun ⟨o, z, y⟩ => ⟨o, le _ _ z, y⟩) id)
  · obtain ⟨rfl, e⟩ := y
    have hl : i < ds.length := by rw [← t.length]; exact (List.getElem?_eq_some_iff.mp e).1
    obtain ⟨v, e2, rp⟩ := t.get (List.getElem?_eq_getElem hl)
    rw [e] at e2; cases e2
    exact ⟨M', _, b', Stp.refl, List.getElem?_eq_getElem hl, Rep.mono le pr _ _ rp⟩
theorem good_tup {a : Addr} {ds : List D} {vs : List V} (b : BS G M r h δ σ H) (m : M a = some (.tup vs) ∨ KTup G.K a vs) (t : Reps G.J M r ds vs) : Good G (Itt G.K a) M r ds := by
  refine ⟨fun H => SqT G.K H a vs, YAt vs, by rw [← t.length]; exact walk_tup, fun M' r' h' δ' σ' H' le pr b' => sqT_of b' (m.imp (le _ _) id), fun i x H1 H2 M' r' h' δ' σ' _ le pr b' y => ?_⟩
  obtain ⟨rfl, e⟩ := y
  have hl : i < ds.length := by rw [← t.length]; exact (List.getElem?_eq_some_iff.mp e).1
  obtain ⟨v, e2, rp⟩ := t.get (List.getElem?_eq_getElem hl)
  rw [e] at e2; cases e2
  exact ⟨M', _, b', Stp.refl, List.getElem?_eq_getElem hl, Rep.mono le pr _ _ rp⟩
theorem evi_list {tg : Expr} (p : Ev X G W e f) (hK : X.K = G.K) : EvI X G W tg e (lstI f) := PI.imp (pi_list p) fun σ H Q q => by
  rw [hK]
  obtain ⟨M, r, h, δ, b, q⟩ := q
  refine ⟨M, r, h, δ, b, (AfterI.bind (rl := rV G.J δ σ) q).more fun v H1 ⟨d, M1, r1, h1, s1, b1, rv, q1⟩ => ?_⟩
  cases d with
  | lst ds =>
    obtain ⟨a, vs, e1, m, t⟩ := rv
    exact ⟨a, e1, ⟨vs, .inl (.inl (b1.mok a _ m).2)⟩, q1 _ M1 r1 H1 Stp.refl b1 (good_lst b1 (.inl m) t)⟩
  | frz ds =>
    obtain ⟨a, vs, e1, m, t⟩ := rv
    exact ⟨a, e1, ⟨vs, sqF b1 m⟩, q1 _ M1 r1 H1 Stp.refl b1 (good_lst b1 (.inr m) t)⟩
  | _ => exact q1.elim
theorem evi_tup {tg : Expr} (p : Ev X G W e f) (hK : X.K = G.K) : EvI X G W tg e (tupI f) := PI.imp (pi_tup p) fun σ H Q q => by
  rw [hK]
  obtain ⟨M, r, h, δ, b, q⟩ := q
  refine ⟨M, r, h, δ, b, (AfterI.bind (rl := rV G.J δ σ) q).more fun v H1 ⟨d, M1, r1, h1, s1, b1, rv, q1⟩ => ?_⟩
  cases d with
  | tup ds =>
    obtain ⟨a, vs, e1, m, t⟩ := rv
    exact ⟨a, e1, ⟨vs, sqT_of b1 m⟩, q1 _ M1 r1 H1 Stp.refl b1 (good_tup b1 m t)⟩
  | _ => exact q1.elim
end
end LP
/-! LpE: what is walked; targets; for, while, comprehensions. -/
namespace LP
open PySem PySem.Spec PyProof.Rows L2 RZ
section
variable {X : Cx} {G : Cfg} {W : WX} {σ : L2.St} {δ : DE} {M M1 M2 : Imm} {r r1 r2 : List Addr} {h h1 h2 : Bx} {H H1 H2 : Hp} {E : Ends}
variable {e c : Expr} {f g : EF} {tg : Expr} {fs : DE → Bx → R (List D)} {pos : Pos}
theorem PI.or {t t' : TI} (p : PI X tg e t) (p' : PI X tg e t') : PI X tg e (fun σ H R => t σ H R ∨ t' σ H R) := ⟨fun pins s σ H R I h => h.elim (p.run pins s σ H R I) (p'.run pins s σ H R I)⟩
/-- a list or a tuple -/
theorem evi_seq (p : Ev X G W e f) (hK : X.K = G.K) : EvI X G W tg e (itemsI f) := PI.imp (PI.or (evi_list (tg := tg) p hK) (evi_tup (tg := tg) p hK)) fun σ H Q q => by
  obtain ⟨M, r, h, δ, b, q⟩ := q
  unfold itemsI at q
  cases z : f δ h with
  | ok d h1 =>
    rw [z] at q
    cases d with
    | tup ds => exact .inr ⟨M, r, h, δ, b, by unfold tupI; rw [z]; exact q⟩
    | lst ds => exact .inl ⟨M, r, h, δ, b, by unfold lstI; rw [z]; exact q⟩
    | frz ds => exact .inl ⟨M, r, h, δ, b, by unfold lstI; rw [z]; exact q⟩
    | _ => exact q.elim
  | exc c fs h1 => rw [z] at q; exact .inl ⟨M, r, h, δ, b, by unfold lstI; rw [z]; exact q⟩
  | bad => rw [z] at q; exact q.elim
/-! ### ranges -/
def rgD (lo hi : Int) : List D := (List.range (hi - lo).toNat).map fun i => .int (lo + (i : Nat))
theorem good_range {lo : Int} {n : Nat} (b : BS G M r h δ σ H) : Good G (Itr lo n) M r ((List.range n).map fun i => .int (lo + (i : Nat))) := by
  refine ⟨fun _ => True, YFn fun i => .int (lo + i), by rw [List.length_map, List.length_range]; exact walk_range, fun _ _ _ _ _ _ _ _ _ => trivial, fun i x H1 H2 M' r' h' δ' σ' hi le pr b' y => ?_⟩
  obtain ⟨rfl, rfl⟩ := y
  rw [List.length_map, List.length_range] at hi
  exact ⟨M', .int (lo + (i : Nat)), b', Stp.refl, by rw [List.getElem?_map, List.getElem?_range hi]; rfl, rfl⟩
def rgC (i : Int) : Bool := decide (-(2 ^ 62) ≤ i ∧ i < 2 ^ 62)
def rg1K (ds : List D) (h : Bx) : R (List D) := match ds with
  | [.int j] => if rgC j = true then .ok (rgD 0 j) h else .bad
  | _ => .bad
def rg2K (ds : List D) (h : Bx) : R (List D) := match ds with
  | [.int i, .int j] => if (rgC i && rgC j) = true then .ok (rgD i j) h else .bad
  | _ => .bad
theorem evi_range1 {a : Expr} {p : Pos} (hg : Gl X "range") (hm : X.mg "range" = none) (ha : EvA X G W [a] fs) (hs : starEach [a] X.env = [(false, eval a X.env)] := by rfl) :
    EvI X G W tg (.Call (.Name "range" p) [a] [] pos) (fun δ h => (fs δ h).bind rg1K) := PI.imp (pi_range1 hg hm ha hs) fun σ H Q q => by
  obtain ⟨M, r, h, δ, b, q⟩ := q
  refine ⟨M, r, h, δ, b, (AfterI.bind (rl := rVs G.J δ σ) q).more fun vs H1 ⟨ds, M1, r1, h1, s1, b1, rv, q1⟩ => ?_⟩
  unfold rg1K at q1
  split at q1
  · rename_i j
    split at q1
    · rename_i z
      have z' := of_decide_eq_true z
      obtain ⟨v, vt, rfl, e1, e2⟩ := rv
      cases e1; cases e2
      refine ⟨j, rfl, z'.1, z'.2, q1 _ M1 r1 H1 Stp.refl b1 ?_⟩
      unfold rgD
      rw [Int.sub_zero]
      exact good_range b1
    · exact q1.elim
  · exact q1.elim
theorem evi_range2 {a c : Expr} {p : Pos} (hg : Gl X "range") (hm : X.mg "range" = none) (ha : EvA X G W [a, c] fs) (hs : starEach [a, c] X.env = [(false, eval a X.env), (false, eval c X.env)] := by rfl) (hs2 : starEach [c] X.env = [(false, eval c X.env)] := by rfl) :
    EvI X G W tg (.Call (.Name "range" p) [a, c] [] pos) (fun δ h => (fs δ h).bind rg2K) := PI.imp (pi_range2 hg hm ha hs hs2) fun σ H Q q => by
  obtain ⟨M, r, h, δ, b, q⟩ := q
  refine ⟨M, r, h, δ, b, (AfterI.bind (rl := rVs G.J δ σ) q).more fun vs H1 ⟨ds, M1, r1, h1, s1, b1, rv, q1⟩ => ?_⟩
  unfold rg2K at q1
  split at q1
  · rename_i i j
    split at q1
    · rename_i z
      rw [Bool.and_eq_true] at z
      have z1 := of_decide_eq_true z.1
      have z2 := of_decide_eq_true z.2
      obtain ⟨v, vt, rfl, e1, v2, vt2, rfl, e2, e3⟩ := rv
      cases e1; cases e2; cases e3
      exact ⟨i, j, rfl, ⟨z1.1, z1.2, z2.1, z2.2⟩, q1 _ M1 r1 H1 Stp.refl b1 (good_range b1)⟩
    · exact q1.elim
  · exact q1.elim
/-! ### zip of two lists, of two tuples -/
theorem good_pair {J : It} {Gd : Hp → Prop} {n : Nat} {xs ys : Nat → Option V} {as bs : Nat → D} (w : Walk J n Gd (YPair xs ys)) (gd : ∀ M' r' h δ σ H, Le M M' → r <+: r' → BS G M' r' h δ σ H → Gd H)
    (rp : ∀ i x y, i < n → xs i = some x → ys i = some y → Rep G.J M r (as i) x ∧ Rep G.J M r (bs i) y) : Good G J M r ((List.range n).map fun i => .tup [as i, bs i]) := by
  refine ⟨Gd, _, by rw [List.length_map, List.length_range]; exact w, gd, fun i x H1 H2 M' r' h' δ' σ' hi le pr b' y => ?_⟩
  obtain ⟨T, u, v, rfl, hT, rfl, e1, e2⟩ := y
  rw [List.length_map, List.length_range] at hi
  obtain ⟨q1, q2⟩ := rp i u v hi e1 e2
  obtain ⟨b2, s2⟩ := b'.laid (o := .tup [u, v]) hT (by show 2 ≤ big; decide)
  refine ⟨_, .tup [as i, bs i], b2, s2, by rw [List.getElem?_map, List.getElem?_range hi]; rfl, T, [u, v], rfl, .inl updM_same, ?_⟩
  exact ⟨u, [v], rfl, Rep.mono (le.trans s2.le) (pr.trans s2.pre) _ _ q1, v, [], rfl, Rep.mono (le.trans s2.le) (pr.trans s2.pre) _ _ q2, rfl⟩
theorem walk_zipT {K : PySem.W.Frag} {a b : Addr} {xs ys : List V} {n : Nat} (hn : n = min xs.length ys.length) : Walk (ItzT K a b) n (fun H => SqT K H a xs ∧ SqT K H b ys) (YPair (fun i => xs[i]?) (fun i => ys[i]?)) := by
  subst hn
  refine ⟨fun i _ hi q => ⟨xs, ys, xs[i]'(by omega), ys[i]'(by omega), q.1, q.2, List.getElem?_eq_getElem _, List.getElem?_eq_getElem _⟩, fun _ q => ⟨xs, ys, q.1, q.2, by omega⟩, fun i H v H' _ q y => ?_⟩
  obtain ⟨T, x, y', e1, e2, e3, e4, e5⟩ := y
  exact ⟨T, x, y', e1, e2, e3, e4 xs q.1, e5 ys q.2⟩
def zipD (as bs : List D) : List D := (List.zip as bs).map fun p => .tup [p.1, p.2]
theorem zipD_eq (as bs : List D) : zipD as bs = (List.range (min as.length bs.length)).map fun i => .tup [as.getD i .non, bs.getD i .non] := by
  unfold zipD
  apply List.ext_getElem?
  intro i
  rw [List.getElem?_map, List.getElem?_map]
  by_cases hi : i < min as.length bs.length
  · rw [List.getElem?_range hi, List.getElem?_eq_getElem (by rw [List.length_zip]; exact hi), List.getElem_zip]
    have h1 : i < as.length := by omega
    have h2 : i < bs.length := by omega
    simp [List.getD_eq_getElem?_getD, h1, h2]
  · rw [List.getElem?_eq_none (by rw [List.length_zip]; omega), List.getElem?_eq_none (by rw [List.length_range]; omega)]
    rfl
def zipK (ds : List D) (h : Bx) : R (List D) := match ds with
  | [.lst as, .lst bs] => .ok (zipD as bs) h
  | [.tup as, .tup bs] => .ok (zipD as bs) h
  | _ => .bad
theorem reps_getD {J : Jd} {as : List D} {vs : List V} (t : Reps J M r as vs) {i : Nat} {x : V} (e : vs[i]? = some x) : Rep J M r (as.getD i .non) x := by
  have hl : i < as.length := by rw [← t.length]; exact (List.getElem?_eq_some_iff.mp e).1
  obtain ⟨v, e2, rp⟩ := t.get (List.getElem?_eq_getElem hl)
  rw [e] at e2; cases e2
  rw [List.getD_eq_getElem?_getD, List.getElem?_eq_getElem hl]
  exact rp
theorem evi_zip {a c : Expr} {p tpos : Pos} {elts : List Expr} {kk : Nat} (hg : Gl X "zip") (hm : X.mg "zip" = none) (ha : EvA X G W [a, c] fs) (hK : X.K = G.K)
    (hs : starEach [a, c] X.env = (false, eval a X.env) :: starEach [c] X.env := by rfl) (hpl : (backTo pos (starEach [c] X.env)).any (·.1) = false := by rfl) :
    EvI X G W (.Tuple elts kk tpos) (.Call (.Name "zip" p) [a, c] [] pos) (fun δ h => (fs δ h).bind zipK) := PI.imp (pi_zipA hg hm ha hs hpl) fun σ H Q q => by
  rw [hK]
  obtain ⟨M, r, h, δ, b, q⟩ := q
  refine ⟨M, r, h, δ, b, (AfterI.bind (rl := rVs G.J δ σ) q).more fun vs H1 ⟨ds, M1, r1, h1, s1, b1, rv, q1⟩ => ?_⟩
  unfold zipK at q1
  split at q1
  · rename_i as bs
    obtain ⟨v, vt, rfl, e1, v2, vt2, rfl, e2, e3⟩ := rv
    cases e3
    obtain ⟨x, us, rfl, m1, t1⟩ := e1
    obtain ⟨y, ws, rfl, m2, t2⟩ := e2
    refine ⟨x, y, us, ws, rfl, .inl ⟨.inl (.inl (b1.mok _ _ m1).2), .inl (.inl (b1.mok _ _ m2).2), q1 _ M1 r1 H1 Stp.refl b1 ?_⟩⟩
    rw [zipD_eq]
    refine good_pair (walk_zip (xs := us) (ys := ws) (by rw [t1.length, t2.length])) (fun M' r' h δ σ H le pr b' => ⟨.inl (.inl (b'.mok _ _ (le _ _ m1)).2), .inl (.inl (b'.mok _ _ (le _ _ m2)).2)⟩) fun i x y _ e1 e2 => ⟨reps_getD t1 e1, reps_getD t2 e2⟩
  · rename_i as bs
    obtain ⟨v, vt, rfl, e1, v2, vt2, rfl, e2, e3⟩ := rv
    cases e3
    obtain ⟨x, us, rfl, m1, t1⟩ := e1
    obtain ⟨y, ws, rfl, m2, t2⟩ := e2
    refine ⟨x, y, us, ws, rfl, .inr ⟨sqT_of b1 m1, sqT_of b1 m2, q1 _ M1 r1 H1 Stp.refl b1 ?_⟩⟩
    rw [zipD_eq]
    refine good_pair (walk_zipT (xs := us) (ys := ws) (by rw [t1.length, t2.length])) (fun M' r' h δ σ H le pr b' => ⟨sqT_of b' (m1.imp (le _ _) id), sqT_of b' (m2.imp (le _ _) id)⟩) fun i x y _ e1 e2 => ⟨reps_getD t1 e1, reps_getD t2 e2⟩
  · exact q1.elim
/-! ### targets -/
/-- the slots ts take what u says -/
def tGt (G : Cfg) (ts : List Nat) (u : D → DE → Option DE) : TG := fun v σ H Q => ∃ M r h δ d δ', BS G M r h δ σ H ∧ Rep G.J M r d v ∧ u d δ = some δ' ∧
  ∀ σ', BS G M r h δ' σ' H → σ'.length = σ.length → (∀ i, i ∉ ts → σ'[i]? = σ[i]?) → Q σ' H
def EvG (X : Cx) (G : Cfg) (tg : Expr) (ts : List Nat) (u : D → DE → Option DE) : Prop := PG X tg (tGt G ts u)
theorem PG.imp {t t' : TG} (p : PG X tg t) (f : ∀ v σ H Q, t' v σ H Q → t v σ H Q) : PG X tg t' := ⟨fun pins s σ H v u Q I r h => p.run pins s σ H v u Q I r (f v σ H Q h)⟩
theorem PGs.imp {tgs : List Expr} {t t' : TGs} (p : PGs X tgs t) (f : ∀ v σ H Q, t' v σ H Q → t v σ H Q) : PGs X tgs t' := ⟨fun pins s σ H v u Q I r h => p.run pins s σ H v u Q I r (f v σ H Q h)⟩
def nameU (i : Nat) (d : D) (δ : DE) : Option DE := some (δ.set i (.v d))
theorem evg_name {i : Nat} {x : Str} (hN : X.N.Nodup) (hi : X.N[i]? = some x) (hx : Loc X.env.scope x) (hf : X.fn x = true ∨ X.env.scope.names.lookup x = some .local := by first | exact .inl rfl | exact .inr rfl | assumption) :
    EvG X G (.Name x pos) [i] (nameU i) := PG.imp (pg_name hN hi hx hf) fun v σ H Q q => by
  obtain ⟨M, r, h, δ, d, δ', b, rv, e, q⟩ := q
  cases e
  refine q _ (b.put rv) (by rw [List.length_set]) fun j hj => ?_
  rw [List.getElem?_set_ne (fun z => hj (by simp [z]))]
def tGts (G : Cfg) (ts : List Nat) (u : List D → DE → Option DE) : TGs := fun vs σ H Q => ∃ M r h δ ds δ', BS G M r h δ σ H ∧ Reps G.J M r ds vs ∧ u ds δ = some δ' ∧
  ∀ σ', BS G M r h δ' σ' H → σ'.length = σ.length → (∀ i, i ∉ ts → σ'[i]? = σ[i]?) → Q σ' H
def EvGs (X : Cx) (G : Cfg) (tgs : List Expr) (ts : List Nat) (u : List D → DE → Option DE) : Prop := PGs X tgs (tGts G ts u)
def nilU (ds : List D) (δ : DE) : Option DE := match ds with
  | [] => some δ
  | _ => none
def consU (u : D → DE → Option DE) (us : List D → DE → Option DE) (ds : List D) (δ : DE) : Option DE := match ds with
  | d :: ds => (u d δ).bind fun δ' => us ds δ'
  | [] => none
theorem evgs_nil : EvGs X G [] [] nilU := PGs.imp pgs_nil fun vs σ H Q q => by
  obtain ⟨M, r, h, δ, ds, δ', b, rv, e, q⟩ := q
  cases ds with
  | nil => cases rv; cases e; exact ⟨rfl, q σ b rfl fun _ _ => rfl⟩
  | cons d ds => cases e
theorem evgs_cons {tgs : List Expr} {ts1 ts2 : List Nat} {u : D → DE → Option DE} {us : List D → DE → Option DE} (p : EvG X G tg ts1 u) (ps : EvGs X G tgs ts2 us)
    (hs : (assignEach (tg :: tgs) X.env).map (·.2) = assign tg X.env :: (assignEach tgs X.env).map (·.2) := by rfl) : EvGs X G (tg :: tgs) (ts1 ++ ts2) (consU u us) := PGs.imp (pgs_cons p ps hs) fun vs σ H Q q => by
  obtain ⟨M, r, h, δ, ds, δ', b, rv, e, q⟩ := q
  cases ds with
  | nil => cases e
  | cons d ds =>
    obtain ⟨v, vt, rfl, e1, e2⟩ := rv
    unfold consU at e
    cases z : u d δ with
    | none => simp only [z] at e; cases e
    | some δ1 =>
      simp only [z, Option.bind_some] at e
      refine ⟨v, vt, rfl, M, r, h, δ, d, δ1, b, e1, z, fun σ1 b1 l1 k1 => ⟨M, r, h, δ1, ds, δ', b1, e2, e, fun σ2 b2 l2 k2 => q σ2 b2 (l2.trans l1) fun i hi => ?_⟩⟩
      rw [List.mem_append] at hi
      rw [k2 i (fun z => hi (.inr z)), k1 i (fun z => hi (.inl z))]
def tupU (n : Nat) (us : List D → DE → Option DE) (d : D) (δ : DE) : Option DE := match d with
  | .tup ds => if ds.length = n then us ds δ else none
  | _ => none
theorem evg_tup {es : List Expr} {k : Nat} {n : Nat} {ts : List Nat} {us : List D → DE → Option DE} (hc : X.calm = true) (p : EvGs X G es ts us) (hK : X.K = G.K)
    (hn : (assignEach es X.env).length = n := by rfl) (hst : (assignEach es X.env).findIdx? (·.1) = none := by rfl) : EvG X G (.Tuple es k pos) ts (tupU n us) := PG.imp (pg_tup hc p hn hst) fun v σ H Q q => by
  rw [hK]
  obtain ⟨M, r, h, δ, d, δ', b, rv, e, q⟩ := q
  cases d with
  | tup ds =>
    obtain ⟨a, vs, rfl, m, t⟩ := rv
    unfold tupU at e
    simp only at e
    split at e
    · rename_i z
      exact ⟨a, vs, rfl, sqT_of b m, by rw [t.length]; exact z, M, r, h, δ, ds, δ', b, t, e, q⟩
    · cases e
  | _ => cases e
/-- target = value -/
def asgS (u : D → DE → Option DE) (f : EF) : SF := fun δ h => (f δ h).toS δ fun d h1 => if isV d = true then match u d δ with
  | some δ' => .nx δ' h1
  | none => .bad
  else .bad
theorem es_asg {ts : List Nat} {u : D → DE → Option DE} (he : Ev X G W e f) (hg : EvG X G tg ts u) (hs : swapsWithSole [tg] e pos.line X.env = pure false := by rfl) (hw : swappedStores [tg] e X.env = pure none := by rfl)
    (h1 : (assignEach [tg] X.env).map (·.2) = [assign tg X.env] := by rfl) : Es X G W (.Assign [tg] e pos) (asgS u f) := PS.imp (ps_asg he hg hs hw h1) fun E σ H q => by
  obtain ⟨M, r, h, δ, b, q⟩ := q
  refine ⟨M, r, h, δ, b, (AfterS.expr (rl := rV G.J) b q).more fun v H1 ⟨d, M1, r1, h1, s1, b1, rv, q1⟩ => ?_⟩
  have main : ∀ {rp : Rep G.J M1 r1 d v}, AfterS G W M1 r1 (match u d δ with | some δ' => .nx δ' h1 | none => .bad) E → tGt G ts u v σ H1 E.nx := fun {rp} q1 => by
    cases z : u d δ with
    | none => rw [z] at q1; exact q1.elim
    | some δ' =>
      rw [z] at q1
      exact ⟨M1, r1, h1, δ, d, δ', b1, rp, z, fun σ' b' _ _ => q1.nxt b'⟩
  cases d with
  | loc i => exact q1.elim
  | _ => exact main (rp := rv) q1
/-! ### for -/
def forF (u : D → DE → Option DE) (body : SF) : List D → SF
  | [], δ, h => .nx δ h
  | d :: ds, δ, h => match u d δ with
    | none => .bad
    | some δ1 => match body δ1 h with
      | .nx δ2 h2 => forF u body ds δ2 h2
      | .ct δ2 h2 => forF u body ds δ2 h2
      | .bk δ2 h2 => .nx δ2 h2
      | x => x
def forS (gi : DE → Bx → R (List D)) (u : D → DE → Option DE) (body : SF) : SF := fun δ h => (gi δ h).toS δ fun ds h1 => forF u body ds δ h1
theorem es_for {iter : Expr} {body : List Stmt} {gi : DE → Bx → R (List D)} {ts : List Nat} {u : D → DE → Option DE} {sf : SF} (hp : PassesOwn (model X.prog X.w) X.A X.env X.xe) (hc : X.calm = true)
    (hi : EvI X G W tg iter gi) (hg : EvG X G tg ts u) (hb : Ess X G W body sf) (hs : ∀ x, foldedSetIterable iter X.env x = pure x := by intro _; rfl) :
    Es X G W (.For tg iter body [] pos) (forS gi u sf) := PS.imp (ps_for hp hc hi hg hb hs) fun E σ H q => by
  obtain ⟨M, r, h, δ, b, q⟩ := q
  refine ⟨M, r, h, δ, b, ?_⟩
  unfold forS at q
  cases z : gi δ h with
  | bad => rw [z] at q; exact q.elim
  | exc c fs h1 => rw [z] at q; exact fun C dd M' r' H' m s b e => q C dd M' r' σ H' m s.le s.pre b e
  | ok ds h1 =>
    rw [z] at q
    simp only [R.toS_ok] at q
    intro J M' r' H' st b' gd
    obtain ⟨Gd, Y, w, gd, yd⟩ := gd
    refine for_it w (fun i σ1 H1 => ∃ M1 r1 h2 δ1, Le M' M1 ∧ r' <+: r1 ∧ BS G M1 r1 h2 δ1 σ1 H1 ∧ AfterS G W M1 r1 (forF u sf (ds.drop i) δ1 h2) E) ⟨M', r', h1, δ, Le.refl, List.prefix_rfl, b', AfterS.from st.le st.pre q⟩
      (fun i σ1 H1 _ ⟨M1, r1, h2, δ1, le, pr, b1, _⟩ => gd M1 r1 h2 δ1 σ1 H1 le pr b1) (fun i x σ1 H1 H2 hi ⟨M1, r1, h2, δ1, le, pr, b1, q1⟩ y => ?_)
      (fun σ1 H1 ⟨M1, r1, h2, δ1, le, pr, b1, q1⟩ => by rw [List.drop_length] at q1; exact q1.nxt b1)
    obtain ⟨M2, d, b2, s2, e2, rp⟩ := yd i x H1 H2 M1 r1 h2 δ1 σ1 hi le pr b1 y
    rw [List.drop_eq_getElem_cons hi] at q1
    rw [List.getElem?_eq_getElem hi] at e2
    have e3 := Option.some.inj e2
    rw [e3] at q1
    unfold forF at q1
    cases z1 : u d δ1 with
    | none => rw [z1] at q1; exact q1.elim
    | some δ2 =>
      rw [z1] at q1
      simp only at q1
      refine ⟨M2, r1, h2, δ1, d, δ2, b2, rp, z1, fun σ2 b3 _ _ => ⟨M2, r1, h2, δ2, b3, ?_⟩⟩
      have q1 := AfterS.from s2.le List.prefix_rfl q1
      show AfterS G W M2 r1 (sf δ2 h2) _
      cases y1 : sf δ2 h2 with
      | nx δ3 h3 => rw [y1] at q1; exact fun M3 r3 σ3 H3 le3 pr3 b4 => ⟨M3, r3, h3, δ3, (le.trans s2.le).trans le3, pr.trans pr3, b4, AfterS.from le3 pr3 q1⟩
      | ct δ3 h3 => rw [y1] at q1; exact fun M3 r3 σ3 H3 le3 pr3 b4 => ⟨M3, r3, h3, δ3, (le.trans s2.le).trans le3, pr.trans pr3, b4, AfterS.from le3 pr3 q1⟩
      | bk δ3 h3 => rw [y1] at q1; exact q1
      | rt d h => rw [y1] at q1; exact q1
      | exc c fs δ3 h3 => rw [y1] at q1; exact q1
      | bad => rw [y1] at q1; exact q1
/-! ### while: at most n turns -/
def whileF (tf : DE → Bx → R Bool) (body : SF) : Nat → SF
  | 0, _, _ => .bad
  | n + 1, δ, h => (tf δ h).toS δ fun b h1 => if b = true then (match body δ h1 with
      | .nx δ2 h2 => whileF tf body n δ2 h2
      | .ct δ2 h2 => whileF tf body n δ2 h2
      | .bk δ2 h2 => .nx δ2 h2
      | x => x)
    else .nx δ h1
theorem es_while (n : Nat) {body : List Stmt} {tf : DE → Bx → R Bool} {sf : SF} (hp : PassesOwn (model X.prog X.w) X.A X.env X.xe) (hc : EvT X G W c tf) (hb : Ess X G W body sf) : Es X G W (.While c body [] pos) (whileF tf sf n) :=
  PS.imp (ps_while hp hc hb) fun E σ H q => by
    obtain ⟨M, r, h, δ, b, q⟩ := q
    refine ⟨fun m σ1 H1 => ∃ M1 r1 h1 δ1, BS G M1 r1 h1 δ1 σ1 H1 ∧ AfterS G W M1 r1 (whileF tf sf m δ1 h1) E, ⟨n, M, r, h, δ, b, q⟩, ?_⟩
    rintro m σ1 H1 ⟨M1, r1, h1, δ1, b1, q1⟩
    cases m with
    | zero => exact q1.elim
    | succ m =>
      unfold whileF at q1
      refine ⟨M1, r1, h1, δ1, b1, (AfterS.expr (rl := rB) b1 q1).more fun v H2 ⟨d, M2, r2, h2, s2, b2, rv, q2⟩ => ?_⟩
      cases rv
      cases v with
      | false => exact q2.nxt b2
      | true =>
        refine ⟨fun σ' H' => ∃ M1 r1 h1 δ1, BS G M1 r1 h1 δ1 σ' H' ∧ AfterS G W M1 r1 (whileF tf sf m δ1 h1) E, fun σ' H' z => ⟨m, Nat.lt_succ_self m, z⟩, M2, r2, h2, δ1, b2, ?_⟩
        simp only [if_true] at q2
        show AfterS G W M2 r2 (sf δ1 h2) _
        cases y1 : sf δ1 h2 with
        | nx δ3 h3 => rw [y1] at q2; exact fun M3 r3 σ3 H3 le3 pr3 b4 => ⟨M3, r3, h3, δ3, b4, AfterS.from le3 pr3 q2⟩
        | ct δ3 h3 => rw [y1] at q2; exact fun M3 r3 σ3 H3 le3 pr3 b4 => ⟨M3, r3, h3, δ3, b4, AfterS.from le3 pr3 q2⟩
        | bk δ3 h3 => rw [y1] at q2; exact q2
        | rt d h => rw [y1] at q2; exact q2
        | exc c fs δ3 h3 => rw [y1] at q2; exact q2
        | bad => rw [y1] at q2; exact q2
/-! ### comprehensions -/
abbrev W0 : WX := fun _ _ _ _ => False
theorem takes0 {X : Cx} : Takes X W0 := takes_none5
def EvTs (X : Cx) (G : Cfg) (W : WX) (ifs : List Expr) (tf : DE → Bx → R Bool) : Prop := PTs X ifs (tG G W rB tf)
theorem PTs.imp {ifs : List Expr} {t t' : TT} (p : PTs X ifs t) (f : ∀ σ H Q, t' σ H Q → t σ H Q) : PTs X ifs t' := ⟨fun pins s σ H Q I h => p.run pins s σ H Q I (f σ H Q h)⟩
def yesF : DE → Bx → R Bool := fun _ h => .ok true h
theorem evts_nil : EvTs X G W [] yesF := PTs.imp pts_nil fun σ H Q q => by
  obtain ⟨M, r, h, δ, b, q⟩ := q
  exact q.now b rfl
theorem evts_one {tf : DE → Bx → R Bool} (p : EvT X G W c tf) : EvTs X G W [c] tf := pts_one p
def wipeD (δ : DE) : List Nat → DE
  | [] => δ
  | v :: vs => (wipeD δ vs).set v .no
theorem wipeD_length (δ : DE) : ∀ vs : List Nat, (wipeD δ vs).length = δ.length
  | [] => rfl
  | v :: vs => by unfold wipeD; rw [List.length_set, wipeD_length δ vs]
theorem BS.wipe (b : BS G M r h δ σ H) : ∀ vs : List Nat, BS G M r h (wipeD δ vs) (L2.wipe σ vs) H
  | [] => b
  | v :: vs => by
    have b1 := BS.wipe b vs
    have b2 := b1.drop v
    refine b2.weak (by show (List.set _ v none).length = (List.set _ v SV.no).length; rw [List.length_set, List.length_set, b1.len]) fun i s e => ?_
    by_cases hv : v = i
    · subst hv
      by_cases hi : v < (wipeD δ vs).length
      · have e : ((wipeD δ vs).set v .no)[v]? = some s := e
        rw [List.getElem?_set_self hi] at e
        cases e; exact .inl rfl
      · have e : ((wipeD δ vs).set v .no)[v]? = some s := e
        rw [List.getElem?_eq_none (by rw [List.length_set]; omega)] at e; cases e
    · refine .inr ⟨e, ?_⟩
      show ((L2.wipe σ vs).set v none)[i]? = _
      rw [List.getElem?_set_ne hv]
theorem wipe_get (σ : L2.St) : ∀ (vs : List Nat) (i : Nat), (L2.wipe σ vs)[i]? = if i ∈ vs then (σ[i]?).map fun _ => none else σ[i]?
  | [], i => by simp [L2.wipe]
  | v :: vs, i => by
    show ((L2.wipe σ vs).set v none)[i]? = _
    by_cases hv : v = i
    · subst hv
      rw [if_pos (List.mem_cons_self ..)]
      by_cases hi : v < σ.length
      · rw [List.getElem?_set_self (by rw [wipe_length]; exact hi), List.getElem?_eq_getElem hi]; rfl
      · rw [List.getElem?_eq_none (by rw [List.length_set, wipe_length]; omega), List.getElem?_eq_none (by omega)]; rfl
    · rw [List.getElem?_set_ne hv, wipe_get σ vs i]
      have : (i ∈ v :: vs) ↔ i ∈ vs := by
        rw [List.mem_cons]
        exact ⟨fun z => z.resolve_left fun y => hv y.symm, .inr⟩
      by_cases hm : i ∈ vs
      · rw [if_pos hm, if_pos (this.mpr hm)]
      · rw [if_neg hm, if_neg (fun z => hm (this.mp z))]
theorem wipe_ext {σ σ' : L2.St} {vs : List Nat} (hl : σ'.length = σ.length) (hk : ∀ i, i ∉ vs → σ'[i]? = σ[i]?) : L2.wipe σ' vs = L2.wipe σ vs := by
  apply List.ext_getElem?
  intro i
  rw [wipe_get, wipe_get]
  split
  · by_cases hi : i < σ.length
    · rw [List.getElem?_eq_getElem hi, List.getElem?_eq_getElem (by omega)]; rfl
    · rw [List.getElem?_eq_none (by omega), List.getElem?_eq_none (by omega)]
  · rename_i n
    exact hk i n
theorem wipe_wipe (σ : L2.St) (vs : List Nat) : L2.wipe (L2.wipe σ vs) vs = L2.wipe σ vs :=
  wipe_ext (wipe_length _ _) fun i hi => by rw [wipe_get, if_neg hi]
def quiet {α : Type} (x : R α) : R α := match x with
  | .exc _ _ _ => .bad
  | x => x
def compF (u : D → DE → Option DE) (tf : DE → Bx → R Bool) (ef : EF) (δ : DE) : List D → Bx → R (List D)
  | [], h => .ok [] h
  | d :: ds, h => match u d δ with
    | none => .bad
    | some δ1 => (quiet (tf δ1 h)).bind fun b h1 => if b = true then (quiet (ef δ1 h1)).bind fun y h2 => if isV y = true then (compF u tf ef δ ds h2).bind fun ys h3 => .ok (y :: ys) h3 else .bad
      else compF u tf ef δ ds h1
theorem compF_exc {u : D → DE → Option DE} {tf : DE → Bx → R Bool} {ef : EF} {δ : DE} {c : Str} {fs : List (Str × D)} {h' : Bx} : ∀ (ds : List D) (h : Bx), compF u tf ef δ ds h ≠ .exc c fs h'
  | [], h => fun e => nomatch e
  | d :: ds, h => by
    unfold compF
    cases u d δ with
    | none => exact fun e => nomatch e
    | some δ1 =>
      simp only
      cases tf δ1 h with
      | exc _ _ _ => exact fun e => nomatch e
      | bad => exact fun e => nomatch e
      | ok b h1 =>
        simp only [quiet, R.bind_ok]
        split
        · cases ef δ1 h1 with
          | exc _ _ _ => exact fun e => nomatch e
          | bad => exact fun e => nomatch e
          | ok y h2 =>
            simp only [R.bind_ok]
            split
            · have := compF_exc (u := u) (tf := tf) (ef := ef) (δ := δ) (c := c) (fs := fs) (h' := h') ds h2
              cases z : compF u tf ef δ ds h2 with
              | exc c' fs' h'' => exact fun e => by simp only [R.bind_exc] at e; cases e; exact this z
              | bad => exact fun e => nomatch e
              | ok ys h3 => exact fun e => nomatch e
            · exact fun e => nomatch e
        · exact compF_exc ds h1
/-- the answers of the rest, whatever stands ahead -/
def lcN (gi : DE → Bx → R (List D)) (vs : List Nat) (u : D → DE → Option DE) (tf : DE → Bx → R Bool) (ef : EF) : DE → Bx → R (List D) := fun δ h => (gi δ h).bind fun ds h1 => if ds.length ≤ big then compF u tf ef (wipeD δ vs) ds h1 else .bad
theorem After.quiet {α β : Type} {rl : Rl α β} {x : R α} {Q : β → Hp → Prop} (q : After G W σ δ rl M r H (LP.quiet x) Q) : After G W0 σ δ rl M r H x Q := by
  cases x with
  | ok d h => exact q
  | exc c fs h => exact q.elim
  | bad => exact q
def LcEnd (x : R (List D)) (P : List D → Bx → Prop) : Prop := match x with
  | .ok ys h => P ys h
  | _ => False
theorem lc_of {gi : DE → Bx → R (List D)} {ts vs : List Nat} {u : D → DE → Option DE} {tf : DE → Bx → R Bool} {ef : EF} (hts : ∀ i ∈ ts, i ∈ vs) {Q : VK} (q : tN G W (lcN gi vs u tf ef) σ H Q) :
    tLc (tI G W gi) (tGt G ts u) (tG G W0 rB tf) (tG G W0 (rV G.J) ef) vs σ H Q := by
  obtain ⟨M, r, h, δ, b, q⟩ := q
  refine ⟨M, r, h, δ, b, ?_⟩
  unfold lcN at q
  cases z : gi δ h with
  | bad => rw [z] at q; exact q.elim
  | exc c fs h1 => rw [z] at q; exact q
  | ok ds h1 =>
    rw [z] at q
    simp only [R.bind_ok] at q
    split at q
    · rename_i hz
      intro J M' r' H' st b' gd Dd hD
      obtain ⟨Gd, Y, w, gd, yd⟩ := gd
      have f0 : Free G.H0 Dd := b'.free0 hD
      have no : NoOwn (wipeD δ vs) (L2.wipe σ vs) Dd := (b'.wipe vs).noOwn hD
      have noσ : NoOwn δ σ Dd := b'.noOwn hD
      -- what holds between two turns
      let Pv : Nat → Hp → Prop := fun i H1 => ∃ M1 r1 h2 acc va, Stp M' r' H' M1 r1 H1 ∧ BS G M1 r1 h2 (wipeD δ vs) (L2.wipe σ vs) H1 ∧ H1 Dd = some (.lst va) ∧ M1 Dd = none ∧ Dd ∉ r1 ∧ Reps G.J M1 r1 acc va ∧ acc.length ≤ i ∧
        LcEnd (compF u tf ef (wipeD δ vs) (ds.drop i) h2) fun ys h3 => AfterN G W σ δ M r H (.ok (acc ++ ys) h3) Q
      have hst : Stp M' r' H' M' r' (upd H' Dd (.lst [])) := ⟨Le.refl, List.prefix_rfl, fun a z => .inl z, fun a o e _ _ => upd_new hD e, fun a m _ _ => m⟩
      refine lc_it w Pv ⟨M', r', h1, [], [], hst, (b'.wipe vs).new_list hD, upd_same, b'.fresh_M hD, b'.fresh_r hD, rfl, Nat.zero_le _, ?_⟩
        (fun i H1 _ ⟨M1, r1, h2, acc, va, s1, b1, _⟩ => gd M1 r1 h2 _ _ H1 s1.le s1.pre b1) (fun i x H1 H2 hi ⟨M1, r1, h2, acc, va, s1, b1, e1, m1, n1, t1, l1, q1⟩ y => ?_) (fun H1 ⟨M1, r1, h2, acc, va, s1, b1, e1, m1, n1, t1, l1, q1⟩ => ?_)
      · rw [List.drop_zero]
        cases y : compF u tf ef (wipeD δ vs) ds h1 with
        | ok ys h3 => rw [y] at q; exact q
        | exc c fs h3 => exact (compF_exc _ _ y).elim
        | bad => rw [y] at q; exact q
      · -- one turn
        obtain ⟨M2, d, b2, s2, e2, rp⟩ := yd i x H1 H2 M1 r1 h2 _ _ hi s1.le s1.pre b1 y
        rw [List.drop_eq_getElem_cons hi] at q1
        rw [List.getElem?_eq_getElem hi] at e2
        rw [Option.some.inj e2] at q1
        unfold compF at q1
        cases z1 : u d (wipeD δ vs) with
        | none => rw [z1] at q1; exact q1.elim
        | some δ2 =>
          rw [z1] at q1
          simp only at q1
          have nf : ∀ {Hx : Hp}, Hx Dd = some (.lst va) → IsL Hx Dd := fun e => ⟨_, e⟩
          have mD : ∀ {Ma ra Ha Mb rb Hb}, Stp Ma ra Ha Mb rb Hb → Ha Dd = some (.lst va) → Ma Dd = none → Dd ∉ ra → Hb Dd = some (.lst va) ∧ Mb Dd = none ∧ Dd ∉ rb := fun s e m n =>
            ⟨s.keep _ _ e (fun ps z => by cases z) n, s.nf _ m (nf e) n, fun z => (s.new _ z).elim n (nf e).nf⟩
          obtain ⟨e3, m3, n3⟩ := mD s2 e1 m1 n1
          refine ⟨M2, r1, h2, _, d, δ2, b2, rp, z1, fun σ2 b3 l3 k3 => ⟨?_, M2, r1, h2, δ2, b3, ?_⟩⟩
          · rw [← wipe_wipe σ vs]
            exact wipe_ext l3 fun j hj => k3 j fun z => hj (hts j z)
          · -- the test
            cases y1 : tf δ2 h2 with
            | exc c fs h3 => rw [y1] at q1; exact q1.elim
            | bad => rw [y1] at q1; exact q1.elim
            | ok bb h3 =>
              rw [y1] at q1
              simp only [quiet, R.bind_ok] at q1
              intro bv M4 r4 H4 s4 b4 ev
              cases ev
              obtain ⟨e5, m5, n5⟩ := mD s4 e3 m3 n3
              have b4w : BS G M4 r4 h3 (wipeD δ vs) (L2.wipe σ vs) H4 := b2.step s4 b4
              cases bb with
              | false =>
                simp only [Bool.false_eq_true, if_false] at q1 ⊢
                exact ⟨M4, r4, h3, acc, va, s1.trans (s2.trans s4), b4w, e5, m5, n5, Reps.mono (s2.trans s4).le (s2.trans s4).pre _ _ t1, by omega, q1⟩
              | true =>
                simp only [if_true] at q1 ⊢
                refine ⟨M4, r4, h3, δ2, b4, ?_⟩
                cases y2 : ef δ2 h3 with
                | exc c fs h5 => rw [y2] at q1; exact q1.elim
                | bad => rw [y2] at q1; exact q1.elim
                | ok yd h5 =>
                  rw [y2] at q1
                  simp only [R.bind_ok] at q1
                  by_cases hv : isV yd = true
                  · rw [if_pos hv] at q1
                    intro yv M6 r6 H6 s6 b6 rv
                    obtain ⟨e7, m7, n7⟩ := mD s6 e5 m5 n5
                    have b6w : BS G M6 r6 h5 (wipeD δ vs) (L2.wipe σ vs) H6 := b4w.step s6 b6
                    have st6 := s2.trans (s4.trans s6)
                    have rv' : Rep G.J M6 r6 yd yv := by
                      cases yd with
                      | loc i => cases hv
                      | _ => exact rv
                    have la : va.length = acc.length := t1.length
                    have hl : acc.length < ds.length := by omega
                    refine ⟨va, e7, by rw [la]; exact big_lt (by omega), M6, r6, h5, acc ++ [yd], va ++ [yv], ?_, b6w.wrote m7 n7 f0 no e7, upd_same, m7, n7, (Reps.mono st6.le st6.pre _ _ t1).append (Reps.one rv'), by rw [List.length_append]; simp; omega, ?_⟩
                    · have s0 := s1.trans st6
                      refine ⟨s0.le, s0.pre, s0.new, fun a o e t n => ?_, s0.nf⟩
                      rw [upd_ne (ne_of_none e hD)]
                      exact s0.keep a o e t n
                    · cases y3 : compF u tf ef (wipeD δ vs) (ds.drop (i + 1)) h5 with
                      | exc c fs h7 => rw [y3] at q1; exact q1.elim
                      | bad => rw [y3] at q1; exact q1.elim
                      | ok ys h7 =>
                        rw [y3] at q1
                        simp only [R.bind_ok] at q1
                        show AfterN G W σ δ M r H (.ok ((acc ++ [yd]) ++ ys) h7) Q
                        rw [List.append_assoc]
                        exact q1
                  · rw [if_neg hv] at q1
                    exact q1.elim
      · -- behind all
        rw [List.drop_length] at q1
        have q1 : AfterN G W σ δ M r H (.ok (acc ++ []) h2) Q := q1
        rw [List.append_nil] at q1
        have s2 := st.trans s1
        have b2 := (b'.step s1 b1).erase m1 n1 f0 noσ e1
        have z := q1 va M1 r1 _ Dd ⟨s2.le, s2.pre, s2.new, fun a o e t n => ?_, s2.nf⟩ b2 t1 (Nat.le_trans l1 hz) (if_pos rfl)
        · have : upd (fun c => if c = Dd then none else H1 c) Dd (.lst va) = H1 := by
            funext c
            unfold upd
            by_cases hc : c = Dd
            · subst hc; rw [if_pos rfl, e1]
            · rw [if_neg hc]; exact if_neg hc
          rw [this] at z
          exact z
        · have ne : a ≠ Dd := fun y => by
            subst y
            have := st.keep a o e t n
            rw [hD] at this; cases this
          show (if a = Dd then none else H1 a) = _
          rw [if_neg ne]
          exact s2.keep a o e t n
    · exact q.elim
theorem evn_lc {elt iter : Expr} {ifs : List Expr} {scope : Scope} {own : List (Str × Nat)} {gi : DE → Bx → R (List D)} {ts : List Nat} {u : D → DE → Option DE} {tf : DE → Bx → R Bool} {ef : EF} (hc : X.calm = true) (hN : X.N.Nodup)
    (hi : EvI X G W tg iter gi) (ok : BlkOk X.N X.env.scope scope own) (hts : ∀ i ∈ ts, i ∈ own.map (·.2))
    (hg : ∀ (s : Shared) (H : Hp) (C : Addr) (cl : List (Str × Addr)) (fp : List Addr), EvG (X.blk s H scope (compEnvC scope cl C X.env) fp) G tg ts u) (ht : ∀ (s : Shared) (H : Hp) (C : Addr) (cl : List (Str × Addr)) (fp : List Addr), EvTs (X.blk s H scope (compEnvC scope cl C X.env) fp) G W0 ifs tf)
    (he : ∀ (s : Shared) (H : Hp) (C : Addr) (cl : List (Str × Addr)) (fp : List Addr), Ev (X.blk s H scope (compEnvC scope cl C X.env) fp) G W0 elt ef) (hs : ∀ x, foldedSetIterable iter X.env x = pure x := by intro _; rfl) :
    EvN X G W (.ListComp elt [⟨tg, iter, ifs, 0⟩] scope pos) (lcN gi (own.map (·.2)) u tf ef) := PE.imp (pe_lc hc hN hi ok hg ht he hs) fun σ H Q q => lc_of hts q
end
end LP
/-! LpF: defs and their calls; built-ins; methods that write. -/
namespace LP
open PySem PySem.Spec PyProof.Rows L2
section
variable {X : Cx} {G : Cfg} {W : WX} {σ : L2.St} {δ : DE} {M M' M1 M2 : Imm} {r r' r1 r2 : List Addr} {h h' h1 h2 : Bx} {H H' H1 H2 : Hp} {E : Ends}
variable {e c : Expr} {f g : EF} {tg : Expr} {fs : DE → Bx → R (List D)} {pos : Pos}
theorem BS.after (b : BS G M r h δ σ H) (s : Stp M r H M' r' H') (mok : MOk M' H') (bx : BxOk G.J M' r' h' H') (tb : LamX.Tabs G.T H') : BS G M' r' h' δ σ H' := by
  have nr : ∀ {a o}, G.H0 a = some o → (∀ ps, o ≠ .tbl ps) → a ∉ G.r0 → a ∉ r := fun e t n z => by
    rcases b.new _ z with y | y
    · exact n y
    · obtain ⟨ps, x⟩ := y _ e
      exact t ps x
  refine ⟨mok, bx, tb, b.len, fun i x o e1 e2 => ?_, b.sep, b.le.trans s.le, b.pre.trans s.pre, fun a ha => ?_, fun a o e t n => s.keep a o (b.keep a o e t n) t (nr e t n), fun a m f n => ?_⟩
  · refine (b.sl i x o e1 e2).mono s.le s.pre fun a vs m q n => ?_
    have nf : IsL H a := ⟨vs, q⟩
    exact ⟨s.nf a m nf n, fun z => (s.new a z).elim n nf.nf, s.keep a _ q (fun ps y => by cases y) n⟩
  · by_cases hr : a ∈ G.r0
    · exact .inl hr
    · rcases s.new a ha with z | z
      · exact b.new a z
      · exact .inr (z.back b.keep hr)
  · refine s.nf a (b.nf a m f n) (f.fwd b.keep n) fun z => ?_
    rcases b.new a z with y | y
    · exact n y
    · exact f.nf y
/-! ### what a def promises -/
def spF (K : PySem.W.Frag) (mg : Str → Option Value) (T : List (Addr × Str)) (n : Nat) (F : List D → Bx → R D) : Sp := fun vs H Q E => ∃ L M r h ds, vs.length = n ∧ MOk M H ∧ BxOk ⟨K, L, mg⟩ M r h H ∧ LamX.Tabs T H ∧ Reps ⟨K, L, mg⟩ M r ds vs ∧ match F ds h with
  | .ok d h' => ∀ v M' r' H', Stp M r H M' r' H' → MOk M' H' → BxOk ⟨K, L, mg⟩ M' r' h' H' → LamX.Tabs T H' → Rep ⟨K, L, mg⟩ M' r' d v → Q v H'
  | .exc c fs h' => ∀ C dd M' r' H', mg c = some (.ref C) → Stp M r H M' r' H' → MOk M' H' → BxOk ⟨K, L, mg⟩ M' r' h' H' → LamX.Tabs T H' → ExcAt ⟨K, L, mg⟩ M' r' H' fs dd → E (.ref C) dd H'
  | .bad => False
/-- a body's answer -/
def RS.fin (x : RS) : R D := match x with
  | .nx _ h => .ok .non h
  | .rt d h => .ok d h
  | .exc c fs _ h => .exc c fs h
  | _ => .bad
@[simp] theorem RS.fin_nx (δ : DE) (h : Bx) : (RS.nx δ h).fin = .ok .non h := pr rfl
@[simp] theorem RS.fin_rt (d : D) (h : Bx) : (RS.rt d h).fin = .ok d h := pr rfl
@[simp] theorem RS.fin_exc (c : Str) (fs : List (Str × D)) (δ : DE) (h : Bx) : (RS.exc c fs δ h).fin = .exc c fs h := pr rfl
def startD (n : Nat) (ds : List D) : DE := ds.map .v ++ List.replicate (n - ds.length) .no
def runF (n : Nat) (sf : SF) (ds : List D) (h : Bx) : R D := (sf (startD n ds) h).fin
theorem bs_start {K : PySem.W.Frag} {L : LamP} {mg : Str → Option Value} {T : List (Addr × Str)} {N : List Str} {ds : List D} {vs : List V} (mok : MOk M H) (bx : BxOk ⟨K, L, mg⟩ M r h H) (tb : LamX.Tabs T H) (t : Reps ⟨K, L, mg⟩ M r ds vs) :
    BS ⟨K, mg, T, M, r, H, L⟩ M r h (startD N.length ds) (L2.start N vs) H := by
  have own : ∀ {j : Nat} {es : List D}, (startD N.length ds)[j]? ≠ some (.own es) := fun {j es} e => by
    unfold startD at e
    by_cases hj : j < ds.length
    · rw [List.getElem?_append_left (by simpa using hj), List.getElem?_map, List.getElem?_eq_getElem hj] at e
      cases e
    · rw [List.getElem?_append_right (by simpa using hj), List.getElem?_replicate] at e
      split at e <;> cases e
  refine ⟨mok, bx, tb, ?_, fun i s o e1 e2 => ?_, fun i j ds es e1 _ _ => (own e1).elim, Le.refl, List.prefix_rfl, fun a ha => .inl ha, Keep.refl, fun a m _ _ => m⟩
  · unfold L2.start startD
    simp only [List.length_append, List.length_map, List.length_replicate, t.length]
  · unfold startD at e1
    unfold L2.start at e2
    by_cases hi : i < ds.length
    · rw [List.getElem?_append_left (by simpa using hi), List.getElem?_map, List.getElem?_eq_getElem hi] at e1
      cases e1
      rw [List.getElem?_append_left (by simpa [t.length] using hi), List.getElem?_map] at e2
      obtain ⟨v, ev, rp⟩ := t.get (List.getElem?_eq_getElem hi)
      rw [ev] at e2
      cases e2
      exact ⟨v, rfl, rp⟩
    · rw [List.getElem?_append_right (by simpa using hi), List.getElem?_replicate] at e1
      split at e1
      · cases e1; trivial
      · cases e1
/-- THE RULE for a def -/
theorem fn_ok {P : Program} {w : World} {K : PySem.W.Frag} {mg : Str → Option Value} {T : List (Addr × Str)} {base : Heap} {x qual : Str} {st : Stmt} {fa : Addr} {fd : FuncData} {N ps : List Str} {k : Nat} {sf : SF} (F : Fun K x qual st fa fd) (S : FnScope N ps (defScope st))
    (hb : ∀ (cdv : Value) (A : Around) (outer : List PySem.Env) (s : Shared) (H : Hp) (E : XK) (M : Imm) (r : List Addr) (L : LamP), Room k (A.deeper (envOfC qual (defScope st) s.heap.objs.size fa cdv)) →
      Ess (cxOf (L2.CX P w) P w K mg base N qual (defScope st) fa cdv A outer s H E) ⟨K, mg, T, M, r, H, L⟩ (fun c d _ H => E c d H) (defBody st) sf) :
    FnOk P w K mg base (L2.CX P w) (k + 1) fa fd ps (spF K mg T ps.length (runF N.length sf)) := by
  refine F.okX S (fun vs H Q E q => ?_) fun cdv A outer s H vs Q E hr q => ?_
  · obtain ⟨L, M, r, h, ds, e, _⟩ := q
    exact e
  · obtain ⟨L, M, r, h, ds, e, mok, bx, tb, t, q⟩ := q
    refine ⟨_, hb cdv A outer s H E M r L hr, M, r, h, _, bs_start mok bx tb t, ?_⟩
    unfold runF at q
    have st : ∀ {M' r' h' δ' σ' H'}, BS ⟨K, mg, T, M, r, H, L⟩ M' r' h' δ' σ' H' → Stp M r H M' r' H' := fun b => ⟨b.le, b.pre, b.new, b.keep, b.nf⟩
    cases z : sf (startD N.length ds) h with
    | nx δ h' => rw [z] at q; exact fun M' r' σ' H' _ _ b => q .non M' r' H' (st b) b.mok b.bx b.tb rfl
    | rt d h' => rw [z] at q; exact fun v M' r' δ' σ' H' _ _ b rv => q v M' r' H' (st b) b.mok b.bx b.tb rv
    | exc c fs δ h' => rw [z] at q; exact fun C dd M' r' σ' H' m _ _ b ea => q C dd M' r' H' m (st b) b.mok b.bx b.tb ea
    | bk δ h' => rw [z] at q; exact q.elim
    | ct δ h' => rw [z] at q; exact q.elim
    | bad => rw [z] at q; exact q.elim
/-- a def that is not asked -/
theorem fn_bad {P : Program} {w : World} {K : PySem.W.Frag} {mg : Str → Option Value} {T : List (Addr × Str)} {base : Heap} {CXT : CXT} {fa : Addr} {fd : FuncData} {ps : List Str} {k : Nat} : FnOk P w K mg base CXT k fa fd ps (spF K mg T ps.length fun _ _ => .bad) :=
  ⟨fun vs H Q E q => by obtain ⟨L, M, r, h, ds, e, _⟩ := q; exact e, fun A outer s H args us vs Q E _ _ _ _ q => by obtain ⟨L, M, r, h, ds, _, _, _, _, _, q⟩ := q; exact q.elim⟩
def callF (F : List D → Bx → R D) (fs : DE → Bx → R (List D)) : EF := fun δ h => (fs δ h).bind fun ds h1 => if ds.all isV = true then F ds h1 else .bad
theorem call_sp {n : Nat} {F : List D → Bx → R D} {vs : List V} {ds : List D} {Q : VK} (b : BS G M r h δ σ H) (rv : RepVs G.J M r δ σ ds vs) (hn : ∀ d h', F ds h = .ok d h' → ds.length = n) (hn2 : ∀ c fs h', F ds h = .exc c fs h' → ds.length = n)
    (q : After G W σ δ (rV G.J δ σ) M r H (if ds.all isV = true then F ds h else .bad) Q) : spF G.K G.mg G.T n F vs H Q (WE W σ) := by
  split at q
  · rename_i z
    have t := RepVs.reps rv z
    refine ⟨G.L, M, r, h, ds, ?_, b.mok, b.bx, b.tb, t, ?_⟩
    · rw [t.length]
      cases y : F ds h with
      | ok d h' => exact hn d h' y
      | exc c fs h' => exact hn2 c fs h' y
      | bad => rw [y] at q; exact q.elim
    · cases y : F ds h with
      | ok d h' =>
        rw [y] at q
        exact fun v M' r' H' s mok bx tb rp => q v M' r' H' s (b.after s mok bx tb) (rep_V rp)
      | exc c fs h' =>
        rw [y] at q
        exact fun C dd M' r' H' m s mok bx tb ea => q C dd M' r' H' m s (b.after s mok bx tb) ea
      | bad => rw [y] at q; exact q.elim
  · exact q.elim
/-- the number of the arguments is right -/
def nArgs (n : Nat) (F : List D → Bx → R D) : List D → Bx → R D := fun ds h => if ds.length = n then F ds h else .bad
theorem nArgs_eq {n : Nat} {F : List D → Bx → R D} {ds : List D} {h : Bx} (e : ds.length = n) : nArgs n F ds h = F ds h := if_pos e
theorem ev_call {k n : Nat} {fa : Addr} {fd : FuncData} {ps : List Str} {x : Str} {p : Pos} {es : List Expr} {F : List D → Bx → R D} (FF : FnOk X.prog X.w X.K X.mg X.base (L2.CX X.prog X.w) k fa fd ps (spF G.K G.mg G.T n F)) (hr : Room k X.A) (tk : Takes X W)
    (hg : Gl X x) (hm : X.mg x = some (.ref fa)) (hk : PySem.W.keepIn X.K (.ref fa) = true) (hb : Binds X.K fd ps [])
    (ha : EvA X G W (e :: es) fs) (hdb : (x == ("__debug__" : Str)) = false := by decide) (he : starEach (e :: es) X.env = (false, eval e X.env) :: starEach es X.env := by rfl) (hpl : (backTo pos (starEach es X.env)).any (·.1) = false := by rfl) :
    Ev X G W (.Call (.Name x p) (e :: es) [] pos) (callF (nArgs n F) fs) := PE.imp (pe_callS FF hr hg hm hk hb (fun σ => passAt tk σ) ha hdb he hpl) fun σ H Q q => by
  obtain ⟨M, r, h, δ, b, q⟩ := q
  refine ⟨M, r, h, δ, b, (After.bind q).more fun vs H1 ⟨ds, M1, r1, h1, s1, b1, rv, q1⟩ => ?_⟩
  by_cases z : ds.length = n
  · rw [nArgs_eq z] at q1
    exact call_sp b1 rv (fun _ _ _ => z) (fun _ _ _ _ => z) q1
  · exfalso
    unfold nArgs at q1
    rw [if_neg z] at q1
    split at q1 <;> exact q1
/-! ### built-ins -/
def CallK (G : Cfg) (W : WX) (rr : List V → Hp → VK → Prop) (k : List D → DE → Bx → R D) : Prop := ∀ (σ : L2.St) (δ : DE) (M : Imm) (r : List Addr) (h : Bx) (H : Hp) (vs : List V) (ds : List D) (Q : VK),
  BS G M r h δ σ H → RepVs G.J M r δ σ ds vs → After G W σ δ (rV G.J δ σ) M r H (k ds δ h) Q → rr vs H Q
def blt (k : List D → DE → Bx → R D) (fs : DE → Bx → R (List D)) : EF := fun δ h => (fs δ h).bind fun ds h1 => k ds δ h1
theorem tCB_of {rr : List V → Hp → VK → Prop} {k : List D → DE → Bx → R D} (hk : CallK G W rr k) {Q : VK} (q : tG G W (rV G.J) (blt k fs) σ H Q) : tCB rr (tG G W (rVs G.J) fs) σ H Q := by
  obtain ⟨M, r, h, δ, b, q⟩ := q
  exact ⟨M, r, h, δ, b, (After.bind q).more fun vs H1 ⟨ds, M1, r1, h1, s1, b1, rv, q1⟩ => hk σ δ M1 r1 h1 H1 vs ds Q b1 rv q1⟩
variable {rr : List V → Hp → VK → Prop} {k : List D → DE → Bx → R D} {bid T : String} {x : Str} {p : Pos} {es : List Expr}
theorem ev_callB (hc : CallR X (.builtin bid) rr) (hk : CallK G W rr k) (hg : Gl X x) (hm : X.mg x = none) (hv : bootBuiltins x = some (.builtin bid)) (ha : EvA X G W (e :: es) fs) (hn : x ≠ "__name__" := by decide) (hdb : (x == ("__debug__" : Str)) = false := by decide)
    (he : starEach (e :: es) X.env = (false, eval e X.env) :: starEach es X.env := by rfl) (hpl : (backTo pos (starEach es X.env)).any (·.1) = false := by rfl) : Ev X G W (.Call (.Name x p) (e :: es) [] pos) (blt k fs) :=
  PE.imp (pe_callB hc hg hm hv ha hn hdb he hpl) fun _ _ _ q => tCB_of hk q
theorem ev_callTy (hc : CallR X (.type T) rr) (hk : CallK G W rr k) (hg : Gl X x) (hm : X.mg x = none) (hv : bootBuiltins x = some (.type T)) (ha : EvA X G W (e :: es) fs) (hn : x ≠ "__name__" := by decide) (hdb : (x == ("__debug__" : Str)) = false := by decide)
    (he : starEach (e :: es) X.env = (false, eval e X.env) :: starEach es X.env := by rfl) (hpl : (backTo pos (starEach es X.env)).any (·.1) = false := by rfl) : Ev X G W (.Call (.Name x p) (e :: es) [] pos) (blt k fs) :=
  PE.imp (pe_callTy hc hg hm hv ha hn hdb he hpl) fun _ _ _ q => tCB_of hk q
theorem one_rep {d : D} {vs : List V} (q : RepVs G.J M r δ σ [d] vs) : ∃ v, vs = [v] ∧ RepV G.J M r δ σ d v := by
  obtain ⟨v, vt, rfl, e1, e2⟩ := q
  cases e2
  exact ⟨v, rfl, e1⟩
theorem two_rep {d d2 : D} {vs : List V} (q : RepVs G.J M r δ σ [d, d2] vs) : ∃ v v2, vs = [v, v2] ∧ RepV G.J M r δ σ d v ∧ RepV G.J M r δ σ d2 v2 := by
  obtain ⟨v, vt, rfl, e1, e2⟩ := q
  obtain ⟨v2, rfl, e3⟩ := one_rep e2
  exact ⟨v, v2, rfl, e1, e3⟩
/-- len of lists, tuples, texts -/
def lenK (ds : List D) (δ : DE) (h : Bx) : R D := match ds with
  | [.str x] => if x.length ≤ big then .ok (.int x.length) h else .bad
  | [d] => match seqOf δ h d with
    | some es => .ok (.int es.length) h
    | none => .bad
  | _ => .bad
abbrev rLen (K : PySem.W.Frag) : List V → Hp → VK → Prop := fun xs H Q => (∃ p ys, xs = [.ref p] ∧ (SqL K H p ys ∨ SqT K H p ys) ∧ Q (.int ys.length) H) ∨ ∃ z : Str, xs = [.str z] ∧ z.length ≤ sizeLine ∧ Q (.int z.length) H
theorem call_lenK : CallR X (.builtin "len") (rLen X.K) := CallR.or call_len_seq call_len_str
theorem lenK_ok : CallK G W (rLen G.K) lenK := by
  intro σ δ M r h H vs ds Q b rv q
  unfold lenK at q
  split at q
  · rename_i x
    obtain ⟨v, rfl, e⟩ := one_rep rv
    cases e
    split at q
    · rename_i z
      exact .inr ⟨x, rfl, big_line z, q.now b rfl⟩
    · exact q.elim
  · rename_i d _
    obtain ⟨v, rfl, e⟩ := one_rep rv
    split at q
    · rename_i es z
      obtain ⟨a, us, rfl, hs, t⟩ := b.seq e z
      refine .inl ⟨a, us, rfl, hs, ?_⟩
      rw [t.length]
      exact q.now b rfl
    · exact q.elim
  · exact q.elim
def absK (ds : List D) (_ : DE) (h : Bx) : R D := match ds with
  | [.int i] => .ok (.int (if i < 0 then -i else i)) h
  | _ => .bad
theorem absK_ok : CallK G W (fun xs H Q => ∃ i, xs = [.int i] ∧ Q (.int (if i < 0 then -i else i)) H) absK := by
  intro σ δ M r h H vs ds Q b rv q
  unfold absK at q
  split at q
  · obtain ⟨v, rfl, e⟩ := one_rep rv
    cases e
    exact ⟨_, rfl, q.now b rfl⟩
  · exact q.elim
def intK (ds : List D) (_ : DE) (h : Bx) : R D := match ds with
  | [.int i] => .ok (.int i) h
  | [.bl b] => .ok (.int (if b = true then 1 else 0)) h
  | _ => .bad
theorem intK_ok : CallK G W (fun xs H Q => (∃ i, xs = [.int i] ∧ Q (.int i) H) ∨ ∃ k, xs = [.bl k] ∧ Q (.int (if k then 1 else 0)) H) intK := by
  intro σ δ M r h H vs ds Q b rv q
  unfold intK at q
  split at q
  · obtain ⟨v, rfl, e⟩ := one_rep rv
    cases e
    exact .inl ⟨_, rfl, q.now b rfl⟩
  · obtain ⟨v, rfl, e⟩ := one_rep rv
    cases e
    exact .inr ⟨_, rfl, q.now b rfl⟩
  · exact q.elim
/-- tuple(x) -/
def tupK (ds : List D) (δ : DE) (h : Bx) : R D := match ds with
  | [.tup es] => .ok (.tup es) h
  | [d] => match lstOf δ h d with
    | some es => .ok (.tup es) h
    | none => .bad
  | _ => .bad
theorem tupK_ok : CallK G W (fun xs H Q => ∃ p ys, xs = [.ref p] ∧ ((SqL G.K H p ys ∧ ∀ l, H l = none → Q (.ref l) (upd H l (.tup ys))) ∨ (SqT G.K H p ys ∧ Q (.ref p) H))) tupK := by
  intro σ δ M r h H vs ds Q b rv q
  unfold tupK at q
  split at q
  · rename_i es
    obtain ⟨v, rfl, e⟩ := one_rep rv
    obtain ⟨a, us, rfl, m, t⟩ := e
    exact ⟨a, us, rfl, .inr ⟨sqT_of b m, q.now b ⟨a, us, rfl, m, t⟩⟩⟩
  · rename_i d _
    obtain ⟨v, rfl, e⟩ := one_rep rv
    split at q
    · rename_i es z
      obtain ⟨a, us, rfl, hs, t, l⟩ := b.lst e z
      exact ⟨a, us, rfl, .inl ⟨hs, tup_new b t l q⟩⟩
    · exact q.elim
  · exact q.elim
/-- list(x): a new one -/
def listN (fs : DE → Bx → R (List D)) : DE → Bx → R (List D) := fun δ h => (fs δ h).bind fun ds h1 => match ds with
  | [d] => match seqOf δ h1 d with
    | some es => if es.length ≤ big then .ok es h1 else .bad
    | none => .bad
  | _ => .bad
theorem evn_list {p : Pos} {es : List Expr} (hg : Gl X "list") (hm : X.mg "list" = none) (ha : EvA X G W (e :: es) fs) (hK : X.K = G.K)
    (he : starEach (e :: es) X.env = (false, eval e X.env) :: starEach es X.env := by rfl) (hpl : (backTo pos (starEach es X.env)).any (·.1) = false := by rfl) : EvN X G W (.Call (.Name "list" p) (e :: es) [] pos) (listN fs) :=
  PE.imp (pe_callTy call_list_of hg hm (by decide +kernel) ha (by decide) (by decide) he hpl) fun σ H Q q => by
    rw [hK]
    obtain ⟨M, r, h, δ, b, q⟩ := q
    refine ⟨M, r, h, δ, b, (AfterN.bind (rl := rVs G.J δ σ) q).more fun vs H1 ⟨ds, M1, r1, h1, s1, b1, rv, q1⟩ => ?_⟩
    split at q1
    · rename_i d
      obtain ⟨v, rfl, e⟩ := one_rep rv
      split at q1
      · rename_i es' z
        split at q1
        · rename_i l
          obtain ⟨a, us, rfl, hs, t⟩ := b1.seq e z
          exact ⟨a, us, rfl, hs, fun p hp => q1 us M1 r1 H1 p Stp.refl b1 t l hp⟩
        · exact q1.elim
      · exact q1.elim
    · exact q1.elim
/-- truth values -/
def bls : List D → Option (List Bool)
  | [] => some []
  | .bl b :: ds => (bls ds).map (b :: ·)
  | _ :: _ => none
theorem bls_rep {J : Jd} : ∀ {ds : List D} {vs : List V} {bs : List Bool}, Reps J M r ds vs → bls ds = some bs → vs = bs.map V.bl
  | [], _, _, q, e => by cases q; cases e; rfl
  | d :: ds, _, bs, q, e => by
    obtain ⟨v, vt, rfl, e1, e2⟩ := q
    cases d with
    | bl b =>
      unfold bls at e
      cases z : bls ds with
      | none => rw [z] at e; cases e
      | some cs =>
        rw [z] at e
        cases e
        cases e1
        rw [bls_rep e2 z]; rfl
    | _ => cases e
theorem bls_map (bs : List Bool) : bls (bs.map D.bl) = some bs := by
  induction bs with
  | nil => rfl
  | cons b bs ih => simp [bls, ih]
def allK (ds : List D) (δ : DE) (h : Bx) : R D := match ds with
  | [d] => match lstOf δ h d with
    | some es => match bls es with
      | some bs => .ok (.bl (bs.all id)) h
      | none => .bad
    | none => .bad
  | _ => .bad
def anyK (ds : List D) (δ : DE) (h : Bx) : R D := match ds with
  | [d] => match lstOf δ h d with
    | some es => match bls es with
      | some bs => .ok (.bl (bs.any id)) h
      | none => .bad
    | none => .bad
  | _ => .bad
theorem allK_ok : CallK G W (rAll G.K) allK := by
  intro σ δ M r h H vs ds Q b rv q
  unfold allK at q
  split at q
  · obtain ⟨v, rfl, e⟩ := one_rep rv
    split at q
    · rename_i es z
      split at q
      · rename_i bs y
        obtain ⟨a, us, rfl, hs, t, l⟩ := b.lst e z
        exact ⟨a, bs, rfl, by rw [← bls_rep t y]; exact hs, q.now b rfl⟩
      · exact q.elim
    · exact q.elim
  · exact q.elim
theorem anyK_ok : CallK G W (rAny G.K) anyK := by
  intro σ δ M r h H vs ds Q b rv q
  unfold anyK at q
  split at q
  · obtain ⟨v, rfl, e⟩ := one_rep rv
    split at q
    · rename_i es z
      split at q
      · rename_i bs y
        obtain ⟨a, us, rfl, hs, t, l⟩ := b.lst e z
        exact ⟨a, bs, rfl, by rw [← bls_rep t y]; exact hs, q.now b rfl⟩
      · exact q.elim
    · exact q.elim
  · exact q.elim
/-! ### isinstance -/
/-- a value's type -/
def D.ty : D → String
  | .non => "NoneType"
  | .bl _ => "bool"
  | .int _ => "int"
  | .str _ => "str"
  | .tup _ => "tuple"
  | .lam _ => "function"
  | .fn _ => "function"
  | _ => "list"
def D.fun? : D → Bool
  | .lam _ => true
  | .fn _ => true
  | _ => false
theorem tyx_of (b : BS G M r h δ σ H) {d : D} {v : V} (rv : RepV G.J M r δ σ d v) (nf : d.fun? = false) : TyX G.K H v (.type d.ty) := by
  cases d with
  | lam _ => cases nf
  | fn _ => cases nf
  | non => cases rv; exact .base .non
  | bl _ => cases rv; exact .base (.bl _)
  | int _ => cases rv; exact .base (.int _)
  | str _ => cases rv; exact .base (.str _)
  | tup ds =>
    obtain ⟨a, vs, rfl, m, t⟩ := rv
    rcases m with m | ⟨o, its, n, k1, k2, _⟩
    · exact .base (.tup (b.mok _ _ m).2)
    · exact .kTuple k1 k2
  | lst ds =>
    obtain ⟨a, vs, rfl, m, t⟩ := rv
    exact .base (.lst (b.mok _ _ m).2)
  | frz ds =>
    obtain ⟨a, vs, rfl, m, t⟩ := rv
    rcases m with ⟨u, m, rfl | ⟨o, rfl⟩⟩ | ⟨o, its, n, k1, k2, _⟩
    · exact .base (.lst (b.mok _ _ m).2)
    · exact .base (.frz (b.mok _ _ m).2)
    · exact .kList k1 k2
  | ptr n =>
    obtain ⟨a, rfl, e⟩ := rv
    have hl : n < h.length := by rw [← b.bx.len]; exact (List.getElem?_eq_some_iff.mp e).1
    obtain ⟨_, _, vs, q, _⟩ := b.bx.at_ n a _ e (List.getElem?_eq_getElem hl)
    exact .base (.lst q)
  | loc i =>
    obtain ⟨e1, ds, e2⟩ := rv
    obtain ⟨a, vs, e3, _, _, _, _, q, _⟩ := b.sl i _ _ e2 e1
    cases e3
    exact .base (.lst q)
def isT (t T : String) : Bool := t == T || (t == "bool" && T == "int")
def isiR (T : List String) (d : D) (h : Bx) : R D := if d.fun? = true then .bad else .ok (.bl (T.any (isT d.ty))) h
def isiF (T : List String) (f : EF) : EF := fun δ h => (f δ h).bind fun d h1 => isiR T d h1
/-- isinstance(e, T), T one of int, bool, str, list, tuple -/
theorem ev_isi {T : String} {xt : Str} {p p2 : Pos} (hg : Gl X "isinstance") (hm : X.mg "isinstance" = none) (hgt : Gl X xt) (hmt : X.mg xt = none) (hvt : bootBuiltins xt = some (.type T)) (ha : Ev X G W e f) (hK : X.K = G.K)
    (hT : ∀ t ∈ ["NoneType", "bool", "int", "str", "tuple", "list"], kitB t T = some (isT t T)) (hn : xt ≠ "__name__" := by decide) (hdb : (xt == ("__debug__" : Str)) = false := by decide)
    (he : starEach [e, .Name xt p2] X.env = (false, eval e X.env) :: starEach [.Name xt p2] X.env := by rfl) (hpl : (backTo pos (starEach [.Name xt p2] X.env)).any (·.1) = false := by rfl)
    (hs2 : starEach [.Name xt p2] X.env = (false, eval (.Name xt p2) X.env) :: starEach [] X.env := by rfl) : Ev X G W (.Call (.Name "isinstance" p) [e, .Name xt p2] [] pos) (isiF [T] f) :=
  PE.imp (pe_callB call_isi hg hm (by decide +kernel) (pa_cons ha (pa_cons (pe_bltn (v := .ty T) hgt hmt hvt rfl hn hdb) pa_nil hs2) he) (by decide) (by decide) he hpl) fun σ H Q q => by
    rw [hK]
    obtain ⟨M, r, h, δ, b, q⟩ := q
    refine ⟨M, r, h, δ, b, (After.bind q).more fun v H1 ⟨d, M1, r1, h1, s1, b1, rv, q1⟩ => ?_⟩
    by_cases nf : d.fun? = true
    · unfold isiR at q1; rw [if_pos nf] at q1; exact q1.elim
    unfold isiR at q1
    rw [if_neg nf] at q1
    have nf : d.fun? = false := by simpa using nf
    have hd : d.ty ∈ ["NoneType", "bool", "int", "str", "tuple", "list"] := by cases d <;> first | (cases nf; done) | simp [D.ty]
    have q1 : After G W σ δ (rV G.J δ σ) M1 r1 H1 (.ok (.bl (isT d.ty T || false)) h1) Q := q1
    rw [Bool.or_false] at q1
    exact ⟨v, .ty T, .type d.ty, .type T, _, rfl, .ty T, tyx_of b1 rv nf, kit_ty (hT _ hd), q1.now b1 rfl⟩
/-- isinstance(e, (T1, T2)) -/
theorem ev_isi2 {T T' : String} {xt xt' : Str} {p p2 p3 p4 : Pos} {kk : Nat} (hg : Gl X "isinstance") (hm : X.mg "isinstance" = none) (hgt : Gl X xt) (hmt : X.mg xt = none) (hvt : bootBuiltins xt = some (.type T)) (hgt' : Gl X xt') (hmt' : X.mg xt' = none) (hvt' : bootBuiltins xt' = some (.type T')) (ha : Ev X G W e f) (hK : X.K = G.K)
    (hT : ∀ t ∈ ["NoneType", "bool", "int", "str", "tuple", "list"], kitB t T = some (isT t T)) (hT' : ∀ t ∈ ["NoneType", "bool", "int", "str", "tuple", "list"], kitB t T' = some (isT t T'))
    (hn : xt ≠ "__name__" := by decide) (hdb : (xt == ("__debug__" : Str)) = false := by decide) (hn' : xt' ≠ "__name__" := by decide) (hdb' : (xt' == ("__debug__" : Str)) = false := by decide)
    (he : starEach [e, .Tuple [.Name xt p2, .Name xt' p3] kk p4] X.env = (false, eval e X.env) :: starEach [.Tuple [.Name xt p2, .Name xt' p3] kk p4] X.env := by rfl) (hpl : (backTo pos (starEach [.Tuple [.Name xt p2, .Name xt' p3] kk p4] X.env)).any (·.1) = false := by rfl)
    (hs2 : starEach [.Tuple [.Name xt p2, .Name xt' p3] kk p4] X.env = (false, eval (.Tuple [.Name xt p2, .Name xt' p3] kk p4) X.env) :: starEach [] X.env := by rfl)
    (hs3 : starEach [.Name xt p2, .Name xt' p3] X.env = (false, eval (.Name xt p2) X.env) :: starEach [.Name xt' p3] X.env := by rfl) (hs4 : starEach [.Name xt' p3] X.env = (false, eval (.Name xt' p3) X.env) :: starEach [] X.env := by rfl) :
    Ev X G W (.Call (.Name "isinstance" p) [e, .Tuple [.Name xt p2, .Name xt' p3] kk p4] [] pos) (isiF [T, T'] f) :=
  PE.imp (pe_callB call_isiT hg hm (by decide +kernel) (pa_cons ha (pa_cons (pe_tup (pa_cons (pe_bltn (v := .ty T) hgt hmt hvt rfl hn hdb) (pa_cons (pe_bltn (v := .ty T') hgt' hmt' hvt' rfl hn' hdb') pa_nil hs4) hs3)) pa_nil hs2) he) (by decide) (by decide) he hpl) fun σ H Q q => by
    rw [hK]
    obtain ⟨M, r, h, δ, b, q⟩ := q
    refine ⟨M, r, h, δ, b, (After.bind q).more fun v H1 ⟨d, M1, r1, h1, s1, b1, rv, q1⟩ => ?_⟩
    by_cases nf : d.fun? = true
    · unfold isiR at q1; rw [if_pos nf] at q1; exact q1.elim
    unfold isiR at q1
    rw [if_neg nf] at q1
    have nf : d.fun? = false := by simpa using nf
    have hd : d.ty ∈ ["NoneType", "bool", "int", "str", "tuple", "list"] := by cases d <;> first | (cases nf; done) | simp [D.ty]
    refine ⟨by show 2 ≤ sizeLine; decide, fun p hp => ?_⟩
    obtain ⟨b2, s2⟩ := b1.laid (o := .tup [.ty T, .ty T']) hp (by show 2 ≤ big; decide)
    have rv2 := RepV.mono s2.le s2.pre rv
    have q1 : After G W σ δ (rV G.J δ σ) M1 r1 H1 (.ok (.bl (isT d.ty T || (isT d.ty T' || false))) h1) Q := q1
    refine ⟨v, p, [.ty T, .ty T'], .type d.ty, [.type T, .type T'], isT d.ty T || (isT d.ty T' || false), rfl, upd_same, .cons (.ty T) (.cons (.ty T') .nil), tyx_of b2 rv2 nf, ?_, (After.from s2 q1).now b2 rfl⟩
    refine kitAny_cons (kit_ty (hT _ hd)) (fun e => ?_) (fun e => by rw [e]; rfl)
    rw [e]
    exact kitAny_cons (kit_ty (hT' _ hd)) (fun e' => by rw [e']; rfl) (fun e' => by rw [e']; rfl)
end
end LP
/-! LpG: lists that are written: slots' own ones, boxes. -/
namespace LP
open PySem PySem.Spec PyProof.Rows L2
section
variable {X : Cx} {G : Cfg} {W : WX} {σ : L2.St} {δ : DE} {M M' M1 M2 : Imm} {r r' r1 r2 : List Addr} {h h' h1 h2 : Bx} {H H' H1 H2 : Hp} {E : Ends}
variable {e c : Expr} {f g : EF} {tg : Expr} {fs : DE → Bx → R (List D)} {pos : Pos}
/-- a list that is written: that of slot i, or a box that slot i names -/
def wrS (i : Nat) (δ : DE) (h : Bx) : Option (List D) := match δ[i]? with
  | some (.own ds) => some ds
  | some (.v (.ptr n)) => h[n]?
  | _ => none
/-- behind the writing -/
def putS (i : Nat) (δ : DE) (h : Bx) (ds : List D) : DE × Bx := match δ[i]? with
  | some (.v (.ptr n)) => (δ, h.set n ds)
  | _ => (δ.set i (.own ds), h)
theorem BS.ownW (b : BS G M r h δ σ H) {i : Nat} {ds es : List D} {a : Addr} {us : List V} (e : δ[i]? = some (.own ds)) (ea : σ[i]? = some (some (.ref a))) (t : Reps G.J M r es us) (z : es.length ≤ big) : BS G M r h (δ.set i (.own es)) σ (upd H a (.lst us)) := by
  obtain ⟨a', vs, e1, m, n, fr, _, q, _⟩ := b.sl i _ _ e ea
  cases e1
  have hi : i < δ.length := (List.getElem?_eq_some_iff.mp e).1
  have b1 := (b.drop i).wrote (ys := us) m n fr (fun j ds' e1 e2 => ?_) q
  · refine ⟨b1.mok, b1.bx, b1.tb, by rw [List.length_set]; exact b.len, fun j s x e1 e2 => ?_, fun j l es' us' e1 e2 n' => ?_, b1.le, b1.pre, b1.new, b1.keep, b1.nf⟩
    · by_cases hj : i = j
      · subst hj
        rw [List.getElem?_set_self hi] at e1
        cases e1
        rw [ea] at e2; cases e2
        exact ⟨a, us, rfl, m, n, fr, z, upd_same, t⟩
      · rw [List.getElem?_set_ne hj] at e1
        exact b1.sl j s x (by rw [List.getElem?_set_ne hj]; exact e1) e2
    · have back : ∀ {j : Nat} {es' : List D}, (δ.set i (.own es))[j]? = some (.own es') → ∃ ds', δ[j]? = some (.own ds') := fun {j es'} e1 => by
        by_cases hj : i = j
        · subst hj; exact ⟨ds, e⟩
        · rw [List.getElem?_set_ne hj] at e1; exact ⟨es', e1⟩
      obtain ⟨d1, y1⟩ := back e1
      obtain ⟨d2, y2⟩ := back e2
      exact b.sep j l d1 d2 y1 y2 n'
  · by_cases hj : i = j
    · subst hj
      rw [List.getElem?_set_self hi] at e1; cases e1
    · rw [List.getElem?_set_ne hj] at e1
      exact b.sep i j ds ds' e e1 hj (by rw [ea, e2])
theorem BS.boxW (b : BS G M r h δ σ H) {n : Nat} {a : Addr} {es : List D} {us : List V} (ea : r[n]? = some a) (t : Reps G.J M r es us) (z : es.length ≤ big) : BS G M r (h.set n es) δ σ (upd H a (.lst us)) ∧ Stp M r H M r (upd H a (.lst us)) := by
  have hn : n < h.length := by rw [← b.bx.len]; exact (List.getElem?_eq_some_iff.mp ea).1
  obtain ⟨m, _, vs, q, _⟩ := b.bx.at_ n a _ ea (List.getElem?_eq_getElem hn)
  have har : a ∈ r := List.mem_of_getElem? ea
  have ne : ∀ {c u}, M c = some u → c ≠ a := fun e z => by rw [z, m] at e; cases e
  have kp : Keep r H (upd H a (.lst us)) := fun c u e t n => by
    rw [upd_ne (fun z => n (by rw [z]; exact har))]; exact e
  refine ⟨⟨fun c u e => ⟨(b.mok c u e).1, by rw [upd_ne (ne e)]; exact (b.mok c u e).2⟩, ⟨by rw [List.length_set]; exact b.bx.len, b.bx.nd, fun k c ds e1 e2 => ?_⟩, fun p hp => ?_, b.len, fun i s x e1 e2 => ?_, b.sep, b.le, b.pre, b.new, fun c u e t nr => ?_, b.nf⟩,
    Le.refl, List.prefix_rfl, fun c z => .inl z, kp, fun c m _ _ => m⟩
  · by_cases hk : n = k
    · subst hk
      rw [List.getElem?_set_self hn] at e2
      cases e2
      rw [ea] at e1; cases e1
      exact ⟨m, z, us, upd_same, t⟩
    · rw [List.getElem?_set_ne hk] at e2
      obtain ⟨m', z', vs', q', t'⟩ := b.bx.at_ k c ds e1 e2
      refine ⟨m', z', vs', ?_, t'⟩
      rw [upd_ne fun y => hk ?_]
      · exact q'
      · subst y
        obtain ⟨l1, x1⟩ := List.getElem?_eq_some_iff.mp ea
        obtain ⟨l2, x2⟩ := List.getElem?_eq_some_iff.mp e1
        exact (List.getElem_inj b.bx.nd).mp (x1.trans x2.symm)
  · obtain ⟨ps, e1, e2, e3⟩ := b.tb p hp
    refine ⟨ps, by rw [upd_ne (fun z => by rw [z, q] at e1; cases e1)]; exact e1, e2, fun pos cv hc => ?_⟩
    obtain ⟨c, z1, z2⟩ := e3 pos cv hc
    refine ⟨c, z1, ?_⟩
    rw [upd_ne (fun z => by rw [z, q] at z2; cases z2)]
    exact z2
  · exact (b.sl i s x e1 e2).mono Le.refl List.prefix_rfl fun c vs m' q' n' => ⟨m', n', kp c _ q' (fun ps y => by cases y) n'⟩
  · have nr' : c ∉ r := fun z => by
      rcases b.new c z with y | y
      · exact nr y
      · obtain ⟨ps, w⟩ := y _ e
        exact t ps w
    exact kp c u (b.keep c u e t nr) t nr'
/-- the list that is written, as it stands -/
theorem BS.wrS (b : BS G M r h δ σ H) {i : Nat} {ds : List D} (e : wrS i δ h = some ds) : ∃ a vs, σ[i]? = some (some (.ref a)) ∧ H a = some (.lst vs) ∧ Reps G.J M r ds vs ∧ ds.length ≤ big ∧
    ∀ (es : List D) (us : List V), Reps G.J M r es us → es.length ≤ big → BS G M r (putS i δ h es).2 (putS i δ h es).1 σ (upd H a (.lst us)) := by
  unfold LP.wrS at e
  unfold putS
  cases z : δ[i]? with
  | none => rw [z] at e; cases e
  | some s =>
    rw [z] at e
    obtain ⟨o, eo⟩ := b.lt z
    cases s with
    | no => cases e
    | own es =>
      cases e
      obtain ⟨a, vs, rfl, m, n, fr, l, q, t⟩ := b.sl i _ _ z eo
      exact ⟨a, vs, eo, q, t, l, fun es us t' z' => b.ownW z eo t' z'⟩
    | v d =>
      cases d with
      | ptr n =>
        obtain ⟨v, rfl, a, rfl, ea⟩ := b.sl i _ _ z eo
        have e : h[n]? = some ds := e
        obtain ⟨m, l, vs, q, t⟩ := b.bx.at_ n a ds ea e
        exact ⟨a, vs, eo, q, t, l, fun es us t' z' => (b.boxW ea t' z').1⟩
      | _ => cases e
/-! ### append, extend, pop as statements -/
variable {x : Str} {px apos : Pos} {i j : Nat}
theorem recv_list (b : BS G M r h δ σ H) {i : Nat} (hw : (LP.wrS i δ h).isSome = true) : ∃ v, σ[i]? = some (some v) ∧ tyV G.K "list" v H := by
  cases e : LP.wrS i δ h with
  | none => rw [e] at hw; cases hw
  | some ds =>
    obtain ⟨a, vs, e1, q, _⟩ := b.wrS e
    exact ⟨_, e1, .inl ⟨rfl, vs, .inl (.inl q)⟩⟩
/-- the receiver, the argument, the writing: k tells the new list -/
def methS (i : Nat) (f : EF) (k : List D → D → DE → Bx → Option (List D)) : SF := fun δ h => if (wrS i δ h).isSome = true then (f δ h).toS δ fun d h1 => match wrS i δ h1 with
  | some ds => match k ds d δ h1 with
    | some es => .nx (putS i δ h1 es).1 (putS i δ h1 es).2
    | none => .bad
  | none => .bad
else .bad
theorem meth_of {rr : V → List V → Hp → VK → Prop} {k : List D → D → DE → Bx → Option (List D)}
    (hr : ∀ a w d M1 r1 h1 H1 ds vs es (Q : VK), BS G M1 r1 h1 δ σ H1 → H1 a = some (.lst vs) → Reps G.J M1 r1 ds vs → ds.length ≤ big → RepV G.J M1 r1 δ σ d w → k ds d δ h1 = some es →
      (∀ us, Reps G.J M1 r1 es us → es.length ≤ big → Q .non (upd H1 a (.lst us))) → rr (.ref a) [w] H1 Q)
    (b : BS G M r h δ σ H) (q : AfterS G W M r (methS i f k δ h) E) : tBM G.K "list" rr (tVar i) (tCons (tG G W (rV G.J) f) tNil) σ H fun _ H1 => E.nx σ H1 := by
  unfold methS at q
  split at q
  · rename_i hw
    obtain ⟨v, e1, ty⟩ := recv_list b hw
    refine ⟨v, e1, ty, M, r, h, δ, b, (AfterS.expr (rl := rV G.J) b q).more fun w H1 ⟨d, M1, r1, h1, s1, b1, rv, q1⟩ => ?_⟩
    split at q1
    · rename_i ds z
      split at q1
      · rename_i es y
        obtain ⟨a, vs, e2, q2, t, l, wr⟩ := b1.wrS z
        rw [e1] at e2; cases e2
        exact hr a w d M1 r1 h1 H1 ds vs es _ b1 q2 t l rv y fun us t' l' => q1.nxt (wr es us t' l')
      · exact q1.elim
    · exact q1.elim
  · exact q.elim
def appK (ds : List D) (d : D) (_ : DE) (_ : Bx) : Option (List D) := if (isV d && decide (ds.length < big)) = true then some (ds ++ [d]) else none
def extK (ds : List D) (d : D) (δ : DE) (h : Bx) : Option (List D) := match wrOf δ h d with
  | some es => if ds.length + es.length ≤ big then some (ds ++ es) else none
  | none => none
abbrev appS (i : Nat) (f : EF) : SF := methS i f appK
abbrev extS (i : Nat) (f : EF) : SF := methS i f extK
theorem es_app {cpos : Pos} (hN : X.N[i]? = some x) (hv : Vis X.env.scope x) (ha : Ev X G W e f) (hK : X.K = G.K)
    (hbase : attributeBase (.Name x px) "append" X.env (eval (.Name x px) X.env) = eval (.Name x px) X.env := by rfl)
    (hfew : ((backTo cpos (starEach [e] X.env)).all (fun x => !x.1) && (backToKw cpos (keywordEach [] X.env)).all (fun x => x.1.isSome) && decide ([e].length + ([] : List Keyword).length + (if ([] : List Keyword).isEmpty then 0 else 1) < 30)) = true := by rfl)
    (hline : (apos.endLine == cpos.line) = true := by rfl) (hs : starEach [e] X.env = (false, eval e X.env) :: starEach [] X.env := by rfl) (hplain : (backTo cpos (starEach [] X.env)).any (·.1) = false := by rfl)
    (hd : (x == ("__debug__" : Str)) = false := by decide) (hcd : (x == ("__classdict__" : Str)) = false := by decide)
    (hsw : swapsWith (.Call (.Attribute (.Name x px) "append" apos) [e] [] cpos) none pos.line X.env = pure false := by rfl) :
    Es X G W (.Expr (.Call (.Attribute (.Name x px) "append" apos) [e] [] cpos) pos) (appS i f) :=
  PS.imp (ps_expr (pe_bm PySem.F.plainAttrs_list PySem.F.slot_list_append PySem.F.type_list_append mt_append (pe_var hN hv hd hcd) (pa_cons ha pa_nil hs) hbase hfew hline hs hplain) hsw) fun E σ H q => by
    rw [hK]
    obtain ⟨M, r, h, δ, b, q⟩ := q
    refine meth_of (fun a w d M1 r1 h1 H1 ds vs es Q b1 q2 t l rv y put => ?_) b q
    unfold appK at y
    split at y
    · rename_i z
      cases y
      rw [Bool.and_eq_true, decide_eq_true_eq] at z
      have rp : Rep G.J M1 r1 d w := by
        cases d with
        | loc i => cases z.1
        | _ => exact rv
      exact ⟨a, vs, w, rfl, rfl, q2, by rw [t.length]; exact big_lt z.2, put _ (t.append (Reps.one rp)) (by rw [List.length_append]; simp; have := z.2; omega)⟩
    · cases y
theorem es_ext {cpos : Pos} (hN : X.N[i]? = some x) (hv : Vis X.env.scope x) (ha : Ev X G W e f) (hK : X.K = G.K)
    (hbase : attributeBase (.Name x px) "extend" X.env (eval (.Name x px) X.env) = eval (.Name x px) X.env := by rfl)
    (hfew : ((backTo cpos (starEach [e] X.env)).all (fun x => !x.1) && (backToKw cpos (keywordEach [] X.env)).all (fun x => x.1.isSome) && decide ([e].length + ([] : List Keyword).length + (if ([] : List Keyword).isEmpty then 0 else 1) < 30)) = true := by rfl)
    (hline : (apos.endLine == cpos.line) = true := by rfl) (hs : starEach [e] X.env = (false, eval e X.env) :: starEach [] X.env := by rfl) (hplain : (backTo cpos (starEach [] X.env)).any (·.1) = false := by rfl)
    (hd : (x == ("__debug__" : Str)) = false := by decide) (hcd : (x == ("__classdict__" : Str)) = false := by decide)
    (hsw : swapsWith (.Call (.Attribute (.Name x px) "extend" apos) [e] [] cpos) none pos.line X.env = pure false := by rfl) :
    Es X G W (.Expr (.Call (.Attribute (.Name x px) "extend" apos) [e] [] cpos) pos) (extS i f) :=
  PS.imp (ps_expr (pe_bm PySem.F.plainAttrs_list PySem.F.slot_list_extend PySem.F.type_list_extend mt_extend (pe_var hN hv hd hcd) (pa_cons ha pa_nil hs) hbase hfew hline hs hplain) hsw) fun E σ H q => by
    rw [hK]
    obtain ⟨M, r, h, δ, b, q⟩ := q
    refine meth_of (fun a w d M1 r1 h1 H1 ds vs es Q b1 q2 t l rv y put => ?_) b q
    unfold extK at y
    split at y
    · rename_i zs z
      split at y
      · rename_i l2
        cases y
        obtain ⟨c, us, rfl, q3, t3, _⟩ := b1.wr rv z
        exact ⟨a, c, vs, us, rfl, rfl, q2, q3, by rw [t.length, t3.length]; exact big_line l2, put _ (t.append t3) (by rw [List.length_append]; exact l2)⟩
      · cases y
    · cases y
/-- y = x.pop() -/
def popS (i j : Nat) : SF := fun δ h => match wrS i δ h with
  | some ds => match ds.getLast? with
    | some d => if isV d = true then .nx ((putS i δ h ds.dropLast).1.set j (.v d)) (putS i δ h ds.dropLast).2 else .bad
    | none => .bad
  | none => .bad
theorem Reps.dropLast {J : Jd} {ds : List D} {vs : List V} (t : Reps J M r ds vs) : Reps J M r ds.dropLast vs.dropLast := by
  rw [List.dropLast_eq_take, List.dropLast_eq_take, t.length]
  exact t.take _
theorem es_pop {y : Str} {py cpos : Pos} (hNd : X.N.Nodup) (hN : X.N[i]? = some x) (hv : Vis X.env.scope x) (hj : X.N[j]? = some y) (hy : Loc X.env.scope y) (hK : X.K = G.K)
    (hbase : attributeBase (.Name x px) "pop" X.env (eval (.Name x px) X.env) = eval (.Name x px) X.env := by rfl) (hline : (apos.endLine == cpos.line) = true := by rfl)
    (hd : (x == ("__debug__" : Str)) = false := by decide) (hcd : (x == ("__classdict__" : Str)) = false := by decide)
    (hsw : swapsWith (.Call (.Attribute (.Name x px) "pop" apos) [] [] cpos) (some (.Name y py)) pos.line X.env = pure false := by rfl) (hf : X.fn y = true ∨ X.env.scope.names.lookup y = some .local := by first | exact .inl rfl | exact .inr rfl | assumption) :
    Es X G W (.Assign [.Name y py] (.Call (.Attribute (.Name x px) "pop" apos) [] [] cpos) pos) (popS i j) :=
  PS.imp (ps_set hNd hj hy (pe_bm0 PySem.F.plainAttrs_list PySem.F.slot_list_pop PySem.F.type_list_pop mt_pop (pe_var hN hv hd hcd) hbase hline) hsw hf) fun E σ H q => by
    rw [hK]
    obtain ⟨M, r, h, δ, b, q⟩ := q
    unfold popS at q
    split at q
    · rename_i ds z
      split at q
      · rename_i d y
        split at q
        · rename_i iv
          obtain ⟨a, vs, e2, q2, t, l, wr⟩ := b.wrS z
          have hx : ds[ds.length - 1]? = some d := by rw [← List.getLast?_eq_getElem?]; exact y
          obtain ⟨v, ev, rp⟩ := t.get hx
          refine ⟨_, e2, .inl ⟨rfl, vs, .inl (.inl q2)⟩, a, vs, v, rfl, rfl, q2, by rw [t.length]; exact ev, ?_⟩
          have b2 := wr ds.dropLast vs.dropLast t.dropLast (by rw [List.length_dropLast]; omega)
          exact q.nxt (b2.put (i := j) rp)
        · exact q.elim
      · exact q.elim
    · exact q.elim
/-! ### xs[i] = e -/
def setiS (i : Nat) (fi fe : EF) : SF := fun δ h => (fe δ h).toS δ fun d h1 => if (wrS i δ h1).isSome = true then (fi δ h1).toS δ fun n h2 => match n with
  | .int k => match wrS i δ h2 with
    | some ds => match ixN ds.length k with
      | some j => if isV d = true then .nx (putS i δ h2 (ds.set j d)).1 (putS i δ h2 (ds.set j d)).2 else .bad
      | none => .bad
    | none => .bad
  | _ => .bad
else .bad
theorem es_seti {ei : Expr} {fi fe : EF} {spos : Pos} (hN : X.N[i]? = some x) (hv : Vis X.env.scope x) (hi : Ev X G W ei fi) (he : Ev X G W e fe)
    (hd : (x == ("__debug__" : Str)) = false := by decide) (hcd : (x == ("__classdict__" : Str)) = false := by decide)
    (ha : ∀ v, assign (.Subscript (.Name x px) ei spos) X.env v = (do
      let ov ← holding [v] (eval (.Name x px) X.env)
      let iv ← holding [v, ov] (eval ei X.env)
      standAt spos
      holding [v, ov, iv] (setItem ov iv v)
      release [v, ov, iv] []) := by intro _; rfl)
    (hs : swapsWithSole [.Subscript (.Name x px) ei spos] e pos.line X.env = pure false := by rfl) (hw : swappedStores [.Subscript (.Name x px) ei spos] e X.env = pure none := by rfl)
    (h1 : (assignEach [.Subscript (.Name x px) ei spos] X.env).map (·.2) = [assign (.Subscript (.Name x px) ei spos) X.env] := by rfl) :
    Es X G W (.Assign [.Subscript (.Name x px) ei spos] e pos) (setiS i fi fe) :=
  PS.imp (ps_asg he (pg_sub (pe_var hN hv hd hcd) hi set_list ha) hs hw h1) fun E σ H q => by
    obtain ⟨M, r, h, δ, b, q⟩ := q
    refine ⟨M, r, h, δ, b, (AfterS.expr (rl := rV G.J) b q).more fun v H1 ⟨d, M1, r1, h1, s1, b1, rv, q1⟩ => ?_⟩
    split at q1
    · rename_i hw
      obtain ⟨o, eo, _⟩ := recv_list b1 hw
      refine ⟨o, eo, M1, r1, h1, δ, b1, (AfterS.expr (rl := rV G.J) b1 q1).more fun w H2 ⟨n, M2, r2, h2, s2, b2, rn, q2⟩ => ?_⟩
      split at q2
      · rename_i k
        cases rn
        split at q2
        · rename_i ds z
          split at q2
          · rename_i j' y
            split at q2
            · rename_i iv
              obtain ⟨a, vs, e2, q3, t, l, wr⟩ := b2.wrS z
              rw [eo] at e2; cases e2
              have rp : Rep G.J M2 r2 d v := by
                have := RepV.mono s2.le s2.pre rv
                cases d with
                | loc i => cases iv
                | _ => exact this
              exact ⟨a, vs, k, j', rfl, rfl, q3, by rw [t.length]; exact y, q2.nxt (wr _ _ (t.set j' rp) (by rw [List.length_set]; exact l))⟩
            · exact q2.elim
          · exact q2.elim
        · exact q2.elim
      · exact q2.elim
    · exact q1.elim
/-! ### name = [.. for ..], the name a local -/
theorem es_ownLc {y : Str} {py spos : Pos} {elt iter : Expr} {ifs : List Expr} {scope : Scope} {own : List (Str × Nat)} {gi : DE → Bx → R (List D)} {ts : List Nat} {u : D → DE → Option DE} {tf : DE → Bx → R Bool} {ef : EF} (hc : X.calm = true) (hN : X.N.Nodup)
    (hy : X.N[i]? = some y) (hyl : X.env.scope.names.lookup y = some .local) (hsw : swapsWith (.ListComp elt [⟨tg, iter, ifs, 0⟩] scope pos) (some (.Name y py)) spos.line X.env = pure true)
    (hi : EvI X G W tg iter gi) (ok : BlkOk X.N X.env.scope scope own) (hts : ∀ i ∈ ts, i ∈ own.map (·.2))
    (hg : ∀ (s : Shared) (H : Hp) (C : Addr) (cl : List (Str × Addr)) (fp : List Addr), EvG (X.blk s H scope (compEnvC scope cl C X.env) fp) G tg ts u) (ht : ∀ (s : Shared) (H : Hp) (C : Addr) (cl : List (Str × Addr)) (fp : List Addr), EvTs (X.blk s H scope (compEnvC scope cl C X.env) fp) G W0 ifs tf)
    (he : ∀ (s : Shared) (H : Hp) (C : Addr) (cl : List (Str × Addr)) (fp : List Addr), Ev (X.blk s H scope (compEnvC scope cl C X.env) fp) G W0 elt ef) (hs : ∀ x, foldedSetIterable iter X.env x = pure x := by intro _; rfl) :
    Es X G W (.Assign [.Name y py] (.ListComp elt [⟨tg, iter, ifs, 0⟩] scope pos) spos) (ownS i (lcN gi (own.map (·.2)) u tf ef)) :=
  PS.imp (ps_setLc hc hN hy hyl hsw hi ok hg ht he hs) fun E σ H q => by
    obtain ⟨M, r, h, δ, b, q⟩ := q
    refine lc_of (G := G) (W := W) (u := u) (Q := fun x H1 => gName i x σ H1 E.nx) hts ⟨M, r, h, δ, b, ?_⟩
    unfold ownS at q
    cases e : lcN gi (own.map (·.2)) u tf ef δ h with
    | ok ds h1 =>
      rw [e] at q
      intro vs M' r' H' p s b' t z hp
      exact (AfterS.from s.le s.pre q).nxt (b'.own hp t z)
    | exc c fs h => rw [e] at q; exact fun C dd M' r' H' m s b e => q C dd M' r' σ H' m s.le s.pre b e
    | bad => rw [e] at q; exact q
end
end LP
/-! LpH: enumerate of a tuple, t[::-1]: at the library's level and as rules. -/
namespace LP
open PySem PySem.Spec PyProof.Rows L2 HT
open AutoSeq1 (wpAny_loadPart')
section
variable {prog : Program} {w : World} {A : Around} {E : Value → Shared → Prop} {s : Shared}
theorem fm_congr {α β : Type} {f g : α → Option β} : ∀ (l : List α), (∀ a ∈ l, f a = g a) → l.filterMap f = l.filterMap g
  | [], _ => rfl
  | a :: l, h => by
    rw [List.filterMap_cons, List.filterMap_cons, h a (List.mem_cons_self ..), fm_congr l fun b hb => h b (List.mem_cons_of_mem _ hb)]
theorem adjust_rev (n : Nat) : Builtin.Slice.sliceAdjust none none (-1) (n : Int) = ((n : Int) - 1, -1) := by
  unfold Builtin.Slice.sliceAdjust
  rfl
theorem places_rev (n : Nat) : Builtin.Slice.slicePlaces ((n : Int) - 1) (-1) (-1) = n := by
  unfold Builtin.Slice.slicePlaces
  have h1 : ¬ ((-1 : Int) > 0) := by omega
  simp only [h1, if_false]
  have e : (- -1 : Int) = 1 := by decide
  rw [e]
  simp only [Int.ediv_one]
  split <;> omega
theorem sliceApplied_rev {sl : Addr} {vk : Value} {n : Nat} {Q : Int × Int × Nat → Shared → Prop} (hs : s.heap.IsSliceOf sl .none .none vk) (pk : IsPart vk (some (-1)))
    (h : Q ((n : Int) - 1, -1, n) s) : wpAny (model prog w) A (Builtin.Slice.sliceApplied (.ref sl) (pure (n : Int))) Q E s := by
  obtain ⟨os, hos, hcs, hds⟩ := id hs
  unfold Builtin.Slice.sliceApplied Builtin.Slice.sliceFields
  refine wpAny_bind (wpAny_bind (wpAny_field hos hds (x := .none) rfl (wpAny_bind (wpAny_field hos hds (x := .none) rfl (wpAny_bind (wpAny_field hos hds (x := vk) rfl (wpAny_pure ?_)))))))
  refine wpAny_bind (slicePart_ pk ?_)
  show wpAny _ _ (if ((-1 : Int) == 0) = true then _ else _) _ _ s
  rw [if_neg (by decide)]
  refine wpAny_bind (slicePart_ .none (wpAny_bind (slicePart_ .none (wpAny_bind (wpAny_pure ?_)))))
  show wpAny _ _ (match Builtin.Slice.sliceAdjust none none (-1) (n : Int) with | (lo, hi) => pure (lo, (-1 : Int), Builtin.Slice.slicePlaces lo hi (-1))) _ _ s
  rw [adjust_rev n]
  show wpAny _ _ (pure ((n : Int) - 1, (-1 : Int), Builtin.Slice.slicePlaces ((n : Int) - 1) (-1) (-1))) _ _ s
  rw [places_rev]
  exact wpAny_pure h
theorem pick_rev (xs : Array Value) : ((List.range xs.size).filterMap fun (m : Nat) => xs[((xs.size : Int) - 1 + (m : Int) * (-1)).toNat]?).toArray = xs.toList.reverse.toArray := by
  have e : ((List.range xs.size).filterMap fun (m : Nat) => xs[((xs.size : Int) - 1 + (m : Int) * (-1)).toNat]?) = ((List.range xs.size).map fun k => xs.size - 1 - k).filterMap (xs[·]?) := by
    rw [List.filterMap_map]
    apply fm_congr
    intro m hm
    rw [List.mem_range] at hm
    show xs[_]? = xs[xs.size - 1 - m]?
    have : ((xs.size : Int) - 1 + (m : Int) * (-1)).toNat = xs.size - 1 - m := by omega
    rw [this]
  rw [e, PySem.W.krv_range, List.filterMap_reverse, PySem.W.krv_all]
theorem getItem_tuple_rev {t sl : Addr} {items : Array Value} {vk : Value} {Q : Value → Shared → Prop} (ht : IsTup s.heap t items) (hs : s.heap.IsSliceOf sl .none .none vk) (pk : IsPart vk (some (-1)))
    (h : Q (.ref s.heap.objs.size) { s with heap := s.heap.push { cls := .type "tuple", data := .seq items.toList.reverse.toArray } })
    (hsz : items.size ≤ sizeLine) : wpAny (model prog w) A (getItem (.ref t) (.ref sl)) Q E s := by
  have htake : sizeOk (.seq items.toList.reverse.toArray) := by
    show items.toList.reverse.toArray.size ≤ sizeLine
    rw [List.size_toArray, List.length_reverse, Array.length_toList]
    exact hsz
  obtain ⟨os, hos, hcs, hds⟩ := id hs
  have hTs : s.TypeIs (.ref sl) "slice" := ⟨os, hos, hcs⟩
  unfold getItem
  try with_reducible refine wpAny_holding ?_
  first | refine wpAny_bind (wpAny_pure ?_) | skip
  refine wpAny_bind (wpAny_sequenceKey ht.typeIs (by decide) ?_)
  refine wpAny_bind (wpAny_callSpecial?_slot (name := Str.ofString "__getitem__") ht.typeIs PyProof.Rows.slot_tuple_getitem
    (wpAny_call_entry PyProof.Rows.slot_tuple_getitem ht.typeIs entry_tuple_getitem ?_ (args_tuple_getitem _ _)))
  show wpAny _ _ (Builtin.Tuple.tupleItemsOf (.ref t) >>= _) _ _ s
  refine wpAny_bind (tupleItemsOf_ ht ?_)
  refine wpAny_bind (wpAny_typeOf hTs ?_)
  rw [if_pos (by decide)]
  refine wpAny_bind (sliceApplied_rev hs pk ?_)
  have hno : ¬ ((((items.size : Int) - 1) == 0 && (-1 : Int) == 1 && items.size == items.size) = true) := by
    rw [Bool.and_eq_true, Bool.and_eq_true]
    exact fun q => absurd q.1.2 (by decide)
  show wpAny _ _ (if (((items.size : Int) - 1) == 0 && (-1 : Int) == 1 && items.size == items.size) = true then _ else _) _ _ s
  rw [if_neg hno, pick_rev]
  first
    | exact wpAny_bind (m := Builtin.Tuple.tupleExact _) (wpAny_newObj_type (wpAny_pure ⟨_, rfl, wpAny_pure h⟩) htake)
    | exact wpAny_bind (m := Builtin.Tuple.tupleExact _) (wpAny_newObj_type (wpAny_bind (wpAny_pure (wpAny_pure ⟨_, rfl, wpAny_pure h⟩))) htake)
    | exact wpAny_bind (wpAny_bind (m := Builtin.Tuple.tupleExact _) (wpAny_newObj_type (wpAny_pure (wpAny_pure ⟨_, rfl, wpAny_pure h⟩)) htake))
    | exact wpAny_bind (wpAny_bind (m := Builtin.Tuple.tupleExact _) (wpAny_newObj_type (wpAny_pure ⟨_, rfl, wpAny_pure h⟩) htake))
end
/-- x[::-1], x a list or a tuple -/
def tRevA (K : PySem.W.Frag) (te : TE) : TE := fun σ H Q => te σ H fun x H1 => ∃ a xs, x = .ref a ∧ ((SqL K H1 a xs ∧ ∀ p, H1 p = none → Q (.ref p) (upd H1 p (.lst xs.reverse))) ∨ (SqT K H1 a xs ∧ ∀ p, H1 p = none → Q (.ref p) (upd H1 p (.tup xs.reverse))))
theorem pe_revA {X : Cx} {e : Expr} {te : TE} {k : Nat} {p1 p2 p3 pos : Pos} (he : PE X e te) : PE X (.Subscript e (.Slice none none (some (.UnaryOp .USub (.Constant (.int 1) k p1) p2)) p3) pos) (tRevA X.K te) := by
  refine ⟨fun pins s σ H Q I h => ?_⟩
  refine Subscript_ (thn (he.run pins s σ H _ I h) fun v s1 ⟨x, H1, I1, r1, q1⟩ => ?_)
  obtain ⟨a, xs, ex, hx⟩ := q1
  subst ex
  cases r1
  have hst : PO X (some (.UnaryOp .USub (.Constant (.int 1) k p1) p2)) (tPart (tUn (rU fun i => .int (-i)) (tC (.int 1)))) := po_some (pe_un un_neg pe_int)
  refine wpAny_Slice (thn (po_none.run pins s1 σ H1 (fun o H2 => o = none ∧ H2 = H1) I1 ⟨rfl, rfl⟩) fun vl s2 ⟨l, H2, I2, pl, el, e2⟩ => ?_)
  subst el e2
  refine thn (po_none.run pins s2 σ H2 (fun o H3 => o = none ∧ H3 = H2) I2 ⟨rfl, rfl⟩) fun vu s3 ⟨u, H3, I3, pu, eu, e3⟩ => ?_
  subst eu e3
  refine thn (hst.run pins s3 σ H3 (fun o H4 => o = some (-1) ∧ H4 = H3) I3 ⟨1, rfl, -1, rfl, rfl, rfl⟩) fun vs s4 ⟨o, H4, I4, ps, eo, e4⟩ => ?_
  subst eo e4
  have I5 : Inv X pins σ H4 { s4 with heap := s4.heap.push { cls := .type "slice", data := .fields #[vl, vu, vs] } } := I4.kept (t' := s4.toks) fun b ob q => Heap.get?_push_of_some _ q
  show wpAny (model X.prog X.w) X.A (subscriptTail e (.Slice none none (some (.UnaryOp .USub (.Constant (.int 1) k p1) p2)) p3) (.ref a) (.ref s4.heap.objs.size)) (EP X pins σ Q) X.xe { s4 with heap := s4.heap.push { cls := .type "slice", data := .fields #[vl, vu, vs] } }
  rcases hx with ⟨hx, q⟩ | ⟨hx, q⟩
  · obtain ⟨its, r, ht, hz⟩ := I5.list hx
    have hlen := r.length
    refine tail_any (ops := [.ref a, .ref s4.heap.objs.size]) ht.isList.typeIs (PySem.slot_list_getitem.lookup) ?_ (by with_unfolding_all rfl)
    refine wpAny_getItem_list_slice ht.isList (Heap.IsSliceOf.new _ vl vu vs) pl pu ps (by decide) ?_ (by rw [List.size_toArray]; omega)
    rw [PySem.W.krv_pick]
    refine ⟨.ref _, _, I5.laid (t' := s4.toks) (o := .lst xs.reverse) (fun b ob q => Heap.get?_push_of_some _ q) (Nat.le_refl _) ?_, rfl, q _ (I5.hok.fresh (Nat.le_refl _))⟩
    exact ⟨by rw [List.length_reverse]; exact hz, _, 0, r.reverse, Heap.get?_push_size _ rfl⟩
  · obtain ⟨its, r, ht, hz⟩ := I5.tuple hx
    have hlen := r.length
    cases pl; cases pu
    refine tail_any (ops := [.ref a, .ref s4.heap.objs.size]) ht.typeIs PyProof.Rows.slot_tuple_getitem.lookup ?_ (by with_unfolding_all rfl)
    refine getItem_tuple_rev ht (Heap.IsSliceOf.new _ .none .none vs) ps ?_ (by rw [List.size_toArray]; omega)
    refine ⟨.ref _, _, I5.laid (t' := s4.toks) (o := .tup xs.reverse) (fun b ob q => Heap.get?_push_of_some _ q) (Nat.le_refl _) ?_, rfl, q _ (I5.hok.fresh (Nat.le_refl _))⟩
    exact ⟨by rw [List.length_reverse]; exact hz, _, r.reverse, IsTup.new _ _⟩
/-! ### enumerate(tuple) -/
section
variable {prog : Program} {w : World} {A : Around} {E : Value → Shared → Prop} {s : Shared}
theorem enumT_next_item {e it l : Addr} {i : Nat} {items : Array Value} {x old : Value} {Q : Value → Shared → Prop}
    (he : IsEnum s.heap e it i old) (hit : s.heap.IsTupleIter it l i) (hl : s.heap.IsTuple l items) (hx : items[i]? = some x) (hne : e ≠ it)
    (hQ : ∀ h', IsEnumOut h' e it ((i : Int) + 1) x s.heap.objs.size → h'.IsTupleIter it l (i + 1) →
      h'.get? s.heap.objs.size = some { cls := .type "tuple", data := .seq #[.int i s.toks, x] } → h'.objs.size = s.heap.objs.size + 1 →
      (∀ b o, b ≠ e → b ≠ it → s.heap.get? b = some o → h'.get? b = some o) → Q (.ref s.heap.objs.size) { s with heap := h', toks := s.toks + 1 }) :
    wpAny (model prog w) A (Builtin.«enumerate.__next__» ⟨[.ref e], []⟩) (fun fin s' => ∃ v, fin = .done (.ret v) ∧ Q v s') E s := by
  obtain ⟨hp, g, d, tk, os⟩ := s
  show wpAny _ _ (field (.ref e) 2 >>= _) _ _ _
  refine wpAny_bind (wpAny_field he rfl (x := .ref it) rfl ?_)
  refine wpAny_bind (RZ.nextOf_tuple_item hit hl hx fun h₁ hit₁ hs₁ => ?_)
  replace hs₁ : Heap.SameBut it hp h₁ := hs₁
  have he₁ : IsEnum h₁ e it i old := (hs₁.2 e hne).trans he
  show wpAny _ _ (field (.ref e) 3 >>= _) _ _ ⟨h₁, g, d, tk, os⟩
  refine wpAny_bind (wpAny_field he₁ rfl (x := rawInt i) rfl ?_)
  show wpAny _ _ (field (.ref e) 4 >>= _) _ _ ⟨h₁, g, d, tk, os⟩
  refine wpAny_bind (wpAny_field he₁ rfl (x := .none) rfl ?_)
  show wpAny _ _ (mkInt i >>= _) _ _ ⟨h₁, g, d, tk, os⟩
  refine wpAny_bind (wpAny_mkInt ?_)
  show wpAny _ _ (setField (.ref e) 3 (rawInt ((i : Int) + 1)) >>= _) _ _ ⟨h₁, g, d, tk + 1, os⟩
  refine wpAny_bind (wpAny_setField_rec he₁ (by simp) fun h₂ he₂ hs₂ => ?_)
  replace hs₂ : Heap.SameBut e h₁ h₂ := hs₂
  replace he₂ : IsEnum h₂ e it ((i : Int) + 1) old := he₂
  show wpAny _ _ (setField (.ref e) 4 .none >>= _) _ _ ⟨h₂, g, d, tk + 1, os⟩
  refine wpAny_bind (wpAny_setField_rec he₂ (by simp) fun h₃ he₃ hs₃ => ?_)
  replace hs₃ : Heap.SameBut e h₂ h₃ := hs₃
  replace he₃ : IsEnum h₃ e it ((i : Int) + 1) old := he₃
  show wpAny _ _ (newTuple [.int i tk, x] >>= _) _ _ ⟨h₃, g, d, tk + 1, os⟩
  refine wpAny_bind (wpAny_newTuple ?_)
  have he₄ : IsEnum (h₃.push { cls := .type "tuple", data := .seq #[.int i tk, x] }) e it ((i : Int) + 1) old := Heap.get?_push_of_some _ he₃
  generalize hh₄ : h₃.push { cls := .type "tuple", data := .seq #[.int i tk, x] } = h₄ at he₄
  have hsz : h₃.objs.size = hp.objs.size := by rw [hs₃.1, hs₂.1, hs₁.1]
  have hel : e < hp.objs.size := Heap.lt_size he
  have ht₄ : h₄.get? hp.objs.size = some { cls := .type "tuple", data := .seq #[.int i tk, x] } := by rw [← hh₄, ← hsz]; exact Heap.get?_push_size _ rfl
  have hz₄ : h₄.objs.size = hp.objs.size + 1 := by rw [← hh₄, Heap.size_push, hsz]
  have hk₄ : ∀ b o, b ≠ e → b ≠ it → hp.get? b = some o → h₄.get? b = some o := fun b o hbe hbi hb => by
    rw [← hh₄]; exact Heap.get?_push_of_some _ (hs₃.extBut b o hbe (hs₂.extBut b o hbe (hs₁.extBut b o hbi hb)))
  have hit₄ : h₄.IsTupleIter it l (i + 1) := by
    rw [← hh₄]; obtain ⟨o, ho, r⟩ := (hit₁.extBut hs₂.extBut (Ne.symm hne)).extBut hs₃.extBut (Ne.symm hne); exact ⟨o, Heap.get?_push_of_some _ ho, r⟩
  show wpAny _ _ (Builtin.SmallTypes.ownedTupleIsFree (.ref e) >>= _) _ _ ⟨h₄, g, d, tk + 1, os⟩
  rw [hsz]
  clear hh₄ he₃ hs₃ he₂ hs₂ he₁ hs₁ hit₁ hsz h₃ h₂ h₁
  refine wpAny_bind ?_
  · unfold Builtin.SmallTypes.ownedTupleIsFree
    refine wpAny_bind (wpAny_field he₄ rfl (x := .none) rfl (wpAny_pure ?_))
    simp only [if_true]
    refine wpAny_bind (wpAny_rule ?_)
    refine wpAny_bind (wpAny_field he₄ rfl (x := old) rfl ?_)
    refine wpAny_bind (wpAny_setField_rec he₄ (by simp) fun h₅ he₅ hs₅ => ?_)
    replace hs₅ : Heap.SameBut e h₄ h₅ := hs₅
    replace he₅ : IsEnum h₅ e it ((i : Int) + 1) x := he₅
    show wpAny _ _ (Builtin.SmallTypes.ownedTupleHandOut (.ref e) (.ref hp.objs.size) >>= _) _ _ ⟨h₅, g, d, tk + 1, os⟩
    refine wpAny_bind ?_
    · unfold Builtin.SmallTypes.ownedTupleHandOut
      refine wpAny_bind (wpAny_setField_rec he₅ (by simp) fun h₆ he₆ hs₆ => ?_)
      replace hs₆ : Heap.SameBut e h₅ h₆ := hs₆
      replace he₆ : IsEnumOut h₆ e it ((i : Int) + 1) x hp.objs.size := he₆
      refine wpAny_setField_rec he₆ (by simp) fun h₇ he₇ hs₇ => ?_
      replace hs₇ : Heap.SameBut e h₆ h₇ := hs₇
      replace he₇ : IsEnumOut h₇ e it ((i : Int) + 1) x hp.objs.size := he₇
      refine wpAny_bind (wpAny_letGo (wpAny_pure ⟨_, rfl, hQ h₇ he₇ ?_ ?_ ?_ ?_⟩))
      · exact ((hit₄.extBut hs₅.extBut (Ne.symm hne)).extBut hs₆.extBut (Ne.symm hne)).extBut hs₇.extBut (Ne.symm hne)
      · exact hs₇.extBut _ _ (Nat.ne_of_gt hel) (hs₆.extBut _ _ (Nat.ne_of_gt hel) (hs₅.extBut _ _ (Nat.ne_of_gt hel) ht₄))
      · rw [hs₇.1, hs₆.1, hs₅.1, hz₄]
      · exact fun b o hbe hbi hb => hs₇.extBut b o hbe (hs₆.extBut b o hbe (hs₅.extBut b o hbe (hk₄ b o hbe hbi hb)))
theorem pyNext_enumT_item {e it l : Addr} {i : Nat} {items : Array Value} {x old : Value} {Q : Option Value → Shared → Prop}
    (he : IsEnum s.heap e it i old) (hit : s.heap.IsTupleIter it l i) (hl : s.heap.IsTuple l items) (hx : items[i]? = some x) (hne : e ≠ it)
    (hQ : ∀ h', IsEnumOut h' e it ((i : Int) + 1) x s.heap.objs.size → h'.IsTupleIter it l (i + 1) →
      h'.get? s.heap.objs.size = some { cls := .type "tuple", data := .seq #[.int i s.toks, x] } → h'.objs.size = s.heap.objs.size + 1 →
      (∀ b o, b ≠ e → b ≠ it → s.heap.get? b = some o → h'.get? b = some o) → Q (some (.ref s.heap.objs.size)) { s with heap := h', toks := s.toks + 1 }) :
    wpAny (model prog w) A (pyNext (.ref e)) Q E s := by
  have hT : s.TypeIs (.ref e) "enumerate" := ⟨_, he, rfl⟩
  unfold pyNext
  exact wpAny_bind (wpAny_attempt (wpAny_callSpecial?_slot (name := Str.ofString "__next__") hT F.slot_enumerate_next
    (wpAny_call_entry F.slot_enumerate_next hT F.entry_enumerate_next
      (enumT_next_item he hit hl hx hne fun h' a b c d k => wpAny_pure (hQ h' a b c d k)) (F.args_enumerate_next_1 _))))
theorem pyNext_enumT_end {e it l : Addr} {i : Nat} {items : Array Value} {old : Value} {Q : Option Value → Shared → Prop} (hh : A.handled = none)
    (he : IsEnum s.heap e it i old) (hit : s.heap.IsTupleIter it l i) (hl : s.heap.IsTuple l items) (hx : items[i]? = none)
    (hQ : ∀ h', Heap.ExtBut it s.heap h' → Q none { s with heap := h' }) : wpAny (model prog w) A (pyNext (.ref e)) Q E s := by
  have hT : s.TypeIs (.ref e) "enumerate" := ⟨_, he, rfl⟩
  unfold pyNext
  refine wpAny_bind (wpAny_attempt (wpAny_callSpecial?_slot (name := Str.ofString "__next__") hT F.slot_enumerate_next
    (wpAny_call_entry F.slot_enumerate_next hT F.entry_enumerate_next ?_ (F.args_enumerate_next_1 _))))
  show wpAny _ _ (field (.ref e) 2 >>= _) _ _ _
  refine wpAny_bind (wpAny_field he rfl (x := .ref it) rfl ?_)
  refine wpAny_bind (RZ.nextOf_tuple_end hh hit hl hx fun h' x he' hx' => ?_)
  obtain ⟨o, ho, hc⟩ := hx'
  refine wpAny_bind (wpAny_isInstance (T := "StopIteration") (b := true) ⟨o, ho, hc⟩ isSubtype_stop ?_)
  exact wpAny_pure (hQ _ he')
theorem meets_enumerate_newT (l : Addr) (items : Array Value) :
    Meets (Builtin.«enumerate.__new__» ⟨[.type "enumerate", .ref l], []⟩) (fun _ R s => s.heap.IsTuple l items ∧
      R (.ok (.ret (.ref (s.heap.push { cls := .type "tuple_iterator", data := .fields #[.ref l, .int 0 0] }).objs.size)))
        { s with heap := (s.heap.push { cls := .type "tuple_iterator", data := .fields #[.ref l, .int 0 0] }).push { cls := .type "enumerate", data := .fields #[.none, .bool false, .ref s.heap.objs.size, rawInt 0, .none, .none] } }) :=
  .of_wp fun prog w A R s h => by
    obtain ⟨hp, g, d, tk, os⟩ := s; obtain ⟨hl, h⟩ := h
    have hsub := sub_enumerate
    have hL : Heap.IsTuple (Shared.heap ⟨hp, g, d, tk, os⟩) l items := hl
    wp_walk using wpAny_pyIter_tuple hL
    refine wpAny_stack_any fun st => wpAny_pure ?_
    split
    · rename_i c _ _ _ _ _
      cases (c == Value.type "enumerate")
      · wp_walk using wpAny_pyIter_tuple hL
        exact ⟨_, rfl, h⟩
      · wp_walk using wpAny_pyIter_tuple hL
        exact ⟨_, rfl, h⟩
    · wp_walk using wpAny_pyIter_tuple hL
      exact ⟨_, rfl, h⟩
theorem call_enumerate_tup {l : Addr} {items : Array Value} {Q : Value → Shared → Prop} (hL : s.heap.IsTuple l items)
    (h : ∀ h', IsEnum h' (s.heap.objs.size + 1) s.heap.objs.size 0 .none → h'.IsTupleIter s.heap.objs.size l 0 → h'.objs.size = s.heap.objs.size + 2 →
      (∀ b o, s.heap.get? b = some o → h'.get? b = some o) → Q (.ref (s.heap.objs.size + 1)) { s with heap := h' }) :
    wpAny (model prog w) A (call (.type "enumerate") [.ref l]) Q E s := by
  refine callType_new F.called_enumerate (by decide) (F.typeCall_enumerate_1 _) (F.newCall_enumerate_1 _) (fun obj => F.args_object_init_2 obj _) F.entry_enumerate_new
    (meets_enumerate_newT l items) ⟨hL, ?_⟩
  have hz : (s.heap.push { cls := .type "tuple_iterator", data := .fields #[.ref l, .int 0 0] }).objs.size = s.heap.objs.size + 1 := Heap.size_push ..
  show _ ∧ _
  rw [hz]
  have he : IsEnum ((s.heap.push { cls := .type "tuple_iterator", data := .fields #[.ref l, .int 0 0] }).push
      { cls := .type "enumerate", data := .fields #[.none, .bool false, .ref s.heap.objs.size, rawInt 0, .none, .none] }) (s.heap.objs.size + 1) s.heap.objs.size 0 .none := by
    have := Heap.get?_push_size (s.heap.push { cls := .type "tuple_iterator", data := .fields #[.ref l, .int 0 0] })
      (o := { cls := .type "enumerate", data := .fields #[.none, .bool false, .ref s.heap.objs.size, rawInt 0, .none, .none] }) rfl
    rw [hz] at this; exact this
  refine ⟨⟨_, he, rfl⟩, h _ he ⟨_, Heap.get?_push_of_some _ (Heap.get?_push_size _ rfl), rfl, rfl⟩ (by rw [Heap.size_push, hz]) fun b o x => Heap.get?_push_of_some _ (Heap.get?_push_of_some _ x)⟩
end
/-- the tuple at a, each item in a new pair -/
def IteT (K : PySem.W.Frag) (a : Addr) : It :=
  ⟨fun i H => ∃ (xs : List V) (x : V), SqT K H a xs ∧ xs[i]? = some x, fun i H v H' => ∃ T x, v = .ref T ∧ H T = none ∧ H' = upd H T (.tup [.int (i : Nat), x]) ∧ ∀ xs, SqT K H a xs → xs[i]? = some x, fun i H => ∃ xs : List V, SqT K H a xs ∧ xs.length ≤ i⟩
theorem turn_enumT {P : Program} {w : World} {K : PySem.W.Frag} {elts : List Expr} {kk : Nat} {tpos : Pos} (a e it : Addr) :
    Turn P w K (.Tuple elts kk tpos) (IteT K a) [e, it] e (fun i h => (∃ old, IsEnum h e it ((i : Nat) : Int) old) ∧ h.IsTupleIter it a i ∧ e ≠ it) where
  mem := by simp
  obj := fun i h st b hb => by
    obtain ⟨⟨old, he⟩, ⟨o, ho, hc, hd⟩, _⟩ := st
    have e' : b = e ∨ b = it := by simpa using hb
    rcases e' with z | z
    · rw [z]; exact ⟨_, he, fun v q => nomatch q⟩
    · rw [z]; exact ⟨o, ho, fun v q => by rw [hd] at q; cases q⟩
  keep := fun i h h' st k => let ⟨⟨old, he⟩, hi, hne⟩ := st; ⟨⟨old, k e (by simp) _ he⟩, hi.at fun o q => k it (by simp) o q, hne⟩
  item := by
    intro X hP hw hK hc i pins s σ H E I hf st hg
    subst hP hw hK
    obtain ⟨⟨old, he⟩, hit, hne⟩ := st
    obtain ⟨xs, x, hq, hx⟩ := hg
    obtain ⟨its, rv, p, hz⟩ := I.tuple hq
    obtain ⟨u, hu, ru⟩ := rv.get hx
    have hel : e < s.heap.objs.size := Heap.lt_size he
    have hil : it < s.heap.objs.size := by obtain ⟨_, q, _⟩ := hit; exact Heap.lt_size q
    refine pyNext_enumT_item he hit p (x := u) (by simpa using hu) hne fun h' ho hit' hT hsz hk => ?_
    refine ⟨_, rfl, wpAny_letOwnedTupleGo_enum (s := { s with heap := h', toks := s.toks + 1 }) ho fun h'' he' sb => ?_⟩
    have hT2 : h''.get? s.heap.objs.size = some { cls := .type "tuple", data := .seq #[.int i s.toks, u] } := (sb.2 _ (Nat.ne_of_gt hel)).trans hT
    have new : ObjOk X.prog X.w (upd H s.heap.objs.size (.tup [.int (i : Nat), x])) h'' s.heap.objs.size (.tup [.int (i : Nat), x]) :=
      ⟨by show 2 ≤ sizeLine; decide, [.int i s.toks, u], .cons ⟨_, rfl⟩ (.cons ru .nil), ⟨_, hT2, rfl, _, rfl⟩⟩
    have I1 : Inv X pins σ (upd H s.heap.objs.size (.tup [.int (i : Nat), x])) { s with heap := h'', toks := s.toks + 1 } :=
      I.turnedNew (ch := [e, it]) (fun b ob hb q => (sb.2 b (fun z => hb (by simp [z]))).trans (hk b ob (fun z => hb (by simp [z])) (fun z => hb (by simp [z])) q)) hf (Nat.le_refl _) new
    refine ⟨.ref s.heap.objs.size, _, I1, rfl, ⟨_, x, rfl, I.hok.fresh (Nat.le_refl _), rfl, fun ys hy => by rw [I.tuple_inj hy hq]; exact hx⟩, ⟨⟨u, ?_⟩, hit'.at fun o q => (sb.2 it (Ne.symm hne)).trans q, hne⟩, fun b hb => ?_⟩
    · have e1 : ((i + 1 : Nat) : Int) = (i : Int) + 1 := by omega
      rw [e1]; exact he'
    · have hb' : b < s.heap.objs.size := by
        have e' : b = e ∨ b = it := by simpa using hb
        rcases e' with z | z
        · rw [z]; exact hel
        · rw [z]; exact hil
      rw [upd_ne (Nat.ne_of_lt hb')]
      exact (hf b hb).1
  done := by
    intro X hP hw hK hc i pins s σ H E I hf st hg
    subst hP hw hK
    obtain ⟨⟨old, he⟩, hit, hne⟩ := st
    obtain ⟨xs, hq, hx⟩ := hg
    obtain ⟨its, rv, p, hz⟩ := I.tuple hq
    obtain ⟨f0, f1, f2, f3, f4, f5⟩ := hf it (by simp)
    have hl := rv.length
    exact pyNext_enumT_end (I.ok.hd hc) he hit p (by simp; omega) fun h' eb => ⟨rfl, I.turned (t' := s.toks) (fun b o hb q => eb b o hb q) f0 f1 f3 f4 f5⟩
  self := fun A i s Q E st h => let ⟨⟨_, he⟩, _⟩ := st; wpAny_pyIter_enum he h
def iEnumA (K : PySem.W.Frag) (ta : TA) : TI := fun σ H R => ta σ H fun vs H1 => ∃ a xs, vs = [.ref a] ∧ ((SqL K H1 a xs ∧ R (Ite K a) H1) ∨ (SqT K H1 a xs ∧ R (IteT K a) H1))
theorem pi_enumA {X : Cx} {e : Expr} {ta : TA} {p pos tpos : Pos} {elts : List Expr} {kk : Nat} (hg : Gl X "enumerate") (hm : X.mg "enumerate" = none) (ha : PA X [e] ta) (hs : starEach [e] X.env = [(false, eval e X.env)] := by rfl) :
    PI X (.Tuple elts kk tpos) (.Call (.Name "enumerate" p) [e] [] pos) (iEnumA X.K ta) := by
  refine ⟨fun pins s σ H R I h => ?_⟩
  refine Call_ (ld_blt I hg hm boot_enumerate (PyProof.Rows.callWith_type1 (thn (ha.run pos pins s σ H _ I h) fun us s1 ⟨vs, H1, I1, r1, q1⟩ => ?_) hs rfl))
  obtain ⟨a, xs, ex, q1⟩ := q1
  subst ex
  cases r1 with
  | cons r rr =>
    cases rr
    cases r
    have fp : ∀ {b : Addr}, b ∈ [s1.heap.objs.size + 1, s1.heap.objs.size] → s1.heap.objs.size ≤ b := fun {b} hb => by
      have e' : b = s1.heap.objs.size + 1 ∨ b = s1.heap.objs.size := by simpa using hb
      rcases e' with z | z
      · rw [z]; exact Nat.le_add_right _ _
      · rw [z]; exact Nat.le_refl _
    rcases q1 with ⟨hq, q⟩ | ⟨hq, q⟩
    · obtain ⟨its, rv, p', hz⟩ := I1.list hq
      refine call_enumerate_list p'.isList fun h' he hit hsz hk => wpAny_pyIter_enum he ?_
      have I2 : Inv X pins σ H1 { s1 with heap := h' } := I1.kept (t' := s1.toks) hk
      exact ⟨s1.heap.objs.size + 1, [s1.heap.objs.size + 1, s1.heap.objs.size], _, _, H1, rfl, I2, turn_enum a (s1.heap.objs.size + 1) s1.heap.objs.size, ⟨⟨.none, he⟩, hit, Nat.succ_ne_self _⟩, fun b hb => I1.fpOk (fp hb) (I1.hok.fresh (fp hb)), q⟩
    · obtain ⟨its, rv, p', hz⟩ := I1.tuple hq
      refine call_enumerate_tup p' fun h' he hit hsz hk => wpAny_pyIter_enum he ?_
      have I2 : Inv X pins σ H1 { s1 with heap := h' } := I1.kept (t' := s1.toks) hk
      exact ⟨s1.heap.objs.size + 1, [s1.heap.objs.size + 1, s1.heap.objs.size], _, _, H1, rfl, I2, turn_enumT a (s1.heap.objs.size + 1) s1.heap.objs.size, ⟨⟨.none, he⟩, hit, Nat.succ_ne_self _⟩, fun b hb => I1.fpOk (fp hb) (I1.hok.fresh (fp hb)), q⟩
theorem walk_enumT {K : PySem.W.Frag} {a : Addr} {xs : List V} : Walk (IteT K a) xs.length (fun H => SqT K H a xs) (YPair (fun i => some (.int (i : Nat))) (fun i => xs[i]?)) := by
  refine ⟨fun i _ hi q => ⟨xs, xs[i], q, by simp [hi]⟩, fun _ q => ⟨xs, q, Nat.le_refl _⟩, fun i H v H' _ q y => ?_⟩
  obtain ⟨T, x, h1, h2, h3, h4⟩ := y
  exact ⟨T, .int (i : Nat), x, h1, h2, h3, rfl, h4 xs q⟩
section
variable {X : Cx} {G : Cfg} {W : WX} {σ : L2.St} {δ : DE} {M M' M1 M2 : Imm} {r r' r1 r2 : List Addr} {h h' h1 h2 : Bx} {H H' H1 H2 : Hp} {E : Ends}
variable {e c : Expr} {f g : EF} {tg : Expr} {fs : DE → Bx → R (List D)} {pos : Pos}
/-- x[::-1] -/
def revK (d : D) (δ : DE) (h : Bx) : R D := match d with
  | .tup ds => .ok (.tup ds.reverse) h
  | d => match lstOf δ h d with
    | some ds => .ok (.lst ds.reverse) h
    | none => .bad
def revF (f : EF) : EF := fun δ h => (f δ h).bind fun d h1 => revK d δ h1
theorem Reps.rev {J : Jd} {ds : List D} {vs : List V} (t : Reps J M r ds vs) : Reps J M r ds.reverse vs.reverse := by
  induction ds generalizing vs with
  | nil => cases t; rfl
  | cons d ds ih =>
    obtain ⟨v, vt, rfl, e1, e2⟩ := t
    rw [List.reverse_cons, List.reverse_cons]
    exact (ih e2).append (Reps.one e1)
theorem ev_rev {k : Nat} {p1 p2 p3 : Pos} (ha : Ev X G W e f) (hK : X.K = G.K) : Ev X G W (.Subscript e (.Slice none none (some (.UnaryOp .USub (.Constant (.int 1) k p1) p2)) p3) pos) (revF f) :=
  PE.imp (pe_revA ha) fun σ H Q q => by
    rw [hK]
    obtain ⟨M, r, h, δ, b, q⟩ := q
    refine ⟨M, r, h, δ, b, (After.bind q).more fun x H1 ⟨d, M1, r1, h1, s1, b1, rx, q1⟩ => ?_⟩
    unfold revK at q1
    split at q1
    · rename_i ds
      obtain ⟨a, vs, rfl, m, t⟩ := rx
      exact ⟨a, vs, rfl, .inr ⟨sqT_of b1 m, tup_new b1 t.rev (by rw [List.length_reverse, ← t.length]; exact tup_big b1 m) q1⟩⟩
    · split at q1
      · rename_i ds z
        obtain ⟨a, vs, rfl, hs, t, l⟩ := b1.lst rx z
        exact ⟨a, vs, rfl, .inl ⟨hs, lst_new b1 t.rev (by rw [List.length_reverse]; exact l) q1⟩⟩
      · exact q1.elim
/-- enumerate -/
def enumD (ds : List D) : List D := (List.range ds.length).map fun i => .tup [.int (i : Nat), ds.getD i .non]
def enumK (ds : List D) (_ : DE) (h : Bx) : R (List D) := match ds with
  | [d] => match immOf d with
    | some es => .ok (enumD es) h
    | none => .bad
  | _ => .bad
theorem evi_enum {p tpos : Pos} {elts : List Expr} {kk : Nat} (hg : Gl X "enumerate") (hm : X.mg "enumerate" = none) (ha : EvA X G W [e] fs) (hK : X.K = G.K) (hs : starEach [e] X.env = [(false, eval e X.env)] := by rfl) :
    EvI X G W (.Tuple elts kk tpos) (.Call (.Name "enumerate" p) [e] [] pos) (fun δ h => (fs δ h).bind fun ds h1 => enumK ds δ h1) := PI.imp (pi_enumA hg hm ha hs) fun σ H Q q => by
  rw [hK]
  obtain ⟨M, r, h, δ, b, q⟩ := q
  refine ⟨M, r, h, δ, b, (AfterI.bind (rl := rVs G.J δ σ) q).more fun vs H1 ⟨ds, M1, r1, h1, s1, b1, rv, q1⟩ => ?_⟩
  unfold enumK at q1
  split at q1
  · rename_i d
    obtain ⟨v, rfl, rx⟩ := one_rep rv
    split at q1
    · rename_i es z
      cases d with
      | tup ds =>
        cases z
        obtain ⟨a, us, rfl, m, t⟩ := rx
        refine ⟨a, us, rfl, .inr ⟨sqT_of b1 m, q1 _ M1 r1 H1 Stp.refl b1 ?_⟩⟩
        exact good_pair (as := fun i => .int (i : Nat)) (bs := fun i => es.getD i .non) (by rw [← t.length]; exact walk_enumT) (fun M' r' h δ σ H le pr b' => sqT_of b' (m.imp (le _ _) id)) fun i x y _ e1 e2 => ⟨by cases e1; rfl, reps_getD t e2⟩
      | lst ds =>
        cases z
        obtain ⟨a, us, rfl, m, t⟩ := rx
        refine ⟨a, us, rfl, .inl ⟨.inl (.inl (b1.mok _ _ m).2), q1 _ M1 r1 H1 Stp.refl b1 ?_⟩⟩
        exact good_pair (as := fun i => .int (i : Nat)) (bs := fun i => es.getD i .non) (by rw [← t.length]; exact walk_enum) (gd := fun M' r' h δ σ H le pr b' => show SqL G.K H a us from .inl (.inl (b'.mok _ _ (le _ _ m)).2)) fun i x y _ e1 e2 => ⟨by cases e1; rfl, reps_getD t e2⟩
      | frz ds =>
        cases z
        obtain ⟨a, us, rfl, m, t⟩ := rx
        refine ⟨a, us, rfl, .inl ⟨sqF b1 m, q1 _ M1 r1 H1 Stp.refl b1 ?_⟩⟩
        exact good_pair (as := fun i => .int (i : Nat)) (bs := fun i => es.getD i .non) (by rw [← t.length]; exact walk_enum) (gd := fun M' r' h δ σ H le pr b' => sqF b' (m.imp (fun ⟨o, z, y⟩ => ⟨o, le _ _ z, y⟩) id)) fun i x y _ e1 e2 => ⟨by cases e1; rfl, reps_getD t e2⟩
      | _ => cases z
    · exact q1.elim
  · exact q1.elim
end
end LP
/-! LpI: several names at once; lists added and repeated; a written dict; rows never reached. -/
namespace LP
open PySem PySem.Spec PyProof.Rows L2 HT
section
variable {X : Cx} {G : Cfg} {W : WX} {σ : L2.St} {δ : DE} {M M' M1 M2 : Imm} {r r' r1 r2 : List Addr} {h h' h1 h2 : Bx} {H H' H1 H2 : Hp} {E : Ends}
variable {e c : Expr} {f g : EF} {tg : Expr} {fs : DE → Bx → R (List D)} {pos : Pos}
/-! ### a list that stands, of no slot yet -/
structure Lone (G : Cfg) (M : Imm) (r : List Addr) (δ : DE) (σ : L2.St) (H : Hp) (ds : List D) (a : Addr) : Prop where
  m : M a = none
  n : a ∉ r
  f : Free G.H0 a
  no : NoOwn δ σ a
  z : ds.length ≤ big
  at_ : ∃ vs, H a = some (.lst vs) ∧ Reps G.J M r ds vs
theorem Lone.step {ds : List D} {a : Addr} (l : Lone G M r δ σ H ds a) (s : Stp M r H M' r' H') : Lone G M' r' δ σ H' ds a := by
  obtain ⟨vs, q, t⟩ := l.at_
  have nf : IsL H a := ⟨_, q⟩
  exact ⟨s.nf a l.m nf l.n, fun z => (s.new a z).elim l.n nf.nf, l.f, l.no, l.z, vs, s.keep a _ q (fun ps y => by cases y) l.n, Reps.mono s.le s.pre _ _ t⟩
theorem BS.take (b : BS G M r h δ σ H) {i : Nat} {ds : List D} {a : Addr} (l : Lone G M r δ σ H ds a) : BS G M r h (δ.set i (.own ds)) (σ.set i (some (.ref a))) H := by
  obtain ⟨vs, q, t⟩ := l.at_
  have no := l.no
  have at_ : ∀ {j : Nat} {s : SV}, (δ.set i (.own ds))[j]? = some s → i ≠ j → δ[j]? = some s := fun e n => by rwa [List.getElem?_set_ne n] at e
  have lt : ∀ {s : SV}, (δ.set i (.own ds))[i]? = some s → i < δ.length ∧ s = .own ds := fun {s} e => by
    have hi : i < δ.length := by
      have := (List.getElem?_eq_some_iff.mp e).1
      simpa using this
    rw [List.getElem?_set_self hi] at e
    exact ⟨hi, (Option.some.inj e).symm⟩
  refine ⟨b.mok, b.bx, b.tb, by rw [List.length_set, List.length_set]; exact b.len, fun j s x e1 e2 => ?_, fun j l' es us e1 e2 n => ?_, b.le, b.pre, b.new, b.keep, b.nf⟩
  · by_cases hj : i = j
    · subst hj
      obtain ⟨hi, rfl⟩ := lt e1
      rw [List.getElem?_set_self (by rw [b.len]; exact hi)] at e2
      cases e2
      exact ⟨a, vs, rfl, l.m, l.n, l.f, l.z, q, t⟩
    · rw [List.getElem?_set_ne hj] at e2
      exact b.sl j s x (at_ e1 hj) e2
  · by_cases hj : i = j
    · subst hj
      obtain ⟨hi, _⟩ := lt e1
      rw [List.getElem?_set_self (by rw [b.len]; exact hi), List.getElem?_set_ne n]
      exact fun y => no l' us (at_ e2 n) y.symm
    · by_cases hl : i = l'
      · subst hl
        obtain ⟨hi, _⟩ := lt e2
        rw [List.getElem?_set_self (by rw [b.len]; exact hi), List.getElem?_set_ne hj]
        exact no j es (at_ e1 hj)
      · rw [List.getElem?_set_ne hj, List.getElem?_set_ne hl]
        exact b.sep j l' es us (at_ e1 hj) (at_ e2 hl) n
/-- values and lone lists, one behind the other -/
def RSv (G : Cfg) (M : Imm) (r : List Addr) (δ : DE) (σ : L2.St) (H : Hp) : List SV → List V → Prop
  | [], vs => vs = []
  | .no :: _, _ => False
  | .v d :: ss, vs => ∃ v vt, vs = v :: vt ∧ Rep G.J M r d v ∧ RSv G M r δ σ H ss vt
  | .own ds :: ss, vs => ∃ a vt, vs = .ref a :: vt ∧ Lone G M r δ σ H ds a ∧ RSv G M r δ σ H ss vt ∧ ∀ (j : Nat) (es : List D), ss[j]? = some (.own es) → vt[j]? ≠ some (.ref a)
theorem RSv.step (s : Stp M r H M' r' H') : ∀ {ss : List SV} {vs : List V}, RSv G M r δ σ H ss vs → RSv G M' r' δ σ H' ss vs
  | [], _, q => q
  | .no :: _, _, q => q.elim
  | .v d :: ss, _, q => by
    obtain ⟨v, vt, e, q1, q2⟩ := q
    exact ⟨v, vt, e, Rep.mono s.le s.pre _ _ q1, RSv.step s q2⟩
  | .own ds :: ss, _, q => by
    obtain ⟨a, vt, e, q1, q2, q3⟩ := q
    exact ⟨a, vt, e, q1.step s, RSv.step s q2, q3⟩
theorem RSv.at_ : ∀ {ss : List SV} {vs : List V} {j : Nat} {es : List D}, RSv G M r δ σ H ss vs → ss[j]? = some (.own es) → ∃ a, vs[j]? = some (.ref a) ∧ Lone G M r δ σ H es a
  | [], _, _, _, _, e => by simp at e
  | .no :: _, _, _, _, q, _ => q.elim
  | .v d :: ss, _, 0, _, q, e => by simp at e
  | .v d :: ss, _, j + 1, es, q, e => by
    obtain ⟨v, vt, rfl, _, q2⟩ := q
    obtain ⟨a, e1, l⟩ := RSv.at_ (j := j) q2 (by simpa using e)
    exact ⟨a, by simpa using e1, l⟩
  | .own ds :: ss, _, 0, es, q, e => by
    obtain ⟨a, vt, rfl, l, _⟩ := q
    simp at e; subst e
    exact ⟨a, rfl, l⟩
  | .own ds :: ss, _, j + 1, es, q, e => by
    obtain ⟨a, vt, rfl, _, q2, _⟩ := q
    obtain ⟨a', e1, l⟩ := RSv.at_ (j := j) q2 (by simpa using e)
    exact ⟨a', by simpa using e1, l⟩
/-- the lone ones are new -/
def NewX (H : Hp) (ss : List SV) (vs : List V) : Prop := ∀ (j : Nat) (es : List D) (a : Addr), ss[j]? = some (.own es) → vs[j]? = some (.ref a) → Free H a
def AfterX (G : Cfg) (W : WX) (σ : L2.St) (δ : DE) (M : Imm) (r : List Addr) (H : Hp) (x : R (List SV)) (Q : List V → Hp → Prop) : Prop := match x with
  | .ok ss h => ∀ vs M' r' H', Stp M r H M' r' H' → BS G M' r' h δ σ H' → RSv G M' r' δ σ H' ss vs → NewX H ss vs → Q vs H'
  | .exc c fs h => ∀ C dd M' r' H', G.mg c = some (.ref C) → Stp M r H M' r' H' → BS G M' r' h δ σ H' → ExcAt G.J M' r' H' fs dd → W (.ref C) dd σ H'
  | .bad => False
theorem NewX.back {ss : List SV} {vs : List V} (s : Stp M r H M1 r1 H1) (p : r1 <+: r') (q : RSv G M' r' δ σ H' ss vs) (n : NewX H1 ss vs) : NewX H ss vs := fun j es a e1 e2 => by
  obtain ⟨a', e3, l⟩ := q.at_ e1
  rw [e2] at e3
  cases e3
  exact (n j es a e1 e2).back s.keep fun z => l.n (p.subset (s.pre.subset z))
def EvX (X : Cx) (G : Cfg) (W : WX) (es : List Expr) (f : DE → Bx → R (List SV)) : Prop := PA X es fun σ H Q => ∃ M r h δ, BS G M r h δ σ H ∧ AfterX G W σ δ M r H (f δ h) Q
theorem AfterX.from {x : R (List SV)} {Q : List V → Hp → Prop} (s : Stp M r H M1 r1 H1) (q : AfterX G W σ δ M r H x Q) : AfterX G W σ δ M1 r1 H1 x Q := by
  cases x with
  | ok d h => exact fun vs M' r' H' a b c n => q vs M' r' H' (s.trans a) b c (n.back s a.pre c)
  | exc c fs h => exact fun C dd M' r' H' m a b e => q C dd M' r' H' m (s.trans a) b e
  | bad => exact q
def nilX : DE → Bx → R (List SV) := fun _ h => .ok [] h
def consX (f : EF) (fs : DE → Bx → R (List SV)) : DE → Bx → R (List SV) := fun δ h => (f δ h).bind fun d h1 => if isV d = true then (fs δ h1).bind fun ds h2 => .ok (.v d :: ds) h2 else .bad
def consXN (f : DE → Bx → R (List D)) (fs : DE → Bx → R (List SV)) : DE → Bx → R (List SV) := fun δ h => (f δ h).bind fun d h1 => (fs δ h1).bind fun ds h2 => .ok (.own d :: ds) h2
theorem evx_nil : EvX X G W [] nilX := PA.imp pa_nil fun σ H Q q => by
  obtain ⟨M, r, h, δ, b, q⟩ := q
  exact q [] M r H Stp.refl b rfl (fun j es a e => by simp at e)
variable {es : List Expr} {gs : DE → Bx → R (List SV)}
theorem AfterX.more {x : R (List SV)} {Q Q' : List V → Hp → Prop} (q : AfterX G W σ δ M r H x Q) (f : ∀ v H', Q v H' → Q' v H') : AfterX G W σ δ M r H x Q' := by
  cases x with
  | ok d h => exact fun v M' r' H' a b c n => f v H' (q v M' r' H' a b c n)
  | exc c fs h => exact q
  | bad => exact q
theorem AfterX.bind0 {α β : Type} {rl : Rl α β} {x : R α} {k : α → Bx → R (List SV)} {Q : List V → Hp → Prop} (q : AfterX G W σ δ M r H (x.bind k) Q) :
    After G W σ δ rl M r H x fun v H1 => ∃ d M1 r1 h1, Stp M r H M1 r1 H1 ∧ BS G M1 r1 h1 δ σ H1 ∧ rl M1 r1 d v ∧ AfterX G W σ δ M r H (k d h1) Q := by
  cases x with
  | ok d h => exact fun v M' r' H' a b c => ⟨d, M', r', h, a, b, c, q⟩
  | exc c fs h => exact q
  | bad => exact q
theorem evx_cons (ha : Ev X G W e f) (hr : EvX X G W es gs) (hs : starEach (e :: es) X.env = (false, eval e X.env) :: starEach es X.env := by rfl) : EvX X G W (e :: es) (consX f gs) :=
  PA.imp (pa_cons ha hr hs) fun σ H Q q => by
    obtain ⟨M, r, h, δ, b, q⟩ := q
    refine ⟨M, r, h, δ, b, (AfterX.bind0 (rl := rV G.J δ σ) q).more fun x H1 ⟨dx, M1, r1, h1, s1, b1, rx, q1⟩ => ?_⟩
    split at q1
    · rename_i hv
      refine ⟨M1, r1, h1, δ, b1, ?_⟩
      cases z : gs δ h1 with
      | bad => rw [z] at q1; exact q1
      | exc c fs h2 => rw [z] at q1; exact fun C dd M' r' H' m a b e => q1 C dd M' r' H' m (s1.trans a) b e
      | ok ss h2 =>
        rw [z] at q1
        simp only [R.bind_ok] at q1
        refine fun xs M2 r2 H2 s2 b2 rs nx => q1 (x :: xs) M2 r2 H2 (s1.trans s2) b2 ⟨x, xs, rfl, ?_, rs⟩ fun j es a e1 e2 => ?_
        · have := RepV.mono s2.le s2.pre rx
          cases dx with
          | loc i => cases hv
          | _ => exact this
        · cases j with
          | zero => simp at e1
          | succ j => exact nx.back s1 s2.pre rs j es a (by simpa using e1) (by simpa using e2)
    · exact q1.elim
theorem evx_consN {fn : DE → Bx → R (List D)} (ha : EvN X G W e fn) (hr : EvX X G W es gs) (hs : starEach (e :: es) X.env = (false, eval e X.env) :: starEach es X.env := by rfl) : EvX X G W (e :: es) (consXN fn gs) :=
  PA.imp (pa_cons ha hr hs) fun σ H Q q => by
    obtain ⟨M, r, h, δ, b, q⟩ := q
    refine ⟨M, r, h, δ, b, ?_⟩
    unfold consXN at q
    cases z : fn δ h with
    | bad => rw [z] at q; exact q
    | exc c fs h1 => rw [z] at q; exact q
    | ok ds h1 =>
      rw [z] at q
      simp only [R.bind_ok] at q
      intro vs M' r' H' p s b' t hz hp
      have b1 : BS G M' r' h1 δ σ (upd H' p (.lst vs)) := b'.new_list hp
      have s1 : Stp M r H M' r' (upd H' p (.lst vs)) := ⟨s.le, s.pre, s.new, fun a o e t n => upd_new hp (s.keep a o e t n), s.nf⟩
      have lone : Lone G M' r' δ σ (upd H' p (.lst vs)) ds p := ⟨b'.fresh_M hp, b'.fresh_r hp, b'.free0 hp, b'.noOwn hp, hz, vs, upd_same, t⟩
      have pf : Free H p := (Free.of hp).back s.keep fun z => b'.fresh_r hp (s.pre.subset z)
      refine ⟨M', r', h1, δ, b1, ?_⟩
      cases z : gs δ h1 with
      | bad => rw [z] at q; exact q
      | exc c fs h2 => rw [z] at q; exact fun C dd M' r' H' m a b e => q C dd M' r' H' m (s1.trans a) b e
      | ok ss h2 =>
        rw [z] at q
        simp only [R.bind_ok] at q
        refine fun xs M2 r2 H2 s2 b2 rs nx => q (.ref p :: xs) M2 r2 H2 (s1.trans s2) b2 ⟨p, xs, rfl, lone.step s2, rs, fun j es e1 e2 => ?_⟩ fun j es a e1 e2 => ?_
        · obtain ⟨ps, y⟩ := nx j es p e1 e2 _ upd_same
          cases y
        · cases j with
          | zero =>
            have e2 : some (V.ref p) = some (V.ref a) := by simpa using e2
            cases e2
            exact pf
          | succ j => exact nx.back s1 s2.pre rs j es a (by simpa using e1) (by simpa using e2)
/-- the slots take them, the last first -/
def putX (δ : DE) : List Nat → List SV → Option DE
  | [], [] => some δ
  | i :: is, s :: ss => (putX (δ.set i s) is ss)
  | _, _ => none
def setAll (σ : L2.St) : List Nat → List V → L2.St
  | i :: is, v :: vs => setAll (σ.set i (some v)) is vs
  | _, _ => σ
def parS (is : List Nat) (gs : DE → Bx → R (List SV)) : SF := fun δ h => (gs δ h).toS δ fun ss h1 => match putX δ is ss with
  | some δ' => .nx δ' h1
  | none => .bad
theorem Lone.put {ds : List D} {a : Addr} {i : Nat} {d : D} {v : V} (l : Lone G M r δ σ H ds a) : Lone G M r (δ.set i (.v d)) (σ.set i (some v)) H ds a := by
  refine ⟨l.m, l.n, l.f, fun j es e1 e2 => ?_, l.z, l.at_⟩
  by_cases hj : i = j
  · subst hj
    have hi : i < δ.length := by
      have := (List.getElem?_eq_some_iff.mp e1).1
      simpa using this
    rw [List.getElem?_set_self hi] at e1
    cases e1
  · rw [List.getElem?_set_ne hj] at e1 e2
    exact l.no j es e1 e2
theorem Lone.take {ds es : List D} {a c : Addr} {i : Nat} (l : Lone G M r δ σ H ds a) (n : c ≠ a) : Lone G M r (δ.set i (.own es)) (σ.set i (some (.ref c))) H ds a := by
  refine ⟨l.m, l.n, l.f, fun j es' e1 e2 => ?_, l.z, l.at_⟩
  by_cases hj : i = j
  · subst hj
    by_cases hi : i < σ.length
    · rw [List.getElem?_set_self hi] at e2
      cases e2
      exact n rfl
    · rw [List.getElem?_eq_none (by simpa using hi)] at e2
      cases e2
  · rw [List.getElem?_set_ne hj] at e1 e2
    exact l.no j es' e1 e2
theorem RSv.put {i : Nat} {d : D} {v : V} : ∀ {ss : List SV} {vs : List V}, RSv G M r δ σ H ss vs → RSv G M r (δ.set i (.v d)) (σ.set i (some v)) H ss vs
  | [], _, q => q
  | .no :: _, _, q => q.elim
  | .v d :: ss, _, q => by
    obtain ⟨v, vt, e, q1, q2⟩ := q
    exact ⟨v, vt, e, q1, RSv.put q2⟩
  | .own ds :: ss, _, q => by
    obtain ⟨a, vt, e, q1, q2, q3⟩ := q
    exact ⟨a, vt, e, q1.put, RSv.put q2, q3⟩
theorem RSv.take {i : Nat} {es : List D} {c : Addr} : ∀ {ss : List SV} {vs : List V}, RSv G M r δ σ H ss vs → (∀ (j : Nat) (es : List D), ss[j]? = some (.own es) → vs[j]? ≠ some (.ref c)) → RSv G M r (δ.set i (.own es)) (σ.set i (some (.ref c))) H ss vs
  | [], _, q, _ => q
  | .no :: _, _, q, _ => q.elim
  | .v d :: ss, _, q, n => by
    obtain ⟨v, vt, rfl, q1, q2⟩ := q
    exact ⟨v, vt, rfl, q1, RSv.take q2 fun j es e => by have := n (j + 1) es (by simpa using e); simpa using this⟩
  | .own ds :: ss, _, q, n => by
    obtain ⟨a, vt, rfl, q1, q2, q3⟩ := q
    refine ⟨a, vt, rfl, q1.take fun z => ?_, RSv.take q2 fun j es e => by have := n (j + 1) es (by simpa using e); simpa using this, q3⟩
    subst z
    exact n 0 ds rfl rfl
theorem putX_bs : ∀ {is : List Nat} {ss : List SV} {vs : List V} {δ δ' : DE} {σ : L2.St}, BS G M r h δ σ H → RSv G M r δ σ H ss vs → putX δ is ss = some δ' → BS G M r h δ' (setAll σ is vs) H
  | [], [], _, _, _, _, b, _, e => by cases e; exact b
  | [], _ :: _, _, _, _, _, _, _, e => by cases e
  | _ :: _, [], _, _, _, _, _, _, e => by cases e
  | i :: is, .no :: ss, _, _, _, _, _, q, _ => q.elim
  | i :: is, .v d :: ss, _, δ, δ', σ, b, q, e => by
    obtain ⟨v, vt, rfl, q1, q2⟩ := q
    exact putX_bs (is := is) (ss := ss) (b.put q1) (RSv.put q2) e
  | i :: is, .own ds :: ss, _, δ, δ', σ, b, q, e => by
    obtain ⟨a, vt, rfl, q1, q2, q3⟩ := q
    exact putX_bs (is := is) (ss := ss) (b.take q1) (RSv.take q2 q3) e
theorem RSv.length : ∀ {ss : List SV} {vs : List V}, RSv G M r δ σ H ss vs → vs.length = ss.length
  | [], _, q => by cases q; rfl
  | .no :: _, _, q => q.elim
  | .v d :: ss, _, q => by obtain ⟨v, vt, rfl, _, q2⟩ := q; simp [RSv.length q2]
  | .own ds :: ss, _, q => by obtain ⟨v, vt, rfl, _, q2, _⟩ := q; simp [RSv.length q2]
theorem putX_len : ∀ {is : List Nat} {ss : List SV} {δ δ' : DE}, putX δ is ss = some δ' → ss.length = is.length
  | [], [], _, _, _ => rfl
  | [], _ :: _, _, _, e => by cases e
  | _ :: _, [], _, _, e => by cases e
  | i :: is, s :: ss, δ, δ', e => by simp [putX_len (is := is) (ss := ss) e]
theorem par_of {is : List Nat} {n : Nat} (b : BS G M r h δ σ H) (hn : is.length = n) (q : AfterS G W M r (parS is gs δ h) E) :
    AfterX G W σ δ M r H (gs δ h) fun vs H1 => vs.length = n ∧ E.nx (setAll σ is vs) H1 := by
  unfold parS at q
  cases z : gs δ h with
  | bad => rw [z] at q; exact q
  | exc c fs h1 => rw [z] at q; exact fun C dd M' r' H' m s b e => q C dd M' r' σ H' m s.le s.pre b e
  | ok ss h1 =>
    rw [z] at q
    simp only [R.toS_ok] at q
    intro vs M' r' H' s b' rs _
    cases y : putX δ is ss with
    | none => rw [y] at q; exact q.elim
    | some δ' =>
      rw [y] at q
      refine ⟨by rw [rs.length, putX_len y, hn], (AfterS.from s.le s.pre q).nxt (putX_bs b' rs y)⟩
theorem es_par {i j : Nat} {x y : Str} {a c : Expr} {px py pt : Pos} {kt k2 pt2} (hc : X.calm = true) (hN : X.N.Nodup) (hi : X.N[i]? = some x) (hj : X.N[j]? = some y)
    (hx : X.env.scope.names.lookup x = some .local) (hy : X.env.scope.names.lookup y = some .local) (ha : EvX X G W [a, c] gs) (hij : i ≠ j := by decide)
    (hw : swappedStores [.Tuple [.Name x px, .Name y py] kt pt] (.Tuple [a, c] k2 pt2) X.env = pure (some [x, y]) := by rfl)
    (hs : swapsWithSole [.Tuple [.Name x px, .Name y py] kt pt] (.Tuple [a, c] k2 pt2) pos.line X.env = pure false := by rfl) :
    Es X G W (.Assign [.Tuple [.Name x px, .Name y py] kt pt] (.Tuple [a, c] k2 pt2) pos) (parS [i, j] gs) := PS.imp (ps_par hc hN hi hj hij hx hy ha hw hs) fun E σ H q => by
  obtain ⟨M, r, h, δ, b, q⟩ := q
  refine ⟨M, r, h, δ, b, AfterX.more (par_of (is := [i, j]) (n := 2) b rfl q) fun vs H1 ⟨l, q1⟩ => ?_⟩
  match vs, l with
  | [u, v], _ => exact ⟨u, v, rfl, q1⟩
theorem es_par3 {i j l : Nat} {x y z : Str} {a c d : Expr} {px py pz pt : Pos} {kt k2 pt2} (hc : X.calm = true) (hN : X.N.Nodup) (hi : X.N[i]? = some x) (hj : X.N[j]? = some y) (hl : X.N[l]? = some z)
    (hx : X.env.scope.names.lookup x = some .local) (hy : X.env.scope.names.lookup y = some .local) (hz : X.env.scope.names.lookup z = some .local) (ha : EvX X G W [a, c, d] gs) (hij : i ≠ j := by decide) (hil : i ≠ l := by decide) (hjl : j ≠ l := by decide)
    (hw : swappedStores [.Tuple [.Name x px, .Name y py, .Name z pz] kt pt] (.Tuple [a, c, d] k2 pt2) X.env = pure (some [x, y, z]) := by rfl)
    (hs : swapsWithSole [.Tuple [.Name x px, .Name y py, .Name z pz] kt pt] (.Tuple [a, c, d] k2 pt2) pos.line X.env = pure false := by rfl) :
    Es X G W (.Assign [.Tuple [.Name x px, .Name y py, .Name z pz] kt pt] (.Tuple [a, c, d] k2 pt2) pos) (parS [i, j, l] gs) := PS.imp (ps_par3 hc hN hi hj hl hij hil hjl hx hy hz ha hw hs) fun E σ H q => by
  obtain ⟨M, r, h, δ, b, q⟩ := q
  refine ⟨M, r, h, δ, b, AfterX.more (par_of (is := [i, j, l]) (n := 3) b rfl q) fun vs H1 ⟨l, q1⟩ => ?_⟩
  match vs, l with
  | [u, v, w], _ => exact ⟨u, v, w, rfl, q1⟩
/-! ### lists added and repeated, as new ones -/
def addN (f g : EF) : DE → Bx → R (List D) := fun δ h => (f δ h).bind fun a h1 => (g δ h1).bind fun b h2 => match wrOf δ h2 a, wrOf δ h2 b with
  | some xs, some ys => if xs.length + ys.length ≤ big then .ok (xs ++ ys) h2 else .bad
  | _, _ => .bad
variable {a : Expr} {k : D → D → DE → Bx → R (List D)}
theorem tOpN_of {rr : R2} (hk : ∀ (M : Imm) (r : List Addr) (h : Bx) (H : Hp) (x y : V) (dx dy : D) (Q : VK),
    BS G M r h δ σ H → RepV G.J M r δ σ dx x → RepV G.J M r δ σ dy y → AfterN G W σ δ M r H (k dx dy δ h) Q → rr x y H Q) {Q : VK} (b : BS G M r h δ σ H) (q : AfterN G W σ δ M r H ((f δ h).bind fun a h1 => (g δ h1).bind fun b h2 => k a b δ h2) Q) :
    tOp rr (tG G W (rV G.J) f) (tG G W (rV G.J) g) σ H Q := by
  refine ⟨M, r, h, δ, b, (AfterN.bind q).more fun x H1 ⟨dx, M1, r1, h1, s1, b1, rx, q1⟩ => ?_⟩
  refine ⟨M1, r1, h1, δ, b1, (AfterN.bind q1).more fun y H2 ⟨dy, M2, r2, h2, s2, b2, ry, q2⟩ => ?_⟩
  exact hk M2 r2 h2 H2 x y dx dy Q b2 (rx.mono s2.le s2.pre) ry q2
theorem evn_add (ha : Ev X G W a f) (hb : Ev X G W c g) : EvN X G W (.BinOp a .Add c pos) (addN f g) :=
  PE.imp (pe_op op_cat ha hb) fun σ H Q q => by
    obtain ⟨M, r, h, δ, b, q⟩ := q
    refine tOpN_of (k := fun a b δ h2 => match wrOf δ h2 a, wrOf δ h2 b with
      | some xs, some ys => if xs.length + ys.length ≤ big then .ok (xs ++ ys) h2 else .bad
      | _, _ => .bad) (fun M r h H x y dx dy Q b rx ry q => ?_) b q
    split at q
    · rename_i xs ys e1 e2
      split at q
      · rename_i e
        obtain ⟨a, vs, z1, q1, t1, _⟩ := b.wr rx e1
        obtain ⟨c, us, z2, q2, t2, _⟩ := b.wr ry e2
        subst z1 z2
        exact ⟨a, c, vs, us, rfl, rfl, q1, q2, by rw [t1.length, t2.length]; exact big_line e, fun p hp => q _ M r H p Stp.refl b (t1.append t2) (by rw [List.length_append]; exact e) hp⟩
      · exact q.elim
    · exact q.elim
/-- ds, k times -/
def repD (ds : List D) (k : Int) : List D := (List.replicate k.toNat ds).flatten
theorem rep_len {α : Type} (ds : List α) (n : Nat) : (List.replicate n ds).flatten.length = ds.length * n := by
  induction n with
  | zero => rfl
  | succ n ih => rw [List.replicate_succ, List.flatten_cons, List.length_append, ih, Nat.mul_succ]; omega
theorem rep_rep {J : Jd} {ds : List D} {vs : List V} (t : Reps J M r ds vs) (n : Nat) : Reps J M r (List.replicate n ds).flatten (List.replicate n vs).flatten := by
  induction n with
  | zero => rfl
  | succ n ih => rw [List.replicate_succ, List.flatten_cons, List.replicate_succ, List.flatten_cons]; exact t.append ih
def repC (n : Nat) (k : Int) : Bool := decide (-(2 ^ 63) ≤ k ∧ k < 2 ^ 63 ∧ n * k.toNat ≤ big)
def repN (f g : EF) : DE → Bx → R (List D) := fun δ h => (f δ h).bind fun a h1 => (g δ h1).bind fun b h2 => match wrOf δ h2 a, b with
  | some xs, .int k => if repC xs.length k = true then .ok (repD xs k) h2 else .bad
  | _, _ => .bad
theorem evn_rep (ha : Ev X G W a f) (hb : Ev X G W c g) : EvN X G W (.BinOp a .Mult c pos) (repN f g) :=
  PE.imp (pe_op op_rep ha hb) fun σ H Q q => by
    obtain ⟨M, r, h, δ, b, q⟩ := q
    refine tOpN_of (k := fun a b δ h2 => match wrOf δ h2 a, b with
      | some xs, .int k => if repC xs.length k = true then .ok (repD xs k) h2 else .bad
      | _, _ => .bad) (fun M r h H x y dx dy Q b rx ry q => ?_) b q
    split at q
    · rename_i xs k e1
      split at q
      · rename_i e
        have e := of_decide_eq_true e
        obtain ⟨a, vs, z1, q1, t1, _⟩ := b.wr rx e1
        cases ry
        subst z1
        exact ⟨a, k, vs, rfl, rfl, q1, e.1, e.2.1, by rw [t1.length]; exact big_line e.2.2, fun p hp => q _ M r H p Stp.refl b (rep_rep t1 _) (by unfold repD; rw [rep_len]; exact e.2.2) hp⟩
      · exact q.elim
    · exact q.elim
/-! ### a row that is never reached -/
theorem es_never {st : Stmt} : Es X G W st (fun _ _ => .bad) := PS.imp ps_never fun E σ H q => by
  obtain ⟨M, r, h, δ, b, q⟩ := q
  exact q.elim
/-! ### a dict that the module has written: texts to numbers; keys that are not there are not asked -/
def findT (tab : List (Str × Int)) (x : Str) : Option Int := match tab with
  | [] => none
  | (k, v) :: r => if k = x then some v else findT r x
def kgetF (tab : List (Str × Int)) (f g : EF) : EF := fun δ h => (f δ h).bind fun d h1 => (g δ h1).bind fun d2 h2 => match d with
  | .str x => match findT tab x with
    | some v => .ok (.int v) h2
    | none => if isV d2 = true then .ok d2 h2 else .bad
  | _ => .bad
def keyOf (e : DictEntry) : Option Str := match e.key with
  | .str x _ => some x
  | _ => none
/-- the dict at p holds tab -/
def KTab (K : PySem.W.Frag) (w : World) (p : Addr) (tab : List (Str × Int)) : Prop := (p == sysModules) = false ∧ ∃ es n, K.lookup p = some ⟨.type "dict", none, .dict es n, #[]⟩ ∧ PySem.W.KeysLit w.params es.toList ∧ (∀ kv ∈ tab, ∃ t, PySem.W.nsIn K p kv.1 = some (some (.int kv.2 t))) ∧ es.toList.map keyOf = tab.map fun kv => some kv.1
theorem findT_mem {x : Str} {v : Int} : ∀ {tab : List (Str × Int)}, findT tab x = some v → (x, v) ∈ tab
  | [], e => by cases e
  | (k, u) :: r, e => by
    unfold findT at e
    split at e
    · rename_i z
      cases e
      subst z
      exact List.mem_cons_self ..
    · exact List.mem_cons_of_mem _ (findT_mem e)
theorem findT_no {x : Str} : ∀ {tab : List (Str × Int)}, findT tab x = none → ∀ kv ∈ tab, kv.1 ≠ x
  | [], _, _, h => by cases h
  | (k, u) :: r, e, kv, h => by
    unfold findT at e
    split at e
    · cases e
    · rename_i z
      rcases List.mem_cons.mp h with h | h
      · subst h; exact z
      · exact findT_no e kv h
theorem ns_no {K : PySem.W.Frag} {p : Addr} {w : World} {tab : List (Str × Int)} {es : Array DictEntry} {n : Nat} {x : Str} (hl : K.lookup p = some ⟨.type "dict", none, .dict es n, #[]⟩) (hk : PySem.W.KeysLit w.params es.toList)
    (hy : es.toList.map keyOf = tab.map fun kv => some kv.1) (e : findT tab x = none) : PySem.W.nsIn K p x = some none := by
  have no : ∀ d ∈ es.toList, d.key.isStr x = false := fun d hd => by
    obtain ⟨y, t, e1, _⟩ := hk.all d hd
    have m : some y ∈ es.toList.map keyOf := List.mem_map.mpr ⟨d, hd, by unfold keyOf; rw [e1]⟩
    rw [hy] at m
    obtain ⟨kv, h1, h2⟩ := List.mem_map.mp m
    have ne := findT_no e kv h1
    rw [Option.some.inj h2] at ne
    rw [e1]
    show (y == x) = false
    simpa using ne
  have rk : es.toList.any (·.refKey) = false := by
    rw [List.any_eq_false]
    intro d hd
    obtain ⟨y, t, e1, _⟩ := hk.all d hd
    unfold DictEntry.refKey
    rw [e1]
    simp
  unfold PySem.W.nsIn
  rw [hl]
  simp only
  have f : es.toList.find? (·.key.isStr x) = none := List.find?_eq_none.mpr fun d hd => by simp [no d hd]
  rw [f]
  simp only
  rw [rk]
  rfl
theorem ev_kget {x : Str} {p : Addr} {tab : List (Str × Int)} {px apos cpos : Pos} {d : Expr} (hg : Gl X x) (hm : X.mg x = some (.ref p)) (hT : KTab X.K X.w p tab) (he : Ev X G W e f) (hd : Ev X G W d g)
    (hbase : attributeBase (.Name x px) "get" X.env (eval (.Name x px) X.env) = eval (.Name x px) X.env := by rfl)
    (hfew : ((backTo cpos (starEach [e, d] X.env)).all (fun x => !x.1) && (backToKw cpos (keywordEach [] X.env)).all (fun x => x.1.isSome) && decide (([e, d] : List Expr).length + ([] : List Keyword).length + (if ([] : List Keyword).isEmpty then 0 else 1) < 30)) = true := by rfl)
    (hline : (apos.endLine == cpos.line) = true := by rfl) (htr : backTo cpos (starEach [e, d] X.env) = [(false, eval e X.env), (false, eval d X.env)] := by rfl) (hdb : (x == ("__debug__" : Str)) = false := by decide) :
    Ev X G W (.Call (.Attribute (.Name x px) "get" apos) [e, d] [] cpos) (kgetF tab f g) := by
  refine ⟨fun pins s σ H Q I q => ?_⟩
  obtain ⟨hs, es, n, hl, hk, hv, hy⟩ := hT
  have hp : PE X (.Name x px) (tC (.ref p)) := pe_glob hg hm (v := .ref p) rfl hdb
  refine wpAny_Call_method hbase hfew hline PySem.F.plainAttrs_dict PySem.F.slot_dict_get PySem.F.type_dict_get (thn (hp.run pins s σ H (fun v H1 => v = .ref p ∧ H1 = H) I ⟨rfl, rfl⟩) fun u s1 ⟨x, H1, I1, rx, ex, eh⟩ => ?_)
  subst ex eh
  obtain rfl : u = Value.ref p := rx
  have hm1 := PySem.W.mapOf_K (prog := X.prog) (w := X.w) I1.kIn hl hk
  refine ⟨hm1.typeIs, hm1.noDict, ?_⟩
  rw [htr]
  obtain ⟨M, r, h, δ, b, q⟩ := q
  refine Calls.callWith_builtin rfl (Calls.evalArgs_plain (Calls.spliced_cons (thn (he.run pins s1 σ H1 _ I1 ⟨M, r, h, δ, b, After.bind q⟩) fun iv s2 ⟨y, H2, I2, ry, q2⟩ => ?_)))
  obtain ⟨dy, M1, r1, h1, st1, b1, rdy, q2⟩ := q2
  refine Calls.spliced_cons (thn (hd.run pins s2 σ H2 _ I2 ⟨M1, r1, h1, δ, b1, After.bind q2⟩) fun fv s3 ⟨z, H3, I3, rz, q3⟩ => Calls.spliced_nil ?_)
  obtain ⟨dz, M2, r2, h2, st2, b2, rdz, q3⟩ := q3
  cases dy with
  | str kx =>
    simp only at q3
    cases hf : findT tab kx with
    | none =>
      rw [hf] at q3
      by_cases ivz : isV dz = true
      · simp only [ivz, if_true] at q3
        cases rdy
        obtain ⟨t, rfl⟩ := (show ∃ t, iv = Value.str kx t from ry)
        have e2 := ns_no hl hk hy hf
        have hm3 := PySem.W.mapOf_K (prog := X.prog) (w := X.w) I3.kIn hl hk
        refine call_meetsIn PySem.F.slot_dict_get hm3.typeIs PySem.F.entry_dict_get (PySem.F.args_dict_get_3 _ _ _) (meets_dict_get_default (strKind X.prog X.w) p (strKind_is X.prog X.w kx t) hs fv) ⟨_, hm3, ?_⟩
        rw [PySem.W.find_K hl e2]
        exact ⟨z, H3, I3.tok _, rz, q3.now b2 rdz⟩
      · simp only [ivz] at q3; exact q3.elim
    | some v =>
      rw [hf] at q3
      cases rdy
      obtain ⟨t, rfl⟩ := (show ∃ t, iv = Value.str kx t from ry)
      obtain ⟨t2, e2⟩ := hv _ (findT_mem hf)
      have hm3 := PySem.W.mapOf_K (prog := X.prog) (w := X.w) I3.kIn hl hk
      refine call_meetsIn PySem.F.slot_dict_get hm3.typeIs PySem.F.entry_dict_get (PySem.F.args_dict_get_3 _ _ _) (meets_dict_get_default (strKind X.prog X.w) p (strKind_is X.prog X.w kx t) hs fv) ⟨_, hm3, ?_⟩
      rw [PySem.W.find_K hl e2]
      exact ⟨.int v, H3, I3.tok _, ⟨t2, rfl⟩, q3.now b2 rfl⟩
  | _ => exact q3.elim
end
end LP
/-! LpJ: int * int or list * int; the law's head. -/
namespace LP
open PySem PySem.Spec PyProof.Rows L2 HT
section
variable {X : Cx} {G : Cfg} {W : WX}
def mulA (a b : D) (δ : DE) (h : Bx) : R D := match a with
  | .int _ => mulK a b δ h
  | .tup ds => match b with
    | .int k => if (decide (2 ≤ k ∧ k ≤ 1000 ∧ 0 < ds.length ∧ ds.length ≤ 1000)) = true then .ok (.tup (repD ds k)) h else .bad
    | _ => .bad
  | a => match wrOf δ h a, b with
    | some xs, .int k => if repC xs.length k = true then .ok (.lst (repD xs k)) h else .bad
    | _, _ => .bad
abbrev rMulA (K : PySem.W.Frag) : R2 := fun x y H Q => rI CMul (fun i j => .int (i * j)) x y H Q ∨ rRep x y H Q ∨ rRepT K x y H Q
theorem op_mulA : OpR X (binaryOp .Mult) (rMulA X.K) := OpR.or op_mul (OpR.or op_rep op_repT)
theorem mulA_ok : OpK G W (rMulA G.K) mulA := by
  intro σ δ M r h H x y dx dy Q b rx ry q
  unfold mulA at q
  split at q
  · exact .inl (mulK_ok σ δ M r h H x y _ dy Q b rx ry q)
  · rename_i ds
    split at q
    · rename_i k
      split at q
      · rename_i e
        have e := of_decide_eq_true e
        obtain ⟨a, vs, z1, q1, t1⟩ := rx
        cases ry
        subst z1
        have hl := t1.length
        refine .inr (.inr ⟨a, k, vs, rfl, rfl, sqT_of b q1, fun z => ?_, e.1, e.2.1, by rw [hl]; exact e.2.2.2, ?_⟩)
        · rw [z] at hl; have := e.2.2.1; rw [← hl] at this; exact Nat.lt_irrefl _ this
        · exact tup_new b (rep_rep t1 _) (by
            rw [rep_len]
            have h1 : k.toNat ≤ 1000 := by omega
            exact Nat.le_trans (Nat.mul_le_mul e.2.2.2 h1) (by decide)) q
      · exact q.elim
    · exact q.elim
  · split at q
    · rename_i xs k e1
      split at q
      · rename_i e
        have e := of_decide_eq_true e
        obtain ⟨a, vs, z1, q1, t1, _⟩ := b.wr rx e1
        cases ry
        subst z1
        exact .inr (.inl ⟨a, k, vs, rfl, rfl, q1, e.1, e.2.1, by rw [t1.length]; exact big_line e.2.2, lst_new b (rep_rep t1 _) (by rw [rep_len]; exact e.2.2) q⟩)
      · exact q.elim
    · exact q.elim
end
/-! ### the law's head -/
def spLaw (n : Nat) (K : PySem.W.Frag) : Sp := fun vs H Q _ => ∃ (a : Addr) (ns : List Int), vs = [.ref a] ∧ ns.length ≤ n ∧ Only H ∧ SqL K H a (ns.map V.int) ∧ ∀ v H', v = .bl true → Q v H'
theorem reps_ints {J : Jd} {M : Imm} {r : List Addr} : ∀ ns : List Int, Reps J M r (ns.map D.int) (ns.map V.int)
  | [] => rfl
  | i :: ns => ⟨_, _, rfl, rfl, reps_ints ns⟩
theorem spLaw_of {n : Nat} {K : PySem.W.Frag} {mg : Str → Option Value} {F : List D → Bx → R D} (hn : n ≤ 1000000) (hF : ∀ ns : List Int, ns.length ≤ n → ∃ h, F [.frz (ns.map D.int)] [] = .ok (.bl true) h) :
    ∀ vs H Q E, spLaw n K vs H Q E → spF K mg [] 1 F vs H Q E := by
  rintro vs H Q E ⟨a, ns, rfl, hl, on, sq, q⟩
  obtain ⟨h', e⟩ := hF ns hl
  have fin : ∀ M, MOk M H → FLst K M a (ns.map V.int) → spF K mg [] 1 F [.ref a] H Q E := fun M mok fl => by
    refine ⟨fun _ _ _ _ _ => False, M, [], [], [.frz (ns.map D.int)], rfl, mok, ⟨rfl, List.nodup_nil, fun n a ds e => by simp at e⟩, fun p hp => by simp at hp, ⟨_, [], rfl, ⟨a, _, rfl, fl, reps_ints ns⟩, rfl⟩, ?_⟩
    rw [e]
    exact fun v M' r' H' _ _ _ _ rp => q v H' rp
  rcases sq with ⟨sq | ⟨o, sq⟩⟩ | ⟨o, its, m, k1, k2, k3, k4, k5, k6⟩
  · rcases on a with z | ⟨o, xs, z⟩
    · rw [sq] at z; cases z
    · rw [sq] at z; cases z
  · refine fin (fun b => if b = a then some (.frz o (.lst (ns.map V.int))) else none) (fun b u e => ?_) (.inl ⟨_, if_pos rfl, .inr ⟨o, rfl⟩⟩)
    simp only at e
    split at e
    · rename_i z
      cases e
      subst z
      exact ⟨by show (ns.map V.int).length ≤ big; rw [List.length_map]; exact Nat.le_trans hl hn, sq⟩
    · cases e
  · refine fin (fun _ => none) (fun b u e => by cases e) (.inr ⟨o, its, m, k1, k2, k3, k4, ?_, k6⟩)
    have := k6.length
    simp only [Array.length_toList, List.length_map] at this
    omega
end LP
/-! LpS: the functions of plain data, applied: rows for simp. -/
namespace LP
open PySem PySem.Spec PyProof.Rows L2 HT
section
variable {δ : DE} {h : Bx} {f g f3 : EF} {k k' : D → D → DE → Bx → R D} {tf tg : DE → Bx → R Bool} {fs : DE → Bx → R (List D)} {sf sg : SF} {i j : Nat} {d e : D} {ds es : List D}
@[simp] theorem varF_ap : varF i δ h = (match δ[i]? with | some (.v d) => .ok d h | some (.own _) => .ok (.loc i) h | _ => .bad) := pr rfl
@[simp] theorem cF_ap : cF d δ h = .ok d h := pr rfl
@[simp] theorem bin2_ap : bin2 k f g δ h = (f δ h).bind fun a h1 => (g δ h1).bind fun b h2 => k a b δ h2 := pr rfl
@[simp] theorem testF_ap : testF f δ h = (f δ h).bind bOf := pr rfl
@[simp] theorem chainF_ap : chainF k k' f g f3 δ h = (f δ h).bind fun a h1 => (g δ h1).bind fun b h2 => (k a b δ h2).bind fun z h3 => match z with
  | .bl true => (f3 δ h3).bind fun c h4 => k' b c δ h4
  | .bl false => .ok (.bl false) h3
  | _ => .bad := pr rfl
@[simp] theorem andT_ap : andT tf tg δ h = (tf δ h).bind fun b h1 => if b = true then tg δ h1 else .ok false h1 := pr rfl
@[simp] theorem orT_ap : orT tf tg δ h = (tf δ h).bind fun b h1 => if b = true then .ok true h1 else tg δ h1 := pr rfl
@[simp] theorem notT_ap : notT tf δ h = (tf δ h).bind fun b h1 => .ok (!b) h1 := pr rfl
@[simp] theorem andV_ap : andV f g δ h = (f δ h).bind fun a h1 => match a with
  | .bl true => g δ h1
  | .bl false => .ok (.bl false) h1
  | _ => .bad := pr rfl
@[simp] theorem orV_ap : orV f g δ h = (f δ h).bind fun a h1 => match a with
  | .bl false => g δ h1
  | .bl true => .ok (.bl true) h1
  | _ => .bad := pr rfl
@[simp] theorem notV_ap : notV f δ h = (f δ h).bind fun a h1 => match a with
  | .bl b => .ok (.bl (!b)) h1
  | _ => .bad := pr rfl
@[simp] theorem iteF_ap : iteF tf f g δ h = (tf δ h).bind fun b h1 => if b = true then f δ h1 else g δ h1 := pr rfl
@[simp] theorem nilA_ap : nilA δ h = .ok [] h := pr rfl
@[simp] theorem consA_ap : consA f fs δ h = (f δ h).bind fun d h1 => (fs δ h1).bind fun ds h2 => .ok (d :: ds) h2 := pr rfl
@[simp] theorem mkD_ap {c : List D → D} : mkD c ds h = if (ds.all isV && decide (ds.length ≤ 1000000)) = true then .ok (c ds) h else .bad := pr rfl
@[simp] theorem tupF_ap : tupF fs δ h = (fs δ h).bind (mkD .tup) := pr rfl
@[simp] theorem lstF_ap : lstF fs δ h = (fs δ h).bind (mkD .lst) := pr rfl
@[simp] theorem isV_int {n : Int} : isV (.int n) = true := pr rfl
@[simp] theorem isV_bl {b : Bool} : isV (.bl b) = true := pr rfl
@[simp] theorem isV_str {b : Str} : isV (.str b) = true := pr rfl
@[simp] theorem isV_non : isV .non = true := pr rfl
@[simp] theorem isV_tup : isV (.tup ds) = true := pr rfl
@[simp] theorem isV_lst : isV (.lst ds) = true := pr rfl
@[simp] theorem isV_frz : isV (.frz ds) = true := pr rfl
@[simp] theorem isV_ptr {n : Nat} : isV (.ptr n) = true := pr rfl
@[simp] theorem isV_loc {n : Nat} : isV (.loc n) = false := pr rfl
@[simp] theorem seqOf_frz : seqOf δ h (.frz ds) = some ds := pr rfl
@[simp] theorem lstOf_frz : lstOf δ h (.frz ds) = some ds := pr rfl
@[simp] theorem lstOf_loc : lstOf δ h (.loc i) = (match δ[i]? with | some (.own ds) => some ds | _ => none) := pr rfl
@[simp] theorem seqOf_loc : seqOf δ h (.loc i) = (match δ[i]? with | some (.own ds) => some ds | _ => none) := pr rfl
@[simp] theorem wrOf_loc : wrOf δ h (.loc i) = (match δ[i]? with | some (.own ds) => some ds | _ => none) := pr rfl
@[simp] theorem lstOf_tup : lstOf δ h (.tup ds) = none := pr rfl
@[simp] theorem lstOf_int {n : Int} : lstOf δ h (.int n) = none := pr rfl
@[simp] theorem lstOf_str {n : Str} : lstOf δ h (.str n) = none := pr rfl
@[simp] theorem lstOf_bl {n : Bool} : lstOf δ h (.bl n) = none := pr rfl
@[simp] theorem lstOf_non : lstOf δ h .non = none := pr rfl
@[simp] theorem i2K_ap {gg : Int → Int → D} {a b : Int} : i2K gg (.int a) (.int b) δ h = .ok (gg a b) h := pr rfl
@[simp] theorem i2KC_ap {C : Int → Int → Bool} {gg : Int → Int → D} {a b : Int} : i2KC C gg (.int a) (.int b) δ h = if C a b = true then .ok (gg a b) h else .bad := pr rfl
@[simp] theorem addK_int {a b : Int} : addK (.int a) (.int b) δ h = .ok (.int (a + b)) h := pr rfl
@[simp] theorem addK_str {a b : Str} : addK (.str a) (.str b) δ h = if a.length + b.length ≤ 1000000 then .ok (.str (a ++ b)) h else .bad := pr rfl
@[simp] theorem addK_tup : addK (.tup ds) (.tup es) δ h = if ds.length + es.length ≤ 1000000 then .ok (.tup (ds ++ es)) h else .bad := pr rfl
@[simp] theorem addK_lst : addK (.lst ds) (.lst es) δ h = if ds.length + es.length ≤ 1000000 then .ok (.lst (ds ++ es)) h else .bad := pr rfl
@[simp] theorem mulA_int {a b : Int} : mulA (.int a) (.int b) δ h = if ((-(2 ^ 64) < a ∧ a < 2 ^ 64) ∨ (-(2 ^ 64) < b ∧ b < 2 ^ 64)) then .ok (.int (a * b)) h else .bad := by
  show (if decide ((-(2 ^ 64) < a ∧ a < 2 ^ 64) ∨ (-(2 ^ 64) < b ∧ b < 2 ^ 64)) = true then R.ok (D.int (a * b)) h else R.bad) = _
  simp only [decide_eq_true_eq]
@[simp] theorem mulA_lst {n : Int} : mulA (.lst ds) (.int n) δ h = if repC ds.length n = true then .ok (.lst (repD ds n)) h else .bad := pr rfl
@[simp] theorem mulA_tup {n : Int} : mulA (.tup ds) (.int n) δ h = if (decide (2 ≤ n ∧ n ≤ 1000 ∧ 0 < ds.length ∧ ds.length ≤ 1000)) = true then .ok (.tup (repD ds n)) h else .bad := pr rfl
@[simp] theorem negF_ap : negF f δ h = (f δ h).bind fun d h1 => match d with
  | .int i => .ok (.int (-i)) h1
  | _ => .bad := pr rfl
@[simp] theorem ixK_ap {n : Int} : ixK d (.int n) δ h = (match seqOf δ h d with | some ds => (match atI ds n with | some d => .ok d h | none => .bad) | none => .bad) := pr rfl
theorem atI_at {α : Type} {xs : List α} {n : Int} (h0 : 0 ≤ n) (h1 : n < xs.length) : atI xs n = xs[n.toNat]? := by
  unfold atI ixN
  rw [if_pos h0, if_pos h1]
  rfl
theorem atI_nat {α : Type} {xs : List α} {n : Nat} (h1 : n < xs.length) : atI xs (n : Int) = xs[n]? := by
  rw [atI_at (by omega) (by omega)]; rfl
@[simp] theorem atI_lit {n : Nat} : atI ds (no_index (OfNat.ofNat n : Int)) = ds[(OfNat.ofNat n : Nat)]? := by
  by_cases hn : n < ds.length
  · exact atI_nat (n := n) hn
  · have : ds[(OfNat.ofNat n : Nat)]? = none := List.getElem?_eq_none (by show ds.length ≤ n; omega)
    rw [this]
    unfold atI ixN
    show (if 0 ≤ ((n : Nat) : Int) then (if ((n : Nat) : Int) < (ds.length : Int) then some ((n : Nat) : Int).toNat else none) else if -(ds.length : Int) ≤ ((n : Nat) : Int) then some (((n : Nat) : Int) + (ds.length : Int)).toNat else none).bind (fun j => ds[j]?) = none
    rw [if_pos (by omega), if_neg (by omega)]
    rfl
@[simp] theorem noO_ap : noO δ h = .ok none h := pr rfl
@[simp] theorem someO_ap : someO f δ h = (f δ h).bind fun d h1 => match d with
  | .int i => .ok (some i) h1
  | _ => .bad := pr rfl
@[simp] theorem slF_ap {fl fh : DE → Bx → R (Option Int)} : slF f fl fh δ h = (f δ h).bind fun d h1 => (fl δ h1).bind fun lo h2 => (fh δ h2).bind fun hi h3 => match d with
  | .tup ds => .ok (.tup (cutD ds lo hi)) h3
  | d => match lstOf δ h3 d with
    | some ds => .ok (.lst (cutD ds lo hi)) h3
    | none => .bad := pr rfl
@[simp] theorem cutD_nn : cutD ds none none = ds := by unfold cutD; simp [HT.sIx]
theorem sIx_of {n d : Nat} {v : Int} (hv : 0 ≤ v) : HT.sIx n d (some v) = min v.toNat n := by
  show (if v < 0 then (v + (n : Int)).toNat else min v.toNat n) = _
  rw [if_neg (by omega)]
theorem cutD_to {v : Int} (hv : 0 ≤ v) : cutD ds none (some v) = ds.take v.toNat := by
  unfold cutD
  rw [sIx_of hv, HT.sIx_none, List.drop_zero, Nat.sub_zero]
  apply List.ext_getElem?
  intro i
  simp only [List.getElem?_take]
  by_cases h1 : i < v.toNat
  · by_cases h2 : i < ds.length
    · rw [if_pos (by omega), if_pos h1]
    · rw [List.getElem?_eq_none (by omega)]; simp
  · rw [if_neg (by omega), if_neg h1]
theorem cutD_from {v : Int} (hv : 0 ≤ v) : cutD ds (some v) none = ds.drop v.toNat := by
  unfold cutD
  rw [sIx_of hv, HT.sIx_none]
  by_cases h1 : v.toNat ≤ ds.length
  · rw [Nat.min_eq_left h1]
    exact List.take_of_length_le (by rw [List.length_drop]; exact Nat.le_refl _)
  · rw [Nat.min_eq_right (by omega), Nat.sub_self, List.take_zero, List.drop_eq_nil_of_le (by omega)]
@[simp] theorem cutD_to_lit {n : Nat} : cutD ds none (some (no_index (OfNat.ofNat n : Int))) = ds.take (OfNat.ofNat n) := cutD_to (by show (0 : Int) ≤ (n : Int); omega)
@[simp] theorem cutD_from_lit {n : Nat} : cutD ds (some (no_index (OfNat.ofNat n : Int))) none = ds.drop (OfNat.ofNat n) := cutD_from (by show (0 : Int) ≤ (n : Int); omega)
@[simp] theorem revF_ap : revF f δ h = (f δ h).bind fun d h1 => revK d δ h1 := pr rfl
@[simp] theorem revK_tup : revK (.tup ds) δ h = .ok (.tup ds.reverse) h := pr rfl
@[simp] theorem revK_lst : revK (.lst ds) δ h = .ok (.lst ds.reverse) h := pr rfl
@[simp] theorem seqS_ap : seqS sf sg δ h = (match sf δ h with | .nx δ' h' => sg δ' h' | x => x) := pr rfl
@[simp] theorem exprS_ap : exprS f δ h = (f δ h).toS δ fun _ h1 => .nx δ h1 := pr rfl
@[simp] theorem retS_ap : retS f δ h = (f δ h).toS δ (retK δ) := pr rfl
@[simp] theorem retK_int {n : Int} : retK δ (.int n) h = .rt (.int n) h := pr rfl
@[simp] theorem retK_bl {n : Bool} : retK δ (.bl n) h = .rt (.bl n) h := pr rfl
@[simp] theorem retK_str {n : Str} : retK δ (.str n) h = .rt (.str n) h := pr rfl
@[simp] theorem retK_non : retK δ .non h = .rt .non h := pr rfl
@[simp] theorem retK_tup : retK δ (.tup ds) h = .rt (.tup ds) h := pr rfl
@[simp] theorem retK_lst : retK δ (.lst ds) h = .rt (.lst ds) h := pr rfl
@[simp] theorem retK_ptr : retK δ (.ptr i) h = .rt (.ptr i) h := pr rfl
@[simp] theorem retK_loc : retK δ (.loc i) h = (match δ[i]? with | some (.own ds) => .rt (.lst ds) h | _ => .bad) := pr rfl
theorem retK_v (e : isV d = true) : retK δ d h = .rt d h := by cases d <;> first | rfl | cases e
@[simp] theorem ifS_ap : ifS tf sf sg δ h = (tf δ h).toS δ fun c h1 => if c = true then sf δ h1 else sg δ h1 := pr rfl
@[simp] theorem setS_ap : setS i f δ h = (f δ h).toS δ fun d h1 => if isV d = true then .nx (δ.set i (.v d)) h1 else .bad := pr rfl
@[simp] theorem frzS_ap : frzS i sf δ h = (match δ[i]? with | some (.own ds) => sf (δ.set i (.v (.lst ds))) h | _ => .bad) := pr rfl
@[simp] theorem valN_ap : valN fs δ h = (fs δ h).bind fun ds h1 => .ok (.lst ds) h1 := pr rfl
@[simp] theorem boxN_ap : boxN fs δ h = (fs δ h).bind fun ds h1 => .ok (.ptr h1.length) (h1 ++ [ds]) := pr rfl
@[simp] theorem lstN_ap : lstN fs δ h = (fs δ h).bind fun ds h1 => if (ds.all isV && decide (ds.length ≤ 1000000)) = true then .ok ds h1 else .bad := pr rfl
@[simp] theorem ownS_ap : ownS i fs δ h = (fs δ h).toS δ fun ds h1 => .nx (δ.set i (.own ds)) h1 := pr rfl
@[simp] theorem itemsI_ap : itemsI f δ h = (f δ h).bind fun d h1 => match immOf d with | some ds => .ok ds h1 | none => .bad := pr rfl
@[simp] theorem immOf_tup : immOf (.tup ds) = some ds := pr rfl
@[simp] theorem immOf_lst : immOf (.lst ds) = some ds := pr rfl
@[simp] theorem immOf_frz : immOf (.frz ds) = some ds := pr rfl
@[simp] theorem rg1K_ap {n : Int} : rg1K [.int n] h = if rgC n = true then .ok (rgD 0 n) h else .bad := pr rfl
@[simp] theorem zipK_tup : zipK [.tup ds, .tup es] h = .ok (zipD ds es) h := pr rfl
@[simp] theorem zipK_lst : zipK [.lst ds, .lst es] h = .ok (zipD ds es) h := pr rfl
@[simp] theorem enumK_tup : enumK [.tup ds] δ h = .ok (enumD ds) h := pr rfl
@[simp] theorem enumK_lst : enumK [.lst ds] δ h = .ok (enumD ds) h := pr rfl
@[simp] theorem nameU_ap : nameU i d δ = some (δ.set i (.v d)) := pr rfl
@[simp] theorem nilU_ap : nilU [] δ = some δ := pr rfl
@[simp] theorem consU_ap {u : D → DE → Option DE} {us : List D → DE → Option DE} : consU u us (d :: ds) δ = (u d δ).bind fun δ' => us ds δ' := pr rfl
@[simp] theorem tupU_ap {n : Nat} {us : List D → DE → Option DE} : tupU n us (.tup ds) δ = if ds.length = n then us ds δ else none := pr rfl
@[simp] theorem asgS_ap {u : D → DE → Option DE} : asgS u f δ h = (f δ h).toS δ fun d h1 => if isV d = true then match u d δ with | some δ' => .nx δ' h1 | none => .bad else .bad := pr rfl
@[simp] theorem forS_ap {gi : DE → Bx → R (List D)} {u : D → DE → Option DE} : forS gi u sf δ h = (gi δ h).toS δ fun ds h1 => forF u sf ds δ h1 := pr rfl
@[simp] theorem lcN_ap {gi : DE → Bx → R (List D)} {vs : List Nat} {u : D → DE → Option DE} {ef : EF} : lcN gi vs u tf ef δ h = (gi δ h).bind fun ds h1 => if ds.length ≤ 1000000 then compF u tf ef (wipeD δ vs) ds h1 else .bad := pr rfl
@[simp] theorem wipeD_nil : wipeD δ [] = δ := pr rfl
@[simp] theorem wipeD_cons {vs : List Nat} : wipeD δ (i :: vs) = (wipeD δ vs).set i .no := pr rfl
@[simp] theorem yesF_ap : yesF δ h = .ok true h := pr rfl
@[simp] theorem callF_ap {F : List D → Bx → R D} : callF F fs δ h = (fs δ h).bind fun ds h1 => if ds.all isV = true then F ds h1 else .bad := pr rfl
@[simp] theorem nArgs_1 {F : List D → Bx → R D} {a : D} : nArgs 1 F [a] h = F [a] h := pr rfl
@[simp] theorem nArgs_2 {F : List D → Bx → R D} {a b : D} : nArgs 2 F [a, b] h = F [a, b] h := pr rfl
@[simp] theorem nArgs_3 {F : List D → Bx → R D} {a b c : D} : nArgs 3 F [a, b, c] h = F [a, b, c] h := pr rfl
@[simp] theorem nArgs_4 {F : List D → Bx → R D} {a b c d : D} : nArgs 4 F [a, b, c, d] h = F [a, b, c, d] h := pr rfl
@[simp] theorem nArgs_5 {F : List D → Bx → R D} {a b c d e : D} : nArgs 5 F [a, b, c, d, e] h = F [a, b, c, d, e] h := pr rfl
@[simp] theorem nArgs_6 {F : List D → Bx → R D} {a b c d e f : D} : nArgs 6 F [a, b, c, d, e, f] h = F [a, b, c, d, e, f] h := pr rfl
@[simp] theorem blt_ap {kk : List D → DE → Bx → R D} : blt kk fs δ h = (fs δ h).bind fun ds h1 => kk ds δ h1 := pr rfl
@[simp] theorem lenK_tup : lenK [.tup ds] δ h = .ok (.int ds.length) h := pr rfl
@[simp] theorem lenK_lst : lenK [.lst ds] δ h = .ok (.int ds.length) h := pr rfl
@[simp] theorem lenK_frz : lenK [.frz ds] δ h = .ok (.int ds.length) h := pr rfl
@[simp] theorem lenK_loc : lenK [.loc i] δ h = (match δ[i]? with | some (.own ds) => .ok (.int ds.length) h | _ => .bad) := by
  show (match lstOf δ h (.loc i) with | some es => R.ok (D.int es.length) h | none => R.bad) = _
  rw [lstOf_loc]
  cases δ[i]? with
  | none => rfl
  | some s => cases s <;> rfl
@[simp] theorem absK_ap {n : Int} : absK [.int n] δ h = .ok (.int (if n < 0 then -n else n)) h := pr rfl
@[simp] theorem intK_int {n : Int} : intK [.int n] δ h = .ok (.int n) h := pr rfl
@[simp] theorem intK_bl {n : Bool} : intK [.bl n] δ h = .ok (.int (if n = true then 1 else 0)) h := pr rfl
@[simp] theorem tupK_tup : tupK [.tup ds] δ h = .ok (.tup ds) h := pr rfl
@[simp] theorem tupK_lst : tupK [.lst ds] δ h = .ok (.tup ds) h := pr rfl
@[simp] theorem tupK_loc : tupK [.loc i] δ h = (match δ[i]? with | some (.own ds) => .ok (.tup ds) h | _ => .bad) := by
  show (match lstOf δ h (.loc i) with | some es => R.ok (D.tup es) h | none => R.bad) = _
  rw [lstOf_loc]
  cases δ[i]? with
  | none => rfl
  | some s => cases s <;> rfl
@[simp] theorem listN_ap : listN fs δ h = (fs δ h).bind fun ds h1 => match ds with
  | [d] => match seqOf δ h1 d with
    | some es => if es.length ≤ 1000000 then .ok es h1 else .bad
    | none => .bad
  | _ => .bad := pr rfl
@[simp] theorem allK_lst : allK [.lst ds] δ h = (match bls ds with | some bs => .ok (.bl (bs.all id)) h | none => .bad) := pr rfl
@[simp] theorem anyK_lst : anyK [.lst ds] δ h = (match bls ds with | some bs => .ok (.bl (bs.any id)) h | none => .bad) := pr rfl
@[simp] theorem isiF_ap {T : List String} : isiF T f δ h = (f δ h).bind fun d h1 => isiR T d h1 := pr rfl
@[simp] theorem isiR_int {T : List String} {n : Int} : isiR T (.int n) h = .ok (.bl (T.any (isT "int"))) h := pr rfl
@[simp] theorem isiR_bl {T : List String} {n : Bool} : isiR T (.bl n) h = .ok (.bl (T.any (isT "bool"))) h := pr rfl
@[simp] theorem isiR_str {T : List String} {n : Str} : isiR T (.str n) h = .ok (.bl (T.any (isT "str"))) h := pr rfl
@[simp] theorem isiR_non {T : List String} : isiR T .non h = .ok (.bl (T.any (isT "NoneType"))) h := pr rfl
@[simp] theorem isiR_tup {T : List String} : isiR T (.tup ds) h = .ok (.bl (T.any (isT "tuple"))) h := pr rfl
@[simp] theorem isiR_lst {T : List String} : isiR T (.lst ds) h = .ok (.bl (T.any (isT "list"))) h := pr rfl
@[simp] theorem ty_int {n : Int} : D.ty (.int n) = "int" := pr rfl
@[simp] theorem ty_bl {n : Bool} : D.ty (.bl n) = "bool" := pr rfl
@[simp] theorem ty_str {n : Str} : D.ty (.str n) = "str" := pr rfl
@[simp] theorem ty_non : D.ty .non = "NoneType" := pr rfl
@[simp] theorem ty_tup : D.ty (.tup ds) = "tuple" := pr rfl
@[simp] theorem ty_lst : D.ty (.lst ds) = "list" := pr rfl
@[simp] theorem isT_ap {t T : String} : isT t T = (t == T || (t == "bool" && T == "int")) := pr rfl
@[simp] theorem methS_ap {kk : List D → D → DE → Bx → Option (List D)} : methS i f kk δ h = if (wrS i δ h).isSome = true then (f δ h).toS δ fun d h1 => match wrS i δ h1 with
  | some ds => match kk ds d δ h1 with
    | some es => .nx (putS i δ h1 es).1 (putS i δ h1 es).2
    | none => .bad
  | none => .bad
else .bad := pr rfl
@[simp] theorem appK_ap : appK ds d δ h = if (isV d && decide (ds.length < 1000000)) = true then some (ds ++ [d]) else none := pr rfl
@[simp] theorem extK_ap : extK ds d δ h = (match wrOf δ h d with | some es => if ds.length + es.length ≤ 1000000 then some (ds ++ es) else none | none => none) := pr rfl
@[simp] theorem popS_ap : popS i j δ h = (match wrS i δ h with
  | some ds => match ds.getLast? with
    | some d => if isV d = true then .nx ((putS i δ h ds.dropLast).1.set j (.v d)) (putS i δ h ds.dropLast).2 else .bad
    | none => .bad
  | none => .bad) := pr rfl
@[simp] theorem setiS_ap : setiS i f g δ h = (g δ h).toS δ fun d h1 => if (wrS i δ h1).isSome = true then (f δ h1).toS δ fun n h2 => match n with
  | .int k => match wrS i δ h2 with
    | some ds => match ixN ds.length k with
      | some j => if isV d = true then .nx (putS i δ h2 (ds.set j d)).1 (putS i δ h2 (ds.set j d)).2 else .bad
      | none => .bad
    | none => .bad
  | _ => .bad
else .bad := pr rfl
@[simp] theorem wrS_ap : wrS i δ h = (match δ[i]? with | some (.own ds) => some ds | some (.v (.ptr n)) => h[n]? | _ => none) := pr rfl
@[simp] theorem putS_ap : putS i δ h ds = (match δ[i]? with | some (.v (.ptr n)) => (δ, h.set n ds) | _ => (δ.set i (.own ds), h)) := pr rfl
theorem ixN_at {m : Nat} {n : Int} (h0 : 0 ≤ n) (h1 : n < m) : ixN m n = some n.toNat := by
  unfold ixN
  rw [if_pos h0, if_pos h1]
@[simp] theorem ixN_lit {m n : Nat} : ixN m (no_index (OfNat.ofNat n : Int)) = if n < m then some (OfNat.ofNat n) else none := by
  unfold ixN
  show (if 0 ≤ ((n : Nat) : Int) then (if ((n : Nat) : Int) < (m : Int) then some ((n : Nat) : Int).toNat else none) else if -(m : Int) ≤ ((n : Nat) : Int) then some (((n : Nat) : Int) + (m : Int)).toNat else none) = _
  rw [if_pos (by omega)]
  by_cases hn : n < m
  · rw [if_pos (by omega), if_pos hn]; rfl
  · rw [if_neg (by omega), if_neg hn]
@[simp] theorem parS_ap {gs : DE → Bx → R (List SV)} {is : List Nat} : parS is gs δ h = (gs δ h).toS δ fun ss h1 => match putX δ is ss with | some δ' => .nx δ' h1 | none => .bad := pr rfl
@[simp] theorem nilX_ap : nilX δ h = .ok [] h := pr rfl
@[simp] theorem consX_ap {gs : DE → Bx → R (List SV)} : consX f gs δ h = (f δ h).bind fun d h1 => if isV d = true then (gs δ h1).bind fun ds h2 => .ok (.v d :: ds) h2 else .bad := pr rfl
@[simp] theorem consXN_ap {gs : DE → Bx → R (List SV)} : consXN fs gs δ h = (fs δ h).bind fun d h1 => (gs δ h1).bind fun ds h2 => .ok (.own d :: ds) h2 := pr rfl
@[simp] theorem putX_nil : putX δ [] [] = some δ := pr rfl
@[simp] theorem putX_cons {is : List Nat} {s : SV} {ss : List SV} : putX δ (i :: is) (s :: ss) = putX (δ.set i s) is ss := pr rfl
@[simp] theorem addN_ap : addN f g δ h = (f δ h).bind fun a h1 => (g δ h1).bind fun b h2 => match wrOf δ h2 a, wrOf δ h2 b with
  | some xs, some ys => if xs.length + ys.length ≤ 1000000 then .ok (xs ++ ys) h2 else .bad
  | _, _ => .bad := pr rfl
@[simp] theorem repN_ap : repN f g δ h = (f δ h).bind fun a h1 => (g δ h1).bind fun b h2 => match wrOf δ h2 a, b with
  | some xs, .int k => if repC xs.length k = true then .ok (repD xs k) h2 else .bad
  | _, _ => .bad := pr rfl
@[simp] theorem kgetF_ap {tab : List (Str × Int)} : kgetF tab f g δ h = (f δ h).bind fun d h1 => (g δ h1).bind fun d2 h2 => match d with
  | .str x => match findT tab x with
    | some v => .ok (.int v) h2
    | none => if isV d2 = true then .ok d2 h2 else .bad
  | _ => .bad := pr rfl
theorem runF_ap {n : Nat} : runF n sf ds h = (sf (startD n ds) h).fin := pr rfl
@[simp] theorem eqK_ap {ng : Bool} : eqK ng d e δ h = if ((vw δ h d).pure && (vw δ h e).pure && decide (min (vw δ h d).dep (vw δ h e).dep ≤ 64)) = true then .ok (.bl (if ng then !D.eq (vw δ h d) (vw δ h e) else D.eq (vw δ h d) (vw δ h e))) h else .bad := pr rfl
@[simp] theorem inK_ap {ng : Bool} : inK ng d e δ h = (match seqOf δ h e with
  | some ds => if ((vw δ h d).pure && D.pures ds && decide (min (D.deps ds) (vw δ h d).dep ≤ 60)) = true then
      .ok (.bl (if ng then !ds.any (fun z => D.eq z (vw δ h d)) else ds.any fun z => D.eq z (vw δ h d))) h else .bad
  | none => .bad) := pr rfl
@[simp] theorem vw_int {n : Int} : vw δ h (.int n) = .int n := pr rfl
@[simp] theorem vw_bl {n : Bool} : vw δ h (.bl n) = .bl n := pr rfl
@[simp] theorem vw_str {n : Str} : vw δ h (.str n) = .str n := pr rfl
@[simp] theorem vw_non : vw δ h .non = .non := pr rfl
@[simp] theorem vw_tup : vw δ h (.tup ds) = .tup ds := pr rfl
@[simp] theorem vw_lst : vw δ h (.lst ds) = .lst ds := pr rfl
@[simp] theorem pure_int {n : Int} : D.pure (.int n) = true := pr rfl
@[simp] theorem pure_bl {n : Bool} : D.pure (.bl n) = true := pr rfl
@[simp] theorem pure_str {n : Str} : D.pure (.str n) = true := pr rfl
@[simp] theorem pure_non : D.pure .non = true := pr rfl
@[simp] theorem pure_tup : D.pure (.tup ds) = D.pures ds := pr rfl
@[simp] theorem pure_lst : D.pure (.lst ds) = D.pures ds := pr rfl
@[simp] theorem pures_nil : D.pures [] = true := pr rfl
@[simp] theorem pures_cons : D.pures (d :: ds) = (d.pure && D.pures ds) := pr rfl
@[simp] theorem dep_int {n : Int} : D.dep (.int n) = 0 := pr rfl
@[simp] theorem dep_bl {n : Bool} : D.dep (.bl n) = 0 := pr rfl
@[simp] theorem dep_str {n : Str} : D.dep (.str n) = 0 := pr rfl
@[simp] theorem dep_non : D.dep .non = 0 := pr rfl
@[simp] theorem dep_tup : D.dep (.tup ds) = D.deps ds + 1 := pr rfl
@[simp] theorem dep_lst : D.dep (.lst ds) = D.deps ds + 1 := pr rfl
@[simp] theorem deps_nil : D.deps [] = 0 := pr rfl
@[simp] theorem deps_cons : D.deps (d :: ds) = max d.dep (D.deps ds) := pr rfl
/-- == of two rows -/
def D.eqs (as bs : List D) : Bool := PyData.eqvAll (D.pys as) (D.pys bs)
@[simp] theorem eq_int {a b : Int} : D.eq (.int a) (.int b) = decide (a = b) := by
  show (a == b) = _
  by_cases h : a = b
  · subst h; simp
  · simp [h]
@[simp] theorem eq_str {a b : Str} : D.eq (.str a) (.str b) = decide (a = b) := by
  show (a == b) = _
  by_cases h : a = b
  · subst h; simp
  · simp [h]
@[simp] theorem eq_tup {a b : List D} : D.eq (.tup a) (.tup b) = D.eqs a b := pr rfl
@[simp] theorem eq_lst {a b : List D} : D.eq (.lst a) (.lst b) = D.eqs a b := pr rfl
@[simp] theorem eqs_nil : D.eqs [] [] = true := pr rfl
@[simp] theorem eqs_cons {a b : List D} : D.eqs (d :: a) (e :: b) = (D.eq d e && D.eqs a b) := pr rfl
@[simp] theorem eqs_nc {a : List D} : D.eqs [] (d :: a) = false := pr rfl
@[simp] theorem eqs_cn {a : List D} : D.eqs (d :: a) [] = false := pr rfl
theorem eq_refl (d : D) : D.eq d d = true := PySem.SeqAt.eqv_refl_plain _ (plain_py d)
theorem eqs_refl (ds : List D) : D.eqs ds ds = true := eq_refl (.tup ds)
@[simp] theorem set_concat {α : Type} {hs : List α} {b c : α} : (hs ++ [b]).set hs.length c = hs ++ [c] := by
  rw [List.set_append_right _ _ (Nat.le_refl _), Nat.sub_self]; rfl
end
end LP
/-! LpT: loops and comprehensions over plain data, by their turns. -/
namespace LP
open PySem PySem.Spec PyProof.Rows L2 HT
inductive All2 {α β : Type} (Q : α → β → Prop) : List α → List β → Prop
  | nil : All2 Q [] []
  | cons {a : α} {b : β} {as : List α} {bs : List β} : Q a b → All2 Q as bs → All2 Q (a :: as) (b :: bs)
theorem All2.length {α β : Type} {Q : α → β → Prop} : ∀ {as : List α} {bs : List β}, All2 Q as bs → bs.length = as.length
  | _, _, .nil => rfl
  | _, _, .cons _ t => by simp [t.length]
section
variable {δ : DE} {h : Bx} {u : D → DE → Option DE} {tf : DE → Bx → R Bool} {ef : EF} {sf : SF}
@[simp] theorem quiet_ok {α : Type} {a : α} : quiet (.ok a h : R α) = .ok a h := pr rfl
/-- [ef for d in ds], nothing written -/
theorem compF_map {g : D → D} : ∀ {ds : List D}, (∀ d ∈ ds, ∃ δ1, u d δ = some δ1 ∧ ef δ1 h = .ok (g d) h ∧ isV (g d) = true) → compF u yesF ef δ ds h = .ok (ds.map g) h
  | [], _ => rfl
  | d :: ds, H => by
    obtain ⟨δ1, e1, e2, e3⟩ := H d (List.mem_cons_self ..)
    have ih := compF_map (g := g) (ds := ds) fun d hd => H d (List.mem_cons_of_mem _ hd)
    unfold compF
    simp [e1, e2, e3, ih]
/-- [ef for d in ds if tf], nothing written -/
theorem compF_filter {g : D → D} {p : D → Bool} : ∀ {ds : List D}, (∀ d ∈ ds, ∃ δ1, u d δ = some δ1 ∧ tf δ1 h = .ok (p d) h ∧ (p d = true → ef δ1 h = .ok (g d) h ∧ isV (g d) = true)) → compF u tf ef δ ds h = .ok ((ds.filter p).map g) h
  | [], _ => rfl
  | d :: ds, H => by
    obtain ⟨δ1, e1, e2, e3⟩ := H d (List.mem_cons_self ..)
    have ih := compF_filter (g := g) (p := p) (ds := ds) fun d hd => H d (List.mem_cons_of_mem _ hd)
    unfold compF
    cases hp : p d with
    | true =>
      obtain ⟨e4, e5⟩ := e3 hp
      simp [e1, e2, hp, e4, e5, ih]
    | false => simp [e1, e2, hp, ih]
/-- [ef for d in ds], what is written is handed on -/
theorem compF_st {P : Bx → Prop} {Q : D → D → Prop} : ∀ {ds : List D} {h : Bx}, P h → (∀ d ∈ ds, ∀ h, P h → ∃ δ1 y h', u d δ = some δ1 ∧ ef δ1 h = .ok y h' ∧ isV y = true ∧ Q d y ∧ P h') →
    ∃ ys h', compF u yesF ef δ ds h = .ok ys h' ∧ P h' ∧ All2 Q ds ys
  | [], h, hp, _ => ⟨[], h, rfl, hp, .nil⟩
  | d :: ds, h, hp, H => by
    obtain ⟨δ1, y, h1, e1, e2, e3, e4, e5⟩ := H d (List.mem_cons_self ..) h hp
    obtain ⟨ys, h2, f1, f2, f3⟩ := compF_st (ds := ds) e5 fun d hd => H d (List.mem_cons_of_mem _ hd)
    refine ⟨y :: ys, h2, ?_, f2, .cons e4 f3⟩
    unfold compF
    simp [e1, e2, e3, f1]
/-- a for whose turns go on: what holds between two turns -/
theorem forF_inv {P : List D → DE → Bx → Prop} : ∀ {ds : List D} {δ : DE} {h : Bx}, P ds δ h → (∀ d ds δ h, P (d :: ds) δ h → ∃ δ1 δ2 h2, u d δ = some δ1 ∧ (sf δ1 h = .nx δ2 h2 ∨ sf δ1 h = .ct δ2 h2) ∧ P ds δ2 h2) →
    ∃ δ' h', forF u sf ds δ h = .nx δ' h' ∧ P [] δ' h'
  | [], δ, h, hp, _ => ⟨δ, h, rfl, hp⟩
  | d :: ds, δ, h, hp, H => by
    obtain ⟨δ1, δ2, h2, e1, e2, e3⟩ := H d ds δ h hp
    obtain ⟨δ', h', f1, f2⟩ := forF_inv (ds := ds) e3 H
    refine ⟨δ', h', ?_, f2⟩
    unfold forF
    rcases e2 with e2 | e2 <;> simp [e1, e2, f1]
theorem forF_nil : forF u sf [] δ h = .nx δ h := rfl
theorem forF_nx {d : D} {ds : List D} {δ1 δ2 : DE} {h2 : Bx} (e1 : u d δ = some δ1) (e2 : sf δ1 h = .nx δ2 h2) : forF u sf (d :: ds) δ h = forF u sf ds δ2 h2 := by
  rw [forF]; simp only [e1, e2]
theorem forF_ct {d : D} {ds : List D} {δ1 δ2 : DE} {h2 : Bx} (e1 : u d δ = some δ1) (e2 : sf δ1 h = .ct δ2 h2) : forF u sf (d :: ds) δ h = forF u sf ds δ2 h2 := by
  rw [forF]; simp only [e1, e2]
theorem forF_bk {d : D} {ds : List D} {δ1 δ2 : DE} {h2 : Bx} (e1 : u d δ = some δ1) (e2 : sf δ1 h = .bk δ2 h2) : forF u sf (d :: ds) δ h = .nx δ2 h2 := by
  rw [forF]; simp only [e1, e2]
theorem forF_rt {d v : D} {ds : List D} {δ1 : DE} {h2 : Bx} (e1 : u d δ = some δ1) (e2 : sf δ1 h = .rt v h2) : forF u sf (d :: ds) δ h = .rt v h2 := by
  rw [forF]; simp only [e1, e2]
theorem whileF_nx {n : Nat} {δ2 : DE} {h1 h2 : Bx} (e1 : tf δ h = .ok true h1) (e2 : sf δ h1 = .nx δ2 h2) : whileF tf sf (n + 1) δ h = whileF tf sf n δ2 h2 := by
  rw [whileF]; simp [e1, e2]
theorem whileF_end {n : Nat} {h1 : Bx} (e1 : tf δ h = .ok false h1) : whileF tf sf (n + 1) δ h = .nx δ h1 := by
  rw [whileF]; simp [e1]
end
/-! ### small numbers as data -/
def nD (n : Nat) : D := .int n
def nsD (l : List Nat) : List D := l.map nD
@[simp] theorem isV_nD {n : Nat} : isV (nD n) = true := pr rfl
@[simp] theorem nsD_length {l : List Nat} : (nsD l).length = l.length := by simp [nsD]
/-- the number at i -/
def nth (l : List Nat) (i : Nat) : Nat := l.getD i 0
theorem nth_eq {l : List Nat} {i : Nat} (h : i < l.length) : nth l i = l[i] := by
  unfold nth
  rw [List.getD_eq_getElem?_getD, List.getElem?_eq_getElem h]; rfl
theorem nsD_get {l : List Nat} {i : Nat} (h : i < l.length) : (nsD l)[i]? = some (.int (nth l i)) := by
  simp [nsD, List.getElem?_map, List.getElem?_eq_getElem h, nth_eq h, nD]
theorem nsD_at {l : List Nat} {i : Nat} (h : i < l.length) : atI (nsD l) (i : Int) = some (.int (nth l i)) := by
  rw [atI_nat (by simpa using h), nsD_get h]
@[simp] theorem pure_nD {n : Nat} : (nD n).pure = true := pr rfl
@[simp] theorem dep_nD {n : Nat} : (nD n).dep = 0 := pr rfl
@[simp] theorem pures_nsD {l : List Nat} : D.pures (nsD l) = true := by
  induction l with
  | nil => rfl
  | cons a l ih => show (true && D.pures (nsD l)) = true; rw [ih]; rfl
@[simp] theorem deps_nsD {l : List Nat} : D.deps (nsD l) = 0 := by
  induction l with
  | nil => rfl
  | cons a l ih => show max 0 (D.deps (nsD l)) = 0; rw [ih]; rfl
@[simp] theorem bls_nil : bls [] = some [] := pr rfl
@[simp] theorem bls_cons {b : Bool} {ds : List D} : bls (.bl b :: ds) = (bls ds).map (b :: ·) := pr rfl
@[simp] theorem bls_trues {α : Type} {l : List α} : bls (l.map fun _ => D.bl true) = some (l.map fun _ => true) := by
  have := bls_map (l.map fun _ => true)
  rw [List.map_map] at this
  exact this
@[simp] theorem bls_trues2 {α β : Type} {g : α → β} {l : List α} : bls (l.map ((fun _ => D.bl true) ∘ g)) = some (l.map fun _ => true) := bls_trues
theorem all_trues {α : Type} {l : List α} : (l.map fun _ => true).all id = true := by
  induction l with
  | nil => rfl
  | cons a l ih => simp
@[simp] theorem pures_append {a b : List D} : D.pures (a ++ b) = (D.pures a && D.pures b) := by
  induction a with
  | nil => rfl
  | cons d a ih => show (d.pure && D.pures (a ++ b)) = ((d.pure && D.pures a) && D.pures b); rw [ih, Bool.and_assoc]
@[simp] theorem deps_append {a b : List D} : D.deps (a ++ b) = max (D.deps a) (D.deps b) := by
  induction a with
  | nil => show D.deps b = max 0 _; omega
  | cons d a ih => show max d.dep (D.deps (a ++ b)) = max (max d.dep (D.deps a)) _; rw [ih]; omega
theorem pures_all {a : List D} (h : ∀ d ∈ a, d.pure = true) : D.pures a = true := by
  induction a with
  | nil => rfl
  | cons d a ih => show (d.pure && D.pures a) = true; rw [h d (List.mem_cons_self ..), ih fun d hd => h d (List.mem_cons_of_mem _ hd)]; rfl
theorem deps_le {a : List D} {n : Nat} (h : ∀ d ∈ a, d.dep ≤ n) : D.deps a ≤ n := by
  induction a with
  | nil => exact Nat.zero_le _
  | cons d a ih =>
    have h1 := h d (List.mem_cons_self ..)
    have h2 := ih fun d hd => h d (List.mem_cons_of_mem _ hd)
    show max d.dep (D.deps a) ≤ n
    omega
end LP
/-! LpK: an own exception whose __init__ says super().__init__(text); self.f = x. -/
namespace LP
open PySem PySem.Spec PyProof.Rows L2 HT
open PySem.W (Frag)
abbrev exT : List Value := [.type "Exception", .type "BaseException", .type "object"]
/-- own classes, then Exception's mro -/
def refsE (l : List Value) : Bool := PySem.W.excTail exT l
theorem refsE_contains (X : String) (l : List Value) (h : refsE l = true) : l.contains (.type X) = exT.contains (.type X) := PySem.W.excTail_contains X l h
theorem refsE_pass (self : Value) (l : List Value) (h : refsE l = true) : refuseLoop self "__setattr__" l = pure () := PySem.W.excTail_pass self (F.store_Exception.passes self) l h
section
open Builtin Builtin.ObjectAttr PySem.W
variable {prog : Program} {w : World} {A : Around} {E : Value → Shared → Prop} {R : Result → Shared → Prop} {hp : Heap} {g : Array GenState} {d : Drawn} {t : Nat} {os : OsState}
/-- x.name = v on an exception that has no dict yet -/
theorem osa_newE {K : Frag} {name : Str} {tk : Tok} {v : Value} {x C : Addr} {fv : Array Value} {cd : ClassData}
    (X : K.In hp) (hx : hp.get? x = some { cls := .ref C, data := .fields fv }) (hcd : clsIn K C = some cd) (hm : refsE cd.mro = true) (hh : cd.hasDict = true) (ha : findIn K (.ref C) name = some none)
    (hq : ∀ h' tk' dx, (∀ b o, b ≠ x → hp.get? b = some o → h'.get? b = some o) → hp.objs.size ≤ dx → dx ≠ x → h'.get? x = some { cls := .ref C, dict := some dx, data := .fields fv } →
      h'.Ns1 dx (fun y => if y = name then some v else none) → R (.ok (.ret .none)) ⟨h', g, d, tk', os⟩) :
    codeAny (model prog w) A (.call (.builtin "object.__setattr__") ⟨[.ref x, .str name tk, v], []⟩) R ⟨hp, g, d, t, os⟩ := by
  have I : InstAt hp x { cls := .ref C, data := .fields fv } C none := ⟨hx, rfl, rfl, trivial⟩
  have SF := F.store_object
  have hob : cd.mro.contains (.type "object") = true := (refsE_contains "object" _ hm).trans (by decide +kernel)
  have ne : cd.mro.isEmpty = false := by
    cases h : cd.mro with
    | nil => rw [h] at hob; cases hob
    | cons _ _ => rfl
  have hxs : x ≠ hp.objs.size := Nat.ne_of_lt (Heap.lt_size hx)
  have sub : Looks (model prog w) hp (isInstance (.ref x) (.type "object")) true := I.type.andThen (looks_mroIn X (by unfold mroIn; rw [hcd, Option.bind_some, if_neg (by rw [ne]; decide), hob]))
  refine codeAny_call_builtin SF.slot.plain SF.entry (@check_slot (model prog w) _ _ ⟨hp, g, d, t, os⟩ "object.__setattr__" "object" "__setattr__" (.ref x) [.str name tk, v] [] _ SF.kind SF.split sub (SF.args (.ref x) (.str name tk) v) ?_)
  have hmr : Looks (model prog w) hp (mroOf (.ref C)) cd.mro := (looks_clsIn X hcd).andThen .now
  have L3 : Looks (model prog w) hp (storeTaker? none) none := .now
  have hcls : Looks (model prog w) hp (classData C) cd := looks_clsIn X hcd
  rw [osa_eq, refuse_eq]
  refine wpAny_bind (wpAny_bind (I.type.at (wpAny_bind (hmr.at ?_))))
  rw [refsE_pass _ _ hm]
  refine wpAny_pure (wpAny_bind (I.type.at (wpAny_bind ((looks_findIn X ha).at (wpAny_bind (L3.at ?_))))))
  show wpAny _ _ (storeInOwnDict (.ref x) (.ref C) (.str name tk) name v false) _ _ _
  obtain ⟨nm, bs, mro, ns, qn, hd, sn, sb, ab, col, del⟩ := cd
  dsimp only at hh
  subst hh
  unfold storeInOwnDict ownDictForStores
  repeat (first | with_reducible refine HandSPX.store_in_new ?_ ?_ | with_reducible refine wpAny_loadPart_at hx ?_ | with_reducible refine hcls.at ?_ | wp_step)
  · exact ⟨_, #[], _, (Heap.get?_update_ne _ _ _ _ hxs.symm).trans (Heap.get?_push_at rfl rfl), rfl, fun e he => absurd he (by simp), fun _ => rfl⟩
  · intro h' tk' hn' hs
    have hx₁ : (hp.push { cls := .type "dict", data := .dict #[] }).get? x = some { cls := .ref C, data := .fields fv } := Heap.get?_push_of_some _ hx
    refine hq h' tk' hp.objs.size (fun b o hb ho => ?_) (Nat.le_refl _) hxs.symm ?_ hn'
    · exact (hs.2 b (Nat.ne_of_lt (Heap.lt_size ho))).trans ((Heap.get?_update_ne _ _ _ _ hb).trans (Heap.get?_push_of_some _ ho))
    · exact (hs.2 x hxs).trans (Heap.get?_update_self _ hx₁ rfl)
end
end LP
/-! LpK2: __init__ that says super().__init__(text); self.f = x. -/
namespace LP
open PySem PySem.Spec PyProof.Rows L2 HT
open PySem.W (Frag)
section
open PySem.W PySem.Calls
variable {prog : Program} {w : World} {A : Around} {R : Result → Shared → Prop} {hp : Heap} {g : Array GenState} {d : Drawn} {t : Nat} {os : OsState}
/-- what the written part says of the class -/
structure ExC (K : Frag) (prog : Program) (C fI : Addr) (fl : Str) (params : Arguments) (body : List Stmt) (scope : Scope) (pn : Str) : Prop where
  cls : ∃ nm q N bs bm sn sub ab col dd k0 k1 k2 k3 k5, K.lookup C = some (excClassObj nm q C N bs bm true sn sub ab col dd k0 k1 k2 k3 k5 "Exception.__new__") ∧ refsE bm = true
  sa : findIn K (.ref C) "__setattr__" = some (some (.builtin "object.__setattr__"))
  exC : subIn K (.ref C) (.type "BaseException") = some true
  tyC : typeIn K (.ref C) = some (.type "type")
  kC : keepIn K (.ref C) = true
  fl_ : findIn K (.ref C) fl = some none
  sup : ks_superIn K C C "__init__" = some (some (.builtin "Exception.__init__"))
  op : nsIn K cStatics "thirdparty.any" = some none
  selfM : mroIn K C (.ref C) = some true
  exM : mroIn K C (.type "Exception") = some true
  ini : findIn K (.ref C) "__init__" = some (some (.ref fI))
  fn : typeIn K (.ref fI) = some (.type "function")
  lk : ∃ (oc dV kV doc pm ct : Value) (od an : Option Addr) (osl : Array (Option Value)) (cc cda : Addr) (qual : Str) (ccl cl : Value) (cdd cld : Option Addr) (ccs csl : Array (Option Value)) (vs : Array Value) (file : Str) (tf : Tok),
    K.lookup fI = some ⟨oc, od, .func (ksFn "__init__" qual params body scope dV kV doc pm an (.ref cda) ct cc), osl⟩ ∧ codeIn K (.ref cda) qual = true ∧ K.lookup cda = some ⟨ccl, cdd, .fields vs, ccs⟩ ∧ vs[2]? = some (.str file tf) ∧ ((prog.main.file : Str) == file) = true ∧
    K.lookup cc = some ⟨cl, cld, .cell (some (.ref C)), csl⟩ ∧ ∀ (us : List Value), us.length = 2 → bindArgs (ksFn "__init__" qual params body scope dV kV doc pm an (.ref cda) ct cc) ⟨us, []⟩ = pure ([("self" : Str), pn].zip us)
theorem init_run {K : Frag} {C fI e t0 : Addr} {fl text pn : Str} {v : Value} {params : Arguments} {scope : Scope} {p0 p1 p2 p3 p4 p5 p6 p7 p8 p9 : Pos} {j : Nat} {ar : Arg} {mg mb : Str → Option Value}
    (T : ExC K prog C fI fl params [.Expr (.Call (.Attribute (.Call (.Name "super" p0) [] [] p1) "__init__" p2) [.Constant (.str text) j p3] [] p4) p5, .Assign [.Attribute (.Name "self" p6) fl p7] (.Name pn p8) p9] scope pn)
    (X : K.In hp) (hG : hp.Ns mainGlobals mg) (hsu : mg "super" = none) (hB : hp.Ns builtinsNs mb) (hbb : mb "super" = some (.type "super")) (hlim : hp.NoLimit) (hroom : A.depth < recursionLimit)
    (he : hp.get? e = some (HandSPX.excO C t0)) (hnK : ∀ o, K.lookup e ≠ some o)
    (hks : scope.names.lookup ("super" : Str) = some .globalImplicit) (hkc : scope.names.lookup ("__class__" : Str) = some .free) (hself : scope.names.lookup ("self" : Str) = some .local) (hpn : scope.names.lookup pn = some .local) (hne : pn ≠ ("self" : Str))
    (hcell : ∀ x ∈ scope.names, x.2 ≠ .cell) (hco : scope.isCoroutine = false) (hgen : scope.isGenerator = false) (hk : scope.kind = .function) (hpar : (params.posonlyargs ++ params.args).head? = some ar) (har : ar.arg = "self") (htop : (prog.main.scope.names.lookup ("super" : Str)).isSome = false) (hdb : (pn == ("__debug__" : Str)) = false)
    {pl : Env → Sem Bool} (hev : ∀ env : Env, eval (.Call (.Attribute (.Call (.Name "super" p0) [] [] p1) "__init__" p2) [.Constant (.str text) j p3] [] p4) env = (do
      let ov ← attributeBase (.Call (.Name "super" p0) [] [] p1) "__init__" env (eval (.Call (.Name "super" p0) [] [] p1) env)
      standAt p2.atName
      let (f, first) ← holding [ov] (getMethod ov "__init__" (pl env))
      callWith p4 f first (backTo p4 (starEach [.Constant (.str text) j p3] env)) []))
    (hin : ∀ env : Env, env.scope = scope → interactive env = false)
    (hsw1 : ∀ env : Env, swapsWith (.Call (.Attribute (.Call (.Name "super" p0) [] [] p1) "__init__" p2) [.Constant (.str text) j p3] [] p4) none p5.line env = pure false)
    (hsw2 : ∀ env : Env, swapsWith (.Name pn p8) (some (.Attribute (.Name "self" p6) fl p7)) p9.line env = pure false)
    (hst : ∀ env : Env, starEach [.Constant (.str text) j p3] env = [(false, eval (.Constant (.str text) j p3) env)])
    (h : ∀ h' tk' t1 dx, (∀ b o, b ≠ e → hp.get? b = some o → h'.get? b = some o) → hp.objs.size ≤ dx → dx ≠ e → h'.get? e = some { cls := .ref C, dict := some dx, data := .fields #[.ref t1, .none, .none, .none, .bool false, .none] } →
      h'.Ns1 dx (fun y => if y = fl then some v else none) → R (.ok (.ret .none)) ⟨h', g, d, tk', os⟩) :
    codeAny (model prog w) A (.call (.ref fI) ⟨[.ref e, v], []⟩) R ⟨hp, g, d, t, os⟩ := by
  obtain ⟨nm, q, N, bs, bm, sn, sub, ab, col, dd, k0, k1, k2, k3, k5, hC, hbm⟩ := T.cls
  obtain ⟨oc, dV, kV, doc, pm, ct, od, an, osl, cc, cda, qual, ccl, cl, cdd, cld, ccs, csl, vs, file, tf, lk, hcd, lcda, hvs, hfile, lcc, hbind⟩ := T.lk
  have hcl : clsIn K C = some { name := nm, bases := bs, mro := .ref C :: bm, ns := N, qualname := q, hasDict := true, slotNames := sn, subclasses := sub, abstract := ab, collection := col, hasDel := false } := by unfold clsIn; rw [hC] <;> rfl
  refine ks_codeAny_call_defAt (binds := [(("self" : Str), .ref e), (pn, v)]) hroom (X _ _ lk) rfl hlim (codeRec_of X hcd) rfl (.of_eq (hbind [.ref e, v] rfl)) hcell (fun y hy => ?_) (fun h₀ hns kp => ?_) hco hgen hk
  · rcases List.mem_cons.mp hy with rfl | hy
    · exact hself
    · have : y = (pn, v) := by simpa using hy
      subst this; exact hpn
  · have X0 : K.In h₀ := X.keeps kp
    have se : ([(("self" : Str), Value.ref e), (pn, v)].reverse).lookup ("self" : Str) = some (.ref e) := by
      show List.lookup ("self" : Str) [(pn, v), (("self" : Str), Value.ref e)] = _
      rw [List.lookup_cons]
      rw [show (("self" : Str) == pn) = false from beq_eq_false_iff_ne.mpr (Ne.symm hne)]
      rfl
    have sp : ([(("self" : Str), Value.ref e), (pn, v)].reverse).lookup pn = some v := by
      show List.lookup pn [(pn, v), (("self" : Str), Value.ref e)] = _
      rw [List.lookup_cons, beq_self_eq_true]
    refine ks_wpAt_execs_cons (ks_wpAt_Expr_any (ks_wpAt_MethodCall ?_ (hev _)) (hin _ rfl) (hsw1 _))
    refine ks_wpAt_super_base hks hkc (by decide) rfl (X0 _ _ lk) rfl hpar rfl (X0 _ _ lcda) rfl hvs hfile htop ?_
    refine ks_loadName_global hk hks (loadGlobal_builtin (hG.keeps kp) hsu (hB.keeps kp) hbb ⟨rfl, ?_⟩)
    refine wpAny_loadName_free hk hkc rfl ⟨_, X0 _ _ lcc, rfl⟩ ?_
    rw [har]
    refine wpAny_loadName_local hk hself hns se ?_
    refine ks_wpAny_isType_cls (X0 _ _ hC) rfl ⟨rfl, ?_⟩
    refine ks_wpAny_call_super (X0 _ _ hC) rfl (kp _ _ he) rfl (fun c z => by cases z) (looks_mroIn X0 T.selfM) (fun h1 hso k1 => ?_)
    have X1 : K.In h1 := X0.keeps k1
    have hC1 := X1 _ _ hC
    have e0 : h₀.get? e = some (HandSPX.excO C t0) := kp _ _ he
    have e1 : h1.get? e = some (HandSPX.excO C t0) := k1 _ _ e0
    have hxC : e ≠ C := fun z => by
      rw [z, hC1] at e1
      cases e1
    have I1 : InstAt h1 e (HandSPX.excO C t0) C none := ⟨e1, rfl, rfl, trivial⟩
    have hf : alongIn K "__init__" bm = some (some (.builtin "Exception.__init__")) := by
      have z := T.sup
      unfold ks_superIn at z
      rw [hcl, Option.bind_some, ESX.drop_own] at z
      exact z
    refine ESX.getMethod_super (D := C) (l₀ := .ref C :: bm) hso (looks_opaque X1 T.op) ((looks_clsIn X1 hcl).andThen .now) (ESX.drop_own C bm) X1 hf hxC (by decide) (I1.type.andThen (looks_mroIn X1 T.exM)) ?_
    refine ESX.callWith_bound (x := e) ?_
    rw [hst]
    refine spliced_cons (Constant_str (k := j) (pos := p3) (spliced_nil ⟨Heap.get?_push_size _ rfl, ?_⟩))
    have k2 : ∀ b o, h1.get? b = some o → (h1.push (ESX.bw e)).get? b = some o := fun b o q => Heap.get?_push_of_some _ q
    refine ESX.call_bw (k2 _ _ hC1) (k2 _ _ e1) (Heap.get?_push_size _ rfl) (by show 1 ≤ sizeLine; decide) (fun h3 t1 k3 e3 => ?_)
    have up3 : ∀ b o, b ≠ e → h₀.get? b = some o → h3.get? b = some o := fun b o nb q => k3 b o nb (k2 _ _ (k1 _ _ q))
    have el : e ≠ hp.objs.size := Nat.ne_of_lt (Heap.lt_size he)
    have X3 : K.In h3 := fun b o q => by
      by_cases hb : b = e
      · subst hb; exact (hnK o q).elim
      · exact k3 b o hb (k2 _ _ (X1 b o q))
    have ns3 : h3.Ns hp.objs.size (fun x => [(("self" : Str), Value.ref e), (pn, v)].reverse.lookup x) := by
      obtain ⟨oL, es, ep, hL, r⟩ := hns
      exact ⟨oL, es, ep, up3 _ _ (Ne.symm el) hL, r⟩
    refine ks_wpAt_execs_cons (wpAt_of_wpAny (plainObj_wpAny_Assign_Attribute ?_ (hsw2 _)))
    refine wpAny_Name (wpAny_loadName_local hk hpn ns3 sp ?_) hdb
    refine wpAny_Name (wpAny_loadName_local hk hself ns3 se ?_) (by decide)
    have I3 : InstAt h3 e (HandSPX.excO C t1) C none := ⟨e3, rfl, rfl, trivial⟩
    refine set_plain X3 I3 T.sa ?_
    refine osa_newE X3 e3 hcl (show refsE (.ref C :: bm) = true from hbm) rfl T.fl_ (fun h4 tk dx k4 dn dne hx hn => ?_)
    have sz : hp.objs.size ≤ h3.objs.size := by
      obtain ⟨oL, es, ep, hL, r⟩ := ns3
      exact Nat.le_of_lt (Heap.lt_size hL)
    have fin := h h4 tk t1 dx (fun b o nb q => k4 b o nb (up3 b o nb (kp _ _ q))) (Nat.le_trans sz dn) dne hx hn
    exact wpAt_of_wpAny (wpAny_execs_nil fin)
end
section
variable {X : Cx} {e : Expr} {ta : TA}
/-- C(e): an exception with the one field fl -/
def tMkE (C : Addr) (fl : Str) (ta : TA) : L2.St → Hp → XK → Prop := fun σ H Q => ta σ H fun vs H1 => ∃ y, vs = [y] ∧ ∀ d, H1 d = none → Q (.ref C) (some d) (upd H1 d (.xd [(fl, y)]))
theorem pmk_E {x : Str} {C fI : Addr} {fl text pn : Str} {params : Arguments} {scope : Scope} {p pos p0 p1 p2 p3 p4 p5 p6 p7 p8 p9 : Pos} {j k : Nat} {ar : Arg}
    (T : ExC X.K X.prog C fI fl params [.Expr (.Call (.Attribute (.Call (.Name "super" p0) [] [] p1) "__init__" p2) [.Constant (.str text) j p3] [] p4) p5, .Assign [.Attribute (.Name "self" p6) fl p7] (.Name pn p8) p9] scope pn)
    (hsu : X.mg "super" = none) (hr : Room (k + 1) X.A) (hg : Gl X x) (hm : X.mg x = some (.ref C)) (ha : PA X [e] ta)
    (hks : scope.names.lookup ("super" : Str) = some .globalImplicit) (hkc : scope.names.lookup ("__class__" : Str) = some .free) (hself : scope.names.lookup ("self" : Str) = some .local) (hpn : scope.names.lookup pn = some .local) (hne : pn ≠ ("self" : Str))
    (hcell : ∀ x ∈ scope.names, x.2 ≠ .cell) (hco : scope.isCoroutine = false) (hgen : scope.isGenerator = false) (hk : scope.kind = .function) (hpar : (params.posonlyargs ++ params.args).head? = some ar) (har : ar.arg = "self") (htop : (X.prog.main.scope.names.lookup ("super" : Str)).isSome = false) (hdbp : (pn == ("__debug__" : Str)) = false)
    {pl : Env → Sem Bool} (hev : ∀ env : Env, eval (.Call (.Attribute (.Call (.Name "super" p0) [] [] p1) "__init__" p2) [.Constant (.str text) j p3] [] p4) env = (do
      let ov ← attributeBase (.Call (.Name "super" p0) [] [] p1) "__init__" env (eval (.Call (.Name "super" p0) [] [] p1) env)
      standAt p2.atName
      let (f, first) ← holding [ov] (getMethod ov "__init__" (pl env))
      callWith p4 f first (backTo p4 (starEach [.Constant (.str text) j p3] env)) []))
    (hin : ∀ env : Env, env.scope = scope → interactive env = false)
    (hsw1 : ∀ env : Env, swapsWith (.Call (.Attribute (.Call (.Name "super" p0) [] [] p1) "__init__" p2) [.Constant (.str text) j p3] [] p4) none p5.line env = pure false)
    (hsw2 : ∀ env : Env, swapsWith (.Name pn p8) (some (.Attribute (.Name "self" p6) fl p7)) p9.line env = pure false)
    (hst : ∀ env : Env, starEach [.Constant (.str text) j p3] env = [(false, eval (.Constant (.str text) j p3) env)])
    (hdb : (x == ("__debug__" : Str)) = false := by decide) (he : starEach [e] X.env = (false, eval e X.env) :: starEach [] X.env := by rfl) (hpl : (backTo pos (starEach [] X.env)).any (·.1) = false := by rfl) :
    PMk X (.Call (.Name x p) [e] [] pos) (tMkE C fl ta) := by
  intro pins s σ H Q I h
  obtain ⟨nm, q, N, bs, bm, sn, sub, ab, col, dd, k0, k1, k2, k3, k5, hC, hbm⟩ := T.cls
  refine wpAny_Call_Name_kw (ld_glob I hg hm ?_ hdb)
  refine PySem.W.callWith_K (h₀ := X.base) I.ok.mod.kin T.kC (thn (ha.run pos pins s σ H _ I h) fun us s1 ⟨vs, H1, I1, r1, y, ev, q1⟩ => ⟨I1.kIn, ?_⟩) he hpl
  subst ev
  obtain ⟨u, rfl, ru⟩ : ∃ u, us = [u] ∧ RelV y u := by
    cases r1 with
    | cons a b => cases b; exact ⟨_, rfl, a⟩
  show wpAny _ _ (call (.ref C) [u]) _ _ _
  obtain ⟨hp, g, dr, tk, os⟩ := s1
  have hget : ((hp.push (PySem.W.kdv_tup [u])).push (PySem.HandSPX.excO C hp.objs.size)).get? (hp.objs.size + 1) = some (PySem.HandSPX.excO C hp.objs.size) := by heap_get
  have kk : ∀ b o, hp.get? b = some o → ((hp.push (PySem.W.kdv_tup [u])).push (PySem.HandSPX.excO C hp.objs.size)).get? b = some o := fun b o e => Heap.get?_push_of_some _ (Heap.get?_push_of_some _ e)
  have Kin := I1.kIn
  have hno : ∀ o, X.K.lookup (hp.objs.size + 1) ≠ some o := fun o z => by
    have this : hp.objs.size + 1 < hp.objs.size := Heap.lt_size (Kin _ _ z)
    omega
  obtain ⟨mb, hB, hbb⟩ := I1.ok.mod.blt
  refine wpAny_call (PySem.HandSPX.call_own F.excBase_Exception (fun Y => refsE_contains Y bm hbm) (Kin _ _ hC) (PySem.W.looks_findIn Kin T.ini) (fun self => PySem.W.bind_fn Kin self T.fn) (by show 1 ≤ sizeLine; decide)
    (init_run T (Kin.keeps kk) (mg := X.mg) (mb := mb) ?_ hsu ?_ ?_ ?_ ?_ hget hno hks hkc hself hpn hne hcell hco hgen hk hpar har htop hdbp hev hin hsw1 hsw2 hst fun h' tk' t1 dx k3 dn dne hx hns => ?_))
  · exact (I1.ok.mod.glob.keeps I1.bk).keeps kk
  · exact (hB.keeps I1.bk).keeps kk
  · exact (hbb "super" (by decide)).trans (by decide +kernel)
  · exact I1.nolimit.keeps kk
  · exact (hr.make C [u] []).depth
  · have hd1 : H1 dx = none := I1.hok.fresh (Nat.le_trans (by show hp.objs.size ≤ _; rw [Heap.size_push, Heap.size_push]; omega) dn)
    obtain ⟨G, g1', g2'⟩ := restrict h' fun b => decide (b ≠ hp.objs.size + 1)
    have gk : ∀ b, b ≠ hp.objs.size + 1 → G.get? b = h'.get? b := fun b hb => g1' b (decide_eq_true hb)
    have ge : G.get? (hp.objs.size + 1) = none := g2' _ (by simp)
    have hgd : hp.objs.size ≤ dx := Nat.le_trans (by show hp.objs.size ≤ _; rw [Heap.size_push, Heap.size_push]; omega) dn
    have rel : ∀ f, RelO ([(fl, y)].lookup f) (if f = fl then some u else none) := fun f => relO_put (fs := []) (mA := fun _ => none) ru (fun g => True.intro) f
    have hok : ObjOk X.prog X.w (upd H1 dx (.xd [(fl, y)])) G dx (.xd [(fl, y)]) := ⟨_, hns.at fun o q => (gk dx dne).trans q, rel⟩
    have J : Inv X pins σ (upd H1 dx (.xd [(fl, y)])) { ({ heap := hp, gens := g, drawn := dr, toks := tk, os := os } : Shared) with heap := G, toks := tk' } :=
      I1.laid (t' := tk') (fun b o q => by
        have hb : b ≠ hp.objs.size + 1 := fun z => by
          have q' : hp.get? b = some o := q
          rw [z] at q'
          have this : hp.objs.size + 1 < hp.objs.size := Heap.lt_size q'
          omega
        rw [gk b hb]
        exact k3 b o hb (kk b o q)) hgd hok
    exact ⟨rfl, hp.objs.size + 1, _, _, { heap := G, gens := g, drawn := dr, toks := tk', os := os }, _, .ref C, some dx, rfl, J, fun b o q => by
      have hb : b ≠ hp.objs.size + 1 := fun z => by
        have q' : G.get? b = some o := q
        rw [z, ge] at q'; cases q'
      rw [← gk b hb]; exact q, ge, hx, ⟨rfl, rfl⟩, rfl, rfl, by rw [upd_ne dne.symm]; exact I1.hok.fresh (Nat.le_succ _), rfl, I1.bare, raises_own T.exC T.tyC, q1 dx hd1⟩
end
end LP
/-! LpL: try with several clauses, with or without a name. -/
namespace LP
open PySem PySem.Spec PyProof.Rows L2
/-- a clause's wish where the exception has a name: slot i holds it, and is empty behind the suite -/
def asW (i : Nat) (ts : Addr → Value → Option Addr → TS) : Addr → Value → Option Addr → TS := fun a cls d D σ H =>
  ts a cls d ⟨fun σ' H' => D.nx (σ'.set i none) H', D.rt, fun σ' H' => D.bk (σ'.set i none) H', fun σ' H' => D.ct (σ'.set i none) H'⟩ (σ.set i (some (.ref a))) H
/-- one clause -/
inductive Cl (X : Cx) : ExceptHandler → Value → (Addr → Value → Option Addr → TS) → Prop
  | one {x : Str} {c : Value} {ts : Addr → Value → Option Addr → TS} {b : Stmt} {bs : List Stmt} {p q : Pos} (hc : Names X x c)
      (su : ∀ (a : Addr) (oe : Obj) (cls : Value) (d : Option Addr) (pn : List (Addr × Obj)), Zc cls d oe → (∃ vs, oe.data = .fields vs) → PSs (X.suite a ((a, oe) :: pn)) (b :: bs) (ts a cls d)) :
      Cl X (.ExceptHandler (some (.Name x p)) none (b :: bs) q) c ts
  | as_ {x n : Str} {i : Nat} {c : Value} {ts : Addr → Value → Option Addr → TS} {b : Stmt} {bs : List Stmt} {p q : Pos} (hc : Names X x c) (hN : X.N.Nodup) (hi : X.N[i]? = some n) (hl : X.env.kindOf n = some .local)
      (su : ∀ (a : Addr) (oe : Obj) (cls : Value) (d : Option Addr) (pn : List (Addr × Obj)), Zc cls d oe → (∃ vs, oe.data = .fields vs) → PSs (X.suite a ((a, oe) :: pn)) (b :: bs) (ts a cls d)) :
      Cl X (.ExceptHandler (some (.Name x p)) (some n) (b :: bs) q) c (asW i ts)
inductive Cls (X : Cx) : List ExceptHandler → List (Value × (Addr → Value → Option Addr → TS)) → Prop
  | nil : Cls X [] []
  | cons {hd : ExceptHandler} {hds : List ExceptHandler} {c : Value} {ts : Addr → Value → Option Addr → TS} {l : List (Value × (Addr → Value → Option Addr → TS))} (h : Cl X hd c ts) (r : Cls X hds l) : Cls X (hd :: hds) ((c, ts) :: l)
/-- an exception that came down in the frame of X, at the heap h -/
structure Air (X : Cx) (pins : List (Addr × Obj)) (σ : L2.St) (H : Hp) (a : Addr) (cls : Value) (d : Option Addr) (B : Heap) (sI s : Shared) (h : Heap) : Prop where
  J : Inv X pins σ H sI
  nb : ∀ b o, sI.heap.get? b = some o → b ∉ frs X.stack → B.get? b = some o
  up : sI.heap.UpToSlots h
  na : H a = none
  os : s.os = sI.os
  ag : AllBare s.gens
  fl : HandSPX.FlyingZ B (X.env :: X.outer) a (Zc cls d) h
section
variable {X : Cx} {pins : List (Addr × Obj)} {σ : L2.St} {H : Hp} {a : Addr} {cls : Value} {d : Option Addr} {B : Heap} {sI s : Shared} {h : Heap}
theorem Air.inv (A : Air X pins σ H a cls d B sI s h) : Inv X pins σ H { s with heap := h } := Inv.landed (s' := { s with heap := h }) A.J A.nb A.fl.1 A.up A.os A.ag
theorem Air.apart (A : Air X pins σ H a cls d B sI s h) (hf : X.env.frame = some X.env.locals) : a ≠ X.env.locals ∧ a ∉ X.fs := by
  obtain ⟨oe, vs, e1, _, e2⟩ := A.fl.there
  have no : a ∉ frs (X.env :: X.outer) := by
    intro z
    obtain ⟨_, o, e3, nf⟩ := A.fl.2.2.1.mem z
    cases e1.symm.trans e3
    exact nf _ e2
  constructor
  · intro z
    apply no
    rw [z]
    exact List.mem_filterMap.mpr ⟨X.env, List.mem_cons_self, hf⟩
  · intro z
    obtain ⟨e, m, q⟩ := List.mem_filterMap.mp z
    exact no (List.mem_filterMap.mpr ⟨e, List.mem_cons_of_mem _ m, q⟩)
theorem Air.go (A : Air X pins σ H a cls d B sI s h) {h' : Heap} (f : HandSPX.FlyingZ B (X.env :: X.outer) a (Zc cls d) h') (u : h.UpToSlots h') : Air X pins σ H a cls d B sI s h' :=
  ⟨A.J, A.nb, A.up.trans u, A.na, A.os, A.ag, f⟩
theorem Air.in_suite (A : Air X pins σ H a cls d B sI s h) (hf : X.env.frame = some X.env.locals) :
    ∃ oe, Zc cls d oe ∧ (∃ vs, oe.data = .fields vs) ∧ Inv (X.suite a ((a, oe) :: (X.pn ++ pins))) [] σ H { s with heap := h } := by
  obtain ⟨oe, vs, e1, z, e2⟩ := A.fl.there
  have n := A.apart hf
  exact ⟨oe, z, ⟨vs, e2⟩, A.inv.suite e1 e2 A.na n.1 n.2⟩
/-- the clauses, one after the other -/
theorem Cls.run {Wout : WX} {E : Ends} {l : List (Value × (Addr → Value → Option Addr → TS))} {hds : List ExceptHandler} (hs : X.stack = X.env :: X.outer) (hf : X.env.frame = some X.env.locals) (tk : Takes X Wout)
    (A : Air X pins σ H a cls d B sI s h) (k : Cls X hds l) (w : wMany X.K Wout E l cls d σ H) :
    wpAny (model X.prog X.w) X.A (handleBy (.ref a) X.env hds) (SP X pins E) X.xe { s with heap := h } := by
  have ok := A.J.ok
  induction k with
  | nil =>
    -- nobody took it: it flies on
    obtain ⟨_, _, _, oe, vs, T, oT, ts, e1, z, e2, e3, _⟩ := id A.fl
    refine wpAny_handleBy_nil ?_
    have on_ : wpAny (model X.prog X.w) X.A (setFlight (.ref a) X.env.frame) (fun _ s1 => wpAny (model X.prog X.w) X.A (throw (.ref a) : Sem Flow) (SP X pins E) X.xe s1) X.xe { s with heap := h } := by
      rw [hf]
      refine HandSPX.setFlight_upZ A.fl fun h1 held u => ?_
      refine wpAny_throw (tk _ _ ⟨a, B, sI, pins, σ, H, cls, d, rfl, A.J, A.nb, A.up.trans u, ?_, A.na, A.os, A.ag, w⟩)
      rw [hs]
      exact .inr (.inr held)
    unfold PySem.passOn
    refine wpAny_bind (wpAny_field e1 e2 e3 ?_)
    have ne : ¬ ((Value.ref T == Value.none) = true) := by simp
    rw [if_neg ne]
    first
      | exact wpAny_bind (wpAny_pure (wpAny_bind on_))
      | exact wpAny_bind on_
  | @cons hd hds c ts l hc r ih =>
    obtain ⟨b, eb, yes, no⟩ := w
    obtain ⟨oe, z, ⟨vs, ed⟩, S⟩ := A.in_suite hf
    obtain ⟨oe', vs', eo, z', _⟩ := A.fl.there
    have LT : PySem.W.Looks (model X.prog X.w) h (typeOf (.ref a)) cls := fun _ _ _ _ k q => wpAny_typeOf_ref (k _ _ eo) (by rw [z'.1]; exact q)
    have LM := PySem.W.exm_one (M := model X.prog X.w) A.inv.kIn LT eb
    have nm : ∀ {x : Str} {p : Pos} {Q : Value → Shared → Prop} {E' : Value → Shared → Prop}, Names X x c → Q c { s with heap := h } → wpAny (model X.prog X.w) (X.A.mark (some (.ref a))) (eval (.Name x p) X.env) Q E' { s with heap := h } := by
      intro x p Q E' n q
      obtain ⟨g, db, m⟩ := n
      rcases m with m | ⟨m, v, nn⟩
      · exact ld_glob (X := X.suite a ((a, oe) :: (X.pn ++ pins))) S g m q db
      · exact ld_blt (X := X.suite a ((a, oe) :: (X.pn ++ pins))) S g m v q nn db
    cases hc with
    | one n su =>
      refine wpAny_handleBy_cons (codeAny_handlers_test ?_) (by intro q; cases q)
      refine nm n (LM.here ?_)
      cases b with
      | false => exact ih (no rfl)
      | true =>
        refine codeAny_handlers_suite (HandSPX.lands_againZ A.fl fun h1 f1 u1 => ?_)
        obtain ⟨o1, z1, d1, S1⟩ := (A.go f1 u1).in_suite hf
        refine wpAny_mono ((su a o1 cls d (X.pn ++ pins) z1 d1).run [] _ _ H _ S1 (yes rfl a A.na)) (fun f s6 q => ?_) (fun _ _ y => y.elim)
        cases f with
        | ret u =>
          obtain ⟨v6, σ6, H6, S6, r6, q6⟩ := q
          exact ⟨v6, σ6, H6, S6.unsuite ok, r6, q6⟩
        | _ =>
          obtain ⟨σ6, H6, S6, q6⟩ := q
          exact ⟨σ6, H6, S6.unsuite ok, q6⟩
    | @as_ x n i c ts b0 bs p q hn hN hi hl su =>
      refine wpAny_handleBy_cons (codeAny_handlers_test ?_) (by intro q; cases q)
      refine nm hn (LM.here ?_)
      cases b with
      | false => exact ih (no rfl)
      | true =>
        refine codeAny_handlers_suite_as (HandSPX.lands_againZ A.fl fun h1 f1 u1 => ?_)
        obtain ⟨o1, z1, d1, S1⟩ := (A.go f1 u1).in_suite hf
        refine store_ok (X := X.suite a ((a, o1) :: (X.pn ++ pins))) (v := .ref a) S1 hN hi (.inl hl) rfl (fun s5 S5 => ?_) (.inr hl)
        refine wpAny_mono ((su a o1 cls d (X.pn ++ pins) z1 d1).run [] s5 _ H _ S5 (yes rfl a A.na)) (fun f s6 y => ?_) (fun _ _ y => y.elim)
        have last : ∀ {σ6 : L2.St} {H6 : Hp} {Q : Shared → Prop}, Inv (X.suite a ((a, o1) :: (X.pn ++ pins))) [] σ6 H6 s6 → (∀ s7, Inv X pins (σ6.set i none) H6 s7 → Q s7) →
            wpAny (model X.prog X.w) X.A (do bindName X.env n .none; unbindBehindTheSuite X.env n q) (fun _ s7 => Q s7) X.xe s6 := by
          intro σ6 H6 Q S6 k
          exact gone_ok (S6.unsuite ok) hN hi hl k
        cases f with
        | ret u =>
          obtain ⟨v6, σ6, H6, S6, r6, q6⟩ := y
          exact last S6 fun s7 J7 => ⟨v6, _, _, J7, r6, q6⟩
        | next =>
          obtain ⟨σ6, H6, S6, q6⟩ := y
          exact last S6 fun s7 J7 => ⟨_, _, J7, q6⟩
        | brk =>
          obtain ⟨σ6, H6, S6, q6⟩ := y
          exact last S6 fun s7 J7 => ⟨_, _, J7, q6⟩
        | cont =>
          obtain ⟨σ6, H6, S6, q6⟩ := y
          exact last S6 fun s7 J7 => ⟨_, _, J7, q6⟩
end
section
variable {X : Cx} {body : List Stmt} {hd : ExceptHandler} {hds : List ExceptHandler} {l : List (Value × (Addr → Value → Option Addr → TS))} {pos : Pos} {tb : WX → TS} {Wout : WX}
theorem ps_tryA (hs : X.stack = X.env :: X.outer) (hf : X.env.frame = some X.env.locals) (tk : Takes X Wout)
    (hb : ∀ (W : WX) (pn : List (Addr × Obj)) (xe : Value → Shared → Prop), Takes (X.tr pn xe) W → PassesOwn (model X.prog X.w) X.A X.env xe → PSs (X.tr pn xe) body (tb W))
    (hc : Cls X (hd :: hds) l) : PS X (.Try body (hd :: hds) [] [] pos) (fun E σ H => tb (wMany X.K Wout E l) E σ H) := by
  refine ⟨fun pins s σ H E I h => wpAny_Try_except ?_⟩
  have ok := I.ok
  have fr : X.A.frames = some (X.env :: X.outer) := ok.frames.trans (by rw [hs])
  have bd := (hb (wMany X.K Wout E l) (X.pn ++ pins) (fun e s₁ => wpAny (model X.prog X.w) X.A (noteFrame e X.env) (fun _ s₂ => wpAny (model X.prog X.w) X.A (setFlight e none)
    (fun _ s₃ => wpAny (model X.prog X.w) X.A (handleBy e X.env (hd :: hds)) (SP X pins E) X.xe s₃) X.xe s₂) X.xe s₁) (fun u s' xx => ?_) PassesOwn.looking).run [] s σ H E (I.toTry _) h
  · refine wpAny_mono bd (fun f s1 q => ?_) (fun _ _ q => q)
    cases f with
    | next =>
      obtain ⟨σ', H', J, q⟩ := q
      exact wpAny_execs_nil ⟨σ', H', J.ofTry ok, q⟩
    | ret u =>
      obtain ⟨v, σ', H', J, r, q⟩ := q
      exact ⟨v, σ', H', J.ofTry ok, r, q⟩
    | _ =>
      obtain ⟨σ', H', J, q⟩ := q
      exact ⟨σ', H', J.ofTry ok, q⟩
  · obtain ⟨a, B, sI, pins', σ', H', cls, d, rfl, J, nb, up, sky, na, os, ag, w⟩ := xx
    have sky : Sky B (X.env :: X.outer) a (Zc cls d) X.env.locals s'.heap := hs ▸ sky
    show wpAny (model X.prog X.w) X.A (noteFrame (.ref a) X.env) _ _ _
    refine Sky.land Zc.steady fr hf sky fun h3 f3 u3 => ?_
    exact Cls.run hs hf tk ⟨J.ofTry ok, nb, up.trans u3, na, os, ag, f3⟩ hc w
end
end LP
/-! LpM: raise and try over plain data. -/
namespace LP
open PySem PySem.Spec PyProof.Rows L2
/-- an exception class with one field: how it is made, how it is read -/
structure Exn (K : PySem.W.Frag) (prog : Program) (mg : Str → Option Value) (c fl : Str) : Prop where
  made : ∃ C, mg c = some (.ref C) ∧ ∀ {X : Cx} {k : Nat} {e : Expr} {ta : TA} {p pos : Pos}, X.K = K → X.prog = prog → X.mg = mg → Room (k + 1) X.A → Gl X c → PA X [e] ta →
    starEach [e] X.env = (false, eval e X.env) :: starEach [] X.env → PMk X (.Call (.Name c p) [e] [] pos) (tMkE C fl ta)
  xf : ∀ C, mg c = some (.ref C) → XfC K C ∧ PySem.W.findIn K (.ref C) fl = some none
/-- all of them: tab tells each class's field; they are of the class base -/
structure ExT (K : PySem.W.Frag) (prog : Program) (mg : Str → Option Value) (tab : List (Str × Str)) (base : Str) : Prop where
  cls : ∀ p ∈ tab, Exn K prog mg p.1 p.2
  sub : ∀ p ∈ tab, ∀ (x : Str) (C Y : Addr), x = base ∨ x ∈ tab.map (·.1) → mg p.1 = some (.ref C) → mg x = some (.ref Y) → PySem.W.exmOne K (.ref C) (.ref Y) = some (x == p.1 || x == base)
section
variable {X : Cx} {G : Cfg} {W : WX} {σ : L2.St} {δ : DE} {M M' M1 M2 : Imm} {r r' r1 r2 : List Addr} {h h' h1 h2 : Bx} {H H' H1 H2 : Hp} {E : Ends}
variable {e c : Expr} {f g : EF} {tg : Expr} {fs : DE → Bx → R (List D)} {pos : Pos}
/-- a new object, known to nobody -/
theorem BS.newO (b : BS G M r h δ σ H) {p : Addr} {o : HO} (hp : H p = none) : BS G M r h δ σ (upd H p o) := by
  refine ⟨fun c u e => ⟨(b.mok c u e).1, upd_new hp (b.mok c u e).2⟩, ⟨b.bx.len, b.bx.nd, fun k c ds e1 e2 => ?_⟩, b.tb.ext fun a u e => upd_new hp e, b.len, fun i s x e1 e2 => ?_, b.sep, b.le, b.pre, b.new, fun c u e t nr => upd_new hp (b.keep c u e t nr), b.nf⟩
  · obtain ⟨m', z, vs, q', t⟩ := b.bx.at_ k c ds e1 e2
    exact ⟨m', z, vs, upd_new hp q', t⟩
  · exact (b.sl i s x e1 e2).mono Le.refl List.prefix_rfl fun a vs m q n => ⟨m, n, upd_new hp q⟩
/-- raise C(e) -/
def raiseS (c fl : Str) (f : EF) : SF := fun δ h => (f δ h).toS δ fun d h1 => if isV d = true then .exc c [(fl, d)] δ h1 else .bad
theorem es_raise {k : Nat} {cn fl : Str} {p p2 : Pos} (T : Exn X.K X.prog X.mg cn fl) (hG : X.mg = G.mg) (hc : X.calm = true) (tk : Takes X W) (hr : Room (k + 1) X.A) (hg : Gl X cn) (he : Ev X G W e f) (hs : starEach [e] X.env = (false, eval e X.env) :: starEach [] X.env := by rfl) :
    Es X G W (.Raise (some (.Call (.Name cn p) [e] [] p2)) none pos) (raiseS cn fl f) := by
  obtain ⟨C, mC, mk⟩ := T.made
  refine PS.imp (ps_raise hc tk (mk rfl rfl rfl hr hg (pa_cons he pa_nil hs) hs)) fun E σ H q => ?_
  obtain ⟨M, r, h, δ, b, q⟩ := q
  refine ⟨M, r, h, δ, b, (AfterS.expr (rl := rV G.J) b q).more fun v H1 ⟨d, M1, r1, h1, s1, b1, rv, q1⟩ => ?_⟩
  refine ⟨v, rfl, fun dx hd => ?_⟩
  by_cases iv : isV d = true
  · rw [if_pos iv] at q1
    refine q1 C (some dx) M1 r1 σ _ (hG ▸ mC) Le.refl List.prefix_rfl (b1.newO hd) ⟨dx, [v], rfl, upd_same, v, [], rfl, ?_, rfl⟩
    cases d with
    | loc i => cases iv
    | _ => exact rv
  · rw [if_neg iv] at q1; exact q1.elim
/-! ### try -/
/-- the first clause that takes c -/
def hitH {α : Type} (c base : Str) : List (Str × α) → Option α
  | [] => none
  | p :: ps => if (p.1 == c || p.1 == base) = true then some p.2 else hitH c base ps
/-- a suite raises nothing -/
def noX (x : RS) : RS := match x with
  | .exc _ _ _ _ => .bad
  | x => x
theorem AfterS.noX {G : Cfg} {W : WX} {M : Imm} {r : List Addr} {x : RS} {E : Ends} (q : AfterS G W M r (LP.noX x) E) : AfterS G W0 M r x E := by
  cases x with
  | exc c fs δ h => exact q.elim
  | _ => exact q
/-- what the clauses make of the exception c with the fields fs -/
def catchS (tab : List (Str × Str)) (base : Str) (hs : List (Str × (List (Str × D) → SF))) (c : Str) (fs : List (Str × D)) : SF := fun δ h =>
  if (tab.map (·.1)).contains c = true then match hitH c base hs with
    | some s => noX (s fs δ h)
    | none => .exc c fs δ h
  else .bad
def tryS (tab : List (Str × Str)) (base : Str) (body : SF) (hs : List (Str × (List (Str × D) → SF))) : SF := fun δ h => match body δ h with
  | .exc c fs δ' h' => catchS tab base hs c fs δ' h'
  | x => x
/-- the wish of a suite that knows the exception: slot i holds it -/
def tX (G : Cfg) (a : Addr) (cls : Value) (d : Option Addr) (i : Nat) (tab : List (Str × Str)) (base x : Str) (sf : List (Str × D) → SF) : TS := fun E σ H => ∃ M r h δ fs C fl, BS G M r h δ σ H ∧ (i < σ.length → σ[i]? = some (some (.ref a))) ∧ cls = .ref C ∧ XfC G.K C ∧
  PySem.W.findIn G.K (.ref C) fl = some none ∧ (∃ c, (c, fl) ∈ tab ∧ (x == c || x == base) = true ∧ G.mg c = some (.ref C)) ∧ ExcAt G.J M r H fs d ∧ AfterS G W0 M r (sf fs δ h) E
/-- behind a suite: the slot is empty -/
def dropE (i : Nat) (x : RS) : RS := match x with
  | .nx δ h => .nx (δ.set i .no) h
  | .bk δ h => .bk (δ.set i .no) h
  | .ct δ h => .ct (δ.set i .no) h
  | x => x
theorem BS.emptied (b : BS G M r h δ σ H) (i : Nat) (o : Option V) : BS G M r h (δ.set i .no) (σ.set i o) H := by
  refine b.weak (by rw [List.length_set, List.length_set]; exact b.len) fun j s e => ?_
  by_cases hj : i = j
  · subst hj
    by_cases hi : i < δ.length
    · rw [List.getElem?_set_self hi] at e
      cases e; exact .inl rfl
    · rw [List.getElem?_eq_none (by rw [List.length_set]; omega)] at e; cases e
  · rw [List.getElem?_set_ne hj] at e
    exact .inr ⟨e, List.getElem?_set_ne hj⟩
inductive HsOk (X : Cx) (G : Cfg) (tab : List (Str × Str)) (base : Str) : List ExceptHandler → List (Str × (List (Str × D) → SF)) → Prop
  | nil : HsOk X G tab base [] []
  | one {x : Str} {p q : Pos} {b : Stmt} {bs : List Stmt} {sf : SF} {hds : List ExceptHandler} {hs : List (Str × (List (Str × D) → SF))} (hg : Gl X x) (hm : ∃ C, X.mg x = some (.ref C)) (hd : (x == ("__debug__" : Str)) = false)
      (su : ∀ (a : Addr) (oe : Obj) (pn : List (Addr × Obj)), Ess (X.suite a ((a, oe) :: pn)) G W0 (b :: bs) sf) (r : HsOk X G tab base hds hs) :
      HsOk X G tab base (.ExceptHandler (some (.Name x p)) none (b :: bs) q :: hds) ((x, fun _ => sf) :: hs)
  | as_ {x n : Str} {i : Nat} {p q : Pos} {b : Stmt} {bs : List Stmt} {sf : List (Str × D) → SF} {hds : List ExceptHandler} {hs : List (Str × (List (Str × D) → SF))} (hg : Gl X x) (hm : ∃ C, X.mg x = some (.ref C)) (hd : (x == ("__debug__" : Str)) = false)
      (hN : X.N.Nodup) (hi : X.N[i]? = some n) (hl : X.env.scope.names.lookup n = some .local)
      (su : ∀ (a : Addr) (oe : Obj) (cls : Value) (d : Option Addr) (pn : List (Addr × Obj)), Zc cls d oe → (∃ vs, oe.data = .fields vs) → PSs (X.suite a ((a, oe) :: pn)) (b :: bs) (tX G a cls d i tab base x sf)) (r : HsOk X G tab base hds hs) :
      HsOk X G tab base (.ExceptHandler (some (.Name x p)) (some n) (b :: bs) q :: hds) ((x, fun fs δ h => dropE i (sf fs (δ.set i .no) h)) :: hs)
theorem names_of {x : Str} {C : Addr} (hg : Gl X x) (hm : X.mg x = some (.ref C)) (hd : (x == ("__debug__" : Str)) = false) : Names X x (.ref C) := ⟨hg, hd, .inl hm⟩
theorem excAt_drop {J : Jd} {fs : List (Str × D)} {d : Option Addr} (q : ExcAt J M r H fs d) (le : Le M M') (pr : r <+: r') : ExcAt J M' r' H fs d := by
  cases fs with
  | nil => exact q
  | cons p ps =>
    obtain ⟨dx, vs, e1, e2, t⟩ := q
    exact ⟨dx, vs, e1, e2, Reps.mono le pr _ _ t⟩
theorem AfterS.dropE {i : Nat} {x : RS} (q : AfterS G W M r (LP.dropE i x) E) : AfterS G W M r x ⟨fun s h => E.nx (s.set i none) h, E.rt, fun s h => E.bk (s.set i none) h, fun s h => E.ct (s.set i none) h⟩ := by
  cases x with
  | nx δ h => exact fun M' r' σ H a c b => q M' r' _ H a c (b.emptied i none)
  | bk δ h => exact fun M' r' σ H a c b => q M' r' _ H a c (b.emptied i none)
  | ct δ h => exact fun M' r' σ H a c b => q M' r' _ H a c (b.emptied i none)
  | rt d h => exact q
  | exc c fs δ h => exact q
  | bad => exact q
/-- nothing leaves a suite but by its end -/
theorem AfterS.w0 {x : RS} (q : AfterS G W0 M r x E) : AfterS G W M r x E := by
  cases x with
  | exc c fs δ h => exact fun C dd M' r' σ H m a b c e => (q C dd M' r' σ H m a b c e).elim
  | _ => exact q
/-- the clauses' readings -/
theorem hs_read {tab : List (Str × Str)} {base : Str} {hds : List ExceptHandler} {hs : List (Str × (List (Str × D) → SF))} (T : ExT X.K X.prog X.mg tab base) (hK : X.K = G.K) (hG : X.mg = G.mg) (hx : ∀ p ∈ hs, p.1 = base ∨ p.1 ∈ tab.map (·.1)) (k : HsOk X G tab base hds hs) :
    ∃ l, Cls X hds l ∧ ∀ (c fl : Str) (fs : List (Str × D)) (C : Addr) (dd : Option Addr) (M : Imm) (r : List Addr) (h : Bx) (δ : DE) (σ : L2.St) (H : Hp) (E : Ends), (c, fl) ∈ tab → G.mg c = some (.ref C) → BS G M r h δ σ H → ExcAt G.J M r H fs dd →
      (match hitH c base hs with
        | some s => AfterS G W0 M r (s fs δ h) E
        | none => W (.ref C) dd σ H) → wMany X.K W E l (.ref C) dd σ H := by
  induction k with
  | nil => exact ⟨[], .nil, fun c fl fs C dd M r h δ σ H E _ _ _ _ q => q⟩
  | @one x p q b bs sf hds hs hg hm hd su _ ih =>
    obtain ⟨l, hl, ih⟩ := ih fun p hp => hx p (List.mem_cons_of_mem _ hp)
    obtain ⟨Y, mY⟩ := hm
    refine ⟨(.ref Y, fun _ _ _ => tS G W0 sf) :: l, .cons (.one (names_of hg mY hd) fun a oe cls d pn _ _ => su a oe pn) hl, fun c fl fs C dd M r h δ σ H E ht mC bs ea z => ?_⟩
    have sb := T.sub (c, fl) ht x C Y (hx _ List.mem_cons_self) (hG ▸ mC) mY
    refine ⟨_, sb, fun e a na => ?_, fun e => ?_⟩
    · have e : (x == c || x == base) = true := e
      unfold hitH at z
      rw [if_pos e] at z
      exact ⟨M, r, h, δ, bs, z⟩
    · have e : (x == c || x == base) = false := e
      unfold hitH at z
      rw [if_neg (by rw [e]; decide)] at z
      exact ih c fl fs C dd M r h δ σ H E ht mC bs ea z
  | @as_ x n i p q b bs sf hds hs hg hm hd hN hi hl' su _ ih =>
    obtain ⟨l, hl, ih⟩ := ih fun p hp => hx p (List.mem_cons_of_mem _ hp)
    obtain ⟨Y, mY⟩ := hm
    refine ⟨(.ref Y, asW i fun a cls d => tX G a cls d i tab base x sf) :: l, .cons (.as_ (names_of hg mY hd) hN hi hl' fun a oe cls d pn z1 z2 => su a oe cls d pn z1 z2) hl, fun c fl fs C dd M r h δ σ H E ht mC bs ea z => ?_⟩
    have sb := T.sub (c, fl) ht x C Y (hx _ List.mem_cons_self) (hG ▸ mC) mY
    refine ⟨_, sb, fun e a na => ?_, fun e => ?_⟩
    · have e : (x == c || x == base) = true := e
      unfold hitH at z
      rw [if_pos e] at z
      have xf := (T.cls (c, fl) ht).xf C (hG ▸ mC)
      rw [hK] at xf
      refine ⟨M, r, h, δ.set i .no, fs, C, fl, bs.emptied i _, fun hl => List.getElem?_set_self (by simpa using hl), rfl, xf.1, xf.2, ⟨c, ht, e, mC⟩, ea, AfterS.dropE z⟩
    · have e : (x == c || x == base) = false := e
      unfold hitH at z
      rw [if_neg (by rw [e]; decide)] at z
      exact ih c fl fs C dd M r h δ σ H E ht mC bs ea z
theorem es_try {tab : List (Str × Str)} {base : Str} {body : List Stmt} {hd : ExceptHandler} {hds : List ExceptHandler} {hs : List (Str × (List (Str × D) → SF))} {sf : SF} (T : ExT X.K X.prog X.mg tab base) (hK : X.K = G.K) (hG : X.mg = G.mg)
    (hx : (hs.map (·.1)).all (fun x => x == base || (tab.map (·.1)).contains x) = true) (hs1 : X.stack = X.env :: X.outer) (hf : X.env.frame = some X.env.locals) (tk : Takes X W)
    (hb : ∀ (W' : WX) (pn : List (Addr × Obj)) (xe : Value → Shared → Prop), Takes (X.tr pn xe) W' → PassesOwn (model X.prog X.w) X.A X.env xe → Ess (X.tr pn xe) G W' body sf) (k : HsOk X G tab base (hd :: hds) hs) :
    Es X G W (.Try body (hd :: hds) [] [] pos) (tryS tab base sf hs) := by
  have hx : ∀ p ∈ hs, p.1 = base ∨ p.1 ∈ tab.map (·.1) := fun p hp => by
    have z := List.all_eq_true.mp hx p.1 (List.mem_map.mpr ⟨p, hp, rfl⟩)
    rw [Bool.or_eq_true] at z
    exact z.imp (fun y => eq_of_beq y) (fun y => List.contains_iff_mem.mp y)
  obtain ⟨l, hl, rd⟩ := hs_read (W := W) T hK hG hx k
  refine PS.imp (ps_tryA hs1 hf tk hb hl) fun E σ H q => ?_
  obtain ⟨M, r, h, δ, b, q⟩ := q
  refine ⟨M, r, h, δ, b, ?_⟩
  unfold tryS at q
  cases z : sf δ h with
  | nx δ' h' => rw [z] at q; exact q
  | rt d h' => rw [z] at q; exact q
  | bk δ' h' => rw [z] at q; exact q
  | ct δ' h' => rw [z] at q; exact q
  | bad => rw [z] at q; exact q
  | exc c fs δ' h' =>
    rw [z] at q
    simp only at q
    unfold catchS at q
    split at q
    · rename_i hc
      obtain ⟨⟨c', fl⟩, ht, rfl⟩ := List.mem_map.mp (List.contains_iff_mem.mp hc)
      intro C dd M' r' σ' H' mC le pr b' ea
      refine rd c' fl fs C dd M' r' h' δ' σ' H' E ht mC b' ea ?_
      split at q
      · rename_i s e
        rw [show hitH c' base hs = some s from e]
        exact (AfterS.from le pr q).noX
      · rename_i e
        rw [show hitH c' base hs = none from e]
        exact q C dd M' r' σ' H' mC le pr b' ea
    · exact q.elim
/-! ### suites that read the exception's field -/
/-- e.f in a suite -/
theorem pe_xn {a : Addr} {oe : Obj} {cls : Value} {d : Option Addr} {pn : List (Addr × Obj)} {n fl : Str} {i : Nat} {p1 p2 : Pos} (hz : Zc cls d oe) (hf : ∃ vs, oe.data = .fields vs) (hN : X.N[i]? = some n) (hv : X.env.scope.names.lookup n = some .local)
    (hd : (n == ("__debug__" : Str)) = false := by decide) (hcd : (n == ("__classdict__" : Str)) = false := by decide) (hb : attributeBase (.Name n p1) fl X.env (eval (.Name n p1) X.env) = eval (.Name n p1) X.env := by rfl) :
    PE (X.suite a ((a, oe) :: pn)) (.Attribute (.Name n p1) fl p2) (fun σ H Q => (i < σ.length → σ[i]? = some (some (.ref a))) ∧ ∃ C dd fs v, cls = .ref C ∧ XfC X.K C ∧ PySem.W.findIn X.K (.ref C) fl = some none ∧ d = some dd ∧ H dd = some (.xd fs) ∧ fs.lookup fl = some v ∧ Q v H) := by
  refine ⟨fun pins s σ H Q I h => ?_⟩
  obtain ⟨hl, C, dd, fs, v, ec, T, nf, ed, e1, e2, q⟩ := h
  have ln := I.len
  have hi : i < σ.length := by rw [ln]; exact (List.getElem?_eq_some_iff.mp hN).1
  refine (pe_xf T nf hz hf (pe_var (X := X.suite a ((a, oe) :: pn)) hN (.inl hv) hd hcd) hb).run pins s σ H Q I ?_
  exact ⟨.ref a, hl hi, rfl, ec, dd, fs, v, ed, e1, e2, q⟩
/-- a constant of a suite -/
inductive KD : Expr → D → V → Prop
  | int {i : Int} {j : Nat} {p : Pos} : KD (.Constant (.int i) j p) (.int i) (.int i)
  | str {i : Str} {j : Nat} {p : Pos} : KD (.Constant (.str i) j p) (.str i) (.str i)
theorem KD.pe {e : Expr} {d : D} {v : V} (k : KD e d v) : PE X e (tC v) := by
  cases k with
  | int => exact pe_int
  | str => exact pe_str
theorem KD.rep {e : Expr} {d : D} {v : V} (k : KD e d v) {J : Jd} : Rep J M r d v := by
  cases k with
  | int => rfl
  | str => rfl
/-- (k, e.f) in a suite -/
def xtF (fl : Str) (kd : D) (fs : List (Str × D)) : EF := fun _ h => match fs.lookup fl with
  | some d => if isV d = true then .ok (.tup [kd, d]) h else .bad
  | none => .bad
theorem zip_lookup {J : Jd} {fl : Str} {d : D} : ∀ (fs : List (Str × D)) (vs : List V), Reps J M r (fs.map (·.2)) vs → fs.lookup fl = some d → ∃ v, ((fs.map (·.1)).zip vs).lookup fl = some v ∧ Rep J M r d v
  | [], _, _, e => by cases e
  | (f, x) :: fs, vs, t, e => by
    obtain ⟨v, vt, rfl, h1, h2⟩ := t
    rw [List.lookup_cons] at e
    show ∃ w, List.lookup fl ((f, v) :: (fs.map (·.1)).zip vt) = some w ∧ _
    rw [List.lookup_cons]
    cases z : fl == f with
    | true =>
      rw [z] at e
      cases e
      exact ⟨v, rfl, h1⟩
    | false =>
      rw [z] at e
      exact zip_lookup fs vt h2 e
theorem x_tup {a : Addr} {oe : Obj} {cls : Value} {d : Option Addr} {pn : List (Addr × Obj)} {n fl : Str} {i : Nat} {p1 p2 p3 : Pos} {x1 : Nat} {ke : Expr} {kd : D} {kv : V} (hz : Zc cls d oe) (hf : ∃ vs, oe.data = .fields vs) (k : KD ke kd kv) (hN : X.N[i]? = some n) (hv : X.env.scope.names.lookup n = some .local)
    (hb : attributeBase (.Name n p1) fl X.env (eval (.Name n p1) X.env) = eval (.Name n p1) X.env := by rfl) (hd : (n == ("__debug__" : Str)) = false := by decide) (hcd : (n == ("__classdict__" : Str)) = false := by decide)
    (hs1 : starEach [ke, .Attribute (.Name n p1) fl p2] X.env = (false, eval ke X.env) :: starEach [.Attribute (.Name n p1) fl p2] X.env := by rfl) (hs2 : starEach [.Attribute (.Name n p1) fl p2] X.env = (false, eval (.Attribute (.Name n p1) fl p2) X.env) :: starEach [] X.env := by rfl) :
    PE (X.suite a ((a, oe) :: pn)) (.Tuple [ke, .Attribute (.Name n p1) fl p2] x1 p3) (fun σ H Q => (i < σ.length → σ[i]? = some (some (.ref a))) ∧ ∃ C dd fs v, cls = .ref C ∧ XfC X.K C ∧ PySem.W.findIn X.K (.ref C) fl = some none ∧ d = some dd ∧ H dd = some (.xd fs) ∧ fs.lookup fl = some v ∧
      ∀ p, H p = none → Q (.ref p) (upd H p (.tup [kv, v]))) := by
  refine PE.imp (pe_tup (pa_cons (X := X.suite a ((a, oe) :: pn)) k.pe (pa_cons (X := X.suite a ((a, oe) :: pn)) (pe_xn hz hf hN hv hd hcd hb) pa_nil hs2) hs1)) fun σ H Q q => ?_
  obtain ⟨h1, C, dd, fs, v, h2, h3, h4, h5, h6, h7, q⟩ := q
  exact ⟨h1, C, dd, fs, v, h2, h3, h4, h5, h6, h7, by show 2 ≤ sizeLine; decide, q⟩
/-- except C as n: return (k, n.f) -/
theorem su_ret {a : Addr} {oe : Obj} {cls : Value} {d : Option Addr} {pn : List (Addr × Obj)} {n fl : Str} {i : Nat} {tab : List (Str × Str)} {base x : Str} {p1 p2 p3 : Pos} {x1 : Nat} {ke : Expr} {kd : D} {kv : V} (hK : X.K = G.K) (hz : Zc cls d oe) (hf : ∃ vs, oe.data = .fields vs) (k : KD ke kd kv) (hN : X.N[i]? = some n) (hv : X.env.scope.names.lookup n = some .local)
    (ht : tab.all (fun p => !(x == p.1 || x == base) || p.2 == fl) = true)
    (hb : attributeBase (.Name n p1) fl X.env (eval (.Name n p1) X.env) = eval (.Name n p1) X.env := by rfl) (hd : (n == ("__debug__" : Str)) = false := by decide) (hcd : (n == ("__classdict__" : Str)) = false := by decide)
    (hs1 : starEach [ke, .Attribute (.Name n p1) fl p2] X.env = (false, eval ke X.env) :: starEach [.Attribute (.Name n p1) fl p2] X.env := by rfl) (hs2 : starEach [.Attribute (.Name n p1) fl p2] X.env = (false, eval (.Attribute (.Name n p1) fl p2) X.env) :: starEach [] X.env := by rfl) :
    PSs (X.suite a ((a, oe) :: pn)) [.Return (some (.Tuple [ke, .Attribute (.Name n p1) fl p2] x1 p3)) pos] (tX G a cls d i tab base x fun fs => retS (xtF fl kd fs)) := by
  refine pss_one (PS.imp (ps_ret (x_tup hz hf k hN hv hb hd hcd hs1 hs2)) fun E σ H q => ?_)
  obtain ⟨M, r, h, δ, fs, C, fl', b, h1, h2, h3, h4, ⟨c, ht', hx, mC⟩, ea, q⟩ := q
  have hfl : fl' = fl := by
    have y := List.all_eq_true.mp ht _ ht'
    simp only [hx, Bool.not_true, Bool.false_or] at y
    exact eq_of_beq y
  subst hfl
  rw [hK]
  unfold retS xtF at q
  cases z : fs.lookup fl' with
  | none => simp only [z] at q; exact q.elim
  | some xd =>
    simp only [z] at q
    split at q
    · rename_i iv
      have ne : fs ≠ [] := fun y => by subst y; cases z
      have ea : ∃ dx vs, d = some dx ∧ H dx = some (.xd ((fs.map (·.1)).zip vs)) ∧ Reps G.J M r (fs.map (·.2)) vs := by
        cases fs with
        | nil => exact (ne rfl).elim
        | cons _ _ => exact ea
      obtain ⟨dx, vs, e1, e2, t⟩ := ea
      obtain ⟨v, e3, rv⟩ := zip_lookup fs vs t z
      refine ⟨h1, C, dx, _, v, h2, h3, h4, e1, e2, e3, fun p hp => ?_⟩
      obtain ⟨b', s⟩ := b.laid (o := .tup [kv, v]) hp (by show 2 ≤ big; decide)
      exact q _ _ _ _ _ _ s.le s.pre b' ⟨p, _, rfl, .inl updM_same, kv, _, rfl, k.rep, v, _, rfl, Rep.mono s.le s.pre _ _ rv, rfl⟩
    · exact q.elim
end
end LP
/-! LpN: calls by keywords, calls without arguments. -/
namespace LP
open PySem PySem.Spec PyProof.Rows L2
section
variable {X : Cx} {G : Cfg} {W : WX} {σ : L2.St} {δ : DE} {M M' M1 M2 : Imm} {r r' r1 r2 : List Addr} {h h' h1 h2 : Bx} {H H' H1 H2 : Hp} {E : Ends}
variable {e c : Expr} {f g : EF} {tg : Expr} {fs : DE → Bx → R (List D)} {pos : Pos}
theorem PK.imp {kws : List Keyword} {t t' : TA} (p : PK X kws t) (f : ∀ σ H Q, t' σ H Q → t σ H Q) : PK X kws t' := ⟨fun pos pins s σ H Q I h => p.run pos pins s σ H Q I (f σ H Q h)⟩
/-- the keywords' values, as they are written -/
def EvK (X : Cx) (G : Cfg) (W : WX) (kws : List Keyword) (fs : DE → Bx → R (List D)) : Prop := PK X kws (tG G W (rVs G.J) fs)
theorem evk_nil : EvK X G W [] nilA := PK.imp pk_nil fun σ H Q q => by
  obtain ⟨M, r, h, δ, b, q⟩ := q
  exact q.now b rfl
theorem evk_cons {kws : List Keyword} {nm : Option Str} {kpos : Pos} (ha : Ev X G W e f) (hr : EvK X G W kws fs) : EvK X G W (⟨nm, e, kpos⟩ :: kws) (consA f fs) :=
  PK.imp (pk_cons ha hr) fun σ H Q q => by
    obtain ⟨M, r, h, δ, b, q⟩ := q
    refine ⟨M, r, h, δ, b, (After.bind q).more fun x H1 ⟨dx, M1, r1, h1, s1, b1, rx, q1⟩ => ?_⟩
    refine ⟨M1, r1, h1, δ, b1, (After.bind q1).more fun xs H2 ⟨ds, M2, r2, h2, s2, b2, rs, q2⟩ => ?_⟩
    exact q2.now b2 ⟨x, xs, rfl, RepV.mono s2.le s2.pre rx, rs⟩
/-- some of a list, by their places -/
def pickL {α : Type} (ix : List Nat) (l : List α) : List α := ix.filterMap fun i => l[i]?
theorem pickL_len {α : Type} {l : List α} : ∀ {ix : List Nat}, (∀ i ∈ ix, i < l.length) → (pickL ix l).length = ix.length
  | [], _ => rfl
  | i :: ix, h => by
    have hi := h i List.mem_cons_self
    have ih := pickL_len (l := l) (ix := ix) fun j hj => h j (List.mem_cons_of_mem _ hj)
    unfold pickL at ih ⊢
    rw [List.filterMap_cons, List.getElem?_eq_getElem hi]
    simp only [List.length_cons, ih]
theorem RepVs.at_ {J : Jd} : ∀ {ds : List D} {vs : List V} {i : Nat} {d : D}, RepVs J M r δ σ ds vs → ds[i]? = some d → ∃ v, vs[i]? = some v ∧ RepV J M r δ σ d v
  | [], _, _, _, _, e => by simp at e
  | d :: ds, _, 0, _, h, e => by
    obtain ⟨v, vt, rfl, h1, _⟩ := h
    simp at e; subst e
    exact ⟨v, rfl, h1⟩
  | d :: ds, _, i + 1, _, h, e => by
    obtain ⟨v, vt, rfl, _, h2⟩ := h
    obtain ⟨v', e', q⟩ := RepVs.at_ (i := i) h2 (by simpa using e)
    exact ⟨v', by simpa using e', q⟩
theorem pickL_rep {J : Jd} {ds : List D} {vs : List V} (t : RepVs J M r δ σ ds vs) : ∀ {ix : List Nat}, (∀ i ∈ ix, i < ds.length) → RepVs J M r δ σ (pickL ix ds) (pickL ix vs)
  | [], _ => rfl
  | i :: ix, h => by
    have hi := h i List.mem_cons_self
    have ih := pickL_rep t (ix := ix) fun j hj => h j (List.mem_cons_of_mem _ hj)
    obtain ⟨v, e, rv⟩ := t.at_ (List.getElem?_eq_getElem hi)
    unfold pickL at ih ⊢
    rw [List.filterMap_cons, List.filterMap_cons, List.getElem?_eq_getElem hi, e]
    exact ⟨v, _, rfl, rv, ih⟩
theorem pickL_vals : ∀ {ix : List Nat} {vs : List V} {us : List Value}, Vals vs us → Vals (pickL ix vs) (pickL ix us)
  | [], _, _, _ => .nil
  | i :: ix, vs, us, r => by
    have ih := pickL_vals (ix := ix) r
    unfold pickL at ih ⊢
    rw [List.filterMap_cons, List.filterMap_cons]
    cases e : vs[i]? with
    | none => rw [r.none_of e]; exact ih
    | some x =>
      obtain ⟨u, e1, e2⟩ := r.get e
      rw [e1]
      exact .cons e2 ih
/-- how a call by keywords alone binds: the parameter at j takes the keyword at ix j -/
def KwB (fd : FuncData) (ps ks : List Str) (ix : List Nat) : Prop := ∀ (s : Shared) (ws : List Value), ws.length = ks.length → BindsTo s fd ⟨[], ks.zip ws⟩ (ps.zip (pickL ix ws))
theorem kwB_of {K : PySem.W.Frag} {x qual : Str} {st : Stmt} {f : Addr} {fd : FuncData} {ps ks : List Str} {ix : List Nat} (F : Fun K x qual st f fd)
    (h : ∀ (kV doc pm : Value) (an : Option Addr) (cdv ct : Value) (ws : List Value), ws.length = ks.length → bindArgs (PySem.W.fnOf x qual (defArgs st) (defBody st) (defScope st) .none kV doc pm an cdv ct) ⟨[], ks.zip ws⟩ = pure (ps.zip (pickL ix ws))) : KwB fd ps ks ix := by
  obtain ⟨oc, od, kV, doc, pm, an, cdv, ct, osl, rfl, lk, hcd⟩ := F.ex
  exact fun s ws hl => .of_eq (h kV doc pm an cdv ct ws hl)
def callKwF (n : Nat) (ix : List Nat) (F : List D → Bx → R D) (fs : DE → Bx → R (List D)) : EF := fun δ h => (fs δ h).bind fun ds h1 => if (decide (ds.length = n) && ds.all isV) = true then F (pickL ix ds) h1 else .bad
theorem ev_callKw {k n : Nat} {fa : Addr} {fd : FuncData} {ps ks : List Str} {ix : List Nat} {x : Str} {p : Pos} {kws : List Keyword} {F : List D → Bx → R D} (FF : FnOk X.prog X.w X.K X.mg X.base (L2.CX X.prog X.w) k fa fd ps (spF G.K G.mg G.T ps.length F)) (hr : Room k X.A) (tk : Takes X W)
    (hg : Gl X x) (hm : X.mg x = some (.ref fa)) (hk : PySem.W.keepIn X.K (.ref fa) = true) (hb : KwB fd ps ks ix) (hix : ix.all (fun i => decide (i < ks.length)) = true ∧ ix.length = ps.length)
    (ha : EvK X G W kws fs) (hn : ks.length = n := by rfl) (hdb : (x == ("__debug__" : Str)) = false := by decide) (hall : (backToKw pos (keywordEach kws X.env)).all (·.1.isSome) = true := by rfl) (hks : (backToKw pos (keywordEach kws X.env)).filterMap (·.1) = ks := by rfl)
    (hpl : ((backTo pos (starEach [] X.env)).any (·.1) || (backToKw pos (keywordEach kws X.env)).any (·.1.isNone)) = false := by rfl) :
    Ev X G W (.Call (.Name x p) [] kws pos) (callKwF n ix F fs) := by
  subst hn
  refine ⟨fun pins s σ H Q I h => ?_⟩
  obtain ⟨M, r, h, δ, b, q⟩ := h
  refine wpAny_Call_Name_kw (ld_glob I hg hm ?_ hdb)
  refine PySem.W.callWith_KW0 (h₀ := X.base) I.ok.mod.kin hk hall (thn (ha.run pos pins s σ H (fun vs H1 => ∃ ds M1 r1 h1, BS G M1 r1 h1 δ σ H1 ∧ RepVs G.J M1 r1 δ σ ds vs ∧ After G W σ δ (rV G.J δ σ) M1 r1 H1 (if (decide (ds.length = ks.length) && ds.all isV) = true then F (pickL ix ds) h1 else .bad) Q) I
    ⟨M, r, h, δ, b, (After.bind q).more fun vs H1 ⟨ds, M1, r1, h1, s1, b1, rv, q1⟩ => ⟨ds, M1, r1, h1, b1, rv, q1⟩⟩) fun ws s2 ⟨vs, H1, I1, rz, ds, M1, r1, h1, b1, rv, q1⟩ => ⟨I1.kIn, ?_⟩) hpl
  rw [hks]
  split at q1
  · rename_i z
    rw [Bool.and_eq_true, decide_eq_true_eq] at z
    have lv : vs.length = ks.length := by rw [rv.length]; exact z.1
    have lw : ws.length = ks.length := by rw [← rz.length]; exact lv
    have hin : ∀ i ∈ ix, i < ks.length := fun i hi => by
      have y := List.all_eq_true.mp hix.1 i hi
      exact of_decide_eq_true y
    have rp := pickL_rep rv (ix := ix) fun i hi => by rw [z.1]; exact hin i hi
    have ln : (pickL ix ds).length = ps.length := by rw [pickL_len fun i hi => by rw [z.1]; exact hin i hi]; exact hix.2
    have allV : (pickL ix ds).all isV = true := by
      rw [List.all_eq_true]
      intro d hd
      unfold pickL at hd
      obtain ⟨i, _, hi⟩ := List.mem_filterMap.mp hd
      exact List.all_eq_true.mp z.2 d (List.mem_of_getElem? hi)
    have sp : spF G.K G.mg G.T ps.length F (pickL ix vs) H1 Q (WE W σ) := call_sp b1 rp (fun _ _ _ => ln) (fun _ _ _ _ => ln) (by rw [if_pos allV]; exact q1)
    refine wpAny_call (codeAny_mono (FF.run X.A X.stack s2 H1 ⟨[], ks.zip ws⟩ (pickL ix ws) (pickL ix vs) Q (WE W σ) hr I1.env0 (hb s2 ws lw) (pickL_vals rz) sp) fun rr s' hq => ?_)
    cases rr with
    | error er => exact passAt tk σ pins H1 s2 er s' I1 hq
    | ok fl =>
      cases fl with
      | ret u => exact I1.after hq
      | next => exact hq.elim
      | brk => exact hq.elim
      | cont => exact hq.elim
  · exact q1.elim
/-- f() -/
theorem ev_call0 {k : Nat} {fa : Addr} {fd : FuncData} {x : Str} {p : Pos} {F : List D → Bx → R D} (FF : FnOk X.prog X.w X.K X.mg X.base (L2.CX X.prog X.w) k fa fd [] (spF G.K G.mg G.T 0 F)) (hr : Room k X.A) (tk : Takes X W)
    (hg : Gl X x) (hm : X.mg x = some (.ref fa)) (hk : PySem.W.keepIn X.K (.ref fa) = true) (hb : Binds X.K fd [] []) (hdb : (x == ("__debug__" : Str)) = false := by decide) :
    Ev X G W (.Call (.Name x p) [] [] pos) (fun _ h => F [] h) := by
  refine ⟨fun pins s σ H Q I h => ?_⟩
  obtain ⟨M, r, h, δ, b, q⟩ := h
  refine wpAny_Call_Name_kw (ld_glob I hg hm ?_ hdb)
  refine PySem.W.callWith_K0 I.kIn hk ?_
  have sp : spF G.K G.mg G.T 0 F [] H Q (WE W σ) := call_sp (ds := []) b rfl (fun _ _ _ => rfl) (fun _ _ _ _ => rfl) q
  refine wpAny_call (codeAny_mono (FF.run X.A X.stack s H ⟨[], []⟩ [] [] Q (WE W σ) hr I.env0 (hb s [] I.kIn rfl) .nil sp) fun rr s' hq => ?_)
  cases rr with
  | error er => exact passAt tk σ pins H s er s' I hq
  | ok fl =>
    cases fl with
    | ret u => exact I.after hq
    | next => exact hq.elim
    | brk => exact hq.elim
    | cont => exact hq.elim
end
end LP
/-! LpO: lambdas without parameters as data. -/
namespace LP
open PySem PySem.Spec PyProof.Rows L2
open PySem.W (kla_obj kla_fn)
section
variable {X : Cx} {G : Cfg} {W : WX} {σ : L2.St} {δ : DE} {M M' M1 M2 : Imm} {r r' r1 r2 : List Addr} {h h' h1 h2 : Bx} {H H' H1 H2 : Hp} {E : Ends}
variable {e c : Expr} {f g : EF} {tg : Expr} {fs : DE → Bx → R (List D)} {pos : Pos}
/-- a known thing is known to be so for good -/
theorem BS.know (b : BS G M r h δ σ H) {p : Addr} {φ : Heap → Prop} (e : H p = some (.ext φ)) : BS G (updM M p (.ext φ)) r h δ σ H ∧ Stp M r H (updM M p (.ext φ)) r H := by
  have le : Le M (updM M p (.ext φ)) := fun a u q => by
    unfold updM
    by_cases z : a = p
    · subst z
      have := (b.mok a u q).2
      rw [e] at this
      rw [if_pos rfl]; exact this
    · rw [if_neg z]; exact q
  have nM : ∀ a, a ≠ p → M a = none → updM M p (.ext φ) a = none := fun a n q => by unfold updM; rw [if_neg n]; exact q
  have nl : ∀ {a : Addr} {vs : List V}, H a = some (.lst vs) → a ≠ p := fun q z => by rw [z, e] at q; cases q
  refine ⟨⟨fun a u q => ?_, ⟨b.bx.len, b.bx.nd, fun n a ds e1 e2 => ?_⟩, b.tb, b.len, fun i s x e1 e2 => ?_, b.sep, b.le.trans le, b.pre, b.new, b.keep, fun a m f n => nM a (fun z => ?_) (b.nf a m f n)⟩, le, List.prefix_rfl, fun a z => .inl z, Keep.refl, fun a m f n => nM a (fun z => ?_) m⟩
  · unfold updM at q
    by_cases z : a = p
    · subst z
      rw [if_pos rfl] at q; cases q
      exact ⟨trivial, e⟩
    · rw [if_neg z] at q
      exact b.mok a u q
  · obtain ⟨m, z, vs, q, t⟩ := b.bx.at_ n a ds e1 e2
    exact ⟨nM a (nl q) m, z, vs, q, Reps.mono le List.prefix_rfl _ _ t⟩
  · exact (b.sl i s x e1 e2).mono le List.prefix_rfl fun a vs m q n => ⟨nM a (nl q) m, n, q⟩
  · obtain ⟨vs, q⟩ := f.fwd b.keep n
    exact nl q z
  · obtain ⟨vs, q⟩ := f
    exact nl q z
/-- a table grows -/
theorem BS.grown (b : BS G M r h δ σ H) (hT : ∀ p ∈ G.T, H p.1 ≠ none) {P : Addr} {ps qs : Array Value} (e : H P = some (.tbl ps)) (tb : LamX.Tabs G.T (upd H P (.tbl qs))) : BS G M r h δ σ (upd H P (.tbl qs)) ∧ Stp M r H M r (upd H P (.tbl qs)) := by
  have ne : ∀ {a : Addr} {u : HO}, H a = some u → (∀ ps, u ≠ .tbl ps) → upd H P (.tbl qs) a = some u := fun q n => by
    rw [upd_ne (fun z => by rw [z, e] at q; cases q; exact n ps rfl)]; exact q
  have nM : ∀ {a : Addr} {u : HO}, M a = some u → ∀ ps, u ≠ .tbl ps := fun q ps z => by
    subst z
    exact (b.mok _ _ q).1
  refine ⟨⟨fun a u q => ⟨(b.mok a u q).1, ne (b.mok a u q).2 (nM q)⟩, ⟨b.bx.len, b.bx.nd, fun n a ds e1 e2 => ?_⟩, tb, b.len, fun i s x e1 e2 => ?_, b.sep, b.le, b.pre, b.new, fun a u q t n => ne (b.keep a u q t n) t, b.nf⟩, Le.refl, List.prefix_rfl, fun a z => .inl z, fun a u q t n => ne q t, fun a m _ _ => m⟩
  · obtain ⟨m, z, vs, q, t⟩ := b.bx.at_ n a ds e1 e2
    exact ⟨m, z, vs, ne q (fun _ z => by cases z), t⟩
  · exact (b.sl i s x e1 e2).mono Le.refl List.prefix_rfl fun a vs m q n => ⟨m, n, ne q (fun _ z => by cases z)⟩
/-! ### the making -/
/-- the lambdas of a def, by their numbers -/
structure LamD where
  params : Arguments
  body : Expr
  scope : Scope
def lamL (tab : List LamD) (env : Env) : LamP := fun k f o c q => ∃ (ld : LamD) (pm ctv : Value), tab[k]? = some ld ∧ q = env.qual ++ "<lambda>" ∧ o = kla_obj "<lambda>" q ld.params ld.body ld.scope (cloFrom env.cells ld.scope.names []) pm c ctv
/-- a lambda of the frame is made: what stands behind it -/
theorem lam_new {pins : List (Addr × Obj)} {s : Shared} {T : List (Addr × Str)} {c P : Addr} {params : Arguments} {body : Expr} {scope : Scope} {E : Value → Shared → Prop} {Q : Value → Shared → Prop} (I : Inv X pins σ H s) (TB : LamX.TabB X.base X.mg c P) (hcode : X.env.code = .ref c)
    (hm : (P, X.env.qual ++ "<lambda>") ∈ T) (hu : ∀ p ∈ T, p.1 = P → p.2 = X.env.qual ++ "<lambda>") (hT : LamX.Tabs T H) (hdef : defaultsOf params X.env = ([], [])) (hfree : ∀ y ∈ scope.names, y.2 = .free → ∃ c, X.env.cells.lookup y.1 = some c)
    (h1 : ∀ (ps : Array Value) (c' f : Addr) (more : Array Value) (pm ctv : Value) (s' : Shared), H P = some (.tbl ps) → H c' = none → c' ≠ P → H f = none → f ≠ c' → f ≠ P → LamX.Tabs T (upd (upd H P (.tbl (ps ++ more))) c' (LamX.CodeO c' (X.env.qual ++ "<lambda>"))) →
      Inv X pins σ (upd (upd (upd H P (.tbl (ps ++ more))) c' (LamX.CodeO c' (X.env.qual ++ "<lambda>"))) f (LamO f (kla_obj "<lambda>" (X.env.qual ++ "<lambda>") params body scope (cloFrom X.env.cells scope.names []) pm c' ctv))) s' → Q (.ref f) s')
    (h2 : ∀ (c' f : Addr) (pm ctv : Value) (s' : Shared), H c' = some (LamX.CodeO c' (X.env.qual ++ "<lambda>")) → H f = none →
      Inv X pins σ (upd H f (LamO f (kla_obj "<lambda>" (X.env.qual ++ "<lambda>") params body scope (cloFrom X.env.cells scope.names []) pm c' ctv))) s' → Q (.ref f) s') :
    wpAny (model X.prog X.w) X.A (eval (.Lambda params body scope pos) X.env) Q E s := by
  have okF : ∀ {G : Hp} {hp : Heap} {f : Addr} {o : Obj}, hp.get? f = some o → ObjOk X.prog X.w G hp f (LamO f o) := fun q => ⟨q, ⟨_, q⟩, fun _ _ y k => k _ y⟩
  obtain ⟨ps, hP, tri, among⟩ := hT _ hm
  have bP : s.heap.BuiltinsAt X.mg P := TB.bm.keeps I.bk
  have atP : s.heap.get? P = some (PySem.W.tabObj ps) := I.hok P _ hP
  have glob := I.mod.glob.keeps I.bk
  have hd := TB.code.keeps I.bk
  have clo := closure_ok hfree
  refine PySem.W.kla_eval hdef ?_
  cases hc : codeAmong pos ps.toList with
  | some cv =>
    obtain ⟨c', rfl, hC⟩ := among pos cv hc
    refine PySem.W.kla_makeFunctionHit (mg := X.mg) clo I.ok.glob glob hcode hd atP tri hc bP fun ctv hp tk up sz => ?_
    have I1 : Inv X pins σ H { s with heap := hp } := I.kept (t' := s.toks) up
    refine h2 c' hp.objs.size ((X.mg "__name__").getD .none) ctv _ hC (I.hok.fresh sz) ?_
    exact I1.laid (t' := tk) (fun _ _ q => Heap.get?_push_of_some _ q) (Nat.le_refl _) (okF (Heap.get?_push_size _ rfl))
  | none =>
    refine PySem.W.kla_makeFunction (mg := X.mg) clo I.ok.glob glob hcode hd atP tri hc TB.gP bP fun c' ctv hp tk up ge lt rec_ tab => ?_
    obtain ⟨c2, oc, vs, t, e2, q1, q2, q3⟩ := rec_
    cases e2
    have nC : H c' = none := I.hok.fresh ge
    have I1 := LamX.inv_table (q := X.env.qual ++ "<lambda>") (t' := tk) (more := #[rawInt pos.line, rawInt pos.col, .ref c']) I hP (fun b o nb q => up b o nb q) tab ge ⟨oc, vs, t, q1, q2, q3⟩
    have PC : P ≠ c' := ne_of_none hP nC
    have sz : s.heap.objs.size ≤ hp.objs.size := Nat.le_trans ge (Nat.le_of_lt lt)
    have nF : H hp.objs.size = none := I.hok.fresh sz
    have fc : hp.objs.size ≠ c' := Nat.ne_of_gt lt
    have fP : hp.objs.size ≠ P := Nat.ne_of_gt (Nat.lt_of_lt_of_le (Heap.lt_size atP) sz)
    refine h1 ps c' hp.objs.size _ ((X.mg "__name__").getD .none) ctv _ hP nC (Ne.symm PC) nF fc fP (fun p hp' => ?_) (I1.laid (t' := tk) (fun _ _ q => Heap.get?_push_of_some _ q) (Nat.le_refl _) (okF (Heap.get?_push_size _ rfl)))
    -- the tables
    have old : ∀ {b : Addr} {o : HO}, H b = some o → (∀ ps, o ≠ .tbl ps) → upd (upd H P (.tbl (ps ++ #[rawInt pos.line, rawInt pos.col, .ref c']))) c' (LamX.CodeO c' (X.env.qual ++ "<lambda>")) b = some o := fun q n => by
      have y : ∀ {b : Addr} {o : HO}, H b = some o → (∀ ps, o ≠ .tbl ps) → b ≠ P := fun {b o} q n z => by
        subst z
        exact n ps (Option.some.inj (q.symm.trans hP))
      rw [upd_ne (ne_of_none q nC), upd_ne (y q n)]
      exact q
    by_cases hb : p.1 = P
    · have eq : p.2 = X.env.qual ++ "<lambda>" := hu p hp' hb
      have app : (ps ++ #[rawInt pos.line, rawInt pos.col, .ref c']).toList = ps.toList ++ [rawInt pos.line, rawInt pos.col, .ref c'] := by simp
      refine ⟨_, by rw [hb, upd_ne PC, upd_same], by rw [app]; exact PySem.TriplesOk_snoc _ _ _ _ tri, fun p' cv y => ?_⟩
      rw [app] at y
      rw [eq]
      rcases LamX.among_app _ tri y with y | y
      · obtain ⟨c0, y1, y2⟩ := among p' cv y
        exact ⟨c0, y1, old y2 LamX.codeO_ne⟩
      · exact ⟨c', y, upd_same⟩
    · obtain ⟨qs, y1, y2, y3⟩ := hT p hp'
      refine ⟨qs, by rw [upd_ne (ne_of_none y1 nC), upd_ne hb]; exact y1, y2, fun p' cv y => ?_⟩
      obtain ⟨c0, z1, z2⟩ := y3 p' cv y
      exact ⟨c0, z1, old z2 LamX.codeO_ne⟩
theorem ev_lam {tab : List LamD} {k : Nat} {ca P : Addr} {params : Arguments} {body : Expr} {scope : Scope} (hL : G.L = lamL tab X.env) (hk : tab[k]? = some ⟨params, body, scope⟩) (TB : LamX.TabB X.base X.mg ca P) (hcode : X.env.code = .ref ca)
    (hm : (P, X.env.qual ++ "<lambda>") ∈ G.T) (hu : ∀ p ∈ G.T, p.1 = P → p.2 = X.env.qual ++ "<lambda>") (L : LamX.LamS X.env.scope scope) (hdef : defaultsOf params X.env = ([], []) := by rfl) :
    Ev X G W (.Lambda params body scope pos) (cF (.lam k)) := by
  refine ⟨fun pins s σ H Q I q => ?_⟩
  obtain ⟨M, r, h, δ, b, q⟩ := q
  have q : ∀ v M' r' H', Stp M r H M' r' H' → BS G M' r' h δ σ H' → RepV G.J M' r' δ σ (.lam k) v → Q v H' := q
  refine lam_new I TB hcode hm hu b.tb hdef (L.has I.ok) (fun ps c' f more pm ctv s' hP nC cP nF fc fP tb I' => ?_) (fun c' f pm ctv s' hC nF I' => ?_)
  · -- a new code object
    have nM : ∀ {a : Addr} {u : HO}, M a = some u → ∀ ps, u ≠ .tbl ps := fun q ps z => by
      subst z
      exact (b.mok _ _ q).1
    have tb0 : LamX.Tabs G.T (upd (upd H P (.tbl (ps ++ more))) c' (LamX.CodeO c' (X.env.qual ++ "<lambda>"))) := tb
    have ne : ∀ {a : Addr} {u : HO}, H a = some u → (∀ ps, u ≠ .tbl ps) → upd (upd H P (.tbl (ps ++ more))) c' (LamX.CodeO c' (X.env.qual ++ "<lambda>")) a = some u := fun {a u} q n => by
      have y : a ≠ P := fun z => by
        subst z
        exact n ps (Option.some.inj (q.symm.trans hP))
      rw [upd_ne (ne_of_none q nC), upd_ne y]
      exact q
    have st0 : Stp M r H M r (upd (upd H P (.tbl (ps ++ more))) c' (LamX.CodeO c' (X.env.qual ++ "<lambda>"))) := ⟨Le.refl, List.prefix_rfl, fun a z => .inl z, fun a u q t n => ne q t, fun a m _ _ => m⟩
    have b0 : BS G M r h δ σ (upd (upd H P (.tbl (ps ++ more))) c' (LamX.CodeO c' (X.env.qual ++ "<lambda>"))) := by
      refine b.after st0 (fun a u y => ⟨(b.mok a u y).1, ne (b.mok a u y).2 (nM y)⟩) ⟨b.bx.len, b.bx.nd, fun n a ds e1 e2 => ?_⟩ tb0
      obtain ⟨m, z, vs, y, t⟩ := b.bx.at_ n a ds e1 e2
      exact ⟨m, z, vs, ne y (fun _ z => by cases z), t⟩
    obtain ⟨b1, st1⟩ := b0.know (p := c') upd_same
    have nF1 : upd (upd H P (.tbl (ps ++ more))) c' (LamX.CodeO c' (X.env.qual ++ "<lambda>")) f = none := by rw [upd_ne fc, upd_ne fP]; exact nF
    obtain ⟨b2, st2⟩ := b1.laid (o := LamO f (kla_obj "<lambda>" (X.env.qual ++ "<lambda>") params body scope (cloFrom X.env.cells scope.names []) pm c' ctv)) nF1 trivial
    refine ⟨.ref f, _, I', rfl, q _ _ _ _ ((st0.trans st1).trans st2) b2 ⟨f, _, c', _, rfl, updM_same, st2.le _ _ updM_same, ?_⟩⟩
    show G.L _ _ _ _ _
    rw [hL]
    exact ⟨⟨params, body, scope⟩, pm, ctv, hk, rfl, rfl⟩
  · obtain ⟨b1, st1⟩ := b.know (p := c') hC
    obtain ⟨b2, st2⟩ := b1.laid (o := LamO f (kla_obj "<lambda>" (X.env.qual ++ "<lambda>") params body scope (cloFrom X.env.cells scope.names []) pm c' ctv)) nF trivial
    refine ⟨.ref f, _, I', rfl, q _ _ _ _ (st1.trans st2) b2 ⟨f, _, c', _, rfl, updM_same, st2.le _ _ updM_same, ?_⟩⟩
    show G.L _ _ _ _ _
    rw [hL]
    exact ⟨⟨params, body, scope⟩, pm, ctv, hk, rfl, rfl⟩
end
end LP
/-! LpP: a def that calls the lambda it got. -/
namespace LP
open PySem PySem.Spec PyProof.Rows L2
open PySem.W (kla_obj kla_fn)
section
variable {X : Cx} {G : Cfg} {W : WX} {σ : L2.St} {δ : DE} {M M' M1 M2 : Imm} {r r' r1 r2 : List Addr} {h h' h1 h2 : Bx} {H H' H1 H2 : Hp} {E : Ends}
variable {e c : Expr} {f g : EF} {tg : Expr} {fs : DE → Bx → R (List D)} {pos : Pos}
/-- the slots without own lists -/
def pubS : SV → SV
  | .own _ => .no
  | s => s
def pubD (δ : DE) : DE := δ.map pubS
abbrev Cfg.at_ (G : Cfg) (M : Imm) (r : List Addr) (H : Hp) : Cfg := ⟨G.K, G.mg, G.T, M, r, H, G.L⟩
theorem BS.rebase (b : BS G M r h δ σ H) : BS (G.at_ M r H) M r h (pubD δ) σ H := by
  have no : ∀ {i : Nat} {ds : List D}, (pubD δ)[i]? ≠ some (.own ds) := fun {i ds} e => by
    unfold pubD at e
    rw [List.getElem?_map] at e
    cases z : δ[i]? with
    | none => rw [z] at e; cases e
    | some s => rw [z] at e; cases s <;> cases e
  refine ⟨b.mok, b.bx, b.tb, by unfold pubD; rw [List.length_map]; exact b.len, fun i s o e1 e2 => ?_, fun i j ds es e1 _ _ => (no e1).elim, Le.refl, List.prefix_rfl, fun a z => .inl z, Keep.refl, fun a m _ _ => m⟩
  unfold pubD at e1
  rw [List.getElem?_map] at e1
  cases z : δ[i]? with
  | none => rw [z] at e1; cases e1
  | some s0 =>
    rw [z] at e1
    have q := b.sl i s0 o z e2
    cases s0 with
    | no => cases e1; trivial
    | own ds => cases e1; trivial
    | v d => cases e1; exact q
/-- from here on -/
theorem BS.stp (b : BS (G.at_ M r H) M' r' h' δ σ H') : Stp M r H M' r' H' := ⟨b.le, b.pre, b.new, b.keep, b.nf⟩
/-- the lambda that a slot holds, called -/
def actF (Λ : Nat → Bx → R D) (i : Nat) : EF := fun δ h => match δ[i]? with
  | some (.v (.lam k)) => (Λ k h).bind fun d h1 => if isV d = true then .ok d h1 else .bad
  | _ => .bad
/-- what is asked of the lambdas' texts -/
structure LamOk (X : Cx) (G : Cfg) (j : Nat) (ld : LamD) (f : EF) : Prop where
  L : LamX.LamS X.env.scope ld.scope
  bind : ∀ (q : Str) (cl : List (Str × Addr)) (pm cv ctv : Value), bindArgs (kla_fn "<lambda>" q ld.params ld.body ld.scope cl pm cv ctv) ⟨[], []⟩ = pure []
  body : ∀ (A : Around) (outer : List PySem.Env) (s : Shared) (H : Hp) (E : XK) (f' c' : Addr) (M : Imm) (r : List Addr), Room j (A.deeper (LamX.lamEnv X ld.scope s.heap.objs.size f' c')) →
    Ev (LamX.lamCx X A outer s H E ld.scope f' c') (G.at_ M r H) (fun c d _ H => E c d H) ld.body f
theorem act_ok {X0 : Cx} {pins0 : List (Addr × Obj)} {s : Shared} {tab : List LamD} {bodies : Nat → EF} {j i : Nat} {Nh : List Str} {qh : Str} {sh : Scope} {fh : Addr} {cdh : Value} {Eh : XK} {pn : List (Addr × Obj)} {xe : Value → Shared → Prop} {W' : WX} {a : Str} {p1 p2 : Pos}
    (I : Inv X0 pins0 σ H s) (b : BS G M r h δ σ H) (hL : G.L = lamL tab X0.env) (hb : ∀ k ld, tab[k]? = some ld → LamOk X0 G j ld (bodies k))
    (hr : Room (j + 1) (X0.A.deeper (envOfC qh sh s.heap.objs.size fh cdh))) (tk : Takes ((cxOf (L2.CX X0.prog X0.w) X0.prog X0.w X0.K X0.mg X0.base Nh qh sh fh cdh X0.A X0.stack s H Eh).tr pn xe) W')
    (hN : Nh[i]? = some a) (hv : Vis sh a) (hd : (a == ("__debug__" : Str)) = false := by decide) (hcd : (a == ("__classdict__" : Str)) = false := by decide) :
    Ev ((cxOf (L2.CX X0.prog X0.w) X0.prog X0.w X0.K X0.mg X0.base Nh qh sh fh cdh X0.A X0.stack s H Eh).tr pn xe) (G.at_ M r H) W' (.Call (.Name a p1) [] [] p2) (actF (fun k h => bodies k (pubD δ) h) i) := by
  refine ⟨fun pinsZ sZ σZ HZ Q IZ q => ?_⟩
  obtain ⟨M', r', h', δZ, bZ, q⟩ := q
  have hr' : Room (j + 1) ((cxOf (L2.CX X0.prog X0.w) X0.prog X0.w X0.K X0.mg X0.base Nh qh sh fh cdh X0.A X0.stack s H Eh).tr pn xe).A := hr
  unfold actF at q
  split at q
  · rename_i k ek
    obtain ⟨o, eo⟩ := bZ.lt ek
    obtain ⟨v, rfl, f0, ob, c, qn, rfl, mf, mc, hk⟩ := bZ.sl i _ _ ek eo
    have hk : G.L k f0 ob c qn := hk
    rw [hL] at hk
    obtain ⟨ld, pm, ctv, et, rfl, rfl⟩ := hk
    have LO := hb k ld et
    refine wpAny_Call_Name_kw (thn ((pe_var (pos := p1) (i := i) hN hv hd hcd).run pinsZ sZ σZ HZ (fun v H1 => v = .ref f0 ∧ H1 = HZ) IZ ⟨.ref f0, eo, rfl, rfl⟩) fun u s1 ⟨v, H1, I1, r1, e1, e2⟩ => ?_)
    subst e1
    subst e2
    obtain rfl : u = Value.ref f0 := r1
    have atf : s1.heap.get? f0 = some (kla_obj "<lambda>" (X0.env.qual ++ "<lambda>") ld.params ld.body ld.scope (cloFrom X0.env.cells ld.scope.names []) pm c ctv) := (I1.hok f0 _ (bZ.mok f0 _ mf).2).1
    obtain ⟨⟨oc, us, t, hoc, hdc, hvc⟩, _, _⟩ := I1.hok c _ (bZ.mok c _ mc).2
    have un : Un (frs X0.stack) [] H H1 s.heap s1.heap := I1.base
    refine PySem.W.callWith_F0 ⟨_, _, _, _, atf⟩ ?_
    have run : codeAny (model X0.prog X0.w) (X0.A.deeper (envOfC qh sh s.heap.objs.size fh cdh)) (.call (.ref f0) ⟨[], []⟩) (CR (L2.CX X0.prog X0.w) (envOfC qh sh s.heap.objs.size fh cdh :: X0.stack) X0.prog X0.w H1 s1 Q (WE W' σZ)) s1 := by
      refine PySem.W.kla_callFunE hr'.depth atf rfl LO.L.co LO.L.gen rfl ⟨c, oc, us, t, rfl, hoc, hdc, hvc⟩ ?_
      rw [LO.bind]
      refine wpAny_pure (wpAny_newFunctionEnv (fun y hy => (LO.L.own y hy).2) (fun y hy => absurd hy (by simp)) (fun hp hns hsb => ⟨I1.nolimit.fresh _ hsb, ?_⟩) LO.L.kind)
      have up : ∀ b o, s1.heap.get? b = some o → hp.get? b = some o := fun b o e => hsb.extBut b o (Nat.ne_of_lt (Heap.lt_size e)) (Heap.get?_push_of_some _ e)
      have J := LamX.lam_start2 (A := X0.A.deeper (envOfC qh sh s.heap.objs.size fh cdh)) (outer := envOfC qh sh s.heap.objs.size fh cdh :: X0.stack) (E := WE W' σZ) (f := f0) (c' := c) (tk := s1.toks + ([] : List (Str × Value)).length) I LO.L I1.env0 hr'.hd un hns up
      -- the maker's slots, as they stand now
      have bM := (b.after bZ.stp bZ.mok bZ.bx bZ.tb).rebase
      refine PySem.W.kla_codeExpr (wpAny_mono ((LO.body _ _ s1 H1 (WE W' σZ) f0 c M' r' (hr'.deeper _)).run [] _ _ H1 Q J ⟨M', r', h', pubD δ, bM, ?_⟩) (fun v s' hq => ?_) fun e s' hq => hq)
      · -- back in the def
        have back : ∀ {M2 r2 h2 H2}, BS (Cfg.at_ (Cfg.at_ G M r H) M' r' H1) M2 r2 h2 (pubD δ) σ H2 → Stp M' r' H1 M2 r2 H2 → BS (G.at_ M r H) M2 r2 h2 δZ σZ H2 := fun b2 s2 => bZ.after s2 b2.mok b2.bx b2.tb
        have q : After (G.at_ M r H) W' σZ δZ (rV G.J δZ σZ) M' r' H1 ((bodies k (pubD δ) h').bind fun d h1 => if isV d = true then R.ok d h1 else R.bad) Q := q
        cases y : bodies k (pubD δ) h' with
        | ok d h2 =>
          rw [y] at q
          simp only [R.bind_ok] at q
          split at q
          · rename_i iv
            intro v M2 r2 H2 s2 b2 rv
            refine q v M2 r2 H2 s2 (back b2 s2) ?_
            cases d with
            | loc i => cases iv
            | _ => exact rv
          · exact q.elim
        | exc cn fs h2 =>
          rw [y] at q
          exact fun C dd M2 r2 H2 m s2 b2 ea => q C dd M2 r2 H2 m s2 (back b2 s2) ea
        | bad => rw [y] at q; exact q.elim
      · obtain ⟨w', H', J', rv, hq⟩ := hq
        exact ⟨w', H', J'.os, J'.bare, J'.base, J'.hok, rv, hq⟩
    refine wpAny_call (codeAny_mono run fun rr s' hq => ?_)
    cases rr with
    | error er => exact passAt tk σZ pinsZ H1 s1 er s' I1 hq
    | ok fl =>
      cases fl with
      | ret u => exact I1.after hq
      | next => exact False.elim hq
      | brk => exact False.elim hq
      | cont => exact False.elim hq
  · exact q.elim
end
end LP
namespace LP
open PySem PySem.Spec PyProof.Rows L2
section
variable {X : Cx} {G : Cfg} {W : WX} {σ : L2.St} {δ : DE} {M M' M1 M2 : Imm} {r r' r1 r2 : List Addr} {h h' h1 h2 : Bx} {H H' H1 H2 : Hp} {E : Ends}
variable {e c : Expr} {f g : EF} {tg : Expr} {fs : DE → Bx → R (List D)} {pos : Pos}
/-- the def at fa calls what it gets: its body by the functions of the lambdas -/
def HeardOk (P : Program) (w : World) (K : PySem.W.Frag) (mg : Str → Option Value) (base : Heap) (k : Nat) (st : Stmt) (fa : Addr) (x a : Str) (N : List Str) (sf : (Nat → Bx → R D) → SF) : Prop :=
  ∀ (Λ : Nat → Bx → R D) (cdv : Value) (A : Around) (outer : List PySem.Env) (s : Shared) (H : Hp) (E : XK) (T : List (Addr × Str)) (M : Imm) (r : List Addr) (L : LamP), Room k (A.deeper (envOfC x (defScope st) s.heap.objs.size fa cdv)) →
    (∀ (W' : WX) (pn : List (Addr × Obj)) (xe : Value → Shared → Prop) (p1 p2 : Pos), Takes ((cxOf (L2.CX P w) P w K mg base N x (defScope st) fa cdv A outer s H E).tr pn xe) W' →
      Ev ((cxOf (L2.CX P w) P w K mg base N x (defScope st) fa cdv A outer s H E).tr pn xe) ⟨K, mg, T, M, r, H, L⟩ W' (.Call (.Name a p1) [] [] p2) (actF Λ 0)) →
    Ess (cxOf (L2.CX P w) P w K mg base N x (defScope st) fa cdv A outer s H E) ⟨K, mg, T, M, r, H, L⟩ (fun c d _ H => E c d H) (defBody st) (sf Λ)
/-- what the call of such a def computes -/
def heardF (bodies : Nat → EF) (n : Nat) (sf : (Nat → Bx → R D) → SF) (δ : DE) (d : D) (h : Bx) : R D := match d with
  | .lam k => runF n (sf fun k h => bodies k (pubD δ) h) [.lam k] h
  | _ => .bad
theorem heard_run {k : Nat} {st : Stmt} {fa : Addr} {fd : FuncData} {x a : Str} {N : List Str} {sf : (Nat → Bx → R D) → SF} {Λ : Nat → Bx → R D} {pins : List (Addr × Obj)} {s : Shared} {Q : VK} {v : V} {u : Value} {n : Nat}
    (Fh : Fun X.K x x st fa fd) (S : FnScope N [a] (defScope st)) (hb : Binds X.K fd [a] []) (ho : HeardOk X.prog X.w X.K X.mg X.base k st fa x a N sf) (hr : Room (k + 1) X.A) (tk : Takes X W) (hGK : G.K = X.K) (hGm : G.mg = X.mg)
    (I : Inv X pins σ H s) (b : BS G M r h δ σ H) (rv : Rep G.J M r (.lam n) v) (ru : RelV v u)
    (act : ∀ (cdv : Value) (E : XK), Room k (X.A.deeper (envOfC x (defScope st) s.heap.objs.size fa cdv)) → ∀ (W' : WX) (pn : List (Addr × Obj)) (xe : Value → Shared → Prop) (p1 p2 : Pos), Takes ((cxOf (L2.CX X.prog X.w) X.prog X.w X.K X.mg X.base N x (defScope st) fa cdv X.A X.stack s H E).tr pn xe) W' →
      Ev ((cxOf (L2.CX X.prog X.w) X.prog X.w X.K X.mg X.base N x (defScope st) fa cdv X.A X.stack s H E).tr pn xe) (G.at_ M r H) W' (.Call (.Name a p1) [] [] p2) (actF Λ 0))
    (q : After G W σ δ (rV G.J δ σ) M r H (runF N.length (sf Λ) [.lam n] h) Q) :
    wpAny (model X.prog X.w) X.A (call (.ref fa) [u]) (EP X pins σ Q) X.xe s := by
  obtain ⟨oc, od, kV, doc, pm, an, cdv, ct, osl, rfl, lk, hcd⟩ := Fh.ex
  refine wpAny_call (codeAny_mono (LamX.run_ofS (N := N) (ps := [a]) (CX := L2.CX X.prog X.w) (us := [u]) (vs := [v]) (Q := Q) (E := WE W σ) lk hcd S hr I.env0 (hb s [u] I.kIn rfl) (.cons ru .nil) rfl fun hr' => ?_) fun rr s' hq => ?_)
  · have hs := ho Λ cdv X.A X.stack s H (WE W σ) G.T M r G.L hr'
    rw [← hGK, ← hGm] at hs
    have act := act cdv (WE W σ) hr'
    rw [← hGK, ← hGm] at act
    have hs := hs act
    have key : spF G.K G.mg G.T 1 (runF N.length (sf Λ)) [v] H Q (WE W σ) := call_sp (ds := [.lam n]) b ⟨v, [], rfl, rv, rfl⟩ (fun _ _ _ => rfl) (fun _ _ _ _ => rfl) q
    rw [← hGK, ← hGm]
    refine ⟨_, hs, M, r, h, _, bs_start (ds := [.lam n]) (L := G.L) (N := N) b.mok b.bx b.tb ⟨v, [], rfl, rv, rfl⟩, ?_⟩
    unfold runF at q
    have st : ∀ {M' r' h' δ' σ' H'}, BS ⟨G.K, G.mg, G.T, M, r, H, G.L⟩ M' r' h' δ' σ' H' → Stp M r H M' r' H' := fun b => ⟨b.le, b.pre, b.new, b.keep, b.nf⟩
    cases z : sf Λ (startD N.length [.lam n]) h with
    | nx δ' h' => rw [z] at q; exact fun M' r' σ' H' _ _ b' => q .non M' r' H' (st b') (b.after (st b') b'.mok b'.bx b'.tb) rfl
    | rt d h' => rw [z] at q; exact fun v M' r' δ' σ' H' _ _ b' rv => q v M' r' H' (st b') (b.after (st b') b'.mok b'.bx b'.tb) (rep_V rv)
    | exc c fs δ' h' => rw [z] at q; exact fun C dd M' r' σ' H' m _ _ b' ea => q C dd M' r' H' m (st b') (b.after (st b') b'.mok b'.bx b'.tb) ea
    | bk δ h' => rw [z] at q; exact q.elim
    | ct δ h' => rw [z] at q; exact q.elim
    | bad => rw [z] at q; exact q.elim
  · cases rr with
    | error er => exact passAt tk σ pins H s er s' I hq
    | ok fl =>
      cases fl with
      | ret u => exact I.after hq
      | next => exact hq.elim
      | brk => exact hq.elim
      | cont => exact hq.elim
/-- x(e), e a lambda of this frame -/
theorem ev_heard {k j : Nat} {tab : List LamD} {bodies : Nat → EF} {st : Stmt} {fa : Addr} {fd : FuncData} {x a : Str} {N : List Str} {sf : (Nat → Bx → R D) → SF} {p : Pos}
    (Fh : Fun X.K x x st fa fd) (S : FnScope N [a] (defScope st)) (hb : Binds X.K fd [a] []) (ho : HeardOk X.prog X.w X.K X.mg X.base k st fa x a N sf) (hr : Room (k + 1) X.A) (tk : Takes X W) (hGK : G.K = X.K) (hGm : G.mg = X.mg) (hjk : j + 1 ≤ k)
    (hL : G.L = lamL tab X.env) (hbd : ∀ k ld, tab[k]? = some ld → LamOk X G j ld (bodies k)) (hNa : N[0]? = some a) (hva : Vis (defScope st) a) (hg : Gl X x) (hm : X.mg x = some (.ref fa)) (ha : Ev X G W e f)
    (hda : (a == ("__debug__" : Str)) = false := by decide) (hca : (a == ("__classdict__" : Str)) = false := by decide) (hdb : (x == ("__debug__" : Str)) = false := by decide)
    (he : starEach [e] X.env = (false, eval e X.env) :: starEach [] X.env := by rfl) (hpl : (backTo pos (starEach [] X.env)).any (·.1) = false := by rfl) :
    Ev X G W (.Call (.Name x p) [e] [] pos) (fun δ h => (f δ h).bind fun d h1 => heardF bodies N.length sf δ d h1) := by
  refine ⟨fun pins s σ H Q I q => ?_⟩
  obtain ⟨M, r, h, δ, b, q⟩ := q
  refine wpAny_Call_Name_kw (ld_glob I hg hm ?_ hdb)
  have pa : PA X [e] (tCons (tG G W (rV G.J) f) tNil) := pa_cons ha pa_nil he
  refine PySem.W.callWith_K (h₀ := X.base) I.ok.mod.kin Fh.kp (thn (pa.run pos pins s σ H (fun vs H1 => ∃ v d M1 r1 h1, vs = [v] ∧ BS G M1 r1 h1 δ σ H1 ∧ RepV G.J M1 r1 δ σ d v ∧ After G W σ δ (rV G.J δ σ) M1 r1 H1 (heardF bodies N.length sf δ d h1) Q) I
    ⟨M, r, h, δ, b, (After.bind q).more fun v H1 ⟨d, M1, r1, h1, s1, b1, rv, q1⟩ => ⟨v, d, M1, r1, h1, rfl, b1, rv, q1⟩⟩) fun us s1 ⟨vs, H1, I1, r0, v, d, M1, r1, h1, ev, b1, rv, q1⟩ => ⟨I1.kIn, ?_⟩) he hpl
  subst ev
  cases r0 with
  | @cons _ u _ ur ru rt =>
    cases rt
    cases d with
    | lam n =>
      refine heard_run Fh S hb ho hr tk hGK hGm I1 b1 rv ru (fun cdv E hr' W' pn xe p1 p2 tk' => ?_) q1
      exact act_ok (j := j) I1 b1 hL hbd (hr'.mono hjk) tk' hNa hva hda hca
    | _ => exact q1.elim
end
end LP
/-! LpQ: comprehensions that call lambdas of the frame. -/
namespace LP
open PySem PySem.Spec PyProof.Rows L2
section
variable {X : Cx} {pins : List (Addr × Obj)} {σ : L2.St} {H H3 : Hp} {s s3 : Shared} {scope : Scope} {fp : List Addr}
/-- within a block the def's own state stands too -/
theorem blk_back {C : Addr} {cl : List (Str × Addr)} {pins' : List (Addr × Obj)} {σ' : L2.St} {H' : Hp} {s' : Shared} (I3 : Inv X pins σ H3 s3) (f : ∀ b ∈ fp, FpOk X pins H3 b ∧ b < s3.heap.objs.size)
    (I : Inv (X.blk s3 H3 scope (compEnvC scope cl C X.env) fp) pins' σ' H' s') : Inv X pins σ H' s' :=
  I3.call' (ch := fp) I.os I.base I.hok I.bare fun b hb => by
    obtain ⟨⟨_, y1, y2, y3, y4, y5⟩, _⟩ := f b hb
    exact ⟨y3, y1, y4, y5⟩
variable {elt tg iter : Expr} {ifs : List Expr} {own : List (Str × Nat)} {pos : Pos} {wi : TI} {g : TG} {tt : TT} {te : TE} {Q : VK}
/-- the parts of a block, each told of the state at which the block began -/
structure Inner (X : Cx) (pins : List (Addr × Obj)) (σ : L2.St) (scope : Scope) (tg elt : Expr) (ifs : List Expr) (g : TG) (tt : TT) (te : TE) : Prop where
  of : ∀ (s : Shared) (H : Hp) (C : Addr) (cl : List (Str × Addr)) (fp : List Addr), Inv X pins σ H s → (∀ b ∈ fp, FpOk X pins H b ∧ b < s.heap.objs.size) →
    PG (X.blk s H scope (compEnvC scope cl C X.env) fp) tg g ∧ PTs (X.blk s H scope (compEnvC scope cl C X.env) fp) ifs tt ∧ PE (X.blk s H scope (compEnvC scope cl C X.env) fp) elt te
theorem lcI_run (hc : X.calm = true) (hN : X.N.Nodup) (I : Inv X pins σ H s) (hi : PI X tg iter wi) (ok : BlkOk X.N X.env.scope scope own) (inner : Inner X pins σ scope tg elt ifs g tt te) (hs : ∀ x, foldedSetIterable iter X.env x = pure x)
    (q : tLc wi g tt te (own.map (·.2)) σ H Q) : wpAny (model X.prog X.w) X.A (eval (.ListComp elt [⟨tg, iter, ifs, 0⟩] scope pos) X.env) (EP X pins σ Q) X.xe s := by
  have clo : ∀ y ∈ scope.names, y.2 = .free → ∃ c, X.env.cells.lookup y.1 = some c := by
    intro y hy e
    exact (ok.free y hy e).elim (fun k => I.ok.has _ (.inl k)) (fun k => I.ok.has _ (.inr k))
  rw [eval_ListComp]
  refine wpAny_comprehension_free rfl hs (closure_ok clo) ok.kind (fun y hy e => (ok.uniq y hy).trans (by rw [e])) (thn (hi.run pins s σ H _ I q) fun _ s1 first => thn first fun _ s2 w => ?_)
  obtain ⟨it, fp, tn, J, H2, rfl, I2, T, st2, f2, q2⟩ := w
  refine wpAny_newObj_type (newEnv_comp ?_) (by show 0 ≤ sizeLine; decide)
  -- the new list, at D
  obtain ⟨W, ⟨m0, w0⟩, turn⟩ := q2 s2.heap.objs.size (I2.hok.fresh (Nat.le_refl _))
  obtain ⟨D, eD⟩ : ∃ D, D = s2.heap.objs.size := ⟨_, rfl⟩
  rw [← eD] at turn w0 ⊢
  obtain ⟨sL, eL⟩ : ∃ sL : Shared, sL = { s2 with heap := s2.heap.push { cls := .type "list", data := .seq ([] : List Value).toArray } } := ⟨_, rfl⟩
  obtain ⟨HL, eH⟩ : ∃ HL : Hp, HL = upd H2 D (.lst []) := ⟨_, rfl⟩
  rw [← eH] at w0
  have IL : Inv X pins σ HL sL := by
    rw [eL, eH, eD]
    exact I2.laid (t' := s2.toks) (fun b o e => Heap.get?_push_of_some _ e) (Nat.le_refl _) ⟨Nat.zero_le _, [], 0, .nil, Heap.get?_push_size _ rfl⟩
  have up : ∀ b o, s2.heap.get? b = some o → sL.heap.get? b = some o := by
    rw [eL]
    exact fun b o e => Heap.get?_push_of_some _ e
  have lt2 : ∀ b ∈ fp, b < s2.heap.objs.size := by
    intro b hb
    obtain ⟨o, e, _⟩ := T.obj _ _ st2 b hb
    exact Heap.lt_size e
  have fL : ∀ b ∈ fp, FpOk X pins HL b ∧ b < sL.heap.objs.size := by
    intro b hb
    obtain ⟨y0, y⟩ := f2 b hb
    obtain ⟨o, e, _⟩ := T.obj _ _ st2 b hb
    refine ⟨⟨?_, y⟩, Heap.lt_size (up b o e)⟩
    rw [eH, upd_ne (fun z => Nat.lt_irrefl _ (by have := lt2 b hb; rw [z, eD] at this; exact this))]
    exact y0
  have stL : tn 0 sL.heap := T.keep _ _ _ st2 fun b _ o e => up b o e
  have IB := block_start IL ok hN fL
  obtain ⟨pg, pt, pe⟩ := inner.of sL HL sL.heap.objs.size (cellsFrom (sL.heap.objs.size + 1) scope.names (cloFrom X.env.cells scope.names [])) fp IL fL
  rw [← eL]
  show codeAny _ _ (.compStart (.ListComp elt [⟨tg, iter, ifs, 0⟩] scope pos) 0 (.ref it) (.ref D) (compEnvC scope (cellsFrom (sL.heap.objs.size + 1) scope.names (cloFrom X.env.cells scope.names [])) sL.heap.objs.size X.env)) (compPost (model X.prog X.w) X.A X.xe none (EP X pins σ Q) (.ref D) sL.heap.objs.size) { sL with heap := pushCells (sL.heap.push { cls := .type "dict", data := .dict #[] }) scope.names }
  obtain ⟨ce, ec⟩ : ∃ ce, ce = compEnvC scope (cellsFrom (sL.heap.objs.size + 1) scope.names (cloFrom X.env.cells scope.names [])) sL.heap.objs.size X.env := ⟨_, rfl⟩
  obtain ⟨sB, eB⟩ : ∃ sB : Shared, sB = { sL with heap := pushCells (sL.heap.push { cls := .type "dict", data := .dict #[] }) scope.names } := ⟨_, rfl⟩
  have stB : tn 0 sB.heap := T.keep _ _ _ stL fun b _ o e => by
    rw [eB]
    exact pushCells_keeps _ _ _ _ (Heap.get?_push_of_some _ e)
  have locC : ce.locals = sL.heap.objs.size := by rw [ec]; rfl
  rw [← ec, ← eB] at IB
  rw [← ec] at pg pt pe
  rw [← ec, ← eB]
  have steady : ∀ {σ' : L2.St} {H' : Hp} {s' : Shared}, Inv (X.blk sL HL scope ce fp) [] σ' H' s' → (∀ b ∈ fp, H' b = none) → ∀ b ∈ fp, FpOk (X.blk sL HL scope ce fp) [] H' b := by
    intro σ' H' s' I' n b hb
    exact ⟨n b hb, (I'.ok.exf b hb).1, I'.ok.exfs b hb, .inl hb, (I'.ok.exf b hb).2, fun p hp => absurd (show p ∈ ([] : List (Addr × Obj)) ++ [] from hp) (by simp)⟩
  have all_ : codeAny (model X.prog X.w) X.A (.compLoop (.ListComp elt [⟨tg, iter, ifs, 0⟩] scope pos) 0 (.ref it) (.ref D) ce) (compPost (model X.prog X.w) X.A X.xe none (EP X pins σ Q) (.ref D) sL.heap.objs.size) sB := by
    refine compLoop_any (fun n s' => ∃ i H', Inv (X.blk sL HL scope ce fp) [] (wipe σ (own.map (·.2))) H' s' ∧ tn i s'.heap ∧ (∀ b ∈ fp, H' b = none) ∧ W i n H') (fun n s5 st => ?_) m0 ⟨0, HL, IB, stB, fun b hb => (fL b hb).1.1, w0⟩
    obtain ⟨i, H5, I5, st5, n5, w5⟩ := st
    rcases turn i n H5 w5 with ⟨stop, fin⟩ | ⟨go, Nx, next, step⟩
    · -- the end
      refine thnF (T.done (X.blk sL HL scope ce fp) rfl rfl rfl hc i [] s5 _ H5 (fun _ _ => False) I5 (steady I5 n5) st5 stop) fun r s6 ⟨er, I6⟩ => ?_
      subst er
      have I7 : Inv X pins σ H5 s6 := blk_back IL fL (by rw [← ec]; exact I6)
      obtain ⟨m, nsC, _⟩ := id I6.loc
      have nsC : s6.heap.Ns ce.locals m := nsC
      have freeC : H5 ce.locals = none := I6.free
      rw [locC] at nsC freeC
      obtain ⟨k0, k1, k2, k3, k4, k5⟩ := IL.fpOk (Nat.le_refl _) freeC
      refine ⟨m, nsC, fun hp sb => ⟨.ref D, H5, ?_, rfl, fin⟩⟩
      exact I7.turned (t' := s6.toks) (fun b o hb e => (sb.2 b hb).trans e) k0 k1 k3 k4 k5
    · -- one turn
      refine thnF (T.item (X.blk sL HL scope ce fp) rfl rfl rfl hc i [] s5 _ H5 (fun _ _ => False) I5 (steady I5 n5) st5 go) fun r s6 ⟨u, er, h6⟩ => ?_
      subst er
      refine thnF h6 fun _ s7 ⟨x, H7, I7, r7, y7, st7, n7⟩ => ?_
      have P7 := I7.pinned (steady I7 n7) (T.obj _ _ st7)
      refine thnF (pg.run _ s7 _ H7 x u _ P7 r7 (step x H7 y7)) fun _ s8 ⟨σ8, H8, I8, w8, q8⟩ => thnF (pt.run _ s8 σ8 H8 _ I8 q8) fun b s9 ⟨H9, I9, q9⟩ => ?_
      have again : ∀ {s' : Shared} {H' : Hp}, Inv (X.blk sL HL scope ce fp) ([] ++ pinsAt fp s7.heap) σ8 H' s' → Nx H' → ∃ m, m < n ∧ ∃ i H', Inv (X.blk sL HL scope ce fp) [] (wipe σ (own.map (·.2))) H' s' ∧ tn i s'.heap ∧ (∀ b ∈ fp, H' b = none) ∧ W i m H' := by
        intro s' H' I' nx
        obtain ⟨m', lt, w'⟩ := next H' nx
        have pn : ∀ b ∈ fp, ∀ o, s7.heap.get? b = some o → s'.heap.get? b = some o ∧ H' b = none := by
          intro b hb o e
          obtain ⟨z1, z2, _⟩ := I'.pin (b, o) (List.mem_append_right _ (List.mem_append_right _ (mem_pinsAt hb e)))
          exact ⟨z1, z2⟩
        refine ⟨m', lt, i + 1, H', (I'.unpinned (pins := [])).weak ?_ fun j v e => ?_, T.keep _ _ _ st7 fun b hb o e => (pn b hb o e).1, fun b hb => ?_, w'⟩
        · rw [← w8, wipe_length]
        · rw [← w8] at e
          exact (wipe_some e).1
        · obtain ⟨o, e, _⟩ := T.obj _ _ st7 b hb
          exact (pn b hb o e).2
      cases b with
      | true =>
        simp only [if_true] at q9 ⊢
        refine thnF (pe.run _ s9 σ8 H9 _ I9 q9) fun z s10 ⟨yv, H10, I10, r10, acc, a1, a2, nx⟩ => ?_
        exact app_ok (X := X.blk sL HL scope ce fp) I10 a1 a2 r10 fun s11 I11 => again I11 nx
      | false =>
        simp only [Bool.false_eq_true, if_false] at q9 ⊢
        exact again I9 q9
  exact codeAny_compStart_list all_ (T.self X.A 0 _ _ _ stB all_)
end
end LP
/-! LpR: comprehensions over plain data that call lambdas of the frame. -/
namespace LP
open PySem PySem.Spec PyProof.Rows L2
section
variable {X : Cx} {G : Cfg} {W : WX} {σ : L2.St} {δ : DE} {M M' M1 M2 : Imm} {r r' r1 r2 : List Addr} {h h' h1 h2 : Bx} {H H' H1 H2 : Hp} {E : Ends}
variable {e c : Expr} {f g : EF} {tg : Expr} {fs : DE → Bx → R (List D)} {pos : Pos}
/-- the slots of now by those of then -/
theorem BS.now (b : BS G M r h δ σ H) {δ' : DE} {σ' : L2.St} (b' : BS (G.at_ M r H) M' r' h' δ' σ' H') : BS G M' r' h' δ σ H' := b.after b'.stp b'.mok b'.bx b'.tb
theorem Good.at_ {J : It} {ds : List D} (b : BS G M r h δ σ H) (g : Good G J M' r' ds) : Good (G.at_ M r H) J M' r' ds := by
  obtain ⟨Gd, Y, w, g1, g2⟩ := g
  refine ⟨Gd, Y, w, fun M1 r1 h1 δ1 σ1 H1 le pr b1 => g1 M1 r1 h1 δ σ H1 le pr (b.now b1), fun i x H1 H2 M1 r1 h1 δ1 σ1 hi le pr b1 y => ?_⟩
  obtain ⟨M2, d, b2, s2, e2, rp⟩ := g2 i x H1 H2 M1 r1 h1 δ σ hi le pr (b.now b1) y
  exact ⟨M2, d, b1.after s2 b2.mok b2.bx b2.tb, s2, e2, rp⟩
/-- parts of the comprehension know the slots of the frame -/
def lcNL (gi : DE → Bx → R (List D)) (vs : List Nat) (u : D → DE → Option DE) (tf : DE → DE → Bx → R Bool) (ef : DE → EF) : DE → Bx → R (List D) := fun δ h => lcN (fun _ h => gi δ h) vs u (tf δ) (ef δ) (pubD δ) h
theorem evn_lcL {elt iter : Expr} {ifs : List Expr} {scope : Scope} {own : List (Str × Nat)} {gi : DE → Bx → R (List D)} {ts : List Nat} {u : D → DE → Option DE} {tf : DE → DE → Bx → R Bool} {ef : DE → EF} (hc : X.calm = true) (hN : X.N.Nodup)
    (hi : EvI X G W tg iter gi) (ok : BlkOk X.N X.env.scope scope own) (hts : ∀ i ∈ ts, i ∈ own.map (·.2))
    (inner : ∀ (pins : List (Addr × Obj)) (σ : L2.St) (H : Hp) (M : Imm) (r : List Addr) (h : Bx) (δ : DE), BS G M r h δ σ H →
      Inner X pins σ scope tg elt ifs (tGt (G.at_ M r H) ts u) (tG (G.at_ M r H) W0 rB (tf δ)) (tG (G.at_ M r H) W0 (rV G.J) (ef δ)))
    (hs : ∀ x, foldedSetIterable iter X.env x = pure x := by intro _; rfl) : EvN X G W (.ListComp elt [⟨tg, iter, ifs, 0⟩] scope pos) (lcNL gi (own.map (·.2)) u tf ef) := by
  refine ⟨fun pins s σ H Q I q => ?_⟩
  obtain ⟨M, r, h, δ, b, q⟩ := q
  refine lcI_run (wi := tI G W gi) hc hN I hi ok (inner pins σ H M r h δ b) hs ?_
  have b1 := b.rebase
  have q1 : AfterN (G.at_ M r H) W σ (pubD δ) M r H (lcN (fun _ h => gi δ h) (own.map (·.2)) u (tf δ) (ef δ) (pubD δ) h) Q := by
    have q : AfterN G W σ δ M r H (lcN (fun _ h => gi δ h) (own.map (·.2)) u (tf δ) (ef δ) (pubD δ) h) Q := q
    cases z : lcN (fun _ h => gi δ h) (own.map (·.2)) u (tf δ) (ef δ) (pubD δ) h with
    | ok ds h1 => rw [z] at q; exact fun vs M' r' H' p s b' t l hp => q vs M' r' H' p s (b.after s b'.mok b'.bx b'.tb) t l hp
    | exc c fs h1 => rw [z] at q; exact fun C dd M' r' H' m s b' ea => q C dd M' r' H' m s (b.after s b'.mok b'.bx b'.tb) ea
    | bad => rw [z] at q; exact q.elim
  have z := lc_of (G := G.at_ M r H) (W := W) (gi := fun _ h => gi δ h) (u := u) (tf := tf δ) (ef := ef δ) hts (Q := Q) ⟨M, r, h, pubD δ, b1, q1⟩
  -- the iterator, by the frame's own slots
  unfold tLc at z ⊢
  obtain ⟨M2, r2, h2, δ2, b2, z⟩ := z
  refine ⟨M2, r2, h2, δ, b.now b2, ?_⟩
  have z : AfterI (G.at_ M r H) W σ δ2 M2 r2 H (gi δ h2) _ := z
  cases y : gi δ h2 with
  | ok ds h3 =>
    rw [y] at z
    exact fun J M' r' H' s b' g => z J M' r' H' s (b2.after s b'.mok b'.bx b'.tb) (Good.at_ b g)
  | exc c fs h3 =>
    rw [y] at z
    exact fun C dd M' r' H' m s b' ea => z C dd M' r' H' m s (b2.after s b'.mok b'.bx b'.tb) ea
  | bad => rw [y] at z; exact z.elim
/-- x(e) within such a comprehension -/
theorem ev_heardB {k j : Nat} {tab : List LamD} {bodies : Nat → EF} {st : Stmt} {fa : Addr} {fd : FuncData} {x a : Str} {N : List Str} {sf : (Nat → Bx → R D) → SF} {p : Pos} {pins : List (Addr × Obj)} {s3 : Shared} {H3 : Hp} {scope : Scope} {C : Addr} {cl : List (Str × Addr)} {fp : List Addr} {W : WX}
    (b0 : BS G M r h δ σ H) (I3 : Inv X pins σ H3 s3) (f3 : ∀ b ∈ fp, FpOk X pins H3 b ∧ b < s3.heap.objs.size)
    (Fh : Fun X.K x x st fa fd) (S : FnScope N [a] (defScope st)) (hb : Binds X.K fd [a] []) (ho : HeardOk X.prog X.w X.K X.mg X.base k st fa x a N sf) (hr : Room (k + 1) X.A) (tk : Takes (X.blk s3 H3 scope (compEnvC scope cl C X.env) fp) W) (hGK : G.K = X.K) (hGm : G.mg = X.mg) (hjk : j + 1 ≤ k)
    (hL : G.L = lamL tab X.env) (hbd : ∀ k ld, tab[k]? = some ld → LamOk X G j ld (bodies k)) (hNa : N[0]? = some a) (hva : Vis (defScope st) a) (hg : Gl (X.blk s3 H3 scope (compEnvC scope cl C X.env) fp) x) (hm : X.mg x = some (.ref fa))
    (ha : Ev (X.blk s3 H3 scope (compEnvC scope cl C X.env) fp) (G.at_ M r H) W e f)
    (hda : (a == ("__debug__" : Str)) = false := by decide) (hca : (a == ("__classdict__" : Str)) = false := by decide) (hdb : (x == ("__debug__" : Str)) = false := by decide)
    (he : starEach [e] (compEnvC scope cl C X.env) = (false, eval e (compEnvC scope cl C X.env)) :: starEach [] (compEnvC scope cl C X.env) := by rfl) (hpl : (backTo pos (starEach [] (compEnvC scope cl C X.env))).any (·.1) = false := by rfl) :
    Ev (X.blk s3 H3 scope (compEnvC scope cl C X.env) fp) (G.at_ M r H) W (.Call (.Name x p) [e] [] pos) (fun δ' h => (f δ' h).bind fun d h1 => heardF bodies N.length sf δ d h1) := by
  refine ⟨fun pinsB sB σB HB Q IB q => ?_⟩
  obtain ⟨MB, rB_, hB, δB, bB, q⟩ := q
  refine wpAny_Call_Name_kw (ld_glob IB hg hm ?_ hdb)
  have pa : PA (X.blk s3 H3 scope (compEnvC scope cl C X.env) fp) [e] (tCons (tG (G.at_ M r H) W (rV G.J) f) tNil) := pa_cons ha pa_nil he
  refine PySem.W.callWith_K (h₀ := X.base) IB.ok.mod.kin Fh.kp (thn (pa.run pos pinsB sB σB HB (fun vs H1 => ∃ v d M1 r1 h1, vs = [v] ∧ BS (G.at_ M r H) M1 r1 h1 δB σB H1 ∧ RepV G.J M1 r1 δB σB d v ∧ After (G.at_ M r H) W σB δB (rV G.J δB σB) M1 r1 H1 (heardF bodies N.length sf δ d h1) Q) IB
    ⟨MB, rB_, hB, δB, bB, (After.bind q).more fun v H1 ⟨d, M1, r1, h1, s1, b1, rv, q1⟩ => ⟨v, d, M1, r1, h1, rfl, b1, rv, q1⟩⟩) fun us s1 ⟨vs, H1, I1, r0, v, d, M1, r1, h1, ev, b1, rv, q1⟩ => ⟨I1.kIn, ?_⟩) he hpl
  subst ev
  cases r0 with
  | @cons _ u _ ur ru rt =>
    cases rt
    cases d with
    | lam n =>
      refine heard_run (X := X.blk s3 H3 scope (compEnvC scope cl C X.env) fp) (G := G.at_ M r H) Fh S hb ho hr tk hGK hGm I1 b1 rv ru (fun cdv E hr' W' pn xe p1 p2 tk' => ?_) q1
      exact act_ok (X0 := X) (G := G) (j := j) (blk_back I3 f3 I1) (b0.now b1) hL hbd (hr'.mono hjk) tk' hNa hva hda hca
    | _ => exact q1.elim
end
end LP
/-! LpU: defs that make lambdas; the law's head with tables. -/
namespace LP
open PySem PySem.Spec PyProof.Rows L2 HT
mutual
/-- no lambda within -/
def D.noLam : D → Bool
  | .tup ds => D.noLams ds
  | .lst ds => D.noLams ds
  | .frz ds => D.noLams ds
  | .lam _ => false
  | _ => true
def D.noLams : List D → Bool
  | [] => true
  | d :: ds => d.noLam && D.noLams ds
end
section
variable {K : PySem.W.Frag} {mg : Str → Option Value} {L L' : LamP} {M M' : Imm} {r r' : List Addr} {h h' : Bx} {H H' : Hp}
mutual
theorem Rep.chg : ∀ (d : D) (v : V), d.noLam = true → Rep ⟨K, L, mg⟩ M r d v → Rep ⟨K, L', mg⟩ M r d v
  | .non, _, _, q => q
  | .bl _, _, _, q => q
  | .int _, _, _, q => q
  | .str _, _, _, q => q
  | .ptr _, _, _, q => q
  | .loc _, _, _, q => q
  | .fn _, _, _, q => q
  | .lam _, _, e, _ => by cases e
  | .tup ds, v, e, q => by
    obtain ⟨a, vs, e1, m, t⟩ := q
    exact ⟨a, vs, e1, m, Reps.chg ds vs e t⟩
  | .lst ds, v, e, q => by
    obtain ⟨a, vs, e1, m, t⟩ := q
    exact ⟨a, vs, e1, m, Reps.chg ds vs e t⟩
  | .frz ds, v, e, q => by
    obtain ⟨a, vs, e1, m, t⟩ := q
    exact ⟨a, vs, e1, m, Reps.chg ds vs e t⟩
theorem Reps.chg : ∀ (ds : List D) (vs : List V), D.noLams ds = true → Reps ⟨K, L, mg⟩ M r ds vs → Reps ⟨K, L', mg⟩ M r ds vs
  | [], _, _, q => q
  | d :: ds, _, e, q => by
    obtain ⟨v, vt, rfl, h1, h2⟩ := q
    have e : (d.noLam && D.noLams ds) = true := e
    rw [Bool.and_eq_true] at e
    exact ⟨v, vt, rfl, Rep.chg d v e.1 h1, Reps.chg ds vt e.2 h2⟩
end
def noLamB (h : Bx) : Bool := h.all D.noLams
theorem BxOk.chg (b : BxOk ⟨K, L, mg⟩ M r h H) (e : noLamB h = true) : BxOk ⟨K, L', mg⟩ M r h H := by
  refine ⟨b.len, b.nd, fun n a ds e1 e2 => ?_⟩
  obtain ⟨m, z, vs, q, t⟩ := b.at_ n a ds e1 e2
  exact ⟨m, z, vs, q, Reps.chg ds vs (List.all_eq_true.mp e ds (List.mem_of_getElem? e2)) t⟩
theorem ExcAt.chg {fs : List (Str × D)} {d : Option Addr} (e : D.noLams (fs.map (·.2)) = true) (q : ExcAt ⟨K, L, mg⟩ M r H fs d) : ExcAt ⟨K, L', mg⟩ M r H fs d := by
  cases fs with
  | nil => exact q
  | cons p ps =>
    obtain ⟨dx, vs, e1, e2, t⟩ := q
    exact ⟨dx, vs, e1, e2, Reps.chg _ vs e t⟩
end
/-- the end of a def that makes lambdas: none of them is handed on -/
def finL (x : RS) : R D := match x.fin with
  | .ok d h => if (d.noLam && noLamB h) = true then .ok d h else .bad
  | .exc c fs h => if (D.noLams (fs.map (·.2)) && noLamB h) = true then .exc c fs h else .bad
  | .bad => .bad
def runFL (n : Nat) (sf : SF) (ds : List D) (h : Bx) : R D := if (D.noLams ds && noLamB h) = true then finL (sf (startD n ds) h) else .bad
/-- a def of the text whose code object is known -/
structure FunC (K : PySem.W.Frag) (x : Str) (st : Stmt) (f : Addr) (fd : FuncData) (ca : Addr) : Prop where
  ex : ∃ (oc : Value) (od : Option Addr) (kV doc pm : Value) (an : Option Addr) (ct : Value) (osl : Array (Option Value)),
    fd = PySem.W.fnOf x x (defArgs st) (defBody st) (defScope st) .none kV doc pm an (.ref ca) ct ∧ K.lookup f = some ⟨oc, od, .func fd, osl⟩ ∧ PySem.W.codeIn K (.ref ca) x = true
  kp : PySem.W.keepIn K (.ref f) = true
theorem funC_mk {K : PySem.W.Frag} {x : Str} {st : Stmt} {f ca : Addr} {oc : Value} {od an : Option Addr} {osl : Array (Option Value)} {kV doc pm ct : Value} (l : K.lookup f = some ⟨oc, od, .func (PySem.W.fnOf x x (defArgs st) (defBody st) (defScope st) .none kV doc pm an (.ref ca) ct), osl⟩)
    (c : PySem.W.codeIn K (.ref ca) x = true) (k : PySem.W.keepIn K (.ref f) = true) : FunC K x st f (PySem.W.fnOf x x (defArgs st) (defBody st) (defScope st) .none kV doc pm an (.ref ca) ct) ca := ⟨⟨oc, od, kV, doc, pm, an, ct, osl, rfl, l, c⟩, k⟩
section
variable {P : Program} {w : World} {K : PySem.W.Frag} {mg : Str → Option Value} {T : List (Addr × Str)} {base : Heap} {x : Str} {st : Stmt} {fa ca : Addr} {fd : FuncData} {N ps : List Str} {k : Nat} {sf : SF} {tab : List LamD}
/-- what is asked of such a def's body -/
def BodyL (P : Program) (w : World) (K : PySem.W.Frag) (mg : Str → Option Value) (T : List (Addr × Str)) (base : Heap) (x : Str) (st : Stmt) (fa ca : Addr) (N : List Str) (k : Nat) (tab : List LamD) (sf : SF) : Prop :=
  ∀ (A : Around) (outer : List PySem.Env) (s : Shared) (H : Hp) (E : XK) (M : Imm) (r : List Addr), Room k (A.deeper (envOfC x (defScope st) s.heap.objs.size fa (.ref ca))) →
    Ess (cxOf (L2.CX P w) P w K mg base N x (defScope st) fa (.ref ca) A outer s H E) ⟨K, mg, T, M, r, H, lamL tab (envOfC x (defScope st) s.heap.objs.size fa (.ref ca))⟩ (fun c d _ H => E c d H) (defBody st) sf
theorem fn_okL (F : FunC K x st fa fd ca) (S : FnScope N ps (defScope st)) (hb : BodyL P w K mg T base x st fa ca N k tab sf) : FnOk P w K mg base (L2.CX P w) (k + 1) fa fd ps (spF K mg T ps.length (runFL N.length sf)) := by
  obtain ⟨oc, od, kV, doc, pm, an, ct, osl, rfl, lk, hcd⟩ := F.ex
  refine fn_of lk hcd S (fun vs H Q E q => by obtain ⟨L, M, r, h, ds, e, _⟩ := q; exact e) fun A outer s H vs Q E hr q => ?_
  obtain ⟨L, M, r, h, ds, e, mok, bx, tb, t, q⟩ := q
  unfold runFL at q
  by_cases z : (D.noLams ds && noLamB h) = true
  · rw [if_pos z] at q
    rw [Bool.and_eq_true] at z
    refine ⟨_, hb A outer s H E M r hr, M, r, h, _, bs_start mok (bx.chg z.2) tb (Reps.chg ds vs z.1 t), ?_⟩
    unfold finL at q
    have st : ∀ {M' r' h' δ' σ' H'}, BS ⟨K, mg, T, M, r, H, lamL tab (envOfC x (defScope st) s.heap.objs.size fa (.ref ca))⟩ M' r' h' δ' σ' H' → Stp M r H M' r' H' := fun b => ⟨b.le, b.pre, b.new, b.keep, b.nf⟩
    cases y : sf (startD N.length ds) h with
    | nx δ h' =>
      rw [y] at q
      simp only [RS.fin_nx] at q
      by_cases n : (D.non.noLam && noLamB h') = true
      · rw [if_pos n] at q
        rw [Bool.and_eq_true] at n
        exact fun M' r' σ' H' _ _ b => q .non M' r' H' (st b) b.mok (b.bx.chg n.2) b.tb rfl
      · rw [if_neg n] at q; exact q.elim
    | rt d h' =>
      rw [y] at q
      simp only [RS.fin_rt] at q
      by_cases n : (d.noLam && noLamB h') = true
      · rw [if_pos n] at q
        rw [Bool.and_eq_true] at n
        exact fun v M' r' δ' σ' H' _ _ b rv => q v M' r' H' (st b) b.mok (b.bx.chg n.2) b.tb (Rep.chg d v n.1 rv)
      · rw [if_neg n] at q; exact q.elim
    | exc c fs δ h' =>
      rw [y] at q
      simp only [RS.fin_exc] at q
      by_cases n : (D.noLams (fs.map (·.2)) && noLamB h') = true
      · rw [if_pos n] at q
        rw [Bool.and_eq_true] at n
        exact fun C dd M' r' σ' H' m _ _ b ea => q C dd M' r' H' m (st b) b.mok (b.bx.chg n.2) b.tb (ExcAt.chg n.1 ea)
      · rw [if_neg n] at q; exact q.elim
    | bk δ h' => rw [y] at q; exact q.elim
    | ct δ h' => rw [y] at q; exact q.elim
    | bad => rw [y] at q; exact q.elim
  · rw [if_neg z] at q
    exact q.elim
/-! ### the law's head -/
/-- the law's promise; cs: the code objects of the defs that make lambdas, and their tables -/
def spLawT (cs : List (Addr × Addr)) (n : Nat) (K : PySem.W.Frag) : Sp := fun vs H Q _ => ∃ (a : Addr) (ns : List Int), vs = [.ref a] ∧ ns.length ≤ n ∧ (∀ z ∈ ns, Builtin.Int.intBits z ≤ 1048576) ∧ (∀ p ∈ cs, H p.2 = some (.tbl #[])) ∧ SqL K H a (ns.map V.int) ∧ ∀ v H', v = .bl true → Q v H'
/-- what the head tells of the script and the tables -/
theorem law_start {cs : List (Addr × Addr)} {n : Nat} {vs : List V} {H : Hp} {Q : VK} {E : XK} (hn : n ≤ 1000000) (hT : ∀ t ∈ T, ∃ p ∈ cs, p.2 = t.1) (q : spLawT cs n K vs H Q E) : ∃ (ns : List Int) (M : Imm), ns.length ≤ n ∧ (∀ z ∈ ns, Builtin.Int.intBits z ≤ 1048576) ∧ MOk M H ∧ LamX.Tabs T H ∧
    (∀ L, Reps ⟨K, L, mg⟩ M [] [.frz (ns.map D.int)] vs) ∧ ∀ v H', v = .bl true → Q v H' := by
  obtain ⟨a, ns, rfl, hl, hbits, ht, sq, q⟩ := q
  have tb : LamX.Tabs T H := fun t htm => by
    obtain ⟨p, hp, e⟩ := hT t htm
    exact LamX.TabS.nil (by rw [← e]; exact ht p hp)
  have one : ∀ (M : Imm) (L : LamP), FLst K M a (ns.map V.int) → Reps ⟨K, L, mg⟩ M [] [.frz (ns.map D.int)] [.ref a] := fun M L f => ⟨.ref a, [], rfl, ⟨a, _, rfl, f, reps_ints ns⟩, rfl⟩
  have len : (ns.map V.int).length ≤ big := by rw [List.length_map]; exact Nat.le_trans hl hn
  have imm : ∀ u : HO, LstU u (ns.map V.int) → H a = some u → ∃ M : Imm, MOk M H ∧ FLst K M a (ns.map V.int) := fun u hu e => by
    refine ⟨fun b => if b = a then some u else none, fun b o z => ?_, .inl ⟨u, if_pos rfl, hu⟩⟩
    simp only at z
    split at z
    · rename_i y
      cases z
      subst y
      refine ⟨?_, e⟩
      rcases hu with rfl | ⟨o, rfl⟩
      · exact len
      · exact len
    · cases z
  have key : ∃ M : Imm, MOk M H ∧ FLst K M a (ns.map V.int) := by
    rcases sq with ⟨sq | ⟨o, sq⟩⟩ | ⟨o, its, m, k1, k2, k3, k4, k5, k6⟩
    · exact imm _ (.inl rfl) sq
    · exact imm _ (.inr ⟨o, rfl⟩) sq
    · refine ⟨fun _ => none, fun b u e => (nomatch e), .inr ⟨o, its, m, k1, k2, k3, k4, ?_, k6⟩⟩
      have := k6.length
      simp only [Array.length_toList, List.length_map] at this
      omega
  obtain ⟨M, m1, m2⟩ := key
  exact ⟨ns, M, hl, hbits, m1, tb, fun L => one M L m2, q⟩
/-- the law, where it makes lambdas -/
theorem law_okL {cs : List (Addr × Addr)} {n : Nat} (hn : n ≤ 1000000) (F : FunC K x st fa fd ca) (S : FnScope N ps (defScope st)) (hp : ps.length = 1) (hT : ∀ t ∈ T, ∃ p ∈ cs, p.2 = t.1) (hb : BodyL P w K mg T base x st fa ca N k tab sf)
    (hF : ∀ ns : List Int, ns.length ≤ n → (∀ z ∈ ns, Builtin.Int.intBits z ≤ 1048576) → ∃ h, runF N.length sf [.frz (ns.map D.int)] [] = .ok (.bl true) h) : FnOk P w K mg base (L2.CX P w) (k + 1) fa fd ps (spLawT cs n K) := by
  obtain ⟨oc, od, kV, doc, pm, an, ct, osl, rfl, lk, hcd⟩ := F.ex
  refine fn_of lk hcd S (fun vs H Q E q => by obtain ⟨a, ns, rfl, _⟩ := q; rw [hp]; rfl) fun A outer s H vs Q E hr q => ?_
  obtain ⟨ns, M, hl, hbits, mok, tb, t, q⟩ := law_start (mg := mg) hn hT q
  obtain ⟨h', e⟩ := hF ns hl hbits
  refine ⟨_, hb A outer s H E M [] hr, M, [], [], _, bs_start (ds := [.frz (ns.map D.int)]) (N := N) mok ⟨rfl, List.nodup_nil, fun n a ds e => by simp at e⟩ tb (t _), ?_⟩
  unfold runF at e
  cases y : sf (startD N.length [.frz (ns.map D.int)]) [] with
  | nx δ h' => rw [y] at e; cases e
  | rt d h' =>
    rw [y] at e
    cases e
    exact fun v M' r' δ' σ' H' _ _ b rv => q v H' rv
  | exc c fs δ h' => rw [y] at e; cases e
  | bk δ h' => rw [y] at e; cases e
  | ct δ h' => rw [y] at e; cases e
  | bad => rw [y] at e; cases e
/-- the law, where it makes none -/
theorem spLawT_of {cs : List (Addr × Addr)} {n : Nat} {F : List D → Bx → R D} (hn : n ≤ 1000000) (hT : ∀ t ∈ T, ∃ p ∈ cs, p.2 = t.1) (hF : ∀ ns : List Int, ns.length ≤ n → (∀ z ∈ ns, Builtin.Int.intBits z ≤ 1048576) → ∃ h, F [.frz (ns.map D.int)] [] = .ok (.bl true) h) :
    ∀ vs H Q E, spLawT cs n K vs H Q E → spF K mg T 1 F vs H Q E := by
  intro vs H Q E q
  obtain ⟨ns, M, hl, hbits, mok, tb, t, q⟩ := law_start (mg := mg) hn hT q
  obtain ⟨h', e⟩ := hF ns hl hbits
  refine ⟨fun _ _ _ _ _ => False, M, [], [], [.frz (ns.map D.int)], ?_, mok, ⟨rfl, List.nodup_nil, fun n a ds e => by simp at e⟩, tb, t _, ?_⟩
  · obtain ⟨v, vt, rfl, _, z⟩ := t fun _ _ _ _ _ => False
    cases z; rfl
  · rw [e]
    exact fun v M' r' H' _ _ _ _ rp => q v H' rp
end
end LP
/-! LpV: parts of a text; what the head tells of exception classes. -/
namespace LP
open PySem PySem.Spec PyProof.Rows L2 HT
open PySem.W (Frag findIn subIn typeIn keepIn nsIn mroIn ks_superIn ksFn codeIn hasDictIn)
/-- the __init__ of a class of the text -/
abbrev clsInit (s : Stmt) : Stmt := match s with
  | .ClassDef _ _ _ b _ _ _ _ _ _ _ => b.getD 0 s
  | s => s
/-! ### one step down in a text -/
abbrev sBl (s : Stmt) : List (List Stmt) := match s with
  | .FunctionDef _ _ b _ _ _ _ _ _ _ => [b]
  | .For _ _ b o _ => [b, o]
  | .While _ b o _ => [b, o]
  | .If _ b o _ => [b, o]
  | .Try b _ o f _ => [b, o, f]
  | _ => []
abbrev sEx (s : Stmt) : List Expr := match s with
  | .Return (some e) _ => [e]
  | .Assign ts e _ => e :: ts
  | .Expr e _ => [e]
  | .If t _ _ _ => [t]
  | .While t _ _ _ => [t]
  | .For t i _ _ _ => [t, i]
  | _ => []
abbrev eEx (e : Expr) : List Expr := match e with
  | .BoolOp _ vs _ => vs
  | .BinOp a _ b _ => [a, b]
  | .UnaryOp _ a _ => [a]
  | .IfExp t a b _ => [t, a, b]
  | .Compare a _ bs _ => a :: bs
  | .Call f as ks _ => (f :: as) ++ ks.map (·.value)
  | .Attribute a _ _ => [a]
  | .Subscript a b _ => [a, b]
  | .List es _ => es
  | .Tuple es _ _ => es
  | .ListComp e gs _ _ => e :: (gs.map (·.iter) ++ (gs.map (·.ifs)).flatten)
  | _ => []
abbrev dE : Expr := .Constant .none 0 ⟨0, 0, 0, 0⟩
abbrev dS : Stmt := .Pass ⟨0, 0, 0, 0⟩
abbrev stAt (s : Stmt) (b i : Nat) : Stmt := ((sBl s).getD b []).getD i dS
abbrev exAt (s : Stmt) (i : Nat) : Expr := (sEx s).getD i dE
abbrev inAt (e : Expr) (i : Nat) : Expr := (eEx e).getD i dE
abbrev lamOf (e : Expr) : LamD := match e with
  | .Lambda a b s _ => ⟨a, b, s⟩
  | e => ⟨⟨[], [], none, [], [], none, []⟩, e, ⟨.function, [], false, false, []⟩⟩
/-! ### exception classes -/
theorem exn_mk {K : Frag} {prog : Program} {mg : Str → Option Value} {c fl text pn : Str} {C fI : Addr} {params : Arguments} {scope : Scope} {p0 p1 p2 p3 p4 p5 p6 p7 p8 p9 : Pos} {j : Nat} {ar : Arg}
    (g : mg c = some (.ref C)) (T : ExC K prog C fI fl params [.Expr (.Call (.Attribute (.Call (.Name "super" p0) [] [] p1) "__init__" p2) [.Constant (.str text) j p3] [] p4) p5, .Assign [.Attribute (.Name "self" p6) fl p7] (.Name pn p8) p9] scope pn)
    (hsu : mg "super" = none) (xf : XfC K C) (hdbc : (c == ("__debug__" : Str)) = false)
    (hks : scope.names.lookup ("super" : Str) = some .globalImplicit) (hkc : scope.names.lookup ("__class__" : Str) = some .free) (hself : scope.names.lookup ("self" : Str) = some .local) (hpn : scope.names.lookup pn = some .local) (hne : pn ≠ ("self" : Str))
    (hcell : ∀ x ∈ scope.names, x.2 ≠ .cell) (hco : scope.isCoroutine = false) (hgen : scope.isGenerator = false) (hk : scope.kind = .function) (hpar : (params.posonlyargs ++ params.args).head? = some ar) (har : ar.arg = "self") (htop : (prog.main.scope.names.lookup ("super" : Str)).isSome = false) (hdbp : (pn == ("__debug__" : Str)) = false)
    {pl : PySem.Env → Sem Bool} (hev : ∀ env : PySem.Env, eval (.Call (.Attribute (.Call (.Name "super" p0) [] [] p1) "__init__" p2) [.Constant (.str text) j p3] [] p4) env = (do
      let ov ← attributeBase (.Call (.Name "super" p0) [] [] p1) "__init__" env (eval (.Call (.Name "super" p0) [] [] p1) env)
      standAt p2.atName
      let (f, first) ← holding [ov] (getMethod ov "__init__" (pl env))
      callWith p4 f first (backTo p4 (starEach [.Constant (.str text) j p3] env)) []))
    (hin : ∀ env : PySem.Env, env.scope = scope → interactive env = false)
    (hsw1 : ∀ env : PySem.Env, swapsWith (.Call (.Attribute (.Call (.Name "super" p0) [] [] p1) "__init__" p2) [.Constant (.str text) j p3] [] p4) none p5.line env = pure false)
    (hsw2 : ∀ env : PySem.Env, swapsWith (.Name pn p8) (some (.Attribute (.Name "self" p6) fl p7)) p9.line env = pure false)
    (hst : ∀ env : PySem.Env, starEach [.Constant (.str text) j p3] env = [(false, eval (.Constant (.str text) j p3) env)]) : Exn K prog mg c fl := by
  refine ⟨⟨C, g, fun {X k e ta p pos} hK hp hm hr hg ha he => ?_⟩, fun C' g' => ?_⟩
  · subst hK hp hm
    exact pmk_E T hsu hr hg g ha hks hkc hself hpn hne hcell hco hgen hk hpar har htop hdbp hev hin hsw1 hsw2 hst hdbc he
  · rw [g] at g'
    cases g'
    exact ⟨xf, T.fl_⟩
end LP
/-! LpW: rows for simp: exceptions, keywords, lambdas. -/
namespace LP
open PySem PySem.Spec PyProof.Rows L2 HT
section
variable {δ : DE} {h : Bx} {f g f3 : EF} {tf tg : DE → Bx → R Bool} {fs : DE → Bx → R (List D)} {sf sg : SF} {i j : Nat} {d e : D} {ds es : List D}
@[simp] theorem raiseS_ap {c fl : Str} : raiseS c fl f δ h = (f δ h).toS δ fun d h1 => if isV d = true then .exc c [(fl, d)] δ h1 else .bad := pr rfl
theorem tryS_ap {tab : List (Str × Str)} {base : Str} {hs : List (Str × (List (Str × D) → SF))} : tryS tab base sf hs δ h = (match sf δ h with
  | .exc c fs δ' h' => catchS tab base hs c fs δ' h'
  | x => x) := rfl
@[simp] theorem noX_nx : noX (.nx δ h) = .nx δ h := pr rfl
@[simp] theorem noX_rt : noX (.rt d h) = .rt d h := pr rfl
@[simp] theorem dropE_rt : dropE i (.rt d h) = .rt d h := pr rfl
@[simp] theorem dropE_nx : dropE i (.nx δ h) = .nx (δ.set i .no) h := pr rfl
@[simp] theorem xtF_ap {fl : Str} {kd : D} {xs : List (Str × D)} : xtF fl kd xs δ h = (match xs.lookup fl with
  | some d => if isV d = true then .ok (.tup [kd, d]) h else .bad
  | none => .bad) := pr rfl
@[simp] theorem callKwF_ap {n : Nat} {ix : List Nat} {F : List D → Bx → R D} : callKwF n ix F fs δ h = (fs δ h).bind fun ds h1 => if (decide (ds.length = n) && ds.all isV) = true then F (pickL ix ds) h1 else .bad := pr rfl
@[simp] theorem pickL_nil {α : Type} {l : List α} : pickL [] l = [] := pr rfl
@[simp] theorem pickL_cons {α : Type} {n : Nat} {ix : List Nat} {l : List α} : pickL (n :: ix) l = (match l[n]? with | some a => a :: pickL ix l | none => pickL ix l) := by
  unfold pickL
  rw [List.filterMap_cons]
  cases l[n]? <;> rfl
@[simp] theorem actF_ap {Λ : Nat → Bx → R D} : actF Λ i δ h = (match δ[i]? with
  | some (.v (.lam k)) => (Λ k h).bind fun d h1 => if isV d = true then .ok d h1 else .bad
  | _ => .bad) := pr rfl
@[simp] theorem isV_lam {n : Nat} : isV (.lam n) = true := pr rfl
@[simp] theorem isV_fn {x : Str} : isV (.fn x) = true := pr rfl
@[simp] theorem pubS_own : pubS (.own ds) = .no := pr rfl
@[simp] theorem pubS_v : pubS (.v d) = .v d := pr rfl
@[simp] theorem pubS_no : pubS .no = .no := pr rfl
@[simp] theorem pubD_nil : pubD [] = [] := pr rfl
@[simp] theorem pubD_cons {s : SV} : pubD (s :: δ) = pubS s :: pubD δ := pr rfl
@[simp] theorem retK_lam {n : Nat} : retK δ (.lam n) h = .rt (.lam n) h := pr rfl
@[simp] theorem R.bind_exc' {α β : Type} {c : Str} {xs : List (Str × D)} {k : α → Bx → R β} : (R.exc c xs h : R α).bind k = .exc c xs h := pr rfl
theorem seq_nx {δ' : DE} {h' : Bx} (e : sf δ h = .nx δ' h') : seqS sf sg δ h = sg δ' h' := by rw [seqS_ap, e]
end
end LP
/-! LpX: comprehensions of two clauses over plain data. -/
namespace LP
open PySem PySem.Spec PyProof.Rows L2
section
variable {X : Cx} {G : Cfg} {W : WX} {σ : L2.St} {δ : DE} {M M' M1 M2 : Imm} {r r' r1 r2 : List Addr} {h h' h1 h2 : Bx} {H H' H1 H2 : Hp} {E : Ends}
variable {e c : Expr} {f g : EF} {tg : Expr} {fs : DE → Bx → R (List D)} {pos : Pos}
/-- a walk, whatever one turn is -/
theorem it_of {J : It} {n : Nat} {Gd : Hp → Prop} {Y : Nat → Hp → V → Hp → Prop} (w : Walk J n Gd Y) {B : (Hp → Prop) → V → Hp → Prop} {Hs : Hp} {Qd : Hp → Prop} (Pv : Nat → Hp → Prop) (h0 : Pv 0 Hs) (hG : ∀ i H, i ≤ n → Pv i H → Gd H)
    (hs : ∀ i x H H', i < n → Pv i H → Y i H x H' → B (Pv (i + 1)) x H') (hd : ∀ H, Pv n H → Qd H) :
    ∃ W : Nat → Nat → Hp → Prop, (∃ m, W 0 m Hs) ∧ ∀ i m H, W i m H → (J.stop i H ∧ Qd H) ∨ (J.go i H ∧ ∃ Nx : Hp → Prop, (∀ H', Nx H' → ∃ m', m' < m ∧ W (i + 1) m' H') ∧ ∀ x H', J.yld i H x H' → B Nx x H') := by
  refine ⟨fun i m H => m = n - i ∧ i ≤ n ∧ Pv i H, ⟨n, by simp, Nat.zero_le _, h0⟩, ?_⟩
  rintro i m H ⟨rfl, hi, p⟩
  have q := hG i H hi p
  by_cases hlt : i < n
  · exact .inr ⟨w.goes i H hlt q, Pv (i + 1), fun H' p' => ⟨n - (i + 1), by omega, rfl, hlt, p'⟩, fun x H' y => hs i x H H' hlt p (w.yields i H x H' hlt q y)⟩
  · have e : i = n := by omega
    subst e
    exact .inl ⟨w.stops H q, hd H p⟩
/-- targets make no own list -/
def UOk (ts : List Nat) (u : D → DE → Option DE) : Prop := ∀ (d : D) (δ δ' : DE), u d δ = some δ' → ∀ (i : Nat) (ds : List D), δ'[i]? = some (.own ds) → δ[i]? = some (.own ds) ∧ i ∉ ts
def UsOk (ts : List Nat) (us : List D → DE → Option DE) : Prop := ∀ (d : List D) (δ δ' : DE), us d δ = some δ' → ∀ (i : Nat) (ds : List D), δ'[i]? = some (.own ds) → δ[i]? = some (.own ds) ∧ i ∉ ts
theorem uo_name {i : Nat} : UOk [i] (nameU i) := fun d δ δ' e j ds z => by
  cases (Option.some.inj e : δ.set i (.v d) = δ')
  by_cases hj : i = j
  · subst hj
    by_cases hi : i < δ.length
    · rw [List.getElem?_set_self hi] at z; cases z
    · rw [List.getElem?_eq_none (by rw [List.length_set]; omega)] at z; cases z
  · rw [List.getElem?_set_ne hj] at z
    exact ⟨z, fun y => hj (List.mem_singleton.mp y).symm⟩
theorem uo_nil : UsOk [] nilU := fun d δ δ' e j ds z => by
  cases d with
  | nil => cases (Option.some.inj e : δ = δ'); exact ⟨z, by simp⟩
  | cons a l => cases e
theorem uo_cons {ts ts' : List Nat} {u : D → DE → Option DE} {us : List D → DE → Option DE} (a : UOk ts u) (b : UsOk ts' us) : UsOk (ts ++ ts') (consU u us) := fun d δ δ' e j ds z => by
  cases d with
  | nil => cases e
  | cons x l =>
    have e : (u x δ).bind (fun δ' => us l δ') = some δ' := e
    cases y : u x δ with
    | none => rw [y] at e; cases e
    | some δ1 =>
      rw [y] at e
      obtain ⟨z1, n1⟩ := b l δ1 δ' e j ds z
      obtain ⟨z2, n2⟩ := a x δ δ1 y j ds z1
      exact ⟨z2, fun w => (List.mem_append.mp w).elim n2 n1⟩
theorem uo_tup {n : Nat} {ts : List Nat} {us : List D → DE → Option DE} (a : UsOk ts us) : UOk ts (tupU n us) := fun d δ δ' e j ds z => by
  cases d with
  | tup l =>
    have e : (if l.length = n then us l δ else none) = some δ' := e
    split at e
    · exact a l δ δ' e j ds z
    · cases e
  | _ => cases e
/-- [ef for u in .. if tf for u1 in gi1 if tf1] -/
def comp2F (u : D → DE → Option DE) (tf : DE → Bx → R Bool) (gi1 : DE → Bx → R (List D)) (vs1 : List Nat) (u1 : D → DE → Option DE) (tf1 : DE → Bx → R Bool) (ef : EF) (δ : DE) : List D → Nat → Bx → R (List D)
  | [], _, h => .ok [] h
  | d :: ds, n, h => match u d δ with
    | none => .bad
    | some δ1 => (quiet (tf δ1 h)).bind fun b h1 => if b = true then (quiet (gi1 δ1 h1)).bind fun es h2 => if n + es.length ≤ big then (compF u1 tf1 ef (wipeD δ1 vs1) es h2).bind fun ys h3 => (comp2F u tf gi1 vs1 u1 tf1 ef δ ds (n + ys.length) h3).bind fun zs h4 => .ok (ys ++ zs) h4 else .bad
      else comp2F u tf gi1 vs1 u1 tf1 ef δ ds n h1
def lc2N (gi : DE → Bx → R (List D)) (vs : List Nat) (u : D → DE → Option DE) (tf : DE → Bx → R Bool) (gi1 : DE → Bx → R (List D)) (vs1 : List Nat) (u1 : D → DE → Option DE) (tf1 : DE → Bx → R Bool) (ef : EF) : DE → Bx → R (List D) :=
  fun δ h => (gi δ h).bind fun ds h1 => quiet (comp2F u tf gi1 vs1 u1 tf1 ef (wipeD δ vs) ds 0 h1)
theorem wipe_ext1 {σ σ' : L2.St} {vs : List Nat} (hl : σ'.length = σ.length) (hk : ∀ i, i ∉ vs → σ'[i]? = σ[i]?) : L2.wipe σ' vs = L2.wipe σ vs := wipe_ext hl hk
theorem wipeD_own {δ : DE} : ∀ {vs : List Nat} {i : Nat} {ds : List D}, (wipeD δ vs)[i]? = some (.own ds) → δ[i]? = some (.own ds)
  | [], _, _, e => e
  | v :: vs, i, ds, e => by
    have e : ((wipeD δ vs).set v .no)[i]? = some (.own ds) := e
    by_cases hv : v = i
    · subst hv
      by_cases hi : v < (wipeD δ vs).length
      · rw [List.getElem?_set_self hi] at e; cases e
      · rw [List.getElem?_eq_none (by rw [List.length_set]; omega)] at e; cases e
    · rw [List.getElem?_set_ne hv] at e
      exact wipeD_own e
theorem lc2_of {gi gi1 : DE → Bx → R (List D)} {ts vs ts1 vs1 : List Nat} {u u1 : D → DE → Option DE} {tf tf1 : DE → Bx → R Bool} {ef : EF} (hts : ∀ i ∈ ts, i ∈ vs) (hts1 : ∀ i ∈ ts1, i ∈ vs1) (hu : UOk ts u) {Q : VK} (q : tN G W (lc2N gi vs u tf gi1 vs1 u1 tf1 ef) σ H Q) :
    tLc2 (tI G W gi) (tGt G ts u) (tG G W0 rB tf) (tI G W0 gi1) (tGt G ts1 u1) (tG G W0 rB tf1) (tG G W0 (rV G.J) ef) vs vs1 σ H Q := by
  obtain ⟨M, r, h, δ, b, q⟩ := q
  refine ⟨M, r, h, δ, b, ?_⟩
  unfold lc2N at q
  cases z : gi δ h with
  | bad => rw [z] at q; exact q.elim
  | exc c fs h1 => rw [z] at q; exact q
  | ok ds h1 =>
    rw [z] at q
    simp only [R.bind_ok] at q
    intro J M' r' H' st b' gd Dd hD
    obtain ⟨Gd, Y, w, gd, yd⟩ := gd
    have f0 : Free G.H0 Dd := b'.free0 hD
    have no : NoOwn (wipeD δ vs) (L2.wipe σ vs) Dd := (b'.wipe vs).noOwn hD
    have noσ : NoOwn δ σ Dd := b'.noOwn hD
    let Pv : Nat → Hp → Prop := fun i H1 => ∃ M1 r1 h2 acc va, Stp M' r' H' M1 r1 H1 ∧ BS G M1 r1 h2 (wipeD δ vs) (L2.wipe σ vs) H1 ∧ H1 Dd = some (.lst va) ∧ M1 Dd = none ∧ Dd ∉ r1 ∧ Reps G.J M1 r1 acc va ∧ acc.length ≤ big ∧
      LcEnd (comp2F u tf gi1 vs1 u1 tf1 ef (wipeD δ vs) (ds.drop i) acc.length h2) fun ys h3 => AfterN G W σ δ M r H (.ok (acc ++ ys) h3) Q
    have hst : Stp M' r' H' M' r' (upd H' Dd (.lst [])) := ⟨Le.refl, List.prefix_rfl, fun a z => .inl z, fun a o e _ _ => upd_new hD e, fun a m _ _ => m⟩
    refine it_of w Pv ⟨M', r', h1, [], [], hst, (b'.wipe vs).new_list hD, upd_same, b'.fresh_M hD, b'.fresh_r hD, rfl, Nat.zero_le _, ?_⟩
      (fun i H1 _ ⟨M1, r1, h2, acc, va, s1, b1, _⟩ => gd M1 r1 h2 _ _ H1 s1.le s1.pre b1) (fun i x H1 H2 hi ⟨M1, r1, h2, acc, va, s1, b1, e1, m1, n1, t1, l1, q1⟩ y => ?_) (fun H1 ⟨M1, r1, h2, acc, va, s1, b1, e1, m1, n1, t1, l1, q1⟩ => ?_)
    · rw [List.drop_zero]
      show LcEnd (comp2F u tf gi1 vs1 u1 tf1 ef (wipeD δ vs) ds 0 h1) _
      cases y : comp2F u tf gi1 vs1 u1 tf1 ef (wipeD δ vs) ds 0 h1 with
      | ok ys h3 => rw [y] at q; exact q
      | exc c fs h3 => rw [y] at q; exact q.elim
      | bad => rw [y] at q; exact q
    · -- one turn
      obtain ⟨M2, d, b2, s2, e2, rp⟩ := yd i x H1 H2 M1 r1 h2 _ _ hi s1.le s1.pre b1 y
      rw [List.drop_eq_getElem_cons hi] at q1
      rw [List.getElem?_eq_getElem hi] at e2
      rw [Option.some.inj e2] at q1
      unfold comp2F at q1
      cases z1 : u d (wipeD δ vs) with
      | none => rw [z1] at q1; exact q1.elim
      | some δ2 =>
        rw [z1] at q1
        simp only at q1
        have mD : ∀ {Ma ra Ha Mb rb Hb va}, Stp Ma ra Ha Mb rb Hb → Ha Dd = some (.lst va) → Ma Dd = none → Dd ∉ ra → Hb Dd = some (.lst va) ∧ Mb Dd = none ∧ Dd ∉ rb := fun {Ma ra Ha Mb rb Hb va} s e m n =>
          have nf : IsL Ha Dd := ⟨va, e⟩
          ⟨s.keep _ _ e (fun ps z => by cases z) n, s.nf _ m nf n, fun z => (s.new _ z).elim n nf.nf⟩
        obtain ⟨e3, m3, n3⟩ := mD s2 e1 m1 n1
        refine ⟨M2, r1, h2, _, d, δ2, b2, rp, z1, fun σ2 b3 l3 k3 => ⟨?_, M2, r1, h2, δ2, b3, ?_⟩⟩
        · rw [← wipe_wipe σ vs]
          exact wipe_ext l3 fun j hj => k3 j fun z => hj (hts j z)
        · have no2 : NoOwn δ2 σ2 Dd := fun j ds' e y => by
            obtain ⟨z2, z3⟩ := hu d _ _ z1 j ds' e
            rw [k3 j z3] at y
            exact no j ds' z2 y
          have no2w : NoOwn (wipeD δ2 vs1) (L2.wipe σ2 vs1) Dd := fun j ds' e y => no2 j ds' (wipeD_own e) (wipe_some y).1
          -- the test
          cases y1 : tf δ2 h2 with
          | exc c fs h3 => rw [y1] at q1; exact q1.elim
          | bad => rw [y1] at q1; exact q1.elim
          | ok bb h3 =>
            rw [y1] at q1
            simp only [quiet, R.bind_ok] at q1
            intro bv M4 r4 H4 s4 b4 ev
            cases ev
            obtain ⟨e5, m5, n5⟩ := mD s4 e3 m3 n3
            have b4w : BS G M4 r4 h3 (wipeD δ vs) (L2.wipe σ vs) H4 := b2.step s4 b4
            have s04 := s1.trans (s2.trans s4)
            cases bb with
            | false =>
              simp only [Bool.false_eq_true, if_false] at q1 ⊢
              exact ⟨M4, r4, h3, acc, va, s04, b4w, e5, m5, n5, Reps.mono (s2.trans s4).le (s2.trans s4).pre _ _ t1, l1, q1⟩
            | true =>
              simp only [if_true] at q1 ⊢
              refine ⟨M4, r4, h3, δ2, b4, ?_⟩
              cases y2 : gi1 δ2 h3 with
              | exc c fs h5 => rw [y2] at q1; exact q1.elim
              | bad => rw [y2] at q1; exact q1.elim
              | ok es h5 =>
                rw [y2] at q1
                simp only [quiet, R.bind_ok] at q1
                by_cases hz : acc.length + es.length ≤ big
                · rw [if_pos hz] at q1
                  intro J1 M5 r5 H5 s5 b5 gd1
                  obtain ⟨Gd1, Y1, w1, gd1, yd1⟩ := gd1
                  obtain ⟨e6, m6, n6⟩ := mD s5 e5 m5 n5
                  have s05 := s04.trans s5
                  have t5 : Reps G.J M5 r5 acc va := Reps.mono (s2.trans (s4.trans s5)).le (s2.trans (s4.trans s5)).pre _ _ t1
                  let Pv1 : Nat → Hp → Prop := fun j Hx => ∃ M6 r6 h6 acc' va', Stp M' r' H' M6 r6 Hx ∧ Le M5 M6 ∧ r5 <+: r6 ∧ BS G M6 r6 h6 (wipeD δ2 vs1) (L2.wipe σ2 vs1) Hx ∧ Hx Dd = some (.lst va') ∧ M6 Dd = none ∧ Dd ∉ r6 ∧ Reps G.J M6 r6 acc' va' ∧ acc'.length ≤ acc.length + j ∧
                    LcEnd (compF u1 tf1 ef (wipeD δ2 vs1) (es.drop j) h6) fun ys h7 => LcEnd (comp2F u tf gi1 vs1 u1 tf1 ef (wipeD δ vs) (ds.drop (i + 1)) (acc'.length + ys.length) h7) fun zs h8 => AfterN G W σ δ M r H (.ok (acc' ++ ys ++ zs) h8) Q
                  refine it_of w1 Pv1 ⟨M5, r5, h5, acc, va, s05, Le.refl, List.prefix_rfl, b5.wipe vs1, e6, m6, n6, t5, Nat.le_refl _, ?_⟩
                    (fun j Hx _ ⟨M6, r6, h6, acc', va', _, le6, pre6, b6, e7, _⟩ => gd1 M6 r6 h6 _ _ Hx le6 pre6 b6) (fun j x' Hx Hy hj ⟨M6, r6, h6, acc', va', s6, le6, pre6, b6, e7, m7, n7, t6, l6, q6⟩ y' => ?_) (fun Hx ⟨M6, r6, h6, acc', va', s6, le6, pre6, b6, e7, m7, n7, t6, l6, q6⟩ => ?_)
                  · rw [List.drop_zero]
                    cases y3 : compF u1 tf1 ef (wipeD δ2 vs1) es h5 with
                    | exc c fs h7 => rw [y3] at q1; exact q1.elim
                    | bad => rw [y3] at q1; exact q1.elim
                    | ok ys h7 =>
                      rw [y3] at q1
                      simp only [R.bind_ok] at q1
                      show LcEnd (comp2F u tf gi1 vs1 u1 tf1 ef (wipeD δ vs) (ds.drop (i + 1)) (acc.length + ys.length) h7) _
                      cases y4 : comp2F u tf gi1 vs1 u1 tf1 ef (wipeD δ vs) (ds.drop (i + 1)) (acc.length + ys.length) h7 with
                      | exc c fs h8 => rw [y4] at q1; exact q1.elim
                      | bad => rw [y4] at q1; exact q1.elim
                      | ok zs h8 =>
                        rw [y4] at q1
                        show AfterN G W σ δ M r H (.ok (acc ++ ys ++ zs) h8) Q
                        rw [List.append_assoc]
                        exact q1
                  · -- one inner turn
                    obtain ⟨M7, d', b7, s8, e8, rp7⟩ := yd1 j x' Hx Hy M6 r6 h6 _ _ hj le6 pre6 b6 y'
                    rw [List.drop_eq_getElem_cons hj] at q6
                    rw [List.getElem?_eq_getElem hj] at e8
                    rw [Option.some.inj e8] at q6
                    unfold compF at q6
                    cases z2 : u1 d' (wipeD δ2 vs1) with
                    | none => rw [z2] at q6; exact q6.elim
                    | some δ3 =>
                      rw [z2] at q6
                      simp only at q6
                      obtain ⟨e9, m9, n9⟩ := mD s8 e7 m7 n7
                      refine ⟨M7, r6, h6, _, d', δ3, b7, rp7, z2, fun σ3 b8 l8 k8 => ⟨?_, M7, r6, h6, δ3, b8, ?_⟩⟩
                      · rw [← wipe_wipe σ2 vs1]
                        exact wipe_ext l8 fun j hj => k8 j fun z => hj (hts1 j z)
                      · cases y3 : tf1 δ3 h6 with
                        | exc c fs h7 => rw [y3] at q6; exact q6.elim
                        | bad => rw [y3] at q6; exact q6.elim
                        | ok bb h7 =>
                          rw [y3] at q6
                          simp only [quiet, R.bind_ok] at q6
                          intro bv M8 r8 H8 s9 b9 ev
                          cases ev
                          obtain ⟨eA, mA, nA⟩ := mD s9 e9 m9 n9
                          have b9w : BS G M8 r8 h7 (wipeD δ2 vs1) (L2.wipe σ2 vs1) H8 := b7.step s9 b9
                          cases bb with
                          | false =>
                            simp only [Bool.false_eq_true, if_false] at q6 ⊢
                            exact ⟨M8, r8, h7, acc', va', s6.trans (s8.trans s9), le6.trans (s8.trans s9).le, pre6.trans (s8.trans s9).pre, b9w, eA, mA, nA, Reps.mono (s8.trans s9).le (s8.trans s9).pre _ _ t6, by omega, q6⟩
                          | true =>
                            simp only [if_true] at q6 ⊢
                            refine ⟨M8, r8, h7, δ3, b9, ?_⟩
                            cases y5 : ef δ3 h7 with
                            | exc c fs h8 => rw [y5] at q6; exact q6.elim
                            | bad => rw [y5] at q6; exact q6.elim
                            | ok yd' h8 =>
                              rw [y5] at q6
                              simp only [R.bind_ok] at q6
                              by_cases hv : isV yd' = true
                              · rw [if_pos hv] at q6
                                intro yv M9 r9 H9 sA bA rv
                                obtain ⟨eB, mB, nB⟩ := mD sA eA mA nA
                                have bAw : BS G M9 r9 h8 (wipeD δ2 vs1) (L2.wipe σ2 vs1) H9 := b9w.step sA bA
                                have st6 := s8.trans (s9.trans sA)
                                have rv' : Rep G.J M9 r9 yd' yv := by
                                  cases yd' with
                                  | loc i => cases hv
                                  | _ => exact rv
                                have la : va'.length = acc'.length := t6.length
                                refine ⟨va', eB, by rw [la]; exact big_lt (by omega), M9, r9, h8, acc' ++ [yd'], va' ++ [yv], ?_, le6.trans st6.le, pre6.trans st6.pre, bAw.wrote mB nB f0 no2w eB, upd_same, mB, nB, (Reps.mono st6.le st6.pre _ _ t6).append (Reps.one rv'), by rw [List.length_append]; simp; omega, ?_⟩
                                · have s0 := s6.trans st6
                                  refine ⟨s0.le, s0.pre, s0.new, fun a o e t n => ?_, s0.nf⟩
                                  rw [upd_ne (ne_of_none e hD)]
                                  exact s0.keep a o e t n
                                · cases y6 : compF u1 tf1 ef (wipeD δ2 vs1) (es.drop (j + 1)) h8 with
                                  | exc c fs h9 => rw [y6] at q6; exact q6.elim
                                  | bad => rw [y6] at q6; exact q6.elim
                                  | ok ys h9 =>
                                    rw [y6] at q6
                                    simp only [R.bind_ok] at q6
                                    have q6 : LcEnd (comp2F u tf gi1 vs1 u1 tf1 ef (wipeD δ vs) (ds.drop (i + 1)) (acc'.length + (yd' :: ys).length) h9) fun zs h8 => AfterN G W σ δ M r H (.ok (acc' ++ (yd' :: ys) ++ zs) h8) Q := q6
                                    show LcEnd (comp2F u tf gi1 vs1 u1 tf1 ef (wipeD δ vs) (ds.drop (i + 1)) ((acc' ++ [yd']).length + ys.length) h9) fun zs h8 => AfterN G W σ δ M r H (.ok ((acc' ++ [yd']) ++ ys ++ zs) h8) Q
                                    have x1 : (acc' ++ [yd']).length + ys.length = acc'.length + (yd' :: ys).length := by simp; omega
                                    have x2 : (acc' ++ [yd']) ++ ys = acc' ++ (yd' :: ys) := by simp
                                    rw [x1, x2]
                                    exact q6
                              · rw [if_neg hv] at q6
                                exact q6.elim
                  · -- the inner end
                    rw [List.drop_length] at q6
                    have q6 : LcEnd (comp2F u tf gi1 vs1 u1 tf1 ef (wipeD δ vs) (ds.drop (i + 1)) (acc'.length + 0) h6) fun zs h8 => AfterN G W σ δ M r H (.ok (acc' ++ [] ++ zs) h8) Q := q6
                    rw [List.append_nil, Nat.add_zero] at q6
                    exact ⟨M6, r6, h6, acc', va', s6, (b'.wipe vs).step s6 b6, e7, m7, n7, t6, by omega, q6⟩
                · rw [if_neg hz] at q1; exact q1.elim
    · -- behind all
      rw [List.drop_length] at q1
      have q1 : AfterN G W σ δ M r H (.ok (acc ++ []) h2) Q := q1
      rw [List.append_nil] at q1
      have s2 := st.trans s1
      have b2 := (b'.step s1 b1).erase m1 n1 f0 noσ e1
      have z := q1 va M1 r1 _ Dd ⟨s2.le, s2.pre, s2.new, fun a o e t n => ?_, s2.nf⟩ b2 t1 l1 (if_pos rfl)
      · have : upd (fun c => if c = Dd then none else H1 c) Dd (.lst va) = H1 := by
          funext c
          unfold upd
          by_cases hc : c = Dd
          · subst hc; rw [if_pos rfl, e1]
          · rw [if_neg hc]; exact if_neg hc
        rw [this] at z
        exact z
      · have ne : a ≠ Dd := fun y => by
          subst y
          have := st.keep a o e t n
          rw [hD] at this; cases this
        show (if a = Dd then none else H1 a) = _
        rw [if_neg ne]
        exact s2.keep a o e t n
theorem evn_lc2 {elt iter tg1 iter1 : Expr} {ifs ifs1 : List Expr} {scope : Scope} {own : List (Str × Nat)} {gi gi1 : DE → Bx → R (List D)} {ts ts1 vs1 : List Nat} {u u1 : D → DE → Option DE} {tf tf1 : DE → Bx → R Bool} {ef : EF} (hc : X.calm = true) (hN : X.N.Nodup)
    (hi : EvI X G W tg iter gi) (ok : BlkOk X.N X.env.scope scope own) (hts : ∀ i ∈ ts, i ∈ own.map (·.2)) (hts1 : ∀ i ∈ ts1, i ∈ vs1) (hv : ∀ i ∈ vs1, i ∈ own.map (·.2)) (hu : UOk ts u)
    (hg : ∀ (s : Shared) (H : Hp) (C : Addr) (cl : List (Str × Addr)) (fp : List Addr), EvG (X.blk s H scope (compEnvC scope cl C X.env) fp) G tg ts u) (ht : ∀ (s : Shared) (H : Hp) (C : Addr) (cl : List (Str × Addr)) (fp : List Addr), EvTs (X.blk s H scope (compEnvC scope cl C X.env) fp) G W0 ifs tf)
    (hi1 : ∀ (s : Shared) (H : Hp) (C : Addr) (cl : List (Str × Addr)) (fp : List Addr), EvI (X.blk s H scope (compEnvC scope cl C X.env) fp) G W0 tg1 iter1 gi1)
    (hg1 : ∀ (s : Shared) (H : Hp) (C : Addr) (cl : List (Str × Addr)) (fp : List Addr), EvG (X.blk s H scope (compEnvC scope cl C X.env) fp) G tg1 ts1 u1) (ht1 : ∀ (s : Shared) (H : Hp) (C : Addr) (cl : List (Str × Addr)) (fp : List Addr), EvTs (X.blk s H scope (compEnvC scope cl C X.env) fp) G W0 ifs1 tf1)
    (he : ∀ (s : Shared) (H : Hp) (C : Addr) (cl : List (Str × Addr)) (fp : List Addr), Ev (X.blk s H scope (compEnvC scope cl C X.env) fp) G W0 elt ef) (hs : ∀ x, foldedSetIterable iter X.env x = pure x := by intro _; rfl) (hs1 : ∀ env x, foldedSetIterable iter1 env x = pure x := by intro _ _; rfl) :
    EvN X G W (.ListComp elt [⟨tg, iter, ifs, 0⟩, ⟨tg1, iter1, ifs1, 0⟩] scope pos) (lc2N gi (own.map (·.2)) u tf gi1 vs1 u1 tf1 ef) := PE.imp (pe_lc2 hc hN hi ok hv hg ht hi1 hg1 ht1 he hs hs1) fun σ H Q q => lc2_of hts hts1 hu q
end
@[simp] theorem lc2N_ap {gi : DE → Bx → R (List D)} {vs : List Nat} {u : D → DE → Option DE} {tf : DE → Bx → R Bool} {gi1 : DE → Bx → R (List D)} {vs1 : List Nat} {u1 : D → DE → Option DE} {tf1 : DE → Bx → R Bool} {ef : EF} {δ : DE} {h : Bx} :
    lc2N gi vs u tf gi1 vs1 u1 tf1 ef δ h = (gi δ h).bind fun ds h1 => quiet (comp2F u tf gi1 vs1 u1 tf1 ef (wipeD δ vs) ds 0 h1) := pr rfl
end LP
/-! LpY: l.index(x). -/
namespace LP
open PySem PySem.Spec PyProof.Rows L2
def rIdxP (K : PySem.W.Frag) : V → List V → Hp → VK → Prop := fun x xs H Q => ∃ (a : Addr) (y : V) (d : D) (ds : List D) (j : Nat), x = V.ref a ∧ xs = [y] ∧ Dp K H (V.ref a) (.list (D.pys ds)) ∧ Dp K H y d.py ∧
  min (D.deps ds) d.dep ≤ 60 ∧ ds.findIdx? (fun z => D.eq z d) = some j ∧ Q (.int (j : Nat)) H
theorem pys_get : ∀ {ds : List D} {j : Nat}, (D.pys ds)[j]? = (ds[j]?).map D.py
  | [], j => by simp [D.pys]
  | d :: ds, 0 => rfl
  | d :: ds, j + 1 => by
    show (D.pys ds)[j]? = (ds[j]?).map D.py
    exact pys_get
theorem pys_len : ∀ {ds : List D}, (D.pys ds).length = ds.length
  | [] => rfl
  | d :: ds => by show (D.pys ds).length + 1 = ds.length + 1; rw [pys_len]
section
variable {X : Cx}
theorem mt_indexP (hu : X.A.units + 64 < cLine) : MtR X "list.index" (rIdxP X.K) := by
  intro pins s σ H x xs v us Q I rx rxs h
  obtain ⟨a, y, d, ds, j, rfl, rfl, hl, hy, hz, hf, q⟩ := h
  cases rx
  cases rxs with
  | cons ry rt =>
    rename_i uy ut
    cases rt
    obtain ⟨bs, r1⟩ := Dp.reads I _ y uy hy ry
    have hroom : X.A.units + 1 + min (PyData.depthAll (D.pys ds)) d.py.depth < cLine := by rw [depth_py, depth_pys]; omega
    obtain ⟨hjd, hej, hno⟩ := List.findIdx?_eq_some_iff_getElem.mp hf
    cases hl with
    | lst hs ha =>
      obtain ⟨its, rv, ⟨⟨cls, dd, data, sls⟩, n, ho, hc, hdn, hdt⟩, hlen⟩ := I.list hs
      simp only at hc hdt
      subst hc hdt
      obtain ⟨as, h4⟩ := Dp.readsAll I (D.pys ds) _ its ha rv
      have hn : its.length = (D.pys ds).length := SeqAt.ReadsAll.length (D.pys ds) its as h4
      have hmap : its.map (SeqAt.readOf s.heap) = D.pys ds := SeqAt.readsAll_map_plain (D.pys ds) its as (plain_pys ds) h4
      have hvl := rv.length
      have hsl := sizeLine_eq
      rw [pys_len] at hn
      have hjl : j < its.length := by omega
      have hj : j < its.toArray.size := by simpa using hjl
      have at_ : ∀ (m : Nat) (hm : m < its.toArray.size) (hm' : m < ds.length), SeqAt.readOf s.heap its.toArray[m] = (ds[m]).py := by
        intro m hm hm'
        have hml : m < its.length := by simpa using hm
        have e0 : (its.map (SeqAt.readOf s.heap))[m]? = (D.pys ds)[m]? := by rw [hmap]
        rw [List.getElem?_map, List.getElem?_eq_getElem hml, pys_get, List.getElem?_eq_getElem hm'] at e0
        have e1 : SeqAt.readOf s.heap its[m] = (ds[m]).py := Option.some.inj e0
        simpa using e1
      refine call_meets PySem.F.slot_list_index ⟨_, ho, rfl⟩ PySem.F.entry_list_index (PySem.F.args_list_index_2 _ _)
        (SeqAt.list_indexAt a its.toArray n dd sls uy (fun u => PyData.eqv (SeqAt.readOf s.heap u) d.py) j hj (by omega) ?_ ?_) ⟨ho, SeqAt.items_plain (vs := its.toArray) (show ReadsAll s.heap its.toArray.toList (D.pys ds) as from h4) r1 (plain_pys ds) (plain_py d) hroom, ?_⟩
      · show PyData.eqv (SeqAt.readOf s.heap its.toArray[j]) d.py = true
        rw [at_ j hj hjd]
        exact hej
      · intro m hm hmj
        have hmd : m < ds.length := by omega
        show PyData.eqv (SeqAt.readOf s.heap its.toArray[m]) d.py = false
        rw [at_ m hm hmd]
        have := hno m hmj
        exact (by simpa using this : D.eq ds[m] d = false)
      · exact ⟨.int (j : Nat), H, I.tok _, ⟨_, rfl⟩, q⟩
end
section
variable {X : Cx} {G : Cfg} {W : WX} {σ : L2.St} {δ : DE} {M M' M1 M2 : Imm} {r r' r1 r2 : List Addr} {h h' h1 h2 : Bx} {H H' H1 H2 : Hp} {E : Ends}
variable {e o : Expr} {f g : EF} {apos cpos : Pos}
def idxK (a b : D) (δ : DE) (h : Bx) : R D := match lstOf δ h a with
  | some ds => if ((vw δ h b).pure && D.pures ds && decide (min (D.deps ds) (vw δ h b).dep ≤ 60)) = true then
      match ds.findIdx? (fun z => D.eq z (vw δ h b)) with
      | some j => .ok (.int (j : Nat)) h
      | none => .bad
    else .bad
  | none => .bad
/-- f.index(g) -/
def idxF (f g : EF) : EF := fun δ h => (f δ h).bind fun a h1 => if (lstOf δ h1 a).isSome = true then (g δ h1).bind fun b h2 => idxK a b δ h2 else .bad
theorem ev_index (hu : X.A.units + 64 < cLine) (ho : Ev X G W o f) (ha : Ev X G W e g) (hK : X.K = G.K)
    (hbase : attributeBase o "index" X.env (eval o X.env) = eval o X.env := by rfl)
    (hfew : ((backTo cpos (starEach [e] X.env)).all (fun x => !x.1) && (backToKw cpos (keywordEach [] X.env)).all (fun x => x.1.isSome) && decide ([e].length + ([] : List Keyword).length + (if ([] : List Keyword).isEmpty then 0 else 1) < 30)) = true := by rfl)
    (hline : (apos.endLine == cpos.line) = true := by rfl) (hs : starEach [e] X.env = (false, eval e X.env) :: starEach [] X.env := by rfl) (hplain : (backTo cpos (starEach [] X.env)).any (·.1) = false := by rfl) :
    Ev X G W (.Call (.Attribute o "index" apos) [e] [] cpos) (idxF f g) :=
  PE.imp (pe_bm PySem.F.plainAttrs_list PySem.F.slot_list_index PySem.F.type_list_index (mt_indexP hu) ho (pa_cons ha pa_nil hs) hbase hfew hline hs hplain) fun σ H Q q => by
    rw [hK]
    obtain ⟨M, r, h, δ, b, q⟩ := q
    refine ⟨M, r, h, δ, b, (After.bind (rl := rV G.J δ σ) q).more fun x H1 ⟨dx, M1, r1, h1, s1, b1, rx, q1⟩ => ?_⟩
    by_cases z : (lstOf δ h1 dx).isSome = true
    · rw [if_pos z] at q1
      obtain ⟨es, ez⟩ := Option.isSome_iff_exists.mp z
      obtain ⟨a, vs, e1, hq, _, _⟩ := b1.lst rx ez
      subst e1
      refine ⟨.inl ⟨rfl, vs, hq⟩, M1, r1, h1, δ, b1, (After.bind (rl := rV G.J δ σ) q1).more fun y H2 ⟨dy, M2, r2, h2, s2, b2, ry, q2⟩ => ?_⟩
      unfold idxK at q2
      split at q2
      · rename_i ds ed
        split at q2
        · rename_i e
          rw [Bool.and_eq_true, Bool.and_eq_true, decide_eq_true_eq] at e
          split at q2
          · rename_i j ej
            obtain ⟨a', vs', e2, hs, t, _⟩ := b2.lst (rx.mono s2.le s2.pre) ed
            cases e2
            exact ⟨a, y, _, ds, j, rfl, rfl, .lst hs (dp_reps b2 ds vs' t e.1.2), dp_of b2 ry e.1.1, e.2, ej, q2.now b2 rfl⟩
          · exact q2.elim
        · exact q2.elim
      · exact q2.elim
    · rw [if_neg z] at q1; exact q1.elim
@[simp] theorem idxF_ap : idxF f g δ h = (f δ h).bind fun a h1 => if (lstOf δ h1 a).isSome = true then (g δ h1).bind fun b h2 => idxK a b δ h2 else .bad := pr rfl
end
end LP
/-! LpZ: names that take comprehensions. -/
namespace LP
open PySem PySem.Spec PyProof.Rows L2
section
variable {X : Cx} {G : Cfg} {W : WX} {σ : L2.St} {δ : DE} {M M' M1 M2 : Imm} {r r' r1 r2 : List Addr} {h h' h1 h2 : Bx} {H H' H1 H2 : Hp} {E : Ends}
variable {e c : Expr} {f g : EF} {tg : Expr} {fs : DE → Bx → R (List D)} {pos : Pos} {i : Nat} {st : Stmt} {sf : SF}
/-- behind a statement the list of slot i is never written again -/
def endFrz (i : Nat) (sf : SF) : SF := fun δ h => match sf δ h with
  | .nx δ' h' => match δ'[i]? with
    | some (.own ds) => .nx (δ'.set i (.v (.lst ds))) h'
    | _ => .bad
  | x => x
theorem es_endFrz (i : Nat) (p : Es X G W st sf) : Es X G W st (endFrz i sf) := PS.imp p fun E σ H q => by
  obtain ⟨M, r, h, δ, b, q⟩ := q
  refine ⟨M, r, h, δ, b, ?_⟩
  unfold endFrz at q
  cases z : sf δ h with
  | nx δ' h' =>
    rw [z] at q
    simp only at q
    intro M1 r1 σ1 H1 le pre b1
    split at q
    · rename_i ds e
      obtain ⟨M2, a, vs, _, le2, b2, _⟩ := b1.freeze e
      exact q M2 r1 σ1 H1 (le.trans le2) pre b2
    · exact q.elim
  | rt d h' => rw [z] at q; exact q
  | bk δ' h' => rw [z] at q; exact q
  | ct δ' h' => rw [z] at q; exact q
  | exc c fs δ' h' => rw [z] at q; exact q
  | bad => rw [z] at q; exact q
theorem es_ownLc2 {y : Str} {py spos : Pos} {elt iter tg1 iter1 : Expr} {ifs ifs1 : List Expr} {scope : Scope} {own : List (Str × Nat)} {gi gi1 : DE → Bx → R (List D)} {ts ts1 vs1 : List Nat} {u u1 : D → DE → Option DE} {tf tf1 : DE → Bx → R Bool} {ef : EF} (hc : X.calm = true) (hN : X.N.Nodup)
    (hy : X.N[i]? = some y) (hyl : X.env.scope.names.lookup y = some .local) (hsw : swapsWith (.ListComp elt [⟨tg, iter, ifs, 0⟩, ⟨tg1, iter1, ifs1, 0⟩] scope pos) (some (.Name y py)) spos.line X.env = pure true)
    (hi : EvI X G W tg iter gi) (ok : BlkOk X.N X.env.scope scope own) (hts : ∀ i ∈ ts, i ∈ own.map (·.2)) (hts1 : ∀ i ∈ ts1, i ∈ vs1) (hv : ∀ i ∈ vs1, i ∈ own.map (·.2)) (hu : UOk ts u)
    (hg : ∀ (s : Shared) (H : Hp) (C : Addr) (cl : List (Str × Addr)) (fp : List Addr), EvG (X.blk s H scope (compEnvC scope cl C X.env) fp) G tg ts u) (ht : ∀ (s : Shared) (H : Hp) (C : Addr) (cl : List (Str × Addr)) (fp : List Addr), EvTs (X.blk s H scope (compEnvC scope cl C X.env) fp) G W0 ifs tf)
    (hi1 : ∀ (s : Shared) (H : Hp) (C : Addr) (cl : List (Str × Addr)) (fp : List Addr), EvI (X.blk s H scope (compEnvC scope cl C X.env) fp) G W0 tg1 iter1 gi1)
    (hg1 : ∀ (s : Shared) (H : Hp) (C : Addr) (cl : List (Str × Addr)) (fp : List Addr), EvG (X.blk s H scope (compEnvC scope cl C X.env) fp) G tg1 ts1 u1) (ht1 : ∀ (s : Shared) (H : Hp) (C : Addr) (cl : List (Str × Addr)) (fp : List Addr), EvTs (X.blk s H scope (compEnvC scope cl C X.env) fp) G W0 ifs1 tf1)
    (he : ∀ (s : Shared) (H : Hp) (C : Addr) (cl : List (Str × Addr)) (fp : List Addr), Ev (X.blk s H scope (compEnvC scope cl C X.env) fp) G W0 elt ef) (hs : ∀ x, foldedSetIterable iter X.env x = pure x := by intro _; rfl) (hs1 : ∀ env x, foldedSetIterable iter1 env x = pure x := by intro _ _; rfl) :
    Es X G W (.Assign [.Name y py] (.ListComp elt [⟨tg, iter, ifs, 0⟩, ⟨tg1, iter1, ifs1, 0⟩] scope pos) spos) (ownS i (lc2N gi (own.map (·.2)) u tf gi1 vs1 u1 tf1 ef)) :=
  PS.imp (ps_setLc2 hc hN hy hyl hsw hi ok hv hg ht hi1 hg1 ht1 he hs hs1) fun E σ H q => by
    obtain ⟨M, r, h, δ, b, q⟩ := q
    refine lc2_of (G := G) (W := W) (u := u) (Q := fun x H1 => gName i x σ H1 E.nx) hts hts1 hu ⟨M, r, h, δ, b, ?_⟩
    unfold ownS at q
    cases e : lc2N gi (own.map (·.2)) u tf gi1 vs1 u1 tf1 ef δ h with
    | ok ds h1 =>
      rw [e] at q
      intro vs M' r' H' p s b' t z hp
      exact (AfterS.from s.le s.pre q).nxt (b'.own hp t z)
    | exc c fs h => rw [e] at q; exact fun C dd M' r' H' m s b e => q C dd M' r' σ H' m s.le s.pre b e
    | bad => rw [e] at q; exact q
@[simp] theorem endFrz_ap : endFrz i sf δ h = (match sf δ h with
  | .nx δ' h' => match δ'[i]? with
    | some (.own ds) => .nx (δ'.set i (.v (.lst ds))) h'
    | _ => .bad
  | x => x) := pr rfl
@[simp] theorem vw_loc : vw δ h (.loc i) = (match lstOf δ h (.loc i) with | some ds => .lst ds | none => .loc i) := pr rfl
@[simp] theorem isNK_ap {a : D} : isNK a .non δ h = .ok (.bl (isNon a)) h := pr rfl
@[simp] theorem notNK_ap {a : D} : notNK a .non δ h = .ok (.bl (!isNon a)) h := pr rfl
@[simp] theorem isNon_non : isNon .non = true := pr rfl
@[simp] theorem isNon_int {n : Int} : isNon (.int n) = false := pr rfl
theorem seq_rt {sf sg : SF} {h' : Bx} {d : D} (e : sf δ h = .rt d h') : seqS sf sg δ h = .rt d h' := by rw [seqS_ap, e]
theorem seq_exc {sf sg : SF} {δ' : DE} {h' : Bx} {c : Str} {fs : List (Str × D)} (e : sf δ h = .exc c fs δ' h') : seqS sf sg δ h = .exc c fs δ' h' := by rw [seqS_ap, e]
end
end LP
namespace LP
open PySem PySem.Spec PyProof.Rows L2 HT
/-- turns of a while at most -/
def wf : Nat := 1000000
/-- depth of a def's own calls at most -/
abbrev rf : Nat := 12
def topS (i : Nat) : Stmt := PySem.Challenge.pw_leastpromise_k06_whole_frames_and_progra.main.body.getD i (.Pass ⟨0, 0, 0, 0⟩)
abbrev xtab : List (Str × Str) := [("InvalidFrame", "at"), ("InvalidProgram", "at"), ("InvalidDatum", "at")]
abbrev xbase : Str := "PromiseError"
abbrev i_InvalidFrame : Stmt := clsInit (topS 2)
abbrev i_InvalidProgram : Stmt := clsInit (topS 3)
abbrev i_InvalidDatum : Stmt := clsInit (topS 4)
abbrev s_is_integer : Stmt := topS 6
abbrev N_is_integer : List Str := ["value"]
abbrev ps_is_integer : List Str := ["value"]
theorem sc_is_integer : FnScope N_is_integer ps_is_integer (defScope s_is_integer) := ⟨rfl, rfl, rfl, by decide +kernel, rfl, by decide +kernel, by decide +kernel⟩
abbrev s_is_number : Stmt := topS 7
abbrev N_is_number : List Str := ["value"]
abbrev ps_is_number : List Str := ["value"]
theorem sc_is_number : FnScope N_is_number ps_is_number (defScope s_is_number) := ⟨rfl, rfl, rfl, by decide +kernel, rfl, by decide +kernel, by decide +kernel⟩
abbrev s_is_below : Stmt := topS 8
abbrev N_is_below : List Str := ["value", "many"]
abbrev ps_is_below : List Str := ["value", "many"]
theorem sc_is_below : FnScope N_is_below ps_is_below (defScope s_is_below) := ⟨rfl, rfl, rfl, by decide +kernel, rfl, by decide +kernel, by decide +kernel⟩
abbrev s_is_string : Stmt := topS 9
abbrev N_is_string : List Str := ["value"]
abbrev ps_is_string : List Str := ["value"]
theorem sc_is_string : FnScope N_is_string ps_is_string (defScope s_is_string) := ⟨rfl, rfl, rfl, by decide +kernel, rfl, by decide +kernel, by decide +kernel⟩
abbrev s_is_table : Stmt := topS 15
abbrev N_is_table : List Str := ["size", "value", "one"]
abbrev ps_is_table : List Str := ["size", "value"]
theorem sc_is_table : FnScope N_is_table ps_is_table (defScope s_is_table) := ⟨rfl, rfl, rfl, by decide +kernel, rfl, by decide +kernel, by decide +kernel⟩
abbrev s_need_frame : Stmt := topS 16
abbrev N_need_frame : List Str := ["value", "size", "registers", "cells", "tables", "deep", "one"]
abbrev ps_need_frame : List Str := ["value"]
theorem sc_need_frame : FnScope N_need_frame ps_need_frame (defScope s_need_frame) := ⟨rfl, rfl, rfl, by decide +kernel, rfl, by decide +kernel, by decide +kernel⟩
abbrev s_value_rows : Stmt := topS 17
abbrev N_value_rows : List Str := ["size", "many", "rows", "turn", "row", "value"]
abbrev ps_value_rows : List Str := ["size", "many"]
theorem sc_value_rows : FnScope N_value_rows ps_value_rows (defScope s_value_rows) := ⟨rfl, rfl, rfl, by decide +kernel, rfl, by decide +kernel, by decide +kernel⟩
abbrev s_all_data : Stmt := topS 18
abbrev N_all_data : List Str := ["frame"]
abbrev ps_all_data : List Str := ["frame"]
theorem sc_all_data : FnScope N_all_data ps_all_data (defScope s_all_data) := ⟨rfl, rfl, rfl, by decide +kernel, rfl, by decide +kernel, by decide +kernel⟩
abbrev s_is_datum : Stmt := topS 19
abbrev N_is_datum : List Str := ["frame", "value", "one"]
abbrev ps_is_datum : List Str := ["frame", "value"]
theorem sc_is_datum : FnScope N_is_datum ps_is_datum (defScope s_is_datum) := ⟨rfl, rfl, rfl, by decide +kernel, rfl, by decide +kernel, by decide +kernel⟩
abbrev s_need_datum : Stmt := topS 20
abbrev N_need_datum : List Str := ["frame", "value"]
abbrev ps_need_datum : List Str := ["frame", "value"]
theorem sc_need_datum : FnScope N_need_datum ps_need_datum (defScope s_need_datum) := ⟨rfl, rfl, rfl, by decide +kernel, rfl, by decide +kernel, by decide +kernel⟩
abbrev s_are_rows : Stmt := topS 21
abbrev N_are_rows : List Str := ["frame", "value", "row"]
abbrev ps_are_rows : List Str := ["frame", "value"]
theorem sc_are_rows : FnScope N_are_rows ps_are_rows (defScope s_are_rows) := ⟨rfl, rfl, rfl, by decide +kernel, rfl, by decide +kernel, by decide +kernel⟩
abbrev s_is_row : Stmt := topS 22
abbrev N_is_row : List Str := ["frame", "row", "one"]
abbrev ps_is_row : List Str := ["frame", "row"]
theorem sc_is_row : FnScope N_is_row ps_is_row (defScope s_is_row) := ⟨rfl, rfl, rfl, by decide +kernel, rfl, by decide +kernel, by decide +kernel⟩
abbrev s_need_program : Stmt := topS 23
abbrev N_need_program : List Str := ["frame", "value", "at", "row"]
abbrev ps_need_program : List Str := ["frame", "value"]
theorem sc_need_program : FnScope N_need_program ps_need_program (defScope s_need_program) := ⟨rfl, rfl, rfl, by decide +kernel, rfl, by decide +kernel, by decide +kernel⟩
abbrev s_plain_rows : Stmt := topS 24
abbrev N_plain_rows : List Str := ["rows", "found", "row"]
abbrev ps_plain_rows : List Str := ["rows"]
theorem sc_plain_rows : FnScope N_plain_rows ps_plain_rows (defScope s_plain_rows) := ⟨rfl, rfl, rfl, by decide +kernel, rfl, by decide +kernel, by decide +kernel⟩
abbrev s_unrolled : Stmt := topS 25
abbrev N_unrolled : List Str := ["frame", "program"]
abbrev ps_unrolled : List Str := ["frame", "program"]
theorem sc_unrolled : FnScope N_unrolled ps_unrolled (defScope s_unrolled) := ⟨rfl, rfl, rfl, by decide +kernel, rfl, by decide +kernel, by decide +kernel⟩
abbrev s__law_box : Stmt := topS 27
abbrev N__law_box : List Str := ["_law_script", "_law_k", "_law_cell"]
abbrev ps__law_box : List Str := ["_law_script", "_law_k"]
theorem sc__law_box : FnScope N__law_box ps__law_box (defScope s__law_box) := ⟨rfl, rfl, rfl, by decide +kernel, rfl, by decide +kernel, by decide +kernel⟩
abbrev s__law_take : Stmt := topS 28
abbrev N__law_take : List Str := ["_law_box_here", "_law_many", "_law_digit", "_law_raw"]
abbrev ps__law_take : List Str := ["_law_box_here", "_law_many"]
theorem sc__law_take : FnScope N__law_take ps__law_take (defScope s__law_take) := ⟨rfl, rfl, rfl, by decide +kernel, rfl, by decide +kernel, by decide +kernel⟩
abbrev s__law_pick : Stmt := topS 29
abbrev N__law_pick : List Str := ["_law_box_here", "_law_some"]
abbrev ps__law_pick : List Str := ["_law_box_here", "_law_some"]
theorem sc__law_pick : FnScope N__law_pick ps__law_pick (defScope s__law_pick) := ⟨rfl, rfl, rfl, by decide +kernel, rfl, by decide +kernel, by decide +kernel⟩
abbrev s__law_frame : Stmt := topS 30
abbrev N__law_frame : List Str := ["_law_box_here", "_law_size", "_law_tables", "_law_turn", "_law_cell"]
abbrev ps__law_frame : List Str := ["_law_box_here"]
theorem sc__law_frame : FnScope N__law_frame ps__law_frame (defScope s__law_frame) := ⟨rfl, rfl, rfl, by decide +kernel, rfl, by decide +kernel, by decide +kernel⟩
abbrev s__law_rows : Stmt := topS 31
abbrev N__law_rows : List Str := ["_law_box_here", "_law_frame_here", "_law_many", "_law_deep", "_law_rows_here", "_law_turn", "_law_names", "_law_kind", "_law_place"]
abbrev ps__law_rows : List Str := ["_law_box_here", "_law_frame_here", "_law_many", "_law_deep"]
theorem sc__law_rows : FnScope N__law_rows ps__law_rows (defScope s__law_rows) := ⟨rfl, rfl, rfl, by decide +kernel, rfl, by decide +kernel, by decide +kernel⟩
abbrev s__law_datum : Stmt := topS 32
abbrev N__law_datum : List Str := ["_law_box_here", "_law_frame_here", "_law_spot"]
abbrev ps__law_datum : List Str := ["_law_box_here", "_law_frame_here"]
theorem sc__law_datum : FnScope N__law_datum ps__law_datum (defScope s__law_datum) := ⟨rfl, rfl, rfl, by decide +kernel, rfl, by decide +kernel, by decide +kernel⟩
abbrev s__law_plain : Stmt := topS 33
abbrev N__law_plain : List Str := ["_law_rows_here", "_law_found", "_law_row", "_law_turn"]
abbrev ps__law_plain : List Str := ["_law_rows_here"]
theorem sc__law_plain : FnScope N__law_plain ps__law_plain (defScope s__law_plain) := ⟨rfl, rfl, rfl, by decide +kernel, rfl, by decide +kernel, by decide +kernel⟩
abbrev s__law_is_below : Stmt := topS 34
abbrev N__law_is_below : List Str := ["_law_value", "_law_limit"]
abbrev ps__law_is_below : List Str := ["_law_value", "_law_limit"]
theorem sc__law_is_below : FnScope N__law_is_below ps__law_is_below (defScope s__law_is_below) := ⟨rfl, rfl, rfl, by decide +kernel, rfl, by decide +kernel, by decide +kernel⟩
abbrev s__law_are_below : Stmt := topS 35
abbrev N__law_are_below : List Str := ["_law_value", "_law_many", "_law_limit", "_law_one"]
abbrev ps__law_are_below : List Str := ["_law_value", "_law_many", "_law_limit"]
theorem sc__law_are_below : FnScope N__law_are_below ps__law_are_below (defScope s__law_are_below) := ⟨rfl, rfl, rfl, by decide +kernel, rfl, by decide +kernel, by decide +kernel⟩
abbrev s__law_frame_due : Stmt := topS 36
abbrev N__law_frame_due : List Str := ["_law_value", "_law_one"]
abbrev ps__law_frame_due : List Str := ["_law_value"]
theorem sc__law_frame_due : FnScope N__law_frame_due ps__law_frame_due (defScope s__law_frame_due) := ⟨rfl, rfl, rfl, by decide +kernel, rfl, by decide +kernel, by decide +kernel⟩
abbrev s__law_is_row : Stmt := topS 37
abbrev N__law_is_row : List Str := ["_law_frame_here", "_law_row"]
abbrev ps__law_is_row : List Str := ["_law_frame_here", "_law_row"]
theorem sc__law_is_row : FnScope N__law_is_row ps__law_is_row (defScope s__law_is_row) := ⟨rfl, rfl, rfl, by decide +kernel, rfl, by decide +kernel, by decide +kernel⟩
abbrev s__law_due : Stmt := topS 38
abbrev N__law_due : List Str := ["_law_frame_here", "_law_value", "_law_wrong", "_law_at", "_law_row"]
abbrev ps__law_due : List Str := ["_law_frame_here", "_law_value"]
theorem sc__law_due : FnScope N__law_due ps__law_due (defScope s__law_due) := ⟨rfl, rfl, rfl, by decide +kernel, rfl, by decide +kernel, by decide +kernel⟩
abbrev s__law_bent : Stmt := topS 39
abbrev N__law_bent : List Str := ["_law_box_here", "_law_value", "_law_deep", "_law_at"]
abbrev ps__law_bent : List Str := ["_law_box_here", "_law_value", "_law_deep"]
theorem sc__law_bent : FnScope N__law_bent ps__law_bent (defScope s__law_bent) := ⟨rfl, rfl, rfl, by decide +kernel, rfl, by decide +kernel, by decide +kernel⟩
abbrev s__law_heard : Stmt := topS 40
abbrev N__law_heard : List Str := ["_law_work", "e"]
abbrev ps__law_heard : List Str := ["_law_work"]
theorem sc__law_heard : FnScope N__law_heard ps__law_heard (defScope s__law_heard) := ⟨rfl, rfl, rfl, by decide +kernel, rfl, by decide +kernel, by decide +kernel⟩
abbrev s_law : Stmt := topS 41
abbrev N_law : List Str := ["_law_script", "_law_frame_here", "_law_k", "_law_box_here", "_law_program", "_law_datum_here", "_law_rows_here", "_law_spot", "_law_longer", "_law_row", "_law_turn", "_law_wrong", "_law_at", "_law_bent_here", "_law_odd", "_law_right", "_law_works", "_law_value", "_law_work", "_law_told"]
abbrev ps_law : List Str := ["_law_script"]
theorem sc_law : FnScope N_law ps_law (defScope s_law) := ⟨rfl, rfl, rfl, by decide +kernel, rfl, by decide +kernel, by decide +kernel⟩
abbrev qn_law : Str := (envOfC "law" (defScope s_law) 0 0 .none).qual ++ "<lambda>"
def tab_ROW_SIZES : List (Str × Int) := [("op", 5), ("load", 3), ("store", 3), ("fence", 1), ("fork", 4), ("loop", 3)]
def sf_is_integer  : SF := (retS (andV (isiF ["int"] (varF 0)) (notV (isiF ["bool"] (varF 0)))))
def F_is_integer : List D → Bx → R D := runF N_is_integer.length sf_is_integer
def sf_is_number  : SF := (retS (andV (callF (nArgs 1 F_is_integer) (consA (varF 0) nilA)) (bin2 geK (varF 0) (cF (.int 0)))))
def F_is_number : List D → Bx → R D := runF N_is_number.length sf_is_number
def sf_is_below  : SF := (retS (andV (callF (nArgs 1 F_is_number) (consA (varF 0) nilA)) (bin2 ltK (varF 0) (varF 1))))
def F_is_below : List D → Bx → R D := runF N_is_below.length sf_is_below
def sf_is_string  : SF := (retS (isiF ["str"] (varF 0)))
def F_is_string : List D → Bx → R D := runF N_is_string.length sf_is_string
def sf_is_table  : SF := (retS (andV (isiF ["tuple"] (varF 1)) (andV (bin2 (eqK false) (blt lenK (consA (varF 1) nilA)) (bin2 mulA (varF 0) (varF 0))) (blt allK (consA (valN (lcN (itemsI (varF 1)) [2] (nameU 2) yesF (callF (nArgs 2 F_is_below) (consA (varF 2) (consA (varF 0) nilA))))) nilA)))))
def F_is_table : List D → Bx → R D := runF N_is_table.length sf_is_table
def sf_need_frame  : SF := (seqS (ifS (orT (notT (testF (isiF ["tuple"] (varF 0)))) (testF (bin2 (eqK true) (blt lenK (consA (varF 0) nilA)) (cF (.int 5)))))
    (raiseS "InvalidFrame" "at" (negF (cF (.int 1))))
    (fun δ h => .nx δ h))
    (seqS (asgS (tupU 5 (consU (nameU 1) (consU (nameU 2) (consU (nameU 3) (consU (nameU 4) (consU (nameU 5) nilU)))))) (varF 0))
    (seqS (ifS (orT (notT (testF (callF (nArgs 1 F_is_integer) (consA (varF 1) nilA)))) (notT (testF (chainF leK leK (cF (.int 2)) (varF 1) (cF (.int 3))))))
    (raiseS "InvalidFrame" "at" (cF (.int 0)))
    (fun δ h => .nx δ h))
    (seqS (ifS (orT (notT (testF (callF (nArgs 1 F_is_integer) (consA (varF 2) nilA)))) (notT (testF (chainF leK leK (cF (.int 1)) (varF 2) (cF (.int 4))))))
    (raiseS "InvalidFrame" "at" (cF (.int 1)))
    (fun δ h => .nx δ h))
    (seqS (ifS (orT (notT (testF (callF (nArgs 1 F_is_integer) (consA (varF 3) nilA)))) (andT (testF (bin2 (eqK true) (varF 3) (cF (.int 0)))) (testF (bin2 (eqK true) (varF 3) (varF 1)))))
    (raiseS "InvalidFrame" "at" (cF (.int 2)))
    (fun δ h => .nx δ h))
    (seqS (ifS (orT (notT (testF (isiF ["tuple"] (varF 4)))) (orT (testF (bin2 gtK (blt lenK (consA (varF 4) nilA)) (cF (.int 4)))) (notT (testF (blt allK (consA (valN (lcN (itemsI (varF 4)) [6] (nameU 6) yesF (callF (nArgs 2 F_is_table) (consA (varF 1) (consA (varF 6) nilA))))) nilA))))))
    (raiseS "InvalidFrame" "at" (cF (.int 3)))
    (fun δ h => .nx δ h))
    (seqS (ifS (notT (testF (callF (nArgs 2 F_is_below) (consA (varF 5) (consA (bin2 addK (cF (.int 3)) (cF (.int 1))) nilA)))))
    (raiseS "InvalidFrame" "at" (cF (.int 4)))
    (fun δ h => .nx δ h))
    (retS (varF 0)))))))))
def F_need_frame : List D → Bx → R D := runF N_need_frame.length sf_need_frame
def sf_value_rows  : SF := (seqS (setS 2 (lstF (consA (tupF nilA) nilA)))
    (seqS (forS (fun δ h => ((consA (varF 1) nilA) δ h).bind rg1K) (nameU 3)
    (endFrz 2 (ownS 2 (lc2N (itemsI (varF 2)) [4, 5] (nameU 4) yesF (fun δ h => ((consA (varF 0) nilA) δ h).bind rg1K) [5] (nameU 5) yesF (bin2 addK (varF 4) (tupF (consA (varF 5) nilA)))))))
    (retS (varF 2))))
def F_value_rows : List D → Bx → R D := runF N_value_rows.length sf_value_rows
def sf_all_data  : SF := (seqS (setS 0 (callF (nArgs 1 F_need_frame) (consA (varF 0) nilA)))
    (retS (blt tupK (consA (callF (nArgs 2 F_value_rows) (consA (bin2 ixK (varF 0) (cF (.int 0))) (consA (bin2 addK (bin2 ixK (varF 0) (cF (.int 1))) (bin2 ixK (varF 0) (cF (.int 2)))) nilA))) nilA))))
def F_all_data : List D → Bx → R D := runF N_all_data.length sf_all_data
def sf_is_datum  : SF := (seqS (ifS (orT (notT (testF (isiF ["tuple"] (varF 1)))) (testF (bin2 (eqK true) (blt lenK (consA (varF 1) nilA)) (bin2 addK (bin2 ixK (varF 0) (cF (.int 1))) (bin2 ixK (varF 0) (cF (.int 2)))))))
    (retS (cF (.bl false)))
    (fun δ h => .nx δ h))
    (retS (blt allK (consA (valN (lcN (itemsI (varF 1)) [2] (nameU 2) yesF (callF (nArgs 2 F_is_below) (consA (varF 2) (consA (bin2 ixK (varF 0) (cF (.int 0))) nilA))))) nilA))))
def F_is_datum : List D → Bx → R D := runF N_is_datum.length sf_is_datum
def sf_need_datum  : SF := (seqS (setS 0 (callF (nArgs 1 F_need_frame) (consA (varF 0) nilA)))
    (seqS (ifS (notT (testF (callF (nArgs 2 F_is_datum) (consA (varF 0) (consA (varF 1) nilA)))))
    (raiseS "InvalidDatum" "at" (negF (cF (.int 1))))
    (fun δ h => .nx δ h))
    (retS (varF 1))))
def F_need_datum : List D → Bx → R D := runF N_need_datum.length sf_need_datum
def sf_are_rows (R_are_rows : List D → Bx → R D) (R_is_row : List D → Bx → R D) : SF := (retS (andV (isiF ["tuple"] (varF 1)) (blt allK (consA (valN (lcN (itemsI (varF 1)) [2] (nameU 2) yesF (callF (nArgs 2 R_is_row) (consA (varF 0) (consA (varF 2) nilA))))) nilA))))
def sf_is_row (R_are_rows : List D → Bx → R D) (R_is_row : List D → Bx → R D) : SF := (seqS (ifS (orT (notT (testF (isiF ["tuple"] (varF 1)))) (orT (testF (bin2 (eqK false) (blt lenK (consA (varF 1) nilA)) (cF (.int 0)))) (orT (notT (testF (callF (nArgs 1 F_is_string) (consA (bin2 ixK (varF 1) (cF (.int 0))) nilA)))) (testF (bin2 (eqK true) (blt lenK (consA (varF 1) nilA)) (kgetF tab_ROW_SIZES (bin2 ixK (varF 1) (cF (.int 0))) (cF (.int 0))))))))
    (retS (cF (.bl false)))
    (fun δ h => .nx δ h))
    (seqS (ifS (testF (bin2 (eqK false) (bin2 ixK (varF 1) (cF (.int 0))) (cF (.str "loop"))))
    (retS (andV (callF (nArgs 2 F_is_below) (consA (bin2 ixK (varF 1) (cF (.int 1))) (consA (bin2 addK (cF (.int 4)) (cF (.int 1))) nilA))) (callF (nArgs 2 R_are_rows) (consA (varF 0) (consA (bin2 ixK (varF 1) (cF (.int 2))) nilA)))))
    (fun δ h => .nx δ h))
    (seqS (ifS (testF (bin2 (eqK false) (bin2 ixK (varF 1) (cF (.int 0))) (cF (.str "fork"))))
    (retS (andV (callF (nArgs 2 F_is_below) (consA (bin2 ixK (varF 1) (cF (.int 1))) (consA (bin2 ixK (varF 0) (cF (.int 1))) nilA))) (andV (callF (nArgs 2 R_are_rows) (consA (varF 0) (consA (bin2 ixK (varF 1) (cF (.int 2))) nilA))) (callF (nArgs 2 R_are_rows) (consA (varF 0) (consA (bin2 ixK (varF 1) (cF (.int 3))) nilA))))))
    (fun δ h => .nx δ h))
    (seqS (ifS (testF (bin2 (eqK false) (bin2 ixK (varF 1) (cF (.int 0))) (cF (.str "op"))))
    (retS (andV (callF (nArgs 2 F_is_below) (consA (bin2 ixK (varF 1) (cF (.int 1))) (consA (blt lenK (consA (bin2 ixK (varF 0) (cF (.int 3))) nilA)) nilA))) (blt allK (consA (valN (lcN (itemsI (slF (varF 1) (someO (cF (.int 2))) noO)) [2] (nameU 2) yesF (callF (nArgs 2 F_is_below) (consA (varF 2) (consA (bin2 ixK (varF 0) (cF (.int 1))) nilA))))) nilA))))
    (fun δ h => .nx δ h))
    (retS (andV (blt allK (consA (valN (lcN (itemsI (slF (varF 1) (someO (cF (.int 1))) noO)) [2] (nameU 2) yesF (callF (nArgs 2 F_is_below) (consA (varF 2) (consA (bin2 ixK (varF 0) (cF (.int 1))) nilA))))) nilA)) (orV (bin2 (eqK false) (bin2 ixK (varF 1) (cF (.int 0))) (cF (.str "fence"))) (bin2 gtK (bin2 ixK (varF 0) (cF (.int 2))) (cF (.int 0))))))))))
mutual
def F_are_rows : Nat → List D → Bx → R D
  | 0 => fun _ _ => .bad
  | n + 1 => runF N_are_rows.length (sf_are_rows (F_are_rows n) (F_is_row n))
def F_is_row : Nat → List D → Bx → R D
  | 0 => fun _ _ => .bad
  | n + 1 => runF N_is_row.length (sf_is_row (F_are_rows n) (F_is_row n))
end
def sf_need_program  : SF := (seqS (setS 0 (callF (nArgs 1 F_need_frame) (consA (varF 0) nilA)))
    (seqS (ifS (notT (testF (isiF ["tuple"] (varF 1))))
    (raiseS "InvalidProgram" "at" (negF (cF (.int 1))))
    (fun δ h => .nx δ h))
    (seqS (forS (fun δ h => ((consA (varF 1) nilA) δ h).bind fun ds h1 => enumK ds δ h1) (tupU 2 (consU (nameU 2) (consU (nameU 3) nilU)))
    (ifS (notT (testF (callF (nArgs 2 (F_is_row rf)) (consA (varF 0) (consA (varF 3) nilA)))))
    (raiseS "InvalidProgram" "at" (varF 2))
    (fun δ h => .nx δ h)))
    (retS (varF 1)))))
def F_need_program : List D → Bx → R D := runF N_need_program.length sf_need_program
def sf_plain_rows (R_plain_rows : List D → Bx → R D) : SF := (seqS (ownS 1 (lstN nilA))
    (seqS (forS (itemsI (varF 0)) (nameU 2)
    (ifS (testF (bin2 (eqK false) (bin2 ixK (varF 2) (cF (.int 0))) (cF (.str "loop"))))
    (extS 1 (bin2 mulA (callF (nArgs 1 R_plain_rows) (consA (bin2 ixK (varF 2) (cF (.int 2))) nilA)) (bin2 ixK (varF 2) (cF (.int 1)))))
    (ifS (testF (bin2 (eqK false) (bin2 ixK (varF 2) (cF (.int 0))) (cF (.str "fork"))))
    (appS 1 (tupF (consA (bin2 ixK (varF 2) (cF (.int 0))) (consA (bin2 ixK (varF 2) (cF (.int 1))) (consA (blt tupK (consA (callF (nArgs 1 R_plain_rows) (consA (bin2 ixK (varF 2) (cF (.int 2))) nilA)) nilA)) (consA (blt tupK (consA (callF (nArgs 1 R_plain_rows) (consA (bin2 ixK (varF 2) (cF (.int 3))) nilA)) nilA)) nilA))))))
    (appS 1 (varF 2)))))
    (retS (varF 1))))
def F_plain_rows : Nat → List D → Bx → R D
  | 0 => fun _ _ => .bad
  | n + 1 => runF N_plain_rows.length (sf_plain_rows (F_plain_rows n))
def sf_unrolled  : SF := (retS (blt tupK (consA (callF (nArgs 1 (F_plain_rows rf)) (consA (callF (nArgs 2 F_need_program) (consA (varF 0) (consA (varF 1) nilA))) nilA)) nilA)))
def F_unrolled : List D → Bx → R D := runF N_unrolled.length sf_unrolled
def sf__law_box  : SF := (seqS (setS 2 (bin2 addK (bin2 mulA (cF (.int 8543)) (varF 1)) (cF (.int 751))))
    (seqS (ifS (testF (bin2 ltK (varF 1) (blt lenK (consA (varF 0) nilA))))
    (setS 2 (blt absK (consA (bin2 ixK (varF 0) (varF 1)) nilA)))
    (ifS (testF (bin2 gtK (blt lenK (consA (varF 0) nilA)) (cF (.int 0))))
    (setS 2 (bin2 addK (varF 2) (bin2 mulA (bin2 modK (blt intK (consA (blt absK (consA (bin2 ixK (varF 0) (bin2 modK (blt intK (consA (varF 1) nilA)) (blt lenK (consA (varF 0) nilA)))) nilA)) nilA)) (cF (.int 2147483629))) (cF (.int 60497)))))
    (fun δ h => .nx δ h)))
    (retS (boxN (lstN (consA (bin2 ixK (lstF (consA (cF (.int 0)) (consA (varF 2) nilA))) (blt intK (consA (bin2 geK (varF 2) (bin2 powK (cF (.int 10)) (cF (.int 18)))) nilA))) (consA (bin2 addK (bin2 modK (blt intK (consA (bin2 addK (bin2 mulA (bin2 modK (blt intK (consA (varF 2) nilA)) (cF (.int 2147483629))) (cF (.int 38569))) (bin2 mulA (cF (.int 71233)) (varF 1))) nilA)) (cF (.int 2147483629))) (cF (.int 1))) (consA (cF (.int 0)) nilA))))))))
def F__law_box : List D → Bx → R D := runF N__law_box.length sf__law_box
def sf__law_take  : SF := (seqS (ifS (testF (bin2 gtK (bin2 ixK (varF 0) (cF (.int 0))) (cF (.int 0))))
    (seqS (setS 2 (bin2 modK (blt intK (consA (bin2 ixK (varF 0) (cF (.int 0))) nilA)) (varF 1)))
    (seqS (setiS 0 (cF (.int 0)) (bin2 divK (bin2 ixK (varF 0) (cF (.int 0))) (varF 1)))
    (retS (varF 2))))
    (fun δ h => .nx δ h))
    (seqS (setiS 0 (cF (.int 2)) (bin2 addK (bin2 ixK (varF 0) (cF (.int 2))) (cF (.int 1))))
    (seqS (setS 3 (bin2 modK (blt intK (consA (bin2 addK (bin2 mulA (bin2 addK (bin2 ixK (varF 0) (cF (.int 1))) (bin2 mulA (cF (.int 90089)) (bin2 ixK (varF 0) (cF (.int 2))))) (cF (.int 58217))) (cF (.int 43))) nilA)) (cF (.int 2147483563))))
    (seqS (setiS 0 (cF (.int 1)) (bin2 addK (bin2 modK (blt intK (consA (bin2 addK (bin2 mulA (varF 3) (cF (.int 40289))) (cF (.int 27367))) nilA)) (cF (.int 2147483629))) (cF (.int 1))))
    (retS (bin2 modK (blt intK (consA (bin2 divK (bin2 addK (bin2 mulA (varF 3) (cF (.int 2147483647))) (bin2 ixK (varF 0) (cF (.int 1)))) (cF (.int 8191))) nilA)) (varF 1)))))))
def F__law_take : List D → Bx → R D := runF N__law_take.length sf__law_take
def sf__law_pick  : SF := (retS (bin2 ixK (varF 1) (callF (nArgs 2 F__law_take) (consA (varF 0) (consA (blt lenK (consA (varF 1) nilA)) nilA)))))
def F__law_pick : List D → Bx → R D := runF N__law_pick.length sf__law_pick
def sf__law_frame  : SF := (seqS (setS 1 (bin2 addK (cF (.int 2)) (bin2 divK (callF (nArgs 2 F__law_take) (consA (varF 0) (consA (cF (.int 5)) nilA))) (cF (.int 4)))))
    (seqS (ownS 2 (lstN nilA))
    (seqS (forS (fun δ h => ((consA (bin2 addK (cF (.int 1)) (callF (nArgs 2 F__law_take) (consA (varF 0) (consA (cF (.int 2)) nilA)))) nilA) δ h).bind rg1K) (nameU 3)
    (appS 2 (blt tupK (consA (valN (lcN (fun δ h => ((consA (bin2 powK (varF 1) (cF (.int 2))) nilA) δ h).bind rg1K) [4] (nameU 4) yesF (callF (nArgs 2 F__law_take) (consA (varF 0) (consA (varF 1) nilA))))) nilA))))
    (retS (tupF (consA (varF 1) (consA (bin2 addK (cF (.int 1)) (callF (nArgs 2 F__law_take) (consA (varF 0) (consA (cF (.int 2)) nilA)))) (consA (callF (nArgs 2 F__law_pick) (consA (varF 0) (consA (lstF (consA (cF (.int 0)) (consA (varF 1) nilA))) nilA))) (consA (blt tupK (consA (varF 2) nilA)) (consA (callF (nArgs 2 F__law_take) (consA (varF 0) (consA (cF (.int 3)) nilA))) nilA))))))))))
def F__law_frame : List D → Bx → R D := runF N__law_frame.length sf__law_frame
def sf__law_rows (R__law_rows : List D → Bx → R D) : SF := (seqS (ownS 4 (lstN nilA))
    (seqS (forS (fun δ h => ((consA (varF 2) nilA) δ h).bind rg1K) (nameU 5)
    (seqS (ownS 6 (lcN (fun δ h => ((consA (cF (.int 3)) nilA) δ h).bind rg1K) [8] (nameU 8) yesF (callF (nArgs 2 F__law_take) (consA (varF 0) (consA (bin2 ixK (varF 1) (cF (.int 1))) nilA)))))
    (seqS (setS 7 (callF (nArgs 2 F__law_take) (consA (varF 0) (consA (iteF (testF (bin2 gtK (varF 3) (cF (.int 0)))) (cF (.int 10)) (cF (.int 7))) nilA))))
    (ifS (orT (testF (bin2 ltK (varF 7) (cF (.int 3)))) (andT (testF (bin2 ltK (varF 7) (cF (.int 5)))) (testF (bin2 (eqK false) (bin2 ixK (varF 1) (cF (.int 2))) (cF (.int 0))))))
    (appS 4 (bin2 addK (tupF (consA (cF (.str "op")) (consA (callF (nArgs 2 F__law_take) (consA (varF 0) (consA (blt lenK (consA (bin2 ixK (varF 1) (cF (.int 3))) nilA)) nilA))) nilA))) (blt tupK (consA (varF 6) nilA))))
    (ifS (testF (bin2 ltK (varF 7) (cF (.int 5))))
    (appS 4 (bin2 addK (tupF (consA (bin2 ixK (lstF (consA (cF (.str "load")) (consA (cF (.str "store")) nilA))) (bin2 subK (varF 7) (cF (.int 3)))) nilA)) (blt tupK (consA (slF (varF 6) noO (someO (cF (.int 2)))) nilA))))
    (ifS (testF (bin2 ltK (varF 7) (cF (.int 7))))
    (appS 4 (iteF (testF (bin2 (eqK false) (varF 7) (cF (.int 5)))) (tupF (consA (cF (.str "fence")) nilA)) (tupF (consA (cF (.str "op")) (consA (cF (.int 0)) (consA (bin2 ixK (varF 6) (cF (.int 0))) (consA (bin2 ixK (varF 6) (cF (.int 1))) (consA (bin2 ixK (varF 6) (cF (.int 1))) nilA))))))))
    (ifS (testF (bin2 ltK (varF 7) (cF (.int 9))))
    (appS 4 (tupF (consA (cF (.str "fork")) (consA (bin2 ixK (varF 6) (cF (.int 0))) (consA (callF (nArgs 4 R__law_rows) (consA (varF 0) (consA (varF 1) (consA (callF (nArgs 2 F__law_take) (consA (varF 0) (consA (cF (.int 3)) nilA))) (consA (bin2 subK (varF 3) (cF (.int 1))) nilA))))) (consA (callF (nArgs 4 R__law_rows) (consA (varF 0) (consA (varF 1) (consA (callF (nArgs 2 F__law_take) (consA (varF 0) (consA (cF (.int 3)) nilA))) (consA (bin2 subK (varF 3) (cF (.int 1))) nilA))))) nilA))))))
    (appS 4 (tupF (consA (cF (.str "loop")) (consA (callF (nArgs 2 F__law_take) (consA (varF 0) (consA (cF (.int 3)) nilA))) (consA (callF (nArgs 4 R__law_rows) (consA (varF 0) (consA (varF 1) (consA (callF (nArgs 2 F__law_take) (consA (varF 0) (consA (cF (.int 3)) nilA))) (consA (bin2 subK (varF 3) (cF (.int 1))) nilA))))) nilA))))))))))))
    (retS (blt tupK (consA (varF 4) nilA)))))
def F__law_rows : Nat → List D → Bx → R D
  | 0 => fun _ _ => .bad
  | n + 1 => runF N__law_rows.length (sf__law_rows (F__law_rows n))
def sf__law_datum  : SF := (retS (blt tupK (consA (valN (lcN (fun δ h => ((consA (bin2 addK (bin2 ixK (varF 1) (cF (.int 1))) (bin2 ixK (varF 1) (cF (.int 2)))) nilA) δ h).bind rg1K) [2] (nameU 2) yesF (callF (nArgs 2 F__law_take) (consA (varF 0) (consA (bin2 ixK (varF 1) (cF (.int 0))) nilA))))) nilA)))
def F__law_datum : List D → Bx → R D := runF N__law_datum.length sf__law_datum
def sf__law_plain (R__law_plain : List D → Bx → R D) : SF := (seqS (ownS 1 (lstN nilA))
    (seqS (forS (itemsI (varF 0)) (nameU 2)
    (ifS (testF (bin2 (eqK false) (bin2 ixK (varF 2) (cF (.int 0))) (cF (.str "loop"))))
    (forS (fun δ h => ((consA (bin2 ixK (varF 2) (cF (.int 1))) nilA) δ h).bind rg1K) (nameU 3)
    (extS 1 (callF (nArgs 1 R__law_plain) (consA (bin2 ixK (varF 2) (cF (.int 2))) nilA))))
    (appS 1 (iteF (testF (bin2 (eqK false) (bin2 ixK (varF 2) (cF (.int 0))) (cF (.str "fork")))) (tupF (consA (cF (.str "fork")) (consA (bin2 ixK (varF 2) (cF (.int 1))) (consA (blt tupK (consA (callF (nArgs 1 R__law_plain) (consA (bin2 ixK (varF 2) (cF (.int 2))) nilA)) nilA)) (consA (blt tupK (consA (callF (nArgs 1 R__law_plain) (consA (bin2 ixK (varF 2) (cF (.int 3))) nilA)) nilA)) nilA))))) (varF 2)))))
    (retS (varF 1))))
def F__law_plain : Nat → List D → Bx → R D
  | 0 => fun _ _ => .bad
  | n + 1 => runF N__law_plain.length (sf__law_plain (F__law_plain n))
def sf__law_is_below  : SF := (retS (andV (isiF ["int"] (varF 0)) (andV (notV (isiF ["bool"] (varF 0))) (chainF leK ltK (cF (.int 0)) (varF 0) (varF 1)))))
def F__law_is_below : List D → Bx → R D := runF N__law_is_below.length sf__law_is_below
def sf__law_are_below  : SF := (retS (andV (isiF ["tuple"] (varF 0)) (andV (bin2 (eqK false) (blt lenK (consA (varF 0) nilA)) (varF 1)) (bin2 (eqK false) (valN (lcN (itemsI (varF 0)) [3] (nameU 3) (notT (testF (callF (nArgs 2 F__law_is_below) (consA (varF 3) (consA (varF 2) nilA))))) (varF 3))) (lstF nilA)))))
def F__law_are_below : List D → Bx → R D := runF N__law_are_below.length sf__law_are_below
def sf__law_frame_due  : SF := (seqS (ifS (orT (notT (testF (isiF ["tuple"] (varF 0)))) (testF (bin2 (eqK true) (blt lenK (consA (varF 0) nilA)) (cF (.int 5)))))
    (retS (negF (cF (.int 1))))
    (fun δ h => .nx δ h))
    (seqS (ifS (orT (notT (testF (callF (nArgs 2 F__law_is_below) (consA (bin2 ixK (varF 0) (cF (.int 0))) (consA (cF (.int 4)) nilA))))) (testF (bin2 ltK (bin2 ixK (varF 0) (cF (.int 0))) (cF (.int 2)))))
    (retS (cF (.int 0)))
    (fun δ h => .nx δ h))
    (seqS (ifS (orT (notT (testF (callF (nArgs 2 F__law_is_below) (consA (bin2 ixK (varF 0) (cF (.int 1))) (consA (cF (.int 5)) nilA))))) (testF (bin2 (eqK false) (bin2 ixK (varF 0) (cF (.int 1))) (cF (.int 0)))))
    (retS (cF (.int 1)))
    (fun δ h => .nx δ h))
    (seqS (ifS (orT (notT (testF (callF (nArgs 2 F__law_is_below) (consA (bin2 ixK (varF 0) (cF (.int 2))) (consA (cF (.int 4)) nilA))))) (testF (bin2 (inK true) (bin2 ixK (varF 0) (cF (.int 2))) (lstF (consA (cF (.int 0)) (consA (bin2 ixK (varF 0) (cF (.int 0))) nilA))))))
    (retS (cF (.int 2)))
    (fun δ h => .nx δ h))
    (seqS (ifS (orT (notT (testF (isiF ["tuple"] (bin2 ixK (varF 0) (cF (.int 3)))))) (orT (testF (bin2 gtK (blt lenK (consA (bin2 ixK (varF 0) (cF (.int 3))) nilA)) (cF (.int 4)))) (testF (bin2 (eqK true) (valN (lcN (itemsI (bin2 ixK (varF 0) (cF (.int 3)))) [1] (nameU 1) (notT (testF (callF (nArgs 3 F__law_are_below) (consA (varF 1) (consA (bin2 powK (bin2 ixK (varF 0) (cF (.int 0))) (cF (.int 2))) (consA (bin2 ixK (varF 0) (cF (.int 0))) nilA)))))) (varF 1))) (lstF nilA)))))
    (retS (cF (.int 3)))
    (fun δ h => .nx δ h))
    (retS (iteF (testF (callF (nArgs 2 F__law_is_below) (consA (bin2 ixK (varF 0) (cF (.int 4))) (consA (cF (.int 4)) nilA)))) (cF .non) (cF (.int 4)))))))))
def F__law_frame_due : List D → Bx → R D := runF N__law_frame_due.length sf__law_frame_due
def sf__law_is_row (R__law_is_row : List D → Bx → R D) (R__law_due : List D → Bx → R D) : SF := (seqS (ifS (orT (notT (testF (isiF ["tuple"] (varF 1)))) (orT (testF (bin2 (eqK false) (varF 1) (tupF nilA))) (testF (bin2 (inK true) (bin2 ixK (varF 1) (cF (.int 0))) (lstF (consA (cF (.str "op")) (consA (cF (.str "load")) (consA (cF (.str "store")) (consA (cF (.str "fence")) (consA (cF (.str "fork")) (consA (cF (.str "loop")) nilA)))))))))))
    (retS (cF (.bl false)))
    (fun δ h => .nx δ h))
    (seqS (ifS (testF (bin2 (eqK true) (blt lenK (consA (varF 1) nilA)) (bin2 ixK (lstF (consA (cF (.int 5)) (consA (cF (.int 3)) (consA (cF (.int 3)) (consA (cF (.int 1)) (consA (cF (.int 4)) (consA (cF (.int 3)) nilA))))))) (idxF (lstF (consA (cF (.str "op")) (consA (cF (.str "load")) (consA (cF (.str "store")) (consA (cF (.str "fence")) (consA (cF (.str "fork")) (consA (cF (.str "loop")) nilA))))))) (bin2 ixK (varF 1) (cF (.int 0)))))))
    (retS (cF (.bl false)))
    (fun δ h => .nx δ h))
    (seqS (ifS (testF (bin2 (eqK false) (bin2 ixK (varF 1) (cF (.int 0))) (cF (.str "op"))))
    (retS (andV (callF (nArgs 2 F__law_is_below) (consA (bin2 ixK (varF 1) (cF (.int 1))) (consA (blt lenK (consA (bin2 ixK (varF 0) (cF (.int 3))) nilA)) nilA))) (callF (nArgs 3 F__law_are_below) (consA (slF (varF 1) (someO (cF (.int 2))) noO) (consA (cF (.int 3)) (consA (bin2 ixK (varF 0) (cF (.int 1))) nilA))))))
    (fun δ h => .nx δ h))
    (seqS (ifS (testF (bin2 (inK false) (bin2 ixK (varF 1) (cF (.int 0))) (lstF (consA (cF (.str "load")) (consA (cF (.str "store")) nilA)))))
    (retS (andV (bin2 gtK (bin2 ixK (varF 0) (cF (.int 2))) (cF (.int 0))) (callF (nArgs 3 F__law_are_below) (consA (slF (varF 1) (someO (cF (.int 1))) noO) (consA (cF (.int 2)) (consA (bin2 ixK (varF 0) (cF (.int 1))) nilA))))))
    (fun δ h => .nx δ h))
    (seqS (ifS (testF (bin2 (eqK false) (bin2 ixK (varF 1) (cF (.int 0))) (cF (.str "fork"))))
    (retS (andV (callF (nArgs 2 F__law_is_below) (consA (bin2 ixK (varF 1) (cF (.int 1))) (consA (bin2 ixK (varF 0) (cF (.int 1))) nilA))) (andV (bin2 isNK (callF (nArgs 2 R__law_due) (consA (varF 0) (consA (bin2 ixK (varF 1) (cF (.int 2))) nilA))) (cF .non)) (bin2 isNK (callF (nArgs 2 R__law_due) (consA (varF 0) (consA (bin2 ixK (varF 1) (cF (.int 3))) nilA))) (cF .non)))))
    (fun δ h => .nx δ h))
    (retS (orV (bin2 (eqK false) (bin2 ixK (varF 1) (cF (.int 0))) (cF (.str "fence"))) (andV (callF (nArgs 2 F__law_is_below) (consA (bin2 ixK (varF 1) (cF (.int 1))) (consA (cF (.int 5)) nilA))) (bin2 isNK (callF (nArgs 2 R__law_due) (consA (varF 0) (consA (bin2 ixK (varF 1) (cF (.int 2))) nilA))) (cF .non))))))))))
def sf__law_due (R__law_is_row : List D → Bx → R D) (R__law_due : List D → Bx → R D) : SF := (seqS (ifS (notT (testF (isiF ["tuple"] (varF 1))))
    (retS (negF (cF (.int 1))))
    (fun δ h => .nx δ h))
    (seqS (ownS 2 (lcN (fun δ h => ((consA (varF 1) nilA) δ h).bind fun ds h1 => enumK ds δ h1) [3, 4] (tupU 2 (consU (nameU 3) (consU (nameU 4) nilU))) (notT (testF (callF (nArgs 2 R__law_is_row) (consA (varF 0) (consA (varF 4) nilA))))) (varF 3)))
    (retS (iteF (testF (bin2 (eqK false) (varF 2) (lstF nilA))) (cF .non) (bin2 ixK (varF 2) (cF (.int 0)))))))
mutual
def F__law_is_row : Nat → List D → Bx → R D
  | 0 => fun _ _ => .bad
  | n + 1 => runF N__law_is_row.length (sf__law_is_row (F__law_is_row n) (F__law_due n))
def F__law_due : Nat → List D → Bx → R D
  | 0 => fun _ _ => .bad
  | n + 1 => runF N__law_due.length (sf__law_due (F__law_is_row n) (F__law_due n))
end
def sf__law_bent (R__law_bent : List D → Bx → R D) : SF := (seqS (ifS (andT (testF (bin2 gtK (varF 2) (cF (.int 0)))) (andT (testF (isiF ["tuple"] (varF 1))) (andT (testF (bin2 (eqK true) (varF 1) (tupF nilA))) (testF (bin2 gtK (callF (nArgs 2 F__law_take) (consA (varF 0) (consA (cF (.int 6)) nilA))) (cF (.int 0)))))))
    (seqS (setS 3 (callF (nArgs 2 F__law_take) (consA (varF 0) (consA (blt lenK (consA (varF 1) nilA)) nilA))))
    (retS (bin2 addK (bin2 addK (slF (varF 1) noO (someO (varF 3))) (tupF (consA (callF (nArgs 3 R__law_bent) (consA (varF 0) (consA (bin2 ixK (varF 1) (varF 3)) (consA (bin2 subK (varF 2) (cF (.int 1))) nilA)))) nilA))) (slF (varF 1) (someO (bin2 addK (varF 3) (cF (.int 1)))) noO))))
    (fun δ h => .nx δ h))
    (seqS (ifS (testF (isiF ["tuple"] (varF 1)))
    (retS (callF (nArgs 2 F__law_pick) (consA (varF 0) (consA (lstF (consA (valN (listN (consA (varF 1) nilA))) (consA (bin2 addK (varF 1) (slF (varF 1) noO (someO (cF (.int 1))))) (consA (slF (varF 1) (someO (cF (.int 1))) noO) (consA (revF (varF 1)) (consA (cF .non) (consA (bin2 addK (varF 1) (tupF (consA (cF (.int 0)) nilA))) nilA))))))) nilA))))
    (fun δ h => .nx δ h))
    (seqS (ifS (testF (isiF ["str"] (varF 1)))
    (retS (callF (nArgs 2 F__law_pick) (consA (varF 0) (consA (lstF (consA (cF (.str "op")) (consA (cF (.str "load")) (consA (cF (.str "store")) (consA (cF (.str "fence")) (consA (cF (.str "fork")) (consA (cF (.str "loop")) (consA (cF (.str "row")) (consA (cF .non) nilA))))))))) nilA))))
    (fun δ h => .nx δ h))
    (retS (callF (nArgs 2 F__law_pick) (consA (varF 0) (consA (lstF (consA (cF .non) (consA (cF (.int 0)) (consA (cF (.int 1)) (consA (cF (.int 2)) (consA (cF (.int 3)) (consA (cF (.int 4)) (consA (cF (.int 5)) (consA (negF (cF (.int 1))) (consA (cF (.bl true)) (consA (cF (.str "1")) nilA))))))))))) nilA)))))))
def F__law_bent : Nat → List D → Bx → R D
  | 0 => fun _ _ => .bad
  | n + 1 => runF N__law_bent.length (sf__law_bent (F__law_bent n))
def sf__law_heard (Λ : Nat → Bx → R D) : SF := (tryS xtab xbase (retS (tupF (consA (cF (.str "is")) (consA (actF Λ 0) nilA)))) (("InvalidFrame", fun fs δ h => dropE 1 (retS (xtF "at" (.str "frame") fs) (δ.set 1 .no) h)) :: (("InvalidDatum", fun fs δ h => dropE 1 (retS (xtF "at" (.str "datum") fs) (δ.set 1 .no) h)) :: (("InvalidProgram", fun fs δ h => dropE 1 (retS (xtF "at" (.str "program") fs) (δ.set 1 .no) h)) :: []))))
abbrev ld_law_0 : LamD := lamOf (inAt (inAt (exAt (stAt (stAt (stAt s_law 0 2) 0 7) 0 2) 0) 0) 1)
def lf_law_0 : EF := (callF (nArgs 1 F_need_frame) (consA (varF 11) nilA))
theorem ls_law_0 : LamX.LamS (defScope s_law) ld_law_0.scope := LamX.lamS_by (by decide +kernel)
abbrev ld_law_1 : LamD := lamOf (inAt (inAt (exAt (stAt (stAt (stAt s_law 0 2) 0 7) 0 5) 0) 0) 1)
def lf_law_1 : EF := (callF (nArgs 2 F_need_program) (consA (varF 1) (consA (varF 13) nilA)))
theorem ls_law_1 : LamX.LamS (defScope s_law) ld_law_1.scope := LamX.lamS_by (by decide +kernel)
abbrev ld_law_2 : LamD := lamOf (inAt (inAt (exAt (stAt (stAt (stAt s_law 0 2) 0 7) 0 8) 0) 0) 1)
def lf_law_2 : EF := (callF (nArgs 2 F_need_datum) (consA (varF 1) (consA (varF 14) nilA)))
theorem ls_law_2 : LamX.LamS (defScope s_law) ld_law_2.scope := LamX.lamS_by (by decide +kernel)
abbrev ld_law_3 : LamD := lamOf (inAt (inAt (exAt (stAt (stAt s_law 0 2) 0 8) 0) 0) 0)
def lf_law_3 : EF := (callF (nArgs 2 F_unrolled) (consA (cF .non) (consA (cF .non) nilA)))
theorem ls_law_3 : LamX.LamS (defScope s_law) ld_law_3.scope := LamX.lamS_by (by decide +kernel)
abbrev ld_law_4 : LamD := lamOf (inAt (inAt (exAt (stAt (stAt s_law 0 2) 0 9) 0) 1) 0)
def lf_law_4 : EF := (callF (nArgs 2 F_unrolled) (consA (varF 1) (consA (cF .non) nilA)))
theorem ls_law_4 : LamX.LamS (defScope s_law) ld_law_4.scope := LamX.lamS_by (by decide +kernel)
abbrev ld_law_5 : LamD := lamOf (inAt (inAt (exAt (stAt (stAt s_law 0 2) 0 10) 0) 1) 0)
def lf_law_5 : EF := (callF (nArgs 1 F_all_data) (consA (slF (varF 1) noO (someO (cF (.int 4)))) nilA))
theorem ls_law_5 : LamX.LamS (defScope s_law) ld_law_5.scope := LamX.lamS_by (by decide +kernel)
abbrev lt_law : List LamD := [ld_law_0, ld_law_1, ld_law_2, ld_law_3, ld_law_4, ld_law_5]
def bod_law (k : Nat) : EF := match k with
  | 0 => lf_law_0
  | 1 => lf_law_1
  | 2 => lf_law_2
  | 3 => lf_law_3
  | 4 => lf_law_4
  | 5 => lf_law_5
  | _ => fun _ _ => .bad
def sf_law  : SF := (seqS (setS 1 (tupF (consA (cF (.int 2)) (consA (cF (.int 1)) (consA (cF (.int 2)) (consA (tupF nilA) (consA (cF (.int 1)) nilA)))))))
    (seqS (ifS (orT (testF (bin2 (eqK true) (bin2 ixK (callF (nArgs 1 F_all_data) (consA (varF 1) nilA)) (cF (.int 3))) (tupF (consA (cF (.int 0)) (consA (cF (.int 1)) (consA (cF (.int 1)) nilA)))))) (orT (testF (bin2 (eqK true) (blt lenK (consA (callF (nArgs 1 F_all_data) (consA (varF 1) nilA)) nilA)) (cF (.int 8)))) (testF (bin2 (eqK true) (callF (nArgs 2 F_unrolled) (consA (varF 1) (consA (tupF (consA (tupF (consA (cF (.str "loop")) (consA (cF (.int 2)) (consA (tupF (consA (tupF (consA (cF (.str "fence")) nilA)) nilA)) nilA)))) (consA (tupF (consA (cF (.str "loop")) (consA (cF (.int 0)) (consA (tupF (consA (tupF (consA (cF (.str "fence")) nilA)) nilA)) nilA)))) nilA))) nilA))) (bin2 mulA (tupF (consA (tupF (consA (cF (.str "fence")) nilA)) nilA)) (cF (.int 2)))))))
    (retS (cF (.bl false)))
    (fun δ h => .nx δ h))
    (seqS (forS (fun δ h => ((consA (cF (.int 2)) nilA) δ h).bind rg1K) (nameU 2)
    (seqS (setS 3 (callF (nArgs 2 F__law_box) (consA (varF 0) (consA (varF 2) nilA))))
    (seqS (setS 1 (callF (nArgs 1 F__law_frame) (consA (varF 3) nilA)))
    (seqS (parS [4, 5] (consX (callF (nArgs 4 (F__law_rows rf)) (consA (varF 3) (consA (varF 1) (consA (callF (nArgs 2 F__law_take) (consA (varF 3) (consA (cF (.int 6)) nilA))) (consA (cF (.int 2)) nilA))))) (consX (callF (nArgs 2 F__law_datum) (consA (varF 3) (consA (varF 1) nilA))) nilX)))
    (seqS (ifS (orT (testF (bin2 (eqK true) (callKwF 1 [0] F_need_frame (consA (varF 1) nilA)) (varF 1))) (orT (testF (bin2 (eqK true) (callKwF 2 [0, 1] F_need_program (consA (varF 1) (consA (varF 4) nilA))) (varF 4))) (testF (bin2 (eqK true) (callKwF 2 [0, 1] F_need_datum (consA (varF 1) (consA (varF 5) nilA))) (varF 5)))))
    (retS (cF (.bl false)))
    (fun δ h => .nx δ h))
    (seqS (setS 6 (lstF (consA (tupF nilA) nilA)))
    (seqS (forS (fun δ h => ((consA (bin2 addK (bin2 ixK (varF 1) (cF (.int 1))) (bin2 ixK (varF 1) (cF (.int 2)))) nilA) δ h).bind rg1K) (nameU 7)
    (seqS (ownS 8 (lstN nilA))
    (seqS (forS (itemsI (varF 6)) (nameU 9)
    (extS 8 (valN (lcN (fun δ h => ((consA (bin2 ixK (varF 1) (cF (.int 0))) nilA) δ h).bind rg1K) [17] (nameU 17) yesF (bin2 addK (varF 9) (tupF (consA (varF 17) nilA)))))))
    (frzS 8 (setS 6 (varF 8))))))
    (seqS (ifS (orT (testF (bin2 (eqK true) (callKwF 1 [0] F_all_data (consA (varF 1) nilA)) (blt tupK (consA (varF 6) nilA)))) (testF (bin2 (eqK true) (callKwF 2 [0, 1] F_unrolled (consA (varF 1) (consA (varF 4) nilA))) (blt tupK (consA (callF (nArgs 1 (F__law_plain rf)) (consA (varF 4) nilA)) nilA)))))
    (retS (cF (.bl false)))
    (fun δ h => .nx δ h))
    (seqS (forS (fun δ h => ((consA (cF (.int 5)) nilA) δ h).bind rg1K) (nameU 10)
    (seqS (setS 11 (callF (nArgs 3 (F__law_bent rf)) (consA (varF 3) (consA (varF 1) (consA (cF (.int 4)) nilA)))))
    (seqS (setS 12 (callF (nArgs 1 F__law_frame_due) (consA (varF 11) nilA)))
    (seqS (ifS (testF (bin2 (eqK true) (fun δ h => ((cF (.lam 0)) δ h).bind fun d h1 => heardF bod_law N__law_heard.length sf__law_heard δ d h1) (iteF (testF (bin2 isNK (varF 12) (cF .non))) (tupF (consA (cF (.str "is")) (consA (varF 11) nilA))) (tupF (consA (cF (.str "frame")) (consA (varF 12) nilA))))))
    (retS (cF (.bl false)))
    (fun δ h => .nx δ h))
    (seqS (setS 13 (callF (nArgs 3 (F__law_bent rf)) (consA (varF 3) (consA (varF 4) (consA (cF (.int 6)) nilA)))))
    (seqS (setS 12 (callF (nArgs 2 (F__law_due rf)) (consA (varF 1) (consA (varF 13) nilA))))
    (seqS (ifS (testF (bin2 (eqK true) (fun δ h => ((cF (.lam 1)) δ h).bind fun d h1 => heardF bod_law N__law_heard.length sf__law_heard δ d h1) (iteF (testF (bin2 isNK (varF 12) (cF .non))) (tupF (consA (cF (.str "is")) (consA (varF 13) nilA))) (tupF (consA (cF (.str "program")) (consA (varF 12) nilA))))))
    (retS (cF (.bl false)))
    (fun δ h => .nx δ h))
    (seqS (setS 14 (callF (nArgs 3 (F__law_bent rf)) (consA (varF 3) (consA (varF 5) (consA (cF (.int 2)) nilA)))))
    (seqS (setS 15 (callF (nArgs 3 F__law_are_below) (consA (varF 14) (consA (bin2 addK (bin2 ixK (varF 1) (cF (.int 1))) (bin2 ixK (varF 1) (cF (.int 2)))) (consA (bin2 ixK (varF 1) (cF (.int 0))) nilA)))))
    (ifS (testF (bin2 (eqK true) (fun δ h => ((cF (.lam 2)) δ h).bind fun d h1 => heardF bod_law N__law_heard.length sf__law_heard δ d h1) (iteF (testF (varF 15)) (tupF (consA (cF (.str "is")) (consA (varF 14) nilA))) (tupF (consA (cF (.str "datum")) (consA (negF (cF (.int 1))) nilA))))))
    (retS (cF (.bl false)))
    (fun δ h => .nx δ h)))))))))))
    (seqS (ownS 16 (lstN (consA (tupF (consA (cF (.lam 3)) (consA (tupF (consA (cF (.str "frame")) (consA (negF (cF (.int 1))) nilA))) nilA))) nilA)))
    (seqS (appS 16 (tupF (consA (cF (.lam 4)) (consA (tupF (consA (cF (.str "program")) (consA (negF (cF (.int 1))) nilA))) nilA))))
    (seqS (appS 16 (tupF (consA (cF (.lam 5)) (consA (tupF (consA (cF (.str "frame")) (consA (negF (cF (.int 1))) nilA))) nilA))))
    (frzS 16 (ifS (testF (bin2 (eqK true) (valN (lcNL (itemsI (varF 16)) [18, 19] (tupU 2 (consU (nameU 18) (consU (nameU 19) nilU))) (fun δ0 => (testF (bin2 (eqK true) (fun δ h => ((varF 18) δ h).bind fun d h1 => heardF bod_law N__law_heard.length sf__law_heard δ0 d h1) (varF 19)))) (fun δ0 => (varF 18)))) (lstF nilA)))
    (retS (cF (.bl false)))
    (fun δ h => .nx δ h)))))))))))))))
    (retS (cF (.bl true))))))
def F_law : List D → Bx → R D := runF N_law.length sf_law
structure Pk (P : Program) (w : World) (K : PySem.W.Frag) (mg : Str → Option Value) (base : Heap) where
  tb : List (Addr × Str)
  a_is_integer : Addr
  fd_is_integer : FuncData
  F_is_integer : Fun K "is_integer" "is_integer" s_is_integer a_is_integer fd_is_integer
  g_is_integer : mg "is_integer" = some (.ref a_is_integer)
  b_is_integer : Binds K fd_is_integer ps_is_integer []
  a_is_number : Addr
  fd_is_number : FuncData
  F_is_number : Fun K "is_number" "is_number" s_is_number a_is_number fd_is_number
  g_is_number : mg "is_number" = some (.ref a_is_number)
  b_is_number : Binds K fd_is_number ps_is_number []
  a_is_below : Addr
  fd_is_below : FuncData
  F_is_below : Fun K "is_below" "is_below" s_is_below a_is_below fd_is_below
  g_is_below : mg "is_below" = some (.ref a_is_below)
  b_is_below : Binds K fd_is_below ps_is_below []
  a_is_string : Addr
  fd_is_string : FuncData
  F_is_string : Fun K "is_string" "is_string" s_is_string a_is_string fd_is_string
  g_is_string : mg "is_string" = some (.ref a_is_string)
  b_is_string : Binds K fd_is_string ps_is_string []
  a_is_table : Addr
  fd_is_table : FuncData
  F_is_table : Fun K "is_table" "is_table" s_is_table a_is_table fd_is_table
  g_is_table : mg "is_table" = some (.ref a_is_table)
  b_is_table : Binds K fd_is_table ps_is_table []
  a_need_frame : Addr
  fd_need_frame : FuncData
  F_need_frame : Fun K "need_frame" "need_frame" s_need_frame a_need_frame fd_need_frame
  g_need_frame : mg "need_frame" = some (.ref a_need_frame)
  b_need_frame : Binds K fd_need_frame ps_need_frame []
  a_value_rows : Addr
  fd_value_rows : FuncData
  F_value_rows : Fun K "value_rows" "value_rows" s_value_rows a_value_rows fd_value_rows
  g_value_rows : mg "value_rows" = some (.ref a_value_rows)
  b_value_rows : Binds K fd_value_rows ps_value_rows []
  a_all_data : Addr
  fd_all_data : FuncData
  F_all_data : Fun K "all_data" "all_data" s_all_data a_all_data fd_all_data
  g_all_data : mg "all_data" = some (.ref a_all_data)
  b_all_data : Binds K fd_all_data ps_all_data []
  a_is_datum : Addr
  fd_is_datum : FuncData
  F_is_datum : Fun K "is_datum" "is_datum" s_is_datum a_is_datum fd_is_datum
  g_is_datum : mg "is_datum" = some (.ref a_is_datum)
  b_is_datum : Binds K fd_is_datum ps_is_datum []
  a_need_datum : Addr
  fd_need_datum : FuncData
  F_need_datum : Fun K "need_datum" "need_datum" s_need_datum a_need_datum fd_need_datum
  g_need_datum : mg "need_datum" = some (.ref a_need_datum)
  b_need_datum : Binds K fd_need_datum ps_need_datum []
  a_are_rows : Addr
  fd_are_rows : FuncData
  F_are_rows : Fun K "are_rows" "are_rows" s_are_rows a_are_rows fd_are_rows
  g_are_rows : mg "are_rows" = some (.ref a_are_rows)
  b_are_rows : Binds K fd_are_rows ps_are_rows []
  a_is_row : Addr
  fd_is_row : FuncData
  F_is_row : Fun K "is_row" "is_row" s_is_row a_is_row fd_is_row
  g_is_row : mg "is_row" = some (.ref a_is_row)
  b_is_row : Binds K fd_is_row ps_is_row []
  a_need_program : Addr
  fd_need_program : FuncData
  F_need_program : Fun K "need_program" "need_program" s_need_program a_need_program fd_need_program
  g_need_program : mg "need_program" = some (.ref a_need_program)
  b_need_program : Binds K fd_need_program ps_need_program []
  a_plain_rows : Addr
  fd_plain_rows : FuncData
  F_plain_rows : Fun K "plain_rows" "plain_rows" s_plain_rows a_plain_rows fd_plain_rows
  g_plain_rows : mg "plain_rows" = some (.ref a_plain_rows)
  b_plain_rows : Binds K fd_plain_rows ps_plain_rows []
  a_unrolled : Addr
  fd_unrolled : FuncData
  F_unrolled : Fun K "unrolled" "unrolled" s_unrolled a_unrolled fd_unrolled
  g_unrolled : mg "unrolled" = some (.ref a_unrolled)
  b_unrolled : Binds K fd_unrolled ps_unrolled []
  a__law_box : Addr
  fd__law_box : FuncData
  F__law_box : Fun K "_law_box" "_law_box" s__law_box a__law_box fd__law_box
  g__law_box : mg "_law_box" = some (.ref a__law_box)
  b__law_box : Binds K fd__law_box ps__law_box []
  a__law_take : Addr
  fd__law_take : FuncData
  F__law_take : Fun K "_law_take" "_law_take" s__law_take a__law_take fd__law_take
  g__law_take : mg "_law_take" = some (.ref a__law_take)
  b__law_take : Binds K fd__law_take ps__law_take []
  a__law_pick : Addr
  fd__law_pick : FuncData
  F__law_pick : Fun K "_law_pick" "_law_pick" s__law_pick a__law_pick fd__law_pick
  g__law_pick : mg "_law_pick" = some (.ref a__law_pick)
  b__law_pick : Binds K fd__law_pick ps__law_pick []
  a__law_frame : Addr
  fd__law_frame : FuncData
  F__law_frame : Fun K "_law_frame" "_law_frame" s__law_frame a__law_frame fd__law_frame
  g__law_frame : mg "_law_frame" = some (.ref a__law_frame)
  b__law_frame : Binds K fd__law_frame ps__law_frame []
  a__law_rows : Addr
  fd__law_rows : FuncData
  F__law_rows : Fun K "_law_rows" "_law_rows" s__law_rows a__law_rows fd__law_rows
  g__law_rows : mg "_law_rows" = some (.ref a__law_rows)
  b__law_rows : Binds K fd__law_rows ps__law_rows []
  a__law_datum : Addr
  fd__law_datum : FuncData
  F__law_datum : Fun K "_law_datum" "_law_datum" s__law_datum a__law_datum fd__law_datum
  g__law_datum : mg "_law_datum" = some (.ref a__law_datum)
  b__law_datum : Binds K fd__law_datum ps__law_datum []
  a__law_plain : Addr
  fd__law_plain : FuncData
  F__law_plain : Fun K "_law_plain" "_law_plain" s__law_plain a__law_plain fd__law_plain
  g__law_plain : mg "_law_plain" = some (.ref a__law_plain)
  b__law_plain : Binds K fd__law_plain ps__law_plain []
  a__law_is_below : Addr
  fd__law_is_below : FuncData
  F__law_is_below : Fun K "_law_is_below" "_law_is_below" s__law_is_below a__law_is_below fd__law_is_below
  g__law_is_below : mg "_law_is_below" = some (.ref a__law_is_below)
  b__law_is_below : Binds K fd__law_is_below ps__law_is_below []
  a__law_are_below : Addr
  fd__law_are_below : FuncData
  F__law_are_below : Fun K "_law_are_below" "_law_are_below" s__law_are_below a__law_are_below fd__law_are_below
  g__law_are_below : mg "_law_are_below" = some (.ref a__law_are_below)
  b__law_are_below : Binds K fd__law_are_below ps__law_are_below []
  a__law_frame_due : Addr
  fd__law_frame_due : FuncData
  F__law_frame_due : Fun K "_law_frame_due" "_law_frame_due" s__law_frame_due a__law_frame_due fd__law_frame_due
  g__law_frame_due : mg "_law_frame_due" = some (.ref a__law_frame_due)
  b__law_frame_due : Binds K fd__law_frame_due ps__law_frame_due []
  a__law_is_row : Addr
  fd__law_is_row : FuncData
  F__law_is_row : Fun K "_law_is_row" "_law_is_row" s__law_is_row a__law_is_row fd__law_is_row
  g__law_is_row : mg "_law_is_row" = some (.ref a__law_is_row)
  b__law_is_row : Binds K fd__law_is_row ps__law_is_row []
  a__law_due : Addr
  fd__law_due : FuncData
  F__law_due : Fun K "_law_due" "_law_due" s__law_due a__law_due fd__law_due
  g__law_due : mg "_law_due" = some (.ref a__law_due)
  b__law_due : Binds K fd__law_due ps__law_due []
  a__law_bent : Addr
  fd__law_bent : FuncData
  F__law_bent : Fun K "_law_bent" "_law_bent" s__law_bent a__law_bent fd__law_bent
  g__law_bent : mg "_law_bent" = some (.ref a__law_bent)
  b__law_bent : Binds K fd__law_bent ps__law_bent []
  a__law_heard : Addr
  fd__law_heard : FuncData
  F__law_heard : Fun K "_law_heard" "_law_heard" s__law_heard a__law_heard fd__law_heard
  g__law_heard : mg "_law_heard" = some (.ref a__law_heard)
  b__law_heard : Binds K fd__law_heard ps__law_heard []
  a_law : Addr
  fd_law : FuncData
  F_law : Fun K "law" "law" s_law a_law fd_law
  g_law : mg "law" = some (.ref a_law)
  b_law : Binds K fd_law ps_law []
  ca_law : Addr
  P_law : Addr
  C_law : FunC K "law" s_law a_law fd_law ca_law
  tb_law : LamX.TabB base mg ca_law P_law
  tm_law : (P_law, qn_law) ∈ tb
  tu_law : ∀ p ∈ tb, p.1 = P_law → p.2 = qn_law
  kw_need_frame_0 : KwB fd_need_frame ps_need_frame ["value"] [0]
  kw_need_program_0_1 : KwB fd_need_program ps_need_program ["frame", "value"] [0, 1]
  kw_need_datum_0_1 : KwB fd_need_datum ps_need_datum ["frame", "value"] [0, 1]
  kw_all_data_0 : KwB fd_all_data ps_all_data ["frame"] [0]
  kw_unrolled_0_1 : KwB fd_unrolled ps_unrolled ["frame", "program"] [0, 1]
  n_abs : mg "abs" = none
  n_all : mg "all" = none
  n_bool : mg "bool" = none
  n_enumerate : mg "enumerate" = none
  n_int : mg "int" = none
  n_isinstance : mg "isinstance" = none
  n_len : mg "len" = none
  n_list : mg "list" = none
  n_range : mg "range" = none
  n_str : mg "str" = none
  n_tuple : mg "tuple" = none
  k_MOST_DEEP : Tok
  c_MOST_DEEP : mg "MOST_DEEP" = some (.int 3 k_MOST_DEEP)
  k_MOST_TABLES : Tok
  c_MOST_TABLES : mg "MOST_TABLES" = some (.int 4 k_MOST_TABLES)
  k_MOST_TIMES : Tok
  c_MOST_TIMES : mg "MOST_TIMES" = some (.int 4 k_MOST_TIMES)
  p_ROW_SIZES : Addr
  m_ROW_SIZES : mg "ROW_SIZES" = some (.ref p_ROW_SIZES)
  t_ROW_SIZES : KTab K w p_ROW_SIZES tab_ROW_SIZES
  ax_InvalidDatum : Addr
  gx_InvalidDatum : mg "InvalidDatum" = some (.ref ax_InvalidDatum)
  ax_InvalidFrame : Addr
  gx_InvalidFrame : mg "InvalidFrame" = some (.ref ax_InvalidFrame)
  ax_InvalidProgram : Addr
  gx_InvalidProgram : mg "InvalidProgram" = some (.ref ax_InvalidProgram)
  xt : ExT K P mg xtab xbase
section
variable {P : Program} {w : World} {K : PySem.W.Frag} {mg : Str → Option Value} {base : Heap}
theorem ok_is_integer (T : Pk P w K mg base) : FnOk P w K mg base (L2.CX P w) 1 T.a_is_integer T.fd_is_integer ps_is_integer (spF K mg T.tb ps_is_integer.length F_is_integer) :=
  fn_ok (N := N_is_integer) (sf := sf_is_integer) T.F_is_integer sc_is_integer fun cdv A outer s H E M r L hr =>
    (ess_one (es_ret (ev_and (ev_isi (T := "int") rfl T.n_isinstance rfl T.n_int (by decide +kernel) (ev_var (i := 0) rfl (.inl rfl)) rfl (by decide +kernel)) (ev_one (ev_not (ev_isi (T := "bool") rfl T.n_isinstance rfl T.n_bool (by decide +kernel) (ev_var (i := 0) rfl (.inl rfl)) rfl (by decide +kernel)))))))
theorem ok_is_number (T : Pk P w K mg base) : FnOk P w K mg base (L2.CX P w) 2 T.a_is_number T.fd_is_number ps_is_number (spF K mg T.tb ps_is_number.length F_is_number) :=
  fn_ok (N := N_is_number) (sf := sf_is_number) T.F_is_number sc_is_number fun cdv A outer s H E M r L hr =>
    (ess_one (es_ret (ev_and (ev_call (n := 1) ((ok_is_integer T).mono (show 1 ≤ 1 by decide)) hr (takes_of rfl rfl rfl rfl) rfl T.g_is_integer T.F_is_integer.kp T.b_is_integer (eva_cons (ev_var (i := 0) rfl (.inl rfl)) eva_nil)) (ev_one (ev_cmp op_ge geK_ok (ev_var (i := 0) rfl (.inl rfl)) ev_int (nomark _))))))
theorem ok_is_below (T : Pk P w K mg base) : FnOk P w K mg base (L2.CX P w) 3 T.a_is_below T.fd_is_below ps_is_below (spF K mg T.tb ps_is_below.length F_is_below) :=
  fn_ok (N := N_is_below) (sf := sf_is_below) T.F_is_below sc_is_below fun cdv A outer s H E M r L hr =>
    (ess_one (es_ret (ev_and (ev_call (n := 1) ((ok_is_number T).mono (show 2 ≤ 2 by decide)) hr (takes_of rfl rfl rfl rfl) rfl T.g_is_number T.F_is_number.kp T.b_is_number (eva_cons (ev_var (i := 0) rfl (.inl rfl)) eva_nil)) (ev_one (ev_cmp op_lt ltK_ok (ev_var (i := 0) rfl (.inl rfl)) (ev_var (i := 1) rfl (.inl rfl)) (nomark _))))))
theorem ok_is_string (T : Pk P w K mg base) : FnOk P w K mg base (L2.CX P w) 1 T.a_is_string T.fd_is_string ps_is_string (spF K mg T.tb ps_is_string.length F_is_string) :=
  fn_ok (N := N_is_string) (sf := sf_is_string) T.F_is_string sc_is_string fun cdv A outer s H E M r L hr =>
    (ess_one (es_ret (ev_isi (T := "str") rfl T.n_isinstance rfl T.n_str (by decide +kernel) (ev_var (i := 0) rfl (.inl rfl)) rfl (by decide +kernel))))
theorem ok_is_table (T : Pk P w K mg base) : FnOk P w K mg base (L2.CX P w) 4 T.a_is_table T.fd_is_table ps_is_table (spF K mg T.tb ps_is_table.length F_is_table) :=
  fn_ok (N := N_is_table) (sf := sf_is_table) T.F_is_table sc_is_table fun cdv A outer s H E M r L hr =>
    (ess_one (es_ret (ev_and (ev_isi (T := "tuple") rfl T.n_isinstance rfl T.n_tuple (by decide +kernel) (ev_var (i := 1) rfl (.inl rfl)) rfl (by decide +kernel)) (ev_and (ev_cmp (op_eqP hr.units) (eqK_ok false) (ev_callB call_lenK lenK_ok rfl T.n_len (by decide +kernel) (eva_cons (ev_var (i := 1) rfl (.inl rfl)) eva_nil)) (ev_op op_mulA mulA_ok (ev_var (i := 0) rfl (.inr (.inl rfl))) (ev_var (i := 0) rfl (.inr (.inl rfl)))) (nomark _)) (ev_one (ev_callB (cr_all rfl) allK_ok rfl T.n_all (by decide +kernel) (eva_cons (ev_valN (evn_lc (own := [("one", 2)]) (ts := [2]) rfl sc_is_table.nd (evi_seq (ev_var (i := 1) rfl (.inl rfl)) rfl) (show BlkOk N_is_table (defScope s_is_table) _ [("one", 2)] from ⟨rfl, by decide +kernel, by decide +kernel, by decide +kernel, by decide +kernel⟩) (by decide) (fun _ _ _ _ _ => (evg_name (i := 2) sc_is_table.nd rfl (.inl rfl))) (fun _ _ _ _ _ => evts_nil) (fun _ _ _ _ _ => (ev_call (n := 2) ((ok_is_below T).mono (show 3 ≤ 3 by decide)) hr takes0 rfl T.g_is_below T.F_is_below.kp T.b_is_below (eva_cons (ev_var (i := 2) rfl (.inl rfl)) (eva_cons (ev_var (i := 0) rfl (.inr (.inl rfl))) eva_nil)))))) eva_nil)))))))
theorem ok_need_frame (T : Pk P w K mg base) : FnOk P w K mg base (L2.CX P w) 5 T.a_need_frame T.fd_need_frame ps_need_frame (spF K mg T.tb ps_need_frame.length F_need_frame) :=
  fn_ok (N := N_need_frame) (sf := sf_need_frame) T.F_need_frame sc_need_frame fun cdv A outer s H E M r L hr =>
    (ess_cons (es_if (evt_w (evw_or (evt_not (evt_val (ev_isi (T := "tuple") rfl T.n_isinstance rfl T.n_tuple (by decide +kernel) (ev_var (i := 0) rfl (.inl rfl)) rfl (by decide +kernel)) fun _ => rfl)) (evw_or1 (evt_cmp (op_neP hr.units) (eqK_ok true) (ev_callB call_lenK lenK_ok rfl T.n_len (by decide +kernel) (eva_cons (ev_var (i := 0) rfl (.inl rfl)) eva_nil)) ev_int (nomark _)))))
    (ess_one (es_raise (k := 0) (T.xt.cls ("InvalidFrame", "at") (by decide)) rfl rfl (takes_of rfl rfl rfl rfl) (hr.mono (show 1 ≤ 4 by decide)) rfl (ev_neg ev_int)))
    ess_nil)
    (ess_cons (es_asg (ts := ([1] ++ ([2] ++ ([3] ++ ([4] ++ ([5] ++ [])))))) (ev_var (i := 0) rfl (.inl rfl)) (evg_tup rfl (evgs_cons (evg_name (i := 1) sc_need_frame.nd rfl (.inr rfl)) (evgs_cons (evg_name (i := 2) sc_need_frame.nd rfl (.inl rfl)) (evgs_cons (evg_name (i := 3) sc_need_frame.nd rfl (.inl rfl)) (evgs_cons (evg_name (i := 4) sc_need_frame.nd rfl (.inl rfl)) (evgs_cons (evg_name (i := 5) sc_need_frame.nd rfl (.inl rfl)) evgs_nil))))) rfl))
    (ess_cons (es_if (evt_w (evw_or (evt_not (evt_val (ev_call (n := 1) ((ok_is_integer T).mono (show 1 ≤ 4 by decide)) hr (takes_of rfl rfl rfl rfl) rfl T.g_is_integer T.F_is_integer.kp T.b_is_integer (eva_cons (ev_var (i := 1) rfl (.inr (.inl rfl))) eva_nil)) fun _ => rfl)) (evw_or1 (evt_not (evt_chain op_le op_le leK_ok leK_ok ev_int (ev_var (i := 1) rfl (.inr (.inl rfl))) ev_int)))))
    (ess_one (es_raise (k := 0) (T.xt.cls ("InvalidFrame", "at") (by decide)) rfl rfl (takes_of rfl rfl rfl rfl) (hr.mono (show 1 ≤ 4 by decide)) rfl ev_int))
    ess_nil)
    (ess_cons (es_if (evt_w (evw_or (evt_not (evt_val (ev_call (n := 1) ((ok_is_integer T).mono (show 1 ≤ 4 by decide)) hr (takes_of rfl rfl rfl rfl) rfl T.g_is_integer T.F_is_integer.kp T.b_is_integer (eva_cons (ev_var (i := 2) rfl (.inl rfl)) eva_nil)) fun _ => rfl)) (evw_or1 (evt_not (evt_chain op_le op_le leK_ok leK_ok ev_int (ev_var (i := 2) rfl (.inl rfl)) ev_int)))))
    (ess_one (es_raise (k := 0) (T.xt.cls ("InvalidFrame", "at") (by decide)) rfl rfl (takes_of rfl rfl rfl rfl) (hr.mono (show 1 ≤ 4 by decide)) rfl ev_int))
    ess_nil)
    (ess_cons (es_if (evt_w (evw_or (evt_not (evt_val (ev_call (n := 1) ((ok_is_integer T).mono (show 1 ≤ 4 by decide)) hr (takes_of rfl rfl rfl rfl) rfl T.g_is_integer T.F_is_integer.kp T.b_is_integer (eva_cons (ev_var (i := 3) rfl (.inl rfl)) eva_nil)) fun _ => rfl)) (evw_or1 (evt_w (evw_and (evt_cmp (op_neP hr.units) (eqK_ok true) (ev_var (i := 3) rfl (.inl rfl)) ev_int (nomark _)) (evw_and1 (evt_cmp (op_neP hr.units) (eqK_ok true) (ev_var (i := 3) rfl (.inl rfl)) (ev_var (i := 1) rfl (.inr (.inl rfl))) (nomark _))))))))
    (ess_one (es_raise (k := 0) (T.xt.cls ("InvalidFrame", "at") (by decide)) rfl rfl (takes_of rfl rfl rfl rfl) (hr.mono (show 1 ≤ 4 by decide)) rfl ev_int))
    ess_nil)
    (ess_cons (es_if (evt_w (evw_or (evt_not (evt_val (ev_isi (T := "tuple") rfl T.n_isinstance rfl T.n_tuple (by decide +kernel) (ev_var (i := 4) rfl (.inl rfl)) rfl (by decide +kernel)) fun _ => rfl)) (evw_or (evt_cmp op_gt gtK_ok (ev_callB call_lenK lenK_ok rfl T.n_len (by decide +kernel) (eva_cons (ev_var (i := 4) rfl (.inl rfl)) eva_nil)) (ev_glob rfl T.c_MOST_TABLES) (nomark _)) (evw_or1 (evt_not (evt_val (ev_callB (cr_all rfl) allK_ok rfl T.n_all (by decide +kernel) (eva_cons (ev_valN (evn_lc (own := [("one", 6)]) (ts := [6]) rfl sc_need_frame.nd (evi_seq (ev_var (i := 4) rfl (.inl rfl)) rfl) (show BlkOk N_need_frame (defScope s_need_frame) _ [("one", 6)] from ⟨rfl, by decide +kernel, by decide +kernel, by decide +kernel, by decide +kernel⟩) (by decide) (fun _ _ _ _ _ => (evg_name (i := 6) sc_need_frame.nd rfl (.inl rfl))) (fun _ _ _ _ _ => evts_nil) (fun _ _ _ _ _ => (ev_call (n := 2) ((ok_is_table T).mono (show 4 ≤ 4 by decide)) hr takes0 rfl T.g_is_table T.F_is_table.kp T.b_is_table (eva_cons (ev_var (i := 1) rfl (.inr (.inl rfl))) (eva_cons (ev_var (i := 6) rfl (.inl rfl)) eva_nil)))))) eva_nil)) fun _ => rfl))))))
    (ess_one (es_raise (k := 0) (T.xt.cls ("InvalidFrame", "at") (by decide)) rfl rfl (takes_of rfl rfl rfl rfl) (hr.mono (show 1 ≤ 4 by decide)) rfl ev_int))
    ess_nil)
    (ess_cons (es_if (evt_not (evt_val (ev_call (n := 2) ((ok_is_below T).mono (show 3 ≤ 4 by decide)) hr (takes_of rfl rfl rfl rfl) rfl T.g_is_below T.F_is_below.kp T.b_is_below (eva_cons (ev_var (i := 5) rfl (.inl rfl)) (eva_cons (ev_op op_addK addK_ok (ev_glob rfl T.c_MOST_DEEP) ev_int) eva_nil))) fun _ => rfl))
    (ess_one (es_raise (k := 0) (T.xt.cls ("InvalidFrame", "at") (by decide)) rfl rfl (takes_of rfl rfl rfl rfl) (hr.mono (show 1 ≤ 4 by decide)) rfl ev_int))
    ess_nil)
    (ess_one (es_ret (ev_var (i := 0) rfl (.inl rfl)))))))))))
theorem ok_value_rows (T : Pk P w K mg base) : FnOk P w K mg base (L2.CX P w) 1 T.a_value_rows T.fd_value_rows ps_value_rows (spF K mg T.tb ps_value_rows.length F_value_rows) :=
  fn_ok (N := N_value_rows) (sf := sf_value_rows) T.F_value_rows sc_value_rows fun cdv A outer s H E M r L hr =>
    (ess_cons (es_set (i := 2) sc_value_rows.nd rfl (.inl rfl) (ev_lst (eva_cons (ev_tup eva_nil) eva_nil)))
    (ess_cons (es_for (ts := [3]) (passes_of rfl) rfl (evi_range1 rfl T.n_range (eva_cons (ev_var (i := 1) rfl (.inl rfl)) eva_nil)) (evg_name (i := 3) sc_value_rows.nd rfl (.inl rfl))
    (ess_one (es_endFrz 2 (es_ownLc2 (i := 2) (own := [("row", 4), ("value", 5)]) (ts := [4]) (ts1 := [5]) (vs1 := [5]) rfl sc_value_rows.nd rfl rfl rfl (evi_seq (ev_var (i := 2) rfl (.inl rfl)) rfl) (show BlkOk N_value_rows (defScope s_value_rows) _ [("row", 4), ("value", 5)] from ⟨rfl, by decide +kernel, by decide +kernel, by decide +kernel, by decide +kernel⟩) (by decide) (by decide) (by decide) uo_name (fun _ _ _ _ _ => (evg_name (i := 4) sc_value_rows.nd rfl (.inl rfl))) (fun _ _ _ _ _ => evts_nil) (fun _ _ _ _ _ => (evi_range1 rfl T.n_range (eva_cons (ev_var (i := 0) rfl (.inr (.inl rfl))) eva_nil))) (fun _ _ _ _ _ => (evg_name (i := 5) sc_value_rows.nd rfl (.inl rfl))) (fun _ _ _ _ _ => evts_nil) (fun _ _ _ _ _ => (ev_op op_addK addK_ok (ev_var (i := 4) rfl (.inl rfl)) (ev_tup (eva_cons (ev_var (i := 5) rfl (.inl rfl)) eva_nil))))))))
    (ess_one (es_ret (ev_var (i := 2) rfl (.inl rfl))))))
theorem ok_all_data (T : Pk P w K mg base) : FnOk P w K mg base (L2.CX P w) 6 T.a_all_data T.fd_all_data ps_all_data (spF K mg T.tb ps_all_data.length F_all_data) :=
  fn_ok (N := N_all_data) (sf := sf_all_data) T.F_all_data sc_all_data fun cdv A outer s H E M r L hr =>
    (ess_cons (es_set (i := 0) sc_all_data.nd rfl (.inl rfl) (ev_call (n := 1) ((ok_need_frame T).mono (show 5 ≤ 5 by decide)) hr (takes_of rfl rfl rfl rfl) rfl T.g_need_frame T.F_need_frame.kp T.b_need_frame (eva_cons (ev_var (i := 0) rfl (.inl rfl)) eva_nil)))
    (ess_one (es_ret (ev_callTy call_tuple_of tupK_ok rfl T.n_tuple (by decide +kernel) (eva_cons (ev_call (n := 2) ((ok_value_rows T).mono (show 1 ≤ 5 by decide)) hr (takes_of rfl rfl rfl rfl) rfl T.g_value_rows T.F_value_rows.kp T.b_value_rows (eva_cons (ev_ix (ev_var (i := 0) rfl (.inl rfl)) ev_int rfl) (eva_cons (ev_op op_addK addK_ok (ev_ix (ev_var (i := 0) rfl (.inl rfl)) ev_int rfl) (ev_ix (ev_var (i := 0) rfl (.inl rfl)) ev_int rfl)) eva_nil))) eva_nil)))))
theorem ok_is_datum (T : Pk P w K mg base) : FnOk P w K mg base (L2.CX P w) 4 T.a_is_datum T.fd_is_datum ps_is_datum (spF K mg T.tb ps_is_datum.length F_is_datum) :=
  fn_ok (N := N_is_datum) (sf := sf_is_datum) T.F_is_datum sc_is_datum fun cdv A outer s H E M r L hr =>
    (ess_cons (es_if (evt_w (evw_or (evt_not (evt_val (ev_isi (T := "tuple") rfl T.n_isinstance rfl T.n_tuple (by decide +kernel) (ev_var (i := 1) rfl (.inl rfl)) rfl (by decide +kernel)) fun _ => rfl)) (evw_or1 (evt_cmp (op_neP hr.units) (eqK_ok true) (ev_callB call_lenK lenK_ok rfl T.n_len (by decide +kernel) (eva_cons (ev_var (i := 1) rfl (.inl rfl)) eva_nil)) (ev_op op_addK addK_ok (ev_ix (ev_var (i := 0) rfl (.inr (.inl rfl))) ev_int rfl) (ev_ix (ev_var (i := 0) rfl (.inr (.inl rfl))) ev_int rfl)) (nomark _)))))
    (ess_one (es_ret ev_bl))
    ess_nil)
    (ess_one (es_ret (ev_callB (cr_all rfl) allK_ok rfl T.n_all (by decide +kernel) (eva_cons (ev_valN (evn_lc (own := [("one", 2)]) (ts := [2]) rfl sc_is_datum.nd (evi_seq (ev_var (i := 1) rfl (.inl rfl)) rfl) (show BlkOk N_is_datum (defScope s_is_datum) _ [("one", 2)] from ⟨rfl, by decide +kernel, by decide +kernel, by decide +kernel, by decide +kernel⟩) (by decide) (fun _ _ _ _ _ => (evg_name (i := 2) sc_is_datum.nd rfl (.inl rfl))) (fun _ _ _ _ _ => evts_nil) (fun _ _ _ _ _ => (ev_call (n := 2) ((ok_is_below T).mono (show 3 ≤ 3 by decide)) hr takes0 rfl T.g_is_below T.F_is_below.kp T.b_is_below (eva_cons (ev_var (i := 2) rfl (.inl rfl)) (eva_cons (ev_ix (ev_var (i := 0) rfl (.inr (.inl rfl))) ev_int rfl) eva_nil)))))) eva_nil)))))
theorem ok_need_datum (T : Pk P w K mg base) : FnOk P w K mg base (L2.CX P w) 6 T.a_need_datum T.fd_need_datum ps_need_datum (spF K mg T.tb ps_need_datum.length F_need_datum) :=
  fn_ok (N := N_need_datum) (sf := sf_need_datum) T.F_need_datum sc_need_datum fun cdv A outer s H E M r L hr =>
    (ess_cons (es_set (i := 0) sc_need_datum.nd rfl (.inl rfl) (ev_call (n := 1) ((ok_need_frame T).mono (show 5 ≤ 5 by decide)) hr (takes_of rfl rfl rfl rfl) rfl T.g_need_frame T.F_need_frame.kp T.b_need_frame (eva_cons (ev_var (i := 0) rfl (.inl rfl)) eva_nil)))
    (ess_cons (es_if (evt_not (evt_val (ev_call (n := 2) ((ok_is_datum T).mono (show 4 ≤ 5 by decide)) hr (takes_of rfl rfl rfl rfl) rfl T.g_is_datum T.F_is_datum.kp T.b_is_datum (eva_cons (ev_var (i := 0) rfl (.inl rfl)) (eva_cons (ev_var (i := 1) rfl (.inl rfl)) eva_nil))) fun _ => rfl))
    (ess_one (es_raise (k := 0) (T.xt.cls ("InvalidDatum", "at") (by decide)) rfl rfl (takes_of rfl rfl rfl rfl) (hr.mono (show 1 ≤ 5 by decide)) rfl (ev_neg ev_int)))
    ess_nil)
    (ess_one (es_ret (ev_var (i := 1) rfl (.inl rfl))))))
theorem okR_are_rows (T : Pk P w K mg base) : ∀ n : Nat, FnOk P w K mg base (L2.CX P w) (4 + n) T.a_are_rows T.fd_are_rows ps_are_rows (spF K mg T.tb ps_are_rows.length (F_are_rows n)) ∧ FnOk P w K mg base (L2.CX P w) (4 + n) T.a_is_row T.fd_is_row ps_is_row (spF K mg T.tb ps_is_row.length (F_is_row n))
  | 0 => ⟨fn_bad, fn_bad⟩
  | n + 1 => by
    obtain ⟨H_are_rows, H_is_row⟩ := okR_are_rows T n
    refine ⟨?_, ?_⟩
    · exact fn_ok (N := N_are_rows) (sf := sf_are_rows (F_are_rows n) (F_is_row n)) T.F_are_rows sc_are_rows fun cdv A outer s H E M r L hr =>
    (ess_one (es_ret (ev_and (ev_isi (T := "tuple") rfl T.n_isinstance rfl T.n_tuple (by decide +kernel) (ev_var (i := 1) rfl (.inl rfl)) rfl (by decide +kernel)) (ev_one (ev_callB (cr_all rfl) allK_ok rfl T.n_all (by decide +kernel) (eva_cons (ev_valN (evn_lc (own := [("row", 2)]) (ts := [2]) rfl sc_are_rows.nd (evi_seq (ev_var (i := 1) rfl (.inl rfl)) rfl) (show BlkOk N_are_rows (defScope s_are_rows) _ [("row", 2)] from ⟨rfl, by decide +kernel, by decide +kernel, by decide +kernel, by decide +kernel⟩) (by decide) (fun _ _ _ _ _ => (evg_name (i := 2) sc_are_rows.nd rfl (.inl rfl))) (fun _ _ _ _ _ => evts_nil) (fun _ _ _ _ _ => (ev_call (n := 2) (H_is_row) hr takes0 rfl T.g_is_row T.F_is_row.kp T.b_is_row (eva_cons (ev_var (i := 0) rfl (.inr (.inl rfl))) (eva_cons (ev_var (i := 2) rfl (.inl rfl)) eva_nil)))))) eva_nil))))))
    · exact fn_ok (N := N_is_row) (sf := sf_is_row (F_are_rows n) (F_is_row n)) T.F_is_row sc_is_row fun cdv A outer s H E M r L hr =>
    (ess_cons (es_if (evt_w (evw_or (evt_not (evt_val (ev_isi (T := "tuple") rfl T.n_isinstance rfl T.n_tuple (by decide +kernel) (ev_var (i := 1) rfl (.inl rfl)) rfl (by decide +kernel)) fun _ => rfl)) (evw_or (evt_cmp (op_eqP hr.units) (eqK_ok false) (ev_callB call_lenK lenK_ok rfl T.n_len (by decide +kernel) (eva_cons (ev_var (i := 1) rfl (.inl rfl)) eva_nil)) ev_int (nomark _)) (evw_or (evt_not (evt_val (ev_call (n := 1) ((ok_is_string T).mono (Nat.le_trans (show 1 ≤ 4 by decide) (Nat.le_add_right 4 n))) hr (takes_of rfl rfl rfl rfl) rfl T.g_is_string T.F_is_string.kp T.b_is_string (eva_cons (ev_ix (ev_var (i := 1) rfl (.inl rfl)) ev_int rfl) eva_nil)) fun _ => rfl)) (evw_or1 (evt_cmp (op_neP hr.units) (eqK_ok true) (ev_callB call_lenK lenK_ok rfl T.n_len (by decide +kernel) (eva_cons (ev_var (i := 1) rfl (.inl rfl)) eva_nil)) (ev_kget (tab := tab_ROW_SIZES) rfl T.m_ROW_SIZES T.t_ROW_SIZES (ev_ix (ev_var (i := 1) rfl (.inl rfl)) ev_int rfl) ev_int) (nomark _)))))))
    (ess_one (es_ret ev_bl))
    ess_nil)
    (ess_cons (es_if (evt_cmp (op_eqP hr.units) (eqK_ok false) (ev_ix (ev_var (i := 1) rfl (.inl rfl)) ev_int rfl) ev_str (nomark _))
    (ess_one (es_ret (ev_and (ev_call (n := 2) ((ok_is_below T).mono (Nat.le_trans (show 3 ≤ 4 by decide) (Nat.le_add_right 4 n))) hr (takes_of rfl rfl rfl rfl) rfl T.g_is_below T.F_is_below.kp T.b_is_below (eva_cons (ev_ix (ev_var (i := 1) rfl (.inl rfl)) ev_int rfl) (eva_cons (ev_op op_addK addK_ok (ev_glob rfl T.c_MOST_TIMES) ev_int) eva_nil))) (ev_one (ev_call (n := 2) (H_are_rows) hr (takes_of rfl rfl rfl rfl) rfl T.g_are_rows T.F_are_rows.kp T.b_are_rows (eva_cons (ev_var (i := 0) rfl (.inr (.inl rfl))) (eva_cons (ev_ix (ev_var (i := 1) rfl (.inl rfl)) ev_int rfl) eva_nil)))))))
    ess_nil)
    (ess_cons (es_if (evt_cmp (op_eqP hr.units) (eqK_ok false) (ev_ix (ev_var (i := 1) rfl (.inl rfl)) ev_int rfl) ev_str (nomark _))
    (ess_one (es_ret (ev_and (ev_call (n := 2) ((ok_is_below T).mono (Nat.le_trans (show 3 ≤ 4 by decide) (Nat.le_add_right 4 n))) hr (takes_of rfl rfl rfl rfl) rfl T.g_is_below T.F_is_below.kp T.b_is_below (eva_cons (ev_ix (ev_var (i := 1) rfl (.inl rfl)) ev_int rfl) (eva_cons (ev_ix (ev_var (i := 0) rfl (.inr (.inl rfl))) ev_int rfl) eva_nil))) (ev_and (ev_call (n := 2) (H_are_rows) hr (takes_of rfl rfl rfl rfl) rfl T.g_are_rows T.F_are_rows.kp T.b_are_rows (eva_cons (ev_var (i := 0) rfl (.inr (.inl rfl))) (eva_cons (ev_ix (ev_var (i := 1) rfl (.inl rfl)) ev_int rfl) eva_nil))) (ev_one (ev_call (n := 2) (H_are_rows) hr (takes_of rfl rfl rfl rfl) rfl T.g_are_rows T.F_are_rows.kp T.b_are_rows (eva_cons (ev_var (i := 0) rfl (.inr (.inl rfl))) (eva_cons (ev_ix (ev_var (i := 1) rfl (.inl rfl)) ev_int rfl) eva_nil))))))))
    ess_nil)
    (ess_cons (es_if (evt_cmp (op_eqP hr.units) (eqK_ok false) (ev_ix (ev_var (i := 1) rfl (.inl rfl)) ev_int rfl) ev_str (nomark _))
    (ess_one (es_ret (ev_and (ev_call (n := 2) ((ok_is_below T).mono (Nat.le_trans (show 3 ≤ 4 by decide) (Nat.le_add_right 4 n))) hr (takes_of rfl rfl rfl rfl) rfl T.g_is_below T.F_is_below.kp T.b_is_below (eva_cons (ev_ix (ev_var (i := 1) rfl (.inl rfl)) ev_int rfl) (eva_cons (ev_callB call_lenK lenK_ok rfl T.n_len (by decide +kernel) (eva_cons (ev_ix (ev_var (i := 0) rfl (.inr (.inl rfl))) ev_int rfl) eva_nil)) eva_nil))) (ev_one (ev_callB (cr_all rfl) allK_ok rfl T.n_all (by decide +kernel) (eva_cons (ev_valN (evn_lc (own := [("one", 2)]) (ts := [2]) rfl sc_is_row.nd (evi_seq (ev_sl (ev_var (i := 1) rfl (.inl rfl)) (evo_some ev_int) evo_none rfl) rfl) (show BlkOk N_is_row (defScope s_is_row) _ [("one", 2)] from ⟨rfl, by decide +kernel, by decide +kernel, by decide +kernel, by decide +kernel⟩) (by decide) (fun _ _ _ _ _ => (evg_name (i := 2) sc_is_row.nd rfl (.inl rfl))) (fun _ _ _ _ _ => evts_nil) (fun _ _ _ _ _ => (ev_call (n := 2) ((ok_is_below T).mono (Nat.le_trans (show 3 ≤ 4 by decide) (Nat.le_add_right 4 n))) hr takes0 rfl T.g_is_below T.F_is_below.kp T.b_is_below (eva_cons (ev_var (i := 2) rfl (.inl rfl)) (eva_cons (ev_ix (ev_var (i := 0) rfl (.inr (.inl rfl))) ev_int rfl) eva_nil)))))) eva_nil))))))
    ess_nil)
    (ess_one (es_ret (ev_and (ev_callB (cr_all rfl) allK_ok rfl T.n_all (by decide +kernel) (eva_cons (ev_valN (evn_lc (own := [("one", 2)]) (ts := [2]) rfl sc_is_row.nd (evi_seq (ev_sl (ev_var (i := 1) rfl (.inl rfl)) (evo_some ev_int) evo_none rfl) rfl) (show BlkOk N_is_row (defScope s_is_row) _ [("one", 2)] from ⟨rfl, by decide +kernel, by decide +kernel, by decide +kernel, by decide +kernel⟩) (by decide) (fun _ _ _ _ _ => (evg_name (i := 2) sc_is_row.nd rfl (.inl rfl))) (fun _ _ _ _ _ => evts_nil) (fun _ _ _ _ _ => (ev_call (n := 2) ((ok_is_below T).mono (Nat.le_trans (show 3 ≤ 4 by decide) (Nat.le_add_right 4 n))) hr takes0 rfl T.g_is_below T.F_is_below.kp T.b_is_below (eva_cons (ev_var (i := 2) rfl (.inl rfl)) (eva_cons (ev_ix (ev_var (i := 0) rfl (.inr (.inl rfl))) ev_int rfl) eva_nil)))))) eva_nil)) (ev_one (ev_or (ev_cmp (op_eqP hr.units) (eqK_ok false) (ev_ix (ev_var (i := 1) rfl (.inl rfl)) ev_int rfl) ev_str (nomark _)) (ev_one (ev_cmp op_gt gtK_ok (ev_ix (ev_var (i := 0) rfl (.inr (.inl rfl))) ev_int rfl) ev_int (nomark _))))))))))))
theorem ok_are_rows (T : Pk P w K mg base) (n : Nat) : FnOk P w K mg base (L2.CX P w) (4 + n) T.a_are_rows T.fd_are_rows ps_are_rows (spF K mg T.tb ps_are_rows.length (F_are_rows n)) := (okR_are_rows T n).1
theorem ok_is_row (T : Pk P w K mg base) (n : Nat) : FnOk P w K mg base (L2.CX P w) (4 + n) T.a_is_row T.fd_is_row ps_is_row (spF K mg T.tb ps_is_row.length (F_is_row n)) := (okR_are_rows T n).2
theorem ok_need_program (T : Pk P w K mg base) : FnOk P w K mg base (L2.CX P w) 17 T.a_need_program T.fd_need_program ps_need_program (spF K mg T.tb ps_need_program.length F_need_program) :=
  fn_ok (N := N_need_program) (sf := sf_need_program) T.F_need_program sc_need_program fun cdv A outer s H E M r L hr =>
    (ess_cons (es_set (i := 0) sc_need_program.nd rfl (.inl rfl) (ev_call (n := 1) ((ok_need_frame T).mono (show 5 ≤ 16 by decide)) hr (takes_of rfl rfl rfl rfl) rfl T.g_need_frame T.F_need_frame.kp T.b_need_frame (eva_cons (ev_var (i := 0) rfl (.inl rfl)) eva_nil)))
    (ess_cons (es_if (evt_not (evt_val (ev_isi (T := "tuple") rfl T.n_isinstance rfl T.n_tuple (by decide +kernel) (ev_var (i := 1) rfl (.inl rfl)) rfl (by decide +kernel)) fun _ => rfl))
    (ess_one (es_raise (k := 0) (T.xt.cls ("InvalidProgram", "at") (by decide)) rfl rfl (takes_of rfl rfl rfl rfl) (hr.mono (show 1 ≤ 16 by decide)) rfl (ev_neg ev_int)))
    ess_nil)
    (ess_cons (es_for (ts := ([2] ++ ([3] ++ []))) (passes_of rfl) rfl (evi_enum rfl T.n_enumerate (eva_cons (ev_var (i := 1) rfl (.inl rfl)) eva_nil) rfl) (evg_tup rfl (evgs_cons (evg_name (i := 2) sc_need_program.nd rfl (.inl rfl)) (evgs_cons (evg_name (i := 3) sc_need_program.nd rfl (.inl rfl)) evgs_nil)) rfl)
    (ess_one (es_if (evt_not (evt_val (ev_call (n := 2) ((ok_is_row T rf).mono (show 16 ≤ 16 by decide)) hr (takes_of rfl rfl rfl rfl) rfl T.g_is_row T.F_is_row.kp T.b_is_row (eva_cons (ev_var (i := 0) rfl (.inl rfl)) (eva_cons (ev_var (i := 3) rfl (.inl rfl)) eva_nil))) fun _ => rfl))
    (ess_one (es_raise (k := 0) (T.xt.cls ("InvalidProgram", "at") (by decide)) rfl rfl (takes_of rfl rfl rfl rfl) (hr.mono (show 1 ≤ 16 by decide)) rfl (ev_var (i := 2) rfl (.inl rfl))))
    ess_nil)))
    (ess_one (es_ret (ev_var (i := 1) rfl (.inl rfl)))))))
theorem ok_plain_rows (T : Pk P w K mg base) : ∀ n : Nat, FnOk P w K mg base (L2.CX P w) (1 + n) T.a_plain_rows T.fd_plain_rows ps_plain_rows (spF K mg T.tb ps_plain_rows.length (F_plain_rows n))
  | 0 => fn_bad
  | n + 1 => by
    have H_plain_rows := ok_plain_rows T n
    exact fn_ok (N := N_plain_rows) (sf := sf_plain_rows (F_plain_rows n)) T.F_plain_rows sc_plain_rows fun cdv A outer s H E M r L hr =>
    (ess_cons (es_own (i := 1) sc_plain_rows.nd rfl (.inl rfl) (evn_lst eva_nil))
    (ess_cons (es_for (ts := [2]) (passes_of rfl) rfl (evi_seq (ev_var (i := 0) rfl (.inl rfl)) rfl) (evg_name (i := 2) sc_plain_rows.nd rfl (.inl rfl))
    (ess_one (es_if (evt_cmp (op_eqP hr.units) (eqK_ok false) (ev_ix (ev_var (i := 2) rfl (.inl rfl)) ev_int rfl) ev_str (nomark _))
    (ess_one (es_ext (i := 1) rfl (.inl rfl) (ev_op op_mulA mulA_ok (ev_call (n := 1) (H_plain_rows) hr (takes_of rfl rfl rfl rfl) rfl T.g_plain_rows T.F_plain_rows.kp T.b_plain_rows (eva_cons (ev_ix (ev_var (i := 2) rfl (.inl rfl)) ev_int rfl) eva_nil)) (ev_ix (ev_var (i := 2) rfl (.inl rfl)) ev_int rfl)) rfl))
    (ess_one (es_if (evt_cmp (op_eqP hr.units) (eqK_ok false) (ev_ix (ev_var (i := 2) rfl (.inl rfl)) ev_int rfl) ev_str (nomark _))
    (ess_one (es_app (i := 1) rfl (.inl rfl) (ev_tup (eva_cons (ev_ix (ev_var (i := 2) rfl (.inl rfl)) ev_int rfl) (eva_cons (ev_ix (ev_var (i := 2) rfl (.inl rfl)) ev_int rfl) (eva_cons (ev_callTy call_tuple_of tupK_ok rfl T.n_tuple (by decide +kernel) (eva_cons (ev_call (n := 1) (H_plain_rows) hr (takes_of rfl rfl rfl rfl) rfl T.g_plain_rows T.F_plain_rows.kp T.b_plain_rows (eva_cons (ev_ix (ev_var (i := 2) rfl (.inl rfl)) ev_int rfl) eva_nil)) eva_nil)) (eva_cons (ev_callTy call_tuple_of tupK_ok rfl T.n_tuple (by decide +kernel) (eva_cons (ev_call (n := 1) (H_plain_rows) hr (takes_of rfl rfl rfl rfl) rfl T.g_plain_rows T.F_plain_rows.kp T.b_plain_rows (eva_cons (ev_ix (ev_var (i := 2) rfl (.inl rfl)) ev_int rfl) eva_nil)) eva_nil)) eva_nil))))) rfl))
    (ess_one (es_app (i := 1) rfl (.inl rfl) (ev_var (i := 2) rfl (.inl rfl)) rfl)))))))
    (ess_one (es_ret (ev_var (i := 1) rfl (.inl rfl))))))
theorem ok_unrolled (T : Pk P w K mg base) : FnOk P w K mg base (L2.CX P w) 18 T.a_unrolled T.fd_unrolled ps_unrolled (spF K mg T.tb ps_unrolled.length F_unrolled) :=
  fn_ok (N := N_unrolled) (sf := sf_unrolled) T.F_unrolled sc_unrolled fun cdv A outer s H E M r L hr =>
    (ess_one (es_ret (ev_callTy call_tuple_of tupK_ok rfl T.n_tuple (by decide +kernel) (eva_cons (ev_call (n := 1) ((ok_plain_rows T rf).mono (show 13 ≤ 17 by decide)) hr (takes_of rfl rfl rfl rfl) rfl T.g_plain_rows T.F_plain_rows.kp T.b_plain_rows (eva_cons (ev_call (n := 2) ((ok_need_program T).mono (show 17 ≤ 17 by decide)) hr (takes_of rfl rfl rfl rfl) rfl T.g_need_program T.F_need_program.kp T.b_need_program (eva_cons (ev_var (i := 0) rfl (.inl rfl)) (eva_cons (ev_var (i := 1) rfl (.inl rfl)) eva_nil))) eva_nil)) eva_nil))))
theorem ok__law_box (T : Pk P w K mg base) : FnOk P w K mg base (L2.CX P w) 1 T.a__law_box T.fd__law_box ps__law_box (spF K mg T.tb ps__law_box.length F__law_box) :=
  fn_ok (N := N__law_box) (sf := sf__law_box) T.F__law_box sc__law_box fun cdv A outer s H E M r L hr =>
    (ess_cons (es_set (i := 2) sc__law_box.nd rfl (.inl rfl) (ev_op op_addK addK_ok (ev_op op_mulA mulA_ok ev_int (ev_var (i := 1) rfl (.inl rfl))) ev_int))
    (ess_cons (es_if (evt_cmp op_lt ltK_ok (ev_var (i := 1) rfl (.inl rfl)) (ev_callB call_lenK lenK_ok rfl T.n_len (by decide +kernel) (eva_cons (ev_var (i := 0) rfl (.inl rfl)) eva_nil)) (nomark _))
    (ess_one (es_set (i := 2) sc__law_box.nd rfl (.inl rfl) (ev_callB call_abs absK_ok rfl T.n_abs (by decide +kernel) (eva_cons (ev_ix (ev_var (i := 0) rfl (.inl rfl)) (ev_var (i := 1) rfl (.inl rfl)) rfl) eva_nil))))
    (ess_one (es_if (evt_cmp op_gt gtK_ok (ev_callB call_lenK lenK_ok rfl T.n_len (by decide +kernel) (eva_cons (ev_var (i := 0) rfl (.inl rfl)) eva_nil)) ev_int (nomark _))
    (ess_one (es_set (i := 2) sc__law_box.nd rfl (.inl rfl) (ev_op op_addK addK_ok (ev_var (i := 2) rfl (.inl rfl)) (ev_op op_mulA mulA_ok (ev_op op_mod modK_ok (ev_callTy call_int1 intK_ok rfl T.n_int (by decide +kernel) (eva_cons (ev_callB call_abs absK_ok rfl T.n_abs (by decide +kernel) (eva_cons (ev_ix (ev_var (i := 0) rfl (.inl rfl)) (ev_op op_mod modK_ok (ev_callTy call_int1 intK_ok rfl T.n_int (by decide +kernel) (eva_cons (ev_var (i := 1) rfl (.inl rfl)) eva_nil)) (ev_callB call_lenK lenK_ok rfl T.n_len (by decide +kernel) (eva_cons (ev_var (i := 0) rfl (.inl rfl)) eva_nil))) rfl) eva_nil)) eva_nil)) ev_int) ev_int))))
    ess_nil)))
    (ess_one (es_ret (ev_boxN (evn_lst (eva_cons (ev_ix (ev_lst (eva_cons ev_int (eva_cons (ev_var (i := 2) rfl (.inl rfl)) eva_nil))) (ev_callTy call_int1 intK_ok rfl T.n_int (by decide +kernel) (eva_cons (ev_cmp op_ge geK_ok (ev_var (i := 2) rfl (.inl rfl)) (ev_op op_pow powK_ok ev_int ev_int) (nomark _)) eva_nil)) rfl) (eva_cons (ev_op op_addK addK_ok (ev_op op_mod modK_ok (ev_callTy call_int1 intK_ok rfl T.n_int (by decide +kernel) (eva_cons (ev_op op_addK addK_ok (ev_op op_mulA mulA_ok (ev_op op_mod modK_ok (ev_callTy call_int1 intK_ok rfl T.n_int (by decide +kernel) (eva_cons (ev_var (i := 2) rfl (.inl rfl)) eva_nil)) ev_int) ev_int) (ev_op op_mulA mulA_ok ev_int (ev_var (i := 1) rfl (.inl rfl)))) eva_nil)) ev_int) ev_int) (eva_cons ev_int eva_nil)))))))))
theorem ok__law_take (T : Pk P w K mg base) : FnOk P w K mg base (L2.CX P w) 1 T.a__law_take T.fd__law_take ps__law_take (spF K mg T.tb ps__law_take.length F__law_take) :=
  fn_ok (N := N__law_take) (sf := sf__law_take) T.F__law_take sc__law_take fun cdv A outer s H E M r L hr =>
    (ess_cons (es_if (evt_cmp op_gt gtK_ok (ev_ix (ev_var (i := 0) rfl (.inl rfl)) ev_int rfl) ev_int (nomark _))
    (ess_cons (es_set (i := 2) sc__law_take.nd rfl (.inl rfl) (ev_op op_mod modK_ok (ev_callTy call_int1 intK_ok rfl T.n_int (by decide +kernel) (eva_cons (ev_ix (ev_var (i := 0) rfl (.inl rfl)) ev_int rfl) eva_nil)) (ev_var (i := 1) rfl (.inl rfl))))
    (ess_cons (es_seti (i := 0) rfl (.inl rfl) ev_int (ev_op op_fdiv divK_ok (ev_ix (ev_var (i := 0) rfl (.inl rfl)) ev_int rfl) (ev_var (i := 1) rfl (.inl rfl))))
    (ess_one (es_ret (ev_var (i := 2) rfl (.inl rfl))))))
    ess_nil)
    (ess_cons (es_seti (i := 0) rfl (.inl rfl) ev_int (ev_op op_addK addK_ok (ev_ix (ev_var (i := 0) rfl (.inl rfl)) ev_int rfl) ev_int))
    (ess_cons (es_set (i := 3) sc__law_take.nd rfl (.inl rfl) (ev_op op_mod modK_ok (ev_callTy call_int1 intK_ok rfl T.n_int (by decide +kernel) (eva_cons (ev_op op_addK addK_ok (ev_op op_mulA mulA_ok (ev_op op_addK addK_ok (ev_ix (ev_var (i := 0) rfl (.inl rfl)) ev_int rfl) (ev_op op_mulA mulA_ok ev_int (ev_ix (ev_var (i := 0) rfl (.inl rfl)) ev_int rfl))) ev_int) ev_int) eva_nil)) ev_int))
    (ess_cons (es_seti (i := 0) rfl (.inl rfl) ev_int (ev_op op_addK addK_ok (ev_op op_mod modK_ok (ev_callTy call_int1 intK_ok rfl T.n_int (by decide +kernel) (eva_cons (ev_op op_addK addK_ok (ev_op op_mulA mulA_ok (ev_var (i := 3) rfl (.inl rfl)) ev_int) ev_int) eva_nil)) ev_int) ev_int))
    (ess_one (es_ret (ev_op op_mod modK_ok (ev_callTy call_int1 intK_ok rfl T.n_int (by decide +kernel) (eva_cons (ev_op op_fdiv divK_ok (ev_op op_addK addK_ok (ev_op op_mulA mulA_ok (ev_var (i := 3) rfl (.inl rfl)) ev_int) (ev_ix (ev_var (i := 0) rfl (.inl rfl)) ev_int rfl)) ev_int) eva_nil)) (ev_var (i := 1) rfl (.inl rfl)))))))))
theorem ok__law_pick (T : Pk P w K mg base) : FnOk P w K mg base (L2.CX P w) 2 T.a__law_pick T.fd__law_pick ps__law_pick (spF K mg T.tb ps__law_pick.length F__law_pick) :=
  fn_ok (N := N__law_pick) (sf := sf__law_pick) T.F__law_pick sc__law_pick fun cdv A outer s H E M r L hr =>
    (ess_one (es_ret (ev_ix (ev_var (i := 1) rfl (.inl rfl)) (ev_call (n := 2) ((ok__law_take T).mono (show 1 ≤ 1 by decide)) hr (takes_of rfl rfl rfl rfl) rfl T.g__law_take T.F__law_take.kp T.b__law_take (eva_cons (ev_var (i := 0) rfl (.inl rfl)) (eva_cons (ev_callB call_lenK lenK_ok rfl T.n_len (by decide +kernel) (eva_cons (ev_var (i := 1) rfl (.inl rfl)) eva_nil)) eva_nil))) rfl)))
theorem ok__law_frame (T : Pk P w K mg base) : FnOk P w K mg base (L2.CX P w) 3 T.a__law_frame T.fd__law_frame ps__law_frame (spF K mg T.tb ps__law_frame.length F__law_frame) :=
  fn_ok (N := N__law_frame) (sf := sf__law_frame) T.F__law_frame sc__law_frame fun cdv A outer s H E M r L hr =>
    (ess_cons (es_set (i := 1) sc__law_frame.nd rfl (.inr rfl) (ev_op op_addK addK_ok ev_int (ev_op op_fdiv divK_ok (ev_call (n := 2) ((ok__law_take T).mono (show 1 ≤ 2 by decide)) hr (takes_of rfl rfl rfl rfl) rfl T.g__law_take T.F__law_take.kp T.b__law_take (eva_cons (ev_var (i := 0) rfl (.inr (.inl rfl))) (eva_cons ev_int eva_nil))) ev_int)))
    (ess_cons (es_own (i := 2) sc__law_frame.nd rfl (.inl rfl) (evn_lst eva_nil))
    (ess_cons (es_for (ts := [3]) (passes_of rfl) rfl (evi_range1 rfl T.n_range (eva_cons (ev_op op_addK addK_ok ev_int (ev_call (n := 2) ((ok__law_take T).mono (show 1 ≤ 2 by decide)) hr (takes_of rfl rfl rfl rfl) rfl T.g__law_take T.F__law_take.kp T.b__law_take (eva_cons (ev_var (i := 0) rfl (.inr (.inl rfl))) (eva_cons ev_int eva_nil)))) eva_nil)) (evg_name (i := 3) sc__law_frame.nd rfl (.inl rfl))
    (ess_one (es_app (i := 2) rfl (.inl rfl) (ev_callTy call_tuple_of tupK_ok rfl T.n_tuple (by decide +kernel) (eva_cons (ev_valN (evn_lc (own := [("_law_cell", 4)]) (ts := [4]) rfl sc__law_frame.nd (evi_range1 rfl T.n_range (eva_cons (ev_op op_pow powK_ok (ev_var (i := 1) rfl (.inr (.inl rfl))) ev_int) eva_nil)) (show BlkOk N__law_frame (defScope s__law_frame) _ [("_law_cell", 4)] from ⟨rfl, by decide +kernel, by decide +kernel, by decide +kernel, by decide +kernel⟩) (by decide) (fun _ _ _ _ _ => (evg_name (i := 4) sc__law_frame.nd rfl (.inl rfl))) (fun _ _ _ _ _ => evts_nil) (fun _ _ _ _ _ => (ev_call (n := 2) ((ok__law_take T).mono (show 1 ≤ 2 by decide)) hr takes0 rfl T.g__law_take T.F__law_take.kp T.b__law_take (eva_cons (ev_var (i := 0) rfl (.inr (.inl rfl))) (eva_cons (ev_var (i := 1) rfl (.inr (.inl rfl))) eva_nil)))))) eva_nil)) rfl)))
    (ess_one (es_ret (ev_tup (eva_cons (ev_var (i := 1) rfl (.inr (.inl rfl))) (eva_cons (ev_op op_addK addK_ok ev_int (ev_call (n := 2) ((ok__law_take T).mono (show 1 ≤ 2 by decide)) hr (takes_of rfl rfl rfl rfl) rfl T.g__law_take T.F__law_take.kp T.b__law_take (eva_cons (ev_var (i := 0) rfl (.inr (.inl rfl))) (eva_cons ev_int eva_nil)))) (eva_cons (ev_call (n := 2) ((ok__law_pick T).mono (show 2 ≤ 2 by decide)) hr (takes_of rfl rfl rfl rfl) rfl T.g__law_pick T.F__law_pick.kp T.b__law_pick (eva_cons (ev_var (i := 0) rfl (.inr (.inl rfl))) (eva_cons (ev_lst (eva_cons ev_int (eva_cons (ev_var (i := 1) rfl (.inr (.inl rfl))) eva_nil))) eva_nil))) (eva_cons (ev_callTy call_tuple_of tupK_ok rfl T.n_tuple (by decide +kernel) (eva_cons (ev_var (i := 2) rfl (.inl rfl)) eva_nil)) (eva_cons (ev_call (n := 2) ((ok__law_take T).mono (show 1 ≤ 2 by decide)) hr (takes_of rfl rfl rfl rfl) rfl T.g__law_take T.F__law_take.kp T.b__law_take (eva_cons (ev_var (i := 0) rfl (.inr (.inl rfl))) (eva_cons ev_int eva_nil))) eva_nil)))))))))))
theorem ok__law_rows (T : Pk P w K mg base) : ∀ n : Nat, FnOk P w K mg base (L2.CX P w) (2 + n) T.a__law_rows T.fd__law_rows ps__law_rows (spF K mg T.tb ps__law_rows.length (F__law_rows n))
  | 0 => fn_bad
  | n + 1 => by
    have H__law_rows := ok__law_rows T n
    exact fn_ok (N := N__law_rows) (sf := sf__law_rows (F__law_rows n)) T.F__law_rows sc__law_rows fun cdv A outer s H E M r L hr =>
    (ess_cons (es_own (i := 4) sc__law_rows.nd rfl (.inl rfl) (evn_lst eva_nil))
    (ess_cons (es_for (ts := [5]) (passes_of rfl) rfl (evi_range1 rfl T.n_range (eva_cons (ev_var (i := 2) rfl (.inl rfl)) eva_nil)) (evg_name (i := 5) sc__law_rows.nd rfl (.inl rfl))
    (ess_cons (es_ownLc (i := 6) (own := [("_law_place", 8)]) (ts := [8]) rfl sc__law_rows.nd rfl rfl rfl (evi_range1 rfl T.n_range (eva_cons ev_int eva_nil)) (show BlkOk N__law_rows (defScope s__law_rows) _ [("_law_place", 8)] from ⟨rfl, by decide +kernel, by decide +kernel, by decide +kernel, by decide +kernel⟩) (by decide) (fun _ _ _ _ _ => (evg_name (i := 8) sc__law_rows.nd rfl (.inl rfl))) (fun _ _ _ _ _ => evts_nil) (fun _ _ _ _ _ => (ev_call (n := 2) ((ok__law_take T).mono (Nat.le_trans (show 1 ≤ 2 by decide) (Nat.le_add_right 2 n))) hr takes0 rfl T.g__law_take T.F__law_take.kp T.b__law_take (eva_cons (ev_var (i := 0) rfl (.inr (.inl rfl))) (eva_cons (ev_ix (ev_var (i := 1) rfl (.inr (.inl rfl))) ev_int rfl) eva_nil)))))
    (ess_cons (es_set (i := 7) sc__law_rows.nd rfl (.inl rfl) (ev_call (n := 2) ((ok__law_take T).mono (Nat.le_trans (show 1 ≤ 2 by decide) (Nat.le_add_right 2 n))) hr (takes_of rfl rfl rfl rfl) rfl T.g__law_take T.F__law_take.kp T.b__law_take (eva_cons (ev_var (i := 0) rfl (.inr (.inl rfl))) (eva_cons (ev_if (evt_cmp op_gt gtK_ok (ev_var (i := 3) rfl (.inl rfl)) ev_int (nomark _)) ev_int ev_int) eva_nil))))
    (ess_one (es_if (evt_w (evw_or (evt_cmp op_lt ltK_ok (ev_var (i := 7) rfl (.inl rfl)) ev_int (nomark _)) (evw_or1 (evt_w (evw_and (evt_cmp op_lt ltK_ok (ev_var (i := 7) rfl (.inl rfl)) ev_int (nomark _)) (evw_and1 (evt_cmp (op_eqP hr.units) (eqK_ok false) (ev_ix (ev_var (i := 1) rfl (.inr (.inl rfl))) ev_int rfl) ev_int (nomark _))))))))
    (ess_one (es_app (i := 4) rfl (.inl rfl) (ev_op op_addK addK_ok (ev_tup (eva_cons ev_str (eva_cons (ev_call (n := 2) ((ok__law_take T).mono (Nat.le_trans (show 1 ≤ 2 by decide) (Nat.le_add_right 2 n))) hr (takes_of rfl rfl rfl rfl) rfl T.g__law_take T.F__law_take.kp T.b__law_take (eva_cons (ev_var (i := 0) rfl (.inr (.inl rfl))) (eva_cons (ev_callB call_lenK lenK_ok rfl T.n_len (by decide +kernel) (eva_cons (ev_ix (ev_var (i := 1) rfl (.inr (.inl rfl))) ev_int rfl) eva_nil)) eva_nil))) eva_nil))) (ev_callTy call_tuple_of tupK_ok rfl T.n_tuple (by decide +kernel) (eva_cons (ev_var (i := 6) rfl (.inl rfl)) eva_nil))) rfl))
    (ess_one (es_if (evt_cmp op_lt ltK_ok (ev_var (i := 7) rfl (.inl rfl)) ev_int (nomark _))
    (ess_one (es_app (i := 4) rfl (.inl rfl) (ev_op op_addK addK_ok (ev_tup (eva_cons (ev_ix (ev_lst (eva_cons ev_str (eva_cons ev_str eva_nil))) (ev_op op_sub subK_ok (ev_var (i := 7) rfl (.inl rfl)) ev_int) rfl) eva_nil)) (ev_callTy call_tuple_of tupK_ok rfl T.n_tuple (by decide +kernel) (eva_cons (ev_sl (ev_var (i := 6) rfl (.inl rfl)) evo_none (evo_some ev_int) rfl) eva_nil))) rfl))
    (ess_one (es_if (evt_cmp op_lt ltK_ok (ev_var (i := 7) rfl (.inl rfl)) ev_int (nomark _))
    (ess_one (es_app (i := 4) rfl (.inl rfl) (ev_if (evt_cmp (op_eqP hr.units) (eqK_ok false) (ev_var (i := 7) rfl (.inl rfl)) ev_int (nomark _)) (ev_tup (eva_cons ev_str eva_nil)) (ev_tup (eva_cons ev_str (eva_cons ev_int (eva_cons (ev_ix (ev_var (i := 6) rfl (.inl rfl)) ev_int rfl) (eva_cons (ev_ix (ev_var (i := 6) rfl (.inl rfl)) ev_int rfl) (eva_cons (ev_ix (ev_var (i := 6) rfl (.inl rfl)) ev_int rfl) eva_nil))))))) rfl))
    (ess_one (es_if (evt_cmp op_lt ltK_ok (ev_var (i := 7) rfl (.inl rfl)) ev_int (nomark _))
    (ess_one (es_app (i := 4) rfl (.inl rfl) (ev_tup (eva_cons ev_str (eva_cons (ev_ix (ev_var (i := 6) rfl (.inl rfl)) ev_int rfl) (eva_cons (ev_call (n := 4) (H__law_rows) hr (takes_of rfl rfl rfl rfl) rfl T.g__law_rows T.F__law_rows.kp T.b__law_rows (eva_cons (ev_var (i := 0) rfl (.inr (.inl rfl))) (eva_cons (ev_var (i := 1) rfl (.inr (.inl rfl))) (eva_cons (ev_call (n := 2) ((ok__law_take T).mono (Nat.le_trans (show 1 ≤ 2 by decide) (Nat.le_add_right 2 n))) hr (takes_of rfl rfl rfl rfl) rfl T.g__law_take T.F__law_take.kp T.b__law_take (eva_cons (ev_var (i := 0) rfl (.inr (.inl rfl))) (eva_cons ev_int eva_nil))) (eva_cons (ev_op op_sub subK_ok (ev_var (i := 3) rfl (.inl rfl)) ev_int) eva_nil))))) (eva_cons (ev_call (n := 4) (H__law_rows) hr (takes_of rfl rfl rfl rfl) rfl T.g__law_rows T.F__law_rows.kp T.b__law_rows (eva_cons (ev_var (i := 0) rfl (.inr (.inl rfl))) (eva_cons (ev_var (i := 1) rfl (.inr (.inl rfl))) (eva_cons (ev_call (n := 2) ((ok__law_take T).mono (Nat.le_trans (show 1 ≤ 2 by decide) (Nat.le_add_right 2 n))) hr (takes_of rfl rfl rfl rfl) rfl T.g__law_take T.F__law_take.kp T.b__law_take (eva_cons (ev_var (i := 0) rfl (.inr (.inl rfl))) (eva_cons ev_int eva_nil))) (eva_cons (ev_op op_sub subK_ok (ev_var (i := 3) rfl (.inl rfl)) ev_int) eva_nil))))) eva_nil))))) rfl))
    (ess_one (es_app (i := 4) rfl (.inl rfl) (ev_tup (eva_cons ev_str (eva_cons (ev_call (n := 2) ((ok__law_take T).mono (Nat.le_trans (show 1 ≤ 2 by decide) (Nat.le_add_right 2 n))) hr (takes_of rfl rfl rfl rfl) rfl T.g__law_take T.F__law_take.kp T.b__law_take (eva_cons (ev_var (i := 0) rfl (.inr (.inl rfl))) (eva_cons ev_int eva_nil))) (eva_cons (ev_call (n := 4) (H__law_rows) hr (takes_of rfl rfl rfl rfl) rfl T.g__law_rows T.F__law_rows.kp T.b__law_rows (eva_cons (ev_var (i := 0) rfl (.inr (.inl rfl))) (eva_cons (ev_var (i := 1) rfl (.inr (.inl rfl))) (eva_cons (ev_call (n := 2) ((ok__law_take T).mono (Nat.le_trans (show 1 ≤ 2 by decide) (Nat.le_add_right 2 n))) hr (takes_of rfl rfl rfl rfl) rfl T.g__law_take T.F__law_take.kp T.b__law_take (eva_cons (ev_var (i := 0) rfl (.inr (.inl rfl))) (eva_cons ev_int eva_nil))) (eva_cons (ev_op op_sub subK_ok (ev_var (i := 3) rfl (.inl rfl)) ev_int) eva_nil))))) eva_nil)))) rfl)))))))))))))
    (ess_one (es_ret (ev_callTy call_tuple_of tupK_ok rfl T.n_tuple (by decide +kernel) (eva_cons (ev_var (i := 4) rfl (.inl rfl)) eva_nil))))))
theorem ok__law_datum (T : Pk P w K mg base) : FnOk P w K mg base (L2.CX P w) 2 T.a__law_datum T.fd__law_datum ps__law_datum (spF K mg T.tb ps__law_datum.length F__law_datum) :=
  fn_ok (N := N__law_datum) (sf := sf__law_datum) T.F__law_datum sc__law_datum fun cdv A outer s H E M r L hr =>
    (ess_one (es_ret (ev_callTy call_tuple_of tupK_ok rfl T.n_tuple (by decide +kernel) (eva_cons (ev_valN (evn_lc (own := [("_law_spot", 2)]) (ts := [2]) rfl sc__law_datum.nd (evi_range1 rfl T.n_range (eva_cons (ev_op op_addK addK_ok (ev_ix (ev_var (i := 1) rfl (.inr (.inl rfl))) ev_int rfl) (ev_ix (ev_var (i := 1) rfl (.inr (.inl rfl))) ev_int rfl)) eva_nil)) (show BlkOk N__law_datum (defScope s__law_datum) _ [("_law_spot", 2)] from ⟨rfl, by decide +kernel, by decide +kernel, by decide +kernel, by decide +kernel⟩) (by decide) (fun _ _ _ _ _ => (evg_name (i := 2) sc__law_datum.nd rfl (.inl rfl))) (fun _ _ _ _ _ => evts_nil) (fun _ _ _ _ _ => (ev_call (n := 2) ((ok__law_take T).mono (show 1 ≤ 1 by decide)) hr takes0 rfl T.g__law_take T.F__law_take.kp T.b__law_take (eva_cons (ev_var (i := 0) rfl (.inr (.inl rfl))) (eva_cons (ev_ix (ev_var (i := 1) rfl (.inr (.inl rfl))) ev_int rfl) eva_nil)))))) eva_nil))))
theorem ok__law_plain (T : Pk P w K mg base) : ∀ n : Nat, FnOk P w K mg base (L2.CX P w) (1 + n) T.a__law_plain T.fd__law_plain ps__law_plain (spF K mg T.tb ps__law_plain.length (F__law_plain n))
  | 0 => fn_bad
  | n + 1 => by
    have H__law_plain := ok__law_plain T n
    exact fn_ok (N := N__law_plain) (sf := sf__law_plain (F__law_plain n)) T.F__law_plain sc__law_plain fun cdv A outer s H E M r L hr =>
    (ess_cons (es_own (i := 1) sc__law_plain.nd rfl (.inl rfl) (evn_lst eva_nil))
    (ess_cons (es_for (ts := [2]) (passes_of rfl) rfl (evi_seq (ev_var (i := 0) rfl (.inl rfl)) rfl) (evg_name (i := 2) sc__law_plain.nd rfl (.inl rfl))
    (ess_one (es_if (evt_cmp (op_eqP hr.units) (eqK_ok false) (ev_ix (ev_var (i := 2) rfl (.inl rfl)) ev_int rfl) ev_str (nomark _))
    (ess_one (es_for (ts := [3]) (passes_of rfl) rfl (evi_range1 rfl T.n_range (eva_cons (ev_ix (ev_var (i := 2) rfl (.inl rfl)) ev_int rfl) eva_nil)) (evg_name (i := 3) sc__law_plain.nd rfl (.inl rfl))
    (ess_one (es_ext (i := 1) rfl (.inl rfl) (ev_call (n := 1) (H__law_plain) hr (takes_of rfl rfl rfl rfl) rfl T.g__law_plain T.F__law_plain.kp T.b__law_plain (eva_cons (ev_ix (ev_var (i := 2) rfl (.inl rfl)) ev_int rfl) eva_nil)) rfl))))
    (ess_one (es_app (i := 1) rfl (.inl rfl) (ev_if (evt_cmp (op_eqP hr.units) (eqK_ok false) (ev_ix (ev_var (i := 2) rfl (.inl rfl)) ev_int rfl) ev_str (nomark _)) (ev_tup (eva_cons ev_str (eva_cons (ev_ix (ev_var (i := 2) rfl (.inl rfl)) ev_int rfl) (eva_cons (ev_callTy call_tuple_of tupK_ok rfl T.n_tuple (by decide +kernel) (eva_cons (ev_call (n := 1) (H__law_plain) hr (takes_of rfl rfl rfl rfl) rfl T.g__law_plain T.F__law_plain.kp T.b__law_plain (eva_cons (ev_ix (ev_var (i := 2) rfl (.inl rfl)) ev_int rfl) eva_nil)) eva_nil)) (eva_cons (ev_callTy call_tuple_of tupK_ok rfl T.n_tuple (by decide +kernel) (eva_cons (ev_call (n := 1) (H__law_plain) hr (takes_of rfl rfl rfl rfl) rfl T.g__law_plain T.F__law_plain.kp T.b__law_plain (eva_cons (ev_ix (ev_var (i := 2) rfl (.inl rfl)) ev_int rfl) eva_nil)) eva_nil)) eva_nil))))) (ev_var (i := 2) rfl (.inl rfl))) rfl)))))
    (ess_one (es_ret (ev_var (i := 1) rfl (.inl rfl))))))
theorem ok__law_is_below (T : Pk P w K mg base) : FnOk P w K mg base (L2.CX P w) 1 T.a__law_is_below T.fd__law_is_below ps__law_is_below (spF K mg T.tb ps__law_is_below.length F__law_is_below) :=
  fn_ok (N := N__law_is_below) (sf := sf__law_is_below) T.F__law_is_below sc__law_is_below fun cdv A outer s H E M r L hr =>
    (ess_one (es_ret (ev_and (ev_isi (T := "int") rfl T.n_isinstance rfl T.n_int (by decide +kernel) (ev_var (i := 0) rfl (.inl rfl)) rfl (by decide +kernel)) (ev_and (ev_not (ev_isi (T := "bool") rfl T.n_isinstance rfl T.n_bool (by decide +kernel) (ev_var (i := 0) rfl (.inl rfl)) rfl (by decide +kernel))) (ev_one (ev_chain op_le op_lt leK_ok ltK_ok ev_int (ev_var (i := 0) rfl (.inl rfl)) (ev_var (i := 1) rfl (.inl rfl))))))))
theorem ok__law_are_below (T : Pk P w K mg base) : FnOk P w K mg base (L2.CX P w) 2 T.a__law_are_below T.fd__law_are_below ps__law_are_below (spF K mg T.tb ps__law_are_below.length F__law_are_below) :=
  fn_ok (N := N__law_are_below) (sf := sf__law_are_below) T.F__law_are_below sc__law_are_below fun cdv A outer s H E M r L hr =>
    (ess_one (es_ret (ev_and (ev_isi (T := "tuple") rfl T.n_isinstance rfl T.n_tuple (by decide +kernel) (ev_var (i := 0) rfl (.inl rfl)) rfl (by decide +kernel)) (ev_and (ev_cmp (op_eqP hr.units) (eqK_ok false) (ev_callB call_lenK lenK_ok rfl T.n_len (by decide +kernel) (eva_cons (ev_var (i := 0) rfl (.inl rfl)) eva_nil)) (ev_var (i := 1) rfl (.inl rfl)) (nomark _)) (ev_one (ev_cmp (op_eqP hr.units) (eqK_ok false) (ev_valN (evn_lc (own := [("_law_one", 3)]) (ts := [3]) rfl sc__law_are_below.nd (evi_seq (ev_var (i := 0) rfl (.inl rfl)) rfl) (show BlkOk N__law_are_below (defScope s__law_are_below) _ [("_law_one", 3)] from ⟨rfl, by decide +kernel, by decide +kernel, by decide +kernel, by decide +kernel⟩) (by decide) (fun _ _ _ _ _ => (evg_name (i := 3) sc__law_are_below.nd rfl (.inl rfl))) (fun _ _ _ _ _ => (evts_one (evt_not (evt_val (ev_call (n := 2) ((ok__law_is_below T).mono (show 1 ≤ 1 by decide)) hr takes0 rfl T.g__law_is_below T.F__law_is_below.kp T.b__law_is_below (eva_cons (ev_var (i := 3) rfl (.inl rfl)) (eva_cons (ev_var (i := 2) rfl (.inr (.inl rfl))) eva_nil))) fun _ => rfl)))) (fun _ _ _ _ _ => (ev_var (i := 3) rfl (.inl rfl))))) (ev_lst eva_nil) (nomark _)))))))
theorem ok__law_frame_due (T : Pk P w K mg base) : FnOk P w K mg base (L2.CX P w) 3 T.a__law_frame_due T.fd__law_frame_due ps__law_frame_due (spF K mg T.tb ps__law_frame_due.length F__law_frame_due) :=
  fn_ok (N := N__law_frame_due) (sf := sf__law_frame_due) T.F__law_frame_due sc__law_frame_due fun cdv A outer s H E M r L hr =>
    (ess_cons (es_if (evt_w (evw_or (evt_not (evt_val (ev_isi (T := "tuple") rfl T.n_isinstance rfl T.n_tuple (by decide +kernel) (ev_var (i := 0) rfl (.inr (.inl rfl))) rfl (by decide +kernel)) fun _ => rfl)) (evw_or1 (evt_cmp (op_neP hr.units) (eqK_ok true) (ev_callB call_lenK lenK_ok rfl T.n_len (by decide +kernel) (eva_cons (ev_var (i := 0) rfl (.inr (.inl rfl))) eva_nil)) ev_int (nomark _)))))
    (ess_one (es_ret (ev_neg ev_int)))
    ess_nil)
    (ess_cons (es_if (evt_w (evw_or (evt_not (evt_val (ev_call (n := 2) ((ok__law_is_below T).mono (show 1 ≤ 2 by decide)) hr (takes_of rfl rfl rfl rfl) rfl T.g__law_is_below T.F__law_is_below.kp T.b__law_is_below (eva_cons (ev_ix (ev_var (i := 0) rfl (.inr (.inl rfl))) ev_int rfl) (eva_cons ev_int eva_nil))) fun _ => rfl)) (evw_or1 (evt_cmp op_lt ltK_ok (ev_ix (ev_var (i := 0) rfl (.inr (.inl rfl))) ev_int rfl) ev_int (nomark _)))))
    (ess_one (es_ret ev_int))
    ess_nil)
    (ess_cons (es_if (evt_w (evw_or (evt_not (evt_val (ev_call (n := 2) ((ok__law_is_below T).mono (show 1 ≤ 2 by decide)) hr (takes_of rfl rfl rfl rfl) rfl T.g__law_is_below T.F__law_is_below.kp T.b__law_is_below (eva_cons (ev_ix (ev_var (i := 0) rfl (.inr (.inl rfl))) ev_int rfl) (eva_cons ev_int eva_nil))) fun _ => rfl)) (evw_or1 (evt_cmp (op_eqP hr.units) (eqK_ok false) (ev_ix (ev_var (i := 0) rfl (.inr (.inl rfl))) ev_int rfl) ev_int (nomark _)))))
    (ess_one (es_ret ev_int))
    ess_nil)
    (ess_cons (es_if (evt_w (evw_or (evt_not (evt_val (ev_call (n := 2) ((ok__law_is_below T).mono (show 1 ≤ 2 by decide)) hr (takes_of rfl rfl rfl rfl) rfl T.g__law_is_below T.F__law_is_below.kp T.b__law_is_below (eva_cons (ev_ix (ev_var (i := 0) rfl (.inr (.inl rfl))) ev_int rfl) (eva_cons ev_int eva_nil))) fun _ => rfl)) (evw_or1 (evt_cmp (op_notInP hr.units) (inK_ok true) (ev_ix (ev_var (i := 0) rfl (.inr (.inl rfl))) ev_int rfl) (ev_lst (eva_cons ev_int (eva_cons (ev_ix (ev_var (i := 0) rfl (.inr (.inl rfl))) ev_int rfl) eva_nil))) rfl))))
    (ess_one (es_ret ev_int))
    ess_nil)
    (ess_cons (es_if (evt_w (evw_or (evt_not (evt_val (ev_isi (T := "tuple") rfl T.n_isinstance rfl T.n_tuple (by decide +kernel) (ev_ix (ev_var (i := 0) rfl (.inr (.inl rfl))) ev_int rfl) rfl (by decide +kernel)) fun _ => rfl)) (evw_or (evt_cmp op_gt gtK_ok (ev_callB call_lenK lenK_ok rfl T.n_len (by decide +kernel) (eva_cons (ev_ix (ev_var (i := 0) rfl (.inr (.inl rfl))) ev_int rfl) eva_nil)) ev_int (nomark _)) (evw_or1 (evt_cmp (op_neP hr.units) (eqK_ok true) (ev_valN (evn_lc (own := [("_law_one", 1)]) (ts := [1]) rfl sc__law_frame_due.nd (evi_seq (ev_ix (ev_var (i := 0) rfl (.inr (.inl rfl))) ev_int rfl) rfl) (show BlkOk N__law_frame_due (defScope s__law_frame_due) _ [("_law_one", 1)] from ⟨rfl, by decide +kernel, by decide +kernel, by decide +kernel, by decide +kernel⟩) (by decide) (fun _ _ _ _ _ => (evg_name (i := 1) sc__law_frame_due.nd rfl (.inl rfl))) (fun _ _ _ _ _ => (evts_one (evt_not (evt_val (ev_call (n := 3) ((ok__law_are_below T).mono (show 2 ≤ 2 by decide)) hr takes0 rfl T.g__law_are_below T.F__law_are_below.kp T.b__law_are_below (eva_cons (ev_var (i := 1) rfl (.inl rfl)) (eva_cons (ev_op op_pow powK_ok (ev_ix (ev_var (i := 0) rfl (.inr (.inl rfl))) ev_int rfl) ev_int) (eva_cons (ev_ix (ev_var (i := 0) rfl (.inr (.inl rfl))) ev_int rfl) eva_nil)))) fun _ => rfl)))) (fun _ _ _ _ _ => (ev_var (i := 1) rfl (.inl rfl))))) (ev_lst eva_nil) (nomark _))))))
    (ess_one (es_ret ev_int))
    ess_nil)
    (ess_one (es_ret (ev_if (evt_val (ev_call (n := 2) ((ok__law_is_below T).mono (show 1 ≤ 2 by decide)) hr (takes_of rfl rfl rfl rfl) rfl T.g__law_is_below T.F__law_is_below.kp T.b__law_is_below (eva_cons (ev_ix (ev_var (i := 0) rfl (.inr (.inl rfl))) ev_int rfl) (eva_cons ev_int eva_nil))) fun _ => rfl) ev_non ev_int))))))))
theorem okR__law_is_row (T : Pk P w K mg base) : ∀ n : Nat, FnOk P w K mg base (L2.CX P w) (3 + n) T.a__law_is_row T.fd__law_is_row ps__law_is_row (spF K mg T.tb ps__law_is_row.length (F__law_is_row n)) ∧ FnOk P w K mg base (L2.CX P w) (3 + n) T.a__law_due T.fd__law_due ps__law_due (spF K mg T.tb ps__law_due.length (F__law_due n))
  | 0 => ⟨fn_bad, fn_bad⟩
  | n + 1 => by
    obtain ⟨H__law_is_row, H__law_due⟩ := okR__law_is_row T n
    refine ⟨?_, ?_⟩
    · exact fn_ok (N := N__law_is_row) (sf := sf__law_is_row (F__law_is_row n) (F__law_due n)) T.F__law_is_row sc__law_is_row fun cdv A outer s H E M r L hr =>
    (ess_cons (es_if (evt_w (evw_or (evt_not (evt_val (ev_isi (T := "tuple") rfl T.n_isinstance rfl T.n_tuple (by decide +kernel) (ev_var (i := 1) rfl (.inl rfl)) rfl (by decide +kernel)) fun _ => rfl)) (evw_or (evt_cmp (op_eqP hr.units) (eqK_ok false) (ev_var (i := 1) rfl (.inl rfl)) (ev_tup eva_nil) (nomark _)) (evw_or1 (evt_cmp (op_notInP hr.units) (inK_ok true) (ev_ix (ev_var (i := 1) rfl (.inl rfl)) ev_int rfl) (ev_lst (eva_cons ev_str (eva_cons ev_str (eva_cons ev_str (eva_cons ev_str (eva_cons ev_str (eva_cons ev_str eva_nil))))))) rfl)))))
    (ess_one (es_ret ev_bl))
    ess_nil)
    (ess_cons (es_if (evt_cmp (op_neP hr.units) (eqK_ok true) (ev_callB call_lenK lenK_ok rfl T.n_len (by decide +kernel) (eva_cons (ev_var (i := 1) rfl (.inl rfl)) eva_nil)) (ev_ix (ev_lst (eva_cons ev_int (eva_cons ev_int (eva_cons ev_int (eva_cons ev_int (eva_cons ev_int (eva_cons ev_int eva_nil))))))) (ev_index hr.units (ev_lst (eva_cons ev_str (eva_cons ev_str (eva_cons ev_str (eva_cons ev_str (eva_cons ev_str (eva_cons ev_str eva_nil))))))) (ev_ix (ev_var (i := 1) rfl (.inl rfl)) ev_int rfl) rfl) rfl) (nomark _))
    (ess_one (es_ret ev_bl))
    ess_nil)
    (ess_cons (es_if (evt_cmp (op_eqP hr.units) (eqK_ok false) (ev_ix (ev_var (i := 1) rfl (.inl rfl)) ev_int rfl) ev_str (nomark _))
    (ess_one (es_ret (ev_and (ev_call (n := 2) ((ok__law_is_below T).mono (Nat.le_trans (show 1 ≤ 3 by decide) (Nat.le_add_right 3 n))) hr (takes_of rfl rfl rfl rfl) rfl T.g__law_is_below T.F__law_is_below.kp T.b__law_is_below (eva_cons (ev_ix (ev_var (i := 1) rfl (.inl rfl)) ev_int rfl) (eva_cons (ev_callB call_lenK lenK_ok rfl T.n_len (by decide +kernel) (eva_cons (ev_ix (ev_var (i := 0) rfl (.inl rfl)) ev_int rfl) eva_nil)) eva_nil))) (ev_one (ev_call (n := 3) ((ok__law_are_below T).mono (Nat.le_trans (show 2 ≤ 3 by decide) (Nat.le_add_right 3 n))) hr (takes_of rfl rfl rfl rfl) rfl T.g__law_are_below T.F__law_are_below.kp T.b__law_are_below (eva_cons (ev_sl (ev_var (i := 1) rfl (.inl rfl)) (evo_some ev_int) evo_none rfl) (eva_cons ev_int (eva_cons (ev_ix (ev_var (i := 0) rfl (.inl rfl)) ev_int rfl) eva_nil))))))))
    ess_nil)
    (ess_cons (es_if (evt_cmp (op_inP hr.units) (inK_ok false) (ev_ix (ev_var (i := 1) rfl (.inl rfl)) ev_int rfl) (ev_lst (eva_cons ev_str (eva_cons ev_str eva_nil))) rfl)
    (ess_one (es_ret (ev_and (ev_cmp op_gt gtK_ok (ev_ix (ev_var (i := 0) rfl (.inl rfl)) ev_int rfl) ev_int (nomark _)) (ev_one (ev_call (n := 3) ((ok__law_are_below T).mono (Nat.le_trans (show 2 ≤ 3 by decide) (Nat.le_add_right 3 n))) hr (takes_of rfl rfl rfl rfl) rfl T.g__law_are_below T.F__law_are_below.kp T.b__law_are_below (eva_cons (ev_sl (ev_var (i := 1) rfl (.inl rfl)) (evo_some ev_int) evo_none rfl) (eva_cons ev_int (eva_cons (ev_ix (ev_var (i := 0) rfl (.inl rfl)) ev_int rfl) eva_nil))))))))
    ess_nil)
    (ess_cons (es_if (evt_cmp (op_eqP hr.units) (eqK_ok false) (ev_ix (ev_var (i := 1) rfl (.inl rfl)) ev_int rfl) ev_str (nomark _))
    (ess_one (es_ret (ev_and (ev_call (n := 2) ((ok__law_is_below T).mono (Nat.le_trans (show 1 ≤ 3 by decide) (Nat.le_add_right 3 n))) hr (takes_of rfl rfl rfl rfl) rfl T.g__law_is_below T.F__law_is_below.kp T.b__law_is_below (eva_cons (ev_ix (ev_var (i := 1) rfl (.inl rfl)) ev_int rfl) (eva_cons (ev_ix (ev_var (i := 0) rfl (.inl rfl)) ev_int rfl) eva_nil))) (ev_and (ev_cmp op_isN isNK_ok (ev_call (n := 2) (H__law_due) hr (takes_of rfl rfl rfl rfl) rfl T.g__law_due T.F__law_due.kp T.b__law_due (eva_cons (ev_var (i := 0) rfl (.inl rfl)) (eva_cons (ev_ix (ev_var (i := 1) rfl (.inl rfl)) ev_int rfl) eva_nil))) ev_non (nomark _)) (ev_one (ev_cmp op_isN isNK_ok (ev_call (n := 2) (H__law_due) hr (takes_of rfl rfl rfl rfl) rfl T.g__law_due T.F__law_due.kp T.b__law_due (eva_cons (ev_var (i := 0) rfl (.inl rfl)) (eva_cons (ev_ix (ev_var (i := 1) rfl (.inl rfl)) ev_int rfl) eva_nil))) ev_non (nomark _)))))))
    ess_nil)
    (ess_one (es_ret (ev_or (ev_cmp (op_eqP hr.units) (eqK_ok false) (ev_ix (ev_var (i := 1) rfl (.inl rfl)) ev_int rfl) ev_str (nomark _)) (ev_one (ev_and (ev_call (n := 2) ((ok__law_is_below T).mono (Nat.le_trans (show 1 ≤ 3 by decide) (Nat.le_add_right 3 n))) hr (takes_of rfl rfl rfl rfl) rfl T.g__law_is_below T.F__law_is_below.kp T.b__law_is_below (eva_cons (ev_ix (ev_var (i := 1) rfl (.inl rfl)) ev_int rfl) (eva_cons ev_int eva_nil))) (ev_one (ev_cmp op_isN isNK_ok (ev_call (n := 2) (H__law_due) hr (takes_of rfl rfl rfl rfl) rfl T.g__law_due T.F__law_due.kp T.b__law_due (eva_cons (ev_var (i := 0) rfl (.inl rfl)) (eva_cons (ev_ix (ev_var (i := 1) rfl (.inl rfl)) ev_int rfl) eva_nil))) ev_non (nomark _)))))))))))))
    · exact fn_ok (N := N__law_due) (sf := sf__law_due (F__law_is_row n) (F__law_due n)) T.F__law_due sc__law_due fun cdv A outer s H E M r L hr =>
    (ess_cons (es_if (evt_not (evt_val (ev_isi (T := "tuple") rfl T.n_isinstance rfl T.n_tuple (by decide +kernel) (ev_var (i := 1) rfl (.inl rfl)) rfl (by decide +kernel)) fun _ => rfl))
    (ess_one (es_ret (ev_neg ev_int)))
    ess_nil)
    (ess_cons (es_ownLc (i := 2) (own := [("_law_at", 3), ("_law_row", 4)]) (ts := ([3] ++ ([4] ++ []))) rfl sc__law_due.nd rfl rfl rfl (evi_enum rfl T.n_enumerate (eva_cons (ev_var (i := 1) rfl (.inl rfl)) eva_nil) rfl) (show BlkOk N__law_due (defScope s__law_due) _ [("_law_at", 3), ("_law_row", 4)] from ⟨rfl, by decide +kernel, by decide +kernel, by decide +kernel, by decide +kernel⟩) (by decide) (fun _ _ _ _ _ => (evg_tup rfl (evgs_cons (evg_name (i := 3) sc__law_due.nd rfl (.inl rfl)) (evgs_cons (evg_name (i := 4) sc__law_due.nd rfl (.inl rfl)) evgs_nil)) rfl)) (fun _ _ _ _ _ => (evts_one (evt_not (evt_val (ev_call (n := 2) (H__law_is_row) hr takes0 rfl T.g__law_is_row T.F__law_is_row.kp T.b__law_is_row (eva_cons (ev_var (i := 0) rfl (.inr (.inl rfl))) (eva_cons (ev_var (i := 4) rfl (.inl rfl)) eva_nil))) fun _ => rfl)))) (fun _ _ _ _ _ => (ev_var (i := 3) rfl (.inl rfl))))
    (ess_one (es_ret (ev_if (evt_cmp (op_eqP hr.units) (eqK_ok false) (ev_var (i := 2) rfl (.inl rfl)) (ev_lst eva_nil) (nomark _)) ev_non (ev_ix (ev_var (i := 2) rfl (.inl rfl)) ev_int rfl))))))
theorem ok__law_is_row (T : Pk P w K mg base) (n : Nat) : FnOk P w K mg base (L2.CX P w) (3 + n) T.a__law_is_row T.fd__law_is_row ps__law_is_row (spF K mg T.tb ps__law_is_row.length (F__law_is_row n)) := (okR__law_is_row T n).1
theorem ok__law_due (T : Pk P w K mg base) (n : Nat) : FnOk P w K mg base (L2.CX P w) (3 + n) T.a__law_due T.fd__law_due ps__law_due (spF K mg T.tb ps__law_due.length (F__law_due n)) := (okR__law_is_row T n).2
theorem ok__law_bent (T : Pk P w K mg base) : ∀ n : Nat, FnOk P w K mg base (L2.CX P w) (3 + n) T.a__law_bent T.fd__law_bent ps__law_bent (spF K mg T.tb ps__law_bent.length (F__law_bent n))
  | 0 => fn_bad
  | n + 1 => by
    have H__law_bent := ok__law_bent T n
    exact fn_ok (N := N__law_bent) (sf := sf__law_bent (F__law_bent n)) T.F__law_bent sc__law_bent fun cdv A outer s H E M r L hr =>
    (ess_cons (es_if (evt_w (evw_and (evt_cmp op_gt gtK_ok (ev_var (i := 2) rfl (.inl rfl)) ev_int (nomark _)) (evw_and (evt_val (ev_isi (T := "tuple") rfl T.n_isinstance rfl T.n_tuple (by decide +kernel) (ev_var (i := 1) rfl (.inl rfl)) rfl (by decide +kernel)) fun _ => rfl) (evw_and (evt_cmp (op_neP hr.units) (eqK_ok true) (ev_var (i := 1) rfl (.inl rfl)) (ev_tup eva_nil) (nomark _)) (evw_and1 (evt_cmp op_gt gtK_ok (ev_call (n := 2) ((ok__law_take T).mono (Nat.le_trans (show 1 ≤ 3 by decide) (Nat.le_add_right 3 n))) hr (takes_of rfl rfl rfl rfl) rfl T.g__law_take T.F__law_take.kp T.b__law_take (eva_cons (ev_var (i := 0) rfl (.inl rfl)) (eva_cons ev_int eva_nil))) ev_int (nomark _)))))))
    (ess_cons (es_set (i := 3) sc__law_bent.nd rfl (.inl rfl) (ev_call (n := 2) ((ok__law_take T).mono (Nat.le_trans (show 1 ≤ 3 by decide) (Nat.le_add_right 3 n))) hr (takes_of rfl rfl rfl rfl) rfl T.g__law_take T.F__law_take.kp T.b__law_take (eva_cons (ev_var (i := 0) rfl (.inl rfl)) (eva_cons (ev_callB call_lenK lenK_ok rfl T.n_len (by decide +kernel) (eva_cons (ev_var (i := 1) rfl (.inl rfl)) eva_nil)) eva_nil))))
    (ess_one (es_ret (ev_op op_addK addK_ok (ev_op op_addK addK_ok (ev_sl (ev_var (i := 1) rfl (.inl rfl)) evo_none (evo_some (ev_var (i := 3) rfl (.inl rfl))) rfl) (ev_tup (eva_cons (ev_call (n := 3) (H__law_bent) hr (takes_of rfl rfl rfl rfl) rfl T.g__law_bent T.F__law_bent.kp T.b__law_bent (eva_cons (ev_var (i := 0) rfl (.inl rfl)) (eva_cons (ev_ix (ev_var (i := 1) rfl (.inl rfl)) (ev_var (i := 3) rfl (.inl rfl)) rfl) (eva_cons (ev_op op_sub subK_ok (ev_var (i := 2) rfl (.inl rfl)) ev_int) eva_nil)))) eva_nil))) (ev_sl (ev_var (i := 1) rfl (.inl rfl)) (evo_some (ev_op op_addK addK_ok (ev_var (i := 3) rfl (.inl rfl)) ev_int)) evo_none rfl)))))
    ess_nil)
    (ess_cons (es_if (evt_val (ev_isi (T := "tuple") rfl T.n_isinstance rfl T.n_tuple (by decide +kernel) (ev_var (i := 1) rfl (.inl rfl)) rfl (by decide +kernel)) fun _ => rfl)
    (ess_one (es_ret (ev_call (n := 2) ((ok__law_pick T).mono (Nat.le_trans (show 2 ≤ 3 by decide) (Nat.le_add_right 3 n))) hr (takes_of rfl rfl rfl rfl) rfl T.g__law_pick T.F__law_pick.kp T.b__law_pick (eva_cons (ev_var (i := 0) rfl (.inl rfl)) (eva_cons (ev_lst (eva_cons (ev_valN (evn_list rfl T.n_list (eva_cons (ev_var (i := 1) rfl (.inl rfl)) eva_nil) rfl)) (eva_cons (ev_op op_addK addK_ok (ev_var (i := 1) rfl (.inl rfl)) (ev_sl (ev_var (i := 1) rfl (.inl rfl)) evo_none (evo_some ev_int) rfl)) (eva_cons (ev_sl (ev_var (i := 1) rfl (.inl rfl)) (evo_some ev_int) evo_none rfl) (eva_cons (ev_rev (ev_var (i := 1) rfl (.inl rfl)) rfl) (eva_cons ev_non (eva_cons (ev_op op_addK addK_ok (ev_var (i := 1) rfl (.inl rfl)) (ev_tup (eva_cons ev_int eva_nil))) eva_nil))))))) eva_nil)))))
    ess_nil)
    (ess_cons (es_if (evt_val (ev_isi (T := "str") rfl T.n_isinstance rfl T.n_str (by decide +kernel) (ev_var (i := 1) rfl (.inl rfl)) rfl (by decide +kernel)) fun _ => rfl)
    (ess_one (es_ret (ev_call (n := 2) ((ok__law_pick T).mono (Nat.le_trans (show 2 ≤ 3 by decide) (Nat.le_add_right 3 n))) hr (takes_of rfl rfl rfl rfl) rfl T.g__law_pick T.F__law_pick.kp T.b__law_pick (eva_cons (ev_var (i := 0) rfl (.inl rfl)) (eva_cons (ev_lst (eva_cons ev_str (eva_cons ev_str (eva_cons ev_str (eva_cons ev_str (eva_cons ev_str (eva_cons ev_str (eva_cons ev_str (eva_cons ev_non eva_nil))))))))) eva_nil)))))
    ess_nil)
    (ess_one (es_ret (ev_call (n := 2) ((ok__law_pick T).mono (Nat.le_trans (show 2 ≤ 3 by decide) (Nat.le_add_right 3 n))) hr (takes_of rfl rfl rfl rfl) rfl T.g__law_pick T.F__law_pick.kp T.b__law_pick (eva_cons (ev_var (i := 0) rfl (.inl rfl)) (eva_cons (ev_lst (eva_cons ev_non (eva_cons ev_int (eva_cons ev_int (eva_cons ev_int (eva_cons ev_int (eva_cons ev_int (eva_cons ev_int (eva_cons (ev_neg ev_int) (eva_cons ev_bl (eva_cons ev_str eva_nil))))))))))) eva_nil))))))))
theorem hk__law_heard (T : Pk P w K mg base) : HeardOk P w K mg base 19 s__law_heard T.a__law_heard "_law_heard" "_law_work" N__law_heard sf__law_heard := fun Λ cdv A outer s H E T' M r L hr act =>
    (ess_one (es_try (tab := xtab) (base := xbase) T.xt rfl rfl rfl rfl rfl (takes_of rfl rfl rfl rfl) (fun W tk_pn tk_xe tk ps => (ess_one (es_ret (ev_tup (eva_cons ev_str (eva_cons (act _ _ _ _ _ tk) eva_nil))))))
    (HsOk.as_ rfl ⟨_, T.gx_InvalidFrame⟩ (by decide) sc__law_heard.nd (i := 1) rfl rfl (fun a oe cls d pn hz hf => su_ret rfl hz hf KD.str (i := 1) rfl rfl rfl) (HsOk.as_ rfl ⟨_, T.gx_InvalidDatum⟩ (by decide) sc__law_heard.nd (i := 1) rfl rfl (fun a oe cls d pn hz hf => su_ret rfl hz hf KD.str (i := 1) rfl rfl rfl) (HsOk.as_ rfl ⟨_, T.gx_InvalidProgram⟩ (by decide) sc__law_heard.nd (i := 1) rfl rfl (fun a oe cls d pn hz hf => su_ret rfl hz hf KD.str (i := 1) rfl rfl rfl) .nil)))))
theorem lk_law (T : Pk P w K mg base) (A : Around) (outer : List PySem.Env) (s : Shared) (H : Hp) (E : XK) (M : Imm) (r : List Addr) : ∀ k ld, lt_law[k]? = some ld →
    LamOk (cxOf (L2.CX P w) P w K mg base N_law "law" (defScope s_law) T.a_law (.ref T.ca_law) A outer s H E) ⟨K, mg, T.tb, M, r, H, lamL lt_law (envOfC "law" (defScope s_law) s.heap.objs.size T.a_law (.ref T.ca_law))⟩ 18 ld (bod_law k)
  | 0, _, rfl => ⟨ls_law_0, fun _ _ _ _ _ => rfl, fun A outer s H E f' c' M r hr => show Ev _ _ _ _ (callF (nArgs 1 F_need_frame) (consA (varF 11) nilA)) from (ev_call (n := 1) ((ok_need_frame T).mono (show 5 ≤ 18 by decide)) hr (takes_of rfl rfl rfl rfl) rfl T.g_need_frame T.F_need_frame.kp T.b_need_frame (eva_cons (ev_var (i := 11) rfl (.inr (.inr rfl))) eva_nil))⟩
  | 1, _, rfl => ⟨ls_law_1, fun _ _ _ _ _ => rfl, fun A outer s H E f' c' M r hr => show Ev _ _ _ _ (callF (nArgs 2 F_need_program) (consA (varF 1) (consA (varF 13) nilA))) from (ev_call (n := 2) ((ok_need_program T).mono (show 17 ≤ 18 by decide)) hr (takes_of rfl rfl rfl rfl) rfl T.g_need_program T.F_need_program.kp T.b_need_program (eva_cons (ev_var (i := 1) rfl (.inr (.inr rfl))) (eva_cons (ev_var (i := 13) rfl (.inr (.inr rfl))) eva_nil)))⟩
  | 2, _, rfl => ⟨ls_law_2, fun _ _ _ _ _ => rfl, fun A outer s H E f' c' M r hr => show Ev _ _ _ _ (callF (nArgs 2 F_need_datum) (consA (varF 1) (consA (varF 14) nilA))) from (ev_call (n := 2) ((ok_need_datum T).mono (show 6 ≤ 18 by decide)) hr (takes_of rfl rfl rfl rfl) rfl T.g_need_datum T.F_need_datum.kp T.b_need_datum (eva_cons (ev_var (i := 1) rfl (.inr (.inr rfl))) (eva_cons (ev_var (i := 14) rfl (.inr (.inr rfl))) eva_nil)))⟩
  | 3, _, rfl => ⟨ls_law_3, fun _ _ _ _ _ => rfl, fun A outer s H E f' c' M r hr => show Ev _ _ _ _ (callF (nArgs 2 F_unrolled) (consA (cF .non) (consA (cF .non) nilA))) from (ev_call (n := 2) ((ok_unrolled T).mono (show 18 ≤ 18 by decide)) hr (takes_of rfl rfl rfl rfl) rfl T.g_unrolled T.F_unrolled.kp T.b_unrolled (eva_cons ev_non (eva_cons ev_non eva_nil)))⟩
  | 4, _, rfl => ⟨ls_law_4, fun _ _ _ _ _ => rfl, fun A outer s H E f' c' M r hr => show Ev _ _ _ _ (callF (nArgs 2 F_unrolled) (consA (varF 1) (consA (cF .non) nilA))) from (ev_call (n := 2) ((ok_unrolled T).mono (show 18 ≤ 18 by decide)) hr (takes_of rfl rfl rfl rfl) rfl T.g_unrolled T.F_unrolled.kp T.b_unrolled (eva_cons (ev_var (i := 1) rfl (.inr (.inr rfl))) (eva_cons ev_non eva_nil)))⟩
  | 5, _, rfl => ⟨ls_law_5, fun _ _ _ _ _ => rfl, fun A outer s H E f' c' M r hr => show Ev _ _ _ _ (callF (nArgs 1 F_all_data) (consA (slF (varF 1) noO (someO (cF (.int 4)))) nilA)) from (ev_call (n := 1) ((ok_all_data T).mono (show 6 ≤ 18 by decide)) hr (takes_of rfl rfl rfl rfl) rfl T.g_all_data T.F_all_data.kp T.b_all_data (eva_cons (ev_sl (ev_var (i := 1) rfl (.inr (.inr rfl))) evo_none (evo_some ev_int) rfl) eva_nil))⟩
  | n + 6, _, e => nomatch e
theorem bd_law (T : Pk P w K mg base) : BodyL P w K mg T.tb base "law" s_law T.a_law T.ca_law N_law 20 lt_law sf_law := fun A outer s H E M r hr =>
    (ess_cons (es_set (i := 1) sc_law.nd rfl (.inr rfl) (ev_tup (eva_cons ev_int (eva_cons ev_int (eva_cons ev_int (eva_cons (ev_tup eva_nil) (eva_cons ev_int eva_nil)))))))
    (ess_cons (es_if (evt_w (evw_or (evt_cmp (op_neP hr.units) (eqK_ok true) (ev_ix (ev_call (n := 1) ((ok_all_data T).mono (show 6 ≤ 20 by decide)) hr (takes_of rfl rfl rfl rfl) rfl T.g_all_data T.F_all_data.kp T.b_all_data (eva_cons (ev_var (i := 1) rfl (.inr (.inl rfl))) eva_nil)) ev_int rfl) (ev_tup (eva_cons ev_int (eva_cons ev_int (eva_cons ev_int eva_nil)))) (nomark _)) (evw_or (evt_cmp (op_neP hr.units) (eqK_ok true) (ev_callB call_lenK lenK_ok rfl T.n_len (by decide +kernel) (eva_cons (ev_call (n := 1) ((ok_all_data T).mono (show 6 ≤ 20 by decide)) hr (takes_of rfl rfl rfl rfl) rfl T.g_all_data T.F_all_data.kp T.b_all_data (eva_cons (ev_var (i := 1) rfl (.inr (.inl rfl))) eva_nil)) eva_nil)) ev_int (nomark _)) (evw_or1 (evt_cmp (op_neP hr.units) (eqK_ok true) (ev_call (n := 2) ((ok_unrolled T).mono (show 18 ≤ 20 by decide)) hr (takes_of rfl rfl rfl rfl) rfl T.g_unrolled T.F_unrolled.kp T.b_unrolled (eva_cons (ev_var (i := 1) rfl (.inr (.inl rfl))) (eva_cons (ev_tup (eva_cons (ev_tup (eva_cons ev_str (eva_cons ev_int (eva_cons (ev_tup (eva_cons (ev_tup (eva_cons ev_str eva_nil)) eva_nil)) eva_nil)))) (eva_cons (ev_tup (eva_cons ev_str (eva_cons ev_int (eva_cons (ev_tup (eva_cons (ev_tup (eva_cons ev_str eva_nil)) eva_nil)) eva_nil)))) eva_nil))) eva_nil))) (ev_op op_mulA mulA_ok (ev_tup (eva_cons (ev_tup (eva_cons ev_str eva_nil)) eva_nil)) ev_int) (nomark _))))))
    (ess_one (es_ret ev_bl))
    ess_nil)
    (ess_cons (es_for (ts := [2]) (passes_of rfl) rfl (evi_range1 rfl T.n_range (eva_cons ev_int eva_nil)) (evg_name (i := 2) sc_law.nd rfl (.inl rfl))
    (ess_cons (es_set (i := 3) sc_law.nd rfl (.inl rfl) (ev_call (n := 2) ((ok__law_box T).mono (show 1 ≤ 20 by decide)) hr (takes_of rfl rfl rfl rfl) rfl T.g__law_box T.F__law_box.kp T.b__law_box (eva_cons (ev_var (i := 0) rfl (.inl rfl)) (eva_cons (ev_var (i := 2) rfl (.inl rfl)) eva_nil))))
    (ess_cons (es_set (i := 1) sc_law.nd rfl (.inr rfl) (ev_call (n := 1) ((ok__law_frame T).mono (show 3 ≤ 20 by decide)) hr (takes_of rfl rfl rfl rfl) rfl T.g__law_frame T.F__law_frame.kp T.b__law_frame (eva_cons (ev_var (i := 3) rfl (.inl rfl)) eva_nil)))
    (ess_cons (es_par (i := 4) (j := 5) rfl sc_law.nd rfl rfl rfl rfl (evx_cons (ev_call (n := 4) ((ok__law_rows T rf).mono (show 14 ≤ 20 by decide)) hr (takes_of rfl rfl rfl rfl) rfl T.g__law_rows T.F__law_rows.kp T.b__law_rows (eva_cons (ev_var (i := 3) rfl (.inl rfl)) (eva_cons (ev_var (i := 1) rfl (.inr (.inl rfl))) (eva_cons (ev_call (n := 2) ((ok__law_take T).mono (show 1 ≤ 20 by decide)) hr (takes_of rfl rfl rfl rfl) rfl T.g__law_take T.F__law_take.kp T.b__law_take (eva_cons (ev_var (i := 3) rfl (.inl rfl)) (eva_cons ev_int eva_nil))) (eva_cons ev_int eva_nil))))) (evx_cons (ev_call (n := 2) ((ok__law_datum T).mono (show 2 ≤ 20 by decide)) hr (takes_of rfl rfl rfl rfl) rfl T.g__law_datum T.F__law_datum.kp T.b__law_datum (eva_cons (ev_var (i := 3) rfl (.inl rfl)) (eva_cons (ev_var (i := 1) rfl (.inr (.inl rfl))) eva_nil))) evx_nil)))
    (ess_cons (es_if (evt_w (evw_or (evt_cmp (op_neP hr.units) (eqK_ok true) (ev_callKw ((ok_need_frame T).mono (show 5 ≤ 20 by decide)) hr (takes_of rfl rfl rfl rfl) rfl T.g_need_frame T.F_need_frame.kp T.kw_need_frame_0 (by decide) (evk_cons (ev_var (i := 1) rfl (.inr (.inl rfl))) evk_nil)) (ev_var (i := 1) rfl (.inr (.inl rfl))) (nomark _)) (evw_or (evt_cmp (op_neP hr.units) (eqK_ok true) (ev_callKw ((ok_need_program T).mono (show 17 ≤ 20 by decide)) hr (takes_of rfl rfl rfl rfl) rfl T.g_need_program T.F_need_program.kp T.kw_need_program_0_1 (by decide) (evk_cons (ev_var (i := 1) rfl (.inr (.inl rfl))) (evk_cons (ev_var (i := 4) rfl (.inl rfl)) evk_nil))) (ev_var (i := 4) rfl (.inl rfl)) (nomark _)) (evw_or1 (evt_cmp (op_neP hr.units) (eqK_ok true) (ev_callKw ((ok_need_datum T).mono (show 6 ≤ 20 by decide)) hr (takes_of rfl rfl rfl rfl) rfl T.g_need_datum T.F_need_datum.kp T.kw_need_datum_0_1 (by decide) (evk_cons (ev_var (i := 1) rfl (.inr (.inl rfl))) (evk_cons (ev_var (i := 5) rfl (.inl rfl)) evk_nil))) (ev_var (i := 5) rfl (.inl rfl)) (nomark _))))))
    (ess_one (es_ret ev_bl))
    ess_nil)
    (ess_cons (es_set (i := 6) sc_law.nd rfl (.inl rfl) (ev_lst (eva_cons (ev_tup eva_nil) eva_nil)))
    (ess_cons (es_for (ts := [7]) (passes_of rfl) rfl (evi_range1 rfl T.n_range (eva_cons (ev_op op_addK addK_ok (ev_ix (ev_var (i := 1) rfl (.inr (.inl rfl))) ev_int rfl) (ev_ix (ev_var (i := 1) rfl (.inr (.inl rfl))) ev_int rfl)) eva_nil)) (evg_name (i := 7) sc_law.nd rfl (.inl rfl))
    (ess_cons (es_own (i := 8) sc_law.nd rfl (.inl rfl) (evn_lst eva_nil))
    (ess_cons (es_for (ts := [9]) (passes_of rfl) rfl (evi_seq (ev_var (i := 6) rfl (.inl rfl)) rfl) (evg_name (i := 9) sc_law.nd rfl (.inr rfl))
    (ess_one (es_ext (i := 8) rfl (.inl rfl) (ev_valN (evn_lc (own := [("_law_value", 17)]) (ts := [17]) rfl sc_law.nd (evi_range1 rfl T.n_range (eva_cons (ev_ix (ev_var (i := 1) rfl (.inr (.inl rfl))) ev_int rfl) eva_nil)) (show BlkOk N_law (defScope s_law) _ [("_law_value", 17)] from ⟨rfl, by decide +kernel, by decide +kernel, by decide +kernel, by decide +kernel⟩) (by decide) (fun _ _ _ _ _ => (evg_name (i := 17) sc_law.nd rfl (.inl rfl))) (fun _ _ _ _ _ => evts_nil) (fun _ _ _ _ _ => (ev_op op_addK addK_ok (ev_var (i := 9) rfl (.inr (.inl rfl))) (ev_tup (eva_cons (ev_var (i := 17) rfl (.inl rfl)) eva_nil)))))) rfl)))
    (ess_one (es_frz 8 (es_set (i := 6) sc_law.nd rfl (.inl rfl) (ev_var (i := 8) rfl (.inl rfl))))))))
    (ess_cons (es_if (evt_w (evw_or (evt_cmp (op_neP hr.units) (eqK_ok true) (ev_callKw ((ok_all_data T).mono (show 6 ≤ 20 by decide)) hr (takes_of rfl rfl rfl rfl) rfl T.g_all_data T.F_all_data.kp T.kw_all_data_0 (by decide) (evk_cons (ev_var (i := 1) rfl (.inr (.inl rfl))) evk_nil)) (ev_callTy call_tuple_of tupK_ok rfl T.n_tuple (by decide +kernel) (eva_cons (ev_var (i := 6) rfl (.inl rfl)) eva_nil)) (nomark _)) (evw_or1 (evt_cmp (op_neP hr.units) (eqK_ok true) (ev_callKw ((ok_unrolled T).mono (show 18 ≤ 20 by decide)) hr (takes_of rfl rfl rfl rfl) rfl T.g_unrolled T.F_unrolled.kp T.kw_unrolled_0_1 (by decide) (evk_cons (ev_var (i := 1) rfl (.inr (.inl rfl))) (evk_cons (ev_var (i := 4) rfl (.inl rfl)) evk_nil))) (ev_callTy call_tuple_of tupK_ok rfl T.n_tuple (by decide +kernel) (eva_cons (ev_call (n := 1) ((ok__law_plain T rf).mono (show 13 ≤ 20 by decide)) hr (takes_of rfl rfl rfl rfl) rfl T.g__law_plain T.F__law_plain.kp T.b__law_plain (eva_cons (ev_var (i := 4) rfl (.inl rfl)) eva_nil)) eva_nil)) (nomark _)))))
    (ess_one (es_ret ev_bl))
    ess_nil)
    (ess_cons (es_for (ts := [10]) (passes_of rfl) rfl (evi_range1 rfl T.n_range (eva_cons ev_int eva_nil)) (evg_name (i := 10) sc_law.nd rfl (.inl rfl))
    (ess_cons (es_set (i := 11) sc_law.nd rfl (.inr rfl) (ev_call (n := 3) ((ok__law_bent T rf).mono (show 15 ≤ 20 by decide)) hr (takes_of rfl rfl rfl rfl) rfl T.g__law_bent T.F__law_bent.kp T.b__law_bent (eva_cons (ev_var (i := 3) rfl (.inl rfl)) (eva_cons (ev_var (i := 1) rfl (.inr (.inl rfl))) (eva_cons ev_int eva_nil)))))
    (ess_cons (es_set (i := 12) sc_law.nd rfl (.inl rfl) (ev_call (n := 1) ((ok__law_frame_due T).mono (show 3 ≤ 20 by decide)) hr (takes_of rfl rfl rfl rfl) rfl T.g__law_frame_due T.F__law_frame_due.kp T.b__law_frame_due (eva_cons (ev_var (i := 11) rfl (.inr (.inl rfl))) eva_nil)))
    (ess_cons (es_if (evt_cmp (op_neP hr.units) (eqK_ok true) (ev_heard (j := 18) T.F__law_heard sc__law_heard T.b__law_heard (hk__law_heard T) (hr.mono (show 20 ≤ 20 by decide)) (takes_of rfl rfl rfl rfl) rfl rfl (show 18 + 1 ≤ 19 by decide) rfl (lk_law T A outer s H E M r) rfl (.inl rfl) rfl T.g__law_heard (ev_lam (k := 0) rfl rfl T.tb_law rfl T.tm_law T.tu_law ls_law_0)) (ev_if (evt_cmp op_isN isNK_ok (ev_var (i := 12) rfl (.inl rfl)) ev_non (nomark _)) (ev_tup (eva_cons ev_str (eva_cons (ev_var (i := 11) rfl (.inr (.inl rfl))) eva_nil))) (ev_tup (eva_cons ev_str (eva_cons (ev_var (i := 12) rfl (.inl rfl)) eva_nil)))) (nomark _))
    (ess_one (es_ret ev_bl))
    ess_nil)
    (ess_cons (es_set (i := 13) sc_law.nd rfl (.inr rfl) (ev_call (n := 3) ((ok__law_bent T rf).mono (show 15 ≤ 20 by decide)) hr (takes_of rfl rfl rfl rfl) rfl T.g__law_bent T.F__law_bent.kp T.b__law_bent (eva_cons (ev_var (i := 3) rfl (.inl rfl)) (eva_cons (ev_var (i := 4) rfl (.inl rfl)) (eva_cons ev_int eva_nil)))))
    (ess_cons (es_set (i := 12) sc_law.nd rfl (.inl rfl) (ev_call (n := 2) ((ok__law_due T rf).mono (show 15 ≤ 20 by decide)) hr (takes_of rfl rfl rfl rfl) rfl T.g__law_due T.F__law_due.kp T.b__law_due (eva_cons (ev_var (i := 1) rfl (.inr (.inl rfl))) (eva_cons (ev_var (i := 13) rfl (.inr (.inl rfl))) eva_nil))))
    (ess_cons (es_if (evt_cmp (op_neP hr.units) (eqK_ok true) (ev_heard (j := 18) T.F__law_heard sc__law_heard T.b__law_heard (hk__law_heard T) (hr.mono (show 20 ≤ 20 by decide)) (takes_of rfl rfl rfl rfl) rfl rfl (show 18 + 1 ≤ 19 by decide) rfl (lk_law T A outer s H E M r) rfl (.inl rfl) rfl T.g__law_heard (ev_lam (k := 1) rfl rfl T.tb_law rfl T.tm_law T.tu_law ls_law_1)) (ev_if (evt_cmp op_isN isNK_ok (ev_var (i := 12) rfl (.inl rfl)) ev_non (nomark _)) (ev_tup (eva_cons ev_str (eva_cons (ev_var (i := 13) rfl (.inr (.inl rfl))) eva_nil))) (ev_tup (eva_cons ev_str (eva_cons (ev_var (i := 12) rfl (.inl rfl)) eva_nil)))) (nomark _))
    (ess_one (es_ret ev_bl))
    ess_nil)
    (ess_cons (es_set (i := 14) sc_law.nd rfl (.inr rfl) (ev_call (n := 3) ((ok__law_bent T rf).mono (show 15 ≤ 20 by decide)) hr (takes_of rfl rfl rfl rfl) rfl T.g__law_bent T.F__law_bent.kp T.b__law_bent (eva_cons (ev_var (i := 3) rfl (.inl rfl)) (eva_cons (ev_var (i := 5) rfl (.inl rfl)) (eva_cons ev_int eva_nil)))))
    (ess_cons (es_set (i := 15) sc_law.nd rfl (.inl rfl) (ev_call (n := 3) ((ok__law_are_below T).mono (show 2 ≤ 20 by decide)) hr (takes_of rfl rfl rfl rfl) rfl T.g__law_are_below T.F__law_are_below.kp T.b__law_are_below (eva_cons (ev_var (i := 14) rfl (.inr (.inl rfl))) (eva_cons (ev_op op_addK addK_ok (ev_ix (ev_var (i := 1) rfl (.inr (.inl rfl))) ev_int rfl) (ev_ix (ev_var (i := 1) rfl (.inr (.inl rfl))) ev_int rfl)) (eva_cons (ev_ix (ev_var (i := 1) rfl (.inr (.inl rfl))) ev_int rfl) eva_nil)))))
    (ess_one (es_if (evt_cmp (op_neP hr.units) (eqK_ok true) (ev_heard (j := 18) T.F__law_heard sc__law_heard T.b__law_heard (hk__law_heard T) (hr.mono (show 20 ≤ 20 by decide)) (takes_of rfl rfl rfl rfl) rfl rfl (show 18 + 1 ≤ 19 by decide) rfl (lk_law T A outer s H E M r) rfl (.inl rfl) rfl T.g__law_heard (ev_lam (k := 2) rfl rfl T.tb_law rfl T.tm_law T.tu_law ls_law_2)) (ev_if (evt_val (ev_var (i := 15) rfl (.inl rfl)) fun _ => rfl) (ev_tup (eva_cons ev_str (eva_cons (ev_var (i := 14) rfl (.inr (.inl rfl))) eva_nil))) (ev_tup (eva_cons ev_str (eva_cons (ev_neg ev_int) eva_nil)))) (nomark _))
    (ess_one (es_ret ev_bl))
    ess_nil)))))))))))
    (ess_cons (es_own (i := 16) sc_law.nd rfl (.inl rfl) (evn_lst (eva_cons (ev_tup (eva_cons (ev_lam (k := 3) rfl rfl T.tb_law rfl T.tm_law T.tu_law ls_law_3) (eva_cons (ev_tup (eva_cons ev_str (eva_cons (ev_neg ev_int) eva_nil))) eva_nil))) eva_nil)))
    (ess_cons (es_app (i := 16) rfl (.inl rfl) (ev_tup (eva_cons (ev_lam (k := 4) rfl rfl T.tb_law rfl T.tm_law T.tu_law ls_law_4) (eva_cons (ev_tup (eva_cons ev_str (eva_cons (ev_neg ev_int) eva_nil))) eva_nil))) rfl)
    (ess_cons (es_app (i := 16) rfl (.inl rfl) (ev_tup (eva_cons (ev_lam (k := 5) rfl rfl T.tb_law rfl T.tm_law T.tu_law ls_law_5) (eva_cons (ev_tup (eva_cons ev_str (eva_cons (ev_neg ev_int) eva_nil))) eva_nil))) rfl)
    (ess_one (es_frz 16 (es_if (evt_cmp (op_neP hr.units) (eqK_ok true) (ev_valN (evn_lcL (own := [("_law_work", 18), ("_law_told", 19)]) (ts := ([18] ++ ([19] ++ []))) rfl sc_law.nd (evi_seq (ev_var (i := 16) rfl (.inl rfl)) rfl) (show BlkOk N_law (defScope s_law) _ [("_law_work", 18), ("_law_told", 19)] from ⟨rfl, by decide +kernel, by decide +kernel, by decide +kernel, by decide +kernel⟩) (by decide) (fun pins σ0 H0 M0 r0 h0 δ0 b0 => ⟨fun s3 H3 C cl fp I3 f3 => ⟨(evg_tup rfl (evgs_cons (evg_name (i := 18) sc_law.nd rfl (.inl rfl)) (evgs_cons (evg_name (i := 19) sc_law.nd rfl (.inl rfl)) evgs_nil)) rfl), (evts_one (evt_cmp (op_neP hr.units) (eqK_ok true) (ev_heardB (p := _) (j := 18) b0 I3 f3 T.F__law_heard sc__law_heard T.b__law_heard (hk__law_heard T) (hr.mono (show 20 ≤ 20 by decide)) takes0 rfl rfl (show 18 + 1 ≤ 19 by decide) rfl (lk_law T A outer s H E M r) rfl (.inl rfl) rfl T.g__law_heard (ev_var (i := 18) rfl (.inl rfl))) (ev_var (i := 19) rfl (.inl rfl)) (nomark _))), (ev_var (i := 18) rfl (.inl rfl))⟩⟩))) (ev_lst eva_nil) (nomark _))
    (ess_one (es_ret ev_bl))
    ess_nil)))))))))))))))
    (ess_one (es_ret ev_bl)))))
end
end LP
/-! K06a: frames, data, programs. -/
namespace LP
open PySem PySem.Spec PyProof.Rows L2 HT
/-! ### what a script makes -/
structure Frm where
  size : Nat
  regs : Nat
  cells : Nat
  tables : List (List Nat)
  deep : Nat
structure Frm.ok (F : Frm) : Prop where
  s1 : 2 ≤ F.size
  s2 : F.size ≤ 3
  r1 : 1 ≤ F.regs
  r2 : F.regs ≤ 4
  c : F.cells = 0 ∨ F.cells = F.size
  t1 : F.tables.length ≤ 4
  t2 : ∀ t ∈ F.tables, t.length = F.size * F.size ∧ ∀ v ∈ t, v < F.size
  d : F.deep ≤ 3
def Frm.d (F : Frm) : D := .tup [.int F.size, .int F.regs, .int F.cells, .tup (F.tables.map fun t => .tup (nsD t)), .int F.deep]
inductive Row where
  | op (t a b c : Nat) | load (a b : Nat) | store (a b : Nat) | fence | fork (a : Nat) (x y : List Row) | loop (n : Nat) (x : List Row)
mutual
def Row.d : Row → D
  | .op t a b c => .tup [.str "op", .int t, .int a, .int b, .int c]
  | .load a b => .tup [.str "load", .int a, .int b]
  | .store a b => .tup [.str "store", .int a, .int b]
  | .fence => .tup [.str "fence"]
  | .fork a x y => .tup [.str "fork", .int a, .tup (rowsD x), .tup (rowsD y)]
  | .loop n x => .tup [.str "loop", .int n, .tup (rowsD x)]
def rowsD : List Row → List D
  | [] => []
  | r :: rs => r.d :: rowsD rs
end
theorem rowsD_map (l : List Row) : rowsD l = l.map Row.d := by
  induction l with
  | nil => rfl
  | cons r l ih => show r.d :: rowsD l = _; rw [ih]; rfl
mutual
/-- right over a frame -/
def Row.ok (F : Frm) : Row → Prop
  | .op t a b c => t < F.tables.length ∧ a < F.regs ∧ b < F.regs ∧ c < F.regs
  | .load a b => a < F.regs ∧ b < F.regs ∧ 0 < F.cells
  | .store a b => a < F.regs ∧ b < F.regs ∧ 0 < F.cells
  | .fence => True
  | .fork a x y => a < F.regs ∧ rowsOk F x ∧ rowsOk F y
  | .loop n x => n ≤ 4 ∧ rowsOk F x
def rowsOk (F : Frm) : List Row → Prop
  | [] => True
  | r :: rs => r.ok F ∧ rowsOk F rs
end
theorem rowsOk_iff (F : Frm) (l : List Row) : rowsOk F l ↔ ∀ r ∈ l, r.ok F := by
  induction l with
  | nil => exact ⟨fun _ r h => by simp at h, fun _ => trivial⟩
  | cons r l ih =>
    show r.ok F ∧ rowsOk F l ↔ _
    rw [ih]
    simp
mutual
/-- how deep sides lie in sides -/
def Row.dp : Row → Nat
  | .fork _ x y => max (rowsDp x) (rowsDp y) + 1
  | .loop _ x => rowsDp x + 1
  | _ => 0
def rowsDp : List Row → Nat
  | [] => 0
  | r :: rs => max r.dp (rowsDp rs)
end
theorem rowsDp_le {l : List Row} {n : Nat} : rowsDp l ≤ n ↔ ∀ r ∈ l, r.dp ≤ n := by
  induction l with
  | nil => exact ⟨fun _ r h => by simp at h, fun _ => Nat.zero_le _⟩
  | cons r l ih =>
    show max r.dp (rowsDp l) ≤ n ↔ _
    rw [Nat.max_le, ih]
    simp
mutual
/-- how many rows there are behind all turns, at most -/
def Row.cost : Row → Nat
  | .fork _ x y => 1 + rowsCost x + rowsCost y
  | .loop n x => 1 + n * rowsCost x + rowsCost x
  | _ => 1
def rowsCost : List Row → Nat
  | [] => 0
  | r :: rs => r.cost + rowsCost rs
end
theorem cost_pos (r : Row) : 1 ≤ r.cost := by cases r <;> simp only [Row.cost] <;> omega
theorem cost_len : ∀ l : List Row, l.length ≤ rowsCost l
  | [] => Nat.le_refl _
  | r :: l => by have := cost_pos r; have := cost_len l; show l.length + 1 ≤ r.cost + rowsCost l; omega
theorem cost_mem {r : Row} : ∀ {l : List Row}, r ∈ l → r.cost ≤ rowsCost l
  | a :: l, h => by
    show r.cost ≤ a.cost + rowsCost l
    rcases List.mem_cons.mp h with h | h
    · subst h; omega
    · have := cost_mem h; omega
@[simp] theorem rowsD_length (l : List Row) : (rowsD l).length = l.length := by rw [rowsD_map, List.length_map]
@[simp] theorem isV_row {r : Row} : isV r.d = true := by cases r <;> rfl
/-- data: registers, then cells -/
structure dtOk (F : Frm) (l : List Nat) : Prop where
  len : l.length = F.regs + F.cells
  lt : ∀ v ∈ l, v < F.size
theorem dtOk.at_ {F : Frm} {l : List Nat} (h : dtOk F l) {i : Nat} (hi : i < F.regs + F.cells) : nth l i < F.size := by
  rw [← h.len] at hi
  rw [nth_eq hi]
  exact h.lt _ (List.getElem_mem hi)
/-! ### the look at a frame -/
theorem isint_ok (n : Int) (h : Bx) : F_is_integer [.int n] h = .ok (.bl true) h := by
  simp [F_is_integer, runF_ap, sf_is_integer, startD]
theorem isnum_ok {n : Int} (h : Bx) (h0 : 0 ≤ n) : F_is_number [.int n] h = .ok (.bl true) h := by
  simp [F_is_number, runF_ap, sf_is_number, startD, isint_ok, h0]
theorem below_ok {n m : Int} (h : Bx) (h0 : 0 ≤ n) (h1 : n < m) : F_is_below [.int n, .int m] h = .ok (.bl true) h := by
  simp [F_is_below, runF_ap, sf_is_below, startD, isnum_ok h h0, h1]
theorem belows_ok {δ : DE} {i : Nat} {l : List Nat} {m : Nat} (h : Bx) (hm : ∀ v ∈ l, v < m) {f : EF} (hij : i < δ.length) (hf : ∀ v : Nat, f (δ.set i (.v (nD v))) h = .ok (.int m) h) :
    compF (nameU i) yesF (callF (nArgs 2 F_is_below) (consA (varF i) (consA f nilA))) δ (nsD l) h = .ok ((nsD l).map fun _ => .bl true) h := by
  refine compF_map fun d hd => ⟨δ.set i (.v d), rfl, ?_, rfl⟩
  obtain ⟨v, hv, rfl⟩ := List.mem_map.mp hd
  have h3 := hm v hv
  have e2 : (δ.set i (.v (nD v)))[i]? = some (.v (nD v)) := by rw [List.getElem?_set_self hij]
  simp [e2, hf]
  exact below_ok (n := (v : Int)) (m := (m : Int)) h (by omega) (by omega)
theorem table_ok {s : Nat} {t : List Nat} (h : Bx) (hs : s ≤ 3) (h1 : t.length = s * s) (h2 : ∀ v ∈ t, v < s) : F_is_table [.int s, .tup (nsD t)] h = .ok (.bl true) h := by
  have hm : s * s ≤ 3 * 3 := Nat.mul_le_mul hs hs
  have e1 : (-18446744073709551616 : Int) < s ∧ (s : Int) < 18446744073709551616 := ⟨by omega, by omega⟩
  have e2 : t.length ≤ 1000000 := by omega
  have e3 : (t.length : Int) = s * s := by rw [h1]; exact Int.natCast_mul ..
  have c := fun δ hij hf => belows_ok (δ := δ) (i := 2) (l := t) (m := s) h h2 (f := varF 0) hij hf
  simp [F_is_table, runF_ap, sf_is_table, startD, e1, e2, e3]
  rw [c _ (by simp) (fun v => by simp)]
  simp [all_trues]
theorem frame_ok {F : Frm} (o : F.ok) (h : Bx) : F_need_frame [F.d] h = .ok F.d h := by
  have h1 := o.s1; have h2 := o.s2; have h3 := o.r1; have h4 := o.r2; have h5 := o.t1; have h6 := o.d
  have c : ∀ δ : DE, δ[1]? = some (.v (.int F.size)) → 6 < δ.length → compF (nameU 6) yesF (callF (nArgs 2 F_is_table) (consA (varF 1) (consA (varF 6) nilA))) δ (F.tables.map fun t => .tup (nsD t)) h = .ok ((F.tables.map fun t => D.tup (nsD t)).map fun _ => .bl true) h := fun δ e hl => by
    refine compF_map fun d hd => ⟨δ.set 6 (.v d), rfl, ?_, rfl⟩
    obtain ⟨t, ht, rfl⟩ := List.mem_map.mp hd
    obtain ⟨q1, q2⟩ := o.t2 t ht
    have e6 : (δ.set 6 (.v (.tup (nsD t))))[6]? = some (.v (.tup (nsD t))) := by rw [List.getElem?_set_self hl]
    have e1 : (δ.set 6 (.v (.tup (nsD t))))[1]? = some (.v (.int F.size)) := by rw [List.getElem?_set_ne (by omega)]; exact e
    simp [e1, e6]
    exact table_ok h h2 q1 q2
  have c1 : ¬ (4 : Int) < F.tables.length := by omega
  have c2 : F.tables.length ≤ 1000000 := by omega
  have c3 : (2 : Int) ≤ F.size := by omega
  have c4 : (F.size : Int) ≤ 3 := by omega
  have c5 : (1 : Int) ≤ F.regs := by omega
  have c6 : (F.regs : Int) ≤ 4 := by omega
  have c7 : (F.cells : Int) = 0 ∨ (F.cells : Int) = F.size := by have := o.c; omega
  have b := below_ok (n := (F.deep : Int)) (m := 4) h (by omega) (by omega)
  rcases c7 with c7 | c7
  · simp [F_need_frame, runF_ap, sf_need_frame, startD, Frm.d, isint_ok, c1, c2, c3, c4, c5, c6, c7]
    rw [c _ (by simp) (by simp)]
    simp [all_trues, b]
  · by_cases z : (F.size : Int) = 0
    · omega
    · simp [F_need_frame, runF_ap, sf_need_frame, startD, Frm.d, isint_ok, c1, c2, c3, c4, c5, c6, c7, z]
      rw [c _ (by simp) (by simp)]
      simp [all_trues, b]
theorem datum_ok {F : Frm} (o : F.ok) {l : List Nat} (hl : dtOk F l) (h : Bx) : F_is_datum [F.d, .tup (nsD l)] h = .ok (.bl true) h := by
  have h2 := o.s2; have h4 := o.r2
  have hc : F.cells ≤ 3 := by have := o.c; omega
  have e1 : (l.length : Int) = F.regs + F.cells := by rw [hl.len]; omega
  have e2 : l.length ≤ 1000000 := by rw [hl.len]; omega
  have c := fun δ f hij hf => belows_ok (δ := δ) (i := 2) (l := l) (m := F.size) h hl.lt (f := f) hij hf
  simp [F_is_datum, runF_ap, sf_is_datum, startD, Frm.d, e1, e2]
  rw [c _ _ (by simp) (fun v => by simp)]
  simp [all_trues]
theorem nd_ok {F : Frm} (o : F.ok) {l : List Nat} (hl : dtOk F l) (h : Bx) : F_need_datum [F.d, .tup (nsD l)] h = .ok (.tup (nsD l)) h := by
  have e := frame_ok o h
  have e2 := datum_ok o hl h
  have v : isV F.d = true := rfl
  simp [F_need_datum, runF_ap, sf_need_datum, startD, e, e2, v]
/-! ### the look at rows -/
theorem findT_sizes : findT tab_ROW_SIZES "op" = some 5 ∧ findT tab_ROW_SIZES "load" = some 3 ∧ findT tab_ROW_SIZES "store" = some 3 ∧ findT tab_ROW_SIZES "fence" = some 1 ∧ findT tab_ROW_SIZES "fork" = some 4 ∧ findT tab_ROW_SIZES "loop" = some 3 := by decide +kernel
theorem isstr_ok (x : Str) (h : Bx) : F_is_string [.str x] h = .ok (.bl true) h := by
  simp [F_is_string, runF_ap, sf_is_string, startD]
@[simp] theorem isV_F {F : Frm} : isV F.d = true := pr rfl
theorem rows_ok {F : Frm} (o : F.ok) (h : Bx) : ∀ n : Nat,
    (∀ l : List Row, rowsOk F l → rowsCost l ≤ 1000000 → 2 * rowsDp l + 2 ≤ n → F_are_rows n [F.d, .tup (rowsD l)] h = .ok (.bl true) h) ∧
    (∀ r : Row, r.ok F → r.cost ≤ 1000000 → 2 * r.dp + 1 ≤ n → F_is_row n [F.d, r.d] h = .ok (.bl true) h)
  | 0 => ⟨fun l _ _ z => absurd z (Nat.not_lt_zero _), fun r _ _ z => absurd z (Nat.not_lt_zero _)⟩
  | n + 1 => by
    obtain ⟨ih1, ih2⟩ := rows_ok o h n
    have h4 := o.r2
    obtain ⟨t1, t2, t3, t4, t5, t6⟩ := findT_sizes
    refine ⟨fun l a b c => ?_, fun r a b c => ?_⟩
    · have c2 : l.length ≤ 1000000 := Nat.le_trans (cost_len l) b
      have cm : ∀ δ : DE, δ[0]? = some (.v F.d) → 2 < δ.length → compF (nameU 2) yesF (callF (nArgs 2 (F_is_row n)) (consA (varF 0) (consA (varF 2) nilA))) δ (rowsD l) h = .ok ((rowsD l).map fun _ => .bl true) h := fun δ e hl => by
        refine compF_map fun d hd => ⟨δ.set 2 (.v d), rfl, ?_, rfl⟩
        rw [rowsD_map] at hd
        obtain ⟨r, hr, rfl⟩ := List.mem_map.mp hd
        have e2 : (δ.set 2 (.v r.d))[2]? = some (.v r.d) := by rw [List.getElem?_set_self hl]
        have e0 : (δ.set 2 (.v r.d))[0]? = some (.v F.d) := by rw [List.getElem?_set_ne (by omega)]; exact e
        have dp := (rowsDp_le (n := rowsDp l)).mp (Nat.le_refl _) r hr
        simp [e0, e2]
        exact ih2 r ((rowsOk_iff F l).mp a r hr) (Nat.le_trans (cost_mem hr) b) (by omega)
      simp [F_are_rows, runF_ap, sf_are_rows, startD, c2]
      rw [cm _ (by simp) (by simp)]
      simp [all_trues]
    · cases r with
      | op t a1 b1' c1 =>
        obtain ⟨q1, q2, q3, q4⟩ := a
        have c := fun δ f hij hf => belows_ok (δ := δ) (i := 2) (l := [a1, b1', c1]) (m := F.regs) h (by simp; omega) (f := f) hij hf
        have b1 := below_ok (n := (t : Int)) (m := (F.tables.length : Int)) h (by omega) (by omega)
        have c2 : nsD [a1, b1', c1] = [D.int a1, D.int b1', D.int c1] := rfl
        rw [c2] at c
        simp (decide := true) [F_is_row, runF_ap, sf_is_row, startD, Row.d, isstr_ok, t1, Frm.d, b1]
        rw [c _ _ (by simp) (fun v => by simp)]
        simp
      | load a1 b1 =>
        obtain ⟨q1, q2, q3⟩ := a
        have q4 : 0 < (F.cells : Int) := by omega
        have c := fun δ f hij hf => belows_ok (δ := δ) (i := 2) (l := [a1, b1]) (m := F.regs) h (by simp; omega) (f := f) hij hf
        have c2 : nsD [a1, b1] = [D.int a1, D.int b1] := rfl
        rw [c2] at c
        simp (decide := true) [F_is_row, runF_ap, sf_is_row, startD, Row.d, isstr_ok, t2, Frm.d]
        rw [c _ _ (by simp) (fun v => by simp)]
        simp (decide := true) [q3]
      | store a1 b1 =>
        obtain ⟨q1, q2, q3⟩ := a
        have q4 : 0 < (F.cells : Int) := by omega
        have c := fun δ f hij hf => belows_ok (δ := δ) (i := 2) (l := [a1, b1]) (m := F.regs) h (by simp; omega) (f := f) hij hf
        have c2 : nsD [a1, b1] = [D.int a1, D.int b1] := rfl
        rw [c2] at c
        simp (decide := true) [F_is_row, runF_ap, sf_is_row, startD, Row.d, isstr_ok, t3, Frm.d]
        rw [c _ _ (by simp) (fun v => by simp)]
        simp (decide := true) [q3]
      | fence =>
        have c := fun δ f hij hf => belows_ok (δ := δ) (i := 2) (l := []) (m := F.regs) h (by simp) (f := f) hij hf
        have c2 : nsD [] = [] := rfl
        rw [c2] at c
        simp (decide := true) [F_is_row, runF_ap, sf_is_row, startD, Row.d, isstr_ok, t4, Frm.d]
        rw [c _ _ (by simp) (fun v => by simp)]
        simp (decide := true)
      | fork a1 x y =>
        obtain ⟨q1, q2, q3⟩ := a
        simp only [Row.cost] at b
        simp only [Row.dp] at c
        have e1 := ih1 x q2 (by omega) (by omega)
        have e2 := ih1 y q3 (by omega) (by omega)
        have b1 := below_ok (n := (a1 : Int)) (m := (F.regs : Int)) h (by omega) (by omega)
        simp only [Frm.d] at e1 e2
        simp (decide := true) [F_is_row, runF_ap, sf_is_row, startD, Row.d, isstr_ok, t5, Frm.d, e1, e2, b1]
      | loop k x =>
        obtain ⟨q1, q2⟩ := a
        simp only [Row.cost] at b
        simp only [Row.dp] at c
        have e1 := ih1 x q2 (by omega) (by omega)
        have b1 := below_ok (n := (k : Int)) (m := 5) h (by omega) (by omega)
        simp only [Frm.d] at e1
        simp (decide := true) [F_is_row, runF_ap, sf_is_row, startD, Row.d, isstr_ok, t6, Frm.d, e1, b1]
theorem prog_ok {F : Frm} (o : F.ok) {l : List Row} (a : rowsOk F l) (b : rowsCost l ≤ 1000000) (c : 2 * rowsDp l + 1 ≤ rf) (h : Bx) : F_need_program [F.d, .tup (rowsD l)] h = .ok (.tup (rowsD l)) h := by
  have e := frame_ok o h
  have loop : ∀ (ds : List D) (δ : DE), (∀ d ∈ ds, ∃ (i : Int) (r : Row), r ∈ l ∧ d = .tup [.int i, r.d]) → δ[0]? = some (.v F.d) → δ[1]? = some (.v (.tup (rowsD l))) → δ.length = 4 →
      ∃ δ' : DE, forF (tupU 2 (consU (nameU 2) (consU (nameU 3) nilU))) (ifS (notT (testF (callF (nArgs 2 (F_is_row rf)) (consA (varF 0) (consA (varF 3) nilA))))) (raiseS "InvalidProgram" "at" (varF 2)) (fun δ h => .nx δ h)) ds δ h = .nx δ' h ∧ δ'[1]? = some (.v (.tup (rowsD l))) := fun ds => by
    induction ds with
    | nil => exact fun δ _ _ e1 _ => ⟨δ, rfl, e1⟩
    | cons d ds ih =>
      intro δ hd e0 e1 hl
      obtain ⟨i, r, hr, rfl⟩ := hd _ (List.mem_cons_self ..)
      have dp := (rowsDp_le (n := rowsDp l)).mp (Nat.le_refl _) r hr
      have q := (rows_ok o h rf).2 r ((rowsOk_iff F l).mp a r hr) (Nat.le_trans (cost_mem hr) b) (by omega)
      have f0 : ((δ.set 2 (.v (.int i))).set 3 (.v r.d))[0]? = some (.v F.d) := by rw [List.getElem?_set_ne (by omega), List.getElem?_set_ne (by omega)]; exact e0
      have f1 : ((δ.set 2 (.v (.int i))).set 3 (.v r.d))[1]? = some (.v (.tup (rowsD l))) := by rw [List.getElem?_set_ne (by omega), List.getElem?_set_ne (by omega)]; exact e1
      have f3 : ((δ.set 2 (.v (.int i))).set 3 (.v r.d))[3]? = some (.v r.d) := by rw [List.getElem?_set_self (by rw [List.length_set]; omega)]
      obtain ⟨δ', g1, g2⟩ := ih _ (fun d hd' => hd d (List.mem_cons_of_mem _ hd')) f0 f1 (by simp [hl])
      refine ⟨δ', ?_, g2⟩
      rw [forF_nx (δ1 := (δ.set 2 (.v (.int i))).set 3 (.v r.d)) (by simp) (δ2 := (δ.set 2 (.v (.int i))).set 3 (.v r.d)) (h2 := h)]
      · exact g1
      · simp [f0, f3, q]
  obtain ⟨δ', g1, g2⟩ := loop (enumD (rowsD l)) [.v F.d, .v (.tup (rowsD l)), .no, .no] (fun d hd => by
    obtain ⟨i, hi, rfl⟩ := List.mem_map.mp hd
    rw [List.mem_range, rowsD_length] at hi
    refine ⟨i, l[i], List.getElem_mem hi, ?_⟩
    rw [rowsD_map, List.getD_eq_getElem?_getD, List.getElem?_map, List.getElem?_eq_getElem hi]
    rfl) rfl rfl rfl
  simp [F_need_program, runF_ap, sf_need_program, startD, e]
  rw [g1]
  simp [g2]
end LP
/-! K06b: plain rows. -/
namespace LP
open PySem PySem.Spec PyProof.Rows L2 HT
@[simp] theorem rowsD_nil : rowsD [] = [] := pr rfl
@[simp] theorem rowsD_cons {r : Row} {rs : List Row} : rowsD (r :: rs) = r.d :: rowsD rs := pr rfl
/-! ### plain rows -/
mutual
def plainRow : Row → List Row
  | .fork a x y => [.fork a (plain x) (plain y)]
  | .loop n x => (List.replicate n (plain x)).flatten
  | .op t a b c => [.op t a b c]
  | .load a b => [.load a b]
  | .store a b => [.store a b]
  | .fence => [.fence]
def plain : List Row → List Row
  | [] => []
  | r :: rs => plainRow r ++ plain rs
end
theorem cost_append : ∀ a b : List Row, rowsCost (a ++ b) = rowsCost a + rowsCost b
  | [], b => by show rowsCost b = 0 + rowsCost b; omega
  | r :: a, b => by show r.cost + rowsCost (a ++ b) = r.cost + rowsCost a + rowsCost b; rw [cost_append a b]; omega
theorem cost_rep (n : Nat) (a : List Row) : rowsCost (List.replicate n a).flatten = n * rowsCost a := by
  induction n with
  | zero => simp [rowsCost]
  | succ n ih => rw [List.replicate_succ, List.flatten_cons, cost_append, ih, Nat.succ_mul]; omega
mutual
theorem plainRow_cost : ∀ r : Row, rowsCost (plainRow r) ≤ r.cost
  | .fork a x y => by
    have := plain_cost x; have := plain_cost y
    simp only [plainRow, rowsCost, Row.cost]; omega
  | .loop n x => by
    have h := plain_cost x
    have h2 : n * rowsCost (plain x) ≤ n * rowsCost x := Nat.mul_le_mul_left _ h
    simp only [plainRow, Row.cost]
    rw [cost_rep]; omega
  | .op _ _ _ _ => Nat.le_refl _
  | .load _ _ => Nat.le_refl _
  | .store _ _ => Nat.le_refl _
  | .fence => Nat.le_refl _
theorem plain_cost : ∀ l : List Row, rowsCost (plain l) ≤ rowsCost l
  | [] => Nat.le_refl _
  | r :: rs => by
    have := plainRow_cost r; have := plain_cost rs
    simp only [plain, rowsCost]
    rw [cost_append]; omega
end
theorem rowsD_append (a b : List Row) : rowsD (a ++ b) = rowsD a ++ rowsD b := by rw [rowsD_map, rowsD_map, rowsD_map, List.map_append]
theorem rowsD_rep (n : Nat) (a : List Row) : rowsD (List.replicate n a).flatten = (List.replicate n (rowsD a)).flatten := by
  induction n with
  | zero => rfl
  | succ n ih => rw [List.replicate_succ, List.flatten_cons, rowsD_append, ih, List.replicate_succ, List.flatten_cons]
def pl_body (R_plain_rows : List D → Bx → R D) : SF := (ifS (testF (bin2 (eqK false) (bin2 ixK (varF 2) (cF (.int 0))) (cF (.str "loop"))))
    (extS 1 (bin2 mulA (callF (nArgs 1 R_plain_rows) (consA (bin2 ixK (varF 2) (cF (.int 2))) nilA)) (bin2 ixK (varF 2) (cF (.int 1)))))
    (ifS (testF (bin2 (eqK false) (bin2 ixK (varF 2) (cF (.int 0))) (cF (.str "fork"))))
    (appS 1 (tupF (consA (bin2 ixK (varF 2) (cF (.int 0))) (consA (bin2 ixK (varF 2) (cF (.int 1))) (consA (blt tupK (consA (callF (nArgs 1 R_plain_rows) (consA (bin2 ixK (varF 2) (cF (.int 2))) nilA)) nilA)) (consA (blt tupK (consA (callF (nArgs 1 R_plain_rows) (consA (bin2 ixK (varF 2) (cF (.int 3))) nilA)) nilA)) nilA))))))
    (appS 1 (varF 2))))
theorem plain_ok {F : Frm} (h : Bx) : ∀ (n : Nat) (l : List Row), rowsOk F l → rowsCost l ≤ 1000000 → rowsDp l < n → F_plain_rows n [.tup (rowsD l)] h = .ok (.lst (rowsD (plain l))) h
  | 0, l, _, _, z => absurd z (Nat.not_lt_zero _)
  | n + 1, l, a, b, c => by
    have loop : ∀ (rs : List Row) (acc : List D) (a0 a2 : SV), rowsOk F rs → rowsDp rs ≤ n → acc.length + rowsCost rs ≤ 1000000 →
        ∃ s, forF (nameU 2) (pl_body (F_plain_rows n)) (rowsD rs) [a0, .own acc, a2] h = .nx [a0, .own (acc ++ rowsD (plain rs)), s] h := fun rs => by
      induction rs with
      | nil => exact fun acc a0 a2 _ _ _ => ⟨a2, by rw [rowsD_nil, forF_nil]; simp [plain]⟩
      | cons r rs ih =>
        intro acc a0 a2 a d z
        have z' : acc.length + (r.cost + rowsCost rs) ≤ 1000000 := z
        have d' : max r.dp (rowsDp rs) ≤ n := d
        have pc := cost_len (plainRow r)
        have pc2 := plainRow_cost r
        have key : pl_body (F_plain_rows n) [a0, .own acc, .v r.d] h = .nx [a0, .own (acc ++ rowsD (plainRow r)), .v r.d] h := by
          have z1 : acc.length < 1000000 := by have := cost_pos r; omega
          cases r with
          | op t x y w => simp (decide := true) [pl_body, Row.d, plainRow, z1]
          | load x y => simp (decide := true) [pl_body, Row.d, plainRow, z1]
          | store x y => simp (decide := true) [pl_body, Row.d, plainRow, z1]
          | fence => simp (decide := true) [pl_body, Row.d, plainRow, z1]
          | fork t x y =>
            obtain ⟨⟨_, q2, q3⟩, _⟩ := a
            simp only [Row.dp] at d'
            simp only [Row.cost] at z'
            have e1 := plain_ok h n x q2 (by omega) (by omega)
            have e2 := plain_ok h n y q3 (by omega) (by omega)
            simp (decide := true) [pl_body, Row.d, plainRow, z1, e1, e2]
          | loop k x =>
            obtain ⟨⟨q1, q2⟩, _⟩ := a
            simp only [Row.dp] at d'
            simp only [Row.cost] at z'
            have e1 := plain_ok h n x q2 (by omega) (by omega)
            have p1 := plain_cost x
            have p2 := cost_len (plain x)
            have p3 : k * (plain x).length ≤ k * rowsCost x := Nat.mul_le_mul_left _ (by omega)
            have e3 : repC (plain x).length (k : Int) = true := by
              unfold repC
              rw [decide_eq_true_eq]
              refine ⟨by omega, by omega, ?_⟩
              rw [Int.toNat_natCast, Nat.mul_comm]
              show _ ≤ 1000000
              omega
            have e4 : repD (rowsD (plain x)) (k : Int) = rowsD (List.replicate k (plain x)).flatten := by
              unfold repD
              rw [Int.toNat_natCast, rowsD_rep]
            have e5 : acc.length + (rowsD (List.replicate k (plain x)).flatten).length ≤ 1000000 := by
              rw [rowsD_length, rep_len, Nat.mul_comm]; omega
            simp (decide := true) [pl_body, Row.d, plainRow, e1, e3, e4]
            simp at e5
            simp [e5]
        obtain ⟨s, e⟩ := ih (acc ++ rowsD (plainRow r)) a0 (.v r.d) a.2 (by omega) (by rw [List.length_append, rowsD_length]; omega)
        refine ⟨s, ?_⟩
        rw [rowsD_cons, forF_nx (δ1 := [a0, .own acc, .v r.d]) rfl key, e]
        simp [plain, rowsD_append]
    obtain ⟨s, e⟩ := loop l [] (.v (.tup (rowsD l))) .no a (by omega) (by simpa using b)
    have s1 : ownS 1 (lstN nilA) (startD N_plain_rows.length [.tup (rowsD l)]) h = .nx [.v (.tup (rowsD l)), .own [], .no] h := by simp [startD]
    have s2 : itemsI (varF 0) [.v (.tup (rowsD l)), .own [], .no] h = .ok (rowsD l) h := by simp
    unfold pl_body at e
    rw [F_plain_rows, runF_ap, sf_plain_rows, seqS_ap, s1]
    simp only []
    rw [seqS_ap, forS_ap, s2]
    simp only [R.toS_ok]
    rw [e]
    simp
theorem ok_append {F : Frm} (a b : List Row) : rowsOk F (a ++ b) ↔ rowsOk F a ∧ rowsOk F b := by
  rw [rowsOk_iff, rowsOk_iff, rowsOk_iff]
  simp only [List.mem_append]
  exact ⟨fun h => ⟨fun r hr => h r (.inl hr), fun r hr => h r (.inr hr)⟩, fun h r hr => hr.elim (h.1 r) (h.2 r)⟩
theorem ok_rep {F : Frm} (n : Nat) {a : List Row} (h : rowsOk F a) : rowsOk F (List.replicate n a).flatten := by
  induction n with
  | zero => trivial
  | succ n ih => rw [List.replicate_succ, List.flatten_cons]; exact (ok_append _ _).mpr ⟨h, ih⟩
mutual
theorem plainRow_okF {F : Frm} : ∀ r : Row, r.ok F → rowsOk F (plainRow r)
  | .fork a x y, h => ⟨⟨h.1, plain_okF x h.2.1, plain_okF y h.2.2⟩, trivial⟩
  | .loop n x, h => ok_rep n (plain_okF x h.2)
  | .op _ _ _ _, h => ⟨h, trivial⟩
  | .load _ _, h => ⟨h, trivial⟩
  | .store _ _, h => ⟨h, trivial⟩
  | .fence, h => ⟨h, trivial⟩
theorem plain_okF {F : Frm} : ∀ l : List Row, rowsOk F l → rowsOk F (plain l)
  | [], _ => trivial
  | r :: rs, h => (ok_append _ _).mpr ⟨plainRow_okF r h.1, plain_okF rs h.2⟩
end
theorem rowsD_isV {l : List Row} : ∀ d ∈ rowsD l, isV d = true := fun d hd => by
  rw [rowsD_map] at hd
  obtain ⟨r, _, rfl⟩ := List.mem_map.mp hd
  exact isV_row
theorem rgD_length {n : Nat} : (rgD 0 (n : Int)).length = n := by simp [rgD]
/-! ### plain rows -/
def lp_in (R__law_plain : List D → Bx → R D) : SF := (extS 1 (callF (nArgs 1 R__law_plain) (consA (bin2 ixK (varF 2) (cF (.int 2))) nilA)))
def lp_body (R__law_plain : List D → Bx → R D) : SF := (ifS (testF (bin2 (eqK false) (bin2 ixK (varF 2) (cF (.int 0))) (cF (.str "loop"))))
    (forS (fun δ h => ((consA (bin2 ixK (varF 2) (cF (.int 1))) nilA) δ h).bind rg1K) (nameU 3)
    (lp_in R__law_plain))
    (appS 1 (iteF (testF (bin2 (eqK false) (bin2 ixK (varF 2) (cF (.int 0))) (cF (.str "fork")))) (tupF (consA (cF (.str "fork")) (consA (bin2 ixK (varF 2) (cF (.int 1))) (consA (blt tupK (consA (callF (nArgs 1 R__law_plain) (consA (bin2 ixK (varF 2) (cF (.int 2))) nilA)) nilA)) (consA (blt tupK (consA (callF (nArgs 1 R__law_plain) (consA (bin2 ixK (varF 2) (cF (.int 3))) nilA)) nilA)) nilA))))) (varF 2))))
theorem lp_loop {h : Bx} {R : List D → Bx → R D} {k : Nat} {x p : List Row} (e : R [.tup (rowsD x)] h = .ok (.lst (rowsD p)) h) : ∀ (ds : List D) (acc : List D) (a0 a3 : SV), acc.length + ds.length * p.length ≤ 1000000 →
    ∃ s, forF (nameU 3) (lp_in R) ds [a0, .own acc, .v (Row.loop k x).d, a3] h = .nx [a0, .own (acc ++ rowsD (List.replicate ds.length p).flatten), .v (Row.loop k x).d, s] h
  | [], acc, a0, a3, _ => ⟨a3, by rw [forF_nil]; simp⟩
  | d :: ds, acc, a0, a3, z => by
    rw [List.length_cons, Nat.succ_mul] at z
    obtain ⟨s, q⟩ := lp_loop (k := k) e ds (acc ++ rowsD p) a0 (.v d) (by rw [List.length_append, rowsD_length]; omega)
    refine ⟨s, ?_⟩
    have z1 : acc.length + p.length ≤ 1000000 := by omega
    rw [forF_nx (δ1 := [a0, .own acc, .v (Row.loop k x).d, .v d]) (δ2 := [a0, .own (acc ++ rowsD p), .v (Row.loop k x).d, .v d]) (h2 := h) rfl (by simp [lp_in, Row.d, e, z1]), q]
    simp [List.replicate_succ, rowsD_append]
theorem lplain_ok {F : Frm} (h : Bx) : ∀ (n : Nat) (l : List Row), rowsOk F l → rowsCost l ≤ 1000000 → rowsDp l < n → F__law_plain n [.tup (rowsD l)] h = .ok (.lst (rowsD (plain l))) h
  | 0, l, _, _, z => absurd z (Nat.not_lt_zero _)
  | n + 1, l, a, b, c => by
    have loop : ∀ (rs : List Row) (acc : List D) (a0 a2 a3 : SV), rowsOk F rs → rowsDp rs ≤ n → acc.length + rowsCost rs ≤ 1000000 →
        ∃ s t, forF (nameU 2) (lp_body (F__law_plain n)) (rowsD rs) [a0, .own acc, a2, a3] h = .nx [a0, .own (acc ++ rowsD (plain rs)), s, t] h := fun rs => by
      induction rs with
      | nil => exact fun acc a0 a2 a3 _ _ _ => ⟨a2, a3, by rw [rowsD_nil, forF_nil]; simp [plain]⟩
      | cons r rs ih =>
        intro acc a0 a2 a3 a d z
        have z' : acc.length + (r.cost + rowsCost rs) ≤ 1000000 := z
        have d' : max r.dp (rowsDp rs) ≤ n := d
        have pc := cost_len (plainRow r)
        have pc2 := plainRow_cost r
        have key : ∃ t, lp_body (F__law_plain n) [a0, .own acc, .v r.d, a3] h = .nx [a0, .own (acc ++ rowsD (plainRow r)), .v r.d, t] h := by
          have z1 : acc.length < 1000000 := by have := cost_pos r; omega
          cases r with
          | op t x y w => exact ⟨a3, by simp (decide := true) [lp_body, Row.d, plainRow, z1]⟩
          | load x y => exact ⟨a3, by simp (decide := true) [lp_body, Row.d, plainRow, z1]⟩
          | store x y => exact ⟨a3, by simp (decide := true) [lp_body, Row.d, plainRow, z1]⟩
          | fence => exact ⟨a3, by simp (decide := true) [lp_body, Row.d, plainRow, z1]⟩
          | fork t x y =>
            obtain ⟨⟨_, q2, q3⟩, _⟩ := a
            simp only [Row.dp] at d'
            simp only [Row.cost] at z'
            have e1 := lplain_ok h n x q2 (by omega) (by omega)
            have e2 := lplain_ok h n y q3 (by omega) (by omega)
            exact ⟨a3, by simp (decide := true) [lp_body, Row.d, plainRow, z1, e1, e2]⟩
          | loop k x =>
            obtain ⟨⟨q1, q2⟩, _⟩ := a
            simp only [Row.dp] at d'
            simp only [Row.cost] at z'
            have e1 := lplain_ok h n x q2 (by omega) (by omega)
            have p1 := plain_cost x
            have p2 := cost_len (plain x)
            have p3 : k * (plain x).length ≤ k * rowsCost x := Nat.mul_le_mul_left _ (by omega)
            obtain ⟨t, q⟩ := lp_loop (k := k) (R := F__law_plain n) e1 (rgD 0 (k : Int)) acc a0 a3 (by rw [rgD_length]; omega)
            rw [rgD_length] at q
            refine ⟨t, ?_⟩
            have rg : rgC (k : Int) = true := by unfold rgC; rw [decide_eq_true_eq]; exact ⟨by omega, by omega⟩
            have rw1 : (Row.loop k x).d = .tup [.str "loop", .int k, .tup (rowsD x)] := rfl
            rw [rw1] at q ⊢
            simp (decide := true) [lp_body, plainRow, rg, q]
        obtain ⟨t, key⟩ := key
        obtain ⟨s, t2, e⟩ := ih (acc ++ rowsD (plainRow r)) a0 (.v r.d) t a.2 (by omega) (by rw [List.length_append, rowsD_length]; omega)
        refine ⟨s, t2, ?_⟩
        rw [rowsD_cons, forF_nx (δ1 := [a0, .own acc, .v r.d, a3]) rfl key, e]
        simp [plain, rowsD_append]
    obtain ⟨s, t, e⟩ := loop l [] (.v (.tup (rowsD l))) .no .no a (by omega) (by simpa using b)
    have s1 : ownS 1 (lstN nilA) (startD N__law_plain.length [.tup (rowsD l)]) h = .nx [.v (.tup (rowsD l)), .own [], .no, .no] h := by simp [startD]
    have s2 : itemsI (varF 0) [.v (.tup (rowsD l)), .own [], .no, .no] h = .ok (rowsD l) h := by simp
    unfold lp_body lp_in at e
    rw [F__law_plain, runF_ap, sf__law_plain, seqS_ap, s1]
    simp only []
    rw [seqS_ap, forS_ap, s2]
    simp only [R.toS_ok]
    rw [e]
    simp
end LP
/-! K06c: what is drawn. -/
namespace LP
open PySem PySem.Spec PyProof.Rows L2 HT
/-! ### what is drawn -/
def Bo (hs h : Bx) : Prop := ∃ a b c : Int, h = hs ++ [[.int a, .int b, .int c]]
theorem take_ok {hs h : Bx} (B : Bo hs h) {m : Nat} (h0 : 0 < m) (h1 : m < 1073741824) : ∃ (x : Nat) (h' : Bx), x < m ∧ F__law_take [.ptr hs.length, .int m] h = .ok (.int x) h' ∧ Bo hs h' := by
  obtain ⟨a, b, c, rfl⟩ := B
  have g0 : (0 : Int) < m := by omega
  have g1 : (m : Int) < 1073741824 := by omega
  suffices ∃ x a' b' c' : Int, 0 ≤ x ∧ x < m ∧ F__law_take [.ptr hs.length, .int m] (hs ++ [[.int a, .int b, .int c]]) = .ok (.int x) (hs ++ [[.int a', .int b', .int c']]) by
    obtain ⟨x, a', b', c', x0, x1, e⟩ := this
    refine ⟨x.toNat, _, by omega, ?_, a', b', c', rfl⟩
    rw [e, Int.toNat_of_nonneg x0]
  by_cases ha : 0 < a
  · refine ⟨a % m, a / m, b, c, Int.emod_nonneg _ (by omega), Int.emod_lt_of_pos _ g0, ?_⟩
    simp [F__law_take, runF_ap, sf__law_take, startD, ha, g0, g1, h0, h1]
  · simp [F__law_take, runF_ap, sf__law_take, startD, ha, g0, g1, h0, h1]
    exact ⟨Int.emod_nonneg _ (by omega), Int.emod_lt_of_pos _ g0⟩
theorem nums_of {m : Nat} : ∀ {ds ys : List D}, All2 (fun _ y => ∃ v : Nat, v < m ∧ y = nD v) ds ys → ∃ t : List Nat, ys = nsD t ∧ t.length = ds.length ∧ ∀ v ∈ t, v < m
  | _, _, .nil => ⟨[], rfl, rfl, fun v hv => by simp at hv⟩
  | _, _, .cons ⟨v, hv, e⟩ t => by
    obtain ⟨t', e1, e2, e3⟩ := nums_of t
    refine ⟨v :: t', by rw [e, e1]; rfl, by simp [e2], fun w hw => ?_⟩
    rcases List.mem_cons.mp hw with hw | hw
    · subst hw; exact hv
    · exact e3 w hw
/-- [take(box, m) for i in range(n)] -/
theorem draws_ok {hs h : Bx} (B : Bo hs h) {m n : Nat} (h0 : 0 < m) (h1 : m < 1073741824) {δ : DE} {i : Nat} {f : EF} (hi : 0 < i) (e0 : δ[0]? = some (.v (.ptr hs.length))) (hf : ∀ (d : D) (h : Bx), f (δ.set i (.v d)) h = .ok (.int m) h) :
    ∃ (t : List Nat) (h' : Bx), compF (nameU i) yesF (callF (nArgs 2 F__law_take) (consA (varF 0) (consA f nilA))) δ (rgD 0 (n : Int)) h = .ok (nsD t) h' ∧ t.length = n ∧ (∀ v ∈ t, v < m) ∧ Bo hs h' := by
  obtain ⟨ys, h', e1, e2, e3⟩ := compF_st (u := nameU i) (ef := callF (nArgs 2 F__law_take) (consA (varF 0) (consA f nilA))) (δ := δ) (P := Bo hs) (Q := fun _ y => ∃ v : Nat, v < m ∧ y = nD v) (ds := rgD 0 (n : Int)) B fun d hd h B => by
    obtain ⟨x, h', q1, q2, q3⟩ := take_ok B h0 h1
    have e : (δ.set i (.v d))[0]? = some (.v (.ptr hs.length)) := by rw [List.getElem?_set_ne (by omega)]; exact e0
    exact ⟨δ.set i (.v d), nD x, h', rfl, by simp [e, hf, q2, nD], rfl, ⟨x, q1, rfl⟩, q3⟩
  obtain ⟨t, rfl, t1, t2⟩ := nums_of e3
  exact ⟨t, h', e1, by rw [t1, rgD_length], t2, e2⟩
def bx_ret : SF := (retS (boxN (lstN (consA (bin2 ixK (lstF (consA (cF (.int 0)) (consA (varF 2) nilA))) (blt intK (consA (bin2 geK (varF 2) (bin2 powK (cF (.int 10)) (cF (.int 18)))) nilA))) (consA (bin2 addK (bin2 modK (blt intK (consA (bin2 addK (bin2 mulA (bin2 modK (blt intK (consA (varF 2) nilA)) (cF (.int 2147483629))) (cF (.int 38569))) (bin2 mulA (cF (.int 71233)) (varF 1))) nilA)) (cF (.int 2147483629))) (cF (.int 1))) (consA (cF (.int 0)) nilA))))))
theorem bx_ret_ok (a0 : SV) (k c : Int) (h : Bx) : ∃ x y : Int, bx_ret [a0, .v (.int k), .v (.int c)] h = .rt (.ptr h.length) (h ++ [[.int x, .int y, .int 0]]) := by
  by_cases h2 : (1000000000000000000 : Int) ≤ c
  · simp [bx_ret, h2]
  · simp [bx_ret, h2]
theorem box_ok {ns : List Int} (hn : ns.length ≤ 63) {k : Nat} (hk : k ≤ 100) (h : Bx) : ∃ h', F__law_box [.frz (ns.map D.int), .int k] h = .ok (.ptr h.length) h' ∧ Bo h h' := by
  have fin : ∀ c : Int, ∃ h', (bx_ret [.v (.frz (ns.map D.int)), .v (.int k), .v (.int c)] h).fin = .ok (.ptr h.length) h' ∧ Bo h h' := fun c => by
    obtain ⟨x, y, e⟩ := bx_ret_ok (.v (.frz (ns.map D.int))) k c h
    rw [e]
    exact ⟨_, rfl, x, y, 0, rfl⟩
  unfold bx_ret at fin
  by_cases h1 : k < ns.length
  · have e1 : atI (ns.map D.int) (k : Int) = some (.int ns[k]) := by
      rw [atI_nat (by rw [List.length_map]; exact h1), List.getElem?_map, List.getElem?_eq_getElem h1]; rfl
    obtain ⟨h', q, B⟩ := fin (if ns[k] < 0 then -ns[k] else ns[k])
    refine ⟨h', ?_, B⟩
    rw [← q, F__law_box, runF_ap, sf__law_box, seqS_ap]
    simp only [startD, setS_ap, bin2_ap, varF_ap, cF_ap]
    simp [h1, e1]
  · by_cases h0 : 0 < ns.length
    · have e1 : atI (ns.map D.int) ((k : Int) % ns.length) = some (.int (ns[k % ns.length]'(Nat.mod_lt _ h0))) := by
        rw [← Int.natCast_emod, atI_nat (by rw [List.length_map]; exact Nat.mod_lt _ h0), List.getElem?_map, List.getElem?_eq_getElem (Nat.mod_lt _ h0)]; rfl
      obtain ⟨h', q, B⟩ := fin (8543 * k + 751 + (if ns[k % ns.length]'(Nat.mod_lt _ h0) < 0 then -ns[k % ns.length]'(Nat.mod_lt _ h0) else ns[k % ns.length]'(Nat.mod_lt _ h0)) % 2147483629 * 60497)
      refine ⟨h', ?_, B⟩
      rw [← q, F__law_box, runF_ap, sf__law_box, seqS_ap]
      simp only [startD, setS_ap, bin2_ap, varF_ap, cF_ap]
      simp [h1, h0, e1]
    · obtain ⟨h', q, B⟩ := fin (8543 * k + 751)
      refine ⟨h', ?_, B⟩
      rw [← q, F__law_box, runF_ap, sf__law_box, seqS_ap]
      simp only [startD, setS_ap, bin2_ap, varF_ap, cF_ap]
      simp [h1, h0]
theorem pick_ok {hs h : Bx} (B : Bo hs h) (ds : List D) (h0 : 0 < ds.length) (h1 : ds.length < 1000) (hv : ∀ d ∈ ds, isV d = true) : ∃ (i : Nat) (h' : Bx) (hi : i < ds.length), F__law_pick [.ptr hs.length, .lst ds] h = .ok ds[i] h' ∧ Bo hs h' := by
  obtain ⟨x, h', q1, q2, q3⟩ := take_ok B h0 (by omega)
  have e1 : atI ds (x : Int) = some ds[x] := by rw [atI_nat q1, List.getElem?_eq_getElem q1]
  have e2 := fun δ h => retK_v (δ := δ) (h := h) (hv _ (List.getElem_mem q1))
  exact ⟨x, h', q1, by simp [F__law_pick, runF_ap, sf__law_pick, startD, q2, e1, e2], q3⟩
def fr_body : SF := (appS 2 (blt tupK (consA (valN (lcN (fun δ h => ((consA (bin2 powK (varF 1) (cF (.int 2))) nilA) δ h).bind rg1K) [4] (nameU 4) yesF (callF (nArgs 2 F__law_take) (consA (varF 0) (consA (varF 1) nilA))))) nilA)))
theorem fr_loop {hs : Bx} {s : Nat} (s1 : s = 2 ∨ s = 3) : ∀ (ds : List D) (acc : List (List Nat)) (a3 a4 : SV) (h : Bx), Bo hs h → acc.length + ds.length ≤ 100 → (∀ t ∈ acc, t.length = s * s ∧ ∀ v ∈ t, v < s) →
    ∃ (tb : List (List Nat)) (b3 : SV) (h' : Bx), forF (nameU 3) fr_body ds [.v (.ptr hs.length), .v (.int s), .own (acc.map fun t => .tup (nsD t)), a3, a4] h = .nx [.v (.ptr hs.length), .v (.int s), .own (tb.map fun t => .tup (nsD t)), b3, a4] h' ∧ Bo hs h' ∧ tb.length = acc.length + ds.length ∧ ∀ t ∈ tb, t.length = s * s ∧ ∀ v ∈ t, v < s
  | [], acc, a3, a4, h, B, _, ha => ⟨acc, a3, h, by rw [forF_nil], B, by simp, ha⟩
  | d :: ds, acc, a3, a4, h, B, z, ha => by
    have z' : acc.length + (ds.length + 1) ≤ 100 := z
    obtain ⟨t, h1, e1, t1, t2, B1⟩ := draws_ok (hs := hs) (h := h) B (m := s) (n := s * s) (by omega) (by omega) (δ := [.v (.ptr hs.length), .v (.int s), .own (acc.map fun t => .tup (nsD t)), .v d, .no]) (i := 4) (f := varF 1) (by omega) rfl (fun d h => by simp)
    obtain ⟨tb, b3, h', e2, B2, l2, t3⟩ := fr_loop s1 ds (acc ++ [t]) (.v d) a4 h1 B1 (by simp; omega) (fun u hu => by
      rcases List.mem_append.mp hu with hu | hu
      · exact ha u hu
      · have : u = t := by simpa using hu
        subst this; exact ⟨t1, t2⟩)
    refine ⟨tb, b3, h', ?_, B2, by rw [l2]; simp; omega, t3⟩
    have z1 : acc.length < 1000000 := by omega
    rw [forF_nx (δ1 := [.v (.ptr hs.length), .v (.int s), .own (acc.map fun t => .tup (nsD t)), .v d, a4]) (δ2 := [.v (.ptr hs.length), .v (.int s), .own ((acc ++ [t]).map fun t => .tup (nsD t)), .v d, a4]) (h2 := h1) rfl ?_, e2]
    have key : rgD 0 ((s : Int) ^ 2) = rgD 0 ((s * s : Nat) : Int) := by
      congr 1
      rw [Int.pow_succ, Int.pow_succ, Int.pow_zero, Int.one_mul, Int.natCast_mul]
    have rl : (rgD 0 ((s * s : Nat) : Int)).length = s * s := rgD_length
    rcases s1 with rfl | rfl
    · simp at e1 rl
      simp (decide := true) [fr_body, e1, rl, rgC, z1]
    · simp at e1 rl
      simp (decide := true) [fr_body, e1, rl, rgC, z1]
theorem frame_draw {hs h : Bx} (B : Bo hs h) : ∃ (F : Frm) (h' : Bx), F.ok ∧ 0 < F.tables.length ∧ F__law_frame [.ptr hs.length] h = .ok F.d h' ∧ Bo hs h' := by
  obtain ⟨x, h1, x1, e1, B1⟩ := take_ok B (m := 5) (by omega) (by omega)
  obtain ⟨s, s1, s2⟩ : ∃ s : Nat, (s = 2 ∨ s = 3) ∧ (2 : Int) + (x : Int) / 4 = s := by
    have : x = 0 ∨ x = 1 ∨ x = 2 ∨ x = 3 ∨ x = 4 := by omega
    rcases this with rfl | rfl | rfl | rfl | rfl
    · exact ⟨2, .inl rfl, by decide⟩
    · exact ⟨2, .inl rfl, by decide⟩
    · exact ⟨2, .inl rfl, by decide⟩
    · exact ⟨2, .inl rfl, by decide⟩
    · exact ⟨3, .inr rfl, by decide⟩
  obtain ⟨y, h2, y1, e2, B2⟩ := take_ok B1 (m := 2) (by omega) (by omega)
  obtain ⟨tb, b3, h3, e3, B3, l3, t3⟩ := fr_loop s1 (rgD 0 ((1 + y : Nat) : Int)) [] .no .no h2 B2 (by rw [rgD_length]; simp; omega) (fun t ht => by simp at ht)
  rw [rgD_length] at l3
  obtain ⟨r, h4, r1, e4, B4⟩ := take_ok B3 (m := 2) (by omega) (by omega)
  obtain ⟨i, h5, i1, e5, B5⟩ := pick_ok B4 [.int 0, .int s] (by simp) (by simp) (by simp)
  obtain ⟨d, h6, d1, e6, B6⟩ := take_ok B5 (m := 3) (by omega) (by omega)
  obtain ⟨c, c1, c2⟩ : ∃ c : Nat, (c = 0 ∨ c = s) ∧ ([D.int 0, D.int s])[i] = .int c := by
    have : i = 0 ∨ i = 1 := by simp at i1; omega
    rcases this with rfl | rfl
    · exact ⟨0, .inl rfl, rfl⟩
    · exact ⟨s, .inr rfl, rfl⟩
  refine ⟨⟨s, 1 + r, c, tb, d⟩, h6, ⟨by show 2 ≤ s; omega, by show s ≤ 3; omega, by show 1 ≤ 1 + r; omega, by show 1 + r ≤ 4; omega, c1, by show tb.length ≤ 4; rw [l3]; simp; omega, t3, by show d ≤ 3; omega⟩, by show 0 < tb.length; rw [l3]; simp; omega, ?_, B6⟩
  rw [c2] at e5
  have rg : rgC (1 + (y : Int)) = true := by unfold rgC; rw [decide_eq_true_eq]; exact ⟨by omega, by omega⟩
  unfold fr_body at e3
  simp at e1 e2 e3 e4 e5 e6
  simp [F__law_frame, runF_ap, sf__law_frame, startD, Frm.d, e1, s2, e2, rg, e3, e4, e5, e6]
theorem datum_draw {F : Frm} (o : F.ok) {hs h : Bx} (B : Bo hs h) : ∃ (l : List Nat) (h' : Bx), dtOk F l ∧ F__law_datum [.ptr hs.length, F.d] h = .ok (.tup (nsD l)) h' ∧ Bo hs h' := by
  have h2 := o.s2; have h1 := o.s1; have h4 := o.r2
  have hc : F.cells ≤ 3 := by have := o.c; omega
  have F1 : F.d = .tup [.int F.size, .int F.regs, .int F.cells, .tup (F.tables.map fun t => .tup (nsD t)), .int F.deep] := rfl
  obtain ⟨t, h', e1, t1, t2, B1⟩ := draws_ok (hs := hs) (h := h) B (m := F.size) (n := F.regs + F.cells) (by omega) (by omega) (δ := [.v (.ptr hs.length), .v F.d, .no]) (i := 2) (f := bin2 ixK (varF 1) (cF (.int 0))) (by omega) rfl (fun d h => by rw [F1]; simp)
  refine ⟨t, h', ⟨t1, t2⟩, ?_, B1⟩
  rw [Int.natCast_add] at e1
  have rl : (rgD 0 ((F.regs : Int) + F.cells)).length = F.regs + F.cells := by rw [← Int.natCast_add]; exact rgD_length
  have rg : rgC ((F.regs : Int) + F.cells) = true := by unfold rgC; rw [decide_eq_true_eq]; exact ⟨by omega, by omega⟩
  have rz : F.regs + F.cells ≤ 1000000 := by omega
  rw [F1] at e1 ⊢
  simp [F__law_datum, runF_ap, sf__law_datum, startD, rl, rg, rz, e1]
def rw_body (R__law_rows : List D → Bx → R D) : SF := (seqS (ownS 6 (lcN (fun δ h => ((consA (cF (.int 3)) nilA) δ h).bind rg1K) [8] (nameU 8) yesF (callF (nArgs 2 F__law_take) (consA (varF 0) (consA (bin2 ixK (varF 1) (cF (.int 1))) nilA)))))
    (seqS (setS 7 (callF (nArgs 2 F__law_take) (consA (varF 0) (consA (iteF (testF (bin2 gtK (varF 3) (cF (.int 0)))) (cF (.int 10)) (cF (.int 7))) nilA))))
    (ifS (orT (testF (bin2 ltK (varF 7) (cF (.int 3)))) (andT (testF (bin2 ltK (varF 7) (cF (.int 5)))) (testF (bin2 (eqK false) (bin2 ixK (varF 1) (cF (.int 2))) (cF (.int 0))))))
    (appS 4 (bin2 addK (tupF (consA (cF (.str "op")) (consA (callF (nArgs 2 F__law_take) (consA (varF 0) (consA (blt lenK (consA (bin2 ixK (varF 1) (cF (.int 3))) nilA)) nilA))) nilA))) (blt tupK (consA (varF 6) nilA))))
    (ifS (testF (bin2 ltK (varF 7) (cF (.int 5))))
    (appS 4 (bin2 addK (tupF (consA (bin2 ixK (lstF (consA (cF (.str "load")) (consA (cF (.str "store")) nilA))) (bin2 subK (varF 7) (cF (.int 3)))) nilA)) (blt tupK (consA (slF (varF 6) noO (someO (cF (.int 2)))) nilA))))
    (ifS (testF (bin2 ltK (varF 7) (cF (.int 7))))
    (appS 4 (iteF (testF (bin2 (eqK false) (varF 7) (cF (.int 5)))) (tupF (consA (cF (.str "fence")) nilA)) (tupF (consA (cF (.str "op")) (consA (cF (.int 0)) (consA (bin2 ixK (varF 6) (cF (.int 0))) (consA (bin2 ixK (varF 6) (cF (.int 1))) (consA (bin2 ixK (varF 6) (cF (.int 1))) nilA))))))))
    (ifS (testF (bin2 ltK (varF 7) (cF (.int 9))))
    (appS 4 (tupF (consA (cF (.str "fork")) (consA (bin2 ixK (varF 6) (cF (.int 0))) (consA (callF (nArgs 4 R__law_rows) (consA (varF 0) (consA (varF 1) (consA (callF (nArgs 2 F__law_take) (consA (varF 0) (consA (cF (.int 3)) nilA))) (consA (bin2 subK (varF 3) (cF (.int 1))) nilA))))) (consA (callF (nArgs 4 R__law_rows) (consA (varF 0) (consA (varF 1) (consA (callF (nArgs 2 F__law_take) (consA (varF 0) (consA (cF (.int 3)) nilA))) (consA (bin2 subK (varF 3) (cF (.int 1))) nilA))))) nilA))))))
    (appS 4 (tupF (consA (cF (.str "loop")) (consA (callF (nArgs 2 F__law_take) (consA (varF 0) (consA (cF (.int 3)) nilA))) (consA (callF (nArgs 4 R__law_rows) (consA (varF 0) (consA (varF 1) (consA (callF (nArgs 2 F__law_take) (consA (varF 0) (consA (cF (.int 3)) nilA))) (consA (bin2 subK (varF 3) (cF (.int 1))) nilA))))) nilA)))))))))))
/-- what a row of a depth costs at most -/
def dC : Nat → Nat
  | 0 => 1
  | n + 1 => 1 + 6 * dC n
theorem dC_pos : ∀ n, 1 ≤ dC n
  | 0 => Nat.le_refl _
  | n + 1 => by rw [dC]; omega
/-- drawn rows -/
structure Dr (F : Frm) (many deep : Nat) (l : List Row) : Prop where
  ok : rowsOk F l
  cost : rowsCost l ≤ many * dC deep
  dp : rowsDp l ≤ deep
  len : l.length = many
theorem turn_ok {F : Frm} (o : F.ok) (ht : 0 < F.tables.length) {hs : Bx} {R : List D → Bx → R D} {deep : Nat} (hd : deep ≤ 100)
    (hR : 0 < deep → ∀ (m : Nat) (h : Bx), m ≤ 2 → Bo hs h → ∃ (l : List Row) (h' : Bx), Dr F m (deep - 1) l ∧ R [.ptr hs.length, F.d, .int m, .int ((deep : Int) - 1)] h = .ok (.tup (rowsD l)) h' ∧ Bo hs h')
    {h : Bx} (B : Bo hs h) (acc : List D) (hz : acc.length ≤ 1000) (a2 a5 a6 a7 : SV) :
    ∃ (r : Row) (b6 b7 : SV) (h' : Bx), rw_body R [.v (.ptr hs.length), .v F.d, a2, .v (.int deep), .own acc, a5, a6, a7, .no] h = .nx [.v (.ptr hs.length), .v F.d, a2, .v (.int deep), .own (acc ++ [r.d]), a5, b6, b7, .no] h' ∧ Bo hs h' ∧ r.ok F ∧ r.cost ≤ dC deep ∧ r.dp ≤ deep := by
  have r1 := o.r1; have r2 := o.r2; have t4 := o.t1
  have F1 : F.d = .tup [.int F.size, .int F.regs, .int F.cells, .tup (F.tables.map fun t => .tup (nsD t)), .int F.deep] := rfl
  obtain ⟨t, h1, e1, l1, t2, B1⟩ := draws_ok (hs := hs) (h := h) B (m := F.regs) (n := 3) (by omega) (by omega) (δ := [.v (.ptr hs.length), .v F.d, a2, .v (.int deep), .own acc, a5, a6, a7, .no]) (i := 8) (f := bin2 ixK (varF 1) (cF (.int 1))) (by omega) rfl (fun d h => by rw [F1]; simp)
  obtain ⟨v0, v1, v2, rfl⟩ : ∃ v0 v1 v2, t = [v0, v1, v2] := by
    match t, l1 with
    | [a, b, c], _ => exact ⟨a, b, c, rfl⟩
  have w0 : v0 < F.regs := t2 v0 (by simp)
  have w1 : v1 < F.regs := t2 v1 (by simp)
  have w2 : v2 < F.regs := t2 v2 (by simp)
  have e1' : compF (nameU 8) yesF (callF (nArgs 2 F__law_take) (consA (varF 0) (consA (bin2 ixK (varF 1) (cF (.int 1))) nilA))) [.v (.ptr hs.length), .v F.d, a2, .v (.int deep), .own acc, a5, a6, a7, .no] (rgD 0 3) h = .ok [.int v0, .int v1, .int v2] h1 := e1
  have rl : (rgD 0 3).length = 3 := rgD_length (n := 3)
  have rg : rgC 3 = true := by decide
  have z1 : acc.length < 1000000 := by omega
  have dp := dC_pos deep
  have hdc : ¬ 0 < deep ∨ 0 < deep := by omega
  obtain ⟨k, h2, k1, e2, B2⟩ := take_ok B1 (m := if 0 < deep then 10 else 7) (by split <;> omega) (by split <;> omega)
  have st : ownS 6 (lcN (fun δ h => ((consA (cF (.int 3)) nilA) δ h).bind rg1K) [8] (nameU 8) yesF (callF (nArgs 2 F__law_take) (consA (varF 0) (consA (bin2 ixK (varF 1) (cF (.int 1))) nilA)))) [.v (.ptr hs.length), .v F.d, a2, .v (.int deep), .own acc, a5, a6, a7, .no] h = .nx [.v (.ptr hs.length), .v F.d, a2, .v (.int deep), .own acc, a5, .own [.int v0, .int v1, .int v2], a7, .no] h1 := by
    simp [rg, rl, e1']
  have st2 : setS 7 (callF (nArgs 2 F__law_take) (consA (varF 0) (consA (iteF (testF (bin2 gtK (varF 3) (cF (.int 0)))) (cF (.int 10)) (cF (.int 7))) nilA))) [.v (.ptr hs.length), .v F.d, a2, .v (.int deep), .own acc, a5, .own [.int v0, .int v1, .int v2], a7, .no] h1 = .nx [.v (.ptr hs.length), .v F.d, a2, .v (.int deep), .own acc, a5, .own [.int v0, .int v1, .int v2], .v (.int k), .no] h2 := by
    rcases hdc with hdc | hdc
    · have hdc' : ¬ (0 : Int) < deep := by omega
      simp [hdc] at e2; simp [e2, hdc]
    · have hdc' : (0 : Int) < deep := by omega
      simp [hdc] at e2; simp [e2, hdc]
  have opc : k < 3 ∨ (k < 5 ∧ F.cells = 0) → ∃ (r : Row) (b6 b7 : SV) (h' : Bx), rw_body R [.v (.ptr hs.length), .v F.d, a2, .v (.int deep), .own acc, a5, a6, a7, .no] h = .nx [.v (.ptr hs.length), .v F.d, a2, .v (.int deep), .own (acc ++ [r.d]), a5, b6, b7, .no] h' ∧ Bo hs h' ∧ r.ok F ∧ r.cost ≤ dC deep ∧ r.dp ≤ deep := fun hk => by
    obtain ⟨t, h3, t1, e3, B3⟩ := take_ok B2 (m := F.tables.length) ht (by omega)
    refine ⟨.op t v0 v1 v2, .own [.int v0, .int v1, .int v2], .v (.int k), h3, ?_, B3, ⟨t1, w0, w1, w2⟩, by simp only [Row.cost]; omega, by simp [Row.dp]⟩
    rw [rw_body, seqS_ap, st]
    simp only []
    rw [seqS_ap, st2]
    simp only []
    rw [F1]
    rcases hk with hk | ⟨hk, hc⟩
    · have hk' : (k : Int) < 3 := by omega
      simp [hk', e3, z1, Row.d]
    · by_cases h3 : (k : Int) < 3
      · simp [h3, e3, z1, Row.d]
      · have hk' : (k : Int) < 5 := by omega
        simp [h3, hk', hc, e3, z1, Row.d]
  by_cases ho : k < 3 ∨ (k < 5 ∧ F.cells = 0)
  · exact opc ho
  have k3 : ¬ (k : Int) < 3 := by omega
  by_cases h5 : k < 5
  · have hc : ¬ F.cells = 0 := by omega
    have hc' : 0 < F.cells := by omega
    have k5 : (k : Int) < 5 := by omega
    have kk : k = 3 ∨ k = 4 := by omega
    rcases kk with rfl | rfl
    · refine ⟨.load v0 v1, .own [.int v0, .int v1, .int v2], .v (.int (3 : Nat)), h2, ?_, B2, ⟨w0, w1, hc'⟩, by simp only [Row.cost]; omega, by simp [Row.dp]⟩
      rw [rw_body, seqS_ap, st]
      simp only []
      rw [seqS_ap, st2]
      simp only []
      rw [F1]
      simp (decide := true) [hc, z1, Row.d]
    · refine ⟨.store v0 v1, .own [.int v0, .int v1, .int v2], .v (.int (4 : Nat)), h2, ?_, B2, ⟨w0, w1, hc'⟩, by simp only [Row.cost]; omega, by simp [Row.dp]⟩
      rw [rw_body, seqS_ap, st]
      simp only []
      rw [seqS_ap, st2]
      simp only []
      rw [F1]
      simp (decide := true) [hc, z1, Row.d]
  have k5 : ¬ (k : Int) < 5 := by omega
  by_cases h7 : k < 7
  · have kk : k = 5 ∨ k = 6 := by omega
    rcases kk with rfl | rfl
    · refine ⟨.fence, .own [.int v0, .int v1, .int v2], .v (.int (5 : Nat)), h2, ?_, B2, trivial, by simp only [Row.cost]; omega, by simp [Row.dp]⟩
      rw [rw_body, seqS_ap, st]
      simp only []
      rw [seqS_ap, st2]
      simp only []
      rw [F1]
      simp (decide := true) [z1, Row.d]
    · refine ⟨.op 0 v0 v1 v1, .own [.int v0, .int v1, .int v2], .v (.int (6 : Nat)), h2, ?_, B2, ⟨ht, w0, w1, w1⟩, by simp only [Row.cost]; omega, by simp [Row.dp]⟩
      rw [rw_body, seqS_ap, st]
      simp only []
      rw [seqS_ap, st2]
      simp only []
      rw [F1]
      simp (decide := true) [z1, Row.d]
  have k7 : ¬ (k : Int) < 7 := by omega
  have d0 : 0 < deep := by
    rcases hdc with hdc | hdc
    · rw [if_neg hdc] at k1; omega
    · exact hdc
  have dd : dC deep = 1 + 6 * dC (deep - 1) := by
    obtain ⟨j, rfl⟩ : ∃ j, deep = j + 1 := ⟨deep - 1, by omega⟩
    rfl
  have dq := dC_pos (deep - 1)
  have F2 : isV F.d = true := rfl
  by_cases h9 : k < 9
  · have k9 : (k : Int) < 9 := by omega
    obtain ⟨n1, g1, n1', q1, C1⟩ := take_ok B2 (m := 3) (by omega) (by omega)
    obtain ⟨x, g2, D1, q2, C2⟩ := hR (by omega) n1 g1 (by omega) C1
    obtain ⟨n2, g3, n2', q3, C3⟩ := take_ok C2 (m := 3) (by omega) (by omega)
    obtain ⟨y, g4, D2, q4, C4⟩ := hR (by omega) n2 g3 (by omega) C3
    have c1 := D1.cost; have c2 := D2.cost; have p1 := D1.dp; have p2 := D2.dp
    have c1' : n1 * dC (deep - 1) ≤ 2 * dC (deep - 1) := Nat.mul_le_mul_right _ (by omega)
    have c2' : n2 * dC (deep - 1) ≤ 2 * dC (deep - 1) := Nat.mul_le_mul_right _ (by omega)
    refine ⟨.fork v0 x y, .own [.int v0, .int v1, .int v2], .v (.int k), g4, ?_, C4, ⟨w0, D1.ok, D2.ok⟩, by simp only [Row.cost]; omega, by simp only [Row.dp]; omega⟩
    rw [rw_body, seqS_ap, st]
    simp only []
    rw [seqS_ap, st2]
    simp only []
    rw [F1] at q2 q4 ⊢
    simp at q1 q3
    simp (decide := true) [k3, k5, k7, k9, q1, q2, q3, q4, z1, Row.d]
  · have k9 : ¬ (k : Int) < 9 := by omega
    obtain ⟨n0, g0, n0', q0, C0⟩ := take_ok B2 (m := 3) (by omega) (by omega)
    obtain ⟨n1, g1, n1', q1, C1⟩ := take_ok C0 (m := 3) (by omega) (by omega)
    obtain ⟨x, g2, D1, q2, C2⟩ := hR (by omega) n1 g1 (by omega) C1
    have c1 := D1.cost; have p1 := D1.dp
    have c1' : n1 * dC (deep - 1) ≤ 2 * dC (deep - 1) := Nat.mul_le_mul_right _ (by omega)
    have cc : n0 * rowsCost x ≤ 2 * rowsCost x := Nat.mul_le_mul_right _ (by omega)
    refine ⟨.loop n0 x, .own [.int v0, .int v1, .int v2], .v (.int k), g2, ?_, C2, ⟨by omega, D1.ok⟩, by simp only [Row.cost]; omega, by simp only [Row.dp]; omega⟩
    rw [rw_body, seqS_ap, st]
    simp only []
    rw [seqS_ap, st2]
    simp only []
    rw [F1] at q2 ⊢
    simp at q0 q1
    simp (decide := true) [k3, k5, k7, k9, q0, q1, q2, z1, Row.d]
theorem rows_draw {F : Frm} (o : F.ok) (ht : 0 < F.tables.length) {hs : Bx} {R : List D → Bx → R D} {deep : Nat} (hd : deep ≤ 100)
    (hR : 0 < deep → ∀ (m : Nat) (h : Bx), m ≤ 2 → Bo hs h → ∃ (l : List Row) (h' : Bx), Dr F m (deep - 1) l ∧ R [.ptr hs.length, F.d, .int m, .int ((deep : Int) - 1)] h = .ok (.tup (rowsD l)) h' ∧ Bo hs h')
    {m : Nat} (hm : m ≤ 100) {h : Bx} (B : Bo hs h) : ∃ (l : List Row) (h' : Bx), Dr F m deep l ∧ runF N__law_rows.length (sf__law_rows R) [.ptr hs.length, F.d, .int m, .int deep] h = .ok (.tup (rowsD l)) h' ∧ Bo hs h' := by
  have loop : ∀ (ds : List D) (acc : List Row) (a5 a6 a7 : SV) (h : Bx), Bo hs h → acc.length + ds.length ≤ 100 → Dr F acc.length deep acc →
      ∃ (l : List Row) (b5 b6 b7 : SV) (h' : Bx), forF (nameU 5) (rw_body R) ds [.v (.ptr hs.length), .v F.d, .v (.int m), .v (.int deep), .own (rowsD acc), a5, a6, a7, .no] h = .nx [.v (.ptr hs.length), .v F.d, .v (.int m), .v (.int deep), .own (rowsD l), b5, b6, b7, .no] h' ∧ Bo hs h' ∧ Dr F (acc.length + ds.length) deep l := fun ds => by
    induction ds with
    | nil => exact fun acc a5 a6 a7 h B _ hD => ⟨acc, a5, a6, a7, h, by rw [forF_nil], B, hD⟩
    | cons d ds ih =>
      intro acc a5 a6 a7 h B z hD
      have z' : acc.length + (ds.length + 1) ≤ 100 := z
      obtain ⟨r, b6, b7, h1, e1, B1, r1, r2, r3⟩ := turn_ok o ht hd hR B (rowsD acc) (by rw [rowsD_length]; omega) (.v (.int m)) (.v d) a6 a7
      have e : rowsD acc ++ [r.d] = rowsD (acc ++ [r]) := by rw [rowsD_append]; rfl
      rw [e] at e1
      have hl : (acc ++ [r]).length = acc.length + 1 := by simp
      obtain ⟨l, c5, c6, c7, h2, e2, B2, D2⟩ := ih (acc ++ [r]) (.v d) b6 b7 h1 B1 (by rw [hl]; omega) ⟨(ok_append _ _).mpr ⟨hD.ok, r1, trivial⟩, by
        rw [cost_append, hl, Nat.add_mul]
        have := hD.cost
        show _ + (r.cost + 0) ≤ _
        omega, rowsDp_le.mpr fun q hq => by
          rcases List.mem_append.mp hq with hq | hq
          · exact rowsDp_le.mp hD.dp q hq
          · have : q = r := by simpa using hq
            subst this; exact r3, rfl⟩
      refine ⟨l, c5, c6, c7, h2, ?_, B2, ?_⟩
      · rw [forF_nx (δ1 := [.v (.ptr hs.length), .v F.d, .v (.int m), .v (.int deep), .own (rowsD acc), .v d, a6, a7, .no]) rfl e1, e2]
      · rw [hl] at D2
        have : acc.length + (d :: ds).length = acc.length + 1 + ds.length := by simp; omega
        rw [this]; exact D2
  obtain ⟨l, b5, b6, b7, h', e, B', D⟩ := loop (rgD 0 (m : Int)) [] .no .no .no h B (by rw [rgD_length]; simp; omega) ⟨trivial, Nat.zero_le _, Nat.zero_le _, rfl⟩
  rw [rgD_length] at D
  have D' : Dr F m deep l := by simpa using D
  refine ⟨l, h', D', ?_, B'⟩
  have rg : rgC (m : Int) = true := by unfold rgC; rw [decide_eq_true_eq]; exact ⟨by omega, by omega⟩
  have s1 : ownS 4 (lstN nilA) (startD N__law_rows.length [.ptr hs.length, F.d, .int m, .int deep]) h = .nx [.v (.ptr hs.length), .v F.d, .v (.int m), .v (.int deep), .own [], .no, .no, .no, .no] h := by simp [startD]
  have s2 : ((consA (varF 2) nilA) [.v (.ptr hs.length), .v F.d, .v (.int m), .v (.int deep), .own [], .no, .no, .no, .no] h).bind rg1K = .ok (rgD 0 (m : Int)) h := by simp [rg]
  unfold rw_body at e
  rw [runF_ap, sf__law_rows, seqS_ap, s1]
  simp only []
  rw [seqS_ap, forS_ap, s2]
  simp only [LP.R.toS_ok]
  rw [rowsD_nil] at e
  rw [e]
  simp
theorem rows_drawN {F : Frm} (o : F.ok) (ht : 0 < F.tables.length) {hs : Bx} : ∀ (n deep : Nat), deep < n → deep ≤ 100 → ∀ {m : Nat}, m ≤ 100 → ∀ {h : Bx}, Bo hs h → ∃ (l : List Row) (h' : Bx), Dr F m deep l ∧ F__law_rows n [.ptr hs.length, F.d, .int m, .int deep] h = .ok (.tup (rowsD l)) h' ∧ Bo hs h'
  | 0, _, z, _ => absurd z (Nat.not_lt_zero _)
  | n + 1, deep, z, zd => fun hm _ B => rows_draw o ht (R := F__law_rows n) (deep := deep) zd (fun hd m h hm B => by
      have e : ((deep : Int) - 1) = ((deep - 1 : Nat) : Int) := by omega
      rw [e]
      exact rows_drawN o ht n (deep - 1) (by omega) (by omega) (by omega) B) hm B
end LP
/-! K06d: any data looked at as rows. -/
namespace LP
open PySem PySem.Spec PyProof.Rows L2 HT
mutual
/-- plain data, no sequence in it longer than w -/
def D.wd (w : Nat) : D → Bool
  | .tup ds => decide (ds.length ≤ w) && D.wds w ds
  | .lst ds => decide (ds.length ≤ w) && D.wds w ds
  | .int _ => true
  | .bl _ => true
  | .str _ => true
  | .non => true
  | _ => false
def D.wds (w : Nat) : List D → Bool
  | [] => true
  | d :: ds => d.wd w && D.wds w ds
end
theorem wds_iff {w : Nat} : ∀ {ds : List D}, D.wds w ds = true ↔ ∀ d ∈ ds, d.wd w = true
  | [] => by simp [D.wds]
  | d :: ds => by simp [D.wds, wds_iff (ds := ds)]
mutual
theorem wd_pure {w : Nat} : ∀ d : D, d.wd w = true → d.pure = true
  | .tup ds, h => by simp only [D.wd, Bool.and_eq_true] at h; exact wds_pures ds h.2
  | .lst ds, h => by simp only [D.wd, Bool.and_eq_true] at h; exact wds_pures ds h.2
  | .int _, _ => rfl
  | .bl _, _ => rfl
  | .str _, _ => rfl
  | .non, _ => rfl
  | .ptr _, h => by cases h
  | .loc _, h => by cases h
  | .frz _, h => by cases h
  | .lam _, h => by cases h
  | .fn _, h => by cases h
theorem wds_pures {w : Nat} : ∀ ds : List D, D.wds w ds = true → D.pures ds = true
  | [], _ => rfl
  | d :: ds, h => by
    simp only [D.wds, Bool.and_eq_true] at h
    rw [pures_cons, wd_pure d h.1, wds_pures ds h.2]; rfl
end
theorem wd_isV {w : Nat} {d : D} (h : d.wd w = true) : isV d = true := by cases d <;> first | rfl | cases h
theorem dep_mem {d : D} : ∀ {ds : List D}, d ∈ ds → d.dep ≤ D.deps ds
  | a :: l, h => by
    rw [deps_cons]
    rcases List.mem_cons.mp h with h | h
    · subst h; omega
    · have := dep_mem h; omega
/-! ### below -/
def belowB (x : D) (m : Nat) : Bool := match x with
  | .int i => decide (0 ≤ i) && decide (i < m)
  | _ => false
@[simp] theorem belowB_int {i : Int} {m : Nat} : belowB (.int i) m = (decide (0 ≤ i) && decide (i < m)) := pr rfl
@[simp] theorem belowB_bl {i : Bool} {m : Nat} : belowB (.bl i) m = false := pr rfl
@[simp] theorem belowB_str {i : Str} {m : Nat} : belowB (.str i) m = false := pr rfl
@[simp] theorem belowB_non {m : Nat} : belowB .non m = false := pr rfl
@[simp] theorem belowB_tup {i : List D} {m : Nat} : belowB (.tup i) m = false := pr rfl
@[simp] theorem belowB_lst {i : List D} {m : Nat} : belowB (.lst i) m = false := pr rfl
theorem isint_any {w : Nat} {x : D} (hx : x.wd w = true) (h : Bx) : F_is_integer [x] h = .ok (.bl (match x with | .int _ => true | _ => false)) h := by
  cases x <;> first | (cases hx; done) | simp (decide := true) [F_is_integer, runF_ap, sf_is_integer, startD]
theorem below_any {w : Nat} {x : D} (hx : x.wd w = true) (m : Nat) (h : Bx) : F_is_below [x, .int m] h = .ok (.bl (belowB x m)) h := by
  cases x with
  | int i =>
    have e := isint_any (x := .int i) hx h
    simp only at e
    by_cases h0 : 0 ≤ i <;> by_cases h1 : i < m <;> simp (decide := true) [F_is_below, runF_ap, sf_is_below, F_is_number, sf_is_number, startD, e, h0, h1]
  | bl b =>
    have e := isint_any (x := .bl b) hx h
    simp only at e
    simp (decide := true) [F_is_below, runF_ap, sf_is_below, F_is_number, sf_is_number, startD, e]
  | str b =>
    have e := isint_any (x := .str b) hx h
    simp only at e
    simp (decide := true) [F_is_below, runF_ap, sf_is_below, F_is_number, sf_is_number, startD, e]
  | non =>
    have e := isint_any (x := .non) hx h
    simp only at e
    simp (decide := true) [F_is_below, runF_ap, sf_is_below, F_is_number, sf_is_number, startD, e]
  | tup b =>
    have e := isint_any (x := .tup b) hx h
    simp only at e
    simp (decide := true) [F_is_below, runF_ap, sf_is_below, F_is_number, sf_is_number, startD, e]
  | lst b =>
    have e := isint_any (x := .lst b) hx h
    simp only at e
    simp (decide := true) [F_is_below, runF_ap, sf_is_below, F_is_number, sf_is_number, startD, e]
  | _ => cases hx
theorem lbelow_any {w : Nat} {x : D} (hx : x.wd w = true) (m : Nat) (h : Bx) : F__law_is_below [x, .int m] h = .ok (.bl (belowB x m)) h := by
  cases x with
  | int i =>
    by_cases h0 : 0 ≤ i <;> by_cases h1 : i < m <;> simp (decide := true) [F__law_is_below, runF_ap, sf__law_is_below, startD, h0, h1]
  | _ => first | (cases hx; done) | simp (decide := true) [F__law_is_below, runF_ap, sf__law_is_below, startD]
theorem belows_any {w : Nat} {δ : DE} {i : Nat} {ds : List D} {m : Nat} (h : Bx) (hw : D.wds w ds = true) {f : EF} (hij : i < δ.length) (hf : ∀ v : D, f (δ.set i (.v v)) h = .ok (.int m) h) :
    compF (nameU i) yesF (callF (nArgs 2 F_is_below) (consA (varF i) (consA f nilA))) δ ds h = .ok (ds.map fun d => .bl (belowB d m)) h := by
  refine compF_map fun d hd => ⟨δ.set i (.v d), rfl, ?_, rfl⟩
  have hv := wds_iff.mp hw d hd
  have e2 : (δ.set i (.v d))[i]? = some (.v d) := by rw [List.getElem?_set_self hij]
  simp [e2, hf, wd_isV hv]
  exact below_any hv m h
theorem blsM {α : Type} {g : α → Bool} : ∀ {l : List α}, bls (l.map fun d => D.bl (g d)) = some (l.map g)
  | [] => rfl
  | a :: l => by
    show bls (D.bl (g a) :: l.map fun d => D.bl (g d)) = _
    rw [bls_cons, blsM]; rfl
theorem all_id {α : Type} {g : α → Bool} : ∀ {l : List α}, (l.map g).all id = l.all g
  | [] => rfl
  | a :: l => by simp
/-- the law's [x for x in l if not is_below(x, m)] -/
theorem lnots_any {w : Nat} {δ : DE} {i : Nat} {ds : List D} {m : Nat} (h : Bx) (hw : D.wds w ds = true) {f : EF} (hij : i < δ.length) (hf : ∀ v : D, f (δ.set i (.v v)) h = .ok (.int m) h) :
    compF (nameU i) (notT (testF (callF (nArgs 2 F__law_is_below) (consA (varF i) (consA f nilA))))) (varF i) δ ds h = .ok (ds.filter fun d => !belowB d m) h := by
  have := compF_filter (u := nameU i) (tf := notT (testF (callF (nArgs 2 F__law_is_below) (consA (varF i) (consA f nilA))))) (ef := varF i) (δ := δ) (h := h) (g := id) (p := fun d => !belowB d m) (ds := ds) fun d hd => by
    have hv := wds_iff.mp hw d hd
    have e2 : (δ.set i (.v d))[i]? = some (.v d) := by rw [List.getElem?_set_self hij]
    refine ⟨δ.set i (.v d), rfl, ?_, fun _ => ⟨by simp [e2], wd_isV hv⟩⟩
    have e := lbelow_any hv m h
    simp [e2, hf, wd_isV hv, e]
  rw [List.map_id] at this
  exact this
theorem filter_no {α : Type} {g : α → Bool} {l : List α} : (l.filter fun d => !g d) = [] ↔ l.all g = true := by
  rw [List.filter_eq_nil_iff, List.all_eq_true]
  simp
theorem wds_filter {w : Nat} {g : D → Bool} {ds : List D} (hw : D.wds w ds = true) : D.wds w (ds.filter g) = true := wds_iff.mpr fun d hd => wds_iff.mp hw d (List.mem_filter.mp hd).1
theorem eqs_nil_r {ds : List D} : D.eqs ds [] = ds.isEmpty := by cases ds <;> simp
/-- isinstance(v, tuple) and len(v) == n and all below m -/
def arebB (x : D) (n m : Nat) : Bool := match x with
  | .tup ds => decide (ds.length = n) && ds.all fun d => belowB d m
  | _ => false
theorem larebelow_any {w : Nat} (hz : w ≤ 1000) {x : D} (hx : x.wd w = true) (n m : Nat) (h : Bx) : F__law_are_below [x, .int n, .int m] h = .ok (.bl (arebB x n m)) h := by
  cases x with
  | tup ds =>
    have hx' := hx
    simp only [D.wd, Bool.and_eq_true, decide_eq_true_eq] at hx'
    have c := lnots_any (w := w) (δ := [.v (.tup ds), .v (.int n), .v (.int m), .no]) (i := 3) (ds := ds) (m := m) h hx'.2 (f := varF 2) (by simp) (fun v => by simp)
    have z : ds.length ≤ 1000000 := by omega
    have pu := wds_pures _ (wds_filter (g := fun d => !belowB d m) hx'.2)
    by_cases e : ds.length = n
    · subst e
      have q : (ds.filter fun d => !belowB d m).isEmpty = ds.all fun d => belowB d m := by
        by_cases a : (ds.all fun d => belowB d m) = true
        · rw [a, filter_no.mpr a]; rfl
        · have b : ¬ (ds.filter fun d => !belowB d m) = [] := fun z => a (filter_no.mp z)
          have a' : (ds.all fun d => belowB d m) = false := by simpa using a
          rw [a']
          simpa using b
      simp (decide := true) [F__law_are_below, runF_ap, sf__law_are_below, startD, z, c, pu, eqs_nil_r, arebB, q]
    · have e' : ¬ (ds.length : Int) = n := by omega
      simp (decide := true) [F__law_are_below, runF_ap, sf__law_are_below, startD, e', e, arebB]
  | _ => first | (cases hx; done) | simp (decide := true) [F__law_are_below, runF_ap, sf__law_are_below, startD, arebB]
end LP
/-! K06f: rows, by the program and by the law. -/
namespace LP
open PySem PySem.Spec PyProof.Rows L2 HT
/-- what a row is to be, A for its sides -/
def rowB1 (F : Frm) (A : D → Bool) (s : Str) (as : List D) : Bool :=
  if s = "loop" then (match as with
    | [n, x] => belowB n 5 && A x
    | _ => false)
  else if s = "fork" then (match as with
    | [a, x, y] => belowB a F.regs && (A x && A y)
    | _ => false)
  else if s = "op" then (match as with
    | [t, a, b, c] => belowB t F.tables.length && [a, b, c].all fun d => belowB d F.regs
    | _ => false)
  else if s = "load" ∨ s = "store" then (match as with
    | [a, b] => ([a, b].all fun d => belowB d F.regs) && decide (0 < F.cells)
    | _ => false)
  else decide (s = "fence") && as.isEmpty
mutual
def areB (F : Frm) : Nat → D → Bool
  | 0, _ => false
  | n + 1, .tup ds => ds.all (rowB F n)
  | _ + 1, _ => false
def rowB (F : Frm) : Nat → D → Bool
  | 0, _ => false
  | n + 1, .tup (.str s :: as) => rowB1 F (areB F n) s as
  | _ + 1, _ => false
end
theorem sizes (s : Str) : (s = "op" ∧ findT tab_ROW_SIZES s = some 5) ∨ (s = "load" ∧ findT tab_ROW_SIZES s = some 3) ∨ (s = "store" ∧ findT tab_ROW_SIZES s = some 3) ∨ (s = "fence" ∧ findT tab_ROW_SIZES s = some 1) ∨ (s = "fork" ∧ findT tab_ROW_SIZES s = some 4) ∨ (s = "loop" ∧ findT tab_ROW_SIZES s = some 3) ∨
    ((s ≠ "op" ∧ s ≠ "load" ∧ s ≠ "store" ∧ s ≠ "fence" ∧ s ≠ "fork" ∧ s ≠ "loop") ∧ findT tab_ROW_SIZES s = none) := by
  obtain ⟨t1, t2, t3, t4, t5, t6⟩ := findT_sizes
  by_cases h1 : s = "op"
  · subst h1; exact .inl ⟨rfl, t1⟩
  by_cases h2 : s = "load"
  · subst h2; exact .inr (.inl ⟨rfl, t2⟩)
  by_cases h3 : s = "store"
  · subst h3; exact .inr (.inr (.inl ⟨rfl, t3⟩))
  by_cases h4 : s = "fence"
  · subst h4; exact .inr (.inr (.inr (.inl ⟨rfl, t4⟩)))
  by_cases h5 : s = "fork"
  · subst h5; exact .inr (.inr (.inr (.inr (.inl ⟨rfl, t5⟩))))
  by_cases h6 : s = "loop"
  · subst h6; exact .inr (.inr (.inr (.inr (.inr (.inl ⟨rfl, t6⟩)))))
  refine .inr (.inr (.inr (.inr (.inr (.inr ⟨⟨h1, h2, h3, h4, h5, h6⟩, ?_⟩)))))
  simp [findT, tab_ROW_SIZES, h1, h2, h3, h4, h5, h6, Ne.symm]
theorem isstr_any {w : Nat} {x : D} (hx : x.wd w = true) (h : Bx) : F_is_string [x] h = .ok (.bl (match x with | .str _ => true | _ => false)) h := by
  cases x <;> first | (cases hx; done) | simp (decide := true) [F_is_string, runF_ap, sf_is_string, startD]
theorem wd_tup {w : Nat} {ds : List D} (h : D.wd w (.tup ds) = true) : ds.length ≤ w ∧ D.wds w ds = true := by
  simpa only [D.wd, Bool.and_eq_true, decide_eq_true_eq] using h
theorem wd_mem {w : Nat} {ds : List D} (h : D.wds w ds = true) {d : D} (hd : d ∈ ds) : d.wd w = true := wds_iff.mp h d hd
theorem row_any {F : Frm} (o : F.ok) (h : Bx) : ∀ n : Nat,
    (∀ d : D, d.wd 1000 = true → d.dep < n → F_are_rows n [F.d, d] h = .ok (.bl (areB F n d)) h) ∧
    (∀ d : D, d.wd 1000 = true → d.dep < n → F_is_row n [F.d, d] h = .ok (.bl (rowB F n d)) h)
  | 0 => ⟨fun _ _ z => absurd z (Nat.not_lt_zero _), fun _ _ z => absurd z (Nat.not_lt_zero _)⟩
  | n + 1 => by
    obtain ⟨ih1, ih2⟩ := row_any o h n
    have r2 := o.r2
    refine ⟨fun d a c => ?_, fun d a c => ?_⟩
    · cases d with
      | tup ds =>
        obtain ⟨a1, a2⟩ := wd_tup a
        rw [dep_tup] at c
        have c2 : ds.length ≤ 1000000 := by omega
        have cm : ∀ δ : DE, δ[0]? = some (.v F.d) → 2 < δ.length → compF (nameU 2) yesF (callF (nArgs 2 (F_is_row n)) (consA (varF 0) (consA (varF 2) nilA))) δ ds h = .ok (ds.map fun d => .bl (rowB F n d)) h := fun δ e hl => by
          refine compF_map fun d hd => ⟨δ.set 2 (.v d), rfl, ?_, rfl⟩
          have hv := wd_mem a2 hd
          have dm := dep_mem hd
          have e2 : (δ.set 2 (.v d))[2]? = some (.v d) := by rw [List.getElem?_set_self hl]
          simp [e, e2, wd_isV hv]
          exact ih2 d hv (by omega)
        simp (decide := true) [F_are_rows, runF_ap, sf_are_rows, startD, c2]
        rw [cm _ (by simp) (by simp)]
        simp [blsM, all_id, areB]
      | _ => first | (cases a; done) | simp (decide := true) [F_are_rows, runF_ap, sf_are_rows, startD, areB]
    · cases d with
      | tup ds =>
        obtain ⟨a1, a2⟩ := wd_tup a
        rw [dep_tup] at c
        cases ds with
        | nil => simp (decide := true) [F_is_row, runF_ap, sf_is_row, startD, rowB]
        | cons x as =>
          have hx := wd_mem a2 (List.mem_cons_self ..)
          have es := isstr_any hx h
          have sx := wd_isV hx
          have n0 : ¬ ((as.length : Int) + 1 = 0) := by omega
          cases x with
          | str s =>
            simp only at es
            have aw : D.wds 1000 as = true := by simp only [D.wds, Bool.and_eq_true] at a2; exact a2.2
            have adp : D.deps as < n := by rw [deps_cons] at c; omega
            have am : ∀ {y : D}, y ∈ as → y.wd 1000 = true ∧ y.dep < n := fun hy => ⟨wd_mem aw hy, by have := dep_mem hy; omega⟩
            rcases sizes s with ⟨rfl, t⟩ | ⟨rfl, t⟩ | ⟨rfl, t⟩ | ⟨rfl, t⟩ | ⟨rfl, t⟩ | ⟨rfl, t⟩ | ⟨⟨z1, z2, z3, z4, z5, z6⟩, t⟩
            · by_cases hl : as.length = 4
              · match as, hl with
                | [t1, a1, b1, c1], _ =>
                  have b := below_any (am (y := t1) (by simp)).1 F.tables.length h
                  have cw : D.wds 1000 [a1, b1, c1] = true := by simp only [D.wds, Bool.and_eq_true] at aw ⊢; exact aw.2
                  have cm := fun δ f hij hf => belows_any (w := 1000) (δ := δ) (i := 2) (ds := [a1, b1, c1]) (m := F.regs) h cw (f := f) hij hf
                  have v1 := wd_isV (am (y := t1) (by simp)).1
                  by_cases hb : belowB t1 F.tables.length = true
                  · simp (decide := true) [F_is_row, runF_ap, sf_is_row, startD, es, t, Frm.d, b, v1, hb]
                    rw [cm _ _ (by simp) (fun v => by simp)]
                    simp (decide := true) [rowB, rowB1, hb, Bool.and_assoc]
                  · simp (decide := true) [F_is_row, runF_ap, sf_is_row, startD, es, t, Frm.d, b, v1, hb, rowB, rowB1]
              · have hl' : ¬ ((as.length : Int) + 1 = 5) := by omega
                have e : rowB1 F (areB F n) "op" as = false := by
                  simp (decide := true) [rowB1]
                  match as, hl with
                  | [], _ => rfl
                  | [_], _ => rfl
                  | [_, _], _ => rfl
                  | [_, _, _], _ => rfl
                  | _ :: _ :: _ :: _ :: _ :: _, _ => rfl
                simp (decide := true) [F_is_row, runF_ap, sf_is_row, startD, es, t, n0, hl', rowB, e]
            · by_cases hl : as.length = 2
              · match as, hl with
                | [a1, b1], _ =>
                  have cm := fun δ f hij hf => belows_any (w := 1000) (δ := δ) (i := 2) (ds := [a1, b1]) (m := F.regs) h aw (f := f) hij hf
                  simp (decide := true) [F_is_row, runF_ap, sf_is_row, startD, es, t, Frm.d]
                  rw [cm _ _ (by simp) (fun v => by simp)]
                  by_cases hb : belowB a1 F.regs = true <;> by_cases hc : belowB b1 F.regs = true <;> by_cases hz : 0 < F.cells <;> simp (decide := true) [rowB, rowB1, hb, hc, hz]
              · have hl' : ¬ ((as.length : Int) + 1 = 3) := by omega
                have e : rowB1 F (areB F n) "load" as = false := by
                  simp (decide := true) [rowB1]
                  match as, hl with
                  | [], _ => rfl
                  | [_], _ => rfl
                  | _ :: _ :: _ :: _, _ => rfl
                simp (decide := true) [F_is_row, runF_ap, sf_is_row, startD, es, t, n0, hl', rowB, e]
            · by_cases hl : as.length = 2
              · match as, hl with
                | [a1, b1], _ =>
                  have cm := fun δ f hij hf => belows_any (w := 1000) (δ := δ) (i := 2) (ds := [a1, b1]) (m := F.regs) h aw (f := f) hij hf
                  simp (decide := true) [F_is_row, runF_ap, sf_is_row, startD, es, t, Frm.d]
                  rw [cm _ _ (by simp) (fun v => by simp)]
                  by_cases hb : belowB a1 F.regs = true <;> by_cases hc : belowB b1 F.regs = true <;> by_cases hz : 0 < F.cells <;> simp (decide := true) [rowB, rowB1, hb, hc, hz]
              · have hl' : ¬ ((as.length : Int) + 1 = 3) := by omega
                have e : rowB1 F (areB F n) "store" as = false := by
                  simp (decide := true) [rowB1]
                  match as, hl with
                  | [], _ => rfl
                  | [_], _ => rfl
                  | _ :: _ :: _ :: _, _ => rfl
                simp (decide := true) [F_is_row, runF_ap, sf_is_row, startD, es, t, n0, hl', rowB, e]
            · by_cases hl : as.length = 0
              · match as, hl with
                | [], _ =>
                  have cm := fun δ f hij hf => belows_any (w := 1000) (δ := δ) (i := 2) (ds := []) (m := F.regs) h aw (f := f) hij hf
                  simp (decide := true) [F_is_row, runF_ap, sf_is_row, startD, es, t, Frm.d]
                  rw [cm _ _ (by simp) (fun v => by simp)]
                  simp (decide := true) [rowB, rowB1]
              · have hl' : ¬ ((as.length : Int) + 1 = 1) := by omega
                have e : rowB1 F (areB F n) "fence" as = false := by
                  simp (decide := true) [rowB1]
                  exact fun z => hl (by rw [z]; rfl)
                simp (decide := true) [F_is_row, runF_ap, sf_is_row, startD, es, t, n0, hl', rowB, e]
            · by_cases hl : as.length = 3
              · match as, hl with
                | [a1, x, y], _ =>
                  have b := below_any (am (y := a1) (by simp)).1 F.regs h
                  have v1 := wd_isV (am (y := a1) (by simp)).1
                  have v2 := wd_isV (am (y := x) (by simp)).1
                  have v3 := wd_isV (am (y := y) (by simp)).1
                  have e1 := ih1 x (am (y := x) (by simp)).1 (am (y := x) (by simp)).2
                  have e2 := ih1 y (am (y := y) (by simp)).1 (am (y := y) (by simp)).2
                  rw [Frm.d] at e1 e2
                  by_cases hb : belowB a1 F.regs = true <;> by_cases hc : areB F n x = true <;> by_cases hz : areB F n y = true <;> simp (decide := true) [F_is_row, runF_ap, sf_is_row, startD, es, t, Frm.d, b, v1, v2, v3, e1, e2, rowB, rowB1, hb, hc, hz]
              · have hl' : ¬ ((as.length : Int) + 1 = 4) := by omega
                have e : rowB1 F (areB F n) "fork" as = false := by
                  simp (decide := true) [rowB1]
                  match as, hl with
                  | [], _ => rfl
                  | [_], _ => rfl
                  | [_, _], _ => rfl
                  | _ :: _ :: _ :: _ :: _, _ => rfl
                simp (decide := true) [F_is_row, runF_ap, sf_is_row, startD, es, t, n0, hl', rowB, e]
            · by_cases hl : as.length = 2
              · match as, hl with
                | [a1, x], _ =>
                  have b := below_any (am (y := a1) (by simp)).1 5 h
                  have b : F_is_below [a1, .int 5] h = .ok (.bl (belowB a1 5)) h := b
                  have v1 := wd_isV (am (y := a1) (by simp)).1
                  have v2 := wd_isV (am (y := x) (by simp)).1
                  have e1 := ih1 x (am (y := x) (by simp)).1 (am (y := x) (by simp)).2
                  rw [Frm.d] at e1
                  by_cases hb : belowB a1 5 = true <;> by_cases hc : areB F n x = true <;> simp (decide := true) [F_is_row, runF_ap, sf_is_row, startD, es, t, Frm.d, b, v1, v2, e1, rowB, rowB1, hb, hc]
              · have hl' : ¬ ((as.length : Int) + 1 = 3) := by omega
                have e : rowB1 F (areB F n) "loop" as = false := by
                  simp (decide := true) [rowB1]
                  match as, hl with
                  | [], _ => rfl
                  | [_], _ => rfl
                  | _ :: _ :: _ :: _, _ => rfl
                simp (decide := true) [F_is_row, runF_ap, sf_is_row, startD, es, t, n0, hl', rowB, e]
            · have e : rowB1 F (areB F n) s as = false := by simp (decide := true) [rowB1, z1, z2, z3, z4, z5, z6]
              have hl' : ¬ ((as.length : Int) + 1 = 0) := by omega
              simp (decide := true) [F_is_row, runF_ap, sf_is_row, startD, es, t, n0, hl', rowB, e]
          | _ => first | (cases hx; done) | (simp only at es; simp (decide := true) [F_is_row, runF_ap, sf_is_row, startD, rowB, es, n0])
      | _ => first | (cases a; done) | simp (decide := true) [F_is_row, runF_ap, sf_is_row, startD, rowB]
end LP
/-! K06g: rows by the law. -/
namespace LP
open PySem PySem.Spec PyProof.Rows L2 HT
/-- the first that is wrong -/
def dueD (B : D → Bool) : D → D
  | .tup ds => match (List.range ds.length).find? (fun i => !B (ds.getD i .non)) with
    | none => .non
    | some i => .int (i : Nat)
  | _ => .int (-1)
theorem filt_find {α : Type} {p : α → Bool} : ∀ {l : List α}, (l.filter p)[0]? = l.find? p
  | [] => rfl
  | a :: l => by
    rw [List.filter_cons, List.find?_cons]
    cases p a with
    | true => rfl
    | false => exact filt_find (l := l)
theorem isNon_due {F : Frm} {n : Nat} (hn : 0 < n) {d : D} (hd : d.wd 1000 = true) : isNon (dueD (rowB F (n - 1)) d) = areB F n d := by
  obtain ⟨m, rfl⟩ : ∃ m, n = m + 1 := ⟨n - 1, by omega⟩
  show isNon (dueD (rowB F m) d) = areB F (m + 1) d
  cases d with
  | tup ds =>
    rw [dueD, areB]
    cases z : (List.range ds.length).find? (fun i => !rowB F m (ds.getD i .non)) with
    | none =>
      have z' := List.find?_eq_none.mp z
      have : ds.all (rowB F m) = true := by
        rw [List.all_eq_true]
        intro x hx
        obtain ⟨i, hi, rfl⟩ := List.mem_iff_getElem.mp hx
        have := z' i (List.mem_range.mpr hi)
        rw [List.getD_eq_getElem?_getD, List.getElem?_eq_getElem hi] at this
        simpa using this
      rw [this]; rfl
    | some i =>
      have h1 := List.find?_some z
      have h2 := List.mem_range.mp (List.mem_of_find?_eq_some z)
      rw [List.getD_eq_getElem?_getD, List.getElem?_eq_getElem h2] at h1
      have h1 : rowB F m ds[i] = false := by simpa using h1
      have : ds.all (rowB F m) = false := by
        rw [List.all_eq_false]
        exact ⟨ds[i], List.getElem_mem h2, by simp [h1]⟩
      rw [this]; rfl
  | _ => first | (cases hd; done) | rfl
theorem wds_drop {w : Nat} {ds : List D} (h : D.wds w ds = true) (k : Nat) : D.wds w (ds.drop k) = true := wds_iff.mpr fun d hd => wds_iff.mp h d (List.mem_of_mem_drop hd)
theorem due_isV {B : D → Bool} {d : D} : isV (dueD B d) = true := by
  cases d <;> first | rfl | (rw [dueD]; split <;> rfl)
theorem ldue_of {F : Frm} {h : Bx} {Q1 Q2 : List D → Bx → R D} {B : D → Bool} {d : D} (a : d.wd 1000 = true) (e : ∀ x, x.wd 1000 = true → x.dep < d.dep → Q1 [F.d, x] h = .ok (.bl (B x)) h) :
    runF N__law_due.length (sf__law_due Q1 Q2) [F.d, d] h = .ok (dueD B d) h := by
  cases d with
  | tup ds =>
    obtain ⟨a1, a2⟩ := wd_tup a
    rw [dep_tup] at e
    have z : ds.length ≤ 1000000 := by omega
    have zl : (enumD ds).length = ds.length := by simp [enumD]
    have c : compF (tupU 2 (consU (nameU 3) (consU (nameU 4) nilU))) (notT (testF (callF (nArgs 2 Q1) (consA (varF 0) (consA (varF 4) nilA))))) (varF 3) [.v F.d, .v (.tup ds), .no, .no, .no] (enumD ds) h
        = .ok (((List.range ds.length).filter fun i => !B (ds.getD i .non)).map fun i => .int (i : Nat)) h := by
      have := compF_filter (u := tupU 2 (consU (nameU 3) (consU (nameU 4) nilU))) (tf := notT (testF (callF (nArgs 2 Q1) (consA (varF 0) (consA (varF 4) nilA))))) (ef := varF 3) (δ := [.v F.d, .v (.tup ds), .no, .no, .no]) (h := h)
        (g := fun d => match d with | .tup [x, _] => x | x => x) (p := fun d => match d with | .tup [_, r] => !B r | _ => false) (ds := enumD ds) fun d hd => by
          obtain ⟨i, hi, rfl⟩ := List.mem_map.mp hd
          rw [List.mem_range] at hi
          have gi : ds.getD i .non = ds[i] := by rw [List.getD_eq_getElem?_getD, List.getElem?_eq_getElem hi]; rfl
          rw [gi]
          have hm := List.getElem_mem hi
          have q := e ds[i] (wd_mem a2 hm) (by have := dep_mem hm; omega)
          refine ⟨[.v F.d, .v (.tup ds), .no, .v (.int (i : Nat)), .v ds[i]], rfl, ?_, fun _ => ⟨by simp, rfl⟩⟩
          simp [wd_isV (wd_mem a2 hm), q]
      rw [this]
      unfold enumD
      rw [List.filter_map, List.map_map]
      rfl
    have pu : D.pures (((List.range ds.length).filter fun i => !B (ds.getD i .non)).map fun i => D.int (i : Nat)) = true := pures_all fun d hd => by
      obtain ⟨i, _, rfl⟩ := List.mem_map.mp hd
      rfl
    have hf := filt_find (p := fun i => !B (ds.getD i .non)) (l := List.range ds.length)
    generalize ((List.range ds.length).filter fun i => !B (ds.getD i .non)) = L at c pu hf
    simp (decide := true) [runF_ap, sf__law_due, startD, z, zl, c, -List.getD_eq_getElem?_getD]
    rw [dueD, ← hf]
    cases L with
    | nil => simp (decide := true)
    | cons i L =>
      simp at pu
      simp (decide := true) [pu]
  | _ => first | (cases a; done) | simp (decide := true) [runF_ap, sf__law_due, startD, dueD]
end LP
/-! K06p: the statements of some defs, named (printed by parts.py). -/
namespace LP
open PySem PySem.Spec PyProof.Rows L2 HT
def p_lis_row_1 (R__law_is_row : List D → Bx → R D) (R__law_due : List D → Bx → R D) : SF := (ifS (orT (notT (testF (isiF ["tuple"] (varF 1)))) (orT (testF (bin2 (eqK false) (varF 1) (tupF nilA))) (testF (bin2 (inK true) (bin2 ixK (varF 1) (cF (.int 0))) (lstF (consA (cF (.str "op")) (consA (cF (.str "load")) (consA (cF (.str "store")) (consA (cF (.str "fence")) (consA (cF (.str "fork")) (consA (cF (.str "loop")) nilA))))))))))) (retS (cF (.bl false))) (fun δ h => .nx δ h))
def p_lis_row_2 (R__law_is_row : List D → Bx → R D) (R__law_due : List D → Bx → R D) : SF := (ifS (testF (bin2 (eqK true) (blt lenK (consA (varF 1) nilA)) (bin2 ixK (lstF (consA (cF (.int 5)) (consA (cF (.int 3)) (consA (cF (.int 3)) (consA (cF (.int 1)) (consA (cF (.int 4)) (consA (cF (.int 3)) nilA))))))) (idxF (lstF (consA (cF (.str "op")) (consA (cF (.str "load")) (consA (cF (.str "store")) (consA (cF (.str "fence")) (consA (cF (.str "fork")) (consA (cF (.str "loop")) nilA))))))) (bin2 ixK (varF 1) (cF (.int 0))))))) (retS (cF (.bl false))) (fun δ h => .nx δ h))
def p_lis_row_3 (R__law_is_row : List D → Bx → R D) (R__law_due : List D → Bx → R D) : SF := (ifS (testF (bin2 (eqK false) (bin2 ixK (varF 1) (cF (.int 0))) (cF (.str "op")))) (retS (andV (callF (nArgs 2 F__law_is_below) (consA (bin2 ixK (varF 1) (cF (.int 1))) (consA (blt lenK (consA (bin2 ixK (varF 0) (cF (.int 3))) nilA)) nilA))) (callF (nArgs 3 F__law_are_below) (consA (slF (varF 1) (someO (cF (.int 2))) noO) (consA (cF (.int 3)) (consA (bin2 ixK (varF 0) (cF (.int 1))) nilA)))))) (fun δ h => .nx δ h))
def p_lis_row_4 (R__law_is_row : List D → Bx → R D) (R__law_due : List D → Bx → R D) : SF := (ifS (testF (bin2 (inK false) (bin2 ixK (varF 1) (cF (.int 0))) (lstF (consA (cF (.str "load")) (consA (cF (.str "store")) nilA))))) (retS (andV (bin2 gtK (bin2 ixK (varF 0) (cF (.int 2))) (cF (.int 0))) (callF (nArgs 3 F__law_are_below) (consA (slF (varF 1) (someO (cF (.int 1))) noO) (consA (cF (.int 2)) (consA (bin2 ixK (varF 0) (cF (.int 1))) nilA)))))) (fun δ h => .nx δ h))
def p_lis_row_5 (R__law_is_row : List D → Bx → R D) (R__law_due : List D → Bx → R D) : SF := (ifS (testF (bin2 (eqK false) (bin2 ixK (varF 1) (cF (.int 0))) (cF (.str "fork")))) (retS (andV (callF (nArgs 2 F__law_is_below) (consA (bin2 ixK (varF 1) (cF (.int 1))) (consA (bin2 ixK (varF 0) (cF (.int 1))) nilA))) (andV (bin2 isNK (callF (nArgs 2 R__law_due) (consA (varF 0) (consA (bin2 ixK (varF 1) (cF (.int 2))) nilA))) (cF .non)) (bin2 isNK (callF (nArgs 2 R__law_due) (consA (varF 0) (consA (bin2 ixK (varF 1) (cF (.int 3))) nilA))) (cF .non))))) (fun δ h => .nx δ h))
def p_lis_row_6 (R__law_is_row : List D → Bx → R D) (R__law_due : List D → Bx → R D) : SF := (retS (orV (bin2 (eqK false) (bin2 ixK (varF 1) (cF (.int 0))) (cF (.str "fence"))) (andV (callF (nArgs 2 F__law_is_below) (consA (bin2 ixK (varF 1) (cF (.int 1))) (consA (cF (.int 5)) nilA))) (bin2 isNK (callF (nArgs 2 R__law_due) (consA (varF 0) (consA (bin2 ixK (varF 1) (cF (.int 2))) nilA))) (cF .non)))))
def p_lis_row (R__law_is_row : List D → Bx → R D) (R__law_due : List D → Bx → R D) : SF := (seqS (p_lis_row_1 R__law_is_row R__law_due) (seqS (p_lis_row_2 R__law_is_row R__law_due) (seqS (p_lis_row_3 R__law_is_row R__law_due) (seqS (p_lis_row_4 R__law_is_row R__law_due) (seqS (p_lis_row_5 R__law_is_row R__law_due) (p_lis_row_6 R__law_is_row R__law_due))))))
theorem sf__law_is_row_eq (R__law_is_row : List D → Bx → R D) (R__law_due : List D → Bx → R D) : sf__law_is_row R__law_is_row R__law_due = p_lis_row R__law_is_row R__law_due := rfl
def p_lframe_due_1 : SF := (ifS (orT (notT (testF (isiF ["tuple"] (varF 0)))) (testF (bin2 (eqK true) (blt lenK (consA (varF 0) nilA)) (cF (.int 5))))) (retS (negF (cF (.int 1)))) (fun δ h => .nx δ h))
def p_lframe_due_2 : SF := (ifS (orT (notT (testF (callF (nArgs 2 F__law_is_below) (consA (bin2 ixK (varF 0) (cF (.int 0))) (consA (cF (.int 4)) nilA))))) (testF (bin2 ltK (bin2 ixK (varF 0) (cF (.int 0))) (cF (.int 2))))) (retS (cF (.int 0))) (fun δ h => .nx δ h))
def p_lframe_due_3 : SF := (ifS (orT (notT (testF (callF (nArgs 2 F__law_is_below) (consA (bin2 ixK (varF 0) (cF (.int 1))) (consA (cF (.int 5)) nilA))))) (testF (bin2 (eqK false) (bin2 ixK (varF 0) (cF (.int 1))) (cF (.int 0))))) (retS (cF (.int 1))) (fun δ h => .nx δ h))
def p_lframe_due_4 : SF := (ifS (orT (notT (testF (callF (nArgs 2 F__law_is_below) (consA (bin2 ixK (varF 0) (cF (.int 2))) (consA (cF (.int 4)) nilA))))) (testF (bin2 (inK true) (bin2 ixK (varF 0) (cF (.int 2))) (lstF (consA (cF (.int 0)) (consA (bin2 ixK (varF 0) (cF (.int 0))) nilA)))))) (retS (cF (.int 2))) (fun δ h => .nx δ h))
def p_lframe_due_5 : SF := (ifS (orT (notT (testF (isiF ["tuple"] (bin2 ixK (varF 0) (cF (.int 3)))))) (orT (testF (bin2 gtK (blt lenK (consA (bin2 ixK (varF 0) (cF (.int 3))) nilA)) (cF (.int 4)))) (testF (bin2 (eqK true) (valN (lcN (itemsI (bin2 ixK (varF 0) (cF (.int 3)))) [1] (nameU 1) (notT (testF (callF (nArgs 3 F__law_are_below) (consA (varF 1) (consA (bin2 powK (bin2 ixK (varF 0) (cF (.int 0))) (cF (.int 2))) (consA (bin2 ixK (varF 0) (cF (.int 0))) nilA)))))) (varF 1))) (lstF nilA))))) (retS (cF (.int 3))) (fun δ h => .nx δ h))
def p_lframe_due_6 : SF := (retS (iteF (testF (callF (nArgs 2 F__law_is_below) (consA (bin2 ixK (varF 0) (cF (.int 4))) (consA (cF (.int 4)) nilA)))) (cF .non) (cF (.int 4))))
def p_lframe_due : SF := (seqS p_lframe_due_1 (seqS p_lframe_due_2 (seqS p_lframe_due_3 (seqS p_lframe_due_4 (seqS p_lframe_due_5 p_lframe_due_6)))))
theorem sf__law_frame_due_eq : sf__law_frame_due = p_lframe_due := rfl
def p_need_frame_1 : SF := (ifS (orT (notT (testF (isiF ["tuple"] (varF 0)))) (testF (bin2 (eqK true) (blt lenK (consA (varF 0) nilA)) (cF (.int 5))))) (raiseS "InvalidFrame" "at" (negF (cF (.int 1)))) (fun δ h => .nx δ h))
def p_need_frame_2 : SF := (asgS (tupU 5 (consU (nameU 1) (consU (nameU 2) (consU (nameU 3) (consU (nameU 4) (consU (nameU 5) nilU)))))) (varF 0))
def p_need_frame_3 : SF := (ifS (orT (notT (testF (callF (nArgs 1 F_is_integer) (consA (varF 1) nilA)))) (notT (testF (chainF leK leK (cF (.int 2)) (varF 1) (cF (.int 3)))))) (raiseS "InvalidFrame" "at" (cF (.int 0))) (fun δ h => .nx δ h))
def p_need_frame_4 : SF := (ifS (orT (notT (testF (callF (nArgs 1 F_is_integer) (consA (varF 2) nilA)))) (notT (testF (chainF leK leK (cF (.int 1)) (varF 2) (cF (.int 4)))))) (raiseS "InvalidFrame" "at" (cF (.int 1))) (fun δ h => .nx δ h))
def p_need_frame_5 : SF := (ifS (orT (notT (testF (callF (nArgs 1 F_is_integer) (consA (varF 3) nilA)))) (andT (testF (bin2 (eqK true) (varF 3) (cF (.int 0)))) (testF (bin2 (eqK true) (varF 3) (varF 1))))) (raiseS "InvalidFrame" "at" (cF (.int 2))) (fun δ h => .nx δ h))
def p_need_frame_6 : SF := (ifS (orT (notT (testF (isiF ["tuple"] (varF 4)))) (orT (testF (bin2 gtK (blt lenK (consA (varF 4) nilA)) (cF (.int 4)))) (notT (testF (blt allK (consA (valN (lcN (itemsI (varF 4)) [6] (nameU 6) yesF (callF (nArgs 2 F_is_table) (consA (varF 1) (consA (varF 6) nilA))))) nilA)))))) (raiseS "InvalidFrame" "at" (cF (.int 3))) (fun δ h => .nx δ h))
def p_need_frame_7 : SF := (ifS (notT (testF (callF (nArgs 2 F_is_below) (consA (varF 5) (consA (bin2 addK (cF (.int 3)) (cF (.int 1))) nilA))))) (raiseS "InvalidFrame" "at" (cF (.int 4))) (fun δ h => .nx δ h))
def p_need_frame_8 : SF := (retS (varF 0))
def p_need_frame : SF := (seqS p_need_frame_1 (seqS p_need_frame_2 (seqS p_need_frame_3 (seqS p_need_frame_4 (seqS p_need_frame_5 (seqS p_need_frame_6 (seqS p_need_frame_7 p_need_frame_8)))))))
theorem sf_need_frame_eq : sf_need_frame = p_need_frame := rfl
def p_lbent_1t_1 (R__law_bent : List D → Bx → R D) : SF := (setS 3 (callF (nArgs 2 F__law_take) (consA (varF 0) (consA (blt lenK (consA (varF 1) nilA)) nilA))))
def p_lbent_1t_2 (R__law_bent : List D → Bx → R D) : SF := (retS (bin2 addK (bin2 addK (slF (varF 1) noO (someO (varF 3))) (tupF (consA (callF (nArgs 3 R__law_bent) (consA (varF 0) (consA (bin2 ixK (varF 1) (varF 3)) (consA (bin2 subK (varF 2) (cF (.int 1))) nilA)))) nilA))) (slF (varF 1) (someO (bin2 addK (varF 3) (cF (.int 1)))) noO)))
def p_lbent_1t (R__law_bent : List D → Bx → R D) : SF := (seqS (p_lbent_1t_1 R__law_bent) (p_lbent_1t_2 R__law_bent))
def p_lbent_1 (R__law_bent : List D → Bx → R D) : SF := (ifS (andT (testF (bin2 gtK (varF 2) (cF (.int 0)))) (andT (testF (isiF ["tuple"] (varF 1))) (andT (testF (bin2 (eqK true) (varF 1) (tupF nilA))) (testF (bin2 gtK (callF (nArgs 2 F__law_take) (consA (varF 0) (consA (cF (.int 6)) nilA))) (cF (.int 0))))))) (p_lbent_1t R__law_bent) (fun δ h => .nx δ h))
def p_lbent_2 (R__law_bent : List D → Bx → R D) : SF := (ifS (testF (isiF ["tuple"] (varF 1))) (retS (callF (nArgs 2 F__law_pick) (consA (varF 0) (consA (lstF (consA (valN (listN (consA (varF 1) nilA))) (consA (bin2 addK (varF 1) (slF (varF 1) noO (someO (cF (.int 1))))) (consA (slF (varF 1) (someO (cF (.int 1))) noO) (consA (revF (varF 1)) (consA (cF .non) (consA (bin2 addK (varF 1) (tupF (consA (cF (.int 0)) nilA))) nilA))))))) nilA)))) (fun δ h => .nx δ h))
def p_lbent_3 (R__law_bent : List D → Bx → R D) : SF := (ifS (testF (isiF ["str"] (varF 1))) (retS (callF (nArgs 2 F__law_pick) (consA (varF 0) (consA (lstF (consA (cF (.str "op")) (consA (cF (.str "load")) (consA (cF (.str "store")) (consA (cF (.str "fence")) (consA (cF (.str "fork")) (consA (cF (.str "loop")) (consA (cF (.str "row")) (consA (cF .non) nilA))))))))) nilA)))) (fun δ h => .nx δ h))
def p_lbent_4 (R__law_bent : List D → Bx → R D) : SF := (retS (callF (nArgs 2 F__law_pick) (consA (varF 0) (consA (lstF (consA (cF .non) (consA (cF (.int 0)) (consA (cF (.int 1)) (consA (cF (.int 2)) (consA (cF (.int 3)) (consA (cF (.int 4)) (consA (cF (.int 5)) (consA (negF (cF (.int 1))) (consA (cF (.bl true)) (consA (cF (.str "1")) nilA))))))))))) nilA))))
def p_lbent (R__law_bent : List D → Bx → R D) : SF := (seqS (p_lbent_1 R__law_bent) (seqS (p_lbent_2 R__law_bent) (seqS (p_lbent_3 R__law_bent) (p_lbent_4 R__law_bent))))
theorem sf__law_bent_eq (R__law_bent : List D → Bx → R D) : sf__law_bent R__law_bent = p_lbent R__law_bent := rfl
def p_value_rows_1 : SF := (setS 2 (lstF (consA (tupF nilA) nilA)))
def p_value_rows_2 : SF := (forS (fun δ h => ((consA (varF 1) nilA) δ h).bind rg1K) (nameU 3) (endFrz 2 (ownS 2 (lc2N (itemsI (varF 2)) [4, 5] (nameU 4) yesF (fun δ h => ((consA (varF 0) nilA) δ h).bind rg1K) [5] (nameU 5) yesF (bin2 addK (varF 4) (tupF (consA (varF 5) nilA)))))))
def p_value_rows_3 : SF := (retS (varF 2))
def p_value_rows : SF := (seqS p_value_rows_1 (seqS p_value_rows_2 p_value_rows_3))
theorem sf_value_rows_eq : sf_value_rows = p_value_rows := rfl
def p_law_1 : SF := (setS 1 (tupF (consA (cF (.int 2)) (consA (cF (.int 1)) (consA (cF (.int 2)) (consA (tupF nilA) (consA (cF (.int 1)) nilA)))))))
def p_law_2 : SF := (ifS (orT (testF (bin2 (eqK true) (bin2 ixK (callF (nArgs 1 F_all_data) (consA (varF 1) nilA)) (cF (.int 3))) (tupF (consA (cF (.int 0)) (consA (cF (.int 1)) (consA (cF (.int 1)) nilA)))))) (orT (testF (bin2 (eqK true) (blt lenK (consA (callF (nArgs 1 F_all_data) (consA (varF 1) nilA)) nilA)) (cF (.int 8)))) (testF (bin2 (eqK true) (callF (nArgs 2 F_unrolled) (consA (varF 1) (consA (tupF (consA (tupF (consA (cF (.str "loop")) (consA (cF (.int 2)) (consA (tupF (consA (tupF (consA (cF (.str "fence")) nilA)) nilA)) nilA)))) (consA (tupF (consA (cF (.str "loop")) (consA (cF (.int 0)) (consA (tupF (consA (tupF (consA (cF (.str "fence")) nilA)) nilA)) nilA)))) nilA))) nilA))) (bin2 mulA (tupF (consA (tupF (consA (cF (.str "fence")) nilA)) nilA)) (cF (.int 2))))))) (retS (cF (.bl false))) (fun δ h => .nx δ h))
def p_law_3b_1 : SF := (setS 3 (callF (nArgs 2 F__law_box) (consA (varF 0) (consA (varF 2) nilA))))
def p_law_3b_2 : SF := (setS 1 (callF (nArgs 1 F__law_frame) (consA (varF 3) nilA)))
def p_law_3b_3 : SF := (parS [4, 5] (consX (callF (nArgs 4 (F__law_rows rf)) (consA (varF 3) (consA (varF 1) (consA (callF (nArgs 2 F__law_take) (consA (varF 3) (consA (cF (.int 6)) nilA))) (consA (cF (.int 2)) nilA))))) (consX (callF (nArgs 2 F__law_datum) (consA (varF 3) (consA (varF 1) nilA))) nilX)))
def p_law_3b_4 : SF := (ifS (orT (testF (bin2 (eqK true) (callKwF 1 [0] F_need_frame (consA (varF 1) nilA)) (varF 1))) (orT (testF (bin2 (eqK true) (callKwF 2 [0, 1] F_need_program (consA (varF 1) (consA (varF 4) nilA))) (varF 4))) (testF (bin2 (eqK true) (callKwF 2 [0, 1] F_need_datum (consA (varF 1) (consA (varF 5) nilA))) (varF 5))))) (retS (cF (.bl false))) (fun δ h => .nx δ h))
def p_law_3b_5 : SF := (setS 6 (lstF (consA (tupF nilA) nilA)))
def p_law_3b_6b_1 : SF := (ownS 8 (lstN nilA))
def p_law_3b_6b_2 : SF := (forS (itemsI (varF 6)) (nameU 9) (extS 8 (valN (lcN (fun δ h => ((consA (bin2 ixK (varF 1) (cF (.int 0))) nilA) δ h).bind rg1K) [17] (nameU 17) yesF (bin2 addK (varF 9) (tupF (consA (varF 17) nilA)))))))
def p_law_3b_6b_3 : SF := (frzS 8 (setS 6 (varF 8)))
def p_law_3b_6b : SF := (seqS p_law_3b_6b_1 (seqS p_law_3b_6b_2 p_law_3b_6b_3))
def p_law_3b_6 : SF := (forS (fun δ h => ((consA (bin2 addK (bin2 ixK (varF 1) (cF (.int 1))) (bin2 ixK (varF 1) (cF (.int 2)))) nilA) δ h).bind rg1K) (nameU 7) p_law_3b_6b)
def p_law_3b_7 : SF := (ifS (orT (testF (bin2 (eqK true) (callKwF 1 [0] F_all_data (consA (varF 1) nilA)) (blt tupK (consA (varF 6) nilA)))) (testF (bin2 (eqK true) (callKwF 2 [0, 1] F_unrolled (consA (varF 1) (consA (varF 4) nilA))) (blt tupK (consA (callF (nArgs 1 (F__law_plain rf)) (consA (varF 4) nilA)) nilA))))) (retS (cF (.bl false))) (fun δ h => .nx δ h))
def p_law_3b_8b_1 : SF := (setS 11 (callF (nArgs 3 (F__law_bent rf)) (consA (varF 3) (consA (varF 1) (consA (cF (.int 4)) nilA)))))
def p_law_3b_8b_2 : SF := (setS 12 (callF (nArgs 1 F__law_frame_due) (consA (varF 11) nilA)))
def p_law_3b_8b_3 : SF := (ifS (testF (bin2 (eqK true) (fun δ h => ((cF (.lam 0)) δ h).bind fun d h1 => heardF bod_law N__law_heard.length sf__law_heard δ d h1) (iteF (testF (bin2 isNK (varF 12) (cF .non))) (tupF (consA (cF (.str "is")) (consA (varF 11) nilA))) (tupF (consA (cF (.str "frame")) (consA (varF 12) nilA)))))) (retS (cF (.bl false))) (fun δ h => .nx δ h))
def p_law_3b_8b_4 : SF := (setS 13 (callF (nArgs 3 (F__law_bent rf)) (consA (varF 3) (consA (varF 4) (consA (cF (.int 6)) nilA)))))
def p_law_3b_8b_5 : SF := (setS 12 (callF (nArgs 2 (F__law_due rf)) (consA (varF 1) (consA (varF 13) nilA))))
def p_law_3b_8b_6 : SF := (ifS (testF (bin2 (eqK true) (fun δ h => ((cF (.lam 1)) δ h).bind fun d h1 => heardF bod_law N__law_heard.length sf__law_heard δ d h1) (iteF (testF (bin2 isNK (varF 12) (cF .non))) (tupF (consA (cF (.str "is")) (consA (varF 13) nilA))) (tupF (consA (cF (.str "program")) (consA (varF 12) nilA)))))) (retS (cF (.bl false))) (fun δ h => .nx δ h))
def p_law_3b_8b_7 : SF := (setS 14 (callF (nArgs 3 (F__law_bent rf)) (consA (varF 3) (consA (varF 5) (consA (cF (.int 2)) nilA)))))
def p_law_3b_8b_8 : SF := (setS 15 (callF (nArgs 3 F__law_are_below) (consA (varF 14) (consA (bin2 addK (bin2 ixK (varF 1) (cF (.int 1))) (bin2 ixK (varF 1) (cF (.int 2)))) (consA (bin2 ixK (varF 1) (cF (.int 0))) nilA)))))
def p_law_3b_8b_9 : SF := (ifS (testF (bin2 (eqK true) (fun δ h => ((cF (.lam 2)) δ h).bind fun d h1 => heardF bod_law N__law_heard.length sf__law_heard δ d h1) (iteF (testF (varF 15)) (tupF (consA (cF (.str "is")) (consA (varF 14) nilA))) (tupF (consA (cF (.str "datum")) (consA (negF (cF (.int 1))) nilA)))))) (retS (cF (.bl false))) (fun δ h => .nx δ h))
def p_law_3b_8b : SF := (seqS p_law_3b_8b_1 (seqS p_law_3b_8b_2 (seqS p_law_3b_8b_3 (seqS p_law_3b_8b_4 (seqS p_law_3b_8b_5 (seqS p_law_3b_8b_6 (seqS p_law_3b_8b_7 (seqS p_law_3b_8b_8 p_law_3b_8b_9))))))))
def p_law_3b_8 : SF := (forS (fun δ h => ((consA (cF (.int 5)) nilA) δ h).bind rg1K) (nameU 10) p_law_3b_8b)
def p_law_3b_9 : SF := (ownS 16 (lstN (consA (tupF (consA (cF (.lam 3)) (consA (tupF (consA (cF (.str "frame")) (consA (negF (cF (.int 1))) nilA))) nilA))) nilA)))
def p_law_3b_10 : SF := (appS 16 (tupF (consA (cF (.lam 4)) (consA (tupF (consA (cF (.str "program")) (consA (negF (cF (.int 1))) nilA))) nilA))))
def p_law_3b_11 : SF := (appS 16 (tupF (consA (cF (.lam 5)) (consA (tupF (consA (cF (.str "frame")) (consA (negF (cF (.int 1))) nilA))) nilA))))
def p_law_3b_12 : SF := (frzS 16 (ifS (testF (bin2 (eqK true) (valN (lcNL (itemsI (varF 16)) [18, 19] (tupU 2 (consU (nameU 18) (consU (nameU 19) nilU))) (fun δ0 => (testF (bin2 (eqK true) (fun δ h => ((varF 18) δ h).bind fun d h1 => heardF bod_law N__law_heard.length sf__law_heard δ0 d h1) (varF 19)))) (fun δ0 => (varF 18)))) (lstF nilA))) (retS (cF (.bl false))) (fun δ h => .nx δ h)))
def p_law_3b : SF := (seqS p_law_3b_1 (seqS p_law_3b_2 (seqS p_law_3b_3 (seqS p_law_3b_4 (seqS p_law_3b_5 (seqS p_law_3b_6 (seqS p_law_3b_7 (seqS p_law_3b_8 (seqS p_law_3b_9 (seqS p_law_3b_10 (seqS p_law_3b_11 p_law_3b_12)))))))))))
def p_law_3 : SF := (forS (fun δ h => ((consA (cF (.int 2)) nilA) δ h).bind rg1K) (nameU 2) p_law_3b)
def p_law_4 : SF := (retS (cF (.bl true)))
def p_law : SF := (seqS p_law_1 (seqS p_law_2 (seqS p_law_3 p_law_4)))
theorem sf_law_eq : sf_law = p_law := rfl
end LP
/-! K06h: rows by the law. -/
namespace LP
open PySem PySem.Spec PyProof.Rows L2 HT
@[simp] theorem gtK_int {a b : Int} {δ : DE} {h : Bx} : gtK (.int a) (.int b) δ h = .ok (.bl (decide (b < a))) h := by first | rfl | (unfold gtK; simp)
theorem vw_wd {w : Nat} {x : D} (hx : x.wd w = true) {δ : DE} {h : Bx} : vw δ h x = x := by cases x <;> first | (cases hx; done) | rfl
theorem eq_str_no {a : Str} {x : D} (hx : x.wd 1000 = true) (h : ∀ s, x ≠ .str s) : D.eq (.str a) x = false := by
  cases x <;> first | (cases hx; done) | exact absurd rfl (h _) | rfl
section
variable {Q1 Q2 : List D → Bx → R D} {F : Frm} {h : Bx} {as : List D}
/-- the names, with what the law's own list says -/
inductive Nm : Str → Int → Prop
  | op : Nm "op" 5
  | load : Nm "load" 3
  | store : Nm "store" 3
  | fence : Nm "fence" 1
  | fork : Nm "fork" 4
  | loop : Nm "loop" 3
theorem lr1 {s : Str} {k : Int} (n : Nm s k) (p : D.pures as = true) : p_lis_row_1 Q1 Q2 [.v F.d, .v (.tup (.str s :: as))] h = .nx [.v F.d, .v (.tup (.str s :: as))] h := by
  cases n <;> simp (decide := true) [p_lis_row_1, p]
theorem lr2 {s : Str} {k : Int} (n : Nm s k) (p : D.pures as = true) (e : (as.length : Int) + 1 = k) : p_lis_row_2 Q1 Q2 [.v F.d, .v (.tup (.str s :: as))] h = .nx [.v F.d, .v (.tup (.str s :: as))] h := by
  cases n <;> simp (decide := true) [p_lis_row_2, p, e, idxK, List.findIdx?_cons]
theorem lr2_no {s : Str} {k : Int} (n : Nm s k) (p : D.pures as = true) (e : ¬ (as.length : Int) + 1 = k) : p_lis_row_2 Q1 Q2 [.v F.d, .v (.tup (.str s :: as))] h = .rt (.bl false) h := by
  cases n <;> simp (decide := true) [p_lis_row_2, p, e, idxK, List.findIdx?_cons]
theorem rowB1_len {A : D → Bool} {s : Str} {k : Int} (n : Nm s k) (e : ¬ (as.length : Int) + 1 = k) : rowB1 F A s as = false := by
  rcases as with _ | ⟨a, _ | ⟨b, _ | ⟨c, _ | ⟨d, _ | ⟨f, as⟩⟩⟩⟩⟩ <;> cases n <;> first | (exact absurd rfl e) | (simp (decide := true) [rowB1]; done)
end
theorem lrow_any {F : Frm} (o : F.ok) (h : Bx) : ∀ n : Nat,
    (∀ d : D, d.wd 1000 = true → d.dep < n → F__law_due n [F.d, d] h = .ok (dueD (rowB F (n - 1)) d) h) ∧
    (∀ d : D, d.wd 1000 = true → d.dep < n → F__law_is_row n [F.d, d] h = .ok (.bl (rowB F n d)) h)
  | 0 => ⟨fun _ _ z => absurd z (Nat.not_lt_zero _), fun _ _ z => absurd z (Nat.not_lt_zero _)⟩
  | n + 1 => by
    obtain ⟨ih1, ih2⟩ := lrow_any o h n
    refine ⟨fun d a c => ldue_of a fun x hx hd => ih2 x hx (by omega), fun d a c => ?_⟩
    have st : ∀ d : D, startD N__law_is_row.length [F.d, d] = [.v F.d, .v d] := fun _ => rfl
    rw [F__law_is_row, runF_ap, sf__law_is_row_eq, p_lis_row, st]
    cases d with
    | tup ds =>
      obtain ⟨a1, a2⟩ := wd_tup a
      rw [dep_tup] at c
      cases ds with
      | nil => rw [seq_rt (d := .bl false) (h' := h) (by simp (decide := true) [p_lis_row_1])]; simp [rowB]
      | cons x as =>
        have hx := wd_mem a2 (List.mem_cons_self ..)
        have sx := wd_isV hx
        have px := wd_pure x hx
        have aw : D.wds 1000 as = true := by simp only [D.wds, Bool.and_eq_true] at a2; exact a2.2
        have pas := wds_pures as aw
        have adp : D.deps as < n := by rw [deps_cons] at c; omega
        have am : ∀ {y : D}, y ∈ as → y.wd 1000 = true ∧ y.dep < n := fun hy => ⟨wd_mem aw hy, by have := dep_mem hy; omega⟩
        have hn : 0 < n := by omega
        by_cases hs : ∃ s, x = .str s
        · obtain ⟨s, rfl⟩ := hs
          have body : ∀ k, Nm s k → (seqS (p_lis_row_1 (F__law_is_row n) (F__law_due n)) (seqS (p_lis_row_2 (F__law_is_row n) (F__law_due n)) (seqS (p_lis_row_3 (F__law_is_row n) (F__law_due n)) (seqS (p_lis_row_4 (F__law_is_row n) (F__law_due n)) (seqS (p_lis_row_5 (F__law_is_row n) (F__law_due n)) (p_lis_row_6 (F__law_is_row n) (F__law_due n)))))) [.v F.d, .v (.tup (.str s :: as))] h).fin = .ok (.bl (rowB F (n + 1) (.tup (.str s :: as)))) h := fun k nm => by
            rw [seq_nx (lr1 nm pas)]
            have rb : rowB F (n + 1) (.tup (.str s :: as)) = rowB1 F (areB F n) s as := rfl
            rw [rb]
            by_cases e : (as.length : Int) + 1 = k
            · rw [seq_nx (lr2 nm pas e)]
              cases nm with
              | op =>
                have hl : as.length = 4 := by omega
                match as, hl with
                | [t1, a1, b1, c1], _ =>
                  have b := lbelow_any (am (y := t1) (by simp)).1 F.tables.length h
                  have cw : D.wd 1000 (.tup [a1, b1, c1]) = true := by simp only [D.wd, D.wds, Bool.and_eq_true] at aw ⊢; exact ⟨by simp, aw.2⟩
                  have cm := larebelow_any (Nat.le_refl 1000) cw 3 F.regs h
                  have cm : F__law_are_below [.tup [a1, b1, c1], .int 3, .int F.regs] h = _ := cm
                  have v1 := wd_isV (am (y := t1) (by simp)).1
                  by_cases hb : belowB t1 F.tables.length = true <;> simp (decide := true) [p_lis_row_3, Frm.d, b, v1, hb, cm, rowB1, arebB]
              | load =>
                have hl : as.length = 2 := by omega
                match as, hl with
                | [a1, b1], _ =>
                  have cw : D.wd 1000 (.tup [a1, b1]) = true := by simp only [D.wd, D.wds, Bool.and_eq_true] at aw ⊢; exact ⟨by simp, aw⟩
                  have cm := larebelow_any (Nat.le_refl 1000) cw 2 F.regs h
                  have cm : F__law_are_below [.tup [a1, b1], .int 2, .int F.regs] h = _ := cm
                  by_cases hz : 0 < F.cells <;> simp (decide := true) [p_lis_row_3, p_lis_row_4, Frm.d, cm, rowB1, arebB, hz]
              | store =>
                have hl : as.length = 2 := by omega
                match as, hl with
                | [a1, b1], _ =>
                  have cw : D.wd 1000 (.tup [a1, b1]) = true := by simp only [D.wd, D.wds, Bool.and_eq_true] at aw ⊢; exact ⟨by simp, aw⟩
                  have cm := larebelow_any (Nat.le_refl 1000) cw 2 F.regs h
                  have cm : F__law_are_below [.tup [a1, b1], .int 2, .int F.regs] h = _ := cm
                  by_cases hz : 0 < F.cells <;> simp (decide := true) [p_lis_row_3, p_lis_row_4, Frm.d, cm, rowB1, arebB, hz]
              | fence =>
                have hl : as.length = 0 := by omega
                match as, hl with
                | [], _ => simp (decide := true) [p_lis_row_3, p_lis_row_4, p_lis_row_5, p_lis_row_6, rowB1]
              | fork =>
                have hl : as.length = 3 := by omega
                match as, hl with
                | [a1, x, y], _ =>
                  have b := lbelow_any (am (y := a1) (by simp)).1 F.regs h
                  have v1 := wd_isV (am (y := a1) (by simp)).1
                  have v2 := wd_isV (am (y := x) (by simp)).1
                  have v3 := wd_isV (am (y := y) (by simp)).1
                  have e1 := ih1 x (am (y := x) (by simp)).1 (am (y := x) (by simp)).2
                  have e2 := ih1 y (am (y := y) (by simp)).1 (am (y := y) (by simp)).2
                  have n1 := isNon_due (F := F) hn (am (y := x) (by simp)).1
                  have n2 := isNon_due (F := F) hn (am (y := y) (by simp)).1
                  rw [Frm.d] at e1 e2
                  by_cases hb : belowB a1 F.regs = true <;> by_cases hc : areB F n x = true <;> by_cases hz : areB F n y = true <;> simp (decide := true) [p_lis_row_3, p_lis_row_4, p_lis_row_5, Frm.d, b, v1, v2, v3, e1, e2, n1, n2, rowB1, hb, hc, hz]
              | loop =>
                have hl : as.length = 2 := by omega
                match as, hl with
                | [a1, x], _ =>
                  have b := lbelow_any (am (y := a1) (by simp)).1 5 h
                  have b : F__law_is_below [a1, .int 5] h = .ok (.bl (belowB a1 5)) h := b
                  have v1 := wd_isV (am (y := a1) (by simp)).1
                  have v2 := wd_isV (am (y := x) (by simp)).1
                  have e1 := ih1 x (am (y := x) (by simp)).1 (am (y := x) (by simp)).2
                  have n1 := isNon_due (F := F) hn (am (y := x) (by simp)).1
                  rw [Frm.d] at e1
                  by_cases hb : belowB a1 5 = true <;> by_cases hc : areB F n x = true <;> simp (decide := true) [p_lis_row_3, p_lis_row_4, p_lis_row_5, p_lis_row_6, Frm.d, b, v1, v2, e1, n1, rowB1, hb, hc]
            · rw [seq_rt (lr2_no nm pas e), rowB1_len nm e]
              rfl
          rcases sizes s with ⟨rfl, t⟩ | ⟨rfl, t⟩ | ⟨rfl, t⟩ | ⟨rfl, t⟩ | ⟨rfl, t⟩ | ⟨rfl, t⟩ | ⟨⟨z1, z2, z3, z4, z5, z6⟩, t⟩
          · exact body _ .op
          · exact body _ .load
          · exact body _ .store
          · exact body _ .fence
          · exact body _ .fork
          · exact body _ .loop
          · have e : rowB F (n + 1) (.tup (.str s :: as)) = false := by
              show rowB1 F (areB F n) s as = false
              simp (decide := true) [rowB1, z1, z2, z3, z4, z5, z6]
            rw [e, seq_rt (d := .bl false) (h' := h) (by simp (decide := true) [p_lis_row_1, pas, Ne.symm z1, Ne.symm z2, Ne.symm z3, Ne.symm z4, Ne.symm z5, Ne.symm z6])]
            rfl
        · have hs' : ∀ s, x ≠ .str s := fun s e => hs ⟨s, e⟩
          have e : rowB F (n + 1) (.tup (x :: as)) = false := by
            cases x <;> first | (exact absurd rfl (hs' _)) | rfl
          rw [e, seq_rt (d := .bl false) (h' := h) (by simp (decide := true) [p_lis_row_1, px, pas, vw_wd hx, eq_str_no hx hs'])]
          rfl
    | _ => first | (cases a; done) | (rw [seq_rt (d := .bl false) (h' := h) (by simp (decide := true) [p_lis_row_1])]; simp [rowB])
end LP
/-! K06i: any data looked at as a program. -/
namespace LP
open PySem PySem.Spec PyProof.Rows L2 HT
theorem rowB1_ext {F : Frm} {A A' : D → Bool} {s : Str} {as : List D} (h : ∀ x ∈ as, A x = A' x) : rowB1 F A s as = rowB1 F A' s as := by
  unfold rowB1
  split
  · rcases as with _ | ⟨a, _ | ⟨b, _ | ⟨c, as⟩⟩⟩ <;> first | rfl | simp only [h b (by simp)]
  split
  · rcases as with _ | ⟨a, _ | ⟨b, _ | ⟨c, _ | ⟨d, as⟩⟩⟩⟩ <;> first | rfl | simp only [h b (by simp), h c (by simp)]
  rfl
theorem rowB_stable {F : Frm} : ∀ n : Nat, (∀ d : D, d.dep < n → areB F (n + 1) d = areB F n d) ∧ (∀ d : D, d.dep < n → rowB F (n + 1) d = rowB F n d)
  | 0 => ⟨fun _ h => absurd h (Nat.not_lt_zero _), fun _ h => absurd h (Nat.not_lt_zero _)⟩
  | n + 1 => by
    obtain ⟨ih1, ih2⟩ := rowB_stable (F := F) n
    refine ⟨fun d hd => ?_, fun d hd => ?_⟩
    · cases d with
      | tup ds =>
        rw [dep_tup] at hd
        show ds.all (rowB F (n + 1)) = ds.all (rowB F n)
        have : ∀ x ∈ ds, rowB F (n + 1) x = rowB F n x := fun x hx => ih2 x (by have := dep_mem hx; omega)
        rw [Bool.eq_iff_iff, List.all_eq_true, List.all_eq_true]
        exact ⟨fun h x hx => (this x hx) ▸ h x hx, fun h x hx => (this x hx).symm ▸ h x hx⟩
      | _ => rfl
    · cases d with
      | tup ds =>
        rw [dep_tup] at hd
        cases ds with
        | nil => rfl
        | cons x as =>
          cases x with
          | str s =>
            show rowB1 F (areB F (n + 1)) s as = rowB1 F (areB F n) s as
            rw [deps_cons] at hd
            exact rowB1_ext fun x hx => ih1 x (by have := dep_mem hx; omega)
          | _ => rfl
      | _ => rfl
theorem dueD_ext {B B' : D → Bool} {ds : List D} (h : ∀ x ∈ ds, B x = B' x) : dueD B (.tup ds) = dueD B' (.tup ds) := by
  rw [dueD, dueD]
  have : (List.range ds.length).find? (fun i => !B (ds.getD i .non)) = (List.range ds.length).find? (fun i => !B' (ds.getD i .non)) := by
    have key : ∀ l : List Nat, (∀ i ∈ l, i < ds.length) → l.find? (fun i => !B (ds.getD i .non)) = l.find? (fun i => !B' (ds.getD i .non)) := fun l => by
      induction l with
      | nil => exact fun _ => rfl
      | cons i l ih =>
        intro hl
        have hi := hl i (List.mem_cons_self ..)
        have gi : ds.getD i .non = ds[i] := by rw [List.getD_eq_getElem?_getD, List.getElem?_eq_getElem hi]; rfl
        rw [List.find?_cons, List.find?_cons, gi, h _ (List.getElem_mem hi), ih fun j hj => hl j (List.mem_cons_of_mem _ hj)]
    exact key _ fun i hi => List.mem_range.mp hi
  rw [this]
theorem due_stable {F : Frm} {n : Nat} {d : D} (h : d.dep ≤ n) : dueD (rowB F (n + 1)) d = dueD (rowB F n) d := by
  cases d with
  | tup ds =>
    rw [dep_tup] at h
    exact dueD_ext fun x hx => (rowB_stable n).2 x (by have := dep_mem hx; omega)
  | _ => rfl
/-- let by, or told what is wrong -/
def toldX (c : Str) (due d : D) (h : Bx) : R D := match due with
  | .non => .ok d h
  | x => .exc c [("at", x)] h
theorem toldX_int {c : Str} {i : Int} {d : D} {h : Bx} : toldX c (.int i) d h = .exc c [("at", .int i)] h := rfl
theorem np_any {F : Frm} (o : F.ok) {d : D} (a : d.wd 1000 = true) (c : d.dep ≤ 11) (h : Bx) : F_need_program [F.d, d] h = toldX "InvalidProgram" (dueD (rowB F 12) d) d h := by
  have e := frame_ok o h
  cases d with
  | tup ds =>
    obtain ⟨a1, a2⟩ := wd_tup a
    rw [dep_tup] at c
    have loop : ∀ (is : List Nat) (δ : DE), (∀ i ∈ is, i < ds.length) → δ[0]? = some (.v F.d) → δ[1]? = some (.v (.tup ds)) → δ.length = 4 →
        ∃ δ' : DE, forF (tupU 2 (consU (nameU 2) (consU (nameU 3) nilU))) (ifS (notT (testF (callF (nArgs 2 (F_is_row rf)) (consA (varF 0) (consA (varF 3) nilA))))) (raiseS "InvalidProgram" "at" (varF 2)) (fun δ h => .nx δ h)) (is.map fun i => .tup [.int (i : Nat), ds.getD i .non]) δ h
          = (match is.find? (fun i => !rowB F 12 (ds.getD i .non)) with | none => .nx δ' h | some i => .exc "InvalidProgram" [("at", .int (i : Nat))] δ' h) ∧ δ'[1]? = some (.v (.tup ds)) := fun is => by
      induction is with
      | nil => exact fun δ _ _ e1 _ => ⟨δ, rfl, e1⟩
      | cons i is ih =>
        intro δ hi e0 e1 hl
        have hlt := hi i (List.mem_cons_self ..)
        have gi : ds.getD i .non = ds[i] := by rw [List.getD_eq_getElem?_getD, List.getElem?_eq_getElem hlt]; rfl
        have hm := List.getElem_mem hlt
        have hv := wd_mem a2 hm
        have q := (row_any o h rf).2 ds[i] hv (by have := dep_mem hm; show _ < 12; omega)
        have f0 : ((δ.set 2 (.v (.int (i : Nat)))).set 3 (.v ds[i]))[0]? = some (.v F.d) := by rw [List.getElem?_set_ne (by omega), List.getElem?_set_ne (by omega)]; exact e0
        have f1 : ((δ.set 2 (.v (.int (i : Nat)))).set 3 (.v ds[i]))[1]? = some (.v (.tup ds)) := by rw [List.getElem?_set_ne (by omega), List.getElem?_set_ne (by omega)]; exact e1
        have f2 : ((δ.set 2 (.v (.int (i : Nat)))).set 3 (.v ds[i]))[2]? = some (.v (.int (i : Nat))) := by rw [List.getElem?_set_ne (by omega), List.getElem?_set_self (by omega)]
        have f3 : ((δ.set 2 (.v (.int (i : Nat)))).set 3 (.v ds[i]))[3]? = some (.v ds[i]) := by rw [List.getElem?_set_self (by rw [List.length_set]; omega)]
        rw [List.map_cons, List.find?_cons, gi]
        have q : F_is_row rf [F.d, ds[i]] h = .ok (.bl (rowB F 12 ds[i])) h := q
        cases hb : rowB F 12 ds[i] with
        | true =>
          rw [hb] at q
          obtain ⟨δ', g1, g2⟩ := ih _ (fun j hj => hi j (List.mem_cons_of_mem _ hj)) f0 f1 (by simp [hl])
          refine ⟨δ', ?_, g2⟩
          rw [forF_nx (δ1 := (δ.set 2 (.v (.int (i : Nat)))).set 3 (.v ds[i])) (by simp) (δ2 := (δ.set 2 (.v (.int (i : Nat)))).set 3 (.v ds[i])) (h2 := h)]
          · exact g1
          · simp [f0, f3, q, wd_isV hv]
        | false =>
          rw [hb] at q
          refine ⟨(δ.set 2 (.v (.int (i : Nat)))).set 3 (.v ds[i]), ?_, f1⟩
          have u : (tupU 2 (consU (nameU 2) (consU (nameU 3) nilU))) (.tup [.int (i : Nat), ds[i]]) δ = some ((δ.set 2 (.v (.int (i : Nat)))).set 3 (.v ds[i])) := by simp
          unfold forF
          rw [u]
          simp [f0, f2, f3, q, wd_isV hv]
    obtain ⟨δ', g1, g2⟩ := loop (List.range ds.length) [.v F.d, .v (.tup ds), .no, .no] (fun i hi => List.mem_range.mp hi) rfl rfl rfl
    have en : enumD ds = (List.range ds.length).map fun i => .tup [.int (i : Nat), ds.getD i .non] := rfl
    rw [dueD]
    cases z : (List.range ds.length).find? (fun i => !rowB F 12 (ds.getD i .non)) with
    | none =>
      rw [z] at g1
      simp only at g1
      simp [F_need_program, runF_ap, sf_need_program, startD, e, -List.getD_eq_getElem?_getD]
      rw [en, g1]
      simp [g2, toldX]
    | some i =>
      rw [z] at g1
      simp only at g1
      simp [F_need_program, runF_ap, sf_need_program, startD, e, -List.getD_eq_getElem?_getD]
      rw [en, g1]
      rfl
  | _ => first | (cases a; done) | simp (decide := true) [F_need_program, runF_ap, sf_need_program, startD, e, dueD, toldX]
end LP
/-! K06j: any data looked at as a frame, as a datum. -/
namespace LP
open PySem PySem.Spec PyProof.Rows L2 HT
def A0 (a : D) : Bool := match a with
  | .int s => decide (2 ≤ s) && decide (s ≤ 3)
  | _ => false
def A1 (b : D) : Bool := match b with
  | .int s => decide (1 ≤ s) && decide (s ≤ 4)
  | _ => false
def A2 (s : Nat) (c : D) : Bool := match c with
  | .int k => decide (k = 0) || decide (k = s)
  | _ => false
def A3 (s : Nat) (t : D) : Bool := match t with
  | .tup ts => decide (ts.length ≤ 4) && ts.all fun x => arebB x (s * s) s
  | _ => false
def sizeN (a : D) : Nat := match a with
  | .int s => s.toNat
  | _ => 0
def frameD : D → D
  | .tup [a, b, c, t, e] => if A0 a = true then (if A1 b = true then (if A2 (sizeN a) c = true then (if A3 (sizeN a) t = true then (if belowB e 4 = true then .non else .int 4) else .int 3) else .int 2) else .int 1) else .int 0
  | _ => .int (-1)
theorem A0_of {a : D} (h : A0 a = true) : ∃ s : Nat, a = .int s ∧ (s = 2 ∨ s = 3) := by
  cases a with
  | int s =>
    simp only [A0, Bool.and_eq_true, decide_eq_true_eq] at h
    exact ⟨s.toNat, by congr 1; omega, by omega⟩
  | _ => cases h
theorem table_any {w : Nat} (hw : w ≤ 1000) {s : Nat} (s3 : s = 2 ∨ s = 3) {x : D} (hx : x.wd w = true) (h : Bx) : F_is_table [.int s, x] h = .ok (.bl (arebB x (s * s) s)) h := by
  cases x with
  | tup ds =>
    have hx' := wd_tup hx
    have c := belows_any (w := w) (δ := [.v (.int s), .v (.tup ds), .no]) (i := 2) (ds := ds) (m := s) h hx'.2 (f := varF 0) (by simp) (fun v => by simp)
    have z : ds.length ≤ 1000000 := by omega
    by_cases e : ds.length = s * s
    · have e' : (ds.length : Int) = s * s := by rw [e]; exact Int.natCast_mul ..
      rcases s3 with rfl | rfl <;> simp (decide := true) at e' c <;> simp (decide := true) [F_is_table, runF_ap, sf_is_table, startD, z, c, blsM, all_id, arebB, e', e]
    · have e' : ¬ (ds.length : Int) = s * s := by rw [← Int.natCast_mul]; omega
      rcases s3 with rfl | rfl <;> simp (decide := true) at e' e <;> simp (decide := true) [F_is_table, runF_ap, sf_is_table, startD, arebB, e', e]
  | _ => first | (cases hx; done) | (rcases s3 with rfl | rfl <;> simp (decide := true) [F_is_table, runF_ap, sf_is_table, startD, arebB])
section
variable {V a b c t e : D} {h : Bx}
theorem nf3 (ha : a.wd 1000 = true) : p_need_frame_3 [.v V, .v a, .v b, .v c, .v t, .v e, .no] h = if A0 a = true then .nx [.v V, .v a, .v b, .v c, .v t, .v e, .no] h else .exc "InvalidFrame" [("at", .int 0)] [.v V, .v a, .v b, .v c, .v t, .v e, .no] h := by
  have q := isint_any ha h
  have v := wd_isV ha
  cases a with
  | int s =>
    simp only at q
    by_cases h1 : 2 ≤ s <;> by_cases h2 : s ≤ 3 <;> simp (decide := true) [p_need_frame_3, A0, q, h1, h2]
  | _ => first | (cases ha; done) | (simp only at q; simp (decide := true) [p_need_frame_3, A0, q])
theorem nf4 (hb : b.wd 1000 = true) : p_need_frame_4 [.v V, .v a, .v b, .v c, .v t, .v e, .no] h = if A1 b = true then .nx [.v V, .v a, .v b, .v c, .v t, .v e, .no] h else .exc "InvalidFrame" [("at", .int 1)] [.v V, .v a, .v b, .v c, .v t, .v e, .no] h := by
  have q := isint_any hb h
  have v := wd_isV hb
  cases b with
  | int s =>
    simp only at q
    by_cases h1 : 1 ≤ s <;> by_cases h2 : s ≤ 4 <;> simp (decide := true) [p_need_frame_4, A1, q, h1, h2]
  | _ => first | (cases hb; done) | (simp only at q; simp (decide := true) [p_need_frame_4, A1, q])
theorem nf5 {s : Nat} (hc : c.wd 1000 = true) : p_need_frame_5 [.v V, .v (.int s), .v b, .v c, .v t, .v e, .no] h = if A2 s c = true then .nx [.v V, .v (.int s), .v b, .v c, .v t, .v e, .no] h else .exc "InvalidFrame" [("at", .int 2)] [.v V, .v (.int s), .v b, .v c, .v t, .v e, .no] h := by
  have q := isint_any hc h
  have qi := fun k => isint_any (w := 1000) (x := .int k) rfl h
  have v := wd_isV hc
  cases c with
  | int k =>
    simp only at q qi
    by_cases h1 : k = 0 <;> by_cases h2 : k = s <;> simp (decide := true) [p_need_frame_5, A2, qi, h1, h2]
  | _ => first | (cases hc; done) | (simp only at q; simp (decide := true) [p_need_frame_5, A2, q])
theorem nf6 {s : Nat} (s3 : s = 2 ∨ s = 3) (ht : t.wd 1000 = true) : p_need_frame_6 [.v V, .v (.int s), .v b, .v c, .v t, .v e, .no] h = if A3 s t = true then .nx [.v V, .v (.int s), .v b, .v c, .v t, .v e, .no] h else .exc "InvalidFrame" [("at", .int 3)] [.v V, .v (.int s), .v b, .v c, .v t, .v e, .no] h := by
  cases t with
  | tup ts =>
    obtain ⟨t1, t2⟩ := wd_tup ht
    have cm : compF (nameU 6) yesF (callF (nArgs 2 F_is_table) (consA (varF 1) (consA (varF 6) nilA))) [.v V, .v (.int s), .v b, .v c, .v (.tup ts), .v e, .no] ts h = .ok (ts.map fun x => .bl (arebB x (s * s) s)) h := by
      refine compF_map fun d hd => ⟨_, rfl, ?_, rfl⟩
      have hv := wd_mem t2 hd
      simp [wd_isV hv]
      exact table_any (Nat.le_refl _) s3 hv h
    have z : ts.length ≤ 1000000 := by omega
    by_cases h1 : ts.length ≤ 4
    · have h1' : ¬ (4 : Int) < ts.length := by omega
      cases h2 : ts.all fun x => arebB x (s * s) s with
      | true => simp (decide := true) [p_need_frame_6, A3, z, h1, h1', cm, blsM, all_id, h2]
      | false => simp (decide := true) [p_need_frame_6, A3, z, h1, h1', cm, blsM, all_id, h2]
    · have h1' : (4 : Int) < ts.length := by omega
      simp (decide := true) [p_need_frame_6, A3, h1, h1']
  | _ => first | (cases ht; done) | simp (decide := true) [p_need_frame_6, A3]
theorem nf7 (he : e.wd 1000 = true) : p_need_frame_7 [.v V, .v a, .v b, .v c, .v t, .v e, .no] h = if belowB e 4 = true then .nx [.v V, .v a, .v b, .v c, .v t, .v e, .no] h else .exc "InvalidFrame" [("at", .int 4)] [.v V, .v a, .v b, .v c, .v t, .v e, .no] h := by
  have q := below_any he 4 h
  have q : F_is_below [e, .int 4] h = .ok (.bl (belowB e 4)) h := q
  have v := wd_isV he
  by_cases hb : belowB e 4 = true <;> simp (decide := true) [p_need_frame_7, q, v, hb]
end
theorem nf_any {d : D} (w : d.wd 1000 = true) (h : Bx) : F_need_frame [d] h = toldX "InvalidFrame" (frameD d) d h := by
  have st : startD N_need_frame.length [d] = [.v d, .no, .no, .no, .no, .no, .no] := rfl
  rw [F_need_frame, runF_ap, sf_need_frame_eq, p_need_frame, st]
  by_cases hl : ∃ a b c t e, d = .tup [a, b, c, t, e]
  · obtain ⟨a, b, c, t, e, rfl⟩ := hl
    obtain ⟨w1, w2⟩ := wd_tup w
    have ha := wd_mem w2 (d := a) (by simp)
    have hb := wd_mem w2 (d := b) (by simp)
    have hc := wd_mem w2 (d := c) (by simp)
    have ht := wd_mem w2 (d := t) (by simp)
    have he := wd_mem w2 (d := e) (by simp)
    rw [seq_nx (δ' := [.v (.tup [a, b, c, t, e]), .no, .no, .no, .no, .no, .no]) (h' := h) (by simp (decide := true) [p_need_frame_1])]
    rw [seq_nx (δ' := [.v (.tup [a, b, c, t, e]), .v a, .v b, .v c, .v t, .v e, .no]) (h' := h) (by simp (decide := true) [p_need_frame_2])]
    have e3 := nf3 (V := .tup [a, b, c, t, e]) (b := b) (c := c) (t := t) (e := e) (h := h) ha
    have e4 := nf4 (V := .tup [a, b, c, t, e]) (a := a) (c := c) (t := t) (e := e) (h := h) hb
    have e7 := nf7 (V := .tup [a, b, c, t, e]) (a := a) (b := b) (c := c) (t := t) (h := h) he
    cases x0 : A0 a with
    | false =>
      rw [x0, if_neg (by simp)] at e3
      rw [seq_exc e3, frameD, x0]; rfl
    | true =>
      rw [x0, if_pos rfl] at e3
      rw [seq_nx e3]
      obtain ⟨s, rfl, s3⟩ := A0_of x0
      have sn : sizeN (.int (s : Int)) = s := by show (s : Int).toNat = s; omega
      cases x1 : A1 b with
      | false =>
        rw [x1, if_neg (by simp)] at e4
        rw [seq_exc e4, frameD, x0, x1]; rfl
      | true =>
        rw [x1, if_pos rfl] at e4
        rw [seq_nx e4]
        have e5 := nf5 (V := .tup [.int s, b, c, t, e]) (b := b) (t := t) (e := e) (s := s) (h := h) hc
        have e6 := nf6 (V := .tup [.int s, b, c, t, e]) (b := b) (c := c) (e := e) (h := h) s3 ht
        cases x2 : A2 s c with
        | false =>
          rw [x2, if_neg (by simp)] at e5
          rw [seq_exc e5, frameD, x0, x1, sn, x2]; rfl
        | true =>
          rw [x2, if_pos rfl] at e5
          rw [seq_nx e5]
          cases x3 : A3 s t with
          | false =>
            rw [x3, if_neg (by simp)] at e6
            rw [seq_exc e6, frameD, x0, x1, sn, x2, x3]; rfl
          | true =>
            rw [x3, if_pos rfl] at e6
            rw [seq_nx e6]
            cases x4 : belowB e 4 with
            | false =>
              rw [x4, if_neg (by simp)] at e7
              rw [seq_exc e7, frameD, x0, x1, sn, x2, x3, x4]; rfl
            | true =>
              rw [x4, if_pos rfl] at e7
              rw [seq_nx e7, frameD, x0, x1, sn, x2, x3, x4]
              simp (decide := true) [p_need_frame_8, toldX]
  · have e : frameD d = .int (-1) := by
      cases d with
      | tup ds =>
        rcases ds with _ | ⟨a, _ | ⟨b, _ | ⟨c, _ | ⟨t, _ | ⟨e, _ | ⟨f, as⟩⟩⟩⟩⟩⟩ <;> first | rfl | exact absurd ⟨_, _, _, _, _, rfl⟩ hl
      | _ => rfl
    rw [e, toldX_int]
    have p1 : p_need_frame_1 [.v d, .no, .no, .no, .no, .no, .no] h = .exc "InvalidFrame" [("at", .int (-1))] [.v d, .no, .no, .no, .no, .no, .no] h := by
      cases d with
      | tup ds =>
        have hn : ¬ (ds.length : Int) = 5 := fun z => by
          rcases ds with _ | ⟨a, _ | ⟨b, _ | ⟨c, _ | ⟨t, _ | ⟨e, _ | ⟨f, as⟩⟩⟩⟩⟩⟩ <;> first | exact absurd ⟨_, _, _, _, _, rfl⟩ hl | (simp at z; done) | (simp at z; omega)
        simp (decide := true) [p_need_frame_1, hn]
      | _ => first | (cases w; done) | simp (decide := true) [p_need_frame_1]
    rw [seq_exc p1]
    rfl
end LP
/-! K06k: frames by the law; data. -/
namespace LP
open PySem PySem.Spec PyProof.Rows L2 HT
section
variable {a b c t e : D} {h : Bx}
theorem lf2 (ha : a.wd 1000 = true) : p_lframe_due_2 [.v (.tup [a, b, c, t, e]), .no] h = if A0 a = true then .nx [.v (.tup [a, b, c, t, e]), .no] h else .rt (.int 0) h := by
  have q := lbelow_any ha 4 h
  have q : F__law_is_below [a, .int 4] h = .ok (.bl (belowB a 4)) h := q
  have v := wd_isV ha
  cases a with
  | int s =>
    by_cases h1 : 2 ≤ s <;> by_cases h2 : s ≤ 3
    · have z1 : 0 ≤ s := by omega
      have z2 : s < 4 := by omega
      have z3 : ¬ s < 2 := by omega
      simp (decide := true) [p_lframe_due_2, A0, q, v, h1, h2, z1, z2, z3]
    · have z2 : ¬ s < 4 := by omega
      simp (decide := true) [p_lframe_due_2, A0, q, v, h1, h2, z2]
    · have z3 : s < 2 := by omega
      by_cases z1 : 0 ≤ s
      · have z2 : s < 4 := by omega
        simp (decide := true) [p_lframe_due_2, A0, q, v, h1, h2, z1, z2, z3]
      · simp (decide := true) [p_lframe_due_2, A0, q, v, h1, h2, z1]
    · omega
  | _ => first | (cases ha; done) | simp (decide := true) [p_lframe_due_2, A0, q, v]
theorem lf3 (hb : b.wd 1000 = true) : p_lframe_due_3 [.v (.tup [a, b, c, t, e]), .no] h = if A1 b = true then .nx [.v (.tup [a, b, c, t, e]), .no] h else .rt (.int 1) h := by
  have q := lbelow_any hb 5 h
  have q : F__law_is_below [b, .int 5] h = .ok (.bl (belowB b 5)) h := q
  have v := wd_isV hb
  cases b with
  | int s =>
    by_cases h0 : s = 0
    · subst h0
      simp (decide := true) [p_lframe_due_3, A1, q, v]
    by_cases h1 : 1 ≤ s <;> by_cases h2 : s ≤ 4
    · have z1 : 0 ≤ s := by omega
      have z2 : s < 5 := by omega
      simp (decide := true) [p_lframe_due_3, A1, q, v, h0, h1, h2, z1, z2]
    · have z2 : ¬ s < 5 := by omega
      simp (decide := true) [p_lframe_due_3, A1, q, v, h0, h1, h2, z2]
    · have z1 : ¬ 0 ≤ s := by omega
      simp (decide := true) [p_lframe_due_3, A1, q, v, h0, h1, h2, z1]
    · omega
  | _ => first | (cases hb; done) | simp (decide := true) [p_lframe_due_3, A1, q, v]
theorem lf4 {s : Nat} (s3 : s = 2 ∨ s = 3) (hc : c.wd 1000 = true) : p_lframe_due_4 [.v (.tup [.int s, b, c, t, e]), .no] h = if A2 s c = true then .nx [.v (.tup [.int s, b, c, t, e]), .no] h else .rt (.int 2) h := by
  have q := fun x hx => lbelow_any (w := 1000) (x := x) hx 4 h
  have q : ∀ x : D, x.wd 1000 = true → F__law_is_below [x, .int 4] h = .ok (.bl (belowB x 4)) h := q
  have v := wd_isV hc
  cases c with
  | int k =>
    have qi := fun k : Int => q (.int k) rfl
    by_cases h1 : k = 0
    · subst h1
      rcases s3 with rfl | rfl <;> simp (decide := true) [p_lframe_due_4, A2, qi]
    by_cases h2 : k = s
    · subst h2
      rcases s3 with rfl | rfl <;> simp (decide := true) [p_lframe_due_4, A2, qi]
    · have h1' : ¬ (0 : Int) = k := fun z => h1 z.symm
      have h2' : ¬ (s : Int) = k := fun z => h2 z.symm
      by_cases h3 : 0 ≤ k <;> by_cases h4 : k < 4 <;> simp (decide := true) [p_lframe_due_4, A2, qi, h1, h2, h1', h2', h3, h4]
  | _ => first | (cases hc; done) | (have q := q _ hc; simp (decide := true) [p_lframe_due_4, A2, q, v])
theorem lf5 {s : Nat} (s3 : s = 2 ∨ s = 3) (ht : t.wd 1000 = true) : p_lframe_due_5 [.v (.tup [.int s, b, c, t, e]), .no] h = if A3 s t = true then .nx [.v (.tup [.int s, b, c, t, e]), .no] h else .rt (.int 3) h := by
  cases t with
  | tup ts =>
    obtain ⟨t1, t2⟩ := wd_tup ht
    have cm : compF (nameU 1) (notT (testF (callF (nArgs 3 F__law_are_below) (consA (varF 1) (consA (bin2 powK (bin2 ixK (varF 0) (cF (.int 0))) (cF (.int 2))) (consA (bin2 ixK (varF 0) (cF (.int 0))) nilA)))))) (varF 1) [.v (.tup [.int s, b, c, .tup ts, e]), .no] ts h = .ok (ts.filter fun x => !arebB x (s * s) s) h := by
      have := compF_filter (u := nameU 1) (tf := notT (testF (callF (nArgs 3 F__law_are_below) (consA (varF 1) (consA (bin2 powK (bin2 ixK (varF 0) (cF (.int 0))) (cF (.int 2))) (consA (bin2 ixK (varF 0) (cF (.int 0))) nilA)))))) (ef := varF 1) (δ := [.v (.tup [.int s, b, c, .tup ts, e]), .no]) (h := h) (g := id) (p := fun x => !arebB x (s * s) s) (ds := ts) fun d hd => by
        have hv := wd_mem t2 hd
        have q := larebelow_any (Nat.le_refl 1000) hv (s * s) s h
        refine ⟨[.v (.tup [.int s, b, c, .tup ts, e]), .v d], rfl, ?_, fun _ => ⟨by simp, wd_isV hv⟩⟩
        rcases s3 with rfl | rfl <;> simp (decide := true) at q <;> simp (decide := true) [wd_isV hv, q]
      rw [List.map_id] at this
      exact this
    have z : ts.length ≤ 1000000 := by omega
    have pu := wds_pures _ (wds_filter (g := fun d => !arebB d (s * s) s) t2)
    by_cases h1 : ts.length ≤ 4
    · have h1' : ¬ (4 : Int) < ts.length := by omega
      have q : (ts.filter fun d => !arebB d (s * s) s).isEmpty = ts.all fun d => arebB d (s * s) s := by
        by_cases a : (ts.all fun d => arebB d (s * s) s) = true
        · rw [a, filter_no.mpr a]; rfl
        · have b : ¬ (ts.filter fun d => !arebB d (s * s) s) = [] := fun z => a (filter_no.mp z)
          have a' : (ts.all fun d => arebB d (s * s) s) = false := by simpa using a
          rw [a']
          simpa using b
      cases h2 : ts.all fun x => arebB x (s * s) s with
      | true => simp (decide := true) [p_lframe_due_5, A3, z, h1, h1', cm, pu, eqs_nil_r, q, h2]
      | false => simp (decide := true) [p_lframe_due_5, A3, z, h1, h1', cm, pu, eqs_nil_r, q, h2]
    · have h1' : (4 : Int) < ts.length := by omega
      simp (decide := true) [p_lframe_due_5, A3, h1, h1']
  | _ => first | (cases ht; done) | simp (decide := true) [p_lframe_due_5, A3]
theorem lf6 (he : e.wd 1000 = true) : p_lframe_due_6 [.v (.tup [a, b, c, t, e]), .no] h = .rt (if belowB e 4 = true then .non else .int 4) h := by
  have q := lbelow_any he 4 h
  have q : F__law_is_below [e, .int 4] h = .ok (.bl (belowB e 4)) h := q
  have v := wd_isV he
  by_cases hb : belowB e 4 = true <;> simp (decide := true) [p_lframe_due_6, q, v, hb]
end
theorem lf_any {d : D} (w : d.wd 1000 = true) (h : Bx) : F__law_frame_due [d] h = .ok (frameD d) h := by
  have st : startD N__law_frame_due.length [d] = [.v d, .no] := rfl
  rw [F__law_frame_due, runF_ap, sf__law_frame_due_eq, p_lframe_due, st]
  by_cases hl : ∃ a b c t e, d = .tup [a, b, c, t, e]
  · obtain ⟨a, b, c, t, e, rfl⟩ := hl
    obtain ⟨w1, w2⟩ := wd_tup w
    have ha := wd_mem w2 (d := a) (by simp)
    have hb := wd_mem w2 (d := b) (by simp)
    have hc := wd_mem w2 (d := c) (by simp)
    have ht := wd_mem w2 (d := t) (by simp)
    have he := wd_mem w2 (d := e) (by simp)
    rw [seq_nx (δ' := [.v (.tup [a, b, c, t, e]), .no]) (h' := h) (by simp (decide := true) [p_lframe_due_1])]
    have e3 := lf2 (b := b) (c := c) (t := t) (e := e) (h := h) ha
    have e4 := lf3 (a := a) (c := c) (t := t) (e := e) (h := h) hb
    have e7 := lf6 (a := a) (b := b) (c := c) (t := t) (h := h) he
    cases x0 : A0 a with
    | false =>
      rw [x0, if_neg (by simp)] at e3
      rw [seq_rt e3, frameD, x0]; rfl
    | true =>
      rw [x0, if_pos rfl] at e3
      rw [seq_nx e3]
      obtain ⟨s, rfl, s3⟩ := A0_of x0
      have sn : sizeN (.int (s : Int)) = s := by show (s : Int).toNat = s; omega
      cases x1 : A1 b with
      | false =>
        rw [x1, if_neg (by simp)] at e4
        rw [seq_rt e4, frameD, x0, x1]; rfl
      | true =>
        rw [x1, if_pos rfl] at e4
        rw [seq_nx e4]
        have e5 := lf4 (b := b) (t := t) (e := e) (h := h) s3 hc
        have e6 := lf5 (b := b) (c := c) (e := e) (h := h) s3 ht
        cases x2 : A2 s c with
        | false =>
          rw [x2, if_neg (by simp)] at e5
          rw [seq_rt e5, frameD, x0, x1, sn, x2]; rfl
        | true =>
          rw [x2, if_pos rfl] at e5
          rw [seq_nx e5]
          cases x3 : A3 s t with
          | false =>
            rw [x3, if_neg (by simp)] at e6
            rw [seq_rt e6, frameD, x0, x1, sn, x2, x3]; rfl
          | true =>
            rw [x3, if_pos rfl] at e6
            rw [seq_nx e6, e7, frameD, x0, x1, sn, x2, x3]
            rfl
  · have e : frameD d = .int (-1) := by
      cases d with
      | tup ds =>
        rcases ds with _ | ⟨a, _ | ⟨b, _ | ⟨c, _ | ⟨t, _ | ⟨e, _ | ⟨f, as⟩⟩⟩⟩⟩⟩ <;> first | rfl | exact absurd ⟨_, _, _, _, _, rfl⟩ hl
      | _ => rfl
    have p1 : p_lframe_due_1 [.v d, .no] h = .rt (.int (-1)) h := by
      cases d with
      | tup ds =>
        have hn : ¬ (ds.length : Int) = 5 := fun z => by
          rcases ds with _ | ⟨a, _ | ⟨b, _ | ⟨c, _ | ⟨t, _ | ⟨e, _ | ⟨f, as⟩⟩⟩⟩⟩⟩ <;> first | exact absurd ⟨_, _, _, _, _, rfl⟩ hl | (simp at z; done) | (simp at z; omega)
        simp (decide := true) [p_lframe_due_1, hn]
      | _ => first | (cases w; done) | simp (decide := true) [p_lframe_due_1]
    rw [e, seq_rt p1]
    rfl
/-! ### data -/
theorem isdat_any {F : Frm} (o : F.ok) {d : D} (w : d.wd 1000 = true) (h : Bx) : F_is_datum [F.d, d] h = .ok (.bl (arebB d (F.regs + F.cells) F.size)) h := by
  cases d with
  | tup ds =>
    obtain ⟨w1, w2⟩ := wd_tup w
    have z : ds.length ≤ 1000000 := by omega
    have c := belows_any (w := 1000) (δ := [.v F.d, .v (.tup ds), .no]) (i := 2) (ds := ds) (m := F.size) h w2 (f := bin2 ixK (varF 0) (cF (.int 0))) (by simp) (fun v => by rw [Frm.d]; simp)
    rw [Frm.d] at c
    by_cases e : ds.length = F.regs + F.cells
    · have e' : (ds.length : Int) = F.regs + F.cells := by omega
      have z2 : F.regs + F.cells ≤ 1000000 := by omega
      simp (decide := true) [F_is_datum, runF_ap, sf_is_datum, startD, Frm.d, z, z2, c, blsM, all_id, arebB, e', e]
    · have e' : ¬ (ds.length : Int) = F.regs + F.cells := by omega
      simp (decide := true) [F_is_datum, runF_ap, sf_is_datum, startD, Frm.d, arebB, e', e]
  | _ => first | (cases w; done) | simp (decide := true) [F_is_datum, runF_ap, sf_is_datum, startD, Frm.d, arebB]
theorem nd_any {F : Frm} (o : F.ok) {d : D} (w : d.wd 1000 = true) (h : Bx) : F_need_datum [F.d, d] h = toldX "InvalidDatum" (if arebB d (F.regs + F.cells) F.size = true then .non else .int (-1)) d h := by
  have e := frame_ok o h
  have e2 := isdat_any o w h
  have v := wd_isV w
  by_cases hb : arebB d (F.regs + F.cells) F.size = true
  · rw [hb] at e2
    rw [if_pos hb]
    simp [F_need_datum, runF_ap, sf_need_datum, startD, e, e2, v, toldX, retK_v v]
  · have hb' : arebB d (F.regs + F.cells) F.size = false := by simpa using hb
    rw [hb'] at e2
    rw [if_neg hb]
    simp [F_need_datum, runF_ap, sf_need_datum, startD, e, e2, v, toldX]
end LP
/-! K06l: drawn changes. -/
namespace LP
open PySem PySem.Spec PyProof.Rows L2 HT
mutual
theorem wd_mono {w w' : Nat} (h : w ≤ w') : ∀ d : D, d.wd w = true → d.wd w' = true
  | .tup ds, e => by
    simp only [D.wd, Bool.and_eq_true, decide_eq_true_eq] at e ⊢
    exact ⟨by omega, wds_mono h ds e.2⟩
  | .lst ds, e => by
    simp only [D.wd, Bool.and_eq_true, decide_eq_true_eq] at e ⊢
    exact ⟨by omega, wds_mono h ds e.2⟩
  | .int _, _ => rfl
  | .bl _, _ => rfl
  | .str _, _ => rfl
  | .non, _ => rfl
  | .ptr _, e => by cases e
  | .loc _, e => by cases e
  | .frz _, e => by cases e
  | .lam _, e => by cases e
  | .fn _, e => by cases e
theorem wds_mono {w w' : Nat} (h : w ≤ w') : ∀ ds : List D, D.wds w ds = true → D.wds w' ds = true
  | [], _ => rfl
  | d :: ds, e => by
    simp only [D.wds, Bool.and_eq_true] at e ⊢
    exact ⟨wd_mono h d e.1, wds_mono h ds e.2⟩
end
theorem pick_mem {hs h : Bx} (B : Bo hs h) (L : List D) (h0 : 0 < L.length) (h1 : L.length < 1000) (hv : ∀ d ∈ L, isV d = true) : ∃ (x : D) (h' : Bx), x ∈ L ∧ F__law_pick [.ptr hs.length, .lst L] h = .ok x h' ∧ Bo hs h' := by
  obtain ⟨i, h', hi, e, B'⟩ := pick_ok B L h0 h1 hv
  exact ⟨_, h', List.getElem_mem hi, e, B'⟩
/-- right for going on: wide w at most, deep k at most -/
def Rg (w k : Nat) (d : D) : Prop := d.wd w = true ∧ d.dep ≤ k
theorem rg_tup {w k : Nat} {ds : List D} (hl : ds.length ≤ w) (h : ∀ d ∈ ds, Rg w k d) : Rg w (k + 1) (.tup ds) := by
  refine ⟨?_, ?_⟩
  · simp only [D.wd, Bool.and_eq_true, decide_eq_true_eq]
    exact ⟨hl, wds_iff.mpr fun d hd => (h d hd).1⟩
  · rw [dep_tup]
    have := deps_le (n := k) fun d hd => (h d hd).2
    omega
theorem rg_lst {w k : Nat} {ds : List D} (hl : ds.length ≤ w) (h : ∀ d ∈ ds, Rg w k d) : Rg w (k + 1) (.lst ds) := by
  refine ⟨?_, ?_⟩
  · simp only [D.wd, Bool.and_eq_true, decide_eq_true_eq]
    exact ⟨hl, wds_iff.mpr fun d hd => (h d hd).1⟩
  · rw [dep_lst]
    have := deps_le (n := k) fun d hd => (h d hd).2
    omega
/-- what is drawn for it: all of rows 2 to 4 -/
theorem bent_end {w : Nat} (hw : w ≤ 900) {Q : List D → Bx → R D} {d : D} (r : Rg w d.dep d) {hs h : Bx} (B : Bo hs h) (a2 a3 : SV) :
    ∃ (d' : D) (h' : Bx), seqS (p_lbent_2 Q) (seqS (p_lbent_3 Q) (p_lbent_4 Q)) [.v (.ptr hs.length), .v d, a2, a3] h = .rt d' h' ∧ Rg (w + 1) d.dep d' ∧ Bo hs h' := by
  have last : d.dep = d.dep → (∀ s, d ≠ .str s) → (∀ s, d ≠ .tup s) → ∃ (d' : D) (h' : Bx), seqS (p_lbent_2 Q) (seqS (p_lbent_3 Q) (p_lbent_4 Q)) [.v (.ptr hs.length), .v d, a2, a3] h = .rt d' h' ∧ Rg (w + 1) d.dep d' ∧ Bo hs h' := fun _ n1 n2 => by
    obtain ⟨x, h', hx, e, B'⟩ := pick_mem B [.non, .int 0, .int 1, .int 2, .int 3, .int 4, .int 5, .int (-1), .bl true, .str "1"] (by simp) (by simp) (by simp)
    have q : Rg (w + 1) d.dep x := by
      simp only [List.mem_cons, List.not_mem_nil, or_false] at hx
      rcases hx with rfl | rfl | rfl | rfl | rfl | rfl | rfl | rfl | rfl | rfl <;> exact ⟨rfl, Nat.zero_le _⟩
    refine ⟨x, h', ?_, q, B'⟩
    rw [seq_nx (δ' := [.v (.ptr hs.length), .v d, a2, a3]) (h' := h) (by have := r.1; cases d <;> first | (cases this; done) | exact absurd rfl (n2 _) | simp (decide := true) [p_lbent_2])]
    rw [seq_nx (δ' := [.v (.ptr hs.length), .v d, a2, a3]) (h' := h) (by have := r.1; cases d <;> first | (cases this; done) | exact absurd rfl (n1 _) | simp (decide := true) [p_lbent_3])]
    have v := wd_isV q.1
    simp (decide := true) [p_lbent_4, e, retK_v v]
  cases d with
  | tup ds =>
    obtain ⟨w1, w2⟩ := wd_tup r.1
    have im : ∀ d ∈ ds, Rg (w + 1) (D.deps ds) d := fun d hd => ⟨wd_mono (by omega) d (wd_mem w2 hd), dep_mem hd⟩
    have z : Rg (w + 1) (D.deps ds) (.int 0) := ⟨rfl, Nat.zero_le _⟩
    obtain ⟨x, h', hx, e, B'⟩ := pick_mem B [.lst ds, .tup (ds ++ ds.take 1), .tup (ds.drop 1), .tup ds.reverse, .non, .tup (ds ++ [.int 0])] (by simp) (by simp) (by simp)
    rw [dep_tup]
    have q : Rg (w + 1) (D.deps ds + 1) x := by
      simp only [List.mem_cons, List.not_mem_nil, or_false] at hx
      rcases hx with rfl | rfl | rfl | rfl | rfl | rfl
      · exact rg_lst (by omega) im
      · refine rg_tup (by rw [List.length_append, List.length_take]; omega) fun d hd => ?_
        rcases List.mem_append.mp hd with hd | hd
        · exact im d hd
        · exact im d (List.mem_of_mem_take hd)
      · exact rg_tup (by rw [List.length_drop]; omega) fun d hd => im d (List.mem_of_mem_drop hd)
      · exact rg_tup (by rw [List.length_reverse]; omega) fun d hd => im d (List.mem_reverse.mp hd)
      · exact ⟨rfl, Nat.zero_le _⟩
      · refine rg_tup (by rw [List.length_append]; simp; omega) fun d hd => ?_
        rcases List.mem_append.mp hd with hd | hd
        · exact im d hd
        · have : d = .int 0 := by simpa using hd
          subst this; exact z
    refine ⟨x, h', ?_, q, B'⟩
    have z1 : ds.length ≤ 1000000 := by omega
    have z2 : ds.length + min 1 ds.length ≤ 1000000 := by omega
    have z3 : ds.length + 1 ≤ 1000000 := by omega
    have v := wd_isV q.1
    rw [seq_rt (d := x) (h' := h') ?_]
    simp at e
    simp (decide := true) [p_lbent_2, z1, z2, z3, e, retK_v v]
  | str s =>
    obtain ⟨x, h', hx, e, B'⟩ := pick_mem B [.str "op", .str "load", .str "store", .str "fence", .str "fork", .str "loop", .str "row", .non] (by simp) (by simp) (by simp)
    have q : Rg (w + 1) (D.dep (.str s)) x := by
      simp only [List.mem_cons, List.not_mem_nil, or_false] at hx
      rcases hx with rfl | rfl | rfl | rfl | rfl | rfl | rfl | rfl <;> exact ⟨rfl, Nat.zero_le _⟩
    refine ⟨x, h', ?_, q, B'⟩
    have v := wd_isV q.1
    rw [seq_nx (δ' := [.v (.ptr hs.length), .v (.str s), a2, a3]) (h' := h) (by simp (decide := true) [p_lbent_2])]
    rw [seq_rt (d := x) (h' := h') (by simp (decide := true) [p_lbent_3, e, retK_v v])]
  | _ => exact last rfl (fun s z => by cases z) (fun s z => by cases z)
theorem bent_ok {w : Nat} (hw : w ≤ 900) {hs : Bx} : ∀ (n k : Nat) (d : D), k < n → Rg w d.dep d → d.dep ≤ 50 → ∀ h : Bx, Bo hs h →
    ∃ (d' : D) (h' : Bx), F__law_bent n [.ptr hs.length, d, .int k] h = .ok d' h' ∧ Rg (w + 1) d.dep d' ∧ Bo hs h'
  | 0, _, _, z, _, _ => absurd z (Nat.not_lt_zero _)
  | n + 1, k, d, z, r, hd => fun h B => by
    have st : startD N__law_bent.length [.ptr hs.length, d, .int k] = [.v (.ptr hs.length), .v d, .v (.int k), .no] := rfl
    rw [F__law_bent, runF_ap, sf__law_bent_eq, p_lbent, st]
    -- not gone into
    have off : ∀ h1, Bo hs h1 → p_lbent_1 (F__law_bent n) [.v (.ptr hs.length), .v d, .v (.int k), .no] h = .nx [.v (.ptr hs.length), .v d, .v (.int k), .no] h1 →
        ∃ (d' : D) (h' : Bx), (seqS (p_lbent_1 (F__law_bent n)) (seqS (p_lbent_2 (F__law_bent n)) (seqS (p_lbent_3 (F__law_bent n)) (p_lbent_4 (F__law_bent n)))) [.v (.ptr hs.length), .v d, .v (.int k), .no] h).fin = .ok d' h' ∧ Rg (w + 1) d.dep d' ∧ Bo hs h' := fun h1 B1 e => by
      obtain ⟨d', h', e2, q, B'⟩ := bent_end hw (Q := F__law_bent n) r B1 (.v (.int k)) .no
      exact ⟨d', h', by rw [seq_nx e, e2]; rfl, q, B'⟩
    by_cases hk : 0 < k
    · have hk' : (0 : Int) < k := by omega
      cases d with
      | tup ds =>
        obtain ⟨w1, w2⟩ := wd_tup r.1
        have pu := wds_pures ds w2
        rw [dep_tup] at hd
        cases ds with
        | nil => exact off h B (by simp (decide := true) [p_lbent_1, hk, hk'])
        | cons x xs =>
          have ne : D.eqs (x :: xs) [] = false := eqs_cn
          obtain ⟨c, h1, hc, e1, B1⟩ := take_ok B (m := 6) (by omega) (by omega)
          have e1 : F__law_take [.ptr hs.length, .int 6] h = .ok (.int c) h1 := e1
          have dz : min (D.deps (x :: xs) + 1) 1 ≤ 64 := by omega
          by_cases c0 : 0 < c
          · have c0' : (0 : Int) < c := by omega
            obtain ⟨at_, h2, ha, e2, B2⟩ := take_ok B1 (m := (x :: xs).length) (by simp) (by omega)
            have mem := List.getElem_mem ha
            have dm := dep_mem mem
            obtain ⟨y, h3, e3, q3, B3⟩ := bent_ok hw n (k - 1) ((x :: xs)[at_]) (by omega) ⟨wd_mem w2 mem, Nat.le_refl _⟩ (by omega) h2 B2
            have ek : ((k : Int) - 1) = ((k - 1 : Nat) : Int) := by omega
            have q : Rg (w + 1) (D.dep (.tup (x :: xs))) (.tup (((x :: xs).take at_ ++ [y]) ++ (x :: xs).drop (at_ + 1))) := by
              rw [dep_tup]
              refine rg_tup (by simp only [List.length_append, List.length_take, List.length_drop, List.length_singleton]; omega) fun d hd => ?_
              rcases List.mem_append.mp hd with hd | hd
              · rcases List.mem_append.mp hd with hd | hd
                · exact ⟨wd_mono (by omega) d (wd_mem w2 (List.mem_of_mem_take hd)), dep_mem (List.mem_of_mem_take hd)⟩
                · have : d = y := by simpa using hd
                  subst this
                  exact ⟨q3.1, Nat.le_trans q3.2 dm⟩
              · exact ⟨wd_mono (by omega) d (wd_mem w2 (List.mem_of_mem_drop hd)), dep_mem (List.mem_of_mem_drop hd)⟩
            generalize (x :: xs) = l at *
            have cut1 : cutD l none (some (at_ : Int)) = l.take at_ := by rw [cutD_to (by omega), Int.toNat_natCast]
            have cut2 : cutD l (some ((at_ : Int) + 1)) none = l.drop (at_ + 1) := by
              rw [cutD_from (by omega)]; congr 1
            have at1 : atI l (at_ : Int) = some l[at_] := by rw [atI_nat ha, List.getElem?_eq_getElem ha]
            have vm := wd_isV (wd_mem w2 mem)
            have vy := wd_isV q3.1
            rw [← ek] at e3
            have l1 : min at_ l.length + 1 ≤ 1000000 := by omega
            have l2 : min at_ l.length + 1 + (l.length - (at_ + 1)) ≤ 1000000 := by omega
            refine ⟨_, h3, ?_, q, B3⟩
            rw [seq_rt (d := .tup ((l.take at_ ++ [y]) ++ l.drop (at_ + 1))) (h' := h3) ?_]
            · rfl
            · have s1 : p_lbent_1t (F__law_bent n) [.v (.ptr hs.length), .v (.tup l), .v (.int k), .no] h1 = .rt (.tup ((l.take at_ ++ [y]) ++ l.drop (at_ + 1))) h3 := by
                rw [p_lbent_1t, seq_nx (δ' := [.v (.ptr hs.length), .v (.tup l), .v (.int k), .v (.int at_)]) (h' := h2) (by simp [p_lbent_1t_1, e2])]
                simp [p_lbent_1t_2, cut1, cut2, at1, vm, vy, e3, l1, l2]
              rw [p_lbent_1, ifS_ap]
              simp (decide := true) [hk, hk', pu, ne, dz, e1, c0, c0', s1]
          · have c0' : ¬ (0 : Int) < c := by omega
            have c00 : c = 0 := by omega
            subst c00
            exact off h1 B1 (by simp (decide := true) at e1; simp at pu; simp (decide := true) [p_lbent_1, hk, hk', pu, ne, e1])
      | _ => exact off h B (by have := r.1; first | (cases this; done) | simp (decide := true) [p_lbent_1, hk, hk'])
    · have hk' : ¬ (0 : Int) < k := by omega
      exact off h B (by simp (decide := true) [p_lbent_1, hk, hk'])
end LP
/-! K06m: all data; loops unrolled. -/
namespace LP
open PySem PySem.Spec PyProof.Rows L2 HT
def vstep (s : Nat) (rows : List (List Nat)) : List (List Nat) := rows.flatMap fun r => (List.range s).map fun v => r ++ [v]
def vr (s : Nat) : Nat → List (List Nat)
  | 0 => [[]]
  | n + 1 => vstep s (vr s n)
def vrD (l : List (List Nat)) : List D := l.map fun r => .tup (nsD r)
theorem vstep_len {s : Nat} : ∀ rows : List (List Nat), (vstep s rows).length = rows.length * s
  | [] => by simp [vstep]
  | r :: rows => by
    have := vstep_len (s := s) rows
    unfold vstep at this ⊢
    rw [List.flatMap_cons, List.length_append, this]
    simp [Nat.succ_mul]; omega
theorem vr_len (s : Nat) : ∀ n, (vr s n).length = s ^ n
  | 0 => rfl
  | n + 1 => by rw [vr, vstep_len, vr_len s n, Nat.pow_succ]
theorem vr_row {s : Nat} : ∀ n, ∀ r ∈ vr s n, r.length = n
  | 0, r, h => by simp [vr] at h; subst h; rfl
  | n + 1, r, h => by
    rw [vr, vstep, List.mem_flatMap] at h
    obtain ⟨q, h1, h2⟩ := h
    obtain ⟨v, _, rfl⟩ := List.mem_map.mp h2
    rw [List.length_append, vr_row n q h1]; rfl
theorem vrD_len {l : List (List Nat)} : (vrD l).length = l.length := by simp [vrD]
theorem pow_le7 {s n : Nat} (hs : s ≤ 3) (hn : n ≤ 7) : s ^ n ≤ 2187 := by
  have h1 : s ^ n ≤ 3 ^ n := Nat.pow_le_pow_left hs n
  have h2 : 3 ^ n ≤ 3 ^ 7 := Nat.pow_le_pow_right (by omega) hn
  have h3 : (3 : Nat) ^ 7 = 2187 := by decide
  omega
theorem vr_pures (l : List (List Nat)) : D.pures (vrD l) = true := pures_all fun d hd => by
  obtain ⟨r, _, rfl⟩ := List.mem_map.mp hd
  simp
theorem vr_deps (l : List (List Nat)) : D.deps (vrD l) ≤ 1 := deps_le fun d hd => by
  obtain ⟨r, _, rfl⟩ := List.mem_map.mp hd
  simp
theorem comp_last {δ : DE} {i j s : Nat} {r : List Nat} {h : Bx} (hij : i ≠ j) (hj : j < δ.length) (e : δ[i]? = some (.v (.tup (nsD r)))) (hr : r.length ≤ 100) :
    compF (nameU j) yesF (bin2 addK (varF i) (tupF (consA (varF j) nilA))) δ (rgD 0 (s : Int)) h = .ok ((List.range s).map fun v => .tup (nsD (r ++ [v]))) h := by
  have rg : rgD 0 (s : Int) = (List.range s).map fun v : Nat => .int (v : Nat) := by simp [rgD]
  have := compF_map (u := nameU j) (ef := bin2 addK (varF i) (tupF (consA (varF j) nilA))) (δ := δ) (h := h) (g := fun d => .tup (nsD r ++ [d])) (ds := rgD 0 (s : Int)) fun d hd => by
    rw [rg] at hd
    obtain ⟨v, _, rfl⟩ := List.mem_map.mp hd
    have e1 : (δ.set j (.v (.int (v : Nat))))[i]? = some (.v (.tup (nsD r))) := by rw [List.getElem?_set_ne (by omega)]; exact e
    have e2 : (δ.set j (.v (.int (v : Nat))))[j]? = some (.v (.int (v : Nat))) := by rw [List.getElem?_set_self hj]
    have z : r.length + 1 ≤ 1000000 := by omega
    exact ⟨_, rfl, by simp [e1, e2, z], rfl⟩
  rw [this, rg, List.map_map]
  congr 1
  refine List.map_congr_left fun v _ => ?_
  simp [nsD, nD]
theorem comp2_vr {δ : DE} {s : Nat} (s3 : s ≤ 3) {h : Bx} (e0 : δ[0]? = some (.v (.int s))) (hl : 5 < δ.length) : ∀ (rows : List (List Nat)) (n : Nat), (∀ r ∈ rows, r.length ≤ 100) → n + rows.length * s + s ≤ 1000000 →
    comp2F (nameU 4) yesF (fun δ h => ((consA (varF 0) nilA) δ h).bind rg1K) [5] (nameU 5) yesF (bin2 addK (varF 4) (tupF (consA (varF 5) nilA))) δ (vrD rows) n h = .ok (vrD (vstep s rows)) h
  | [], n, _, _ => rfl
  | r :: rows, n, hr, z => by
    rw [List.length_cons, Nat.succ_mul] at z
    have e4 : (wipeD (δ.set 4 (.v (.tup (nsD r)))) [5])[4]? = some (.v (.tup (nsD r))) := by
      rw [wipeD_cons, wipeD_nil, List.getElem?_set_ne (by omega), List.getElem?_set_self (by omega)]
    have e00 : (δ.set 4 (.v (.tup (nsD r))))[0]? = some (.v (.int s)) := by rw [List.getElem?_set_ne (by omega)]; exact e0
    have c := comp_last (h := h) (s := s) (j := 5) (by omega) (by rw [wipeD_length, List.length_set]; omega) e4 (hr r (List.mem_cons_self ..))
    have ih := comp2_vr s3 (h := h) e0 hl rows (n + s) (fun q hq => hr q (List.mem_cons_of_mem _ hq)) (by omega)
    have rg : rgC (s : Int) = true := by unfold rgC; rw [decide_eq_true_eq]; exact ⟨by omega, by omega⟩
    have rl : (rgD 0 (s : Int)).length = s := rgD_length
    have v1 : vrD (r :: rows) = .tup (nsD r) :: vrD rows := rfl
    have gi : (fun δ h => ((consA (varF 0) nilA) δ h).bind rg1K) (δ.set 4 (.v (.tup (nsD r)))) h = .ok (rgD 0 (s : Int)) h := by simp [e0, rg]
    rw [v1, comp2F]
    simp only [nameU_ap, yesF_ap, quiet_ok, R.bind_ok, if_true, gi, rl]
    rw [if_pos (show n + s ≤ big by show n + s ≤ 1000000; omega)]
    rw [c]
    simp only [R.bind_ok, List.length_map, List.length_range]
    rw [ih]
    simp [vstep, vrD]
theorem vrows_ok {s m : Nat} (s3 : s ≤ 3) (m7 : m ≤ 7) (h : Bx) : F_value_rows [.int s, .int m] h = .ok (.lst (vrD (vr s m))) h := by
  have st : startD N_value_rows.length [.int s, .int m] = [.v (.int s), .v (.int m), .no, .no, .no, .no] := rfl
  have loop : ∀ (ds : List D) (k : Nat) (a3 : SV), k + ds.length ≤ m → ∃ b3, forF (nameU 3) (endFrz 2 (ownS 2 (lc2N (itemsI (varF 2)) [4, 5] (nameU 4) yesF (fun δ h => ((consA (varF 0) nilA) δ h).bind rg1K) [5] (nameU 5) yesF (bin2 addK (varF 4) (tupF (consA (varF 5) nilA)))))) ds [.v (.int s), .v (.int m), .v (.lst (vrD (vr s k))), a3, .no, .no] h
      = .nx [.v (.int s), .v (.int m), .v (.lst (vrD (vr s (k + ds.length)))), b3, .no, .no] h := fun ds => by
    induction ds with
    | nil => exact fun k a3 _ => ⟨a3, rfl⟩
    | cons d ds ih =>
      intro k a3 z
      have z' : k + (ds.length + 1) ≤ m := z
      obtain ⟨b3, e⟩ := ih (k + 1) (.v d) (by omega)
      refine ⟨b3, ?_⟩
      have p := pow_le7 s3 (n := k) (by omega)
      have c := comp2_vr (δ := [.v (.int s), .v (.int m), .v (.lst (vrD (vr s k))), .v d, .no, .no]) s3 (h := h) rfl (by simp) (vr s k) 0 (fun r hr => by rw [vr_row k r hr]; omega) (by
        rw [vr_len]
        have : s ^ k * s ≤ 2187 * 3 := Nat.mul_le_mul p s3
        omega)
      rw [forF_nx (δ1 := [.v (.int s), .v (.int m), .v (.lst (vrD (vr s k))), .v d, .no, .no]) (δ2 := [.v (.int s), .v (.int m), .v (.lst (vrD (vr s (k + 1)))), .v d, .no, .no]) (h2 := h) rfl ?_, e]
      · have : k + 1 + ds.length = k + (d :: ds).length := by simp; omega
        rw [this]
      · have it : itemsI (varF 2) [.v (.int s), .v (.int m), .v (.lst (vrD (vr s k))), .v d, .no, .no] h = .ok (vrD (vr s k)) h := by simp
        have w : wipeD [.v (.int s), .v (.int m), .v (.lst (vrD (vr s k))), .v d, .no, .no] [4, 5] = [.v (.int s), .v (.int m), .v (.lst (vrD (vr s k))), .v d, .no, .no] := rfl
        rw [endFrz_ap, ownS_ap, lc2N_ap, it, R.bind_ok, w, c]
        rfl
  obtain ⟨b3, e⟩ := loop (rgD 0 (m : Int)) 0 .no (by rw [rgD_length]; omega)
  rw [rgD_length, Nat.zero_add] at e
  have rg : rgC (m : Int) = true := by unfold rgC; rw [decide_eq_true_eq]; exact ⟨by omega, by omega⟩
  rw [F_value_rows, runF_ap, sf_value_rows_eq, p_value_rows, st]
  rw [seq_nx (δ' := [.v (.int s), .v (.int m), .v (.lst (vrD (vr s 0))), .no, .no, .no]) (h' := h) (by simp [p_value_rows_1, vrD, vr, nsD])]
  rw [seq_nx (δ' := [.v (.int s), .v (.int m), .v (.lst (vrD (vr s m))), b3, .no, .no]) (h' := h) ?_]
  · simp [p_value_rows_3]
  · rw [p_value_rows_2, forS_ap]
    have s2 : ((consA (varF 1) nilA) [.v (.int s), .v (.int m), .v (.lst (vrD (vr s 0))), .no, .no, .no] h).bind rg1K = .ok (rgD 0 (m : Int)) h := by simp [rg]
    rw [s2]
    exact e
@[simp] theorem seqOf_F {F : Frm} {δ : DE} {h : Bx} : seqOf δ h F.d = some [.int F.size, .int F.regs, .int F.cells, .tup (F.tables.map fun t => .tup (nsD t)), .int F.deep] := pr rfl
theorem alldata_ok {F : Frm} (o : F.ok) (h : Bx) : F_all_data [F.d] h = .ok (.tup (vrD (vr F.size (F.regs + F.cells)))) h := by
  have e := frame_ok o h
  have hc : F.cells ≤ 3 := by have := o.c; have := o.s2; omega
  have r2 := o.r2
  have v := vrows_ok o.s2 (m := F.regs + F.cells) (by omega) h
  rw [Int.natCast_add] at v
  simp [F_all_data, runF_ap, sf_all_data, startD, e, v]
theorem unrolled_ok {F : Frm} (o : F.ok) {l : List Row} (a : rowsOk F l) (b : rowsCost l ≤ 1000) (c : rowsDp l ≤ 4) (h : Bx) : F_unrolled [F.d, .tup (rowsD l)] h = .ok (.tup (rowsD (plain l))) h := by
  have e1 := prog_ok o a (by omega) (by show 2 * rowsDp l + 1 ≤ 12; omega) h
  have e2 := plain_ok (F := F) h rf l a (by omega) (by show rowsDp l < 12; omega)
  simp [F_unrolled, runF_ap, sf_unrolled, startD, e1, e2]
end LP
/-! K06o: drawn things as data; lambdas, heard; a turn of changes. -/
namespace LP
open PySem PySem.Spec PyProof.Rows L2 HT
/-! ### as data -/
theorem rg_ints {w k : Nat} {l : List Nat} (hl : l.length ≤ w) : Rg w (k + 1) (.tup (nsD l)) := rg_tup (by simpa using hl) fun d hd => by
  obtain ⟨v, _, rfl⟩ := List.mem_map.mp hd
  exact ⟨rfl, Nat.zero_le _⟩
theorem Rg.mono {w w' k k' : Nat} {d : D} (r : Rg w k d) (h1 : w ≤ w') (h2 : k ≤ k') : Rg w' k' d := ⟨wd_mono h1 d r.1, by have := r.2; omega⟩
theorem frame_rg {F : Frm} (o : F.ok) : Rg 900 3 F.d := by
  have h2 := o.s2; have t1 := o.t1
  refine rg_tup (k := 2) (by simp) fun d hd => ?_
  simp only [List.mem_cons, List.not_mem_nil, or_false] at hd
  rcases hd with rfl | rfl | rfl | rfl | rfl
  · exact ⟨rfl, Nat.zero_le _⟩
  · exact ⟨rfl, Nat.zero_le _⟩
  · exact ⟨rfl, Nat.zero_le _⟩
  · refine rg_tup (k := 1) (by rw [List.length_map]; omega) fun d hd => ?_
    obtain ⟨t, ht, rfl⟩ := List.mem_map.mp hd
    have := (o.t2 t ht).1
    have hm : F.size * F.size ≤ 3 * 3 := Nat.mul_le_mul h2 h2
    exact rg_ints (k := 0) (by omega)
  · exact ⟨rfl, Nat.zero_le _⟩
mutual
theorem row_rg : ∀ r : Row, r.cost ≤ 900 → Rg 900 (2 * r.dp + 1) r.d
  | .op _ _ _ _, _ => ⟨by simp [Row.d, D.wd, D.wds], by simp [Row.d]⟩
  | .load _ _, _ => ⟨by simp [Row.d, D.wd, D.wds], by simp [Row.d]⟩
  | .store _ _, _ => ⟨by simp [Row.d, D.wd, D.wds], by simp [Row.d]⟩
  | .fence, _ => ⟨by decide, by simp [Row.d]⟩
  | .fork a x y, h => by
    simp only [Row.cost] at h
    have h1 := rows_rg x (by omega)
    have h2 := rows_rg y (by omega)
    have e : 2 * (Row.fork a x y).dp + 1 = 2 * max (rowsDp x) (rowsDp y) + 2 + 1 := by simp only [Row.dp]; omega
    rw [e]
    refine rg_tup (by simp) fun d hd => ?_
    simp only [List.mem_cons, List.not_mem_nil, or_false] at hd
    rcases hd with rfl | rfl | rfl | rfl
    · exact ⟨rfl, Nat.zero_le _⟩
    · exact ⟨rfl, Nat.zero_le _⟩
    · exact h1.mono (Nat.le_refl _) (by omega)
    · exact h2.mono (Nat.le_refl _) (by omega)
  | .loop n x, h => by
    simp only [Row.cost] at h
    have h1 := rows_rg x (by omega)
    have e : 2 * (Row.loop n x).dp + 1 = 2 * rowsDp x + 2 + 1 := by simp only [Row.dp]; omega
    rw [e]
    refine rg_tup (by simp) fun d hd => ?_
    simp only [List.mem_cons, List.not_mem_nil, or_false] at hd
    rcases hd with rfl | rfl | rfl
    · exact ⟨rfl, Nat.zero_le _⟩
    · exact ⟨rfl, Nat.zero_le _⟩
    · exact h1
theorem rows_rg : ∀ l : List Row, rowsCost l ≤ 900 → Rg 900 (2 * rowsDp l + 2) (.tup (rowsD l))
  | [], _ => ⟨rfl, by simp⟩
  | r :: l, h => by
    have h : r.cost + rowsCost l ≤ 900 := h
    have h1 := row_rg r (by omega)
    have h2 := rows_rg l (by omega)
    have cl := cost_len l
    have cp := cost_pos r
    have e : 2 * rowsDp (r :: l) + 2 = (2 * max r.dp (rowsDp l) + 1) + 1 := by simp only [rowsDp]
    rw [e]
    refine rg_tup (by rw [rowsD_length, List.length_cons]; omega) fun d hd => ?_
    rcases List.mem_cons.mp hd with hd | hd
    · subst hd; exact h1.mono (Nat.le_refl _) (by omega)
    · obtain ⟨w1, w2⟩ := wd_tup h2.1
      have := h2.2
      rw [dep_tup] at this
      exact ⟨wd_mem w2 hd, by have := dep_mem hd; omega⟩
end
/-! ### heard -/
theorem heard_is {Λ : Nat → Bx → R D} {k : Nat} {v : D} (hv : isV v = true) {h h' : Bx} (e : Λ k h = .ok v h') : runF 2 (sf__law_heard Λ) [.lam k] h = .ok (.tup [.str "is", v]) h' := by
  simp (decide := true) [runF_ap, sf__law_heard, tryS_ap, startD, e, hv]
theorem heard_d {Λ : Nat → Bx → R D} {k : Nat} {v : D} (hv : isV v = true) {h h' : Bx} (e : Λ k h = .exc "InvalidDatum" [("at", v)] h') : runF 2 (sf__law_heard Λ) [.lam k] h = .ok (.tup [.str "datum", v]) h' := by
  simp (decide := true) [runF_ap, sf__law_heard, tryS_ap, startD, e, catchS, hitH, hv]
theorem heard_p {Λ : Nat → Bx → R D} {k : Nat} {v : D} (hv : isV v = true) {h h' : Bx} (e : Λ k h = .exc "InvalidProgram" [("at", v)] h') : runF 2 (sf__law_heard Λ) [.lam k] h = .ok (.tup [.str "program", v]) h' := by
  simp (decide := true) [runF_ap, sf__law_heard, tryS_ap, startD, e, catchS, hitH, hv]
theorem heard_f {Λ : Nat → Bx → R D} {k : Nat} {v : D} (hv : isV v = true) {h h' : Bx} (e : Λ k h = .exc "InvalidFrame" [("at", v)] h') : runF 2 (sf__law_heard Λ) [.lam k] h = .ok (.tup [.str "frame", v]) h' := by
  simp (decide := true) [runF_ap, sf__law_heard, tryS_ap, startD, e, catchS, hitH, hv]
/-- what a told thing is: nothing, or a number -/
def IsDue (x : D) : Prop := x = .non ∨ ∃ i, x = .int i
def resD (t : Str) (due d : D) : D := match due with
  | .non => .tup [.str "is", d]
  | x => .tup [.str t, x]
theorem due_is {B : D → Bool} {d : D} : IsDue (dueD B d) := by
  cases d with
  | tup ds =>
    rw [dueD]
    split
    · exact .inl rfl
    · exact .inr ⟨_, rfl⟩
  | _ => exact .inr ⟨_, rfl⟩
theorem frame_is {d : D} : IsDue (frameD d) := by
  unfold frameD
  split
  · split
    · split
      · split
        · split
          · split
            · exact .inl rfl
            · exact .inr ⟨_, rfl⟩
          · exact .inr ⟨_, rfl⟩
        · exact .inr ⟨_, rfl⟩
      · exact .inr ⟨_, rfl⟩
    · exact .inr ⟨_, rfl⟩
  · exact .inr ⟨_, rfl⟩
theorem res_rg {w k : Nat} {t : Str} {due d : D} (hw : 2 ≤ w) (i : IsDue due) (r : Rg w k d) : Rg w (k + 1) (resD t due d) := by
  rcases i with rfl | ⟨i, rfl⟩
  · refine rg_tup (by simpa using hw) fun x hx => ?_
    simp only [List.mem_cons, List.not_mem_nil, or_false] at hx
    rcases hx with rfl | rfl
    · exact ⟨rfl, Nat.zero_le _⟩
    · exact r
  · refine rg_tup (by simpa using hw) fun x hx => ?_
    simp only [List.mem_cons, List.not_mem_nil, or_false] at hx
    rcases hx with rfl | rfl
    · exact ⟨rfl, Nat.zero_le _⟩
    · exact ⟨rfl, Nat.zero_le _⟩
theorem bod0 : bod_law 0 = lf_law_0 := rfl
theorem bod1 : bod_law 1 = lf_law_1 := rfl
theorem bod2 : bod_law 2 = lf_law_2 := rfl
theorem bod3 : bod_law 3 = lf_law_3 := rfl
theorem bod4 : bod_law 4 = lf_law_4 := rfl
theorem bod5 : bod_law 5 = lf_law_5 := rfl
theorem heardF_ap {n m : Nat} {δ0 : DE} {h : Bx} {sf : (Nat → Bx → R D) → SF} : heardF bod_law n sf δ0 (.lam m) h = runF n (sf fun k h => bod_law k (pubD δ0) h) [.lam m] h := rfl
theorem hear_f {δ0 : DE} {m : Nat} {due d : D} (i : IsDue due) (hv : isV d = true) {h : Bx} (e : bod_law m (pubD δ0) h = toldX "InvalidFrame" due d h) : heardF bod_law 2 sf__law_heard δ0 (.lam m) h = .ok (resD "frame" due d) h := by
  rw [heardF_ap]
  rcases i with rfl | ⟨i, rfl⟩
  · exact heard_is hv e
  · exact heard_f rfl e
theorem hear_p {δ0 : DE} {m : Nat} {due d : D} (i : IsDue due) (hv : isV d = true) {h : Bx} (e : bod_law m (pubD δ0) h = toldX "InvalidProgram" due d h) : heardF bod_law 2 sf__law_heard δ0 (.lam m) h = .ok (resD "program" due d) h := by
  rw [heardF_ap]
  rcases i with rfl | ⟨i, rfl⟩
  · exact heard_is hv e
  · exact heard_p rfl e
theorem hear_d {δ0 : DE} {m : Nat} {due d : D} (i : IsDue due) (hv : isV d = true) {h : Bx} (e : bod_law m (pubD δ0) h = toldX "InvalidDatum" due d h) : heardF bod_law 2 sf__law_heard δ0 (.lam m) h = .ok (resD "datum" due d) h := by
  rw [heardF_ap]
  rcases i with rfl | ⟨i, rfl⟩
  · exact heard_is hv e
  · exact heard_d rfl e
end LP
/-! K06q: a turn of drawn changes. -/
namespace LP
open PySem PySem.Spec PyProof.Rows L2 HT
theorem eqK_same {d : D} {w k : Nat} (hk : k ≤ 60) (r : Rg w k d) {δ : DE} {h : Bx} : eqK true d d δ h = .ok (.bl false) h := by
  have p := wd_pure d r.1
  have dd := r.2
  have e : vw δ h d = d := vw_wd r.1
  have z : min d.dep d.dep ≤ 64 := by omega
  rw [eqK_ap, e]
  have dz : d.dep ≤ 64 := by omega
  simp [p, dz, eq_refl]
section
variable {F : Frm} {l : List Row} {dt : List Nat} {hs : Bx}
theorem part_f (o : F.ok) {h : Bx} (B : Bo hs h) (x0 x2 x4 x5 x6 x7 x8 x9 x10 x11 x12 x13 x14 x15 x16 x17 x18 x19 : SV) :
    ∃ b11 b12 h', (∀ sf : SF, seqS p_law_3b_8b_1 (seqS p_law_3b_8b_2 (seqS p_law_3b_8b_3 sf)) [x0, .v F.d, x2, .v (.ptr hs.length), x4, x5, x6, x7, x8, x9, x10, x11, x12, x13, x14, x15, x16, x17, x18, x19] h
      = sf [x0, .v F.d, x2, .v (.ptr hs.length), x4, x5, x6, x7, x8, x9, x10, b11, b12, x13, x14, x15, x16, x17, x18, x19] h') ∧ Bo hs h' := by
  have r := frame_rg o
  obtain ⟨d, h', e1, q, B'⟩ := bent_ok (w := 900) (by omega) rf 4 F.d (by decide) (r.mono (Nat.le_refl _) (Nat.le_refl _) |> fun r => ⟨r.1, Nat.le_refl _⟩) (by have := r.2; omega) h B
  have e1 : F__law_bent rf [.ptr hs.length, F.d, .int 4] h = .ok d h' := e1
  have q' : Rg 1000 3 d := q.mono (by omega) r.2
  have v := wd_isV q'.1
  have e2 := lf_any q'.1 h'
  have e3 := nf_any q'.1 h'
  have i := frame_is (d := d)
  refine ⟨.v d, .v (frameD d), h', fun sf => ?_, B'⟩
  have vd : isV (frameD d) = true := by rcases i with z | ⟨_, z⟩ <;> rw [z] <;> rfl
  rw [seq_nx (δ' := [x0, .v F.d, x2, .v (.ptr hs.length), x4, x5, x6, x7, x8, x9, x10, .v d, x12, x13, x14, x15, x16, x17, x18, x19]) (h' := h') (by simp [p_law_3b_8b_1, e1, v])]
  rw [seq_nx (δ' := [x0, .v F.d, x2, .v (.ptr hs.length), x4, x5, x6, x7, x8, x9, x10, .v d, .v (frameD d), x13, x14, x15, x16, x17, x18, x19]) (h' := h') (by simp [p_law_3b_8b_2, e2, v, vd])]
  rw [seq_nx (δ' := [x0, .v F.d, x2, .v (.ptr hs.length), x4, x5, x6, x7, x8, x9, x10, .v d, .v (frameD d), x13, x14, x15, x16, x17, x18, x19]) (h' := h') ?_]
  have e4 : bod_law 0 (pubD [x0, .v F.d, x2, .v (.ptr hs.length), x4, x5, x6, x7, x8, x9, x10, .v d, .v (frameD d), x13, x14, x15, x16, x17, x18, x19]) h' = toldX "InvalidFrame" (frameD d) d h' := by
    rw [bod0]
    simp [lf_law_0, v, e3]
  have e5 := hear_f i v e4
  have rr := res_rg (t := "frame") (by omega) i q'
  have e6 := fun δ h => eqK_same (k := 4) (by omega) rr (δ := δ) (h := h)
  have ex : (iteF (testF (bin2 isNK (varF 12) (cF .non))) (tupF (consA (cF (.str "is")) (consA (varF 11) nilA))) (tupF (consA (cF (.str "frame")) (consA (varF 12) nilA)))) [x0, .v F.d, x2, .v (.ptr hs.length), x4, x5, x6, x7, x8, x9, x10, .v d, .v (frameD d), x13, x14, x15, x16, x17, x18, x19] h' = .ok (resD "frame" (frameD d) d) h' := by
    rcases i with z | ⟨i, z⟩
    · rw [z]; simp [isNon, resD, v]
    · rw [z]; simp [isNon, resD]
  rw [p_law_3b_8b_3, ifS_ap, testF_ap, bin2_ap, cF_ap, R.bind_ok]
  show (((heardF bod_law 2 sf__law_heard _ (.lam 0) h').bind _).bind bOf).toS _ _ = _
  rw [e5, R.bind_ok, ex, R.bind_ok, e6]
  rfl
/-- what a script may ask -/
structure Pp (F : Frm) (l : List Row) : Prop where
  ok : rowsOk F l
  cost : rowsCost l ≤ 900
  dp : rowsDp l ≤ 4
theorem part_p (o : F.ok) (p : Pp F l) {h : Bx} (B : Bo hs h) (x0 x2 x5 x6 x7 x8 x9 x10 x11 x12 x13 x14 x15 x16 x17 x18 x19 : SV) :
    ∃ b12 b13 h', (∀ sf : SF, seqS p_law_3b_8b_4 (seqS p_law_3b_8b_5 (seqS p_law_3b_8b_6 sf)) [x0, .v F.d, x2, .v (.ptr hs.length), .v (.tup (rowsD l)), x5, x6, x7, x8, x9, x10, x11, x12, x13, x14, x15, x16, x17, x18, x19] h
      = sf [x0, .v F.d, x2, .v (.ptr hs.length), .v (.tup (rowsD l)), x5, x6, x7, x8, x9, x10, x11, b12, b13, x14, x15, x16, x17, x18, x19] h') ∧ Bo hs h' := by
  have r := rows_rg l p.cost
  have pd := p.dp
  have rd := r.2
  obtain ⟨d, h', e1, q, B'⟩ := bent_ok (w := 900) (by omega) rf 6 (.tup (rowsD l)) (by decide) ⟨r.1, Nat.le_refl _⟩ (by omega) h B
  have e1 : F__law_bent rf [.ptr hs.length, .tup (rowsD l), .int 6] h = .ok d h' := e1
  have q' : Rg 1000 10 d := q.mono (by omega) (by omega)
  have v := wd_isV q'.1
  have qd := q'.2
  have e2 := (lrow_any o h' rf).1 d q'.1 (by show _ < 12; omega)
  have e2 : F__law_due rf [F.d, d] h' = .ok (dueD (rowB F 11) d) h' := e2
  have e3 := np_any o q'.1 (by omega) h'
  rw [due_stable (n := 11) (by omega)] at e3
  have i := due_is (B := rowB F 11) (d := d)
  generalize dueD (rowB F 11) d = due at *
  refine ⟨.v due, .v d, h', fun sf => ?_, B'⟩
  have vd : isV due = true := by rcases i with z | ⟨_, z⟩ <;> rw [z] <;> rfl
  rw [seq_nx (δ' := [x0, .v F.d, x2, .v (.ptr hs.length), .v (.tup (rowsD l)), x5, x6, x7, x8, x9, x10, x11, x12, .v d, x14, x15, x16, x17, x18, x19]) (h' := h') (by simp [p_law_3b_8b_4, e1, v])]
  rw [seq_nx (δ' := [x0, .v F.d, x2, .v (.ptr hs.length), .v (.tup (rowsD l)), x5, x6, x7, x8, x9, x10, x11, .v due, .v d, x14, x15, x16, x17, x18, x19]) (h' := h') (by simp [p_law_3b_8b_5, e2, v, vd])]
  rw [seq_nx (δ' := [x0, .v F.d, x2, .v (.ptr hs.length), .v (.tup (rowsD l)), x5, x6, x7, x8, x9, x10, x11, .v due, .v d, x14, x15, x16, x17, x18, x19]) (h' := h') ?_]
  have e4 : bod_law 1 (pubD [x0, .v F.d, x2, .v (.ptr hs.length), .v (.tup (rowsD l)), x5, x6, x7, x8, x9, x10, x11, .v due, .v d, x14, x15, x16, x17, x18, x19]) h' = toldX "InvalidProgram" due d h' := by
    rw [bod1]
    simp [lf_law_1, v, e3]
  have e5 := hear_p i v e4
  have rr := res_rg (t := "program") (by omega) i q'
  have e6 := fun δ h => eqK_same (k := 11) (by omega) rr (δ := δ) (h := h)
  have ex : (iteF (testF (bin2 isNK (varF 12) (cF .non))) (tupF (consA (cF (.str "is")) (consA (varF 13) nilA))) (tupF (consA (cF (.str "program")) (consA (varF 12) nilA)))) [x0, .v F.d, x2, .v (.ptr hs.length), .v (.tup (rowsD l)), x5, x6, x7, x8, x9, x10, x11, .v due, .v d, x14, x15, x16, x17, x18, x19] h' = .ok (resD "program" due d) h' := by
    rcases i with z | ⟨i, z⟩
    · rw [z]; simp [isNon, resD, v]
    · rw [z]; simp [isNon, resD]
  rw [p_law_3b_8b_6, ifS_ap, testF_ap, bin2_ap, cF_ap, R.bind_ok]
  show (((heardF bod_law 2 sf__law_heard _ (.lam 1) h').bind _).bind bOf).toS _ _ = _
  rw [e5, R.bind_ok, ex, R.bind_ok, e6]
  rfl
theorem part_d (o : F.ok) (hl : dtOk F dt) {h : Bx} (B : Bo hs h) (x0 x2 x4 x6 x7 x8 x9 x10 x11 x12 x13 x14 x15 x16 x17 x18 x19 : SV) :
    ∃ b14 b15 h', seqS p_law_3b_8b_7 (seqS p_law_3b_8b_8 p_law_3b_8b_9) [x0, .v F.d, x2, .v (.ptr hs.length), x4, .v (.tup (nsD dt)), x6, x7, x8, x9, x10, x11, x12, x13, x14, x15, x16, x17, x18, x19] h
      = .nx [x0, .v F.d, x2, .v (.ptr hs.length), x4, .v (.tup (nsD dt)), x6, x7, x8, x9, x10, x11, x12, x13, b14, b15, x16, x17, x18, x19] h' ∧ Bo hs h' := by
  have r2 := o.r2
  have hc : F.cells ≤ 3 := by have := o.c; have := o.s2; omega
  have r : Rg 900 1 (.tup (nsD dt)) := rg_ints (k := 0) (by rw [hl.len]; omega)
  have rd := r.2
  obtain ⟨d, h', e1, q, B'⟩ := bent_ok (w := 900) (by omega) rf 2 (.tup (nsD dt)) (by decide) ⟨r.1, Nat.le_refl _⟩ (by omega) h B
  have e1 : F__law_bent rf [.ptr hs.length, .tup (nsD dt), .int 2] h = .ok d h' := e1
  have q' : Rg 1000 1 d := q.mono (by omega) rd
  have v := wd_isV q'.1
  have e2 := larebelow_any (Nat.le_refl 1000) q'.1 (F.regs + F.cells) F.size h'
  rw [Int.natCast_add] at e2
  have e3 := nd_any o q'.1 h'
  generalize arebB d (F.regs + F.cells) F.size = b at *
  have i : IsDue (if b = true then D.non else .int (-1)) := by
    cases b
    · exact .inr ⟨_, rfl⟩
    · exact .inl rfl
  refine ⟨.v d, .v (.bl b), h', ?_, B'⟩
  rw [seq_nx (δ' := [x0, .v F.d, x2, .v (.ptr hs.length), x4, .v (.tup (nsD dt)), x6, x7, x8, x9, x10, x11, x12, x13, .v d, x15, x16, x17, x18, x19]) (h' := h') (by simp [p_law_3b_8b_7, e1, v])]
  rw [seq_nx (δ' := [x0, .v F.d, x2, .v (.ptr hs.length), x4, .v (.tup (nsD dt)), x6, x7, x8, x9, x10, x11, x12, x13, .v d, .v (.bl b), x16, x17, x18, x19]) (h' := h') (by simp [p_law_3b_8b_8, e2, v])]
  have e4 : bod_law 2 (pubD [x0, .v F.d, x2, .v (.ptr hs.length), x4, .v (.tup (nsD dt)), x6, x7, x8, x9, x10, x11, x12, x13, .v d, .v (.bl b), x16, x17, x18, x19]) h' = toldX "InvalidDatum" (if b = true then D.non else .int (-1)) d h' := by
    rw [bod2]
    simp [lf_law_2, v, e3]
  have e5 := hear_d i v e4
  have rr := res_rg (t := "datum") (by omega) i q'
  have e6 := fun δ h => eqK_same (k := 2) (by omega) rr (δ := δ) (h := h)
  have ex : (iteF (testF (varF 15)) (tupF (consA (cF (.str "is")) (consA (varF 14) nilA))) (tupF (consA (cF (.str "datum")) (consA (negF (cF (.int 1))) nilA)))) [x0, .v F.d, x2, .v (.ptr hs.length), x4, .v (.tup (nsD dt)), x6, x7, x8, x9, x10, x11, x12, x13, .v d, .v (.bl b), x16, x17, x18, x19] h' = .ok (resD "datum" (if b = true then D.non else .int (-1)) d) h' := by
    cases b with
    | true => simp [resD, v]
    | false => simp [resD]
  rw [p_law_3b_8b_9, ifS_ap, testF_ap, bin2_ap, cF_ap, R.bind_ok]
  show (((heardF bod_law 2 sf__law_heard _ (.lam 2) h').bind _).bind bOf).toS _ _ = _
  rw [e5, R.bind_ok, ex, R.bind_ok, e6]
  rfl
theorem turn8 (o : F.ok) (p : Pp F l) (hl : dtOk F dt) {h : Bx} (B : Bo hs h) (x0 x2 x6 x7 x8 x9 x10 x11 x12 x13 x14 x15 x16 x17 x18 x19 : SV) :
    ∃ b11 b12 b13 b14 b15 h', p_law_3b_8b [x0, .v F.d, x2, .v (.ptr hs.length), .v (.tup (rowsD l)), .v (.tup (nsD dt)), x6, x7, x8, x9, x10, x11, x12, x13, x14, x15, x16, x17, x18, x19] h
      = .nx [x0, .v F.d, x2, .v (.ptr hs.length), .v (.tup (rowsD l)), .v (.tup (nsD dt)), x6, x7, x8, x9, x10, b11, b12, b13, b14, b15, x16, x17, x18, x19] h' ∧ Bo hs h' := by
  obtain ⟨b11, b12, h1, e1, B1⟩ := part_f (F := F) o B x0 x2 (.v (.tup (rowsD l))) (.v (.tup (nsD dt))) x6 x7 x8 x9 x10 x11 x12 x13 x14 x15 x16 x17 x18 x19
  obtain ⟨c12, b13, h2, e2, B2⟩ := part_p (F := F) o p B1 x0 x2 (.v (.tup (nsD dt))) x6 x7 x8 x9 x10 b11 b12 x13 x14 x15 x16 x17 x18 x19
  obtain ⟨b14, b15, h3, e3, B3⟩ := part_d (F := F) o hl B2 x0 x2 (.v (.tup (rowsD l))) x6 x7 x8 x9 x10 b11 c12 b13 x14 x15 x16 x17 x18 x19
  exact ⟨b11, c12, b13, b14, b15, h3, by rw [p_law_3b_8b, e1, e2, e3], B3⟩
end
end LP
/-! K06r: loops of the law; the last lambdas. -/
namespace LP
open PySem PySem.Spec PyProof.Rows L2 HT
theorem ext_own {i : Nat} {f : EF} {δ : DE} {h h1 : Bx} {ds es : List D} (e1 : δ[i]? = some (.own ds)) (e2 : f δ h = .ok (.lst es) h1) (hz : ds.length + es.length ≤ 1000000) : extS i f δ h = .nx (δ.set i (.own (ds ++ es))) h1 := by
  simp [e1, e2, hz]
theorem rgC_nat {n : Nat} (h : n ≤ 1000000) : rgC (n : Int) = true := by unfold rgC; rw [decide_eq_true_eq]; exact ⟨by omega, by omega⟩
section
variable {F : Frm} {l : List Row} {dt : List Nat} {hs : Bx}
theorem rows_in (o : F.ok) (h : Bx) (x0 x2 x3 x4 x5 x6 x7 x10 x11 x12 x13 x14 x15 x16 x17 x18 x19 : SV) : ∀ (rows : List (List Nat)) (acc : List D) (x9 : SV), (∀ r ∈ rows, r.length ≤ 100) → acc.length + rows.length * F.size ≤ 1000000 →
    ∃ b9, forF (nameU 9) (extS 8 (valN (lcN (fun δ h => ((consA (bin2 ixK (varF 1) (cF (.int 0))) nilA) δ h).bind rg1K) [17] (nameU 17) yesF (bin2 addK (varF 9) (tupF (consA (varF 17) nilA)))))) (vrD rows) [x0, .v F.d, x2, x3, x4, x5, x6, x7, .own acc, x9, x10, x11, x12, x13, x14, x15, x16, x17, x18, x19] h
      = .nx [x0, .v F.d, x2, x3, x4, x5, x6, x7, .own (acc ++ vrD (vstep F.size rows)), b9, x10, x11, x12, x13, x14, x15, x16, x17, x18, x19] h
  | [], acc, x9, _, _ => ⟨x9, by
      have : vrD [] = [] := rfl
      have e : vrD (vstep F.size []) = [] := rfl
      rw [this, e, forF_nil, List.append_nil]⟩
  | r :: rows, acc, x9, hr, z => by
    rw [List.length_cons, Nat.succ_mul] at z
    have h2 := o.s2
    have c := comp_last (h := h) (s := F.size) (i := 9) (j := 17) (δ := [x0, .v F.d, x2, x3, x4, x5, x6, x7, .own acc, .v (.tup (nsD r)), x10, x11, x12, x13, x14, x15, x16, .no, x18, x19]) (by omega) (by simp) rfl (hr r (List.mem_cons_self ..))
    have rl : (rgD 0 (F.size : Int)).length = F.size := rgD_length
    have e2 : (valN (lcN (fun δ h => ((consA (bin2 ixK (varF 1) (cF (.int 0))) nilA) δ h).bind rg1K) [17] (nameU 17) yesF (bin2 addK (varF 9) (tupF (consA (varF 17) nilA))))) [x0, .v F.d, x2, x3, x4, x5, x6, x7, .own acc, .v (.tup (nsD r)), x10, x11, x12, x13, x14, x15, x16, x17, x18, x19] h = .ok (.lst ((List.range F.size).map fun v => .tup (nsD (r ++ [v])))) h := by
      have it : ((consA (bin2 ixK (varF 1) (cF (.int 0))) nilA) [x0, .v F.d, x2, x3, x4, x5, x6, x7, .own acc, .v (.tup (nsD r)), x10, x11, x12, x13, x14, x15, x16, x17, x18, x19] h).bind rg1K = .ok (rgD 0 (F.size : Int)) h := by simp [rgC_nat (n := F.size) (by omega)]
      have w : wipeD [x0, .v F.d, x2, x3, x4, x5, x6, x7, .own acc, .v (.tup (nsD r)), x10, x11, x12, x13, x14, x15, x16, x17, x18, x19] [17] = [x0, .v F.d, x2, x3, x4, x5, x6, x7, .own acc, .v (.tup (nsD r)), x10, x11, x12, x13, x14, x15, x16, .no, x18, x19] := rfl
      rw [valN_ap, lcN_ap, it, R.bind_ok, rl, if_pos (by omega), w, c]
      rfl
    have e3 := ext_own (i := 8) (ds := acc) rfl e2 (by simp; omega)
    obtain ⟨b9, e⟩ := rows_in o h x0 x2 x3 x4 x5 x6 x7 x10 x11 x12 x13 x14 x15 x16 x17 x18 x19 rows (acc ++ (List.range F.size).map fun v => .tup (nsD (r ++ [v]))) (.v (.tup (nsD r))) (fun q hq => hr q (List.mem_cons_of_mem _ hq)) (by simp; omega)
    refine ⟨b9, ?_⟩
    have v1 : vrD (r :: rows) = .tup (nsD r) :: vrD rows := rfl
    rw [v1, forF_nx (δ1 := [x0, .v F.d, x2, x3, x4, x5, x6, x7, .own acc, .v (.tup (nsD r)), x10, x11, x12, x13, x14, x15, x16, x17, x18, x19]) rfl e3]
    refine e.trans ?_
    simp [vstep, vrD]
theorem rows_out (o : F.ok) (h : Bx) (x0 x2 x3 x4 x5 x10 x11 x12 x13 x14 x15 x16 x17 x18 x19 : SV) : ∀ (ds : List D) (k : Nat) (x7 x8 x9 : SV), k + ds.length ≤ 7 →
    ∃ b7 b8 b9, forF (nameU 7) p_law_3b_6b ds [x0, .v F.d, x2, x3, x4, x5, .v (.lst (vrD (vr F.size k))), x7, x8, x9, x10, x11, x12, x13, x14, x15, x16, x17, x18, x19] h
      = .nx [x0, .v F.d, x2, x3, x4, x5, .v (.lst (vrD (vr F.size (k + ds.length)))), b7, b8, b9, x10, x11, x12, x13, x14, x15, x16, x17, x18, x19] h
  | [], k, x7, x8, x9, _ => ⟨x7, x8, x9, rfl⟩
  | d :: ds, k, x7, x8, x9, z => by
    have z' : k + (ds.length + 1) ≤ 7 := z
    have p := pow_le7 o.s2 (n := k) (by omega)
    obtain ⟨b9, e⟩ := rows_in o h x0 x2 x3 x4 x5 (.v (.lst (vrD (vr F.size k)))) (.v d) x10 x11 x12 x13 x14 x15 x16 x17 x18 x19 (vr F.size k) [] x9 (fun r hr => by rw [vr_row k r hr]; omega) (by
      rw [vr_len]
      have : F.size ^ k * F.size ≤ 2187 * 3 := Nat.mul_le_mul p o.s2
      simp; omega)
    obtain ⟨c7, c8, c9, e'⟩ := rows_out o h x0 x2 x3 x4 x5 x10 x11 x12 x13 x14 x15 x16 x17 x18 x19 ds (k + 1) (.v d) (.v (.lst (vrD (vr F.size (k + 1))))) b9 (by omega)
    refine ⟨c7, c8, c9, ?_⟩
    rw [forF_nx (δ1 := [x0, .v F.d, x2, x3, x4, x5, .v (.lst (vrD (vr F.size k))), .v d, x8, x9, x10, x11, x12, x13, x14, x15, x16, x17, x18, x19]) (δ2 := [x0, .v F.d, x2, x3, x4, x5, .v (.lst (vrD (vr F.size (k + 1)))), .v d, .v (.lst (vrD (vr F.size (k + 1)))), b9, x10, x11, x12, x13, x14, x15, x16, x17, x18, x19]) (h2 := h) rfl ?_, e']
    · have : k + 1 + ds.length = k + (d :: ds).length := by simp; omega
      rw [this]
    · rw [p_law_3b_6b, seq_nx (δ' := [x0, .v F.d, x2, x3, x4, x5, .v (.lst (vrD (vr F.size k))), .v d, .own [], x9, x10, x11, x12, x13, x14, x15, x16, x17, x18, x19]) (h' := h) (by simp [p_law_3b_6b_1])]
      rw [seq_nx (δ' := [x0, .v F.d, x2, x3, x4, x5, .v (.lst (vrD (vr F.size k))), .v d, .own (vrD (vr F.size (k + 1))), b9, x10, x11, x12, x13, x14, x15, x16, x17, x18, x19]) (h' := h) ?_]
      · simp [p_law_3b_6b_3]
      · rw [p_law_3b_6b_2, forS_ap]
        have it : itemsI (varF 6) [x0, .v F.d, x2, x3, x4, x5, .v (.lst (vrD (vr F.size k))), .v d, .own [], x9, x10, x11, x12, x13, x14, x15, x16, x17, x18, x19] h = .ok (vrD (vr F.size k)) h := by simp
        rw [it, R.toS_ok, e]
        rfl
theorem five (o : F.ok) (p : Pp F l) (hl : dtOk F dt) (x0 x2 x6 x7 x8 x9 x16 x17 x18 x19 : SV) : ∀ (ds : List D) (h : Bx) (x10 x11 x12 x13 x14 x15 : SV), Bo hs h →
    ∃ b10 b11 b12 b13 b14 b15 h', forF (nameU 10) p_law_3b_8b ds [x0, .v F.d, x2, .v (.ptr hs.length), .v (.tup (rowsD l)), .v (.tup (nsD dt)), x6, x7, x8, x9, x10, x11, x12, x13, x14, x15, x16, x17, x18, x19] h
      = .nx [x0, .v F.d, x2, .v (.ptr hs.length), .v (.tup (rowsD l)), .v (.tup (nsD dt)), x6, x7, x8, x9, b10, b11, b12, b13, b14, b15, x16, x17, x18, x19] h' ∧ Bo hs h'
  | [], h, x10, x11, x12, x13, x14, x15, B => ⟨x10, x11, x12, x13, x14, x15, h, rfl, B⟩
  | d :: ds, h, x10, x11, x12, x13, x14, x15, B => by
    obtain ⟨b11, b12, b13, b14, b15, h1, e1, B1⟩ := turn8 o p hl B x0 x2 x6 x7 x8 x9 (.v d) x11 x12 x13 x14 x15 x16 x17 x18 x19
    obtain ⟨c10, c11, c12, c13, c14, c15, h2, e2, B2⟩ := five o p hl x0 x2 x6 x7 x8 x9 x16 x17 x18 x19 ds h1 (.v d) b11 b12 b13 b14 b15 B1
    refine ⟨c10, c11, c12, c13, c14, c15, h2, ?_, B2⟩
    rw [forF_nx (δ1 := [x0, .v F.d, x2, .v (.ptr hs.length), .v (.tup (rowsD l)), .v (.tup (nsD dt)), x6, x7, x8, x9, .v d, x11, x12, x13, x14, x15, x16, x17, x18, x19]) rfl e1, e2]
end
/-! ### the last three -/
theorem lam3 {δ : DE} {h : Bx} : lf_law_3 δ h = .exc "InvalidFrame" [("at", .int (-1))] h := by
  have e := nf_any (d := .non) rfl h
  have e : F_need_frame [.non] h = .exc "InvalidFrame" [("at", .int (-1))] h := e
  simp [lf_law_3, F_unrolled, runF_ap, sf_unrolled, F_need_program, sf_need_program, startD, e]
theorem lam4 {F : Frm} (o : F.ok) {δ : DE} {h : Bx} (e1 : δ[1]? = some (.v F.d)) : lf_law_4 δ h = .exc "InvalidProgram" [("at", .int (-1))] h := by
  have e := np_any o (d := .non) rfl (by decide) h
  have e : F_need_program [F.d, .non] h = .exc "InvalidProgram" [("at", .int (-1))] h := e
  simp [lf_law_4, F_unrolled, runF_ap, sf_unrolled, startD, e, e1]
theorem lam5 {F : Frm} (o : F.ok) {δ : DE} {h : Bx} (e1 : δ[1]? = some (.v F.d)) : lf_law_5 δ h = .exc "InvalidFrame" [("at", .int (-1))] h := by
  have r := frame_rg o
  have w : D.wd 1000 (.tup [.int F.size, .int F.regs, .int F.cells, .tup (F.tables.map fun t => .tup (nsD t))]) = true := by
    have q := (wd_mono (w' := 1000) (by omega) _ r.1)
    simp only [Frm.d, D.wd, D.wds, Bool.and_eq_true] at q ⊢
    exact ⟨by simp, q.2.1, q.2.2.1, q.2.2.2.1, q.2.2.2.2.1, trivial⟩
  have e := nf_any w h
  have e : F_need_frame [.tup [.int F.size, .int F.regs, .int F.cells, .tup (F.tables.map fun t => .tup (nsD t))]] h = .exc "InvalidFrame" [("at", .int (-1))] h := e
  rw [Frm.d] at e1
  simp [lf_law_5, F_all_data, runF_ap, sf_all_data, startD, e, e1]
def lc_tf (δ0 : DE) : DE → Bx → R Bool := (testF (bin2 (eqK true) (fun δ h => ((varF 18) δ h).bind fun d h1 => heardF bod_law N__law_heard.length sf__law_heard δ0 d h1) (varF 19)))
theorem lc_one {δ0 δ1 : DE} {m : Nat} {x : Str} {n : Int} {h h' : Bx} (e1 : δ1[18]? = some (.v (.lam m))) (e2 : δ1[19]? = some (.v (.tup [.str x, .int n]))) (e : heardF bod_law 2 sf__law_heard δ0 (.lam m) h = .ok (.tup [.str x, .int n]) h') :
    lc_tf δ0 δ1 h = .ok false h' := by
  simp [lc_tf, e1, e2, e, bOf]
theorem lcNL_ap {gi : DE → Bx → R (List D)} {vs : List Nat} {u : D → DE → Option DE} {tf : DE → DE → Bx → R Bool} {ef : DE → EF} {δ : DE} {h : Bx} : lcNL gi vs u tf ef δ h = lcN (fun _ h => gi δ h) vs u (tf δ) (ef δ) (pubD δ) h := rfl
theorem compF_no {u : D → DE → Option DE} {tf : DE → Bx → R Bool} {ef : EF} {δ δ1 : DE} {d : D} {ds : List D} {h h1 : Bx} (e1 : u d δ = some δ1) (e2 : tf δ1 h = .ok false h1) : compF u tf ef δ (d :: ds) h = compF u tf ef δ ds h1 := by
  rw [compF, e1]
  simp [e2]
theorem dp_app (a b : List Row) : rowsDp (a ++ b) = max (rowsDp a) (rowsDp b) := by
  induction a with
  | nil => show rowsDp b = max 0 (rowsDp b); omega
  | cons r a ih => show max r.dp (rowsDp (a ++ b)) = max (max r.dp (rowsDp a)) (rowsDp b); rw [ih]; omega
theorem dp_repl (n : Nat) (a : List Row) : rowsDp (List.replicate n a).flatten ≤ rowsDp a := by
  induction n with
  | zero => exact Nat.zero_le _
  | succ n ih => rw [List.replicate_succ, List.flatten_cons, dp_app]; omega
mutual
theorem plainRow_dp : ∀ r : Row, rowsDp (plainRow r) ≤ r.dp
  | .fork a x y => by
    have := plain_dp x; have := plain_dp y
    simp only [plainRow, rowsDp, Row.dp]; omega
  | .loop n x => by
    have h := plain_dp x
    have h2 := dp_repl n (plain x)
    simp only [plainRow, Row.dp]; omega
  | .op _ _ _ _ => Nat.le_refl _
  | .load _ _ => Nat.le_refl _
  | .store _ _ => Nat.le_refl _
  | .fence => Nat.le_refl _
theorem plain_dp : ∀ l : List Row, rowsDp (plain l) ≤ rowsDp l
  | [] => Nat.le_refl _
  | r :: rs => by
    have := plainRow_dp r; have := plain_dp rs
    simp only [plain, rowsDp]
    rw [dp_app]; omega
end
theorem plain_rg {l : List Row} (h : rowsCost l ≤ 900) (hd : rowsDp l ≤ 4) : Rg 900 12 (.tup (rowsD (plain l))) := by
  have := plain_cost l
  have := plain_dp l
  exact (rows_rg (plain l) (by omega)).mono (Nat.le_refl _) (by omega)
end LP
/-! K06n: the law. -/
namespace LP
open PySem PySem.Spec PyProof.Rows L2 HT
abbrev wk3 : D := .tup [.lam 3, .tup [.str "frame", .int (-1)]]
abbrev wk4 : D := .tup [.lam 4, .tup [.str "program", .int (-1)]]
abbrev wk5 : D := .tup [.lam 5, .tup [.str "frame", .int (-1)]]
theorem turn_k {ns : List Int} (hn : ns.length ≤ 63) {k : Nat} (hk : k ≤ 2) (h : Bx) (a1 a3 a4 a5 a6 a7 a8 a9 a10 a11 a12 a13 a14 a15 a16 a17 a18 a19 : SV) :
    ∃ b1 b3 b4 b5 b6 b7 b8 b9 b10 b11 b12 b13 b14 b15 b16 h', p_law_3b [.v (.frz (ns.map D.int)), a1, .v (.int k), a3, a4, a5, a6, a7, a8, a9, a10, a11, a12, a13, a14, a15, a16, a17, a18, a19] h
      = .nx [.v (.frz (ns.map D.int)), b1, .v (.int k), b3, b4, b5, b6, b7, b8, b9, b10, b11, b12, b13, b14, b15, b16, a17, a18, a19] h' := by
  obtain ⟨h1, e1, B1⟩ := box_ok hn (k := k) (by omega) h
  obtain ⟨F, h2, o, ht, e2, B2⟩ := frame_draw B1
  obtain ⟨m1, h3, m1', e3, B3⟩ := take_ok B2 (m := 6) (by omega) (by omega)
  obtain ⟨l, h4, D1, e4, B4⟩ := rows_drawN o ht (hs := h) rf 2 (by decide) (by omega) (m := m1) (by omega) B3
  obtain ⟨dt, h7, hdt, e7, B7⟩ := datum_draw o B4
  have c1 : rowsCost l ≤ 5 * 43 := Nat.le_trans D1.cost (Nat.mul_le_mul (by omega) (by decide))
  have d1 := D1.dp
  have p : Pp F l := ⟨D1.ok, by omega, by omega⟩
  have r2 := o.r2
  have hc : F.cells ≤ 3 := by have := o.c; have := o.s2; omega
  -- data of all three
  have rF := frame_rg o
  have rl := rows_rg l p.cost
  have rd : Rg 900 1 (.tup (nsD dt)) := rg_ints (k := 0) (by rw [hdt.len]; omega)
  have ql := rl.2
  have kF := fun δ h => eqK_same (k := 3) (by omega) rF (δ := δ) (h := h)
  have kl := fun δ h => eqK_same (k := 2 * rowsDp l + 2) (by omega) rl (δ := δ) (h := h)
  have kd := fun δ h => eqK_same (k := 1) (by omega) rd (δ := δ) (h := h)
  have f1 := frame_ok o h7
  have f2 := prog_ok o p.ok (by omega) (by show 2 * rowsDp l + 1 ≤ 12; omega) h7
  have f3 := nd_ok o hdt h7
  have s1 : p_law_3b_1 [.v (.frz (ns.map D.int)), a1, .v (.int k), a3, a4, a5, a6, a7, a8, a9, a10, a11, a12, a13, a14, a15, a16, a17, a18, a19] h = .nx [.v (.frz (ns.map D.int)), a1, .v (.int k), .v (.ptr h.length), a4, a5, a6, a7, a8, a9, a10, a11, a12, a13, a14, a15, a16, a17, a18, a19] h1 := by simp [p_law_3b_1, e1]
  have s2 : p_law_3b_2 [.v (.frz (ns.map D.int)), a1, .v (.int k), .v (.ptr h.length), a4, a5, a6, a7, a8, a9, a10, a11, a12, a13, a14, a15, a16, a17, a18, a19] h1 = .nx [.v (.frz (ns.map D.int)), .v F.d, .v (.int k), .v (.ptr h.length), a4, a5, a6, a7, a8, a9, a10, a11, a12, a13, a14, a15, a16, a17, a18, a19] h2 := by simp [p_law_3b_2, e2]
  have s3 : p_law_3b_3 [.v (.frz (ns.map D.int)), .v F.d, .v (.int k), .v (.ptr h.length), a4, a5, a6, a7, a8, a9, a10, a11, a12, a13, a14, a15, a16, a17, a18, a19] h2 = .nx [.v (.frz (ns.map D.int)), .v F.d, .v (.int k), .v (.ptr h.length), .v (.tup (rowsD l)), .v (.tup (nsD dt)), a6, a7, a8, a9, a10, a11, a12, a13, a14, a15, a16, a17, a18, a19] h7 := by
    simp at e3 e4
    simp [p_law_3b_3, e3, e4, e7]
  have s4 : p_law_3b_4 [.v (.frz (ns.map D.int)), .v F.d, .v (.int k), .v (.ptr h.length), .v (.tup (rowsD l)), .v (.tup (nsD dt)), a6, a7, a8, a9, a10, a11, a12, a13, a14, a15, a16, a17, a18, a19] h7 = .nx [.v (.frz (ns.map D.int)), .v F.d, .v (.int k), .v (.ptr h.length), .v (.tup (rowsD l)), .v (.tup (nsD dt)), a6, a7, a8, a9, a10, a11, a12, a13, a14, a15, a16, a17, a18, a19] h7 := by
    simp [p_law_3b_4, f1, f2, f3, kF, kl, kd, -eqK_ap]
  have s5 : p_law_3b_5 [.v (.frz (ns.map D.int)), .v F.d, .v (.int k), .v (.ptr h.length), .v (.tup (rowsD l)), .v (.tup (nsD dt)), a6, a7, a8, a9, a10, a11, a12, a13, a14, a15, a16, a17, a18, a19] h7 = .nx [.v (.frz (ns.map D.int)), .v F.d, .v (.int k), .v (.ptr h.length), .v (.tup (rowsD l)), .v (.tup (nsD dt)), .v (.lst (vrD (vr F.size 0))), a7, a8, a9, a10, a11, a12, a13, a14, a15, a16, a17, a18, a19] h7 := by
    simp [p_law_3b_5, vr, vrD, nsD]
  obtain ⟨b7, b8, b9, q6⟩ := rows_out o h7 (.v (.frz (ns.map D.int))) (.v (.int k)) (.v (.ptr h.length)) (.v (.tup (rowsD l))) (.v (.tup (nsD dt))) a10 a11 a12 a13 a14 a15 a16 a17 a18 a19 (rgD 0 ((F.regs + F.cells : Nat) : Int)) 0 a7 a8 a9 (by rw [rgD_length]; omega)
  rw [rgD_length, Nat.zero_add] at q6
  have s6 : p_law_3b_6 [.v (.frz (ns.map D.int)), .v F.d, .v (.int k), .v (.ptr h.length), .v (.tup (rowsD l)), .v (.tup (nsD dt)), .v (.lst (vrD (vr F.size 0))), a7, a8, a9, a10, a11, a12, a13, a14, a15, a16, a17, a18, a19] h7 = .nx [.v (.frz (ns.map D.int)), .v F.d, .v (.int k), .v (.ptr h.length), .v (.tup (rowsD l)), .v (.tup (nsD dt)), .v (.lst (vrD (vr F.size (F.regs + F.cells)))), b7, b8, b9, a10, a11, a12, a13, a14, a15, a16, a17, a18, a19] h7 := by
    have it : ((consA (bin2 addK (bin2 ixK (varF 1) (cF (.int 1))) (bin2 ixK (varF 1) (cF (.int 2)))) nilA) [.v (.frz (ns.map D.int)), .v F.d, .v (.int k), .v (.ptr h.length), .v (.tup (rowsD l)), .v (.tup (nsD dt)), .v (.lst (vrD (vr F.size 0))), a7, a8, a9, a10, a11, a12, a13, a14, a15, a16, a17, a18, a19] h7).bind rg1K = .ok (rgD 0 ((F.regs + F.cells : Nat) : Int)) h7 := by
      have := rgC_nat (n := F.regs + F.cells) (by omega)
      rw [Int.natCast_add] at this ⊢
      simp [this]
    rw [p_law_3b_6, forS_ap, it, R.toS_ok, q6]
  have g1 := alldata_ok o h7
  have g2 := unrolled_ok o p.ok (by omega) p.dp h7
  have g3 := lplain_ok (F := F) h7 rf l p.ok (by omega) (by show rowsDp l < 12; omega)
  have rv : Rg 3000 2 (.tup (vrD (vr F.size (F.regs + F.cells)))) := by
    refine rg_tup (k := 1) ?_ fun d hd => ?_
    · rw [vrD_len, vr_len]
      have := pow_le7 o.s2 (n := F.regs + F.cells) (by omega)
      omega
    · obtain ⟨r, hr, rfl⟩ := List.mem_map.mp hd
      exact rg_ints (k := 0) (by rw [vr_row _ r hr]; omega)
  have kv := fun δ h => eqK_same (k := 2) (by omega) rv (δ := δ) (h := h)
  have rp := plain_rg (l := l) (by omega) p.dp
  have kp := fun δ h => eqK_same (k := 12) (by omega) rp (δ := δ) (h := h)
  have s7 : p_law_3b_7 [.v (.frz (ns.map D.int)), .v F.d, .v (.int k), .v (.ptr h.length), .v (.tup (rowsD l)), .v (.tup (nsD dt)), .v (.lst (vrD (vr F.size (F.regs + F.cells)))), b7, b8, b9, a10, a11, a12, a13, a14, a15, a16, a17, a18, a19] h7 = .nx [.v (.frz (ns.map D.int)), .v F.d, .v (.int k), .v (.ptr h.length), .v (.tup (rowsD l)), .v (.tup (nsD dt)), .v (.lst (vrD (vr F.size (F.regs + F.cells)))), b7, b8, b9, a10, a11, a12, a13, a14, a15, a16, a17, a18, a19] h7 := by
    simp [p_law_3b_7, g1, g2, g3, kv, kp, -eqK_ap]
  obtain ⟨b10, b11, b12, b13, b14, b15, h8, q8, B8⟩ := five o p hdt (.v (.frz (ns.map D.int))) (.v (.int k)) (.v (.lst (vrD (vr F.size (F.regs + F.cells))))) b7 b8 b9 a16 a17 a18 a19 (rgD 0 5) h7 a10 a11 a12 a13 a14 a15 B7
  have s8 : p_law_3b_8 [.v (.frz (ns.map D.int)), .v F.d, .v (.int k), .v (.ptr h.length), .v (.tup (rowsD l)), .v (.tup (nsD dt)), .v (.lst (vrD (vr F.size (F.regs + F.cells)))), b7, b8, b9, a10, a11, a12, a13, a14, a15, a16, a17, a18, a19] h7 = .nx [.v (.frz (ns.map D.int)), .v F.d, .v (.int k), .v (.ptr h.length), .v (.tup (rowsD l)), .v (.tup (nsD dt)), .v (.lst (vrD (vr F.size (F.regs + F.cells)))), b7, b8, b9, b10, b11, b12, b13, b14, b15, a16, a17, a18, a19] h8 := by
    have it : ((consA (cF (.int 5)) nilA) [.v (.frz (ns.map D.int)), .v F.d, .v (.int k), .v (.ptr h.length), .v (.tup (rowsD l)), .v (.tup (nsD dt)), .v (.lst (vrD (vr F.size (F.regs + F.cells)))), b7, b8, b9, a10, a11, a12, a13, a14, a15, a16, a17, a18, a19] h7).bind rg1K = .ok (rgD 0 5) h7 := by
      have : rgC 5 = true := by decide
      simp [this]
    rw [p_law_3b_8, forS_ap, it, R.toS_ok, q8]
  have s9 : p_law_3b_9 [.v (.frz (ns.map D.int)), .v F.d, .v (.int k), .v (.ptr h.length), .v (.tup (rowsD l)), .v (.tup (nsD dt)), .v (.lst (vrD (vr F.size (F.regs + F.cells)))), b7, b8, b9, b10, b11, b12, b13, b14, b15, a16, a17, a18, a19] h8 = .nx [.v (.frz (ns.map D.int)), .v F.d, .v (.int k), .v (.ptr h.length), .v (.tup (rowsD l)), .v (.tup (nsD dt)), .v (.lst (vrD (vr F.size (F.regs + F.cells)))), b7, b8, b9, b10, b11, b12, b13, b14, b15, .own [wk3], a17, a18, a19] h8 := by simp [p_law_3b_9]
  have s10 : p_law_3b_10 [.v (.frz (ns.map D.int)), .v F.d, .v (.int k), .v (.ptr h.length), .v (.tup (rowsD l)), .v (.tup (nsD dt)), .v (.lst (vrD (vr F.size (F.regs + F.cells)))), b7, b8, b9, b10, b11, b12, b13, b14, b15, .own [wk3], a17, a18, a19] h8 = .nx [.v (.frz (ns.map D.int)), .v F.d, .v (.int k), .v (.ptr h.length), .v (.tup (rowsD l)), .v (.tup (nsD dt)), .v (.lst (vrD (vr F.size (F.regs + F.cells)))), b7, b8, b9, b10, b11, b12, b13, b14, b15, .own [wk3, wk4], a17, a18, a19] h8 := by simp [p_law_3b_10]
  have s11 : p_law_3b_11 [.v (.frz (ns.map D.int)), .v F.d, .v (.int k), .v (.ptr h.length), .v (.tup (rowsD l)), .v (.tup (nsD dt)), .v (.lst (vrD (vr F.size (F.regs + F.cells)))), b7, b8, b9, b10, b11, b12, b13, b14, b15, .own [wk3, wk4], a17, a18, a19] h8 = .nx [.v (.frz (ns.map D.int)), .v F.d, .v (.int k), .v (.ptr h.length), .v (.tup (rowsD l)), .v (.tup (nsD dt)), .v (.lst (vrD (vr F.size (F.regs + F.cells)))), b7, b8, b9, b10, b11, b12, b13, b14, b15, .own [wk3, wk4, wk5], a17, a18, a19] h8 := by simp [p_law_3b_11]
  have s12 : p_law_3b_12 [.v (.frz (ns.map D.int)), .v F.d, .v (.int k), .v (.ptr h.length), .v (.tup (rowsD l)), .v (.tup (nsD dt)), .v (.lst (vrD (vr F.size (F.regs + F.cells)))), b7, b8, b9, b10, b11, b12, b13, b14, b15, .own [wk3, wk4, wk5], a17, a18, a19] h8 = .nx [.v (.frz (ns.map D.int)), .v F.d, .v (.int k), .v (.ptr h.length), .v (.tup (rowsD l)), .v (.tup (nsD dt)), .v (.lst (vrD (vr F.size (F.regs + F.cells)))), b7, b8, b9, b10, b11, b12, b13, b14, b15, .v (.lst [wk3, wk4, wk5]), a17, a18, a19] h8 := by
    generalize hδ : ([.v (.frz (ns.map D.int)), .v F.d, .v (.int k), .v (.ptr h.length), .v (.tup (rowsD l)), .v (.tup (nsD dt)), .v (.lst (vrD (vr F.size (F.regs + F.cells)))), b7, b8, b9, b10, b11, b12, b13, b14, b15, .v (.lst [wk3, wk4, wk5]), a17, a18, a19] : DE) = δ0
    have key : lcNL (itemsI (varF 16)) [18, 19] (tupU 2 (consU (nameU 18) (consU (nameU 19) nilU))) lc_tf (fun δ0 => (varF 18)) δ0 h8 = .ok [] h8 := by
      have q1 : (pubD δ0)[1]? = some (.v F.d) := by rw [← hδ]; rfl
      have p3 : heardF bod_law 2 sf__law_heard δ0 (.lam 3) h8 = .ok (.tup [.str "frame", .int (-1)]) h8 := by rw [heardF_ap]; exact heard_f rfl (by rw [bod3]; exact lam3)
      have p4 : heardF bod_law 2 sf__law_heard δ0 (.lam 4) h8 = .ok (.tup [.str "program", .int (-1)]) h8 := by rw [heardF_ap]; exact heard_p rfl (by rw [bod4]; exact lam4 o q1)
      have p5 : heardF bod_law 2 sf__law_heard δ0 (.lam 5) h8 = .ok (.tup [.str "frame", .int (-1)]) h8 := by rw [heardF_ap]; exact heard_f rfl (by rw [bod5]; exact lam5 o q1)
      rw [lcNL_ap, lcN_ap]
      have it : itemsI (varF 16) δ0 h8 = .ok [wk3, wk4, wk5] h8 := by rw [← hδ]; simp
      rw [it, R.bind_ok, if_pos (by simp)]
      subst hδ
      refine (compF_no rfl (lc_one rfl rfl p3)).trans ?_
      refine (compF_no rfl (lc_one rfl rfl p4)).trans ?_
      refine (compF_no rfl (lc_one rfl rfl p5)).trans ?_
      rfl
    unfold lc_tf at key
    rw [p_law_3b_12, frzS_ap]
    subst hδ
    simp at key
    simp [key]
  refine ⟨.v F.d, .v (.ptr h.length), .v (.tup (rowsD l)), .v (.tup (nsD dt)), .v (.lst (vrD (vr F.size (F.regs + F.cells)))), b7, b8, b9, b10, b11, b12, b13, b14, b15, .v (.lst [wk3, wk4, wk5]), h8, ?_⟩
  rw [p_law_3b, seq_nx s1, seq_nx s2, seq_nx s3, seq_nx s4, seq_nx s5, seq_nx s6, seq_nx s7, seq_nx s8, seq_nx s9, seq_nx s10, seq_nx s11]
  exact s12
/-! ### the first look -/
def F0 : Frm := ⟨2, 1, 2, [], 1⟩
def l00 : List Row := [.loop 2 [.fence], .loop 0 [.fence]]
theorem F0_ok : F0.ok := ⟨by decide, by decide, by decide, by decide, .inr rfl, by decide, by decide, by decide⟩
abbrev dF0 : D := .tup [.int 2, .int 1, .int 2, .tup [], .int 1]
abbrev dl0 : D := .tup [.tup [.str "loop", .int 2, .tup [.tup [.str "fence"]]], .tup [.str "loop", .int 0, .tup [.tup [.str "fence"]]]]
theorem first_ok (h : Bx) : F_all_data [dF0] h = .ok (.tup [.tup [.int 0, .int 0, .int 0], .tup [.int 0, .int 0, .int 1], .tup [.int 0, .int 1, .int 0], .tup [.int 0, .int 1, .int 1], .tup [.int 1, .int 0, .int 0], .tup [.int 1, .int 0, .int 1], .tup [.int 1, .int 1, .int 0], .tup [.int 1, .int 1, .int 1]]) h :=
  alldata_ok F0_ok h
theorem second_ok (h : Bx) : F_unrolled [dF0, dl0] h = .ok (.tup [.tup [.str "fence"], .tup [.str "fence"]]) h :=
  unrolled_ok F0_ok (l := l00) ⟨⟨by decide, trivial, trivial⟩, ⟨by decide, trivial, trivial⟩, trivial⟩ (by decide) (by decide) h
theorem law_ok (ns : List Int) (hn : ns.length ≤ 63) (hb : ∀ z ∈ ns, PySem.Builtin.Int.intBits z ≤ 1048576) : ∃ h, runF N_law.length sf_law [.frz (ns.map D.int)] [] = .ok (.bl true) h := by
  have loop : ∀ (ks : List Nat), (∀ k ∈ ks, k ≤ 2) → ∀ (h : Bx) (a1 a2 a3 a4 a5 a6 a7 a8 a9 a10 a11 a12 a13 a14 a15 a16 a17 a18 a19 : SV), ∃ δ h', forF (nameU 2) p_law_3b (ks.map fun k => D.int (k : Nat)) [.v (.frz (ns.map D.int)), a1, a2, a3, a4, a5, a6, a7, a8, a9, a10, a11, a12, a13, a14, a15, a16, a17, a18, a19] h = .nx δ h' := fun ks => by
    induction ks with
    | nil => exact fun _ h _ _ _ _ _ _ _ _ _ _ _ _ _ _ _ _ _ _ _ => ⟨_, h, rfl⟩
    | cons k ks ih =>
      intro hk h a1 a2 a3 a4 a5 a6 a7 a8 a9 a10 a11 a12 a13 a14 a15 a16 a17 a18 a19
      obtain ⟨b1, b3, b4, b5, b6, b7, b8, b9, b10, b11, b12, b13, b14, b15, b16, h1, e⟩ := turn_k hn (hk k (List.mem_cons_self ..)) h a1 a3 a4 a5 a6 a7 a8 a9 a10 a11 a12 a13 a14 a15 a16 a17 a18 a19
      obtain ⟨δ, h', e2⟩ := ih (fun i hi => hk i (List.mem_cons_of_mem _ hi)) h1 b1 (.v (.int k)) b3 b4 b5 b6 b7 b8 b9 b10 b11 b12 b13 b14 b15 b16 a17 a18 a19
      refine ⟨δ, h', ?_⟩
      rw [List.map_cons, forF_nx (δ1 := [.v (.frz (ns.map D.int)), a1, .v (.int k), a3, a4, a5, a6, a7, a8, a9, a10, a11, a12, a13, a14, a15, a16, a17, a18, a19]) rfl e, e2]
  have rg2' : rgD 0 2 = [0, 1].map fun k : Nat => D.int (k : Nat) := rfl
  obtain ⟨δ, h', e⟩ := loop [0, 1] (by simp) [] (.v dF0) .no .no .no .no .no .no .no .no .no .no .no .no .no .no .no .no .no .no
  refine ⟨h', ?_⟩
  rw [← rg2'] at e
  rw [runF_ap, sf_law_eq, p_law]
  rw [seq_nx (δ' := [.v (.frz (ns.map D.int)), .v dF0, .no, .no, .no, .no, .no, .no, .no, .no, .no, .no, .no, .no, .no, .no, .no, .no, .no, .no]) (h' := []) (by simp [startD, p_law_1])]
  rw [seq_nx (δ' := [.v (.frz (ns.map D.int)), .v dF0, .no, .no, .no, .no, .no, .no, .no, .no, .no, .no, .no, .no, .no, .no, .no, .no, .no, .no]) (h' := []) (by simp (decide := true) [p_law_2, first_ok, second_ok, repD])]
  rw [seq_nx (δ' := δ) (h' := h') ?_]
  · rfl
  · rw [p_law_3, forS_ap]
    have s : ((consA (cF (.int 2)) nilA) [.v (.frz (ns.map D.int)), .v dF0, .no, .no, .no, .no, .no, .no, .no, .no, .no, .no, .no, .no, .no, .no, .no, .no, .no, .no] []).bind rg1K = .ok (rgD 0 2) [] := by
      have : rgC 2 = true := by decide
      simp [this]
    rw [s]
    exact e
end LP
namespace LP
open PySem PySem.Spec PyProof.Rows L2 HT
theorem all_mk {w : World} {K : PySem.W.Frag} {h : Heap} {mg : Str → Option Value} {fa : Addr} (X : K.In h) (G : h.Ns mainGlobals mg) (hfa : mg "law" = some (.ref fa))
    {a0 : Addr} {od0 an0 : Option Addr} {sl0 : Array (Option Value)} {oc0 kV0 dc0 pm0 cd0 ct0 : Value}
    {a1 : Addr} {od1 an1 : Option Addr} {sl1 : Array (Option Value)} {oc1 kV1 dc1 pm1 cd1 ct1 : Value}
    {a2 : Addr} {od2 an2 : Option Addr} {sl2 : Array (Option Value)} {oc2 kV2 dc2 pm2 cd2 ct2 : Value}
    {a3 : Addr} {od3 an3 : Option Addr} {sl3 : Array (Option Value)} {oc3 kV3 dc3 pm3 cd3 ct3 : Value}
    {a4 : Addr} {od4 an4 : Option Addr} {sl4 : Array (Option Value)} {oc4 kV4 dc4 pm4 cd4 ct4 : Value}
    {a5 : Addr} {od5 an5 : Option Addr} {sl5 : Array (Option Value)} {oc5 kV5 dc5 pm5 cd5 ct5 : Value}
    {a6 : Addr} {od6 an6 : Option Addr} {sl6 : Array (Option Value)} {oc6 kV6 dc6 pm6 cd6 ct6 : Value}
    {a7 : Addr} {od7 an7 : Option Addr} {sl7 : Array (Option Value)} {oc7 kV7 dc7 pm7 cd7 ct7 : Value}
    {a8 : Addr} {od8 an8 : Option Addr} {sl8 : Array (Option Value)} {oc8 kV8 dc8 pm8 cd8 ct8 : Value}
    {a9 : Addr} {od9 an9 : Option Addr} {sl9 : Array (Option Value)} {oc9 kV9 dc9 pm9 cd9 ct9 : Value}
    {a10 : Addr} {od10 an10 : Option Addr} {sl10 : Array (Option Value)} {oc10 kV10 dc10 pm10 cd10 ct10 : Value}
    {a11 : Addr} {od11 an11 : Option Addr} {sl11 : Array (Option Value)} {oc11 kV11 dc11 pm11 cd11 ct11 : Value}
    {a12 : Addr} {od12 an12 : Option Addr} {sl12 : Array (Option Value)} {oc12 kV12 dc12 pm12 cd12 ct12 : Value}
    {a13 : Addr} {od13 an13 : Option Addr} {sl13 : Array (Option Value)} {oc13 kV13 dc13 pm13 cd13 ct13 : Value}
    {a14 : Addr} {od14 an14 : Option Addr} {sl14 : Array (Option Value)} {oc14 kV14 dc14 pm14 cd14 ct14 : Value}
    {a15 : Addr} {od15 an15 : Option Addr} {sl15 : Array (Option Value)} {oc15 kV15 dc15 pm15 cd15 ct15 : Value}
    {a16 : Addr} {od16 an16 : Option Addr} {sl16 : Array (Option Value)} {oc16 kV16 dc16 pm16 cd16 ct16 : Value}
    {a17 : Addr} {od17 an17 : Option Addr} {sl17 : Array (Option Value)} {oc17 kV17 dc17 pm17 cd17 ct17 : Value}
    {a18 : Addr} {od18 an18 : Option Addr} {sl18 : Array (Option Value)} {oc18 kV18 dc18 pm18 cd18 ct18 : Value}
    {a19 : Addr} {od19 an19 : Option Addr} {sl19 : Array (Option Value)} {oc19 kV19 dc19 pm19 cd19 ct19 : Value}
    {a20 : Addr} {od20 an20 : Option Addr} {sl20 : Array (Option Value)} {oc20 kV20 dc20 pm20 cd20 ct20 : Value}
    {a21 : Addr} {od21 an21 : Option Addr} {sl21 : Array (Option Value)} {oc21 kV21 dc21 pm21 cd21 ct21 : Value}
    {a22 : Addr} {od22 an22 : Option Addr} {sl22 : Array (Option Value)} {oc22 kV22 dc22 pm22 cd22 ct22 : Value}
    {a23 : Addr} {od23 an23 : Option Addr} {sl23 : Array (Option Value)} {oc23 kV23 dc23 pm23 cd23 ct23 : Value}
    {a24 : Addr} {od24 an24 : Option Addr} {sl24 : Array (Option Value)} {oc24 kV24 dc24 pm24 cd24 ct24 : Value}
    {a25 : Addr} {od25 an25 : Option Addr} {sl25 : Array (Option Value)} {oc25 kV25 dc25 pm25 cd25 ct25 : Value}
    {a26 : Addr} {od26 an26 : Option Addr} {sl26 : Array (Option Value)} {oc26 kV26 dc26 pm26 cd26 ct26 : Value}
    {a27 : Addr} {od27 an27 : Option Addr} {sl27 : Array (Option Value)} {oc27 kV27 dc27 pm27 cd27 ct27 : Value}
    {a28 : Addr} {od28 an28 : Option Addr} {sl28 : Array (Option Value)} {oc28 kV28 dc28 pm28 cd28 ct28 : Value}
    {a29 : Addr} {od29 an29 : Option Addr} {sl29 : Array (Option Value)} {oc29 kV29 dc29 pm29 ct29 : Value} {cb29 : Addr}
    {ob29 : Option Addr} {vb29 : Array Value} {sb29 : Array (Option Value)} {P29 : Addr}
    {k_MOST_DEEP : Tok}
    {k_MOST_TABLES : Tok}
    {k_MOST_TIMES : Tok}
    {p_ROW_SIZES : Addr} {es_ROW_SIZES : Array DictEntry} {m_ROW_SIZES : Nat}
    {t0_ROW_SIZES : Tok}
    {t1_ROW_SIZES : Tok}
    {t2_ROW_SIZES : Tok}
    {t3_ROW_SIZES : Tok}
    {t4_ROW_SIZES : Tok}
    {t5_ROW_SIZES : Tok}
    {C_InvalidFrame : Addr}
    {C_InvalidProgram : Addr}
    {C_InvalidDatum : Addr}
    {nm_InvalidFrame xq_InvalidFrame : Str} {N_InvalidFrame : Addr} {bs_InvalidFrame bm_InvalidFrame : List Value} {sn_InvalidFrame : List Str} {su_InvalidFrame : List Value} {ab_InvalidFrame : Bool} {co_InvalidFrame : Option Bool} {dd_InvalidFrame : Option Addr} {k0_InvalidFrame k1_InvalidFrame k2_InvalidFrame k3_InvalidFrame k5_InvalidFrame : Option Value}
    {f_InvalidFrame : Addr} {oc_InvalidFrame dV_InvalidFrame kV_InvalidFrame do_InvalidFrame pm_InvalidFrame ct_InvalidFrame : Value} {od_InvalidFrame an_InvalidFrame : Option Addr} {os_InvalidFrame : Array (Option Value)} {cc_InvalidFrame cda_InvalidFrame : Addr} {ccl_InvalidFrame cl_InvalidFrame : Value} {cdd_InvalidFrame cld_InvalidFrame : Option Addr} {ccs_InvalidFrame csl_InvalidFrame : Array (Option Value)} {vs_InvalidFrame : Array Value} {fi_InvalidFrame : Str} {tf_InvalidFrame : Tok}
    {nm_InvalidProgram xq_InvalidProgram : Str} {N_InvalidProgram : Addr} {bs_InvalidProgram bm_InvalidProgram : List Value} {sn_InvalidProgram : List Str} {su_InvalidProgram : List Value} {ab_InvalidProgram : Bool} {co_InvalidProgram : Option Bool} {dd_InvalidProgram : Option Addr} {k0_InvalidProgram k1_InvalidProgram k2_InvalidProgram k3_InvalidProgram k5_InvalidProgram : Option Value}
    {f_InvalidProgram : Addr} {oc_InvalidProgram dV_InvalidProgram kV_InvalidProgram do_InvalidProgram pm_InvalidProgram ct_InvalidProgram : Value} {od_InvalidProgram an_InvalidProgram : Option Addr} {os_InvalidProgram : Array (Option Value)} {cc_InvalidProgram cda_InvalidProgram : Addr} {ccl_InvalidProgram cl_InvalidProgram : Value} {cdd_InvalidProgram cld_InvalidProgram : Option Addr} {ccs_InvalidProgram csl_InvalidProgram : Array (Option Value)} {vs_InvalidProgram : Array Value} {fi_InvalidProgram : Str} {tf_InvalidProgram : Tok}
    {nm_InvalidDatum xq_InvalidDatum : Str} {N_InvalidDatum : Addr} {bs_InvalidDatum bm_InvalidDatum : List Value} {sn_InvalidDatum : List Str} {su_InvalidDatum : List Value} {ab_InvalidDatum : Bool} {co_InvalidDatum : Option Bool} {dd_InvalidDatum : Option Addr} {k0_InvalidDatum k1_InvalidDatum k2_InvalidDatum k3_InvalidDatum k5_InvalidDatum : Option Value}
    {f_InvalidDatum : Addr} {oc_InvalidDatum dV_InvalidDatum kV_InvalidDatum do_InvalidDatum pm_InvalidDatum ct_InvalidDatum : Value} {od_InvalidDatum an_InvalidDatum : Option Addr} {os_InvalidDatum : Array (Option Value)} {cc_InvalidDatum cda_InvalidDatum : Addr} {ccl_InvalidDatum cl_InvalidDatum : Value} {cdd_InvalidDatum cld_InvalidDatum : Option Addr} {ccs_InvalidDatum csl_InvalidDatum : Array (Option Value)} {vs_InvalidDatum : Array Value} {fi_InvalidDatum : Str} {tf_InvalidDatum : Tok}
    {Cb : Addr}
    (ha0 : PySem.W.nsIn K mainGlobals "is_integer" = some (some (.ref a0))) (hl0 : K.lookup a0 = some ⟨oc0, od0, .func (PySem.W.fnOf "is_integer" "is_integer" (defArgs s_is_integer) (defBody s_is_integer) (defScope s_is_integer) .none kV0 dc0 pm0 an0 cd0 ct0), sl0⟩) (hc0 : PySem.W.codeIn K cd0 "is_integer" = true) (hk0 : PySem.W.keepIn K (.ref a0) = true)
    (ha1 : PySem.W.nsIn K mainGlobals "is_number" = some (some (.ref a1))) (hl1 : K.lookup a1 = some ⟨oc1, od1, .func (PySem.W.fnOf "is_number" "is_number" (defArgs s_is_number) (defBody s_is_number) (defScope s_is_number) .none kV1 dc1 pm1 an1 cd1 ct1), sl1⟩) (hc1 : PySem.W.codeIn K cd1 "is_number" = true) (hk1 : PySem.W.keepIn K (.ref a1) = true)
    (ha2 : PySem.W.nsIn K mainGlobals "is_below" = some (some (.ref a2))) (hl2 : K.lookup a2 = some ⟨oc2, od2, .func (PySem.W.fnOf "is_below" "is_below" (defArgs s_is_below) (defBody s_is_below) (defScope s_is_below) .none kV2 dc2 pm2 an2 cd2 ct2), sl2⟩) (hc2 : PySem.W.codeIn K cd2 "is_below" = true) (hk2 : PySem.W.keepIn K (.ref a2) = true)
    (ha3 : PySem.W.nsIn K mainGlobals "is_string" = some (some (.ref a3))) (hl3 : K.lookup a3 = some ⟨oc3, od3, .func (PySem.W.fnOf "is_string" "is_string" (defArgs s_is_string) (defBody s_is_string) (defScope s_is_string) .none kV3 dc3 pm3 an3 cd3 ct3), sl3⟩) (hc3 : PySem.W.codeIn K cd3 "is_string" = true) (hk3 : PySem.W.keepIn K (.ref a3) = true)
    (ha4 : PySem.W.nsIn K mainGlobals "is_table" = some (some (.ref a4))) (hl4 : K.lookup a4 = some ⟨oc4, od4, .func (PySem.W.fnOf "is_table" "is_table" (defArgs s_is_table) (defBody s_is_table) (defScope s_is_table) .none kV4 dc4 pm4 an4 cd4 ct4), sl4⟩) (hc4 : PySem.W.codeIn K cd4 "is_table" = true) (hk4 : PySem.W.keepIn K (.ref a4) = true)
    (ha5 : PySem.W.nsIn K mainGlobals "need_frame" = some (some (.ref a5))) (hl5 : K.lookup a5 = some ⟨oc5, od5, .func (PySem.W.fnOf "need_frame" "need_frame" (defArgs s_need_frame) (defBody s_need_frame) (defScope s_need_frame) .none kV5 dc5 pm5 an5 cd5 ct5), sl5⟩) (hc5 : PySem.W.codeIn K cd5 "need_frame" = true) (hk5 : PySem.W.keepIn K (.ref a5) = true)
    (ha6 : PySem.W.nsIn K mainGlobals "value_rows" = some (some (.ref a6))) (hl6 : K.lookup a6 = some ⟨oc6, od6, .func (PySem.W.fnOf "value_rows" "value_rows" (defArgs s_value_rows) (defBody s_value_rows) (defScope s_value_rows) .none kV6 dc6 pm6 an6 cd6 ct6), sl6⟩) (hc6 : PySem.W.codeIn K cd6 "value_rows" = true) (hk6 : PySem.W.keepIn K (.ref a6) = true)
    (ha7 : PySem.W.nsIn K mainGlobals "all_data" = some (some (.ref a7))) (hl7 : K.lookup a7 = some ⟨oc7, od7, .func (PySem.W.fnOf "all_data" "all_data" (defArgs s_all_data) (defBody s_all_data) (defScope s_all_data) .none kV7 dc7 pm7 an7 cd7 ct7), sl7⟩) (hc7 : PySem.W.codeIn K cd7 "all_data" = true) (hk7 : PySem.W.keepIn K (.ref a7) = true)
    (ha8 : PySem.W.nsIn K mainGlobals "is_datum" = some (some (.ref a8))) (hl8 : K.lookup a8 = some ⟨oc8, od8, .func (PySem.W.fnOf "is_datum" "is_datum" (defArgs s_is_datum) (defBody s_is_datum) (defScope s_is_datum) .none kV8 dc8 pm8 an8 cd8 ct8), sl8⟩) (hc8 : PySem.W.codeIn K cd8 "is_datum" = true) (hk8 : PySem.W.keepIn K (.ref a8) = true)
    (ha9 : PySem.W.nsIn K mainGlobals "need_datum" = some (some (.ref a9))) (hl9 : K.lookup a9 = some ⟨oc9, od9, .func (PySem.W.fnOf "need_datum" "need_datum" (defArgs s_need_datum) (defBody s_need_datum) (defScope s_need_datum) .none kV9 dc9 pm9 an9 cd9 ct9), sl9⟩) (hc9 : PySem.W.codeIn K cd9 "need_datum" = true) (hk9 : PySem.W.keepIn K (.ref a9) = true)
    (ha10 : PySem.W.nsIn K mainGlobals "are_rows" = some (some (.ref a10))) (hl10 : K.lookup a10 = some ⟨oc10, od10, .func (PySem.W.fnOf "are_rows" "are_rows" (defArgs s_are_rows) (defBody s_are_rows) (defScope s_are_rows) .none kV10 dc10 pm10 an10 cd10 ct10), sl10⟩) (hc10 : PySem.W.codeIn K cd10 "are_rows" = true) (hk10 : PySem.W.keepIn K (.ref a10) = true)
    (ha11 : PySem.W.nsIn K mainGlobals "is_row" = some (some (.ref a11))) (hl11 : K.lookup a11 = some ⟨oc11, od11, .func (PySem.W.fnOf "is_row" "is_row" (defArgs s_is_row) (defBody s_is_row) (defScope s_is_row) .none kV11 dc11 pm11 an11 cd11 ct11), sl11⟩) (hc11 : PySem.W.codeIn K cd11 "is_row" = true) (hk11 : PySem.W.keepIn K (.ref a11) = true)
    (ha12 : PySem.W.nsIn K mainGlobals "need_program" = some (some (.ref a12))) (hl12 : K.lookup a12 = some ⟨oc12, od12, .func (PySem.W.fnOf "need_program" "need_program" (defArgs s_need_program) (defBody s_need_program) (defScope s_need_program) .none kV12 dc12 pm12 an12 cd12 ct12), sl12⟩) (hc12 : PySem.W.codeIn K cd12 "need_program" = true) (hk12 : PySem.W.keepIn K (.ref a12) = true)
    (ha13 : PySem.W.nsIn K mainGlobals "plain_rows" = some (some (.ref a13))) (hl13 : K.lookup a13 = some ⟨oc13, od13, .func (PySem.W.fnOf "plain_rows" "plain_rows" (defArgs s_plain_rows) (defBody s_plain_rows) (defScope s_plain_rows) .none kV13 dc13 pm13 an13 cd13 ct13), sl13⟩) (hc13 : PySem.W.codeIn K cd13 "plain_rows" = true) (hk13 : PySem.W.keepIn K (.ref a13) = true)
    (ha14 : PySem.W.nsIn K mainGlobals "unrolled" = some (some (.ref a14))) (hl14 : K.lookup a14 = some ⟨oc14, od14, .func (PySem.W.fnOf "unrolled" "unrolled" (defArgs s_unrolled) (defBody s_unrolled) (defScope s_unrolled) .none kV14 dc14 pm14 an14 cd14 ct14), sl14⟩) (hc14 : PySem.W.codeIn K cd14 "unrolled" = true) (hk14 : PySem.W.keepIn K (.ref a14) = true)
    (ha15 : PySem.W.nsIn K mainGlobals "_law_box" = some (some (.ref a15))) (hl15 : K.lookup a15 = some ⟨oc15, od15, .func (PySem.W.fnOf "_law_box" "_law_box" (defArgs s__law_box) (defBody s__law_box) (defScope s__law_box) .none kV15 dc15 pm15 an15 cd15 ct15), sl15⟩) (hc15 : PySem.W.codeIn K cd15 "_law_box" = true) (hk15 : PySem.W.keepIn K (.ref a15) = true)
    (ha16 : PySem.W.nsIn K mainGlobals "_law_take" = some (some (.ref a16))) (hl16 : K.lookup a16 = some ⟨oc16, od16, .func (PySem.W.fnOf "_law_take" "_law_take" (defArgs s__law_take) (defBody s__law_take) (defScope s__law_take) .none kV16 dc16 pm16 an16 cd16 ct16), sl16⟩) (hc16 : PySem.W.codeIn K cd16 "_law_take" = true) (hk16 : PySem.W.keepIn K (.ref a16) = true)
    (ha17 : PySem.W.nsIn K mainGlobals "_law_pick" = some (some (.ref a17))) (hl17 : K.lookup a17 = some ⟨oc17, od17, .func (PySem.W.fnOf "_law_pick" "_law_pick" (defArgs s__law_pick) (defBody s__law_pick) (defScope s__law_pick) .none kV17 dc17 pm17 an17 cd17 ct17), sl17⟩) (hc17 : PySem.W.codeIn K cd17 "_law_pick" = true) (hk17 : PySem.W.keepIn K (.ref a17) = true)
    (ha18 : PySem.W.nsIn K mainGlobals "_law_frame" = some (some (.ref a18))) (hl18 : K.lookup a18 = some ⟨oc18, od18, .func (PySem.W.fnOf "_law_frame" "_law_frame" (defArgs s__law_frame) (defBody s__law_frame) (defScope s__law_frame) .none kV18 dc18 pm18 an18 cd18 ct18), sl18⟩) (hc18 : PySem.W.codeIn K cd18 "_law_frame" = true) (hk18 : PySem.W.keepIn K (.ref a18) = true)
    (ha19 : PySem.W.nsIn K mainGlobals "_law_rows" = some (some (.ref a19))) (hl19 : K.lookup a19 = some ⟨oc19, od19, .func (PySem.W.fnOf "_law_rows" "_law_rows" (defArgs s__law_rows) (defBody s__law_rows) (defScope s__law_rows) .none kV19 dc19 pm19 an19 cd19 ct19), sl19⟩) (hc19 : PySem.W.codeIn K cd19 "_law_rows" = true) (hk19 : PySem.W.keepIn K (.ref a19) = true)
    (ha20 : PySem.W.nsIn K mainGlobals "_law_datum" = some (some (.ref a20))) (hl20 : K.lookup a20 = some ⟨oc20, od20, .func (PySem.W.fnOf "_law_datum" "_law_datum" (defArgs s__law_datum) (defBody s__law_datum) (defScope s__law_datum) .none kV20 dc20 pm20 an20 cd20 ct20), sl20⟩) (hc20 : PySem.W.codeIn K cd20 "_law_datum" = true) (hk20 : PySem.W.keepIn K (.ref a20) = true)
    (ha21 : PySem.W.nsIn K mainGlobals "_law_plain" = some (some (.ref a21))) (hl21 : K.lookup a21 = some ⟨oc21, od21, .func (PySem.W.fnOf "_law_plain" "_law_plain" (defArgs s__law_plain) (defBody s__law_plain) (defScope s__law_plain) .none kV21 dc21 pm21 an21 cd21 ct21), sl21⟩) (hc21 : PySem.W.codeIn K cd21 "_law_plain" = true) (hk21 : PySem.W.keepIn K (.ref a21) = true)
    (ha22 : PySem.W.nsIn K mainGlobals "_law_is_below" = some (some (.ref a22))) (hl22 : K.lookup a22 = some ⟨oc22, od22, .func (PySem.W.fnOf "_law_is_below" "_law_is_below" (defArgs s__law_is_below) (defBody s__law_is_below) (defScope s__law_is_below) .none kV22 dc22 pm22 an22 cd22 ct22), sl22⟩) (hc22 : PySem.W.codeIn K cd22 "_law_is_below" = true) (hk22 : PySem.W.keepIn K (.ref a22) = true)
    (ha23 : PySem.W.nsIn K mainGlobals "_law_are_below" = some (some (.ref a23))) (hl23 : K.lookup a23 = some ⟨oc23, od23, .func (PySem.W.fnOf "_law_are_below" "_law_are_below" (defArgs s__law_are_below) (defBody s__law_are_below) (defScope s__law_are_below) .none kV23 dc23 pm23 an23 cd23 ct23), sl23⟩) (hc23 : PySem.W.codeIn K cd23 "_law_are_below" = true) (hk23 : PySem.W.keepIn K (.ref a23) = true)
    (ha24 : PySem.W.nsIn K mainGlobals "_law_frame_due" = some (some (.ref a24))) (hl24 : K.lookup a24 = some ⟨oc24, od24, .func (PySem.W.fnOf "_law_frame_due" "_law_frame_due" (defArgs s__law_frame_due) (defBody s__law_frame_due) (defScope s__law_frame_due) .none kV24 dc24 pm24 an24 cd24 ct24), sl24⟩) (hc24 : PySem.W.codeIn K cd24 "_law_frame_due" = true) (hk24 : PySem.W.keepIn K (.ref a24) = true)
    (ha25 : PySem.W.nsIn K mainGlobals "_law_is_row" = some (some (.ref a25))) (hl25 : K.lookup a25 = some ⟨oc25, od25, .func (PySem.W.fnOf "_law_is_row" "_law_is_row" (defArgs s__law_is_row) (defBody s__law_is_row) (defScope s__law_is_row) .none kV25 dc25 pm25 an25 cd25 ct25), sl25⟩) (hc25 : PySem.W.codeIn K cd25 "_law_is_row" = true) (hk25 : PySem.W.keepIn K (.ref a25) = true)
    (ha26 : PySem.W.nsIn K mainGlobals "_law_due" = some (some (.ref a26))) (hl26 : K.lookup a26 = some ⟨oc26, od26, .func (PySem.W.fnOf "_law_due" "_law_due" (defArgs s__law_due) (defBody s__law_due) (defScope s__law_due) .none kV26 dc26 pm26 an26 cd26 ct26), sl26⟩) (hc26 : PySem.W.codeIn K cd26 "_law_due" = true) (hk26 : PySem.W.keepIn K (.ref a26) = true)
    (ha27 : PySem.W.nsIn K mainGlobals "_law_bent" = some (some (.ref a27))) (hl27 : K.lookup a27 = some ⟨oc27, od27, .func (PySem.W.fnOf "_law_bent" "_law_bent" (defArgs s__law_bent) (defBody s__law_bent) (defScope s__law_bent) .none kV27 dc27 pm27 an27 cd27 ct27), sl27⟩) (hc27 : PySem.W.codeIn K cd27 "_law_bent" = true) (hk27 : PySem.W.keepIn K (.ref a27) = true)
    (ha28 : PySem.W.nsIn K mainGlobals "_law_heard" = some (some (.ref a28))) (hl28 : K.lookup a28 = some ⟨oc28, od28, .func (PySem.W.fnOf "_law_heard" "_law_heard" (defArgs s__law_heard) (defBody s__law_heard) (defScope s__law_heard) .none kV28 dc28 pm28 an28 cd28 ct28), sl28⟩) (hc28 : PySem.W.codeIn K cd28 "_law_heard" = true) (hk28 : PySem.W.keepIn K (.ref a28) = true)
    (ha29 : PySem.W.nsIn K mainGlobals "law" = some (some (.ref a29))) (hl29 : K.lookup a29 = some ⟨oc29, od29, .func (PySem.W.fnOf "law" "law" (defArgs s_law) (defBody s_law) (defScope s_law) .none kV29 dc29 pm29 an29 (.ref cb29) ct29), sl29⟩) (hc29 : PySem.W.codeIn K (.ref cb29) "law" = true) (hk29 : PySem.W.keepIn K (.ref a29) = true)
    (hq29 : K.lookup cb29 = some ⟨.type "code", ob29, .fields vb29, sb29⟩) (hv29 : (vb29[11]? : Option Value) = some (.ref P29)) (he29 : PySem.W.codeHdIn K cb29 P29 = true) (hn29 : K.lookup P29 = none) (ht29 : h.get? P29 = some (PySem.W.tabObj #[]))
    (hu29 : ∀ p ∈ ([(P29, qn_law)] : List (Addr × Str)), p.1 = P29 → p.2 = qn_law)
    (hz0 : PySem.W.nsIn K mainGlobals "abs" = some none)
    (hz1 : PySem.W.nsIn K mainGlobals "all" = some none)
    (hz2 : PySem.W.nsIn K mainGlobals "bool" = some none)
    (hz3 : PySem.W.nsIn K mainGlobals "enumerate" = some none)
    (hz4 : PySem.W.nsIn K mainGlobals "int" = some none)
    (hz5 : PySem.W.nsIn K mainGlobals "isinstance" = some none)
    (hz6 : PySem.W.nsIn K mainGlobals "len" = some none)
    (hz7 : PySem.W.nsIn K mainGlobals "list" = some none)
    (hz8 : PySem.W.nsIn K mainGlobals "range" = some none)
    (hz9 : PySem.W.nsIn K mainGlobals "str" = some none)
    (hz10 : PySem.W.nsIn K mainGlobals "super" = some none)
    (hz11 : PySem.W.nsIn K mainGlobals "tuple" = some none)
    (hi_MOST_DEEP : PySem.W.nsIn K mainGlobals "MOST_DEEP" = some (some (.int 3 k_MOST_DEEP)))
    (hi_MOST_TABLES : PySem.W.nsIn K mainGlobals "MOST_TABLES" = some (some (.int 4 k_MOST_TABLES)))
    (hi_MOST_TIMES : PySem.W.nsIn K mainGlobals "MOST_TIMES" = some (some (.int 4 k_MOST_TIMES)))
    (hm_ROW_SIZES : PySem.W.nsIn K mainGlobals "ROW_SIZES" = some (some (.ref p_ROW_SIZES))) (hd_ROW_SIZES : K.lookup p_ROW_SIZES = some ⟨.type "dict", none, .dict es_ROW_SIZES m_ROW_SIZES, #[]⟩) (he_ROW_SIZES : PySem.W.KeysLit w.params es_ROW_SIZES.toList) (hs_ROW_SIZES : (p_ROW_SIZES == sysModules) = false) (hy_ROW_SIZES : es_ROW_SIZES.toList.map keyOf = tab_ROW_SIZES.map fun kv => some kv.1)
    (hv0_ROW_SIZES : PySem.W.nsIn K p_ROW_SIZES "op" = some (some (.int 5 t0_ROW_SIZES)))
    (hv1_ROW_SIZES : PySem.W.nsIn K p_ROW_SIZES "load" = some (some (.int 3 t1_ROW_SIZES)))
    (hv2_ROW_SIZES : PySem.W.nsIn K p_ROW_SIZES "store" = some (some (.int 3 t2_ROW_SIZES)))
    (hv3_ROW_SIZES : PySem.W.nsIn K p_ROW_SIZES "fence" = some (some (.int 1 t3_ROW_SIZES)))
    (hv4_ROW_SIZES : PySem.W.nsIn K p_ROW_SIZES "fork" = some (some (.int 4 t4_ROW_SIZES)))
    (hv5_ROW_SIZES : PySem.W.nsIn K p_ROW_SIZES "loop" = some (some (.int 3 t5_ROW_SIZES)))
    (hx_InvalidFrame : PySem.W.nsIn K mainGlobals "InvalidFrame" = some (some (.ref C_InvalidFrame)))
    (hx_InvalidProgram : PySem.W.nsIn K mainGlobals "InvalidProgram" = some (some (.ref C_InvalidProgram)))
    (hx_InvalidDatum : PySem.W.nsIn K mainGlobals "InvalidDatum" = some (some (.ref C_InvalidDatum)))
    (xl_InvalidFrame : K.lookup C_InvalidFrame = some (excClassObj nm_InvalidFrame xq_InvalidFrame C_InvalidFrame N_InvalidFrame bs_InvalidFrame bm_InvalidFrame true sn_InvalidFrame su_InvalidFrame ab_InvalidFrame co_InvalidFrame dd_InvalidFrame k0_InvalidFrame k1_InvalidFrame k2_InvalidFrame k3_InvalidFrame k5_InvalidFrame "Exception.__new__"))
    (xb_InvalidFrame : refsE bm_InvalidFrame = true)
    (xsa_InvalidFrame : PySem.W.findIn K (.ref C_InvalidFrame) "__setattr__" = some (some (.builtin "object.__setattr__")))
    (xex_InvalidFrame : PySem.W.subIn K (.ref C_InvalidFrame) (.type "BaseException") = some true)
    (xty_InvalidFrame : PySem.W.typeIn K (.ref C_InvalidFrame) = some (.type "type"))
    (xkp_InvalidFrame : PySem.W.keepIn K (.ref C_InvalidFrame) = true)
    (xfl_InvalidFrame : PySem.W.findIn K (.ref C_InvalidFrame) "at" = some none)
    (xsu_InvalidFrame : PySem.W.ks_superIn K C_InvalidFrame C_InvalidFrame "__init__" = some (some (.builtin "Exception.__init__")))
    (xsm_InvalidFrame : PySem.W.mroIn K C_InvalidFrame (.ref C_InvalidFrame) = some true)
    (xem_InvalidFrame : PySem.W.mroIn K C_InvalidFrame (.type "Exception") = some true)
    (xin_InvalidFrame : PySem.W.findIn K (.ref C_InvalidFrame) "__init__" = some (some (.ref f_InvalidFrame)))
    (xfn_InvalidFrame : PySem.W.typeIn K (.ref f_InvalidFrame) = some (.type "function"))
    (xlk_InvalidFrame : K.lookup f_InvalidFrame = some ⟨oc_InvalidFrame, od_InvalidFrame, .func (PySem.W.ksFn "__init__" "InvalidFrame.__init__" (defArgs i_InvalidFrame) (defBody i_InvalidFrame) (defScope i_InvalidFrame) dV_InvalidFrame kV_InvalidFrame do_InvalidFrame pm_InvalidFrame an_InvalidFrame (.ref cda_InvalidFrame) ct_InvalidFrame cc_InvalidFrame), os_InvalidFrame⟩)
    (xcd_InvalidFrame : PySem.W.codeIn K (.ref cda_InvalidFrame) "InvalidFrame.__init__" = true)
    (xlc_InvalidFrame : K.lookup cda_InvalidFrame = some ⟨ccl_InvalidFrame, cdd_InvalidFrame, .fields vs_InvalidFrame, ccs_InvalidFrame⟩)
    (xvf_InvalidFrame : (vs_InvalidFrame[2]? : Option Value) = some (.str fi_InvalidFrame tf_InvalidFrame))
    (xfi_InvalidFrame : (((PySem.Challenge.rw_leastpromise_k06_whole_frames_and_progra).prog.main.file : Str) == fi_InvalidFrame) = true)
    (xce_InvalidFrame : K.lookup cc_InvalidFrame = some ⟨cl_InvalidFrame, cld_InvalidFrame, .cell (some (.ref C_InvalidFrame)), csl_InvalidFrame⟩)
    (xdn_InvalidFrame : dV_InvalidFrame = .none)
    (xga_InvalidFrame : PySem.W.findIn K (.ref C_InvalidFrame) "__getattribute__" = some (some (.builtin "BaseException.__getattribute__")))
    (xgg_InvalidFrame : PySem.W.findIn K (.ref C_InvalidFrame) "__getattr__" = some none)
    (xhd_InvalidFrame : PySem.W.hasDictIn K C_InvalidFrame = true)
    (xl_InvalidProgram : K.lookup C_InvalidProgram = some (excClassObj nm_InvalidProgram xq_InvalidProgram C_InvalidProgram N_InvalidProgram bs_InvalidProgram bm_InvalidProgram true sn_InvalidProgram su_InvalidProgram ab_InvalidProgram co_InvalidProgram dd_InvalidProgram k0_InvalidProgram k1_InvalidProgram k2_InvalidProgram k3_InvalidProgram k5_InvalidProgram "Exception.__new__"))
    (xb_InvalidProgram : refsE bm_InvalidProgram = true)
    (xsa_InvalidProgram : PySem.W.findIn K (.ref C_InvalidProgram) "__setattr__" = some (some (.builtin "object.__setattr__")))
    (xex_InvalidProgram : PySem.W.subIn K (.ref C_InvalidProgram) (.type "BaseException") = some true)
    (xty_InvalidProgram : PySem.W.typeIn K (.ref C_InvalidProgram) = some (.type "type"))
    (xkp_InvalidProgram : PySem.W.keepIn K (.ref C_InvalidProgram) = true)
    (xfl_InvalidProgram : PySem.W.findIn K (.ref C_InvalidProgram) "at" = some none)
    (xsu_InvalidProgram : PySem.W.ks_superIn K C_InvalidProgram C_InvalidProgram "__init__" = some (some (.builtin "Exception.__init__")))
    (xsm_InvalidProgram : PySem.W.mroIn K C_InvalidProgram (.ref C_InvalidProgram) = some true)
    (xem_InvalidProgram : PySem.W.mroIn K C_InvalidProgram (.type "Exception") = some true)
    (xin_InvalidProgram : PySem.W.findIn K (.ref C_InvalidProgram) "__init__" = some (some (.ref f_InvalidProgram)))
    (xfn_InvalidProgram : PySem.W.typeIn K (.ref f_InvalidProgram) = some (.type "function"))
    (xlk_InvalidProgram : K.lookup f_InvalidProgram = some ⟨oc_InvalidProgram, od_InvalidProgram, .func (PySem.W.ksFn "__init__" "InvalidProgram.__init__" (defArgs i_InvalidProgram) (defBody i_InvalidProgram) (defScope i_InvalidProgram) dV_InvalidProgram kV_InvalidProgram do_InvalidProgram pm_InvalidProgram an_InvalidProgram (.ref cda_InvalidProgram) ct_InvalidProgram cc_InvalidProgram), os_InvalidProgram⟩)
    (xcd_InvalidProgram : PySem.W.codeIn K (.ref cda_InvalidProgram) "InvalidProgram.__init__" = true)
    (xlc_InvalidProgram : K.lookup cda_InvalidProgram = some ⟨ccl_InvalidProgram, cdd_InvalidProgram, .fields vs_InvalidProgram, ccs_InvalidProgram⟩)
    (xvf_InvalidProgram : (vs_InvalidProgram[2]? : Option Value) = some (.str fi_InvalidProgram tf_InvalidProgram))
    (xfi_InvalidProgram : (((PySem.Challenge.rw_leastpromise_k06_whole_frames_and_progra).prog.main.file : Str) == fi_InvalidProgram) = true)
    (xce_InvalidProgram : K.lookup cc_InvalidProgram = some ⟨cl_InvalidProgram, cld_InvalidProgram, .cell (some (.ref C_InvalidProgram)), csl_InvalidProgram⟩)
    (xdn_InvalidProgram : dV_InvalidProgram = .none)
    (xga_InvalidProgram : PySem.W.findIn K (.ref C_InvalidProgram) "__getattribute__" = some (some (.builtin "BaseException.__getattribute__")))
    (xgg_InvalidProgram : PySem.W.findIn K (.ref C_InvalidProgram) "__getattr__" = some none)
    (xhd_InvalidProgram : PySem.W.hasDictIn K C_InvalidProgram = true)
    (xl_InvalidDatum : K.lookup C_InvalidDatum = some (excClassObj nm_InvalidDatum xq_InvalidDatum C_InvalidDatum N_InvalidDatum bs_InvalidDatum bm_InvalidDatum true sn_InvalidDatum su_InvalidDatum ab_InvalidDatum co_InvalidDatum dd_InvalidDatum k0_InvalidDatum k1_InvalidDatum k2_InvalidDatum k3_InvalidDatum k5_InvalidDatum "Exception.__new__"))
    (xb_InvalidDatum : refsE bm_InvalidDatum = true)
    (xsa_InvalidDatum : PySem.W.findIn K (.ref C_InvalidDatum) "__setattr__" = some (some (.builtin "object.__setattr__")))
    (xex_InvalidDatum : PySem.W.subIn K (.ref C_InvalidDatum) (.type "BaseException") = some true)
    (xty_InvalidDatum : PySem.W.typeIn K (.ref C_InvalidDatum) = some (.type "type"))
    (xkp_InvalidDatum : PySem.W.keepIn K (.ref C_InvalidDatum) = true)
    (xfl_InvalidDatum : PySem.W.findIn K (.ref C_InvalidDatum) "at" = some none)
    (xsu_InvalidDatum : PySem.W.ks_superIn K C_InvalidDatum C_InvalidDatum "__init__" = some (some (.builtin "Exception.__init__")))
    (xsm_InvalidDatum : PySem.W.mroIn K C_InvalidDatum (.ref C_InvalidDatum) = some true)
    (xem_InvalidDatum : PySem.W.mroIn K C_InvalidDatum (.type "Exception") = some true)
    (xin_InvalidDatum : PySem.W.findIn K (.ref C_InvalidDatum) "__init__" = some (some (.ref f_InvalidDatum)))
    (xfn_InvalidDatum : PySem.W.typeIn K (.ref f_InvalidDatum) = some (.type "function"))
    (xlk_InvalidDatum : K.lookup f_InvalidDatum = some ⟨oc_InvalidDatum, od_InvalidDatum, .func (PySem.W.ksFn "__init__" "InvalidDatum.__init__" (defArgs i_InvalidDatum) (defBody i_InvalidDatum) (defScope i_InvalidDatum) dV_InvalidDatum kV_InvalidDatum do_InvalidDatum pm_InvalidDatum an_InvalidDatum (.ref cda_InvalidDatum) ct_InvalidDatum cc_InvalidDatum), os_InvalidDatum⟩)
    (xcd_InvalidDatum : PySem.W.codeIn K (.ref cda_InvalidDatum) "InvalidDatum.__init__" = true)
    (xlc_InvalidDatum : K.lookup cda_InvalidDatum = some ⟨ccl_InvalidDatum, cdd_InvalidDatum, .fields vs_InvalidDatum, ccs_InvalidDatum⟩)
    (xvf_InvalidDatum : (vs_InvalidDatum[2]? : Option Value) = some (.str fi_InvalidDatum tf_InvalidDatum))
    (xfi_InvalidDatum : (((PySem.Challenge.rw_leastpromise_k06_whole_frames_and_progra).prog.main.file : Str) == fi_InvalidDatum) = true)
    (xce_InvalidDatum : K.lookup cc_InvalidDatum = some ⟨cl_InvalidDatum, cld_InvalidDatum, .cell (some (.ref C_InvalidDatum)), csl_InvalidDatum⟩)
    (xdn_InvalidDatum : dV_InvalidDatum = .none)
    (xga_InvalidDatum : PySem.W.findIn K (.ref C_InvalidDatum) "__getattribute__" = some (some (.builtin "BaseException.__getattribute__")))
    (xgg_InvalidDatum : PySem.W.findIn K (.ref C_InvalidDatum) "__getattr__" = some none)
    (xhd_InvalidDatum : PySem.W.hasDictIn K C_InvalidDatum = true)
    (x_op : PySem.W.nsIn K cStatics "thirdparty.any" = some none)
    (y_InvalidFrame_InvalidFrame : PySem.W.exmOne K (.ref C_InvalidFrame) (.ref C_InvalidFrame) = some true)
    (y_InvalidFrame_InvalidProgram : PySem.W.exmOne K (.ref C_InvalidFrame) (.ref C_InvalidProgram) = some false)
    (y_InvalidFrame_InvalidDatum : PySem.W.exmOne K (.ref C_InvalidFrame) (.ref C_InvalidDatum) = some false)
    (y_InvalidProgram_InvalidFrame : PySem.W.exmOne K (.ref C_InvalidProgram) (.ref C_InvalidFrame) = some false)
    (y_InvalidProgram_InvalidProgram : PySem.W.exmOne K (.ref C_InvalidProgram) (.ref C_InvalidProgram) = some true)
    (y_InvalidProgram_InvalidDatum : PySem.W.exmOne K (.ref C_InvalidProgram) (.ref C_InvalidDatum) = some false)
    (y_InvalidDatum_InvalidFrame : PySem.W.exmOne K (.ref C_InvalidDatum) (.ref C_InvalidFrame) = some false)
    (y_InvalidDatum_InvalidProgram : PySem.W.exmOne K (.ref C_InvalidDatum) (.ref C_InvalidProgram) = some false)
    (y_InvalidDatum_InvalidDatum : PySem.W.exmOne K (.ref C_InvalidDatum) (.ref C_InvalidDatum) = some true)
    (hxb0 : PySem.W.nsIn K mainGlobals "PromiseError" = some (some (.ref Cb)))
    (yb_InvalidFrame : PySem.W.exmOne K (.ref C_InvalidFrame) (.ref Cb) = some true)
    (yb_InvalidProgram : PySem.W.exmOne K (.ref C_InvalidProgram) (.ref Cb) = some true)
    (yb_InvalidDatum : PySem.W.exmOne K (.ref C_InvalidDatum) (.ref Cb) = some true) :
    LamX.LawAtS PySem.Challenge.rw_leastpromise_k06_whole_frames_and_progra w K (L2.CX (PySem.Challenge.rw_leastpromise_k06_whole_frames_and_progra).prog w) 21 63 "_law_script" mg fa h := by
  have e := hfa.symm.trans (PySem.W.mg_of X G ha29)
  cases e
  have ht_ROW_SIZES : ∀ kv ∈ tab_ROW_SIZES, ∃ t, PySem.W.nsIn K p_ROW_SIZES kv.1 = some (some (.int kv.2 t)) := fun kv hkv => by
    unfold tab_ROW_SIZES at hkv
    simp only [List.mem_cons, List.not_mem_nil, or_false] at hkv
    rcases hkv with rfl | rfl | rfl | rfl | rfl | rfl
    · exact ⟨_, hv0_ROW_SIZES⟩
    · exact ⟨_, hv1_ROW_SIZES⟩
    · exact ⟨_, hv2_ROW_SIZES⟩
    · exact ⟨_, hv3_ROW_SIZES⟩
    · exact ⟨_, hv4_ROW_SIZES⟩
    · exact ⟨_, hv5_ROW_SIZES⟩
  have xE_InvalidFrame : Exn K (PySem.Challenge.rw_leastpromise_k06_whole_frames_and_progra).prog mg "InvalidFrame" "at" := by
    subst xdn_InvalidFrame
    refine exn_mk (pn := "at") (fI := f_InvalidFrame) (PySem.W.mg_of X G hx_InvalidFrame) ⟨⟨_, _, _, _, _, _, _, _, _, _, _, _, _, _, _, xl_InvalidFrame, xb_InvalidFrame⟩, xsa_InvalidFrame, xex_InvalidFrame, xty_InvalidFrame, xkp_InvalidFrame, xfl_InvalidFrame, xsu_InvalidFrame, x_op, xsm_InvalidFrame, xem_InvalidFrame, xin_InvalidFrame, xfn_InvalidFrame, _, _, _, _, _, _, _, _, _, _, _, _, _, _, _, _, _, _, _, _, _, xlk_InvalidFrame, xcd_InvalidFrame, xlc_InvalidFrame, xvf_InvalidFrame, xfi_InvalidFrame, xce_InvalidFrame, fun us hl => match us, hl with | [_, _], _ => rfl⟩ (PySem.W.mg_none_of X G hz10) ⟨xga_InvalidFrame, xgg_InvalidFrame, xex_InvalidFrame, xhd_InvalidFrame⟩ (by decide) rfl rfl rfl rfl (by decide) (by decide +kernel) rfl rfl rfl rfl rfl rfl (by decide) (fun _ => rfl) (fun env e => by unfold interactive; rw [e] <;> rfl) (fun _ => rfl) (fun _ => rfl) (fun _ => rfl)
  have xE_InvalidProgram : Exn K (PySem.Challenge.rw_leastpromise_k06_whole_frames_and_progra).prog mg "InvalidProgram" "at" := by
    subst xdn_InvalidProgram
    refine exn_mk (pn := "at") (fI := f_InvalidProgram) (PySem.W.mg_of X G hx_InvalidProgram) ⟨⟨_, _, _, _, _, _, _, _, _, _, _, _, _, _, _, xl_InvalidProgram, xb_InvalidProgram⟩, xsa_InvalidProgram, xex_InvalidProgram, xty_InvalidProgram, xkp_InvalidProgram, xfl_InvalidProgram, xsu_InvalidProgram, x_op, xsm_InvalidProgram, xem_InvalidProgram, xin_InvalidProgram, xfn_InvalidProgram, _, _, _, _, _, _, _, _, _, _, _, _, _, _, _, _, _, _, _, _, _, xlk_InvalidProgram, xcd_InvalidProgram, xlc_InvalidProgram, xvf_InvalidProgram, xfi_InvalidProgram, xce_InvalidProgram, fun us hl => match us, hl with | [_, _], _ => rfl⟩ (PySem.W.mg_none_of X G hz10) ⟨xga_InvalidProgram, xgg_InvalidProgram, xex_InvalidProgram, xhd_InvalidProgram⟩ (by decide) rfl rfl rfl rfl (by decide) (by decide +kernel) rfl rfl rfl rfl rfl rfl (by decide) (fun _ => rfl) (fun env e => by unfold interactive; rw [e] <;> rfl) (fun _ => rfl) (fun _ => rfl) (fun _ => rfl)
  have xE_InvalidDatum : Exn K (PySem.Challenge.rw_leastpromise_k06_whole_frames_and_progra).prog mg "InvalidDatum" "at" := by
    subst xdn_InvalidDatum
    refine exn_mk (pn := "at") (fI := f_InvalidDatum) (PySem.W.mg_of X G hx_InvalidDatum) ⟨⟨_, _, _, _, _, _, _, _, _, _, _, _, _, _, _, xl_InvalidDatum, xb_InvalidDatum⟩, xsa_InvalidDatum, xex_InvalidDatum, xty_InvalidDatum, xkp_InvalidDatum, xfl_InvalidDatum, xsu_InvalidDatum, x_op, xsm_InvalidDatum, xem_InvalidDatum, xin_InvalidDatum, xfn_InvalidDatum, _, _, _, _, _, _, _, _, _, _, _, _, _, _, _, _, _, _, _, _, _, xlk_InvalidDatum, xcd_InvalidDatum, xlc_InvalidDatum, xvf_InvalidDatum, xfi_InvalidDatum, xce_InvalidDatum, fun us hl => match us, hl with | [_, _], _ => rfl⟩ (PySem.W.mg_none_of X G hz10) ⟨xga_InvalidDatum, xgg_InvalidDatum, xex_InvalidDatum, xhd_InvalidDatum⟩ (by decide) rfl rfl rfl rfl (by decide) (by decide +kernel) rfl rfl rfl rfl rfl rfl (by decide) (fun _ => rfl) (fun env e => by unfold interactive; rw [e] <;> rfl) (fun _ => rfl) (fun _ => rfl) (fun _ => rfl)
  have xT : ExT K (PySem.Challenge.rw_leastpromise_k06_whole_frames_and_progra).prog mg xtab xbase := by
    refine ⟨fun p hp => ?_, fun p hp x C Y hx mC mY => ?_⟩
    · simp only [xtab, List.mem_cons, List.not_mem_nil, or_false] at hp
      rcases hp with rfl | rfl | rfl
      · exact xE_InvalidFrame
      · exact xE_InvalidProgram
      · exact xE_InvalidDatum
    simp only [xtab, List.mem_cons, List.not_mem_nil, or_false] at hp
    rcases hp with rfl | rfl | rfl
    · rcases hx with rfl | hx
      · cases (PySem.W.mg_of X G hx_InvalidFrame).symm.trans mC
        cases (PySem.W.mg_of X G hxb0).symm.trans mY
        exact yb_InvalidFrame
      · simp only [xtab, List.map_cons, List.map_nil, List.mem_cons, List.not_mem_nil, or_false] at hx
        rcases hx with rfl | rfl | rfl
        · cases (PySem.W.mg_of X G hx_InvalidFrame).symm.trans mC
          cases (PySem.W.mg_of X G hx_InvalidFrame).symm.trans mY
          exact y_InvalidFrame_InvalidFrame
        · cases (PySem.W.mg_of X G hx_InvalidFrame).symm.trans mC
          cases (PySem.W.mg_of X G hx_InvalidProgram).symm.trans mY
          exact y_InvalidFrame_InvalidProgram
        · cases (PySem.W.mg_of X G hx_InvalidFrame).symm.trans mC
          cases (PySem.W.mg_of X G hx_InvalidDatum).symm.trans mY
          exact y_InvalidFrame_InvalidDatum
    · rcases hx with rfl | hx
      · cases (PySem.W.mg_of X G hx_InvalidProgram).symm.trans mC
        cases (PySem.W.mg_of X G hxb0).symm.trans mY
        exact yb_InvalidProgram
      · simp only [xtab, List.map_cons, List.map_nil, List.mem_cons, List.not_mem_nil, or_false] at hx
        rcases hx with rfl | rfl | rfl
        · cases (PySem.W.mg_of X G hx_InvalidProgram).symm.trans mC
          cases (PySem.W.mg_of X G hx_InvalidFrame).symm.trans mY
          exact y_InvalidProgram_InvalidFrame
        · cases (PySem.W.mg_of X G hx_InvalidProgram).symm.trans mC
          cases (PySem.W.mg_of X G hx_InvalidProgram).symm.trans mY
          exact y_InvalidProgram_InvalidProgram
        · cases (PySem.W.mg_of X G hx_InvalidProgram).symm.trans mC
          cases (PySem.W.mg_of X G hx_InvalidDatum).symm.trans mY
          exact y_InvalidProgram_InvalidDatum
    · rcases hx with rfl | hx
      · cases (PySem.W.mg_of X G hx_InvalidDatum).symm.trans mC
        cases (PySem.W.mg_of X G hxb0).symm.trans mY
        exact yb_InvalidDatum
      · simp only [xtab, List.map_cons, List.map_nil, List.mem_cons, List.not_mem_nil, or_false] at hx
        rcases hx with rfl | rfl | rfl
        · cases (PySem.W.mg_of X G hx_InvalidDatum).symm.trans mC
          cases (PySem.W.mg_of X G hx_InvalidFrame).symm.trans mY
          exact y_InvalidDatum_InvalidFrame
        · cases (PySem.W.mg_of X G hx_InvalidDatum).symm.trans mC
          cases (PySem.W.mg_of X G hx_InvalidProgram).symm.trans mY
          exact y_InvalidDatum_InvalidProgram
        · cases (PySem.W.mg_of X G hx_InvalidDatum).symm.trans mC
          cases (PySem.W.mg_of X G hx_InvalidDatum).symm.trans mY
          exact y_InvalidDatum_InvalidDatum
  refine ⟨PySem.W.fnOf "law" "law" (defArgs s_law) (defBody s_law) (defScope s_law) .none kV29 dc29 pm29 an29 (.ref cb29) ct29, [(cb29, P29)], spLawT [(cb29, P29)] 63 K, fun p hp => by
    simp only [List.mem_cons, List.not_mem_nil, or_false] at hp
    rcases hp with rfl
    · exact ht29,
    fun p hp => by
    simp only [List.mem_cons, List.not_mem_nil, or_false] at hp
    rcases hp with rfl
    · exact hn29,
    fun p hp => by
    simp only [List.mem_cons, List.not_mem_nil, or_false] at hp
    rcases hp with rfl
    · exact PySem.W.codeHd_of_K X he29,
    fun s v => .of_eq rfl, fun H a ns hl hbits hH hS => ⟨a, ns, rfl, hl, hbits, hH, hS, fun _ _ e => e⟩, fun base _ _ TB => ?_⟩
  let T : Pk (PySem.Challenge.rw_leastpromise_k06_whole_frames_and_progra).prog w K mg base := {
    tb := [(P29, qn_law)],
    k_MOST_DEEP := k_MOST_DEEP, c_MOST_DEEP := PySem.W.mg_of X G hi_MOST_DEEP,
    k_MOST_TABLES := k_MOST_TABLES, c_MOST_TABLES := PySem.W.mg_of X G hi_MOST_TABLES,
    k_MOST_TIMES := k_MOST_TIMES, c_MOST_TIMES := PySem.W.mg_of X G hi_MOST_TIMES,
    p_ROW_SIZES := p_ROW_SIZES, m_ROW_SIZES := PySem.W.mg_of X G hm_ROW_SIZES, t_ROW_SIZES := ⟨hs_ROW_SIZES, _, _, hd_ROW_SIZES, he_ROW_SIZES, ht_ROW_SIZES, hy_ROW_SIZES⟩,
    ax_InvalidFrame := C_InvalidFrame, gx_InvalidFrame := PySem.W.mg_of X G hx_InvalidFrame,
    ax_InvalidProgram := C_InvalidProgram, gx_InvalidProgram := PySem.W.mg_of X G hx_InvalidProgram,
    ax_InvalidDatum := C_InvalidDatum, gx_InvalidDatum := PySem.W.mg_of X G hx_InvalidDatum,
    xt := xT,
    a_is_integer := a0, fd_is_integer := _, F_is_integer := fun_mk (st := s_is_integer) hl0 hc0 hk0, g_is_integer := PySem.W.mg_of X G ha0, b_is_integer := (fun_mk (st := s_is_integer) hl0 hc0 hk0).binds (ps := ps_is_integer) (fun _ _ _ _ _ _ us hl => (match us, hl with | [_], _ => rfl)),
    a_is_number := a1, fd_is_number := _, F_is_number := fun_mk (st := s_is_number) hl1 hc1 hk1, g_is_number := PySem.W.mg_of X G ha1, b_is_number := (fun_mk (st := s_is_number) hl1 hc1 hk1).binds (ps := ps_is_number) (fun _ _ _ _ _ _ us hl => (match us, hl with | [_], _ => rfl)),
    a_is_below := a2, fd_is_below := _, F_is_below := fun_mk (st := s_is_below) hl2 hc2 hk2, g_is_below := PySem.W.mg_of X G ha2, b_is_below := (fun_mk (st := s_is_below) hl2 hc2 hk2).binds (ps := ps_is_below) (fun _ _ _ _ _ _ us hl => (match us, hl with | [_, _], _ => rfl)),
    a_is_string := a3, fd_is_string := _, F_is_string := fun_mk (st := s_is_string) hl3 hc3 hk3, g_is_string := PySem.W.mg_of X G ha3, b_is_string := (fun_mk (st := s_is_string) hl3 hc3 hk3).binds (ps := ps_is_string) (fun _ _ _ _ _ _ us hl => (match us, hl with | [_], _ => rfl)),
    a_is_table := a4, fd_is_table := _, F_is_table := fun_mk (st := s_is_table) hl4 hc4 hk4, g_is_table := PySem.W.mg_of X G ha4, b_is_table := (fun_mk (st := s_is_table) hl4 hc4 hk4).binds (ps := ps_is_table) (fun _ _ _ _ _ _ us hl => (match us, hl with | [_, _], _ => rfl)),
    a_need_frame := a5, fd_need_frame := _, F_need_frame := fun_mk (st := s_need_frame) hl5 hc5 hk5, g_need_frame := PySem.W.mg_of X G ha5, b_need_frame := (fun_mk (st := s_need_frame) hl5 hc5 hk5).binds (ps := ps_need_frame) (fun _ _ _ _ _ _ us hl => (match us, hl with | [_], _ => rfl)),
    a_value_rows := a6, fd_value_rows := _, F_value_rows := fun_mk (st := s_value_rows) hl6 hc6 hk6, g_value_rows := PySem.W.mg_of X G ha6, b_value_rows := (fun_mk (st := s_value_rows) hl6 hc6 hk6).binds (ps := ps_value_rows) (fun _ _ _ _ _ _ us hl => (match us, hl with | [_, _], _ => rfl)),
    a_all_data := a7, fd_all_data := _, F_all_data := fun_mk (st := s_all_data) hl7 hc7 hk7, g_all_data := PySem.W.mg_of X G ha7, b_all_data := (fun_mk (st := s_all_data) hl7 hc7 hk7).binds (ps := ps_all_data) (fun _ _ _ _ _ _ us hl => (match us, hl with | [_], _ => rfl)),
    a_is_datum := a8, fd_is_datum := _, F_is_datum := fun_mk (st := s_is_datum) hl8 hc8 hk8, g_is_datum := PySem.W.mg_of X G ha8, b_is_datum := (fun_mk (st := s_is_datum) hl8 hc8 hk8).binds (ps := ps_is_datum) (fun _ _ _ _ _ _ us hl => (match us, hl with | [_, _], _ => rfl)),
    a_need_datum := a9, fd_need_datum := _, F_need_datum := fun_mk (st := s_need_datum) hl9 hc9 hk9, g_need_datum := PySem.W.mg_of X G ha9, b_need_datum := (fun_mk (st := s_need_datum) hl9 hc9 hk9).binds (ps := ps_need_datum) (fun _ _ _ _ _ _ us hl => (match us, hl with | [_, _], _ => rfl)),
    a_are_rows := a10, fd_are_rows := _, F_are_rows := fun_mk (st := s_are_rows) hl10 hc10 hk10, g_are_rows := PySem.W.mg_of X G ha10, b_are_rows := (fun_mk (st := s_are_rows) hl10 hc10 hk10).binds (ps := ps_are_rows) (fun _ _ _ _ _ _ us hl => (match us, hl with | [_, _], _ => rfl)),
    a_is_row := a11, fd_is_row := _, F_is_row := fun_mk (st := s_is_row) hl11 hc11 hk11, g_is_row := PySem.W.mg_of X G ha11, b_is_row := (fun_mk (st := s_is_row) hl11 hc11 hk11).binds (ps := ps_is_row) (fun _ _ _ _ _ _ us hl => (match us, hl with | [_, _], _ => rfl)),
    a_need_program := a12, fd_need_program := _, F_need_program := fun_mk (st := s_need_program) hl12 hc12 hk12, g_need_program := PySem.W.mg_of X G ha12, b_need_program := (fun_mk (st := s_need_program) hl12 hc12 hk12).binds (ps := ps_need_program) (fun _ _ _ _ _ _ us hl => (match us, hl with | [_, _], _ => rfl)),
    a_plain_rows := a13, fd_plain_rows := _, F_plain_rows := fun_mk (st := s_plain_rows) hl13 hc13 hk13, g_plain_rows := PySem.W.mg_of X G ha13, b_plain_rows := (fun_mk (st := s_plain_rows) hl13 hc13 hk13).binds (ps := ps_plain_rows) (fun _ _ _ _ _ _ us hl => (match us, hl with | [_], _ => rfl)),
    a_unrolled := a14, fd_unrolled := _, F_unrolled := fun_mk (st := s_unrolled) hl14 hc14 hk14, g_unrolled := PySem.W.mg_of X G ha14, b_unrolled := (fun_mk (st := s_unrolled) hl14 hc14 hk14).binds (ps := ps_unrolled) (fun _ _ _ _ _ _ us hl => (match us, hl with | [_, _], _ => rfl)),
    a__law_box := a15, fd__law_box := _, F__law_box := fun_mk (st := s__law_box) hl15 hc15 hk15, g__law_box := PySem.W.mg_of X G ha15, b__law_box := (fun_mk (st := s__law_box) hl15 hc15 hk15).binds (ps := ps__law_box) (fun _ _ _ _ _ _ us hl => (match us, hl with | [_, _], _ => rfl)),
    a__law_take := a16, fd__law_take := _, F__law_take := fun_mk (st := s__law_take) hl16 hc16 hk16, g__law_take := PySem.W.mg_of X G ha16, b__law_take := (fun_mk (st := s__law_take) hl16 hc16 hk16).binds (ps := ps__law_take) (fun _ _ _ _ _ _ us hl => (match us, hl with | [_, _], _ => rfl)),
    a__law_pick := a17, fd__law_pick := _, F__law_pick := fun_mk (st := s__law_pick) hl17 hc17 hk17, g__law_pick := PySem.W.mg_of X G ha17, b__law_pick := (fun_mk (st := s__law_pick) hl17 hc17 hk17).binds (ps := ps__law_pick) (fun _ _ _ _ _ _ us hl => (match us, hl with | [_, _], _ => rfl)),
    a__law_frame := a18, fd__law_frame := _, F__law_frame := fun_mk (st := s__law_frame) hl18 hc18 hk18, g__law_frame := PySem.W.mg_of X G ha18, b__law_frame := (fun_mk (st := s__law_frame) hl18 hc18 hk18).binds (ps := ps__law_frame) (fun _ _ _ _ _ _ us hl => (match us, hl with | [_], _ => rfl)),
    a__law_rows := a19, fd__law_rows := _, F__law_rows := fun_mk (st := s__law_rows) hl19 hc19 hk19, g__law_rows := PySem.W.mg_of X G ha19, b__law_rows := (fun_mk (st := s__law_rows) hl19 hc19 hk19).binds (ps := ps__law_rows) (fun _ _ _ _ _ _ us hl => (match us, hl with | [_, _, _, _], _ => rfl)),
    a__law_datum := a20, fd__law_datum := _, F__law_datum := fun_mk (st := s__law_datum) hl20 hc20 hk20, g__law_datum := PySem.W.mg_of X G ha20, b__law_datum := (fun_mk (st := s__law_datum) hl20 hc20 hk20).binds (ps := ps__law_datum) (fun _ _ _ _ _ _ us hl => (match us, hl with | [_, _], _ => rfl)),
    a__law_plain := a21, fd__law_plain := _, F__law_plain := fun_mk (st := s__law_plain) hl21 hc21 hk21, g__law_plain := PySem.W.mg_of X G ha21, b__law_plain := (fun_mk (st := s__law_plain) hl21 hc21 hk21).binds (ps := ps__law_plain) (fun _ _ _ _ _ _ us hl => (match us, hl with | [_], _ => rfl)),
    a__law_is_below := a22, fd__law_is_below := _, F__law_is_below := fun_mk (st := s__law_is_below) hl22 hc22 hk22, g__law_is_below := PySem.W.mg_of X G ha22, b__law_is_below := (fun_mk (st := s__law_is_below) hl22 hc22 hk22).binds (ps := ps__law_is_below) (fun _ _ _ _ _ _ us hl => (match us, hl with | [_, _], _ => rfl)),
    a__law_are_below := a23, fd__law_are_below := _, F__law_are_below := fun_mk (st := s__law_are_below) hl23 hc23 hk23, g__law_are_below := PySem.W.mg_of X G ha23, b__law_are_below := (fun_mk (st := s__law_are_below) hl23 hc23 hk23).binds (ps := ps__law_are_below) (fun _ _ _ _ _ _ us hl => (match us, hl with | [_, _, _], _ => rfl)),
    a__law_frame_due := a24, fd__law_frame_due := _, F__law_frame_due := fun_mk (st := s__law_frame_due) hl24 hc24 hk24, g__law_frame_due := PySem.W.mg_of X G ha24, b__law_frame_due := (fun_mk (st := s__law_frame_due) hl24 hc24 hk24).binds (ps := ps__law_frame_due) (fun _ _ _ _ _ _ us hl => (match us, hl with | [_], _ => rfl)),
    a__law_is_row := a25, fd__law_is_row := _, F__law_is_row := fun_mk (st := s__law_is_row) hl25 hc25 hk25, g__law_is_row := PySem.W.mg_of X G ha25, b__law_is_row := (fun_mk (st := s__law_is_row) hl25 hc25 hk25).binds (ps := ps__law_is_row) (fun _ _ _ _ _ _ us hl => (match us, hl with | [_, _], _ => rfl)),
    a__law_due := a26, fd__law_due := _, F__law_due := fun_mk (st := s__law_due) hl26 hc26 hk26, g__law_due := PySem.W.mg_of X G ha26, b__law_due := (fun_mk (st := s__law_due) hl26 hc26 hk26).binds (ps := ps__law_due) (fun _ _ _ _ _ _ us hl => (match us, hl with | [_, _], _ => rfl)),
    a__law_bent := a27, fd__law_bent := _, F__law_bent := fun_mk (st := s__law_bent) hl27 hc27 hk27, g__law_bent := PySem.W.mg_of X G ha27, b__law_bent := (fun_mk (st := s__law_bent) hl27 hc27 hk27).binds (ps := ps__law_bent) (fun _ _ _ _ _ _ us hl => (match us, hl with | [_, _, _], _ => rfl)),
    a__law_heard := a28, fd__law_heard := _, F__law_heard := fun_mk (st := s__law_heard) hl28 hc28 hk28, g__law_heard := PySem.W.mg_of X G ha28, b__law_heard := (fun_mk (st := s__law_heard) hl28 hc28 hk28).binds (ps := ps__law_heard) (fun _ _ _ _ _ _ us hl => (match us, hl with | [_], _ => rfl)),
    a_law := fa, fd_law := _, F_law := fun_mk (st := s_law) hl29 hc29 hk29, g_law := PySem.W.mg_of X G ha29, b_law := (fun_mk (st := s_law) hl29 hc29 hk29).binds (ps := ps_law) (fun _ _ _ _ _ _ us hl => (match us, hl with | [_], _ => rfl)),
    ca_law := cb29, P_law := P29, C_law := funC_mk (st := s_law) hl29 hc29 hk29, tb_law := TB (cb29, P29) (by simp), tm_law := by simp, tu_law := hu29,
    kw_need_frame_0 := kwB_of (st := s_need_frame) (fun_mk (st := s_need_frame) hl5 hc5 hk5) (fun _ _ _ _ _ _ ws hl => (match ws, hl with | [_], _ => rfl)),
    kw_need_program_0_1 := kwB_of (st := s_need_program) (fun_mk (st := s_need_program) hl12 hc12 hk12) (fun _ _ _ _ _ _ ws hl => (match ws, hl with | [_, _], _ => rfl)),
    kw_need_datum_0_1 := kwB_of (st := s_need_datum) (fun_mk (st := s_need_datum) hl9 hc9 hk9) (fun _ _ _ _ _ _ ws hl => (match ws, hl with | [_, _], _ => rfl)),
    kw_all_data_0 := kwB_of (st := s_all_data) (fun_mk (st := s_all_data) hl7 hc7 hk7) (fun _ _ _ _ _ _ ws hl => (match ws, hl with | [_], _ => rfl)),
    kw_unrolled_0_1 := kwB_of (st := s_unrolled) (fun_mk (st := s_unrolled) hl14 hc14 hk14) (fun _ _ _ _ _ _ ws hl => (match ws, hl with | [_, _], _ => rfl)),
    n_abs := PySem.W.mg_none_of X G hz0,
    n_all := PySem.W.mg_none_of X G hz1,
    n_bool := PySem.W.mg_none_of X G hz2,
    n_enumerate := PySem.W.mg_none_of X G hz3,
    n_int := PySem.W.mg_none_of X G hz4,
    n_isinstance := PySem.W.mg_none_of X G hz5,
    n_len := PySem.W.mg_none_of X G hz6,
    n_list := PySem.W.mg_none_of X G hz7,
    n_range := PySem.W.mg_none_of X G hz8,
    n_str := PySem.W.mg_none_of X G hz9,
    n_tuple := PySem.W.mg_none_of X G hz11 }
  have hT : ∀ t ∈ ([(P29, qn_law)] : List (Addr × Str)), ∃ p ∈ ([(cb29, P29)] : List (Addr × Addr)), p.2 = t.1 := fun t ht => by
    simp only [List.mem_cons, List.not_mem_nil, or_false] at ht
    rcases ht with rfl
    · exact ⟨(cb29, P29), by simp, rfl⟩
  exact law_okL (by decide) T.C_law sc_law rfl hT (bd_law T) law_ok
end LP
open PySem PySem.W PyProof.Rows
set_option maxHeartbeats 0 in
theorem PySem.Challenge.cw_leastpromise_k06_whole_frames_and_progra_holds : PySem.Challenge.rw_leastpromise_k06_whole_frames_and_progra.Holds := by
  w_on; o_law; k_head; (case hw => w_witness2)
  k_fill
  refine LamX.walk_ofTs (l := PySem.Challenge.rw_leastpromise_k06_whole_frames_and_progra) (n := 63) (k := 21) (x := "_law_script") (CX := fun w => L2.CX (PySem.Challenge.rw_leastpromise_k06_whole_frames_and_progra).prog w) rfl (by decide) rfl ⟨rfl, by decide, by decide⟩ (fun w h Y => by first | exact PySem.W.km_in_of Y | exact PySem.W.kIn_of Y) ?F (fun _ _ _ _ _ ⟨_, _, _, _, _, _, _, _, _, _, _, _, h⟩ => h)
  case F =>
    intro w mg fa h Y KX G hmg
    have hT8 := PySem.W.km_tabs_of Y
    refine' LP.all_mk KX G hmg ?ha0 ?hl0 ?hc0 ?hk0 ?ha1 ?hl1 ?hc1 ?hk1 ?ha2 ?hl2 ?hc2 ?hk2 ?ha3 ?hl3 ?hc3 ?hk3 ?ha4 ?hl4 ?hc4 ?hk4 ?ha5 ?hl5 ?hc5 ?hk5 ?ha6 ?hl6 ?hc6 ?hk6 ?ha7 ?hl7 ?hc7 ?hk7 ?ha8 ?hl8 ?hc8 ?hk8 ?ha9 ?hl9 ?hc9 ?hk9 ?ha10 ?hl10 ?hc10 ?hk10 ?ha11 ?hl11 ?hc11 ?hk11 ?ha12 ?hl12 ?hc12 ?hk12 ?ha13 ?hl13 ?hc13 ?hk13 ?ha14 ?hl14 ?hc14 ?hk14 ?ha15 ?hl15 ?hc15 ?hk15 ?ha16 ?hl16 ?hc16 ?hk16 ?ha17 ?hl17 ?hc17 ?hk17 ?ha18 ?hl18 ?hc18 ?hk18 ?ha19 ?hl19 ?hc19 ?hk19 ?ha20 ?hl20 ?hc20 ?hk20 ?ha21 ?hl21 ?hc21 ?hk21 ?ha22 ?hl22 ?hc22 ?hk22 ?ha23 ?hl23 ?hc23 ?hk23 ?ha24 ?hl24 ?hc24 ?hk24 ?ha25 ?hl25 ?hc25 ?hk25 ?ha26 ?hl26 ?hc26 ?hk26 ?ha27 ?hl27 ?hc27 ?hk27 ?ha28 ?hl28 ?hc28 ?hk28 ?ha29 ?hl29 ?hc29 ?hk29 ?hq29 ?hv29 ?he29 ?hn29 ?ht29 ?hu29 ?hz0 ?hz1 ?hz2 ?hz3 ?hz4 ?hz5 ?hz6 ?hz7 ?hz8 ?hz9 ?hz10 ?hz11 ?hi_MOST_DEEP ?hi_MOST_TABLES ?hi_MOST_TIMES ?hm_ROW_SIZES ?hd_ROW_SIZES ?he_ROW_SIZES ?hs_ROW_SIZES ?hy_ROW_SIZES ?hv0_ROW_SIZES ?hv1_ROW_SIZES ?hv2_ROW_SIZES ?hv3_ROW_SIZES ?hv4_ROW_SIZES ?hv5_ROW_SIZES ?hx_InvalidFrame ?hx_InvalidProgram ?hx_InvalidDatum ?xl_InvalidFrame ?xb_InvalidFrame ?xsa_InvalidFrame ?xex_InvalidFrame ?xty_InvalidFrame ?xkp_InvalidFrame ?xfl_InvalidFrame ?xsu_InvalidFrame ?xsm_InvalidFrame ?xem_InvalidFrame ?xin_InvalidFrame ?xfn_InvalidFrame ?xlk_InvalidFrame ?xcd_InvalidFrame ?xlc_InvalidFrame ?xvf_InvalidFrame ?xfi_InvalidFrame ?xce_InvalidFrame ?xdn_InvalidFrame ?xga_InvalidFrame ?xgg_InvalidFrame ?xhd_InvalidFrame ?xl_InvalidProgram ?xb_InvalidProgram ?xsa_InvalidProgram ?xex_InvalidProgram ?xty_InvalidProgram ?xkp_InvalidProgram ?xfl_InvalidProgram ?xsu_InvalidProgram ?xsm_InvalidProgram ?xem_InvalidProgram ?xin_InvalidProgram ?xfn_InvalidProgram ?xlk_InvalidProgram ?xcd_InvalidProgram ?xlc_InvalidProgram ?xvf_InvalidProgram ?xfi_InvalidProgram ?xce_InvalidProgram ?xdn_InvalidProgram ?xga_InvalidProgram ?xgg_InvalidProgram ?xhd_InvalidProgram ?xl_InvalidDatum ?xb_InvalidDatum ?xsa_InvalidDatum ?xex_InvalidDatum ?xty_InvalidDatum ?xkp_InvalidDatum ?xfl_InvalidDatum ?xsu_InvalidDatum ?xsm_InvalidDatum ?xem_InvalidDatum ?xin_InvalidDatum ?xfn_InvalidDatum ?xlk_InvalidDatum ?xcd_InvalidDatum ?xlc_InvalidDatum ?xvf_InvalidDatum ?xfi_InvalidDatum ?xce_InvalidDatum ?xdn_InvalidDatum ?xga_InvalidDatum ?xgg_InvalidDatum ?xhd_InvalidDatum ?x_op ?y_InvalidFrame_InvalidFrame ?y_InvalidFrame_InvalidProgram ?y_InvalidFrame_InvalidDatum ?y_InvalidProgram_InvalidFrame ?y_InvalidProgram_InvalidProgram ?y_InvalidProgram_InvalidDatum ?y_InvalidDatum_InvalidFrame ?y_InvalidDatum_InvalidProgram ?y_InvalidDatum_InvalidDatum ?hxb0 ?yb_InvalidFrame ?yb_InvalidProgram ?yb_InvalidDatum
    (case ha0 => k_is); (case hl0 => k_is); (case hc0 => k_is); (case hk0 => k_is); (case ha1 => k_is); (case hl1 => k_is); (case hc1 => k_is); (case hk1 => k_is); (case ha2 => k_is); (case hl2 => k_is); (case hc2 => k_is); (case hk2 => k_is); (case ha3 => k_is); (case hl3 => k_is); (case hc3 => k_is); (case hk3 => k_is); (case ha4 => k_is); (case hl4 => k_is); (case hc4 => k_is); (case hk4 => k_is); (case ha5 => k_is); (case hl5 => k_is); (case hc5 => k_is); (case hk5 => k_is); (case ha6 => k_is); (case hl6 => k_is); (case hc6 => k_is); (case hk6 => k_is); (case ha7 => k_is); (case hl7 => k_is); (case hc7 => k_is); (case hk7 => k_is); (case ha8 => k_is); (case hl8 => k_is); (case hc8 => k_is); (case hk8 => k_is); (case ha9 => k_is); (case hl9 => k_is); (case hc9 => k_is); (case hk9 => k_is); (case ha10 => k_is); (case hl10 => k_is); (case hc10 => k_is); (case hk10 => k_is); (case ha11 => k_is); (case hl11 => k_is); (case hc11 => k_is); (case hk11 => k_is); (case ha12 => k_is); (case hl12 => k_is); (case hc12 => k_is); (case hk12 => k_is); (case ha13 => k_is); (case hl13 => k_is); (case hc13 => k_is); (case hk13 => k_is); (case ha14 => k_is); (case hl14 => k_is); (case hc14 => k_is); (case hk14 => k_is); (case ha15 => k_is); (case hl15 => k_is); (case hc15 => k_is); (case hk15 => k_is); (case ha16 => k_is); (case hl16 => k_is); (case hc16 => k_is); (case hk16 => k_is); (case ha17 => k_is); (case hl17 => k_is); (case hc17 => k_is); (case hk17 => k_is); (case ha18 => k_is); (case hl18 => k_is); (case hc18 => k_is); (case hk18 => k_is); (case ha19 => k_is); (case hl19 => k_is); (case hc19 => k_is); (case hk19 => k_is); (case ha20 => k_is); (case hl20 => k_is); (case hc20 => k_is); (case hk20 => k_is); (case ha21 => k_is); (case hl21 => k_is); (case hc21 => k_is); (case hk21 => k_is); (case ha22 => k_is); (case hl22 => k_is); (case hc22 => k_is); (case hk22 => k_is); (case ha23 => k_is); (case hl23 => k_is); (case hc23 => k_is); (case hk23 => k_is); (case ha24 => k_is); (case hl24 => k_is); (case hc24 => k_is); (case hk24 => k_is); (case ha25 => k_is); (case hl25 => k_is); (case hc25 => k_is); (case hk25 => k_is); (case ha26 => k_is); (case hl26 => k_is); (case hc26 => k_is); (case hk26 => k_is); (case ha27 => k_is); (case hl27 => k_is); (case hc27 => k_is); (case hk27 => k_is); (case ha28 => k_is); (case hl28 => k_is); (case hc28 => k_is); (case hk28 => k_is); (case ha29 => k_is); (case hl29 => k_is); (case hc29 => k_is); (case hk29 => k_is); (case hq29 => k_is); (case hz0 => k_is); (case hz1 => k_is); (case hz2 => k_is); (case hz3 => k_is); (case hz4 => k_is); (case hz5 => k_is); (case hz6 => k_is); (case hz7 => k_is); (case hz8 => k_is); (case hz9 => k_is); (case hz10 => k_is); (case hz11 => k_is); (case hi_MOST_DEEP => k_is); (case hi_MOST_TABLES => k_is); (case hi_MOST_TIMES => k_is); (case hm_ROW_SIZES => k_is); (case hd_ROW_SIZES => k_is); (case hv0_ROW_SIZES => k_is); (case hv1_ROW_SIZES => k_is); (case hv2_ROW_SIZES => k_is); (case hv3_ROW_SIZES => k_is); (case hv4_ROW_SIZES => k_is); (case hv5_ROW_SIZES => k_is); (case hx_InvalidFrame => k_is); (case hx_InvalidProgram => k_is); (case hx_InvalidDatum => k_is); (case xl_InvalidFrame => k_is); (case xsa_InvalidFrame => k_is); (case xex_InvalidFrame => k_is); (case xty_InvalidFrame => k_is); (case xkp_InvalidFrame => k_is); (case xfl_InvalidFrame => k_is); (case xsm_InvalidFrame => k_is); (case xem_InvalidFrame => k_is); (case xin_InvalidFrame => k_is); (case xfn_InvalidFrame => k_is); (case xlk_InvalidFrame => k_is); (case xcd_InvalidFrame => k_is); (case xlc_InvalidFrame => k_is); (case xce_InvalidFrame => k_is); (case xga_InvalidFrame => k_is); (case xgg_InvalidFrame => k_is); (case xhd_InvalidFrame => k_is); (case xl_InvalidProgram => k_is); (case xsa_InvalidProgram => k_is); (case xex_InvalidProgram => k_is); (case xty_InvalidProgram => k_is); (case xkp_InvalidProgram => k_is); (case xfl_InvalidProgram => k_is); (case xsm_InvalidProgram => k_is); (case xem_InvalidProgram => k_is); (case xin_InvalidProgram => k_is); (case xfn_InvalidProgram => k_is); (case xlk_InvalidProgram => k_is); (case xcd_InvalidProgram => k_is); (case xlc_InvalidProgram => k_is); (case xce_InvalidProgram => k_is); (case xga_InvalidProgram => k_is); (case xgg_InvalidProgram => k_is); (case xhd_InvalidProgram => k_is); (case xl_InvalidDatum => k_is); (case xsa_InvalidDatum => k_is); (case xex_InvalidDatum => k_is); (case xty_InvalidDatum => k_is); (case xkp_InvalidDatum => k_is); (case xfl_InvalidDatum => k_is); (case xsm_InvalidDatum => k_is); (case xem_InvalidDatum => k_is); (case xin_InvalidDatum => k_is); (case xfn_InvalidDatum => k_is); (case xlk_InvalidDatum => k_is); (case xcd_InvalidDatum => k_is); (case xlc_InvalidDatum => k_is); (case xce_InvalidDatum => k_is); (case xga_InvalidDatum => k_is); (case xgg_InvalidDatum => k_is); (case xhd_InvalidDatum => k_is); (case x_op => k_is); (case hxb0 => k_is); (case hv29 => rfl); (case he29 => first | kernel_rfl | decide +kernel); (case hn29 => kernel_rfl); (case ht29 => exact hT8 _ (by k_mem)); (case hu29 => decide +kernel); (case he_ROW_SIZES => exact ⟨⟨_, _, rfl, rfl⟩, ⟨_, _, rfl, rfl⟩, ⟨_, _, rfl, rfl⟩, ⟨_, _, rfl, rfl⟩, ⟨_, _, rfl, rfl⟩, ⟨_, _, rfl, rfl⟩, trivial⟩); (case hs_ROW_SIZES => rfl); (case hy_ROW_SIZES => rfl); (case xb_InvalidFrame => first | kernel_rfl | decide +kernel); (case xsu_InvalidFrame => kernel_rfl); (case xvf_InvalidFrame => rfl); (case xfi_InvalidFrame => rfl); (case xdn_InvalidFrame => rfl); (case xb_InvalidProgram => first | kernel_rfl | decide +kernel); (case xsu_InvalidProgram => kernel_rfl); (case xvf_InvalidProgram => rfl); (case xfi_InvalidProgram => rfl); (case xdn_InvalidProgram => rfl); (case xb_InvalidDatum => first | kernel_rfl | decide +kernel); (case xsu_InvalidDatum => kernel_rfl); (case xvf_InvalidDatum => rfl); (case xfi_InvalidDatum => rfl); (case xdn_InvalidDatum => rfl); (case y_InvalidFrame_InvalidFrame => kernel_rfl); (case y_InvalidFrame_InvalidProgram => kernel_rfl); (case y_InvalidFrame_InvalidDatum => kernel_rfl); (case y_InvalidProgram_InvalidFrame => kernel_rfl); (case y_InvalidProgram_InvalidProgram => kernel_rfl); (case y_InvalidProgram_InvalidDatum => kernel_rfl); (case y_InvalidDatum_InvalidFrame => kernel_rfl); (case y_InvalidDatum_InvalidProgram => kernel_rfl); (case y_InvalidDatum_InvalidDatum => kernel_rfl); (case yb_InvalidFrame => kernel_rfl); (case yb_InvalidProgram => kernel_rfl); (case yb_InvalidDatum => kernel_rfl)
