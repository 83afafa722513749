import PyProof.Rows.All
import Wide.All
import OpenK.AllK
import Wide.FinOn
import HandS.ForExc
import HandS.ForMost
import HandS.IsInst
import HandS.TryMany
import HandS.CallSlots
import HandS.Lambda
import HandS.Conv
import HandS.TupAny
import KE.DataEq
import HandS.Wide
import HandS.Walk
import KE.KUnpack
import HandS.Zip
import HandS.EndTab
import PyProof.EnumMake
import HandS.TupMul
import HandS.Style
import HandS.Dict
import HandS.More
import HandS.WrittenGet
import HandS.Ends
import HandS.ExcSuper
import HandS.ExcInit
import KE.KSuper
import KE.KExcInit
import HandS.ExcField
import HandS.Defaults
import KE.KNestM
import HandS.RevRange
import PyProof.MeetsDictList
import KE.SortData
import HandS.Remove
import HandS.DictComp
import HandS.DictTup
import KE.KDictDisplayH
import PyProof.DictTable
import PyProof.ReprRoads
import PyProof.ReprLen
import PyProof.CallFns
import KE.RegKSuper
import KE.RegKTryMore
import PySem.Challenge.RW_leastpromise_k01_whole_sheets_told_by_li
set_option Elab.async false
set_option linter.all false
set_option maxRecDepth 100000
set_option autoImplicit false
set_option maxHeartbeats 8000000
/-! LpA: plain data over the hand layer: values as trees, immutable objects, boxes, the state of a body. -/
namespace LP
open PySem PySem.Spec PyProof.Rows L2
/-- no row of simp is to be checked by computing -/
theorem pr {α : Sort _} {a b : α} (h : a = b) : a = b := h
/-- data: lists are trees too (never written again); ptr: a list that may be written; loc: the list that slot i owns; frz: a locked list (the script) -/
inductive D where
  | non | bl (b : Bool) | int (i : Int) | str (x : Str) | tup (xs : List D) | lst (xs : List D) | ptr (n : Nat) | loc (i : Nat) | frz (xs : List D)
  | lam (k : Nat) | fn (x : Str) | dct (ks : List (List L2.Key)) (vs : List D)
/-- what is known never to change -/
abbrev Imm := Addr → Option HO
/-- the module's own tuples: none of them is read as data -/
def KTup (_ : PySem.W.Frag) (_ : Addr) (_ : List V) : Prop := False
def KLst (K : PySem.W.Frag) (a : Addr) (vs : List V) : Prop :=
  ∃ (o : Obj) (its : Array Value) (n : Nat), K.lookup a = some o ∧ o.cls = .type "list" ∧ o.dict = none ∧ o.data = .seq its n ∧ its.size ≤ 1000000 ∧ Vals vs its.toList
/-- a list that stands for good: locked, or written by the module -/
def LstU (u : HO) (vs : List V) : Prop := u = .lst vs ∨ ∃ o, u = .frz o (.lst vs)
def FLst (K : PySem.W.Frag) (M : Imm) (a : Addr) (vs : List V) : Prop := (∃ u, M a = some u ∧ LstU u vs) ∨ KLst K a vs
/-- what a lambda's object is: its number, its address, the object, its code's address, its name -/
abbrev LamP := Nat → Addr → Obj → Addr → Str → Prop
/-- the written part; the lambdas of a frame; the module's names -/
structure Jd where
  K : PySem.W.Frag
  L : LamP
  mg : Str → Option Value
/-- a function object, never written -/
def LamO (f : Addr) (o : Obj) : HO := .ext fun h => h.get? f = some o
mutual
def Rep (J : Jd) (M : Imm) (r : List Addr) : D → V → Prop
  | .non, v => v = .non
  | .bl b, v => v = .bl b
  | .int i, v => v = .int i
  | .str x, v => v = .str x
  | .tup ds, v => ∃ a vs, v = .ref a ∧ (M a = some (.tup vs) ∨ KTup J.K a vs) ∧ Reps J M r ds vs
  | .lst ds, v => ∃ a vs, v = .ref a ∧ M a = some (.lst vs) ∧ Reps J M r ds vs
  | .ptr n, v => ∃ a, v = .ref a ∧ r[n]? = some a
  | .loc _, _ => False
  | .frz ds, v => ∃ a vs, v = .ref a ∧ FLst J.K M a vs ∧ Reps J M r ds vs
  | .lam k, v => ∃ f o c q, v = .ref f ∧ M f = some (LamO f o) ∧ M c = some (LamX.CodeO c q) ∧ J.L k f o c q
  | .fn x, v => ∃ a, v = .ref a ∧ J.mg x = some (.ref a)
  | .dct ks ds, v => ∃ a kvs, v = .ref a ∧ M a = some (.dT kvs) ∧ kvs.map Prod.fst = ks ∧ Reps J M r ds (kvs.map Prod.snd)
def Reps (J : Jd) (M : Imm) (r : List Addr) : List D → List V → Prop
  | [], vs => vs = []
  | d :: ds, vs => ∃ v vt, vs = v :: vt ∧ Rep J M r d v ∧ Reps J M r ds vt
end
section
variable {K : PySem.W.Frag} {J : Jd} {M M' : Imm} {r r' : List Addr}
def Le (M M' : Imm) : Prop := ∀ a o, M a = some o → M' a = some o
theorem Le.refl : Le M M := fun _ _ h => h
theorem Le.trans {M'' : Imm} (h : Le M M') (h' : Le M' M'') : Le M M'' := fun a o e => h' a o (h a o e)
theorem pre_get {n : Nat} {a : Addr} (h : r <+: r') (e : r[n]? = some a) : r'[n]? = some a := by
  obtain ⟨t, rfl⟩ := h
  rw [List.getElem?_append_left (List.getElem?_eq_some_iff.mp e).1]; exact e
mutual
theorem Rep.mono (hM : Le M M') (hr : r <+: r') : ∀ (d : D) (v : V), Rep J M r d v → Rep J M' r' d v
  | .non, _, h => h
  | .bl _, _, h => h
  | .int _, _, h => h
  | .str _, _, h => h
  | .tup ds, _, h => by
    obtain ⟨a, vs, e, q, t⟩ := h
    exact ⟨a, vs, e, q.imp (fun z => hM _ _ z) id, Reps.mono hM hr ds vs t⟩
  | .lst ds, _, h => by
    obtain ⟨a, vs, e, q, t⟩ := h
    exact ⟨a, vs, e, hM _ _ q, Reps.mono hM hr ds vs t⟩
  | .ptr n, _, h => by
    obtain ⟨a, e, q⟩ := h
    exact ⟨a, e, pre_get hr q⟩
  | .loc _, _, h => h
  | .frz ds, _, h => by
    obtain ⟨a, vs, e, q, t⟩ := h
    exact ⟨a, vs, e, q.imp (fun ⟨o, z, y⟩ => ⟨o, hM _ _ z, y⟩) id, Reps.mono hM hr ds vs t⟩
  | .lam k, _, h => by
    obtain ⟨f, o, c, q, e, h1, h2, h3⟩ := h
    exact ⟨f, o, c, q, e, hM _ _ h1, hM _ _ h2, h3⟩
  | .fn _, _, h => h
  | .dct ks ds, _, h => by
    obtain ⟨a, kvs, e, q, e2, t⟩ := h
    exact ⟨a, kvs, e, hM _ _ q, e2, Reps.mono hM hr ds _ t⟩
theorem Reps.mono (hM : Le M M') (hr : r <+: r') : ∀ (ds : List D) (vs : List V), Reps J M r ds vs → Reps J M' r' ds vs
  | [], _, h => h
  | d :: ds, _, h => by
    obtain ⟨v, vt, e, h1, h2⟩ := h
    exact ⟨v, vt, e, Rep.mono hM hr d v h1, Reps.mono hM hr ds vt h2⟩
end
theorem Reps.length : ∀ {ds : List D} {vs : List V}, Reps J M r ds vs → vs.length = ds.length
  | [], _, h => by cases h; rfl
  | d :: ds, _, h => by
    obtain ⟨v, vt, rfl, _, h2⟩ := h
    simp [Reps.length h2]
theorem Reps.get : ∀ {ds : List D} {vs : List V} {i : Nat} {d : D}, Reps J M r ds vs → ds[i]? = some d → ∃ v, vs[i]? = some v ∧ Rep J M r d v
  | [], _, _, _, _, e => by simp at e
  | d :: ds, _, 0, _, h, e => by
    obtain ⟨v, vt, rfl, h1, _⟩ := h
    simp at e; subst e
    exact ⟨v, rfl, h1⟩
  | d :: ds, _, i + 1, _, h, e => by
    obtain ⟨v, vt, rfl, _, h2⟩ := h
    obtain ⟨v', e', q⟩ := Reps.get (i := i) h2 (by simpa using e)
    exact ⟨v', by simpa using e', q⟩
theorem Reps.append : ∀ {ds es : List D} {vs us : List V}, Reps J M r ds vs → Reps J M r es us → Reps J M r (ds ++ es) (vs ++ us)
  | [], _, _, _, h, h' => by cases h; exact h'
  | d :: ds, _, _, _, h, h' => by
    obtain ⟨v, vt, rfl, h1, h2⟩ := h
    exact ⟨v, _, rfl, h1, Reps.append h2 h'⟩
theorem Reps.one {d : D} {v : V} (h : Rep J M r d v) : Reps J M r [d] [v] := ⟨v, [], rfl, h, rfl⟩
theorem Reps.set : ∀ {ds : List D} {vs : List V} {d : D} {v : V} (i : Nat), Reps J M r ds vs → Rep J M r d v → Reps J M r (ds.set i d) (vs.set i v)
  | [], _, _, _, _, h, _ => by cases h; rfl
  | d :: ds, _, _, _, 0, h, q => by
    obtain ⟨v, vt, rfl, h1, h2⟩ := h
    exact ⟨_, _, rfl, q, h2⟩
  | d :: ds, _, _, _, i + 1, h, q => by
    obtain ⟨v, vt, rfl, h1, h2⟩ := h
    exact ⟨_, _, rfl, h1, Reps.set i h2 q⟩
theorem Reps.take : ∀ {ds : List D} {vs : List V} (n : Nat), Reps J M r ds vs → Reps J M r (ds.take n) (vs.take n)
  | _, _, 0, _ => by simp [Reps]
  | [], _, n + 1, h => by cases h; rfl
  | d :: ds, _, n + 1, h => by
    obtain ⟨v, vt, rfl, h1, h2⟩ := h
    exact ⟨_, _, rfl, h1, Reps.take n h2⟩
theorem Reps.drop : ∀ {ds : List D} {vs : List V} (n : Nat), Reps J M r ds vs → Reps J M r (ds.drop n) (vs.drop n)
  | _, _, 0, h => h
  | [], _, n + 1, h => by cases h; rfl
  | d :: ds, _, n + 1, h => by
    obtain ⟨v, vt, rfl, h1, h2⟩ := h
    exact Reps.drop n h2
end
/-! ### the state -/
/-- a body's fixed things: the written part, the module's names, the tables of code objects; at the entry: what is known, the boxes, the heap -/
structure Cfg where
  K : PySem.W.Frag
  mg : Str → Option Value
  T : List (Addr × Str)
  M0 : Imm
  r0 : List Addr
  H0 : Hp
  L : LamP
abbrev Cfg.J (G : Cfg) : Jd := ⟨G.K, G.L, G.mg⟩
/-- a dict that is written: its keys flat tuples, or numbers and texts -/
inductive OD where
  | t (kvs : List (List L2.Key × D)) | k (kvs : List (L2.Key × D))
def OD.len : OD → Nat
  | .t kvs => kvs.length
  | .k kvs => kvs.length
/-- what a slot holds -/
inductive SV where
  | no | v (d : D) | own (ds : List D) | ownD (o : OD)
/-- something that is written -/
def SV.ow : SV → Bool
  | .own _ => true
  | .ownD _ => true
  | _ => false
abbrev DE := List SV
abbrev Bx := List (List D)
/-- a size that every list and tuple keeps to -/
abbrev big : Nat := 1000000
theorem big_line {n : Nat} (h : n ≤ big) : n ≤ sizeLine := by rw [sizeLine_eq]; unfold big at h; omega
theorem big_lt {n : Nat} (h : n < big) : n < sizeLine := by rw [sizeLine_eq]; unfold big at h; omega
def immO : HO → Prop
  | .lst xs => xs.length ≤ big
  | .tup xs => xs.length ≤ big
  | .frz _ (.lst xs) => xs.length ≤ big
  | .ext _ => True
  | .dT kvs => kvs.length ≤ big
  | _ => False
def MOk (M : Imm) (H : Hp) : Prop := ∀ a o, M a = some o → immO o ∧ H a = some o
structure BxOk (J : Jd) (M : Imm) (r : List Addr) (h : Bx) (H : Hp) : Prop where
  len : r.length = h.length
  nd : r.Nodup
  at_ : ∀ (n : Nat) (a : Addr) (ds : List D), r[n]? = some a → h[n]? = some ds → M a = none ∧ ds.length ≤ big ∧ ∃ vs, H a = some (.lst vs) ∧ Reps J M r ds vs
/-- all but the boxes and the tables stays -/
def Keep (r : List Addr) (H H' : Hp) : Prop := ∀ a o, H a = some o → (∀ ps, o ≠ .tbl ps) → a ∉ r → H' a = some o
/-- nothing stands there, or a table -/
def Free (H : Hp) (a : Addr) : Prop := ∀ o, H a = some o → ∃ ps, o = .tbl ps
/-- a list or a dict stands there -/
def Wr : HO → Prop
  | .lst _ => True
  | .dT _ => True
  | .dK _ => True
  | _ => False
def IsL (H : Hp) (a : Addr) : Prop := ∃ o, H a = some o ∧ Wr o
theorem IsL.lst {H : Hp} {a : Addr} {vs : List V} (e : H a = some (.lst vs)) : IsL H a := ⟨_, e, trivial⟩
theorem IsL.nf {H : Hp} {a : Addr} (i : IsL H a) : ¬ Free H a := fun f => by
  obtain ⟨o, e, w⟩ := i
  obtain ⟨ps, z⟩ := f _ e
  subst z
  exact w
theorem Free.of {H : Hp} {a : Addr} (h : H a = none) : Free H a := fun o e => by rw [h] at e; cases e
def OD.rep (J : Jd) (M : Imm) (r : List Addr) : OD → HO → Prop
  | .t kvs, u => ∃ va, u = .dT va ∧ va.map Prod.fst = kvs.map Prod.fst ∧ Reps J M r (kvs.map Prod.snd) (va.map Prod.snd)
  | .k kvs, u => ∃ va, u = .dK va ∧ va.map Prod.fst = kvs.map Prod.fst ∧ Reps J M r (kvs.map Prod.snd) (va.map Prod.snd)
theorem OD.rep_mono {J : Jd} {M M' : Imm} {r r' : List Addr} (hM : Le M M') (hr : r <+: r') : ∀ {o : OD} {u : HO}, o.rep J M r u → o.rep J M' r' u
  | .t _, _, ⟨va, e, f, q⟩ => ⟨va, e, f, Reps.mono hM hr _ _ q⟩
  | .k _, _, ⟨va, e, f, q⟩ => ⟨va, e, f, Reps.mono hM hr _ _ q⟩
theorem OD.rep_wr {J : Jd} {M : Imm} {r : List Addr} : ∀ {o : OD} {u : HO}, o.rep J M r u → Wr u
  | .t _, _, ⟨_, e, _⟩ => by subst e; trivial
  | .k _, _, ⟨_, e, _⟩ => by subst e; trivial
theorem Wr.ne_tbl {o : HO} {ps : Array Value} (w : Wr o) (e : o = .tbl ps) : False := by subst e; exact w
theorem Wr.ne_ext {o : HO} {φ : Heap → Prop} (w : Wr o) (e : o = .ext φ) : False := by subst e; exact w
def SlotRep (J : Jd) (M : Imm) (r : List Addr) (H0 H : Hp) : SV → Option V → Prop
  | .no, _ => True
  | .v d, o => ∃ v, o = some v ∧ Rep J M r d v
  | .own ds, o => ∃ a vs, o = some (.ref a) ∧ M a = none ∧ a ∉ r ∧ Free H0 a ∧ ds.length ≤ big ∧ H a = some (.lst vs) ∧ Reps J M r ds vs
  | .ownD od, o => ∃ a u, o = some (.ref a) ∧ M a = none ∧ a ∉ r ∧ Free H0 a ∧ od.len ≤ big ∧ H a = some u ∧ od.rep J M r u
structure BS (G : Cfg) (M : Imm) (r : List Addr) (h : Bx) (δ : DE) (σ : L2.St) (H : Hp) : Prop where
  mok : MOk M H
  bx : BxOk G.J M r h H
  tb : LamX.Tabs G.T H
  len : σ.length = δ.length
  sl : ∀ (i : Nat) (s : SV) (o : Option V), δ[i]? = some s → σ[i]? = some o → SlotRep G.J M r G.H0 H s o
  sep : ∀ (i j : Nat) (s t : SV), δ[i]? = some s → δ[j]? = some t → s.ow = true → t.ow = true → i ≠ j → σ[i]? ≠ σ[j]?
  le : Le G.M0 M
  pre : G.r0 <+: r
  new : ∀ a, a ∈ r → a ∈ G.r0 ∨ Free G.H0 a
  keep : Keep G.r0 G.H0 H
  nf : ∀ a, G.M0 a = none → IsL G.H0 a → a ∉ G.r0 → M a = none
/-- between two moments of an expression -/
structure Stp (M : Imm) (r : List Addr) (H : Hp) (M' : Imm) (r' : List Addr) (H' : Hp) : Prop where
  le : Le M M'
  pre : r <+: r'
  new : ∀ a, a ∈ r' → a ∈ r ∨ Free H a
  keep : Keep r H H'
  nf : ∀ a, M a = none → IsL H a → a ∉ r → M' a = none
theorem Keep.refl {r : List Addr} {H : Hp} : Keep r H H := fun _ _ h _ _ => h
theorem IsL.fwd {r : List Addr} {H H1 : Hp} {a : Addr} (k : Keep r H H1) (n : a ∉ r) (i : IsL H a) : IsL H1 a := i.imp fun _ z => ⟨k a _ z.1 (fun _ y => by subst y; exact z.2) n, z.2⟩
theorem Free.back {r : List Addr} {H H1 : Hp} {a : Addr} (k : Keep r H H1) (n : a ∉ r) (f : Free H1 a) : Free H a := fun o e => by
  cases o with
  | tbl ps => exact ⟨ps, rfl⟩
  | _ => exact f _ (k a _ e (fun ps z => by cases z) n)
theorem Stp.refl {M : Imm} {r : List Addr} {H : Hp} : Stp M r H M r H := ⟨Le.refl, List.prefix_rfl, fun _ h => .inl h, Keep.refl, fun _ h _ _ => h⟩
theorem Stp.trans {M M1 M2 : Imm} {r r1 r2 : List Addr} {H H1 H2 : Hp} (a : Stp M r H M1 r1 H1) (b : Stp M1 r1 H1 M2 r2 H2) : Stp M r H M2 r2 H2 := by
  refine ⟨a.le.trans b.le, a.pre.trans b.pre, fun x hx => ?_, fun x o e t n => ?_, fun x m e n => b.nf x (a.nf x m e n) (e.fwd a.keep n) fun z => (a.new x z).elim n e.nf⟩
  · by_cases hr : x ∈ r
    · exact .inl hr
    · rcases b.new x hx with z | z
      · rcases a.new x z with y | y
        · exact .inl y
        · exact .inr y
      · exact .inr (z.back a.keep hr)
  · refine b.keep x o (a.keep x o e t n) t fun z => ?_
    rcases a.new x z with q | q
    · exact n q
    · obtain ⟨ps, y⟩ := q o e
      exact t ps y
/-! ### results -/
inductive R (α : Type) where
  | ok (a : α) (h : Bx)
  | exc (c : Str) (fs : List (Str × D)) (h : Bx)
  | bad
def R.bind {α β : Type} (x : R α) (k : α → Bx → R β) : R β := match x with
  | .ok a h => k a h
  | .exc c fs h => .exc c fs h
  | .bad => .bad
@[simp] theorem R.bind_ok {α β : Type} (a : α) (h : Bx) (k : α → Bx → R β) : (R.ok a h).bind k = k a h := pr rfl
@[simp] theorem R.bind_exc {α β : Type} (c : Str) (fs : List (Str × D)) (h : Bx) (k : α → Bx → R β) : (R.exc c fs h : R α).bind k = .exc c fs h := pr rfl
@[simp] theorem R.bind_bad {α β : Type} (k : α → Bx → R β) : (R.bad : R α).bind k = .bad := pr rfl
abbrev EF := DE → Bx → R D
def RepV (J : Jd) (M : Imm) (r : List Addr) (δ : DE) (σ : L2.St) : D → V → Prop
  | .loc i, v => σ[i]? = some (some v) ∧ ∃ ds, δ[i]? = some (.own ds)
  | d, v => Rep J M r d v
theorem RepV.mono {J : Jd} {M M' : Imm} {r r' : List Addr} {δ : DE} {σ : L2.St} (hM : Le M M') (hr : r <+: r') : ∀ {d : D} {v : V}, RepV J M r δ σ d v → RepV J M' r' δ σ d v := by
  intro d v h
  cases d with
  | loc i => exact h
  | _ => exact Rep.mono hM hr _ _ h
/-- the fields of an exception -/
def ExcAt (J : Jd) (M : Imm) (r : List Addr) (H : Hp) : List (Str × D) → Option Addr → Prop
  | [], dd => dd = none
  | fs, dd => ∃ d vs, dd = some d ∧ H d = some (.xd ((fs.map (·.1)).zip vs)) ∧ Reps J M r (fs.map (·.2)) vs
/-- what stands for what, at a moment -/
abbrev Rl (α β : Type) := Imm → List Addr → α → β → Prop
def After {α β : Type} (G : Cfg) (W : WX) (σ : L2.St) (δ : DE) (rl : Rl α β) (M : Imm) (r : List Addr) (H : Hp) (x : R α) (Q : β → Hp → Prop) : Prop := match x with
  | .ok d h => ∀ v M' r' H', Stp M r H M' r' H' → BS G M' r' h δ σ H' → rl M' r' d v → Q v H'
  | .exc c fs h => ∀ C dd M' r' H', G.mg c = some (.ref C) → Stp M r H M' r' H' → BS G M' r' h δ σ H' → ExcAt G.J M' r' H' fs dd → W (.ref C) dd σ H'
  | .bad => False
/-- a reading: from the state as it stands -/
def tG {α β : Type} (G : Cfg) (W : WX) (rl : DE → L2.St → Rl α β) (f : DE → Bx → R α) : L2.St → Hp → (β → Hp → Prop) → Prop := fun σ H Q =>
  ∃ M r h δ, BS G M r h δ σ H ∧ After G W σ δ (rl δ σ) M r H (f δ h) Q
def rV (J : Jd) (δ : DE) (σ : L2.St) : Rl D V := fun M r => RepV J M r δ σ
def RepVs (J : Jd) (M : Imm) (r : List Addr) (δ : DE) (σ : L2.St) : List D → List V → Prop
  | [], vs => vs = []
  | d :: ds, vs => ∃ v vt, vs = v :: vt ∧ RepV J M r δ σ d v ∧ RepVs J M r δ σ ds vt
def rVs (J : Jd) (δ : DE) (σ : L2.St) : Rl (List D) (List V) := fun M r => RepVs J M r δ σ
def rB (_ : DE) (_ : L2.St) : Rl Bool Bool := fun _ _ a b => a = b
/-- an expression of the body computes f; an argument list; a test -/
def Ev (X : Cx) (G : Cfg) (W : WX) (e : Expr) (f : EF) : Prop := PE X e (tG G W (rV G.J) f)
def EvA (X : Cx) (G : Cfg) (W : WX) (es : List Expr) (f : DE → Bx → R (List D)) : Prop := PA X es (tG G W (rVs G.J) f)
def EvT (X : Cx) (G : Cfg) (W : WX) (e : Expr) (f : DE → Bx → R Bool) : Prop := PT X e (tG G W rB f)
def EvW (X : Cx) (G : Cfg) (W : WX) (e : Expr) (f : DE → Bx → R Bool) : Prop := PW X e (tG G W rB f)
theorem RepVs.mono {J : Jd} {M M' : Imm} {r r' : List Addr} {δ : DE} {σ : L2.St} (hM : Le M M') (hr : r <+: r') : ∀ {ds : List D} {vs : List V}, RepVs J M r δ σ ds vs → RepVs J M' r' δ σ ds vs
  | [], _, h => h
  | d :: ds, _, h => by
    obtain ⟨v, vt, e, h1, h2⟩ := h
    exact ⟨v, vt, e, h1.mono hM hr, RepVs.mono hM hr h2⟩
section
variable {X : Cx} {G : Cfg} {W : WX} {σ : L2.St} {δ : DE} {M M1 M2 : Imm} {r r1 r2 : List Addr} {h h1 h2 : Bx} {H H1 H2 : Hp}
theorem BS.fresh_r (b : BS G M r h δ σ H) {a : Addr} (e : H a = none) : a ∉ r := fun z => by
  obtain ⟨n, hn⟩ := List.getElem?_of_mem z
  have hl : n < h.length := by rw [← b.bx.len]; exact (List.getElem?_eq_some_iff.mp hn).1
  obtain ⟨_, _, vs, q, _⟩ := b.bx.at_ n a _ hn (List.getElem?_eq_getElem hl)
  rw [e] at q; cases q
theorem BS.fresh_M (b : BS G M r h δ σ H) {a : Addr} (e : H a = none) : M a = none := by
  cases q : M a with
  | none => rfl
  | some o =>
    obtain ⟨_, z⟩ := b.mok a o q
    rw [e] at z; cases z
theorem BS.lt (b : BS G M r h δ σ H) {i : Nat} {s : SV} (e : δ[i]? = some s) : ∃ o, σ[i]? = some o := by
  have hl : i < σ.length := by rw [b.len]; exact (List.getElem?_eq_some_iff.mp e).1
  exact ⟨_, List.getElem?_eq_getElem hl⟩
variable {α β α' β' : Type} {rl : Rl α β} {rl' : Rl α' β'}
/-- a further end -/
theorem After.more {x : R α} {Q Q' : β → Hp → Prop} (q : After G W σ δ rl M r H x Q) (f : ∀ v H', Q v H' → Q' v H') : After G W σ δ rl M r H x Q' := by
  cases x with
  | ok d h => exact fun v M' r' H' a b c => f v H' (q v M' r' H' a b c)
  | exc c fs h => exact q
  | bad => exact q
theorem After.from {x : R α} {Q : β → Hp → Prop} (s : Stp M r H M1 r1 H1) (q : After G W σ δ rl M r H x Q) : After G W σ δ rl M1 r1 H1 x Q := by
  cases x with
  | ok d h => exact fun v M' r' H' a b c => q v M' r' H' (s.trans a) b c
  | exc c fs h => exact fun C dd M' r' H' m a b e => q C dd M' r' H' m (s.trans a) b e
  | bad => exact q
/-- one behind the other -/
theorem After.bind {x : R α} {k : α → Bx → R α'} {Q : β' → Hp → Prop} (q : After G W σ δ rl' M r H (x.bind k) Q) :
    After G W σ δ rl M r H x fun v H1 => ∃ d M1 r1 h1, Stp M r H M1 r1 H1 ∧ BS G M1 r1 h1 δ σ H1 ∧ rl M1 r1 d v ∧ After G W σ δ rl' M1 r1 H1 (k d h1) Q := by
  cases x with
  | ok d h => exact fun v M' r' H' a b c => ⟨d, M', r', h, a, b, c, q.from a⟩
  | exc c fs h => exact q
  | bad => exact q
/-- the value as it stands -/
theorem After.now {d : α} {v : β} {Q : β → Hp → Prop} (b : BS G M r h δ σ H) (q : After G W σ δ rl M r H (.ok d h) Q) (rv : rl M r d v) : Q v H := q v M r H Stp.refl b rv
theorem tG.intro {rl : DE → L2.St → Rl α β} {f : DE → Bx → R α} {Q : β → Hp → Prop} (b : BS G M r h δ σ H) (q : After G W σ δ (rl δ σ) M r H (f δ h) Q) : tG G W rl f σ H Q := ⟨M, r, h, δ, b, q⟩
end
/-! ### readings that are asked less -/
theorem PE.imp {X : Cx} {e : Expr} {t t' : TE} (p : PE X e t) (f : ∀ σ H Q, t' σ H Q → t σ H Q) : PE X e t' := ⟨fun pins s σ H Q I h => p.run pins s σ H Q I (f σ H Q h)⟩
theorem PT.imp {X : Cx} {e : Expr} {t t' : TT} (p : PT X e t) (f : ∀ σ H Q, t' σ H Q → t σ H Q) : PT X e t' := ⟨fun pins s σ H Q I h => p.run pins s σ H Q I (f σ H Q h)⟩
theorem PW.imp {X : Cx} {e : Expr} {t t' : TT} (p : PW X e t) (f : ∀ σ H Q, t' σ H Q → t σ H Q) : PW X e t' := ⟨fun w pins s σ H Q I h => p.run w pins s σ H Q I (f σ H Q h)⟩
theorem PA.imp {X : Cx} {e : List Expr} {t t' : TA} (p : PA X e t) (f : ∀ σ H Q, t' σ H Q → t σ H Q) : PA X e t' := ⟨fun w pins s σ H Q I h => p.run w pins s σ H Q I (f σ H Q h)⟩
theorem PS.imp {X : Cx} {e : Stmt} {t t' : TS} (p : PS X e t) (f : ∀ D σ H, t' D σ H → t D σ H) : PS X e t' := ⟨fun pins s σ H D I h => p.run pins s σ H D I (f D σ H h)⟩
theorem PSs.imp {X : Cx} {e : List Stmt} {t t' : TS} (p : PSs X e t) (f : ∀ D σ H, t' D σ H → t D σ H) : PSs X e t' := ⟨fun pins s σ H D I h => p.run pins s σ H D I (f D σ H h)⟩
/-! ### new objects -/
def updM (M : Imm) (a : Addr) (o : HO) : Imm := fun b => if b = a then some o else M b
section
variable {G : Cfg} {σ : L2.St} {δ : DE} {M : Imm} {r : List Addr} {h : Bx} {H : Hp} {p : Addr} {o : HO}
theorem BS.leNew (b : BS G M r h δ σ H) (hp : H p = none) : Le M (updM M p o) := fun a u e => by
  unfold updM
  by_cases z : a = p
  · subst z; rw [b.fresh_M hp] at e; cases e
  · rw [if_neg z]; exact e
theorem upd_new (hp : H p = none) {a : Addr} {u : HO} (e : H a = some u) : upd H p o a = some u := by
  rw [upd_ne (ne_of_none e hp)]; exact e
theorem Rd.new (hp : H p = none) {a : Addr} {u : HO} (e : Rd H a u) : Rd (upd H p o) a u := by
  rcases e with e | ⟨x, e⟩
  · exact .inl (upd_new hp e)
  · exact .inr ⟨x, upd_new hp e⟩
theorem SlotRep.mono {J : Jd} {M' : Imm} {r' : List Addr} {H0 H' : Hp} (hM : Le M M') (hr : r <+: r') (hn : ∀ a u, Wr u → M a = none → H a = some u → a ∉ r → M' a = none ∧ a ∉ r' ∧ H' a = some u) :
    ∀ {s : SV} {x : Option V}, SlotRep J M r H0 H s x → SlotRep J M' r' H0 H' s x
  | .no, _, _ => trivial
  | .v d, _, q => by
    obtain ⟨v, e, q⟩ := q
    exact ⟨v, e, Rep.mono hM hr _ _ q⟩
  | .own ds, _, q => by
    obtain ⟨a, vs, e, m, n, f, z, q, t⟩ := q
    obtain ⟨m', n', q'⟩ := hn a (.lst vs) trivial m q n
    exact ⟨a, vs, e, m', n', f, z, q', Reps.mono hM hr _ _ t⟩
  | .ownD od, _, q => by
    obtain ⟨a, u, e, m, n, f, z, q, t⟩ := q
    obtain ⟨m', n', q'⟩ := hn a _ (OD.rep_wr t) m q n
    exact ⟨a, u, e, m', n', f, z, q', OD.rep_mono hM hr t⟩
/-- a new list or tuple that is never written -/
theorem BS.laid (b : BS G M r h δ σ H) (hp : H p = none) (im : immO o) : BS G (updM M p o) r h δ σ (upd H p o) ∧ Stp M r H (updM M p o) r (upd H p o) := by
  have le : Le M (updM M p o) := b.leNew hp
  have pr : p ∉ r := b.fresh_r hp
  have nM : ∀ a, a ≠ p → M a = none → updM M p o a = none := fun a n e => by unfold updM; rw [if_neg n]; exact e
  refine ⟨⟨fun a u e => ?_, ⟨b.bx.len, b.bx.nd, fun n a ds e1 e2 => ?_⟩, b.tb.ext fun a u e => upd_new hp e, b.len, fun i s x e1 e2 => ?_, b.sep, b.le.trans le, b.pre, b.new, fun a u e t n => upd_new hp (b.keep a u e t n), fun a m f n => nM a (fun z => by obtain ⟨vs, y, _⟩ := f.fwd b.keep n; rw [z, hp] at y; cases y) (b.nf a m f n)⟩,
    le, List.prefix_rfl, fun a z => .inl z, fun a u e _ _ => upd_new hp e, fun a m f _ => nM a (fun z => by obtain ⟨vs, y, _⟩ := f; rw [z, hp] at y; cases y) m⟩
  · unfold updM at e
    by_cases z : a = p
    · subst z
      rw [if_pos (Eq.refl a)] at e; cases e
      exact ⟨im, upd_same⟩
    · rw [if_neg z] at e
      exact ⟨(b.mok a u e).1, upd_new hp (b.mok a u e).2⟩
  · obtain ⟨m, z, vs, q, t⟩ := b.bx.at_ n a ds e1 e2
    exact ⟨nM a (fun y => pr (y ▸ List.mem_of_getElem? e1)) m, z, vs, upd_new hp q, Reps.mono le List.prefix_rfl _ _ t⟩
  · exact (b.sl i s x e1 e2).mono le List.prefix_rfl fun a u _ m q n => ⟨nM a (ne_of_none q hp) m, n, upd_new hp q⟩
theorem updM_same : updM M p o p = some o := if_pos rfl
end
section
variable {G : Cfg} {σ σ' : L2.St} {δ δ' : DE} {M M' : Imm} {r r' : List Addr} {h h' : Bx} {H H' : Hp} {p : Addr} {o : HO}
/-- the slots as they stood -/
theorem BS.step (b : BS G M r h δ σ H) (s : Stp M r H M' r' H') (b' : BS G M' r' h' δ' σ' H') : BS G M' r' h' δ σ H' := by
  refine ⟨b'.mok, b'.bx, b'.tb, b.len, fun i x o e1 e2 => ?_, b.sep, b'.le, b'.pre, b'.new, b'.keep, b'.nf⟩
  refine (b.sl i x o e1 e2).mono s.le s.pre fun a u w m q n => ?_
  have nf : IsL H a := ⟨u, q, w⟩
  exact ⟨s.nf a m nf n, fun z => (s.new a z).elim n nf.nf, s.keep a _ q (fun ps y => w.ne_tbl y) n⟩
/-- slots forgotten -/
theorem BS.weak (b : BS G M r h δ σ H) (hl : σ'.length = δ'.length) (w : ∀ (i : Nat) (s : SV), δ'[i]? = some s → s = .no ∨ (δ[i]? = some s ∧ σ'[i]? = σ[i]?)) : BS G M r h δ' σ' H := by
  refine ⟨b.mok, b.bx, b.tb, hl, fun i x o e1 e2 => ?_, fun i j ds es e1 e2 w1 w2 n => ?_, b.le, b.pre, b.new, b.keep, b.nf⟩
  · rcases w i x e1 with rfl | ⟨z, y⟩
    · trivial
    · exact b.sl i x o z (by rw [← y]; exact e2)
  · rcases w i _ e1 with z | ⟨z, y⟩
    · subst z; cases w1
    · rcases w j _ e2 with z' | ⟨z', y'⟩
      · subst z'; cases w2
      · rw [y, y']; exact b.sep i j ds es z z' w1 w2 n
/-- a slot takes a value -/
theorem BS.put (b : BS G M r h δ σ H) {i : Nat} {d : D} {v : V} (rv : Rep G.J M r d v) : BS G M r h (δ.set i (.v d)) (σ.set i (some v)) H := by
  refine ⟨b.mok, b.bx, b.tb, by rw [List.length_set, List.length_set]; exact b.len, fun j x o e1 e2 => ?_, fun j l ds es e1 e2 w1 w2 n => ?_, b.le, b.pre, b.new, b.keep, b.nf⟩
  · by_cases hj : i = j
    · subst hj
      have hi : i < δ.length := by
        have := (List.getElem?_eq_some_iff.mp e1).1
        simpa using this
      rw [List.getElem?_set_self hi] at e1
      rw [List.getElem?_set_self (by rw [b.len]; exact hi)] at e2
      cases e1; cases e2
      exact ⟨v, rfl, rv⟩
    · rw [List.getElem?_set_ne hj] at e1 e2
      exact b.sl j x o e1 e2
  · have nj : ∀ {j : Nat} {ds : SV}, (δ.set i (.v d))[j]? = some ds → ds.ow = true → i ≠ j ∧ δ[j]? = some ds := fun {j ds} e w => by
      by_cases hj : i = j
      · subst hj
        have hi : i < δ.length := by
          have := (List.getElem?_eq_some_iff.mp e).1
          simpa using this
        rw [List.getElem?_set_self hi] at e; cases e; cases w
      · rw [List.getElem?_set_ne hj] at e
        exact ⟨hj, e⟩
    obtain ⟨a1, a2⟩ := nj e1 w1
    obtain ⟨c1, c2⟩ := nj e2 w2
    rw [List.getElem?_set_ne a1, List.getElem?_set_ne c1]
    exact b.sep j l ds es a2 c2 w1 w2 n
/-- no slot owns it -/
def NoOwn (δ : DE) (σ : L2.St) (a : Addr) : Prop := ∀ (i : Nat) (s : SV), δ[i]? = some s → s.ow = true → σ[i]? ≠ some (some (.ref a))
theorem BS.noOwn (b : BS G M r h δ σ H) {a : Addr} (e : H a = none) : NoOwn δ σ a := fun i s e1 w e2 => by
  cases s with
  | no => cases w
  | v d => cases w
  | own ds =>
    obtain ⟨x, vs, z, _, _, _, _, q, _⟩ := b.sl i _ _ e1 e2
    cases z
    rw [e] at q; cases q
  | ownD od =>
    obtain ⟨x, vs, z, _, _, _, _, q, _⟩ := b.sl i _ _ e1 e2
    cases z
    rw [e] at q; cases q
/-- a list that nobody knows of is written -/
theorem BS.wrote (b : BS G M r h δ σ H) {a : Addr} (m : M a = none) (n : a ∉ r) (f : Free G.H0 a) (no : NoOwn δ σ a) {xs ys : List V} (q : H a = some (.lst xs)) : BS G M r h δ σ (upd H a (.lst ys)) := by
  have ne : ∀ {c u}, M c = some u → c ≠ a := fun e z => by rw [z, m] at e; cases e
  refine ⟨fun c u e => ⟨(b.mok c u e).1, by rw [upd_ne (ne e)]; exact (b.mok c u e).2⟩, ⟨b.bx.len, b.bx.nd, fun k c ds e1 e2 => ?_⟩, fun p hp => ?_, b.len, fun i s x e1 e2 => ?_, b.sep, b.le, b.pre, b.new, fun c u e t nr => ?_, b.nf⟩
  · obtain ⟨m', z, vs, q', t⟩ := b.bx.at_ k c ds e1 e2
    have hc : c ≠ a := fun y => by
      subst y
      exact n (List.mem_of_getElem? e1)
    exact ⟨m', z, vs, by rw [upd_ne hc]; exact q', t⟩
  · obtain ⟨ps, e1, e2, e3⟩ := b.tb p hp
    refine ⟨ps, by rw [upd_ne (fun z => by rw [z, q] at e1; cases e1)]; exact e1, e2, fun pos cv hc => ?_⟩
    obtain ⟨c, z1, z2⟩ := e3 pos cv hc
    refine ⟨c, z1, ?_⟩
    rw [upd_ne (fun z => by rw [z, q] at z2; cases z2)]
    exact z2
  · cases s with
    | no => trivial
    | v d => exact b.sl i _ x e1 e2
    | own ds =>
      obtain ⟨c, vs, z, m', n', f', l', q', t⟩ := b.sl i _ x e1 e2
      refine ⟨c, vs, z, m', n', f', l', ?_, t⟩
      rw [upd_ne (fun y => no i _ e1 rfl (by rw [e2, z, y]))]
      exact q'
    | ownD od =>
      obtain ⟨c, vs, z, m', n', f', l', q', t⟩ := b.sl i _ x e1 e2
      refine ⟨c, vs, z, m', n', f', l', ?_, t⟩
      rw [upd_ne (fun y => no i _ e1 rfl (by rw [e2, z, y]))]
      exact q'
  · rw [upd_ne (fun z => by
      subst z
      obtain ⟨ps, y⟩ := f u e
      exact t ps y)]
    exact b.keep c u e t nr
/-- a new list, known to nobody -/
theorem BS.new_list (b : BS G M r h δ σ H) (hp : H p = none) {xs : List V} : BS G M r h δ σ (upd H p (.lst xs)) := by
  refine ⟨fun c u e => ⟨(b.mok c u e).1, upd_new hp (b.mok c u e).2⟩, ⟨b.bx.len, b.bx.nd, fun k c ds e1 e2 => ?_⟩, b.tb.ext fun a u e => upd_new hp e, b.len, fun i s x e1 e2 => ?_, b.sep, b.le, b.pre, b.new, fun c u e t nr => upd_new hp (b.keep c u e t nr), b.nf⟩
  · obtain ⟨m', z, vs, q', t⟩ := b.bx.at_ k c ds e1 e2
    exact ⟨m', z, vs, upd_new hp q', t⟩
  · exact (b.sl i s x e1 e2).mono Le.refl List.prefix_rfl fun a u _ m q n => ⟨m, n, upd_new hp q⟩
/-- a list that nobody knows of is left out -/
theorem BS.erase (b : BS G M r h δ σ H) {a : Addr} (m : M a = none) (n : a ∉ r) (f : Free G.H0 a) (no : NoOwn δ σ a) {xs : List V} (q : H a = some (.lst xs)) : BS G M r h δ σ (fun c => if c = a then none else H c) := by
  have ne : ∀ {c u}, M c = some u → c ≠ a := fun e z => by rw [z, m] at e; cases e
  have at_ : ∀ {c : Addr} {u : HO}, c ≠ a → H c = some u → (fun c => if c = a then none else H c) c = some u := fun n e => by
    show (if _ = a then none else H _) = _
    rw [if_neg n]; exact e
  refine ⟨fun c u e => ⟨(b.mok c u e).1, at_ (ne e) (b.mok c u e).2⟩, ⟨b.bx.len, b.bx.nd, fun k c ds e1 e2 => ?_⟩, fun p hp => ?_, b.len, fun i s x e1 e2 => ?_, b.sep, b.le, b.pre, b.new, fun c u e t nr => ?_, b.nf⟩
  · obtain ⟨m', z, vs, q', t⟩ := b.bx.at_ k c ds e1 e2
    refine ⟨m', z, vs, at_ (fun y => ?_) q', t⟩
    subst y
    exact n (List.mem_of_getElem? e1)
  · obtain ⟨ps, e1, e2, e3⟩ := b.tb p hp
    refine ⟨ps, at_ (fun z => by rw [z, q] at e1; cases e1) e1, e2, fun pos cv hc => ?_⟩
    obtain ⟨c, z1, z2⟩ := e3 pos cv hc
    exact ⟨c, z1, at_ (fun z => by rw [z, q] at z2; cases z2) z2⟩
  · cases s with
    | no => trivial
    | v d => exact b.sl i _ x e1 e2
    | own ds =>
      obtain ⟨c, vs, z, m', n', f', l', q', t⟩ := b.sl i _ x e1 e2
      exact ⟨c, vs, z, m', n', f', l', at_ (fun y => no i _ e1 rfl (by rw [e2, z, y])) q', t⟩
    | ownD od =>
      obtain ⟨c, vs, z, m', n', f', l', q', t⟩ := b.sl i _ x e1 e2
      exact ⟨c, vs, z, m', n', f', l', at_ (fun y => no i _ e1 rfl (by rw [e2, z, y])) q', t⟩
  · refine at_ (fun z => ?_) (b.keep c u e t nr)
    subst z
    obtain ⟨ps, y⟩ := f u e
    exact t ps y
theorem BS.free0 (b : BS G M r h δ σ H) (hp : H p = none) : Free G.H0 p := fun o e => by
  cases o with
  | tbl ps => exact ⟨ps, rfl⟩
  | _ =>
    by_cases hr : p ∈ G.r0
    · exact absurd (b.pre.subset hr) (b.fresh_r hp)
    · have := b.keep p _ e (fun ps z => by cases z) hr
      rw [hp] at this; cases this
end
end LP
/-! LpB: expressions over plain data. -/
namespace LP
open PySem PySem.Spec PyProof.Rows L2
/-! ### what a list or a tuple holds -/
def lstOf (δ : DE) (h : Bx) : D → Option (List D)
  | .lst ds => some ds
  | .frz ds => some ds
  | .ptr n => h[n]?
  | .loc i => match δ[i]? with
    | some (.own ds) => some ds
    | _ => none
  | _ => none
def seqOf (δ : DE) (h : Bx) : D → Option (List D)
  | .tup ds => some ds
  | d => lstOf δ h d
@[simp] theorem lstOf_lst (δ : DE) (h : Bx) (ds : List D) : lstOf δ h (.lst ds) = some ds := pr rfl
@[simp] theorem lstOf_ptr (δ : DE) (h : Bx) (n : Nat) : lstOf δ h (.ptr n) = h[n]? := pr rfl
@[simp] theorem seqOf_lst (δ : DE) (h : Bx) (ds : List D) : seqOf δ h (.lst ds) = some ds := pr rfl
@[simp] theorem seqOf_tup (δ : DE) (h : Bx) (ds : List D) : seqOf δ h (.tup ds) = some ds := pr rfl
@[simp] theorem seqOf_ptr (δ : DE) (h : Bx) (n : Nat) : seqOf δ h (.ptr n) = h[n]? := pr rfl
section
variable {X : Cx} {G : Cfg} {W : WX} {σ : L2.St} {δ : DE} {M M1 M2 : Imm} {r r1 r2 : List Addr} {h h1 h2 : Bx} {H H1 H2 : Hp} {K : PySem.W.Frag} {J : Jd}
theorem sqF {a : Addr} {vs : List V} (b : BS G M r h δ σ H) (q : FLst G.K M a vs) : SqL G.K H a vs := by
  rcases q with ⟨u, q, rfl | ⟨o, rfl⟩⟩ | ⟨o, its, n, k1, k2, k3, k4, k5, k6⟩
  · exact .inl (.inl (b.mok a _ q).2)
  · exact .inl (.inr ⟨o, (b.mok a _ q).2⟩)
  · exact .inr ⟨o, its, n, k1, k2, k3, k4, big_line k5, k6⟩
theorem fbig {a : Addr} {vs : List V} (b : BS G M r h δ σ H) (q : FLst G.K M a vs) : vs.length ≤ big := by
  rcases q with ⟨u, q, rfl | ⟨o, rfl⟩⟩ | ⟨o, its, n, k1, k2, k3, k4, k5, k6⟩
  · exact (b.mok a _ q).1
  · exact (b.mok a _ q).1
  · have := k6.length
    simp only [Array.length_toList] at this
    show vs.length ≤ 1000000
    omega
theorem BS.lst (b : BS G M r h δ σ H) {d : D} {v : V} {ds : List D} (rv : RepV G.J M r δ σ d v) (e : lstOf δ h d = some ds) :
    ∃ a vs, v = .ref a ∧ SqL G.K H a vs ∧ Reps G.J M r ds vs ∧ ds.length ≤ big := by
  cases d with
  | lst es =>
    cases e
    obtain ⟨a, vs, e1, e2, t⟩ := rv
    obtain ⟨z, q⟩ := b.mok a _ e2
    exact ⟨a, vs, e1, .inl (.inl q), t, by rw [← t.length]; exact z⟩
  | frz es =>
    cases e
    obtain ⟨a, vs, e1, e2, t⟩ := rv
    exact ⟨a, vs, e1, sqF b e2, t, by rw [← t.length]; exact fbig b e2⟩
  | ptr n =>
    obtain ⟨a, e1, e2⟩ := rv
    obtain ⟨_, z, vs, q, t⟩ := b.bx.at_ n a ds e2 e
    exact ⟨a, vs, e1, .inl (.inl q), t, z⟩
  | loc i =>
    obtain ⟨e1, es, e2⟩ := rv
    simp only [lstOf, e2] at e
    cases e
    obtain ⟨a, vs, e3, _, _, _, z, q, t⟩ := b.sl i _ _ e2 e1
    cases e3
    exact ⟨a, vs, rfl, .inl (.inl q), t, z⟩
  | _ => cases e
theorem sqT_of {a : Addr} {vs : List V} (b : BS G M r h δ σ H) (q : M a = some (.tup vs) ∨ KTup G.K a vs) : SqT G.K H a vs := by
  rcases q with q | q
  · exact .inl (.inl (b.mok a _ q).2)
  · exact q.elim
/-- a list that is not locked -/
def wrOf (δ : DE) (h : Bx) (d : D) : Option (List D) := match d with
  | .frz _ => none
  | d => lstOf δ h d
@[simp] theorem wrOf_lst (δ : DE) (h : Bx) (ds : List D) : wrOf δ h (.lst ds) = some ds := pr rfl
@[simp] theorem wrOf_ptr (δ : DE) (h : Bx) (n : Nat) : wrOf δ h (.ptr n) = h[n]? := pr rfl
theorem BS.wr (b : BS G M r h δ σ H) {d : D} {v : V} {ds : List D} (rv : RepV G.J M r δ σ d v) (e : wrOf δ h d = some ds) :
    ∃ a vs, v = .ref a ∧ H a = some (.lst vs) ∧ Reps G.J M r ds vs ∧ ds.length ≤ big := by
  cases d with
  | frz es => cases e
  | lst es =>
    cases e
    obtain ⟨a, vs, e1, e2, t⟩ := rv
    obtain ⟨z, q⟩ := b.mok a _ e2
    exact ⟨a, vs, e1, q, t, by rw [← t.length]; exact z⟩
  | ptr n =>
    obtain ⟨a, e1, e2⟩ := rv
    obtain ⟨_, z, vs, q, t⟩ := b.bx.at_ n a ds e2 e
    exact ⟨a, vs, e1, q, t, z⟩
  | loc i =>
    obtain ⟨e1, es, e2⟩ := rv
    simp only [wrOf, lstOf, e2] at e
    cases e
    obtain ⟨a, vs, e3, _, _, _, z, q, t⟩ := b.sl i _ _ e2 e1
    cases e3
    exact ⟨a, vs, rfl, q, t, z⟩
  | _ => cases e
theorem tup_big (b : BS G M r h δ σ H) {a : Addr} {vs : List V} (q : M a = some (.tup vs) ∨ KTup G.K a vs) : vs.length ≤ big := by
  rcases q with q | q
  · exact (b.mok a _ q).1
  · exact q.elim
theorem BS.seq (b : BS G M r h δ σ H) {d : D} {v : V} {ds : List D} (rv : RepV G.J M r δ σ d v) (e : seqOf δ h d = some ds) :
    ∃ a vs, v = .ref a ∧ (SqL G.K H a vs ∨ SqT G.K H a vs) ∧ Reps G.J M r ds vs := by
  cases d with
  | tup es =>
    cases e
    obtain ⟨a, vs, e1, e2, t⟩ := rv
    exact ⟨a, vs, e1, .inr (sqT_of b e2), t⟩
  | _ =>
    obtain ⟨a, vs, e1, q, t, _⟩ := b.lst rv e
    exact ⟨a, vs, e1, .inl q, t⟩
/-! ### names, constants -/
def varF (i : Nat) : EF := fun δ h => match δ[i]? with
  | some (.v d) => .ok d h
  | some (.own _) => .ok (.loc i) h
  | _ => .bad
def cF (d : D) : EF := fun _ h => .ok d h
theorem ev_var {i : Nat} {x : Str} {pos : Pos} (hN : X.N[i]? = some x) (hv : Vis X.env.scope x) (hd : (x == ("__debug__" : Str)) = false := by decide) (hcd : (x == ("__classdict__" : Str)) = false := by decide) :
    Ev X G W (.Name x pos) (varF i) := by
  refine PE.imp (pe_var hN hv hd hcd) fun σ H Q q => ?_
  obtain ⟨M, r, h, δ, b, q⟩ := q
  unfold varF at q
  cases e : δ[i]? with
  | none => rw [e] at q; exact q.elim
  | some s =>
    rw [e] at q
    obtain ⟨o, eo⟩ := b.lt e
    have sr := b.sl i s o e eo
    cases s with
    | no => exact q.elim
    | v d =>
      obtain ⟨v, e1, rp⟩ := sr
      subst e1
      refine ⟨v, eo, q.now b ?_⟩
      cases d with
      | loc j => exact rp.elim
      | _ => exact rp
    | own ds =>
      obtain ⟨a, vs, e1, _⟩ := sr
      subst e1
      exact ⟨_, eo, q.now (d := D.loc i) (v := V.ref a) b ⟨eo, ds, e⟩⟩
    | ownD od => exact q.elim
theorem ev_const {e : Expr} {d : D} {v : V} (p : PE X e (tC v)) (rp : ∀ M r δ σ, RepV G.J M r δ σ d v) : Ev X G W e (cF d) :=
  PE.imp p fun σ H Q q => by
    obtain ⟨M, r, h, δ, b, q⟩ := q
    exact q.now b (rp _ _ _ _)
theorem ev_int {i : Int} {j pos} : Ev X G W (.Constant (.int i) j pos) (cF (.int i)) := ev_const pe_int fun _ _ _ _ => rfl
theorem ev_bl {i : Bool} {j pos} : Ev X G W (.Constant (.bool i) j pos) (cF (.bl i)) := ev_const pe_bl fun _ _ _ _ => rfl
theorem ev_non {j pos} : Ev X G W (.Constant .none j pos) (cF .non) := ev_const pe_non fun _ _ _ _ => rfl
theorem ev_str {i : Str} {j pos} : Ev X G W (.Constant (.str i) j pos) (cF (.str i)) := ev_const pe_str fun _ _ _ _ => rfl
/-- a module's constant -/
theorem ev_glob {x : Str} {i : Int} {t : Tok} {pos : Pos} (hg : Gl X x) (hm : X.mg x = some (.int i t)) (hd : (x == ("__debug__" : Str)) = false := by decide) : Ev X G W (.Name x pos) (cF (.int i)) :=
  ev_const (pe_glob hg hm (v := .int i) ⟨t, rfl⟩ hd) fun _ _ _ _ => rfl
/-! ### two values -/
/-- a rule by values keeps to k -/
def OpK (G : Cfg) (W : WX) (rr : R2) (k : D → D → DE → Bx → R D) : Prop := ∀ (σ : L2.St) (δ : DE) (M : Imm) (r : List Addr) (h : Bx) (H : Hp) (x y : V) (dx dy : D) (Q : VK),
  BS G M r h δ σ H → RepV G.J M r δ σ dx x → RepV G.J M r δ σ dy y → After G W σ δ (rV G.J δ σ) M r H (k dx dy δ h) Q → rr x y H Q
def bin2 (k : D → D → DE → Bx → R D) (f g : EF) : EF := fun δ h => (f δ h).bind fun a h1 => (g δ h1).bind fun b h2 => k a b δ h2
theorem tOp_of {rr : R2} {k : D → D → DE → Bx → R D} {f g : EF} (hk : OpK G W rr k) {Q : VK} (q : tG G W (rV G.J) (bin2 k f g) σ H Q) : tOp rr (tG G W (rV G.J) f) (tG G W (rV G.J) g) σ H Q := by
  obtain ⟨M, r, h, δ, b, q⟩ := q
  refine ⟨M, r, h, δ, b, (After.bind q).more fun x H1 ⟨dx, M1, r1, h1, s1, b1, rx, q1⟩ => ?_⟩
  refine ⟨M1, r1, h1, δ, b1, (After.bind q1).more fun y H2 ⟨dy, M2, r2, h2, s2, b2, ry, q2⟩ => ?_⟩
  exact hk σ δ M2 r2 h2 H2 x y dx dy Q b2 (rx.mono s2.le s2.pre) ry q2
variable {a b c : Expr} {f g f3 : EF} {pos : Pos} {rr rr' : R2} {k k' : D → D → DE → Bx → R D}
theorem ev_op {op : Operator} (ho : OpR X (binaryOp op) rr) (hk : OpK G W rr k) (ha : Ev X G W a f) (hb : Ev X G W b g) : Ev X G W (.BinOp a op b pos) (bin2 k f g) :=
  PE.imp (pe_op ho ha hb) fun _ _ _ q => tOp_of hk q
theorem ev_cmp {op : CmpOp} (ho : OpR X (compareOp op) rr) (hk : OpK G W rr k) (ha : Ev X G W a f) (hb : Ev X G W b g) (hm : behindInMarks op b = false) : Ev X G W (.Compare a [op] [b] pos) (bin2 k f g) :=
  PE.imp (pe_cmpR ho ha hb hm) fun _ _ _ q => tOp_of hk q
/-- the answer as a truth value -/
def bOf : D → Bx → R Bool
  | .bl b, h => .ok b h
  | _, _ => .bad
@[simp] theorem bOf_bl (b : Bool) (h : Bx) : bOf (.bl b) h = .ok b h := pr rfl
def testF (f : EF) : DE → Bx → R Bool := fun δ h => (f δ h).bind bOf
theorem tTest_of {f : EF} {Q : Bool → Hp → Prop} (q : tG G W rB (testF f) σ H Q) : tTest (tG G W (rV G.J) f) σ H Q := by
  obtain ⟨M, r, h, δ, b, q⟩ := q
  refine ⟨M, r, h, δ, b, (After.bind q).more fun x H1 ⟨dx, M1, r1, h1, s1, b1, rx, q1⟩ => ?_⟩
  cases dx with
  | bl v => exact ⟨v, rx, q1.now b1 rfl⟩
  | _ => exact q1.elim
theorem evt_cmp {op : CmpOp} (ho : OpR X (compareOp op) rr) (hk : OpK G W rr k) (ha : Ev X G W a f) (hb : Ev X G W b g) (hm : behindInMarks op b = false) : EvT X G W (.Compare a [op] [b] pos) (testF (bin2 k f g)) :=
  PT.imp (pt_cmpR ho ha hb hm) fun σ H Q q => by
    have z := tTest_of q
    exact tOp_of (Q := fun x H' => ∃ k, x = .bl k ∧ Q k H') hk z
/-- any expression whose test is its value (a name, a call, ..): he by fun _ => rfl -/
theorem evt_val (ha : Ev X G W a f) (he : ∀ whole, isTrue a X.env whole = (do let v ← whole; standAt a.pos; holding [v] (truthy v))) : EvT X G W a (testF f) :=
  PT.imp (pt_val ha he) fun _ _ _ q => tTest_of q
/-- a op b op' c -/
def chainF (k k' : D → D → DE → Bx → R D) (f g f3 : EF) : EF := fun δ h => (f δ h).bind fun a h1 => (g δ h1).bind fun b h2 => (k a b δ h2).bind fun z h3 => match z with
  | .bl true => (f3 δ h3).bind fun c h4 => k' b c δ h4
  | .bl false => .ok (.bl false) h3
  | _ => .bad
theorem tChain_of (hk : OpK G W rr k) (hk' : OpK G W rr' k') {Q : VK} (q : tG G W (rV G.J) (chainF k k' f g f3) σ H Q) : tChain rr rr' (tG G W (rV G.J) f) (tG G W (rV G.J) g) (tG G W (rV G.J) f3) σ H Q := by
  obtain ⟨M, r, h, δ, b, q⟩ := q
  refine ⟨M, r, h, δ, b, (After.bind q).more fun x H1 ⟨dx, M1, r1, h1, s1, b1, rx, q1⟩ => ?_⟩
  refine ⟨M1, r1, h1, δ, b1, (After.bind q1).more fun y H2 ⟨dy, M2, r2, h2, s2, b2, ry, q2⟩ => ?_⟩
  refine hk σ δ M2 r2 h2 H2 x y dx dy _ b2 (rx.mono s2.le s2.pre) ry ((After.bind q2).more fun z H3 ⟨dz, M3, r3, h3, s3, b3, rz, q3⟩ => ?_)
  cases dz with
  | bl v =>
    refine ⟨v, rz, ?_⟩
    cases v with
    | true =>
      rw [if_pos rfl]
      refine ⟨M3, r3, h3, δ, b3, (After.bind q3).more fun w H4 ⟨dw, M4, r4, h4, s4, b4, rw', q4⟩ => ?_⟩
      exact hk' σ δ M4 r4 h4 H4 y w dy dw Q b4 ((ry.mono s3.le s3.pre).mono s4.le s4.pre) rw' q4
    | false =>
      rw [if_neg (by decide)]
      exact q3.now b3 rfl
  | _ => exact q3.elim
theorem ev_chain {op op' : CmpOp} (ho : OpR X (compareOp op) rr) (ho' : OpR X (compareOp op') rr') (hk : OpK G W rr k) (hk' : OpK G W rr' k') (ha : Ev X G W a f) (hb : Ev X G W b g) (hc : Ev X G W c f3)
    (hm : lastMarks [op, op'] [b, c] = false := by with_unfolding_all rfl) : Ev X G W (.Compare a [op, op'] [b, c] pos) (chainF k k' f g f3) :=
  PE.imp (pe_chain ho ho' ha hb hc hm) fun _ _ _ q => tChain_of hk hk' q
theorem evt_chain {op op' : CmpOp} (ho : OpR X (compareOp op) rr) (ho' : OpR X (compareOp op') rr') (hk : OpK G W rr k) (hk' : OpK G W rr' k') (ha : Ev X G W a f) (hb : Ev X G W b g) (hc : Ev X G W c f3)
    (hm : lastMarks [op, op'] [b, c] = false := by with_unfolding_all rfl) : EvT X G W (.Compare a [op, op'] [b, c] pos) (testF (chainF k k' f g f3)) :=
  PT.imp (pt_chain ho ho' ha hb hc hm) fun σ H Q q => by
    have z := tTest_of q
    exact tChain_of (Q := fun x H' => ∃ k, x = .bl k ∧ Q k H') hk hk' z
/-! ### and, or, not, a if t else b -/
variable {tf tg : DE → Bx → R Bool} {rest : List Expr}
def andT (tf tg : DE → Bx → R Bool) : DE → Bx → R Bool := fun δ h => (tf δ h).bind fun b h1 => if b = true then tg δ h1 else .ok false h1
def orT (tf tg : DE → Bx → R Bool) : DE → Bx → R Bool := fun δ h => (tf δ h).bind fun b h1 => if b = true then .ok true h1 else tg δ h1
def notT (tf : DE → Bx → R Bool) : DE → Bx → R Bool := fun δ h => (tf δ h).bind fun b h1 => .ok (!b) h1
theorem evw_and1 (ha : EvT X G W a tf) : EvW X G W (.BoolOp .And [a] pos) tf := pw_and1 ha
theorem evw_or1 (ha : EvT X G W a tf) : EvW X G W (.BoolOp .Or [a] pos) tf := pw_or1 ha
theorem evw_and (ha : EvT X G W a tf) (hb : EvW X G W (.BoolOp .And (b :: rest) pos) tg) : EvW X G W (.BoolOp .And (a :: b :: rest) pos) (andT tf tg) :=
  PW.imp (pw_and ha hb) fun σ H Q q => by
    obtain ⟨M, r, h, δ, b, q⟩ := q
    refine ⟨M, r, h, δ, b, (After.bind q).more fun x H1 ⟨dx, M1, r1, h1, s1, b1, rx, q1⟩ => ?_⟩
    cases rx
    cases x with
    | true => exact ⟨M1, r1, h1, δ, b1, q1⟩
    | false => exact q1.now b1 rfl
theorem evw_or (ha : EvT X G W a tf) (hb : EvW X G W (.BoolOp .Or (b :: rest) pos) tg) : EvW X G W (.BoolOp .Or (a :: b :: rest) pos) (orT tf tg) :=
  PW.imp (pw_or ha hb) fun σ H Q q => by
    obtain ⟨M, r, h, δ, b, q⟩ := q
    refine ⟨M, r, h, δ, b, (After.bind q).more fun x H1 ⟨dx, M1, r1, h1, s1, b1, rx, q1⟩ => ?_⟩
    cases rx
    cases x with
    | false => exact ⟨M1, r1, h1, δ, b1, q1⟩
    | true => exact q1.now b1 rfl
theorem evt_w (ha : EvW X G W a tf) : EvT X G W a tf := PW.pt ha
theorem evt_not (ha : EvT X G W a tf) : EvT X G W (.UnaryOp .Not a pos) (notT tf) :=
  PT.imp (pt_not ha) fun σ H Q q => by
    obtain ⟨M, r, h, δ, b, q⟩ := q
    refine ⟨M, r, h, δ, b, (After.bind q).more fun x H1 ⟨dx, M1, r1, h1, s1, b1, rx, q1⟩ => ?_⟩
    cases rx
    exact q1.now b1 rfl
def andV (f g : EF) : EF := fun δ h => (f δ h).bind fun a h1 => match a with
  | .bl true => g δ h1
  | .bl false => .ok (.bl false) h1
  | _ => .bad
def orV (f g : EF) : EF := fun δ h => (f δ h).bind fun a h1 => match a with
  | .bl false => g δ h1
  | .bl true => .ok (.bl true) h1
  | _ => .bad
def notV (f : EF) : EF := fun δ h => (f δ h).bind fun a h1 => match a with
  | .bl b => .ok (.bl (!b)) h1
  | _ => .bad
theorem ev_one {op} (ha : Ev X G W a f) : Ev X G W (.BoolOp op [a] pos) f := pe_one ha
theorem ev_and (ha : Ev X G W a f) (hb : Ev X G W (.BoolOp .And (b :: rest) pos) g) : Ev X G W (.BoolOp .And (a :: b :: rest) pos) (andV f g) :=
  PE.imp (pe_and ha hb) fun σ H Q q => by
    obtain ⟨M, r, h, δ, b, q⟩ := q
    refine ⟨M, r, h, δ, b, (After.bind q).more fun x H1 ⟨dx, M1, r1, h1, s1, b1, rx, q1⟩ => ?_⟩
    cases dx with
    | bl v =>
      refine ⟨v, rx, ?_⟩
      cases v with
      | true => exact ⟨M1, r1, h1, δ, b1, q1⟩
      | false => exact q1.now b1 rfl
    | _ => exact q1.elim
theorem ev_or (ha : Ev X G W a f) (hb : Ev X G W (.BoolOp .Or (b :: rest) pos) g) : Ev X G W (.BoolOp .Or (a :: b :: rest) pos) (orV f g) :=
  PE.imp (pe_or ha hb) fun σ H Q q => by
    obtain ⟨M, r, h, δ, b, q⟩ := q
    refine ⟨M, r, h, δ, b, (After.bind q).more fun x H1 ⟨dx, M1, r1, h1, s1, b1, rx, q1⟩ => ?_⟩
    cases dx with
    | bl v =>
      refine ⟨v, rx, ?_⟩
      cases v with
      | false => exact ⟨M1, r1, h1, δ, b1, q1⟩
      | true => exact q1.now b1 rfl
    | _ => exact q1.elim
theorem ev_not (ha : Ev X G W a f) : Ev X G W (.UnaryOp .Not a pos) (notV f) :=
  PE.imp (pe_not ha) fun σ H Q q => by
    obtain ⟨M, r, h, δ, b, q⟩ := q
    refine ⟨M, r, h, δ, b, (After.bind q).more fun x H1 ⟨dx, M1, r1, h1, s1, b1, rx, q1⟩ => ?_⟩
    cases dx with
    | bl v => exact ⟨v, rx, q1.now b1 rfl⟩
    | _ => exact q1.elim
def iteF (t : DE → Bx → R Bool) (f g : EF) : EF := fun δ h => (t δ h).bind fun b h1 => if b = true then f δ h1 else g δ h1
theorem ev_if (hc : EvT X G W c tf) (ha : Ev X G W a f) (hb : Ev X G W b g) : Ev X G W (.IfExp c a b pos) (iteF tf f g) :=
  PE.imp (pe_ifExp hc ha hb) fun σ H Q q => by
    obtain ⟨M, r, h, δ, b, q⟩ := q
    refine ⟨M, r, h, δ, b, (After.bind q).more fun x H1 ⟨dx, M1, r1, h1, s1, b1, rx, q1⟩ => ?_⟩
    cases rx
    cases x with
    | true => exact ⟨M1, r1, h1, δ, b1, q1⟩
    | false => exact ⟨M1, r1, h1, δ, b1, q1⟩
/-! ### lists of arguments; displays -/
variable {e : Expr} {es : List Expr} {fs : DE → Bx → R (List D)}
def nilA : DE → Bx → R (List D) := fun _ h => .ok [] h
def consA (f : EF) (fs : DE → Bx → R (List D)) : DE → Bx → R (List D) := fun δ h => (f δ h).bind fun d h1 => (fs δ h1).bind fun ds h2 => .ok (d :: ds) h2
theorem eva_nil : EvA X G W [] nilA := PA.imp pa_nil fun σ H Q q => by
  obtain ⟨M, r, h, δ, b, q⟩ := q
  exact q.now b rfl
theorem eva_cons (ha : Ev X G W e f) (hr : EvA X G W es fs) (hs : starEach (e :: es) X.env = (false, eval e X.env) :: starEach es X.env := by rfl) : EvA X G W (e :: es) (consA f fs) :=
  PA.imp (pa_cons ha hr hs) fun σ H Q q => by
    obtain ⟨M, r, h, δ, b, q⟩ := q
    refine ⟨M, r, h, δ, b, (After.bind q).more fun x H1 ⟨dx, M1, r1, h1, s1, b1, rx, q1⟩ => ?_⟩
    refine ⟨M1, r1, h1, δ, b1, (After.bind q1).more fun xs H2 ⟨ds, M2, r2, h2, s2, b2, rs, q2⟩ => ?_⟩
    exact q2.now b2 ⟨x, xs, rfl, RepV.mono s2.le s2.pre rx, rs⟩
/-- no slot's own list -/
def isV : D → Bool
  | .loc _ => false
  | _ => true
theorem RepVs.reps : ∀ {ds : List D} {vs : List V}, RepVs J M r δ σ ds vs → ds.all isV = true → Reps J M r ds vs
  | [], _, q, _ => q
  | d :: ds, _, q, e => by
    obtain ⟨v, vt, rfl, h1, h2⟩ := q
    rw [List.all_cons, Bool.and_eq_true] at e
    refine ⟨v, vt, rfl, ?_, RepVs.reps h2 e.2⟩
    cases d with
    | loc i => cases e.1
    | _ => exact h1
theorem RepVs.length : ∀ {ds : List D} {vs : List V}, RepVs J M r δ σ ds vs → vs.length = ds.length
  | [], _, q => by cases q; rfl
  | d :: ds, _, q => by
    obtain ⟨v, vt, rfl, _, h2⟩ := q
    simp [RepVs.length h2]
def mkD (c : List D → D) (ds : List D) (h : Bx) : R D := if (ds.all isV && decide (ds.length ≤ big)) = true then .ok (c ds) h else .bad
theorem mkD_ok {c : List D → D} {ds : List D} {h : Bx} (e : (ds.all isV && decide (ds.length ≤ big)) = true) : mkD c ds h = .ok (c ds) h := if_pos e
/-- a new tuple, a new list: laid -/
theorem tup_new (b : BS G M r h δ σ H) {ds : List D} {vs : List V} (t : Reps G.J M r ds vs) (z : ds.length ≤ big) {Q : VK} (q : After G W σ δ (rV G.J δ σ) M r H (.ok (.tup ds) h) Q) : ∀ p, H p = none → Q (.ref p) (upd H p (.tup vs)) := fun p hp => by
  obtain ⟨b', s⟩ := b.laid (o := .tup vs) hp (by show vs.length ≤ big; rw [t.length]; exact z)
  exact q _ _ _ _ s b' ⟨p, vs, rfl, .inl updM_same, Reps.mono s.le s.pre _ _ t⟩
theorem lst_new (b : BS G M r h δ σ H) {ds : List D} {vs : List V} (t : Reps G.J M r ds vs) (z : ds.length ≤ big) {Q : VK} (q : After G W σ δ (rV G.J δ σ) M r H (.ok (.lst ds) h) Q) : ∀ p, H p = none → Q (.ref p) (upd H p (.lst vs)) := fun p hp => by
  obtain ⟨b', s⟩ := b.laid (o := .lst vs) hp (by show vs.length ≤ big; rw [t.length]; exact z)
  exact q _ _ _ _ s b' ⟨p, vs, rfl, updM_same, Reps.mono s.le s.pre _ _ t⟩
def tupF (fs : DE → Bx → R (List D)) : EF := fun δ h => (fs δ h).bind (mkD .tup)
def lstF (fs : DE → Bx → R (List D)) : EF := fun δ h => (fs δ h).bind (mkD .lst)
theorem ev_tup {x1} (ha : EvA X G W es fs) : Ev X G W (.Tuple es x1 pos) (tupF fs) :=
  PE.imp (pe_tup ha) fun σ H Q q => by
    obtain ⟨M, r, h, δ, b, q⟩ := q
    refine ⟨M, r, h, δ, b, (After.bind q).more fun xs H1 ⟨ds, M1, r1, h1, s1, b1, rx, q1⟩ => ?_⟩
    unfold mkD at q1
    split at q1
    · rename_i e
      rw [Bool.and_eq_true, decide_eq_true_eq] at e
      have t := RepVs.reps rx e.1
      exact ⟨by rw [t.length]; exact big_line e.2, tup_new b1 t e.2 q1⟩
    · exact q1.elim
theorem ev_lst (ha : EvA X G W es fs) : Ev X G W (.List es pos) (lstF fs) :=
  PE.imp (pe_lst ha) fun σ H Q q => by
    obtain ⟨M, r, h, δ, b, q⟩ := q
    refine ⟨M, r, h, δ, b, (After.bind q).more fun xs H1 ⟨ds, M1, r1, h1, s1, b1, rx, q1⟩ => ?_⟩
    unfold mkD at q1
    split at q1
    · rename_i e
      rw [Bool.and_eq_true, decide_eq_true_eq] at e
      have t := RepVs.reps rx e.1
      exact ⟨by rw [t.length]; exact big_line e.2, lst_new b1 t e.2 q1⟩
    · exact q1.elim
end
end LP
/-! LpC: operators, comparisons, built-ins by values of plain data. -/
namespace LP
open PySem PySem.Spec PyProof.Rows L2
/-! ### data as the library's data -/
mutual
def D.py : D → PyData
  | .non => .none
  | .bl b => .bool b
  | .int i => .int i
  | .str x => .str x
  | .tup ds => .tuple (D.pys ds)
  | .lst ds => .list (D.pys ds)
  | .ptr _ => .none
  | .loc _ => .none
  | .frz ds => .list (D.pys ds)
  | .lam _ => .none
  | .fn _ => .none
  | .dct _ _ => .none
def D.pys : List D → List PyData
  | [] => []
  | d :: ds => d.py :: D.pys ds
end
mutual
/-- no box within -/
def D.pure : D → Bool
  | .tup ds => D.pures ds
  | .lst ds => D.pures ds
  | .frz ds => D.pures ds
  | .ptr _ => false
  | .loc _ => false
  | .lam _ => false
  | .fn _ => false
  | .dct _ _ => false
  | _ => true
def D.pures : List D → Bool
  | [] => true
  | d :: ds => d.pure && D.pures ds
end
mutual
def D.dep : D → Nat
  | .tup ds => D.deps ds + 1
  | .lst ds => D.deps ds + 1
  | .frz ds => D.deps ds + 1
  | _ => 0
def D.deps : List D → Nat
  | [] => 0
  | d :: ds => max d.dep (D.deps ds)
end
/-- == -/
def D.eq (a b : D) : Bool := PyData.eqv a.py b.py
mutual
theorem plain_py : ∀ d : D, d.py.plain = true
  | .non => rfl
  | .bl _ => rfl
  | .int _ => rfl
  | .str _ => rfl
  | .tup ds => by show PyData.plainAll (D.pys ds) = true; exact plain_pys ds
  | .lst ds => by show PyData.plainAll (D.pys ds) = true; exact plain_pys ds
  | .frz ds => by show PyData.plainAll (D.pys ds) = true; exact plain_pys ds
  | .ptr _ => rfl
  | .loc _ => rfl
  | .lam _ => rfl
  | .fn _ => rfl
  | .dct _ _ => rfl
theorem plain_pys : ∀ ds : List D, PyData.plainAll (D.pys ds) = true
  | [] => rfl
  | d :: ds => by show (d.py.plain && PyData.plainAll (D.pys ds)) = true; rw [plain_py d, plain_pys ds]; rfl
end
mutual
theorem depth_py : ∀ d : D, d.py.depth = d.dep
  | .non => rfl
  | .bl _ => rfl
  | .int _ => rfl
  | .str _ => rfl
  | .tup ds => by show PyData.depthAll (D.pys ds) + 1 = D.deps ds + 1; rw [depth_pys ds]
  | .lst ds => by show PyData.depthAll (D.pys ds) + 1 = D.deps ds + 1; rw [depth_pys ds]
  | .frz ds => by show PyData.depthAll (D.pys ds) + 1 = D.deps ds + 1; rw [depth_pys ds]
  | .ptr _ => rfl
  | .loc _ => rfl
  | .lam _ => rfl
  | .fn _ => rfl
  | .dct _ _ => rfl
theorem depth_pys : ∀ ds : List D, PyData.depthAll (D.pys ds) = D.deps ds
  | [] => rfl
  | d :: ds => by show max d.py.depth (PyData.depthAll (D.pys ds)) = max d.dep (D.deps ds); rw [depth_py d, depth_pys ds]
end
/-- a box as what it holds -/
def vw (δ : DE) (h : Bx) (d : D) : D := match lstOf δ h d with
  | some ds => .lst ds
  | none => d
section
variable {X : Cx} {G : Cfg} {W : WX} {σ : L2.St} {δ : DE} {M M1 M2 : Imm} {r r1 r2 : List Addr} {h h1 h2 : Bx} {H H1 H2 : Hp} {K : PySem.W.Frag} {J : Jd}
mutual
theorem dp_rep (b : BS G M r h δ σ H) : ∀ (d : D) (v : V), Rep G.J M r d v → d.pure = true → Dp G.K H v d.py
  | .non, _, q, _ => by cases q; exact .non
  | .bl _, _, q, _ => by cases q; exact .bl _
  | .int _, _, q, _ => by cases q; exact .int _
  | .str _, _, q, _ => by cases q; exact .str _
  | .tup ds, _, q, p => by
    obtain ⟨a, vs, e, q, t⟩ := q
    subst e
    exact .tup (sqT_of b q) (dp_reps b ds vs t p)
  | .lst ds, _, q, p => by
    obtain ⟨a, vs, e, q, t⟩ := q
    subst e
    exact .lst (.inl (.inl (b.mok a _ q).2)) (dp_reps b ds vs t p)
  | .frz ds, _, q, p => by
    obtain ⟨a, vs, e, q, t⟩ := q
    subst e
    exact .lst (sqF b q) (dp_reps b ds vs t p)
  | .ptr _, _, _, p => by cases p
  | .loc _, _, _, p => by cases p
  | .lam _, _, _, p => by cases p
  | .fn _, _, _, p => by cases p
  | .dct _ _, _, _, p => by cases p
theorem dp_reps (b : BS G M r h δ σ H) : ∀ (ds : List D) (vs : List V), Reps G.J M r ds vs → D.pures ds = true → DpAll G.K H vs (D.pys ds)
  | [], _, q, _ => by cases q; exact .nil
  | d :: ds, _, q, p => by
    obtain ⟨v, vt, rfl, h1, h2⟩ := q
    have p' : (d.pure && D.pures ds) = true := p
    rw [Bool.and_eq_true] at p'
    exact .cons (dp_rep b d v h1 p'.1) (dp_reps b ds vt h2 p'.2)
end
theorem dp_of (b : BS G M r h δ σ H) {d : D} {v : V} (rv : RepV G.J M r δ σ d v) (p : (vw δ h d).pure = true) : Dp G.K H v (vw δ h d).py := by
  unfold vw at p ⊢
  cases e : lstOf δ h d with
  | some ds =>
    rw [e] at p
    obtain ⟨a, vs, e1, q, t, _⟩ := b.lst rv e
    subst e1
    exact .lst q (dp_reps b ds vs t p)
  | none =>
    rw [e] at p
    cases d with
    | ptr n => cases p
    | loc i => cases p
    | lam k => cases p
    | fn x => cases p
    | _ => exact dp_rep b _ _ rv p
def rEqP (K : PySem.W.Frag) (ng : Bool) : R2 := fun x y H Q => ∃ d e : D, Dp K H x d.py ∧ Dp K H y e.py ∧ min d.dep e.dep ≤ 64 ∧ Q (.bl (if ng then !D.eq d e else D.eq d e)) H
theorem op_eqP (hu : X.A.units + 64 < cLine) : OpR X (compareOp .Eq) (rEqP X.K false) := by
  intro pins s σ H x y v u Q I rx ry h
  obtain ⟨d, e, hd, he, z, q⟩ := h
  obtain ⟨as, r1⟩ := Dp.reads I _ x v hd rx
  obtain ⟨bs, r2⟩ := Dp.reads I _ y u he ry
  exact SeqAt.eq_plain r1 r2 (plain_py d) (plain_py e) (by rw [depth_py, depth_py]; omega) ⟨.bl _, H, I, rfl, q⟩
theorem op_neP (hu : X.A.units + 64 < cLine) : OpR X (compareOp .NotEq) (rEqP X.K true) := by
  intro pins s σ H x y v u Q I rx ry h
  obtain ⟨d, e, hd, he, z, q⟩ := h
  obtain ⟨as, r1⟩ := Dp.reads I _ x v hd rx
  obtain ⟨bs, r2⟩ := Dp.reads I _ y u he ry
  exact SeqAt.ne_plain r1 r2 (plain_py d) (plain_py e) (by rw [depth_py, depth_py]; omega) ⟨.bl _, H, I, rfl, q⟩
def eqK (ng : Bool) (a b : D) (δ : DE) (h : Bx) : R D :=
  if ((vw δ h a).pure && (vw δ h b).pure && decide (min (vw δ h a).dep (vw δ h b).dep ≤ 64)) = true then .ok (.bl (if ng then !D.eq (vw δ h a) (vw δ h b) else D.eq (vw δ h a) (vw δ h b))) h else .bad
theorem eqK_ok (ng : Bool) : OpK G W (rEqP G.K ng) (eqK ng) := by
  intro σ δ M r h H x y dx dy Q b rx ry q
  unfold eqK at q
  split at q
  · rename_i e
    rw [Bool.and_eq_true, Bool.and_eq_true, decide_eq_true_eq] at e
    exact ⟨_, _, dp_of b rx e.1.1, dp_of b ry e.1.2, e.2, q.now b rfl⟩
  · exact q.elim
/-! ### in, not in -/
def rInP (K : PySem.W.Frag) (ng : Bool) : R2 := fun x y H Q => ∃ (d : D) (ds : List D), Dp K H x d.py ∧ (Dp K H y (.list (D.pys ds)) ∨ Dp K H y (.tuple (D.pys ds))) ∧ min (D.deps ds) d.dep ≤ 60 ∧
  Q (.bl (if ng then !ds.any (fun z => D.eq z d) else ds.any fun z => D.eq z d)) H
theorem any_pys (d : PyData) : ∀ ds : List D, ((D.pys ds).any fun z => PyData.eqv z d) = ds.any fun z => PyData.eqv z.py d
  | [] => rfl
  | e :: ds => by show (PyData.eqv e.py d || (D.pys ds).any fun z => PyData.eqv z d) = _; rw [any_pys d ds]; rfl
theorem op_inP (hu : X.A.units + 64 < cLine) : OpR X (compareOp .In) (rInP X.K false) := by
  intro pins s σ H x y v u Q I rx ry h
  obtain ⟨d, ds, hd, he, z, q⟩ := h
  obtain ⟨as, r1⟩ := Dp.reads I _ x v hd rx
  have hq : EP X pins σ Q (.bool ((D.pys ds).any fun z => PyData.eqv z d.py)) s := ⟨.bl _, H, I, rfl, by rw [any_pys]; exact q⟩
  have hz : X.A.units + 1 + min (PyData.depthAll (D.pys ds)) d.py.depth < cLine := by rw [depth_py, depth_pys]; omega
  rcases he with he | he
  · obtain ⟨bs, r2⟩ := Dp.reads I _ y u he ry
    exact SeqAt.in_list_data r2 r1 (plain_pys ds) (plain_py d) hz hq
  · obtain ⟨bs, r2⟩ := Dp.reads I _ y u he ry
    exact SeqAt.in_tuple_data r2 r1 (plain_pys ds) (plain_py d) hz hq
theorem op_notInP (hu : X.A.units + 64 < cLine) : OpR X (compareOp .NotIn) (rInP X.K true) := by
  intro pins s σ H x y v u Q I rx ry h
  obtain ⟨d, ds, hd, he, z, q⟩ := h
  obtain ⟨as, r1⟩ := Dp.reads I _ x v hd rx
  have hq : EP X pins σ Q (.bool (!(D.pys ds).any fun z => PyData.eqv z d.py)) s := ⟨.bl _, H, I, rfl, by rw [any_pys]; exact q⟩
  have hz : X.A.units + 1 + min (PyData.depthAll (D.pys ds)) d.py.depth < cLine := by rw [depth_py, depth_pys]; omega
  rcases he with he | he
  · obtain ⟨bs, r2⟩ := Dp.reads I _ y u he ry
    exact SeqAt.notIn_list_data r2 r1 (plain_pys ds) (plain_py d) hz hq
  · obtain ⟨bs, r2⟩ := Dp.reads I _ y u he ry
    exact SeqAt.notIn_tuple_data r2 r1 (plain_pys ds) (plain_py d) hz hq
def inK (ng : Bool) (a b : D) (δ : DE) (h : Bx) : R D := match seqOf δ h b with
  | some ds => if ((vw δ h a).pure && D.pures ds && decide (min (D.deps ds) (vw δ h a).dep ≤ 60)) = true then
      .ok (.bl (if ng then !ds.any (fun z => D.eq z (vw δ h a)) else ds.any fun z => D.eq z (vw δ h a))) h else .bad
  | none => .bad
theorem inK_ok (ng : Bool) : OpK G W (rInP G.K ng) (inK ng) := by
  intro σ δ M r h H x y dx dy Q b rx ry q
  unfold inK at q
  split at q
  · rename_i ds es
    split at q
    · rename_i e
      rw [Bool.and_eq_true, Bool.and_eq_true, decide_eq_true_eq] at e
      obtain ⟨a, vs, e1, hs, t⟩ := b.seq ry es
      subst e1
      refine ⟨_, ds, dp_of b rx e.1.1, ?_, e.2, q.now b rfl⟩
      rcases hs with hs | hs
      · exact .inl (.lst hs (dp_reps b ds vs t e.1.2))
      · exact .inr (.tup hs (dp_reps b ds vs t e.1.2))
    · exact q.elim
  · exact q.elim
/-! ### is None; <, <=, >, >= of ints -/
def isNon : D → Bool
  | .non => true
  | _ => false
def isNK (a b : D) (_ : DE) (h : Bx) : R D := match b with
  | .non => .ok (.bl (isNon a)) h
  | _ => .bad
def notNK (a b : D) (_ : DE) (h : Bx) : R D := match b with
  | .non => .ok (.bl (!isNon a)) h
  | _ => .bad
theorem non_iff {d : D} {x : V} (rv : RepV J M r δ σ d x) (nl : ∀ i, d ≠ .loc i) : decide (x = .non) = isNon d := by
  cases d with
  | loc i => exact absurd rfl (nl i)
  | non => cases rv; rfl
  | bl _ => cases rv; rfl
  | int _ => cases rv; rfl
  | str _ => cases rv; rfl
  | tup _ => obtain ⟨a, vs, e, _⟩ := rv; subst e; rfl
  | lst _ => obtain ⟨a, vs, e, _⟩ := rv; subst e; rfl
  | frz _ => obtain ⟨a, vs, e, _⟩ := rv; subst e; rfl
  | ptr _ => obtain ⟨a, e, _⟩ := rv; subst e; rfl
  | fn _ => obtain ⟨a, e, _⟩ := rv; subst e; rfl
  | dct _ _ => obtain ⟨a, kvs, e, _⟩ := rv; subst e; rfl
  | lam _ => obtain ⟨f, o, c, q, e, _⟩ := rv; subst e; rfl
theorem non_loc (b : BS G M r h δ σ H) {d : D} {x : V} (rv : RepV G.J M r δ σ d x) : decide (x = .non) = isNon d := by
  cases d with
  | loc i =>
    obtain ⟨e1, ds, e2⟩ := rv
    obtain ⟨a, vs, e3, _⟩ := b.sl i _ _ e2 e1
    cases e3; rfl
  | _ => exact non_iff rv (fun i z => by cases z)
theorem isNK_ok : OpK G W (fun x y H Q => y = .non ∧ Q (.bl (decide (x = .non))) H) isNK := by
  intro σ δ M r h H x y dx dy Q b rx ry q
  cases dy with
  | non =>
    cases ry
    refine ⟨rfl, ?_⟩
    rw [non_loc b rx]
    exact q.now b rfl
  | _ => exact q.elim
theorem notNK_ok : OpK G W (fun x y H Q => y = .non ∧ Q (.bl (!decide (x = .non))) H) notNK := by
  intro σ δ M r h H x y dx dy Q b rx ry q
  cases dy with
  | non =>
    cases ry
    refine ⟨rfl, ?_⟩
    rw [non_loc b rx]
    exact q.now b rfl
  | _ => exact q.elim
def i2K (g : Int → Int → D) (a b : D) (_ : DE) (h : Bx) : R D := match a, b with
  | .int i, .int j => .ok (g i j) h
  | _, _ => .bad
theorem i2K_ok {g : Int → Int → D} {gv : Int → Int → V} (hg : ∀ i j M r δ σ, RepV G.J M r δ σ (g i j) (gv i j)) : OpK G W (rI0 gv) (i2K g) := by
  intro σ δ M r h H x y dx dy Q b rx ry q
  unfold i2K at q
  split at q
  · rename_i i j
    cases rx; cases ry
    exact ⟨i, j, rfl, rfl, q.now b (hg i j _ _ _ _)⟩
  · exact q.elim
def i2KC (C : Int → Int → Bool) (g : Int → Int → D) (a b : D) (_ : DE) (h : Bx) : R D := match a, b with
  | .int i, .int j => if C i j = true then .ok (g i j) h else .bad
  | _, _ => .bad
theorem i2KC_ok {C : Int → Int → Bool} {P : Int → Int → Prop} {g : Int → Int → D} {gv : Int → Int → V} (hC : ∀ i j, C i j = true → P i j) (hg : ∀ i j M r δ σ, RepV G.J M r δ σ (g i j) (gv i j)) : OpK G W (rI P gv) (i2KC C g) := by
  intro σ δ M r h H x y dx dy Q b rx ry q
  unfold i2KC at q
  split at q
  · rename_i i j
    cases rx; cases ry
    split at q
    · rename_i e
      exact ⟨i, j, rfl, rfl, hC i j e, q.now b (hg i j _ _ _ _)⟩
    · exact q.elim
  · exact q.elim
abbrev ltK := i2K fun i j => .bl (decide (i < j))
abbrev leK := i2K fun i j => .bl (decide (i ≤ j))
abbrev gtK := i2K fun i j => .bl (decide (j < i))
abbrev geK := i2K fun i j => .bl (decide (j ≤ i))
theorem ltK_ok : OpK G W (rI0 fun i j => .bl (decide (i < j))) ltK := i2K_ok fun _ _ _ _ _ _ => rfl
theorem leK_ok : OpK G W (rI0 fun i j => .bl (decide (i ≤ j))) leK := i2K_ok fun _ _ _ _ _ _ => rfl
theorem gtK_ok : OpK G W (rI0 fun i j => .bl (decide (j < i))) gtK := i2K_ok fun _ _ _ _ _ _ => rfl
theorem geK_ok : OpK G W (rI0 fun i j => .bl (decide (j ≤ i))) geK := i2K_ok fun _ _ _ _ _ _ => rfl
/-! ### arithmetic -/
abbrev subK := i2K fun i j => .int (i - j)
theorem subK_ok : OpK G W (rI0 fun i j => .int (i - j)) subK := i2K_ok fun _ _ _ _ _ _ => rfl
abbrev modK := i2KC (fun _ j => decide (0 < j)) fun i j => .int (i % j)
theorem modK_ok : OpK G W (rI (fun _ j => 0 < j) fun i j => .int (i % j)) modK := i2KC_ok (fun _ _ e => by have e' := of_decide_eq_true e; exact e') fun _ _ _ _ _ _ => rfl
abbrev divK := i2KC (fun _ j => decide (0 < j ∧ j < 1073741824)) fun i j => .int (i / j)
theorem divK_ok : OpK G W (rI CDiv fun i j => .int (i / j)) divK := i2KC_ok (fun _ _ e => by have e' := of_decide_eq_true e; exact e') fun _ _ _ _ _ _ => rfl
abbrev powK := i2KC (fun i j => decide (0 ≤ j ∧ j ≤ 1000000 ∧ i.natAbs < 2 ^ 64)) fun i j => .int (i ^ j.toNat)
theorem powK_ok : OpK G W (rI CPow fun i j => .int (i ^ j.toNat)) powK := i2KC_ok (fun _ _ e => by have e' := of_decide_eq_true e; exact e') fun _ _ _ _ _ _ => rfl
abbrev mulK := i2KC (fun i j => decide ((-(2 ^ 64) < i ∧ i < 2 ^ 64) ∨ (-(2 ^ 64) < j ∧ j < 2 ^ 64))) fun i j => .int (i * j)
theorem mulK_ok : OpK G W (rI CMul fun i j => .int (i * j)) mulK := i2KC_ok (fun _ _ e => by have e' := of_decide_eq_true e; exact e') fun _ _ _ _ _ _ => rfl
def addK (a b : D) (δ : DE) (h : Bx) : R D := match a, b with
  | .int i, .int j => .ok (.int (i + j)) h
  | .str x, .str y => if x.length + y.length ≤ big then .ok (.str (x ++ y)) h else .bad
  | .tup xs, .tup ys => if xs.length + ys.length ≤ big then .ok (.tup (xs ++ ys)) h else .bad
  | a, b => match wrOf δ h a, wrOf δ h b with
    | some xs, some ys => if xs.length + ys.length ≤ big then .ok (.lst (xs ++ ys)) h else .bad
    | _, _ => .bad
abbrev rAddK (K : PySem.W.Frag) : R2 := fun x y H Q => rI0 (fun i j => .int (i + j)) x y H Q ∨ (fun x y H Q => (fun x y H Q => ∃ i j : Str, x = .str i ∧ y = .str j ∧ i.length + j.length ≤ sizeLine ∧ Q (.str (i ++ j)) H) x y H Q ∨
  (fun x y H Q => rCatA K x y H Q ∨ rCat x y H Q) x y H Q) x y H Q
theorem op_addK : OpR X (binaryOp .Add) (rAddK X.K) := OpR.or op_add (OpR.or op_add_str (OpR.or op_catA op_cat))
theorem addK_ok : OpK G W (rAddK G.K) addK := by
  intro σ δ M r h H x y dx dy Q b rx ry q
  unfold addK at q
  split at q
  · rename_i i j
    cases rx; cases ry
    exact .inl ⟨i, j, rfl, rfl, q.now b rfl⟩
  · rename_i i j
    split at q
    · rename_i e
      cases rx; cases ry
      exact .inr (.inl ⟨i, j, rfl, rfl, big_line e, q.now b rfl⟩)
    · exact q.elim
  · rename_i xs ys
    split at q
    · rename_i e
      obtain ⟨a, vs, e1, m1, t1⟩ := rx
      obtain ⟨c, us, e2, m2, t2⟩ := ry
      subst e1 e2
      refine .inr (.inr (.inl ⟨a, c, vs, us, rfl, rfl, sqT_of b m1, sqT_of b m2, by rw [t1.length, t2.length]; exact big_line e, fun z => ?_, fun n z => ?_, fun n n' => ?_⟩))
      · have : xs = [] := List.eq_nil_of_length_eq_zero (by rw [← t1.length, z]; rfl)
        subst this
        exact q.now b ⟨c, us, rfl, m2, t2⟩
      · have : ys = [] := List.eq_nil_of_length_eq_zero (by rw [← t2.length, z]; rfl)
        subst this
        rw [List.append_nil] at q
        exact q.now b ⟨a, vs, rfl, m1, t1⟩
      · exact tup_new b (t1.append t2) (by rw [List.length_append]; exact e) q
    · exact q.elim
  · split at q
    · rename_i xs ys e1 e2
      split at q
      · rename_i e
        obtain ⟨a, vs, z1, q1, t1, _⟩ := b.wr rx e1
        obtain ⟨c, us, z2, q2, t2, _⟩ := b.wr ry e2
        subst z1 z2
        exact .inr (.inr (.inr ⟨a, c, vs, us, rfl, rfl, q1, q2, by rw [t1.length, t2.length]; exact big_line e, lst_new b (t1.append t2) (by rw [List.length_append]; exact e) q⟩))
      · exact q.elim
    · exact q.elim
def negF (f : EF) : EF := fun δ h => (f δ h).bind fun d h1 => match d with
  | .int i => .ok (.int (-i)) h1
  | _ => .bad
theorem ev_neg {a : Expr} {f : EF} {pos : Pos} (ha : Ev X G W a f) : Ev X G W (.UnaryOp .USub a pos) (negF f) :=
  PE.imp (pe_un un_neg ha) fun σ H Q q => by
    obtain ⟨M, r, h, δ, b, q⟩ := q
    refine ⟨M, r, h, δ, b, (After.bind q).more fun x H1 ⟨dx, M1, r1, h1, s1, b1, rx, q1⟩ => ?_⟩
    cases dx with
    | int i => exact ⟨i, rx, q1.now b1 rfl⟩
    | _ => exact q1.elim
/-! ### a place, a slice -/
theorem atI_rep {ds : List D} {vs : List V} {i : Int} {d : D} (t : Reps J M r ds vs) (e : atI ds i = some d) : ∃ v, atI vs i = some v ∧ Rep J M r d v := by
  unfold atI at e ⊢
  rw [t.length]
  cases q : ixN ds.length i with
  | none => rw [q] at e; cases e
  | some j =>
    rw [q] at e
    exact t.get e
/-- a flat tuple as a key -/
def keyD : D → Option L2.Key
  | .int i => some (.inl i)
  | .str x => some (.inr x)
  | _ => none
def keysD : List D → Option (List L2.Key)
  | [] => some []
  | d :: ds => (keyD d).bind fun k => (keysD ds).map fun ks => k :: ks
def tkOf : D → Option (List L2.Key)
  | .tup ds => keysD ds
  | _ => none
/-- what a dict has at a key -/
def getK : List (List L2.Key) → List D → List L2.Key → Option D
  | k' :: ks, d :: ds, k => if k' = k then some d else getK ks ds k
  | _, _, _ => none
theorem keyD_rep {d : D} {v : V} {k : L2.Key} (q : Rep J M r d v) (e : keyD d = some k) : v = kV k := by
  cases d with
  | int i => cases e; exact q
  | str x => cases e; exact q
  | _ => cases e
theorem keysD_rep : ∀ {ds : List D} {vs : List V} {ks : List L2.Key}, Reps J M r ds vs → keysD ds = some ks → vs = ks.map kV
  | [], _, _, t, e => by cases t; cases e; rfl
  | d :: ds, _, _, t, e => by
    obtain ⟨v, vt, rfl, h1, h2⟩ := t
    obtain ⟨k, e1, e⟩ := Option.bind_eq_some_iff.mp e
    obtain ⟨ks, e2, rfl⟩ := Option.map_eq_some_iff.mp e
    rw [List.map_cons, keyD_rep h1 e1, keysD_rep h2 e2]
theorem getK_rep : ∀ {ks : List (List L2.Key)} {ds : List D} {kvs : List (List L2.Key × V)} {k : List L2.Key} {d : D}, kvs.map Prod.fst = ks → Reps J M r ds (kvs.map Prod.snd) → getK ks ds k = some d → ∃ v, valV kvs k = some v ∧ Rep J M r d v
  | [], _, _, _, _, _, _, e => by cases e
  | _ :: _, [], _, _, _, _, _, e => by cases e
  | k' :: ks, d' :: ds, [], _, _, m, _, _ => by cases m
  | k' :: ks, d' :: ds, p :: kvs, k, d, m, t, e => by
    rw [List.map_cons] at m t
    obtain ⟨v, vt, e1, h1, h2⟩ := t
    injection e1 with e1 e3
    injection m with m1 m2
    subst m1
    unfold getK at e
    by_cases z : p.1 = k
    · rw [if_pos z] at e
      cases e
      exact ⟨p.2, valV_pos z, by rw [e1]; exact h1⟩
    · rw [if_neg z] at e
      rw [valV_neg z]
      exact getK_rep m2 (by rw [e3]; exact h2) e
def ixK (a b : D) (δ : DE) (h : Bx) : R D := match b with
  | .int i => match seqOf δ h a with
    | some ds => match atI ds i with
      | some d => .ok d h
      | none => .bad
    | none => .bad
  | .tup es => match a with
    | .dct ks ds => match keysD es with
      | some k => match getK ks ds k with
        | some d => .ok d h
        | none => .bad
      | none => .bad
    | _ => .bad
  | _ => .bad
theorem rep_V {d : D} {v : V} (q : Rep J M r d v) : RepV J M r δ σ d v := by
  cases d with
  | loc i => exact q.elim
  | _ => exact q
/-- list, tuple, str or dict -/
def rIxD (K : PySem.W.Frag) : R2 := fun x y H Q => rIx K x y H Q ∨ ∃ a v, x = .ref a ∧ DGet H a y (some v) ∧ Q v H
theorem ix_dict (hu : X.A.units + 64 < cLine) : IxR X (fun x y H Q => ∃ a v, x = .ref a ∧ DGet H a y (some v) ∧ Q v H) := by
  intro value slice pins s σ H x y v u Q I rx ry h hs
  obtain ⟨a, z, rfl, g, q⟩ := h
  cases rx
  exact tail_any (dict_typeIs I g) PySem.F.slot_dict_getitem.lookup (d_getItem (by omega) I g ry fun w' s3 I3 rw' => ⟨z, H, I3, rw', q⟩) hs
theorem ix_seqD (hu : X.A.units + 64 < cLine) : IxR X (rIxD X.K) := ix_seq.or (ix_dict hu)
theorem ixK_ok : OpK G W (rIxD G.K) ixK := by
  intro σ δ M r h H x y dx dy Q b rx ry q
  unfold ixK at q
  split at q
  · rename_i i
    cases ry
    split at q
    · rename_i ds e
      split at q
      · rename_i d e2
        obtain ⟨a, vs, e1, hs, t⟩ := b.seq rx e
        subst e1
        obtain ⟨v, e3, rp⟩ := atI_rep t e2
        rcases hs with hs | hs
        · exact .inl (.inl ⟨a, vs, i, v, rfl, rfl, hs, e3, q.now b (rep_V rp)⟩)
        · exact .inl (.inr (.inl ⟨a, vs, i, v, rfl, rfl, hs, e3, q.now b (rep_V rp)⟩))
      · exact q.elim
    · exact q.elim
  · rename_i es
    split at q
    · rename_i ks ds
      split at q
      · rename_i k e
        split at q
        · rename_i d e2
          obtain ⟨a, kvs, e1, m, e3, t⟩ := rx
          obtain ⟨a', vs, e4, m', t'⟩ := ry
          subst e1 e4
          obtain ⟨v, e5, rp⟩ := getK_rep e3 t e2
          have m2 : M a' = some (.tup vs) := m'.resolve_right id
          rw [keysD_rep t' e] at m2
          refine .inr ⟨a, v, rfl, ?_, q.now b (rep_V rp)⟩
          rw [← e5]
          exact DGet.t (b.mok _ _ m).2 (b.mok _ _ m2).2
        · exact q.elim
      · exact q.elim
    · exact q.elim
  · exact q.elim
variable {a b c : Expr} {f g f3 : EF} {pos p2 : Pos}
theorem ev_ix (hu : X.A.units + 64 < cLine) (ha : Ev X G W a f) (hb : Ev X G W b g) (hK : X.K = G.K) (hs : PlainIx b := by exact fun _ _ => rfl) : Ev X G W (.Subscript a b pos) (bin2 ixK f g) :=
  PE.imp (pe_ix (ix_seqD hu) ha hb hs) fun σ H Q q => by rw [hK]; exact tOp_of ixK_ok q
/-- the parts of a slice -/
def cutD (xs : List D) (lo hi : Option Int) : List D := (xs.drop (HT.sIx xs.length 0 lo)).take (HT.sIx xs.length xs.length hi - HT.sIx xs.length 0 lo)
theorem cut_rep {ds : List D} {vs : List V} (t : Reps J M r ds vs) (lo hi : Option Int) : Reps J M r (cutD ds lo hi) (cutV vs lo hi) := by
  unfold cutD cutV
  rw [t.length]
  exact (t.drop _).take _
theorem cut_len (ds : List D) (lo hi : Option Int) : (cutD ds lo hi).length ≤ ds.length := by
  unfold cutD
  rw [List.length_take, List.length_drop]
  omega
def rOI (_ : DE) (_ : L2.St) : Rl (Option Int) (Option Int) := fun _ _ a b => a = b
def EvO (X : Cx) (G : Cfg) (W : WX) (e : Option Expr) (f : DE → Bx → R (Option Int)) : Prop := PO X e (tG G W rOI f)
theorem PO.imp {e : Option Expr} {t t' : TO} (p : PO X e t) (f : ∀ σ H Q, t' σ H Q → t σ H Q) : PO X e t' := ⟨fun pins s σ H Q I h => p.run pins s σ H Q I (f σ H Q h)⟩
def noO : DE → Bx → R (Option Int) := fun _ h => .ok none h
def someO (f : EF) : DE → Bx → R (Option Int) := fun δ h => (f δ h).bind fun d h1 => match d with
  | .int i => .ok (some i) h1
  | _ => .bad
theorem evo_none : EvO X G W none noO := PO.imp po_none fun σ H Q q => by
  obtain ⟨M, r, h, δ, b, q⟩ := q
  exact q.now b rfl
theorem evo_some (ha : Ev X G W a f) : EvO X G W (some a) (someO f) := PO.imp (po_some ha) fun σ H Q q => by
  obtain ⟨M, r, h, δ, b, q⟩ := q
  refine ⟨M, r, h, δ, b, (After.bind q).more fun x H1 ⟨dx, M1, r1, h1, s1, b1, rx, q1⟩ => ?_⟩
  cases dx with
  | int i => exact ⟨i, rx, q1.now b1 rfl⟩
  | _ => exact q1.elim
def slF (f : EF) (fl fh : DE → Bx → R (Option Int)) : EF := fun δ h => (f δ h).bind fun d h1 => (fl δ h1).bind fun lo h2 => (fh δ h2).bind fun hi h3 => match d with
  | .tup ds => .ok (.tup (cutD ds lo hi)) h3
  | d => match lstOf δ h3 d with
    | some ds => .ok (.lst (cutD ds lo hi)) h3
    | none => .bad
theorem cut_whole {ds : List D} {n : Nat} {lo hi : Option Int} (e : n = ds.length) (w : HT.sIx n 0 lo = 0 ∧ HT.sIx n n hi = n) : cutD ds lo hi = ds := by
  subst e
  unfold cutD
  rw [w.1, w.2, List.drop_zero, Nat.sub_zero, List.take_length]
theorem ev_sl {lo hi : Option Expr} {fl fh : DE → Bx → R (Option Int)} (ha : Ev X G W a f) (hl : EvO X G W lo fl) (hh : EvO X G W hi fh) (hK : X.K = G.K) : Ev X G W (.Subscript a (.Slice lo hi none p2) pos) (slF f fl fh) :=
  PE.imp (pe_slice (SlR.or sl_list sl_tupA) ha hl hh) fun σ H Q q => by
    rw [hK]
    obtain ⟨M, r, h, δ, b, q⟩ := q
    refine ⟨M, r, h, δ, b, (After.bind q).more fun x H1 ⟨dx, M1, r1, h1, s1, b1, rx, q1⟩ => ?_⟩
    refine ⟨M1, r1, h1, δ, b1, (After.bind q1).more fun o H2 ⟨o2, M2, r2, h2, s2, b2, e2, q2⟩ => ?_⟩
    refine ⟨M2, r2, h2, δ, b2, (After.bind q2).more fun o' H3 ⟨o3, M3, r3, h3, s3, b3, e3, q3⟩ => ?_⟩
    cases e2; cases e3
    have rx3 := RepV.mono s3.le s3.pre (RepV.mono s2.le s2.pre rx)
    have other : ∀ ds, lstOf δ h3 dx = some ds → After G W σ δ (rV G.J δ σ) M3 r3 H3 (.ok (.lst (cutD ds o o')) h3) Q → (fun x lo hi H Q => rSlL G.K x lo hi H Q ∨ rSlA G.K x lo hi H Q) x o o' H3 Q := fun ds e q => by
      obtain ⟨a, vs, e1, q1, t, z⟩ := b3.lst rx3 e
      subst e1
      exact .inl ⟨a, vs, rfl, q1, lst_new b3 (cut_rep t o o') (Nat.le_trans (cut_len _ _ _) z) q⟩
    cases dx with
    | tup ds =>
      obtain ⟨a, vs, e1, m, t⟩ := rx3
      subst e1
      refine .inr ⟨a, vs, rfl, sqT_of b3 m, fun w => ?_, fun _ => ?_⟩
      · have q3 : After G W σ δ (rV G.J δ σ) M3 r3 H3 (.ok (.tup (cutD ds o o')) h3) Q := q3
        rw [cut_whole t.length w] at q3
        exact q3.now b3 ⟨a, vs, rfl, m, t⟩
      · exact tup_new b3 (cut_rep t o o') (Nat.le_trans (cut_len _ _ _) (by rw [← t.length]; exact tup_big b3 m)) q3
    | _ =>
      simp only at q3
      split at q3
      · rename_i ds e
        exact other ds e q3
      · exact q3.elim
end
end LP
/-! LpD: statements over plain data; what loops walk; comprehensions. -/
namespace LP
open PySem PySem.Spec PyProof.Rows L2
inductive RS where
  | nx (δ : DE) (h : Bx) | rt (d : D) (h : Bx) | bk (δ : DE) (h : Bx) | ct (δ : DE) (h : Bx) | exc (c : Str) (fs : List (Str × D)) (δ : DE) (h : Bx) | bad
abbrev SF := DE → Bx → RS
def AfterS (G : Cfg) (W : WX) (M0 : Imm) (r0 : List Addr) (x : RS) (E : Ends) : Prop := match x with
  | .nx δ h => ∀ M r σ H, Le M0 M → r0 <+: r → BS G M r h δ σ H → E.nx σ H
  | .rt d h => ∀ v M r δ σ H, Le M0 M → r0 <+: r → BS G M r h δ σ H → Rep G.J M r d v → E.rt v H
  | .bk δ h => ∀ M r σ H, Le M0 M → r0 <+: r → BS G M r h δ σ H → E.bk σ H
  | .ct δ h => ∀ M r σ H, Le M0 M → r0 <+: r → BS G M r h δ σ H → E.ct σ H
  | .exc c fs δ h => ∀ C dd M r σ H, G.mg c = some (.ref C) → Le M0 M → r0 <+: r → BS G M r h δ σ H → ExcAt G.J M r H fs dd → W (.ref C) dd σ H
  | .bad => False
def tS (G : Cfg) (W : WX) (f : SF) : TS := fun E σ H => ∃ M r h δ, BS G M r h δ σ H ∧ AfterS G W M r (f δ h) E
def Es (X : Cx) (G : Cfg) (W : WX) (st : Stmt) (f : SF) : Prop := PS X st (tS G W f)
def Ess (X : Cx) (G : Cfg) (W : WX) (st : List Stmt) (f : SF) : Prop := PSs X st (tS G W f)
/-- an expression ahead of a statement -/
def R.toS {α : Type} (δ : DE) (x : R α) (k : α → Bx → RS) : RS := match x with
  | .ok a h => k a h
  | .exc c fs h => .exc c fs δ h
  | .bad => .bad
@[simp] theorem R.toS_ok {α : Type} (δ : DE) (a : α) (h : Bx) (k : α → Bx → RS) : (R.ok a h).toS δ k = k a h := pr rfl
@[simp] theorem R.toS_exc {α : Type} (δ : DE) (c : Str) (fs : List (Str × D)) (h : Bx) (k : α → Bx → RS) : (R.exc c fs h : R α).toS δ k = .exc c fs δ h := pr rfl
@[simp] theorem R.toS_bad {α : Type} (δ : DE) (k : α → Bx → RS) : (R.bad : R α).toS δ k = .bad := pr rfl
section
variable {X : Cx} {G : Cfg} {W : WX} {σ : L2.St} {δ : DE} {M M1 M2 : Imm} {r r1 r2 : List Addr} {h h1 h2 : Bx} {H H1 H2 : Hp} {E : Ends}
theorem AfterS.from {x : RS} {E : Ends} (le : Le M M1) (pr : r <+: r1) (q : AfterS G W M r x E) : AfterS G W M1 r1 x E := by
  cases x with
  | nx δ h => exact fun M' r' σ H a c b => q M' r' σ H (le.trans a) (pr.trans c) b
  | rt d h => exact fun v M' r' δ σ H a c b z => q v M' r' δ σ H (le.trans a) (pr.trans c) b z
  | bk δ h => exact fun M' r' σ H a c b => q M' r' σ H (le.trans a) (pr.trans c) b
  | ct δ h => exact fun M' r' σ H a c b => q M' r' σ H (le.trans a) (pr.trans c) b
  | exc c fs δ h => exact fun C dd M' r' σ H m a c b z => q C dd M' r' σ H m (le.trans a) (pr.trans c) b z
  | bad => exact q
/-- an expression, then a statement -/
theorem AfterS.expr {α β : Type} {rl : DE → L2.St → Rl α β} {x : R α} {k : α → Bx → RS} (b : BS G M r h δ σ H) (q : AfterS G W M r (x.toS δ k) E) :
    After G W σ δ (rl δ σ) M r H x fun v H1 => ∃ d M1 r1 h1, Stp M r H M1 r1 H1 ∧ BS G M1 r1 h1 δ σ H1 ∧ rl δ σ M1 r1 d v ∧ AfterS G W M1 r1 (k d h1) E := by
  cases x with
  | ok d h => exact fun v M' r' H' a b c => ⟨d, M', r', h, a, b, c, AfterS.from a.le a.pre q⟩
  | exc c fs h => exact fun C dd M' r' H' m a b e => q C dd M' r' σ H' m a.le a.pre b e
  | bad => exact q
/-- now -/
theorem AfterS.nxt {δ' : DE} {h' : Bx} {σ' : L2.St} {H' : Hp} (q : AfterS G W M r (.nx δ' h') E) (b : BS G M r h' δ' σ' H') : E.nx σ' H' := q M r σ' H' Le.refl List.prefix_rfl b
variable {e c : Expr} {f g : EF} {st : Stmt} {sts : List Stmt} {sf sg : SF} {tf : DE → Bx → R Bool} {pos : Pos}
def seqS (sf sg : SF) : SF := fun δ h => match sf δ h with
  | .nx δ' h' => sg δ' h'
  | x => x
theorem ess_nil : Ess X G W [] (fun δ h => .nx δ h) := PSs.imp pss_nil fun E σ H q => by
  obtain ⟨M, r, h, δ, b, q⟩ := q
  exact q M r σ H Le.refl List.prefix_rfl b
theorem ess_one (p : Es X G W st sf) : Ess X G W [st] sf := pss_one p
theorem ess_cons (p : Es X G W st sf) (q : Ess X G W sts sg) : Ess X G W (st :: sts) (seqS sf sg) := PSs.imp (pss_cons p q) fun E σ H q => by
  obtain ⟨M, r, h, δ, b, q⟩ := q
  refine ⟨M, r, h, δ, b, ?_⟩
  unfold seqS at q
  cases e : sf δ h with
  | nx δ' h' => rw [e] at q; exact fun M' r' σ' H' le pr b' => ⟨M', r', h', δ', b', AfterS.from le pr q⟩
  | rt d h => rw [e] at q; exact q
  | bk δ h => rw [e] at q; exact q
  | ct δ h => rw [e] at q; exact q
  | exc c fs δ h => rw [e] at q; exact q
  | bad => rw [e] at q; exact q
theorem es_pass : Es X G W (.Pass pos) (fun δ h => .nx δ h) := PS.imp ps_pass fun E σ H q => by
  obtain ⟨M, r, h, δ, b, q⟩ := q
  exact q M r σ H Le.refl List.prefix_rfl b
theorem es_break : Es X G W (.Break pos) (fun δ h => .bk δ h) := PS.imp ps_break fun E σ H q => by
  obtain ⟨M, r, h, δ, b, q⟩ := q
  exact q M r σ H Le.refl List.prefix_rfl b
theorem es_continue : Es X G W (.Continue pos) (fun δ h => .ct δ h) := PS.imp ps_continue fun E σ H q => by
  obtain ⟨M, r, h, δ, b, q⟩ := q
  exact q M r σ H Le.refl List.prefix_rfl b
/-- an expression, its value dropped -/
def exprS (f : EF) : SF := fun δ h => (f δ h).toS δ fun _ h1 => .nx δ h1
theorem es_expr (p : Ev X G W e f) (hs : swapsWith e none pos.line X.env = pure false := by rfl) : Es X G W (.Expr e pos) (exprS f) := PS.imp (ps_expr p hs) fun E σ H q => by
  obtain ⟨M, r, h, δ, b, q⟩ := q
  exact ⟨M, r, h, δ, b, (AfterS.expr (rl := rV G.J) b q).more fun v H1 ⟨d, M1, r1, h1, s1, b1, _, q1⟩ => q1.nxt b1⟩
/-- the list of a slot is never written again -/
theorem BS.freeze (b : BS G M r h δ σ H) {i : Nat} {ds : List D} (e : δ[i]? = some (.own ds)) : ∃ M' a vs, σ[i]? = some (some (.ref a)) ∧ Le M M' ∧ BS G M' r h (δ.set i (.v (.lst ds))) σ H ∧ M' a = some (.lst vs) ∧ Reps G.J M' r ds vs := by
  obtain ⟨o, eo⟩ := b.lt e
  obtain ⟨a, vs, rfl, m, n, f, z, q, t⟩ := b.sl i _ _ e eo
  have le : Le M (updM M a (.lst vs)) := fun c u e => by
    unfold updM
    by_cases y : c = a
    · subst y; rw [m] at e; cases e
    · rw [if_neg y]; exact e
  have nM : ∀ c, c ≠ a → M c = none → updM M a (.lst vs) c = none := fun c y e => by unfold updM; rw [if_neg y]; exact e
  have hi : i < δ.length := (List.getElem?_eq_some_iff.mp e).1
  refine ⟨updM M a (.lst vs), a, vs, eo, le, ⟨fun c u e => ?_, ⟨b.bx.len, b.bx.nd, fun k c es e1 e2 => ?_⟩, b.tb, by rw [List.length_set]; exact b.len, fun j s x e1 e2 => ?_, fun j l ds' es' e1 e2 w1 w2 n' => ?_, b.le.trans le, b.pre, b.new, b.keep, fun c m0 fr nr => nM c (fun y => by subst y; exact fr.nf f) (b.nf c m0 fr nr)⟩, updM_same, Reps.mono le List.prefix_rfl _ _ t⟩
  · unfold updM at e
    by_cases y : c = a
    · subst y
      rw [if_pos rfl] at e; cases e
      exact ⟨by show vs.length ≤ big; rw [t.length]; exact z, q⟩
    · rw [if_neg y] at e
      exact b.mok c u e
  · obtain ⟨m', z', vs', q', t'⟩ := b.bx.at_ k c es e1 e2
    refine ⟨nM c (fun y => ?_) m', z', vs', q', Reps.mono le List.prefix_rfl _ _ t'⟩
    subst y
    exact n (List.mem_of_getElem? e1)
  · by_cases hj : i = j
    · subst hj
      rw [List.getElem?_set_self hi] at e1
      cases e1
      rw [eo] at e2; cases e2
      exact ⟨_, rfl, a, vs, rfl, updM_same, Reps.mono le List.prefix_rfl _ _ t⟩
    · rw [List.getElem?_set_ne hj] at e1
      cases s with
      | no => trivial
      | v d =>
        obtain ⟨v, y1, y2⟩ := b.sl j _ x e1 e2
        exact ⟨v, y1, Rep.mono le List.prefix_rfl _ _ y2⟩
      | own es =>
        obtain ⟨c, us, y1, m', n', f', z', q', t'⟩ := b.sl j _ x e1 e2
        refine ⟨c, us, y1, nM c (fun y => ?_) m', n', f', z', q', Reps.mono le List.prefix_rfl _ _ t'⟩
        subst y
        exact b.sep i j _ _ e e1 rfl rfl hj (by rw [eo, e2, y1])
      | ownD es =>
        obtain ⟨c, us, y1, m', n', f', z', q', t'⟩ := b.sl j _ x e1 e2
        refine ⟨c, us, y1, nM c (fun y => ?_) m', n', f', z', q', OD.rep_mono le List.prefix_rfl t'⟩
        subst y
        exact b.sep i j _ _ e e1 rfl rfl hj (by rw [eo, e2, y1])
  · have nj : ∀ {j : Nat} {es : SV}, (δ.set i (.v (.lst ds)))[j]? = some es → es.ow = true → δ[j]? = some es := fun {j es} e w => by
      by_cases hj : i = j
      · subst hj
        rw [List.getElem?_set_self hi] at e; cases e; cases w
      · rw [List.getElem?_set_ne hj] at e
        exact e
    exact b.sep j l ds' es' (nj e1 w1) (nj e2 w2) w1 w2 n'
/-- what is handed back: a slot's own list is never written again -/
def retK (δ : DE) (d : D) (h : Bx) : RS := match d with
  | .loc i => match δ[i]? with
    | some (.own ds) => .rt (.lst ds) h
    | _ => .bad
  | d => .rt d h
def retS (f : EF) : SF := fun δ h => (f δ h).toS δ (retK δ)
theorem es_ret (p : Ev X G W e f) : Es X G W (.Return (some e) pos) (retS f) := PS.imp (ps_ret p) fun E σ H q => by
  obtain ⟨M, r, h, δ, b, q⟩ := q
  refine ⟨M, r, h, δ, b, (AfterS.expr (rl := rV G.J) b q).more fun v H1 ⟨d, M1, r1, h1, s1, b1, rv, q1⟩ => ?_⟩
  cases d with
  | loc i =>
    obtain ⟨e1, ds, e2⟩ := rv
    simp only [retK, e2] at q1
    obtain ⟨M', a, vs, e3, le, b', m, t⟩ := b1.freeze e2
    rw [e1] at e3; cases e3
    exact q1 _ M' r1 _ σ H1 le List.prefix_rfl b' ⟨a, vs, rfl, m, t⟩
  | _ => exact q1 v M1 r1 δ σ H1 Le.refl List.prefix_rfl b1 rv
theorem es_retN : Es X G W (.Return none pos) (fun _ h => .rt .non h) := PS.imp ps_retN fun E σ H q => by
  obtain ⟨M, r, h, δ, b, q⟩ := q
  exact q .non M r δ σ H Le.refl List.prefix_rfl b rfl
def ifS (tf : DE → Bx → R Bool) (sf sg : SF) : SF := fun δ h => (tf δ h).toS δ fun c h1 => if c = true then sf δ h1 else sg δ h1
theorem es_if {a b : List Stmt} (hc : EvT X G W c tf) (ha : Ess X G W a sf) (hb : Ess X G W b sg) : Es X G W (.If c a b pos) (ifS tf sf sg) := PS.imp (ps_if hc ha hb) fun E σ H q => by
  obtain ⟨M, r, h, δ, b, q⟩ := q
  refine ⟨M, r, h, δ, b, (AfterS.expr (rl := rB) b q).more fun v H1 ⟨d, M1, r1, h1, s1, b1, rv, q1⟩ => ?_⟩
  cases rv
  cases v with
  | true => exact ⟨M1, r1, h1, δ, b1, q1⟩
  | false => exact ⟨M1, r1, h1, δ, b1, q1⟩
/-- name = value -/
def setS (i : Nat) (f : EF) : SF := fun δ h => (f δ h).toS δ fun d h1 => if isV d = true then .nx (δ.set i (.v d)) h1 else .bad
theorem es_set {i : Nat} {x : Str} {pos' : Pos} (hN : X.N.Nodup) (hi : X.N[i]? = some x) (hx : Loc X.env.scope x) (he : Ev X G W e f) (hs : swapsWith e (some (.Name x pos')) pos.line X.env = pure false := by rfl) (hf : X.fn x = true ∨ X.env.scope.names.lookup x = some .local := by first | exact .inl rfl | exact .inr rfl | assumption) :
    Es X G W (.Assign [.Name x pos'] e pos) (setS i f) := PS.imp (ps_set hN hi hx he hs hf) fun E σ H q => by
  obtain ⟨M, r, h, δ, b, q⟩ := q
  refine ⟨M, r, h, δ, b, (AfterS.expr (rl := rV G.J) b q).more fun v H1 ⟨d, M1, r1, h1, s1, b1, rv, q1⟩ => ?_⟩
  cases d with
  | loc i => exact q1.elim
  | _ => exact q1.nxt (b1.put rv)
/-- ahead of a statement: the list of slot i is never written again -/
def frzS (i : Nat) (sf : SF) : SF := fun δ h => match δ[i]? with
  | some (.own ds) => sf (δ.set i (.v (.lst ds))) h
  | _ => .bad
theorem es_frz (i : Nat) (p : Es X G W st sf) : Es X G W st (frzS i sf) := PS.imp p fun E σ H q => by
  obtain ⟨M, r, h, δ, b, q⟩ := q
  unfold frzS at q
  split at q
  · rename_i ds e
    obtain ⟨M', a, vs, _, le, b', _⟩ := b.freeze e
    exact ⟨M', r, h, _, b', AfterS.from le List.prefix_rfl q⟩
  · exact q.elim
/-- ahead of a statement: slots are forgotten -/
def dropS (i : Nat) (sf : SF) : SF := fun δ h => sf (δ.set i .no) h
theorem BS.drop (b : BS G M r h δ σ H) (i : Nat) : BS G M r h (δ.set i .no) σ H := by
  refine b.weak (by rw [List.length_set]; exact b.len) fun j s e => ?_
  by_cases hj : i = j
  · subst hj
    by_cases hi : i < δ.length
    · rw [List.getElem?_set_self hi] at e
      cases e; exact .inl rfl
    · rw [List.getElem?_eq_none (by rw [List.length_set]; omega)] at e; cases e
  · rw [List.getElem?_set_ne hj] at e
    exact .inr ⟨e, rfl⟩
theorem es_drop (i : Nat) (p : Es X G W st sf) : Es X G W st (dropS i sf) := PS.imp p fun E σ H q => by
  obtain ⟨M, r, h, δ, b, q⟩ := q
  exact ⟨M, r, h, _, b.drop i, q⟩
/-! ### new lists -/
/-- an expression that lays a new list -/
def AfterN (G : Cfg) (W : WX) (σ : L2.St) (δ : DE) (M : Imm) (r : List Addr) (H : Hp) (x : R (List D)) (Q : VK) : Prop := match x with
  | .ok ds h => ∀ vs M' r' H' p, Stp M r H M' r' H' → BS G M' r' h δ σ H' → Reps G.J M' r' ds vs → ds.length ≤ big → H' p = none → Q (.ref p) (upd H' p (.lst vs))
  | .exc c fs h => ∀ C dd M' r' H', G.mg c = some (.ref C) → Stp M r H M' r' H' → BS G M' r' h δ σ H' → ExcAt G.J M' r' H' fs dd → W (.ref C) dd σ H'
  | .bad => False
def tN (G : Cfg) (W : WX) (f : DE → Bx → R (List D)) : TE := fun σ H Q => ∃ M r h δ, BS G M r h δ σ H ∧ AfterN G W σ δ M r H (f δ h) Q
def EvN (X : Cx) (G : Cfg) (W : WX) (e : Expr) (f : DE → Bx → R (List D)) : Prop := PE X e (tN G W f)
/-- a new list as a value -/
def valN (fs : DE → Bx → R (List D)) : EF := fun δ h => (fs δ h).bind fun ds h1 => .ok (.lst ds) h1
/-- a new list as a box -/
def boxN (fs : DE → Bx → R (List D)) : EF := fun δ h => (fs δ h).bind fun ds h1 => .ok (.ptr h1.length) (h1 ++ [ds])
variable {fs : DE → Bx → R (List D)}
theorem AfterN.from {x : R (List D)} {Q : VK} (s : Stp M r H M1 r1 H1) (q : AfterN G W σ δ M r H x Q) : AfterN G W σ δ M1 r1 H1 x Q := by
  cases x with
  | ok d h => exact fun vs M' r' H' p a b c => q vs M' r' H' p (s.trans a) b c
  | exc c fs h => exact fun C dd M' r' H' m a b e => q C dd M' r' H' m (s.trans a) b e
  | bad => exact q
theorem AfterN.bind {α β : Type} {rl : Rl α β} {x : R α} {k : α → Bx → R (List D)} {Q : VK} (q : AfterN G W σ δ M r H (x.bind k) Q) :
    After G W σ δ rl M r H x fun v H1 => ∃ d M1 r1 h1, Stp M r H M1 r1 H1 ∧ BS G M1 r1 h1 δ σ H1 ∧ rl M1 r1 d v ∧ AfterN G W σ δ M1 r1 H1 (k d h1) Q := by
  cases x with
  | ok d h => exact fun v M' r' H' a b c => ⟨d, M', r', h, a, b, c, AfterN.from a q⟩
  | exc c fs h => exact q
  | bad => exact q
def lstN (fs : DE → Bx → R (List D)) : DE → Bx → R (List D) := fun δ h => (fs δ h).bind fun ds h1 => if (ds.all isV && decide (ds.length ≤ big)) = true then .ok ds h1 else .bad
theorem evn_lst {es : List Expr} (ha : EvA X G W es fs) : EvN X G W (.List es pos) (lstN fs) :=
  PE.imp (pe_lst ha) fun σ H Q q => by
    obtain ⟨M, r, h, δ, b, q⟩ := q
    refine ⟨M, r, h, δ, b, (AfterN.bind (rl := rVs G.J δ σ) q).more fun vs H1 ⟨ds, M1, r1, h1, s1, b1, rv, q1⟩ => ?_⟩
    split at q1
    · rename_i z
      rw [Bool.and_eq_true, decide_eq_true_eq] at z
      have t := RepVs.reps rv z.1
      exact ⟨by rw [t.length]; exact big_line z.2, fun p hp => q1 vs M1 r1 H1 p Stp.refl b1 t z.2 hp⟩
    · exact q1.elim
theorem ev_valN (p : EvN X G W e fs) : Ev X G W e (valN fs) := PE.imp p fun σ H Q q => by
  obtain ⟨M, r, h, δ, b, q⟩ := q
  refine ⟨M, r, h, δ, b, ?_⟩
  unfold valN at q
  cases e : fs δ h with
  | ok ds h1 =>
    rw [e] at q
    intro vs M' r' H' p s b' t z hp
    exact lst_new b' t z (After.from s q) p hp
  | exc c fs h => rw [e] at q; exact q
  | bad => rw [e] at q; exact q
theorem BS.box (b : BS G M r h δ σ H) {p : Addr} {ds : List D} {vs : List V} (hp : H p = none) (t : Reps G.J M r ds vs) (z : ds.length ≤ big) : BS G M (r ++ [p]) (h ++ [ds]) δ σ (upd H p (.lst vs)) ∧ Stp M r H M (r ++ [p]) (upd H p (.lst vs)) := by
  have pr : p ∉ r := b.fresh_r hp
  have pm : M p = none := b.fresh_M hp
  have pre : r <+: r ++ [p] := List.prefix_append _ _
  have b1 := b.new_list hp (xs := vs)
  refine ⟨⟨b1.mok, ⟨by rw [List.length_append, List.length_append, b.bx.len]; rfl, ?_, fun n a es e1 e2 => ?_⟩, b1.tb, b1.len, fun i s x e1 e2 => ?_, b1.sep, b1.le, b1.pre.trans pre, fun a ha => ?_, b1.keep, b1.nf⟩, Le.refl, pre, fun a ha => ?_, fun a o e _ _ => upd_new hp e, fun a m _ _ => m⟩
  · rw [List.nodup_append]
    exact ⟨b.bx.nd, by simp, fun x hx y hy => by
      have : y = p := by simpa using hy
      subst this
      exact fun z => pr (z ▸ hx)⟩
  · by_cases hn : n < r.length
    · rw [List.getElem?_append_left hn] at e1
      rw [List.getElem?_append_left (by rw [← b.bx.len]; exact hn)] at e2
      obtain ⟨m, z', us, q', t'⟩ := b1.bx.at_ n a es e1 e2
      exact ⟨m, z', us, q', Reps.mono Le.refl pre _ _ t'⟩
    · have hn' : n = r.length := by
        have := (List.getElem?_eq_some_iff.mp e1).1
        rw [List.length_append] at this
        simp at this
        omega
      subst hn'
      rw [List.getElem?_append_right (Nat.le_refl _)] at e1
      rw [b.bx.len, List.getElem?_append_right (Nat.le_refl _)] at e2
      simp at e1 e2
      subst e1 e2
      exact ⟨pm, z, vs, upd_same, Reps.mono Le.refl pre _ _ t⟩
  · refine (b.sl i s x e1 e2).mono Le.refl pre fun a us _ m q n => ⟨m, fun ha => ?_, upd_new hp q⟩
    rcases List.mem_append.mp ha with ha | ha
    · exact n ha
    · have : a = p := by simpa using ha
      subst this
      rw [hp] at q; cases q
  · rcases List.mem_append.mp ha with ha | ha
    · exact b.new a ha
    · have : a = p := by simpa using ha
      subst this
      exact .inr (b.free0 hp)
  · rcases List.mem_append.mp ha with ha | ha
    · exact .inl ha
    · have : a = p := by simpa using ha
      subst this
      exact .inr (Free.of hp)
theorem ev_boxN (p : EvN X G W e fs) : Ev X G W e (boxN fs) := PE.imp p fun σ H Q q => by
  obtain ⟨M, r, h, δ, b, q⟩ := q
  refine ⟨M, r, h, δ, b, ?_⟩
  unfold boxN at q
  cases e : fs δ h with
  | ok ds h1 =>
    rw [e] at q
    intro vs M' r' H' p s b' t z hp
    obtain ⟨b2, s2⟩ := b'.box hp t z
    refine q _ _ _ _ (s.trans s2) b2 ⟨p, rfl, ?_⟩
    rw [← b'.bx.len, List.getElem?_append_right (Nat.le_refl _)]
    simp
  | exc c fs h => rw [e] at q; exact q
  | bad => rw [e] at q; exact q
/-- name = a new list, of the slot's own -/
def ownS (i : Nat) (fs : DE → Bx → R (List D)) : SF := fun δ h => (fs δ h).toS δ fun ds h1 => .nx (δ.set i (.own ds)) h1
theorem BS.own (b : BS G M r h δ σ H) {p : Addr} {i : Nat} {ds : List D} {vs : List V} (hp : H p = none) (t : Reps G.J M r ds vs) (z : ds.length ≤ big) : BS G M r h (δ.set i (.own ds)) (σ.set i (some (.ref p))) (upd H p (.lst vs)) := by
  have b1 := b.new_list hp (xs := vs)
  have no := b.noOwn hp
  have at_ : ∀ {j : Nat} {s : SV}, (δ.set i (.own ds))[j]? = some s → i ≠ j → δ[j]? = some s := fun e n => by rwa [List.getElem?_set_ne n] at e
  have lt : ∀ {s : SV}, (δ.set i (.own ds))[i]? = some s → i < δ.length ∧ s = .own ds := fun {s} e => by
    have hi : i < δ.length := by
      have := (List.getElem?_eq_some_iff.mp e).1
      simpa using this
    rw [List.getElem?_set_self hi] at e
    exact ⟨hi, (Option.some.inj e).symm⟩
  refine ⟨b1.mok, b1.bx, b1.tb, by rw [List.length_set, List.length_set]; exact b.len, fun j s x e1 e2 => ?_, fun j l es us e1 e2 w1 w2 n => ?_, b1.le, b1.pre, b1.new, b1.keep, b1.nf⟩
  · by_cases hj : i = j
    · subst hj
      obtain ⟨hi, rfl⟩ := lt e1
      rw [List.getElem?_set_self (by rw [b.len]; exact hi)] at e2
      cases e2
      exact ⟨p, vs, rfl, b.fresh_M hp, b.fresh_r hp, b.free0 hp, z, upd_same, t⟩
    · rw [List.getElem?_set_ne hj] at e2
      exact b1.sl j s x (at_ e1 hj) e2
  · by_cases hj : i = j
    · subst hj
      obtain ⟨hi, _⟩ := lt e1
      rw [List.getElem?_set_self (by rw [b.len]; exact hi), List.getElem?_set_ne n]
      exact fun y => no l us (at_ e2 n) w2 y.symm
    · by_cases hl : i = l
      · subst hl
        obtain ⟨hi, _⟩ := lt e2
        rw [List.getElem?_set_self (by rw [b.len]; exact hi), List.getElem?_set_ne hj]
        exact no j es (at_ e1 hj) w1
      · rw [List.getElem?_set_ne hj, List.getElem?_set_ne hl]
        exact b.sep j l es us (at_ e1 hj) (at_ e2 hl) w1 w2 n
theorem es_own {i : Nat} {x : Str} {pos' : Pos} (hN : X.N.Nodup) (hi : X.N[i]? = some x) (hx : Loc X.env.scope x) (he : EvN X G W e fs) (hs : swapsWith e (some (.Name x pos')) pos.line X.env = pure false := by rfl) (hf : X.fn x = true ∨ X.env.scope.names.lookup x = some .local := by first | exact .inl rfl | exact .inr rfl | assumption) :
    Es X G W (.Assign [.Name x pos'] e pos) (ownS i fs) := PS.imp (ps_set hN hi hx he hs hf) fun E σ H q => by
  obtain ⟨M, r, h, δ, b, q⟩ := q
  refine ⟨M, r, h, δ, b, ?_⟩
  unfold ownS at q
  cases e : fs δ h with
  | ok ds h1 =>
    rw [e] at q
    intro vs M' r' H' p s b' t z hp
    exact (AfterS.from s.le s.pre q).nxt (b'.own hp t z)
  | exc c fs h => rw [e] at q; exact fun C dd M' r' H' m s b e => q C dd M' r' σ H' m s.le s.pre b e
  | bad => rw [e] at q; exact q
/-! ### what a loop walks -/
/-- the walk hands on ds, one by one -/
def Good (G : Cfg) (J : It) (M' : Imm) (r' : List Addr) (ds : List D) : Prop := ∃ (Gd : Hp → Prop) (Y : Nat → Hp → V → Hp → Prop), Walk J ds.length Gd Y ∧
  (∀ M r h δ σ H, Le M' M → r' <+: r → BS G M r h δ σ H → Gd H) ∧
  ∀ i x H1 H2 M r h δ σ, i < ds.length → Le M' M → r' <+: r → BS G M r h δ σ H1 → Y i H1 x H2 → ∃ M2 d, BS G M2 r h δ σ H2 ∧ Stp M r H1 M2 r H2 ∧ ds[i]? = some d ∧ Rep G.J M2 r d x
def AfterI (G : Cfg) (W : WX) (σ : L2.St) (δ : DE) (M : Imm) (r : List Addr) (H : Hp) (x : R (List D)) (Q : It → Hp → Prop) : Prop := match x with
  | .ok ds h => ∀ J M' r' H', Stp M r H M' r' H' → BS G M' r' h δ σ H' → Good G J M' r' ds → Q J H'
  | .exc c fs h => ∀ C dd M' r' H', G.mg c = some (.ref C) → Stp M r H M' r' H' → BS G M' r' h δ σ H' → ExcAt G.J M' r' H' fs dd → W (.ref C) dd σ H'
  | .bad => False
def tI (G : Cfg) (W : WX) (f : DE → Bx → R (List D)) : TI := fun σ H Q => ∃ M r h δ, BS G M r h δ σ H ∧ AfterI G W σ δ M r H (f δ h) Q
def EvI (X : Cx) (G : Cfg) (W : WX) (tg e : Expr) (f : DE → Bx → R (List D)) : Prop := PI X tg e (tI G W f)
theorem PI.imp {tg e : Expr} {t t' : TI} (p : PI X tg e t) (f : ∀ σ H Q, t' σ H Q → t σ H Q) : PI X tg e t' := ⟨fun pins s σ H Q I h => p.run pins s σ H Q I (f σ H Q h)⟩
theorem AfterI.bind {α β : Type} {rl : Rl α β} {x : R α} {k : α → Bx → R (List D)} {Q : It → Hp → Prop} (q : AfterI G W σ δ M r H (x.bind k) Q) :
    After G W σ δ rl M r H x fun v H1 => ∃ d M1 r1 h1, Stp M r H M1 r1 H1 ∧ BS G M1 r1 h1 δ σ H1 ∧ rl M1 r1 d v ∧ AfterI G W σ δ M1 r1 H1 (k d h1) Q := by
  cases x with
  | ok d h =>
    intro v M' r' H' a b c
    refine ⟨d, M', r', h, a, b, c, ?_⟩
    have q : AfterI G W σ δ M r H (k d h) Q := q
    cases e : k d h with
    | ok ds h2 => rw [e] at q; exact fun J M2 r2 H2 s2 => q J M2 r2 H2 (a.trans s2)
    | exc c fs h2 => rw [e] at q; exact fun C dd M2 r2 H2 m s2 => q C dd M2 r2 H2 m (a.trans s2)
    | bad => rw [e] at q; exact q
  | exc c fs h => exact q
  | bad => exact q
/-- lists and tuples that are never written -/
def immOf : D → Option (List D)
  | .lst ds => some ds
  | .frz ds => some ds
  | .tup ds => some ds
  | _ => none
def itemsI (f : EF) : DE → Bx → R (List D) := fun δ h => (f δ h).bind fun d h1 => match immOf d with
  | some ds => .ok ds h1
  | none => .bad
def lstI (f : EF) : DE → Bx → R (List D) := fun δ h => (f δ h).bind fun d h1 => match d with
  | .lst ds => .ok ds h1
  | .frz ds => .ok ds h1
  | _ => .bad
def tupI (f : EF) : DE → Bx → R (List D) := fun δ h => (f δ h).bind fun d h1 => match d with
  | .tup ds => .ok ds h1
  | _ => .bad
theorem good_lst {a : Addr} {ds : List D} {vs : List V} (b : BS G M r h δ σ H) (m : M a = some (.lst vs) ∨ FLst G.K M a vs) (t : Reps G.J M r ds vs) : Good G (Itl G.K a) M r ds := by
  refine ⟨fun H => SqL G.K H a vs, YAt vs, by rw [← t.length]; exact walk_list, fun M' r' h' δ' σ' H' le pr b' => ?_, fun i x H1 H2 M' r' h' δ' σ' _ le pr b' y => ?_⟩
  · rcases m with m | m
    · exact .inl (.inl (b'.mok a _ (le _ _ m)).2)
    · exact sqF b' (m.imp (fun ⟨o, z, y⟩ => ⟨o, le _ _ z, y⟩) id)
  · obtain ⟨rfl, e⟩ := y
    have hl : i < ds.length := by rw [← t.length]; exact (List.getElem?_eq_some_iff.mp e).1
    obtain ⟨v, e2, rp⟩ := t.get (List.getElem?_eq_getElem hl)
    rw [e] at e2; cases e2
    exact ⟨M', _, b', Stp.refl, List.getElem?_eq_getElem hl, Rep.mono le pr _ _ rp⟩
theorem good_tup {a : Addr} {ds : List D} {vs : List V} (b : BS G M r h δ σ H) (m : M a = some (.tup vs) ∨ KTup G.K a vs) (t : Reps G.J M r ds vs) : Good G (Itt G.K a) M r ds := by
  refine ⟨fun H => SqT G.K H a vs, YAt vs, by rw [← t.length]; exact walk_tup, fun M' r' h' δ' σ' H' le pr b' => sqT_of b' (m.imp (le _ _) id), fun i x H1 H2 M' r' h' δ' σ' _ le pr b' y => ?_⟩
  obtain ⟨rfl, e⟩ := y
  have hl : i < ds.length := by rw [← t.length]; exact (List.getElem?_eq_some_iff.mp e).1
  obtain ⟨v, e2, rp⟩ := t.get (List.getElem?_eq_getElem hl)
  rw [e] at e2; cases e2
  exact ⟨M', _, b', Stp.refl, List.getElem?_eq_getElem hl, Rep.mono le pr _ _ rp⟩
theorem evi_list {tg : Expr} (p : Ev X G W e f) (hK : X.K = G.K) : EvI X G W tg e (lstI f) := PI.imp (pi_list p) fun σ H Q q => by
  rw [hK]
  obtain ⟨M, r, h, δ, b, q⟩ := q
  refine ⟨M, r, h, δ, b, (AfterI.bind (rl := rV G.J δ σ) q).more fun v H1 ⟨d, M1, r1, h1, s1, b1, rv, q1⟩ => ?_⟩
  cases d with
  | lst ds =>
    obtain ⟨a, vs, e1, m, t⟩ := rv
    exact ⟨a, e1, ⟨vs, .inl (.inl (b1.mok a _ m).2)⟩, q1 _ M1 r1 H1 Stp.refl b1 (good_lst b1 (.inl m) t)⟩
  | frz ds =>
    obtain ⟨a, vs, e1, m, t⟩ := rv
    exact ⟨a, e1, ⟨vs, sqF b1 m⟩, q1 _ M1 r1 H1 Stp.refl b1 (good_lst b1 (.inr m) t)⟩
  | _ => exact q1.elim
theorem evi_tup {tg : Expr} (p : Ev X G W e f) (hK : X.K = G.K) : EvI X G W tg e (tupI f) := PI.imp (pi_tup p) fun σ H Q q => by
  rw [hK]
  obtain ⟨M, r, h, δ, b, q⟩ := q
  refine ⟨M, r, h, δ, b, (AfterI.bind (rl := rV G.J δ σ) q).more fun v H1 ⟨d, M1, r1, h1, s1, b1, rv, q1⟩ => ?_⟩
  cases d with
  | tup ds =>
    obtain ⟨a, vs, e1, m, t⟩ := rv
    exact ⟨a, e1, ⟨vs, sqT_of b1 m⟩, q1 _ M1 r1 H1 Stp.refl b1 (good_tup b1 m t)⟩
  | _ => exact q1.elim
end
end LP
/-! LpE: what is walked; targets; for, while, comprehensions. -/
namespace LP
open PySem PySem.Spec PyProof.Rows L2 RZ
section
variable {X : Cx} {G : Cfg} {W : WX} {σ : L2.St} {δ : DE} {M M1 M2 : Imm} {r r1 r2 : List Addr} {h h1 h2 : Bx} {H H1 H2 : Hp} {E : Ends}
variable {e c : Expr} {f g : EF} {tg : Expr} {fs : DE → Bx → R (List D)} {pos : Pos}
theorem PI.or {t t' : TI} (p : PI X tg e t) (p' : PI X tg e t') : PI X tg e (fun σ H R => t σ H R ∨ t' σ H R) := ⟨fun pins s σ H R I h => h.elim (p.run pins s σ H R I) (p'.run pins s σ H R I)⟩
/-- a list or a tuple -/
theorem evi_seq (p : Ev X G W e f) (hK : X.K = G.K) : EvI X G W tg e (itemsI f) := PI.imp (PI.or (evi_list (tg := tg) p hK) (evi_tup (tg := tg) p hK)) fun σ H Q q => by
  obtain ⟨M, r, h, δ, b, q⟩ := q
  unfold itemsI at q
  cases z : f δ h with
  | ok d h1 =>
    rw [z] at q
    cases d with
    | tup ds => exact .inr ⟨M, r, h, δ, b, by unfold tupI; rw [z]; exact q⟩
    | lst ds => exact .inl ⟨M, r, h, δ, b, by unfold lstI; rw [z]; exact q⟩
    | frz ds => exact .inl ⟨M, r, h, δ, b, by unfold lstI; rw [z]; exact q⟩
    | _ => exact q.elim
  | exc c fs h1 => rw [z] at q; exact .inl ⟨M, r, h, δ, b, by unfold lstI; rw [z]; exact q⟩
  | bad => rw [z] at q; exact q.elim
/-! ### ranges -/
def rgD (lo hi : Int) : List D := (List.range (hi - lo).toNat).map fun i => .int (lo + (i : Nat))
theorem good_range {lo : Int} {n : Nat} (b : BS G M r h δ σ H) : Good G (Itr lo n) M r ((List.range n).map fun i => .int (lo + (i : Nat))) := by
  refine ⟨fun _ => True, YFn fun i => .int (lo + i), by rw [List.length_map, List.length_range]; exact walk_range, fun _ _ _ _ _ _ _ _ _ => trivial, fun i x H1 H2 M' r' h' δ' σ' hi le pr b' y => ?_⟩
  obtain ⟨rfl, rfl⟩ := y
  rw [List.length_map, List.length_range] at hi
  exact ⟨M', .int (lo + (i : Nat)), b', Stp.refl, by rw [List.getElem?_map, List.getElem?_range hi]; rfl, rfl⟩
def rgC (i : Int) : Bool := decide (-(2 ^ 62) ≤ i ∧ i < 2 ^ 62)
def rg1K (ds : List D) (h : Bx) : R (List D) := match ds with
  | [.int j] => if rgC j = true then .ok (rgD 0 j) h else .bad
  | _ => .bad
def rg2K (ds : List D) (h : Bx) : R (List D) := match ds with
  | [.int i, .int j] => if (rgC i && rgC j) = true then .ok (rgD i j) h else .bad
  | _ => .bad
theorem evi_range1 {a : Expr} {p : Pos} (hg : Gl X "range") (hm : X.mg "range" = none) (ha : EvA X G W [a] fs) (hs : starEach [a] X.env = [(false, eval a X.env)] := by rfl) :
    EvI X G W tg (.Call (.Name "range" p) [a] [] pos) (fun δ h => (fs δ h).bind rg1K) := PI.imp (pi_range1 hg hm ha hs) fun σ H Q q => by
  obtain ⟨M, r, h, δ, b, q⟩ := q
  refine ⟨M, r, h, δ, b, (AfterI.bind (rl := rVs G.J δ σ) q).more fun vs H1 ⟨ds, M1, r1, h1, s1, b1, rv, q1⟩ => ?_⟩
  unfold rg1K at q1
  split at q1
  · rename_i j
    split at q1
    · rename_i z
      have z' := of_decide_eq_true z
      obtain ⟨v, vt, rfl, e1, e2⟩ := rv
      cases e1; cases e2
      refine ⟨j, rfl, z'.1, z'.2, q1 _ M1 r1 H1 Stp.refl b1 ?_⟩
      unfold rgD
      rw [Int.sub_zero]
      exact good_range b1
    · exact q1.elim
  · exact q1.elim
theorem evi_range2 {a c : Expr} {p : Pos} (hg : Gl X "range") (hm : X.mg "range" = none) (ha : EvA X G W [a, c] fs) (hs : starEach [a, c] X.env = [(false, eval a X.env), (false, eval c X.env)] := by rfl) (hs2 : starEach [c] X.env = [(false, eval c X.env)] := by rfl) :
    EvI X G W tg (.Call (.Name "range" p) [a, c] [] pos) (fun δ h => (fs δ h).bind rg2K) := PI.imp (pi_range2 hg hm ha hs hs2) fun σ H Q q => by
  obtain ⟨M, r, h, δ, b, q⟩ := q
  refine ⟨M, r, h, δ, b, (AfterI.bind (rl := rVs G.J δ σ) q).more fun vs H1 ⟨ds, M1, r1, h1, s1, b1, rv, q1⟩ => ?_⟩
  unfold rg2K at q1
  split at q1
  · rename_i i j
    split at q1
    · rename_i z
      rw [Bool.and_eq_true] at z
      have z1 := of_decide_eq_true z.1
      have z2 := of_decide_eq_true z.2
      obtain ⟨v, vt, rfl, e1, v2, vt2, rfl, e2, e3⟩ := rv
      cases e1; cases e2; cases e3
      exact ⟨i, j, rfl, ⟨z1.1, z1.2, z2.1, z2.2⟩, q1 _ M1 r1 H1 Stp.refl b1 (good_range b1)⟩
    · exact q1.elim
  · exact q1.elim
/-! ### zip of two lists, of two tuples -/
theorem good_pair {J : It} {Gd : Hp → Prop} {n : Nat} {xs ys : Nat → Option V} {as bs : Nat → D} (w : Walk J n Gd (YPair xs ys)) (gd : ∀ M' r' h δ σ H, Le M M' → r <+: r' → BS G M' r' h δ σ H → Gd H)
    (rp : ∀ i x y, i < n → xs i = some x → ys i = some y → Rep G.J M r (as i) x ∧ Rep G.J M r (bs i) y) : Good G J M r ((List.range n).map fun i => .tup [as i, bs i]) := by
  refine ⟨Gd, _, by rw [List.length_map, List.length_range]; exact w, gd, fun i x H1 H2 M' r' h' δ' σ' hi le pr b' y => ?_⟩
  obtain ⟨T, u, v, rfl, hT, rfl, e1, e2⟩ := y
  rw [List.length_map, List.length_range] at hi
  obtain ⟨q1, q2⟩ := rp i u v hi e1 e2
  obtain ⟨b2, s2⟩ := b'.laid (o := .tup [u, v]) hT (by show 2 ≤ big; decide)
  refine ⟨_, .tup [as i, bs i], b2, s2, by rw [List.getElem?_map, List.getElem?_range hi]; rfl, T, [u, v], rfl, .inl updM_same, ?_⟩
  exact ⟨u, [v], rfl, Rep.mono (le.trans s2.le) (pr.trans s2.pre) _ _ q1, v, [], rfl, Rep.mono (le.trans s2.le) (pr.trans s2.pre) _ _ q2, rfl⟩
theorem walk_zipT {K : PySem.W.Frag} {a b : Addr} {xs ys : List V} {n : Nat} (hn : n = min xs.length ys.length) : Walk (ItzT K a b) n (fun H => SqT K H a xs ∧ SqT K H b ys) (YPair (fun i => xs[i]?) (fun i => ys[i]?)) := by
  subst hn
  refine ⟨fun i _ hi q => ⟨xs, ys, xs[i]'(by omega), ys[i]'(by omega), q.1, q.2, List.getElem?_eq_getElem _, List.getElem?_eq_getElem _⟩, fun _ q => ⟨xs, ys, q.1, q.2, by omega⟩, fun i H v H' _ q y => ?_⟩
  obtain ⟨T, x, y', e1, e2, e3, e4, e5⟩ := y
  exact ⟨T, x, y', e1, e2, e3, e4 xs q.1, e5 ys q.2⟩
def zipD (as bs : List D) : List D := (List.zip as bs).map fun p => .tup [p.1, p.2]
theorem zipD_eq (as bs : List D) : zipD as bs = (List.range (min as.length bs.length)).map fun i => .tup [as.getD i .non, bs.getD i .non] := by
  unfold zipD
  apply List.ext_getElem?
  intro i
  rw [List.getElem?_map, List.getElem?_map]
  by_cases hi : i < min as.length bs.length
  · rw [List.getElem?_range hi, List.getElem?_eq_getElem (by rw [List.length_zip]; exact hi), List.getElem_zip]
    have h1 : i < as.length := by omega
    have h2 : i < bs.length := by omega
    simp [List.getD_eq_getElem?_getD, h1, h2]
  · rw [List.getElem?_eq_none (by rw [List.length_zip]; omega), List.getElem?_eq_none (by rw [List.length_range]; omega)]
    rfl
def zipK (ds : List D) (h : Bx) : R (List D) := match ds with
  | [.lst as, .lst bs] => .ok (zipD as bs) h
  | [.tup as, .tup bs] => .ok (zipD as bs) h
  | _ => .bad
theorem reps_getD {J : Jd} {as : List D} {vs : List V} (t : Reps J M r as vs) {i : Nat} {x : V} (e : vs[i]? = some x) : Rep J M r (as.getD i .non) x := by
  have hl : i < as.length := by rw [← t.length]; exact (List.getElem?_eq_some_iff.mp e).1
  obtain ⟨v, e2, rp⟩ := t.get (List.getElem?_eq_getElem hl)
  rw [e] at e2; cases e2
  rw [List.getD_eq_getElem?_getD, List.getElem?_eq_getElem hl]
  exact rp
theorem evi_zip {a c : Expr} {p tpos : Pos} {elts : List Expr} {kk : Nat} (hg : Gl X "zip") (hm : X.mg "zip" = none) (ha : EvA X G W [a, c] fs) (hK : X.K = G.K)
    (hs : starEach [a, c] X.env = (false, eval a X.env) :: starEach [c] X.env := by rfl) (hpl : (backTo pos (starEach [c] X.env)).any (·.1) = false := by rfl) :
    EvI X G W (.Tuple elts kk tpos) (.Call (.Name "zip" p) [a, c] [] pos) (fun δ h => (fs δ h).bind zipK) := PI.imp (pi_zipA hg hm ha hs hpl) fun σ H Q q => by
  rw [hK]
  obtain ⟨M, r, h, δ, b, q⟩ := q
  refine ⟨M, r, h, δ, b, (AfterI.bind (rl := rVs G.J δ σ) q).more fun vs H1 ⟨ds, M1, r1, h1, s1, b1, rv, q1⟩ => ?_⟩
  unfold zipK at q1
  split at q1
  · rename_i as bs
    obtain ⟨v, vt, rfl, e1, v2, vt2, rfl, e2, e3⟩ := rv
    cases e3
    obtain ⟨x, us, rfl, m1, t1⟩ := e1
    obtain ⟨y, ws, rfl, m2, t2⟩ := e2
    refine ⟨x, y, us, ws, rfl, .inl ⟨.inl (.inl (b1.mok _ _ m1).2), .inl (.inl (b1.mok _ _ m2).2), q1 _ M1 r1 H1 Stp.refl b1 ?_⟩⟩
    rw [zipD_eq]
    refine good_pair (walk_zip (xs := us) (ys := ws) (by rw [t1.length, t2.length])) (fun M' r' h δ σ H le pr b' => ⟨.inl (.inl (b'.mok _ _ (le _ _ m1)).2), .inl (.inl (b'.mok _ _ (le _ _ m2)).2)⟩) fun i x y _ e1 e2 => ⟨reps_getD t1 e1, reps_getD t2 e2⟩
  · rename_i as bs
    obtain ⟨v, vt, rfl, e1, v2, vt2, rfl, e2, e3⟩ := rv
    cases e3
    obtain ⟨x, us, rfl, m1, t1⟩ := e1
    obtain ⟨y, ws, rfl, m2, t2⟩ := e2
    refine ⟨x, y, us, ws, rfl, .inr ⟨sqT_of b1 m1, sqT_of b1 m2, q1 _ M1 r1 H1 Stp.refl b1 ?_⟩⟩
    rw [zipD_eq]
    refine good_pair (walk_zipT (xs := us) (ys := ws) (by rw [t1.length, t2.length])) (fun M' r' h δ σ H le pr b' => ⟨sqT_of b' (m1.imp (le _ _) id), sqT_of b' (m2.imp (le _ _) id)⟩) fun i x y _ e1 e2 => ⟨reps_getD t1 e1, reps_getD t2 e2⟩
  · exact q1.elim
/-! ### targets -/
/-- the slots ts take what u says -/
def tGt (G : Cfg) (ts : List Nat) (u : D → DE → Option DE) : TG := fun v σ H Q => ∃ M r h δ d δ', BS G M r h δ σ H ∧ Rep G.J M r d v ∧ u d δ = some δ' ∧
  ∀ σ', BS G M r h δ' σ' H → σ'.length = σ.length → (∀ i, i ∉ ts → σ'[i]? = σ[i]?) → Q σ' H
def EvG (X : Cx) (G : Cfg) (tg : Expr) (ts : List Nat) (u : D → DE → Option DE) : Prop := PG X tg (tGt G ts u)
theorem PG.imp {t t' : TG} (p : PG X tg t) (f : ∀ v σ H Q, t' v σ H Q → t v σ H Q) : PG X tg t' := ⟨fun pins s σ H v u Q I r h => p.run pins s σ H v u Q I r (f v σ H Q h)⟩
theorem PGs.imp {tgs : List Expr} {t t' : TGs} (p : PGs X tgs t) (f : ∀ v σ H Q, t' v σ H Q → t v σ H Q) : PGs X tgs t' := ⟨fun pins s σ H v u Q I r h => p.run pins s σ H v u Q I r (f v σ H Q h)⟩
def nameU (i : Nat) (d : D) (δ : DE) : Option DE := some (δ.set i (.v d))
theorem evg_name {i : Nat} {x : Str} (hN : X.N.Nodup) (hi : X.N[i]? = some x) (hx : Loc X.env.scope x) (hf : X.fn x = true ∨ X.env.scope.names.lookup x = some .local := by first | exact .inl rfl | exact .inr rfl | assumption) :
    EvG X G (.Name x pos) [i] (nameU i) := PG.imp (pg_name hN hi hx hf) fun v σ H Q q => by
  obtain ⟨M, r, h, δ, d, δ', b, rv, e, q⟩ := q
  cases e
  refine q _ (b.put rv) (by rw [List.length_set]) fun j hj => ?_
  rw [List.getElem?_set_ne (fun z => hj (by simp [z]))]
def tGts (G : Cfg) (ts : List Nat) (u : List D → DE → Option DE) : TGs := fun vs σ H Q => ∃ M r h δ ds δ', BS G M r h δ σ H ∧ Reps G.J M r ds vs ∧ u ds δ = some δ' ∧
  ∀ σ', BS G M r h δ' σ' H → σ'.length = σ.length → (∀ i, i ∉ ts → σ'[i]? = σ[i]?) → Q σ' H
def EvGs (X : Cx) (G : Cfg) (tgs : List Expr) (ts : List Nat) (u : List D → DE → Option DE) : Prop := PGs X tgs (tGts G ts u)
def nilU (ds : List D) (δ : DE) : Option DE := match ds with
  | [] => some δ
  | _ => none
def consU (u : D → DE → Option DE) (us : List D → DE → Option DE) (ds : List D) (δ : DE) : Option DE := match ds with
  | d :: ds => (u d δ).bind fun δ' => us ds δ'
  | [] => none
theorem evgs_nil : EvGs X G [] [] nilU := PGs.imp pgs_nil fun vs σ H Q q => by
  obtain ⟨M, r, h, δ, ds, δ', b, rv, e, q⟩ := q
  cases ds with
  | nil => cases rv; cases e; exact ⟨rfl, q σ b rfl fun _ _ => rfl⟩
  | cons d ds => cases e
theorem evgs_cons {tgs : List Expr} {ts1 ts2 : List Nat} {u : D → DE → Option DE} {us : List D → DE → Option DE} (p : EvG X G tg ts1 u) (ps : EvGs X G tgs ts2 us)
    (hs : (assignEach (tg :: tgs) X.env).map (·.2) = assign tg X.env :: (assignEach tgs X.env).map (·.2) := by rfl) : EvGs X G (tg :: tgs) (ts1 ++ ts2) (consU u us) := PGs.imp (pgs_cons p ps hs) fun vs σ H Q q => by
  obtain ⟨M, r, h, δ, ds, δ', b, rv, e, q⟩ := q
  cases ds with
  | nil => cases e
  | cons d ds =>
    obtain ⟨v, vt, rfl, e1, e2⟩ := rv
    unfold consU at e
    cases z : u d δ with
    | none => simp only [z] at e; cases e
    | some δ1 =>
      simp only [z, Option.bind_some] at e
      refine ⟨v, vt, rfl, M, r, h, δ, d, δ1, b, e1, z, fun σ1 b1 l1 k1 => ⟨M, r, h, δ1, ds, δ', b1, e2, e, fun σ2 b2 l2 k2 => q σ2 b2 (l2.trans l1) fun i hi => ?_⟩⟩
      rw [List.mem_append] at hi
      rw [k2 i (fun z => hi (.inr z)), k1 i (fun z => hi (.inl z))]
def tupU (n : Nat) (us : List D → DE → Option DE) (d : D) (δ : DE) : Option DE := match d with
  | .tup ds => if ds.length = n then us ds δ else none
  | .lst ds => if ds.length = n then us ds δ else none
  | _ => none
/-- (a, b, ..) = a tuple or a list of that length -/
def gSeq (K : PySem.W.Frag) (n : Nat) (t : TGs) : TG := fun v σ H Q => gTup K n t v σ H Q ∨ ∃ a xs, v = .ref a ∧ SqL K H a xs ∧ xs.length = n ∧ t xs σ H Q
theorem pg_seq {es : List Expr} {k : Nat} {t : TGs} {n : Nat} (hc : X.calm = true) (p : PGs X es t)
    (hn : (assignEach es X.env).length = n) (hst : (assignEach es X.env).findIdx? (·.1) = none) : PG X (.Tuple es k pos) (gSeq X.K n t) := by
  refine ⟨fun pins s σ H v u Q I r hw => ?_⟩
  rcases hw with hw | ⟨a, xs, rfl, hq, hl, hw⟩
  · exact (pg_tup hc p hn hst).run pins s σ H v u Q I r hw
  · cases r
    obtain ⟨its, rv, ht, hz⟩ := I.list hq
    rw [PyProof.Rows.assign_Tuple]
    refine wpAny_bind (wpAny_standAt ?_)
    unfold unpack
    rw [show (assignEach es X.env).length = its.toArray.size by simp [hn, ← hl, rv.length], hst]
    refine wpAny_bind (wpAny_holding (PySem.W.kun_itemsOf (I.ok.hd hc) ht.isList fun h' hx => ?_))
    have I1 : Inv X pins σ H { s with heap := h' } := I.kept (t' := s.toks) fun b o e => hx b o (Nat.ne_of_lt (Heap.lt_size e)) e
    exact p.run pins _ σ H xs _ Q I1 (by simpa using rv) hw
theorem evg_tup {es : List Expr} {k : Nat} {n : Nat} {ts : List Nat} {us : List D → DE → Option DE} (hc : X.calm = true) (p : EvGs X G es ts us) (hK : X.K = G.K)
    (hn : (assignEach es X.env).length = n := by rfl) (hst : (assignEach es X.env).findIdx? (·.1) = none := by rfl) : EvG X G (.Tuple es k pos) ts (tupU n us) := PG.imp (pg_seq hc p hn hst) fun v σ H Q q => by
  rw [hK]
  obtain ⟨M, r, h, δ, d, δ', b, rv, e, q⟩ := q
  cases d with
  | tup ds =>
    obtain ⟨a, vs, rfl, m, t⟩ := rv
    unfold tupU at e
    simp only at e
    split at e
    · rename_i z
      exact .inl ⟨a, vs, rfl, sqT_of b m, by rw [t.length]; exact z, M, r, h, δ, ds, δ', b, t, e, q⟩
    · cases e
  | lst ds =>
    obtain ⟨a, vs, e1, sq, t, _⟩ := b.lst (d := .lst ds) (ds := ds) (rep_V rv) rfl
    unfold tupU at e
    simp only at e
    split at e
    · rename_i z
      exact .inr ⟨a, vs, e1, sq, by rw [t.length]; exact z, M, r, h, δ, ds, δ', b, t, e, q⟩
    · cases e
  | _ => cases e
/-- target = value -/
def asgS (u : D → DE → Option DE) (f : EF) : SF := fun δ h => (f δ h).toS δ fun d h1 => if isV d = true then match u d δ with
  | some δ' => .nx δ' h1
  | none => .bad
  else .bad
theorem es_asg {ts : List Nat} {u : D → DE → Option DE} (he : Ev X G W e f) (hg : EvG X G tg ts u) (hs : swapsWithSole [tg] e pos.line X.env = pure false := by rfl) (hw : swappedStores [tg] e X.env = pure none := by rfl)
    (h1 : (assignEach [tg] X.env).map (·.2) = [assign tg X.env] := by rfl) : Es X G W (.Assign [tg] e pos) (asgS u f) := PS.imp (ps_asg he hg hs hw h1) fun E σ H q => by
  obtain ⟨M, r, h, δ, b, q⟩ := q
  refine ⟨M, r, h, δ, b, (AfterS.expr (rl := rV G.J) b q).more fun v H1 ⟨d, M1, r1, h1, s1, b1, rv, q1⟩ => ?_⟩
  have main : ∀ {rp : Rep G.J M1 r1 d v}, AfterS G W M1 r1 (match u d δ with | some δ' => .nx δ' h1 | none => .bad) E → tGt G ts u v σ H1 E.nx := fun {rp} q1 => by
    cases z : u d δ with
    | none => rw [z] at q1; exact q1.elim
    | some δ' =>
      rw [z] at q1
      exact ⟨M1, r1, h1, δ, d, δ', b1, rp, z, fun σ' b' _ _ => q1.nxt b'⟩
  cases d with
  | loc i => exact q1.elim
  | _ => exact main (rp := rv) q1
/-! ### for -/
def forF (u : D → DE → Option DE) (body : SF) : List D → SF
  | [], δ, h => .nx δ h
  | d :: ds, δ, h => match u d δ with
    | none => .bad
    | some δ1 => match body δ1 h with
      | .nx δ2 h2 => forF u body ds δ2 h2
      | .ct δ2 h2 => forF u body ds δ2 h2
      | .bk δ2 h2 => .nx δ2 h2
      | x => x
def forS (gi : DE → Bx → R (List D)) (u : D → DE → Option DE) (body : SF) : SF := fun δ h => (gi δ h).toS δ fun ds h1 => forF u body ds δ h1
theorem es_for {iter : Expr} {body : List Stmt} {gi : DE → Bx → R (List D)} {ts : List Nat} {u : D → DE → Option DE} {sf : SF} (hp : PassesOwn (model X.prog X.w) X.A X.env X.xe) (hc : X.calm = true)
    (hi : EvI X G W tg iter gi) (hg : EvG X G tg ts u) (hb : Ess X G W body sf) (hs : ∀ x, foldedSetIterable iter X.env x = pure x := by intro _; rfl) :
    Es X G W (.For tg iter body [] pos) (forS gi u sf) := PS.imp (ps_for hp hc hi hg hb hs) fun E σ H q => by
  obtain ⟨M, r, h, δ, b, q⟩ := q
  refine ⟨M, r, h, δ, b, ?_⟩
  unfold forS at q
  cases z : gi δ h with
  | bad => rw [z] at q; exact q.elim
  | exc c fs h1 => rw [z] at q; exact fun C dd M' r' H' m s b e => q C dd M' r' σ H' m s.le s.pre b e
  | ok ds h1 =>
    rw [z] at q
    simp only [R.toS_ok] at q
    intro J M' r' H' st b' gd
    obtain ⟨Gd, Y, w, gd, yd⟩ := gd
    refine for_it w (fun i σ1 H1 => ∃ M1 r1 h2 δ1, Le M' M1 ∧ r' <+: r1 ∧ BS G M1 r1 h2 δ1 σ1 H1 ∧ AfterS G W M1 r1 (forF u sf (ds.drop i) δ1 h2) E) ⟨M', r', h1, δ, Le.refl, List.prefix_rfl, b', AfterS.from st.le st.pre q⟩
      (fun i σ1 H1 _ ⟨M1, r1, h2, δ1, le, pr, b1, _⟩ => gd M1 r1 h2 δ1 σ1 H1 le pr b1) (fun i x σ1 H1 H2 hi ⟨M1, r1, h2, δ1, le, pr, b1, q1⟩ y => ?_)
      (fun σ1 H1 ⟨M1, r1, h2, δ1, le, pr, b1, q1⟩ => by rw [List.drop_length] at q1; exact q1.nxt b1)
    obtain ⟨M2, d, b2, s2, e2, rp⟩ := yd i x H1 H2 M1 r1 h2 δ1 σ1 hi le pr b1 y
    rw [List.drop_eq_getElem_cons hi] at q1
    rw [List.getElem?_eq_getElem hi] at e2
    have e3 := Option.some.inj e2
    rw [e3] at q1
    unfold forF at q1
    cases z1 : u d δ1 with
    | none => rw [z1] at q1; exact q1.elim
    | some δ2 =>
      rw [z1] at q1
      simp only at q1
      refine ⟨M2, r1, h2, δ1, d, δ2, b2, rp, z1, fun σ2 b3 _ _ => ⟨M2, r1, h2, δ2, b3, ?_⟩⟩
      have q1 := AfterS.from s2.le List.prefix_rfl q1
      show AfterS G W M2 r1 (sf δ2 h2) _
      cases y1 : sf δ2 h2 with
      | nx δ3 h3 => rw [y1] at q1; exact fun M3 r3 σ3 H3 le3 pr3 b4 => ⟨M3, r3, h3, δ3, (le.trans s2.le).trans le3, pr.trans pr3, b4, AfterS.from le3 pr3 q1⟩
      | ct δ3 h3 => rw [y1] at q1; exact fun M3 r3 σ3 H3 le3 pr3 b4 => ⟨M3, r3, h3, δ3, (le.trans s2.le).trans le3, pr.trans pr3, b4, AfterS.from le3 pr3 q1⟩
      | bk δ3 h3 => rw [y1] at q1; exact q1
      | rt d h => rw [y1] at q1; exact q1
      | exc c fs δ3 h3 => rw [y1] at q1; exact q1
      | bad => rw [y1] at q1; exact q1
/-! ### while: at most n turns -/
def whileF (tf : DE → Bx → R Bool) (body : SF) : Nat → SF
  | 0, _, _ => .bad
  | n + 1, δ, h => (tf δ h).toS δ fun b h1 => if b = true then (match body δ h1 with
      | .nx δ2 h2 => whileF tf body n δ2 h2
      | .ct δ2 h2 => whileF tf body n δ2 h2
      | .bk δ2 h2 => .nx δ2 h2
      | x => x)
    else .nx δ h1
theorem es_while (n : Nat) {body : List Stmt} {tf : DE → Bx → R Bool} {sf : SF} (hp : PassesOwn (model X.prog X.w) X.A X.env X.xe) (hc : EvT X G W c tf) (hb : Ess X G W body sf) : Es X G W (.While c body [] pos) (whileF tf sf n) :=
  PS.imp (ps_while hp hc hb) fun E σ H q => by
    obtain ⟨M, r, h, δ, b, q⟩ := q
    refine ⟨fun m σ1 H1 => ∃ M1 r1 h1 δ1, BS G M1 r1 h1 δ1 σ1 H1 ∧ AfterS G W M1 r1 (whileF tf sf m δ1 h1) E, ⟨n, M, r, h, δ, b, q⟩, ?_⟩
    rintro m σ1 H1 ⟨M1, r1, h1, δ1, b1, q1⟩
    cases m with
    | zero => exact q1.elim
    | succ m =>
      unfold whileF at q1
      refine ⟨M1, r1, h1, δ1, b1, (AfterS.expr (rl := rB) b1 q1).more fun v H2 ⟨d, M2, r2, h2, s2, b2, rv, q2⟩ => ?_⟩
      cases rv
      cases v with
      | false => exact q2.nxt b2
      | true =>
        refine ⟨fun σ' H' => ∃ M1 r1 h1 δ1, BS G M1 r1 h1 δ1 σ' H' ∧ AfterS G W M1 r1 (whileF tf sf m δ1 h1) E, fun σ' H' z => ⟨m, Nat.lt_succ_self m, z⟩, M2, r2, h2, δ1, b2, ?_⟩
        simp only [if_true] at q2
        show AfterS G W M2 r2 (sf δ1 h2) _
        cases y1 : sf δ1 h2 with
        | nx δ3 h3 => rw [y1] at q2; exact fun M3 r3 σ3 H3 le3 pr3 b4 => ⟨M3, r3, h3, δ3, b4, AfterS.from le3 pr3 q2⟩
        | ct δ3 h3 => rw [y1] at q2; exact fun M3 r3 σ3 H3 le3 pr3 b4 => ⟨M3, r3, h3, δ3, b4, AfterS.from le3 pr3 q2⟩
        | bk δ3 h3 => rw [y1] at q2; exact q2
        | rt d h => rw [y1] at q2; exact q2
        | exc c fs δ3 h3 => rw [y1] at q2; exact q2
        | bad => rw [y1] at q2; exact q2
/-! ### comprehensions -/
abbrev W0 : WX := fun _ _ _ _ => False
theorem takes0 {X : Cx} : Takes X W0 := takes_none5
def EvTs (X : Cx) (G : Cfg) (W : WX) (ifs : List Expr) (tf : DE → Bx → R Bool) : Prop := PTs X ifs (tG G W rB tf)
theorem PTs.imp {ifs : List Expr} {t t' : TT} (p : PTs X ifs t) (f : ∀ σ H Q, t' σ H Q → t σ H Q) : PTs X ifs t' := ⟨fun pins s σ H Q I h => p.run pins s σ H Q I (f σ H Q h)⟩
def yesF : DE → Bx → R Bool := fun _ h => .ok true h
theorem evts_nil : EvTs X G W [] yesF := PTs.imp pts_nil fun σ H Q q => by
  obtain ⟨M, r, h, δ, b, q⟩ := q
  exact q.now b rfl
theorem evts_one {tf : DE → Bx → R Bool} (p : EvT X G W c tf) : EvTs X G W [c] tf := pts_one p
def wipeD (δ : DE) : List Nat → DE
  | [] => δ
  | v :: vs => (wipeD δ vs).set v .no
theorem wipeD_length (δ : DE) : ∀ vs : List Nat, (wipeD δ vs).length = δ.length
  | [] => rfl
  | v :: vs => by unfold wipeD; rw [List.length_set, wipeD_length δ vs]
theorem BS.wipe (b : BS G M r h δ σ H) : ∀ vs : List Nat, BS G M r h (wipeD δ vs) (L2.wipe σ vs) H
  | [] => b
  | v :: vs => by
    have b1 := BS.wipe b vs
    have b2 := b1.drop v
    refine b2.weak (by show (List.set _ v none).length = (List.set _ v SV.no).length; rw [List.length_set, List.length_set, b1.len]) fun i s e => ?_
    by_cases hv : v = i
    · subst hv
      by_cases hi : v < (wipeD δ vs).length
      · have e : ((wipeD δ vs).set v .no)[v]? = some s := e
        rw [List.getElem?_set_self hi] at e
        cases e; exact .inl rfl
      · have e : ((wipeD δ vs).set v .no)[v]? = some s := e
        rw [List.getElem?_eq_none (by rw [List.length_set]; omega)] at e; cases e
    · refine .inr ⟨e, ?_⟩
      show ((L2.wipe σ vs).set v none)[i]? = _
      rw [List.getElem?_set_ne hv]
theorem wipe_get (σ : L2.St) : ∀ (vs : List Nat) (i : Nat), (L2.wipe σ vs)[i]? = if i ∈ vs then (σ[i]?).map fun _ => none else σ[i]?
  | [], i => by simp [L2.wipe]
  | v :: vs, i => by
    show ((L2.wipe σ vs).set v none)[i]? = _
    by_cases hv : v = i
    · subst hv
      rw [if_pos (List.mem_cons_self ..)]
      by_cases hi : v < σ.length
      · rw [List.getElem?_set_self (by rw [wipe_length]; exact hi), List.getElem?_eq_getElem hi]; rfl
      · rw [List.getElem?_eq_none (by rw [List.length_set, wipe_length]; omega), List.getElem?_eq_none (by omega)]; rfl
    · rw [List.getElem?_set_ne hv, wipe_get σ vs i]
      have : (i ∈ v :: vs) ↔ i ∈ vs := by
        rw [List.mem_cons]
        exact ⟨fun z => z.resolve_left fun y => hv y.symm, .inr⟩
      by_cases hm : i ∈ vs
      · rw [if_pos hm, if_pos (this.mpr hm)]
      · rw [if_neg hm, if_neg (fun z => hm (this.mp z))]
theorem wipe_ext {σ σ' : L2.St} {vs : List Nat} (hl : σ'.length = σ.length) (hk : ∀ i, i ∉ vs → σ'[i]? = σ[i]?) : L2.wipe σ' vs = L2.wipe σ vs := by
  apply List.ext_getElem?
  intro i
  rw [wipe_get, wipe_get]
  split
  · by_cases hi : i < σ.length
    · rw [List.getElem?_eq_getElem hi, List.getElem?_eq_getElem (by omega)]; rfl
    · rw [List.getElem?_eq_none (by omega), List.getElem?_eq_none (by omega)]
  · rename_i n
    exact hk i n
theorem wipe_wipe (σ : L2.St) (vs : List Nat) : L2.wipe (L2.wipe σ vs) vs = L2.wipe σ vs :=
  wipe_ext (wipe_length _ _) fun i hi => by rw [wipe_get, if_neg hi]
def quiet {α : Type} (x : R α) : R α := match x with
  | .exc _ _ _ => .bad
  | x => x
def compF (u : D → DE → Option DE) (tf : DE → Bx → R Bool) (ef : EF) (δ : DE) : List D → Bx → R (List D)
  | [], h => .ok [] h
  | d :: ds, h => match u d δ with
    | none => .bad
    | some δ1 => (quiet (tf δ1 h)).bind fun b h1 => if b = true then (quiet (ef δ1 h1)).bind fun y h2 => if isV y = true then (compF u tf ef δ ds h2).bind fun ys h3 => .ok (y :: ys) h3 else .bad
      else compF u tf ef δ ds h1
theorem compF_exc {u : D → DE → Option DE} {tf : DE → Bx → R Bool} {ef : EF} {δ : DE} {c : Str} {fs : List (Str × D)} {h' : Bx} : ∀ (ds : List D) (h : Bx), compF u tf ef δ ds h ≠ .exc c fs h'
  | [], h => fun e => nomatch e
  | d :: ds, h => by
    unfold compF
    cases u d δ with
    | none => exact fun e => nomatch e
    | some δ1 =>
      simp only
      cases tf δ1 h with
      | exc _ _ _ => exact fun e => nomatch e
      | bad => exact fun e => nomatch e
      | ok b h1 =>
        simp only [quiet, R.bind_ok]
        split
        · cases ef δ1 h1 with
          | exc _ _ _ => exact fun e => nomatch e
          | bad => exact fun e => nomatch e
          | ok y h2 =>
            simp only [R.bind_ok]
            split
            · have := compF_exc (u := u) (tf := tf) (ef := ef) (δ := δ) (c := c) (fs := fs) (h' := h') ds h2
              cases z : compF u tf ef δ ds h2 with
              | exc c' fs' h'' => exact fun e => by simp only [R.bind_exc] at e; cases e; exact this z
              | bad => exact fun e => nomatch e
              | ok ys h3 => exact fun e => nomatch e
            · exact fun e => nomatch e
        · exact compF_exc ds h1
/-- the answers of the rest, whatever stands ahead -/
def lcN (gi : DE → Bx → R (List D)) (vs : List Nat) (u : D → DE → Option DE) (tf : DE → Bx → R Bool) (ef : EF) : DE → Bx → R (List D) := fun δ h => (gi δ h).bind fun ds h1 => if ds.length ≤ big then compF u tf ef (wipeD δ vs) ds h1 else .bad
theorem After.quiet {α β : Type} {rl : Rl α β} {x : R α} {Q : β → Hp → Prop} (q : After G W σ δ rl M r H (LP.quiet x) Q) : After G W0 σ δ rl M r H x Q := by
  cases x with
  | ok d h => exact q
  | exc c fs h => exact q.elim
  | bad => exact q
def LcEnd (x : R (List D)) (P : List D → Bx → Prop) : Prop := match x with
  | .ok ys h => P ys h
  | _ => False
theorem lc_of {gi : DE → Bx → R (List D)} {ts vs : List Nat} {u : D → DE → Option DE} {tf : DE → Bx → R Bool} {ef : EF} (hts : ∀ i ∈ ts, i ∈ vs) {Q : VK} (q : tN G W (lcN gi vs u tf ef) σ H Q) :
    tLc (tI G W gi) (tGt G ts u) (tG G W0 rB tf) (tG G W0 (rV G.J) ef) vs σ H Q := by
  obtain ⟨M, r, h, δ, b, q⟩ := q
  refine ⟨M, r, h, δ, b, ?_⟩
  unfold lcN at q
  cases z : gi δ h with
  | bad => rw [z] at q; exact q.elim
  | exc c fs h1 => rw [z] at q; exact q
  | ok ds h1 =>
    rw [z] at q
    simp only [R.bind_ok] at q
    split at q
    · rename_i hz
      intro J M' r' H' st b' gd Dd hD
      obtain ⟨Gd, Y, w, gd, yd⟩ := gd
      have f0 : Free G.H0 Dd := b'.free0 hD
      have no : NoOwn (wipeD δ vs) (L2.wipe σ vs) Dd := (b'.wipe vs).noOwn hD
      have noσ : NoOwn δ σ Dd := b'.noOwn hD
      -- what holds between two turns
      let Pv : Nat → Hp → Prop := fun i H1 => ∃ M1 r1 h2 acc va, Stp M' r' H' M1 r1 H1 ∧ BS G M1 r1 h2 (wipeD δ vs) (L2.wipe σ vs) H1 ∧ H1 Dd = some (.lst va) ∧ M1 Dd = none ∧ Dd ∉ r1 ∧ Reps G.J M1 r1 acc va ∧ acc.length ≤ i ∧
        LcEnd (compF u tf ef (wipeD δ vs) (ds.drop i) h2) fun ys h3 => AfterN G W σ δ M r H (.ok (acc ++ ys) h3) Q
      have hst : Stp M' r' H' M' r' (upd H' Dd (.lst [])) := ⟨Le.refl, List.prefix_rfl, fun a z => .inl z, fun a o e _ _ => upd_new hD e, fun a m _ _ => m⟩
      refine lc_it w Pv ⟨M', r', h1, [], [], hst, (b'.wipe vs).new_list hD, upd_same, b'.fresh_M hD, b'.fresh_r hD, rfl, Nat.zero_le _, ?_⟩
        (fun i H1 _ ⟨M1, r1, h2, acc, va, s1, b1, _⟩ => gd M1 r1 h2 _ _ H1 s1.le s1.pre b1) (fun i x H1 H2 hi ⟨M1, r1, h2, acc, va, s1, b1, e1, m1, n1, t1, l1, q1⟩ y => ?_) (fun H1 ⟨M1, r1, h2, acc, va, s1, b1, e1, m1, n1, t1, l1, q1⟩ => ?_)
      · rw [List.drop_zero]
        cases y : compF u tf ef (wipeD δ vs) ds h1 with
        | ok ys h3 => rw [y] at q; exact q
        | exc c fs h3 => exact (compF_exc _ _ y).elim
        | bad => rw [y] at q; exact q
      · -- one turn
        obtain ⟨M2, d, b2, s2, e2, rp⟩ := yd i x H1 H2 M1 r1 h2 _ _ hi s1.le s1.pre b1 y
        rw [List.drop_eq_getElem_cons hi] at q1
        rw [List.getElem?_eq_getElem hi] at e2
        rw [Option.some.inj e2] at q1
        unfold compF at q1
        cases z1 : u d (wipeD δ vs) with
        | none => rw [z1] at q1; exact q1.elim
        | some δ2 =>
          rw [z1] at q1
          simp only at q1
          have nf : ∀ {Hx : Hp}, Hx Dd = some (.lst va) → IsL Hx Dd := fun e => .lst e
          have mD : ∀ {Ma ra Ha Mb rb Hb}, Stp Ma ra Ha Mb rb Hb → Ha Dd = some (.lst va) → Ma Dd = none → Dd ∉ ra → Hb Dd = some (.lst va) ∧ Mb Dd = none ∧ Dd ∉ rb := fun s e m n =>
            ⟨s.keep _ _ e (fun ps z => by cases z) n, s.nf _ m (nf e) n, fun z => (s.new _ z).elim n (nf e).nf⟩
          obtain ⟨e3, m3, n3⟩ := mD s2 e1 m1 n1
          refine ⟨M2, r1, h2, _, d, δ2, b2, rp, z1, fun σ2 b3 l3 k3 => ⟨?_, M2, r1, h2, δ2, b3, ?_⟩⟩
          · rw [← wipe_wipe σ vs]
            exact wipe_ext l3 fun j hj => k3 j fun z => hj (hts j z)
          · -- the test
            cases y1 : tf δ2 h2 with
            | exc c fs h3 => rw [y1] at q1; exact q1.elim
            | bad => rw [y1] at q1; exact q1.elim
            | ok bb h3 =>
              rw [y1] at q1
              simp only [quiet, R.bind_ok] at q1
              intro bv M4 r4 H4 s4 b4 ev
              cases ev
              obtain ⟨e5, m5, n5⟩ := mD s4 e3 m3 n3
              have b4w : BS G M4 r4 h3 (wipeD δ vs) (L2.wipe σ vs) H4 := b2.step s4 b4
              cases bb with
              | false =>
                simp only [Bool.false_eq_true, if_false] at q1 ⊢
                exact ⟨M4, r4, h3, acc, va, s1.trans (s2.trans s4), b4w, e5, m5, n5, Reps.mono (s2.trans s4).le (s2.trans s4).pre _ _ t1, by omega, q1⟩
              | true =>
                simp only [if_true] at q1 ⊢
                refine ⟨M4, r4, h3, δ2, b4, ?_⟩
                cases y2 : ef δ2 h3 with
                | exc c fs h5 => rw [y2] at q1; exact q1.elim
                | bad => rw [y2] at q1; exact q1.elim
                | ok yd h5 =>
                  rw [y2] at q1
                  simp only [R.bind_ok] at q1
                  by_cases hv : isV yd = true
                  · rw [if_pos hv] at q1
                    intro yv M6 r6 H6 s6 b6 rv
                    obtain ⟨e7, m7, n7⟩ := mD s6 e5 m5 n5
                    have b6w : BS G M6 r6 h5 (wipeD δ vs) (L2.wipe σ vs) H6 := b4w.step s6 b6
                    have st6 := s2.trans (s4.trans s6)
                    have rv' : Rep G.J M6 r6 yd yv := by
                      cases yd with
                      | loc i => cases hv
                      | _ => exact rv
                    have la : va.length = acc.length := t1.length
                    have hl : acc.length < ds.length := by omega
                    refine ⟨va, e7, by rw [la]; exact big_lt (by omega), M6, r6, h5, acc ++ [yd], va ++ [yv], ?_, b6w.wrote m7 n7 f0 no e7, upd_same, m7, n7, (Reps.mono st6.le st6.pre _ _ t1).append (Reps.one rv'), by rw [List.length_append]; simp; omega, ?_⟩
                    · have s0 := s1.trans st6
                      refine ⟨s0.le, s0.pre, s0.new, fun a o e t n => ?_, s0.nf⟩
                      rw [upd_ne (ne_of_none e hD)]
                      exact s0.keep a o e t n
                    · cases y3 : compF u tf ef (wipeD δ vs) (ds.drop (i + 1)) h5 with
                      | exc c fs h7 => rw [y3] at q1; exact q1.elim
                      | bad => rw [y3] at q1; exact q1.elim
                      | ok ys h7 =>
                        rw [y3] at q1
                        simp only [R.bind_ok] at q1
                        show AfterN G W σ δ M r H (.ok ((acc ++ [yd]) ++ ys) h7) Q
                        rw [List.append_assoc]
                        exact q1
                  · rw [if_neg hv] at q1
                    exact q1.elim
      · -- behind all
        rw [List.drop_length] at q1
        have q1 : AfterN G W σ δ M r H (.ok (acc ++ []) h2) Q := q1
        rw [List.append_nil] at q1
        have s2 := st.trans s1
        have b2 := (b'.step s1 b1).erase m1 n1 f0 noσ e1
        have z := q1 va M1 r1 _ Dd ⟨s2.le, s2.pre, s2.new, fun a o e t n => ?_, s2.nf⟩ b2 t1 (Nat.le_trans l1 hz) (if_pos rfl)
        · have : upd (fun c => if c = Dd then none else H1 c) Dd (.lst va) = H1 := by
            funext c
            unfold upd
            by_cases hc : c = Dd
            · subst hc; rw [if_pos rfl, e1]
            · rw [if_neg hc]; exact if_neg hc
          rw [this] at z
          exact z
        · have ne : a ≠ Dd := fun y => by
            subst y
            have := st.keep a o e t n
            rw [hD] at this; cases this
          show (if a = Dd then none else H1 a) = _
          rw [if_neg ne]
          exact s2.keep a o e t n
    · exact q.elim
theorem evn_lc {elt iter : Expr} {ifs : List Expr} {scope : Scope} {own : List (Str × Nat)} {gi : DE → Bx → R (List D)} {ts : List Nat} {u : D → DE → Option DE} {tf : DE → Bx → R Bool} {ef : EF} (hc : X.calm = true) (hN : X.N.Nodup)
    (hi : EvI X G W tg iter gi) (ok : BlkOk X.N X.env.scope scope own) (hts : ∀ i ∈ ts, i ∈ own.map (·.2))
    (hg : ∀ (s : Shared) (H : Hp) (C : Addr) (cl : List (Str × Addr)) (fp : List Addr), EvG (X.blk s H scope (compEnvC scope cl C X.env) fp) G tg ts u) (ht : ∀ (s : Shared) (H : Hp) (C : Addr) (cl : List (Str × Addr)) (fp : List Addr), EvTs (X.blk s H scope (compEnvC scope cl C X.env) fp) G W0 ifs tf)
    (he : ∀ (s : Shared) (H : Hp) (C : Addr) (cl : List (Str × Addr)) (fp : List Addr), Ev (X.blk s H scope (compEnvC scope cl C X.env) fp) G W0 elt ef) (hs : ∀ x, foldedSetIterable iter X.env x = pure x := by intro _; rfl) :
    EvN X G W (.ListComp elt [⟨tg, iter, ifs, 0⟩] scope pos) (lcN gi (own.map (·.2)) u tf ef) := PE.imp (pe_lc hc hN hi ok hg ht he hs) fun σ H Q q => lc_of hts q
end
end LP
/-! LpEa: room where no repr is under way; what a def promises there; the law's head. -/
namespace LP
open PySem PySem.Spec PyProof.Rows L2
/-- room, and nothing is being shown -/
structure Room (k : Nat) (A : Around) : Prop where
  r : L2.Room k A
  gd : A.guards = some []
section
variable {j k : Nat} {A : Around}
theorem Room.mono (h : Room k A) (q : j ≤ k) : Room j A := ⟨h.r.mono q, h.gd⟩
theorem Room.deeper (h : Room (k + 1) A) (env : PySem.Env) : Room k (A.deeper env) := ⟨h.r.deeper env, h.gd⟩
theorem Room.depth (h : Room k A) : A.depth < recursionLimit := h.r.depth
theorem Room.units (h : Room k A) : A.units + 64 < cLine := h.r.units
theorem Room.hd (h : Room k A) : A.handled = none := h.r.hd
end
theorem room_caller {k : Nat} (h : L2.Room k callerA) : Room k callerA := ⟨h, rfl⟩
structure FnOk (P : Program) (w : World) (K : PySem.W.Frag) (mg : Str → Option Value) (base : Heap) (CX : CXT) (k : Nat) (f : Addr) (fd : FuncData) (ps : List Str) (sp : Sp) : Prop where
  len : ∀ vs H Q E, sp vs H Q E → vs.length = ps.length
  run : ∀ (A : Around) (outer : List PySem.Env) (s : Shared) (H : Hp) (args : Args) (us : List Value) (vs : List V) (Q : VK) (E : XK), Room k A → Env0 P w K mg base A outer s H → BindsTo s fd args (ps.zip us) → Vals vs us → sp vs H Q E →
    codeAny (model P w) A (.call (.ref f) args) (CR CX outer P w H s Q E) s
section
variable {P : Program} {w : World} {K : PySem.W.Frag} {mg : Str → Option Value} {base : Heap} {CX : CXT} {j k : Nat} {f : Addr} {fd : FuncData} {ps : List Str} {sp sp' : Sp}
theorem FnOk.mono (F : FnOk P w K mg base CX j f fd ps sp) (h : j ≤ k) : FnOk P w K mg base CX k f fd ps sp := ⟨F.len, fun A outer s H args us vs Q E hr => F.run A outer s H args us vs Q E (hr.mono h)⟩
theorem FnOk.imp (F : FnOk P w K mg base CX k f fd ps sp) (h : ∀ vs H Q E, sp' vs H Q E → sp vs H Q E) : FnOk P w K mg base CX k f fd ps sp' :=
  ⟨fun vs H Q E q => F.len vs H Q E (h _ _ _ _ q), fun A outer s H args us vs Q E hr he hb hv hs => F.run A outer s H args us vs Q E hr he hb hv (h _ _ _ _ hs)⟩
/-- a def by its body -/
theorem fn_of {name qual : Str} {params : Arguments} {body : List Stmt} {scope : Scope} {dV kV doc pm cdv ct oc : Value} {an od : Option Addr} {osl : Array (Option Value)} {N : List Str}
    (lk : K.lookup f = some ⟨oc, od, .func (PySem.W.fnOf name qual params body scope dV kV doc pm an cdv ct), osl⟩) (hcd : PySem.W.codeIn K cdv qual = true) (S : FnScope N ps scope)
    (len : ∀ vs H Q E, sp vs H Q E → vs.length = ps.length)
    (hbody : ∀ (A : Around) (outer : List PySem.Env) (s : Shared) (H : Hp) (vs : List V) (Q : VK) (E : XK), Room k (A.deeper (envOfC qual scope s.heap.objs.size f cdv)) → sp vs H Q E →
      ∃ t, PSs (cxOf CX P w K mg base N qual scope f cdv A outer s H E) body t ∧ t { nx := fun _ H' => Q .non H', rt := Q } (L2.start N vs) H) :
    FnOk P w K mg base CX (k + 1) f (PySem.W.fnOf name qual params body scope dV kV doc pm an cdv ct) ps sp :=
  ⟨len, fun A outer s H args us vs Q E hr e0 hb r hsp => LamX.run_ofS lk hcd S hr.r e0 hb r (len _ _ _ _ hsp) fun hr' => hbody A outer s H vs Q E ⟨hr', hr.gd⟩ hsp⟩
theorem Fun_okX {x qual : Str} {st : Stmt} {N : List Str} (F : Fun K x qual st f fd) (S : FnScope N ps (defScope st)) (len : ∀ vs H Q E, sp vs H Q E → vs.length = ps.length)
    (hbody : ∀ (cdv : Value) (A : Around) (outer : List PySem.Env) (s : Shared) (H : Hp) (vs : List V) (Q : VK) (E : XK), Room k (A.deeper (envOfC qual (defScope st) s.heap.objs.size f cdv)) → sp vs H Q E →
      ∃ t, PSs (cxOf (L2.CX P w) P w K mg base N qual (defScope st) f cdv A outer s H E) (defBody st) t ∧ t { nx := fun _ H' => Q .non H', rt := Q } (L2.start N vs) H) : FnOk P w K mg base (L2.CX P w) (k + 1) f fd ps sp := by
  obtain ⟨oc, od, kV, doc, pm, an, cdv, ct, osl, rfl, lk, hcd⟩ := F.ex
  exact fn_of lk hcd S len fun A outer s H vs Q E hr hsp => hbody cdv A outer s H vs Q E hr hsp
end
/-! ### the law's head -/
section
variable {P : Program} {w : World} {K : PySem.W.Frag} {mg mb : Str → Option Value} {CX : CXT} {k : Nat} {fa a : Addr} {cs : List (Addr × Addr)} {fd : FuncData} {x : Str} {sp : Sp} {s₁ : Shared} {vs : List Value} {ns : List Int}
/-- what is tracked there: the tables, the script if it is no object of the module -/
noncomputable def headH (K : PySem.W.Frag) (cs : List (Addr × Addr)) (a : Addr) (vs : List Value) (ns : List Int) : Hp := fun b =>
  if b ∈ cs.map (·.2) then some (.tbl #[]) else if b = a ∧ K.lookup a = none then some (.frz { cls := .type "list", data := .seq vs.toArray } (.lst (ns.map V.int))) else none
theorem headH_tab {b : Addr} (h : b ∈ cs.map (·.2)) : headH K cs a vs ns b = some (.tbl #[]) := if_pos h
theorem headH_scr (h : a ∉ cs.map (·.2)) (n : K.lookup a = none) : headH K cs a vs ns a = some (.frz { cls := .type "list", data := .seq vs.toArray } (.lst (ns.map V.int))) := (if_neg h).trans (if_pos ⟨rfl, n⟩)
theorem headH_inv {b : Addr} {u : HO} (e : headH K cs a vs ns b = some u) : (b ∈ cs.map (·.2) ∧ u = .tbl #[]) ∨ (b ∉ cs.map (·.2) ∧ b = a ∧ K.lookup a = none ∧ u = .frz { cls := .type "list", data := .seq vs.toArray } (.lst (ns.map V.int))) := by
  unfold headH at e
  split at e
  · rename_i h
    exact .inl ⟨h, (Option.some.inj e).symm⟩
  · rename_i h
    split at e
    · rename_i h2
      exact .inr ⟨h, h2.1, h2.2, (Option.some.inj e).symm⟩
    · cases e
theorem law_run (KX : K.In s₁.heap) (hns : s₁.heap.Ns mainGlobals mg) (hb : s₁.heap.Ns builtinsNs mb) (hbb : ∀ x : Str, x ≠ "__name__" → mb x = bootBuiltins x) (hlim : s₁.heap.NoLimit) (hg : s₁.gens = #[])
    (hT : ∀ p ∈ cs, s₁.heap.get? p.2 = some { cls := .none, data := .fields #[] }) (nT : ∀ p ∈ cs, K.lookup p.2 = none) (C : ∀ p ∈ cs, PySem.W.CodeHd s₁.heap p.1 p.2)
    (hbm : ∃ (bm : Addr) (ob : Obj), mg "__builtins__" = some (.ref bm) ∧ bm ≠ builtinsNs ∧ s₁.heap.get? bm = some ob ∧ ob.cls = .type "module" ∧ ob.dict = some builtinsNs ∧ ob.data = .plain)
    (ha : s₁.heap.get? a = some { cls := .type "list", data := .seq vs.toArray }) (hi : IntsAre vs ns) (hl : ns.length ≤ sizeLine) (hr : Room k callerA)
    (F : ∀ base : Heap, K.In base → base.Ns mainGlobals mg → (∀ p ∈ cs, LamX.TabB base mg p.1 p.2) → FnOk P w K mg base CX k fa fd [x] sp) (hbind : ∀ (s : Shared) (u : Value), BindsTo s fd ⟨[u], []⟩ [(x, u)])
    (hsp : ∀ H : Hp, (∀ p ∈ cs, H p.2 = some (.tbl #[])) → SqL K H a (ns.map V.int) → sp [.ref a] H (fun v _ => v = .bl true) fun _ _ _ => False)
    (hCX : ∀ H e s', CX [] H s₁ (fun _ _ _ => False) e s' → False) :
    codeAny (model P w) callerA (.call (.ref fa) ⟨[.ref a], []⟩) (fun r s' => r = .ok (.ret (.bool true)) ∧ OldK s₁.heap s'.heap ∧ s'.os = s₁.os ∧ AllBare s'.gens) s₁ := by
  have lv := hi.length
  have isT : ∀ {b : Addr}, b ∈ cs.map (·.2) → s₁.heap.get? b = some { cls := .none, data := .fields #[] } := fun {b} h => by
    obtain ⟨p, hp, rfl⟩ := List.mem_map.mp h
    exact hT p hp
  have aT : a ∉ cs.map (·.2) := fun h => by
    have e := (isT h).symm.trans ha
    injection e with e
    injection e with e
    cases e
  -- objects of other kinds are not tracked
  have free : ∀ {b : Addr} {o : Obj}, s₁.heap.get? b = some o → (∀ us n, o.data ≠ .seq us n) → o.data ≠ .fields #[] → headH K cs a vs ns b = none := fun {b o} e n1 n2 => by
    cases q : headH K cs a vs ns b with
    | none => rfl
    | some u =>
      rcases headH_inv q with ⟨h, _⟩ | ⟨_, rfl, _⟩
      · exact absurd (by rw [Option.some.inj (e.symm.trans (isT h))]) n2
      · exact absurd (by rw [Option.some.inj (e.symm.trans ha)]) (n1 vs.toArray _)
  have lift : ∀ {b : Addr} {o : Obj}, s₁.heap.get? b = some o → (∀ us n, o.data ≠ .seq us n) → o.data ≠ .fields #[] → (hidT s₁.heap (headH K cs a vs ns)).get? b = some o := fun e n1 n2 => hidT_get e (free e n1 n2)
  have ns' : ∀ {b : Addr} {m : Str → Option Value}, s₁.heap.Ns b m → (hidT s₁.heap (headH K cs a vs ns)).Ns b m := fun {b m} ⟨o, es, ep, e, d, r⟩ => ⟨o, es, ep, lift e (fun _ _ z => by rw [d] at z; cases z) (fun z => by rw [d] at z; cases z), d, r⟩
  have kin : K.In (hidT s₁.heap (headH K cs a vs ns)) := fun b o e => hidT_get (KX b o e) (by
    cases q : headH K cs a vs ns b with
    | none => rfl
    | some u =>
      rcases headH_inv q with ⟨h, _⟩ | ⟨_, rfl, n, _⟩
      · obtain ⟨p, hp, rfl⟩ := List.mem_map.mp h
        exact nomatch (nT p hp).symm.trans e
      · exact nomatch n.symm.trans e)
  have hM : L2.Mod K mg (hidT s₁.heap (headH K cs a vs ns)) := ⟨kin, ns' hns, ⟨mb, ns' hb, hbb⟩, let ⟨mc, h1, h2⟩ := hlim; ⟨mc, ns' h1, h2⟩⟩
  have TB : ∀ p ∈ cs, LamX.TabB (hidT s₁.heap (headH K cs a vs ns)) mg p.1 p.2 := fun p hp => by
    refine ⟨?_, ?_, fun z => ?_⟩
    · obtain ⟨o, us, f1, f2, f3, f4, f5, f6, f7, e1, r1, r2, r3, rr⟩ := C p hp
      exact ⟨o, us, f1, f2, f3, f4, f5, f6, f7, lift e1 (fun _ _ z => by rw [r2] at z; cases z) (fun z => by rw [r2] at z; cases z; simp at r3), r1, r2, r3, rr⟩
    · obtain ⟨bm, ob, b1, b2, b3, b4, b5, b6⟩ := hbm
      refine ⟨bm, ob, b1, b2, fun q => ?_, fun q => ?_, lift b3 (fun _ _ z => by rw [b6] at z; cases z) (fun z => by rw [b6] at z; cases z), b4, b5, b6⟩
      · obtain ⟨o, es, ep, e, hd, _⟩ := hns
        rw [q, e] at b3
        cases b3
        rw [hd] at b6
        cases b6
      · rw [q, hT p hp] at b3
        cases b3
        cases b6
    · obtain ⟨o, es, ep, e, hd, _⟩ := hns
      rw [z, hT p hp] at e
      cases e
      cases hd
  have rv := vals_ints hi
  have hok : HOk P w (headH K cs a vs ns) s₁.heap := fun b u q => by
    rcases headH_inv q with ⟨h, rfl⟩ | ⟨_, rfl, _, rfl⟩
    · exact isT h
    · exact ⟨ha, by rw [List.length_map]; exact hl, vs, _, rv, ha⟩
  have sq : SqL K (headH K cs a vs ns) a (ns.map V.int) := by
    cases n : K.lookup a with
    | none => exact .inl (.inr ⟨_, headH_scr aT n⟩)
    | some o =>
      cases (KX a o n).symm.trans ha
      exact .inr ⟨_, vs.toArray, _, n, rfl, rfl, rfl, by rw [List.size_toArray, lv]; exact hl, by simpa using rv⟩
  have tabs : ∀ p ∈ cs, headH K cs a vs ns p.2 = some (.tbl #[]) := fun p hp => headH_tab (List.mem_map.mpr ⟨p, hp, rfl⟩)
  have e0 : Env0 P w K mg (hidT s₁.heap (headH K cs a vs ns)) callerA [] s₁ (headH K cs a vs ns) := ⟨rfl, hM, fun b o e => of_hidT e, Nat.le_of_eq (hidT_size _ _), trivial, fun b z => absurd (show b ∈ ([] : List Addr) from z) (by simp), hok, .of_eq hg⟩
  refine codeAny_mono ((F _ kin (ns' hns) TB).run callerA [] s₁ _ ⟨[.ref a], []⟩ [.ref a] [.ref a] _ _ hr e0 (hbind s₁ (.ref a)) (.cons rfl .nil) (hsp _ tabs sq)) fun r s' h => ?_
  cases r with
  | error e => exact (hCX _ e s' h).elim
  | ok fl =>
    cases fl with
    | next => exact False.elim h
    | brk => exact False.elim h
    | cont => exact False.elim h
    | ret u =>
        obtain ⟨v, H', os, bare, un, hok', ru, q⟩ := h
        obtain rfl : v = .bl true := q
        obtain rfl : u = Value.bool true := ru
        have keep : ∀ b o, b ∉ cs.map (·.2) → s₁.heap.get? b = some o → s'.heap.get? b = some o := fun b o nb e => by
          cases q : headH K cs a vs ns b with
          | none => exact un.keep b o e q (fun z => absurd (show b ∈ ([] : List Addr) from z) (by simp)) (by simp)
          | some u =>
            rcases headH_inv q with ⟨h, _⟩ | ⟨_, rfl, _, rfl⟩
            · exact absurd h nb
            · have e1 := (hok _ _ q).1
              have e2 := (hok' _ _ (un.frzs _ _ _ q)).1
              rw [e] at e1
              cases e1
              exact e2
        have more : ∀ b, b ∈ cs.map (·.2) → ∃ p ∈ cs, p.2 = b ∧ ∃ us : Array Value, s'.heap.get? b = some { cls := .none, data := .fields us } := fun b h => by
          obtain ⟨p, hp, rfl⟩ := List.mem_map.mp h
          obtain ⟨us, z⟩ := un.tbls p.2 #[] (tabs p hp)
          exact ⟨p, hp, rfl, _, hok' p.2 _ z⟩
        refine ⟨rfl, ⟨fun b o e => ?_, fun b o e => ?_⟩, os, bare⟩
        · by_cases h : b ∈ cs.map (·.2)
          · obtain ⟨p, hp, rfl, us, z⟩ := more b h
            cases e.symm.trans (hT p hp)
            exact .inr (.inl ⟨((C p hp).tab (hT p hp)).isCodeTable, rfl, #[], us, rfl, by rw [Array.empty_append]; exact z⟩)
          · exact .inl (keep b o h e)
        · by_cases h : b ∈ cs.map (·.2)
          · obtain ⟨p, hp, rfl, us, z⟩ := more b h
            exact ⟨_, z⟩
          · exact ⟨o, keep b o h e⟩
end
/-- what is known of the law's promise at the head's heap -/
def LawAt (l : PySem.W.OpenLaw) (w : World) (K : PySem.W.Frag) (CX : CXT) (k n : Nat) (x : Str) (mg : Str → Option Value) (fa : Addr) (h : Heap) : Prop :=
  ∃ (fd : FuncData) (cs : List (Addr × Addr)) (sp : Sp), (∀ p ∈ cs, h.get? p.2 = some { cls := .none, data := .fields #[] }) ∧ (∀ p ∈ cs, K.lookup p.2 = none) ∧ (∀ p ∈ cs, PySem.W.CodeHd h p.1 p.2) ∧ (∀ (s : Shared) (u : Value), BindsTo s fd ⟨[u], []⟩ [(x, u)]) ∧
    (∀ (H : Hp) (a : Addr) (ns : List Int), ns.length ≤ n → (∀ z ∈ ns, Builtin.Int.intBits z ≤ 1048576) → (∀ p ∈ cs, H p.2 = some (.tbl #[])) → SqL K H a (ns.map V.int) → sp [.ref a] H (fun v _ => v = .bl true) fun _ _ _ => False) ∧
    ∀ base : Heap, K.In base → base.Ns mainGlobals mg → (∀ p ∈ cs, LamX.TabB base mg p.1 p.2) → FnOk l.prog w K mg base CX k fa fd [x] sp
theorem walk_of {l : PySem.W.OpenLaw} {n k : Nat} {q : Program} {loose : List Str} {XP : (Str → Option Value) → Heap → Prop} {YP : World → Heap → Prop} {d : DefRec} {K : Params → PySem.W.Frag} {CX : World → CXT} {x : Str}
    (hn : l.most = some n) (hn2 : n ≤ sizeLine) (hdf : d.params.defaults = []) (hr : L2.Room k callerA) (hY : ∀ (w : World) (h : Heap), YP w h → (K w.params).In h)
    (F : ∀ (w : World) (mg : Str → Option Value) (fa : Addr) (h : Heap), YP w h → (K w.params).In h → h.Ns mainGlobals mg → mg d.name = some (.ref fa) → LawAt l w (K w.params) (CX w) k n x mg fa h)
    (hCX : ∀ (w : World) (H : Hp) (s : Shared) (e : Value) (s' : Shared), CX w [] H s (fun _ _ _ => False) e s' → False) :
    PySem.W.WalkO q loose XP YP l.row.toRowW d [] (fun f vs => PySem.call f vs) := by
  refine Att.attach_callB hn hdf fun w s₀ s₁ mg mb fa o pm cd doc a vs ns G Y ho hd hcd hmg hobj hints hlen hbits hg => ?_
  obtain ⟨fd, cs, sp, hT, nT, C, hb, hsp, hF⟩ := F w mg fa _ Y (hY w _ Y) G.T.g hmg
  exact law_run (hY w _ Y) G.T.g G.T.b G.T.builtins G.T.nolimit hg hT nT C G.T.bmain hobj hints (Nat.le_trans hlen hn2) (room_caller hr) hF hb (fun H hH hS => hsp H a ns hlen hbits hH hS) fun H e s' => hCX w H s₁ e s'
end LP
/-! LpF: defs and their calls; built-ins; methods that write. -/
namespace LP
open PySem PySem.Spec PyProof.Rows L2
section
variable {X : Cx} {G : Cfg} {W : WX} {σ : L2.St} {δ : DE} {M M' M1 M2 : Imm} {r r' r1 r2 : List Addr} {h h' h1 h2 : Bx} {H H' H1 H2 : Hp} {E : Ends}
variable {e c : Expr} {f g : EF} {tg : Expr} {fs : DE → Bx → R (List D)} {pos : Pos}
theorem BS.after (b : BS G M r h δ σ H) (s : Stp M r H M' r' H') (mok : MOk M' H') (bx : BxOk G.J M' r' h' H') (tb : LamX.Tabs G.T H') : BS G M' r' h' δ σ H' := by
  have nr : ∀ {a o}, G.H0 a = some o → (∀ ps, o ≠ .tbl ps) → a ∉ G.r0 → a ∉ r := fun e t n z => by
    rcases b.new _ z with y | y
    · exact n y
    · obtain ⟨ps, x⟩ := y _ e
      exact t ps x
  refine ⟨mok, bx, tb, b.len, fun i x o e1 e2 => ?_, b.sep, b.le.trans s.le, b.pre.trans s.pre, fun a ha => ?_, fun a o e t n => s.keep a o (b.keep a o e t n) t (nr e t n), fun a m f n => ?_⟩
  · refine (b.sl i x o e1 e2).mono s.le s.pre fun a u w m q n => ?_
    have nf : IsL H a := ⟨u, q, w⟩
    exact ⟨s.nf a m nf n, fun z => (s.new a z).elim n nf.nf, s.keep a _ q (fun ps y => w.ne_tbl y) n⟩
  · by_cases hr : a ∈ G.r0
    · exact .inl hr
    · rcases s.new a ha with z | z
      · exact b.new a z
      · exact .inr (z.back b.keep hr)
  · refine s.nf a (b.nf a m f n) (f.fwd b.keep n) fun z => ?_
    rcases b.new a z with y | y
    · exact n y
    · exact f.nf y
/-! ### what a def promises -/
def spF (K : PySem.W.Frag) (mg : Str → Option Value) (T : List (Addr × Str)) (n : Nat) (F : List D → Bx → R D) : Sp := fun vs H Q E => ∃ L M r h ds, vs.length = n ∧ MOk M H ∧ BxOk ⟨K, L, mg⟩ M r h H ∧ LamX.Tabs T H ∧ Reps ⟨K, L, mg⟩ M r ds vs ∧ match F ds h with
  | .ok d h' => ∀ v M' r' H', Stp M r H M' r' H' → MOk M' H' → BxOk ⟨K, L, mg⟩ M' r' h' H' → LamX.Tabs T H' → Rep ⟨K, L, mg⟩ M' r' d v → Q v H'
  | .exc c fs h' => ∀ C dd M' r' H', mg c = some (.ref C) → Stp M r H M' r' H' → MOk M' H' → BxOk ⟨K, L, mg⟩ M' r' h' H' → LamX.Tabs T H' → ExcAt ⟨K, L, mg⟩ M' r' H' fs dd → E (.ref C) dd H'
  | .bad => False
/-- a body's answer -/
def RS.fin (x : RS) : R D := match x with
  | .nx _ h => .ok .non h
  | .rt d h => .ok d h
  | .exc c fs _ h => .exc c fs h
  | _ => .bad
@[simp] theorem RS.fin_nx (δ : DE) (h : Bx) : (RS.nx δ h).fin = .ok .non h := pr rfl
@[simp] theorem RS.fin_rt (d : D) (h : Bx) : (RS.rt d h).fin = .ok d h := pr rfl
@[simp] theorem RS.fin_exc (c : Str) (fs : List (Str × D)) (δ : DE) (h : Bx) : (RS.exc c fs δ h).fin = .exc c fs h := pr rfl
def startD (n : Nat) (ds : List D) : DE := ds.map .v ++ List.replicate (n - ds.length) .no
def runF (n : Nat) (sf : SF) (ds : List D) (h : Bx) : R D := (sf (startD n ds) h).fin
theorem bs_start {K : PySem.W.Frag} {L : LamP} {mg : Str → Option Value} {T : List (Addr × Str)} {N : List Str} {ds : List D} {vs : List V} (mok : MOk M H) (bx : BxOk ⟨K, L, mg⟩ M r h H) (tb : LamX.Tabs T H) (t : Reps ⟨K, L, mg⟩ M r ds vs) :
    BS ⟨K, mg, T, M, r, H, L⟩ M r h (startD N.length ds) (L2.start N vs) H := by
  have own : ∀ {j : Nat} {es : SV}, (startD N.length ds)[j]? = some es → es.ow = true → False := fun {j es} e w => by
    unfold startD at e
    by_cases hj : j < ds.length
    · rw [List.getElem?_append_left (by simpa using hj), List.getElem?_map, List.getElem?_eq_getElem hj] at e
      cases e; cases w
    · rw [List.getElem?_append_right (by simpa using hj), List.getElem?_replicate] at e
      split at e <;> cases e
      cases w
  refine ⟨mok, bx, tb, ?_, fun i s o e1 e2 => ?_, fun i j ds es e1 _ w _ _ => (own e1 w).elim, Le.refl, List.prefix_rfl, fun a ha => .inl ha, Keep.refl, fun a m _ _ => m⟩
  · unfold L2.start startD
    simp only [List.length_append, List.length_map, List.length_replicate, t.length]
  · unfold startD at e1
    unfold L2.start at e2
    by_cases hi : i < ds.length
    · rw [List.getElem?_append_left (by simpa using hi), List.getElem?_map, List.getElem?_eq_getElem hi] at e1
      cases e1
      rw [List.getElem?_append_left (by simpa [t.length] using hi), List.getElem?_map] at e2
      obtain ⟨v, ev, rp⟩ := t.get (List.getElem?_eq_getElem hi)
      rw [ev] at e2
      cases e2
      exact ⟨v, rfl, rp⟩
    · rw [List.getElem?_append_right (by simpa using hi), List.getElem?_replicate] at e1
      split at e1
      · cases e1; trivial
      · cases e1
/-- THE RULE for a def -/
theorem fn_ok {P : Program} {w : World} {K : PySem.W.Frag} {mg : Str → Option Value} {T : List (Addr × Str)} {base : Heap} {x qual : Str} {st : Stmt} {fa : Addr} {fd : FuncData} {N ps : List Str} {k : Nat} {sf : SF} (F : Fun K x qual st fa fd) (S : FnScope N ps (defScope st))
    (hb : ∀ (cdv : Value) (A : Around) (outer : List PySem.Env) (s : Shared) (H : Hp) (E : XK) (M : Imm) (r : List Addr) (L : LamP), Room k (A.deeper (envOfC qual (defScope st) s.heap.objs.size fa cdv)) →
      Ess (cxOf (L2.CX P w) P w K mg base N qual (defScope st) fa cdv A outer s H E) ⟨K, mg, T, M, r, H, L⟩ (fun c d _ H => E c d H) (defBody st) sf) :
    FnOk P w K mg base (L2.CX P w) (k + 1) fa fd ps (spF K mg T ps.length (runF N.length sf)) := by
  refine Fun_okX F S (fun vs H Q E q => ?_) fun cdv A outer s H vs Q E hr q => ?_
  · obtain ⟨L, M, r, h, ds, e, _⟩ := q
    exact e
  · obtain ⟨L, M, r, h, ds, e, mok, bx, tb, t, q⟩ := q
    refine ⟨_, hb cdv A outer s H E M r L hr, M, r, h, _, bs_start mok bx tb t, ?_⟩
    unfold runF at q
    have st : ∀ {M' r' h' δ' σ' H'}, BS ⟨K, mg, T, M, r, H, L⟩ M' r' h' δ' σ' H' → Stp M r H M' r' H' := fun b => ⟨b.le, b.pre, b.new, b.keep, b.nf⟩
    cases z : sf (startD N.length ds) h with
    | nx δ h' => rw [z] at q; exact fun M' r' σ' H' _ _ b => q .non M' r' H' (st b) b.mok b.bx b.tb rfl
    | rt d h' => rw [z] at q; exact fun v M' r' δ' σ' H' _ _ b rv => q v M' r' H' (st b) b.mok b.bx b.tb rv
    | exc c fs δ h' => rw [z] at q; exact fun C dd M' r' σ' H' m _ _ b ea => q C dd M' r' H' m (st b) b.mok b.bx b.tb ea
    | bk δ h' => rw [z] at q; exact q.elim
    | ct δ h' => rw [z] at q; exact q.elim
    | bad => rw [z] at q; exact q.elim
/-- a def that is not asked -/
theorem fn_bad {P : Program} {w : World} {K : PySem.W.Frag} {mg : Str → Option Value} {T : List (Addr × Str)} {base : Heap} {CXT : CXT} {fa : Addr} {fd : FuncData} {ps : List Str} {k : Nat} : FnOk P w K mg base CXT k fa fd ps (spF K mg T ps.length fun _ _ => .bad) :=
  ⟨fun vs H Q E q => by obtain ⟨L, M, r, h, ds, e, _⟩ := q; exact e, fun A outer s H args us vs Q E _ _ _ _ q => by obtain ⟨L, M, r, h, ds, _, _, _, _, _, q⟩ := q; exact q.elim⟩
def callF (F : List D → Bx → R D) (fs : DE → Bx → R (List D)) : EF := fun δ h => (fs δ h).bind fun ds h1 => if ds.all isV = true then F ds h1 else .bad
theorem call_sp {n : Nat} {F : List D → Bx → R D} {vs : List V} {ds : List D} {Q : VK} (b : BS G M r h δ σ H) (rv : RepVs G.J M r δ σ ds vs) (hn : ∀ d h', F ds h = .ok d h' → ds.length = n) (hn2 : ∀ c fs h', F ds h = .exc c fs h' → ds.length = n)
    (q : After G W σ δ (rV G.J δ σ) M r H (if ds.all isV = true then F ds h else .bad) Q) : spF G.K G.mg G.T n F vs H Q (WE W σ) := by
  split at q
  · rename_i z
    have t := RepVs.reps rv z
    refine ⟨G.L, M, r, h, ds, ?_, b.mok, b.bx, b.tb, t, ?_⟩
    · rw [t.length]
      cases y : F ds h with
      | ok d h' => exact hn d h' y
      | exc c fs h' => exact hn2 c fs h' y
      | bad => rw [y] at q; exact q.elim
    · cases y : F ds h with
      | ok d h' =>
        rw [y] at q
        exact fun v M' r' H' s mok bx tb rp => q v M' r' H' s (b.after s mok bx tb) (rep_V rp)
      | exc c fs h' =>
        rw [y] at q
        exact fun C dd M' r' H' m s mok bx tb ea => q C dd M' r' H' m s (b.after s mok bx tb) ea
      | bad => rw [y] at q; exact q.elim
  · exact q.elim
/-- the number of the arguments is right -/
def nArgs (n : Nat) (F : List D → Bx → R D) : List D → Bx → R D := fun ds h => if ds.length = n then F ds h else .bad
theorem nArgs_eq {n : Nat} {F : List D → Bx → R D} {ds : List D} {h : Bx} (e : ds.length = n) : nArgs n F ds h = F ds h := if_pos e
theorem ev_call {k n : Nat} {fa : Addr} {fd : FuncData} {ps : List Str} {x : Str} {p : Pos} {es : List Expr} {F : List D → Bx → R D} (FF : FnOk X.prog X.w X.K X.mg X.base (L2.CX X.prog X.w) k fa fd ps (spF G.K G.mg G.T n F)) (hr : Room k X.A) (tk : Takes X W)
    (hg : Gl X x) (hm : X.mg x = some (.ref fa)) (hk : PySem.W.keepIn X.K (.ref fa) = true) (hb : Binds X.K fd ps [])
    (ha : EvA X G W (e :: es) fs) (hdb : (x == ("__debug__" : Str)) = false := by decide) (he : starEach (e :: es) X.env = (false, eval e X.env) :: starEach es X.env := by rfl) (hpl : (backTo pos (starEach es X.env)).any (·.1) = false := by rfl) :
    Ev X G W (.Call (.Name x p) (e :: es) [] pos) (callF (nArgs n F) fs) := by
  refine ⟨fun pins s σ H Q I h => ?_⟩
  obtain ⟨M, r, h, δ, b, q⟩ := h
  refine wpAny_Call_Name_kw (ld_glob I hg hm ?_ hdb)
  refine PySem.W.callWith_K (h₀ := X.base) I.ok.mod.kin hk (thn (ha.run pos pins s σ H (fun vs H1 => ∃ ds M1 r1 h1, BS G M1 r1 h1 δ σ H1 ∧ RepVs G.J M1 r1 δ σ ds vs ∧ After G W σ δ (rV G.J δ σ) M1 r1 H1 (if ds.all isV = true then nArgs n F ds h1 else .bad) Q) I
    ⟨M, r, h, δ, b, (After.bind q).more fun vs H1 ⟨ds, M1, r1, h1, s1, b1, rv, q1⟩ => ⟨ds, M1, r1, h1, b1, rv, q1⟩⟩) fun us s2 ⟨vs, H1, I1, rz, ds, M1, r1, h1, b1, rv, q1⟩ => ⟨I1.kIn, ?_⟩) he hpl
  by_cases z : ds.length = n
  · rw [nArgs_eq z] at q1
    have sp : spF G.K G.mg G.T n F vs H1 Q (WE W σ) := call_sp b1 rv (fun _ _ _ => z) (fun _ _ _ _ => z) q1
    have lu : us.length = ps.length := by rw [← rz.length]; exact FF.len _ _ _ _ sp
    have bd := hb s2 us I1.kIn (by rw [List.append_nil]; exact lu)
    rw [List.append_nil] at bd
    refine wpAny_call (codeAny_mono (FF.run X.A X.stack s2 H1 ⟨us, []⟩ us vs Q (WE W σ) hr I1.env0 bd rz sp) fun rr s' hq => ?_)
    cases rr with
    | error er => exact passAt tk σ pins H1 s2 er s' I1 hq
    | ok fl =>
      cases fl with
      | ret u => exact I1.after hq
      | next => exact hq.elim
      | brk => exact hq.elim
      | cont => exact hq.elim
  · exfalso
    unfold nArgs at q1
    rw [if_neg z] at q1
    split at q1 <;> exact q1
/-! ### built-ins -/
def CallK (G : Cfg) (W : WX) (rr : List V → Hp → VK → Prop) (k : List D → DE → Bx → R D) : Prop := ∀ (σ : L2.St) (δ : DE) (M : Imm) (r : List Addr) (h : Bx) (H : Hp) (vs : List V) (ds : List D) (Q : VK),
  BS G M r h δ σ H → RepVs G.J M r δ σ ds vs → After G W σ δ (rV G.J δ σ) M r H (k ds δ h) Q → rr vs H Q
def blt (k : List D → DE → Bx → R D) (fs : DE → Bx → R (List D)) : EF := fun δ h => (fs δ h).bind fun ds h1 => k ds δ h1
theorem tCB_of {rr : List V → Hp → VK → Prop} {k : List D → DE → Bx → R D} (hk : CallK G W rr k) {Q : VK} (q : tG G W (rV G.J) (blt k fs) σ H Q) : tCB rr (tG G W (rVs G.J) fs) σ H Q := by
  obtain ⟨M, r, h, δ, b, q⟩ := q
  exact ⟨M, r, h, δ, b, (After.bind q).more fun vs H1 ⟨ds, M1, r1, h1, s1, b1, rv, q1⟩ => hk σ δ M1 r1 h1 H1 vs ds Q b1 rv q1⟩
variable {rr : List V → Hp → VK → Prop} {k : List D → DE → Bx → R D} {bid T : String} {x : Str} {p : Pos} {es : List Expr}
theorem ev_callB (hc : CallR X (.builtin bid) rr) (hk : CallK G W rr k) (hg : Gl X x) (hm : X.mg x = none) (hv : bootBuiltins x = some (.builtin bid)) (ha : EvA X G W (e :: es) fs) (hn : x ≠ "__name__" := by decide) (hdb : (x == ("__debug__" : Str)) = false := by decide)
    (he : starEach (e :: es) X.env = (false, eval e X.env) :: starEach es X.env := by rfl) (hpl : (backTo pos (starEach es X.env)).any (·.1) = false := by rfl) : Ev X G W (.Call (.Name x p) (e :: es) [] pos) (blt k fs) :=
  PE.imp (pe_callB hc hg hm hv ha hn hdb he hpl) fun _ _ _ q => tCB_of hk q
theorem ev_callTy (hc : CallR X (.type T) rr) (hk : CallK G W rr k) (hg : Gl X x) (hm : X.mg x = none) (hv : bootBuiltins x = some (.type T)) (ha : EvA X G W (e :: es) fs) (hn : x ≠ "__name__" := by decide) (hdb : (x == ("__debug__" : Str)) = false := by decide)
    (he : starEach (e :: es) X.env = (false, eval e X.env) :: starEach es X.env := by rfl) (hpl : (backTo pos (starEach es X.env)).any (·.1) = false := by rfl) : Ev X G W (.Call (.Name x p) (e :: es) [] pos) (blt k fs) :=
  PE.imp (pe_callTy hc hg hm hv ha hn hdb he hpl) fun _ _ _ q => tCB_of hk q
theorem one_rep {d : D} {vs : List V} (q : RepVs G.J M r δ σ [d] vs) : ∃ v, vs = [v] ∧ RepV G.J M r δ σ d v := by
  obtain ⟨v, vt, rfl, e1, e2⟩ := q
  cases e2
  exact ⟨v, rfl, e1⟩
theorem two_rep {d d2 : D} {vs : List V} (q : RepVs G.J M r δ σ [d, d2] vs) : ∃ v v2, vs = [v, v2] ∧ RepV G.J M r δ σ d v ∧ RepV G.J M r δ σ d2 v2 := by
  obtain ⟨v, vt, rfl, e1, e2⟩ := q
  obtain ⟨v2, rfl, e3⟩ := one_rep e2
  exact ⟨v, v2, rfl, e1, e3⟩
/-- len of lists, tuples, texts -/
def lenK (ds : List D) (δ : DE) (h : Bx) : R D := match ds with
  | [.str x] => if x.length ≤ big then .ok (.int x.length) h else .bad
  | [d] => match seqOf δ h d with
    | some es => .ok (.int es.length) h
    | none => .bad
  | _ => .bad
abbrev rLen (K : PySem.W.Frag) : List V → Hp → VK → Prop := fun xs H Q => (∃ p ys, xs = [.ref p] ∧ (SqL K H p ys ∨ SqT K H p ys) ∧ Q (.int ys.length) H) ∨ ∃ z : Str, xs = [.str z] ∧ z.length ≤ sizeLine ∧ Q (.int z.length) H
theorem call_lenK : CallR X (.builtin "len") (rLen X.K) := CallR.or call_len_seq call_len_str
theorem lenK_ok : CallK G W (rLen G.K) lenK := by
  intro σ δ M r h H vs ds Q b rv q
  unfold lenK at q
  split at q
  · rename_i x
    obtain ⟨v, rfl, e⟩ := one_rep rv
    cases e
    split at q
    · rename_i z
      exact .inr ⟨x, rfl, big_line z, q.now b rfl⟩
    · exact q.elim
  · rename_i d _
    obtain ⟨v, rfl, e⟩ := one_rep rv
    split at q
    · rename_i es z
      obtain ⟨a, us, rfl, hs, t⟩ := b.seq e z
      refine .inl ⟨a, us, rfl, hs, ?_⟩
      rw [t.length]
      exact q.now b rfl
    · exact q.elim
  · exact q.elim
def absK (ds : List D) (_ : DE) (h : Bx) : R D := match ds with
  | [.int i] => .ok (.int (if i < 0 then -i else i)) h
  | _ => .bad
theorem absK_ok : CallK G W (fun xs H Q => ∃ i, xs = [.int i] ∧ Q (.int (if i < 0 then -i else i)) H) absK := by
  intro σ δ M r h H vs ds Q b rv q
  unfold absK at q
  split at q
  · obtain ⟨v, rfl, e⟩ := one_rep rv
    cases e
    exact ⟨_, rfl, q.now b rfl⟩
  · exact q.elim
def intK (ds : List D) (_ : DE) (h : Bx) : R D := match ds with
  | [.int i] => .ok (.int i) h
  | [.bl b] => .ok (.int (if b = true then 1 else 0)) h
  | _ => .bad
theorem intK_ok : CallK G W (fun xs H Q => (∃ i, xs = [.int i] ∧ Q (.int i) H) ∨ ∃ k, xs = [.bl k] ∧ Q (.int (if k then 1 else 0)) H) intK := by
  intro σ δ M r h H vs ds Q b rv q
  unfold intK at q
  split at q
  · obtain ⟨v, rfl, e⟩ := one_rep rv
    cases e
    exact .inl ⟨_, rfl, q.now b rfl⟩
  · obtain ⟨v, rfl, e⟩ := one_rep rv
    cases e
    exact .inr ⟨_, rfl, q.now b rfl⟩
  · exact q.elim
/-- tuple(x) -/
def tupK (ds : List D) (δ : DE) (h : Bx) : R D := match ds with
  | [.tup es] => .ok (.tup es) h
  | [d] => match lstOf δ h d with
    | some es => .ok (.tup es) h
    | none => .bad
  | _ => .bad
theorem tupK_ok : CallK G W (fun xs H Q => ∃ p ys, xs = [.ref p] ∧ ((SqL G.K H p ys ∧ ∀ l, H l = none → Q (.ref l) (upd H l (.tup ys))) ∨ (SqT G.K H p ys ∧ Q (.ref p) H))) tupK := by
  intro σ δ M r h H vs ds Q b rv q
  unfold tupK at q
  split at q
  · rename_i es
    obtain ⟨v, rfl, e⟩ := one_rep rv
    obtain ⟨a, us, rfl, m, t⟩ := e
    exact ⟨a, us, rfl, .inr ⟨sqT_of b m, q.now b ⟨a, us, rfl, m, t⟩⟩⟩
  · rename_i d _
    obtain ⟨v, rfl, e⟩ := one_rep rv
    split at q
    · rename_i es z
      obtain ⟨a, us, rfl, hs, t, l⟩ := b.lst e z
      exact ⟨a, us, rfl, .inl ⟨hs, tup_new b t l q⟩⟩
    · exact q.elim
  · exact q.elim
/-- list(x): a new one -/
def listN (fs : DE → Bx → R (List D)) : DE → Bx → R (List D) := fun δ h => (fs δ h).bind fun ds h1 => match ds with
  | [d] => match seqOf δ h1 d with
    | some es => if es.length ≤ big then .ok es h1 else .bad
    | none => .bad
  | _ => .bad
theorem evn_list {p : Pos} {es : List Expr} (hg : Gl X "list") (hm : X.mg "list" = none) (ha : EvA X G W (e :: es) fs) (hK : X.K = G.K)
    (he : starEach (e :: es) X.env = (false, eval e X.env) :: starEach es X.env := by rfl) (hpl : (backTo pos (starEach es X.env)).any (·.1) = false := by rfl) : EvN X G W (.Call (.Name "list" p) (e :: es) [] pos) (listN fs) :=
  PE.imp (pe_callTy call_list_of hg hm (by decide +kernel) ha (by decide) (by decide) he hpl) fun σ H Q q => by
    rw [hK]
    obtain ⟨M, r, h, δ, b, q⟩ := q
    refine ⟨M, r, h, δ, b, (AfterN.bind (rl := rVs G.J δ σ) q).more fun vs H1 ⟨ds, M1, r1, h1, s1, b1, rv, q1⟩ => ?_⟩
    split at q1
    · rename_i d
      obtain ⟨v, rfl, e⟩ := one_rep rv
      split at q1
      · rename_i es' z
        split at q1
        · rename_i l
          obtain ⟨a, us, rfl, hs, t⟩ := b1.seq e z
          exact ⟨a, us, rfl, hs, fun p hp => q1 us M1 r1 H1 p Stp.refl b1 t l hp⟩
        · exact q1.elim
      · exact q1.elim
    · exact q1.elim
/-- truth values -/
def bls : List D → Option (List Bool)
  | [] => some []
  | .bl b :: ds => (bls ds).map (b :: ·)
  | _ :: _ => none
theorem bls_rep {J : Jd} : ∀ {ds : List D} {vs : List V} {bs : List Bool}, Reps J M r ds vs → bls ds = some bs → vs = bs.map V.bl
  | [], _, _, q, e => by cases q; cases e; rfl
  | d :: ds, _, bs, q, e => by
    obtain ⟨v, vt, rfl, e1, e2⟩ := q
    cases d with
    | bl b =>
      unfold bls at e
      cases z : bls ds with
      | none => rw [z] at e; cases e
      | some cs =>
        rw [z] at e
        cases e
        cases e1
        rw [bls_rep e2 z]; rfl
    | _ => cases e
theorem bls_map (bs : List Bool) : bls (bs.map D.bl) = some bs := by
  induction bs with
  | nil => rfl
  | cons b bs ih => simp [bls, ih]
def allK (ds : List D) (δ : DE) (h : Bx) : R D := match ds with
  | [d] => match lstOf δ h d with
    | some es => match bls es with
      | some bs => .ok (.bl (bs.all id)) h
      | none => .bad
    | none => .bad
  | _ => .bad
def anyK (ds : List D) (δ : DE) (h : Bx) : R D := match ds with
  | [d] => match lstOf δ h d with
    | some es => match bls es with
      | some bs => .ok (.bl (bs.any id)) h
      | none => .bad
    | none => .bad
  | _ => .bad
theorem allK_ok : CallK G W (rAll G.K) allK := by
  intro σ δ M r h H vs ds Q b rv q
  unfold allK at q
  split at q
  · obtain ⟨v, rfl, e⟩ := one_rep rv
    split at q
    · rename_i es z
      split at q
      · rename_i bs y
        obtain ⟨a, us, rfl, hs, t, l⟩ := b.lst e z
        exact ⟨a, bs, rfl, by rw [← bls_rep t y]; exact hs, q.now b rfl⟩
      · exact q.elim
    · exact q.elim
  · exact q.elim
theorem anyK_ok : CallK G W (rAny G.K) anyK := by
  intro σ δ M r h H vs ds Q b rv q
  unfold anyK at q
  split at q
  · obtain ⟨v, rfl, e⟩ := one_rep rv
    split at q
    · rename_i es z
      split at q
      · rename_i bs y
        obtain ⟨a, us, rfl, hs, t, l⟩ := b.lst e z
        exact ⟨a, bs, rfl, by rw [← bls_rep t y]; exact hs, q.now b rfl⟩
      · exact q.elim
    · exact q.elim
  · exact q.elim
/-! ### isinstance -/
/-- a value's type -/
def D.ty : D → String
  | .non => "NoneType"
  | .bl _ => "bool"
  | .int _ => "int"
  | .str _ => "str"
  | .tup _ => "tuple"
  | .lam _ => "function"
  | .fn _ => "function"
  | _ => "list"
def D.fun? : D → Bool
  | .lam _ => true
  | .fn _ => true
  | .dct _ _ => true
  | _ => false
theorem tyx_of (b : BS G M r h δ σ H) {d : D} {v : V} (rv : RepV G.J M r δ σ d v) (nf : d.fun? = false) : TyX G.K H v (.type d.ty) := by
  cases d with
  | lam _ => cases nf
  | fn _ => cases nf
  | dct _ _ => cases nf
  | non => cases rv; exact .base .non
  | bl _ => cases rv; exact .base (.bl _)
  | int _ => cases rv; exact .base (.int _)
  | str _ => cases rv; exact .base (.str _)
  | tup ds =>
    obtain ⟨a, vs, rfl, m, t⟩ := rv
    rcases m with m | m
    · exact .base (.tup (b.mok _ _ m).2)
    · exact m.elim
  | lst ds =>
    obtain ⟨a, vs, rfl, m, t⟩ := rv
    exact .base (.lst (b.mok _ _ m).2)
  | frz ds =>
    obtain ⟨a, vs, rfl, m, t⟩ := rv
    rcases m with ⟨u, m, rfl | ⟨o, rfl⟩⟩ | ⟨o, its, n, k1, k2, _⟩
    · exact .base (.lst (b.mok _ _ m).2)
    · exact .base (.frz (b.mok _ _ m).2)
    · exact .kList k1 k2
  | ptr n =>
    obtain ⟨a, rfl, e⟩ := rv
    have hl : n < h.length := by rw [← b.bx.len]; exact (List.getElem?_eq_some_iff.mp e).1
    obtain ⟨_, _, vs, q, _⟩ := b.bx.at_ n a _ e (List.getElem?_eq_getElem hl)
    exact .base (.lst q)
  | loc i =>
    obtain ⟨e1, ds, e2⟩ := rv
    obtain ⟨a, vs, e3, _, _, _, _, q, _⟩ := b.sl i _ _ e2 e1
    cases e3
    exact .base (.lst q)
def isT (t T : String) : Bool := t == T || (t == "bool" && T == "int")
def isiR (T : List String) (d : D) (h : Bx) : R D := if d.fun? = true then .bad else .ok (.bl (T.any (isT d.ty))) h
def isiF (T : List String) (f : EF) : EF := fun δ h => (f δ h).bind fun d h1 => isiR T d h1
/-- isinstance(e, T), T one of int, bool, str, list, tuple -/
theorem ev_isi {T : String} {xt : Str} {p p2 : Pos} (hg : Gl X "isinstance") (hm : X.mg "isinstance" = none) (hgt : Gl X xt) (hmt : X.mg xt = none) (hvt : bootBuiltins xt = some (.type T)) (ha : Ev X G W e f) (hK : X.K = G.K)
    (hT : ∀ t ∈ ["NoneType", "bool", "int", "str", "tuple", "list"], kitB t T = some (isT t T)) (hn : xt ≠ "__name__" := by decide) (hdb : (xt == ("__debug__" : Str)) = false := by decide)
    (he : starEach [e, .Name xt p2] X.env = (false, eval e X.env) :: starEach [.Name xt p2] X.env := by rfl) (hpl : (backTo pos (starEach [.Name xt p2] X.env)).any (·.1) = false := by rfl)
    (hs2 : starEach [.Name xt p2] X.env = (false, eval (.Name xt p2) X.env) :: starEach [] X.env := by rfl) : Ev X G W (.Call (.Name "isinstance" p) [e, .Name xt p2] [] pos) (isiF [T] f) :=
  PE.imp (pe_callB call_isi hg hm (by decide +kernel) (pa_cons ha (pa_cons (pe_bltn (v := .ty T) hgt hmt hvt rfl hn hdb) pa_nil hs2) he) (by decide) (by decide) he hpl) fun σ H Q q => by
    rw [hK]
    obtain ⟨M, r, h, δ, b, q⟩ := q
    refine ⟨M, r, h, δ, b, (After.bind q).more fun v H1 ⟨d, M1, r1, h1, s1, b1, rv, q1⟩ => ?_⟩
    by_cases nf : d.fun? = true
    · unfold isiR at q1; rw [if_pos nf] at q1; exact q1.elim
    unfold isiR at q1
    rw [if_neg nf] at q1
    have nf : d.fun? = false := by simpa using nf
    have hd : d.ty ∈ ["NoneType", "bool", "int", "str", "tuple", "list"] := by cases d <;> first | (cases nf; done) | simp [D.ty]
    have q1 : After G W σ δ (rV G.J δ σ) M1 r1 H1 (.ok (.bl (isT d.ty T || false)) h1) Q := q1
    rw [Bool.or_false] at q1
    exact ⟨v, .ty T, .type d.ty, .type T, _, rfl, .ty T, tyx_of b1 rv nf, kit_ty (hT _ hd), q1.now b1 rfl⟩
/-- isinstance(e, (T1, T2)) -/
theorem ev_isi2 {T T' : String} {xt xt' : Str} {p p2 p3 p4 : Pos} {kk : Nat} (hg : Gl X "isinstance") (hm : X.mg "isinstance" = none) (hgt : Gl X xt) (hmt : X.mg xt = none) (hvt : bootBuiltins xt = some (.type T)) (hgt' : Gl X xt') (hmt' : X.mg xt' = none) (hvt' : bootBuiltins xt' = some (.type T')) (ha : Ev X G W e f) (hK : X.K = G.K)
    (hT : ∀ t ∈ ["NoneType", "bool", "int", "str", "tuple", "list"], kitB t T = some (isT t T)) (hT' : ∀ t ∈ ["NoneType", "bool", "int", "str", "tuple", "list"], kitB t T' = some (isT t T'))
    (hn : xt ≠ "__name__" := by decide) (hdb : (xt == ("__debug__" : Str)) = false := by decide) (hn' : xt' ≠ "__name__" := by decide) (hdb' : (xt' == ("__debug__" : Str)) = false := by decide)
    (he : starEach [e, .Tuple [.Name xt p2, .Name xt' p3] kk p4] X.env = (false, eval e X.env) :: starEach [.Tuple [.Name xt p2, .Name xt' p3] kk p4] X.env := by rfl) (hpl : (backTo pos (starEach [.Tuple [.Name xt p2, .Name xt' p3] kk p4] X.env)).any (·.1) = false := by rfl)
    (hs2 : starEach [.Tuple [.Name xt p2, .Name xt' p3] kk p4] X.env = (false, eval (.Tuple [.Name xt p2, .Name xt' p3] kk p4) X.env) :: starEach [] X.env := by rfl)
    (hs3 : starEach [.Name xt p2, .Name xt' p3] X.env = (false, eval (.Name xt p2) X.env) :: starEach [.Name xt' p3] X.env := by rfl) (hs4 : starEach [.Name xt' p3] X.env = (false, eval (.Name xt' p3) X.env) :: starEach [] X.env := by rfl) :
    Ev X G W (.Call (.Name "isinstance" p) [e, .Tuple [.Name xt p2, .Name xt' p3] kk p4] [] pos) (isiF [T, T'] f) :=
  PE.imp (pe_callB call_isiT hg hm (by decide +kernel) (pa_cons ha (pa_cons (pe_tup (pa_cons (pe_bltn (v := .ty T) hgt hmt hvt rfl hn hdb) (pa_cons (pe_bltn (v := .ty T') hgt' hmt' hvt' rfl hn' hdb') pa_nil hs4) hs3)) pa_nil hs2) he) (by decide) (by decide) he hpl) fun σ H Q q => by
    rw [hK]
    obtain ⟨M, r, h, δ, b, q⟩ := q
    refine ⟨M, r, h, δ, b, (After.bind q).more fun v H1 ⟨d, M1, r1, h1, s1, b1, rv, q1⟩ => ?_⟩
    by_cases nf : d.fun? = true
    · unfold isiR at q1; rw [if_pos nf] at q1; exact q1.elim
    unfold isiR at q1
    rw [if_neg nf] at q1
    have nf : d.fun? = false := by simpa using nf
    have hd : d.ty ∈ ["NoneType", "bool", "int", "str", "tuple", "list"] := by cases d <;> first | (cases nf; done) | simp [D.ty]
    refine ⟨by show 2 ≤ sizeLine; decide, fun p hp => ?_⟩
    obtain ⟨b2, s2⟩ := b1.laid (o := .tup [.ty T, .ty T']) hp (by show 2 ≤ big; decide)
    have rv2 := RepV.mono s2.le s2.pre rv
    have q1 : After G W σ δ (rV G.J δ σ) M1 r1 H1 (.ok (.bl (isT d.ty T || (isT d.ty T' || false))) h1) Q := q1
    refine ⟨v, p, [.ty T, .ty T'], .type d.ty, [.type T, .type T'], isT d.ty T || (isT d.ty T' || false), rfl, upd_same, .cons (.ty T) (.cons (.ty T') .nil), tyx_of b2 rv2 nf, ?_, (After.from s2 q1).now b2 rfl⟩
    refine kitAny_cons (kit_ty (hT _ hd)) (fun e => ?_) (fun e => by rw [e]; rfl)
    rw [e]
    exact kitAny_cons (kit_ty (hT' _ hd)) (fun e' => by rw [e']; rfl) (fun e' => by rw [e']; rfl)
end
end LP
/-! LpG: lists that are written: slots' own ones, boxes. -/
namespace LP
open PySem PySem.Spec PyProof.Rows L2
section
variable {X : Cx} {G : Cfg} {W : WX} {σ : L2.St} {δ : DE} {M M' M1 M2 : Imm} {r r' r1 r2 : List Addr} {h h' h1 h2 : Bx} {H H' H1 H2 : Hp} {E : Ends}
variable {e c : Expr} {f g : EF} {tg : Expr} {fs : DE → Bx → R (List D)} {pos : Pos}
/-- a list that is written: that of slot i, or a box that slot i names -/
def wrS (i : Nat) (δ : DE) (h : Bx) : Option (List D) := match δ[i]? with
  | some (.own ds) => some ds
  | some (.v (.ptr n)) => h[n]?
  | _ => none
/-- behind the writing -/
def putS (i : Nat) (δ : DE) (h : Bx) (ds : List D) : DE × Bx := match δ[i]? with
  | some (.v (.ptr n)) => (δ, h.set n ds)
  | _ => (δ.set i (.own ds), h)
theorem BS.ownW (b : BS G M r h δ σ H) {i : Nat} {ds es : List D} {a : Addr} {us : List V} (e : δ[i]? = some (.own ds)) (ea : σ[i]? = some (some (.ref a))) (t : Reps G.J M r es us) (z : es.length ≤ big) : BS G M r h (δ.set i (.own es)) σ (upd H a (.lst us)) := by
  obtain ⟨a', vs, e1, m, n, fr, _, q, _⟩ := b.sl i _ _ e ea
  cases e1
  have hi : i < δ.length := (List.getElem?_eq_some_iff.mp e).1
  have b1 := (b.drop i).wrote (ys := us) m n fr (fun j ds' e1 w e2 => ?_) q
  · refine ⟨b1.mok, b1.bx, b1.tb, by rw [List.length_set]; exact b.len, fun j s x e1 e2 => ?_, fun j l es' us' e1 e2 w1 w2 n' => ?_, b1.le, b1.pre, b1.new, b1.keep, b1.nf⟩
    · by_cases hj : i = j
      · subst hj
        rw [List.getElem?_set_self hi] at e1
        cases e1
        rw [ea] at e2; cases e2
        exact ⟨a, us, rfl, m, n, fr, z, upd_same, t⟩
      · rw [List.getElem?_set_ne hj] at e1
        exact b1.sl j s x (by rw [List.getElem?_set_ne hj]; exact e1) e2
    · have back : ∀ {j : Nat} {es' : SV}, (δ.set i (.own es))[j]? = some es' → es'.ow = true → ∃ ds', δ[j]? = some ds' ∧ ds'.ow = true := fun {j es'} e1 w => by
        by_cases hj : i = j
        · subst hj; exact ⟨_, e, rfl⟩
        · rw [List.getElem?_set_ne hj] at e1; exact ⟨es', e1, w⟩
      obtain ⟨d1, y1, x1⟩ := back e1 w1
      obtain ⟨d2, y2, x2⟩ := back e2 w2
      exact b.sep j l d1 d2 y1 y2 x1 x2 n'
  · by_cases hj : i = j
    · subst hj
      rw [List.getElem?_set_self hi] at e1; cases e1; cases w
    · rw [List.getElem?_set_ne hj] at e1
      exact b.sep i j _ ds' e e1 rfl w hj (by rw [ea, e2])
theorem BS.boxW (b : BS G M r h δ σ H) {n : Nat} {a : Addr} {es : List D} {us : List V} (ea : r[n]? = some a) (t : Reps G.J M r es us) (z : es.length ≤ big) : BS G M r (h.set n es) δ σ (upd H a (.lst us)) ∧ Stp M r H M r (upd H a (.lst us)) := by
  have hn : n < h.length := by rw [← b.bx.len]; exact (List.getElem?_eq_some_iff.mp ea).1
  obtain ⟨m, _, vs, q, _⟩ := b.bx.at_ n a _ ea (List.getElem?_eq_getElem hn)
  have har : a ∈ r := List.mem_of_getElem? ea
  have ne : ∀ {c u}, M c = some u → c ≠ a := fun e z => by rw [z, m] at e; cases e
  have kp : Keep r H (upd H a (.lst us)) := fun c u e t n => by
    rw [upd_ne (fun z => n (by rw [z]; exact har))]; exact e
  refine ⟨⟨fun c u e => ⟨(b.mok c u e).1, by rw [upd_ne (ne e)]; exact (b.mok c u e).2⟩, ⟨by rw [List.length_set]; exact b.bx.len, b.bx.nd, fun k c ds e1 e2 => ?_⟩, fun p hp => ?_, b.len, fun i s x e1 e2 => ?_, b.sep, b.le, b.pre, b.new, fun c u e t nr => ?_, b.nf⟩,
    Le.refl, List.prefix_rfl, fun c z => .inl z, kp, fun c m _ _ => m⟩
  · by_cases hk : n = k
    · subst hk
      rw [List.getElem?_set_self hn] at e2
      cases e2
      rw [ea] at e1; cases e1
      exact ⟨m, z, us, upd_same, t⟩
    · rw [List.getElem?_set_ne hk] at e2
      obtain ⟨m', z', vs', q', t'⟩ := b.bx.at_ k c ds e1 e2
      refine ⟨m', z', vs', ?_, t'⟩
      rw [upd_ne fun y => hk ?_]
      · exact q'
      · subst y
        obtain ⟨l1, x1⟩ := List.getElem?_eq_some_iff.mp ea
        obtain ⟨l2, x2⟩ := List.getElem?_eq_some_iff.mp e1
        exact (List.getElem_inj b.bx.nd).mp (x1.trans x2.symm)
  · obtain ⟨ps, e1, e2, e3⟩ := b.tb p hp
    refine ⟨ps, by rw [upd_ne (fun z => by rw [z, q] at e1; cases e1)]; exact e1, e2, fun pos cv hc => ?_⟩
    obtain ⟨c, z1, z2⟩ := e3 pos cv hc
    refine ⟨c, z1, ?_⟩
    rw [upd_ne (fun z => by rw [z, q] at z2; cases z2)]
    exact z2
  · exact (b.sl i s x e1 e2).mono Le.refl List.prefix_rfl fun c u w m' q' n' => ⟨m', n', kp c _ q' (fun ps y => w.ne_tbl y) n'⟩
  · have nr' : c ∉ r := fun z => by
      rcases b.new c z with y | y
      · exact nr y
      · obtain ⟨ps, w⟩ := y _ e
        exact t ps w
    exact kp c u (b.keep c u e t nr) t nr'
/-- the list that is written, as it stands -/
theorem BS.wrS (b : BS G M r h δ σ H) {i : Nat} {ds : List D} (e : wrS i δ h = some ds) : ∃ a vs, σ[i]? = some (some (.ref a)) ∧ H a = some (.lst vs) ∧ Reps G.J M r ds vs ∧ ds.length ≤ big ∧
    ∀ (es : List D) (us : List V), Reps G.J M r es us → es.length ≤ big → BS G M r (putS i δ h es).2 (putS i δ h es).1 σ (upd H a (.lst us)) := by
  unfold LP.wrS at e
  unfold putS
  cases z : δ[i]? with
  | none => rw [z] at e; cases e
  | some s =>
    rw [z] at e
    obtain ⟨o, eo⟩ := b.lt z
    cases s with
    | no => cases e
    | own es =>
      cases e
      obtain ⟨a, vs, rfl, m, n, fr, l, q, t⟩ := b.sl i _ _ z eo
      exact ⟨a, vs, eo, q, t, l, fun es us t' z' => b.ownW z eo t' z'⟩
    | ownD es => cases e
    | v d =>
      cases d with
      | ptr n =>
        obtain ⟨v, rfl, a, rfl, ea⟩ := b.sl i _ _ z eo
        have e : h[n]? = some ds := e
        obtain ⟨m, l, vs, q, t⟩ := b.bx.at_ n a ds ea e
        exact ⟨a, vs, eo, q, t, l, fun es us t' z' => (b.boxW ea t' z').1⟩
      | _ => cases e
/-! ### append, extend, pop as statements -/
variable {x : Str} {px apos : Pos} {i j : Nat}
theorem recv_list (b : BS G M r h δ σ H) {i : Nat} (hw : (LP.wrS i δ h).isSome = true) : ∃ v, σ[i]? = some (some v) ∧ tyV G.K "list" v H := by
  cases e : LP.wrS i δ h with
  | none => rw [e] at hw; cases hw
  | some ds =>
    obtain ⟨a, vs, e1, q, _⟩ := b.wrS e
    exact ⟨_, e1, .inl ⟨rfl, vs, .inl (.inl q)⟩⟩
/-- the receiver, the argument, the writing: k tells the new list -/
def methS (i : Nat) (f : EF) (k : List D → D → DE → Bx → Option (List D)) : SF := fun δ h => if (wrS i δ h).isSome = true then (f δ h).toS δ fun d h1 => match wrS i δ h1 with
  | some ds => match k ds d δ h1 with
    | some es => .nx (putS i δ h1 es).1 (putS i δ h1 es).2
    | none => .bad
  | none => .bad
else .bad
theorem meth_of {rr : V → List V → Hp → VK → Prop} {k : List D → D → DE → Bx → Option (List D)}
    (hr : ∀ a w d M1 r1 h1 H1 ds vs es (Q : VK), BS G M1 r1 h1 δ σ H1 → H1 a = some (.lst vs) → Reps G.J M1 r1 ds vs → ds.length ≤ big → RepV G.J M1 r1 δ σ d w → k ds d δ h1 = some es →
      (∀ us, Reps G.J M1 r1 es us → es.length ≤ big → Q .non (upd H1 a (.lst us))) → rr (.ref a) [w] H1 Q)
    (b : BS G M r h δ σ H) (q : AfterS G W M r (methS i f k δ h) E) : tBM G.K "list" rr (tVar i) (tCons (tG G W (rV G.J) f) tNil) σ H fun _ H1 => E.nx σ H1 := by
  unfold methS at q
  split at q
  · rename_i hw
    obtain ⟨v, e1, ty⟩ := recv_list b hw
    refine ⟨v, e1, ty, M, r, h, δ, b, (AfterS.expr (rl := rV G.J) b q).more fun w H1 ⟨d, M1, r1, h1, s1, b1, rv, q1⟩ => ?_⟩
    split at q1
    · rename_i ds z
      split at q1
      · rename_i es y
        obtain ⟨a, vs, e2, q2, t, l, wr⟩ := b1.wrS z
        rw [e1] at e2; cases e2
        exact hr a w d M1 r1 h1 H1 ds vs es _ b1 q2 t l rv y fun us t' l' => q1.nxt (wr es us t' l')
      · exact q1.elim
    · exact q1.elim
  · exact q.elim
def appK (ds : List D) (d : D) (_ : DE) (_ : Bx) : Option (List D) := if (isV d && decide (ds.length < big)) = true then some (ds ++ [d]) else none
def extK (ds : List D) (d : D) (δ : DE) (h : Bx) : Option (List D) := match wrOf δ h d with
  | some es => if ds.length + es.length ≤ big then some (ds ++ es) else none
  | none => none
abbrev appS (i : Nat) (f : EF) : SF := methS i f appK
abbrev extS (i : Nat) (f : EF) : SF := methS i f extK
theorem es_app {cpos : Pos} (hN : X.N[i]? = some x) (hv : Vis X.env.scope x) (ha : Ev X G W e f) (hK : X.K = G.K)
    (hbase : attributeBase (.Name x px) "append" X.env (eval (.Name x px) X.env) = eval (.Name x px) X.env := by rfl)
    (hfew : ((backTo cpos (starEach [e] X.env)).all (fun x => !x.1) && (backToKw cpos (keywordEach [] X.env)).all (fun x => x.1.isSome) && decide ([e].length + ([] : List Keyword).length + (if ([] : List Keyword).isEmpty then 0 else 1) < 30)) = true := by rfl)
    (hline : (apos.endLine == cpos.line) = true := by rfl) (hs : starEach [e] X.env = (false, eval e X.env) :: starEach [] X.env := by rfl) (hplain : (backTo cpos (starEach [] X.env)).any (·.1) = false := by rfl)
    (hd : (x == ("__debug__" : Str)) = false := by decide) (hcd : (x == ("__classdict__" : Str)) = false := by decide)
    (hsw : swapsWith (.Call (.Attribute (.Name x px) "append" apos) [e] [] cpos) none pos.line X.env = pure false := by rfl) :
    Es X G W (.Expr (.Call (.Attribute (.Name x px) "append" apos) [e] [] cpos) pos) (appS i f) :=
  PS.imp (ps_expr (pe_bm PySem.F.plainAttrs_list PySem.F.slot_list_append PySem.F.type_list_append mt_append (pe_var hN hv hd hcd) (pa_cons ha pa_nil hs) hbase hfew hline hs hplain) hsw) fun E σ H q => by
    rw [hK]
    obtain ⟨M, r, h, δ, b, q⟩ := q
    refine meth_of (fun a w d M1 r1 h1 H1 ds vs es Q b1 q2 t l rv y put => ?_) b q
    unfold appK at y
    split at y
    · rename_i z
      cases y
      rw [Bool.and_eq_true, decide_eq_true_eq] at z
      have rp : Rep G.J M1 r1 d w := by
        cases d with
        | loc i => cases z.1
        | _ => exact rv
      exact ⟨a, vs, w, rfl, rfl, q2, by rw [t.length]; exact big_lt z.2, put _ (t.append (Reps.one rp)) (by rw [List.length_append]; simp; have := z.2; omega)⟩
    · cases y
theorem es_ext {cpos : Pos} (hN : X.N[i]? = some x) (hv : Vis X.env.scope x) (ha : Ev X G W e f) (hK : X.K = G.K)
    (hbase : attributeBase (.Name x px) "extend" X.env (eval (.Name x px) X.env) = eval (.Name x px) X.env := by rfl)
    (hfew : ((backTo cpos (starEach [e] X.env)).all (fun x => !x.1) && (backToKw cpos (keywordEach [] X.env)).all (fun x => x.1.isSome) && decide ([e].length + ([] : List Keyword).length + (if ([] : List Keyword).isEmpty then 0 else 1) < 30)) = true := by rfl)
    (hline : (apos.endLine == cpos.line) = true := by rfl) (hs : starEach [e] X.env = (false, eval e X.env) :: starEach [] X.env := by rfl) (hplain : (backTo cpos (starEach [] X.env)).any (·.1) = false := by rfl)
    (hd : (x == ("__debug__" : Str)) = false := by decide) (hcd : (x == ("__classdict__" : Str)) = false := by decide)
    (hsw : swapsWith (.Call (.Attribute (.Name x px) "extend" apos) [e] [] cpos) none pos.line X.env = pure false := by rfl) :
    Es X G W (.Expr (.Call (.Attribute (.Name x px) "extend" apos) [e] [] cpos) pos) (extS i f) :=
  PS.imp (ps_expr (pe_bm PySem.F.plainAttrs_list PySem.F.slot_list_extend PySem.F.type_list_extend mt_extend (pe_var hN hv hd hcd) (pa_cons ha pa_nil hs) hbase hfew hline hs hplain) hsw) fun E σ H q => by
    rw [hK]
    obtain ⟨M, r, h, δ, b, q⟩ := q
    refine meth_of (fun a w d M1 r1 h1 H1 ds vs es Q b1 q2 t l rv y put => ?_) b q
    unfold extK at y
    split at y
    · rename_i zs z
      split at y
      · rename_i l2
        cases y
        obtain ⟨c, us, rfl, q3, t3, _⟩ := b1.wr rv z
        exact ⟨a, c, vs, us, rfl, rfl, q2, q3, by rw [t.length, t3.length]; exact big_line l2, put _ (t.append t3) (by rw [List.length_append]; exact l2)⟩
      · cases y
    · cases y
/-- y = x.pop() -/
def popS (i j : Nat) : SF := fun δ h => match wrS i δ h with
  | some ds => match ds.getLast? with
    | some d => if isV d = true then .nx ((putS i δ h ds.dropLast).1.set j (.v d)) (putS i δ h ds.dropLast).2 else .bad
    | none => .bad
  | none => .bad
theorem Reps.dropLast {J : Jd} {ds : List D} {vs : List V} (t : Reps J M r ds vs) : Reps J M r ds.dropLast vs.dropLast := by
  rw [List.dropLast_eq_take, List.dropLast_eq_take, t.length]
  exact t.take _
theorem es_pop {y : Str} {py cpos : Pos} (hNd : X.N.Nodup) (hN : X.N[i]? = some x) (hv : Vis X.env.scope x) (hj : X.N[j]? = some y) (hy : Loc X.env.scope y) (hK : X.K = G.K)
    (hbase : attributeBase (.Name x px) "pop" X.env (eval (.Name x px) X.env) = eval (.Name x px) X.env := by rfl) (hline : (apos.endLine == cpos.line) = true := by rfl)
    (hd : (x == ("__debug__" : Str)) = false := by decide) (hcd : (x == ("__classdict__" : Str)) = false := by decide)
    (hsw : swapsWith (.Call (.Attribute (.Name x px) "pop" apos) [] [] cpos) (some (.Name y py)) pos.line X.env = pure false := by rfl) (hf : X.fn y = true ∨ X.env.scope.names.lookup y = some .local := by first | exact .inl rfl | exact .inr rfl | assumption) :
    Es X G W (.Assign [.Name y py] (.Call (.Attribute (.Name x px) "pop" apos) [] [] cpos) pos) (popS i j) :=
  PS.imp (ps_set hNd hj hy (pe_bm0 PySem.F.plainAttrs_list PySem.F.slot_list_pop PySem.F.type_list_pop mt_pop (pe_var hN hv hd hcd) hbase hline) hsw hf) fun E σ H q => by
    rw [hK]
    obtain ⟨M, r, h, δ, b, q⟩ := q
    unfold popS at q
    split at q
    · rename_i ds z
      split at q
      · rename_i d y
        split at q
        · rename_i iv
          obtain ⟨a, vs, e2, q2, t, l, wr⟩ := b.wrS z
          have hx : ds[ds.length - 1]? = some d := by rw [← List.getLast?_eq_getElem?]; exact y
          obtain ⟨v, ev, rp⟩ := t.get hx
          refine ⟨_, e2, .inl ⟨rfl, vs, .inl (.inl q2)⟩, a, vs, v, rfl, rfl, q2, by rw [t.length]; exact ev, ?_⟩
          have b2 := wr ds.dropLast vs.dropLast t.dropLast (by rw [List.length_dropLast]; omega)
          exact q.nxt (b2.put (i := j) rp)
        · exact q.elim
      · exact q.elim
    · exact q.elim
/-! ### xs[i] = e -/
def setiS (i : Nat) (fi fe : EF) : SF := fun δ h => (fe δ h).toS δ fun d h1 => if (wrS i δ h1).isSome = true then (fi δ h1).toS δ fun n h2 => match n with
  | .int k => match wrS i δ h2 with
    | some ds => match ixN ds.length k with
      | some j => if isV d = true then .nx (putS i δ h2 (ds.set j d)).1 (putS i δ h2 (ds.set j d)).2 else .bad
      | none => .bad
    | none => .bad
  | _ => .bad
else .bad
theorem es_seti {ei : Expr} {fi fe : EF} {spos : Pos} (hN : X.N[i]? = some x) (hv : Vis X.env.scope x) (hi : Ev X G W ei fi) (he : Ev X G W e fe)
    (hd : (x == ("__debug__" : Str)) = false := by decide) (hcd : (x == ("__classdict__" : Str)) = false := by decide)
    (ha : ∀ v, assign (.Subscript (.Name x px) ei spos) X.env v = (do
      let ov ← holding [v] (eval (.Name x px) X.env)
      let iv ← holding [v, ov] (eval ei X.env)
      standAt spos
      holding [v, ov, iv] (setItem ov iv v)
      release [v, ov, iv] []) := by intro _; rfl)
    (hs : swapsWithSole [.Subscript (.Name x px) ei spos] e pos.line X.env = pure false := by rfl) (hw : swappedStores [.Subscript (.Name x px) ei spos] e X.env = pure none := by rfl)
    (h1 : (assignEach [.Subscript (.Name x px) ei spos] X.env).map (·.2) = [assign (.Subscript (.Name x px) ei spos) X.env] := by rfl) :
    Es X G W (.Assign [.Subscript (.Name x px) ei spos] e pos) (setiS i fi fe) :=
  PS.imp (ps_asg he (pg_sub (pe_var hN hv hd hcd) hi set_list ha) hs hw h1) fun E σ H q => by
    obtain ⟨M, r, h, δ, b, q⟩ := q
    refine ⟨M, r, h, δ, b, (AfterS.expr (rl := rV G.J) b q).more fun v H1 ⟨d, M1, r1, h1, s1, b1, rv, q1⟩ => ?_⟩
    split at q1
    · rename_i hw
      obtain ⟨o, eo, _⟩ := recv_list b1 hw
      refine ⟨o, eo, M1, r1, h1, δ, b1, (AfterS.expr (rl := rV G.J) b1 q1).more fun w H2 ⟨n, M2, r2, h2, s2, b2, rn, q2⟩ => ?_⟩
      split at q2
      · rename_i k
        cases rn
        split at q2
        · rename_i ds z
          split at q2
          · rename_i j' y
            split at q2
            · rename_i iv
              obtain ⟨a, vs, e2, q3, t, l, wr⟩ := b2.wrS z
              rw [eo] at e2; cases e2
              have rp : Rep G.J M2 r2 d v := by
                have := RepV.mono s2.le s2.pre rv
                cases d with
                | loc i => cases iv
                | _ => exact this
              exact ⟨a, vs, k, j', rfl, rfl, q3, by rw [t.length]; exact y, q2.nxt (wr _ _ (t.set j' rp) (by rw [List.length_set]; exact l))⟩
            · exact q2.elim
          · exact q2.elim
        · exact q2.elim
      · exact q2.elim
    · exact q1.elim
/-! ### name = [.. for ..], the name a local -/
theorem es_ownLc {y : Str} {py spos : Pos} {elt iter : Expr} {ifs : List Expr} {scope : Scope} {own : List (Str × Nat)} {gi : DE → Bx → R (List D)} {ts : List Nat} {u : D → DE → Option DE} {tf : DE → Bx → R Bool} {ef : EF} (hc : X.calm = true) (hN : X.N.Nodup)
    (hy : X.N[i]? = some y) (hyl : X.env.scope.names.lookup y = some .local) (hsw : swapsWith (.ListComp elt [⟨tg, iter, ifs, 0⟩] scope pos) (some (.Name y py)) spos.line X.env = pure true)
    (hi : EvI X G W tg iter gi) (ok : BlkOk X.N X.env.scope scope own) (hts : ∀ i ∈ ts, i ∈ own.map (·.2))
    (hg : ∀ (s : Shared) (H : Hp) (C : Addr) (cl : List (Str × Addr)) (fp : List Addr), EvG (X.blk s H scope (compEnvC scope cl C X.env) fp) G tg ts u) (ht : ∀ (s : Shared) (H : Hp) (C : Addr) (cl : List (Str × Addr)) (fp : List Addr), EvTs (X.blk s H scope (compEnvC scope cl C X.env) fp) G W0 ifs tf)
    (he : ∀ (s : Shared) (H : Hp) (C : Addr) (cl : List (Str × Addr)) (fp : List Addr), Ev (X.blk s H scope (compEnvC scope cl C X.env) fp) G W0 elt ef) (hs : ∀ x, foldedSetIterable iter X.env x = pure x := by intro _; rfl) :
    Es X G W (.Assign [.Name y py] (.ListComp elt [⟨tg, iter, ifs, 0⟩] scope pos) spos) (ownS i (lcN gi (own.map (·.2)) u tf ef)) :=
  PS.imp (ps_setLc hc hN hy hyl hsw hi ok hg ht he hs) fun E σ H q => by
    obtain ⟨M, r, h, δ, b, q⟩ := q
    refine lc_of (G := G) (W := W) (u := u) (Q := fun x H1 => gName i x σ H1 E.nx) hts ⟨M, r, h, δ, b, ?_⟩
    unfold ownS at q
    cases e : lcN gi (own.map (·.2)) u tf ef δ h with
    | ok ds h1 =>
      rw [e] at q
      intro vs M' r' H' p s b' t z hp
      exact (AfterS.from s.le s.pre q).nxt (b'.own hp t z)
    | exc c fs h => rw [e] at q; exact fun C dd M' r' H' m s b e => q C dd M' r' σ H' m s.le s.pre b e
    | bad => rw [e] at q; exact q
end
end LP
/-! LpH: enumerate of a tuple, t[::-1]: at the library's level and as rules. -/
namespace LP
open PySem PySem.Spec PyProof.Rows L2 HT
open AutoSeq1 (wpAny_loadPart')
section
variable {prog : Program} {w : World} {A : Around} {E : Value → Shared → Prop} {s : Shared}
theorem fm_congr {α β : Type} {f g : α → Option β} : ∀ (l : List α), (∀ a ∈ l, f a = g a) → l.filterMap f = l.filterMap g
  | [], _ => rfl
  | a :: l, h => by
    rw [List.filterMap_cons, List.filterMap_cons, h a (List.mem_cons_self ..), fm_congr l fun b hb => h b (List.mem_cons_of_mem _ hb)]
theorem adjust_rev (n : Nat) : Builtin.Slice.sliceAdjust none none (-1) (n : Int) = ((n : Int) - 1, -1) := by
  unfold Builtin.Slice.sliceAdjust
  rfl
theorem places_rev (n : Nat) : Builtin.Slice.slicePlaces ((n : Int) - 1) (-1) (-1) = n := by
  unfold Builtin.Slice.slicePlaces
  have h1 : ¬ ((-1 : Int) > 0) := by omega
  simp only [h1, if_false]
  have e : (- -1 : Int) = 1 := by decide
  rw [e]
  simp only [Int.ediv_one]
  split <;> omega
theorem sliceApplied_rev {sl : Addr} {vk : Value} {n : Nat} {Q : Int × Int × Nat → Shared → Prop} (hs : s.heap.IsSliceOf sl .none .none vk) (pk : IsPart vk (some (-1)))
    (h : Q ((n : Int) - 1, -1, n) s) : wpAny (model prog w) A (Builtin.Slice.sliceApplied (.ref sl) (pure (n : Int))) Q E s := by
  obtain ⟨os, hos, hcs, hds⟩ := id hs
  unfold Builtin.Slice.sliceApplied Builtin.Slice.sliceFields
  refine wpAny_bind (wpAny_bind (wpAny_field hos hds (x := .none) rfl (wpAny_bind (wpAny_field hos hds (x := .none) rfl (wpAny_bind (wpAny_field hos hds (x := vk) rfl (wpAny_pure ?_)))))))
  refine wpAny_bind (slicePart_ pk ?_)
  show wpAny _ _ (if ((-1 : Int) == 0) = true then _ else _) _ _ s
  rw [if_neg (by decide)]
  refine wpAny_bind (slicePart_ .none (wpAny_bind (slicePart_ .none (wpAny_bind (wpAny_pure ?_)))))
  show wpAny _ _ (match Builtin.Slice.sliceAdjust none none (-1) (n : Int) with | (lo, hi) => pure (lo, (-1 : Int), Builtin.Slice.slicePlaces lo hi (-1))) _ _ s
  rw [adjust_rev n]
  show wpAny _ _ (pure ((n : Int) - 1, (-1 : Int), Builtin.Slice.slicePlaces ((n : Int) - 1) (-1) (-1))) _ _ s
  rw [places_rev]
  exact wpAny_pure h
theorem pick_rev (xs : Array Value) : ((List.range xs.size).filterMap fun (m : Nat) => xs[((xs.size : Int) - 1 + (m : Int) * (-1)).toNat]?).toArray = xs.toList.reverse.toArray := by
  have e : ((List.range xs.size).filterMap fun (m : Nat) => xs[((xs.size : Int) - 1 + (m : Int) * (-1)).toNat]?) = ((List.range xs.size).map fun k => xs.size - 1 - k).filterMap (xs[·]?) := by
    rw [List.filterMap_map]
    apply fm_congr
    intro m hm
    rw [List.mem_range] at hm
    show xs[_]? = xs[xs.size - 1 - m]?
    have : ((xs.size : Int) - 1 + (m : Int) * (-1)).toNat = xs.size - 1 - m := by omega
    rw [this]
  rw [e, PySem.W.krv_range, List.filterMap_reverse, PySem.W.krv_all]
theorem getItem_tuple_rev {t sl : Addr} {items : Array Value} {vk : Value} {Q : Value → Shared → Prop} (ht : IsTup s.heap t items) (hs : s.heap.IsSliceOf sl .none .none vk) (pk : IsPart vk (some (-1)))
    (h : Q (.ref s.heap.objs.size) { s with heap := s.heap.push { cls := .type "tuple", data := .seq items.toList.reverse.toArray } })
    (hsz : items.size ≤ sizeLine) : wpAny (model prog w) A (getItem (.ref t) (.ref sl)) Q E s := by
  have htake : sizeOk (.seq items.toList.reverse.toArray) := by
    show items.toList.reverse.toArray.size ≤ sizeLine
    rw [List.size_toArray, List.length_reverse, Array.length_toList]
    exact hsz
  obtain ⟨os, hos, hcs, hds⟩ := id hs
  have hTs : s.TypeIs (.ref sl) "slice" := ⟨os, hos, hcs⟩
  unfold getItem
  try with_reducible refine wpAny_holding ?_
  first | refine wpAny_bind (wpAny_pure ?_) | skip
  refine wpAny_bind (wpAny_sequenceKey ht.typeIs (by decide) ?_)
  refine wpAny_bind (wpAny_callSpecial?_slot (name := Str.ofString "__getitem__") ht.typeIs PyProof.Rows.slot_tuple_getitem
    (wpAny_call_entry PyProof.Rows.slot_tuple_getitem ht.typeIs entry_tuple_getitem ?_ (args_tuple_getitem _ _)))
  show wpAny _ _ (Builtin.Tuple.tupleItemsOf (.ref t) >>= _) _ _ s
  refine wpAny_bind (tupleItemsOf_ ht ?_)
  refine wpAny_bind (wpAny_typeOf hTs ?_)
  rw [if_pos (by decide)]
  refine wpAny_bind (sliceApplied_rev hs pk ?_)
  have hno : ¬ ((((items.size : Int) - 1) == 0 && (-1 : Int) == 1 && items.size == items.size) = true) := by
    rw [Bool.and_eq_true, Bool.and_eq_true]
    exact fun q => absurd q.1.2 (by decide)
  show wpAny _ _ (if (((items.size : Int) - 1) == 0 && (-1 : Int) == 1 && items.size == items.size) = true then _ else _) _ _ s
  rw [if_neg hno, pick_rev]
  first
    | exact wpAny_bind (m := Builtin.Tuple.tupleExact _) (wpAny_newObj_type (wpAny_pure ⟨_, rfl, wpAny_pure h⟩) htake)
    | exact wpAny_bind (m := Builtin.Tuple.tupleExact _) (wpAny_newObj_type (wpAny_bind (wpAny_pure (wpAny_pure ⟨_, rfl, wpAny_pure h⟩))) htake)
    | exact wpAny_bind (wpAny_bind (m := Builtin.Tuple.tupleExact _) (wpAny_newObj_type (wpAny_pure (wpAny_pure ⟨_, rfl, wpAny_pure h⟩)) htake))
    | exact wpAny_bind (wpAny_bind (m := Builtin.Tuple.tupleExact _) (wpAny_newObj_type (wpAny_pure ⟨_, rfl, wpAny_pure h⟩) htake))
end
/-- x[::-1], x a list or a tuple -/
def tRevA (K : PySem.W.Frag) (te : TE) : TE := fun σ H Q => te σ H fun x H1 => ∃ a xs, x = .ref a ∧ ((SqL K H1 a xs ∧ ∀ p, H1 p = none → Q (.ref p) (upd H1 p (.lst xs.reverse))) ∨ (SqT K H1 a xs ∧ ∀ p, H1 p = none → Q (.ref p) (upd H1 p (.tup xs.reverse))))
theorem pe_revA {X : Cx} {e : Expr} {te : TE} {k : Nat} {p1 p2 p3 pos : Pos} (he : PE X e te) : PE X (.Subscript e (.Slice none none (some (.UnaryOp .USub (.Constant (.int 1) k p1) p2)) p3) pos) (tRevA X.K te) := by
  refine ⟨fun pins s σ H Q I h => ?_⟩
  refine Subscript_ (thn (he.run pins s σ H _ I h) fun v s1 ⟨x, H1, I1, r1, q1⟩ => ?_)
  obtain ⟨a, xs, ex, hx⟩ := q1
  subst ex
  cases r1
  have hst : PO X (some (.UnaryOp .USub (.Constant (.int 1) k p1) p2)) (tPart (tUn (rU fun i => .int (-i)) (tC (.int 1)))) := po_some (pe_un un_neg pe_int)
  refine wpAny_Slice (thn (po_none.run pins s1 σ H1 (fun o H2 => o = none ∧ H2 = H1) I1 ⟨rfl, rfl⟩) fun vl s2 ⟨l, H2, I2, pl, el, e2⟩ => ?_)
  subst el e2
  refine thn (po_none.run pins s2 σ H2 (fun o H3 => o = none ∧ H3 = H2) I2 ⟨rfl, rfl⟩) fun vu s3 ⟨u, H3, I3, pu, eu, e3⟩ => ?_
  subst eu e3
  refine thn (hst.run pins s3 σ H3 (fun o H4 => o = some (-1) ∧ H4 = H3) I3 ⟨1, rfl, -1, rfl, rfl, rfl⟩) fun vs s4 ⟨o, H4, I4, ps, eo, e4⟩ => ?_
  subst eo e4
  have I5 : Inv X pins σ H4 { s4 with heap := s4.heap.push { cls := .type "slice", data := .fields #[vl, vu, vs] } } := I4.kept (t' := s4.toks) fun b ob q => Heap.get?_push_of_some _ q
  show wpAny (model X.prog X.w) X.A (subscriptTail e (.Slice none none (some (.UnaryOp .USub (.Constant (.int 1) k p1) p2)) p3) (.ref a) (.ref s4.heap.objs.size)) (EP X pins σ Q) X.xe { s4 with heap := s4.heap.push { cls := .type "slice", data := .fields #[vl, vu, vs] } }
  rcases hx with ⟨hx, q⟩ | ⟨hx, q⟩
  · obtain ⟨its, r, ht, hz⟩ := I5.list hx
    have hlen := r.length
    refine tail_any (ops := [.ref a, .ref s4.heap.objs.size]) ht.isList.typeIs (PySem.slot_list_getitem.lookup) ?_ (by with_unfolding_all rfl)
    refine wpAny_getItem_list_slice ht.isList (Heap.IsSliceOf.new _ vl vu vs) pl pu ps (by decide) ?_ (by rw [List.size_toArray]; omega)
    rw [PySem.W.krv_pick]
    refine ⟨.ref _, _, I5.laid (t' := s4.toks) (o := .lst xs.reverse) (fun b ob q => Heap.get?_push_of_some _ q) (Nat.le_refl _) ?_, rfl, q _ (I5.hok.fresh (Nat.le_refl _))⟩
    exact ⟨by rw [List.length_reverse]; exact hz, _, 0, r.reverse, Heap.get?_push_size _ rfl⟩
  · obtain ⟨its, r, ht, hz⟩ := I5.tuple hx
    have hlen := r.length
    cases pl; cases pu
    refine tail_any (ops := [.ref a, .ref s4.heap.objs.size]) ht.typeIs PyProof.Rows.slot_tuple_getitem.lookup ?_ (by with_unfolding_all rfl)
    refine getItem_tuple_rev ht (Heap.IsSliceOf.new _ .none .none vs) ps ?_ (by rw [List.size_toArray]; omega)
    refine ⟨.ref _, _, I5.laid (t' := s4.toks) (o := .tup xs.reverse) (fun b ob q => Heap.get?_push_of_some _ q) (Nat.le_refl _) ?_, rfl, q _ (I5.hok.fresh (Nat.le_refl _))⟩
    exact ⟨by rw [List.length_reverse]; exact hz, _, r.reverse, IsTup.new _ _⟩
/-! ### enumerate(tuple) -/
section
variable {prog : Program} {w : World} {A : Around} {E : Value → Shared → Prop} {s : Shared}
theorem enumT_next_item {e it l : Addr} {i : Nat} {items : Array Value} {x old : Value} {Q : Value → Shared → Prop}
    (he : IsEnum s.heap e it i old) (hit : s.heap.IsTupleIter it l i) (hl : s.heap.IsTuple l items) (hx : items[i]? = some x) (hne : e ≠ it)
    (hQ : ∀ h', IsEnumOut h' e it ((i : Int) + 1) x s.heap.objs.size → h'.IsTupleIter it l (i + 1) →
      h'.get? s.heap.objs.size = some { cls := .type "tuple", data := .seq #[.int i s.toks, x] } → h'.objs.size = s.heap.objs.size + 1 →
      (∀ b o, b ≠ e → b ≠ it → s.heap.get? b = some o → h'.get? b = some o) → Q (.ref s.heap.objs.size) { s with heap := h', toks := s.toks + 1 }) :
    wpAny (model prog w) A (Builtin.«enumerate.__next__» ⟨[.ref e], []⟩) (fun fin s' => ∃ v, fin = .done (.ret v) ∧ Q v s') E s := by
  obtain ⟨hp, g, d, tk, os⟩ := s
  show wpAny _ _ (field (.ref e) 2 >>= _) _ _ _
  refine wpAny_bind (wpAny_field he rfl (x := .ref it) rfl ?_)
  refine wpAny_bind (RZ.nextOf_tuple_item hit hl hx fun h₁ hit₁ hs₁ => ?_)
  replace hs₁ : Heap.SameBut it hp h₁ := hs₁
  have he₁ : IsEnum h₁ e it i old := (hs₁.2 e hne).trans he
  show wpAny _ _ (field (.ref e) 3 >>= _) _ _ ⟨h₁, g, d, tk, os⟩
  refine wpAny_bind (wpAny_field he₁ rfl (x := rawInt i) rfl ?_)
  show wpAny _ _ (field (.ref e) 4 >>= _) _ _ ⟨h₁, g, d, tk, os⟩
  refine wpAny_bind (wpAny_field he₁ rfl (x := .none) rfl ?_)
  show wpAny _ _ (mkInt i >>= _) _ _ ⟨h₁, g, d, tk, os⟩
  refine wpAny_bind (wpAny_mkInt ?_)
  show wpAny _ _ (setField (.ref e) 3 (rawInt ((i : Int) + 1)) >>= _) _ _ ⟨h₁, g, d, tk + 1, os⟩
  refine wpAny_bind (wpAny_setField_rec he₁ (by simp) fun h₂ he₂ hs₂ => ?_)
  replace hs₂ : Heap.SameBut e h₁ h₂ := hs₂
  replace he₂ : IsEnum h₂ e it ((i : Int) + 1) old := he₂
  show wpAny _ _ (setField (.ref e) 4 .none >>= _) _ _ ⟨h₂, g, d, tk + 1, os⟩
  refine wpAny_bind (wpAny_setField_rec he₂ (by simp) fun h₃ he₃ hs₃ => ?_)
  replace hs₃ : Heap.SameBut e h₂ h₃ := hs₃
  replace he₃ : IsEnum h₃ e it ((i : Int) + 1) old := he₃
  show wpAny _ _ (newTuple [.int i tk, x] >>= _) _ _ ⟨h₃, g, d, tk + 1, os⟩
  refine wpAny_bind (wpAny_newTuple ?_)
  have he₄ : IsEnum (h₃.push { cls := .type "tuple", data := .seq #[.int i tk, x] }) e it ((i : Int) + 1) old := Heap.get?_push_of_some _ he₃
  generalize hh₄ : h₃.push { cls := .type "tuple", data := .seq #[.int i tk, x] } = h₄ at he₄
  have hsz : h₃.objs.size = hp.objs.size := by rw [hs₃.1, hs₂.1, hs₁.1]
  have hel : e < hp.objs.size := Heap.lt_size he
  have ht₄ : h₄.get? hp.objs.size = some { cls := .type "tuple", data := .seq #[.int i tk, x] } := by rw [← hh₄, ← hsz]; exact Heap.get?_push_size _ rfl
  have hz₄ : h₄.objs.size = hp.objs.size + 1 := by rw [← hh₄, Heap.size_push, hsz]
  have hk₄ : ∀ b o, b ≠ e → b ≠ it → hp.get? b = some o → h₄.get? b = some o := fun b o hbe hbi hb => by
    rw [← hh₄]; exact Heap.get?_push_of_some _ (hs₃.extBut b o hbe (hs₂.extBut b o hbe (hs₁.extBut b o hbi hb)))
  have hit₄ : h₄.IsTupleIter it l (i + 1) := by
    rw [← hh₄]; obtain ⟨o, ho, r⟩ := (hit₁.extBut hs₂.extBut (Ne.symm hne)).extBut hs₃.extBut (Ne.symm hne); exact ⟨o, Heap.get?_push_of_some _ ho, r⟩
  show wpAny _ _ (Builtin.SmallTypes.ownedTupleIsFree (.ref e) >>= _) _ _ ⟨h₄, g, d, tk + 1, os⟩
  rw [hsz]
  clear hh₄ he₃ hs₃ he₂ hs₂ he₁ hs₁ hit₁ hsz h₃ h₂ h₁
  refine wpAny_bind ?_
  · unfold Builtin.SmallTypes.ownedTupleIsFree
    refine wpAny_bind (wpAny_field he₄ rfl (x := .none) rfl (wpAny_pure ?_))
    simp only [if_true]
    refine wpAny_bind (wpAny_rule ?_)
    refine wpAny_bind (wpAny_field he₄ rfl (x := old) rfl ?_)
    refine wpAny_bind (wpAny_setField_rec he₄ (by simp) fun h₅ he₅ hs₅ => ?_)
    replace hs₅ : Heap.SameBut e h₄ h₅ := hs₅
    replace he₅ : IsEnum h₅ e it ((i : Int) + 1) x := he₅
    show wpAny _ _ (Builtin.SmallTypes.ownedTupleHandOut (.ref e) (.ref hp.objs.size) >>= _) _ _ ⟨h₅, g, d, tk + 1, os⟩
    refine wpAny_bind ?_
    · unfold Builtin.SmallTypes.ownedTupleHandOut
      refine wpAny_bind (wpAny_setField_rec he₅ (by simp) fun h₆ he₆ hs₆ => ?_)
      replace hs₆ : Heap.SameBut e h₅ h₆ := hs₆
      replace he₆ : IsEnumOut h₆ e it ((i : Int) + 1) x hp.objs.size := he₆
      refine wpAny_setField_rec he₆ (by simp) fun h₇ he₇ hs₇ => ?_
      replace hs₇ : Heap.SameBut e h₆ h₇ := hs₇
      replace he₇ : IsEnumOut h₇ e it ((i : Int) + 1) x hp.objs.size := he₇
      refine wpAny_bind (wpAny_letGo (wpAny_pure ⟨_, rfl, hQ h₇ he₇ ?_ ?_ ?_ ?_⟩))
      · exact ((hit₄.extBut hs₅.extBut (Ne.symm hne)).extBut hs₆.extBut (Ne.symm hne)).extBut hs₇.extBut (Ne.symm hne)
      · exact hs₇.extBut _ _ (Nat.ne_of_gt hel) (hs₆.extBut _ _ (Nat.ne_of_gt hel) (hs₅.extBut _ _ (Nat.ne_of_gt hel) ht₄))
      · rw [hs₇.1, hs₆.1, hs₅.1, hz₄]
      · exact fun b o hbe hbi hb => hs₇.extBut b o hbe (hs₆.extBut b o hbe (hs₅.extBut b o hbe (hk₄ b o hbe hbi hb)))
theorem pyNext_enumT_item {e it l : Addr} {i : Nat} {items : Array Value} {x old : Value} {Q : Option Value → Shared → Prop}
    (he : IsEnum s.heap e it i old) (hit : s.heap.IsTupleIter it l i) (hl : s.heap.IsTuple l items) (hx : items[i]? = some x) (hne : e ≠ it)
    (hQ : ∀ h', IsEnumOut h' e it ((i : Int) + 1) x s.heap.objs.size → h'.IsTupleIter it l (i + 1) →
      h'.get? s.heap.objs.size = some { cls := .type "tuple", data := .seq #[.int i s.toks, x] } → h'.objs.size = s.heap.objs.size + 1 →
      (∀ b o, b ≠ e → b ≠ it → s.heap.get? b = some o → h'.get? b = some o) → Q (some (.ref s.heap.objs.size)) { s with heap := h', toks := s.toks + 1 }) :
    wpAny (model prog w) A (pyNext (.ref e)) Q E s := by
  have hT : s.TypeIs (.ref e) "enumerate" := ⟨_, he, rfl⟩
  unfold pyNext
  exact wpAny_bind (wpAny_attempt (wpAny_callSpecial?_slot (name := Str.ofString "__next__") hT F.slot_enumerate_next
    (wpAny_call_entry F.slot_enumerate_next hT F.entry_enumerate_next
      (enumT_next_item he hit hl hx hne fun h' a b c d k => wpAny_pure (hQ h' a b c d k)) (F.args_enumerate_next_1 _))))
theorem pyNext_enumT_end {e it l : Addr} {i : Nat} {items : Array Value} {old : Value} {Q : Option Value → Shared → Prop} (hh : A.handled = none)
    (he : IsEnum s.heap e it i old) (hit : s.heap.IsTupleIter it l i) (hl : s.heap.IsTuple l items) (hx : items[i]? = none)
    (hQ : ∀ h', Heap.ExtBut it s.heap h' → Q none { s with heap := h' }) : wpAny (model prog w) A (pyNext (.ref e)) Q E s := by
  have hT : s.TypeIs (.ref e) "enumerate" := ⟨_, he, rfl⟩
  unfold pyNext
  refine wpAny_bind (wpAny_attempt (wpAny_callSpecial?_slot (name := Str.ofString "__next__") hT F.slot_enumerate_next
    (wpAny_call_entry F.slot_enumerate_next hT F.entry_enumerate_next ?_ (F.args_enumerate_next_1 _))))
  show wpAny _ _ (field (.ref e) 2 >>= _) _ _ _
  refine wpAny_bind (wpAny_field he rfl (x := .ref it) rfl ?_)
  refine wpAny_bind (RZ.nextOf_tuple_end hh hit hl hx fun h' x he' hx' => ?_)
  obtain ⟨o, ho, hc⟩ := hx'
  refine wpAny_bind (wpAny_isInstance (T := "StopIteration") (b := true) ⟨o, ho, hc⟩ isSubtype_stop ?_)
  exact wpAny_pure (hQ _ he')
theorem meets_enumerate_newT (l : Addr) (items : Array Value) :
    Meets (Builtin.«enumerate.__new__» ⟨[.type "enumerate", .ref l], []⟩) (fun _ R s => s.heap.IsTuple l items ∧
      R (.ok (.ret (.ref (s.heap.push { cls := .type "tuple_iterator", data := .fields #[.ref l, .int 0 0] }).objs.size)))
        { s with heap := (s.heap.push { cls := .type "tuple_iterator", data := .fields #[.ref l, .int 0 0] }).push { cls := .type "enumerate", data := .fields #[.none, .bool false, .ref s.heap.objs.size, rawInt 0, .none, .none] } }) :=
  .of_wp fun prog w A R s h => by
    obtain ⟨hp, g, d, tk, os⟩ := s; obtain ⟨hl, h⟩ := h
    have hsub := sub_enumerate
    have hL : Heap.IsTuple (Shared.heap ⟨hp, g, d, tk, os⟩) l items := hl
    wp_walk using wpAny_pyIter_tuple hL
    refine wpAny_stack_any fun st => wpAny_pure ?_
    split
    · rename_i c _ _ _ _ _
      cases (c == Value.type "enumerate")
      · wp_walk using wpAny_pyIter_tuple hL
        exact ⟨_, rfl, h⟩
      · wp_walk using wpAny_pyIter_tuple hL
        exact ⟨_, rfl, h⟩
    · wp_walk using wpAny_pyIter_tuple hL
      exact ⟨_, rfl, h⟩
theorem call_enumerate_tup {l : Addr} {items : Array Value} {Q : Value → Shared → Prop} (hL : s.heap.IsTuple l items)
    (h : ∀ h', IsEnum h' (s.heap.objs.size + 1) s.heap.objs.size 0 .none → h'.IsTupleIter s.heap.objs.size l 0 → h'.objs.size = s.heap.objs.size + 2 →
      (∀ b o, s.heap.get? b = some o → h'.get? b = some o) → Q (.ref (s.heap.objs.size + 1)) { s with heap := h' }) :
    wpAny (model prog w) A (call (.type "enumerate") [.ref l]) Q E s := by
  refine callType_new F.called_enumerate (by decide) (F.typeCall_enumerate_1 _) (F.newCall_enumerate_1 _) (fun obj => F.args_object_init_2 obj _) F.entry_enumerate_new
    (meets_enumerate_newT l items) ⟨hL, ?_⟩
  have hz : (s.heap.push { cls := .type "tuple_iterator", data := .fields #[.ref l, .int 0 0] }).objs.size = s.heap.objs.size + 1 := Heap.size_push ..
  show _ ∧ _
  rw [hz]
  have he : IsEnum ((s.heap.push { cls := .type "tuple_iterator", data := .fields #[.ref l, .int 0 0] }).push
      { cls := .type "enumerate", data := .fields #[.none, .bool false, .ref s.heap.objs.size, rawInt 0, .none, .none] }) (s.heap.objs.size + 1) s.heap.objs.size 0 .none := by
    have := Heap.get?_push_size (s.heap.push { cls := .type "tuple_iterator", data := .fields #[.ref l, .int 0 0] })
      (o := { cls := .type "enumerate", data := .fields #[.none, .bool false, .ref s.heap.objs.size, rawInt 0, .none, .none] }) rfl
    rw [hz] at this; exact this
  refine ⟨⟨_, he, rfl⟩, h _ he ⟨_, Heap.get?_push_of_some _ (Heap.get?_push_size _ rfl), rfl, rfl⟩ (by rw [Heap.size_push, hz]) fun b o x => Heap.get?_push_of_some _ (Heap.get?_push_of_some _ x)⟩
end
/-- the tuple at a, each item in a new pair -/
def IteT (K : PySem.W.Frag) (a : Addr) : It :=
  ⟨fun i H => ∃ (xs : List V) (x : V), SqT K H a xs ∧ xs[i]? = some x, fun i H v H' => ∃ T x, v = .ref T ∧ H T = none ∧ H' = upd H T (.tup [.int (i : Nat), x]) ∧ ∀ xs, SqT K H a xs → xs[i]? = some x, fun i H => ∃ xs : List V, SqT K H a xs ∧ xs.length ≤ i⟩
theorem turn_enumT {P : Program} {w : World} {K : PySem.W.Frag} {elts : List Expr} {kk : Nat} {tpos : Pos} (a e it : Addr) :
    Turn P w K (.Tuple elts kk tpos) (IteT K a) [e, it] e (fun i h => (∃ old, IsEnum h e it ((i : Nat) : Int) old) ∧ h.IsTupleIter it a i ∧ e ≠ it) where
  mem := by simp
  obj := fun i h st b hb => by
    obtain ⟨⟨old, he⟩, ⟨o, ho, hc, hd⟩, _⟩ := st
    have e' : b = e ∨ b = it := by simpa using hb
    rcases e' with z | z
    · rw [z]; exact ⟨_, he, fun v q => nomatch q⟩
    · rw [z]; exact ⟨o, ho, fun v q => by rw [hd] at q; cases q⟩
  keep := fun i h h' st k => let ⟨⟨old, he⟩, hi, hne⟩ := st; ⟨⟨old, k e (by simp) _ he⟩, hi.at fun o q => k it (by simp) o q, hne⟩
  item := by
    intro X hP hw hK hc i pins s σ H E I hf st hg
    subst hP hw hK
    obtain ⟨⟨old, he⟩, hit, hne⟩ := st
    obtain ⟨xs, x, hq, hx⟩ := hg
    obtain ⟨its, rv, p, hz⟩ := I.tuple hq
    obtain ⟨u, hu, ru⟩ := rv.get hx
    have hel : e < s.heap.objs.size := Heap.lt_size he
    have hil : it < s.heap.objs.size := by obtain ⟨_, q, _⟩ := hit; exact Heap.lt_size q
    refine pyNext_enumT_item he hit p (x := u) (by simpa using hu) hne fun h' ho hit' hT hsz hk => ?_
    refine ⟨_, rfl, wpAny_letOwnedTupleGo_enum (s := { s with heap := h', toks := s.toks + 1 }) ho fun h'' he' sb => ?_⟩
    have hT2 : h''.get? s.heap.objs.size = some { cls := .type "tuple", data := .seq #[.int i s.toks, u] } := (sb.2 _ (Nat.ne_of_gt hel)).trans hT
    have new : ObjOk X.prog X.w (upd H s.heap.objs.size (.tup [.int (i : Nat), x])) h'' s.heap.objs.size (.tup [.int (i : Nat), x]) :=
      ⟨by show 2 ≤ sizeLine; decide, [.int i s.toks, u], .cons ⟨_, rfl⟩ (.cons ru .nil), ⟨_, hT2, rfl, _, rfl⟩⟩
    have I1 : Inv X pins σ (upd H s.heap.objs.size (.tup [.int (i : Nat), x])) { s with heap := h'', toks := s.toks + 1 } :=
      I.turnedNew (ch := [e, it]) (fun b ob hb q => (sb.2 b (fun z => hb (by simp [z]))).trans (hk b ob (fun z => hb (by simp [z])) (fun z => hb (by simp [z])) q)) hf (Nat.le_refl _) new
    refine ⟨.ref s.heap.objs.size, _, I1, rfl, ⟨_, x, rfl, I.hok.fresh (Nat.le_refl _), rfl, fun ys hy => by rw [I.tuple_inj hy hq]; exact hx⟩, ⟨⟨u, ?_⟩, hit'.at fun o q => (sb.2 it (Ne.symm hne)).trans q, hne⟩, fun b hb => ?_⟩
    · have e1 : ((i + 1 : Nat) : Int) = (i : Int) + 1 := by omega
      rw [e1]; exact he'
    · have hb' : b < s.heap.objs.size := by
        have e' : b = e ∨ b = it := by simpa using hb
        rcases e' with z | z
        · rw [z]; exact hel
        · rw [z]; exact hil
      rw [upd_ne (Nat.ne_of_lt hb')]
      exact (hf b hb).1
  done := by
    intro X hP hw hK hc i pins s σ H E I hf st hg
    subst hP hw hK
    obtain ⟨⟨old, he⟩, hit, hne⟩ := st
    obtain ⟨xs, hq, hx⟩ := hg
    obtain ⟨its, rv, p, hz⟩ := I.tuple hq
    obtain ⟨f0, f1, f2, f3, f4, f5⟩ := hf it (by simp)
    have hl := rv.length
    exact pyNext_enumT_end (I.ok.hd hc) he hit p (by simp; omega) fun h' eb => ⟨rfl, I.turned (t' := s.toks) (fun b o hb q => eb b o hb q) f0 f1 f3 f4 f5⟩
  self := fun A i s Q E st h => let ⟨⟨_, he⟩, _⟩ := st; wpAny_pyIter_enum he h
def iEnumA (K : PySem.W.Frag) (ta : TA) : TI := fun σ H R => ta σ H fun vs H1 => ∃ a xs, vs = [.ref a] ∧ ((SqL K H1 a xs ∧ R (Ite K a) H1) ∨ (SqT K H1 a xs ∧ R (IteT K a) H1))
theorem pi_enumA {X : Cx} {e : Expr} {ta : TA} {p pos tpos : Pos} {elts : List Expr} {kk : Nat} (hg : Gl X "enumerate") (hm : X.mg "enumerate" = none) (ha : PA X [e] ta) (hs : starEach [e] X.env = [(false, eval e X.env)] := by rfl) :
    PI X (.Tuple elts kk tpos) (.Call (.Name "enumerate" p) [e] [] pos) (iEnumA X.K ta) := by
  refine ⟨fun pins s σ H R I h => ?_⟩
  refine Call_ (ld_blt I hg hm boot_enumerate (PyProof.Rows.callWith_type1 (thn (ha.run pos pins s σ H _ I h) fun us s1 ⟨vs, H1, I1, r1, q1⟩ => ?_) hs rfl))
  obtain ⟨a, xs, ex, q1⟩ := q1
  subst ex
  cases r1 with
  | cons r rr =>
    cases rr
    cases r
    have fp : ∀ {b : Addr}, b ∈ [s1.heap.objs.size + 1, s1.heap.objs.size] → s1.heap.objs.size ≤ b := fun {b} hb => by
      have e' : b = s1.heap.objs.size + 1 ∨ b = s1.heap.objs.size := by simpa using hb
      rcases e' with z | z
      · rw [z]; exact Nat.le_add_right _ _
      · rw [z]; exact Nat.le_refl _
    rcases q1 with ⟨hq, q⟩ | ⟨hq, q⟩
    · obtain ⟨its, rv, p', hz⟩ := I1.list hq
      refine call_enumerate_list p'.isList fun h' he hit hsz hk => wpAny_pyIter_enum he ?_
      have I2 : Inv X pins σ H1 { s1 with heap := h' } := I1.kept (t' := s1.toks) hk
      exact ⟨s1.heap.objs.size + 1, [s1.heap.objs.size + 1, s1.heap.objs.size], _, _, H1, rfl, I2, turn_enum a (s1.heap.objs.size + 1) s1.heap.objs.size, ⟨⟨.none, he⟩, hit, Nat.succ_ne_self _⟩, fun b hb => I1.fpOk (fp hb) (I1.hok.fresh (fp hb)), q⟩
    · obtain ⟨its, rv, p', hz⟩ := I1.tuple hq
      refine call_enumerate_tup p' fun h' he hit hsz hk => wpAny_pyIter_enum he ?_
      have I2 : Inv X pins σ H1 { s1 with heap := h' } := I1.kept (t' := s1.toks) hk
      exact ⟨s1.heap.objs.size + 1, [s1.heap.objs.size + 1, s1.heap.objs.size], _, _, H1, rfl, I2, turn_enumT a (s1.heap.objs.size + 1) s1.heap.objs.size, ⟨⟨.none, he⟩, hit, Nat.succ_ne_self _⟩, fun b hb => I1.fpOk (fp hb) (I1.hok.fresh (fp hb)), q⟩
theorem walk_enumT {K : PySem.W.Frag} {a : Addr} {xs : List V} : Walk (IteT K a) xs.length (fun H => SqT K H a xs) (YPair (fun i => some (.int (i : Nat))) (fun i => xs[i]?)) := by
  refine ⟨fun i _ hi q => ⟨xs, xs[i], q, by simp [hi]⟩, fun _ q => ⟨xs, q, Nat.le_refl _⟩, fun i H v H' _ q y => ?_⟩
  obtain ⟨T, x, h1, h2, h3, h4⟩ := y
  exact ⟨T, .int (i : Nat), x, h1, h2, h3, rfl, h4 xs q⟩
section
variable {X : Cx} {G : Cfg} {W : WX} {σ : L2.St} {δ : DE} {M M' M1 M2 : Imm} {r r' r1 r2 : List Addr} {h h' h1 h2 : Bx} {H H' H1 H2 : Hp} {E : Ends}
variable {e c : Expr} {f g : EF} {tg : Expr} {fs : DE → Bx → R (List D)} {pos : Pos}
/-- x[::-1] -/
def revK (d : D) (δ : DE) (h : Bx) : R D := match d with
  | .tup ds => .ok (.tup ds.reverse) h
  | d => match lstOf δ h d with
    | some ds => .ok (.lst ds.reverse) h
    | none => .bad
def revF (f : EF) : EF := fun δ h => (f δ h).bind fun d h1 => revK d δ h1
theorem Reps.rev {J : Jd} {ds : List D} {vs : List V} (t : Reps J M r ds vs) : Reps J M r ds.reverse vs.reverse := by
  induction ds generalizing vs with
  | nil => cases t; rfl
  | cons d ds ih =>
    obtain ⟨v, vt, rfl, e1, e2⟩ := t
    rw [List.reverse_cons, List.reverse_cons]
    exact (ih e2).append (Reps.one e1)
theorem ev_rev {k : Nat} {p1 p2 p3 : Pos} (ha : Ev X G W e f) (hK : X.K = G.K) : Ev X G W (.Subscript e (.Slice none none (some (.UnaryOp .USub (.Constant (.int 1) k p1) p2)) p3) pos) (revF f) :=
  PE.imp (pe_revA ha) fun σ H Q q => by
    rw [hK]
    obtain ⟨M, r, h, δ, b, q⟩ := q
    refine ⟨M, r, h, δ, b, (After.bind q).more fun x H1 ⟨d, M1, r1, h1, s1, b1, rx, q1⟩ => ?_⟩
    unfold revK at q1
    split at q1
    · rename_i ds
      obtain ⟨a, vs, rfl, m, t⟩ := rx
      exact ⟨a, vs, rfl, .inr ⟨sqT_of b1 m, tup_new b1 t.rev (by rw [List.length_reverse, ← t.length]; exact tup_big b1 m) q1⟩⟩
    · split at q1
      · rename_i ds z
        obtain ⟨a, vs, rfl, hs, t, l⟩ := b1.lst rx z
        exact ⟨a, vs, rfl, .inl ⟨hs, lst_new b1 t.rev (by rw [List.length_reverse]; exact l) q1⟩⟩
      · exact q1.elim
/-- enumerate -/
def enumD (ds : List D) : List D := (List.range ds.length).map fun i => .tup [.int (i : Nat), ds.getD i .non]
def enumK (ds : List D) (_ : DE) (h : Bx) : R (List D) := match ds with
  | [d] => match immOf d with
    | some es => .ok (enumD es) h
    | none => .bad
  | _ => .bad
theorem evi_enum {p tpos : Pos} {elts : List Expr} {kk : Nat} (hg : Gl X "enumerate") (hm : X.mg "enumerate" = none) (ha : EvA X G W [e] fs) (hK : X.K = G.K) (hs : starEach [e] X.env = [(false, eval e X.env)] := by rfl) :
    EvI X G W (.Tuple elts kk tpos) (.Call (.Name "enumerate" p) [e] [] pos) (fun δ h => (fs δ h).bind fun ds h1 => enumK ds δ h1) := PI.imp (pi_enumA hg hm ha hs) fun σ H Q q => by
  rw [hK]
  obtain ⟨M, r, h, δ, b, q⟩ := q
  refine ⟨M, r, h, δ, b, (AfterI.bind (rl := rVs G.J δ σ) q).more fun vs H1 ⟨ds, M1, r1, h1, s1, b1, rv, q1⟩ => ?_⟩
  unfold enumK at q1
  split at q1
  · rename_i d
    obtain ⟨v, rfl, rx⟩ := one_rep rv
    split at q1
    · rename_i es z
      cases d with
      | tup ds =>
        cases z
        obtain ⟨a, us, rfl, m, t⟩ := rx
        refine ⟨a, us, rfl, .inr ⟨sqT_of b1 m, q1 _ M1 r1 H1 Stp.refl b1 ?_⟩⟩
        exact good_pair (as := fun i => .int (i : Nat)) (bs := fun i => es.getD i .non) (by rw [← t.length]; exact walk_enumT) (fun M' r' h δ σ H le pr b' => sqT_of b' (m.imp (le _ _) id)) fun i x y _ e1 e2 => ⟨by cases e1; rfl, reps_getD t e2⟩
      | lst ds =>
        cases z
        obtain ⟨a, us, rfl, m, t⟩ := rx
        refine ⟨a, us, rfl, .inl ⟨.inl (.inl (b1.mok _ _ m).2), q1 _ M1 r1 H1 Stp.refl b1 ?_⟩⟩
        exact good_pair (as := fun i => .int (i : Nat)) (bs := fun i => es.getD i .non) (by rw [← t.length]; exact walk_enum) (gd := fun M' r' h δ σ H le pr b' => show SqL G.K H a us from .inl (.inl (b'.mok _ _ (le _ _ m)).2)) fun i x y _ e1 e2 => ⟨by cases e1; rfl, reps_getD t e2⟩
      | frz ds =>
        cases z
        obtain ⟨a, us, rfl, m, t⟩ := rx
        refine ⟨a, us, rfl, .inl ⟨sqF b1 m, q1 _ M1 r1 H1 Stp.refl b1 ?_⟩⟩
        exact good_pair (as := fun i => .int (i : Nat)) (bs := fun i => es.getD i .non) (by rw [← t.length]; exact walk_enum) (gd := fun M' r' h δ σ H le pr b' => sqF b' (m.imp (fun ⟨o, z, y⟩ => ⟨o, le _ _ z, y⟩) id)) fun i x y _ e1 e2 => ⟨by cases e1; rfl, reps_getD t e2⟩
      | _ => cases z
    · exact q1.elim
  · exact q1.elim
end
end LP
/-! LpI: several names at once; lists added and repeated; a written dict; rows never reached. -/
namespace LP
open PySem PySem.Spec PyProof.Rows L2 HT
section
variable {X : Cx} {G : Cfg} {W : WX} {σ : L2.St} {δ : DE} {M M' M1 M2 : Imm} {r r' r1 r2 : List Addr} {h h' h1 h2 : Bx} {H H' H1 H2 : Hp} {E : Ends}
variable {e c : Expr} {f g : EF} {tg : Expr} {fs : DE → Bx → R (List D)} {pos : Pos}
/-! ### a list that stands, of no slot yet -/
def Bod (G : Cfg) (M : Imm) (r : List Addr) (H : Hp) : SV → Addr → Prop
  | .own ds, a => ds.length ≤ big ∧ ∃ vs, H a = some (.lst vs) ∧ Reps G.J M r ds vs
  | .ownD od, a => od.len ≤ big ∧ ∃ u, H a = some u ∧ od.rep G.J M r u
  | _, _ => False
structure Lone (G : Cfg) (M : Imm) (r : List Addr) (δ : DE) (σ : L2.St) (H : Hp) (s : SV) (a : Addr) : Prop where
  m : M a = none
  n : a ∉ r
  f : Free G.H0 a
  no : NoOwn δ σ a
  at_ : Bod G M r H s a
theorem Bod.wr : ∀ {s : SV} {a : Addr}, Bod G M r H s a → s.ow = true ∧ ∃ u, H a = some u ∧ Wr u
  | .own _, _, ⟨_, _, q, _⟩ => ⟨rfl, _, q, trivial⟩
  | .ownD _, _, ⟨_, _, q, t⟩ => ⟨rfl, _, q, OD.rep_wr t⟩
  | .no, _, q => q.elim
  | .v _, _, q => q.elim
theorem Bod.mono (hM : Le M M') (hr : r <+: r') : ∀ {s : SV} {a : Addr}, Bod G M r H s a → (∀ u, Wr u → H a = some u → H' a = some u) → Bod G M' r' H' s a
  | .own _, _, ⟨z, _, q, t⟩, k => ⟨z, _, k _ trivial q, Reps.mono hM hr _ _ t⟩
  | .ownD _, _, ⟨z, _, q, t⟩, k => ⟨z, _, k _ (OD.rep_wr t) q, OD.rep_mono hM hr t⟩
  | .no, _, q, _ => q.elim
  | .v _, _, q, _ => q.elim
theorem Lone.step {ds : SV} {a : Addr} (l : Lone G M r δ σ H ds a) (s : Stp M r H M' r' H') : Lone G M' r' δ σ H' ds a := by
  obtain ⟨_, u, q, w⟩ := l.at_.wr
  have nf : IsL H a := ⟨u, q, w⟩
  exact ⟨s.nf a l.m nf l.n, fun z => (s.new a z).elim l.n nf.nf, l.f, l.no, l.at_.mono s.le s.pre fun u w q => s.keep a _ q (fun ps y => w.ne_tbl y) l.n⟩
theorem BS.take (b : BS G M r h δ σ H) {i : Nat} {ds : SV} {a : Addr} (l : Lone G M r δ σ H ds a) : BS G M r h (δ.set i ds) (σ.set i (some (.ref a))) H := by
  have no := l.no
  have ow := l.at_.wr.1
  have at_ : ∀ {j : Nat} {s : SV}, (δ.set i ds)[j]? = some s → i ≠ j → δ[j]? = some s := fun e n => by rwa [List.getElem?_set_ne n] at e
  have lt : ∀ {s : SV}, (δ.set i ds)[i]? = some s → i < δ.length ∧ s = ds := fun {s} e => by
    have hi : i < δ.length := by
      have := (List.getElem?_eq_some_iff.mp e).1
      simpa using this
    rw [List.getElem?_set_self hi] at e
    exact ⟨hi, (Option.some.inj e).symm⟩
  refine ⟨b.mok, b.bx, b.tb, by rw [List.length_set, List.length_set]; exact b.len, fun j s x e1 e2 => ?_, fun j l' es us e1 e2 w1 w2 n => ?_, b.le, b.pre, b.new, b.keep, b.nf⟩
  · by_cases hj : i = j
    · subst hj
      obtain ⟨hi, rfl⟩ := lt e1
      rw [List.getElem?_set_self (by rw [b.len]; exact hi)] at e2
      cases e2
      have bd := l.at_
      cases s with
      | no => exact bd.elim
      | v d => exact bd.elim
      | own ds =>
        obtain ⟨z, vs, q, t⟩ := bd
        exact ⟨a, vs, rfl, l.m, l.n, l.f, z, q, t⟩
      | ownD od =>
        obtain ⟨z, u, q, t⟩ := bd
        exact ⟨a, u, rfl, l.m, l.n, l.f, z, q, t⟩
    · rw [List.getElem?_set_ne hj] at e2
      exact b.sl j s x (at_ e1 hj) e2
  · by_cases hj : i = j
    · subst hj
      obtain ⟨hi, _⟩ := lt e1
      rw [List.getElem?_set_self (by rw [b.len]; exact hi), List.getElem?_set_ne n]
      exact fun y => no l' us (at_ e2 n) w2 y.symm
    · by_cases hl : i = l'
      · subst hl
        obtain ⟨hi, _⟩ := lt e2
        rw [List.getElem?_set_self (by rw [b.len]; exact hi), List.getElem?_set_ne hj]
        exact no j es (at_ e1 hj) w1
      · rw [List.getElem?_set_ne hj, List.getElem?_set_ne hl]
        exact b.sep j l' es us (at_ e1 hj) (at_ e2 hl) w1 w2 n
/-- values and lone lists, one behind the other -/
def RSv (G : Cfg) (M : Imm) (r : List Addr) (δ : DE) (σ : L2.St) (H : Hp) : List SV → List V → Prop
  | [], vs => vs = []
  | .no :: _, _ => False
  | .v d :: ss, vs => ∃ v vt, vs = v :: vt ∧ Rep G.J M r d v ∧ RSv G M r δ σ H ss vt
  | .own ds :: ss, vs => ∃ a vt, vs = .ref a :: vt ∧ Lone G M r δ σ H (.own ds) a ∧ RSv G M r δ σ H ss vt ∧ ∀ (j : Nat) (t : SV), ss[j]? = some t → t.ow = true → vt[j]? ≠ some (.ref a)
  | .ownD od :: ss, vs => ∃ a vt, vs = .ref a :: vt ∧ Lone G M r δ σ H (.ownD od) a ∧ RSv G M r δ σ H ss vt ∧ ∀ (j : Nat) (t : SV), ss[j]? = some t → t.ow = true → vt[j]? ≠ some (.ref a)
theorem RSv.step (s : Stp M r H M' r' H') : ∀ {ss : List SV} {vs : List V}, RSv G M r δ σ H ss vs → RSv G M' r' δ σ H' ss vs
  | [], _, q => q
  | .no :: _, _, q => q.elim
  | .v d :: ss, _, q => by
    obtain ⟨v, vt, e, q1, q2⟩ := q
    exact ⟨v, vt, e, Rep.mono s.le s.pre _ _ q1, RSv.step s q2⟩
  | .own ds :: ss, _, q => by
    obtain ⟨a, vt, e, q1, q2, q3⟩ := q
    exact ⟨a, vt, e, q1.step s, RSv.step s q2, q3⟩
  | .ownD ds :: ss, _, q => by
    obtain ⟨a, vt, e, q1, q2, q3⟩ := q
    exact ⟨a, vt, e, q1.step s, RSv.step s q2, q3⟩
theorem RSv.at_ : ∀ {ss : List SV} {vs : List V} {j : Nat} {es : SV}, RSv G M r δ σ H ss vs → ss[j]? = some es → es.ow = true → ∃ a, vs[j]? = some (.ref a) ∧ Lone G M r δ σ H es a
  | [], _, _, _, _, e, _ => by simp at e
  | .no :: _, _, _, _, q, _, _ => q.elim
  | .v d :: ss, _, 0, _, q, e, w => by simp at e; subst e; cases w
  | .v d :: ss, _, j + 1, es, q, e, w => by
    obtain ⟨v, vt, rfl, _, q2⟩ := q
    obtain ⟨a, e1, l⟩ := RSv.at_ (j := j) q2 (by simpa using e) w
    exact ⟨a, by simpa using e1, l⟩
  | .own ds :: ss, _, 0, es, q, e, _ => by
    obtain ⟨a, vt, rfl, l, _⟩ := q
    simp at e; subst e
    exact ⟨a, rfl, l⟩
  | .own ds :: ss, _, j + 1, es, q, e, w => by
    obtain ⟨a, vt, rfl, _, q2, _⟩ := q
    obtain ⟨a', e1, l⟩ := RSv.at_ (j := j) q2 (by simpa using e) w
    exact ⟨a', by simpa using e1, l⟩
  | .ownD ds :: ss, _, 0, es, q, e, _ => by
    obtain ⟨a, vt, rfl, l, _⟩ := q
    simp at e; subst e
    exact ⟨a, rfl, l⟩
  | .ownD ds :: ss, _, j + 1, es, q, e, w => by
    obtain ⟨a, vt, rfl, _, q2, _⟩ := q
    obtain ⟨a', e1, l⟩ := RSv.at_ (j := j) q2 (by simpa using e) w
    exact ⟨a', by simpa using e1, l⟩
/-- the lone ones are new -/
def NewX (H : Hp) (ss : List SV) (vs : List V) : Prop := ∀ (j : Nat) (es : SV) (a : Addr), ss[j]? = some es → es.ow = true → vs[j]? = some (.ref a) → Free H a
def AfterX (G : Cfg) (W : WX) (σ : L2.St) (δ : DE) (M : Imm) (r : List Addr) (H : Hp) (x : R (List SV)) (Q : List V → Hp → Prop) : Prop := match x with
  | .ok ss h => ∀ vs M' r' H', Stp M r H M' r' H' → BS G M' r' h δ σ H' → RSv G M' r' δ σ H' ss vs → NewX H ss vs → Q vs H'
  | .exc c fs h => ∀ C dd M' r' H', G.mg c = some (.ref C) → Stp M r H M' r' H' → BS G M' r' h δ σ H' → ExcAt G.J M' r' H' fs dd → W (.ref C) dd σ H'
  | .bad => False
theorem NewX.back {ss : List SV} {vs : List V} (s : Stp M r H M1 r1 H1) (p : r1 <+: r') (q : RSv G M' r' δ σ H' ss vs) (n : NewX H1 ss vs) : NewX H ss vs := fun j es a e1 w e2 => by
  obtain ⟨a', e3, l⟩ := q.at_ e1 w
  rw [e2] at e3
  cases e3
  exact (n j es a e1 w e2).back s.keep fun z => l.n (p.subset (s.pre.subset z))
def EvX (X : Cx) (G : Cfg) (W : WX) (es : List Expr) (f : DE → Bx → R (List SV)) : Prop := PA X es fun σ H Q => ∃ M r h δ, BS G M r h δ σ H ∧ AfterX G W σ δ M r H (f δ h) Q
theorem AfterX.from {x : R (List SV)} {Q : List V → Hp → Prop} (s : Stp M r H M1 r1 H1) (q : AfterX G W σ δ M r H x Q) : AfterX G W σ δ M1 r1 H1 x Q := by
  cases x with
  | ok d h => exact fun vs M' r' H' a b c n => q vs M' r' H' (s.trans a) b c (n.back s a.pre c)
  | exc c fs h => exact fun C dd M' r' H' m a b e => q C dd M' r' H' m (s.trans a) b e
  | bad => exact q
def nilX : DE → Bx → R (List SV) := fun _ h => .ok [] h
def consX (f : EF) (fs : DE → Bx → R (List SV)) : DE → Bx → R (List SV) := fun δ h => (f δ h).bind fun d h1 => if isV d = true then (fs δ h1).bind fun ds h2 => .ok (.v d :: ds) h2 else .bad
def consXN (f : DE → Bx → R (List D)) (fs : DE → Bx → R (List SV)) : DE → Bx → R (List SV) := fun δ h => (f δ h).bind fun d h1 => (fs δ h1).bind fun ds h2 => .ok (.own d :: ds) h2
theorem evx_nil : EvX X G W [] nilX := PA.imp pa_nil fun σ H Q q => by
  obtain ⟨M, r, h, δ, b, q⟩ := q
  exact q [] M r H Stp.refl b rfl (fun j es a e => by simp at e)
variable {es : List Expr} {gs : DE → Bx → R (List SV)}
theorem AfterX.more {x : R (List SV)} {Q Q' : List V → Hp → Prop} (q : AfterX G W σ δ M r H x Q) (f : ∀ v H', Q v H' → Q' v H') : AfterX G W σ δ M r H x Q' := by
  cases x with
  | ok d h => exact fun v M' r' H' a b c n => f v H' (q v M' r' H' a b c n)
  | exc c fs h => exact q
  | bad => exact q
theorem AfterX.bind0 {α β : Type} {rl : Rl α β} {x : R α} {k : α → Bx → R (List SV)} {Q : List V → Hp → Prop} (q : AfterX G W σ δ M r H (x.bind k) Q) :
    After G W σ δ rl M r H x fun v H1 => ∃ d M1 r1 h1, Stp M r H M1 r1 H1 ∧ BS G M1 r1 h1 δ σ H1 ∧ rl M1 r1 d v ∧ AfterX G W σ δ M r H (k d h1) Q := by
  cases x with
  | ok d h => exact fun v M' r' H' a b c => ⟨d, M', r', h, a, b, c, q⟩
  | exc c fs h => exact q
  | bad => exact q
theorem evx_cons (ha : Ev X G W e f) (hr : EvX X G W es gs) (hs : starEach (e :: es) X.env = (false, eval e X.env) :: starEach es X.env := by rfl) : EvX X G W (e :: es) (consX f gs) :=
  PA.imp (pa_cons ha hr hs) fun σ H Q q => by
    obtain ⟨M, r, h, δ, b, q⟩ := q
    refine ⟨M, r, h, δ, b, (AfterX.bind0 (rl := rV G.J δ σ) q).more fun x H1 ⟨dx, M1, r1, h1, s1, b1, rx, q1⟩ => ?_⟩
    split at q1
    · rename_i hv
      refine ⟨M1, r1, h1, δ, b1, ?_⟩
      cases z : gs δ h1 with
      | bad => rw [z] at q1; exact q1
      | exc c fs h2 => rw [z] at q1; exact fun C dd M' r' H' m a b e => q1 C dd M' r' H' m (s1.trans a) b e
      | ok ss h2 =>
        rw [z] at q1
        simp only [R.bind_ok] at q1
        refine fun xs M2 r2 H2 s2 b2 rs nx => q1 (x :: xs) M2 r2 H2 (s1.trans s2) b2 ⟨x, xs, rfl, ?_, rs⟩ fun j es a e1 w e2 => ?_
        · have := RepV.mono s2.le s2.pre rx
          cases dx with
          | loc i => cases hv
          | _ => exact this
        · cases j with
          | zero => simp at e1; subst e1; cases w
          | succ j => exact nx.back s1 s2.pre rs j es a (by simpa using e1) w (by simpa using e2)
    · exact q1.elim
theorem evx_consN {fn : DE → Bx → R (List D)} (ha : EvN X G W e fn) (hr : EvX X G W es gs) (hs : starEach (e :: es) X.env = (false, eval e X.env) :: starEach es X.env := by rfl) : EvX X G W (e :: es) (consXN fn gs) :=
  PA.imp (pa_cons ha hr hs) fun σ H Q q => by
    obtain ⟨M, r, h, δ, b, q⟩ := q
    refine ⟨M, r, h, δ, b, ?_⟩
    unfold consXN at q
    cases z : fn δ h with
    | bad => rw [z] at q; exact q
    | exc c fs h1 => rw [z] at q; exact q
    | ok ds h1 =>
      rw [z] at q
      simp only [R.bind_ok] at q
      intro vs M' r' H' p s b' t hz hp
      have b1 : BS G M' r' h1 δ σ (upd H' p (.lst vs)) := b'.new_list hp
      have s1 : Stp M r H M' r' (upd H' p (.lst vs)) := ⟨s.le, s.pre, s.new, fun a o e t n => upd_new hp (s.keep a o e t n), s.nf⟩
      have lone : Lone G M' r' δ σ (upd H' p (.lst vs)) (.own ds) p := ⟨b'.fresh_M hp, b'.fresh_r hp, b'.free0 hp, b'.noOwn hp, hz, vs, upd_same, t⟩
      have pf : Free H p := (Free.of hp).back s.keep fun z => b'.fresh_r hp (s.pre.subset z)
      refine ⟨M', r', h1, δ, b1, ?_⟩
      cases z : gs δ h1 with
      | bad => rw [z] at q; exact q
      | exc c fs h2 => rw [z] at q; exact fun C dd M' r' H' m a b e => q C dd M' r' H' m (s1.trans a) b e
      | ok ss h2 =>
        rw [z] at q
        simp only [R.bind_ok] at q
        refine fun xs M2 r2 H2 s2 b2 rs nx => q (.ref p :: xs) M2 r2 H2 (s1.trans s2) b2 ⟨p, xs, rfl, lone.step s2, rs, fun j es e1 w e2 => ?_⟩ fun j es a e1 w e2 => ?_
        · obtain ⟨ps, y⟩ := nx j es p e1 w e2 _ upd_same
          cases y
        · cases j with
          | zero =>
            have e2 : some (V.ref p) = some (V.ref a) := by simpa using e2
            cases e2
            exact pf
          | succ j => exact nx.back s1 s2.pre rs j es a (by simpa using e1) w (by simpa using e2)
/-- the slots take them, the last first -/
def putX (δ : DE) : List Nat → List SV → Option DE
  | [], [] => some δ
  | i :: is, s :: ss => (putX (δ.set i s) is ss)
  | _, _ => none
def setAll (σ : L2.St) : List Nat → List V → L2.St
  | i :: is, v :: vs => setAll (σ.set i (some v)) is vs
  | _, _ => σ
def parS (is : List Nat) (gs : DE → Bx → R (List SV)) : SF := fun δ h => (gs δ h).toS δ fun ss h1 => match putX δ is ss with
  | some δ' => .nx δ' h1
  | none => .bad
theorem Lone.put {ds : SV} {a : Addr} {i : Nat} {d : D} {v : V} (l : Lone G M r δ σ H ds a) : Lone G M r (δ.set i (.v d)) (σ.set i (some v)) H ds a := by
  refine ⟨l.m, l.n, l.f, fun j es e1 w e2 => ?_, l.at_⟩
  by_cases hj : i = j
  · subst hj
    have hi : i < δ.length := by
      have := (List.getElem?_eq_some_iff.mp e1).1
      simpa using this
    rw [List.getElem?_set_self hi] at e1
    cases e1; cases w
  · rw [List.getElem?_set_ne hj] at e1 e2
    exact l.no j es e1 w e2
theorem Lone.take {ds es : SV} {a c : Addr} {i : Nat} (l : Lone G M r δ σ H ds a) (n : c ≠ a) : Lone G M r (δ.set i es) (σ.set i (some (.ref c))) H ds a := by
  refine ⟨l.m, l.n, l.f, fun j es' e1 w e2 => ?_, l.at_⟩
  by_cases hj : i = j
  · subst hj
    by_cases hi : i < σ.length
    · rw [List.getElem?_set_self hi] at e2
      cases e2
      exact n rfl
    · rw [List.getElem?_eq_none (by simpa using hi)] at e2
      cases e2
  · rw [List.getElem?_set_ne hj] at e1 e2
    exact l.no j es' e1 w e2
theorem RSv.put {i : Nat} {d : D} {v : V} : ∀ {ss : List SV} {vs : List V}, RSv G M r δ σ H ss vs → RSv G M r (δ.set i (.v d)) (σ.set i (some v)) H ss vs
  | [], _, q => q
  | .no :: _, _, q => q.elim
  | .v d :: ss, _, q => by
    obtain ⟨v, vt, e, q1, q2⟩ := q
    exact ⟨v, vt, e, q1, RSv.put q2⟩
  | .own ds :: ss, _, q => by
    obtain ⟨a, vt, e, q1, q2, q3⟩ := q
    exact ⟨a, vt, e, q1.put, RSv.put q2, q3⟩
  | .ownD ds :: ss, _, q => by
    obtain ⟨a, vt, e, q1, q2, q3⟩ := q
    exact ⟨a, vt, e, q1.put, RSv.put q2, q3⟩
theorem RSv.take {i : Nat} {es : SV} {c : Addr} : ∀ {ss : List SV} {vs : List V}, RSv G M r δ σ H ss vs → (∀ (j : Nat) (t : SV), ss[j]? = some t → t.ow = true → vs[j]? ≠ some (.ref c)) → RSv G M r (δ.set i es) (σ.set i (some (.ref c))) H ss vs
  | [], _, q, _ => q
  | .no :: _, _, q, _ => q.elim
  | .v d :: ss, _, q, n => by
    obtain ⟨v, vt, rfl, q1, q2⟩ := q
    exact ⟨v, vt, rfl, q1, RSv.take q2 fun j es e w => by have := n (j + 1) es (by simpa using e) w; simpa using this⟩
  | .own ds :: ss, _, q, n => by
    obtain ⟨a, vt, rfl, q1, q2, q3⟩ := q
    refine ⟨a, vt, rfl, q1.take fun z => ?_, RSv.take q2 fun j es e w => by have := n (j + 1) es (by simpa using e) w; simpa using this, q3⟩
    subst z
    exact n 0 (.own ds) rfl rfl rfl
  | .ownD ds :: ss, _, q, n => by
    obtain ⟨a, vt, rfl, q1, q2, q3⟩ := q
    refine ⟨a, vt, rfl, q1.take fun z => ?_, RSv.take q2 fun j es e w => by have := n (j + 1) es (by simpa using e) w; simpa using this, q3⟩
    subst z
    exact n 0 (.ownD ds) rfl rfl rfl
theorem putX_bs : ∀ {is : List Nat} {ss : List SV} {vs : List V} {δ δ' : DE} {σ : L2.St}, BS G M r h δ σ H → RSv G M r δ σ H ss vs → putX δ is ss = some δ' → BS G M r h δ' (setAll σ is vs) H
  | [], [], _, _, _, _, b, _, e => by cases e; exact b
  | [], _ :: _, _, _, _, _, _, _, e => by cases e
  | _ :: _, [], _, _, _, _, _, _, e => by cases e
  | i :: is, .no :: ss, _, _, _, _, _, q, _ => q.elim
  | i :: is, .v d :: ss, _, δ, δ', σ, b, q, e => by
    obtain ⟨v, vt, rfl, q1, q2⟩ := q
    exact putX_bs (is := is) (ss := ss) (b.put q1) (RSv.put q2) e
  | i :: is, .own ds :: ss, _, δ, δ', σ, b, q, e => by
    obtain ⟨a, vt, rfl, q1, q2, q3⟩ := q
    exact putX_bs (is := is) (ss := ss) (b.take q1) (RSv.take q2 q3) e
  | i :: is, .ownD ds :: ss, _, δ, δ', σ, b, q, e => by
    obtain ⟨a, vt, rfl, q1, q2, q3⟩ := q
    exact putX_bs (is := is) (ss := ss) (b.take q1) (RSv.take q2 q3) e
theorem RSv.length : ∀ {ss : List SV} {vs : List V}, RSv G M r δ σ H ss vs → vs.length = ss.length
  | [], _, q => by cases q; rfl
  | .no :: _, _, q => q.elim
  | .v d :: ss, _, q => by obtain ⟨v, vt, rfl, _, q2⟩ := q; simp [RSv.length q2]
  | .own ds :: ss, _, q => by obtain ⟨v, vt, rfl, _, q2, _⟩ := q; simp [RSv.length q2]
  | .ownD ds :: ss, _, q => by obtain ⟨v, vt, rfl, _, q2, _⟩ := q; simp [RSv.length q2]
theorem putX_len : ∀ {is : List Nat} {ss : List SV} {δ δ' : DE}, putX δ is ss = some δ' → ss.length = is.length
  | [], [], _, _, _ => rfl
  | [], _ :: _, _, _, e => by cases e
  | _ :: _, [], _, _, e => by cases e
  | i :: is, s :: ss, δ, δ', e => by simp [putX_len (is := is) (ss := ss) e]
theorem par_of {is : List Nat} {n : Nat} (b : BS G M r h δ σ H) (hn : is.length = n) (q : AfterS G W M r (parS is gs δ h) E) :
    AfterX G W σ δ M r H (gs δ h) fun vs H1 => vs.length = n ∧ E.nx (setAll σ is vs) H1 := by
  unfold parS at q
  cases z : gs δ h with
  | bad => rw [z] at q; exact q
  | exc c fs h1 => rw [z] at q; exact fun C dd M' r' H' m s b e => q C dd M' r' σ H' m s.le s.pre b e
  | ok ss h1 =>
    rw [z] at q
    simp only [R.toS_ok] at q
    intro vs M' r' H' s b' rs _
    cases y : putX δ is ss with
    | none => rw [y] at q; exact q.elim
    | some δ' =>
      rw [y] at q
      refine ⟨by rw [rs.length, putX_len y, hn], (AfterS.from s.le s.pre q).nxt (putX_bs b' rs y)⟩
theorem es_par {i j : Nat} {x y : Str} {a c : Expr} {px py pt : Pos} {kt k2 pt2} (hc : X.calm = true) (hN : X.N.Nodup) (hi : X.N[i]? = some x) (hj : X.N[j]? = some y)
    (hx : X.env.scope.names.lookup x = some .local) (hy : X.env.scope.names.lookup y = some .local) (ha : EvX X G W [a, c] gs) (hij : i ≠ j := by decide)
    (hw : swappedStores [.Tuple [.Name x px, .Name y py] kt pt] (.Tuple [a, c] k2 pt2) X.env = pure (some [x, y]) := by rfl)
    (hs : swapsWithSole [.Tuple [.Name x px, .Name y py] kt pt] (.Tuple [a, c] k2 pt2) pos.line X.env = pure false := by rfl) :
    Es X G W (.Assign [.Tuple [.Name x px, .Name y py] kt pt] (.Tuple [a, c] k2 pt2) pos) (parS [i, j] gs) := PS.imp (ps_par hc hN hi hj hij hx hy ha hw hs) fun E σ H q => by
  obtain ⟨M, r, h, δ, b, q⟩ := q
  refine ⟨M, r, h, δ, b, AfterX.more (par_of (is := [i, j]) (n := 2) b rfl q) fun vs H1 ⟨l, q1⟩ => ?_⟩
  match vs, l with
  | [u, v], _ => exact ⟨u, v, rfl, q1⟩
theorem es_par3 {i j l : Nat} {x y z : Str} {a c d : Expr} {px py pz pt : Pos} {kt k2 pt2} (hc : X.calm = true) (hN : X.N.Nodup) (hi : X.N[i]? = some x) (hj : X.N[j]? = some y) (hl : X.N[l]? = some z)
    (hx : X.env.scope.names.lookup x = some .local) (hy : X.env.scope.names.lookup y = some .local) (hz : X.env.scope.names.lookup z = some .local) (ha : EvX X G W [a, c, d] gs) (hij : i ≠ j := by decide) (hil : i ≠ l := by decide) (hjl : j ≠ l := by decide)
    (hw : swappedStores [.Tuple [.Name x px, .Name y py, .Name z pz] kt pt] (.Tuple [a, c, d] k2 pt2) X.env = pure (some [x, y, z]) := by rfl)
    (hs : swapsWithSole [.Tuple [.Name x px, .Name y py, .Name z pz] kt pt] (.Tuple [a, c, d] k2 pt2) pos.line X.env = pure false := by rfl) :
    Es X G W (.Assign [.Tuple [.Name x px, .Name y py, .Name z pz] kt pt] (.Tuple [a, c, d] k2 pt2) pos) (parS [i, j, l] gs) := PS.imp (ps_par3 hc hN hi hj hl hij hil hjl hx hy hz ha hw hs) fun E σ H q => by
  obtain ⟨M, r, h, δ, b, q⟩ := q
  refine ⟨M, r, h, δ, b, AfterX.more (par_of (is := [i, j, l]) (n := 3) b rfl q) fun vs H1 ⟨l, q1⟩ => ?_⟩
  match vs, l with
  | [u, v, w], _ => exact ⟨u, v, w, rfl, q1⟩
/-! ### lists added and repeated, as new ones -/
def addN (f g : EF) : DE → Bx → R (List D) := fun δ h => (f δ h).bind fun a h1 => (g δ h1).bind fun b h2 => match wrOf δ h2 a, wrOf δ h2 b with
  | some xs, some ys => if xs.length + ys.length ≤ big then .ok (xs ++ ys) h2 else .bad
  | _, _ => .bad
variable {a : Expr} {k : D → D → DE → Bx → R (List D)}
theorem tOpN_of {rr : R2} (hk : ∀ (M : Imm) (r : List Addr) (h : Bx) (H : Hp) (x y : V) (dx dy : D) (Q : VK),
    BS G M r h δ σ H → RepV G.J M r δ σ dx x → RepV G.J M r δ σ dy y → AfterN G W σ δ M r H (k dx dy δ h) Q → rr x y H Q) {Q : VK} (b : BS G M r h δ σ H) (q : AfterN G W σ δ M r H ((f δ h).bind fun a h1 => (g δ h1).bind fun b h2 => k a b δ h2) Q) :
    tOp rr (tG G W (rV G.J) f) (tG G W (rV G.J) g) σ H Q := by
  refine ⟨M, r, h, δ, b, (AfterN.bind q).more fun x H1 ⟨dx, M1, r1, h1, s1, b1, rx, q1⟩ => ?_⟩
  refine ⟨M1, r1, h1, δ, b1, (AfterN.bind q1).more fun y H2 ⟨dy, M2, r2, h2, s2, b2, ry, q2⟩ => ?_⟩
  exact hk M2 r2 h2 H2 x y dx dy Q b2 (rx.mono s2.le s2.pre) ry q2
theorem evn_add (ha : Ev X G W a f) (hb : Ev X G W c g) : EvN X G W (.BinOp a .Add c pos) (addN f g) :=
  PE.imp (pe_op op_cat ha hb) fun σ H Q q => by
    obtain ⟨M, r, h, δ, b, q⟩ := q
    refine tOpN_of (k := fun a b δ h2 => match wrOf δ h2 a, wrOf δ h2 b with
      | some xs, some ys => if xs.length + ys.length ≤ big then .ok (xs ++ ys) h2 else .bad
      | _, _ => .bad) (fun M r h H x y dx dy Q b rx ry q => ?_) b q
    split at q
    · rename_i xs ys e1 e2
      split at q
      · rename_i e
        obtain ⟨a, vs, z1, q1, t1, _⟩ := b.wr rx e1
        obtain ⟨c, us, z2, q2, t2, _⟩ := b.wr ry e2
        subst z1 z2
        exact ⟨a, c, vs, us, rfl, rfl, q1, q2, by rw [t1.length, t2.length]; exact big_line e, fun p hp => q _ M r H p Stp.refl b (t1.append t2) (by rw [List.length_append]; exact e) hp⟩
      · exact q.elim
    · exact q.elim
/-- ds, k times -/
def repD (ds : List D) (k : Int) : List D := (List.replicate k.toNat ds).flatten
theorem rep_len {α : Type} (ds : List α) (n : Nat) : (List.replicate n ds).flatten.length = ds.length * n := by
  induction n with
  | zero => rfl
  | succ n ih => rw [List.replicate_succ, List.flatten_cons, List.length_append, ih, Nat.mul_succ]; omega
theorem rep_rep {J : Jd} {ds : List D} {vs : List V} (t : Reps J M r ds vs) (n : Nat) : Reps J M r (List.replicate n ds).flatten (List.replicate n vs).flatten := by
  induction n with
  | zero => rfl
  | succ n ih => rw [List.replicate_succ, List.flatten_cons, List.replicate_succ, List.flatten_cons]; exact t.append ih
def repC (n : Nat) (k : Int) : Bool := decide (-(2 ^ 63) ≤ k ∧ k < 2 ^ 63 ∧ n * k.toNat ≤ big)
def repN (f g : EF) : DE → Bx → R (List D) := fun δ h => (f δ h).bind fun a h1 => (g δ h1).bind fun b h2 => match wrOf δ h2 a, b with
  | some xs, .int k => if repC xs.length k = true then .ok (repD xs k) h2 else .bad
  | _, _ => .bad
theorem evn_rep (ha : Ev X G W a f) (hb : Ev X G W c g) : EvN X G W (.BinOp a .Mult c pos) (repN f g) :=
  PE.imp (pe_op op_rep ha hb) fun σ H Q q => by
    obtain ⟨M, r, h, δ, b, q⟩ := q
    refine tOpN_of (k := fun a b δ h2 => match wrOf δ h2 a, b with
      | some xs, .int k => if repC xs.length k = true then .ok (repD xs k) h2 else .bad
      | _, _ => .bad) (fun M r h H x y dx dy Q b rx ry q => ?_) b q
    split at q
    · rename_i xs k e1
      split at q
      · rename_i e
        have e := of_decide_eq_true e
        obtain ⟨a, vs, z1, q1, t1, _⟩ := b.wr rx e1
        cases ry
        subst z1
        exact ⟨a, k, vs, rfl, rfl, q1, e.1, e.2.1, by rw [t1.length]; exact big_line e.2.2, fun p hp => q _ M r H p Stp.refl b (rep_rep t1 _) (by unfold repD; rw [rep_len]; exact e.2.2) hp⟩
      · exact q.elim
    · exact q.elim
/-! ### a row that is never reached -/
theorem es_never {st : Stmt} : Es X G W st (fun _ _ => .bad) := PS.imp ps_never fun E σ H q => by
  obtain ⟨M, r, h, δ, b, q⟩ := q
  exact q.elim
/-! ### a dict that the module has written: texts to numbers; keys that are not there are not asked -/
def findT (tab : List (Str × Int)) (x : Str) : Option Int := match tab with
  | [] => none
  | (k, v) :: r => if k = x then some v else findT r x
def kgetF (tab : List (Str × Int)) (f g : EF) : EF := fun δ h => (f δ h).bind fun d h1 => (g δ h1).bind fun d2 h2 => match d with
  | .str x => match findT tab x with
    | some v => .ok (.int v) h2
    | none => if isV d2 = true then .ok d2 h2 else .bad
  | _ => .bad
def keyOf (e : DictEntry) : Option Str := match e.key with
  | .str x _ => some x
  | _ => none
/-- the dict at p holds tab -/
def KTab (K : PySem.W.Frag) (w : World) (p : Addr) (tab : List (Str × Int)) : Prop := (p == sysModules) = false ∧ ∃ es n, K.lookup p = some ⟨.type "dict", none, .dict es n, #[]⟩ ∧ PySem.W.KeysLit w.params es.toList ∧ (∀ kv ∈ tab, ∃ t, PySem.W.nsIn K p kv.1 = some (some (.int kv.2 t))) ∧ es.toList.map keyOf = tab.map fun kv => some kv.1
theorem findT_mem {x : Str} {v : Int} : ∀ {tab : List (Str × Int)}, findT tab x = some v → (x, v) ∈ tab
  | [], e => by cases e
  | (k, u) :: r, e => by
    unfold findT at e
    split at e
    · rename_i z
      cases e
      subst z
      exact List.mem_cons_self ..
    · exact List.mem_cons_of_mem _ (findT_mem e)
theorem findT_no {x : Str} : ∀ {tab : List (Str × Int)}, findT tab x = none → ∀ kv ∈ tab, kv.1 ≠ x
  | [], _, _, h => by cases h
  | (k, u) :: r, e, kv, h => by
    unfold findT at e
    split at e
    · cases e
    · rename_i z
      rcases List.mem_cons.mp h with h | h
      · subst h; exact z
      · exact findT_no e kv h
theorem ns_no {K : PySem.W.Frag} {p : Addr} {w : World} {tab : List (Str × Int)} {es : Array DictEntry} {n : Nat} {x : Str} (hl : K.lookup p = some ⟨.type "dict", none, .dict es n, #[]⟩) (hk : PySem.W.KeysLit w.params es.toList)
    (hy : es.toList.map keyOf = tab.map fun kv => some kv.1) (e : findT tab x = none) : PySem.W.nsIn K p x = some none := by
  have no : ∀ d ∈ es.toList, d.key.isStr x = false := fun d hd => by
    obtain ⟨y, t, e1, _⟩ := hk.all d hd
    have m : some y ∈ es.toList.map keyOf := List.mem_map.mpr ⟨d, hd, by unfold keyOf; rw [e1]⟩
    rw [hy] at m
    obtain ⟨kv, h1, h2⟩ := List.mem_map.mp m
    have ne := findT_no e kv h1
    rw [Option.some.inj h2] at ne
    rw [e1]
    show (y == x) = false
    simpa using ne
  have rk : es.toList.any (·.refKey) = false := by
    rw [List.any_eq_false]
    intro d hd
    obtain ⟨y, t, e1, _⟩ := hk.all d hd
    unfold DictEntry.refKey
    rw [e1]
    simp
  unfold PySem.W.nsIn
  rw [hl]
  simp only
  have f : es.toList.find? (·.key.isStr x) = none := List.find?_eq_none.mpr fun d hd => by simp [no d hd]
  rw [f]
  simp only
  rw [rk]
  rfl
theorem ev_kget {x : Str} {p : Addr} {tab : List (Str × Int)} {px apos cpos : Pos} {d : Expr} (hg : Gl X x) (hm : X.mg x = some (.ref p)) (hT : KTab X.K X.w p tab) (he : Ev X G W e f) (hd : Ev X G W d g)
    (hbase : attributeBase (.Name x px) "get" X.env (eval (.Name x px) X.env) = eval (.Name x px) X.env := by rfl)
    (hfew : ((backTo cpos (starEach [e, d] X.env)).all (fun x => !x.1) && (backToKw cpos (keywordEach [] X.env)).all (fun x => x.1.isSome) && decide (([e, d] : List Expr).length + ([] : List Keyword).length + (if ([] : List Keyword).isEmpty then 0 else 1) < 30)) = true := by rfl)
    (hline : (apos.endLine == cpos.line) = true := by rfl) (htr : backTo cpos (starEach [e, d] X.env) = [(false, eval e X.env), (false, eval d X.env)] := by rfl) (hdb : (x == ("__debug__" : Str)) = false := by decide) :
    Ev X G W (.Call (.Attribute (.Name x px) "get" apos) [e, d] [] cpos) (kgetF tab f g) := by
  refine ⟨fun pins s σ H Q I q => ?_⟩
  obtain ⟨hs, es, n, hl, hk, hv, hy⟩ := hT
  have hp : PE X (.Name x px) (tC (.ref p)) := pe_glob hg hm (v := .ref p) rfl hdb
  refine wpAny_Call_method hbase hfew hline PySem.F.plainAttrs_dict PySem.F.slot_dict_get PySem.F.type_dict_get (thn (hp.run pins s σ H (fun v H1 => v = .ref p ∧ H1 = H) I ⟨rfl, rfl⟩) fun u s1 ⟨x, H1, I1, rx, ex, eh⟩ => ?_)
  subst ex eh
  obtain rfl : u = Value.ref p := rx
  have hm1 := PySem.W.mapOf_K (prog := X.prog) (w := X.w) I1.kIn hl hk
  refine ⟨hm1.typeIs, hm1.noDict, ?_⟩
  rw [htr]
  obtain ⟨M, r, h, δ, b, q⟩ := q
  refine Calls.callWith_builtin rfl (Calls.evalArgs_plain (Calls.spliced_cons (thn (he.run pins s1 σ H1 _ I1 ⟨M, r, h, δ, b, After.bind q⟩) fun iv s2 ⟨y, H2, I2, ry, q2⟩ => ?_)))
  obtain ⟨dy, M1, r1, h1, st1, b1, rdy, q2⟩ := q2
  refine Calls.spliced_cons (thn (hd.run pins s2 σ H2 _ I2 ⟨M1, r1, h1, δ, b1, After.bind q2⟩) fun fv s3 ⟨z, H3, I3, rz, q3⟩ => Calls.spliced_nil ?_)
  obtain ⟨dz, M2, r2, h2, st2, b2, rdz, q3⟩ := q3
  cases dy with
  | str kx =>
    simp only at q3
    cases hf : findT tab kx with
    | none =>
      rw [hf] at q3
      by_cases ivz : isV dz = true
      · simp only [ivz, if_true] at q3
        cases rdy
        obtain ⟨t, rfl⟩ := (show ∃ t, iv = Value.str kx t from ry)
        have e2 := ns_no hl hk hy hf
        have hm3 := PySem.W.mapOf_K (prog := X.prog) (w := X.w) I3.kIn hl hk
        refine call_meetsIn PySem.F.slot_dict_get hm3.typeIs PySem.F.entry_dict_get (PySem.F.args_dict_get_3 _ _ _) (meets_dict_get_default (strKind X.prog X.w) p (strKind_is X.prog X.w kx t) hs fv) ⟨_, hm3, ?_⟩
        rw [PySem.W.find_K hl e2]
        exact ⟨z, H3, I3.tok _, rz, q3.now b2 rdz⟩
      · simp only [ivz] at q3; exact q3.elim
    | some v =>
      rw [hf] at q3
      cases rdy
      obtain ⟨t, rfl⟩ := (show ∃ t, iv = Value.str kx t from ry)
      obtain ⟨t2, e2⟩ := hv _ (findT_mem hf)
      have hm3 := PySem.W.mapOf_K (prog := X.prog) (w := X.w) I3.kIn hl hk
      refine call_meetsIn PySem.F.slot_dict_get hm3.typeIs PySem.F.entry_dict_get (PySem.F.args_dict_get_3 _ _ _) (meets_dict_get_default (strKind X.prog X.w) p (strKind_is X.prog X.w kx t) hs fv) ⟨_, hm3, ?_⟩
      rw [PySem.W.find_K hl e2]
      exact ⟨.int v, H3, I3.tok _, ⟨t2, rfl⟩, q3.now b2 rfl⟩
  | _ => exact q3.elim
end
end LP
/-! LpJ: int * int or list * int; the law's head. -/
namespace LP
open PySem PySem.Spec PyProof.Rows L2 HT
theorem tuple_mul1 (l : Addr) (items : Array Value) (n : Nat) (dd : Option Addr) (sl : Array (Option Value)) (x : Int) (u : Tok) (c0 : (decide (x < -(2 ^ 63)) || decide (x ≥ 2 ^ 63)) = false) (c1 : (items.isEmpty || x == 1) = true) :
    Meets (Builtin.«tuple.__mul__» ⟨[.ref l, .int x u], []⟩) (fun _ R s => s.heap.get? l = some { cls := .type "tuple", dict := dd, data := .seq items n, slots := sl } ∧
      R (.ok (.ret (Value.ref l))) s) :=
  .of_wp fun prog w A R s h => by
    obtain ⟨hp, g, d, tk, os⟩ := s
    obtain ⟨hl, h⟩ := h
    have f1 := AutoSeq1.idx_int
    wp_walk using wpAny_loadPart' hl
    repeat (first
      | (refine wpAny_ite_false (decide_eq_false (by rw [c0]; exact Bool.false_ne_true)) ?_; wp_walk using wpAny_loadPart' hl)
      | (refine wpAny_ite_true (decide_eq_true c1) ?_; wp_walk using wpAny_loadPart' hl))
    exact ⟨_, rfl, h⟩
def rRepT1 (K : PySem.W.Frag) : R2 := fun x y H Q => ∃ l xs, x = .ref l ∧ y = .int 1 ∧ SqT K H l xs ∧ Q (.ref l) H
theorem op_repT1 {X : Cx} : OpR X (binaryOp .Mult) (rRepT1 X.K) := by
  intro pins s σ H x y v u Q I rx ry h
  obtain ⟨l, xs, rfl, rfl, hT, q⟩ := h
  cases rx
  obtain ⟨t, rfl⟩ := ry
  obtain ⟨its, r, ⟨⟨cls, dd, data, sl⟩, ho, hc, n, hd⟩, hs⟩ := I.tuple hT
  simp only at hc hd
  subst hc hd
  exact wpAny_binaryOp_repeat_ref (T := "tuple") (U := "int") (by decide) ⟨_, ho, rfl⟩ (fun s' => typeIs_int s' 1 t) noFill_tuple_mul F.fills_int_mul F.slot_int_rmul repeat_tuple F.slot_int_index.lookup
    (call_meets F.slot_int_rmul (typeIs_int s 1 t) F.entry_int_rmul (F.args_int_rmul_2 _ _) (int_rmul_tuple 1 t l its.toArray n dd sl)
      ⟨ho, rfl, ⟨_, ho, rfl⟩, call_meets F.slot_tuple_mul ⟨_, ho, rfl⟩ F.entry_tuple_mul (F.args_tuple_mul_2 _ _) (tuple_mul1 l its.toArray n dd sl 1 t (by decide) (by simp)) ⟨ho, ⟨.ref l, H, I.tok _, rfl, q⟩⟩⟩)
section
variable {X : Cx} {G : Cfg} {W : WX}
def mulA (a b : D) (δ : DE) (h : Bx) : R D := match a with
  | .int _ => mulK a b δ h
  | .tup ds => match b with
    | .int k => if k = 1 then .ok (.tup ds) h else if (decide (2 ≤ k ∧ k ≤ 1000 ∧ 0 < ds.length ∧ ds.length ≤ 1000)) = true then .ok (.tup (repD ds k)) h else .bad
    | _ => .bad
  | a => match wrOf δ h a, b with
    | some xs, .int k => if repC xs.length k = true then .ok (.lst (repD xs k)) h else .bad
    | _, _ => .bad
abbrev rMulA (K : PySem.W.Frag) : R2 := fun x y H Q => rI CMul (fun i j => .int (i * j)) x y H Q ∨ rRep x y H Q ∨ rRepT K x y H Q ∨ rRepT1 K x y H Q
theorem op_mulA : OpR X (binaryOp .Mult) (rMulA X.K) := OpR.or op_mul (OpR.or op_rep (OpR.or op_repT op_repT1))
theorem mulA_ok : OpK G W (rMulA G.K) mulA := by
  intro σ δ M r h H x y dx dy Q b rx ry q
  unfold mulA at q
  split at q
  · exact .inl (mulK_ok σ δ M r h H x y _ dy Q b rx ry q)
  · rename_i ds
    split at q
    · rename_i k
      by_cases k1 : k = 1
      · subst k1
        rw [if_pos rfl] at q
        obtain ⟨a, vs, z1, q1, t1⟩ := rx
        cases ry
        subst z1
        exact .inr (.inr (.inr ⟨a, vs, rfl, rfl, sqT_of b q1, q.now b (d := D.tup ds) (v := V.ref a) ⟨a, vs, rfl, q1, t1⟩⟩))
      rw [if_neg k1] at q
      split at q
      · rename_i e
        have e := of_decide_eq_true e
        obtain ⟨a, vs, z1, q1, t1⟩ := rx
        cases ry
        subst z1
        have hl := t1.length
        refine .inr (.inr (.inl ⟨a, k, vs, rfl, rfl, sqT_of b q1, fun z => ?_, e.1, e.2.1, by rw [hl]; exact e.2.2.2, ?_⟩))
        · rw [z] at hl; have := e.2.2.1; rw [← hl] at this; exact Nat.lt_irrefl _ this
        · exact tup_new b (rep_rep t1 _) (by
            rw [rep_len]
            have h1 : k.toNat ≤ 1000 := by omega
            exact Nat.le_trans (Nat.mul_le_mul e.2.2.2 h1) (by decide)) q
      · exact q.elim
    · exact q.elim
  · split at q
    · rename_i xs k e1
      split at q
      · rename_i e
        have e := of_decide_eq_true e
        obtain ⟨a, vs, z1, q1, t1, _⟩ := b.wr rx e1
        cases ry
        subst z1
        exact .inr (.inl ⟨a, k, vs, rfl, rfl, q1, e.1, e.2.1, by rw [t1.length]; exact big_line e.2.2, lst_new b (rep_rep t1 _) (by rw [rep_len]; exact e.2.2) q⟩)
      · exact q.elim
    · exact q.elim
end
/-! ### the law's head -/
def spLaw (n : Nat) (K : PySem.W.Frag) : Sp := fun vs H Q _ => ∃ (a : Addr) (ns : List Int), vs = [.ref a] ∧ ns.length ≤ n ∧ Only H ∧ SqL K H a (ns.map V.int) ∧ ∀ v H', v = .bl true → Q v H'
theorem reps_ints {J : Jd} {M : Imm} {r : List Addr} : ∀ ns : List Int, Reps J M r (ns.map D.int) (ns.map V.int)
  | [] => rfl
  | i :: ns => ⟨_, _, rfl, rfl, reps_ints ns⟩
theorem spLaw_of {n : Nat} {K : PySem.W.Frag} {mg : Str → Option Value} {F : List D → Bx → R D} (hn : n ≤ 1000000) (hF : ∀ ns : List Int, ns.length ≤ n → ∃ h, F [.frz (ns.map D.int)] [] = .ok (.bl true) h) :
    ∀ vs H Q E, spLaw n K vs H Q E → spF K mg [] 1 F vs H Q E := by
  rintro vs H Q E ⟨a, ns, rfl, hl, on, sq, q⟩
  obtain ⟨h', e⟩ := hF ns hl
  have fin : ∀ M, MOk M H → FLst K M a (ns.map V.int) → spF K mg [] 1 F [.ref a] H Q E := fun M mok fl => by
    refine ⟨fun _ _ _ _ _ => False, M, [], [], [.frz (ns.map D.int)], rfl, mok, ⟨rfl, List.nodup_nil, fun n a ds e => by simp at e⟩, fun p hp => by simp at hp, ⟨_, [], rfl, ⟨a, _, rfl, fl, reps_ints ns⟩, rfl⟩, ?_⟩
    rw [e]
    exact fun v M' r' H' _ _ _ _ rp => q v H' rp
  rcases sq with ⟨sq | ⟨o, sq⟩⟩ | ⟨o, its, m, k1, k2, k3, k4, k5, k6⟩
  · rcases on a with z | ⟨o, xs, z⟩
    · rw [sq] at z; cases z
    · rw [sq] at z; cases z
  · refine fin (fun b => if b = a then some (.frz o (.lst (ns.map V.int))) else none) (fun b u e => ?_) (.inl ⟨_, if_pos rfl, .inr ⟨o, rfl⟩⟩)
    simp only at e
    split at e
    · rename_i z
      cases e
      subst z
      exact ⟨by show (ns.map V.int).length ≤ big; rw [List.length_map]; exact Nat.le_trans hl hn, sq⟩
    · cases e
  · refine fin (fun _ => none) (fun b u e => by cases e) (.inr ⟨o, its, m, k1, k2, k3, k4, ?_, k6⟩)
    have := k6.length
    simp only [Array.length_toList, List.length_map] at this
    omega
end LP
/-! LpS: the functions of plain data, applied: rows for simp. -/
namespace LP
open PySem PySem.Spec PyProof.Rows L2 HT
section
variable {δ : DE} {h : Bx} {f g f3 : EF} {k k' : D → D → DE → Bx → R D} {tf tg : DE → Bx → R Bool} {fs : DE → Bx → R (List D)} {sf sg : SF} {i j : Nat} {d e : D} {ds es : List D}
@[simp] theorem varF_ap : varF i δ h = (match δ[i]? with | some (.v d) => .ok d h | some (.own _) => .ok (.loc i) h | _ => .bad) := pr rfl
@[simp] theorem cF_ap : cF d δ h = .ok d h := pr rfl
@[simp] theorem bin2_ap : bin2 k f g δ h = (f δ h).bind fun a h1 => (g δ h1).bind fun b h2 => k a b δ h2 := pr rfl
@[simp] theorem testF_ap : testF f δ h = (f δ h).bind bOf := pr rfl
@[simp] theorem chainF_ap : chainF k k' f g f3 δ h = (f δ h).bind fun a h1 => (g δ h1).bind fun b h2 => (k a b δ h2).bind fun z h3 => match z with
  | .bl true => (f3 δ h3).bind fun c h4 => k' b c δ h4
  | .bl false => .ok (.bl false) h3
  | _ => .bad := pr rfl
@[simp] theorem andT_ap : andT tf tg δ h = (tf δ h).bind fun b h1 => if b = true then tg δ h1 else .ok false h1 := pr rfl
@[simp] theorem orT_ap : orT tf tg δ h = (tf δ h).bind fun b h1 => if b = true then .ok true h1 else tg δ h1 := pr rfl
@[simp] theorem notT_ap : notT tf δ h = (tf δ h).bind fun b h1 => .ok (!b) h1 := pr rfl
@[simp] theorem andV_ap : andV f g δ h = (f δ h).bind fun a h1 => match a with
  | .bl true => g δ h1
  | .bl false => .ok (.bl false) h1
  | _ => .bad := pr rfl
@[simp] theorem orV_ap : orV f g δ h = (f δ h).bind fun a h1 => match a with
  | .bl false => g δ h1
  | .bl true => .ok (.bl true) h1
  | _ => .bad := pr rfl
@[simp] theorem notV_ap : notV f δ h = (f δ h).bind fun a h1 => match a with
  | .bl b => .ok (.bl (!b)) h1
  | _ => .bad := pr rfl
@[simp] theorem iteF_ap : iteF tf f g δ h = (tf δ h).bind fun b h1 => if b = true then f δ h1 else g δ h1 := pr rfl
@[simp] theorem nilA_ap : nilA δ h = .ok [] h := pr rfl
@[simp] theorem consA_ap : consA f fs δ h = (f δ h).bind fun d h1 => (fs δ h1).bind fun ds h2 => .ok (d :: ds) h2 := pr rfl
@[simp] theorem mkD_ap {c : List D → D} : mkD c ds h = if (ds.all isV && decide (ds.length ≤ 1000000)) = true then .ok (c ds) h else .bad := pr rfl
@[simp] theorem tupF_ap : tupF fs δ h = (fs δ h).bind (mkD .tup) := pr rfl
@[simp] theorem lstF_ap : lstF fs δ h = (fs δ h).bind (mkD .lst) := pr rfl
@[simp] theorem isV_int {n : Int} : isV (.int n) = true := pr rfl
@[simp] theorem isV_bl {b : Bool} : isV (.bl b) = true := pr rfl
@[simp] theorem isV_str {b : Str} : isV (.str b) = true := pr rfl
@[simp] theorem isV_non : isV .non = true := pr rfl
@[simp] theorem isV_tup : isV (.tup ds) = true := pr rfl
@[simp] theorem isV_lst : isV (.lst ds) = true := pr rfl
@[simp] theorem isV_frz : isV (.frz ds) = true := pr rfl
@[simp] theorem isV_ptr {n : Nat} : isV (.ptr n) = true := pr rfl
@[simp] theorem isV_loc {n : Nat} : isV (.loc n) = false := pr rfl
@[simp] theorem seqOf_frz : seqOf δ h (.frz ds) = some ds := pr rfl
@[simp] theorem lstOf_frz : lstOf δ h (.frz ds) = some ds := pr rfl
@[simp] theorem lstOf_loc : lstOf δ h (.loc i) = (match δ[i]? with | some (.own ds) => some ds | _ => none) := pr rfl
@[simp] theorem seqOf_loc : seqOf δ h (.loc i) = (match δ[i]? with | some (.own ds) => some ds | _ => none) := pr rfl
@[simp] theorem wrOf_loc : wrOf δ h (.loc i) = (match δ[i]? with | some (.own ds) => some ds | _ => none) := pr rfl
@[simp] theorem lstOf_tup : lstOf δ h (.tup ds) = none := pr rfl
@[simp] theorem lstOf_int {n : Int} : lstOf δ h (.int n) = none := pr rfl
@[simp] theorem lstOf_str {n : Str} : lstOf δ h (.str n) = none := pr rfl
@[simp] theorem lstOf_bl {n : Bool} : lstOf δ h (.bl n) = none := pr rfl
@[simp] theorem lstOf_non : lstOf δ h .non = none := pr rfl
@[simp] theorem i2K_ap {gg : Int → Int → D} {a b : Int} : i2K gg (.int a) (.int b) δ h = .ok (gg a b) h := pr rfl
@[simp] theorem i2KC_ap {C : Int → Int → Bool} {gg : Int → Int → D} {a b : Int} : i2KC C gg (.int a) (.int b) δ h = if C a b = true then .ok (gg a b) h else .bad := pr rfl
@[simp] theorem addK_int {a b : Int} : addK (.int a) (.int b) δ h = .ok (.int (a + b)) h := pr rfl
@[simp] theorem addK_str {a b : Str} : addK (.str a) (.str b) δ h = if a.length + b.length ≤ 1000000 then .ok (.str (a ++ b)) h else .bad := pr rfl
@[simp] theorem addK_tup : addK (.tup ds) (.tup es) δ h = if ds.length + es.length ≤ 1000000 then .ok (.tup (ds ++ es)) h else .bad := pr rfl
@[simp] theorem addK_lst : addK (.lst ds) (.lst es) δ h = if ds.length + es.length ≤ 1000000 then .ok (.lst (ds ++ es)) h else .bad := pr rfl
@[simp] theorem mulA_int {a b : Int} : mulA (.int a) (.int b) δ h = if ((-(2 ^ 64) < a ∧ a < 2 ^ 64) ∨ (-(2 ^ 64) < b ∧ b < 2 ^ 64)) then .ok (.int (a * b)) h else .bad := by
  show (if decide ((-(2 ^ 64) < a ∧ a < 2 ^ 64) ∨ (-(2 ^ 64) < b ∧ b < 2 ^ 64)) = true then R.ok (D.int (a * b)) h else R.bad) = _
  simp only [decide_eq_true_eq]
@[simp] theorem mulA_lst {n : Int} : mulA (.lst ds) (.int n) δ h = if repC ds.length n = true then .ok (.lst (repD ds n)) h else .bad := pr rfl
@[simp] theorem mulA_tup {n : Int} : mulA (.tup ds) (.int n) δ h = if n = 1 then .ok (.tup ds) h else if (decide (2 ≤ n ∧ n ≤ 1000 ∧ 0 < ds.length ∧ ds.length ≤ 1000)) = true then .ok (.tup (repD ds n)) h else .bad := pr rfl
@[simp] theorem negF_ap : negF f δ h = (f δ h).bind fun d h1 => match d with
  | .int i => .ok (.int (-i)) h1
  | _ => .bad := pr rfl
@[simp] theorem ixK_ap {n : Int} : ixK d (.int n) δ h = (match seqOf δ h d with | some ds => (match atI ds n with | some d => .ok d h | none => .bad) | none => .bad) := pr rfl
theorem atI_at {α : Type} {xs : List α} {n : Int} (h0 : 0 ≤ n) (h1 : n < xs.length) : atI xs n = xs[n.toNat]? := by
  unfold atI ixN
  rw [if_pos h0, if_pos h1]
  rfl
theorem atI_nat {α : Type} {xs : List α} {n : Nat} (h1 : n < xs.length) : atI xs (n : Int) = xs[n]? := by
  rw [atI_at (by omega) (by omega)]; rfl
@[simp] theorem atI_lit {n : Nat} : atI ds (no_index (OfNat.ofNat n : Int)) = ds[(OfNat.ofNat n : Nat)]? := by
  by_cases hn : n < ds.length
  · exact atI_nat (n := n) hn
  · have : ds[(OfNat.ofNat n : Nat)]? = none := List.getElem?_eq_none (by show ds.length ≤ n; omega)
    rw [this]
    unfold atI ixN
    show (if 0 ≤ ((n : Nat) : Int) then (if ((n : Nat) : Int) < (ds.length : Int) then some ((n : Nat) : Int).toNat else none) else if -(ds.length : Int) ≤ ((n : Nat) : Int) then some (((n : Nat) : Int) + (ds.length : Int)).toNat else none).bind (fun j => ds[j]?) = none
    rw [if_pos (by omega), if_neg (by omega)]
    rfl
@[simp] theorem noO_ap : noO δ h = .ok none h := pr rfl
@[simp] theorem someO_ap : someO f δ h = (f δ h).bind fun d h1 => match d with
  | .int i => .ok (some i) h1
  | _ => .bad := pr rfl
@[simp] theorem slF_ap {fl fh : DE → Bx → R (Option Int)} : slF f fl fh δ h = (f δ h).bind fun d h1 => (fl δ h1).bind fun lo h2 => (fh δ h2).bind fun hi h3 => match d with
  | .tup ds => .ok (.tup (cutD ds lo hi)) h3
  | d => match lstOf δ h3 d with
    | some ds => .ok (.lst (cutD ds lo hi)) h3
    | none => .bad := pr rfl
@[simp] theorem cutD_nn : cutD ds none none = ds := by unfold cutD; simp [HT.sIx]
theorem sIx_of {n d : Nat} {v : Int} (hv : 0 ≤ v) : HT.sIx n d (some v) = min v.toNat n := by
  show (if v < 0 then (v + (n : Int)).toNat else min v.toNat n) = _
  rw [if_neg (by omega)]
theorem cutD_to {v : Int} (hv : 0 ≤ v) : cutD ds none (some v) = ds.take v.toNat := by
  unfold cutD
  rw [sIx_of hv, HT.sIx_none, List.drop_zero, Nat.sub_zero]
  apply List.ext_getElem?
  intro i
  simp only [List.getElem?_take]
  by_cases h1 : i < v.toNat
  · by_cases h2 : i < ds.length
    · rw [if_pos (by omega), if_pos h1]
    · rw [List.getElem?_eq_none (by omega)]; simp
  · rw [if_neg (by omega), if_neg h1]
theorem cutD_from {v : Int} (hv : 0 ≤ v) : cutD ds (some v) none = ds.drop v.toNat := by
  unfold cutD
  rw [sIx_of hv, HT.sIx_none]
  by_cases h1 : v.toNat ≤ ds.length
  · rw [Nat.min_eq_left h1]
    exact List.take_of_length_le (by rw [List.length_drop]; exact Nat.le_refl _)
  · rw [Nat.min_eq_right (by omega), Nat.sub_self, List.take_zero, List.drop_eq_nil_of_le (by omega)]
@[simp] theorem cutD_to_lit {n : Nat} : cutD ds none (some (no_index (OfNat.ofNat n : Int))) = ds.take (OfNat.ofNat n) := cutD_to (by show (0 : Int) ≤ (n : Int); omega)
@[simp] theorem cutD_from_lit {n : Nat} : cutD ds (some (no_index (OfNat.ofNat n : Int))) none = ds.drop (OfNat.ofNat n) := cutD_from (by show (0 : Int) ≤ (n : Int); omega)
@[simp] theorem revF_ap : revF f δ h = (f δ h).bind fun d h1 => revK d δ h1 := pr rfl
@[simp] theorem revK_tup : revK (.tup ds) δ h = .ok (.tup ds.reverse) h := pr rfl
@[simp] theorem revK_lst : revK (.lst ds) δ h = .ok (.lst ds.reverse) h := pr rfl
@[simp] theorem seqS_ap : seqS sf sg δ h = (match sf δ h with | .nx δ' h' => sg δ' h' | x => x) := pr rfl
@[simp] theorem exprS_ap : exprS f δ h = (f δ h).toS δ fun _ h1 => .nx δ h1 := pr rfl
@[simp] theorem retS_ap : retS f δ h = (f δ h).toS δ (retK δ) := pr rfl
@[simp] theorem retK_int {n : Int} : retK δ (.int n) h = .rt (.int n) h := pr rfl
@[simp] theorem retK_bl {n : Bool} : retK δ (.bl n) h = .rt (.bl n) h := pr rfl
@[simp] theorem retK_str {n : Str} : retK δ (.str n) h = .rt (.str n) h := pr rfl
@[simp] theorem retK_non : retK δ .non h = .rt .non h := pr rfl
@[simp] theorem retK_tup : retK δ (.tup ds) h = .rt (.tup ds) h := pr rfl
@[simp] theorem retK_lst : retK δ (.lst ds) h = .rt (.lst ds) h := pr rfl
@[simp] theorem retK_ptr : retK δ (.ptr i) h = .rt (.ptr i) h := pr rfl
@[simp] theorem retK_loc : retK δ (.loc i) h = (match δ[i]? with | some (.own ds) => .rt (.lst ds) h | _ => .bad) := pr rfl
theorem retK_v (e : isV d = true) : retK δ d h = .rt d h := by cases d <;> first | rfl | cases e
@[simp] theorem ifS_ap : ifS tf sf sg δ h = (tf δ h).toS δ fun c h1 => if c = true then sf δ h1 else sg δ h1 := pr rfl
@[simp] theorem setS_ap : setS i f δ h = (f δ h).toS δ fun d h1 => if isV d = true then .nx (δ.set i (.v d)) h1 else .bad := pr rfl
@[simp] theorem frzS_ap : frzS i sf δ h = (match δ[i]? with | some (.own ds) => sf (δ.set i (.v (.lst ds))) h | _ => .bad) := pr rfl
@[simp] theorem valN_ap : valN fs δ h = (fs δ h).bind fun ds h1 => .ok (.lst ds) h1 := pr rfl
@[simp] theorem boxN_ap : boxN fs δ h = (fs δ h).bind fun ds h1 => .ok (.ptr h1.length) (h1 ++ [ds]) := pr rfl
@[simp] theorem lstN_ap : lstN fs δ h = (fs δ h).bind fun ds h1 => if (ds.all isV && decide (ds.length ≤ 1000000)) = true then .ok ds h1 else .bad := pr rfl
@[simp] theorem ownS_ap : ownS i fs δ h = (fs δ h).toS δ fun ds h1 => .nx (δ.set i (.own ds)) h1 := pr rfl
@[simp] theorem itemsI_ap : itemsI f δ h = (f δ h).bind fun d h1 => match immOf d with | some ds => .ok ds h1 | none => .bad := pr rfl
@[simp] theorem immOf_tup : immOf (.tup ds) = some ds := pr rfl
@[simp] theorem immOf_lst : immOf (.lst ds) = some ds := pr rfl
@[simp] theorem immOf_frz : immOf (.frz ds) = some ds := pr rfl
@[simp] theorem rg1K_ap {n : Int} : rg1K [.int n] h = if rgC n = true then .ok (rgD 0 n) h else .bad := pr rfl
@[simp] theorem zipK_tup : zipK [.tup ds, .tup es] h = .ok (zipD ds es) h := pr rfl
@[simp] theorem zipK_lst : zipK [.lst ds, .lst es] h = .ok (zipD ds es) h := pr rfl
@[simp] theorem enumK_tup : enumK [.tup ds] δ h = .ok (enumD ds) h := pr rfl
@[simp] theorem enumK_lst : enumK [.lst ds] δ h = .ok (enumD ds) h := pr rfl
@[simp] theorem nameU_ap : nameU i d δ = some (δ.set i (.v d)) := pr rfl
@[simp] theorem nilU_ap : nilU [] δ = some δ := pr rfl
@[simp] theorem consU_ap {u : D → DE → Option DE} {us : List D → DE → Option DE} : consU u us (d :: ds) δ = (u d δ).bind fun δ' => us ds δ' := pr rfl
@[simp] theorem tupU_lst {n : Nat} {us : List D → DE → Option DE} : tupU n us (.lst ds) δ = if ds.length = n then us ds δ else none := pr rfl
@[simp] theorem tupU_ap {n : Nat} {us : List D → DE → Option DE} : tupU n us (.tup ds) δ = if ds.length = n then us ds δ else none := pr rfl
@[simp] theorem asgS_ap {u : D → DE → Option DE} : asgS u f δ h = (f δ h).toS δ fun d h1 => if isV d = true then match u d δ with | some δ' => .nx δ' h1 | none => .bad else .bad := pr rfl
@[simp] theorem forS_ap {gi : DE → Bx → R (List D)} {u : D → DE → Option DE} : forS gi u sf δ h = (gi δ h).toS δ fun ds h1 => forF u sf ds δ h1 := pr rfl
@[simp] theorem lcN_ap {gi : DE → Bx → R (List D)} {vs : List Nat} {u : D → DE → Option DE} {ef : EF} : lcN gi vs u tf ef δ h = (gi δ h).bind fun ds h1 => if ds.length ≤ 1000000 then compF u tf ef (wipeD δ vs) ds h1 else .bad := pr rfl
@[simp] theorem wipeD_nil : wipeD δ [] = δ := pr rfl
@[simp] theorem wipeD_cons {vs : List Nat} : wipeD δ (i :: vs) = (wipeD δ vs).set i .no := pr rfl
@[simp] theorem yesF_ap : yesF δ h = .ok true h := pr rfl
@[simp] theorem callF_ap {F : List D → Bx → R D} : callF F fs δ h = (fs δ h).bind fun ds h1 => if ds.all isV = true then F ds h1 else .bad := pr rfl
@[simp] theorem nArgs_1 {F : List D → Bx → R D} {a : D} : nArgs 1 F [a] h = F [a] h := pr rfl
@[simp] theorem nArgs_2 {F : List D → Bx → R D} {a b : D} : nArgs 2 F [a, b] h = F [a, b] h := pr rfl
@[simp] theorem nArgs_3 {F : List D → Bx → R D} {a b c : D} : nArgs 3 F [a, b, c] h = F [a, b, c] h := pr rfl
@[simp] theorem nArgs_4 {F : List D → Bx → R D} {a b c d : D} : nArgs 4 F [a, b, c, d] h = F [a, b, c, d] h := pr rfl
@[simp] theorem nArgs_5 {F : List D → Bx → R D} {a b c d e : D} : nArgs 5 F [a, b, c, d, e] h = F [a, b, c, d, e] h := pr rfl
@[simp] theorem nArgs_6 {F : List D → Bx → R D} {a b c d e f : D} : nArgs 6 F [a, b, c, d, e, f] h = F [a, b, c, d, e, f] h := pr rfl
@[simp] theorem blt_ap {kk : List D → DE → Bx → R D} : blt kk fs δ h = (fs δ h).bind fun ds h1 => kk ds δ h1 := pr rfl
@[simp] theorem lenK_tup : lenK [.tup ds] δ h = .ok (.int ds.length) h := pr rfl
@[simp] theorem lenK_lst : lenK [.lst ds] δ h = .ok (.int ds.length) h := pr rfl
@[simp] theorem lenK_frz : lenK [.frz ds] δ h = .ok (.int ds.length) h := pr rfl
@[simp] theorem lenK_loc : lenK [.loc i] δ h = (match δ[i]? with | some (.own ds) => .ok (.int ds.length) h | _ => .bad) := by
  show (match lstOf δ h (.loc i) with | some es => R.ok (D.int es.length) h | none => R.bad) = _
  rw [lstOf_loc]
  cases δ[i]? with
  | none => rfl
  | some s => cases s <;> rfl
@[simp] theorem absK_ap {n : Int} : absK [.int n] δ h = .ok (.int (if n < 0 then -n else n)) h := pr rfl
@[simp] theorem intK_int {n : Int} : intK [.int n] δ h = .ok (.int n) h := pr rfl
@[simp] theorem intK_bl {n : Bool} : intK [.bl n] δ h = .ok (.int (if n = true then 1 else 0)) h := pr rfl
@[simp] theorem tupK_tup : tupK [.tup ds] δ h = .ok (.tup ds) h := pr rfl
@[simp] theorem tupK_lst : tupK [.lst ds] δ h = .ok (.tup ds) h := pr rfl
@[simp] theorem tupK_loc : tupK [.loc i] δ h = (match δ[i]? with | some (.own ds) => .ok (.tup ds) h | _ => .bad) := by
  show (match lstOf δ h (.loc i) with | some es => R.ok (D.tup es) h | none => R.bad) = _
  rw [lstOf_loc]
  cases δ[i]? with
  | none => rfl
  | some s => cases s <;> rfl
@[simp] theorem listN_ap : listN fs δ h = (fs δ h).bind fun ds h1 => match ds with
  | [d] => match seqOf δ h1 d with
    | some es => if es.length ≤ 1000000 then .ok es h1 else .bad
    | none => .bad
  | _ => .bad := pr rfl
@[simp] theorem allK_lst : allK [.lst ds] δ h = (match bls ds with | some bs => .ok (.bl (bs.all id)) h | none => .bad) := pr rfl
@[simp] theorem anyK_lst : anyK [.lst ds] δ h = (match bls ds with | some bs => .ok (.bl (bs.any id)) h | none => .bad) := pr rfl
@[simp] theorem isiF_ap {T : List String} : isiF T f δ h = (f δ h).bind fun d h1 => isiR T d h1 := pr rfl
@[simp] theorem isiR_int {T : List String} {n : Int} : isiR T (.int n) h = .ok (.bl (T.any (isT "int"))) h := pr rfl
@[simp] theorem isiR_bl {T : List String} {n : Bool} : isiR T (.bl n) h = .ok (.bl (T.any (isT "bool"))) h := pr rfl
@[simp] theorem isiR_str {T : List String} {n : Str} : isiR T (.str n) h = .ok (.bl (T.any (isT "str"))) h := pr rfl
@[simp] theorem isiR_non {T : List String} : isiR T .non h = .ok (.bl (T.any (isT "NoneType"))) h := pr rfl
@[simp] theorem isiR_tup {T : List String} : isiR T (.tup ds) h = .ok (.bl (T.any (isT "tuple"))) h := pr rfl
@[simp] theorem isiR_lst {T : List String} : isiR T (.lst ds) h = .ok (.bl (T.any (isT "list"))) h := pr rfl
@[simp] theorem ty_int {n : Int} : D.ty (.int n) = "int" := pr rfl
@[simp] theorem ty_bl {n : Bool} : D.ty (.bl n) = "bool" := pr rfl
@[simp] theorem ty_str {n : Str} : D.ty (.str n) = "str" := pr rfl
@[simp] theorem ty_non : D.ty .non = "NoneType" := pr rfl
@[simp] theorem ty_tup : D.ty (.tup ds) = "tuple" := pr rfl
@[simp] theorem ty_lst : D.ty (.lst ds) = "list" := pr rfl
@[simp] theorem isT_ap {t T : String} : isT t T = (t == T || (t == "bool" && T == "int")) := pr rfl
@[simp] theorem methS_ap {kk : List D → D → DE → Bx → Option (List D)} : methS i f kk δ h = if (wrS i δ h).isSome = true then (f δ h).toS δ fun d h1 => match wrS i δ h1 with
  | some ds => match kk ds d δ h1 with
    | some es => .nx (putS i δ h1 es).1 (putS i δ h1 es).2
    | none => .bad
  | none => .bad
else .bad := pr rfl
@[simp] theorem appK_ap : appK ds d δ h = if (isV d && decide (ds.length < 1000000)) = true then some (ds ++ [d]) else none := pr rfl
@[simp] theorem extK_ap : extK ds d δ h = (match wrOf δ h d with | some es => if ds.length + es.length ≤ 1000000 then some (ds ++ es) else none | none => none) := pr rfl
@[simp] theorem popS_ap : popS i j δ h = (match wrS i δ h with
  | some ds => match ds.getLast? with
    | some d => if isV d = true then .nx ((putS i δ h ds.dropLast).1.set j (.v d)) (putS i δ h ds.dropLast).2 else .bad
    | none => .bad
  | none => .bad) := pr rfl
@[simp] theorem setiS_ap : setiS i f g δ h = (g δ h).toS δ fun d h1 => if (wrS i δ h1).isSome = true then (f δ h1).toS δ fun n h2 => match n with
  | .int k => match wrS i δ h2 with
    | some ds => match ixN ds.length k with
      | some j => if isV d = true then .nx (putS i δ h2 (ds.set j d)).1 (putS i δ h2 (ds.set j d)).2 else .bad
      | none => .bad
    | none => .bad
  | _ => .bad
else .bad := pr rfl
@[simp] theorem wrS_ap : wrS i δ h = (match δ[i]? with | some (.own ds) => some ds | some (.v (.ptr n)) => h[n]? | _ => none) := pr rfl
@[simp] theorem putS_ap : putS i δ h ds = (match δ[i]? with | some (.v (.ptr n)) => (δ, h.set n ds) | _ => (δ.set i (.own ds), h)) := pr rfl
theorem ixN_at {m : Nat} {n : Int} (h0 : 0 ≤ n) (h1 : n < m) : ixN m n = some n.toNat := by
  unfold ixN
  rw [if_pos h0, if_pos h1]
@[simp] theorem ixN_lit {m n : Nat} : ixN m (no_index (OfNat.ofNat n : Int)) = if n < m then some (OfNat.ofNat n) else none := by
  unfold ixN
  show (if 0 ≤ ((n : Nat) : Int) then (if ((n : Nat) : Int) < (m : Int) then some ((n : Nat) : Int).toNat else none) else if -(m : Int) ≤ ((n : Nat) : Int) then some (((n : Nat) : Int) + (m : Int)).toNat else none) = _
  rw [if_pos (by omega)]
  by_cases hn : n < m
  · rw [if_pos (by omega), if_pos hn]; rfl
  · rw [if_neg (by omega), if_neg hn]
@[simp] theorem parS_ap {gs : DE → Bx → R (List SV)} {is : List Nat} : parS is gs δ h = (gs δ h).toS δ fun ss h1 => match putX δ is ss with | some δ' => .nx δ' h1 | none => .bad := pr rfl
@[simp] theorem nilX_ap : nilX δ h = .ok [] h := pr rfl
@[simp] theorem consX_ap {gs : DE → Bx → R (List SV)} : consX f gs δ h = (f δ h).bind fun d h1 => if isV d = true then (gs δ h1).bind fun ds h2 => .ok (.v d :: ds) h2 else .bad := pr rfl
@[simp] theorem consXN_ap {gs : DE → Bx → R (List SV)} : consXN fs gs δ h = (fs δ h).bind fun d h1 => (gs δ h1).bind fun ds h2 => .ok (.own d :: ds) h2 := pr rfl
@[simp] theorem putX_nil : putX δ [] [] = some δ := pr rfl
@[simp] theorem putX_cons {is : List Nat} {s : SV} {ss : List SV} : putX δ (i :: is) (s :: ss) = putX (δ.set i s) is ss := pr rfl
@[simp] theorem addN_ap : addN f g δ h = (f δ h).bind fun a h1 => (g δ h1).bind fun b h2 => match wrOf δ h2 a, wrOf δ h2 b with
  | some xs, some ys => if xs.length + ys.length ≤ 1000000 then .ok (xs ++ ys) h2 else .bad
  | _, _ => .bad := pr rfl
@[simp] theorem repN_ap : repN f g δ h = (f δ h).bind fun a h1 => (g δ h1).bind fun b h2 => match wrOf δ h2 a, b with
  | some xs, .int k => if repC xs.length k = true then .ok (repD xs k) h2 else .bad
  | _, _ => .bad := pr rfl
@[simp] theorem kgetF_ap {tab : List (Str × Int)} : kgetF tab f g δ h = (f δ h).bind fun d h1 => (g δ h1).bind fun d2 h2 => match d with
  | .str x => match findT tab x with
    | some v => .ok (.int v) h2
    | none => if isV d2 = true then .ok d2 h2 else .bad
  | _ => .bad := pr rfl
theorem runF_ap {n : Nat} : runF n sf ds h = (sf (startD n ds) h).fin := pr rfl
@[simp] theorem eqK_ap {ng : Bool} : eqK ng d e δ h = if ((vw δ h d).pure && (vw δ h e).pure && decide (min (vw δ h d).dep (vw δ h e).dep ≤ 64)) = true then .ok (.bl (if ng then !D.eq (vw δ h d) (vw δ h e) else D.eq (vw δ h d) (vw δ h e))) h else .bad := pr rfl
@[simp] theorem inK_ap {ng : Bool} : inK ng d e δ h = (match seqOf δ h e with
  | some ds => if ((vw δ h d).pure && D.pures ds && decide (min (D.deps ds) (vw δ h d).dep ≤ 60)) = true then
      .ok (.bl (if ng then !ds.any (fun z => D.eq z (vw δ h d)) else ds.any fun z => D.eq z (vw δ h d))) h else .bad
  | none => .bad) := pr rfl
@[simp] theorem vw_int {n : Int} : vw δ h (.int n) = .int n := pr rfl
@[simp] theorem vw_bl {n : Bool} : vw δ h (.bl n) = .bl n := pr rfl
@[simp] theorem vw_str {n : Str} : vw δ h (.str n) = .str n := pr rfl
@[simp] theorem vw_non : vw δ h .non = .non := pr rfl
@[simp] theorem vw_tup : vw δ h (.tup ds) = .tup ds := pr rfl
@[simp] theorem vw_lst : vw δ h (.lst ds) = .lst ds := pr rfl
@[simp] theorem pure_int {n : Int} : D.pure (.int n) = true := pr rfl
@[simp] theorem pure_bl {n : Bool} : D.pure (.bl n) = true := pr rfl
@[simp] theorem pure_str {n : Str} : D.pure (.str n) = true := pr rfl
@[simp] theorem pure_non : D.pure .non = true := pr rfl
@[simp] theorem pure_tup : D.pure (.tup ds) = D.pures ds := pr rfl
@[simp] theorem pure_lst : D.pure (.lst ds) = D.pures ds := pr rfl
@[simp] theorem pures_nil : D.pures [] = true := pr rfl
@[simp] theorem pures_cons : D.pures (d :: ds) = (d.pure && D.pures ds) := pr rfl
@[simp] theorem dep_int {n : Int} : D.dep (.int n) = 0 := pr rfl
@[simp] theorem dep_bl {n : Bool} : D.dep (.bl n) = 0 := pr rfl
@[simp] theorem dep_str {n : Str} : D.dep (.str n) = 0 := pr rfl
@[simp] theorem dep_non : D.dep .non = 0 := pr rfl
@[simp] theorem dep_tup : D.dep (.tup ds) = D.deps ds + 1 := pr rfl
@[simp] theorem dep_lst : D.dep (.lst ds) = D.deps ds + 1 := pr rfl
@[simp] theorem deps_nil : D.deps [] = 0 := pr rfl
@[simp] theorem deps_cons : D.deps (d :: ds) = max d.dep (D.deps ds) := pr rfl
/-- == of two rows -/
def D.eqs (as bs : List D) : Bool := PyData.eqvAll (D.pys as) (D.pys bs)
@[simp] theorem eq_int {a b : Int} : D.eq (.int a) (.int b) = decide (a = b) := by
  show (a == b) = _
  by_cases h : a = b
  · subst h; simp
  · simp [h]
@[simp] theorem eq_str {a b : Str} : D.eq (.str a) (.str b) = decide (a = b) := by
  show (a == b) = _
  by_cases h : a = b
  · subst h; simp
  · simp [h]
@[simp] theorem eq_tup {a b : List D} : D.eq (.tup a) (.tup b) = D.eqs a b := pr rfl
@[simp] theorem eq_lst {a b : List D} : D.eq (.lst a) (.lst b) = D.eqs a b := pr rfl
@[simp] theorem eqs_nil : D.eqs [] [] = true := pr rfl
@[simp] theorem eqs_cons {a b : List D} : D.eqs (d :: a) (e :: b) = (D.eq d e && D.eqs a b) := pr rfl
@[simp] theorem eqs_nc {a : List D} : D.eqs [] (d :: a) = false := pr rfl
@[simp] theorem eqs_cn {a : List D} : D.eqs (d :: a) [] = false := pr rfl
theorem eq_refl (d : D) : D.eq d d = true := PySem.SeqAt.eqv_refl_plain _ (plain_py d)
theorem eqs_refl (ds : List D) : D.eqs ds ds = true := eq_refl (.tup ds)
@[simp] theorem set_concat {α : Type} {hs : List α} {b c : α} : (hs ++ [b]).set hs.length c = hs ++ [c] := by
  rw [List.set_append_right _ _ (Nat.le_refl _), Nat.sub_self]; rfl
end
end LP
/-! LpT: loops and comprehensions over plain data, by their turns. -/
namespace LP
open PySem PySem.Spec PyProof.Rows L2 HT
inductive All2 {α β : Type} (Q : α → β → Prop) : List α → List β → Prop
  | nil : All2 Q [] []
  | cons {a : α} {b : β} {as : List α} {bs : List β} : Q a b → All2 Q as bs → All2 Q (a :: as) (b :: bs)
theorem All2.length {α β : Type} {Q : α → β → Prop} : ∀ {as : List α} {bs : List β}, All2 Q as bs → bs.length = as.length
  | _, _, .nil => rfl
  | _, _, .cons _ t => by simp [t.length]
section
variable {δ : DE} {h : Bx} {u : D → DE → Option DE} {tf : DE → Bx → R Bool} {ef : EF} {sf : SF}
@[simp] theorem quiet_ok {α : Type} {a : α} : quiet (.ok a h : R α) = .ok a h := pr rfl
/-- [ef for d in ds], nothing written -/
theorem compF_map {g : D → D} : ∀ {ds : List D}, (∀ d ∈ ds, ∃ δ1, u d δ = some δ1 ∧ ef δ1 h = .ok (g d) h ∧ isV (g d) = true) → compF u yesF ef δ ds h = .ok (ds.map g) h
  | [], _ => rfl
  | d :: ds, H => by
    obtain ⟨δ1, e1, e2, e3⟩ := H d (List.mem_cons_self ..)
    have ih := compF_map (g := g) (ds := ds) fun d hd => H d (List.mem_cons_of_mem _ hd)
    unfold compF
    simp [e1, e2, e3, ih]
/-- [ef for d in ds if tf], nothing written -/
theorem compF_filter {g : D → D} {p : D → Bool} : ∀ {ds : List D}, (∀ d ∈ ds, ∃ δ1, u d δ = some δ1 ∧ tf δ1 h = .ok (p d) h ∧ (p d = true → ef δ1 h = .ok (g d) h ∧ isV (g d) = true)) → compF u tf ef δ ds h = .ok ((ds.filter p).map g) h
  | [], _ => rfl
  | d :: ds, H => by
    obtain ⟨δ1, e1, e2, e3⟩ := H d (List.mem_cons_self ..)
    have ih := compF_filter (g := g) (p := p) (ds := ds) fun d hd => H d (List.mem_cons_of_mem _ hd)
    unfold compF
    cases hp : p d with
    | true =>
      obtain ⟨e4, e5⟩ := e3 hp
      simp [e1, e2, hp, e4, e5, ih]
    | false => simp [e1, e2, hp, ih]
/-- [ef for d in ds], what is written is handed on -/
theorem compF_st {P : Bx → Prop} {Q : D → D → Prop} : ∀ {ds : List D} {h : Bx}, P h → (∀ d ∈ ds, ∀ h, P h → ∃ δ1 y h', u d δ = some δ1 ∧ ef δ1 h = .ok y h' ∧ isV y = true ∧ Q d y ∧ P h') →
    ∃ ys h', compF u yesF ef δ ds h = .ok ys h' ∧ P h' ∧ All2 Q ds ys
  | [], h, hp, _ => ⟨[], h, rfl, hp, .nil⟩
  | d :: ds, h, hp, H => by
    obtain ⟨δ1, y, h1, e1, e2, e3, e4, e5⟩ := H d (List.mem_cons_self ..) h hp
    obtain ⟨ys, h2, f1, f2, f3⟩ := compF_st (ds := ds) e5 fun d hd => H d (List.mem_cons_of_mem _ hd)
    refine ⟨y :: ys, h2, ?_, f2, .cons e4 f3⟩
    unfold compF
    simp [e1, e2, e3, f1]
/-- a for whose turns go on: what holds between two turns -/
theorem forF_inv {P : List D → DE → Bx → Prop} : ∀ {ds : List D} {δ : DE} {h : Bx}, P ds δ h → (∀ d ds δ h, P (d :: ds) δ h → ∃ δ1 δ2 h2, u d δ = some δ1 ∧ (sf δ1 h = .nx δ2 h2 ∨ sf δ1 h = .ct δ2 h2) ∧ P ds δ2 h2) →
    ∃ δ' h', forF u sf ds δ h = .nx δ' h' ∧ P [] δ' h'
  | [], δ, h, hp, _ => ⟨δ, h, rfl, hp⟩
  | d :: ds, δ, h, hp, H => by
    obtain ⟨δ1, δ2, h2, e1, e2, e3⟩ := H d ds δ h hp
    obtain ⟨δ', h', f1, f2⟩ := forF_inv (ds := ds) e3 H
    refine ⟨δ', h', ?_, f2⟩
    unfold forF
    rcases e2 with e2 | e2 <;> simp [e1, e2, f1]
theorem forF_nil : forF u sf [] δ h = .nx δ h := rfl
theorem forF_nx {d : D} {ds : List D} {δ1 δ2 : DE} {h2 : Bx} (e1 : u d δ = some δ1) (e2 : sf δ1 h = .nx δ2 h2) : forF u sf (d :: ds) δ h = forF u sf ds δ2 h2 := by
  rw [forF]; simp only [e1, e2]
theorem forF_ct {d : D} {ds : List D} {δ1 δ2 : DE} {h2 : Bx} (e1 : u d δ = some δ1) (e2 : sf δ1 h = .ct δ2 h2) : forF u sf (d :: ds) δ h = forF u sf ds δ2 h2 := by
  rw [forF]; simp only [e1, e2]
theorem forF_bk {d : D} {ds : List D} {δ1 δ2 : DE} {h2 : Bx} (e1 : u d δ = some δ1) (e2 : sf δ1 h = .bk δ2 h2) : forF u sf (d :: ds) δ h = .nx δ2 h2 := by
  rw [forF]; simp only [e1, e2]
theorem forF_rt {d v : D} {ds : List D} {δ1 : DE} {h2 : Bx} (e1 : u d δ = some δ1) (e2 : sf δ1 h = .rt v h2) : forF u sf (d :: ds) δ h = .rt v h2 := by
  rw [forF]; simp only [e1, e2]
theorem whileF_nx {n : Nat} {δ2 : DE} {h1 h2 : Bx} (e1 : tf δ h = .ok true h1) (e2 : sf δ h1 = .nx δ2 h2) : whileF tf sf (n + 1) δ h = whileF tf sf n δ2 h2 := by
  rw [whileF]; simp [e1, e2]
theorem whileF_end {n : Nat} {h1 : Bx} (e1 : tf δ h = .ok false h1) : whileF tf sf (n + 1) δ h = .nx δ h1 := by
  rw [whileF]; simp [e1]
end
/-! ### small numbers as data -/
def nD (n : Nat) : D := .int n
def nsD (l : List Nat) : List D := l.map nD
@[simp] theorem isV_nD {n : Nat} : isV (nD n) = true := pr rfl
@[simp] theorem nsD_length {l : List Nat} : (nsD l).length = l.length := by simp [nsD]
/-- the number at i -/
def nth (l : List Nat) (i : Nat) : Nat := l.getD i 0
theorem nth_eq {l : List Nat} {i : Nat} (h : i < l.length) : nth l i = l[i] := by
  unfold nth
  rw [List.getD_eq_getElem?_getD, List.getElem?_eq_getElem h]; rfl
theorem nsD_get {l : List Nat} {i : Nat} (h : i < l.length) : (nsD l)[i]? = some (.int (nth l i)) := by
  simp [nsD, List.getElem?_map, List.getElem?_eq_getElem h, nth_eq h, nD]
theorem nsD_at {l : List Nat} {i : Nat} (h : i < l.length) : atI (nsD l) (i : Int) = some (.int (nth l i)) := by
  rw [atI_nat (by simpa using h), nsD_get h]
@[simp] theorem pure_nD {n : Nat} : (nD n).pure = true := pr rfl
@[simp] theorem dep_nD {n : Nat} : (nD n).dep = 0 := pr rfl
@[simp] theorem pures_nsD {l : List Nat} : D.pures (nsD l) = true := by
  induction l with
  | nil => rfl
  | cons a l ih => show (true && D.pures (nsD l)) = true; rw [ih]; rfl
@[simp] theorem deps_nsD {l : List Nat} : D.deps (nsD l) = 0 := by
  induction l with
  | nil => rfl
  | cons a l ih => show max 0 (D.deps (nsD l)) = 0; rw [ih]; rfl
@[simp] theorem bls_nil : bls [] = some [] := pr rfl
@[simp] theorem bls_cons {b : Bool} {ds : List D} : bls (.bl b :: ds) = (bls ds).map (b :: ·) := pr rfl
@[simp] theorem bls_trues {α : Type} {l : List α} : bls (l.map fun _ => D.bl true) = some (l.map fun _ => true) := by
  have := bls_map (l.map fun _ => true)
  rw [List.map_map] at this
  exact this
@[simp] theorem bls_trues2 {α β : Type} {g : α → β} {l : List α} : bls (l.map ((fun _ => D.bl true) ∘ g)) = some (l.map fun _ => true) := bls_trues
theorem all_trues {α : Type} {l : List α} : (l.map fun _ => true).all id = true := by
  induction l with
  | nil => rfl
  | cons a l ih => simp
@[simp] theorem pures_append {a b : List D} : D.pures (a ++ b) = (D.pures a && D.pures b) := by
  induction a with
  | nil => rfl
  | cons d a ih => show (d.pure && D.pures (a ++ b)) = ((d.pure && D.pures a) && D.pures b); rw [ih, Bool.and_assoc]
@[simp] theorem deps_append {a b : List D} : D.deps (a ++ b) = max (D.deps a) (D.deps b) := by
  induction a with
  | nil => show D.deps b = max 0 _; omega
  | cons d a ih => show max d.dep (D.deps (a ++ b)) = max (max d.dep (D.deps a)) _; rw [ih]; omega
theorem pures_all {a : List D} (h : ∀ d ∈ a, d.pure = true) : D.pures a = true := by
  induction a with
  | nil => rfl
  | cons d a ih => show (d.pure && D.pures a) = true; rw [h d (List.mem_cons_self ..), ih fun d hd => h d (List.mem_cons_of_mem _ hd)]; rfl
theorem deps_le {a : List D} {n : Nat} (h : ∀ d ∈ a, d.dep ≤ n) : D.deps a ≤ n := by
  induction a with
  | nil => exact Nat.zero_le _
  | cons d a ih =>
    have h1 := h d (List.mem_cons_self ..)
    have h2 := ih fun d hd => h d (List.mem_cons_of_mem _ hd)
    show max d.dep (D.deps a) ≤ n
    omega
end LP
/-! LpK: an own exception whose __init__ says super().__init__(text); self.f = x. -/
namespace LP
open PySem PySem.Spec PyProof.Rows L2 HT
open PySem.W (Frag)
abbrev exT : List Value := [.type "Exception", .type "BaseException", .type "object"]
/-- own classes, then Exception's mro -/
def refsE (l : List Value) : Bool := PySem.W.excTail exT l
theorem refsE_contains (X : String) (l : List Value) (h : refsE l = true) : l.contains (.type X) = exT.contains (.type X) := PySem.W.excTail_contains X l h
theorem refsE_pass (self : Value) (l : List Value) (h : refsE l = true) : refuseLoop self "__setattr__" l = pure () := PySem.W.excTail_pass self (F.store_Exception.passes self) l h
section
open Builtin Builtin.ObjectAttr PySem.W
variable {prog : Program} {w : World} {A : Around} {E : Value → Shared → Prop} {R : Result → Shared → Prop} {hp : Heap} {g : Array GenState} {d : Drawn} {t : Nat} {os : OsState}
/-- x.name = v on an exception that has no dict yet -/
theorem osa_newE {K : Frag} {name : Str} {tk : Tok} {v : Value} {x C : Addr} {fv : Array Value} {cd : ClassData}
    (X : K.In hp) (hx : hp.get? x = some { cls := .ref C, data := .fields fv }) (hcd : clsIn K C = some cd) (hm : refsE cd.mro = true) (hh : cd.hasDict = true) (ha : findIn K (.ref C) name = some none)
    (hq : ∀ h' tk' dx, (∀ b o, b ≠ x → hp.get? b = some o → h'.get? b = some o) → hp.objs.size ≤ dx → dx ≠ x → h'.get? x = some { cls := .ref C, dict := some dx, data := .fields fv } →
      h'.Ns1 dx (fun y => if y = name then some v else none) → R (.ok (.ret .none)) ⟨h', g, d, tk', os⟩) :
    codeAny (model prog w) A (.call (.builtin "object.__setattr__") ⟨[.ref x, .str name tk, v], []⟩) R ⟨hp, g, d, t, os⟩ := by
  have I : InstAt hp x { cls := .ref C, data := .fields fv } C none := ⟨hx, rfl, rfl, trivial⟩
  have SF := F.store_object
  have hob : cd.mro.contains (.type "object") = true := (refsE_contains "object" _ hm).trans (by decide +kernel)
  have ne : cd.mro.isEmpty = false := by
    cases h : cd.mro with
    | nil => rw [h] at hob; cases hob
    | cons _ _ => rfl
  have hxs : x ≠ hp.objs.size := Nat.ne_of_lt (Heap.lt_size hx)
  have sub : Looks (model prog w) hp (isInstance (.ref x) (.type "object")) true := I.type.andThen (looks_mroIn X (by unfold mroIn; rw [hcd, Option.bind_some, if_neg (by rw [ne]; decide), hob]))
  refine codeAny_call_builtin SF.slot.plain SF.entry (@check_slot (model prog w) _ _ ⟨hp, g, d, t, os⟩ "object.__setattr__" "object" "__setattr__" (.ref x) [.str name tk, v] [] _ SF.kind SF.split sub (SF.args (.ref x) (.str name tk) v) ?_)
  have hmr : Looks (model prog w) hp (mroOf (.ref C)) cd.mro := (looks_clsIn X hcd).andThen .now
  have L3 : Looks (model prog w) hp (storeTaker? none) none := .now
  have hcls : Looks (model prog w) hp (classData C) cd := looks_clsIn X hcd
  rw [osa_eq, refuse_eq]
  refine wpAny_bind (wpAny_bind (I.type.at (wpAny_bind (hmr.at ?_))))
  rw [refsE_pass _ _ hm]
  refine wpAny_pure (wpAny_bind (I.type.at (wpAny_bind ((looks_findIn X ha).at (wpAny_bind (L3.at ?_))))))
  show wpAny _ _ (storeInOwnDict (.ref x) (.ref C) (.str name tk) name v false) _ _ _
  obtain ⟨nm, bs, mro, ns, qn, hd, sn, sb, ab, col, del⟩ := cd
  dsimp only at hh
  subst hh
  unfold storeInOwnDict ownDictForStores
  repeat (first | with_reducible refine HandSPX.store_in_new ?_ ?_ | with_reducible refine wpAny_loadPart_at hx ?_ | with_reducible refine hcls.at ?_ | wp_step)
  · exact ⟨_, #[], _, (Heap.get?_update_ne _ _ _ _ hxs.symm).trans (Heap.get?_push_at rfl rfl), rfl, fun e he => absurd he (by simp), fun _ => rfl⟩
  · intro h' tk' hn' hs
    have hx₁ : (hp.push { cls := .type "dict", data := .dict #[] }).get? x = some { cls := .ref C, data := .fields fv } := Heap.get?_push_of_some _ hx
    refine hq h' tk' hp.objs.size (fun b o hb ho => ?_) (Nat.le_refl _) hxs.symm ?_ hn'
    · exact (hs.2 b (Nat.ne_of_lt (Heap.lt_size ho))).trans ((Heap.get?_update_ne _ _ _ _ hb).trans (Heap.get?_push_of_some _ ho))
    · exact (hs.2 x hxs).trans (Heap.get?_update_self _ hx₁ rfl)
end
end LP
/-! LpK2: __init__ that says super().__init__(text); self.f = x. -/
namespace LP
open PySem PySem.Spec PyProof.Rows L2 HT
open PySem.W (Frag)
section
open PySem.W PySem.Calls
variable {prog : Program} {w : World} {A : Around} {R : Result → Shared → Prop} {hp : Heap} {g : Array GenState} {d : Drawn} {t : Nat} {os : OsState}
/-- what the written part says of the class -/
structure ExC (K : Frag) (prog : Program) (C fI : Addr) (fl : Str) (params : Arguments) (body : List Stmt) (scope : Scope) (pn : Str) : Prop where
  cls : ∃ nm q N bs bm sn sub ab col dd k0 k1 k2 k3 k5, K.lookup C = some (excClassObj nm q C N bs bm true sn sub ab col dd k0 k1 k2 k3 k5 "Exception.__new__") ∧ refsE bm = true
  sa : findIn K (.ref C) "__setattr__" = some (some (.builtin "object.__setattr__"))
  exC : subIn K (.ref C) (.type "BaseException") = some true
  tyC : typeIn K (.ref C) = some (.type "type")
  kC : keepIn K (.ref C) = true
  fl_ : findIn K (.ref C) fl = some none
  sup : ks_superIn K C C "__init__" = some (some (.builtin "Exception.__init__"))
  op : nsIn K cStatics "thirdparty.any" = some none
  selfM : mroIn K C (.ref C) = some true
  exM : mroIn K C (.type "Exception") = some true
  ini : findIn K (.ref C) "__init__" = some (some (.ref fI))
  fn : typeIn K (.ref fI) = some (.type "function")
  lk : ∃ (oc dV kV doc pm ct : Value) (od an : Option Addr) (osl : Array (Option Value)) (cc cda : Addr) (qual : Str) (ccl cl : Value) (cdd cld : Option Addr) (ccs csl : Array (Option Value)) (vs : Array Value) (file : Str) (tf : Tok),
    K.lookup fI = some ⟨oc, od, .func (ksFn "__init__" qual params body scope dV kV doc pm an (.ref cda) ct cc), osl⟩ ∧ codeIn K (.ref cda) qual = true ∧ K.lookup cda = some ⟨ccl, cdd, .fields vs, ccs⟩ ∧ vs[2]? = some (.str file tf) ∧ ((prog.main.file : Str) == file) = true ∧
    K.lookup cc = some ⟨cl, cld, .cell (some (.ref C)), csl⟩ ∧ ∀ (us : List Value), us.length = 2 → bindArgs (ksFn "__init__" qual params body scope dV kV doc pm an (.ref cda) ct cc) ⟨us, []⟩ = pure ([("self" : Str), pn].zip us)
theorem init_run {K : Frag} {C fI e t0 : Addr} {fl text pn : Str} {v : Value} {params : Arguments} {scope : Scope} {p0 p1 p2 p3 p4 p5 p6 p7 p8 p9 : Pos} {j : Nat} {ar : Arg} {mg mb : Str → Option Value}
    (T : ExC K prog C fI fl params [.Expr (.Call (.Attribute (.Call (.Name "super" p0) [] [] p1) "__init__" p2) [.Constant (.str text) j p3] [] p4) p5, .Assign [.Attribute (.Name "self" p6) fl p7] (.Name pn p8) p9] scope pn)
    (X : K.In hp) (hG : hp.Ns mainGlobals mg) (hsu : mg "super" = none) (hB : hp.Ns builtinsNs mb) (hbb : mb "super" = some (.type "super")) (hlim : hp.NoLimit) (hroom : A.depth < recursionLimit)
    (he : hp.get? e = some (HandSPX.excO C t0)) (hnK : ∀ o, K.lookup e ≠ some o)
    (hks : scope.names.lookup ("super" : Str) = some .globalImplicit) (hkc : scope.names.lookup ("__class__" : Str) = some .free) (hself : scope.names.lookup ("self" : Str) = some .local) (hpn : scope.names.lookup pn = some .local) (hne : pn ≠ ("self" : Str))
    (hcell : ∀ x ∈ scope.names, x.2 ≠ .cell) (hco : scope.isCoroutine = false) (hgen : scope.isGenerator = false) (hk : scope.kind = .function) (hpar : (params.posonlyargs ++ params.args).head? = some ar) (har : ar.arg = "self") (htop : (prog.main.scope.names.lookup ("super" : Str)).isSome = false) (hdb : (pn == ("__debug__" : Str)) = false)
    {pl : Env → Sem Bool} (hev : ∀ env : Env, eval (.Call (.Attribute (.Call (.Name "super" p0) [] [] p1) "__init__" p2) [.Constant (.str text) j p3] [] p4) env = (do
      let ov ← attributeBase (.Call (.Name "super" p0) [] [] p1) "__init__" env (eval (.Call (.Name "super" p0) [] [] p1) env)
      standAt p2.atName
      let (f, first) ← holding [ov] (getMethod ov "__init__" (pl env))
      callWith p4 f first (backTo p4 (starEach [.Constant (.str text) j p3] env)) []))
    (hin : ∀ env : Env, env.scope = scope → interactive env = false)
    (hsw1 : ∀ env : Env, swapsWith (.Call (.Attribute (.Call (.Name "super" p0) [] [] p1) "__init__" p2) [.Constant (.str text) j p3] [] p4) none p5.line env = pure false)
    (hsw2 : ∀ env : Env, swapsWith (.Name pn p8) (some (.Attribute (.Name "self" p6) fl p7)) p9.line env = pure false)
    (hst : ∀ env : Env, starEach [.Constant (.str text) j p3] env = [(false, eval (.Constant (.str text) j p3) env)])
    (h : ∀ h' tk' t1 dx, (∀ b o, b ≠ e → hp.get? b = some o → h'.get? b = some o) → hp.objs.size ≤ dx → dx ≠ e → h'.get? e = some { cls := .ref C, dict := some dx, data := .fields #[.ref t1, .none, .none, .none, .bool false, .none] } →
      h'.Ns1 dx (fun y => if y = fl then some v else none) → R (.ok (.ret .none)) ⟨h', g, d, tk', os⟩) :
    codeAny (model prog w) A (.call (.ref fI) ⟨[.ref e, v], []⟩) R ⟨hp, g, d, t, os⟩ := by
  obtain ⟨nm, q, N, bs, bm, sn, sub, ab, col, dd, k0, k1, k2, k3, k5, hC, hbm⟩ := T.cls
  obtain ⟨oc, dV, kV, doc, pm, ct, od, an, osl, cc, cda, qual, ccl, cl, cdd, cld, ccs, csl, vs, file, tf, lk, hcd, lcda, hvs, hfile, lcc, hbind⟩ := T.lk
  have hcl : clsIn K C = some { name := nm, bases := bs, mro := .ref C :: bm, ns := N, qualname := q, hasDict := true, slotNames := sn, subclasses := sub, abstract := ab, collection := col, hasDel := false } := by unfold clsIn; rw [hC] <;> rfl
  refine ks_codeAny_call_defAt (binds := [(("self" : Str), .ref e), (pn, v)]) hroom (X _ _ lk) rfl hlim (codeRec_of X hcd) rfl (.of_eq (hbind [.ref e, v] rfl)) hcell (fun y hy => ?_) (fun h₀ hns kp => ?_) hco hgen hk
  · rcases List.mem_cons.mp hy with rfl | hy
    · exact hself
    · have : y = (pn, v) := by simpa using hy
      subst this; exact hpn
  · have X0 : K.In h₀ := X.keeps kp
    have se : ([(("self" : Str), Value.ref e), (pn, v)].reverse).lookup ("self" : Str) = some (.ref e) := by
      show List.lookup ("self" : Str) [(pn, v), (("self" : Str), Value.ref e)] = _
      rw [List.lookup_cons]
      rw [show (("self" : Str) == pn) = false from beq_eq_false_iff_ne.mpr (Ne.symm hne)]
      rfl
    have sp : ([(("self" : Str), Value.ref e), (pn, v)].reverse).lookup pn = some v := by
      show List.lookup pn [(pn, v), (("self" : Str), Value.ref e)] = _
      rw [List.lookup_cons, beq_self_eq_true]
    refine ks_wpAt_execs_cons (ks_wpAt_Expr_any (ks_wpAt_MethodCall ?_ (hev _)) (hin _ rfl) (hsw1 _))
    refine ks_wpAt_super_base hks hkc (by decide) rfl (X0 _ _ lk) rfl hpar rfl (X0 _ _ lcda) rfl hvs hfile htop ?_
    refine ks_loadName_global hk hks (loadGlobal_builtin (hG.keeps kp) hsu (hB.keeps kp) hbb ⟨rfl, ?_⟩)
    refine wpAny_loadName_free hk hkc rfl ⟨_, X0 _ _ lcc, rfl⟩ ?_
    rw [har]
    refine wpAny_loadName_local hk hself hns se ?_
    refine ks_wpAny_isType_cls (X0 _ _ hC) rfl ⟨rfl, ?_⟩
    refine ks_wpAny_call_super (X0 _ _ hC) rfl (kp _ _ he) rfl (fun c z => by cases z) (looks_mroIn X0 T.selfM) (fun h1 hso k1 => ?_)
    have X1 : K.In h1 := X0.keeps k1
    have hC1 := X1 _ _ hC
    have e0 : h₀.get? e = some (HandSPX.excO C t0) := kp _ _ he
    have e1 : h1.get? e = some (HandSPX.excO C t0) := k1 _ _ e0
    have hxC : e ≠ C := fun z => by
      rw [z, hC1] at e1
      cases e1
    have I1 : InstAt h1 e (HandSPX.excO C t0) C none := ⟨e1, rfl, rfl, trivial⟩
    have hf : alongIn K "__init__" bm = some (some (.builtin "Exception.__init__")) := by
      have z := T.sup
      unfold ks_superIn at z
      rw [hcl, Option.bind_some, ESX.drop_own] at z
      exact z
    refine ESX.getMethod_super (D := C) (l₀ := .ref C :: bm) hso (looks_opaque X1 T.op) ((looks_clsIn X1 hcl).andThen .now) (ESX.drop_own C bm) X1 hf hxC (by decide) (I1.type.andThen (looks_mroIn X1 T.exM)) ?_
    refine ESX.callWith_bound (x := e) ?_
    rw [hst]
    refine spliced_cons (Constant_str (k := j) (pos := p3) (spliced_nil ⟨Heap.get?_push_size _ rfl, ?_⟩))
    have k2 : ∀ b o, h1.get? b = some o → (h1.push (ESX.bw e)).get? b = some o := fun b o q => Heap.get?_push_of_some _ q
    refine ESX.call_bw (k2 _ _ hC1) (k2 _ _ e1) (Heap.get?_push_size _ rfl) (by show 1 ≤ sizeLine; decide) (fun h3 t1 k3 e3 => ?_)
    have up3 : ∀ b o, b ≠ e → h₀.get? b = some o → h3.get? b = some o := fun b o nb q => k3 b o nb (k2 _ _ (k1 _ _ q))
    have el : e ≠ hp.objs.size := Nat.ne_of_lt (Heap.lt_size he)
    have X3 : K.In h3 := fun b o q => by
      by_cases hb : b = e
      · subst hb; exact (hnK o q).elim
      · exact k3 b o hb (k2 _ _ (X1 b o q))
    have ns3 : h3.Ns hp.objs.size (fun x => [(("self" : Str), Value.ref e), (pn, v)].reverse.lookup x) := by
      obtain ⟨oL, es, ep, hL, r⟩ := hns
      exact ⟨oL, es, ep, up3 _ _ (Ne.symm el) hL, r⟩
    refine ks_wpAt_execs_cons (wpAt_of_wpAny (plainObj_wpAny_Assign_Attribute ?_ (hsw2 _)))
    refine wpAny_Name (wpAny_loadName_local hk hpn ns3 sp ?_) hdb
    refine wpAny_Name (wpAny_loadName_local hk hself ns3 se ?_) (by decide)
    have I3 : InstAt h3 e (HandSPX.excO C t1) C none := ⟨e3, rfl, rfl, trivial⟩
    refine set_plain X3 I3 T.sa ?_
    refine osa_newE X3 e3 hcl (show refsE (.ref C :: bm) = true from hbm) rfl T.fl_ (fun h4 tk dx k4 dn dne hx hn => ?_)
    have sz : hp.objs.size ≤ h3.objs.size := by
      obtain ⟨oL, es, ep, hL, r⟩ := ns3
      exact Nat.le_of_lt (Heap.lt_size hL)
    have fin := h h4 tk t1 dx (fun b o nb q => k4 b o nb (up3 b o nb (kp _ _ q))) (Nat.le_trans sz dn) dne hx hn
    exact wpAt_of_wpAny (wpAny_execs_nil fin)
end
section
variable {X : Cx} {e : Expr} {ta : TA}
/-- C(e): an exception with the one field fl -/
def tMkE (C : Addr) (fl : Str) (ta : TA) : L2.St → Hp → XK → Prop := fun σ H Q => ta σ H fun vs H1 => ∃ y, vs = [y] ∧ ∀ d, H1 d = none → Q (.ref C) (some d) (upd H1 d (.xd [(fl, y)]))
theorem pmk_E {x : Str} {C fI : Addr} {fl text pn : Str} {params : Arguments} {scope : Scope} {p pos p0 p1 p2 p3 p4 p5 p6 p7 p8 p9 : Pos} {j k : Nat} {ar : Arg}
    (T : ExC X.K X.prog C fI fl params [.Expr (.Call (.Attribute (.Call (.Name "super" p0) [] [] p1) "__init__" p2) [.Constant (.str text) j p3] [] p4) p5, .Assign [.Attribute (.Name "self" p6) fl p7] (.Name pn p8) p9] scope pn)
    (hsu : X.mg "super" = none) (hr : Room (k + 1) X.A) (hg : Gl X x) (hm : X.mg x = some (.ref C)) (ha : PA X [e] ta)
    (hks : scope.names.lookup ("super" : Str) = some .globalImplicit) (hkc : scope.names.lookup ("__class__" : Str) = some .free) (hself : scope.names.lookup ("self" : Str) = some .local) (hpn : scope.names.lookup pn = some .local) (hne : pn ≠ ("self" : Str))
    (hcell : ∀ x ∈ scope.names, x.2 ≠ .cell) (hco : scope.isCoroutine = false) (hgen : scope.isGenerator = false) (hk : scope.kind = .function) (hpar : (params.posonlyargs ++ params.args).head? = some ar) (har : ar.arg = "self") (htop : (X.prog.main.scope.names.lookup ("super" : Str)).isSome = false) (hdbp : (pn == ("__debug__" : Str)) = false)
    {pl : Env → Sem Bool} (hev : ∀ env : Env, eval (.Call (.Attribute (.Call (.Name "super" p0) [] [] p1) "__init__" p2) [.Constant (.str text) j p3] [] p4) env = (do
      let ov ← attributeBase (.Call (.Name "super" p0) [] [] p1) "__init__" env (eval (.Call (.Name "super" p0) [] [] p1) env)
      standAt p2.atName
      let (f, first) ← holding [ov] (getMethod ov "__init__" (pl env))
      callWith p4 f first (backTo p4 (starEach [.Constant (.str text) j p3] env)) []))
    (hin : ∀ env : Env, env.scope = scope → interactive env = false)
    (hsw1 : ∀ env : Env, swapsWith (.Call (.Attribute (.Call (.Name "super" p0) [] [] p1) "__init__" p2) [.Constant (.str text) j p3] [] p4) none p5.line env = pure false)
    (hsw2 : ∀ env : Env, swapsWith (.Name pn p8) (some (.Attribute (.Name "self" p6) fl p7)) p9.line env = pure false)
    (hst : ∀ env : Env, starEach [.Constant (.str text) j p3] env = [(false, eval (.Constant (.str text) j p3) env)])
    (hdb : (x == ("__debug__" : Str)) = false := by decide) (he : starEach [e] X.env = (false, eval e X.env) :: starEach [] X.env := by rfl) (hpl : (backTo pos (starEach [] X.env)).any (·.1) = false := by rfl) :
    PMk X (.Call (.Name x p) [e] [] pos) (tMkE C fl ta) := by
  intro pins s σ H Q I h
  obtain ⟨nm, q, N, bs, bm, sn, sub, ab, col, dd, k0, k1, k2, k3, k5, hC, hbm⟩ := T.cls
  refine wpAny_Call_Name_kw (ld_glob I hg hm ?_ hdb)
  refine PySem.W.callWith_K (h₀ := X.base) I.ok.mod.kin T.kC (thn (ha.run pos pins s σ H _ I h) fun us s1 ⟨vs, H1, I1, r1, y, ev, q1⟩ => ⟨I1.kIn, ?_⟩) he hpl
  subst ev
  obtain ⟨u, rfl, ru⟩ : ∃ u, us = [u] ∧ RelV y u := by
    cases r1 with
    | cons a b => cases b; exact ⟨_, rfl, a⟩
  show wpAny _ _ (call (.ref C) [u]) _ _ _
  obtain ⟨hp, g, dr, tk, os⟩ := s1
  have hget : ((hp.push (PySem.W.kdv_tup [u])).push (PySem.HandSPX.excO C hp.objs.size)).get? (hp.objs.size + 1) = some (PySem.HandSPX.excO C hp.objs.size) := by heap_get
  have kk : ∀ b o, hp.get? b = some o → ((hp.push (PySem.W.kdv_tup [u])).push (PySem.HandSPX.excO C hp.objs.size)).get? b = some o := fun b o e => Heap.get?_push_of_some _ (Heap.get?_push_of_some _ e)
  have Kin := I1.kIn
  have hno : ∀ o, X.K.lookup (hp.objs.size + 1) ≠ some o := fun o z => by
    have this : hp.objs.size + 1 < hp.objs.size := Heap.lt_size (Kin _ _ z)
    omega
  obtain ⟨mb, hB, hbb⟩ := I1.ok.mod.blt
  refine wpAny_call (PySem.HandSPX.call_own F.excBase_Exception (fun Y => refsE_contains Y bm hbm) (Kin _ _ hC) (PySem.W.looks_findIn Kin T.ini) (fun self => PySem.W.bind_fn Kin self T.fn) (by show 1 ≤ sizeLine; decide)
    (init_run T (Kin.keeps kk) (mg := X.mg) (mb := mb) ?_ hsu ?_ ?_ ?_ ?_ hget hno hks hkc hself hpn hne hcell hco hgen hk hpar har htop hdbp hev hin hsw1 hsw2 hst fun h' tk' t1 dx k3 dn dne hx hns => ?_))
  · exact (I1.ok.mod.glob.keeps I1.bk).keeps kk
  · exact (hB.keeps I1.bk).keeps kk
  · exact (hbb "super" (by decide)).trans (by decide +kernel)
  · exact I1.nolimit.keeps kk
  · exact (hr.r.make C [u] []).depth
  · have hd1 : H1 dx = none := I1.hok.fresh (Nat.le_trans (by show hp.objs.size ≤ _; rw [Heap.size_push, Heap.size_push]; omega) dn)
    obtain ⟨G, g1', g2'⟩ := restrict h' fun b => decide (b ≠ hp.objs.size + 1)
    have gk : ∀ b, b ≠ hp.objs.size + 1 → G.get? b = h'.get? b := fun b hb => g1' b (decide_eq_true hb)
    have ge : G.get? (hp.objs.size + 1) = none := g2' _ (by simp)
    have hgd : hp.objs.size ≤ dx := Nat.le_trans (by show hp.objs.size ≤ _; rw [Heap.size_push, Heap.size_push]; omega) dn
    have rel : ∀ f, RelO ([(fl, y)].lookup f) (if f = fl then some u else none) := fun f => relO_put (fs := []) (mA := fun _ => none) ru (fun g => True.intro) f
    have hok : ObjOk X.prog X.w (upd H1 dx (.xd [(fl, y)])) G dx (.xd [(fl, y)]) := ⟨_, hns.at fun o q => (gk dx dne).trans q, rel⟩
    have J : Inv X pins σ (upd H1 dx (.xd [(fl, y)])) { ({ heap := hp, gens := g, drawn := dr, toks := tk, os := os } : Shared) with heap := G, toks := tk' } :=
      I1.laid (t' := tk') (fun b o q => by
        have hb : b ≠ hp.objs.size + 1 := fun z => by
          have q' : hp.get? b = some o := q
          rw [z] at q'
          have this : hp.objs.size + 1 < hp.objs.size := Heap.lt_size q'
          omega
        rw [gk b hb]
        exact k3 b o hb (kk b o q)) hgd hok
    exact ⟨rfl, hp.objs.size + 1, _, _, { heap := G, gens := g, drawn := dr, toks := tk', os := os }, _, .ref C, some dx, rfl, J, fun b o q => by
      have hb : b ≠ hp.objs.size + 1 := fun z => by
        have q' : G.get? b = some o := q
        rw [z, ge] at q'; cases q'
      rw [← gk b hb]; exact q, ge, hx, ⟨rfl, rfl⟩, rfl, rfl, by rw [upd_ne dne.symm]; exact I1.hok.fresh (Nat.le_succ _), rfl, I1.bare, raises_own T.exC T.tyC, q1 dx hd1⟩
end
end LP
/-! LpL: try with several clauses, with or without a name. -/
namespace LP
open PySem PySem.Spec PyProof.Rows L2
/-- a clause's wish where the exception has a name: slot i holds it, and is empty behind the suite -/
def asW (i : Nat) (ts : Addr → Value → Option Addr → TS) : Addr → Value → Option Addr → TS := fun a cls d D σ H =>
  ts a cls d ⟨fun σ' H' => D.nx (σ'.set i none) H', D.rt, fun σ' H' => D.bk (σ'.set i none) H', fun σ' H' => D.ct (σ'.set i none) H'⟩ (σ.set i (some (.ref a))) H
/-- one clause -/
inductive Cl (X : Cx) : ExceptHandler → Value → (Addr → Value → Option Addr → TS) → Prop
  | one {x : Str} {c : Value} {ts : Addr → Value → Option Addr → TS} {b : Stmt} {bs : List Stmt} {p q : Pos} (hc : Names X x c)
      (su : ∀ (a : Addr) (oe : Obj) (cls : Value) (d : Option Addr) (pn : List (Addr × Obj)), Zc cls d oe → (∃ vs, oe.data = .fields vs) → PSs (X.suite a ((a, oe) :: pn)) (b :: bs) (ts a cls d)) :
      Cl X (.ExceptHandler (some (.Name x p)) none (b :: bs) q) c ts
  | as_ {x n : Str} {i : Nat} {c : Value} {ts : Addr → Value → Option Addr → TS} {b : Stmt} {bs : List Stmt} {p q : Pos} (hc : Names X x c) (hN : X.N.Nodup) (hi : X.N[i]? = some n) (hl : X.env.kindOf n = some .local)
      (su : ∀ (a : Addr) (oe : Obj) (cls : Value) (d : Option Addr) (pn : List (Addr × Obj)), Zc cls d oe → (∃ vs, oe.data = .fields vs) → PSs (X.suite a ((a, oe) :: pn)) (b :: bs) (ts a cls d)) :
      Cl X (.ExceptHandler (some (.Name x p)) (some n) (b :: bs) q) c (asW i ts)
inductive Cls (X : Cx) : List ExceptHandler → List (Value × (Addr → Value → Option Addr → TS)) → Prop
  | nil : Cls X [] []
  | cons {hd : ExceptHandler} {hds : List ExceptHandler} {c : Value} {ts : Addr → Value → Option Addr → TS} {l : List (Value × (Addr → Value → Option Addr → TS))} (h : Cl X hd c ts) (r : Cls X hds l) : Cls X (hd :: hds) ((c, ts) :: l)
/-- an exception that came down in the frame of X, at the heap h -/
structure Air (X : Cx) (pins : List (Addr × Obj)) (σ : L2.St) (H : Hp) (a : Addr) (cls : Value) (d : Option Addr) (B : Heap) (sI s : Shared) (h : Heap) : Prop where
  J : Inv X pins σ H sI
  nb : ∀ b o, sI.heap.get? b = some o → b ∉ frs X.stack → B.get? b = some o
  up : sI.heap.UpToSlots h
  na : H a = none
  os : s.os = sI.os
  ag : AllBare s.gens
  fl : HandSPX.FlyingZ B (X.env :: X.outer) a (Zc cls d) h
section
variable {X : Cx} {pins : List (Addr × Obj)} {σ : L2.St} {H : Hp} {a : Addr} {cls : Value} {d : Option Addr} {B : Heap} {sI s : Shared} {h : Heap}
theorem Air.inv (A : Air X pins σ H a cls d B sI s h) : Inv X pins σ H { s with heap := h } := Inv.landed (s' := { s with heap := h }) A.J A.nb A.fl.1 A.up A.os A.ag
theorem Air.apart (A : Air X pins σ H a cls d B sI s h) (hf : X.env.frame = some X.env.locals) : a ≠ X.env.locals ∧ a ∉ X.fs := by
  obtain ⟨oe, vs, e1, _, e2⟩ := A.fl.there
  have no : a ∉ frs (X.env :: X.outer) := by
    intro z
    obtain ⟨_, o, e3, nf⟩ := A.fl.2.2.1.mem z
    cases e1.symm.trans e3
    exact nf _ e2
  constructor
  · intro z
    apply no
    rw [z]
    exact List.mem_filterMap.mpr ⟨X.env, List.mem_cons_self, hf⟩
  · intro z
    obtain ⟨e, m, q⟩ := List.mem_filterMap.mp z
    exact no (List.mem_filterMap.mpr ⟨e, List.mem_cons_of_mem _ m, q⟩)
theorem Air.go (A : Air X pins σ H a cls d B sI s h) {h' : Heap} (f : HandSPX.FlyingZ B (X.env :: X.outer) a (Zc cls d) h') (u : h.UpToSlots h') : Air X pins σ H a cls d B sI s h' :=
  ⟨A.J, A.nb, A.up.trans u, A.na, A.os, A.ag, f⟩
theorem Air.in_suite (A : Air X pins σ H a cls d B sI s h) (hf : X.env.frame = some X.env.locals) :
    ∃ oe, Zc cls d oe ∧ (∃ vs, oe.data = .fields vs) ∧ Inv (X.suite a ((a, oe) :: (X.pn ++ pins))) [] σ H { s with heap := h } := by
  obtain ⟨oe, vs, e1, z, e2⟩ := A.fl.there
  have n := A.apart hf
  exact ⟨oe, z, ⟨vs, e2⟩, A.inv.suite e1 e2 A.na n.1 n.2⟩
/-- the clauses, one after the other -/
theorem Cls.run {Wout : WX} {E : Ends} {l : List (Value × (Addr → Value → Option Addr → TS))} {hds : List ExceptHandler} (hs : X.stack = X.env :: X.outer) (hf : X.env.frame = some X.env.locals) (tk : Takes X Wout)
    (A : Air X pins σ H a cls d B sI s h) (k : Cls X hds l) (w : wMany X.K Wout E l cls d σ H) :
    wpAny (model X.prog X.w) X.A (handleBy (.ref a) X.env hds) (SP X pins E) X.xe { s with heap := h } := by
  have ok := A.J.ok
  induction k with
  | nil =>
    -- nobody took it: it flies on
    obtain ⟨_, _, _, oe, vs, T, oT, ts, e1, z, e2, e3, _⟩ := id A.fl
    refine wpAny_handleBy_nil ?_
    have on_ : wpAny (model X.prog X.w) X.A (setFlight (.ref a) X.env.frame) (fun _ s1 => wpAny (model X.prog X.w) X.A (throw (.ref a) : Sem Flow) (SP X pins E) X.xe s1) X.xe { s with heap := h } := by
      rw [hf]
      refine HandSPX.setFlight_upZ A.fl fun h1 held u => ?_
      refine wpAny_throw (tk _ _ ⟨a, B, sI, pins, σ, H, cls, d, rfl, A.J, A.nb, A.up.trans u, ?_, A.na, A.os, A.ag, w⟩)
      rw [hs]
      exact .inr (.inr held)
    unfold PySem.passOn
    refine wpAny_bind (wpAny_field e1 e2 e3 ?_)
    have ne : ¬ ((Value.ref T == Value.none) = true) := by simp
    rw [if_neg ne]
    first
      | exact wpAny_bind (wpAny_pure (wpAny_bind on_))
      | exact wpAny_bind on_
  | @cons hd hds c ts l hc r ih =>
    obtain ⟨b, eb, yes, no⟩ := w
    obtain ⟨oe, z, ⟨vs, ed⟩, S⟩ := A.in_suite hf
    obtain ⟨oe', vs', eo, z', _⟩ := A.fl.there
    have LT : PySem.W.Looks (model X.prog X.w) h (typeOf (.ref a)) cls := fun _ _ _ _ k q => wpAny_typeOf_ref (k _ _ eo) (by rw [z'.1]; exact q)
    have LM := PySem.W.exm_one (M := model X.prog X.w) A.inv.kIn LT eb
    have nm : ∀ {x : Str} {p : Pos} {Q : Value → Shared → Prop} {E' : Value → Shared → Prop}, Names X x c → Q c { s with heap := h } → wpAny (model X.prog X.w) (X.A.mark (some (.ref a))) (eval (.Name x p) X.env) Q E' { s with heap := h } := by
      intro x p Q E' n q
      obtain ⟨g, db, m⟩ := n
      rcases m with m | ⟨m, v, nn⟩
      · exact ld_glob (X := X.suite a ((a, oe) :: (X.pn ++ pins))) S g m q db
      · exact ld_blt (X := X.suite a ((a, oe) :: (X.pn ++ pins))) S g m v q nn db
    cases hc with
    | one n su =>
      refine wpAny_handleBy_cons (codeAny_handlers_test ?_) (by intro q; cases q)
      refine nm n (LM.here ?_)
      cases b with
      | false => exact ih (no rfl)
      | true =>
        refine codeAny_handlers_suite (HandSPX.lands_againZ A.fl fun h1 f1 u1 => ?_)
        obtain ⟨o1, z1, d1, S1⟩ := (A.go f1 u1).in_suite hf
        refine wpAny_mono ((su a o1 cls d (X.pn ++ pins) z1 d1).run [] _ _ H _ S1 (yes rfl a A.na)) (fun f s6 q => ?_) (fun _ _ y => y.elim)
        cases f with
        | ret u =>
          obtain ⟨v6, σ6, H6, S6, r6, q6⟩ := q
          exact ⟨v6, σ6, H6, S6.unsuite ok, r6, q6⟩
        | _ =>
          obtain ⟨σ6, H6, S6, q6⟩ := q
          exact ⟨σ6, H6, S6.unsuite ok, q6⟩
    | @as_ x n i c ts b0 bs p q hn hN hi hl su =>
      refine wpAny_handleBy_cons (codeAny_handlers_test ?_) (by intro q; cases q)
      refine nm hn (LM.here ?_)
      cases b with
      | false => exact ih (no rfl)
      | true =>
        refine codeAny_handlers_suite_as (HandSPX.lands_againZ A.fl fun h1 f1 u1 => ?_)
        obtain ⟨o1, z1, d1, S1⟩ := (A.go f1 u1).in_suite hf
        refine store_ok (X := X.suite a ((a, o1) :: (X.pn ++ pins))) (v := .ref a) S1 hN hi (.inl hl) rfl (fun s5 S5 => ?_) (.inr hl)
        refine wpAny_mono ((su a o1 cls d (X.pn ++ pins) z1 d1).run [] s5 _ H _ S5 (yes rfl a A.na)) (fun f s6 y => ?_) (fun _ _ y => y.elim)
        have last : ∀ {σ6 : L2.St} {H6 : Hp} {Q : Shared → Prop}, Inv (X.suite a ((a, o1) :: (X.pn ++ pins))) [] σ6 H6 s6 → (∀ s7, Inv X pins (σ6.set i none) H6 s7 → Q s7) →
            wpAny (model X.prog X.w) X.A (do bindName X.env n .none; unbindBehindTheSuite X.env n q) (fun _ s7 => Q s7) X.xe s6 := by
          intro σ6 H6 Q S6 k
          exact gone_ok (S6.unsuite ok) hN hi hl k
        cases f with
        | ret u =>
          obtain ⟨v6, σ6, H6, S6, r6, q6⟩ := y
          exact last S6 fun s7 J7 => ⟨v6, _, _, J7, r6, q6⟩
        | next =>
          obtain ⟨σ6, H6, S6, q6⟩ := y
          exact last S6 fun s7 J7 => ⟨_, _, J7, q6⟩
        | brk =>
          obtain ⟨σ6, H6, S6, q6⟩ := y
          exact last S6 fun s7 J7 => ⟨_, _, J7, q6⟩
        | cont =>
          obtain ⟨σ6, H6, S6, q6⟩ := y
          exact last S6 fun s7 J7 => ⟨_, _, J7, q6⟩
end
section
variable {X : Cx} {body : List Stmt} {hd : ExceptHandler} {hds : List ExceptHandler} {l : List (Value × (Addr → Value → Option Addr → TS))} {pos : Pos} {tb : WX → TS} {Wout : WX}
theorem ps_tryA (hs : X.stack = X.env :: X.outer) (hf : X.env.frame = some X.env.locals) (tk : Takes X Wout)
    (hb : ∀ (W : WX) (pn : List (Addr × Obj)) (xe : Value → Shared → Prop), Takes (X.tr pn xe) W → PassesOwn (model X.prog X.w) X.A X.env xe → PSs (X.tr pn xe) body (tb W))
    (hc : Cls X (hd :: hds) l) : PS X (.Try body (hd :: hds) [] [] pos) (fun E σ H => tb (wMany X.K Wout E l) E σ H) := by
  refine ⟨fun pins s σ H E I h => wpAny_Try_except ?_⟩
  have ok := I.ok
  have fr : X.A.frames = some (X.env :: X.outer) := ok.frames.trans (by rw [hs])
  have bd := (hb (wMany X.K Wout E l) (X.pn ++ pins) (fun e s₁ => wpAny (model X.prog X.w) X.A (noteFrame e X.env) (fun _ s₂ => wpAny (model X.prog X.w) X.A (setFlight e none)
    (fun _ s₃ => wpAny (model X.prog X.w) X.A (handleBy e X.env (hd :: hds)) (SP X pins E) X.xe s₃) X.xe s₂) X.xe s₁) (fun u s' xx => ?_) PassesOwn.looking).run [] s σ H E (I.toTry _) h
  · refine wpAny_mono bd (fun f s1 q => ?_) (fun _ _ q => q)
    cases f with
    | next =>
      obtain ⟨σ', H', J, q⟩ := q
      exact wpAny_execs_nil ⟨σ', H', J.ofTry ok, q⟩
    | ret u =>
      obtain ⟨v, σ', H', J, r, q⟩ := q
      exact ⟨v, σ', H', J.ofTry ok, r, q⟩
    | _ =>
      obtain ⟨σ', H', J, q⟩ := q
      exact ⟨σ', H', J.ofTry ok, q⟩
  · obtain ⟨a, B, sI, pins', σ', H', cls, d, rfl, J, nb, up, sky, na, os, ag, w⟩ := xx
    have sky : Sky B (X.env :: X.outer) a (Zc cls d) X.env.locals s'.heap := hs ▸ sky
    show wpAny (model X.prog X.w) X.A (noteFrame (.ref a) X.env) _ _ _
    refine Sky.land Zc.steady fr hf sky fun h3 f3 u3 => ?_
    exact Cls.run hs hf tk ⟨J.ofTry ok, nb, up.trans u3, na, os, ag, f3⟩ hc w
end
end LP
/-! LpM: raise and try over plain data. -/
namespace LP
open PySem PySem.Spec PyProof.Rows L2
/-- an exception class with one field: how it is made, how it is read -/
structure Exn (K : PySem.W.Frag) (prog : Program) (mg : Str → Option Value) (c fl : Str) : Prop where
  made : ∃ C, mg c = some (.ref C) ∧ ∀ {X : Cx} {k : Nat} {e : Expr} {ta : TA} {p pos : Pos}, X.K = K → X.prog = prog → X.mg = mg → Room (k + 1) X.A → Gl X c → PA X [e] ta →
    starEach [e] X.env = (false, eval e X.env) :: starEach [] X.env → PMk X (.Call (.Name c p) [e] [] pos) (tMkE C fl ta)
  xf : ∀ C, mg c = some (.ref C) → XfC K C ∧ PySem.W.findIn K (.ref C) fl = some none
/-- all of them: tab tells each class's field; they are of the class base -/
structure ExT (K : PySem.W.Frag) (prog : Program) (mg : Str → Option Value) (tab : List (Str × Str)) (base : Str) : Prop where
  cls : ∀ p ∈ tab, Exn K prog mg p.1 p.2
  sub : ∀ p ∈ tab, ∀ (x : Str) (C Y : Addr), x = base ∨ x ∈ tab.map (·.1) → mg p.1 = some (.ref C) → mg x = some (.ref Y) → PySem.W.exmOne K (.ref C) (.ref Y) = some (x == p.1 || x == base)
section
variable {X : Cx} {G : Cfg} {W : WX} {σ : L2.St} {δ : DE} {M M' M1 M2 : Imm} {r r' r1 r2 : List Addr} {h h' h1 h2 : Bx} {H H' H1 H2 : Hp} {E : Ends}
variable {e c : Expr} {f g : EF} {tg : Expr} {fs : DE → Bx → R (List D)} {pos : Pos}
/-- a new object, known to nobody -/
theorem BS.newO (b : BS G M r h δ σ H) {p : Addr} {o : HO} (hp : H p = none) : BS G M r h δ σ (upd H p o) := by
  refine ⟨fun c u e => ⟨(b.mok c u e).1, upd_new hp (b.mok c u e).2⟩, ⟨b.bx.len, b.bx.nd, fun k c ds e1 e2 => ?_⟩, b.tb.ext fun a u e => upd_new hp e, b.len, fun i s x e1 e2 => ?_, b.sep, b.le, b.pre, b.new, fun c u e t nr => upd_new hp (b.keep c u e t nr), b.nf⟩
  · obtain ⟨m', z, vs, q', t⟩ := b.bx.at_ k c ds e1 e2
    exact ⟨m', z, vs, upd_new hp q', t⟩
  · exact (b.sl i s x e1 e2).mono Le.refl List.prefix_rfl fun a vs _ m q n => ⟨m, n, upd_new hp q⟩
/-- raise C(e) -/
def raiseS (c fl : Str) (f : EF) : SF := fun δ h => (f δ h).toS δ fun d h1 => if isV d = true then .exc c [(fl, d)] δ h1 else .bad
theorem es_raise {k : Nat} {cn fl : Str} {p p2 : Pos} (T : Exn X.K X.prog X.mg cn fl) (hG : X.mg = G.mg) (hc : X.calm = true) (tk : Takes X W) (hr : Room (k + 1) X.A) (hg : Gl X cn) (he : Ev X G W e f) (hs : starEach [e] X.env = (false, eval e X.env) :: starEach [] X.env := by rfl) :
    Es X G W (.Raise (some (.Call (.Name cn p) [e] [] p2)) none pos) (raiseS cn fl f) := by
  obtain ⟨C, mC, mk⟩ := T.made
  refine PS.imp (ps_raise hc tk (mk rfl rfl rfl hr hg (pa_cons he pa_nil hs) hs)) fun E σ H q => ?_
  obtain ⟨M, r, h, δ, b, q⟩ := q
  refine ⟨M, r, h, δ, b, (AfterS.expr (rl := rV G.J) b q).more fun v H1 ⟨d, M1, r1, h1, s1, b1, rv, q1⟩ => ?_⟩
  refine ⟨v, rfl, fun dx hd => ?_⟩
  by_cases iv : isV d = true
  · rw [if_pos iv] at q1
    refine q1 C (some dx) M1 r1 σ _ (hG ▸ mC) Le.refl List.prefix_rfl (b1.newO hd) ⟨dx, [v], rfl, upd_same, v, [], rfl, ?_, rfl⟩
    cases d with
    | loc i => cases iv
    | _ => exact rv
  · rw [if_neg iv] at q1; exact q1.elim
/-! ### try -/
/-- the first clause that takes c -/
def hitH {α : Type} (c base : Str) : List (Str × α) → Option α
  | [] => none
  | p :: ps => if (p.1 == c || p.1 == base) = true then some p.2 else hitH c base ps
/-- a suite raises nothing -/
def noX (x : RS) : RS := match x with
  | .exc _ _ _ _ => .bad
  | x => x
theorem AfterS.noX {G : Cfg} {W : WX} {M : Imm} {r : List Addr} {x : RS} {E : Ends} (q : AfterS G W M r (LP.noX x) E) : AfterS G W0 M r x E := by
  cases x with
  | exc c fs δ h => exact q.elim
  | _ => exact q
/-- what the clauses make of the exception c with the fields fs -/
def catchS (tab : List (Str × Str)) (base : Str) (hs : List (Str × (List (Str × D) → SF))) (c : Str) (fs : List (Str × D)) : SF := fun δ h =>
  if (tab.map (·.1)).contains c = true then match hitH c base hs with
    | some s => noX (s fs δ h)
    | none => .exc c fs δ h
  else .bad
def tryS (tab : List (Str × Str)) (base : Str) (body : SF) (hs : List (Str × (List (Str × D) → SF))) : SF := fun δ h => match body δ h with
  | .exc c fs δ' h' => catchS tab base hs c fs δ' h'
  | x => x
/-- the wish of a suite that knows the exception: slot i holds it -/
def tX (G : Cfg) (a : Addr) (cls : Value) (d : Option Addr) (i : Nat) (tab : List (Str × Str)) (base x : Str) (sf : List (Str × D) → SF) : TS := fun E σ H => ∃ M r h δ fs C fl, BS G M r h δ σ H ∧ (i < σ.length → σ[i]? = some (some (.ref a))) ∧ cls = .ref C ∧ XfC G.K C ∧
  PySem.W.findIn G.K (.ref C) fl = some none ∧ (∃ c, (c, fl) ∈ tab ∧ (x == c || x == base) = true ∧ G.mg c = some (.ref C)) ∧ ExcAt G.J M r H fs d ∧ AfterS G W0 M r (sf fs δ h) E
/-- behind a suite: the slot is empty -/
def dropE (i : Nat) (x : RS) : RS := match x with
  | .nx δ h => .nx (δ.set i .no) h
  | .bk δ h => .bk (δ.set i .no) h
  | .ct δ h => .ct (δ.set i .no) h
  | x => x
theorem BS.emptied (b : BS G M r h δ σ H) (i : Nat) (o : Option V) : BS G M r h (δ.set i .no) (σ.set i o) H := by
  refine b.weak (by rw [List.length_set, List.length_set]; exact b.len) fun j s e => ?_
  by_cases hj : i = j
  · subst hj
    by_cases hi : i < δ.length
    · rw [List.getElem?_set_self hi] at e
      cases e; exact .inl rfl
    · rw [List.getElem?_eq_none (by rw [List.length_set]; omega)] at e; cases e
  · rw [List.getElem?_set_ne hj] at e
    exact .inr ⟨e, List.getElem?_set_ne hj⟩
inductive HsOk (X : Cx) (G : Cfg) (tab : List (Str × Str)) (base : Str) : List ExceptHandler → List (Str × (List (Str × D) → SF)) → Prop
  | nil : HsOk X G tab base [] []
  | one {x : Str} {p q : Pos} {b : Stmt} {bs : List Stmt} {sf : SF} {hds : List ExceptHandler} {hs : List (Str × (List (Str × D) → SF))} (hg : Gl X x) (hm : ∃ C, X.mg x = some (.ref C)) (hd : (x == ("__debug__" : Str)) = false)
      (su : ∀ (a : Addr) (oe : Obj) (pn : List (Addr × Obj)), Ess (X.suite a ((a, oe) :: pn)) G W0 (b :: bs) sf) (r : HsOk X G tab base hds hs) :
      HsOk X G tab base (.ExceptHandler (some (.Name x p)) none (b :: bs) q :: hds) ((x, fun _ => sf) :: hs)
  | as_ {x n : Str} {i : Nat} {p q : Pos} {b : Stmt} {bs : List Stmt} {sf : List (Str × D) → SF} {hds : List ExceptHandler} {hs : List (Str × (List (Str × D) → SF))} (hg : Gl X x) (hm : ∃ C, X.mg x = some (.ref C)) (hd : (x == ("__debug__" : Str)) = false)
      (hN : X.N.Nodup) (hi : X.N[i]? = some n) (hl : X.env.scope.names.lookup n = some .local)
      (su : ∀ (a : Addr) (oe : Obj) (cls : Value) (d : Option Addr) (pn : List (Addr × Obj)), Zc cls d oe → (∃ vs, oe.data = .fields vs) → PSs (X.suite a ((a, oe) :: pn)) (b :: bs) (tX G a cls d i tab base x sf)) (r : HsOk X G tab base hds hs) :
      HsOk X G tab base (.ExceptHandler (some (.Name x p)) (some n) (b :: bs) q :: hds) ((x, fun fs δ h => dropE i (sf fs (δ.set i .no) h)) :: hs)
theorem names_of {x : Str} {C : Addr} (hg : Gl X x) (hm : X.mg x = some (.ref C)) (hd : (x == ("__debug__" : Str)) = false) : Names X x (.ref C) := ⟨hg, hd, .inl hm⟩
theorem excAt_drop {J : Jd} {fs : List (Str × D)} {d : Option Addr} (q : ExcAt J M r H fs d) (le : Le M M') (pr : r <+: r') : ExcAt J M' r' H fs d := by
  cases fs with
  | nil => exact q
  | cons p ps =>
    obtain ⟨dx, vs, e1, e2, t⟩ := q
    exact ⟨dx, vs, e1, e2, Reps.mono le pr _ _ t⟩
theorem AfterS.dropE {i : Nat} {x : RS} (q : AfterS G W M r (LP.dropE i x) E) : AfterS G W M r x ⟨fun s h => E.nx (s.set i none) h, E.rt, fun s h => E.bk (s.set i none) h, fun s h => E.ct (s.set i none) h⟩ := by
  cases x with
  | nx δ h => exact fun M' r' σ H a c b => q M' r' _ H a c (b.emptied i none)
  | bk δ h => exact fun M' r' σ H a c b => q M' r' _ H a c (b.emptied i none)
  | ct δ h => exact fun M' r' σ H a c b => q M' r' _ H a c (b.emptied i none)
  | rt d h => exact q
  | exc c fs δ h => exact q
  | bad => exact q
/-- nothing leaves a suite but by its end -/
theorem AfterS.w0 {x : RS} (q : AfterS G W0 M r x E) : AfterS G W M r x E := by
  cases x with
  | exc c fs δ h => exact fun C dd M' r' σ H m a b c e => (q C dd M' r' σ H m a b c e).elim
  | _ => exact q
/-- the clauses' readings -/
theorem hs_read {tab : List (Str × Str)} {base : Str} {hds : List ExceptHandler} {hs : List (Str × (List (Str × D) → SF))} (T : ExT X.K X.prog X.mg tab base) (hK : X.K = G.K) (hG : X.mg = G.mg) (hx : ∀ p ∈ hs, p.1 = base ∨ p.1 ∈ tab.map (·.1)) (k : HsOk X G tab base hds hs) :
    ∃ l, Cls X hds l ∧ ∀ (c fl : Str) (fs : List (Str × D)) (C : Addr) (dd : Option Addr) (M : Imm) (r : List Addr) (h : Bx) (δ : DE) (σ : L2.St) (H : Hp) (E : Ends), (c, fl) ∈ tab → G.mg c = some (.ref C) → BS G M r h δ σ H → ExcAt G.J M r H fs dd →
      (match hitH c base hs with
        | some s => AfterS G W0 M r (s fs δ h) E
        | none => W (.ref C) dd σ H) → wMany X.K W E l (.ref C) dd σ H := by
  induction k with
  | nil => exact ⟨[], .nil, fun c fl fs C dd M r h δ σ H E _ _ _ _ q => q⟩
  | @one x p q b bs sf hds hs hg hm hd su _ ih =>
    obtain ⟨l, hl, ih⟩ := ih fun p hp => hx p (List.mem_cons_of_mem _ hp)
    obtain ⟨Y, mY⟩ := hm
    refine ⟨(.ref Y, fun _ _ _ => tS G W0 sf) :: l, .cons (.one (names_of hg mY hd) fun a oe cls d pn _ _ => su a oe pn) hl, fun c fl fs C dd M r h δ σ H E ht mC bs ea z => ?_⟩
    have sb := T.sub (c, fl) ht x C Y (hx _ List.mem_cons_self) (hG ▸ mC) mY
    refine ⟨_, sb, fun e a na => ?_, fun e => ?_⟩
    · have e : (x == c || x == base) = true := e
      unfold hitH at z
      rw [if_pos e] at z
      exact ⟨M, r, h, δ, bs, z⟩
    · have e : (x == c || x == base) = false := e
      unfold hitH at z
      rw [if_neg (by rw [e]; decide)] at z
      exact ih c fl fs C dd M r h δ σ H E ht mC bs ea z
  | @as_ x n i p q b bs sf hds hs hg hm hd hN hi hl' su _ ih =>
    obtain ⟨l, hl, ih⟩ := ih fun p hp => hx p (List.mem_cons_of_mem _ hp)
    obtain ⟨Y, mY⟩ := hm
    refine ⟨(.ref Y, asW i fun a cls d => tX G a cls d i tab base x sf) :: l, .cons (.as_ (names_of hg mY hd) hN hi hl' fun a oe cls d pn z1 z2 => su a oe cls d pn z1 z2) hl, fun c fl fs C dd M r h δ σ H E ht mC bs ea z => ?_⟩
    have sb := T.sub (c, fl) ht x C Y (hx _ List.mem_cons_self) (hG ▸ mC) mY
    refine ⟨_, sb, fun e a na => ?_, fun e => ?_⟩
    · have e : (x == c || x == base) = true := e
      unfold hitH at z
      rw [if_pos e] at z
      have xf := (T.cls (c, fl) ht).xf C (hG ▸ mC)
      rw [hK] at xf
      refine ⟨M, r, h, δ.set i .no, fs, C, fl, bs.emptied i _, fun hl => List.getElem?_set_self (by simpa using hl), rfl, xf.1, xf.2, ⟨c, ht, e, mC⟩, ea, AfterS.dropE z⟩
    · have e : (x == c || x == base) = false := e
      unfold hitH at z
      rw [if_neg (by rw [e]; decide)] at z
      exact ih c fl fs C dd M r h δ σ H E ht mC bs ea z
theorem es_try {tab : List (Str × Str)} {base : Str} {body : List Stmt} {hd : ExceptHandler} {hds : List ExceptHandler} {hs : List (Str × (List (Str × D) → SF))} {sf : SF} (T : ExT X.K X.prog X.mg tab base) (hK : X.K = G.K) (hG : X.mg = G.mg)
    (hx : (hs.map (·.1)).all (fun x => x == base || (tab.map (·.1)).contains x) = true) (hs1 : X.stack = X.env :: X.outer) (hf : X.env.frame = some X.env.locals) (tk : Takes X W)
    (hb : ∀ (W' : WX) (pn : List (Addr × Obj)) (xe : Value → Shared → Prop), Takes (X.tr pn xe) W' → PassesOwn (model X.prog X.w) X.A X.env xe → Ess (X.tr pn xe) G W' body sf) (k : HsOk X G tab base (hd :: hds) hs) :
    Es X G W (.Try body (hd :: hds) [] [] pos) (tryS tab base sf hs) := by
  have hx : ∀ p ∈ hs, p.1 = base ∨ p.1 ∈ tab.map (·.1) := fun p hp => by
    have z := List.all_eq_true.mp hx p.1 (List.mem_map.mpr ⟨p, hp, rfl⟩)
    rw [Bool.or_eq_true] at z
    exact z.imp (fun y => eq_of_beq y) (fun y => List.contains_iff_mem.mp y)
  obtain ⟨l, hl, rd⟩ := hs_read (W := W) T hK hG hx k
  refine PS.imp (ps_tryA hs1 hf tk hb hl) fun E σ H q => ?_
  obtain ⟨M, r, h, δ, b, q⟩ := q
  refine ⟨M, r, h, δ, b, ?_⟩
  unfold tryS at q
  cases z : sf δ h with
  | nx δ' h' => rw [z] at q; exact q
  | rt d h' => rw [z] at q; exact q
  | bk δ' h' => rw [z] at q; exact q
  | ct δ' h' => rw [z] at q; exact q
  | bad => rw [z] at q; exact q
  | exc c fs δ' h' =>
    rw [z] at q
    simp only at q
    unfold catchS at q
    split at q
    · rename_i hc
      obtain ⟨⟨c', fl⟩, ht, rfl⟩ := List.mem_map.mp (List.contains_iff_mem.mp hc)
      intro C dd M' r' σ' H' mC le pr b' ea
      refine rd c' fl fs C dd M' r' h' δ' σ' H' E ht mC b' ea ?_
      split at q
      · rename_i s e
        rw [show hitH c' base hs = some s from e]
        exact (AfterS.from le pr q).noX
      · rename_i e
        rw [show hitH c' base hs = none from e]
        exact q C dd M' r' σ' H' mC le pr b' ea
    · exact q.elim
/-! ### suites that read the exception's field -/
/-- e.f in a suite -/
theorem pe_xn {a : Addr} {oe : Obj} {cls : Value} {d : Option Addr} {pn : List (Addr × Obj)} {n fl : Str} {i : Nat} {p1 p2 : Pos} (hz : Zc cls d oe) (hf : ∃ vs, oe.data = .fields vs) (hN : X.N[i]? = some n) (hv : X.env.scope.names.lookup n = some .local)
    (hd : (n == ("__debug__" : Str)) = false := by decide) (hcd : (n == ("__classdict__" : Str)) = false := by decide) (hb : attributeBase (.Name n p1) fl X.env (eval (.Name n p1) X.env) = eval (.Name n p1) X.env := by rfl) :
    PE (X.suite a ((a, oe) :: pn)) (.Attribute (.Name n p1) fl p2) (fun σ H Q => (i < σ.length → σ[i]? = some (some (.ref a))) ∧ ∃ C dd fs v, cls = .ref C ∧ XfC X.K C ∧ PySem.W.findIn X.K (.ref C) fl = some none ∧ d = some dd ∧ H dd = some (.xd fs) ∧ fs.lookup fl = some v ∧ Q v H) := by
  refine ⟨fun pins s σ H Q I h => ?_⟩
  obtain ⟨hl, C, dd, fs, v, ec, T, nf, ed, e1, e2, q⟩ := h
  have ln := I.len
  have hi : i < σ.length := by rw [ln]; exact (List.getElem?_eq_some_iff.mp hN).1
  refine (pe_xf T nf hz hf (pe_var (X := X.suite a ((a, oe) :: pn)) hN (.inl hv) hd hcd) hb).run pins s σ H Q I ?_
  exact ⟨.ref a, hl hi, rfl, ec, dd, fs, v, ed, e1, e2, q⟩
/-- a constant of a suite -/
inductive KD : Expr → D → V → Prop
  | int {i : Int} {j : Nat} {p : Pos} : KD (.Constant (.int i) j p) (.int i) (.int i)
  | str {i : Str} {j : Nat} {p : Pos} : KD (.Constant (.str i) j p) (.str i) (.str i)
theorem KD.pe {e : Expr} {d : D} {v : V} (k : KD e d v) : PE X e (tC v) := by
  cases k with
  | int => exact pe_int
  | str => exact pe_str
theorem KD.rep {e : Expr} {d : D} {v : V} (k : KD e d v) {J : Jd} : Rep J M r d v := by
  cases k with
  | int => rfl
  | str => rfl
/-- (k, e.f) in a suite -/
def xtF (fl : Str) (kd : D) (fs : List (Str × D)) : EF := fun _ h => match fs.lookup fl with
  | some d => if isV d = true then .ok (.tup [kd, d]) h else .bad
  | none => .bad
theorem zip_lookup {J : Jd} {fl : Str} {d : D} : ∀ (fs : List (Str × D)) (vs : List V), Reps J M r (fs.map (·.2)) vs → fs.lookup fl = some d → ∃ v, ((fs.map (·.1)).zip vs).lookup fl = some v ∧ Rep J M r d v
  | [], _, _, e => by cases e
  | (f, x) :: fs, vs, t, e => by
    obtain ⟨v, vt, rfl, h1, h2⟩ := t
    rw [List.lookup_cons] at e
    show ∃ w, List.lookup fl ((f, v) :: (fs.map (·.1)).zip vt) = some w ∧ _
    rw [List.lookup_cons]
    cases z : fl == f with
    | true =>
      rw [z] at e
      cases e
      exact ⟨v, rfl, h1⟩
    | false =>
      rw [z] at e
      exact zip_lookup fs vt h2 e
theorem x_tup {a : Addr} {oe : Obj} {cls : Value} {d : Option Addr} {pn : List (Addr × Obj)} {n fl : Str} {i : Nat} {p1 p2 p3 : Pos} {x1 : Nat} {ke : Expr} {kd : D} {kv : V} (hz : Zc cls d oe) (hf : ∃ vs, oe.data = .fields vs) (k : KD ke kd kv) (hN : X.N[i]? = some n) (hv : X.env.scope.names.lookup n = some .local)
    (hb : attributeBase (.Name n p1) fl X.env (eval (.Name n p1) X.env) = eval (.Name n p1) X.env := by rfl) (hd : (n == ("__debug__" : Str)) = false := by decide) (hcd : (n == ("__classdict__" : Str)) = false := by decide)
    (hs1 : starEach [ke, .Attribute (.Name n p1) fl p2] X.env = (false, eval ke X.env) :: starEach [.Attribute (.Name n p1) fl p2] X.env := by rfl) (hs2 : starEach [.Attribute (.Name n p1) fl p2] X.env = (false, eval (.Attribute (.Name n p1) fl p2) X.env) :: starEach [] X.env := by rfl) :
    PE (X.suite a ((a, oe) :: pn)) (.Tuple [ke, .Attribute (.Name n p1) fl p2] x1 p3) (fun σ H Q => (i < σ.length → σ[i]? = some (some (.ref a))) ∧ ∃ C dd fs v, cls = .ref C ∧ XfC X.K C ∧ PySem.W.findIn X.K (.ref C) fl = some none ∧ d = some dd ∧ H dd = some (.xd fs) ∧ fs.lookup fl = some v ∧
      ∀ p, H p = none → Q (.ref p) (upd H p (.tup [kv, v]))) := by
  refine PE.imp (pe_tup (pa_cons (X := X.suite a ((a, oe) :: pn)) k.pe (pa_cons (X := X.suite a ((a, oe) :: pn)) (pe_xn hz hf hN hv hd hcd hb) pa_nil hs2) hs1)) fun σ H Q q => ?_
  obtain ⟨h1, C, dd, fs, v, h2, h3, h4, h5, h6, h7, q⟩ := q
  exact ⟨h1, C, dd, fs, v, h2, h3, h4, h5, h6, h7, by show 2 ≤ sizeLine; decide, q⟩
/-- except C as n: return (k, n.f) -/
theorem su_ret {a : Addr} {oe : Obj} {cls : Value} {d : Option Addr} {pn : List (Addr × Obj)} {n fl : Str} {i : Nat} {tab : List (Str × Str)} {base x : Str} {p1 p2 p3 : Pos} {x1 : Nat} {ke : Expr} {kd : D} {kv : V} (hK : X.K = G.K) (hz : Zc cls d oe) (hf : ∃ vs, oe.data = .fields vs) (k : KD ke kd kv) (hN : X.N[i]? = some n) (hv : X.env.scope.names.lookup n = some .local)
    (ht : tab.all (fun p => !(x == p.1 || x == base) || p.2 == fl) = true)
    (hb : attributeBase (.Name n p1) fl X.env (eval (.Name n p1) X.env) = eval (.Name n p1) X.env := by rfl) (hd : (n == ("__debug__" : Str)) = false := by decide) (hcd : (n == ("__classdict__" : Str)) = false := by decide)
    (hs1 : starEach [ke, .Attribute (.Name n p1) fl p2] X.env = (false, eval ke X.env) :: starEach [.Attribute (.Name n p1) fl p2] X.env := by rfl) (hs2 : starEach [.Attribute (.Name n p1) fl p2] X.env = (false, eval (.Attribute (.Name n p1) fl p2) X.env) :: starEach [] X.env := by rfl) :
    PSs (X.suite a ((a, oe) :: pn)) [.Return (some (.Tuple [ke, .Attribute (.Name n p1) fl p2] x1 p3)) pos] (tX G a cls d i tab base x fun fs => retS (xtF fl kd fs)) := by
  refine pss_one (PS.imp (ps_ret (x_tup hz hf k hN hv hb hd hcd hs1 hs2)) fun E σ H q => ?_)
  obtain ⟨M, r, h, δ, fs, C, fl', b, h1, h2, h3, h4, ⟨c, ht', hx, mC⟩, ea, q⟩ := q
  have hfl : fl' = fl := by
    have y := List.all_eq_true.mp ht _ ht'
    simp only [hx, Bool.not_true, Bool.false_or] at y
    exact eq_of_beq y
  subst hfl
  rw [hK]
  unfold retS xtF at q
  cases z : fs.lookup fl' with
  | none => simp only [z] at q; exact q.elim
  | some xd =>
    simp only [z] at q
    split at q
    · rename_i iv
      have ne : fs ≠ [] := fun y => by subst y; cases z
      have ea : ∃ dx vs, d = some dx ∧ H dx = some (.xd ((fs.map (·.1)).zip vs)) ∧ Reps G.J M r (fs.map (·.2)) vs := by
        cases fs with
        | nil => exact (ne rfl).elim
        | cons _ _ => exact ea
      obtain ⟨dx, vs, e1, e2, t⟩ := ea
      obtain ⟨v, e3, rv⟩ := zip_lookup fs vs t z
      refine ⟨h1, C, dx, _, v, h2, h3, h4, e1, e2, e3, fun p hp => ?_⟩
      obtain ⟨b', s⟩ := b.laid (o := .tup [kv, v]) hp (by show 2 ≤ big; decide)
      exact q _ _ _ _ _ _ s.le s.pre b' ⟨p, _, rfl, .inl updM_same, kv, _, rfl, k.rep, v, _, rfl, Rep.mono s.le s.pre _ _ rv, rfl⟩
    · exact q.elim
end
end LP
/-! LpN: calls by keywords, calls without arguments. -/
namespace LP
open PySem PySem.Spec PyProof.Rows L2
section
variable {X : Cx} {G : Cfg} {W : WX} {σ : L2.St} {δ : DE} {M M' M1 M2 : Imm} {r r' r1 r2 : List Addr} {h h' h1 h2 : Bx} {H H' H1 H2 : Hp} {E : Ends}
variable {e c : Expr} {f g : EF} {tg : Expr} {fs : DE → Bx → R (List D)} {pos : Pos}
theorem PK.imp {kws : List Keyword} {t t' : TA} (p : PK X kws t) (f : ∀ σ H Q, t' σ H Q → t σ H Q) : PK X kws t' := ⟨fun pos pins s σ H Q I h => p.run pos pins s σ H Q I (f σ H Q h)⟩
/-- the keywords' values, as they are written -/
def EvK (X : Cx) (G : Cfg) (W : WX) (kws : List Keyword) (fs : DE → Bx → R (List D)) : Prop := PK X kws (tG G W (rVs G.J) fs)
theorem evk_nil : EvK X G W [] nilA := PK.imp pk_nil fun σ H Q q => by
  obtain ⟨M, r, h, δ, b, q⟩ := q
  exact q.now b rfl
theorem evk_cons {kws : List Keyword} {nm : Option Str} {kpos : Pos} (ha : Ev X G W e f) (hr : EvK X G W kws fs) : EvK X G W (⟨nm, e, kpos⟩ :: kws) (consA f fs) :=
  PK.imp (pk_cons ha hr) fun σ H Q q => by
    obtain ⟨M, r, h, δ, b, q⟩ := q
    refine ⟨M, r, h, δ, b, (After.bind q).more fun x H1 ⟨dx, M1, r1, h1, s1, b1, rx, q1⟩ => ?_⟩
    refine ⟨M1, r1, h1, δ, b1, (After.bind q1).more fun xs H2 ⟨ds, M2, r2, h2, s2, b2, rs, q2⟩ => ?_⟩
    exact q2.now b2 ⟨x, xs, rfl, RepV.mono s2.le s2.pre rx, rs⟩
/-- some of a list, by their places -/
def pickL {α : Type} (ix : List Nat) (l : List α) : List α := ix.filterMap fun i => l[i]?
theorem pickL_len {α : Type} {l : List α} : ∀ {ix : List Nat}, (∀ i ∈ ix, i < l.length) → (pickL ix l).length = ix.length
  | [], _ => rfl
  | i :: ix, h => by
    have hi := h i List.mem_cons_self
    have ih := pickL_len (l := l) (ix := ix) fun j hj => h j (List.mem_cons_of_mem _ hj)
    unfold pickL at ih ⊢
    rw [List.filterMap_cons, List.getElem?_eq_getElem hi]
    simp only [List.length_cons, ih]
theorem RepVs.at_ {J : Jd} : ∀ {ds : List D} {vs : List V} {i : Nat} {d : D}, RepVs J M r δ σ ds vs → ds[i]? = some d → ∃ v, vs[i]? = some v ∧ RepV J M r δ σ d v
  | [], _, _, _, _, e => by simp at e
  | d :: ds, _, 0, _, h, e => by
    obtain ⟨v, vt, rfl, h1, _⟩ := h
    simp at e; subst e
    exact ⟨v, rfl, h1⟩
  | d :: ds, _, i + 1, _, h, e => by
    obtain ⟨v, vt, rfl, _, h2⟩ := h
    obtain ⟨v', e', q⟩ := RepVs.at_ (i := i) h2 (by simpa using e)
    exact ⟨v', by simpa using e', q⟩
theorem pickL_rep {J : Jd} {ds : List D} {vs : List V} (t : RepVs J M r δ σ ds vs) : ∀ {ix : List Nat}, (∀ i ∈ ix, i < ds.length) → RepVs J M r δ σ (pickL ix ds) (pickL ix vs)
  | [], _ => rfl
  | i :: ix, h => by
    have hi := h i List.mem_cons_self
    have ih := pickL_rep t (ix := ix) fun j hj => h j (List.mem_cons_of_mem _ hj)
    obtain ⟨v, e, rv⟩ := t.at_ (List.getElem?_eq_getElem hi)
    unfold pickL at ih ⊢
    rw [List.filterMap_cons, List.filterMap_cons, List.getElem?_eq_getElem hi, e]
    exact ⟨v, _, rfl, rv, ih⟩
theorem pickL_vals : ∀ {ix : List Nat} {vs : List V} {us : List Value}, Vals vs us → Vals (pickL ix vs) (pickL ix us)
  | [], _, _, _ => .nil
  | i :: ix, vs, us, r => by
    have ih := pickL_vals (ix := ix) r
    unfold pickL at ih ⊢
    rw [List.filterMap_cons, List.filterMap_cons]
    cases e : vs[i]? with
    | none => rw [r.none_of e]; exact ih
    | some x =>
      obtain ⟨u, e1, e2⟩ := r.get e
      rw [e1]
      exact .cons e2 ih
/-- how a call by keywords alone binds: the parameter at j takes the keyword at ix j -/
def KwB (fd : FuncData) (ps ks : List Str) (ix : List Nat) : Prop := ∀ (s : Shared) (ws : List Value), ws.length = ks.length → BindsTo s fd ⟨[], ks.zip ws⟩ (ps.zip (pickL ix ws))
theorem kwB_of {K : PySem.W.Frag} {x qual : Str} {st : Stmt} {f : Addr} {fd : FuncData} {ps ks : List Str} {ix : List Nat} (F : Fun K x qual st f fd)
    (h : ∀ (kV doc pm : Value) (an : Option Addr) (cdv ct : Value) (ws : List Value), ws.length = ks.length → bindArgs (PySem.W.fnOf x qual (defArgs st) (defBody st) (defScope st) .none kV doc pm an cdv ct) ⟨[], ks.zip ws⟩ = pure (ps.zip (pickL ix ws))) : KwB fd ps ks ix := by
  obtain ⟨oc, od, kV, doc, pm, an, cdv, ct, osl, rfl, lk, hcd⟩ := F.ex
  exact fun s ws hl => .of_eq (h kV doc pm an cdv ct ws hl)
def callKwF (n : Nat) (ix : List Nat) (F : List D → Bx → R D) (fs : DE → Bx → R (List D)) : EF := fun δ h => (fs δ h).bind fun ds h1 => if (decide (ds.length = n) && ds.all isV) = true then F (pickL ix ds) h1 else .bad
theorem ev_callKw {k n : Nat} {fa : Addr} {fd : FuncData} {ps ks : List Str} {ix : List Nat} {x : Str} {p : Pos} {kws : List Keyword} {F : List D → Bx → R D} (FF : FnOk X.prog X.w X.K X.mg X.base (L2.CX X.prog X.w) k fa fd ps (spF G.K G.mg G.T ps.length F)) (hr : Room k X.A) (tk : Takes X W)
    (hg : Gl X x) (hm : X.mg x = some (.ref fa)) (hk : PySem.W.keepIn X.K (.ref fa) = true) (hb : KwB fd ps ks ix) (hix : ix.all (fun i => decide (i < ks.length)) = true ∧ ix.length = ps.length)
    (ha : EvK X G W kws fs) (hn : ks.length = n := by rfl) (hdb : (x == ("__debug__" : Str)) = false := by decide) (hall : (backToKw pos (keywordEach kws X.env)).all (·.1.isSome) = true := by rfl) (hks : (backToKw pos (keywordEach kws X.env)).filterMap (·.1) = ks := by rfl)
    (hpl : ((backTo pos (starEach [] X.env)).any (·.1) || (backToKw pos (keywordEach kws X.env)).any (·.1.isNone)) = false := by rfl) :
    Ev X G W (.Call (.Name x p) [] kws pos) (callKwF n ix F fs) := by
  subst hn
  refine ⟨fun pins s σ H Q I h => ?_⟩
  obtain ⟨M, r, h, δ, b, q⟩ := h
  refine wpAny_Call_Name_kw (ld_glob I hg hm ?_ hdb)
  refine PySem.W.callWith_KW0 (h₀ := X.base) I.ok.mod.kin hk hall (thn (ha.run pos pins s σ H (fun vs H1 => ∃ ds M1 r1 h1, BS G M1 r1 h1 δ σ H1 ∧ RepVs G.J M1 r1 δ σ ds vs ∧ After G W σ δ (rV G.J δ σ) M1 r1 H1 (if (decide (ds.length = ks.length) && ds.all isV) = true then F (pickL ix ds) h1 else .bad) Q) I
    ⟨M, r, h, δ, b, (After.bind q).more fun vs H1 ⟨ds, M1, r1, h1, s1, b1, rv, q1⟩ => ⟨ds, M1, r1, h1, b1, rv, q1⟩⟩) fun ws s2 ⟨vs, H1, I1, rz, ds, M1, r1, h1, b1, rv, q1⟩ => ⟨I1.kIn, ?_⟩) hpl
  rw [hks]
  split at q1
  · rename_i z
    rw [Bool.and_eq_true, decide_eq_true_eq] at z
    have lv : vs.length = ks.length := by rw [rv.length]; exact z.1
    have lw : ws.length = ks.length := by rw [← rz.length]; exact lv
    have hin : ∀ i ∈ ix, i < ks.length := fun i hi => by
      have y := List.all_eq_true.mp hix.1 i hi
      exact of_decide_eq_true y
    have rp := pickL_rep rv (ix := ix) fun i hi => by rw [z.1]; exact hin i hi
    have ln : (pickL ix ds).length = ps.length := by rw [pickL_len fun i hi => by rw [z.1]; exact hin i hi]; exact hix.2
    have allV : (pickL ix ds).all isV = true := by
      rw [List.all_eq_true]
      intro d hd
      unfold pickL at hd
      obtain ⟨i, _, hi⟩ := List.mem_filterMap.mp hd
      exact List.all_eq_true.mp z.2 d (List.mem_of_getElem? hi)
    have sp : spF G.K G.mg G.T ps.length F (pickL ix vs) H1 Q (WE W σ) := call_sp b1 rp (fun _ _ _ => ln) (fun _ _ _ _ => ln) (by rw [if_pos allV]; exact q1)
    refine wpAny_call (codeAny_mono (FF.run X.A X.stack s2 H1 ⟨[], ks.zip ws⟩ (pickL ix ws) (pickL ix vs) Q (WE W σ) hr I1.env0 (hb s2 ws lw) (pickL_vals rz) sp) fun rr s' hq => ?_)
    cases rr with
    | error er => exact passAt tk σ pins H1 s2 er s' I1 hq
    | ok fl =>
      cases fl with
      | ret u => exact I1.after hq
      | next => exact hq.elim
      | brk => exact hq.elim
      | cont => exact hq.elim
  · exact q1.elim
/-- f() -/
theorem ev_call0 {k : Nat} {fa : Addr} {fd : FuncData} {x : Str} {p : Pos} {F : List D → Bx → R D} (FF : FnOk X.prog X.w X.K X.mg X.base (L2.CX X.prog X.w) k fa fd [] (spF G.K G.mg G.T 0 F)) (hr : Room k X.A) (tk : Takes X W)
    (hg : Gl X x) (hm : X.mg x = some (.ref fa)) (hk : PySem.W.keepIn X.K (.ref fa) = true) (hb : Binds X.K fd [] []) (hdb : (x == ("__debug__" : Str)) = false := by decide) :
    Ev X G W (.Call (.Name x p) [] [] pos) (fun _ h => F [] h) := by
  refine ⟨fun pins s σ H Q I h => ?_⟩
  obtain ⟨M, r, h, δ, b, q⟩ := h
  refine wpAny_Call_Name_kw (ld_glob I hg hm ?_ hdb)
  refine PySem.W.callWith_K0 I.kIn hk ?_
  have sp : spF G.K G.mg G.T 0 F [] H Q (WE W σ) := call_sp (ds := []) b rfl (fun _ _ _ => rfl) (fun _ _ _ _ => rfl) q
  refine wpAny_call (codeAny_mono (FF.run X.A X.stack s H ⟨[], []⟩ [] [] Q (WE W σ) hr I.env0 (hb s [] I.kIn rfl) .nil sp) fun rr s' hq => ?_)
  cases rr with
  | error er => exact passAt tk σ pins H s er s' I hq
  | ok fl =>
    cases fl with
    | ret u => exact I.after hq
    | next => exact hq.elim
    | brk => exact hq.elim
    | cont => exact hq.elim
end
end LP
/-! LpO: lambdas without parameters as data. -/
namespace LP
open PySem PySem.Spec PyProof.Rows L2
open PySem.W (kla_obj kla_fn)
section
variable {X : Cx} {G : Cfg} {W : WX} {σ : L2.St} {δ : DE} {M M' M1 M2 : Imm} {r r' r1 r2 : List Addr} {h h' h1 h2 : Bx} {H H' H1 H2 : Hp} {E : Ends}
variable {e c : Expr} {f g : EF} {tg : Expr} {fs : DE → Bx → R (List D)} {pos : Pos}
/-- a known thing is known to be so for good -/
theorem BS.know (b : BS G M r h δ σ H) {p : Addr} {φ : Heap → Prop} (e : H p = some (.ext φ)) : BS G (updM M p (.ext φ)) r h δ σ H ∧ Stp M r H (updM M p (.ext φ)) r H := by
  have le : Le M (updM M p (.ext φ)) := fun a u q => by
    unfold updM
    by_cases z : a = p
    · subst z
      have := (b.mok a u q).2
      rw [e] at this
      rw [if_pos rfl]; exact this
    · rw [if_neg z]; exact q
  have nM : ∀ a, a ≠ p → M a = none → updM M p (.ext φ) a = none := fun a n q => by unfold updM; rw [if_neg n]; exact q
  have nl : ∀ {a : Addr} {u : HO}, Wr u → H a = some u → a ≠ p := fun w q z => by rw [z, e] at q; cases q; exact w
  refine ⟨⟨fun a u q => ?_, ⟨b.bx.len, b.bx.nd, fun n a ds e1 e2 => ?_⟩, b.tb, b.len, fun i s x e1 e2 => ?_, b.sep, b.le.trans le, b.pre, b.new, b.keep, fun a m f n => nM a (fun z => ?_) (b.nf a m f n)⟩, le, List.prefix_rfl, fun a z => .inl z, Keep.refl, fun a m f n => nM a (fun z => ?_) m⟩
  · unfold updM at q
    by_cases z : a = p
    · subst z
      rw [if_pos rfl] at q; cases q
      exact ⟨trivial, e⟩
    · rw [if_neg z] at q
      exact b.mok a u q
  · obtain ⟨m, z, vs, q, t⟩ := b.bx.at_ n a ds e1 e2
    exact ⟨nM a (nl (u := .lst _) trivial q) m, z, vs, q, Reps.mono le List.prefix_rfl _ _ t⟩
  · exact (b.sl i s x e1 e2).mono le List.prefix_rfl fun a u w m q n => ⟨nM a (nl w q) m, n, q⟩
  · obtain ⟨vs, q, w⟩ := f.fwd b.keep n
    exact nl w q z
  · obtain ⟨vs, q, w⟩ := f
    exact nl w q z
/-- a table grows -/
theorem BS.grown (b : BS G M r h δ σ H) (hT : ∀ p ∈ G.T, H p.1 ≠ none) {P : Addr} {ps qs : Array Value} (e : H P = some (.tbl ps)) (tb : LamX.Tabs G.T (upd H P (.tbl qs))) : BS G M r h δ σ (upd H P (.tbl qs)) ∧ Stp M r H M r (upd H P (.tbl qs)) := by
  have ne : ∀ {a : Addr} {u : HO}, H a = some u → (∀ ps, u ≠ .tbl ps) → upd H P (.tbl qs) a = some u := fun q n => by
    rw [upd_ne (fun z => by rw [z, e] at q; cases q; exact n ps rfl)]; exact q
  have nM : ∀ {a : Addr} {u : HO}, M a = some u → ∀ ps, u ≠ .tbl ps := fun q ps z => by
    subst z
    exact (b.mok _ _ q).1
  refine ⟨⟨fun a u q => ⟨(b.mok a u q).1, ne (b.mok a u q).2 (nM q)⟩, ⟨b.bx.len, b.bx.nd, fun n a ds e1 e2 => ?_⟩, tb, b.len, fun i s x e1 e2 => ?_, b.sep, b.le, b.pre, b.new, fun a u q t n => ne (b.keep a u q t n) t, b.nf⟩, Le.refl, List.prefix_rfl, fun a z => .inl z, fun a u q t n => ne q t, fun a m _ _ => m⟩
  · obtain ⟨m, z, vs, q, t⟩ := b.bx.at_ n a ds e1 e2
    exact ⟨m, z, vs, ne q (fun _ z => by cases z), t⟩
  · exact (b.sl i s x e1 e2).mono Le.refl List.prefix_rfl fun a u w m q n => ⟨m, n, ne q (fun _ z => w.ne_tbl z)⟩
/-! ### the making -/
/-- the lambdas of a def, by their numbers -/
structure LamD where
  params : Arguments
  body : Expr
  scope : Scope
def lamL (tab : List LamD) (env : Env) : LamP := fun k f o c q => ∃ (ld : LamD) (pm ctv : Value), tab[k]? = some ld ∧ q = env.qual ++ "<lambda>" ∧ o = kla_obj "<lambda>" q ld.params ld.body ld.scope (cloFrom env.cells ld.scope.names []) pm c ctv
/-- a lambda of the frame is made: what stands behind it -/
theorem lam_new {pins : List (Addr × Obj)} {s : Shared} {T : List (Addr × Str)} {c P : Addr} {params : Arguments} {body : Expr} {scope : Scope} {E : Value → Shared → Prop} {Q : Value → Shared → Prop} (I : Inv X pins σ H s) (TB : LamX.TabB X.base X.mg c P) (hcode : X.env.code = .ref c)
    (hm : (P, X.env.qual ++ "<lambda>") ∈ T) (hu : ∀ p ∈ T, p.1 = P → p.2 = X.env.qual ++ "<lambda>") (hT : LamX.Tabs T H) (hdef : defaultsOf params X.env = ([], [])) (hfree : ∀ y ∈ scope.names, y.2 = .free → ∃ c, X.env.cells.lookup y.1 = some c)
    (h1 : ∀ (ps : Array Value) (c' f : Addr) (more : Array Value) (pm ctv : Value) (s' : Shared), H P = some (.tbl ps) → H c' = none → c' ≠ P → H f = none → f ≠ c' → f ≠ P → LamX.Tabs T (upd (upd H P (.tbl (ps ++ more))) c' (LamX.CodeO c' (X.env.qual ++ "<lambda>"))) →
      Inv X pins σ (upd (upd (upd H P (.tbl (ps ++ more))) c' (LamX.CodeO c' (X.env.qual ++ "<lambda>"))) f (LamO f (kla_obj "<lambda>" (X.env.qual ++ "<lambda>") params body scope (cloFrom X.env.cells scope.names []) pm c' ctv))) s' → Q (.ref f) s')
    (h2 : ∀ (c' f : Addr) (pm ctv : Value) (s' : Shared), H c' = some (LamX.CodeO c' (X.env.qual ++ "<lambda>")) → H f = none →
      Inv X pins σ (upd H f (LamO f (kla_obj "<lambda>" (X.env.qual ++ "<lambda>") params body scope (cloFrom X.env.cells scope.names []) pm c' ctv))) s' → Q (.ref f) s') :
    wpAny (model X.prog X.w) X.A (eval (.Lambda params body scope pos) X.env) Q E s := by
  have okF : ∀ {G : Hp} {hp : Heap} {f : Addr} {o : Obj}, hp.get? f = some o → ObjOk X.prog X.w G hp f (LamO f o) := fun q => ⟨q, ⟨_, q⟩, fun _ _ y k => k _ y⟩
  obtain ⟨ps, hP, tri, among⟩ := hT _ hm
  have bP : s.heap.BuiltinsAt X.mg P := TB.bm.keeps I.bk
  have atP : s.heap.get? P = some (PySem.W.tabObj ps) := I.hok P _ hP
  have glob := I.mod.glob.keeps I.bk
  have hd := TB.code.keeps I.bk
  have clo := closure_ok hfree
  refine PySem.W.kla_eval hdef ?_
  cases hc : codeAmong pos ps.toList with
  | some cv =>
    obtain ⟨c', rfl, hC⟩ := among pos cv hc
    refine PySem.W.kla_makeFunctionHit (mg := X.mg) clo I.ok.glob glob hcode hd atP tri hc bP fun ctv hp tk up sz => ?_
    have I1 : Inv X pins σ H { s with heap := hp } := I.kept (t' := s.toks) up
    refine h2 c' hp.objs.size ((X.mg "__name__").getD .none) ctv _ hC (I.hok.fresh sz) ?_
    exact I1.laid (t' := tk) (fun _ _ q => Heap.get?_push_of_some _ q) (Nat.le_refl _) (okF (Heap.get?_push_size _ rfl))
  | none =>
    refine PySem.W.kla_makeFunction (mg := X.mg) clo I.ok.glob glob hcode hd atP tri hc TB.gP bP fun c' ctv hp tk up ge lt rec_ tab => ?_
    obtain ⟨c2, oc, vs, t, e2, q1, q2, q3⟩ := rec_
    cases e2
    have nC : H c' = none := I.hok.fresh ge
    have I1 := LamX.inv_table (q := X.env.qual ++ "<lambda>") (t' := tk) (more := #[rawInt pos.line, rawInt pos.col, .ref c']) I hP (fun b o nb q => up b o nb q) tab ge ⟨oc, vs, t, q1, q2, q3⟩
    have PC : P ≠ c' := ne_of_none hP nC
    have sz : s.heap.objs.size ≤ hp.objs.size := Nat.le_trans ge (Nat.le_of_lt lt)
    have nF : H hp.objs.size = none := I.hok.fresh sz
    have fc : hp.objs.size ≠ c' := Nat.ne_of_gt lt
    have fP : hp.objs.size ≠ P := Nat.ne_of_gt (Nat.lt_of_lt_of_le (Heap.lt_size atP) sz)
    refine h1 ps c' hp.objs.size _ ((X.mg "__name__").getD .none) ctv _ hP nC (Ne.symm PC) nF fc fP (fun p hp' => ?_) (I1.laid (t' := tk) (fun _ _ q => Heap.get?_push_of_some _ q) (Nat.le_refl _) (okF (Heap.get?_push_size _ rfl)))
    -- the tables
    have old : ∀ {b : Addr} {o : HO}, H b = some o → (∀ ps, o ≠ .tbl ps) → upd (upd H P (.tbl (ps ++ #[rawInt pos.line, rawInt pos.col, .ref c']))) c' (LamX.CodeO c' (X.env.qual ++ "<lambda>")) b = some o := fun q n => by
      have y : ∀ {b : Addr} {o : HO}, H b = some o → (∀ ps, o ≠ .tbl ps) → b ≠ P := fun {b o} q n z => by
        subst z
        exact n ps (Option.some.inj (q.symm.trans hP))
      rw [upd_ne (ne_of_none q nC), upd_ne (y q n)]
      exact q
    by_cases hb : p.1 = P
    · have eq : p.2 = X.env.qual ++ "<lambda>" := hu p hp' hb
      have app : (ps ++ #[rawInt pos.line, rawInt pos.col, .ref c']).toList = ps.toList ++ [rawInt pos.line, rawInt pos.col, .ref c'] := by simp
      refine ⟨_, by rw [hb, upd_ne PC, upd_same], by rw [app]; exact PySem.TriplesOk_snoc _ _ _ _ tri, fun p' cv y => ?_⟩
      rw [app] at y
      rw [eq]
      rcases LamX.among_app _ tri y with y | y
      · obtain ⟨c0, y1, y2⟩ := among p' cv y
        exact ⟨c0, y1, old y2 LamX.codeO_ne⟩
      · exact ⟨c', y, upd_same⟩
    · obtain ⟨qs, y1, y2, y3⟩ := hT p hp'
      refine ⟨qs, by rw [upd_ne (ne_of_none y1 nC), upd_ne hb]; exact y1, y2, fun p' cv y => ?_⟩
      obtain ⟨c0, z1, z2⟩ := y3 p' cv y
      exact ⟨c0, z1, old z2 LamX.codeO_ne⟩
theorem ev_lam {tab : List LamD} {k : Nat} {ca P : Addr} {params : Arguments} {body : Expr} {scope : Scope} (hL : G.L = lamL tab X.env) (hk : tab[k]? = some ⟨params, body, scope⟩) (TB : LamX.TabB X.base X.mg ca P) (hcode : X.env.code = .ref ca)
    (hm : (P, X.env.qual ++ "<lambda>") ∈ G.T) (hu : ∀ p ∈ G.T, p.1 = P → p.2 = X.env.qual ++ "<lambda>") (L : LamX.LamS X.env.scope scope) (hdef : defaultsOf params X.env = ([], []) := by rfl) :
    Ev X G W (.Lambda params body scope pos) (cF (.lam k)) := by
  refine ⟨fun pins s σ H Q I q => ?_⟩
  obtain ⟨M, r, h, δ, b, q⟩ := q
  have q : ∀ v M' r' H', Stp M r H M' r' H' → BS G M' r' h δ σ H' → RepV G.J M' r' δ σ (.lam k) v → Q v H' := q
  refine lam_new I TB hcode hm hu b.tb hdef (L.has I.ok) (fun ps c' f more pm ctv s' hP nC cP nF fc fP tb I' => ?_) (fun c' f pm ctv s' hC nF I' => ?_)
  · -- a new code object
    have nM : ∀ {a : Addr} {u : HO}, M a = some u → ∀ ps, u ≠ .tbl ps := fun q ps z => by
      subst z
      exact (b.mok _ _ q).1
    have tb0 : LamX.Tabs G.T (upd (upd H P (.tbl (ps ++ more))) c' (LamX.CodeO c' (X.env.qual ++ "<lambda>"))) := tb
    have ne : ∀ {a : Addr} {u : HO}, H a = some u → (∀ ps, u ≠ .tbl ps) → upd (upd H P (.tbl (ps ++ more))) c' (LamX.CodeO c' (X.env.qual ++ "<lambda>")) a = some u := fun {a u} q n => by
      have y : a ≠ P := fun z => by
        subst z
        exact n ps (Option.some.inj (q.symm.trans hP))
      rw [upd_ne (ne_of_none q nC), upd_ne y]
      exact q
    have st0 : Stp M r H M r (upd (upd H P (.tbl (ps ++ more))) c' (LamX.CodeO c' (X.env.qual ++ "<lambda>"))) := ⟨Le.refl, List.prefix_rfl, fun a z => .inl z, fun a u q t n => ne q t, fun a m _ _ => m⟩
    have b0 : BS G M r h δ σ (upd (upd H P (.tbl (ps ++ more))) c' (LamX.CodeO c' (X.env.qual ++ "<lambda>"))) := by
      refine b.after st0 (fun a u y => ⟨(b.mok a u y).1, ne (b.mok a u y).2 (nM y)⟩) ⟨b.bx.len, b.bx.nd, fun n a ds e1 e2 => ?_⟩ tb0
      obtain ⟨m, z, vs, y, t⟩ := b.bx.at_ n a ds e1 e2
      exact ⟨m, z, vs, ne y (fun _ z => by cases z), t⟩
    obtain ⟨b1, st1⟩ := b0.know (p := c') upd_same
    have nF1 : upd (upd H P (.tbl (ps ++ more))) c' (LamX.CodeO c' (X.env.qual ++ "<lambda>")) f = none := by rw [upd_ne fc, upd_ne fP]; exact nF
    obtain ⟨b2, st2⟩ := b1.laid (o := LamO f (kla_obj "<lambda>" (X.env.qual ++ "<lambda>") params body scope (cloFrom X.env.cells scope.names []) pm c' ctv)) nF1 trivial
    refine ⟨.ref f, _, I', rfl, q _ _ _ _ ((st0.trans st1).trans st2) b2 ⟨f, _, c', _, rfl, updM_same, st2.le _ _ updM_same, ?_⟩⟩
    show G.L _ _ _ _ _
    rw [hL]
    exact ⟨⟨params, body, scope⟩, pm, ctv, hk, rfl, rfl⟩
  · obtain ⟨b1, st1⟩ := b.know (p := c') hC
    obtain ⟨b2, st2⟩ := b1.laid (o := LamO f (kla_obj "<lambda>" (X.env.qual ++ "<lambda>") params body scope (cloFrom X.env.cells scope.names []) pm c' ctv)) nF trivial
    refine ⟨.ref f, _, I', rfl, q _ _ _ _ (st1.trans st2) b2 ⟨f, _, c', _, rfl, updM_same, st2.le _ _ updM_same, ?_⟩⟩
    show G.L _ _ _ _ _
    rw [hL]
    exact ⟨⟨params, body, scope⟩, pm, ctv, hk, rfl, rfl⟩
end
end LP
/-! LpP: a def that calls the lambda it got. -/
namespace LP
open PySem PySem.Spec PyProof.Rows L2
open PySem.W (kla_obj kla_fn)
section
variable {X : Cx} {G : Cfg} {W : WX} {σ : L2.St} {δ : DE} {M M' M1 M2 : Imm} {r r' r1 r2 : List Addr} {h h' h1 h2 : Bx} {H H' H1 H2 : Hp} {E : Ends}
variable {e c : Expr} {f g : EF} {tg : Expr} {fs : DE → Bx → R (List D)} {pos : Pos}
/-- the slots without own lists -/
def pubS : SV → SV
  | .own _ => .no
  | .ownD _ => .no
  | s => s
def pubD (δ : DE) : DE := δ.map pubS
abbrev Cfg.at_ (G : Cfg) (M : Imm) (r : List Addr) (H : Hp) : Cfg := ⟨G.K, G.mg, G.T, M, r, H, G.L⟩
theorem BS.rebase (b : BS G M r h δ σ H) : BS (G.at_ M r H) M r h (pubD δ) σ H := by
  have no : ∀ {i : Nat} {ds : SV}, (pubD δ)[i]? = some ds → ds.ow = true → False := fun {i ds} e w => by
    unfold pubD at e
    rw [List.getElem?_map] at e
    cases z : δ[i]? with
    | none => rw [z] at e; cases e
    | some s => rw [z] at e; cases s <;> cases e <;> cases w
  refine ⟨b.mok, b.bx, b.tb, by unfold pubD; rw [List.length_map]; exact b.len, fun i s o e1 e2 => ?_, fun i j ds es e1 _ w _ _ => (no e1 w).elim, Le.refl, List.prefix_rfl, fun a z => .inl z, Keep.refl, fun a m _ _ => m⟩
  unfold pubD at e1
  rw [List.getElem?_map] at e1
  cases z : δ[i]? with
  | none => rw [z] at e1; cases e1
  | some s0 =>
    rw [z] at e1
    have q := b.sl i s0 o z e2
    cases s0 with
    | no => cases e1; trivial
    | own ds => cases e1; trivial
    | ownD ds => cases e1; trivial
    | v d => cases e1; exact q
/-- from here on -/
theorem BS.stp (b : BS (G.at_ M r H) M' r' h' δ σ H') : Stp M r H M' r' H' := ⟨b.le, b.pre, b.new, b.keep, b.nf⟩
/-- the lambda that a slot holds, called -/
def actF (Λ : Nat → Bx → R D) (i : Nat) : EF := fun δ h => match δ[i]? with
  | some (.v (.lam k)) => (Λ k h).bind fun d h1 => if isV d = true then .ok d h1 else .bad
  | _ => .bad
/-- what is asked of the lambdas' texts -/
structure LamOk (X : Cx) (G : Cfg) (j : Nat) (ld : LamD) (f : EF) : Prop where
  L : LamX.LamS X.env.scope ld.scope
  bind : ∀ (q : Str) (cl : List (Str × Addr)) (pm cv ctv : Value), bindArgs (kla_fn "<lambda>" q ld.params ld.body ld.scope cl pm cv ctv) ⟨[], []⟩ = pure []
  body : ∀ (A : Around) (outer : List PySem.Env) (s : Shared) (H : Hp) (E : XK) (f' c' : Addr) (M : Imm) (r : List Addr), Room j (A.deeper (LamX.lamEnv X ld.scope s.heap.objs.size f' c')) →
    Ev (LamX.lamCx X A outer s H E ld.scope f' c') (G.at_ M r H) (fun c d _ H => E c d H) ld.body f
theorem act_ok {X0 : Cx} {pins0 : List (Addr × Obj)} {s : Shared} {tab : List LamD} {bodies : Nat → EF} {j i : Nat} {Nh : List Str} {qh : Str} {sh : Scope} {fh : Addr} {cdh : Value} {Eh : XK} {pn : List (Addr × Obj)} {xe : Value → Shared → Prop} {W' : WX} {a : Str} {p1 p2 : Pos}
    (I : Inv X0 pins0 σ H s) (b : BS G M r h δ σ H) (hL : G.L = lamL tab X0.env) (hb : ∀ k ld, tab[k]? = some ld → LamOk X0 G j ld (bodies k))
    (hr : Room (j + 1) (X0.A.deeper (envOfC qh sh s.heap.objs.size fh cdh))) (tk : Takes ((cxOf (L2.CX X0.prog X0.w) X0.prog X0.w X0.K X0.mg X0.base Nh qh sh fh cdh X0.A X0.stack s H Eh).tr pn xe) W')
    (hN : Nh[i]? = some a) (hv : Vis sh a) (hd : (a == ("__debug__" : Str)) = false := by decide) (hcd : (a == ("__classdict__" : Str)) = false := by decide) :
    Ev ((cxOf (L2.CX X0.prog X0.w) X0.prog X0.w X0.K X0.mg X0.base Nh qh sh fh cdh X0.A X0.stack s H Eh).tr pn xe) (G.at_ M r H) W' (.Call (.Name a p1) [] [] p2) (actF (fun k h => bodies k (pubD δ) h) i) := by
  refine ⟨fun pinsZ sZ σZ HZ Q IZ q => ?_⟩
  obtain ⟨M', r', h', δZ, bZ, q⟩ := q
  have hr' : Room (j + 1) ((cxOf (L2.CX X0.prog X0.w) X0.prog X0.w X0.K X0.mg X0.base Nh qh sh fh cdh X0.A X0.stack s H Eh).tr pn xe).A := hr
  unfold actF at q
  split at q
  · rename_i k ek
    obtain ⟨o, eo⟩ := bZ.lt ek
    obtain ⟨v, rfl, f0, ob, c, qn, rfl, mf, mc, hk⟩ := bZ.sl i _ _ ek eo
    have hk : G.L k f0 ob c qn := hk
    rw [hL] at hk
    obtain ⟨ld, pm, ctv, et, rfl, rfl⟩ := hk
    have LO := hb k ld et
    refine wpAny_Call_Name_kw (thn ((pe_var (pos := p1) (i := i) hN hv hd hcd).run pinsZ sZ σZ HZ (fun v H1 => v = .ref f0 ∧ H1 = HZ) IZ ⟨.ref f0, eo, rfl, rfl⟩) fun u s1 ⟨v, H1, I1, r1, e1, e2⟩ => ?_)
    subst e1
    subst e2
    obtain rfl : u = Value.ref f0 := r1
    have atf : s1.heap.get? f0 = some (kla_obj "<lambda>" (X0.env.qual ++ "<lambda>") ld.params ld.body ld.scope (cloFrom X0.env.cells ld.scope.names []) pm c ctv) := (I1.hok f0 _ (bZ.mok f0 _ mf).2).1
    obtain ⟨⟨oc, us, t, hoc, hdc, hvc⟩, _, _⟩ := I1.hok c _ (bZ.mok c _ mc).2
    have un : Un (frs X0.stack) [] H H1 s.heap s1.heap := I1.base
    refine PySem.W.callWith_F0 ⟨_, _, _, _, atf⟩ ?_
    have run : codeAny (model X0.prog X0.w) (X0.A.deeper (envOfC qh sh s.heap.objs.size fh cdh)) (.call (.ref f0) ⟨[], []⟩) (CR (L2.CX X0.prog X0.w) (envOfC qh sh s.heap.objs.size fh cdh :: X0.stack) X0.prog X0.w H1 s1 Q (WE W' σZ)) s1 := by
      refine PySem.W.kla_callFunE hr'.depth atf rfl LO.L.co LO.L.gen rfl ⟨c, oc, us, t, rfl, hoc, hdc, hvc⟩ ?_
      rw [LO.bind]
      refine wpAny_pure (wpAny_newFunctionEnv (fun y hy => (LO.L.own y hy).2) (fun y hy => absurd hy (by simp)) (fun hp hns hsb => ⟨I1.nolimit.fresh _ hsb, ?_⟩) LO.L.kind)
      have up : ∀ b o, s1.heap.get? b = some o → hp.get? b = some o := fun b o e => hsb.extBut b o (Nat.ne_of_lt (Heap.lt_size e)) (Heap.get?_push_of_some _ e)
      have J := LamX.lam_start2 (A := X0.A.deeper (envOfC qh sh s.heap.objs.size fh cdh)) (outer := envOfC qh sh s.heap.objs.size fh cdh :: X0.stack) (E := WE W' σZ) (f := f0) (c' := c) (tk := s1.toks + ([] : List (Str × Value)).length) I LO.L I1.env0 hr'.hd un hns up
      -- the maker's slots, as they stand now
      have bM := (b.after bZ.stp bZ.mok bZ.bx bZ.tb).rebase
      refine PySem.W.kla_codeExpr (wpAny_mono ((LO.body _ _ s1 H1 (WE W' σZ) f0 c M' r' (hr'.deeper _)).run [] _ _ H1 Q J ⟨M', r', h', pubD δ, bM, ?_⟩) (fun v s' hq => ?_) fun e s' hq => hq)
      · -- back in the def
        have back : ∀ {M2 r2 h2 H2}, BS (Cfg.at_ (Cfg.at_ G M r H) M' r' H1) M2 r2 h2 (pubD δ) σ H2 → Stp M' r' H1 M2 r2 H2 → BS (G.at_ M r H) M2 r2 h2 δZ σZ H2 := fun b2 s2 => bZ.after s2 b2.mok b2.bx b2.tb
        have q : After (G.at_ M r H) W' σZ δZ (rV G.J δZ σZ) M' r' H1 ((bodies k (pubD δ) h').bind fun d h1 => if isV d = true then R.ok d h1 else R.bad) Q := q
        cases y : bodies k (pubD δ) h' with
        | ok d h2 =>
          rw [y] at q
          simp only [R.bind_ok] at q
          split at q
          · rename_i iv
            intro v M2 r2 H2 s2 b2 rv
            refine q v M2 r2 H2 s2 (back b2 s2) ?_
            cases d with
            | loc i => cases iv
            | _ => exact rv
          · exact q.elim
        | exc cn fs h2 =>
          rw [y] at q
          exact fun C dd M2 r2 H2 m s2 b2 ea => q C dd M2 r2 H2 m s2 (back b2 s2) ea
        | bad => rw [y] at q; exact q.elim
      · obtain ⟨w', H', J', rv, hq⟩ := hq
        exact ⟨w', H', J'.os, J'.bare, J'.base, J'.hok, rv, hq⟩
    refine wpAny_call (codeAny_mono run fun rr s' hq => ?_)
    cases rr with
    | error er => exact passAt tk σZ pinsZ H1 s1 er s' I1 hq
    | ok fl =>
      cases fl with
      | ret u => exact I1.after hq
      | next => exact False.elim hq
      | brk => exact False.elim hq
      | cont => exact False.elim hq
  · exact q.elim
end
end LP
namespace LP
open PySem PySem.Spec PyProof.Rows L2
section
variable {X : Cx} {G : Cfg} {W : WX} {σ : L2.St} {δ : DE} {M M' M1 M2 : Imm} {r r' r1 r2 : List Addr} {h h' h1 h2 : Bx} {H H' H1 H2 : Hp} {E : Ends}
variable {e c : Expr} {f g : EF} {tg : Expr} {fs : DE → Bx → R (List D)} {pos : Pos}
/-- the def at fa calls what it gets: its body by the functions of the lambdas -/
def HeardOk (P : Program) (w : World) (K : PySem.W.Frag) (mg : Str → Option Value) (base : Heap) (k : Nat) (st : Stmt) (fa : Addr) (x a : Str) (N : List Str) (sf : (Nat → Bx → R D) → SF) : Prop :=
  ∀ (Λ : Nat → Bx → R D) (cdv : Value) (A : Around) (outer : List PySem.Env) (s : Shared) (H : Hp) (E : XK) (T : List (Addr × Str)) (M : Imm) (r : List Addr) (L : LamP), Room k (A.deeper (envOfC x (defScope st) s.heap.objs.size fa cdv)) →
    (∀ (W' : WX) (pn : List (Addr × Obj)) (xe : Value → Shared → Prop) (p1 p2 : Pos), Takes ((cxOf (L2.CX P w) P w K mg base N x (defScope st) fa cdv A outer s H E).tr pn xe) W' →
      Ev ((cxOf (L2.CX P w) P w K mg base N x (defScope st) fa cdv A outer s H E).tr pn xe) ⟨K, mg, T, M, r, H, L⟩ W' (.Call (.Name a p1) [] [] p2) (actF Λ 0)) →
    Ess (cxOf (L2.CX P w) P w K mg base N x (defScope st) fa cdv A outer s H E) ⟨K, mg, T, M, r, H, L⟩ (fun c d _ H => E c d H) (defBody st) (sf Λ)
/-- what the call of such a def computes -/
def heardF (bodies : Nat → EF) (n : Nat) (sf : (Nat → Bx → R D) → SF) (δ : DE) (d : D) (h : Bx) : R D := match d with
  | .lam k => runF n (sf fun k h => bodies k (pubD δ) h) [.lam k] h
  | _ => .bad
theorem heard_run {k : Nat} {st : Stmt} {fa : Addr} {fd : FuncData} {x a : Str} {N : List Str} {sf : (Nat → Bx → R D) → SF} {Λ : Nat → Bx → R D} {pins : List (Addr × Obj)} {s : Shared} {Q : VK} {v : V} {u : Value} {n : Nat}
    (Fh : Fun X.K x x st fa fd) (S : FnScope N [a] (defScope st)) (hb : Binds X.K fd [a] []) (ho : HeardOk X.prog X.w X.K X.mg X.base k st fa x a N sf) (hr : Room (k + 1) X.A) (tk : Takes X W) (hGK : G.K = X.K) (hGm : G.mg = X.mg)
    (I : Inv X pins σ H s) (b : BS G M r h δ σ H) (rv : Rep G.J M r (.lam n) v) (ru : RelV v u)
    (act : ∀ (cdv : Value) (E : XK), Room k (X.A.deeper (envOfC x (defScope st) s.heap.objs.size fa cdv)) → ∀ (W' : WX) (pn : List (Addr × Obj)) (xe : Value → Shared → Prop) (p1 p2 : Pos), Takes ((cxOf (L2.CX X.prog X.w) X.prog X.w X.K X.mg X.base N x (defScope st) fa cdv X.A X.stack s H E).tr pn xe) W' →
      Ev ((cxOf (L2.CX X.prog X.w) X.prog X.w X.K X.mg X.base N x (defScope st) fa cdv X.A X.stack s H E).tr pn xe) (G.at_ M r H) W' (.Call (.Name a p1) [] [] p2) (actF Λ 0))
    (q : After G W σ δ (rV G.J δ σ) M r H (runF N.length (sf Λ) [.lam n] h) Q) :
    wpAny (model X.prog X.w) X.A (call (.ref fa) [u]) (EP X pins σ Q) X.xe s := by
  obtain ⟨oc, od, kV, doc, pm, an, cdv, ct, osl, rfl, lk, hcd⟩ := Fh.ex
  refine wpAny_call (codeAny_mono (LamX.run_ofS (N := N) (ps := [a]) (CX := L2.CX X.prog X.w) (us := [u]) (vs := [v]) (Q := Q) (E := WE W σ) lk hcd S hr.r I.env0 (hb s [u] I.kIn rfl) (.cons ru .nil) rfl fun hr' => ?_) fun rr s' hq => ?_)
  · have hr' : Room k (X.A.deeper (envOfC x (defScope st) s.heap.objs.size fa cdv)) := ⟨hr', hr.gd⟩
    have hs := ho Λ cdv X.A X.stack s H (WE W σ) G.T M r G.L hr'
    rw [← hGK, ← hGm] at hs
    have act := act cdv (WE W σ) hr'
    rw [← hGK, ← hGm] at act
    have hs := hs act
    have key : spF G.K G.mg G.T 1 (runF N.length (sf Λ)) [v] H Q (WE W σ) := call_sp (ds := [.lam n]) b ⟨v, [], rfl, rv, rfl⟩ (fun _ _ _ => rfl) (fun _ _ _ _ => rfl) q
    rw [← hGK, ← hGm]
    refine ⟨_, hs, M, r, h, _, bs_start (ds := [.lam n]) (L := G.L) (N := N) b.mok b.bx b.tb ⟨v, [], rfl, rv, rfl⟩, ?_⟩
    unfold runF at q
    have st : ∀ {M' r' h' δ' σ' H'}, BS ⟨G.K, G.mg, G.T, M, r, H, G.L⟩ M' r' h' δ' σ' H' → Stp M r H M' r' H' := fun b => ⟨b.le, b.pre, b.new, b.keep, b.nf⟩
    cases z : sf Λ (startD N.length [.lam n]) h with
    | nx δ' h' => rw [z] at q; exact fun M' r' σ' H' _ _ b' => q .non M' r' H' (st b') (b.after (st b') b'.mok b'.bx b'.tb) rfl
    | rt d h' => rw [z] at q; exact fun v M' r' δ' σ' H' _ _ b' rv => q v M' r' H' (st b') (b.after (st b') b'.mok b'.bx b'.tb) (rep_V rv)
    | exc c fs δ' h' => rw [z] at q; exact fun C dd M' r' σ' H' m _ _ b' ea => q C dd M' r' H' m (st b') (b.after (st b') b'.mok b'.bx b'.tb) ea
    | bk δ h' => rw [z] at q; exact q.elim
    | ct δ h' => rw [z] at q; exact q.elim
    | bad => rw [z] at q; exact q.elim
  · cases rr with
    | error er => exact passAt tk σ pins H s er s' I hq
    | ok fl =>
      cases fl with
      | ret u => exact I.after hq
      | next => exact hq.elim
      | brk => exact hq.elim
      | cont => exact hq.elim
/-- x(e), e a lambda of this frame -/
theorem ev_heard {k j : Nat} {tab : List LamD} {bodies : Nat → EF} {st : Stmt} {fa : Addr} {fd : FuncData} {x a : Str} {N : List Str} {sf : (Nat → Bx → R D) → SF} {p : Pos}
    (Fh : Fun X.K x x st fa fd) (S : FnScope N [a] (defScope st)) (hb : Binds X.K fd [a] []) (ho : HeardOk X.prog X.w X.K X.mg X.base k st fa x a N sf) (hr : Room (k + 1) X.A) (tk : Takes X W) (hGK : G.K = X.K) (hGm : G.mg = X.mg) (hjk : j + 1 ≤ k)
    (hL : G.L = lamL tab X.env) (hbd : ∀ k ld, tab[k]? = some ld → LamOk X G j ld (bodies k)) (hNa : N[0]? = some a) (hva : Vis (defScope st) a) (hg : Gl X x) (hm : X.mg x = some (.ref fa)) (ha : Ev X G W e f)
    (hda : (a == ("__debug__" : Str)) = false := by decide) (hca : (a == ("__classdict__" : Str)) = false := by decide) (hdb : (x == ("__debug__" : Str)) = false := by decide)
    (he : starEach [e] X.env = (false, eval e X.env) :: starEach [] X.env := by rfl) (hpl : (backTo pos (starEach [] X.env)).any (·.1) = false := by rfl) :
    Ev X G W (.Call (.Name x p) [e] [] pos) (fun δ h => (f δ h).bind fun d h1 => heardF bodies N.length sf δ d h1) := by
  refine ⟨fun pins s σ H Q I q => ?_⟩
  obtain ⟨M, r, h, δ, b, q⟩ := q
  refine wpAny_Call_Name_kw (ld_glob I hg hm ?_ hdb)
  have pa : PA X [e] (tCons (tG G W (rV G.J) f) tNil) := pa_cons ha pa_nil he
  refine PySem.W.callWith_K (h₀ := X.base) I.ok.mod.kin Fh.kp (thn (pa.run pos pins s σ H (fun vs H1 => ∃ v d M1 r1 h1, vs = [v] ∧ BS G M1 r1 h1 δ σ H1 ∧ RepV G.J M1 r1 δ σ d v ∧ After G W σ δ (rV G.J δ σ) M1 r1 H1 (heardF bodies N.length sf δ d h1) Q) I
    ⟨M, r, h, δ, b, (After.bind q).more fun v H1 ⟨d, M1, r1, h1, s1, b1, rv, q1⟩ => ⟨v, d, M1, r1, h1, rfl, b1, rv, q1⟩⟩) fun us s1 ⟨vs, H1, I1, r0, v, d, M1, r1, h1, ev, b1, rv, q1⟩ => ⟨I1.kIn, ?_⟩) he hpl
  subst ev
  cases r0 with
  | @cons _ u _ ur ru rt =>
    cases rt
    cases d with
    | lam n =>
      refine heard_run Fh S hb ho hr tk hGK hGm I1 b1 rv ru (fun cdv E hr' W' pn xe p1 p2 tk' => ?_) q1
      exact act_ok (j := j) I1 b1 hL hbd (hr'.mono hjk) tk' hNa hva hda hca
    | _ => exact q1.elim
end
end LP
/-! LpQ: comprehensions that call lambdas of the frame. -/
namespace LP
open PySem PySem.Spec PyProof.Rows L2
section
variable {X : Cx} {pins : List (Addr × Obj)} {σ : L2.St} {H H3 : Hp} {s s3 : Shared} {scope : Scope} {fp : List Addr}
/-- within a block the def's own state stands too -/
theorem blk_back {C : Addr} {cl : List (Str × Addr)} {pins' : List (Addr × Obj)} {σ' : L2.St} {H' : Hp} {s' : Shared} (I3 : Inv X pins σ H3 s3) (f : ∀ b ∈ fp, FpOk X pins H3 b ∧ b < s3.heap.objs.size)
    (I : Inv (X.blk s3 H3 scope (compEnvC scope cl C X.env) fp) pins' σ' H' s') : Inv X pins σ H' s' :=
  I3.call' (ch := fp) I.os I.base I.hok I.bare fun b hb => by
    obtain ⟨⟨_, y1, y2, y3, y4, y5⟩, _⟩ := f b hb
    exact ⟨y3, y1, y4, y5⟩
variable {elt tg iter : Expr} {ifs : List Expr} {own : List (Str × Nat)} {pos : Pos} {wi : TI} {g : TG} {tt : TT} {te : TE} {Q : VK}
/-- the parts of a block, each told of the state at which the block began -/
structure Inner (X : Cx) (pins : List (Addr × Obj)) (σ : L2.St) (scope : Scope) (tg elt : Expr) (ifs : List Expr) (g : TG) (tt : TT) (te : TE) : Prop where
  of : ∀ (s : Shared) (H : Hp) (C : Addr) (cl : List (Str × Addr)) (fp : List Addr), Inv X pins σ H s → (∀ b ∈ fp, FpOk X pins H b ∧ b < s.heap.objs.size) →
    PG (X.blk s H scope (compEnvC scope cl C X.env) fp) tg g ∧ PTs (X.blk s H scope (compEnvC scope cl C X.env) fp) ifs tt ∧ PE (X.blk s H scope (compEnvC scope cl C X.env) fp) elt te
theorem lcI_run (hc : X.calm = true) (hN : X.N.Nodup) (I : Inv X pins σ H s) (hi : PI X tg iter wi) (ok : BlkOk X.N X.env.scope scope own) (inner : Inner X pins σ scope tg elt ifs g tt te) (hs : ∀ x, foldedSetIterable iter X.env x = pure x)
    (q : tLc wi g tt te (own.map (·.2)) σ H Q) : wpAny (model X.prog X.w) X.A (eval (.ListComp elt [⟨tg, iter, ifs, 0⟩] scope pos) X.env) (EP X pins σ Q) X.xe s := by
  have clo : ∀ y ∈ scope.names, y.2 = .free → ∃ c, X.env.cells.lookup y.1 = some c := by
    intro y hy e
    exact (ok.free y hy e).elim (fun k => I.ok.has _ (.inl k)) (fun k => I.ok.has _ (.inr k))
  rw [eval_ListComp]
  refine wpAny_comprehension_free rfl hs (closure_ok clo) ok.kind (fun y hy e => (ok.uniq y hy).trans (by rw [e])) (thn (hi.run pins s σ H _ I q) fun _ s1 first => thn first fun _ s2 w => ?_)
  obtain ⟨it, fp, tn, J, H2, rfl, I2, T, st2, f2, q2⟩ := w
  refine wpAny_newObj_type (newEnv_comp ?_) (by show 0 ≤ sizeLine; decide)
  -- the new list, at D
  obtain ⟨W, ⟨m0, w0⟩, turn⟩ := q2 s2.heap.objs.size (I2.hok.fresh (Nat.le_refl _))
  obtain ⟨D, eD⟩ : ∃ D, D = s2.heap.objs.size := ⟨_, rfl⟩
  rw [← eD] at turn w0 ⊢
  obtain ⟨sL, eL⟩ : ∃ sL : Shared, sL = { s2 with heap := s2.heap.push { cls := .type "list", data := .seq ([] : List Value).toArray } } := ⟨_, rfl⟩
  obtain ⟨HL, eH⟩ : ∃ HL : Hp, HL = upd H2 D (.lst []) := ⟨_, rfl⟩
  rw [← eH] at w0
  have IL : Inv X pins σ HL sL := by
    rw [eL, eH, eD]
    exact I2.laid (t' := s2.toks) (fun b o e => Heap.get?_push_of_some _ e) (Nat.le_refl _) ⟨Nat.zero_le _, [], 0, .nil, Heap.get?_push_size _ rfl⟩
  have up : ∀ b o, s2.heap.get? b = some o → sL.heap.get? b = some o := by
    rw [eL]
    exact fun b o e => Heap.get?_push_of_some _ e
  have lt2 : ∀ b ∈ fp, b < s2.heap.objs.size := by
    intro b hb
    obtain ⟨o, e, _⟩ := T.obj _ _ st2 b hb
    exact Heap.lt_size e
  have fL : ∀ b ∈ fp, FpOk X pins HL b ∧ b < sL.heap.objs.size := by
    intro b hb
    obtain ⟨y0, y⟩ := f2 b hb
    obtain ⟨o, e, _⟩ := T.obj _ _ st2 b hb
    refine ⟨⟨?_, y⟩, Heap.lt_size (up b o e)⟩
    rw [eH, upd_ne (fun z => Nat.lt_irrefl _ (by have := lt2 b hb; rw [z, eD] at this; exact this))]
    exact y0
  have stL : tn 0 sL.heap := T.keep _ _ _ st2 fun b _ o e => up b o e
  have IB := block_start IL ok hN fL
  obtain ⟨pg, pt, pe⟩ := inner.of sL HL sL.heap.objs.size (cellsFrom (sL.heap.objs.size + 1) scope.names (cloFrom X.env.cells scope.names [])) fp IL fL
  rw [← eL]
  show codeAny _ _ (.compStart (.ListComp elt [⟨tg, iter, ifs, 0⟩] scope pos) 0 (.ref it) (.ref D) (compEnvC scope (cellsFrom (sL.heap.objs.size + 1) scope.names (cloFrom X.env.cells scope.names [])) sL.heap.objs.size X.env)) (compPost (model X.prog X.w) X.A X.xe none (EP X pins σ Q) (.ref D) sL.heap.objs.size) { sL with heap := pushCells (sL.heap.push { cls := .type "dict", data := .dict #[] }) scope.names }
  obtain ⟨ce, ec⟩ : ∃ ce, ce = compEnvC scope (cellsFrom (sL.heap.objs.size + 1) scope.names (cloFrom X.env.cells scope.names [])) sL.heap.objs.size X.env := ⟨_, rfl⟩
  obtain ⟨sB, eB⟩ : ∃ sB : Shared, sB = { sL with heap := pushCells (sL.heap.push { cls := .type "dict", data := .dict #[] }) scope.names } := ⟨_, rfl⟩
  have stB : tn 0 sB.heap := T.keep _ _ _ stL fun b _ o e => by
    rw [eB]
    exact pushCells_keeps _ _ _ _ (Heap.get?_push_of_some _ e)
  have locC : ce.locals = sL.heap.objs.size := by rw [ec]; rfl
  rw [← ec, ← eB] at IB
  rw [← ec] at pg pt pe
  rw [← ec, ← eB]
  have steady : ∀ {σ' : L2.St} {H' : Hp} {s' : Shared}, Inv (X.blk sL HL scope ce fp) [] σ' H' s' → (∀ b ∈ fp, H' b = none) → ∀ b ∈ fp, FpOk (X.blk sL HL scope ce fp) [] H' b := by
    intro σ' H' s' I' n b hb
    exact ⟨n b hb, (I'.ok.exf b hb).1, I'.ok.exfs b hb, .inl hb, (I'.ok.exf b hb).2, fun p hp => absurd (show p ∈ ([] : List (Addr × Obj)) ++ [] from hp) (by simp)⟩
  have all_ : codeAny (model X.prog X.w) X.A (.compLoop (.ListComp elt [⟨tg, iter, ifs, 0⟩] scope pos) 0 (.ref it) (.ref D) ce) (compPost (model X.prog X.w) X.A X.xe none (EP X pins σ Q) (.ref D) sL.heap.objs.size) sB := by
    refine compLoop_any (fun n s' => ∃ i H', Inv (X.blk sL HL scope ce fp) [] (wipe σ (own.map (·.2))) H' s' ∧ tn i s'.heap ∧ (∀ b ∈ fp, H' b = none) ∧ W i n H') (fun n s5 st => ?_) m0 ⟨0, HL, IB, stB, fun b hb => (fL b hb).1.1, w0⟩
    obtain ⟨i, H5, I5, st5, n5, w5⟩ := st
    rcases turn i n H5 w5 with ⟨stop, fin⟩ | ⟨go, Nx, next, step⟩
    · -- the end
      refine thnF (T.done (X.blk sL HL scope ce fp) rfl rfl rfl hc i [] s5 _ H5 (fun _ _ => False) I5 (steady I5 n5) st5 stop) fun r s6 ⟨er, I6⟩ => ?_
      subst er
      have I7 : Inv X pins σ H5 s6 := blk_back IL fL (by rw [← ec]; exact I6)
      obtain ⟨m, nsC, _⟩ := id I6.loc
      have nsC : s6.heap.Ns ce.locals m := nsC
      have freeC : H5 ce.locals = none := I6.free
      rw [locC] at nsC freeC
      obtain ⟨k0, k1, k2, k3, k4, k5⟩ := IL.fpOk (Nat.le_refl _) freeC
      refine ⟨m, nsC, fun hp sb => ⟨.ref D, H5, ?_, rfl, fin⟩⟩
      exact I7.turned (t' := s6.toks) (fun b o hb e => (sb.2 b hb).trans e) k0 k1 k3 k4 k5
    · -- one turn
      refine thnF (T.item (X.blk sL HL scope ce fp) rfl rfl rfl hc i [] s5 _ H5 (fun _ _ => False) I5 (steady I5 n5) st5 go) fun r s6 ⟨u, er, h6⟩ => ?_
      subst er
      refine thnF h6 fun _ s7 ⟨x, H7, I7, r7, y7, st7, n7⟩ => ?_
      have P7 := I7.pinned (steady I7 n7) (T.obj _ _ st7)
      refine thnF (pg.run _ s7 _ H7 x u _ P7 r7 (step x H7 y7)) fun _ s8 ⟨σ8, H8, I8, w8, q8⟩ => thnF (pt.run _ s8 σ8 H8 _ I8 q8) fun b s9 ⟨H9, I9, q9⟩ => ?_
      have again : ∀ {s' : Shared} {H' : Hp}, Inv (X.blk sL HL scope ce fp) ([] ++ pinsAt fp s7.heap) σ8 H' s' → Nx H' → ∃ m, m < n ∧ ∃ i H', Inv (X.blk sL HL scope ce fp) [] (wipe σ (own.map (·.2))) H' s' ∧ tn i s'.heap ∧ (∀ b ∈ fp, H' b = none) ∧ W i m H' := by
        intro s' H' I' nx
        obtain ⟨m', lt, w'⟩ := next H' nx
        have pn : ∀ b ∈ fp, ∀ o, s7.heap.get? b = some o → s'.heap.get? b = some o ∧ H' b = none := by
          intro b hb o e
          obtain ⟨z1, z2, _⟩ := I'.pin (b, o) (List.mem_append_right _ (List.mem_append_right _ (mem_pinsAt hb e)))
          exact ⟨z1, z2⟩
        refine ⟨m', lt, i + 1, H', (I'.unpinned (pins := [])).weak ?_ fun j v e => ?_, T.keep _ _ _ st7 fun b hb o e => (pn b hb o e).1, fun b hb => ?_, w'⟩
        · rw [← w8, wipe_length]
        · rw [← w8] at e
          exact (wipe_some e).1
        · obtain ⟨o, e, _⟩ := T.obj _ _ st7 b hb
          exact (pn b hb o e).2
      cases b with
      | true =>
        simp only [if_true] at q9 ⊢
        refine thnF (pe.run _ s9 σ8 H9 _ I9 q9) fun z s10 ⟨yv, H10, I10, r10, acc, a1, a2, nx⟩ => ?_
        exact app_ok (X := X.blk sL HL scope ce fp) I10 a1 a2 r10 fun s11 I11 => again I11 nx
      | false =>
        simp only [Bool.false_eq_true, if_false] at q9 ⊢
        exact again I9 q9
  exact codeAny_compStart_list all_ (T.self X.A 0 _ _ _ stB all_)
end
end LP
/-! LpR: comprehensions over plain data that call lambdas of the frame. -/
namespace LP
open PySem PySem.Spec PyProof.Rows L2
section
variable {X : Cx} {G : Cfg} {W : WX} {σ : L2.St} {δ : DE} {M M' M1 M2 : Imm} {r r' r1 r2 : List Addr} {h h' h1 h2 : Bx} {H H' H1 H2 : Hp} {E : Ends}
variable {e c : Expr} {f g : EF} {tg : Expr} {fs : DE → Bx → R (List D)} {pos : Pos}
/-- the slots of now by those of then -/
theorem BS.now (b : BS G M r h δ σ H) {δ' : DE} {σ' : L2.St} (b' : BS (G.at_ M r H) M' r' h' δ' σ' H') : BS G M' r' h' δ σ H' := b.after b'.stp b'.mok b'.bx b'.tb
theorem Good.at_ {J : It} {ds : List D} (b : BS G M r h δ σ H) (g : Good G J M' r' ds) : Good (G.at_ M r H) J M' r' ds := by
  obtain ⟨Gd, Y, w, g1, g2⟩ := g
  refine ⟨Gd, Y, w, fun M1 r1 h1 δ1 σ1 H1 le pr b1 => g1 M1 r1 h1 δ σ H1 le pr (b.now b1), fun i x H1 H2 M1 r1 h1 δ1 σ1 hi le pr b1 y => ?_⟩
  obtain ⟨M2, d, b2, s2, e2, rp⟩ := g2 i x H1 H2 M1 r1 h1 δ σ hi le pr (b.now b1) y
  exact ⟨M2, d, b1.after s2 b2.mok b2.bx b2.tb, s2, e2, rp⟩
/-- parts of the comprehension know the slots of the frame -/
def lcNL (gi : DE → Bx → R (List D)) (vs : List Nat) (u : D → DE → Option DE) (tf : DE → DE → Bx → R Bool) (ef : DE → EF) : DE → Bx → R (List D) := fun δ h => lcN (fun _ h => gi δ h) vs u (tf δ) (ef δ) (pubD δ) h
theorem evn_lcL {elt iter : Expr} {ifs : List Expr} {scope : Scope} {own : List (Str × Nat)} {gi : DE → Bx → R (List D)} {ts : List Nat} {u : D → DE → Option DE} {tf : DE → DE → Bx → R Bool} {ef : DE → EF} (hc : X.calm = true) (hN : X.N.Nodup)
    (hi : EvI X G W tg iter gi) (ok : BlkOk X.N X.env.scope scope own) (hts : ∀ i ∈ ts, i ∈ own.map (·.2))
    (inner : ∀ (pins : List (Addr × Obj)) (σ : L2.St) (H : Hp) (M : Imm) (r : List Addr) (h : Bx) (δ : DE), BS G M r h δ σ H →
      Inner X pins σ scope tg elt ifs (tGt (G.at_ M r H) ts u) (tG (G.at_ M r H) W0 rB (tf δ)) (tG (G.at_ M r H) W0 (rV G.J) (ef δ)))
    (hs : ∀ x, foldedSetIterable iter X.env x = pure x := by intro _; rfl) : EvN X G W (.ListComp elt [⟨tg, iter, ifs, 0⟩] scope pos) (lcNL gi (own.map (·.2)) u tf ef) := by
  refine ⟨fun pins s σ H Q I q => ?_⟩
  obtain ⟨M, r, h, δ, b, q⟩ := q
  refine lcI_run (wi := tI G W gi) hc hN I hi ok (inner pins σ H M r h δ b) hs ?_
  have b1 := b.rebase
  have q1 : AfterN (G.at_ M r H) W σ (pubD δ) M r H (lcN (fun _ h => gi δ h) (own.map (·.2)) u (tf δ) (ef δ) (pubD δ) h) Q := by
    have q : AfterN G W σ δ M r H (lcN (fun _ h => gi δ h) (own.map (·.2)) u (tf δ) (ef δ) (pubD δ) h) Q := q
    cases z : lcN (fun _ h => gi δ h) (own.map (·.2)) u (tf δ) (ef δ) (pubD δ) h with
    | ok ds h1 => rw [z] at q; exact fun vs M' r' H' p s b' t l hp => q vs M' r' H' p s (b.after s b'.mok b'.bx b'.tb) t l hp
    | exc c fs h1 => rw [z] at q; exact fun C dd M' r' H' m s b' ea => q C dd M' r' H' m s (b.after s b'.mok b'.bx b'.tb) ea
    | bad => rw [z] at q; exact q.elim
  have z := lc_of (G := G.at_ M r H) (W := W) (gi := fun _ h => gi δ h) (u := u) (tf := tf δ) (ef := ef δ) hts (Q := Q) ⟨M, r, h, pubD δ, b1, q1⟩
  -- the iterator, by the frame's own slots
  unfold tLc at z ⊢
  obtain ⟨M2, r2, h2, δ2, b2, z⟩ := z
  refine ⟨M2, r2, h2, δ, b.now b2, ?_⟩
  have z : AfterI (G.at_ M r H) W σ δ2 M2 r2 H (gi δ h2) _ := z
  cases y : gi δ h2 with
  | ok ds h3 =>
    rw [y] at z
    exact fun J M' r' H' s b' g => z J M' r' H' s (b2.after s b'.mok b'.bx b'.tb) (Good.at_ b g)
  | exc c fs h3 =>
    rw [y] at z
    exact fun C dd M' r' H' m s b' ea => z C dd M' r' H' m s (b2.after s b'.mok b'.bx b'.tb) ea
  | bad => rw [y] at z; exact z.elim
/-- x(e) within such a comprehension -/
theorem ev_heardB {k j : Nat} {tab : List LamD} {bodies : Nat → EF} {st : Stmt} {fa : Addr} {fd : FuncData} {x a : Str} {N : List Str} {sf : (Nat → Bx → R D) → SF} {p : Pos} {pins : List (Addr × Obj)} {s3 : Shared} {H3 : Hp} {scope : Scope} {C : Addr} {cl : List (Str × Addr)} {fp : List Addr} {W : WX}
    (b0 : BS G M r h δ σ H) (I3 : Inv X pins σ H3 s3) (f3 : ∀ b ∈ fp, FpOk X pins H3 b ∧ b < s3.heap.objs.size)
    (Fh : Fun X.K x x st fa fd) (S : FnScope N [a] (defScope st)) (hb : Binds X.K fd [a] []) (ho : HeardOk X.prog X.w X.K X.mg X.base k st fa x a N sf) (hr : Room (k + 1) X.A) (tk : Takes (X.blk s3 H3 scope (compEnvC scope cl C X.env) fp) W) (hGK : G.K = X.K) (hGm : G.mg = X.mg) (hjk : j + 1 ≤ k)
    (hL : G.L = lamL tab X.env) (hbd : ∀ k ld, tab[k]? = some ld → LamOk X G j ld (bodies k)) (hNa : N[0]? = some a) (hva : Vis (defScope st) a) (hg : Gl (X.blk s3 H3 scope (compEnvC scope cl C X.env) fp) x) (hm : X.mg x = some (.ref fa))
    (ha : Ev (X.blk s3 H3 scope (compEnvC scope cl C X.env) fp) (G.at_ M r H) W e f)
    (hda : (a == ("__debug__" : Str)) = false := by decide) (hca : (a == ("__classdict__" : Str)) = false := by decide) (hdb : (x == ("__debug__" : Str)) = false := by decide)
    (he : starEach [e] (compEnvC scope cl C X.env) = (false, eval e (compEnvC scope cl C X.env)) :: starEach [] (compEnvC scope cl C X.env) := by rfl) (hpl : (backTo pos (starEach [] (compEnvC scope cl C X.env))).any (·.1) = false := by rfl) :
    Ev (X.blk s3 H3 scope (compEnvC scope cl C X.env) fp) (G.at_ M r H) W (.Call (.Name x p) [e] [] pos) (fun δ' h => (f δ' h).bind fun d h1 => heardF bodies N.length sf δ d h1) := by
  refine ⟨fun pinsB sB σB HB Q IB q => ?_⟩
  obtain ⟨MB, rB_, hB, δB, bB, q⟩ := q
  refine wpAny_Call_Name_kw (ld_glob IB hg hm ?_ hdb)
  have pa : PA (X.blk s3 H3 scope (compEnvC scope cl C X.env) fp) [e] (tCons (tG (G.at_ M r H) W (rV G.J) f) tNil) := pa_cons ha pa_nil he
  refine PySem.W.callWith_K (h₀ := X.base) IB.ok.mod.kin Fh.kp (thn (pa.run pos pinsB sB σB HB (fun vs H1 => ∃ v d M1 r1 h1, vs = [v] ∧ BS (G.at_ M r H) M1 r1 h1 δB σB H1 ∧ RepV G.J M1 r1 δB σB d v ∧ After (G.at_ M r H) W σB δB (rV G.J δB σB) M1 r1 H1 (heardF bodies N.length sf δ d h1) Q) IB
    ⟨MB, rB_, hB, δB, bB, (After.bind q).more fun v H1 ⟨d, M1, r1, h1, s1, b1, rv, q1⟩ => ⟨v, d, M1, r1, h1, rfl, b1, rv, q1⟩⟩) fun us s1 ⟨vs, H1, I1, r0, v, d, M1, r1, h1, ev, b1, rv, q1⟩ => ⟨I1.kIn, ?_⟩) he hpl
  subst ev
  cases r0 with
  | @cons _ u _ ur ru rt =>
    cases rt
    cases d with
    | lam n =>
      refine heard_run (X := X.blk s3 H3 scope (compEnvC scope cl C X.env) fp) (G := G.at_ M r H) Fh S hb ho hr tk hGK hGm I1 b1 rv ru (fun cdv E hr' W' pn xe p1 p2 tk' => ?_) q1
      exact act_ok (X0 := X) (G := G) (j := j) (blk_back I3 f3 I1) (b0.now b1) hL hbd (hr'.mono hjk) tk' hNa hva hda hca
    | _ => exact q1.elim
end
end LP
/-! LpU: defs that make lambdas; the law's head with tables. -/
namespace LP
open PySem PySem.Spec PyProof.Rows L2 HT
mutual
/-- no lambda within -/
def D.noLam : D → Bool
  | .tup ds => D.noLams ds
  | .lst ds => D.noLams ds
  | .frz ds => D.noLams ds
  | .lam _ => false
  | .dct _ ds => D.noLams ds
  | _ => true
def D.noLams : List D → Bool
  | [] => true
  | d :: ds => d.noLam && D.noLams ds
end
section
variable {K : PySem.W.Frag} {mg : Str → Option Value} {L L' : LamP} {M M' : Imm} {r r' : List Addr} {h h' : Bx} {H H' : Hp}
mutual
theorem Rep.chg : ∀ (d : D) (v : V), d.noLam = true → Rep ⟨K, L, mg⟩ M r d v → Rep ⟨K, L', mg⟩ M r d v
  | .non, _, _, q => q
  | .bl _, _, _, q => q
  | .int _, _, _, q => q
  | .str _, _, _, q => q
  | .ptr _, _, _, q => q
  | .loc _, _, _, q => q
  | .fn _, _, _, q => q
  | .dct ks ds, v, e, q => by
    obtain ⟨a, kvs, e1, m, e2, t⟩ := q
    exact ⟨a, kvs, e1, m, e2, Reps.chg ds _ e t⟩
  | .lam _, _, e, _ => by cases e
  | .tup ds, v, e, q => by
    obtain ⟨a, vs, e1, m, t⟩ := q
    exact ⟨a, vs, e1, m, Reps.chg ds vs e t⟩
  | .lst ds, v, e, q => by
    obtain ⟨a, vs, e1, m, t⟩ := q
    exact ⟨a, vs, e1, m, Reps.chg ds vs e t⟩
  | .frz ds, v, e, q => by
    obtain ⟨a, vs, e1, m, t⟩ := q
    exact ⟨a, vs, e1, m, Reps.chg ds vs e t⟩
theorem Reps.chg : ∀ (ds : List D) (vs : List V), D.noLams ds = true → Reps ⟨K, L, mg⟩ M r ds vs → Reps ⟨K, L', mg⟩ M r ds vs
  | [], _, _, q => q
  | d :: ds, _, e, q => by
    obtain ⟨v, vt, rfl, h1, h2⟩ := q
    have e : (d.noLam && D.noLams ds) = true := e
    rw [Bool.and_eq_true] at e
    exact ⟨v, vt, rfl, Rep.chg d v e.1 h1, Reps.chg ds vt e.2 h2⟩
end
def noLamB (h : Bx) : Bool := h.all D.noLams
theorem BxOk.chg (b : BxOk ⟨K, L, mg⟩ M r h H) (e : noLamB h = true) : BxOk ⟨K, L', mg⟩ M r h H := by
  refine ⟨b.len, b.nd, fun n a ds e1 e2 => ?_⟩
  obtain ⟨m, z, vs, q, t⟩ := b.at_ n a ds e1 e2
  exact ⟨m, z, vs, q, Reps.chg ds vs (List.all_eq_true.mp e ds (List.mem_of_getElem? e2)) t⟩
theorem ExcAt.chg {fs : List (Str × D)} {d : Option Addr} (e : D.noLams (fs.map (·.2)) = true) (q : ExcAt ⟨K, L, mg⟩ M r H fs d) : ExcAt ⟨K, L', mg⟩ M r H fs d := by
  cases fs with
  | nil => exact q
  | cons p ps =>
    obtain ⟨dx, vs, e1, e2, t⟩ := q
    exact ⟨dx, vs, e1, e2, Reps.chg _ vs e t⟩
end
/-- the end of a def that makes lambdas: none of them is handed on -/
def finL (x : RS) : R D := match x.fin with
  | .ok d h => if (d.noLam && noLamB h) = true then .ok d h else .bad
  | .exc c fs h => if (D.noLams (fs.map (·.2)) && noLamB h) = true then .exc c fs h else .bad
  | .bad => .bad
def runFL (n : Nat) (sf : SF) (ds : List D) (h : Bx) : R D := if (D.noLams ds && noLamB h) = true then finL (sf (startD n ds) h) else .bad
/-- a def of the text whose code object is known -/
structure FunC (K : PySem.W.Frag) (x : Str) (st : Stmt) (f : Addr) (fd : FuncData) (ca : Addr) : Prop where
  ex : ∃ (oc : Value) (od : Option Addr) (kV doc pm : Value) (an : Option Addr) (ct : Value) (osl : Array (Option Value)),
    fd = PySem.W.fnOf x x (defArgs st) (defBody st) (defScope st) .none kV doc pm an (.ref ca) ct ∧ K.lookup f = some ⟨oc, od, .func fd, osl⟩ ∧ PySem.W.codeIn K (.ref ca) x = true
  kp : PySem.W.keepIn K (.ref f) = true
theorem funC_mk {K : PySem.W.Frag} {x : Str} {st : Stmt} {f ca : Addr} {oc : Value} {od an : Option Addr} {osl : Array (Option Value)} {kV doc pm ct : Value} (l : K.lookup f = some ⟨oc, od, .func (PySem.W.fnOf x x (defArgs st) (defBody st) (defScope st) .none kV doc pm an (.ref ca) ct), osl⟩)
    (c : PySem.W.codeIn K (.ref ca) x = true) (k : PySem.W.keepIn K (.ref f) = true) : FunC K x st f (PySem.W.fnOf x x (defArgs st) (defBody st) (defScope st) .none kV doc pm an (.ref ca) ct) ca := ⟨⟨oc, od, kV, doc, pm, an, ct, osl, rfl, l, c⟩, k⟩
section
variable {P : Program} {w : World} {K : PySem.W.Frag} {mg : Str → Option Value} {T : List (Addr × Str)} {base : Heap} {x : Str} {st : Stmt} {fa ca : Addr} {fd : FuncData} {N ps : List Str} {k : Nat} {sf : SF} {tab : List LamD}
/-- what is asked of such a def's body -/
def BodyL (P : Program) (w : World) (K : PySem.W.Frag) (mg : Str → Option Value) (T : List (Addr × Str)) (base : Heap) (x : Str) (st : Stmt) (fa ca : Addr) (N : List Str) (k : Nat) (tab : List LamD) (sf : SF) : Prop :=
  ∀ (A : Around) (outer : List PySem.Env) (s : Shared) (H : Hp) (E : XK) (M : Imm) (r : List Addr), Room k (A.deeper (envOfC x (defScope st) s.heap.objs.size fa (.ref ca))) →
    Ess (cxOf (L2.CX P w) P w K mg base N x (defScope st) fa (.ref ca) A outer s H E) ⟨K, mg, T, M, r, H, lamL tab (envOfC x (defScope st) s.heap.objs.size fa (.ref ca))⟩ (fun c d _ H => E c d H) (defBody st) sf
theorem fn_okL (F : FunC K x st fa fd ca) (S : FnScope N ps (defScope st)) (hb : BodyL P w K mg T base x st fa ca N k tab sf) : FnOk P w K mg base (L2.CX P w) (k + 1) fa fd ps (spF K mg T ps.length (runFL N.length sf)) := by
  obtain ⟨oc, od, kV, doc, pm, an, ct, osl, rfl, lk, hcd⟩ := F.ex
  refine fn_of lk hcd S (fun vs H Q E q => by obtain ⟨L, M, r, h, ds, e, _⟩ := q; exact e) fun A outer s H vs Q E hr q => ?_
  obtain ⟨L, M, r, h, ds, e, mok, bx, tb, t, q⟩ := q
  unfold runFL at q
  by_cases z : (D.noLams ds && noLamB h) = true
  · rw [if_pos z] at q
    rw [Bool.and_eq_true] at z
    refine ⟨_, hb A outer s H E M r hr, M, r, h, _, bs_start mok (bx.chg z.2) tb (Reps.chg ds vs z.1 t), ?_⟩
    unfold finL at q
    have st : ∀ {M' r' h' δ' σ' H'}, BS ⟨K, mg, T, M, r, H, lamL tab (envOfC x (defScope st) s.heap.objs.size fa (.ref ca))⟩ M' r' h' δ' σ' H' → Stp M r H M' r' H' := fun b => ⟨b.le, b.pre, b.new, b.keep, b.nf⟩
    cases y : sf (startD N.length ds) h with
    | nx δ h' =>
      rw [y] at q
      simp only [RS.fin_nx] at q
      by_cases n : (D.non.noLam && noLamB h') = true
      · rw [if_pos n] at q
        rw [Bool.and_eq_true] at n
        exact fun M' r' σ' H' _ _ b => q .non M' r' H' (st b) b.mok (b.bx.chg n.2) b.tb rfl
      · rw [if_neg n] at q; exact q.elim
    | rt d h' =>
      rw [y] at q
      simp only [RS.fin_rt] at q
      by_cases n : (d.noLam && noLamB h') = true
      · rw [if_pos n] at q
        rw [Bool.and_eq_true] at n
        exact fun v M' r' δ' σ' H' _ _ b rv => q v M' r' H' (st b) b.mok (b.bx.chg n.2) b.tb (Rep.chg d v n.1 rv)
      · rw [if_neg n] at q; exact q.elim
    | exc c fs δ h' =>
      rw [y] at q
      simp only [RS.fin_exc] at q
      by_cases n : (D.noLams (fs.map (·.2)) && noLamB h') = true
      · rw [if_pos n] at q
        rw [Bool.and_eq_true] at n
        exact fun C dd M' r' σ' H' m _ _ b ea => q C dd M' r' H' m (st b) b.mok (b.bx.chg n.2) b.tb (ExcAt.chg n.1 ea)
      · rw [if_neg n] at q; exact q.elim
    | bk δ h' => rw [y] at q; exact q.elim
    | ct δ h' => rw [y] at q; exact q.elim
    | bad => rw [y] at q; exact q.elim
  · rw [if_neg z] at q
    exact q.elim
/-! ### the law's head -/
/-- the law's promise; cs: the code objects of the defs that make lambdas, and their tables -/
def spLawT (cs : List (Addr × Addr)) (n : Nat) (K : PySem.W.Frag) : Sp := fun vs H Q _ => ∃ (a : Addr) (ns : List Int), vs = [.ref a] ∧ ns.length ≤ n ∧ (∀ z ∈ ns, Builtin.Int.intBits z ≤ 1048576) ∧ (∀ p ∈ cs, H p.2 = some (.tbl #[])) ∧ SqL K H a (ns.map V.int) ∧ ∀ v H', v = .bl true → Q v H'
/-- what the head tells of the script and the tables -/
theorem law_start {cs : List (Addr × Addr)} {n : Nat} {vs : List V} {H : Hp} {Q : VK} {E : XK} (hn : n ≤ 1000000) (hT : ∀ t ∈ T, ∃ p ∈ cs, p.2 = t.1) (q : spLawT cs n K vs H Q E) : ∃ (ns : List Int) (M : Imm), ns.length ≤ n ∧ (∀ z ∈ ns, Builtin.Int.intBits z ≤ 1048576) ∧ MOk M H ∧ LamX.Tabs T H ∧
    (∀ L, Reps ⟨K, L, mg⟩ M [] [.frz (ns.map D.int)] vs) ∧ ∀ v H', v = .bl true → Q v H' := by
  obtain ⟨a, ns, rfl, hl, hbits, ht, sq, q⟩ := q
  have tb : LamX.Tabs T H := fun t htm => by
    obtain ⟨p, hp, e⟩ := hT t htm
    exact LamX.TabS.nil (by rw [← e]; exact ht p hp)
  have one : ∀ (M : Imm) (L : LamP), FLst K M a (ns.map V.int) → Reps ⟨K, L, mg⟩ M [] [.frz (ns.map D.int)] [.ref a] := fun M L f => ⟨.ref a, [], rfl, ⟨a, _, rfl, f, reps_ints ns⟩, rfl⟩
  have len : (ns.map V.int).length ≤ big := by rw [List.length_map]; exact Nat.le_trans hl hn
  have imm : ∀ u : HO, LstU u (ns.map V.int) → H a = some u → ∃ M : Imm, MOk M H ∧ FLst K M a (ns.map V.int) := fun u hu e => by
    refine ⟨fun b => if b = a then some u else none, fun b o z => ?_, .inl ⟨u, if_pos rfl, hu⟩⟩
    simp only at z
    split at z
    · rename_i y
      cases z
      subst y
      refine ⟨?_, e⟩
      rcases hu with rfl | ⟨o, rfl⟩
      · exact len
      · exact len
    · cases z
  have key : ∃ M : Imm, MOk M H ∧ FLst K M a (ns.map V.int) := by
    rcases sq with ⟨sq | ⟨o, sq⟩⟩ | ⟨o, its, m, k1, k2, k3, k4, k5, k6⟩
    · exact imm _ (.inl rfl) sq
    · exact imm _ (.inr ⟨o, rfl⟩) sq
    · refine ⟨fun _ => none, fun b u e => (nomatch e), .inr ⟨o, its, m, k1, k2, k3, k4, ?_, k6⟩⟩
      have := k6.length
      simp only [Array.length_toList, List.length_map] at this
      omega
  obtain ⟨M, m1, m2⟩ := key
  exact ⟨ns, M, hl, hbits, m1, tb, fun L => one M L m2, q⟩
/-- the law, where it makes lambdas -/
theorem law_okL {cs : List (Addr × Addr)} {n : Nat} (hn : n ≤ 1000000) (F : FunC K x st fa fd ca) (S : FnScope N ps (defScope st)) (hp : ps.length = 1) (hT : ∀ t ∈ T, ∃ p ∈ cs, p.2 = t.1) (hb : BodyL P w K mg T base x st fa ca N k tab sf)
    (hF : ∀ ns : List Int, ns.length ≤ n → (∀ z ∈ ns, Builtin.Int.intBits z ≤ 1048576) → ∃ h, runF N.length sf [.frz (ns.map D.int)] [] = .ok (.bl true) h) : FnOk P w K mg base (L2.CX P w) (k + 1) fa fd ps (spLawT cs n K) := by
  obtain ⟨oc, od, kV, doc, pm, an, ct, osl, rfl, lk, hcd⟩ := F.ex
  refine fn_of lk hcd S (fun vs H Q E q => by obtain ⟨a, ns, rfl, _⟩ := q; rw [hp]; rfl) fun A outer s H vs Q E hr q => ?_
  obtain ⟨ns, M, hl, hbits, mok, tb, t, q⟩ := law_start (mg := mg) hn hT q
  obtain ⟨h', e⟩ := hF ns hl hbits
  refine ⟨_, hb A outer s H E M [] hr, M, [], [], _, bs_start (ds := [.frz (ns.map D.int)]) (N := N) mok ⟨rfl, List.nodup_nil, fun n a ds e => by simp at e⟩ tb (t _), ?_⟩
  unfold runF at e
  cases y : sf (startD N.length [.frz (ns.map D.int)]) [] with
  | nx δ h' => rw [y] at e; cases e
  | rt d h' =>
    rw [y] at e
    cases e
    exact fun v M' r' δ' σ' H' _ _ b rv => q v H' rv
  | exc c fs δ h' => rw [y] at e; cases e
  | bk δ h' => rw [y] at e; cases e
  | ct δ h' => rw [y] at e; cases e
  | bad => rw [y] at e; cases e
/-- the law, where it makes none -/
theorem spLawT_of {cs : List (Addr × Addr)} {n : Nat} {F : List D → Bx → R D} (hn : n ≤ 1000000) (hT : ∀ t ∈ T, ∃ p ∈ cs, p.2 = t.1) (hF : ∀ ns : List Int, ns.length ≤ n → (∀ z ∈ ns, Builtin.Int.intBits z ≤ 1048576) → ∃ h, F [.frz (ns.map D.int)] [] = .ok (.bl true) h) :
    ∀ vs H Q E, spLawT cs n K vs H Q E → spF K mg T 1 F vs H Q E := by
  intro vs H Q E q
  obtain ⟨ns, M, hl, hbits, mok, tb, t, q⟩ := law_start (mg := mg) hn hT q
  obtain ⟨h', e⟩ := hF ns hl hbits
  refine ⟨fun _ _ _ _ _ => False, M, [], [], [.frz (ns.map D.int)], ?_, mok, ⟨rfl, List.nodup_nil, fun n a ds e => by simp at e⟩, tb, t _, ?_⟩
  · obtain ⟨v, vt, rfl, _, z⟩ := t fun _ _ _ _ _ => False
    cases z; rfl
  · rw [e]
    exact fun v M' r' H' _ _ _ _ rp => q v H' rp
end
end LP
/-! LpV: parts of a text; what the head tells of exception classes. -/
namespace LP
open PySem PySem.Spec PyProof.Rows L2 HT
open PySem.W (Frag findIn subIn typeIn keepIn nsIn mroIn ks_superIn ksFn codeIn hasDictIn)
/-- the __init__ of a class of the text -/
abbrev clsInit (s : Stmt) : Stmt := match s with
  | .ClassDef _ _ _ b _ _ _ _ _ _ _ => b.getD 0 s
  | s => s
/-! ### one step down in a text -/
abbrev sBl (s : Stmt) : List (List Stmt) := match s with
  | .FunctionDef _ _ b _ _ _ _ _ _ _ => [b]
  | .For _ _ b o _ => [b, o]
  | .While _ b o _ => [b, o]
  | .If _ b o _ => [b, o]
  | .Try b _ o f _ => [b, o, f]
  | _ => []
abbrev sEx (s : Stmt) : List Expr := match s with
  | .Return (some e) _ => [e]
  | .Assign ts e _ => e :: ts
  | .Expr e _ => [e]
  | .If t _ _ _ => [t]
  | .While t _ _ _ => [t]
  | .For t i _ _ _ => [t, i]
  | _ => []
abbrev eEx (e : Expr) : List Expr := match e with
  | .BoolOp _ vs _ => vs
  | .BinOp a _ b _ => [a, b]
  | .UnaryOp _ a _ => [a]
  | .IfExp t a b _ => [t, a, b]
  | .Compare a _ bs _ => a :: bs
  | .Call f as ks _ => (f :: as) ++ ks.map (·.value)
  | .Attribute a _ _ => [a]
  | .Subscript a b _ => [a, b]
  | .List es _ => es
  | .Tuple es _ _ => es
  | .ListComp e gs _ _ => e :: (gs.map (·.iter) ++ (gs.map (·.ifs)).flatten)
  | _ => []
abbrev dE : Expr := .Constant .none 0 ⟨0, 0, 0, 0⟩
abbrev dS : Stmt := .Pass ⟨0, 0, 0, 0⟩
abbrev stAt (s : Stmt) (b i : Nat) : Stmt := ((sBl s).getD b []).getD i dS
abbrev exAt (s : Stmt) (i : Nat) : Expr := (sEx s).getD i dE
abbrev inAt (e : Expr) (i : Nat) : Expr := (eEx e).getD i dE
abbrev lamOf (e : Expr) : LamD := match e with
  | .Lambda a b s _ => ⟨a, b, s⟩
  | e => ⟨⟨[], [], none, [], [], none, []⟩, e, ⟨.function, [], false, false, []⟩⟩
/-! ### exception classes -/
theorem exn_mk {K : Frag} {prog : Program} {mg : Str → Option Value} {c fl text pn : Str} {C fI : Addr} {params : Arguments} {scope : Scope} {p0 p1 p2 p3 p4 p5 p6 p7 p8 p9 : Pos} {j : Nat} {ar : Arg}
    (g : mg c = some (.ref C)) (T : ExC K prog C fI fl params [.Expr (.Call (.Attribute (.Call (.Name "super" p0) [] [] p1) "__init__" p2) [.Constant (.str text) j p3] [] p4) p5, .Assign [.Attribute (.Name "self" p6) fl p7] (.Name pn p8) p9] scope pn)
    (hsu : mg "super" = none) (xf : XfC K C) (hdbc : (c == ("__debug__" : Str)) = false)
    (hks : scope.names.lookup ("super" : Str) = some .globalImplicit) (hkc : scope.names.lookup ("__class__" : Str) = some .free) (hself : scope.names.lookup ("self" : Str) = some .local) (hpn : scope.names.lookup pn = some .local) (hne : pn ≠ ("self" : Str))
    (hcell : ∀ x ∈ scope.names, x.2 ≠ .cell) (hco : scope.isCoroutine = false) (hgen : scope.isGenerator = false) (hk : scope.kind = .function) (hpar : (params.posonlyargs ++ params.args).head? = some ar) (har : ar.arg = "self") (htop : (prog.main.scope.names.lookup ("super" : Str)).isSome = false) (hdbp : (pn == ("__debug__" : Str)) = false)
    {pl : PySem.Env → Sem Bool} (hev : ∀ env : PySem.Env, eval (.Call (.Attribute (.Call (.Name "super" p0) [] [] p1) "__init__" p2) [.Constant (.str text) j p3] [] p4) env = (do
      let ov ← attributeBase (.Call (.Name "super" p0) [] [] p1) "__init__" env (eval (.Call (.Name "super" p0) [] [] p1) env)
      standAt p2.atName
      let (f, first) ← holding [ov] (getMethod ov "__init__" (pl env))
      callWith p4 f first (backTo p4 (starEach [.Constant (.str text) j p3] env)) []))
    (hin : ∀ env : PySem.Env, env.scope = scope → interactive env = false)
    (hsw1 : ∀ env : PySem.Env, swapsWith (.Call (.Attribute (.Call (.Name "super" p0) [] [] p1) "__init__" p2) [.Constant (.str text) j p3] [] p4) none p5.line env = pure false)
    (hsw2 : ∀ env : PySem.Env, swapsWith (.Name pn p8) (some (.Attribute (.Name "self" p6) fl p7)) p9.line env = pure false)
    (hst : ∀ env : PySem.Env, starEach [.Constant (.str text) j p3] env = [(false, eval (.Constant (.str text) j p3) env)]) : Exn K prog mg c fl := by
  refine ⟨⟨C, g, fun {X k e ta p pos} hK hp hm hr hg ha he => ?_⟩, fun C' g' => ?_⟩
  · subst hK hp hm
    exact pmk_E T hsu hr hg g ha hks hkc hself hpn hne hcell hco hgen hk hpar har htop hdbp hev hin hsw1 hsw2 hst hdbc he
  · rw [g] at g'
    cases g'
    exact ⟨xf, T.fl_⟩
end LP
/-! LpW: rows for simp: exceptions, keywords, lambdas. -/
namespace LP
open PySem PySem.Spec PyProof.Rows L2 HT
section
variable {δ : DE} {h : Bx} {f g f3 : EF} {tf tg : DE → Bx → R Bool} {fs : DE → Bx → R (List D)} {sf sg : SF} {i j : Nat} {d e : D} {ds es : List D}
@[simp] theorem raiseS_ap {c fl : Str} : raiseS c fl f δ h = (f δ h).toS δ fun d h1 => if isV d = true then .exc c [(fl, d)] δ h1 else .bad := pr rfl
theorem tryS_ap {tab : List (Str × Str)} {base : Str} {hs : List (Str × (List (Str × D) → SF))} : tryS tab base sf hs δ h = (match sf δ h with
  | .exc c fs δ' h' => catchS tab base hs c fs δ' h'
  | x => x) := rfl
@[simp] theorem noX_nx : noX (.nx δ h) = .nx δ h := pr rfl
@[simp] theorem noX_rt : noX (.rt d h) = .rt d h := pr rfl
@[simp] theorem dropE_rt : dropE i (.rt d h) = .rt d h := pr rfl
@[simp] theorem dropE_nx : dropE i (.nx δ h) = .nx (δ.set i .no) h := pr rfl
@[simp] theorem xtF_ap {fl : Str} {kd : D} {xs : List (Str × D)} : xtF fl kd xs δ h = (match xs.lookup fl with
  | some d => if isV d = true then .ok (.tup [kd, d]) h else .bad
  | none => .bad) := pr rfl
@[simp] theorem callKwF_ap {n : Nat} {ix : List Nat} {F : List D → Bx → R D} : callKwF n ix F fs δ h = (fs δ h).bind fun ds h1 => if (decide (ds.length = n) && ds.all isV) = true then F (pickL ix ds) h1 else .bad := pr rfl
@[simp] theorem pickL_nil {α : Type} {l : List α} : pickL [] l = [] := pr rfl
@[simp] theorem pickL_cons {α : Type} {n : Nat} {ix : List Nat} {l : List α} : pickL (n :: ix) l = (match l[n]? with | some a => a :: pickL ix l | none => pickL ix l) := by
  unfold pickL
  rw [List.filterMap_cons]
  cases l[n]? <;> rfl
@[simp] theorem actF_ap {Λ : Nat → Bx → R D} : actF Λ i δ h = (match δ[i]? with
  | some (.v (.lam k)) => (Λ k h).bind fun d h1 => if isV d = true then .ok d h1 else .bad
  | _ => .bad) := pr rfl
@[simp] theorem isV_lam {n : Nat} : isV (.lam n) = true := pr rfl
@[simp] theorem isV_fn {x : Str} : isV (.fn x) = true := pr rfl
@[simp] theorem pubS_own : pubS (.own ds) = .no := pr rfl
@[simp] theorem pubS_v : pubS (.v d) = .v d := pr rfl
@[simp] theorem pubS_no : pubS .no = .no := pr rfl
@[simp] theorem pubD_nil : pubD [] = [] := pr rfl
@[simp] theorem pubD_cons {s : SV} : pubD (s :: δ) = pubS s :: pubD δ := pr rfl
@[simp] theorem retK_lam {n : Nat} : retK δ (.lam n) h = .rt (.lam n) h := pr rfl
@[simp] theorem R.bind_exc' {α β : Type} {c : Str} {xs : List (Str × D)} {k : α → Bx → R β} : (R.exc c xs h : R α).bind k = .exc c xs h := pr rfl
theorem seq_nx {δ' : DE} {h' : Bx} (e : sf δ h = .nx δ' h') : seqS sf sg δ h = sg δ' h' := by rw [seqS_ap, e]
end
end LP
/-! LpX: comprehensions of two clauses over plain data. -/
namespace LP
open PySem PySem.Spec PyProof.Rows L2
section
variable {X : Cx} {G : Cfg} {W : WX} {σ : L2.St} {δ : DE} {M M' M1 M2 : Imm} {r r' r1 r2 : List Addr} {h h' h1 h2 : Bx} {H H' H1 H2 : Hp} {E : Ends}
variable {e c : Expr} {f g : EF} {tg : Expr} {fs : DE → Bx → R (List D)} {pos : Pos}
/-- a walk, whatever one turn is -/
theorem it_of {J : It} {n : Nat} {Gd : Hp → Prop} {Y : Nat → Hp → V → Hp → Prop} (w : Walk J n Gd Y) {B : (Hp → Prop) → V → Hp → Prop} {Hs : Hp} {Qd : Hp → Prop} (Pv : Nat → Hp → Prop) (h0 : Pv 0 Hs) (hG : ∀ i H, i ≤ n → Pv i H → Gd H)
    (hs : ∀ i x H H', i < n → Pv i H → Y i H x H' → B (Pv (i + 1)) x H') (hd : ∀ H, Pv n H → Qd H) :
    ∃ W : Nat → Nat → Hp → Prop, (∃ m, W 0 m Hs) ∧ ∀ i m H, W i m H → (J.stop i H ∧ Qd H) ∨ (J.go i H ∧ ∃ Nx : Hp → Prop, (∀ H', Nx H' → ∃ m', m' < m ∧ W (i + 1) m' H') ∧ ∀ x H', J.yld i H x H' → B Nx x H') := by
  refine ⟨fun i m H => m = n - i ∧ i ≤ n ∧ Pv i H, ⟨n, by simp, Nat.zero_le _, h0⟩, ?_⟩
  rintro i m H ⟨rfl, hi, p⟩
  have q := hG i H hi p
  by_cases hlt : i < n
  · exact .inr ⟨w.goes i H hlt q, Pv (i + 1), fun H' p' => ⟨n - (i + 1), by omega, rfl, hlt, p'⟩, fun x H' y => hs i x H H' hlt p (w.yields i H x H' hlt q y)⟩
  · have e : i = n := by omega
    subst e
    exact .inl ⟨w.stops H q, hd H p⟩
/-- targets make no own list -/
def UOk (ts : List Nat) (u : D → DE → Option DE) : Prop := ∀ (d : D) (δ δ' : DE), u d δ = some δ' → ∀ (i : Nat) (ds : SV), δ'[i]? = some ds → ds.ow = true → δ[i]? = some ds ∧ i ∉ ts
def UsOk (ts : List Nat) (us : List D → DE → Option DE) : Prop := ∀ (d : List D) (δ δ' : DE), us d δ = some δ' → ∀ (i : Nat) (ds : SV), δ'[i]? = some ds → ds.ow = true → δ[i]? = some ds ∧ i ∉ ts
theorem uo_name {i : Nat} : UOk [i] (nameU i) := fun d δ δ' e j ds z w => by
  cases (Option.some.inj e : δ.set i (.v d) = δ')
  by_cases hj : i = j
  · subst hj
    by_cases hi : i < δ.length
    · rw [List.getElem?_set_self hi] at z; cases z; cases w
    · rw [List.getElem?_eq_none (by rw [List.length_set]; omega)] at z; cases z
  · rw [List.getElem?_set_ne hj] at z
    exact ⟨z, fun y => hj (List.mem_singleton.mp y).symm⟩
theorem uo_nil : UsOk [] nilU := fun d δ δ' e j ds z w => by
  cases d with
  | nil => cases (Option.some.inj e : δ = δ'); exact ⟨z, by simp⟩
  | cons a l => cases e
theorem uo_cons {ts ts' : List Nat} {u : D → DE → Option DE} {us : List D → DE → Option DE} (a : UOk ts u) (b : UsOk ts' us) : UsOk (ts ++ ts') (consU u us) := fun d δ δ' e j ds z w => by
  cases d with
  | nil => cases e
  | cons x l =>
    have e : (u x δ).bind (fun δ' => us l δ') = some δ' := e
    cases y : u x δ with
    | none => rw [y] at e; cases e
    | some δ1 =>
      rw [y] at e
      obtain ⟨z1, n1⟩ := b l δ1 δ' e j ds z w
      obtain ⟨z2, n2⟩ := a x δ δ1 y j ds z1 w
      exact ⟨z2, fun y => (List.mem_append.mp y).elim n2 n1⟩
theorem uo_tup {n : Nat} {ts : List Nat} {us : List D → DE → Option DE} (a : UsOk ts us) : UOk ts (tupU n us) := fun d δ δ' e j ds z w => by
  cases d with
  | tup l =>
    have e : (if l.length = n then us l δ else none) = some δ' := e
    split at e
    · exact a l δ δ' e j ds z w
    · cases e
  | lst l =>
    have e : (if l.length = n then us l δ else none) = some δ' := e
    split at e
    · exact a l δ δ' e j ds z w
    · cases e
  | _ => cases e
/-- [ef for u in .. if tf for u1 in gi1 if tf1] -/
def comp2F (u : D → DE → Option DE) (tf : DE → Bx → R Bool) (gi1 : DE → Bx → R (List D)) (vs1 : List Nat) (u1 : D → DE → Option DE) (tf1 : DE → Bx → R Bool) (ef : EF) (δ : DE) : List D → Nat → Bx → R (List D)
  | [], _, h => .ok [] h
  | d :: ds, n, h => match u d δ with
    | none => .bad
    | some δ1 => (quiet (tf δ1 h)).bind fun b h1 => if b = true then (quiet (gi1 δ1 h1)).bind fun es h2 => if n + es.length ≤ big then (compF u1 tf1 ef (wipeD δ1 vs1) es h2).bind fun ys h3 => (comp2F u tf gi1 vs1 u1 tf1 ef δ ds (n + ys.length) h3).bind fun zs h4 => .ok (ys ++ zs) h4 else .bad
      else comp2F u tf gi1 vs1 u1 tf1 ef δ ds n h1
def lc2N (gi : DE → Bx → R (List D)) (vs : List Nat) (u : D → DE → Option DE) (tf : DE → Bx → R Bool) (gi1 : DE → Bx → R (List D)) (vs1 : List Nat) (u1 : D → DE → Option DE) (tf1 : DE → Bx → R Bool) (ef : EF) : DE → Bx → R (List D) :=
  fun δ h => (gi δ h).bind fun ds h1 => quiet (comp2F u tf gi1 vs1 u1 tf1 ef (wipeD δ vs) ds 0 h1)
theorem wipe_ext1 {σ σ' : L2.St} {vs : List Nat} (hl : σ'.length = σ.length) (hk : ∀ i, i ∉ vs → σ'[i]? = σ[i]?) : L2.wipe σ' vs = L2.wipe σ vs := wipe_ext hl hk
theorem wipeD_own {δ : DE} : ∀ {vs : List Nat} {i : Nat} {ds : SV}, (wipeD δ vs)[i]? = some ds → ds.ow = true → δ[i]? = some ds
  | [], _, _, e, _ => e
  | v :: vs, i, ds, e, w => by
    have e : ((wipeD δ vs).set v .no)[i]? = some ds := e
    by_cases hv : v = i
    · subst hv
      by_cases hi : v < (wipeD δ vs).length
      · rw [List.getElem?_set_self hi] at e; cases e; cases w
      · rw [List.getElem?_eq_none (by rw [List.length_set]; omega)] at e; cases e
    · rw [List.getElem?_set_ne hv] at e
      exact wipeD_own e w
theorem lc2_of {gi gi1 : DE → Bx → R (List D)} {ts vs ts1 vs1 : List Nat} {u u1 : D → DE → Option DE} {tf tf1 : DE → Bx → R Bool} {ef : EF} (hts : ∀ i ∈ ts, i ∈ vs) (hts1 : ∀ i ∈ ts1, i ∈ vs1) (hu : UOk ts u) {Q : VK} (q : tN G W (lc2N gi vs u tf gi1 vs1 u1 tf1 ef) σ H Q) :
    tLc2 (tI G W gi) (tGt G ts u) (tG G W0 rB tf) (tI G W0 gi1) (tGt G ts1 u1) (tG G W0 rB tf1) (tG G W0 (rV G.J) ef) vs vs1 σ H Q := by
  obtain ⟨M, r, h, δ, b, q⟩ := q
  refine ⟨M, r, h, δ, b, ?_⟩
  unfold lc2N at q
  cases z : gi δ h with
  | bad => rw [z] at q; exact q.elim
  | exc c fs h1 => rw [z] at q; exact q
  | ok ds h1 =>
    rw [z] at q
    simp only [R.bind_ok] at q
    intro J M' r' H' st b' gd Dd hD
    obtain ⟨Gd, Y, w, gd, yd⟩ := gd
    have f0 : Free G.H0 Dd := b'.free0 hD
    have no : NoOwn (wipeD δ vs) (L2.wipe σ vs) Dd := (b'.wipe vs).noOwn hD
    have noσ : NoOwn δ σ Dd := b'.noOwn hD
    let Pv : Nat → Hp → Prop := fun i H1 => ∃ M1 r1 h2 acc va, Stp M' r' H' M1 r1 H1 ∧ BS G M1 r1 h2 (wipeD δ vs) (L2.wipe σ vs) H1 ∧ H1 Dd = some (.lst va) ∧ M1 Dd = none ∧ Dd ∉ r1 ∧ Reps G.J M1 r1 acc va ∧ acc.length ≤ big ∧
      LcEnd (comp2F u tf gi1 vs1 u1 tf1 ef (wipeD δ vs) (ds.drop i) acc.length h2) fun ys h3 => AfterN G W σ δ M r H (.ok (acc ++ ys) h3) Q
    have hst : Stp M' r' H' M' r' (upd H' Dd (.lst [])) := ⟨Le.refl, List.prefix_rfl, fun a z => .inl z, fun a o e _ _ => upd_new hD e, fun a m _ _ => m⟩
    refine it_of w Pv ⟨M', r', h1, [], [], hst, (b'.wipe vs).new_list hD, upd_same, b'.fresh_M hD, b'.fresh_r hD, rfl, Nat.zero_le _, ?_⟩
      (fun i H1 _ ⟨M1, r1, h2, acc, va, s1, b1, _⟩ => gd M1 r1 h2 _ _ H1 s1.le s1.pre b1) (fun i x H1 H2 hi ⟨M1, r1, h2, acc, va, s1, b1, e1, m1, n1, t1, l1, q1⟩ y => ?_) (fun H1 ⟨M1, r1, h2, acc, va, s1, b1, e1, m1, n1, t1, l1, q1⟩ => ?_)
    · rw [List.drop_zero]
      show LcEnd (comp2F u tf gi1 vs1 u1 tf1 ef (wipeD δ vs) ds 0 h1) _
      cases y : comp2F u tf gi1 vs1 u1 tf1 ef (wipeD δ vs) ds 0 h1 with
      | ok ys h3 => rw [y] at q; exact q
      | exc c fs h3 => rw [y] at q; exact q.elim
      | bad => rw [y] at q; exact q
    · -- one turn
      obtain ⟨M2, d, b2, s2, e2, rp⟩ := yd i x H1 H2 M1 r1 h2 _ _ hi s1.le s1.pre b1 y
      rw [List.drop_eq_getElem_cons hi] at q1
      rw [List.getElem?_eq_getElem hi] at e2
      rw [Option.some.inj e2] at q1
      unfold comp2F at q1
      cases z1 : u d (wipeD δ vs) with
      | none => rw [z1] at q1; exact q1.elim
      | some δ2 =>
        rw [z1] at q1
        simp only at q1
        have mD : ∀ {Ma ra Ha Mb rb Hb va}, Stp Ma ra Ha Mb rb Hb → Ha Dd = some (.lst va) → Ma Dd = none → Dd ∉ ra → Hb Dd = some (.lst va) ∧ Mb Dd = none ∧ Dd ∉ rb := fun {Ma ra Ha Mb rb Hb va} s e m n =>
          have nf : IsL Ha Dd := .lst e
          ⟨s.keep _ _ e (fun ps z => by cases z) n, s.nf _ m nf n, fun z => (s.new _ z).elim n nf.nf⟩
        obtain ⟨e3, m3, n3⟩ := mD s2 e1 m1 n1
        refine ⟨M2, r1, h2, _, d, δ2, b2, rp, z1, fun σ2 b3 l3 k3 => ⟨?_, M2, r1, h2, δ2, b3, ?_⟩⟩
        · rw [← wipe_wipe σ vs]
          exact wipe_ext l3 fun j hj => k3 j fun z => hj (hts j z)
        · have no2 : NoOwn δ2 σ2 Dd := fun j ds' e w y => by
            obtain ⟨z2, z3⟩ := hu d _ _ z1 j ds' e w
            rw [k3 j z3] at y
            exact no j ds' z2 w y
          have no2w : NoOwn (wipeD δ2 vs1) (L2.wipe σ2 vs1) Dd := fun j ds' e w y => no2 j ds' (wipeD_own e w) w (wipe_some y).1
          -- the test
          cases y1 : tf δ2 h2 with
          | exc c fs h3 => rw [y1] at q1; exact q1.elim
          | bad => rw [y1] at q1; exact q1.elim
          | ok bb h3 =>
            rw [y1] at q1
            simp only [quiet, R.bind_ok] at q1
            intro bv M4 r4 H4 s4 b4 ev
            cases ev
            obtain ⟨e5, m5, n5⟩ := mD s4 e3 m3 n3
            have b4w : BS G M4 r4 h3 (wipeD δ vs) (L2.wipe σ vs) H4 := b2.step s4 b4
            have s04 := s1.trans (s2.trans s4)
            cases bb with
            | false =>
              simp only [Bool.false_eq_true, if_false] at q1 ⊢
              exact ⟨M4, r4, h3, acc, va, s04, b4w, e5, m5, n5, Reps.mono (s2.trans s4).le (s2.trans s4).pre _ _ t1, l1, q1⟩
            | true =>
              simp only [if_true] at q1 ⊢
              refine ⟨M4, r4, h3, δ2, b4, ?_⟩
              cases y2 : gi1 δ2 h3 with
              | exc c fs h5 => rw [y2] at q1; exact q1.elim
              | bad => rw [y2] at q1; exact q1.elim
              | ok es h5 =>
                rw [y2] at q1
                simp only [quiet, R.bind_ok] at q1
                by_cases hz : acc.length + es.length ≤ big
                · rw [if_pos hz] at q1
                  intro J1 M5 r5 H5 s5 b5 gd1
                  obtain ⟨Gd1, Y1, w1, gd1, yd1⟩ := gd1
                  obtain ⟨e6, m6, n6⟩ := mD s5 e5 m5 n5
                  have s05 := s04.trans s5
                  have t5 : Reps G.J M5 r5 acc va := Reps.mono (s2.trans (s4.trans s5)).le (s2.trans (s4.trans s5)).pre _ _ t1
                  let Pv1 : Nat → Hp → Prop := fun j Hx => ∃ M6 r6 h6 acc' va', Stp M' r' H' M6 r6 Hx ∧ Le M5 M6 ∧ r5 <+: r6 ∧ BS G M6 r6 h6 (wipeD δ2 vs1) (L2.wipe σ2 vs1) Hx ∧ Hx Dd = some (.lst va') ∧ M6 Dd = none ∧ Dd ∉ r6 ∧ Reps G.J M6 r6 acc' va' ∧ acc'.length ≤ acc.length + j ∧
                    LcEnd (compF u1 tf1 ef (wipeD δ2 vs1) (es.drop j) h6) fun ys h7 => LcEnd (comp2F u tf gi1 vs1 u1 tf1 ef (wipeD δ vs) (ds.drop (i + 1)) (acc'.length + ys.length) h7) fun zs h8 => AfterN G W σ δ M r H (.ok (acc' ++ ys ++ zs) h8) Q
                  refine it_of w1 Pv1 ⟨M5, r5, h5, acc, va, s05, Le.refl, List.prefix_rfl, b5.wipe vs1, e6, m6, n6, t5, Nat.le_refl _, ?_⟩
                    (fun j Hx _ ⟨M6, r6, h6, acc', va', _, le6, pre6, b6, e7, _⟩ => gd1 M6 r6 h6 _ _ Hx le6 pre6 b6) (fun j x' Hx Hy hj ⟨M6, r6, h6, acc', va', s6, le6, pre6, b6, e7, m7, n7, t6, l6, q6⟩ y' => ?_) (fun Hx ⟨M6, r6, h6, acc', va', s6, le6, pre6, b6, e7, m7, n7, t6, l6, q6⟩ => ?_)
                  · rw [List.drop_zero]
                    cases y3 : compF u1 tf1 ef (wipeD δ2 vs1) es h5 with
                    | exc c fs h7 => rw [y3] at q1; exact q1.elim
                    | bad => rw [y3] at q1; exact q1.elim
                    | ok ys h7 =>
                      rw [y3] at q1
                      simp only [R.bind_ok] at q1
                      show LcEnd (comp2F u tf gi1 vs1 u1 tf1 ef (wipeD δ vs) (ds.drop (i + 1)) (acc.length + ys.length) h7) _
                      cases y4 : comp2F u tf gi1 vs1 u1 tf1 ef (wipeD δ vs) (ds.drop (i + 1)) (acc.length + ys.length) h7 with
                      | exc c fs h8 => rw [y4] at q1; exact q1.elim
                      | bad => rw [y4] at q1; exact q1.elim
                      | ok zs h8 =>
                        rw [y4] at q1
                        show AfterN G W σ δ M r H (.ok (acc ++ ys ++ zs) h8) Q
                        rw [List.append_assoc]
                        exact q1
                  · -- one inner turn
                    obtain ⟨M7, d', b7, s8, e8, rp7⟩ := yd1 j x' Hx Hy M6 r6 h6 _ _ hj le6 pre6 b6 y'
                    rw [List.drop_eq_getElem_cons hj] at q6
                    rw [List.getElem?_eq_getElem hj] at e8
                    rw [Option.some.inj e8] at q6
                    unfold compF at q6
                    cases z2 : u1 d' (wipeD δ2 vs1) with
                    | none => rw [z2] at q6; exact q6.elim
                    | some δ3 =>
                      rw [z2] at q6
                      simp only at q6
                      obtain ⟨e9, m9, n9⟩ := mD s8 e7 m7 n7
                      refine ⟨M7, r6, h6, _, d', δ3, b7, rp7, z2, fun σ3 b8 l8 k8 => ⟨?_, M7, r6, h6, δ3, b8, ?_⟩⟩
                      · rw [← wipe_wipe σ2 vs1]
                        exact wipe_ext l8 fun j hj => k8 j fun z => hj (hts1 j z)
                      · cases y3 : tf1 δ3 h6 with
                        | exc c fs h7 => rw [y3] at q6; exact q6.elim
                        | bad => rw [y3] at q6; exact q6.elim
                        | ok bb h7 =>
                          rw [y3] at q6
                          simp only [quiet, R.bind_ok] at q6
                          intro bv M8 r8 H8 s9 b9 ev
                          cases ev
                          obtain ⟨eA, mA, nA⟩ := mD s9 e9 m9 n9
                          have b9w : BS G M8 r8 h7 (wipeD δ2 vs1) (L2.wipe σ2 vs1) H8 := b7.step s9 b9
                          cases bb with
                          | false =>
                            simp only [Bool.false_eq_true, if_false] at q6 ⊢
                            exact ⟨M8, r8, h7, acc', va', s6.trans (s8.trans s9), le6.trans (s8.trans s9).le, pre6.trans (s8.trans s9).pre, b9w, eA, mA, nA, Reps.mono (s8.trans s9).le (s8.trans s9).pre _ _ t6, by omega, q6⟩
                          | true =>
                            simp only [if_true] at q6 ⊢
                            refine ⟨M8, r8, h7, δ3, b9, ?_⟩
                            cases y5 : ef δ3 h7 with
                            | exc c fs h8 => rw [y5] at q6; exact q6.elim
                            | bad => rw [y5] at q6; exact q6.elim
                            | ok yd' h8 =>
                              rw [y5] at q6
                              simp only [R.bind_ok] at q6
                              by_cases hv : isV yd' = true
                              · rw [if_pos hv] at q6
                                intro yv M9 r9 H9 sA bA rv
                                obtain ⟨eB, mB, nB⟩ := mD sA eA mA nA
                                have bAw : BS G M9 r9 h8 (wipeD δ2 vs1) (L2.wipe σ2 vs1) H9 := b9w.step sA bA
                                have st6 := s8.trans (s9.trans sA)
                                have rv' : Rep G.J M9 r9 yd' yv := by
                                  cases yd' with
                                  | loc i => cases hv
                                  | _ => exact rv
                                have la : va'.length = acc'.length := t6.length
                                refine ⟨va', eB, by rw [la]; exact big_lt (by omega), M9, r9, h8, acc' ++ [yd'], va' ++ [yv], ?_, le6.trans st6.le, pre6.trans st6.pre, bAw.wrote mB nB f0 no2w eB, upd_same, mB, nB, (Reps.mono st6.le st6.pre _ _ t6).append (Reps.one rv'), by rw [List.length_append]; simp; omega, ?_⟩
                                · have s0 := s6.trans st6
                                  refine ⟨s0.le, s0.pre, s0.new, fun a o e t n => ?_, s0.nf⟩
                                  rw [upd_ne (ne_of_none e hD)]
                                  exact s0.keep a o e t n
                                · cases y6 : compF u1 tf1 ef (wipeD δ2 vs1) (es.drop (j + 1)) h8 with
                                  | exc c fs h9 => rw [y6] at q6; exact q6.elim
                                  | bad => rw [y6] at q6; exact q6.elim
                                  | ok ys h9 =>
                                    rw [y6] at q6
                                    simp only [R.bind_ok] at q6
                                    have q6 : LcEnd (comp2F u tf gi1 vs1 u1 tf1 ef (wipeD δ vs) (ds.drop (i + 1)) (acc'.length + (yd' :: ys).length) h9) fun zs h8 => AfterN G W σ δ M r H (.ok (acc' ++ (yd' :: ys) ++ zs) h8) Q := q6
                                    show LcEnd (comp2F u tf gi1 vs1 u1 tf1 ef (wipeD δ vs) (ds.drop (i + 1)) ((acc' ++ [yd']).length + ys.length) h9) fun zs h8 => AfterN G W σ δ M r H (.ok ((acc' ++ [yd']) ++ ys ++ zs) h8) Q
                                    have x1 : (acc' ++ [yd']).length + ys.length = acc'.length + (yd' :: ys).length := by simp; omega
                                    have x2 : (acc' ++ [yd']) ++ ys = acc' ++ (yd' :: ys) := by simp
                                    rw [x1, x2]
                                    exact q6
                              · rw [if_neg hv] at q6
                                exact q6.elim
                  · -- the inner end
                    rw [List.drop_length] at q6
                    have q6 : LcEnd (comp2F u tf gi1 vs1 u1 tf1 ef (wipeD δ vs) (ds.drop (i + 1)) (acc'.length + 0) h6) fun zs h8 => AfterN G W σ δ M r H (.ok (acc' ++ [] ++ zs) h8) Q := q6
                    rw [List.append_nil, Nat.add_zero] at q6
                    exact ⟨M6, r6, h6, acc', va', s6, (b'.wipe vs).step s6 b6, e7, m7, n7, t6, by omega, q6⟩
                · rw [if_neg hz] at q1; exact q1.elim
    · -- behind all
      rw [List.drop_length] at q1
      have q1 : AfterN G W σ δ M r H (.ok (acc ++ []) h2) Q := q1
      rw [List.append_nil] at q1
      have s2 := st.trans s1
      have b2 := (b'.step s1 b1).erase m1 n1 f0 noσ e1
      have z := q1 va M1 r1 _ Dd ⟨s2.le, s2.pre, s2.new, fun a o e t n => ?_, s2.nf⟩ b2 t1 l1 (if_pos rfl)
      · have : upd (fun c => if c = Dd then none else H1 c) Dd (.lst va) = H1 := by
          funext c
          unfold upd
          by_cases hc : c = Dd
          · subst hc; rw [if_pos rfl, e1]
          · rw [if_neg hc]; exact if_neg hc
        rw [this] at z
        exact z
      · have ne : a ≠ Dd := fun y => by
          subst y
          have := st.keep a o e t n
          rw [hD] at this; cases this
        show (if a = Dd then none else H1 a) = _
        rw [if_neg ne]
        exact s2.keep a o e t n
theorem evn_lc2 {elt iter tg1 iter1 : Expr} {ifs ifs1 : List Expr} {scope : Scope} {own : List (Str × Nat)} {gi gi1 : DE → Bx → R (List D)} {ts ts1 vs1 : List Nat} {u u1 : D → DE → Option DE} {tf tf1 : DE → Bx → R Bool} {ef : EF} (hc : X.calm = true) (hN : X.N.Nodup)
    (hi : EvI X G W tg iter gi) (ok : BlkOk X.N X.env.scope scope own) (hts : ∀ i ∈ ts, i ∈ own.map (·.2)) (hts1 : ∀ i ∈ ts1, i ∈ vs1) (hv : ∀ i ∈ vs1, i ∈ own.map (·.2)) (hu : UOk ts u)
    (hg : ∀ (s : Shared) (H : Hp) (C : Addr) (cl : List (Str × Addr)) (fp : List Addr), EvG (X.blk s H scope (compEnvC scope cl C X.env) fp) G tg ts u) (ht : ∀ (s : Shared) (H : Hp) (C : Addr) (cl : List (Str × Addr)) (fp : List Addr), EvTs (X.blk s H scope (compEnvC scope cl C X.env) fp) G W0 ifs tf)
    (hi1 : ∀ (s : Shared) (H : Hp) (C : Addr) (cl : List (Str × Addr)) (fp : List Addr), EvI (X.blk s H scope (compEnvC scope cl C X.env) fp) G W0 tg1 iter1 gi1)
    (hg1 : ∀ (s : Shared) (H : Hp) (C : Addr) (cl : List (Str × Addr)) (fp : List Addr), EvG (X.blk s H scope (compEnvC scope cl C X.env) fp) G tg1 ts1 u1) (ht1 : ∀ (s : Shared) (H : Hp) (C : Addr) (cl : List (Str × Addr)) (fp : List Addr), EvTs (X.blk s H scope (compEnvC scope cl C X.env) fp) G W0 ifs1 tf1)
    (he : ∀ (s : Shared) (H : Hp) (C : Addr) (cl : List (Str × Addr)) (fp : List Addr), Ev (X.blk s H scope (compEnvC scope cl C X.env) fp) G W0 elt ef) (hs : ∀ x, foldedSetIterable iter X.env x = pure x := by intro _; rfl) (hs1 : ∀ env x, foldedSetIterable iter1 env x = pure x := by intro _ _; rfl) :
    EvN X G W (.ListComp elt [⟨tg, iter, ifs, 0⟩, ⟨tg1, iter1, ifs1, 0⟩] scope pos) (lc2N gi (own.map (·.2)) u tf gi1 vs1 u1 tf1 ef) := PE.imp (pe_lc2 hc hN hi ok hv hg ht hi1 hg1 ht1 he hs hs1) fun σ H Q q => lc2_of hts hts1 hu q
end
@[simp] theorem lc2N_ap {gi : DE → Bx → R (List D)} {vs : List Nat} {u : D → DE → Option DE} {tf : DE → Bx → R Bool} {gi1 : DE → Bx → R (List D)} {vs1 : List Nat} {u1 : D → DE → Option DE} {tf1 : DE → Bx → R Bool} {ef : EF} {δ : DE} {h : Bx} :
    lc2N gi vs u tf gi1 vs1 u1 tf1 ef δ h = (gi δ h).bind fun ds h1 => quiet (comp2F u tf gi1 vs1 u1 tf1 ef (wipeD δ vs) ds 0 h1) := pr rfl
end LP
/-! LpY: l.index(x). -/
namespace LP
open PySem PySem.Spec PyProof.Rows L2
def rIdxP (K : PySem.W.Frag) : V → List V → Hp → VK → Prop := fun x xs H Q => ∃ (a : Addr) (y : V) (d : D) (ds : List D) (j : Nat), x = V.ref a ∧ xs = [y] ∧ Dp K H (V.ref a) (.list (D.pys ds)) ∧ Dp K H y d.py ∧
  min (D.deps ds) d.dep ≤ 60 ∧ ds.findIdx? (fun z => D.eq z d) = some j ∧ Q (.int (j : Nat)) H
theorem pys_get : ∀ {ds : List D} {j : Nat}, (D.pys ds)[j]? = (ds[j]?).map D.py
  | [], j => by simp [D.pys]
  | d :: ds, 0 => rfl
  | d :: ds, j + 1 => by
    show (D.pys ds)[j]? = (ds[j]?).map D.py
    exact pys_get
theorem pys_len : ∀ {ds : List D}, (D.pys ds).length = ds.length
  | [] => rfl
  | d :: ds => by show (D.pys ds).length + 1 = ds.length + 1; rw [pys_len]
section
variable {X : Cx}
theorem mt_indexP (hu : X.A.units + 64 < cLine) : MtR X "list.index" (rIdxP X.K) := by
  intro pins s σ H x xs v us Q I rx rxs h
  obtain ⟨a, y, d, ds, j, rfl, rfl, hl, hy, hz, hf, q⟩ := h
  cases rx
  cases rxs with
  | cons ry rt =>
    rename_i uy ut
    cases rt
    obtain ⟨bs, r1⟩ := Dp.reads I _ y uy hy ry
    have hroom : X.A.units + 1 + min (PyData.depthAll (D.pys ds)) d.py.depth < cLine := by rw [depth_py, depth_pys]; omega
    obtain ⟨hjd, hej, hno⟩ := List.findIdx?_eq_some_iff_getElem.mp hf
    cases hl with
    | lst hs ha =>
      obtain ⟨its, rv, ⟨⟨cls, dd, data, sls⟩, n, ho, hc, hdn, hdt⟩, hlen⟩ := I.list hs
      simp only at hc hdt
      subst hc hdt
      obtain ⟨as, h4⟩ := Dp.readsAll I (D.pys ds) _ its ha rv
      have hn : its.length = (D.pys ds).length := SeqAt.ReadsAll.length (D.pys ds) its as h4
      have hmap : its.map (SeqAt.readOf s.heap) = D.pys ds := SeqAt.readsAll_map_plain (D.pys ds) its as (plain_pys ds) h4
      have hvl := rv.length
      have hsl := sizeLine_eq
      rw [pys_len] at hn
      have hjl : j < its.length := by omega
      have hj : j < its.toArray.size := by simpa using hjl
      have at_ : ∀ (m : Nat) (hm : m < its.toArray.size) (hm' : m < ds.length), SeqAt.readOf s.heap its.toArray[m] = (ds[m]).py := by
        intro m hm hm'
        have hml : m < its.length := by simpa using hm
        have e0 : (its.map (SeqAt.readOf s.heap))[m]? = (D.pys ds)[m]? := by rw [hmap]
        rw [List.getElem?_map, List.getElem?_eq_getElem hml, pys_get, List.getElem?_eq_getElem hm'] at e0
        have e1 : SeqAt.readOf s.heap its[m] = (ds[m]).py := Option.some.inj e0
        simpa using e1
      refine call_meets PySem.F.slot_list_index ⟨_, ho, rfl⟩ PySem.F.entry_list_index (PySem.F.args_list_index_2 _ _)
        (SeqAt.list_indexAt a its.toArray n dd sls uy (fun u => PyData.eqv (SeqAt.readOf s.heap u) d.py) j hj (by omega) ?_ ?_) ⟨ho, SeqAt.items_plain (vs := its.toArray) (show ReadsAll s.heap its.toArray.toList (D.pys ds) as from h4) r1 (plain_pys ds) (plain_py d) hroom, ?_⟩
      · show PyData.eqv (SeqAt.readOf s.heap its.toArray[j]) d.py = true
        rw [at_ j hj hjd]
        exact hej
      · intro m hm hmj
        have hmd : m < ds.length := by omega
        show PyData.eqv (SeqAt.readOf s.heap its.toArray[m]) d.py = false
        rw [at_ m hm hmd]
        have := hno m hmj
        exact (by simpa using this : D.eq ds[m] d = false)
      · exact ⟨.int (j : Nat), H, I.tok _, ⟨_, rfl⟩, q⟩
end
section
variable {X : Cx} {G : Cfg} {W : WX} {σ : L2.St} {δ : DE} {M M' M1 M2 : Imm} {r r' r1 r2 : List Addr} {h h' h1 h2 : Bx} {H H' H1 H2 : Hp} {E : Ends}
variable {e o : Expr} {f g : EF} {apos cpos : Pos}
def idxK (a b : D) (δ : DE) (h : Bx) : R D := match lstOf δ h a with
  | some ds => if ((vw δ h b).pure && D.pures ds && decide (min (D.deps ds) (vw δ h b).dep ≤ 60)) = true then
      match ds.findIdx? (fun z => D.eq z (vw δ h b)) with
      | some j => .ok (.int (j : Nat)) h
      | none => .bad
    else .bad
  | none => .bad
/-- f.index(g) -/
def idxF (f g : EF) : EF := fun δ h => (f δ h).bind fun a h1 => if (lstOf δ h1 a).isSome = true then (g δ h1).bind fun b h2 => idxK a b δ h2 else .bad
theorem ev_index (hu : X.A.units + 64 < cLine) (ho : Ev X G W o f) (ha : Ev X G W e g) (hK : X.K = G.K)
    (hbase : attributeBase o "index" X.env (eval o X.env) = eval o X.env := by rfl)
    (hfew : ((backTo cpos (starEach [e] X.env)).all (fun x => !x.1) && (backToKw cpos (keywordEach [] X.env)).all (fun x => x.1.isSome) && decide ([e].length + ([] : List Keyword).length + (if ([] : List Keyword).isEmpty then 0 else 1) < 30)) = true := by rfl)
    (hline : (apos.endLine == cpos.line) = true := by rfl) (hs : starEach [e] X.env = (false, eval e X.env) :: starEach [] X.env := by rfl) (hplain : (backTo cpos (starEach [] X.env)).any (·.1) = false := by rfl) :
    Ev X G W (.Call (.Attribute o "index" apos) [e] [] cpos) (idxF f g) :=
  PE.imp (pe_bm PySem.F.plainAttrs_list PySem.F.slot_list_index PySem.F.type_list_index (mt_indexP hu) ho (pa_cons ha pa_nil hs) hbase hfew hline hs hplain) fun σ H Q q => by
    rw [hK]
    obtain ⟨M, r, h, δ, b, q⟩ := q
    refine ⟨M, r, h, δ, b, (After.bind (rl := rV G.J δ σ) q).more fun x H1 ⟨dx, M1, r1, h1, s1, b1, rx, q1⟩ => ?_⟩
    by_cases z : (lstOf δ h1 dx).isSome = true
    · rw [if_pos z] at q1
      obtain ⟨es, ez⟩ := Option.isSome_iff_exists.mp z
      obtain ⟨a, vs, e1, hq, _, _⟩ := b1.lst rx ez
      subst e1
      refine ⟨.inl ⟨rfl, vs, hq⟩, M1, r1, h1, δ, b1, (After.bind (rl := rV G.J δ σ) q1).more fun y H2 ⟨dy, M2, r2, h2, s2, b2, ry, q2⟩ => ?_⟩
      unfold idxK at q2
      split at q2
      · rename_i ds ed
        split at q2
        · rename_i e
          rw [Bool.and_eq_true, Bool.and_eq_true, decide_eq_true_eq] at e
          split at q2
          · rename_i j ej
            obtain ⟨a', vs', e2, hs, t, _⟩ := b2.lst (rx.mono s2.le s2.pre) ed
            cases e2
            exact ⟨a, y, _, ds, j, rfl, rfl, .lst hs (dp_reps b2 ds vs' t e.1.2), dp_of b2 ry e.1.1, e.2, ej, q2.now b2 rfl⟩
          · exact q2.elim
        · exact q2.elim
      · exact q2.elim
    · rw [if_neg z] at q1; exact q1.elim
@[simp] theorem idxF_ap : idxF f g δ h = (f δ h).bind fun a h1 => if (lstOf δ h1 a).isSome = true then (g δ h1).bind fun b h2 => idxK a b δ h2 else .bad := pr rfl
end
end LP
/-! LpZ: names that take comprehensions. -/
namespace LP
open PySem PySem.Spec PyProof.Rows L2
section
variable {X : Cx} {G : Cfg} {W : WX} {σ : L2.St} {δ : DE} {M M' M1 M2 : Imm} {r r' r1 r2 : List Addr} {h h' h1 h2 : Bx} {H H' H1 H2 : Hp} {E : Ends}
variable {e c : Expr} {f g : EF} {tg : Expr} {fs : DE → Bx → R (List D)} {pos : Pos} {i : Nat} {st : Stmt} {sf : SF}
/-- behind a statement the list of slot i is never written again -/
def endFrz (i : Nat) (sf : SF) : SF := fun δ h => match sf δ h with
  | .nx δ' h' => match δ'[i]? with
    | some (.own ds) => .nx (δ'.set i (.v (.lst ds))) h'
    | _ => .bad
  | x => x
theorem es_endFrz (i : Nat) (p : Es X G W st sf) : Es X G W st (endFrz i sf) := PS.imp p fun E σ H q => by
  obtain ⟨M, r, h, δ, b, q⟩ := q
  refine ⟨M, r, h, δ, b, ?_⟩
  unfold endFrz at q
  cases z : sf δ h with
  | nx δ' h' =>
    rw [z] at q
    simp only at q
    intro M1 r1 σ1 H1 le pre b1
    split at q
    · rename_i ds e
      obtain ⟨M2, a, vs, _, le2, b2, _⟩ := b1.freeze e
      exact q M2 r1 σ1 H1 (le.trans le2) pre b2
    · exact q.elim
  | rt d h' => rw [z] at q; exact q
  | bk δ' h' => rw [z] at q; exact q
  | ct δ' h' => rw [z] at q; exact q
  | exc c fs δ' h' => rw [z] at q; exact q
  | bad => rw [z] at q; exact q
theorem es_ownLc2 {y : Str} {py spos : Pos} {elt iter tg1 iter1 : Expr} {ifs ifs1 : List Expr} {scope : Scope} {own : List (Str × Nat)} {gi gi1 : DE → Bx → R (List D)} {ts ts1 vs1 : List Nat} {u u1 : D → DE → Option DE} {tf tf1 : DE → Bx → R Bool} {ef : EF} (hc : X.calm = true) (hN : X.N.Nodup)
    (hy : X.N[i]? = some y) (hyl : X.env.scope.names.lookup y = some .local) (hsw : swapsWith (.ListComp elt [⟨tg, iter, ifs, 0⟩, ⟨tg1, iter1, ifs1, 0⟩] scope pos) (some (.Name y py)) spos.line X.env = pure true)
    (hi : EvI X G W tg iter gi) (ok : BlkOk X.N X.env.scope scope own) (hts : ∀ i ∈ ts, i ∈ own.map (·.2)) (hts1 : ∀ i ∈ ts1, i ∈ vs1) (hv : ∀ i ∈ vs1, i ∈ own.map (·.2)) (hu : UOk ts u)
    (hg : ∀ (s : Shared) (H : Hp) (C : Addr) (cl : List (Str × Addr)) (fp : List Addr), EvG (X.blk s H scope (compEnvC scope cl C X.env) fp) G tg ts u) (ht : ∀ (s : Shared) (H : Hp) (C : Addr) (cl : List (Str × Addr)) (fp : List Addr), EvTs (X.blk s H scope (compEnvC scope cl C X.env) fp) G W0 ifs tf)
    (hi1 : ∀ (s : Shared) (H : Hp) (C : Addr) (cl : List (Str × Addr)) (fp : List Addr), EvI (X.blk s H scope (compEnvC scope cl C X.env) fp) G W0 tg1 iter1 gi1)
    (hg1 : ∀ (s : Shared) (H : Hp) (C : Addr) (cl : List (Str × Addr)) (fp : List Addr), EvG (X.blk s H scope (compEnvC scope cl C X.env) fp) G tg1 ts1 u1) (ht1 : ∀ (s : Shared) (H : Hp) (C : Addr) (cl : List (Str × Addr)) (fp : List Addr), EvTs (X.blk s H scope (compEnvC scope cl C X.env) fp) G W0 ifs1 tf1)
    (he : ∀ (s : Shared) (H : Hp) (C : Addr) (cl : List (Str × Addr)) (fp : List Addr), Ev (X.blk s H scope (compEnvC scope cl C X.env) fp) G W0 elt ef) (hs : ∀ x, foldedSetIterable iter X.env x = pure x := by intro _; rfl) (hs1 : ∀ env x, foldedSetIterable iter1 env x = pure x := by intro _ _; rfl) :
    Es X G W (.Assign [.Name y py] (.ListComp elt [⟨tg, iter, ifs, 0⟩, ⟨tg1, iter1, ifs1, 0⟩] scope pos) spos) (ownS i (lc2N gi (own.map (·.2)) u tf gi1 vs1 u1 tf1 ef)) :=
  PS.imp (ps_setLc2 hc hN hy hyl hsw hi ok hv hg ht hi1 hg1 ht1 he hs hs1) fun E σ H q => by
    obtain ⟨M, r, h, δ, b, q⟩ := q
    refine lc2_of (G := G) (W := W) (u := u) (Q := fun x H1 => gName i x σ H1 E.nx) hts hts1 hu ⟨M, r, h, δ, b, ?_⟩
    unfold ownS at q
    cases e : lc2N gi (own.map (·.2)) u tf gi1 vs1 u1 tf1 ef δ h with
    | ok ds h1 =>
      rw [e] at q
      intro vs M' r' H' p s b' t z hp
      exact (AfterS.from s.le s.pre q).nxt (b'.own hp t z)
    | exc c fs h => rw [e] at q; exact fun C dd M' r' H' m s b e => q C dd M' r' σ H' m s.le s.pre b e
    | bad => rw [e] at q; exact q
@[simp] theorem endFrz_ap : endFrz i sf δ h = (match sf δ h with
  | .nx δ' h' => match δ'[i]? with
    | some (.own ds) => .nx (δ'.set i (.v (.lst ds))) h'
    | _ => .bad
  | x => x) := pr rfl
@[simp] theorem vw_loc : vw δ h (.loc i) = (match lstOf δ h (.loc i) with | some ds => .lst ds | none => .loc i) := pr rfl
@[simp] theorem isNK_ap {a : D} : isNK a .non δ h = .ok (.bl (isNon a)) h := pr rfl
@[simp] theorem notNK_ap {a : D} : notNK a .non δ h = .ok (.bl (!isNon a)) h := pr rfl
@[simp] theorem isNon_non : isNon .non = true := pr rfl
@[simp] theorem isNon_int {n : Int} : isNon (.int n) = false := pr rfl
theorem seq_rt {sf sg : SF} {h' : Bx} {d : D} (e : sf δ h = .rt d h') : seqS sf sg δ h = .rt d h' := by rw [seqS_ap, e]
theorem seq_exc {sf sg : SF} {δ' : DE} {h' : Bx} {c : Str} {fs : List (Str × D)} (e : sf δ h = .exc c fs δ' h') : seqS sf sg δ h = .exc c fs δ' h' := by rw [seqS_ap, e]
end
end LP
/-! LpZa: boxes within boxes: o.pop(), o.append(e), l[::-1] as a new list. -/
namespace LP
open PySem PySem.Spec PyProof.Rows L2
section
variable {X : Cx} {G : Cfg} {W : WX} {σ : L2.St} {δ : DE} {M M' M1 M2 : Imm} {r r' r1 r2 : List Addr} {h h' h1 h2 : Bx} {H H' H1 H2 : Hp} {E : Ends}
variable {e o : Expr} {f g : EF} {pos apos cpos : Pos}
/-- f.pop(), f a box -/
def popF (f : EF) : EF := fun δ h => (f δ h).bind fun d h1 => match d with
  | .ptr n => match h1[n]? with
    | some ds => match ds.getLast? with
      | some y => if isV y = true then .ok y (h1.set n ds.dropLast) else .bad
      | none => .bad
    | none => .bad
  | _ => .bad
theorem ev_popF (ho : Ev X G W o f) (hK : X.K = G.K) (hbase : attributeBase o "pop" X.env (eval o X.env) = eval o X.env := by rfl) (hline : (apos.endLine == cpos.line) = true := by rfl) :
    Ev X G W (.Call (.Attribute o "pop" apos) [] [] cpos) (popF f) :=
  PE.imp (pe_bm0 PySem.F.plainAttrs_list PySem.F.slot_list_pop PySem.F.type_list_pop mt_pop ho hbase hline) fun σ H Q q => by
    rw [hK]
    obtain ⟨M, r, h, δ, b, q⟩ := q
    refine ⟨M, r, h, δ, b, (After.bind (rl := rV G.J δ σ) q).more fun x H1 ⟨d, M1, r1, h1, s1, b1, rx, q1⟩ => ?_⟩
    cases d with
    | ptr n =>
      simp only at q1
      cases y : h1[n]? with
      | none => rw [y] at q1; exact q1.elim
      | some ds =>
        rw [y] at q1
        simp only at q1
        cases z : ds.getLast? with
        | none => rw [z] at q1; exact q1.elim
        | some w =>
          rw [z] at q1
          simp only at q1
          by_cases iv : isV w = true
          · rw [if_pos iv] at q1
            obtain ⟨a, rfl, ea⟩ := rx
            obtain ⟨m, l, vs, q2, t⟩ := b1.bx.at_ n a ds ea y
            have hx : ds[ds.length - 1]? = some w := by rw [← List.getLast?_eq_getElem?]; exact z
            obtain ⟨v, ev, rp⟩ := t.get hx
            obtain ⟨b2, s2⟩ := b1.boxW (es := ds.dropLast) (us := vs.dropLast) ea t.dropLast (by rw [List.length_dropLast]; omega)
            refine ⟨.inl ⟨rfl, vs, .inl (.inl q2)⟩, a, vs, v, rfl, rfl, q2, by rw [t.length]; exact ev, q1 v M1 r1 _ s2 b2 ?_⟩
            cases w with
            | loc i => cases iv
            | _ => exact rp
          · rw [if_neg iv] at q1; exact q1.elim
    | _ => exact q1.elim
/-- f.append(g), f a box -/
def appX (f g : EF) : SF := fun δ h => (f δ h).toS δ fun d h1 => match d with
  | .ptr n => (if (h1[n]?).isSome = true then (g δ h1).toS δ fun y h2 => match h2[n]? with
    | some ds => if (isV y && decide (ds.length < big)) = true then .nx δ (h2.set n (ds ++ [y])) else .bad
    | none => .bad
    else .bad)
  | _ => .bad
theorem es_appX (ho : Ev X G W o f) (ha : Ev X G W e g) (hK : X.K = G.K)
    (hbase : attributeBase o "append" X.env (eval o X.env) = eval o X.env := by rfl)
    (hfew : ((backTo cpos (starEach [e] X.env)).all (fun x => !x.1) && (backToKw cpos (keywordEach [] X.env)).all (fun x => x.1.isSome) && decide ([e].length + ([] : List Keyword).length + (if ([] : List Keyword).isEmpty then 0 else 1) < 30)) = true := by rfl)
    (hline : (apos.endLine == cpos.line) = true := by rfl) (hs : starEach [e] X.env = (false, eval e X.env) :: starEach [] X.env := by rfl) (hplain : (backTo cpos (starEach [] X.env)).any (·.1) = false := by rfl)
    (hsw : swapsWith (.Call (.Attribute o "append" apos) [e] [] cpos) none pos.line X.env = pure false := by rfl) :
    Es X G W (.Expr (.Call (.Attribute o "append" apos) [e] [] cpos) pos) (appX f g) :=
  PS.imp (ps_expr (pe_bm PySem.F.plainAttrs_list PySem.F.slot_list_append PySem.F.type_list_append mt_append ho (pa_cons ha pa_nil hs) hbase hfew hline hs hplain) hsw) fun E σ H q => by
    rw [hK]
    obtain ⟨M, r, h, δ, b, q⟩ := q
    refine ⟨M, r, h, δ, b, (AfterS.expr (rl := rV G.J) b q).more fun x H1 ⟨d, M1, r1, h1, s1, b1, rx, q1⟩ => ?_⟩
    cases d with
    | ptr n =>
      simp only at q1
      by_cases hs : (h1[n]?).isSome = true
      · rw [if_pos hs] at q1
        obtain ⟨a, rfl, ea⟩ := rx
        obtain ⟨ds0, y0⟩ := Option.isSome_iff_exists.mp hs
        obtain ⟨m0, l0, vs0, q0, t0⟩ := b1.bx.at_ n a ds0 ea y0
        refine ⟨.inl ⟨rfl, vs0, .inl (.inl q0)⟩, M1, r1, h1, δ, b1, (AfterS.expr (rl := rV G.J) b1 q1).more fun w H2 ⟨y, M2, r2, h2, s2, b2, ry, q2⟩ => ?_⟩
        cases z : h2[n]? with
        | none => rw [z] at q2; exact q2.elim
        | some ds =>
          rw [z] at q2
          simp only at q2
          split at q2
          · rename_i c
            rw [Bool.and_eq_true, decide_eq_true_eq] at c
            have ea2 : r2[n]? = some a := by
              obtain ⟨t, ht⟩ := s2.pre
              rw [← ht, List.getElem?_append_left (List.getElem?_eq_some_iff.mp ea).1]
              exact ea
            obtain ⟨m, l, vs, q3, t⟩ := b2.bx.at_ n a ds ea2 z
            have rp : Rep G.J M2 r2 y w := by
              cases y with
              | loc i => cases c.1
              | _ => exact ry
            obtain ⟨b3, s3⟩ := b2.boxW (es := ds ++ [y]) (us := vs ++ [w]) ea2 (t.append (Reps.one rp)) (by rw [List.length_append]; simp; have := c.2; omega)
            exact ⟨a, vs, w, rfl, rfl, q3, by rw [t.length]; exact big_lt c.2, q2.nxt b3⟩
          · exact q2.elim
      · rw [if_neg hs] at q1; exact q1.elim
    | _ => exact q1.elim
/-- l[::-1], l a list, as a new list -/
def revN (f : EF) : DE → Bx → R (List D) := fun δ h => (f δ h).bind fun d h1 => match d with
  | .tup _ => .bad
  | d => match lstOf δ h1 d with
    | some ds => .ok ds.reverse h1
    | none => .bad
theorem evn_rev {k : Nat} {p1 p2 p3 : Pos} (ha : Ev X G W e f) (hK : X.K = G.K) : EvN X G W (.Subscript e (.Slice none none (some (.UnaryOp .USub (.Constant (.int 1) k p1) p2)) p3) pos) (revN f) :=
  PE.imp (pe_revA ha) fun σ H Q q => by
    rw [hK]
    obtain ⟨M, r, h, δ, b, q⟩ := q
    refine ⟨M, r, h, δ, b, (AfterN.bind q).more fun x H1 ⟨d, M1, r1, h1, s1, b1, rx, q1⟩ => ?_⟩
    split at q1
    · exact q1.elim
    · split at q1
      · rename_i ds z
        obtain ⟨a, vs, rfl, hs, t, l⟩ := b1.lst rx z
        exact ⟨a, vs, rfl, .inl ⟨hs, fun p hp => q1 _ M1 r1 H1 p Stp.refl b1 t.rev (by rw [List.length_reverse]; exact l) hp⟩⟩
      · exact q1.elim
@[simp] theorem popF_ap : popF f δ h = (f δ h).bind fun d h1 => match d with
  | .ptr n => match h1[n]? with
    | some ds => match ds.getLast? with
      | some y => if isV y = true then .ok y (h1.set n ds.dropLast) else .bad
      | none => .bad
    | none => .bad
  | _ => .bad := pr rfl
@[simp] theorem appX_ap : appX f g δ h = (f δ h).toS δ fun d h1 => match d with
  | .ptr n => (if (h1[n]?).isSome = true then (g δ h1).toS δ fun y h2 => match h2[n]? with
    | some ds => if (isV y && decide (ds.length < 1000000)) = true then .nx δ (h2.set n (ds ++ [y])) else .bad
    | none => .bad
    else .bad)
  | _ => .bad := pr rfl
end
end LP
/-! LpZb: i in range(n); list(range(n)), tuple(range(n)). -/
namespace LP
open PySem PySem.Spec PyProof.Rows L2
theorem range_contains_meets (r : Addr) (a b c i : Int) (t u v ti : Tok) :
    Meets (Builtin.«range.__contains__» ⟨[.ref r, .int i ti], []⟩) (fun _ R s => s.heap.get? r = some { cls := .type "range", dict := none, data := .fields #[.int a t, .int b u, .int c v], slots := #[] } ∧ R (.ok (.ret (.bool (Builtin.Range.rangePlace? a b c i).isSome))) s) :=
  .of_wp fun prog w A R s h => by obtain ⟨hp, g, d, tk, os⟩ := s; obtain ⟨hl, h⟩ := h; wp_walk; first | exact ⟨_, rfl, h⟩ | exact h
end LP
namespace LP
open PySem PySem.Spec PyProof.Rows L2
section
variable {prog : Program} {w : World} {A : Around} {E : Value → Shared → Prop} {s : Shared} {r : Addr} {a b c i : Int} {t u v ti : Tok}
theorem range_typeIs (hr : IsRange s.heap r a b c t u v) : s.TypeIs (.ref r) "range" := ⟨_, hr, rfl⟩
theorem contains_range {Q : Bool → Shared → Prop} (hr : IsRange s.heap r a b c t u v) (h : Q (Builtin.Range.rangePlace? a b c i).isSome s) :
    wpAny (model prog w) A (contains (.ref r) (.int i ti)) Q E s := by
  unfold contains
  try with_reducible refine wpAny_holding ?_
  refine wpAny_bind (wpAny_specialOf (range_typeIs hr) PySem.F.slot_range_contains.lookup ?_)
  show wpAny _ _ (if (some (Value.builtin "range.__contains__") == some Value.none) = true then _ else _) _ E s
  rw [if_neg (by rw [beq_builtin_none]; exact Bool.false_ne_true)]
  refine wpAny_bind (wpAny_callSpecialUnlessNone?_slot (name := Str.ofString "__contains__") (range_typeIs hr) PySem.F.slot_range_contains
    (call_meets PySem.F.slot_range_contains (range_typeIs hr) PySem.F.entry_range_contains (PySem.F.args_range_contains_2 _ _) (range_contains_meets r a b c i t u v ti) ⟨hr, ?_⟩))
  show wpAny (model prog w) A (truthy (.bool _)) Q E s
  exact wpAny_truthy_bool h
theorem in_range {Q : Value → Shared → Prop} (hr : IsRange s.heap r a b c t u v) (h : Q (.bool (Builtin.Range.rangePlace? a b c i).isSome) s) : wpAny (model prog w) A (compareOp .In (.int i ti) (.ref r)) Q E s := by
  show wpAny _ _ (do return .bool (← contains (.ref r) (.int i ti))) Q E s
  exact wpAny_bind (contains_range hr (wpAny_pure h))
theorem notIn_range {Q : Value → Shared → Prop} (hr : IsRange s.heap r a b c t u v) (h : Q (.bool (!(Builtin.Range.rangePlace? a b c i).isSome)) s) : wpAny (model prog w) A (compareOp .NotIn (.int i ti) (.ref r)) Q E s := by
  show wpAny _ _ (do return .bool (!(← contains (.ref r) (.int i ti)))) Q E s
  exact wpAny_bind (contains_range hr (wpAny_pure h))
end
theorem place_one (a b i : Int) : (Builtin.Range.rangePlace? a b 1 i).isSome = (decide (a ≤ i) && decide (i < b)) := by
  unfold Builtin.Range.rangePlace?
  by_cases h1 : a ≤ i <;> by_cases h2 : i < b <;> simp [h1, h2, Int.emod_one]
section
variable {X : Cx} {G : Cfg} {W : WX} {σ : L2.St} {δ : DE} {M M' M1 M2 : Imm} {r r' r1 r2 : List Addr} {h h' h1 h2 : Bx} {H H' H1 H2 : Hp}
variable {e o : Expr} {f g g2 : EF} {pos : Pos} {b1 b2 : Expr}
def tInRg (ng : Bool) (ty : TE) (te : L2.St → Hp → (Int → Int → Hp → Prop) → Prop) : TE := fun σ H Q => ty σ H fun y H1 => te σ H1 fun a b H2 => ∃ i, y = .int i ∧ Q (.bl (if ng then !(decide (a ≤ i) && decide (i < b)) else (decide (a ≤ i) && decide (i < b)))) H2
theorem pc_inRg {ty : TE} {te : L2.St → Hp → (Int → Int → Hp → Prop) → Prop} (hi : PE X e ty) (ho : PRg X o te) : PC X .In e o (tInRg false ty te) := by
  refine ⟨fun pins s σ H Q I h => ?_⟩
  refine thn (hi.run pins s σ H _ I h) fun iv s1 ⟨y, H1, I1, ry, q1⟩ => thn (ho pins s1 σ H1 _ I1 q1) fun u s2 ⟨r, a, b, t, u', v, H2, ex, hr, I2, i, ey, q2⟩ => ?_
  subst ex ey
  obtain ⟨ti, rfl⟩ := ry
  refine in_range hr ?_
  rw [place_one]
  exact ⟨.bl _, H2, I2, rfl, q2⟩
theorem pc_notInRg {ty : TE} {te : L2.St → Hp → (Int → Int → Hp → Prop) → Prop} (hi : PE X e ty) (ho : PRg X o te) : PC X .NotIn e o (tInRg true ty te) := by
  refine ⟨fun pins s σ H Q I h => ?_⟩
  refine thn (hi.run pins s σ H _ I h) fun iv s1 ⟨y, H1, I1, ry, q1⟩ => thn (ho pins s1 σ H1 _ I1 q1) fun u s2 ⟨r, a, b, t, u', v, H2, ex, hr, I2, i, ey, q2⟩ => ?_
  subst ex ey
  obtain ⟨ti, rfl⟩ := ry
  refine notIn_range hr ?_
  rw [place_one]
  exact ⟨.bl _, H2, I2, rfl, q2⟩
/-- a range's ends -/
def rB2 (_ : DE) (_ : L2.St) : Rl (Int × Int) (Int × Int) := fun _ _ a b => a = b
def tR (G : Cfg) (W : WX) (fr : DE → Bx → R (Int × Int)) : L2.St → Hp → (Int → Int → Hp → Prop) → Prop := fun σ H Q => ∃ M r h δ, BS G M r h δ σ H ∧ After G W σ δ (rB2 δ σ) M r H (fr δ h) fun p H1 => Q p.1 p.2 H1
def EvR (X : Cx) (G : Cfg) (W : WX) (e : Expr) (fr : DE → Bx → R (Int × Int)) : Prop := PRg X e (tR G W fr)
def rg1F (f : EF) : DE → Bx → R (Int × Int) := fun δ h => (f δ h).bind fun d h1 => match d with
  | .int n => .ok (0, n) h1
  | _ => .bad
def rg2F (f g : EF) : DE → Bx → R (Int × Int) := fun δ h => (f δ h).bind fun d h1 => (g δ h1).bind fun e h2 => match d, e with
  | .int n, .int m => .ok (n, m) h2
  | _, _ => .bad
theorem PRg.imp {e : Expr} {t t' : L2.St → Hp → (Int → Int → Hp → Prop) → Prop} (p : PRg X e t) (f : ∀ σ H Q, t' σ H Q → t σ H Q) : PRg X e t' := fun pins s σ H Q I h => p pins s σ H Q I (f σ H Q h)
theorem evr_1 {p : Pos} (hg : Gl X "range") (hm : X.mg "range" = none) (ha : Ev X G W b1 f) (na : starEach [b1] X.env = (false, eval b1 X.env) :: starEach [] X.env := by rfl) : EvR X G W (.Call (.Name "range" p) [b1] [] pos) (rg1F f) :=
  PRg.imp (prg_1 hg hm ha na) fun σ H Q q => by
    obtain ⟨M, r, h, δ, b, q⟩ := q
    refine ⟨M, r, h, δ, b, (After.bind (rl := rV G.J δ σ) q).more fun x H1 ⟨d, M1, r1, h1, s1, b1, rx, q1⟩ => ?_⟩
    cases d with
    | int n => cases rx; exact ⟨n, rfl, q1.now b1 (v := (0, n)) rfl⟩
    | _ => exact q1.elim
theorem evr_2 {p : Pos} (hg : Gl X "range") (hm : X.mg "range" = none) (ha : Ev X G W b1 f) (hb : Ev X G W b2 g) (na : starEach [b1, b2] X.env = (false, eval b1 X.env) :: starEach [b2] X.env := by rfl)
    (nb : starEach [b2] X.env = (false, eval b2 X.env) :: starEach [] X.env := by rfl) (hp : (backTo pos (starEach [b2] X.env)).any (·.1) = false := by rfl) : EvR X G W (.Call (.Name "range" p) [b1, b2] [] pos) (rg2F f g) :=
  PRg.imp (prg_2 hg hm ha hb na nb hp) fun σ H Q q => by
    obtain ⟨M, r, h, δ, b, q⟩ := q
    refine ⟨M, r, h, δ, b, (After.bind (rl := rV G.J δ σ) q).more fun x H1 ⟨d, M1, r1, h1, s1, b1, rx, q1⟩ => ?_⟩
    refine ⟨M1, r1, h1, δ, b1, (After.bind (rl := rV G.J δ σ) q1).more fun y H2 ⟨d2, M2, r2, h2, s2, b2, ry, q2⟩ => ?_⟩
    cases d with
    | int n => cases d2 with
      | int m => cases rx; cases ry; exact ⟨n, m, rfl, rfl, q2.now b2 (v := (n, m)) rfl⟩
      | _ => exact q2.elim
    | _ => exact q2.elim
/-- e in range(..) -/
def inRgF (ng : Bool) (f : EF) (fr : DE → Bx → R (Int × Int)) : EF := fun δ h => (f δ h).bind fun d h1 => (fr δ h1).bind fun p h2 => match d with
  | .int i => .ok (.bl (if ng then !(decide (p.1 ≤ i) && decide (i < p.2)) else (decide (p.1 ≤ i) && decide (i < p.2)))) h2
  | _ => .bad
theorem inRg_of {ng : Bool} {fr : DE → Bx → R (Int × Int)} {Q : VK} (q : tG G W (rV G.J) (inRgF ng f fr) σ H Q) : tInRg ng (tG G W (rV G.J) f) (tR G W fr) σ H Q := by
  obtain ⟨M, r, h, δ, b, q⟩ := q
  refine ⟨M, r, h, δ, b, (After.bind (rl := rV G.J δ σ) q).more fun x H1 ⟨d, M1, r1, h1, s1, b1, rx, q1⟩ => ?_⟩
  refine ⟨M1, r1, h1, δ, b1, (After.bind (rl := rB2 δ σ) q1).more fun p H2 ⟨p', M2, r2, h2, s2, b2, ep, q2⟩ => ?_⟩
  cases (show p' = p from ep)
  cases d with
  | int i => cases rx; exact ⟨i, rfl, q2.now b2 rfl⟩
  | _ => exact q2.elim
theorem ev_inRg {fr : DE → Bx → R (Int × Int)} (ha : Ev X G W e f) (hb : EvR X G W o fr) (hm : behindInMarks .In o = false) : Ev X G W (.Compare e [.In] [o] pos) (inRgF false f fr) := PE.imp (pe_cmp (pc_inRg ha hb) hm) fun σ H Q q => inRg_of q
theorem ev_notInRg {fr : DE → Bx → R (Int × Int)} (ha : Ev X G W e f) (hb : EvR X G W o fr) (hm : behindInMarks .NotIn o = false) : Ev X G W (.Compare e [.NotIn] [o] pos) (inRgF true f fr) := PE.imp (pe_cmp (pc_notInRg ha hb) hm) fun σ H Q q => inRg_of q
theorem evt_inRg {fr : DE → Bx → R (Int × Int)} (ha : Ev X G W e f) (hb : EvR X G W o fr) (hm : behindInMarks .In o = false) : EvT X G W (.Compare e [.In] [o] pos) (testF (inRgF false f fr)) := PT.imp (pt_cmp (pc_inRg ha hb) hm) fun σ H Q q => inRg_of (tTest_of q)
theorem evt_notInRg {fr : DE → Bx → R (Int × Int)} (ha : Ev X G W e f) (hb : EvR X G W o fr) (hm : behindInMarks .NotIn o = false) : EvT X G W (.Compare e [.NotIn] [o] pos) (testF (inRgF true f fr)) := PT.imp (pt_cmp (pc_notInRg ha hb) hm) fun σ H Q q => inRg_of (tTest_of q)
/-- a .. b - 1 -/
def rgI (p : Int × Int) : List D := (List.range (p.2 - p.1).toNat).map fun i => .int (p.1 + (i : Nat))
def rgIC (p : Int × Int) : Bool := decide (-(2 ^ 62) ≤ p.1 ∧ p.1 < 2 ^ 62 ∧ -(2 ^ 62) ≤ p.2 ∧ p.2 < 2 ^ 62 ∧ (p.2 - p.1).toNat ≤ 1000000)
theorem rgI_reps {J : Jd} (p : Int × Int) : Reps J M r (rgI p) (rgV p.1 p.2) := by
  unfold rgI rgV
  generalize List.range (p.2 - p.1).toNat = l
  induction l with
  | nil => rfl
  | cons i l ih => exact ⟨_, _, rfl, rfl, ih⟩
theorem rgI_len (p : Int × Int) : (rgI p).length = (p.2 - p.1).toNat := by unfold rgI; rw [List.length_map, List.length_range]
/-- list(range(..)) as a new list -/
def listRgN (fr : DE → Bx → R (Int × Int)) : DE → Bx → R (List D) := fun δ h => (fr δ h).bind fun p h1 => if rgIC p = true then .ok (rgI p) h1 else .bad
theorem evn_listRg {p : Pos} {fr : DE → Bx → R (Int × Int)} (hc : X.calm = true) (hg : Gl X "list") (hm : X.mg "list" = none) (he : EvR X G W e fr) (na : starEach [e] X.env = (false, eval e X.env) :: starEach [] X.env := by rfl) : EvN X G W (.Call (.Name "list" p) [e] [] pos) (listRgN fr) :=
  PE.imp (pe_listRg hc hg hm he na) fun σ H Q q => by
    obtain ⟨M, r, h, δ, b, q⟩ := q
    refine ⟨M, r, h, δ, b, (AfterN.bind (rl := rB2 δ σ) q).more fun p H1 ⟨p', M1, r1, h1, s1, b1, ep, q1⟩ => ?_⟩
    cases (show p' = p from ep)
    by_cases c : rgIC p = true
    · rw [if_pos c] at q1
      have c := of_decide_eq_true c
      exact ⟨⟨c.1, c.2.1, c.2.2.1, c.2.2.2.1, by have := c.2.2.2.2; omega⟩, fun q0 hq => q1 _ M1 r1 H1 q0 Stp.refl b1 (rgI_reps p) (by rw [rgI_len]; exact c.2.2.2.2) hq⟩
    · rw [if_neg c] at q1; exact q1.elim
/-- tuple(range(..)) -/
def tupRgF (fr : DE → Bx → R (Int × Int)) : EF := fun δ h => (fr δ h).bind fun p h1 => if rgIC p = true then .ok (.tup (rgI p)) h1 else .bad
theorem ev_tupRg {p : Pos} {fr : DE → Bx → R (Int × Int)} (hc : X.calm = true) (hg : Gl X "tuple") (hm : X.mg "tuple" = none) (he : EvR X G W e fr) (na : starEach [e] X.env = (false, eval e X.env) :: starEach [] X.env := by rfl) : Ev X G W (.Call (.Name "tuple" p) [e] [] pos) (tupRgF fr) :=
  PE.imp (pe_tupRg hc hg hm he na) fun σ H Q q => by
    obtain ⟨M, r, h, δ, b, q⟩ := q
    refine ⟨M, r, h, δ, b, (After.bind (rl := rB2 δ σ) q).more fun p H1 ⟨p', M1, r1, h1, s1, b1, ep, q1⟩ => ?_⟩
    cases (show p' = p from ep)
    by_cases c : rgIC p = true
    · rw [if_pos c] at q1
      have c := of_decide_eq_true c
      exact ⟨⟨c.1, c.2.1, c.2.2.1, c.2.2.2.1, by have := c.2.2.2.2; omega⟩, tup_new b1 (rgI_reps p) (by rw [rgI_len]; exact c.2.2.2.2) q1⟩
    · rw [if_neg c] at q1; exact q1.elim
@[simp] theorem rg1F_ap : rg1F f δ h = (f δ h).bind fun d h1 => match d with
  | .int n => .ok ((0 : Int), n) h1
  | _ => .bad := pr rfl
@[simp] theorem rg2F_ap : rg2F f g δ h = (f δ h).bind fun d h1 => (g δ h1).bind fun e h2 => match d, e with
  | .int n, .int m => .ok (n, m) h2
  | _, _ => .bad := pr rfl
@[simp] theorem inRgF_ap {ng : Bool} {fr : DE → Bx → R (Int × Int)} : inRgF ng f fr δ h = (f δ h).bind fun d h1 => (fr δ h1).bind fun p h2 => match d with
  | .int i => .ok (.bl (if ng then !(decide (p.1 ≤ i) && decide (i < p.2)) else (decide (p.1 ≤ i) && decide (i < p.2)))) h2
  | _ => .bad := pr rfl
@[simp] theorem listRgN_ap {fr : DE → Bx → R (Int × Int)} : listRgN fr δ h = (fr δ h).bind fun p h1 => if rgIC p = true then .ok (rgI p) h1 else .bad := pr rfl
@[simp] theorem tupRgF_ap {fr : DE → Bx → R (Int × Int)} : tupRgF fr δ h = (fr δ h).bind fun p h1 => if rgIC p = true then .ok (.tup (rgI p)) h1 else .bad := pr rfl
end
end LP
/-! LpZc: sorted(l) of plain data of one shape. -/
namespace LP
open PySem PySem.Spec PyProof.Rows L2 PySem.W
/-- the list in order -/
def sortD (ds : List D) : List D := ds.mergeSort (dataLe false D.py)
theorem each_vals {P : V → D → Prop} : ∀ {us : List Value} {ds : List D}, EachIs (fun u d => ∃ x, RelV x u ∧ P x d) us ds → ∃ ys, Vals ys us ∧ EachIs P ys ds
  | _, _, .nil => ⟨[], .nil, .nil⟩
  | _, _, .cons ⟨x, h1, h2⟩ t => by
    obtain ⟨ys, e1, e2⟩ := each_vals t
    exact ⟨x :: ys, .cons h1 e1, .cons h2 e2⟩
theorem vals_each {P : V → D → Prop} : ∀ {us : List Value} {xs : List V} {ds : List D}, Vals xs us → EachIs P xs ds → EachIs (fun u d => ∃ x, RelV x u ∧ P x d) us ds
  | _, _, _, .nil, .nil => .nil
  | _, _, _, .cons h1 h2, .cons e1 e2 => .cons ⟨_, h1, e1⟩ (vals_each h2 e2)
def rSortD (K : PySem.W.Frag) : List V → Hp → VK → Prop := fun vs H Q => ∃ (a : Addr) (xs : List V) (ds : List D) (P : V → D → Prop), vs = [V.ref a] ∧ SqL K H a xs ∧ DpAll K H xs (D.pys ds) ∧ EachIs P xs ds ∧
  AllAlike (ds.map D.py) ∧ Sortable (ds.map D.py) ∧ ds.length ≤ 1000000 ∧ (∀ d ∈ ds, d.dep ≤ 60) ∧ ∀ ys p, EachIs P ys (sortD ds) → H p = none → Q (.ref p) (upd H p (.lst ys))
theorem pys_map : ∀ {ds : List D}, D.pys ds = ds.map D.py
  | [] => rfl
  | d :: ds => by show d.py :: D.pys ds = _; rw [pys_map]; rfl
section
variable {X : Cx}
theorem cr_sortedD (hu : X.A.units + 64 < cLine) : CallR X (.builtin "sorted") (rSortD X.K) := by
  intro pins s σ H vs us Q I r h
  obtain ⟨a, xs, ds, P, rfl, hs, hd, eP, hal, hk, hl, hz, q⟩ := h
  obtain ⟨its, rv, hl', hz'⟩ := I.list hs
  rw [Vals.ref1 r]
  obtain ⟨as, h4⟩ := Dp.readsAll I (D.pys ds) _ its hd rv
  rw [pys_map] at h4
  have er := readsAll_each D.py h4
  have e := vals_each rv eP
  refine sorted_data (enc := D.py) hl'.isList e er hal hk (by have := sizeLine_eq; omega) (fun b hb => by have := hz b hb; rw [depth_py]; omega) fun out ol oe => ?_
  obtain ⟨ys, yv, ye⟩ := each_vals oe
  obtain ⟨ep, he'⟩ := PyProof.Rows.sortedAll_at s.heap its out.toArray
  have hlen : ys.length ≤ sizeLine := by
    have := ye.length
    have h5 : (sortD ds).length = ds.length := List.length_mergeSort ..
    have := sizeLine_eq
    show ys.length ≤ _
    have h6 : ys.length = (sortD ds).length := ye.length
    omega
  exact ⟨.ref _, upd H (s.heap.objs.size + 1) (.lst ys), I.laid (t' := s.toks) (fun _ _ => PyProof.Rows.sortedAll_old) (Nat.le_succ _) ⟨hlen, out, ep, yv, he'⟩, rfl, q _ _ ye (I.hok.fresh (Nat.le_succ _))⟩
end
/-- each is a tuple with an item at least -/
def tupUp : D → Bool
  | .tup (_ :: _) => true
  | _ => false
/-- no tuple, no None -/
def flatUp : D → Bool
  | .int _ => true
  | .bl _ => true
  | .str _ => true
  | .lst _ => true
  | _ => false
def keysOk (ds : List D) : Bool := (ds.all fun a => ds.all fun b => alike a.py b.py) && (ds.all tupUp || ds.all flatUp)
theorem keys_alike {ds : List D} (h : keysOk ds = true) : AllAlike (ds.map D.py) := by
  unfold keysOk at h
  rw [Bool.and_eq_true] at h
  intro d hd d' hd'
  obtain ⟨b, hb, rfl⟩ := List.mem_map.mp hd
  obtain ⟨b', hb', rfl⟩ := List.mem_map.mp hd'
  exact List.all_eq_true.mp (List.all_eq_true.mp h.1 b hb) b' hb'
theorem keys_sortable {ds : List D} (h : keysOk ds = true) : Sortable (ds.map D.py) := by
  unfold keysOk at h
  rw [Bool.and_eq_true, Bool.or_eq_true] at h
  rcases h.2 with z | z
  · refine .inl fun d hd => ?_
    obtain ⟨b, hb, rfl⟩ := List.mem_map.mp hd
    have q := List.all_eq_true.mp z b hb
    cases b with
    | tup xs =>
      cases xs with
      | nil => cases q
      | cons x xs => exact ⟨_, _, rfl⟩
    | _ => cases q
  · refine .inr fun d hd => ?_
    obtain ⟨b, hb, rfl⟩ := List.mem_map.mp hd
    have q := List.all_eq_true.mp z b hb
    cases b with
    | int i => exact ⟨fun e => by simp [D.py] at e, fun xs e => by simp [D.py] at e⟩
    | bl i => exact ⟨fun e => by simp [D.py] at e, fun xs e => by simp [D.py] at e⟩
    | str i => exact ⟨fun e => by simp [D.py] at e, fun xs e => by simp [D.py] at e⟩
    | lst i => exact ⟨fun e => by simp [D.py] at e, fun xs e => by simp [D.py] at e⟩
    | _ => cases q
section
variable {J : Jd} {M : Imm} {r : List Addr}
theorem reps_each : ∀ {ds : List D} {vs : List V}, Reps J M r ds vs → EachIs (fun v d => Rep J M r d v) vs ds
  | [], _, h => by cases h; exact .nil
  | d :: ds, _, h => by
    obtain ⟨v, vt, rfl, h1, h2⟩ := h
    exact .cons h1 (reps_each h2)
theorem each_reps : ∀ {vs : List V} {ds : List D}, EachIs (fun v d => Rep J M r d v) vs ds → Reps J M r ds vs
  | _, _, .nil => rfl
  | _, _, .cons h1 h2 => ⟨_, _, rfl, h1, each_reps h2⟩
end
theorem deps_mem {ds : List D} {d : D} (h : d ∈ ds) : d.dep ≤ D.deps ds := by
  induction ds with
  | nil => cases h
  | cons x xs ih =>
    have e : D.deps (x :: xs) = max x.dep (D.deps xs) := rfl
    rcases List.mem_cons.mp h with z | z
    · subst z; omega
    · have := ih z; omega
/-- sorted(l): a new one -/
def srtN (fs : DE → Bx → R (List D)) : DE → Bx → R (List D) := fun δ h => (fs δ h).bind fun ds h1 => match ds with
  | [d] => match lstOf δ h1 d with
    | some es => if (D.pures es && decide (D.deps es ≤ 60) && keysOk es && decide (es.length ≤ big)) = true then .ok (sortD es) h1 else .bad
    | none => .bad
  | _ => .bad
section
variable {X : Cx} {G : Cfg} {W : WX} {e : Expr} {fs : DE → Bx → R (List D)} {δ : DE} {h : Bx} {pos : Pos}
theorem evn_sorted {p : Pos} {es : List Expr} (hu : X.A.units + 64 < cLine) (hg : Gl X "sorted") (hm : X.mg "sorted" = none) (ha : EvA X G W (e :: es) fs) (hK : X.K = G.K)
    (he : starEach (e :: es) X.env = (false, eval e X.env) :: starEach es X.env := by rfl) (hpl : (backTo pos (starEach es X.env)).any (·.1) = false := by rfl) : EvN X G W (.Call (.Name "sorted" p) (e :: es) [] pos) (srtN fs) :=
  PE.imp (pe_callB (cr_sortedD hu) hg hm (by decide +kernel) ha (by decide) (by decide) he hpl) fun σ H Q q => by
    rw [hK]
    obtain ⟨M, r, h, δ, b, q⟩ := q
    refine ⟨M, r, h, δ, b, (AfterN.bind (rl := rVs G.J δ σ) q).more fun vs H1 ⟨ds, M1, r1, h1, s1, b1, rv, q1⟩ => ?_⟩
    split at q1
    · rename_i d
      obtain ⟨v, rfl, e⟩ := one_rep rv
      split at q1
      · rename_i es' z
        split at q1
        · rename_i l
          rw [Bool.and_eq_true, Bool.and_eq_true, Bool.and_eq_true, decide_eq_true_eq, decide_eq_true_eq] at l
          obtain ⟨⟨⟨l1, l2⟩, l3⟩, l4⟩ := l
          obtain ⟨a, us, rfl, hs, t, _⟩ := b1.lst e z
          refine ⟨a, us, es', fun v d => Rep G.J M1 r1 d v, rfl, hs, dp_reps b1 es' us t l1, reps_each t, keys_alike l3, keys_sortable l3, l4, fun d hd => Nat.le_trans (deps_mem hd) l2, fun ys p ye hp => ?_⟩
          exact q1 ys M1 r1 H1 p Stp.refl b1 (each_reps ye) (by
            have h5 : (sortD es').length = es'.length := List.length_mergeSort ..
            rw [h5]; exact l4) hp
        · exact q1.elim
      · exact q1.elim
    · exact q1.elim
@[simp] theorem srtN_ap : srtN fs δ h = (fs δ h).bind fun ds h1 => match ds with
  | [d] => match lstOf δ h1 d with
    | some es => if (D.pures es && decide (D.deps es ≤ 60) && keysOk es && decide (es.length ≤ 1000000)) = true then .ok (sortD es) h1 else .bad
    | none => .bad
  | _ => .bad := pr rfl
end
end LP
/-! LpZd: x.remove(k), whole numbers. -/
namespace LP
open PySem PySem.Spec PyProof.Rows L2
/-- whole numbers alone -/
def intsD : List D → Option (List Int)
  | [] => some []
  | .int i :: ds => (intsD ds).map (i :: ·)
  | _ :: _ => none
theorem intsD_of : ∀ {ds : List D} {ns : List Int}, intsD ds = some ns → ds = ns.map D.int
  | [], ns, e => by cases e; rfl
  | .int i :: ds, ns, e => by
    have e : (intsD ds).map (i :: ·) = some ns := e
    cases z : intsD ds with
    | none => rw [z] at e; cases e
    | some ms => rw [z] at e; cases e; rw [intsD_of z]; rfl
  | .non :: _, _, e => by cases e
  | .bl _ :: _, _, e => by cases e
  | .str _ :: _, _, e => by cases e
  | .tup _ :: _, _, e => by cases e
  | .lst _ :: _, _, e => by cases e
  | .ptr _ :: _, _, e => by cases e
  | .loc _ :: _, _, e => by cases e
  | .frz _ :: _, _, e => by cases e
  | .lam _ :: _, _, e => by cases e
  | .fn _ :: _, _, e => by cases e
  | .dct _ _ :: _, _, e => by cases e
theorem reps_intV {J : Jd} {M : Imm} {r : List Addr} : ∀ {ns : List Int} {vs : List V}, Reps J M r (ns.map D.int) vs → vs = ns.map V.int
  | [], _, e => by cases e; rfl
  | n :: ns, _, e => by
    obtain ⟨v, vt, rfl, e1, e2⟩ := e
    rw [show v = .int n from e1, reps_intV e2]; rfl
theorem intV_reps {J : Jd} {M : Imm} {r : List Addr} : ∀ (ns : List Int), Reps J M r (ns.map D.int) (ns.map V.int)
  | [] => rfl
  | n :: ns => ⟨_, _, rfl, rfl, intV_reps ns⟩
def remK (ds : List D) (d : D) (_ : DE) (_ : Bx) : Option (List D) := match intsD ds, d with
  | some ns, .int k => if k ∈ ns then some ((ns.erase k).map D.int) else none
  | _, _ => none
abbrev remS (i : Nat) (f : EF) : SF := methS i f remK
section
variable {X : Cx} {G : Cfg} {W : WX} {e : Expr} {f : EF} {x : Str} {px apos pos : Pos} {i : Nat}
theorem es_rem {cpos : Pos} (hc : X.calm = true) (hN : X.N[i]? = some x) (hv : Vis X.env.scope x) (ha : Ev X G W e f) (hK : X.K = G.K)
    (hbase : attributeBase (.Name x px) "remove" X.env (eval (.Name x px) X.env) = eval (.Name x px) X.env := by rfl)
    (hfew : ((backTo cpos (starEach [e] X.env)).all (fun x => !x.1) && (backToKw cpos (keywordEach [] X.env)).all (fun x => x.1.isSome) && decide (([e] : List Expr).length + ([] : List Keyword).length + (if ([] : List Keyword).isEmpty then 0 else 1) < 30)) = true := by rfl)
    (hline : (apos.endLine == cpos.line) = true := by rfl) (hs : starEach [e] X.env = (false, eval e X.env) :: starEach [] X.env := by rfl) (hplain : (backTo cpos (starEach [] X.env)).any (·.1) = false := by rfl)
    (hd : (x == ("__debug__" : Str)) = false := by decide) (hcd : (x == ("__classdict__" : Str)) = false := by decide)
    (hsw : swapsWith (.Call (.Attribute (.Name x px) "remove" apos) [e] [] cpos) none pos.line X.env = pure false := by rfl) :
    Es X G W (.Expr (.Call (.Attribute (.Name x px) "remove" apos) [e] [] cpos) pos) (remS i f) :=
  PS.imp (ps_expr (pe_remX (W := fun _ _ _ _ => False) hc (fun _ _ ⟨_, _, _, _, _, _, _, _, _, _, _, _, _, _, _, _, w⟩ => False.elim w) (pe_var hN hv hd hcd) ha hbase hfew hline hs hplain) hsw) fun E σ H q => by
    rw [hK]
    obtain ⟨M, r, h, δ, b, q⟩ := q
    unfold remS methS at q
    split at q
    · rename_i hw
      obtain ⟨v, e1, ty⟩ := recv_list b hw
      refine ⟨v, e1, ty, M, r, h, δ, b, (AfterS.expr (rl := rV G.J) b q).more fun w H1 ⟨d, M1, r1, h1, s1, b1, rv, q1⟩ => ?_⟩
      split at q1
      · rename_i ds z
        split at q1
        · rename_i es y
          obtain ⟨a, vs, e2, q2, t, l, wr⟩ := b1.wrS z
          rw [e1] at e2; cases e2
          unfold remK at y
          split at y
          · rename_i ns k en
            split at y
            · rename_i hk
              cases y
              have ed := intsD_of en
              subst ed
              rw [reps_intV t] at q2
              have rw' : w = .int k := rv
              refine ⟨a, ns, k, rfl, rw', q2, fun _ => q1.nxt (wr _ _ (intV_reps _) ?_), fun z => absurd hk z⟩
              have := List.length_erase_le (a := k) (l := ns)
              rw [List.length_map] at l ⊢
              omega
            · cases y
          · cases y
        · exact q1.elim
      · exact q1.elim
    · exact q.elim
end
end LP
/-! LpZe: sum, min, max. -/
namespace LP
open PySem PySem.Spec PyProof.Rows L2
def sumK (ds : List D) (δ : DE) (h : Bx) : R D := match ds with
  | [d] => match lstOf δ h d with
    | some es => match intsD es with
      | some ns => .ok (.int ns.sum) h
      | none => .bad
    | none => .bad
  | _ => .bad
def minK (ds : List D) (δ : DE) (h : Bx) : R D := match ds with
  | [.int i, .int j] => .ok (.int (if j < i then j else i)) h
  | [d] => match lstOf δ h d with
    | some es => match intsD es with
      | some ns => match ns.min? with
        | some m => .ok (.int m) h
        | none => .bad
      | none => .bad
    | none => .bad
  | _ => .bad
def maxK (ds : List D) (δ : DE) (h : Bx) : R D := match ds with
  | [.int i, .int j] => .ok (.int (if j > i then j else i)) h
  | [d] => match lstOf δ h d with
    | some es => match intsD es with
      | some ns => match ns.max? with
        | some m => .ok (.int m) h
        | none => .bad
      | none => .bad
    | none => .bad
  | _ => .bad
abbrev rMinA (K : PySem.W.Frag) : List V → Hp → VK → Prop := fun xs H Q => (∃ i j, xs = [.int i, .int j] ∧ Q (.int (if j < i then j else i)) H) ∨ rMin K xs H Q
abbrev rMaxA (K : PySem.W.Frag) : List V → Hp → VK → Prop := fun xs H Q => (∃ i j, xs = [.int i, .int j] ∧ Q (.int (if j > i then j else i)) H) ∨ rMax K xs H Q
section
variable {X : Cx} {G : Cfg} {W : WX} {δ : DE} {h : Bx}
theorem call_minA (hc : X.calm = true) : CallR X (.builtin "min") (rMinA X.K) := CallR.or (call_min2 hc) (cr_min hc)
theorem call_maxA (hc : X.calm = true) : CallR X (.builtin "max") (rMaxA X.K) := CallR.or (call_max2 hc) (cr_max hc)
theorem sumK_ok : CallK G W (rSum G.K) sumK := by
  intro σ δ M r h H vs ds Q b rv q
  unfold sumK at q
  split at q
  · obtain ⟨v, rfl, e⟩ := one_rep rv
    split at q
    · rename_i es z
      split at q
      · rename_i ns y
        obtain ⟨a, us, rfl, hs, t, l⟩ := b.lst e z
        rw [intsD_of y] at t
        rw [reps_intV t] at hs
        exact ⟨a, ns, rfl, hs, q.now b rfl⟩
      · exact q.elim
    · exact q.elim
  · exact q.elim
theorem minK_ok : CallK G W (rMinA G.K) minK := by
  intro σ δ M r h H vs ds Q b rv q
  unfold minK at q
  split at q
  · obtain ⟨v, v2, rfl, e1, e2⟩ := two_rep rv
    cases e1
    cases e2
    exact .inl ⟨_, _, rfl, q.now b rfl⟩
  · obtain ⟨v, rfl, e⟩ := one_rep rv
    split at q
    · rename_i es z
      split at q
      · rename_i ns y
        split at q
        · rename_i m em
          obtain ⟨a, us, rfl, hs, t, l⟩ := b.lst e z
          rw [intsD_of y] at t
          rw [reps_intV t] at hs
          obtain ⟨m1, m2⟩ := List.min?_eq_some_iff.mp em
          refine .inr ⟨a, ns, rfl, hs, List.length_pos_of_mem m1, fun k k1 k2 => ?_⟩
          have : k = m := Int.le_antisymm (k2 m m1) (m2 k k1)
          subst this
          exact q.now b rfl
        · exact q.elim
      · exact q.elim
    · exact q.elim
  · exact q.elim
theorem maxK_ok : CallK G W (rMaxA G.K) maxK := by
  intro σ δ M r h H vs ds Q b rv q
  unfold maxK at q
  split at q
  · obtain ⟨v, v2, rfl, e1, e2⟩ := two_rep rv
    cases e1
    cases e2
    exact .inl ⟨_, _, rfl, q.now b rfl⟩
  · obtain ⟨v, rfl, e⟩ := one_rep rv
    split at q
    · rename_i es z
      split at q
      · rename_i ns y
        split at q
        · rename_i m em
          obtain ⟨a, us, rfl, hs, t, l⟩ := b.lst e z
          rw [intsD_of y] at t
          rw [reps_intV t] at hs
          obtain ⟨m1, m2⟩ := List.max?_eq_some_iff.mp em
          refine .inr ⟨a, ns, rfl, hs, List.length_pos_of_mem m1, fun k k1 k2 => ?_⟩
          have : k = m := Int.le_antisymm (m2 k k1) (k2 m m1)
          subst this
          exact q.now b rfl
        · exact q.elim
      · exact q.elim
    · exact q.elim
  · exact q.elim
@[simp] theorem minK_two {i j : Int} : minK [.int i, .int j] δ h = .ok (.int (if j < i then j else i)) h := pr rfl
@[simp] theorem maxK_two {i j : Int} : maxK [.int i, .int j] δ h = .ok (.int (if j > i then j else i)) h := pr rfl
@[simp] theorem sumK_one {d : D} : sumK [d] δ h = (match lstOf δ h d with
    | some es => match intsD es with
      | some ns => .ok (.int ns.sum) h
      | none => .bad
    | none => .bad) := pr rfl
theorem intsD_map : ∀ {ns : List Int}, intsD (ns.map D.int) = some ns
  | [] => rfl
  | n :: ns => by show (intsD (ns.map D.int)).map (n :: ·) = _; rw [intsD_map]; rfl
end
end LP
/-! LpDa: dicts with keys that are flat tuples, made by a comprehension. -/
namespace LP
open PySem PySem.Spec PyProof.Rows L2
theorem d_dictSetT {X : Cx} {pins : List (Addr × Obj)} {σ : L2.St} {H : Hp} {s : Shared} {E : Value → Shared → Prop} {D b : Addr} {kvs : List (List L2.Key × V)} {k : List L2.Key} {v : V} {r : Value} {Q : Unit → Shared → Prop} (hu : X.A.units < cLine)
    (I : Inv X pins σ H s) (e : H D = some (.dT kvs)) (eb : H b = some (.tup (k.map kV))) (l : kvs.length < sizeLine) (rv : RelV v r) (h : ∀ s', Inv X pins σ (upd H D (.dT (putK kvs k v))) s' → Q () s') :
    wpAny (model X.prog X.w) X.A (dictSet D (.ref b) r) Q E s := by
  obtain ⟨z, hd, xs, rel, dd⟩ := dt_of I.hok e
  have hz : xs.length ≤ sizeLine := by rw [← Paired.length rel]; exact z
  have hl : (putK kvs k v).length ≤ sizeLine := by have := length_putK kvs k v; omega
  refine wpAny_dictSet_heap (hsz := hz) (show (tupleKind (mixKind X.prog X.w)).room X.A from hu) (key_of I.hok eb) dd fun h' dd' hs => h _ ?_
  obtain ⟨q, es, ep, hq, h2, h3, h4, _, h5⟩ := dd'
  refine d_write I (by rw [e]; exact True.intro) hs ⟨q, hq⟩ ⟨hl, hd, _, (rel.put k eb rv).keeps fun c ys ec => ?_, q, es, ep, hq, h2, h3, h4, h5⟩
  rw [upd_ne (ne_of ec e (fun z => nomatch z))]
  exact ec
/-- {k: v for ..}, keys flat tuples -/
def tDcT (wi : TI) (g : TG) (tt : TT) (tk tv : TE) (vs : List Nat) : TE := fun σ H Q => wi σ H fun J H1 => ∀ D, H1 D = none → ∃ W : Nat → Nat → Hp → Prop, (∃ m, W 0 m (upd H1 D (.dT []))) ∧ ∀ i m H, W i m H →
  (J.stop i H ∧ Q (.ref D) H) ∨ (J.go i H ∧ ∃ Nx : Hp → Prop, (∀ H', Nx H' → ∃ m', m' < m ∧ W (i + 1) m' H') ∧ ∀ x H', J.yld i H x H' → g x (wipe σ vs) H' fun σ2 H2 => wipe σ2 vs = wipe σ vs ∧ tt σ2 H2 fun b H3 =>
    if b = true then tk σ2 H3 fun y H4 => tv σ2 H4 fun z H5 => ∃ b kvs k, y = .ref b ∧ H5 D = some (.dT kvs) ∧ H5 b = some (.tup (k.map kV)) ∧ kvs.length < sizeLine ∧ Nx (upd H5 D (.dT (putK kvs k z))) else Nx H3)
section
variable {X : Cx} {pins : List (Addr × Obj)} {σ : L2.St} {H H3 : Hp} {s s3 : Shared} {scope : Scope} {fp : List Addr}
variable {kx vx tg iter : Expr} {ifs : List Expr} {own : List (Str × Nat)} {pos : Pos} {wi : TI} {g : TG} {tt : TT} {tk tv : TE} {Q : VK}
structure InnerD (X : Cx) (pins : List (Addr × Obj)) (σ : L2.St) (scope : Scope) (tg kx vx : Expr) (ifs : List Expr) (g : TG) (tt : TT) (tk tv : TE) : Prop where
  of : ∀ (s : Shared) (H : Hp) (C : Addr) (cl : List (Str × Addr)) (fp : List Addr), Inv X pins σ H s → (∀ b ∈ fp, FpOk X pins H b ∧ b < s.heap.objs.size) →
    PG (X.blk s H scope (compEnvC scope cl C X.env) fp) tg g ∧ PTs (X.blk s H scope (compEnvC scope cl C X.env) fp) ifs tt ∧ PE (X.blk s H scope (compEnvC scope cl C X.env) fp) kx tk ∧ PE (X.blk s H scope (compEnvC scope cl C X.env) fp) vx tv
theorem dcT_run (hu : X.A.units < cLine) (hc : X.calm = true) (hN : X.N.Nodup) (I : Inv X pins σ H s) (hi : PI X tg iter wi) (ok : BlkOk X.N X.env.scope scope own) (inner : InnerD X pins σ scope tg kx vx ifs g tt tk tv) (hs : ∀ x, foldedSetIterable iter X.env x = pure x)
    (q : tDcT wi g tt tk tv (own.map (·.2)) σ H Q) : wpAny (model X.prog X.w) X.A (eval (.DictComp kx vx [⟨tg, iter, ifs, 0⟩] scope pos) X.env) (EP X pins σ Q) X.xe s := by
  have clo : ∀ y ∈ scope.names, y.2 = .free → ∃ c, X.env.cells.lookup y.1 = some c := by
    intro y hy e
    exact (ok.free y hy e).elim (fun k => I.ok.has _ (.inl k)) (fun k => I.ok.has _ (.inr k))
  rw [arm_eval_DictComp]
  refine wpAny_comprehension_free rfl hs (closure_ok clo) ok.kind (fun y hy e => (ok.uniq y hy).trans (by rw [e])) (thn (hi.run pins s σ H _ I q) fun _ s1 first => thn first fun _ s2 w => ?_)
  obtain ⟨it, fp, tn, J, H2, rfl, I2, T, st2, f2, q2⟩ := w
  refine wpAny_newObj_type (newEnv_comp ?_)
  -- the new list, at D
  obtain ⟨W, ⟨m0, w0⟩, turn⟩ := q2 s2.heap.objs.size (I2.hok.fresh (Nat.le_refl _))
  obtain ⟨D, eD⟩ : ∃ D, D = s2.heap.objs.size := ⟨_, rfl⟩
  rw [← eD] at turn w0 ⊢
  obtain ⟨sL, eL⟩ : ∃ sL : Shared, sL = { s2 with heap := s2.heap.push { cls := .type "dict", data := .dict #[] } } := ⟨_, rfl⟩
  obtain ⟨HL, eH⟩ : ∃ HL : Hp, HL = upd H2 D (.dT []) := ⟨_, rfl⟩
  rw [← eH] at w0
  have IL : Inv X pins σ HL sL := by
    rw [eL, eH, eD]
    exact I2.laid (t' := s2.toks) (fun b o e => Heap.get?_push_of_some _ e) (Nat.le_refl _) (dt_empty s2.heap I2.big)
  have up : ∀ b o, s2.heap.get? b = some o → sL.heap.get? b = some o := by
    rw [eL]
    exact fun b o e => Heap.get?_push_of_some _ e
  have lt2 : ∀ b ∈ fp, b < s2.heap.objs.size := by
    intro b hb
    obtain ⟨o, e, _⟩ := T.obj _ _ st2 b hb
    exact Heap.lt_size e
  have fL : ∀ b ∈ fp, FpOk X pins HL b ∧ b < sL.heap.objs.size := by
    intro b hb
    obtain ⟨y0, y⟩ := f2 b hb
    obtain ⟨o, e, _⟩ := T.obj _ _ st2 b hb
    refine ⟨⟨?_, y⟩, Heap.lt_size (up b o e)⟩
    rw [eH, upd_ne (fun z => Nat.lt_irrefl _ (by have := lt2 b hb; rw [z, eD] at this; exact this))]
    exact y0
  have stL : tn 0 sL.heap := T.keep _ _ _ st2 fun b _ o e => up b o e
  have IB := block_start IL ok hN fL
  obtain ⟨pg, pt, pk, pe⟩ := inner.of sL HL sL.heap.objs.size (cellsFrom (sL.heap.objs.size + 1) scope.names (cloFrom X.env.cells scope.names [])) fp IL fL
  rw [← eL]
  show codeAny _ _ (.compStart (.DictComp kx vx [⟨tg, iter, ifs, 0⟩] scope pos) 0 (.ref it) (.ref D) (compEnvC scope (cellsFrom (sL.heap.objs.size + 1) scope.names (cloFrom X.env.cells scope.names [])) sL.heap.objs.size X.env)) (compPost (model X.prog X.w) X.A X.xe none (EP X pins σ Q) (.ref D) sL.heap.objs.size) { sL with heap := pushCells (sL.heap.push { cls := .type "dict", data := .dict #[] }) scope.names }
  obtain ⟨ce, ec⟩ : ∃ ce, ce = compEnvC scope (cellsFrom (sL.heap.objs.size + 1) scope.names (cloFrom X.env.cells scope.names [])) sL.heap.objs.size X.env := ⟨_, rfl⟩
  obtain ⟨sB, eB⟩ : ∃ sB : Shared, sB = { sL with heap := pushCells (sL.heap.push { cls := .type "dict", data := .dict #[] }) scope.names } := ⟨_, rfl⟩
  have stB : tn 0 sB.heap := T.keep _ _ _ stL fun b _ o e => by
    rw [eB]
    exact pushCells_keeps _ _ _ _ (Heap.get?_push_of_some _ e)
  have locC : ce.locals = sL.heap.objs.size := by rw [ec]; rfl
  rw [← ec, ← eB] at IB
  rw [← ec] at pg pt pk pe
  rw [← ec, ← eB]
  have steady : ∀ {σ' : L2.St} {H' : Hp} {s' : Shared}, Inv (X.blk sL HL scope ce fp) [] σ' H' s' → (∀ b ∈ fp, H' b = none) → ∀ b ∈ fp, FpOk (X.blk sL HL scope ce fp) [] H' b := by
    intro σ' H' s' I' n b hb
    exact ⟨n b hb, (I'.ok.exf b hb).1, I'.ok.exfs b hb, .inl hb, (I'.ok.exf b hb).2, fun p hp => absurd (show p ∈ ([] : List (Addr × Obj)) ++ [] from hp) (by simp)⟩
  have all_ : codeAny (model X.prog X.w) X.A (.compLoop (.DictComp kx vx [⟨tg, iter, ifs, 0⟩] scope pos) 0 (.ref it) (.ref D) ce) (compPost (model X.prog X.w) X.A X.xe none (EP X pins σ Q) (.ref D) sL.heap.objs.size) sB := by
    refine compLoop_anyD (fun n s' => ∃ i H', Inv (X.blk sL HL scope ce fp) [] (wipe σ (own.map (·.2))) H' s' ∧ tn i s'.heap ∧ (∀ b ∈ fp, H' b = none) ∧ W i n H') (fun n s5 st => ?_) m0 ⟨0, HL, IB, stB, fun b hb => (fL b hb).1.1, w0⟩
    obtain ⟨i, H5, I5, st5, n5, w5⟩ := st
    rcases turn i n H5 w5 with ⟨stop, fin⟩ | ⟨go, Nx, next, step⟩
    · -- the end
      refine thnF (T.done (X.blk sL HL scope ce fp) rfl rfl rfl hc i [] s5 _ H5 (fun _ _ => False) I5 (steady I5 n5) st5 stop) fun r s6 ⟨er, I6⟩ => ?_
      subst er
      have I7 : Inv X pins σ H5 s6 := blk_back IL fL (by rw [← ec]; exact I6)
      obtain ⟨m, nsC, _⟩ := id I6.loc
      have nsC : s6.heap.Ns ce.locals m := nsC
      have freeC : H5 ce.locals = none := I6.free
      rw [locC] at nsC freeC
      obtain ⟨k0, k1, k2, k3, k4, k5⟩ := IL.fpOk (Nat.le_refl _) freeC
      refine ⟨m, nsC, fun hp sb => ⟨.ref D, H5, ?_, rfl, fin⟩⟩
      exact I7.turned (t' := s6.toks) (fun b o hb e => (sb.2 b hb).trans e) k0 k1 k3 k4 k5
    · -- one turn
      refine thnF (T.item (X.blk sL HL scope ce fp) rfl rfl rfl hc i [] s5 _ H5 (fun _ _ => False) I5 (steady I5 n5) st5 go) fun r s6 ⟨u, er, h6⟩ => ?_
      subst er
      refine thnF h6 fun _ s7 ⟨x, H7, I7, r7, y7, st7, n7⟩ => ?_
      have P7 := I7.pinned (steady I7 n7) (T.obj _ _ st7)
      refine thnF (pg.run _ s7 _ H7 x u _ P7 r7 (step x H7 y7)) fun _ s8 ⟨σ8, H8, I8, w8, q8⟩ => thnF (pt.run _ s8 σ8 H8 _ I8 q8) fun b s9 ⟨H9, I9, q9⟩ => ?_
      have again : ∀ {s' : Shared} {H' : Hp}, Inv (X.blk sL HL scope ce fp) ([] ++ pinsAt fp s7.heap) σ8 H' s' → Nx H' → ∃ m, m < n ∧ ∃ i H', Inv (X.blk sL HL scope ce fp) [] (wipe σ (own.map (·.2))) H' s' ∧ tn i s'.heap ∧ (∀ b ∈ fp, H' b = none) ∧ W i m H' := by
        intro s' H' I' nx
        obtain ⟨m', lt, w'⟩ := next H' nx
        have pn : ∀ b ∈ fp, ∀ o, s7.heap.get? b = some o → s'.heap.get? b = some o ∧ H' b = none := by
          intro b hb o e
          obtain ⟨z1, z2, _⟩ := I'.pin (b, o) (List.mem_append_right _ (List.mem_append_right _ (mem_pinsAt hb e)))
          exact ⟨z1, z2⟩
        refine ⟨m', lt, i + 1, H', (I'.unpinned (pins := [])).weak ?_ fun j v e => ?_, T.keep _ _ _ st7 fun b hb o e => (pn b hb o e).1, fun b hb => ?_, w'⟩
        · rw [← w8, wipe_length]
        · rw [← w8] at e
          exact (wipe_some e).1
        · obtain ⟨o, e, _⟩ := T.obj _ _ st7 b hb
          exact (pn b hb o e).2
      cases b with
      | true =>
        simp only [if_true] at q9 ⊢
        refine thnF (pk.run _ s9 σ8 H9 _ I9 q9) fun z s10 ⟨yk, H10, I10, r10, q10⟩ => ?_
        refine thnF (pe.run _ s10 σ8 H10 _ I10 q10) fun z2 s11 ⟨yv, H11, I11, r11, b, kvs, k, ek, a1, a2, a3, nx⟩ => ?_
        subst ek
        cases (show z = Value.ref b from r10)
        exact d_dictSetT (X := X.blk sL HL scope ce fp) hu I11 a1 a2 a3 r11 fun s12 I12 => again I12 nx
      | false =>
        simp only [Bool.false_eq_true, if_false] at q9 ⊢
        exact again I9 q9
  exact codeAny_compStart_dict all_ (T.self X.A 0 _ _ _ stB all_)
end
end LP
/-! LpDb: dict comprehensions as data. -/
namespace LP
open PySem PySem.Spec PyProof.Rows L2
section
variable {X : Cx} {G : Cfg} {W : WX} {σ σ' : L2.St} {δ δ' : DE} {M M' : Imm} {r r' : List Addr} {h h' : Bx} {H H' : Hp} {p : Addr} {o o' : HO}
/-- an object that nobody knows of is written -/
theorem BS.wroteO (b : BS G M r h δ σ H) {a : Addr} (m : M a = none) (n : a ∉ r) (f : Free G.H0 a) (no : NoOwn δ σ a) (w : Wr o) (q : H a = some o) : BS G M r h δ σ (upd H a o') := by
  have ne : ∀ {c u}, M c = some u → c ≠ a := fun e z => by rw [z, m] at e; cases e
  refine ⟨fun c u e => ⟨(b.mok c u e).1, by rw [upd_ne (ne e)]; exact (b.mok c u e).2⟩, ⟨b.bx.len, b.bx.nd, fun k c ds e1 e2 => ?_⟩, fun p hp => ?_, b.len, fun i s x e1 e2 => ?_, b.sep, b.le, b.pre, b.new, fun c u e t nr => ?_, b.nf⟩
  · obtain ⟨m', z, vs, q', t⟩ := b.bx.at_ k c ds e1 e2
    have hc : c ≠ a := fun y => by
      subst y
      exact n (List.mem_of_getElem? e1)
    exact ⟨m', z, vs, by rw [upd_ne hc]; exact q', t⟩
  · obtain ⟨ps, e1, e2, e3⟩ := b.tb p hp
    refine ⟨ps, by rw [upd_ne (fun z => by rw [z, q] at e1; exact w.ne_tbl (Option.some.inj e1))]; exact e1, e2, fun pos cv hc => ?_⟩
    obtain ⟨c, z1, z2⟩ := e3 pos cv hc
    refine ⟨c, z1, ?_⟩
    rw [upd_ne (fun z => by rw [z, q] at z2; exact w.ne_ext (Option.some.inj z2))]
    exact z2
  · cases s with
    | no => trivial
    | v d => exact b.sl i _ x e1 e2
    | own ds =>
      obtain ⟨c, vs, z, m', n', f', l', q', t⟩ := b.sl i _ x e1 e2
      refine ⟨c, vs, z, m', n', f', l', ?_, t⟩
      rw [upd_ne (fun y => no i _ e1 rfl (by rw [e2, z, y]))]
      exact q'
    | ownD ds =>
      obtain ⟨c, vs, z, m', n', f', l', q', t⟩ := b.sl i _ x e1 e2
      refine ⟨c, vs, z, m', n', f', l', ?_, t⟩
      rw [upd_ne (fun y => no i _ e1 rfl (by rw [e2, z, y]))]
      exact q'
  · rw [upd_ne (fun z => by
      subst z
      obtain ⟨ps, y⟩ := f u e
      exact t ps y)]
    exact b.keep c u e t nr
/-- a new object, known to nobody -/
theorem BS.new_obj (b : BS G M r h δ σ H) (hp : H p = none) : BS G M r h δ σ (upd H p o) := by
  refine ⟨fun c u e => ⟨(b.mok c u e).1, upd_new hp (b.mok c u e).2⟩, ⟨b.bx.len, b.bx.nd, fun k c ds e1 e2 => ?_⟩, b.tb.ext fun a u e => upd_new hp e, b.len, fun i s x e1 e2 => ?_, b.sep, b.le, b.pre, b.new, fun c u e t nr => upd_new hp (b.keep c u e t nr), b.nf⟩
  · obtain ⟨m', z, vs, q', t⟩ := b.bx.at_ k c ds e1 e2
    exact ⟨m', z, vs, upd_new hp q', t⟩
  · exact (b.sl i s x e1 e2).mono Le.refl List.prefix_rfl fun a vs _ m q n => ⟨m, n, upd_new hp q⟩
/-- an object that nobody knows of is left out -/
theorem BS.eraseO (b : BS G M r h δ σ H) {a : Addr} (m : M a = none) (n : a ∉ r) (f : Free G.H0 a) (no : NoOwn δ σ a) (w : Wr o) (q : H a = some o) : BS G M r h δ σ (fun c => if c = a then none else H c) := by
  have ne : ∀ {c u}, M c = some u → c ≠ a := fun e z => by rw [z, m] at e; cases e
  have at_ : ∀ {c : Addr} {u : HO}, c ≠ a → H c = some u → (fun c => if c = a then none else H c) c = some u := fun n e => by
    show (if _ = a then none else H _) = _
    rw [if_neg n]; exact e
  refine ⟨fun c u e => ⟨(b.mok c u e).1, at_ (ne e) (b.mok c u e).2⟩, ⟨b.bx.len, b.bx.nd, fun k c ds e1 e2 => ?_⟩, fun p hp => ?_, b.len, fun i s x e1 e2 => ?_, b.sep, b.le, b.pre, b.new, fun c u e t nr => ?_, b.nf⟩
  · obtain ⟨m', z, vs, q', t⟩ := b.bx.at_ k c ds e1 e2
    refine ⟨m', z, vs, at_ (fun y => ?_) q', t⟩
    subst y
    exact n (List.mem_of_getElem? e1)
  · obtain ⟨ps, e1, e2, e3⟩ := b.tb p hp
    refine ⟨ps, at_ (fun z => by rw [z, q] at e1; exact w.ne_tbl (Option.some.inj e1)) e1, e2, fun pos cv hc => ?_⟩
    obtain ⟨c, z1, z2⟩ := e3 pos cv hc
    exact ⟨c, z1, at_ (fun z => by rw [z, q] at z2; exact w.ne_ext (Option.some.inj z2)) z2⟩
  · cases s with
    | no => trivial
    | v d => exact b.sl i _ x e1 e2
    | own ds =>
      obtain ⟨c, vs, z, m', n', f', l', q', t⟩ := b.sl i _ x e1 e2
      exact ⟨c, vs, z, m', n', f', l', at_ (fun y => no i _ e1 rfl (by rw [e2, z, y])) q', t⟩
    | ownD ds =>
      obtain ⟨c, vs, z, m', n', f', l', q', t⟩ := b.sl i _ x e1 e2
      exact ⟨c, vs, z, m', n', f', l', at_ (fun y => no i _ e1 rfl (by rw [e2, z, y])) q', t⟩
  · refine at_ (fun z => ?_) (b.keep c u e t nr)
    subst z
    obtain ⟨ps, y⟩ := f u e
    exact t ps y
end
/-! ### entries -/
def putD (kvs : List (List L2.Key × D)) (k : List L2.Key) (v : D) : List (List L2.Key × D) :=
  if (kvs.any fun kv => decide (kv.1 = k)) = true then kvs.map (fun kv => if kv.1 = k then (kv.1, v) else kv) else kvs ++ [(k, v)]
def RepKV (J : Jd) (M : Imm) (r : List Addr) (acc : List (List L2.Key × D)) (kvs : List (List L2.Key × V)) : Prop := kvs.map Prod.fst = acc.map Prod.fst ∧ Reps J M r (acc.map Prod.snd) (kvs.map Prod.snd)
section
variable {J : Jd} {M M' : Imm} {r r' : List Addr}
theorem RepKV.mono (hM : Le M M') (hr : r <+: r') {acc : List (List L2.Key × D)} {kvs : List (List L2.Key × V)} (q : RepKV J M r acc kvs) : RepKV J M' r' acc kvs := ⟨q.1, Reps.mono hM hr _ _ q.2⟩
theorem RepKV.any {k : List L2.Key} : ∀ {acc : List (List L2.Key × D)} {kvs : List (List L2.Key × V)}, kvs.map Prod.fst = acc.map Prod.fst → (kvs.any fun kv => decide (kv.1 = k)) = acc.any fun kv => decide (kv.1 = k)
  | [], [], _ => rfl
  | [], _ :: _, e => by simp at e
  | _ :: _, [], e => by simp at e
  | x :: xs, y :: ys, e => by
    rw [List.map_cons, List.map_cons] at e
    injection e with e1 e2
    rw [List.any_cons, List.any_cons, RepKV.any e2, e1]
theorem RepKV.repl {k : List L2.Key} {d : D} {v : V} (rv : Rep J M r d v) : ∀ {acc : List (List L2.Key × D)} {kvs : List (List L2.Key × V)}, RepKV J M r acc kvs →
    RepKV J M r (acc.map fun kv => if kv.1 = k then (kv.1, d) else kv) (kvs.map fun kv => if kv.1 = k then (kv.1, v) else kv)
  | [], [], _ => ⟨rfl, rfl⟩
  | [], _ :: _, ⟨e, _⟩ => by simp at e
  | _ :: _, [], ⟨e, _⟩ => by simp at e
  | x :: xs, y :: ys, ⟨e, t⟩ => by
    rw [List.map_cons, List.map_cons] at e t
    injection e with e1 e2
    obtain ⟨w, wt, e3, h1, h2⟩ := t
    injection e3 with e3 e4
    obtain ⟨i1, i2⟩ := RepKV.repl (k := k) rv (acc := xs) (kvs := ys) ⟨e2, by rw [e4]; exact h2⟩
    simp only [List.map_cons]
    by_cases z : x.1 = k
    · rw [if_pos z, if_pos (e1.trans z)]
      refine ⟨by simp only [List.map_cons]; rw [i1, e1], ?_⟩
      simp only [List.map_cons]
      exact ⟨_, _, rfl, rv, i2⟩
    · rw [if_neg z, if_neg (fun y => z (e1.symm.trans y))]
      refine ⟨by simp only [List.map_cons]; rw [i1, e1], ?_⟩
      simp only [List.map_cons]
      exact ⟨_, _, rfl, by rw [e3]; exact h1, i2⟩
theorem RepKV.put {k : List L2.Key} {d : D} {v : V} (rv : Rep J M r d v) {acc : List (List L2.Key × D)} {kvs : List (List L2.Key × V)} (q : RepKV J M r acc kvs) : RepKV J M r (putD acc k d) (putK kvs k v) := by
  unfold putD putK
  rw [RepKV.any q.1]
  by_cases z : (acc.any fun kv => decide (kv.1 = k)) = true
  · rw [if_pos z, if_pos z]; exact q.repl rv
  · rw [if_neg z, if_neg z]
    refine ⟨by simp only [List.map_append, List.map_cons, List.map_nil]; rw [q.1], ?_⟩
    simp only [List.map_append, List.map_cons, List.map_nil]
    exact q.2.append (Reps.one rv)
theorem RepKV.length {acc : List (List L2.Key × D)} {kvs : List (List L2.Key × V)} (q : RepKV J M r acc kvs) : kvs.length = acc.length := by
  have := congrArg List.length q.1
  simpa using this
end
theorem length_putD (kvs : List (List L2.Key × D)) (k : List L2.Key) (v : D) : (putD kvs k v).length ≤ kvs.length + 1 := by
  unfold putD
  split
  · rw [List.length_map]; omega
  · rw [List.length_append]; simp
/-! ### the comprehension -/
def compD (u : D → DE → Option DE) (tf : DE → Bx → R Bool) (kf vf : EF) (δ : DE) : List D → Bx → List (List L2.Key × D) → R (List (List L2.Key × D))
  | [], h, acc => .ok acc h
  | d :: ds, h, acc => match u d δ with
    | none => .bad
    | some δ1 => (quiet (tf δ1 h)).bind fun b h1 => if b = true then (quiet (kf δ1 h1)).bind fun y h2 => match tkOf y with
        | none => .bad
        | some k => (quiet (vf δ1 h2)).bind fun z h3 => if isV z = true then compD u tf kf vf δ ds h3 (putD acc k z) else .bad
      else compD u tf kf vf δ ds h1 acc
theorem compD_exc {u : D → DE → Option DE} {tf : DE → Bx → R Bool} {kf vf : EF} {δ : DE} {c : Str} {fs : List (Str × D)} {h' : Bx} : ∀ (ds : List D) (h : Bx) (acc : List (List L2.Key × D)), compD u tf kf vf δ ds h acc ≠ .exc c fs h'
  | [], h, acc => fun e => nomatch e
  | d :: ds, h, acc => by
    unfold compD
    cases u d δ with
    | none => exact fun e => nomatch e
    | some δ1 =>
      simp only
      cases tf δ1 h with
      | exc _ _ _ => exact fun e => nomatch e
      | bad => exact fun e => nomatch e
      | ok b h1 =>
        simp only [quiet, R.bind_ok]
        split
        · cases kf δ1 h1 with
          | exc _ _ _ => exact fun e => nomatch e
          | bad => exact fun e => nomatch e
          | ok y h2 =>
            simp only [R.bind_ok]
            cases tkOf y with
            | none => exact fun e => nomatch e
            | some k =>
              simp only
              cases vf δ1 h2 with
              | exc _ _ _ => exact fun e => nomatch e
              | bad => exact fun e => nomatch e
              | ok z h3 =>
                simp only [R.bind_ok]
                split
                · exact compD_exc ds h3 _
                · exact fun e => nomatch e
        · exact compD_exc ds h1 _
def dctF (gi : DE → Bx → R (List D)) (vs : List Nat) (u : D → DE → Option DE) (tf : DE → Bx → R Bool) (kf vf : EF) : EF := fun δ h => (gi δ h).bind fun ds h1 => if ds.length ≤ big then (compD u tf kf vf (wipeD δ vs) ds h1 []).bind fun acc h2 => .ok (.dct (acc.map Prod.fst) (acc.map Prod.snd)) h2 else .bad
theorem dcT_it {J : It} {n : Nat} {Gd : Hp → Prop} {Y : Nat → Hp → V → Hp → Prop} (w : Walk J n Gd Y) {g : TG} {tt : TT} {tk tv : TE} {vs : List Nat} {σ : L2.St} {H1 : Hp} {Dd : Addr} {Qd : Hp → Prop} (Pv : Nat → Hp → Prop) (h0 : Pv 0 (upd H1 Dd (.dT []))) (hG : ∀ i H, i ≤ n → Pv i H → Gd H)
    (hs : ∀ i x H H', i < n → Pv i H → Y i H x H' → g x (L2.wipe σ vs) H' fun σ2 H2 => L2.wipe σ2 vs = L2.wipe σ vs ∧ tt σ2 H2 fun b H3 =>
      if b = true then tk σ2 H3 fun y H4 => tv σ2 H4 fun z H5 => ∃ b kvs k, y = .ref b ∧ H5 Dd = some (.dT kvs) ∧ H5 b = some (.tup (k.map kV)) ∧ kvs.length < sizeLine ∧ Pv (i + 1) (upd H5 Dd (.dT (putK kvs k z))) else Pv (i + 1) H3) (hd : ∀ H, Pv n H → Qd H) :
    ∃ W : Nat → Nat → Hp → Prop, (∃ m, W 0 m (upd H1 Dd (.dT []))) ∧ ∀ i m H, W i m H →
      (J.stop i H ∧ Qd H) ∨ (J.go i H ∧ ∃ Nx : Hp → Prop, (∀ H', Nx H' → ∃ m', m' < m ∧ W (i + 1) m' H') ∧ ∀ x H', J.yld i H x H' → g x (L2.wipe σ vs) H' fun σ2 H2 => L2.wipe σ2 vs = L2.wipe σ vs ∧ tt σ2 H2 fun b H3 =>
        if b = true then tk σ2 H3 fun y H4 => tv σ2 H4 fun z H5 => ∃ b kvs k, y = .ref b ∧ H5 Dd = some (.dT kvs) ∧ H5 b = some (.tup (k.map kV)) ∧ kvs.length < sizeLine ∧ Nx (upd H5 Dd (.dT (putK kvs k z))) else Nx H3) := by
  refine ⟨fun i m H => m = n - i ∧ i ≤ n ∧ Pv i H, ⟨n, by simp, Nat.zero_le _, h0⟩, ?_⟩
  rintro i m H ⟨rfl, hi, p⟩
  have q := hG i H hi p
  by_cases hlt : i < n
  · refine .inr ⟨w.goes i H hlt q, Pv (i + 1), fun H' p' => ⟨n - (i + 1), by omega, rfl, hlt, p'⟩, fun x H' y => hs i x H H' hlt p (w.yields i H x H' hlt q y)⟩
  · have e : i = n := by omega
    subst e
    exact .inl ⟨w.stops H q, hd H p⟩
def DcEnd (x : R (List (List L2.Key × D))) (P : List (List L2.Key × D) → Bx → Prop) : Prop := match x with
  | .ok ys h => P ys h
  | _ => False
section
variable {X : Cx} {G : Cfg} {W : WX} {σ : L2.St} {H : Hp}
theorem dc_of {gi : DE → Bx → R (List D)} {ts vs : List Nat} {u : D → DE → Option DE} {tf : DE → Bx → R Bool} {kf vf : EF} (hts : ∀ i ∈ ts, i ∈ vs) {Q : VK} (q : tG G W (rV G.J) (dctF gi vs u tf kf vf) σ H Q) :
    tDcT (tI G W gi) (tGt G ts u) (tG G W0 rB tf) (tG G W0 (rV G.J) kf) (tG G W0 (rV G.J) vf) vs σ H Q := by
  obtain ⟨M, r, h, δ, b, q⟩ := q
  refine ⟨M, r, h, δ, b, ?_⟩
  unfold dctF at q
  cases z : gi δ h with
  | bad => rw [z] at q; exact q.elim
  | exc c fs h1 => rw [z] at q; exact q
  | ok ds h1 =>
    rw [z] at q
    simp only [R.bind_ok] at q
    split at q
    · rename_i hz
      intro J M' r' H' st b' gd Dd hD
      obtain ⟨Gd, Y, w, gd, yd⟩ := gd
      have f0 : Free G.H0 Dd := b'.free0 hD
      have no : NoOwn (wipeD δ vs) (L2.wipe σ vs) Dd := (b'.wipe vs).noOwn hD
      have noσ : NoOwn δ σ Dd := b'.noOwn hD
      -- what holds between two turns
      let Pv : Nat → Hp → Prop := fun i H1 => ∃ M1 r1 h2 acc va, Stp M' r' H' M1 r1 H1 ∧ BS G M1 r1 h2 (wipeD δ vs) (L2.wipe σ vs) H1 ∧ H1 Dd = some (.dT va) ∧ M1 Dd = none ∧ Dd ∉ r1 ∧ RepKV G.J M1 r1 acc va ∧ acc.length ≤ i ∧
        DcEnd (compD u tf kf vf (wipeD δ vs) (ds.drop i) h2 acc) fun ys h3 => After G W σ δ (rV G.J δ σ) M r H (.ok (.dct (ys.map Prod.fst) (ys.map Prod.snd)) h3) Q
      have hst : Stp M' r' H' M' r' (upd H' Dd (.dT [])) := ⟨Le.refl, List.prefix_rfl, fun a z => .inl z, fun a o e _ _ => upd_new hD e, fun a m _ _ => m⟩
      refine dcT_it w Pv ⟨M', r', h1, [], [], hst, (b'.wipe vs).new_obj hD, upd_same, b'.fresh_M hD, b'.fresh_r hD, ⟨rfl, rfl⟩, Nat.zero_le _, ?_⟩
        (fun i H1 _ ⟨M1, r1, h2, acc, va, s1, b1, _⟩ => gd M1 r1 h2 _ _ H1 s1.le s1.pre b1) (fun i x H1 H2 hi ⟨M1, r1, h2, acc, va, s1, b1, e1, m1, n1, t1, l1, q1⟩ y => ?_) (fun H1 ⟨M1, r1, h2, acc, va, s1, b1, e1, m1, n1, t1, l1, q1⟩ => ?_)
      · rw [List.drop_zero]
        cases y : compD u tf kf vf (wipeD δ vs) ds h1 [] with
        | ok ys h3 => rw [y] at q; exact q
        | exc c fs h3 => exact (compD_exc _ _ _ y).elim
        | bad => rw [y] at q; exact q.elim
      · -- one turn
        obtain ⟨M2, d, b2, s2, e2, rp⟩ := yd i x H1 H2 M1 r1 h2 _ _ hi s1.le s1.pre b1 y
        rw [List.drop_eq_getElem_cons hi] at q1
        rw [List.getElem?_eq_getElem hi] at e2
        rw [Option.some.inj e2] at q1
        unfold compD at q1
        cases z1 : u d (wipeD δ vs) with
        | none => rw [z1] at q1; exact q1.elim
        | some δ2 =>
          rw [z1] at q1
          simp only at q1
          have nf : ∀ {Hx : Hp}, Hx Dd = some (.dT va) → IsL Hx Dd := fun e => ⟨_, e, trivial⟩
          have mD : ∀ {Ma ra Ha Mb rb Hb}, Stp Ma ra Ha Mb rb Hb → Ha Dd = some (.dT va) → Ma Dd = none → Dd ∉ ra → Hb Dd = some (.dT va) ∧ Mb Dd = none ∧ Dd ∉ rb := fun s e m n =>
            ⟨s.keep _ _ e (fun ps z => by cases z) n, s.nf _ m (nf e) n, fun z => (s.new _ z).elim n (nf e).nf⟩
          obtain ⟨e3, m3, n3⟩ := mD s2 e1 m1 n1
          refine ⟨M2, r1, h2, _, d, δ2, b2, rp, z1, fun σ2 b3 l3 k3 => ⟨?_, M2, r1, h2, δ2, b3, ?_⟩⟩
          · rw [← wipe_wipe σ vs]
            exact wipe_ext l3 fun j hj => k3 j fun z => hj (hts j z)
          · -- the test
            cases y1 : tf δ2 h2 with
            | exc c fs h3 => rw [y1] at q1; exact q1.elim
            | bad => rw [y1] at q1; exact q1.elim
            | ok bb h3 =>
              rw [y1] at q1
              simp only [quiet, R.bind_ok] at q1
              intro bv M4 r4 H4 s4 b4 ev
              cases ev
              obtain ⟨e5, m5, n5⟩ := mD s4 e3 m3 n3
              have b4w : BS G M4 r4 h3 (wipeD δ vs) (L2.wipe σ vs) H4 := b2.step s4 b4
              cases bb with
              | false =>
                simp only [Bool.false_eq_true, if_false] at q1 ⊢
                exact ⟨M4, r4, h3, acc, va, s1.trans (s2.trans s4), b4w, e5, m5, n5, t1.mono (s2.trans s4).le (s2.trans s4).pre, by omega, q1⟩
              | true =>
                simp only [if_true] at q1 ⊢
                refine ⟨M4, r4, h3, δ2, b4, ?_⟩
                -- the key
                cases y2 : kf δ2 h3 with
                | exc c fs h5 => rw [y2] at q1; exact q1.elim
                | bad => rw [y2] at q1; exact q1.elim
                | ok yk h5 =>
                  rw [y2] at q1
                  simp only [R.bind_ok] at q1
                  cases yk with
                  | tup es =>
                    cases ek : tkOf (.tup es) with
                    | none => rw [ek] at q1; exact q1.elim
                    | some k =>
                      rw [ek] at q1
                      simp only at q1
                      intro kv M6 r6 H6 s6 b6 rk
                      obtain ⟨e7, m7, n7⟩ := mD s6 e5 m5 n5
                      have b6w : BS G M6 r6 h5 (wipeD δ vs) (L2.wipe σ vs) H6 := b4w.step s6 b6
                      obtain ⟨ka, kvs', rfl, km, kt⟩ := rk
                      replace km : M6 ka = some (.tup kvs') := km.resolve_right id
                      rw [keysD_rep kt ek] at km
                      refine ⟨M6, r6, h5, δ2, b6, ?_⟩
                      -- the value
                      cases y3 : vf δ2 h5 with
                      | exc c fs h7 => rw [y3] at q1; exact q1.elim
                      | bad => rw [y3] at q1; exact q1.elim
                      | ok yv h7 =>
                        rw [y3] at q1
                        simp only [R.bind_ok] at q1
                        by_cases hv : isV yv = true
                        · rw [if_pos hv] at q1
                          intro vv M8 r8 H8 s8 b8 rv
                          obtain ⟨e9, m9, n9⟩ := mD s8 e7 m7 n7
                          have b8w : BS G M8 r8 h7 (wipeD δ vs) (L2.wipe σ vs) H8 := b6w.step s8 b8
                          have st8 := s2.trans (s4.trans (s6.trans s8))
                          have rv' : Rep G.J M8 r8 yv vv := by
                            cases yv with
                            | loc i => cases hv
                            | _ => exact rv
                          have la : va.length = acc.length := t1.length
                          have hl : acc.length < ds.length := by omega
                          have hk : H8 ka = some (.tup (k.map kV)) := (b8.mok _ _ (s8.le _ _ km)).2
                          refine ⟨ka, va, k, rfl, e9, hk, by rw [la]; exact big_lt (by omega), M8, r8, h7, putD acc k yv, putK va k vv, ?_, b8w.wroteO (o := .dT va) m9 n9 f0 no trivial e9, upd_same, m9, n9, (t1.mono st8.le st8.pre).put rv', by have := length_putD acc k yv; omega, q1⟩
                          have s0 := s1.trans st8
                          refine ⟨s0.le, s0.pre, s0.new, fun a o e t n => ?_, s0.nf⟩
                          rw [upd_ne (ne_of_none e hD)]
                          exact s0.keep a o e t n
                        · rw [if_neg hv] at q1
                          exact q1.elim
                  | _ => exact q1.elim
      · -- behind all
        rw [List.drop_length] at q1
        have q1 : After G W σ δ (rV G.J δ σ) M r H (.ok (.dct (acc.map Prod.fst) (acc.map Prod.snd)) h2) Q := q1
        have s2 := st.trans s1
        have b2 := (b'.step s1 b1).eraseO (o := .dT va) m1 n1 f0 noσ trivial e1
        have hE : (fun c => if c = Dd then none else H1 c) Dd = none := if_pos rfl
        have back : upd (fun c => if c = Dd then none else H1 c) Dd (.dT va) = H1 := by
          funext c
          unfold upd
          by_cases hc : c = Dd
          · subst hc; rw [if_pos rfl, e1]
          · rw [if_neg hc]; exact if_neg hc
        have im : immO (.dT va) := by
          show va.length ≤ big
          rw [t1.length]; omega
        obtain ⟨b3, s3⟩ := b2.laid hE im
        rw [back] at b3 s3
        have s4 : Stp M r H M1 r1 (fun c => if c = Dd then none else H1 c) := ⟨s2.le, s2.pre, s2.new, fun a o e t n => by
          have ne : a ≠ Dd := fun y => by
            subst y
            have := st.keep a o e t n
            rw [hD] at this; cases this
          show (if a = Dd then none else H1 a) = _
          rw [if_neg ne]
          exact s2.keep a o e t n, s2.nf⟩
        exact q1 (.ref Dd) _ _ _ (s4.trans s3) b3 ⟨Dd, va, rfl, updM_same, t1.1, Reps.mono s3.le s3.pre _ _ t1.2⟩
    · exact q.elim
variable {tg : Expr} {pos : Pos}
theorem ev_dct {kx vx iter : Expr} {ifs : List Expr} {scope : Scope} {own : List (Str × Nat)} {gi : DE → Bx → R (List D)} {ts : List Nat} {u : D → DE → Option DE} {tf : DE → Bx → R Bool} {kf vf : EF} (hu : X.A.units + 64 < cLine) (hc : X.calm = true) (hN : X.N.Nodup)
    (hi : EvI X G W tg iter gi) (ok : BlkOk X.N X.env.scope scope own) (hts : ∀ i ∈ ts, i ∈ own.map (·.2))
    (hg : ∀ (s : Shared) (H : Hp) (C : Addr) (cl : List (Str × Addr)) (fp : List Addr), EvG (X.blk s H scope (compEnvC scope cl C X.env) fp) G tg ts u) (ht : ∀ (s : Shared) (H : Hp) (C : Addr) (cl : List (Str × Addr)) (fp : List Addr), EvTs (X.blk s H scope (compEnvC scope cl C X.env) fp) G W0 ifs tf)
    (hk : ∀ (s : Shared) (H : Hp) (C : Addr) (cl : List (Str × Addr)) (fp : List Addr), Ev (X.blk s H scope (compEnvC scope cl C X.env) fp) G W0 kx kf)
    (he : ∀ (s : Shared) (H : Hp) (C : Addr) (cl : List (Str × Addr)) (fp : List Addr), Ev (X.blk s H scope (compEnvC scope cl C X.env) fp) G W0 vx vf) (hs : ∀ x, foldedSetIterable iter X.env x = pure x := by intro _; rfl) :
    Ev X G W (.DictComp kx vx [⟨tg, iter, ifs, 0⟩] scope pos) (dctF gi (own.map (·.2)) u tf kf vf) := ⟨fun pins s σ H Q I q =>
  dcT_run (by omega) hc hN I hi ok ⟨fun s H C cl fp _ _ => ⟨hg s H C cl fp, ht s H C cl fp, hk s H C cl fp, he s H C cl fp⟩⟩ hs (dc_of hts q)⟩
end
end LP
/-! LpDc: several names at once by way of a tuple (more than three, or names of cells). -/
namespace LP
open PySem PySem.Spec PyProof.Rows L2
section
variable {X : Cx} {G : Cfg} {W : WX} {σ : L2.St} {δ : DE} {M : Imm} {r : List Addr} {h : Bx} {H : Hp} {E : Ends} {pos : Pos}
theorem Lone.upd {ds : SV} {a p : Addr} {o : HO} (l : Lone G M r δ σ H ds a) (hp : H p = none) : Lone G M r δ σ (upd H p o) ds a :=
  ⟨l.m, l.n, l.f, l.no, l.at_.mono Le.refl List.prefix_rfl fun _ _ q => upd_new hp q⟩
theorem RSv.upd {p : Addr} {o : HO} (hp : H p = none) : ∀ {ss : List SV} {vs : List V}, RSv G M r δ σ H ss vs → RSv G M r δ σ (upd H p o) ss vs
  | [], _, q => q
  | .no :: _, _, q => q.elim
  | .v d :: ss, _, q => by
    obtain ⟨v, vt, e, q1, q2⟩ := q
    exact ⟨v, vt, e, q1, RSv.upd hp q2⟩
  | .own ds :: ss, _, q => by
    obtain ⟨a, vt, e, q1, q2, q3⟩ := q
    exact ⟨a, vt, e, q1.upd hp, RSv.upd hp q2, q3⟩
  | .ownD ds :: ss, _, q => by
    obtain ⟨a, vt, e, q1, q2, q3⟩ := q
    exact ⟨a, vt, e, q1.upd hp, RSv.upd hp q2, q3⟩
def namesT : List Nat → TGs
  | [] => gNil
  | i :: is => gCons (gName i) (namesT is)
theorem namesT_of : ∀ {is : List Nat} {vs : List V} {σ : L2.St} {H : Hp} {Q : L2.St → Hp → Prop}, vs.length = is.length → Q (setAll σ is vs) H → namesT is vs σ H Q
  | [], [], _, _, _, _, q => ⟨rfl, q⟩
  | [], _ :: _, _, _, _, l, _ => by cases l
  | _ :: _, [], _, _, _, l, _ => by cases l
  | i :: is, v :: vs, _, _, _, l, q => ⟨v, vs, rfl, namesT_of (is := is) (by simpa using l) q⟩
theorem es_parT {is : List Nat} {tgs es : List Expr} {gs : DE → Bx → R (List SV)} {kt k2 pt pt2} (hc : X.calm = true) (hg : PGs X tgs (namesT is)) (ha : EvX X G W es gs) (hz : is.length ≤ 100 := by decide)
    (hn : (assignEach tgs X.env).length = is.length := by rfl) (hst : (assignEach tgs X.env).findIdx? (·.1) = none := by rfl)
    (hs : swapsWithSole [.Tuple tgs kt pt] (.Tuple es k2 pt2) pos.line X.env = pure false := by rfl) (hw : swappedStores [.Tuple tgs kt pt] (.Tuple es k2 pt2) X.env = pure none := by rfl)
    (h1 : (assignEach [.Tuple tgs kt pt] X.env).map (·.2) = [assign (.Tuple tgs kt pt) X.env] := by rfl) :
    Es X G W (.Assign [.Tuple tgs kt pt] (.Tuple es k2 pt2) pos) (parS is gs) := PS.imp (ps_asg (pe_tup ha) (pg_tup hc hg hn hst) hs hw h1) fun E σ H q => by
  obtain ⟨M, r, h, δ, b, q⟩ := q
  refine ⟨M, r, h, δ, b, ?_⟩
  unfold parS at q
  cases z : gs δ h with
  | bad => rw [z] at q; exact q
  | exc c fs h1 => rw [z] at q; exact fun C dd M' r' H' m s b e => q C dd M' r' σ H' m s.le s.pre b e
  | ok ss h1 =>
    rw [z] at q
    simp only [R.toS_ok] at q
    intro vs M' r' H' s b' rs _
    cases y : putX δ is ss with
    | none => rw [y] at q; exact q.elim
    | some δ' =>
      rw [y] at q
      have hl : vs.length = is.length := by rw [rs.length, putX_len y]
      have hl2 : vs.length ≤ sizeLine := big_line (by show vs.length ≤ 1000000; omega)
      exact ⟨hl2, fun p hp => ⟨p, vs, rfl, .inl (.inl upd_same), hl, namesT_of hl ((AfterS.from s.le s.pre q).nxt (putX_bs (b'.new_obj hp) (rs.upd hp) y))⟩⟩
end
end LP
/-! LpDd: dicts that a slot owns: made, read, asked, written. -/
namespace LP
open PySem PySem.Spec PyProof.Rows L2
/-! ### {k: v}, the key a flat tuple -/
def tDispT (tk tv : TE) : TE := fun σ H Q => ∀ p, H p = none → tPairs [(tk, tv)] σ (upd H p (.dT [])) fun ps H2 => H2 p = some (.dT []) ∧ ∃ b k z, ps = [(.ref b, z)] ∧ H2 b = some (.tup (k.map kV)) ∧ Q (.ref p) (upd H2 p (.dT [(k, z)]))
theorem pe_dispT {X : Cx} {ke ve : Expr} {pos : Pos} {tk tv : TE} (hu : X.A.units < cLine) (hk : PE X ke tk) (hv : PE X ve tv) : PE X (.Dict [some ke] [ve] pos) (tDispT tk tv) := ⟨fun pins s σ H Q I q => by
  have hn := I.hok.fresh (Nat.le_refl s.heap.objs.size)
  have I1 := I.laid (a := s.heap.objs.size) (o := .dT []) (h' := s.heap.push { cls := .type "dict", data := .dict #[] }) (t' := s.toks) (fun _ _ q => Heap.get?_push_of_some _ q) (Nat.le_refl _) (dt_empty s.heap I.big)
  have ln : (pairTrees [some ke] [ve] X.env pos).length = 1 := pairTrees_length [some ke] [ve] X.env pos rfl rfl
  rw [arm_eval_Dict, zip_pairTrees [some ke] [ve] X.env pos rfl rfl, dictDisplay_pairs _ (fun e => by rw [e] at ln; cases ln) (by omega)]
  refine wpAny_bind (wpAny_standAt (wpAny_bind (wpAny_subDictH (knd := tupleKind (mixKind X.prog X.w)) (show (tupleKind (mixKind X.prog X.w)).room X.A from hu) (by omega) ?_)))
  refine thn ((pps_cons hk hv pps_nil).run pins _ σ _ _ I1 (q _ hn)) fun ws s2 ⟨ps, H2, I2, rel, e, b, k, z, ep, eb, q2⟩ => ?_
  subst ep
  cases rel with
  | @cons p w ps' ws' hw ht =>
    cases ht
    obtain ⟨w1, w2⟩ := w
    obtain ⟨r1, r2⟩ := hw
    cases (show w1 = Value.ref b from r1)
    obtain ⟨z0, hd, xs, rel, dd⟩ := dt_of I2.hok e
    cases rel
    refine ⟨[(k, b, w2)], ⟨rfl, rfl, key_of I2.hok eb, trivial⟩, dd, fun h' tk dd' hs => wpAny_pure ⟨.ref s.heap.objs.size, _, ?_, rfl, q2⟩⟩
    obtain ⟨o, es, ep, ho, h2, h3, h4, h5, h6⟩ := dd'
    refine d_write I2 (by rw [e]; exact True.intro) hs ⟨o, ho⟩ ⟨by rw [sizeLine_eq]; show 1 ≤ _; omega, hd, [(k, b, w2)], .cons ⟨rfl, ?_, r2⟩ .nil, o, es, ep, ho, h2, h3, h4, h6⟩
    rw [upd_ne (ne_of eb e (fun z => nomatch z))]
    exact eb⟩
/-- what a dict of scalars or flat tuples has at a key -/
def findK {κ : Type} [DecidableEq κ] (kvs : List (κ × D)) (k : κ) : Option D := (kvs.find? fun kv => decide (kv.1 = k)).map (·.2)
def putO {κ : Type} [DecidableEq κ] (kvs : List (κ × D)) (k : κ) (v : D) : List (κ × D) :=
  if (kvs.any fun kv => decide (kv.1 = k)) = true then kvs.map (fun kv => if kv.1 = k then (kv.1, v) else kv) else kvs ++ [(k, v)]
theorem length_putO {κ : Type} [DecidableEq κ] (kvs : List (κ × D)) (k : κ) (v : D) : (putO kvs k v).length ≤ kvs.length + 1 := by
  unfold putO
  split
  · rw [List.length_map]; omega
  · rw [List.length_append]; simp
section
variable {J : Jd} {M M' : Imm} {r r' : List Addr} {κ : Type} [DecidableEq κ]
def RepO (J : Jd) (M : Imm) (r : List Addr) (acc : List (κ × D)) (kvs : List (κ × V)) : Prop := kvs.map Prod.fst = acc.map Prod.fst ∧ Reps J M r (acc.map Prod.snd) (kvs.map Prod.snd)
theorem RepO.any {k : κ} : ∀ {acc : List (κ × D)} {kvs : List (κ × V)}, kvs.map Prod.fst = acc.map Prod.fst → (kvs.any fun kv => decide (kv.1 = k)) = acc.any fun kv => decide (kv.1 = k)
  | [], [], _ => rfl
  | [], _ :: _, e => by simp at e
  | _ :: _, [], e => by simp at e
  | x :: xs, y :: ys, e => by
    rw [List.map_cons, List.map_cons] at e
    injection e with e1 e2
    rw [List.any_cons, List.any_cons, RepO.any e2, e1]
theorem RepO.repl {k : κ} {d : D} {v : V} (rv : Rep J M r d v) : ∀ {acc : List (κ × D)} {kvs : List (κ × V)}, RepO J M r acc kvs →
    RepO J M r (acc.map fun kv => if kv.1 = k then (kv.1, d) else kv) (kvs.map fun kv => if kv.1 = k then (kv.1, v) else kv)
  | [], [], _ => ⟨rfl, rfl⟩
  | [], _ :: _, ⟨e, _⟩ => by simp at e
  | _ :: _, [], ⟨e, _⟩ => by simp at e
  | x :: xs, y :: ys, ⟨e, t⟩ => by
    rw [List.map_cons, List.map_cons] at e t
    injection e with e1 e2
    obtain ⟨w, wt, e3, h1, h2⟩ := t
    injection e3 with e3 e4
    obtain ⟨i1, i2⟩ := RepO.repl (k := k) rv (acc := xs) (kvs := ys) ⟨e2, by rw [e4]; exact h2⟩
    simp only [List.map_cons]
    by_cases z : x.1 = k
    · rw [if_pos z, if_pos (e1.trans z)]
      refine ⟨by simp only [List.map_cons]; rw [i1, e1], ?_⟩
      simp only [List.map_cons]
      exact ⟨_, _, rfl, rv, i2⟩
    · rw [if_neg z, if_neg (fun y => z (e1.symm.trans y))]
      refine ⟨by simp only [List.map_cons]; rw [i1, e1], ?_⟩
      simp only [List.map_cons]
      exact ⟨_, _, rfl, by rw [e3]; exact h1, i2⟩
theorem RepO.put {k : κ} {d : D} {v : V} (rv : Rep J M r d v) {acc : List (κ × D)} {kvs : List (κ × V)} (q : RepO J M r acc kvs) : RepO J M r (putO acc k d) (putK kvs k v) := by
  unfold putO putK
  rw [RepO.any q.1]
  by_cases z : (acc.any fun kv => decide (kv.1 = k)) = true
  · rw [if_pos z, if_pos z]; exact q.repl rv
  · rw [if_neg z, if_neg z]
    refine ⟨by simp only [List.map_append, List.map_cons, List.map_nil]; rw [q.1], ?_⟩
    simp only [List.map_append, List.map_cons, List.map_nil]
    exact q.2.append (Reps.one rv)
theorem RepO.length {acc : List (κ × D)} {kvs : List (κ × V)} (q : RepO J M r acc kvs) : kvs.length = acc.length := by
  have := congrArg List.length q.1
  simpa using this
theorem RepO.find {k : κ} : ∀ {acc : List (κ × D)} {kvs : List (κ × V)}, RepO J M r acc kvs → (findK acc k = none ∧ valV kvs k = none) ∨ ∃ d v, findK acc k = some d ∧ valV kvs k = some v ∧ Rep J M r d v
  | [], [], _ => .inl ⟨rfl, rfl⟩
  | [], _ :: _, ⟨e, _⟩ => by simp at e
  | _ :: _, [], ⟨e, _⟩ => by simp at e
  | x :: xs, y :: ys, ⟨e, t⟩ => by
    rw [List.map_cons, List.map_cons] at e t
    injection e with e1 e2
    obtain ⟨w, wt, e3, h1, h2⟩ := t
    injection e3 with e3 e4
    by_cases z : x.1 = k
    · refine .inr ⟨x.2, y.2, ?_, valV_pos (e1.trans z), by rw [e3]; exact h1⟩
      simp [findK, List.find?_cons, z]
    · rw [valV_neg (fun v => z (e1.symm.trans v))]
      have f : findK (x :: xs) k = findK xs k := by simp [findK, List.find?_cons, z]
      rw [f]
      exact RepO.find ⟨e2, by rw [e4]; exact h2⟩
end
/-! ### a slot's dict -/
/-- the value at a key, if it is one of the dict's kind -/
def OD.get : OD → D → Option (Option D)
  | .t kvs, d => (tkOf d).map fun k => findK kvs k
  | .k kvs, d => (keyD d).map fun k => findK kvs k
def OD.put : OD → D → D → Option OD
  | .t kvs, d, v => (tkOf d).map fun k => .t (putO kvs k v)
  | .k kvs, d, v => (keyD d).map fun k => .k (putO kvs k v)
def slotD (δ : DE) (i : Nat) : Option OD := match δ[i]? with
  | some (.ownD o) => some o
  | _ => none
/-- x[e] -/
def dixF (i : Nat) (f : EF) : EF := fun δ h => if (slotD δ i).isSome = true then (f δ h).bind fun d h1 => match slotD δ i with
  | some o => match o.get d with
    | some (some v) => .ok v h1
    | _ => .bad
  | none => .bad
else .bad
/-- e in x -/
def dinF (ng : Bool) (i : Nat) (f : EF) : EF := fun δ h => (f δ h).bind fun d h1 => match slotD δ i with
  | some o => match o.get d with
    | some v => .ok (.bl (if ng then !v.isSome else v.isSome)) h1
    | none => .bad
  | none => .bad
/-- x[e] = v -/
def dsetS (i : Nat) (fk fv : EF) : SF := fun δ h => (fv δ h).toS δ fun v h1 => if (isV v && (slotD δ i).isSome) = true then (fk δ h1).toS δ fun d h2 => match slotD δ i with
  | some o => if o.len < big then match o.put d v with
    | some o' => .nx (δ.set i (.ownD o')) h2
    | none => .bad
    else .bad
  | none => .bad
else .bad
section
variable {X : Cx} {G : Cfg} {W : WX} {σ : L2.St} {δ : DE} {M M' M1 M2 : Imm} {r r' r1 r2 : List Addr} {h h' h1 h2 : Bx} {H H' H1 H2 : Hp} {E : Ends} {pos px : Pos}
theorem BS.slotD (b : BS G M r h δ σ H) {i : Nat} {o : OD} (e : slotD δ i = some o) : δ[i]? = some (.ownD o) ∧ ∃ a u, σ[i]? = some (some (.ref a)) ∧ M a = none ∧ a ∉ r ∧ Free G.H0 a ∧ o.len ≤ big ∧ H a = some u ∧ o.rep G.J M r u := by
  unfold LP.slotD at e
  split at e
  · rename_i o' z
    cases e
    obtain ⟨x, ex⟩ := b.lt z
    obtain ⟨a, u, e1, q⟩ := b.sl i _ _ z ex
    rw [e1] at ex
    exact ⟨z, a, u, ex, q⟩
  · cases e
/-- a key that is looked for -/
theorem get_of (b : BS G M r h δ σ H) {o : OD} {a : Addr} {u : HO} (e : H a = some u) (q : o.rep G.J M r u) {d : D} {y : V} (ry : RepV G.J M r δ σ d y) {v : Option D} (g : o.get d = some v) : (v = none ∧ DGet H a y none) ∨ ∃ d' z, v = some d' ∧ DGet H a y (some z) ∧ Rep G.J M r d' z := by
  cases o with
  | t kvs =>
    obtain ⟨va, rfl, q1, q2⟩ := q
    obtain ⟨k, e1, rfl⟩ := Option.map_eq_some_iff.mp g
    cases d with
    | tup es =>
      obtain ⟨b', us, rfl, m, t⟩ := ry
      have m : M b' = some (.tup us) := m.resolve_right id
      have km : keysD es = some k := e1
      rw [keysD_rep t km] at m
      have hb := (b.mok _ _ m).2
      rcases RepO.find (k := k) (acc := kvs) (kvs := va) ⟨q1, q2⟩ with ⟨f1, f2⟩ | ⟨d', z, f1, f2, f3⟩
      · rw [f1]; exact .inl ⟨rfl, by rw [← f2]; exact DGet.t e hb⟩
      · rw [f1]; exact .inr ⟨d', z, rfl, by rw [← f2]; exact DGet.t e hb, f3⟩
    | _ => cases e1
  | k kvs =>
    obtain ⟨va, rfl, q1, q2⟩ := q
    obtain ⟨k, e1, rfl⟩ := Option.map_eq_some_iff.mp g
    have ry : Rep G.J M r d y := by
      cases d with
      | loc j => cases e1
      | _ => exact ry
    cases keyD_rep ry e1
    rcases RepO.find (k := k) (acc := kvs) (kvs := va) ⟨q1, q2⟩ with ⟨f1, f2⟩ | ⟨d', z, f1, f2, f3⟩
    · rw [f1]; exact .inl ⟨rfl, by rw [← f2]; exact DGet.k e⟩
    · rw [f1]; exact .inr ⟨d', z, rfl, by rw [← f2]; exact DGet.k e, f3⟩
theorem put_of (b : BS G M r h δ σ H) {o o' : OD} {a : Addr} {u : HO} (e : H a = some u) (q : o.rep G.J M r u) (l : o.len < big) {d v : D} {y z : V} (ry : RepV G.J M r δ σ d y) (rz : Rep G.J M r v z) (g : o.put d v = some o') : ∃ u', DPut H a y z (upd H a u') ∧ o'.rep G.J M r u' ∧ o'.len ≤ big := by
  cases o with
  | t kvs =>
    obtain ⟨va, rfl, q1, q2⟩ := q
    obtain ⟨k, e1, rfl⟩ := Option.map_eq_some_iff.mp g
    have l : kvs.length < big := l
    cases d with
    | tup es =>
      obtain ⟨b', us, rfl, m, t⟩ := ry
      have m : M b' = some (.tup us) := m.resolve_right id
      have km : keysD es = some k := e1
      rw [keysD_rep t km] at m
      have hb := (b.mok _ _ m).2
      have rl : va.length = kvs.length := RepO.length ⟨q1, q2⟩
      obtain ⟨p1, p2⟩ := RepO.put (k := k) rz (acc := kvs) (kvs := va) ⟨q1, q2⟩
      refine ⟨.dT (putK va k z), DPut.t e hb (by rw [rl]; exact big_lt l), ⟨_, rfl, p1, p2⟩, ?_⟩
      show (putO kvs k v).length ≤ big
      have := length_putO kvs k v
      omega
    | _ => cases e1
  | k kvs =>
    obtain ⟨va, rfl, q1, q2⟩ := q
    obtain ⟨k, e1, rfl⟩ := Option.map_eq_some_iff.mp g
    have l : kvs.length < big := l
    have ry : Rep G.J M r d y := by
      cases d with
      | loc j => cases e1
      | _ => exact ry
    cases keyD_rep ry e1
    have rl : va.length = kvs.length := RepO.length ⟨q1, q2⟩
    obtain ⟨p1, p2⟩ := RepO.put (k := k) rz (acc := kvs) (kvs := va) ⟨q1, q2⟩
    refine ⟨.dK (putK va k z), DPut.k e (by rw [rl]; exact big_lt l), ⟨_, rfl, p1, p2⟩, ?_⟩
    show (putO kvs k v).length ≤ big
    have := length_putO kvs k v
    omega
theorem BS.ownDW (b : BS G M r h δ σ H) {i : Nat} {o o' : OD} {a : Addr} {u' : HO} (e : δ[i]? = some (.ownD o)) (ea : σ[i]? = some (some (.ref a))) (t : o'.rep G.J M r u') (z : o'.len ≤ big) : BS G M r h (δ.set i (.ownD o')) σ (upd H a u') := by
  obtain ⟨a', u, e1, m, n, fr, _, q, tu⟩ := b.sl i _ _ e ea
  cases e1
  have hi : i < δ.length := (List.getElem?_eq_some_iff.mp e).1
  have b1 := (b.drop i).wroteO (o' := u') m n fr (fun j s e1 w e2 => ?_) (OD.rep_wr tu) q
  · refine ⟨b1.mok, b1.bx, b1.tb, by rw [List.length_set]; exact b.len, fun j s x e1 e2 => ?_, fun j l s t' e1 e2 w1 w2 n' => ?_, b1.le, b1.pre, b1.new, b1.keep, b1.nf⟩
    · by_cases hj : i = j
      · subst hj
        rw [List.getElem?_set_self hi] at e1
        cases e1
        rw [ea] at e2; cases e2
        exact ⟨a, u', rfl, m, n, fr, z, upd_same, t⟩
      · rw [List.getElem?_set_ne hj] at e1
        exact b1.sl j s x (by rw [List.getElem?_set_ne hj]; exact e1) e2
    · have back : ∀ {j : Nat} {s : SV}, (δ.set i (.ownD o'))[j]? = some s → s.ow = true → ∃ s', δ[j]? = some s' ∧ s'.ow = true := fun {j s} e1 w => by
        by_cases hj : i = j
        · subst hj; exact ⟨_, e, rfl⟩
        · rw [List.getElem?_set_ne hj] at e1; exact ⟨s, e1, w⟩
      obtain ⟨d1, y1, x1⟩ := back e1 w1
      obtain ⟨d2, y2, x2⟩ := back e2 w2
      exact b.sep j l d1 d2 y1 y2 x1 x2 n'
  · by_cases hj : i = j
    · subst hj
      rw [List.getElem?_set_self hi] at e1; cases e1; cases w
    · rw [List.getElem?_set_ne hj] at e1
      exact b.sep i j _ s e e1 rfl w hj (by rw [ea, e2])
variable {x : Str} {e : Expr} {i : Nat} {f g : EF}
theorem ev_dix (hu : X.A.units + 64 < cLine) (hN : X.N[i]? = some x) (hv : Vis X.env.scope x) (he : Ev X G W e f) (hs : NoSl e := by exact fun _ _ => rfl) (hd : (x == ("__debug__" : Str)) = false := by decide) (hcd : (x == ("__classdict__" : Str)) = false := by decide) :
    Ev X G W (.Subscript (.Name x px) e pos) (dixF i f) := PE.imp (pe_dget (by omega) (pe_var hN hv hd hcd) he hs) fun σ H Q q => by
  obtain ⟨M, r, h, δ, b, q⟩ := q
  unfold dixF at q
  split at q
  · rename_i hz
    obtain ⟨o, eo⟩ := Option.isSome_iff_exists.mp hz
    obtain ⟨_, a, u, es, _⟩ := b.slotD eo
    refine ⟨.ref a, es, M, r, h, δ, b, (After.bind (rl := rV G.J δ σ) q).more fun y H1 ⟨d, M1, r1, h1, s1, b1, ry, q1⟩ => ?_⟩
    rw [eo] at q1
    obtain ⟨_, a', u', es', m, n, fr, l, eu, rp⟩ := b1.slotD eo
    rw [es] at es'; cases es'
    simp only at q1
    split at q1
    · rename_i v ev
      rcases get_of b1 eu rp ry ev with ⟨z, _⟩ | ⟨d', z, ez, gz, rz⟩
      · cases z
      · cases ez
        exact ⟨a, z, rfl, gz, q1.now b1 (rep_V rz)⟩
    · exact q1.elim
  · exact q.elim
theorem din_of {ng : Bool} {Q : VK} (hN : X.N[i]? = some x) (q : tG G W (rV G.J) (dinF ng i f) σ H Q) : (if ng = true then tDNotIn (tG G W (rV G.J) f) (tVar i) σ H Q else tDIn (tG G W (rV G.J) f) (tVar i) σ H Q) := by
  obtain ⟨M, r, h, δ, b, q⟩ := q
  have main : ∀ {Q' : VK}, After G W σ δ (rV G.J δ σ) M r H (dinF ng i f δ h) Q' → After G W σ δ (rV G.J δ σ) M r H (f δ h) fun y H1 => ∃ v, σ[i]? = some (some v) ∧ ∃ a o, v = .ref a ∧ DGet H1 a y o ∧ Q' (.bl (if ng then !o.isSome else o.isSome)) H1 := fun {Q'} q => by
    unfold dinF at q
    refine (After.bind (rl := rV G.J δ σ) q).more fun y H1 ⟨d, M1, r1, h1, s1, b1, ry, q1⟩ => ?_
    split at q1
    · rename_i o eo
      obtain ⟨_, a, u, es, m, n, fr, l, eu, rp⟩ := b1.slotD eo
      split at q1
      · rename_i v ev
        rcases get_of b1 eu rp ry ev with ⟨z, gz⟩ | ⟨d', z, ez, gz, rz⟩
        · subst z
          exact ⟨_, es, a, none, rfl, gz, q1.now b1 (v := V.bl _) rfl⟩
        · subst ez
          exact ⟨_, es, a, some z, rfl, gz, q1.now b1 (v := V.bl _) rfl⟩
      · exact q1.elim
    · exact q1.elim
  cases ng with
  | true =>
    rw [if_pos rfl]
    exact ⟨M, r, h, δ, b, main q⟩
  | false =>
    rw [if_neg (by decide)]
    exact ⟨M, r, h, δ, b, main q⟩
theorem ev_din (hu : X.A.units + 64 < cLine) (hN : X.N[i]? = some x) (hv : Vis X.env.scope x) (he : Ev X G W e f) (hm : behindInMarks .In (.Name x px) = false := by rfl) (hd : (x == ("__debug__" : Str)) = false := by decide) (hcd : (x == ("__classdict__" : Str)) = false := by decide) :
    Ev X G W (.Compare e [.In] [.Name x px] pos) (dinF false i f) := PE.imp (pe_cmp (pc_din (by omega) he (pe_var hN hv hd hcd)) hm) fun σ H Q q => by have := din_of hN q; rwa [if_neg (by decide)] at this
theorem ev_dnin (hu : X.A.units + 64 < cLine) (hN : X.N[i]? = some x) (hv : Vis X.env.scope x) (he : Ev X G W e f) (hm : behindInMarks .NotIn (.Name x px) = false := by rfl) (hd : (x == ("__debug__" : Str)) = false := by decide) (hcd : (x == ("__classdict__" : Str)) = false := by decide) :
    Ev X G W (.Compare e [.NotIn] [.Name x px] pos) (dinF true i f) := PE.imp (pe_cmp (pc_dnotin (by omega) he (pe_var hN hv hd hcd)) hm) fun σ H Q q => by have := din_of hN q; rwa [if_pos rfl] at this
theorem evt_din (hu : X.A.units + 64 < cLine) (hN : X.N[i]? = some x) (hv : Vis X.env.scope x) (he : Ev X G W e f) (hm : behindInMarks .In (.Name x px) = false := by rfl) (hd : (x == ("__debug__" : Str)) = false := by decide) (hcd : (x == ("__classdict__" : Str)) = false := by decide) :
    EvT X G W (.Compare e [.In] [.Name x px] pos) (testF (dinF false i f)) := PT.imp (pt_cmp (pc_din (by omega) he (pe_var hN hv hd hcd)) hm) fun σ H Q q => by have := din_of hN (tTest_of q); rwa [if_neg (by decide)] at this
theorem evt_dnin (hu : X.A.units + 64 < cLine) (hN : X.N[i]? = some x) (hv : Vis X.env.scope x) (he : Ev X G W e f) (hm : behindInMarks .NotIn (.Name x px) = false := by rfl) (hd : (x == ("__debug__" : Str)) = false := by decide) (hcd : (x == ("__classdict__" : Str)) = false := by decide) :
    EvT X G W (.Compare e [.NotIn] [.Name x px] pos) (testF (dinF true i f)) := PT.imp (pt_cmp (pc_dnotin (by omega) he (pe_var hN hv hd hcd)) hm) fun σ H Q q => by have := din_of hN (tTest_of q); rwa [if_pos rfl] at this
end
end LP
/-! LpDe: new dicts, into slots; items stored. -/
namespace LP
open PySem PySem.Spec PyProof.Rows L2
section
variable {X : Cx} {G : Cfg} {W : WX} {σ : L2.St} {δ : DE} {M M' M1 M2 : Imm} {r r' r1 r2 : List Addr} {h h' h1 h2 : Bx} {H H' H1 H2 : Hp} {E : Ends} {pos px : Pos}
def AfterD (G : Cfg) (W : WX) (σ : L2.St) (δ : DE) (M : Imm) (r : List Addr) (H : Hp) (x : R OD) (Q : VK) : Prop := match x with
  | .ok o h => ∀ u M' r' H' p, Stp M r H M' r' H' → BS G M' r' h δ σ H' → o.rep G.J M' r' u → o.len ≤ big → H' p = none → Q (.ref p) (upd H' p u)
  | .exc c fs h => ∀ C dd M' r' H', G.mg c = some (.ref C) → Stp M r H M' r' H' → BS G M' r' h δ σ H' → ExcAt G.J M' r' H' fs dd → W (.ref C) dd σ H'
  | .bad => False
/-- an expression that lays a new dict -/
def EvD (X : Cx) (G : Cfg) (W : WX) (e : Expr) (f : DE → Bx → R OD) : Prop := PE X e fun σ H Q => ∃ M r h δ, BS G M r h δ σ H ∧ AfterD G W σ δ M r H (f δ h) Q
theorem evd_newT : EvD X G W (.Dict [] [] pos) (fun _ h => .ok (.t []) h) := PE.imp pe_dnewT fun σ H Q q => by
  obtain ⟨M, r, h, δ, b, q⟩ := q
  exact fun p hp => q _ M r H p Stp.refl b ⟨[], rfl, rfl, rfl⟩ (Nat.zero_le _) hp
theorem evd_newK : EvD X G W (.Dict [] [] pos) (fun _ h => .ok (.k []) h) := PE.imp pe_dnewK fun σ H Q q => by
  obtain ⟨M, r, h, δ, b, q⟩ := q
  exact fun p hp => q _ M r H p Stp.refl b ⟨[], rfl, rfl, rfl⟩ (Nat.zero_le _) hp
/-- {k: v} -/
def dispF (fk fv : EF) : DE → Bx → R OD := fun δ h => (quiet (fk δ h)).bind fun d h1 => match tkOf d with
  | some k => (quiet (fv δ h1)).bind fun v h2 => if isV v = true then .ok (.t [(k, v)]) h2 else .bad
  | none => .bad
variable {e ke ve : Expr} {fk fv : EF}
theorem evd_disp (hu : X.A.units + 64 < cLine) (hk : Ev X G W0 ke fk) (hv : Ev X G W0 ve fv) : EvD X G W (.Dict [some ke] [ve] pos) (dispF fk fv) := PE.imp (pe_dispT (by omega) hk hv) fun σ H Q q => by
  obtain ⟨M, r, h, δ, b, q⟩ := q
  unfold dispF at q
  intro p hp
  have bp := b.new_obj (o := .dT []) hp
  have mp := b.fresh_M hp
  have rp := b.fresh_r hp
  have f0 := b.free0 hp
  have no := b.noOwn hp
  show tG G W0 (rV G.J) fk σ (upd H p (.dT [])) fun x H1 => tG G W0 (rV G.J) fv σ H1 fun y H2 => _
  refine ⟨M, r, h, δ, bp, ?_⟩
  cases z1 : fk δ h with
  | exc c fs h1 => rw [z1] at q; exact q.elim
  | bad => rw [z1] at q; exact q.elim
  | ok d h1 =>
    rw [z1] at q
    simp only [quiet, R.bind_ok] at q
    intro y M1 r1 H1 s1 b1 ry
    have mD : ∀ {Ma ra Ha Mb rb Hb}, Stp Ma ra Ha Mb rb Hb → Ha p = some (.dT []) → Ma p = none → p ∉ ra → Hb p = some (.dT []) ∧ Mb p = none ∧ p ∉ rb := fun s e m n =>
      ⟨s.keep _ _ e (fun ps z => by cases z) n, s.nf _ m ⟨_, e, trivial⟩ n, fun z => (s.new _ z).elim n (IsL.nf ⟨_, e, trivial⟩)⟩
    obtain ⟨e1, m1, n1⟩ := mD s1 upd_same mp rp
    cases d with
    | tup es =>
      cases ek : tkOf (.tup es) with
      | none => rw [ek] at q; exact q.elim
      | some k =>
        rw [ek] at q
        simp only at q
        obtain ⟨ka, us, rfl, km, kt⟩ := ry
        replace km : M1 ka = some (.tup us) := km.resolve_right id
        have ek : keysD es = some k := ek
        rw [keysD_rep kt ek] at km
        refine ⟨M1, r1, h1, δ, b1, ?_⟩
        cases z2 : fv δ h1 with
        | exc c fs h2 => rw [z2] at q; exact q.elim
        | bad => rw [z2] at q; exact q.elim
        | ok v h2 =>
          rw [z2] at q
          simp only [R.bind_ok] at q
          by_cases hv : isV v = true
          · rw [if_pos hv] at q
            intro z M2 r2 H2 s2 b2 rz
            obtain ⟨e2, m2, n2⟩ := mD s2 e1 m1 n1
            have rz' : Rep G.J M2 r2 v z := by
              cases v with
              | loc i => cases hv
              | _ => exact rz
            have hk2 : H2 ka = some (.tup (k.map kV)) := (b2.mok _ _ (s2.le _ _ km)).2
            refine ⟨e2, ka, k, z, rfl, hk2, ?_⟩
            have b3 := b2.eraseO (o := .dT []) m2 n2 f0 no trivial e2
            have s12 := s1.trans s2
            have s3 : Stp M r H M2 r2 (fun c => if c = p then none else H2 c) := ⟨s12.le, s12.pre, fun a ha => (s12.new a ha).elim .inl fun f => .inr fun o e => f o (upd_new hp e), fun a o e t n => by
              have ne : a ≠ p := fun y => by subst y; rw [hp] at e; cases e
              show (if a = p then none else H2 a) = _
              rw [if_neg ne]
              exact s12.keep a o (upd_new hp e) t n, fun a m i n => s12.nf a m (i.imp fun o z => ⟨upd_new hp z.1, z.2⟩) n⟩
            have hE : (fun c => if c = p then none else H2 c) p = none := if_pos rfl
            have := q (.dT [(k, z)]) M2 r2 _ p s3 b3 ⟨_, rfl, rfl, z, [], rfl, rz', rfl⟩ (by show 1 ≤ 1000000; omega) hE
            have back : upd (fun c => if c = p then none else H2 c) p (.dT [(k, z)]) = upd H2 p (.dT [(k, z)]) := by
              funext c
              unfold upd
              by_cases hc : c = p
              · rw [if_pos hc, if_pos hc]
              · rw [if_neg hc, if_neg hc]; exact if_neg hc
            rw [back] at this
            exact this
          · rw [if_neg hv] at q; exact q.elim
    | _ => exact q.elim
/-! ### into slots -/
theorem lone_new (b : BS G M r h δ σ H) {p : Addr} (hp : H p = none) {o : OD} {u : HO} (t : o.rep G.J M r u) (z : o.len ≤ big) : Lone G M r δ σ (upd H p u) (.ownD o) p :=
  ⟨b.fresh_M hp, b.fresh_r hp, b.free0 hp, b.noOwn hp, z, u, upd_same, t⟩
def ownDS (i : Nat) (fd : DE → Bx → R OD) : SF := fun δ h => (fd δ h).toS δ fun o h1 => .nx (δ.set i (.ownD o)) h1
theorem es_ownD {fd : DE → Bx → R OD} {i : Nat} {x : Str} {pos' : Pos} (hN : X.N.Nodup) (hi : X.N[i]? = some x) (hx : Loc X.env.scope x) (he : EvD X G W e fd) (hs : swapsWith e (some (.Name x pos')) pos.line X.env = pure false := by rfl) (hf : X.fn x = true ∨ X.env.scope.names.lookup x = some .local := by first | exact .inl rfl | exact .inr rfl | assumption) :
    Es X G W (.Assign [.Name x pos'] e pos) (ownDS i fd) := PS.imp (ps_set hN hi hx he hs hf) fun E σ H q => by
  obtain ⟨M, r, h, δ, b, q⟩ := q
  refine ⟨M, r, h, δ, b, ?_⟩
  unfold ownDS at q
  cases z : fd δ h with
  | ok o h1 =>
    rw [z] at q
    intro u M' r' H' p s b' t z hp
    exact (AfterS.from s.le s.pre q).nxt ((b'.new_obj (o := u) hp).take (lone_new b' hp t z))
  | exc c fs h => rw [z] at q; exact fun C dd M' r' H' m s b e => q C dd M' r' σ H' m s.le s.pre b e
  | bad => rw [z] at q; exact q
def consXD (f : DE → Bx → R OD) (fs : DE → Bx → R (List SV)) : DE → Bx → R (List SV) := fun δ h => (f δ h).bind fun d h1 => (fs δ h1).bind fun ds h2 => .ok (.ownD d :: ds) h2
theorem evx_consD {es : List Expr} {gs : DE → Bx → R (List SV)} {fd : DE → Bx → R OD} (ha : EvD X G W e fd) (hr : EvX X G W es gs) (hs : starEach (e :: es) X.env = (false, eval e X.env) :: starEach es X.env := by rfl) : EvX X G W (e :: es) (consXD fd gs) :=
  PA.imp (pa_cons ha hr hs) fun σ H Q q => by
    obtain ⟨M, r, h, δ, b, q⟩ := q
    refine ⟨M, r, h, δ, b, ?_⟩
    unfold consXD at q
    cases z : fd δ h with
    | bad => rw [z] at q; exact q
    | exc c fs h1 => rw [z] at q; exact q
    | ok o h1 =>
      rw [z] at q
      simp only [R.bind_ok] at q
      intro u M' r' H' p s b' t hz hp
      have b1 : BS G M' r' h1 δ σ (upd H' p u) := b'.new_obj hp
      have s1 : Stp M r H M' r' (upd H' p u) := ⟨s.le, s.pre, s.new, fun a o e t n => upd_new hp (s.keep a o e t n), s.nf⟩
      have lone := lone_new b' hp t hz
      have pf : Free H p := (Free.of hp).back s.keep fun z => b'.fresh_r hp (s.pre.subset z)
      refine ⟨M', r', h1, δ, b1, ?_⟩
      cases z : gs δ h1 with
      | bad => rw [z] at q; exact q
      | exc c fs h2 => rw [z] at q; exact fun C dd M' r' H' m a b e => q C dd M' r' H' m (s1.trans a) b e
      | ok ss h2 =>
        rw [z] at q
        simp only [R.bind_ok] at q
        refine fun xs M2 r2 H2 s2 b2 rs nx => q (.ref p :: xs) M2 r2 H2 (s1.trans s2) b2 ⟨p, xs, rfl, lone.step s2, rs, fun j es e1 w e2 => ?_⟩ fun j es a e1 w e2 => ?_
        · obtain ⟨ps, y⟩ := nx j es p e1 w e2 _ upd_same
          exact (OD.rep_wr t).ne_tbl y
        · cases j with
          | zero =>
            have e2 : some (V.ref p) = some (V.ref a) := by simpa using e2
            cases e2
            exact pf
          | succ j => exact nx.back s1 s2.pre rs j es a (by simpa using e1) w (by simpa using e2)
/-! ### x[k] = v -/
theorem es_dset {x : Str} {i : Nat} {pos' : Pos} (hu : X.A.units + 64 < cLine) (hN : X.N[i]? = some x) (hv : Vis X.env.scope x) (hk : Ev X G W ke fk) (he : Ev X G W ve fv)
    (hs : swapsWith ve (some (.Subscript (.Name x px) ke pos')) pos.line X.env = pure false := by rfl) (hd : (x == ("__debug__" : Str)) = false := by decide) (hcd : (x == ("__classdict__" : Str)) = false := by decide) :
    Es X G W (.Assign [.Subscript (.Name x px) ke pos'] ve pos) (dsetS i fk fv) := PS.imp (ps_dput (by omega) (pe_var hN hv hd hcd) hk he hs) fun E σ H q => by
  obtain ⟨M, r, h, δ, b, q⟩ := q
  unfold dsetS at q
  refine ⟨M, r, h, δ, b, (AfterS.expr (rl := rV G.J) b q).more fun v H1 ⟨d, M1, r1, h1, s1, b1, rv, q1⟩ => ?_⟩
  split at q1
  · rename_i hz
    rw [Bool.and_eq_true] at hz
    obtain ⟨o, eo⟩ := Option.isSome_iff_exists.mp hz.2
    obtain ⟨_, a, u, es, _⟩ := b1.slotD eo
    refine ⟨.ref a, es, M1, r1, h1, δ, b1, (AfterS.expr (rl := rV G.J) b1 q1).more fun y H2 ⟨dk, M2, r2, h2, s2, b2, ry, q2⟩ => ?_⟩
    rw [eo] at q2
    simp only at q2
    split at q2
    · rename_i hl
      split at q2
      · rename_i o' ep
        obtain ⟨sl, a', u', es', m, n, fr, l, eu, rp⟩ := b2.slotD eo
        rw [es] at es'; cases es'
        have rv' : Rep G.J M2 r2 d v := by
          have := RepV.mono s2.le s2.pre rv
          cases d with
          | loc i => cases hz.1
          | _ => exact this
        obtain ⟨u2, dp, rp2, l2⟩ := put_of b2 eu rp hl ry rv' ep
        exact ⟨a, _, rfl, dp, AfterS.nxt q2 (b2.ownDW sl es rp2 l2)⟩
      · exact q2.elim
    · exact q2.elim
  · exact q1.elim
/-! ### x += n -/
def augS (i : Nat) (g : Int → Int → Int) (f : EF) : SF := fun δ h => match δ[i]? with
  | some (.v (.int n)) => (f δ h).toS δ fun d h1 => match d with
    | .int m => .nx (δ.set i (.v (.int (g n m)))) h1
    | _ => .bad
  | _ => .bad
theorem es_aug {x : Str} {i : Nat} {pos' : Pos} {f : EF} {op : Operator} {g : Int → Int → Int} (hN : X.N.Nodup) (hi : X.N[i]? = some x) (hx : Loc X.env.scope x) (he : Ev X G W e f) (ho : PIp X op (ipI g)) (hf : X.fn x = true ∨ X.env.scope.names.lookup x = some .local := by first | exact .inl rfl | exact .inr rfl | assumption) :
    Es X G W (.AugAssign (.Name x pos') op e pos) (augS i g f) := PS.imp (ps_aug hN hi hx he ho hf) fun E σ H q => by
  obtain ⟨M, r, h, δ, b, q⟩ := q
  unfold augS at q
  split at q
  · rename_i n z
    obtain ⟨o, eo⟩ := b.lt z
    obtain ⟨v, e1, rv⟩ := b.sl i _ _ z eo
    subst e1
    cases rv
    refine ⟨_, eo, M, r, h, δ, b, (AfterS.expr (rl := rV G.J) b q).more fun y H1 ⟨d, M1, r1, h1, s1, b1, ry, q1⟩ => ?_⟩
    split at q1
    · rename_i m
      cases ry
      exact ⟨n, m, rfl, rfl, q1.nxt (b1.put (d := .int (g n m)) rfl)⟩
    · exact q1.elim
  · exact q.elim
end
/-! ### a comprehension within a comprehension -/
theorem look_rel {env : Env} {x : Str} : ∀ {names : List (Str × NameKind)}, (names.lookup x = some .cell ∨ names.lookup x = some .free) →
    ((names.map fun (n, k) => if (k == NameKind.free && env.scope.kind == .function && env.kindOf n == some .cell) then (n, NameKind.cell) else (n, k)).lookup x = some .cell ∨
     (names.map fun (n, k) => if (k == NameKind.free && env.scope.kind == .function && env.kindOf n == some .cell) then (n, NameKind.cell) else (n, k)).lookup x = some .free)
  | [], h => by simp at h
  | (n, k) :: r, h => by
    have ih := @look_rel env x r
    rw [List.map_cons]
    by_cases hx : x = n
    · subst hx
      rw [List.lookup_cons_self] at h
      have h' : k = .cell ∨ k = .free := by simpa using h
      show List.lookup x ((if (k == NameKind.free && env.scope.kind == .function && env.kindOf x == some .cell) = true then (x, NameKind.cell) else (x, k)) :: _) = _ ∨ List.lookup x ((if (k == NameKind.free && env.scope.kind == .function && env.kindOf x == some .cell) = true then (x, NameKind.cell) else (x, k)) :: _) = _
      split
      · exact .inl (List.lookup_cons_self ..)
      · rw [List.lookup_cons_self]
        exact h'.imp (congrArg some) (congrArg some)
    · have nb : (x == n) = false := by simpa using hx
      have h2 : r.lookup x = some .cell ∨ r.lookup x = some .free := by
        rw [List.lookup_cons, nb] at h
        exact h
      have key : ∀ l : List (Str × NameKind), ((if (k == NameKind.free && env.scope.kind == .function && env.kindOf n == some .cell) = true then (n, NameKind.cell) else (n, k)) :: l).lookup x = l.lookup x := fun l => by
        split <;> rw [List.lookup_cons, nb]
      show List.lookup x ((if (k == NameKind.free && env.scope.kind == .function && env.kindOf n == some .cell) = true then (n, NameKind.cell) else (n, k)) :: _) = _ ∨ List.lookup x ((if (k == NameKind.free && env.scope.kind == .function && env.kindOf n == some .cell) = true then (n, NameKind.cell) else (n, k)) :: _) = _
      rw [key]
      exact ih h2
theorem blk_in {X : Cx} {s : Shared} {H : Hp} {scope scope2 : Scope} {cl : List (Str × Addr)} {C : Addr} {fp : List Addr} {N : List Str} {own : List (Str × Nat)} (hN : X.N = N) (ok : BlkOk N scope scope2 own) :
    BlkOk (X.blk s H scope (compEnvC scope cl C X.env) fp).N (X.blk s H scope (compEnvC scope cl C X.env) fp).env.scope scope2 own := by
  subst hN
  exact ⟨ok.kind, ok.uniq, ok.ix, fun y hy e => look_rel (ok.free y hy e), ok.own⟩
/-! ### on data -/
section
variable {δ : DE} {h : Bx} {f fk fv : EF} {i : Nat} {o : OD}
theorem slotD_at (e : δ[i]? = some (.ownD o)) : slotD δ i = some o := by unfold slotD; rw [e]
@[simp] theorem dixF_ap : dixF i f δ h = if (slotD δ i).isSome = true then (f δ h).bind fun d h1 => match slotD δ i with
  | some o => match o.get d with
    | some (some v) => .ok v h1
    | _ => .bad
  | none => .bad
else .bad := pr rfl
@[simp] theorem dinF_ap {ng : Bool} : dinF ng i f δ h = (f δ h).bind fun d h1 => match slotD δ i with
  | some o => match o.get d with
    | some v => .ok (.bl (if ng then !v.isSome else v.isSome)) h1
    | none => .bad
  | none => .bad := pr rfl
@[simp] theorem ownDS_ap {fd : DE → Bx → R OD} : ownDS i fd δ h = (fd δ h).toS δ fun o h1 => .nx (δ.set i (.ownD o)) h1 := pr rfl
@[simp] theorem augS_ap {g : Int → Int → Int} : augS i g f δ h = (match δ[i]? with
  | some (.v (.int n)) => (f δ h).toS δ fun d h1 => match d with
    | .int m => .nx (δ.set i (.v (.int (g n m)))) h1
    | _ => .bad
  | _ => .bad) := pr rfl
@[simp] theorem consXD_ap {fd : DE → Bx → R OD} {gs : DE → Bx → R (List SV)} : consXD fd gs δ h = (fd δ h).bind fun d h1 => (gs δ h1).bind fun ds h2 => .ok (.ownD d :: ds) h2 := pr rfl
end
end LP
/-! LpRp: repr(e) of plain data. -/
namespace LP
open PySem PySem.Spec PyProof.Rows L2
section
variable {X : Cx} {G : Cfg} {W : WX} {σ : L2.St} {δ : DE} {M : Imm} {r : List Addr} {h : Bx} {H : Hp}
/-- d may be shown -/
def showOk (d : D) : Bool := d.pure && d.py.showable && decide (d.dep ≤ 60) && decide (d.py.shown.length ≤ big)
abbrev rRepr (K : PySem.W.Frag) : List V → Hp → VK → Prop := fun xs H Q => ∃ v d, xs = [v] ∧ Dp K H v d ∧ d.showable = true ∧ d.hasDict = false ∧ d.depth ≤ 60 ∧ d.shown.length ≤ sizeLine ∧ Q (.str d.shown) H
theorem call_reprD (hg : X.A.guards = some []) (hu : X.A.units + 64 < cLine) : CallR X (.builtin "repr") (rRepr X.K) := by
  intro pins s σ H xs us Q I rr h
  obtain ⟨v, d, rfl, hd, hs, hn, hz, hl, q⟩ := h
  cases rr with
  | cons r1 r2 =>
    rename_i u us'
    cases r2
    obtain ⟨as, rd⟩ := Dp.reads I d v u hd r1
    cases rd with
    | none => exact PySem.P.repr_of_none ⟨.str _, H, I.tok _, ⟨_, rfl⟩, q⟩
    | bool => exact PySem.P.repr_of_bool ⟨.str _, H, I.tok _, ⟨_, rfl⟩, q⟩
    | int => exact PySem.P.repr_of_int (by simpa [PyData.showable] using hs) ⟨.str _, H, I.tok _, ⟨_, rfl⟩, q⟩
    | str => exact PySem.P.repr_of_str ⟨.str _, H, I.tok _, ⟨_, rfl⟩, q⟩ hl
    | list a1 a2 a3 a4 => exact repr_of_reads' (.list a1 a2 a3 a4) hs (PyData.noDict_hsm hn) hg (by omega) (fun _ _ e => e) (fun h' u tk hk => ⟨.str _, H, I.kept hk, ⟨_, rfl⟩, q⟩) hl
    | tuple a1 a2 a3 a4 => exact repr_of_reads' (.tuple a1 a2 a3 a4) hs (PyData.noDict_hsm hn) hg (by omega) (fun _ _ e => e) (fun h' u tk hk => ⟨.str _, H, I.kept hk, ⟨_, rfl⟩, q⟩) hl
    | dict a1 a2 a3 a4 a5 => simp [PyData.hasDict] at hn
def reprK (ds : List D) (δ : DE) (h : Bx) : R D := match ds with
  | [d] => if showOk (vw δ h d) = true then .ok (.str (vw δ h d).py.shown) h else .bad
  | _ => .bad
mutual
theorem py_noDict : ∀ d : D, d.py.hasDict = false
  | .non => rfl
  | .bl _ => rfl
  | .int _ => rfl
  | .str _ => rfl
  | .tup ds => py_noDicts ds
  | .lst ds => py_noDicts ds
  | .ptr _ => rfl
  | .loc _ => rfl
  | .frz ds => py_noDicts ds
  | .lam _ => rfl
  | .fn _ => rfl
  | .dct _ _ => rfl
theorem py_noDicts : ∀ ds : List D, PyData.hasDictAll (D.pys ds) = false
  | [] => rfl
  | d :: ds => by
    show (d.py.hasDict || PyData.hasDictAll (D.pys ds)) = false
    rw [py_noDict d, py_noDicts ds]
    rfl
end
theorem reprK_ok : CallK G W (rRepr G.K) reprK := by
  intro σ δ M r h H vs ds Q b rv q
  unfold reprK at q
  split at q
  · rename_i d
    obtain ⟨v, rfl, e⟩ := one_rep rv
    split at q
    · rename_i z
      unfold showOk at z
      rw [Bool.and_eq_true, Bool.and_eq_true, Bool.and_eq_true, decide_eq_true_eq, decide_eq_true_eq] at z
      obtain ⟨⟨⟨z1, z2⟩, z3⟩, z4⟩ := z
      exact ⟨v, (vw δ h d).py, rfl, dp_of b e z1, z2, py_noDict _, by rw [depth_py]; exact z3, big_line z4, q.now b rfl⟩
    · exact q.elim
  · exact q.elim
theorem ev_repr {e : Expr} {fs : DE → Bx → R (List D)} {pos p : Pos} (hgd : X.A.guards = some []) (hu : X.A.units + 64 < cLine) (hK : X.K = G.K) (hg : Gl X "repr") (hm : X.mg "repr" = none) (ha : EvA X G W [e] fs)
    (he : starEach [e] X.env = (false, eval e X.env) :: starEach [] X.env := by rfl) (hpl : (backTo pos (starEach [] X.env)).any (·.1) = false := by rfl) : Ev X G W (.Call (.Name "repr" p) [e] [] pos) (blt reprK fs) :=
  ev_callB (call_reprD hgd hu) (by rw [hK]; exact reprK_ok) hg hm (by decide +kernel) ha (by decide) (by decide) he hpl
@[simp] theorem reprK_ap {d : D} : reprK [d] δ h = if showOk (vw δ h d) = true then .ok (.str (vw δ h d).py.shown) h else .bad := pr rfl
end
/-- small data may be shown -/
theorem shown_big {d : D} (h : d.py.leavesShort 13 = true) (w : d.py.weight ≤ 60000) : d.py.shown.length ≤ big := by
  have := PyData.shown_le 13 (by decide) d.py h
  have : big = 1000000 := rfl
  omega
/-- data of weight w at most, k deep at most, that may be shown -/
structure Sh (w k : Nat) (d : D) : Prop where
  p : d.pure = true
  s : d.py.showable = true
  l : d.py.leavesShort 13 = true
  w : d.py.weight ≤ w
  k : d.dep ≤ k
theorem Sh.ok {w k : Nat} {d : D} (x : Sh w k d) (hw : w ≤ 60000) (hk : k ≤ 60) : showOk d = true := by
  unfold showOk
  rw [x.p, x.s, decide_eq_true (Nat.le_trans x.k hk), decide_eq_true (shown_big x.l (Nat.le_trans x.w hw))]
  rfl
theorem sh_small : ∀ n, n ≤ 99 → (PyData.int (n : Nat)).showable = true ∧ (PyData.int (n : Nat)).leavesShort 13 = true ∧ (PyData.int (n : Nat)).weight ≤ 7 := by decide +kernel
theorem sh_int {n : Nat} (h : n ≤ 99) : Sh 7 0 (.int n) := by
  obtain ⟨a, b, c⟩ := sh_small n h
  exact ⟨rfl, a, b, c, Nat.le_refl _⟩
theorem sh_all {w k : Nat} : ∀ {ds : List D}, (∀ d ∈ ds, Sh w k d) → D.pures ds = true ∧ PyData.showableAll (D.pys ds) = true ∧ PyData.leavesShortAll 13 (D.pys ds) = true ∧ PyData.weightAll (D.pys ds) ≤ ds.length * (w + 1) ∧ D.deps ds ≤ k
  | [], _ => ⟨rfl, rfl, rfl, Nat.zero_le _, Nat.zero_le _⟩
  | d :: ds, h => by
    have x := h d (List.mem_cons_self ..)
    obtain ⟨a, b, c, e, f⟩ := sh_all fun y hy => h y (List.mem_cons_of_mem _ hy)
    have xw := x.w; have xk := x.k
    refine ⟨?_, ?_, ?_, ?_, ?_⟩
    · show (d.pure && D.pures ds) = true; rw [x.p, a]; rfl
    · show (d.py.showable && PyData.showableAll (D.pys ds)) = true; rw [x.s, b]; rfl
    · show (d.py.leavesShort 13 && PyData.leavesShortAll 13 (D.pys ds)) = true; rw [x.l, c]; rfl
    · show d.py.weight + 1 + PyData.weightAll (D.pys ds) ≤ (ds.length + 1) * (w + 1)
      rw [Nat.add_mul]; omega
    · show max d.dep (D.deps ds) ≤ k; omega
theorem sh_tup {w k m w' : Nat} {ds : List D} (h : ∀ d ∈ ds, Sh w k d) (hm : ds.length ≤ m) (hw : m * (w + 1) ≤ w') : Sh w' (k + 1) (.tup ds) := by
  obtain ⟨a, b, c, e, f⟩ := sh_all h
  have := Nat.mul_le_mul_right (w + 1) hm
  exact ⟨a, b, c, by show PyData.weightAll (D.pys ds) ≤ w'; omega, by show D.deps ds + 1 ≤ k + 1; omega⟩
theorem Sh.mono {w k w' k' : Nat} {d : D} (x : Sh w k d) (hw : w ≤ w') (hk : k ≤ k') : Sh w' k' d := ⟨x.p, x.s, x.l, Nat.le_trans x.w hw, Nat.le_trans x.k hk⟩
end LP
namespace LP
open PySem PySem.Spec PyProof.Rows L2 HT
/-- turns of a while at most -/
def wf : Nat := 1000000
/-- depth of a def's own calls at most -/
abbrev rf : Nat := 12
def topS (i : Nat) : Stmt := PySem.Challenge.pw_leastpromise_k01_whole_sheets_told_by_li.main.body.getD i (.Pass ⟨0, 0, 0, 0⟩)
abbrev xtab : List (Str × Str) := [("InvalidTable", "at"), ("InvalidLines", "at"), ("Refused", "at"), ("InvalidSize", "word")]
abbrev xbase : Str := "PromiseError"
abbrev i_InvalidTable : Stmt := clsInit (topS 2)
abbrev i_InvalidLines : Stmt := clsInit (topS 3)
abbrev i_Refused : Stmt := clsInit (topS 4)
abbrev i_InvalidSize : Stmt := clsInit (topS 5)
abbrev s_is_integer : Stmt := topS 7
abbrev N_is_integer : List Str := ["value"]
abbrev ps_is_integer : List Str := ["value"]
theorem sc_is_integer : FnScope N_is_integer ps_is_integer (defScope s_is_integer) := ⟨rfl, rfl, rfl, by decide +kernel, rfl, by decide +kernel, by decide +kernel⟩
abbrev s_is_number : Stmt := topS 8
abbrev N_is_number : List Str := ["value"]
abbrev ps_is_number : List Str := ["value"]
theorem sc_is_number : FnScope N_is_number ps_is_number (defScope s_is_number) := ⟨rfl, rfl, rfl, by decide +kernel, rfl, by decide +kernel, by decide +kernel⟩
abbrev s_is_below : Stmt := topS 9
abbrev N_is_below : List Str := ["value", "many"]
abbrev ps_is_below : List Str := ["value", "many"]
theorem sc_is_below : FnScope N_is_below ps_is_below (defScope s_is_below) := ⟨rfl, rfl, rfl, by decide +kernel, rfl, by decide +kernel, by decide +kernel⟩
abbrev s_is_sequence : Stmt := topS 10
abbrev N_is_sequence : List Str := ["value"]
abbrev ps_is_sequence : List Str := ["value"]
theorem sc_is_sequence : FnScope N_is_sequence ps_is_sequence (defScope s_is_sequence) := ⟨rfl, rfl, rfl, by decide +kernel, rfl, by decide +kernel, by decide +kernel⟩
abbrev s_need_size : Stmt := topS 13
abbrev N_need_size : List Str := ["value"]
abbrev ps_need_size : List Str := ["value"]
theorem sc_need_size : FnScope N_need_size ps_need_size (defScope s_need_size) := ⟨rfl, rfl, rfl, by decide +kernel, rfl, by decide +kernel, by decide +kernel⟩
abbrev s_need_table : Stmt := topS 14
abbrev N_need_table : List Str := ["size", "value", "at", "answer"]
abbrev ps_need_table : List Str := ["size", "value"]
theorem sc_need_table : FnScope N_need_table ps_need_table (defScope s_need_table) := ⟨rfl, rfl, rfl, by decide +kernel, rfl, by decide +kernel, by decide +kernel⟩
abbrev s_is_thing : Stmt := topS 15
abbrev N_is_thing : List Str := ["value", "one"]
abbrev ps_is_thing : List Str := ["value"]
theorem sc_is_thing : FnScope N_is_thing ps_is_thing (defScope s_is_thing) := ⟨rfl, rfl, rfl, by decide +kernel, rfl, by decide +kernel, by decide +kernel⟩
abbrev s_one_thing : Stmt := topS 16
abbrev N_one_thing : List Str := ["value"]
abbrev ps_one_thing : List Str := ["value"]
theorem sc_one_thing : FnScope N_one_thing ps_one_thing (defScope s_one_thing) := ⟨rfl, rfl, rfl, by decide +kernel, rfl, by decide +kernel, by decide +kernel⟩
abbrev s_met_cells : Stmt := topS 17
abbrev N_met_cells : List Str := ["size", "line", "one", "other", "ones", "others", "first", "second"]
abbrev ps_met_cells : List Str := ["size", "line"]
theorem sc_met_cells : FnScope N_met_cells ps_met_cells (defScope s_met_cells) := ⟨rfl, rfl, rfl, by decide +kernel, rfl, by decide +kernel, by decide +kernel⟩
abbrev s_is_line : Stmt := topS 18
abbrev N_is_line : List Str := ["size", "value", "one"]
abbrev ps_is_line : List Str := ["size", "value"]
theorem sc_is_line : FnScope N_is_line ps_is_line (defScope s_is_line) := ⟨rfl, rfl, rfl, by decide +kernel, rfl, by decide +kernel, by decide +kernel⟩
abbrev s_lines_sheet : Stmt := topS 19
abbrev N_lines_sheet : List Str := ["size", "lines", "told", "at", "line", "cell", "lacking"]
abbrev ps_lines_sheet : List Str := ["size", "lines"]
theorem sc_lines_sheet : FnScope N_lines_sheet ps_lines_sheet (defScope s_lines_sheet) := ⟨rfl, rfl, rfl, by decide +kernel, rfl, by decide +kernel, by decide +kernel⟩
abbrev s__law_box : Stmt := topS 21
abbrev N__law_box : List Str := ["_law_script", "_law_k", "_law_cell"]
abbrev ps__law_box : List Str := ["_law_script", "_law_k"]
theorem sc__law_box : FnScope N__law_box ps__law_box (defScope s__law_box) := ⟨rfl, rfl, rfl, by decide +kernel, rfl, by decide +kernel, by decide +kernel⟩
abbrev s__law_take : Stmt := topS 22
abbrev N__law_take : List Str := ["_law_box_here", "_law_many", "_law_digit", "_law_raw"]
abbrev ps__law_take : List Str := ["_law_box_here", "_law_many"]
theorem sc__law_take : FnScope N__law_take ps__law_take (defScope s__law_take) := ⟨rfl, rfl, rfl, by decide +kernel, rfl, by decide +kernel, by decide +kernel⟩
abbrev s__law_pick : Stmt := topS 23
abbrev N__law_pick : List Str := ["_law_box_here", "_law_some"]
abbrev ps__law_pick : List Str := ["_law_box_here", "_law_some"]
theorem sc__law_pick : FnScope N__law_pick ps__law_pick (defScope s__law_pick) := ⟨rfl, rfl, rfl, by decide +kernel, rfl, by decide +kernel, by decide +kernel⟩
abbrev s__law_thing : Stmt := topS 24
abbrev N__law_thing : List Str := ["_law_box_here"]
abbrev ps__law_thing : List Str := ["_law_box_here"]
theorem sc__law_thing : FnScope N__law_thing ps__law_thing (defScope s__law_thing) := ⟨rfl, rfl, rfl, by decide +kernel, rfl, by decide +kernel, by decide +kernel⟩
abbrev s__law_due : Stmt := topS 25
abbrev N__law_due : List Str := ["_law_size", "_law_lines", "_law_sheet", "_law_cell", "_law_met", "_law_line"]
abbrev ps__law_due : List Str := ["_law_size", "_law_lines"]
theorem sc__law_due : FnScope N__law_due ps__law_due (defScope s__law_due) := ⟨rfl, rfl, rfl, by decide +kernel, rfl, by decide +kernel, by decide +kernel⟩
abbrev s__law_told : Stmt := topS 26
abbrev N__law_told : List Str := ["_law_work", "e"]
abbrev ps__law_told : List Str := ["_law_work"]
theorem sc__law_told : FnScope N__law_told ps__law_told (defScope s__law_told) := ⟨rfl, rfl, rfl, by decide +kernel, rfl, by decide +kernel, by decide +kernel⟩
abbrev s_law : Stmt := topS 27
abbrev N_law : List Str := ["_law_script", "_law_k", "_law_box_here", "_law_size", "_law_heads", "_law_lines", "_law_turn", "_law_line", "_law_due_here", "_law_at", "_law_bad", "_law_table", "_law_odd", "_law_wrong", "_law_cell"]
abbrev ps_law : List Str := ["_law_script"]
theorem sc_law : FnScope N_law ps_law (defScope s_law) := ⟨rfl, rfl, rfl, by decide +kernel, rfl, by decide +kernel, by decide +kernel⟩
abbrev qn_law : Str := (envOfC "law" (defScope s_law) 0 0 .none).qual ++ "<lambda>"
def sf_is_integer  : SF := (retS (andV (isiF ["int"] (varF 0)) (notV (isiF ["bool"] (varF 0)))))
def F_is_integer : List D → Bx → R D := runF N_is_integer.length sf_is_integer
def sf_is_number  : SF := (retS (andV (callF (nArgs 1 F_is_integer) (consA (varF 0) nilA)) (bin2 geK (varF 0) (cF (.int 0)))))
def F_is_number : List D → Bx → R D := runF N_is_number.length sf_is_number
def sf_is_below  : SF := (retS (andV (callF (nArgs 1 F_is_number) (consA (varF 0) nilA)) (bin2 ltK (varF 0) (varF 1))))
def F_is_below : List D → Bx → R D := runF N_is_below.length sf_is_below
def sf_is_sequence  : SF := (retS (isiF ["list", "tuple"] (varF 0)))
def F_is_sequence : List D → Bx → R D := runF N_is_sequence.length sf_is_sequence
def sf_need_size  : SF := (seqS (ifS (orT (notT (testF (callF (nArgs 1 F_is_integer) (consA (varF 0) nilA)))) (notT (testF (chainF leK leK (cF (.int 2)) (varF 0) (cF (.int 3))))))
    (raiseS "InvalidSize" "word" (cF (.str "size")))
    (fun δ h => .nx δ h))
    (retS (varF 0)))
def F_need_size : List D → Bx → R D := runF N_need_size.length sf_need_size
def sf_need_table  : SF := (seqS (setS 0 (callF (nArgs 1 F_need_size) (consA (varF 0) nilA)))
    (seqS (ifS (orT (notT (testF (callF (nArgs 1 F_is_sequence) (consA (varF 1) nilA)))) (testF (bin2 (eqK true) (blt lenK (consA (varF 1) nilA)) (bin2 mulA (varF 0) (varF 0)))))
    (raiseS "InvalidTable" "at" (negF (cF (.int 1))))
    (fun δ h => .nx δ h))
    (seqS (forS (fun δ h => ((consA (varF 1) nilA) δ h).bind fun ds h1 => enumK ds δ h1) (tupU 2 (consU (nameU 2) (consU (nameU 3) nilU)))
    (ifS (notT (testF (callF (nArgs 2 F_is_below) (consA (varF 3) (consA (varF 0) nilA)))))
    (raiseS "InvalidTable" "at" (varF 2))
    (fun δ h => .nx δ h)))
    (retS (blt tupK (consA (varF 1) nilA))))))
def F_need_table : List D → Bx → R D := runF N_need_table.length sf_need_table
def sf_is_thing  : SF := (retS (orV (callF (nArgs 1 F_is_number) (consA (varF 0) nilA)) (andV (callF (nArgs 1 F_is_sequence) (consA (varF 0) nilA)) (blt allK (consA (valN (lcN (itemsI (varF 0)) [1] (nameU 1) yesF (callF (nArgs 1 F_is_number) (consA (varF 1) nilA)))) nilA)))))
def F_is_thing : List D → Bx → R D := runF N_is_thing.length sf_is_thing
def sf_one_thing  : SF := (retS (iteF (testF (callF (nArgs 1 F_is_number) (consA (varF 0) nilA))) (varF 0) (blt tupK (consA (varF 0) nilA))))
def F_one_thing : List D → Bx → R D := runF N_one_thing.length sf_one_thing
def sf_met_cells  : SF := (seqS (asgS (tupU 2 (consU (nameU 2) (consU (nameU 3) nilU))) (slF (varF 1) noO (someO (cF (.int 2)))))
    (seqS (setS 4 (iteF (testF (bin2 isNK (varF 2) (cF .non))) (valN (listRgN (rg1F (varF 0)))) (lstF (consA (varF 2) nilA))))
    (seqS (setS 5 (iteF (testF (bin2 isNK (varF 3) (cF .non))) (valN (listRgN (rg1F (varF 0)))) (lstF (consA (varF 3) nilA))))
    (retS (valN (lc2N (itemsI (varF 4)) [6, 7] (nameU 6) yesF (itemsI (varF 5)) [7] (nameU 7) yesF (bin2 addK (bin2 mulA (varF 6) (varF 0)) (varF 7))))))))
def F_met_cells : List D → Bx → R D := runF N_met_cells.length sf_met_cells
def sf_is_line  : SF := (seqS (ifS (orT (notT (testF (callF (nArgs 1 F_is_sequence) (consA (varF 1) nilA)))) (orT (testF (bin2 (eqK true) (blt lenK (consA (varF 1) nilA)) (cF (.int 3)))) (notT (testF (callF (nArgs 1 F_is_thing) (consA (bin2 ixK (varF 1) (cF (.int 2))) nilA))))))
    (retS (cF (.bl false)))
    (fun δ h => .nx δ h))
    (retS (blt allK (consA (valN (lcN (itemsI (slF (varF 1) noO (someO (cF (.int 2))))) [2] (nameU 2) yesF (orV (bin2 isNK (varF 2) (cF .non)) (callF (nArgs 2 F_is_below) (consA (varF 2) (consA (varF 0) nilA)))))) nilA))))
def F_is_line : List D → Bx → R D := runF N_is_line.length sf_is_line
def sf_lines_sheet  : SF := (seqS (parS [0, 2] (consX (callF (nArgs 1 F_need_size) (consA (varF 0) nilA)) (consXD (fun _ h => .ok (.k []) h) nilX)))
    (seqS (ifS (notT (testF (callF (nArgs 1 F_is_sequence) (consA (varF 1) nilA))))
    (raiseS "InvalidLines" "at" (negF (cF (.int 1))))
    (fun δ h => .nx δ h))
    (seqS (forS (fun δ h => ((consA (varF 1) nilA) δ h).bind fun ds h1 => enumK ds δ h1) (tupU 2 (consU (nameU 3) (consU (nameU 4) nilU)))
    (seqS (ifS (notT (testF (callF (nArgs 2 F_is_line) (consA (varF 0) (consA (varF 4) nilA)))))
    (raiseS "InvalidLines" "at" (varF 3))
    (fun δ h => .nx δ h))
    (forS (itemsI (callF (nArgs 2 F_met_cells) (consA (varF 0) (consA (varF 4) nilA)))) (nameU 5)
    (dsetS 2 (varF 5) (callF (nArgs 1 F_one_thing) (consA (bin2 ixK (varF 4) (cF (.int 2))) nilA))))))
    (seqS (ownS 6 (lcN (fun δ h => ((consA (bin2 mulA (varF 0) (varF 0)) nilA) δ h).bind rg1K) [5] (nameU 5) (testF (dinF true 2 (varF 5))) (varF 5)))
    (seqS (ifS (testF (bin2 gtK (blt lenK (consA (varF 6) nilA)) (cF (.int 0))))
    (raiseS "Refused" "at" (bin2 ixK (varF 6) (cF (.int 0))))
    (fun δ h => .nx δ h))
    (retS (blt tupK (consA (valN (lcN (fun δ h => ((consA (bin2 mulA (varF 0) (varF 0)) nilA) δ h).bind rg1K) [5] (nameU 5) yesF (dixF 2 (varF 5)))) nilA))))))))
def F_lines_sheet : List D → Bx → R D := runF N_lines_sheet.length sf_lines_sheet
def sf__law_box  : SF := (seqS (setS 2 (bin2 addK (bin2 mulA (cF (.int 4133)) (varF 1)) (cF (.int 311))))
    (seqS (ifS (testF (bin2 ltK (varF 1) (blt lenK (consA (varF 0) nilA))))
    (setS 2 (blt absK (consA (bin2 ixK (varF 0) (varF 1)) nilA)))
    (ifS (testF (bin2 gtK (blt lenK (consA (varF 0) nilA)) (cF (.int 0))))
    (setS 2 (bin2 addK (varF 2) (bin2 mulA (bin2 modK (blt intK (consA (blt absK (consA (bin2 ixK (varF 0) (bin2 modK (blt intK (consA (varF 1) nilA)) (blt lenK (consA (varF 0) nilA)))) nilA)) nilA)) (cF (.int 2147483629))) (cF (.int 70009)))))
    (fun δ h => .nx δ h)))
    (retS (boxN (lstN (consA (bin2 ixK (lstF (consA (cF (.int 0)) (consA (varF 2) nilA))) (blt intK (consA (bin2 geK (varF 2) (bin2 powK (cF (.int 10)) (cF (.int 18)))) nilA))) (consA (bin2 addK (bin2 modK (blt intK (consA (bin2 addK (bin2 mulA (bin2 modK (blt intK (consA (varF 2) nilA)) (cF (.int 2147483629))) (cF (.int 44017))) (bin2 mulA (cF (.int 53089)) (varF 1))) nilA)) (cF (.int 2147483629))) (cF (.int 1))) (consA (cF (.int 0)) nilA))))))))
def F__law_box : List D → Bx → R D := runF N__law_box.length sf__law_box
def sf__law_take  : SF := (seqS (ifS (testF (bin2 gtK (bin2 ixK (varF 0) (cF (.int 0))) (cF (.int 0))))
    (seqS (setS 2 (bin2 modK (blt intK (consA (bin2 ixK (varF 0) (cF (.int 0))) nilA)) (varF 1)))
    (seqS (setiS 0 (cF (.int 0)) (bin2 divK (bin2 ixK (varF 0) (cF (.int 0))) (varF 1)))
    (retS (varF 2))))
    (fun δ h => .nx δ h))
    (seqS (setiS 0 (cF (.int 2)) (bin2 addK (bin2 ixK (varF 0) (cF (.int 2))) (cF (.int 1))))
    (seqS (setS 3 (bin2 modK (blt intK (consA (bin2 addK (bin2 mulA (bin2 addK (bin2 ixK (varF 0) (cF (.int 1))) (bin2 mulA (cF (.int 70001)) (bin2 ixK (varF 0) (cF (.int 2))))) (cF (.int 61211))) (cF (.int 37))) nilA)) (cF (.int 2147483563))))
    (seqS (setiS 0 (cF (.int 1)) (bin2 addK (bin2 modK (blt intK (consA (bin2 addK (bin2 mulA (varF 3) (cF (.int 38011))) (cF (.int 23057))) nilA)) (cF (.int 2147483629))) (cF (.int 1))))
    (retS (bin2 modK (blt intK (consA (bin2 divK (bin2 addK (bin2 mulA (varF 3) (cF (.int 2147483647))) (bin2 ixK (varF 0) (cF (.int 1)))) (cF (.int 8191))) nilA)) (varF 1)))))))
def F__law_take : List D → Bx → R D := runF N__law_take.length sf__law_take
def sf__law_pick  : SF := (retS (bin2 ixK (varF 1) (callF (nArgs 2 F__law_take) (consA (varF 0) (consA (blt lenK (consA (varF 1) nilA)) nilA)))))
def F__law_pick : List D → Bx → R D := runF N__law_pick.length sf__law_pick
def sf__law_thing  : SF := (retS (callF (nArgs 2 F__law_pick) (consA (varF 0) (consA (lstF (consA (cF (.int 0)) (consA (cF (.int 1)) (consA (cF (.int 7)) (consA (tupF (consA (cF (.int 1)) (consA (cF (.int 0)) nilA))) (consA (lstF (consA (cF (.int 1)) (consA (cF (.int 0)) nilA))) (consA (tupF (consA (cF (.int 2)) (consA (cF (.int 0)) nilA))) (consA (tupF nilA) nilA)))))))) nilA))))
def F__law_thing : List D → Bx → R D := runF N__law_thing.length sf__law_thing
def sf__law_due  : SF := (seqS (ownS 2 (lstN nilA))
    (seqS (forS (fun δ h => ((consA (bin2 mulA (varF 0) (varF 0)) nilA) δ h).bind rg1K) (nameU 3)
    (seqS (ownS 4 (lcN (itemsI (varF 1)) [5] (nameU 5) (andT (testF (bin2 (inK false) (bin2 ixK (varF 5) (cF (.int 0))) (tupF (consA (cF .non) (consA (bin2 divK (varF 3) (varF 0)) nilA))))) (testF (bin2 (inK false) (bin2 ixK (varF 5) (cF (.int 1))) (tupF (consA (cF .non) (consA (bin2 modK (varF 3) (varF 0)) nilA)))))) (bin2 ixK (varF 5) (cF (.int 2)))))
    (seqS (ifS (testF (bin2 (eqK false) (varF 4) (lstF nilA)))
    (retS (tupF (consA (cF (.str "refused")) (consA (varF 3) nilA))))
    (fun δ h => .nx δ h))
    (appS 2 (iteF (testF (isiF ["int"] (bin2 ixK (varF 4) (negF (cF (.int 1)))))) (bin2 ixK (varF 4) (negF (cF (.int 1)))) (blt tupK (consA (bin2 ixK (varF 4) (negF (cF (.int 1)))) nilA)))))))
    (retS (blt tupK (consA (varF 2) nilA)))))
def F__law_due : List D → Bx → R D := runF N__law_due.length sf__law_due
def sf__law_told (Λ : Nat → Bx → R D) : SF := (tryS xtab xbase (retS (actF Λ 0)) (("InvalidLines", fun fs δ h => dropE 1 (retS (xtF "at" (.str "lines") fs) (δ.set 1 .no) h)) :: (("InvalidTable", fun fs δ h => dropE 1 (retS (xtF "at" (.str "table") fs) (δ.set 1 .no) h)) :: (("InvalidSize", fun fs δ h => dropE 1 (retS (xtF "word" (.str "size") fs) (δ.set 1 .no) h)) :: (("Refused", fun fs δ h => dropE 1 (retS (xtF "at" (.str "refused") fs) (δ.set 1 .no) h)) :: [])))))
abbrev ld_law_0 : LamD := lamOf (inAt (inAt (exAt (stAt s_law 0 1) 0) 0) 1)
def lf_law_0 : EF := (callF (nArgs 2 F_lines_sheet) (consA (cF (.int 2)) (consA (lstF (consA (tupF (consA (cF (.int 0)) (consA (cF .non) (consA (cF (.int 0)) nilA)))) nilA)) nilA)))
theorem ls_law_0 : LamX.LamS (defScope s_law) ld_law_0.scope := LamX.lamS_by (by decide +kernel)
abbrev ld_law_1 : LamD := lamOf (inAt (inAt (inAt (exAt (stAt (stAt s_law 0 2) 0 7) 0) 0) 1) 1)
def lf_law_1 : EF := (callKwF 2 [1, 0] F_lines_sheet (consA (blt tupK (consA (varF 5) nilA)) (consA (varF 3) nilA)))
theorem ls_law_1 : LamX.LamS (defScope s_law) ld_law_1.scope := LamX.lamS_by (by decide +kernel)
abbrev ld_law_2 : LamD := lamOf (inAt (inAt (exAt (stAt (stAt s_law 0 2) 0 10) 0) 0) 1)
def lf_law_2 : EF := (callF (nArgs 2 F_lines_sheet) (consA (varF 3) (consA (bin2 addK (bin2 addK (slF (varF 5) noO (someO (varF 9))) (lstF (consA (varF 10) nilA))) (slF (varF 5) (someO (varF 9)) noO)) nilA)))
theorem ls_law_2 : LamX.LamS (defScope s_law) ld_law_2.scope := LamX.lamS_by (by decide +kernel)
abbrev ld_law_3 : LamD := lamOf (inAt (inAt (exAt (stAt (stAt s_law 0 2) 0 11) 0) 0) 1)
def lf_law_3 : EF := (callF (nArgs 2 F_lines_sheet) (consA (varF 3) (consA (callF (nArgs 2 F__law_pick) (consA (varF 2) (consA (lstF (consA (cF .non) (consA (cF (.int 5)) (consA (cF (.str "ab")) nilA)))) nilA))) nilA)))
theorem ls_law_3 : LamX.LamS (defScope s_law) ld_law_3.scope := LamX.lamS_by (by decide +kernel)
abbrev ld_law_4 : LamD := lamOf (inAt (inAt (exAt (stAt (stAt s_law 0 2) 0 16) 0) 0) 1)
def lf_law_4 : EF := (callF (nArgs 2 F_need_table) (consA (varF 3) (consA (varF 12) nilA)))
theorem ls_law_4 : LamX.LamS (defScope s_law) ld_law_4.scope := LamX.lamS_by (by decide +kernel)
abbrev ld_law_5 : LamD := lamOf (inAt (inAt (exAt (stAt (stAt s_law 0 2) 0 17) 0) 0) 1)
def lf_law_5 : EF := (callF (nArgs 2 F_need_table) (consA (varF 3) (consA (callF (nArgs 2 F__law_pick) (consA (varF 2) (consA (lstF (consA (cF .non) (consA (slF (varF 11) (someO (cF (.int 1))) noO) (consA (cF (.int 3)) nilA)))) nilA))) nilA)))
theorem ls_law_5 : LamX.LamS (defScope s_law) ld_law_5.scope := LamX.lamS_by (by decide +kernel)
abbrev ld_law_6 : LamD := lamOf (inAt (inAt (exAt (stAt (stAt s_law 0 2) 0 19) 0) 0) 1)
def lf_law_6 : EF := (callF (nArgs 1 F_need_size) (consA (varF 13) nilA))
theorem ls_law_6 : LamX.LamS (defScope s_law) ld_law_6.scope := LamX.lamS_by (by decide +kernel)
abbrev ld_law_7 : LamD := lamOf (inAt (inAt (exAt (stAt (stAt s_law 0 2) 0 20) 0) 0) 1)
def lf_law_7 : EF := (callF (nArgs 2 F_lines_sheet) (consA (varF 13) (consA (cF .non) nilA)))
theorem ls_law_7 : LamX.LamS (defScope s_law) ld_law_7.scope := LamX.lamS_by (by decide +kernel)
abbrev ld_law_8 : LamD := lamOf (inAt (inAt (exAt (stAt (stAt s_law 0 2) 0 21) 0) 0) 1)
def lf_law_8 : EF := (callF (nArgs 2 F_need_table) (consA (varF 13) (consA (cF .non) nilA)))
theorem ls_law_8 : LamX.LamS (defScope s_law) ld_law_8.scope := LamX.lamS_by (by decide +kernel)
abbrev lt_law : List LamD := [ld_law_0, ld_law_1, ld_law_2, ld_law_3, ld_law_4, ld_law_5, ld_law_6, ld_law_7, ld_law_8]
def bod_law (k : Nat) : EF := match k with
  | 0 => lf_law_0
  | 1 => lf_law_1
  | 2 => lf_law_2
  | 3 => lf_law_3
  | 4 => lf_law_4
  | 5 => lf_law_5
  | 6 => lf_law_6
  | 7 => lf_law_7
  | 8 => lf_law_8
  | _ => fun _ _ => .bad
def sf_law  : SF := (seqS (ifS (testF (bin2 (eqK true) (callF (nArgs 2 F_lines_sheet) (consA (cF (.int 2)) (consA (lstF (consA (tupF (consA (cF .non) (consA (cF .non) (consA (cF (.int 0)) nilA)))) (consA (tupF (consA (cF (.int 1)) (consA (cF .non) (consA (cF (.int 1)) nilA)))) (consA (lstF (consA (cF .non) (consA (cF (.int 0)) (consA (tupF (consA (cF (.int 3)) (consA (cF (.int 4)) nilA))) nilA)))) nilA)))) nilA))) (tupF (consA (tupF (consA (cF (.int 3)) (consA (cF (.int 4)) nilA))) (consA (cF (.int 0)) (consA (tupF (consA (cF (.int 3)) (consA (cF (.int 4)) nilA))) (consA (cF (.int 1)) nilA)))))))
    (retS (cF (.bl false)))
    (fun δ h => .nx δ h))
    (seqS (ifS (testF (bin2 (eqK true) (fun δ h => ((cF (.lam 0)) δ h).bind fun d h1 => heardF bod_law N__law_told.length sf__law_told δ d h1) (tupF (consA (cF (.str "refused")) (consA (cF (.int 2)) nilA)))))
    (retS (cF (.bl false)))
    (fun δ h => .nx δ h))
    (seqS (forS (fun δ h => ((consA (cF (.int 3)) nilA) δ h).bind rg1K) (nameU 1)
    (seqS (setS 2 (callF (nArgs 2 F__law_box) (consA (varF 0) (consA (varF 1) nilA))))
    (seqS (setS 3 (bin2 addK (cF (.int 2)) (callF (nArgs 2 F__law_take) (consA (varF 2) (consA (cF (.int 2)) nilA)))))
    (seqS (setS 4 (bin2 addK (lstF (consA (cF .non) nilA)) (valN (listRgN (rg1F (varF 3))))))
    (seqS (ownS 5 (lstN nilA))
    (seqS (forS (fun δ h => ((consA (bin2 addK (cF (.int 1)) (callF (nArgs 2 F__law_take) (consA (varF 2) (consA (cF (.int 6)) nilA)))) nilA) δ h).bind rg1K) (nameU 6)
    (seqS (setS 7 (tupF (consA (callF (nArgs 2 F__law_pick) (consA (varF 2) (consA (varF 4) nilA))) (consA (callF (nArgs 2 F__law_pick) (consA (varF 2) (consA (varF 4) nilA))) (consA (callF (nArgs 1 F__law_thing) (consA (varF 2) nilA)) nilA)))))
    (appS 5 (callF (nArgs 2 F__law_pick) (consA (varF 2) (consA (lstF (consA (varF 7) (consA (valN (listN (consA (varF 7) nilA))) nilA))) nilA))))))
    (seqS (ifS (testF (bin2 gtK (callF (nArgs 2 F__law_take) (consA (varF 2) (consA (cF (.int 4)) nilA))) (cF (.int 0))))
    (ownS 5 (addN (lstF (consA (tupF (consA (cF .non) (consA (cF .non) (consA (callF (nArgs 1 F__law_thing) (consA (varF 2) nilA)) nilA)))) nilA)) (varF 5)))
    (fun δ h => .nx δ h))
    (seqS (frzS 5 (setS 8 (callF (nArgs 2 F__law_due) (consA (varF 3) (consA (varF 5) nilA)))))
    (seqS (ifS (testF (bin2 (eqK true) (blt reprK (consA (fun δ h => ((cF (.lam 1)) δ h).bind fun d h1 => heardF bod_law N__law_told.length sf__law_told δ d h1) nilA)) (blt reprK (consA (varF 8) nilA))))
    (retS (cF (.bl false)))
    (fun δ h => .nx δ h))
    (seqS (setS 9 (callF (nArgs 2 F__law_take) (consA (varF 2) (consA (bin2 addK (blt lenK (consA (varF 5) nilA)) (cF (.int 1))) nilA))))
    (seqS (setS 10 (callF (nArgs 2 F__law_pick) (consA (varF 2) (consA (lstF (consA (cF .non) (consA (tupF (consA (cF (.int 0)) (consA (cF (.int 0)) nilA))) (consA (tupF (consA (varF 3) (consA (cF (.int 0)) (consA (cF (.int 0)) nilA)))) (consA (tupF (consA (cF (.int 0)) (consA (negF (cF (.int 1))) (consA (cF (.int 0)) nilA)))) (consA (tupF (consA (cF (.int 0)) (consA (cF (.bl true)) (consA (cF (.int 0)) nilA)))) (consA (tupF (consA (cF (.int 0)) (consA (cF (.int 0)) (consA (negF (cF (.int 1))) nilA)))) (consA (tupF (consA (cF (.int 0)) (consA (cF (.int 0)) (consA (cF (.str "0")) nilA)))) (consA (tupF (consA (cF (.int 0)) (consA (cF (.int 0)) (consA (cF .non) nilA)))) (consA (tupF (consA (cF (.int 0)) (consA (cF (.int 0)) (consA (tupF (consA (cF (.int 0)) (consA (cF .non) nilA))) nilA)))) (consA (cF (.str "000")) nilA))))))))))) nilA))))
    (seqS (ifS (testF (bin2 (eqK true) (fun δ h => ((cF (.lam 2)) δ h).bind fun d h1 => heardF bod_law N__law_told.length sf__law_told δ d h1) (tupF (consA (cF (.str "lines")) (consA (varF 9) nilA)))))
    (retS (cF (.bl false)))
    (fun δ h => .nx δ h))
    (seqS (ifS (testF (bin2 (eqK true) (fun δ h => ((cF (.lam 3)) δ h).bind fun d h1 => heardF bod_law N__law_told.length sf__law_told δ d h1) (tupF (consA (cF (.str "lines")) (consA (negF (cF (.int 1))) nilA)))))
    (retS (cF (.bl false)))
    (fun δ h => .nx δ h))
    (seqS (setS 11 (valN (lcN (fun δ h => ((consA (bin2 mulA (varF 3) (varF 3)) nilA) δ h).bind rg1K) [14] (nameU 14) yesF (callF (nArgs 2 F__law_take) (consA (varF 2) (consA (varF 3) nilA))))))
    (seqS (ifS (orT (testF (bin2 (eqK true) (callKwF 2 [1, 0] F_need_table (consA (varF 11) (consA (varF 3) nilA))) (blt tupK (consA (varF 11) nilA)))) (testF (bin2 (eqK true) (callKwF 1 [0] F_need_size (consA (varF 3) nilA)) (varF 3))))
    (retS (cF (.bl false)))
    (fun δ h => .nx δ h))
    (seqS (setS 9 (callF (nArgs 2 F__law_take) (consA (varF 2) (consA (bin2 mulA (varF 3) (varF 3)) nilA))))
    (seqS (setS 12 (bin2 addK (bin2 addK (slF (varF 11) noO (someO (varF 9))) (lstF (consA (callF (nArgs 2 F__law_pick) (consA (varF 2) (consA (lstF (consA (cF .non) (consA (varF 3) (consA (negF (cF (.int 1))) (consA (cF (.bl true)) (consA (cF (.str "0")) nilA)))))) nilA))) nilA))) (slF (varF 11) (someO (bin2 addK (varF 9) (cF (.int 1)))) noO)))
    (seqS (ifS (testF (bin2 (eqK true) (fun δ h => ((cF (.lam 4)) δ h).bind fun d h1 => heardF bod_law N__law_told.length sf__law_told δ d h1) (tupF (consA (cF (.str "table")) (consA (varF 9) nilA)))))
    (retS (cF (.bl false)))
    (fun δ h => .nx δ h))
    (seqS (ifS (testF (bin2 (eqK true) (fun δ h => ((cF (.lam 5)) δ h).bind fun d h1 => heardF bod_law N__law_told.length sf__law_told δ d h1) (tupF (consA (cF (.str "table")) (consA (negF (cF (.int 1))) nilA)))))
    (retS (cF (.bl false)))
    (fun δ h => .nx δ h))
    (seqS (setS 13 (callF (nArgs 2 F__law_pick) (consA (varF 2) (consA (lstF (consA (cF .non) (consA (cF (.int 1)) (consA (cF (.int 4)) (consA (cF (.bl true)) (consA (cF (.str "2")) nilA)))))) nilA))))
    (seqS (ifS (testF (bin2 (eqK true) (fun δ h => ((cF (.lam 6)) δ h).bind fun d h1 => heardF bod_law N__law_told.length sf__law_told δ d h1) (tupF (consA (cF (.str "size")) (consA (cF (.str "size")) nilA)))))
    (retS (cF (.bl false)))
    (fun δ h => .nx δ h))
    (seqS (ifS (testF (bin2 (eqK true) (fun δ h => ((cF (.lam 7)) δ h).bind fun d h1 => heardF bod_law N__law_told.length sf__law_told δ d h1) (tupF (consA (cF (.str "size")) (consA (cF (.str "size")) nilA)))))
    (retS (cF (.bl false)))
    (fun δ h => .nx δ h))
    (ifS (testF (bin2 (eqK true) (fun δ h => ((cF (.lam 8)) δ h).bind fun d h1 => heardF bod_law N__law_told.length sf__law_told δ d h1) (tupF (consA (cF (.str "size")) (consA (cF (.str "size")) nilA)))))
    (retS (cF (.bl false)))
    (fun δ h => .nx δ h))))))))))))))))))))))))
    (retS (cF (.bl true))))))
def F_law : List D → Bx → R D := runF N_law.length sf_law
structure Pk (P : Program) (w : World) (K : PySem.W.Frag) (mg : Str → Option Value) (base : Heap) where
  tb : List (Addr × Str)
  a_is_integer : Addr
  fd_is_integer : FuncData
  F_is_integer : Fun K "is_integer" "is_integer" s_is_integer a_is_integer fd_is_integer
  g_is_integer : mg "is_integer" = some (.ref a_is_integer)
  b_is_integer : Binds K fd_is_integer ps_is_integer []
  a_is_number : Addr
  fd_is_number : FuncData
  F_is_number : Fun K "is_number" "is_number" s_is_number a_is_number fd_is_number
  g_is_number : mg "is_number" = some (.ref a_is_number)
  b_is_number : Binds K fd_is_number ps_is_number []
  a_is_below : Addr
  fd_is_below : FuncData
  F_is_below : Fun K "is_below" "is_below" s_is_below a_is_below fd_is_below
  g_is_below : mg "is_below" = some (.ref a_is_below)
  b_is_below : Binds K fd_is_below ps_is_below []
  a_is_sequence : Addr
  fd_is_sequence : FuncData
  F_is_sequence : Fun K "is_sequence" "is_sequence" s_is_sequence a_is_sequence fd_is_sequence
  g_is_sequence : mg "is_sequence" = some (.ref a_is_sequence)
  b_is_sequence : Binds K fd_is_sequence ps_is_sequence []
  a_need_size : Addr
  fd_need_size : FuncData
  F_need_size : Fun K "need_size" "need_size" s_need_size a_need_size fd_need_size
  g_need_size : mg "need_size" = some (.ref a_need_size)
  b_need_size : Binds K fd_need_size ps_need_size []
  a_need_table : Addr
  fd_need_table : FuncData
  F_need_table : Fun K "need_table" "need_table" s_need_table a_need_table fd_need_table
  g_need_table : mg "need_table" = some (.ref a_need_table)
  b_need_table : Binds K fd_need_table ps_need_table []
  a_is_thing : Addr
  fd_is_thing : FuncData
  F_is_thing : Fun K "is_thing" "is_thing" s_is_thing a_is_thing fd_is_thing
  g_is_thing : mg "is_thing" = some (.ref a_is_thing)
  b_is_thing : Binds K fd_is_thing ps_is_thing []
  a_one_thing : Addr
  fd_one_thing : FuncData
  F_one_thing : Fun K "one_thing" "one_thing" s_one_thing a_one_thing fd_one_thing
  g_one_thing : mg "one_thing" = some (.ref a_one_thing)
  b_one_thing : Binds K fd_one_thing ps_one_thing []
  a_met_cells : Addr
  fd_met_cells : FuncData
  F_met_cells : Fun K "met_cells" "met_cells" s_met_cells a_met_cells fd_met_cells
  g_met_cells : mg "met_cells" = some (.ref a_met_cells)
  b_met_cells : Binds K fd_met_cells ps_met_cells []
  a_is_line : Addr
  fd_is_line : FuncData
  F_is_line : Fun K "is_line" "is_line" s_is_line a_is_line fd_is_line
  g_is_line : mg "is_line" = some (.ref a_is_line)
  b_is_line : Binds K fd_is_line ps_is_line []
  a_lines_sheet : Addr
  fd_lines_sheet : FuncData
  F_lines_sheet : Fun K "lines_sheet" "lines_sheet" s_lines_sheet a_lines_sheet fd_lines_sheet
  g_lines_sheet : mg "lines_sheet" = some (.ref a_lines_sheet)
  b_lines_sheet : Binds K fd_lines_sheet ps_lines_sheet []
  a__law_box : Addr
  fd__law_box : FuncData
  F__law_box : Fun K "_law_box" "_law_box" s__law_box a__law_box fd__law_box
  g__law_box : mg "_law_box" = some (.ref a__law_box)
  b__law_box : Binds K fd__law_box ps__law_box []
  a__law_take : Addr
  fd__law_take : FuncData
  F__law_take : Fun K "_law_take" "_law_take" s__law_take a__law_take fd__law_take
  g__law_take : mg "_law_take" = some (.ref a__law_take)
  b__law_take : Binds K fd__law_take ps__law_take []
  a__law_pick : Addr
  fd__law_pick : FuncData
  F__law_pick : Fun K "_law_pick" "_law_pick" s__law_pick a__law_pick fd__law_pick
  g__law_pick : mg "_law_pick" = some (.ref a__law_pick)
  b__law_pick : Binds K fd__law_pick ps__law_pick []
  a__law_thing : Addr
  fd__law_thing : FuncData
  F__law_thing : Fun K "_law_thing" "_law_thing" s__law_thing a__law_thing fd__law_thing
  g__law_thing : mg "_law_thing" = some (.ref a__law_thing)
  b__law_thing : Binds K fd__law_thing ps__law_thing []
  a__law_due : Addr
  fd__law_due : FuncData
  F__law_due : Fun K "_law_due" "_law_due" s__law_due a__law_due fd__law_due
  g__law_due : mg "_law_due" = some (.ref a__law_due)
  b__law_due : Binds K fd__law_due ps__law_due []
  a__law_told : Addr
  fd__law_told : FuncData
  F__law_told : Fun K "_law_told" "_law_told" s__law_told a__law_told fd__law_told
  g__law_told : mg "_law_told" = some (.ref a__law_told)
  b__law_told : Binds K fd__law_told ps__law_told []
  a_law : Addr
  fd_law : FuncData
  F_law : Fun K "law" "law" s_law a_law fd_law
  g_law : mg "law" = some (.ref a_law)
  b_law : Binds K fd_law ps_law []
  ca_law : Addr
  P_law : Addr
  C_law : FunC K "law" s_law a_law fd_law ca_law
  tb_law : LamX.TabB base mg ca_law P_law
  tm_law : (P_law, qn_law) ∈ tb
  tu_law : ∀ p ∈ tb, p.1 = P_law → p.2 = qn_law
  kw_lines_sheet_1_0 : KwB fd_lines_sheet ps_lines_sheet ["lines", "size"] [1, 0]
  kw_need_table_1_0 : KwB fd_need_table ps_need_table ["value", "size"] [1, 0]
  kw_need_size_0 : KwB fd_need_size ps_need_size ["value"] [0]
  n_abs : mg "abs" = none
  n_all : mg "all" = none
  n_bool : mg "bool" = none
  n_enumerate : mg "enumerate" = none
  n_int : mg "int" = none
  n_isinstance : mg "isinstance" = none
  n_len : mg "len" = none
  n_list : mg "list" = none
  n_range : mg "range" = none
  n_repr : mg "repr" = none
  n_tuple : mg "tuple" = none
  k_MOST_VALUES : Tok
  c_MOST_VALUES : mg "MOST_VALUES" = some (.int 3 k_MOST_VALUES)
  ax_InvalidLines : Addr
  gx_InvalidLines : mg "InvalidLines" = some (.ref ax_InvalidLines)
  ax_InvalidSize : Addr
  gx_InvalidSize : mg "InvalidSize" = some (.ref ax_InvalidSize)
  ax_InvalidTable : Addr
  gx_InvalidTable : mg "InvalidTable" = some (.ref ax_InvalidTable)
  ax_Refused : Addr
  gx_Refused : mg "Refused" = some (.ref ax_Refused)
  xt : ExT K P mg xtab xbase
section
variable {P : Program} {w : World} {K : PySem.W.Frag} {mg : Str → Option Value} {base : Heap}
theorem ok_is_integer (T : Pk P w K mg base) : FnOk P w K mg base (L2.CX P w) 1 T.a_is_integer T.fd_is_integer ps_is_integer (spF K mg T.tb ps_is_integer.length F_is_integer) :=
  fn_ok (N := N_is_integer) (sf := sf_is_integer) T.F_is_integer sc_is_integer fun cdv A outer s H E M r L hr =>
    (ess_one (es_ret (ev_and (ev_isi (T := "int") rfl T.n_isinstance rfl T.n_int (by decide +kernel) (ev_var (i := 0) rfl (.inl rfl)) rfl (by decide +kernel)) (ev_one (ev_not (ev_isi (T := "bool") rfl T.n_isinstance rfl T.n_bool (by decide +kernel) (ev_var (i := 0) rfl (.inl rfl)) rfl (by decide +kernel)))))))
theorem ok_is_number (T : Pk P w K mg base) : FnOk P w K mg base (L2.CX P w) 2 T.a_is_number T.fd_is_number ps_is_number (spF K mg T.tb ps_is_number.length F_is_number) :=
  fn_ok (N := N_is_number) (sf := sf_is_number) T.F_is_number sc_is_number fun cdv A outer s H E M r L hr =>
    (ess_one (es_ret (ev_and (ev_call (n := 1) ((ok_is_integer T).mono (show 1 ≤ 1 by decide)) hr (takes_of rfl rfl rfl rfl) rfl T.g_is_integer T.F_is_integer.kp T.b_is_integer (eva_cons (ev_var (i := 0) rfl (.inl rfl)) eva_nil)) (ev_one (ev_cmp op_ge geK_ok (ev_var (i := 0) rfl (.inl rfl)) ev_int (nomark _))))))
theorem ok_is_below (T : Pk P w K mg base) : FnOk P w K mg base (L2.CX P w) 3 T.a_is_below T.fd_is_below ps_is_below (spF K mg T.tb ps_is_below.length F_is_below) :=
  fn_ok (N := N_is_below) (sf := sf_is_below) T.F_is_below sc_is_below fun cdv A outer s H E M r L hr =>
    (ess_one (es_ret (ev_and (ev_call (n := 1) ((ok_is_number T).mono (show 2 ≤ 2 by decide)) hr (takes_of rfl rfl rfl rfl) rfl T.g_is_number T.F_is_number.kp T.b_is_number (eva_cons (ev_var (i := 0) rfl (.inl rfl)) eva_nil)) (ev_one (ev_cmp op_lt ltK_ok (ev_var (i := 0) rfl (.inl rfl)) (ev_var (i := 1) rfl (.inl rfl)) (nomark _))))))
theorem ok_is_sequence (T : Pk P w K mg base) : FnOk P w K mg base (L2.CX P w) 1 T.a_is_sequence T.fd_is_sequence ps_is_sequence (spF K mg T.tb ps_is_sequence.length F_is_sequence) :=
  fn_ok (N := N_is_sequence) (sf := sf_is_sequence) T.F_is_sequence sc_is_sequence fun cdv A outer s H E M r L hr =>
    (ess_one (es_ret (ev_isi2 (T := "list") (T' := "tuple") rfl T.n_isinstance rfl T.n_list (by decide +kernel) rfl T.n_tuple (by decide +kernel) (ev_var (i := 0) rfl (.inl rfl)) rfl (by decide +kernel) (by decide +kernel))))
theorem ok_need_size (T : Pk P w K mg base) : FnOk P w K mg base (L2.CX P w) 2 T.a_need_size T.fd_need_size ps_need_size (spF K mg T.tb ps_need_size.length F_need_size) :=
  fn_ok (N := N_need_size) (sf := sf_need_size) T.F_need_size sc_need_size fun cdv A outer s H E M r L hr =>
    (ess_cons (es_if (evt_w (evw_or (evt_not (evt_val (ev_call (n := 1) ((ok_is_integer T).mono (show 1 ≤ 1 by decide)) hr (takes_of rfl rfl rfl rfl) rfl T.g_is_integer T.F_is_integer.kp T.b_is_integer (eva_cons (ev_var (i := 0) rfl (.inl rfl)) eva_nil)) fun _ => rfl)) (evw_or1 (evt_not (evt_chain op_le op_le leK_ok leK_ok ev_int (ev_var (i := 0) rfl (.inl rfl)) (ev_glob rfl T.c_MOST_VALUES))))))
    (ess_one (es_raise (k := 0) (T.xt.cls ("InvalidSize", "word") (by decide)) rfl rfl (takes_of rfl rfl rfl rfl) (hr.mono (show 1 ≤ 1 by decide)) rfl ev_str))
    ess_nil)
    (ess_one (es_ret (ev_var (i := 0) rfl (.inl rfl)))))
theorem ok_need_table (T : Pk P w K mg base) : FnOk P w K mg base (L2.CX P w) 4 T.a_need_table T.fd_need_table ps_need_table (spF K mg T.tb ps_need_table.length F_need_table) :=
  fn_ok (N := N_need_table) (sf := sf_need_table) T.F_need_table sc_need_table fun cdv A outer s H E M r L hr =>
    (ess_cons (es_set (i := 0) sc_need_table.nd rfl (.inl rfl) (ev_call (n := 1) ((ok_need_size T).mono (show 2 ≤ 3 by decide)) hr (takes_of rfl rfl rfl rfl) rfl T.g_need_size T.F_need_size.kp T.b_need_size (eva_cons (ev_var (i := 0) rfl (.inl rfl)) eva_nil)))
    (ess_cons (es_if (evt_w (evw_or (evt_not (evt_val (ev_call (n := 1) ((ok_is_sequence T).mono (show 1 ≤ 3 by decide)) hr (takes_of rfl rfl rfl rfl) rfl T.g_is_sequence T.F_is_sequence.kp T.b_is_sequence (eva_cons (ev_var (i := 1) rfl (.inl rfl)) eva_nil)) fun _ => rfl)) (evw_or1 (evt_cmp (op_neP hr.units) (eqK_ok true) (ev_callB call_lenK lenK_ok rfl T.n_len (by decide +kernel) (eva_cons (ev_var (i := 1) rfl (.inl rfl)) eva_nil)) (ev_op op_mulA mulA_ok (ev_var (i := 0) rfl (.inl rfl)) (ev_var (i := 0) rfl (.inl rfl))) (nomark _)))))
    (ess_one (es_raise (k := 0) (T.xt.cls ("InvalidTable", "at") (by decide)) rfl rfl (takes_of rfl rfl rfl rfl) (hr.mono (show 1 ≤ 3 by decide)) rfl (ev_neg ev_int)))
    ess_nil)
    (ess_cons (es_for (ts := ([2] ++ ([3] ++ []))) (passes_of rfl) rfl (evi_enum rfl T.n_enumerate (eva_cons (ev_var (i := 1) rfl (.inl rfl)) eva_nil) rfl) (evg_tup rfl (evgs_cons (evg_name (i := 2) sc_need_table.nd rfl (.inl rfl)) (evgs_cons (evg_name (i := 3) sc_need_table.nd rfl (.inl rfl)) evgs_nil)) rfl)
    (ess_one (es_if (evt_not (evt_val (ev_call (n := 2) ((ok_is_below T).mono (show 3 ≤ 3 by decide)) hr (takes_of rfl rfl rfl rfl) rfl T.g_is_below T.F_is_below.kp T.b_is_below (eva_cons (ev_var (i := 3) rfl (.inl rfl)) (eva_cons (ev_var (i := 0) rfl (.inl rfl)) eva_nil))) fun _ => rfl))
    (ess_one (es_raise (k := 0) (T.xt.cls ("InvalidTable", "at") (by decide)) rfl rfl (takes_of rfl rfl rfl rfl) (hr.mono (show 1 ≤ 3 by decide)) rfl (ev_var (i := 2) rfl (.inl rfl))))
    ess_nil)))
    (ess_one (es_ret (ev_callTy call_tuple_of tupK_ok rfl T.n_tuple (by decide +kernel) (eva_cons (ev_var (i := 1) rfl (.inl rfl)) eva_nil)))))))
theorem ok_is_thing (T : Pk P w K mg base) : FnOk P w K mg base (L2.CX P w) 3 T.a_is_thing T.fd_is_thing ps_is_thing (spF K mg T.tb ps_is_thing.length F_is_thing) :=
  fn_ok (N := N_is_thing) (sf := sf_is_thing) T.F_is_thing sc_is_thing fun cdv A outer s H E M r L hr =>
    (ess_one (es_ret (ev_or (ev_call (n := 1) ((ok_is_number T).mono (show 2 ≤ 2 by decide)) hr (takes_of rfl rfl rfl rfl) rfl T.g_is_number T.F_is_number.kp T.b_is_number (eva_cons (ev_var (i := 0) rfl (.inl rfl)) eva_nil)) (ev_one (ev_and (ev_call (n := 1) ((ok_is_sequence T).mono (show 1 ≤ 2 by decide)) hr (takes_of rfl rfl rfl rfl) rfl T.g_is_sequence T.F_is_sequence.kp T.b_is_sequence (eva_cons (ev_var (i := 0) rfl (.inl rfl)) eva_nil)) (ev_one (ev_callB (cr_all rfl) allK_ok rfl T.n_all (by decide +kernel) (eva_cons (ev_valN (evn_lc (own := [("one", 1)]) (ts := [1]) rfl sc_is_thing.nd (evi_seq (ev_var (i := 0) rfl (.inl rfl)) rfl) (show BlkOk N_is_thing (defScope s_is_thing) _ [("one", 1)] from ⟨rfl, by decide +kernel, by decide +kernel, by decide +kernel, by decide +kernel⟩) (by decide) (fun _ _ _ _ _ => (evg_name (i := 1) sc_is_thing.nd rfl (.inl rfl))) (fun _ _ _ _ _ => evts_nil) (fun _ _ _ _ _ => (ev_call (n := 1) ((ok_is_number T).mono (show 2 ≤ 2 by decide)) hr takes0 rfl T.g_is_number T.F_is_number.kp T.b_is_number (eva_cons (ev_var (i := 1) rfl (.inl rfl)) eva_nil))))) eva_nil))))))))
theorem ok_one_thing (T : Pk P w K mg base) : FnOk P w K mg base (L2.CX P w) 3 T.a_one_thing T.fd_one_thing ps_one_thing (spF K mg T.tb ps_one_thing.length F_one_thing) :=
  fn_ok (N := N_one_thing) (sf := sf_one_thing) T.F_one_thing sc_one_thing fun cdv A outer s H E M r L hr =>
    (ess_one (es_ret (ev_if (evt_val (ev_call (n := 1) ((ok_is_number T).mono (show 2 ≤ 2 by decide)) hr (takes_of rfl rfl rfl rfl) rfl T.g_is_number T.F_is_number.kp T.b_is_number (eva_cons (ev_var (i := 0) rfl (.inl rfl)) eva_nil)) fun _ => rfl) (ev_var (i := 0) rfl (.inl rfl)) (ev_callTy call_tuple_of tupK_ok rfl T.n_tuple (by decide +kernel) (eva_cons (ev_var (i := 0) rfl (.inl rfl)) eva_nil)))))
theorem ok_met_cells (T : Pk P w K mg base) : FnOk P w K mg base (L2.CX P w) 1 T.a_met_cells T.fd_met_cells ps_met_cells (spF K mg T.tb ps_met_cells.length F_met_cells) :=
  fn_ok (N := N_met_cells) (sf := sf_met_cells) T.F_met_cells sc_met_cells fun cdv A outer s H E M r L hr =>
    (ess_cons (es_asg (ts := ([2] ++ ([3] ++ []))) (ev_sl (ev_var (i := 1) rfl (.inl rfl)) evo_none (evo_some ev_int) rfl) (evg_tup rfl (evgs_cons (evg_name (i := 2) sc_met_cells.nd rfl (.inl rfl)) (evgs_cons (evg_name (i := 3) sc_met_cells.nd rfl (.inl rfl)) evgs_nil)) rfl))
    (ess_cons (es_set (i := 4) sc_met_cells.nd rfl (.inl rfl) (ev_if (evt_cmp op_isN isNK_ok (ev_var (i := 2) rfl (.inl rfl)) ev_non (nomark _)) (ev_valN (evn_listRg rfl rfl T.n_list (evr_1 rfl T.n_range (ev_var (i := 0) rfl (.inr (.inl rfl)))))) (ev_lst (eva_cons (ev_var (i := 2) rfl (.inl rfl)) eva_nil))))
    (ess_cons (es_set (i := 5) sc_met_cells.nd rfl (.inr rfl) (ev_if (evt_cmp op_isN isNK_ok (ev_var (i := 3) rfl (.inl rfl)) ev_non (nomark _)) (ev_valN (evn_listRg rfl rfl T.n_list (evr_1 rfl T.n_range (ev_var (i := 0) rfl (.inr (.inl rfl)))))) (ev_lst (eva_cons (ev_var (i := 3) rfl (.inl rfl)) eva_nil))))
    (ess_one (es_ret (ev_valN (evn_lc2 (own := [("first", 6), ("second", 7)]) (ts := [6]) (ts1 := [7]) (vs1 := [7]) rfl sc_met_cells.nd (evi_seq (ev_var (i := 4) rfl (.inl rfl)) rfl) (show BlkOk N_met_cells (defScope s_met_cells) _ [("first", 6), ("second", 7)] from ⟨rfl, by decide +kernel, by decide +kernel, by decide +kernel, by decide +kernel⟩) (by decide) (by decide) (by decide) uo_name (fun _ _ _ _ _ => (evg_name (i := 6) sc_met_cells.nd rfl (.inl rfl))) (fun _ _ _ _ _ => evts_nil) (fun _ _ _ _ _ => (evi_seq (ev_var (i := 5) rfl (.inr (.inl rfl))) rfl)) (fun _ _ _ _ _ => (evg_name (i := 7) sc_met_cells.nd rfl (.inl rfl))) (fun _ _ _ _ _ => evts_nil) (fun _ _ _ _ _ => (ev_op op_addK addK_ok (ev_op op_mulA mulA_ok (ev_var (i := 6) rfl (.inl rfl)) (ev_var (i := 0) rfl (.inr (.inl rfl)))) (ev_var (i := 7) rfl (.inl rfl)))))))))))
theorem ok_is_line (T : Pk P w K mg base) : FnOk P w K mg base (L2.CX P w) 4 T.a_is_line T.fd_is_line ps_is_line (spF K mg T.tb ps_is_line.length F_is_line) :=
  fn_ok (N := N_is_line) (sf := sf_is_line) T.F_is_line sc_is_line fun cdv A outer s H E M r L hr =>
    (ess_cons (es_if (evt_w (evw_or (evt_not (evt_val (ev_call (n := 1) ((ok_is_sequence T).mono (show 1 ≤ 3 by decide)) hr (takes_of rfl rfl rfl rfl) rfl T.g_is_sequence T.F_is_sequence.kp T.b_is_sequence (eva_cons (ev_var (i := 1) rfl (.inl rfl)) eva_nil)) fun _ => rfl)) (evw_or (evt_cmp (op_neP hr.units) (eqK_ok true) (ev_callB call_lenK lenK_ok rfl T.n_len (by decide +kernel) (eva_cons (ev_var (i := 1) rfl (.inl rfl)) eva_nil)) ev_int (nomark _)) (evw_or1 (evt_not (evt_val (ev_call (n := 1) ((ok_is_thing T).mono (show 3 ≤ 3 by decide)) hr (takes_of rfl rfl rfl rfl) rfl T.g_is_thing T.F_is_thing.kp T.b_is_thing (eva_cons (ev_ix hr.units (ev_var (i := 1) rfl (.inl rfl)) ev_int rfl) eva_nil)) fun _ => rfl))))))
    (ess_one (es_ret ev_bl))
    ess_nil)
    (ess_one (es_ret (ev_callB (cr_all rfl) allK_ok rfl T.n_all (by decide +kernel) (eva_cons (ev_valN (evn_lc (own := [("one", 2)]) (ts := [2]) rfl sc_is_line.nd (evi_seq (ev_sl (ev_var (i := 1) rfl (.inl rfl)) evo_none (evo_some ev_int) rfl) rfl) (show BlkOk N_is_line (defScope s_is_line) _ [("one", 2)] from ⟨rfl, by decide +kernel, by decide +kernel, by decide +kernel, by decide +kernel⟩) (by decide) (fun _ _ _ _ _ => (evg_name (i := 2) sc_is_line.nd rfl (.inl rfl))) (fun _ _ _ _ _ => evts_nil) (fun _ _ _ _ _ => (ev_or (ev_cmp op_isN isNK_ok (ev_var (i := 2) rfl (.inl rfl)) ev_non (nomark _)) (ev_one (ev_call (n := 2) ((ok_is_below T).mono (show 3 ≤ 3 by decide)) hr takes0 rfl T.g_is_below T.F_is_below.kp T.b_is_below (eva_cons (ev_var (i := 2) rfl (.inl rfl)) (eva_cons (ev_var (i := 0) rfl (.inr (.inl rfl))) eva_nil)))))))) eva_nil)))))
theorem ok_lines_sheet (T : Pk P w K mg base) : FnOk P w K mg base (L2.CX P w) 5 T.a_lines_sheet T.fd_lines_sheet ps_lines_sheet (spF K mg T.tb ps_lines_sheet.length F_lines_sheet) :=
  fn_ok (N := N_lines_sheet) (sf := sf_lines_sheet) T.F_lines_sheet sc_lines_sheet fun cdv A outer s H E M r L hr =>
    (ess_cons (es_parT (is := [0, 2]) rfl (pgs_cons (pg_name (i := 0) sc_lines_sheet.nd rfl (.inl rfl)) (pgs_cons (pg_name (i := 2) sc_lines_sheet.nd rfl (.inr rfl)) pgs_nil)) (evx_cons (ev_call (n := 1) ((ok_need_size T).mono (show 2 ≤ 4 by decide)) hr (takes_of rfl rfl rfl rfl) rfl T.g_need_size T.F_need_size.kp T.b_need_size (eva_cons (ev_var (i := 0) rfl (.inl rfl)) eva_nil)) (evx_consD evd_newK evx_nil)))
    (ess_cons (es_if (evt_not (evt_val (ev_call (n := 1) ((ok_is_sequence T).mono (show 1 ≤ 4 by decide)) hr (takes_of rfl rfl rfl rfl) rfl T.g_is_sequence T.F_is_sequence.kp T.b_is_sequence (eva_cons (ev_var (i := 1) rfl (.inl rfl)) eva_nil)) fun _ => rfl))
    (ess_one (es_raise (k := 0) (T.xt.cls ("InvalidLines", "at") (by decide)) rfl rfl (takes_of rfl rfl rfl rfl) (hr.mono (show 1 ≤ 4 by decide)) rfl (ev_neg ev_int)))
    ess_nil)
    (ess_cons (es_for (ts := ([3] ++ ([4] ++ []))) (passes_of rfl) rfl (evi_enum rfl T.n_enumerate (eva_cons (ev_var (i := 1) rfl (.inl rfl)) eva_nil) rfl) (evg_tup rfl (evgs_cons (evg_name (i := 3) sc_lines_sheet.nd rfl (.inl rfl)) (evgs_cons (evg_name (i := 4) sc_lines_sheet.nd rfl (.inl rfl)) evgs_nil)) rfl)
    (ess_cons (es_if (evt_not (evt_val (ev_call (n := 2) ((ok_is_line T).mono (show 4 ≤ 4 by decide)) hr (takes_of rfl rfl rfl rfl) rfl T.g_is_line T.F_is_line.kp T.b_is_line (eva_cons (ev_var (i := 0) rfl (.inl rfl)) (eva_cons (ev_var (i := 4) rfl (.inl rfl)) eva_nil))) fun _ => rfl))
    (ess_one (es_raise (k := 0) (T.xt.cls ("InvalidLines", "at") (by decide)) rfl rfl (takes_of rfl rfl rfl rfl) (hr.mono (show 1 ≤ 4 by decide)) rfl (ev_var (i := 3) rfl (.inl rfl))))
    ess_nil)
    (ess_one (es_for (ts := [5]) (passes_of rfl) rfl (evi_seq (ev_call (n := 2) ((ok_met_cells T).mono (show 1 ≤ 4 by decide)) hr (takes_of rfl rfl rfl rfl) rfl T.g_met_cells T.F_met_cells.kp T.b_met_cells (eva_cons (ev_var (i := 0) rfl (.inl rfl)) (eva_cons (ev_var (i := 4) rfl (.inl rfl)) eva_nil))) rfl) (evg_name (i := 5) sc_lines_sheet.nd rfl (.inl rfl))
    (ess_one (es_dset (i := 2) hr.units rfl (.inr (.inl rfl)) (ev_var (i := 5) rfl (.inl rfl)) (ev_call (n := 1) ((ok_one_thing T).mono (show 3 ≤ 4 by decide)) hr (takes_of rfl rfl rfl rfl) rfl T.g_one_thing T.F_one_thing.kp T.b_one_thing (eva_cons (ev_ix hr.units (ev_var (i := 4) rfl (.inl rfl)) ev_int rfl) eva_nil))))))))
    (ess_cons (es_ownLc (i := 6) (own := [("cell", 5)]) (ts := [5]) rfl sc_lines_sheet.nd rfl rfl rfl (evi_range1 rfl T.n_range (eva_cons (ev_op op_mulA mulA_ok (ev_var (i := 0) rfl (.inl rfl)) (ev_var (i := 0) rfl (.inl rfl))) eva_nil)) (show BlkOk N_lines_sheet (defScope s_lines_sheet) _ [("cell", 5)] from ⟨rfl, by decide +kernel, by decide +kernel, by decide +kernel, by decide +kernel⟩) (by decide) (fun _ _ _ _ _ => (evg_name (i := 5) sc_lines_sheet.nd rfl (.inl rfl))) (fun _ _ _ _ _ => (evts_one (evt_dnin (i := 2) hr.units rfl (.inr (.inl rfl)) (ev_var (i := 5) rfl (.inl rfl))))) (fun _ _ _ _ _ => (ev_var (i := 5) rfl (.inl rfl))))
    (ess_cons (es_if (evt_cmp op_gt gtK_ok (ev_callB call_lenK lenK_ok rfl T.n_len (by decide +kernel) (eva_cons (ev_var (i := 6) rfl (.inl rfl)) eva_nil)) ev_int (nomark _))
    (ess_one (es_raise (k := 0) (T.xt.cls ("Refused", "at") (by decide)) rfl rfl (takes_of rfl rfl rfl rfl) (hr.mono (show 1 ≤ 4 by decide)) rfl (ev_ix hr.units (ev_var (i := 6) rfl (.inl rfl)) ev_int rfl)))
    ess_nil)
    (ess_one (es_ret (ev_callTy call_tuple_of tupK_ok rfl T.n_tuple (by decide +kernel) (eva_cons (ev_valN (evn_lc (own := [("cell", 5)]) (ts := [5]) rfl sc_lines_sheet.nd (evi_range1 rfl T.n_range (eva_cons (ev_op op_mulA mulA_ok (ev_var (i := 0) rfl (.inl rfl)) (ev_var (i := 0) rfl (.inl rfl))) eva_nil)) (show BlkOk N_lines_sheet (defScope s_lines_sheet) _ [("cell", 5)] from ⟨rfl, by decide +kernel, by decide +kernel, by decide +kernel, by decide +kernel⟩) (by decide) (fun _ _ _ _ _ => (evg_name (i := 5) sc_lines_sheet.nd rfl (.inl rfl))) (fun _ _ _ _ _ => evts_nil) (fun _ _ _ _ _ => (ev_dix (i := 2) hr.units rfl (.inr (.inl rfl)) (ev_var (i := 5) rfl (.inl rfl)))))) eva_nil)))))))))
theorem ok__law_box (T : Pk P w K mg base) : FnOk P w K mg base (L2.CX P w) 1 T.a__law_box T.fd__law_box ps__law_box (spF K mg T.tb ps__law_box.length F__law_box) :=
  fn_ok (N := N__law_box) (sf := sf__law_box) T.F__law_box sc__law_box fun cdv A outer s H E M r L hr =>
    (ess_cons (es_set (i := 2) sc__law_box.nd rfl (.inl rfl) (ev_op op_addK addK_ok (ev_op op_mulA mulA_ok ev_int (ev_var (i := 1) rfl (.inl rfl))) ev_int))
    (ess_cons (es_if (evt_cmp op_lt ltK_ok (ev_var (i := 1) rfl (.inl rfl)) (ev_callB call_lenK lenK_ok rfl T.n_len (by decide +kernel) (eva_cons (ev_var (i := 0) rfl (.inl rfl)) eva_nil)) (nomark _))
    (ess_one (es_set (i := 2) sc__law_box.nd rfl (.inl rfl) (ev_callB call_abs absK_ok rfl T.n_abs (by decide +kernel) (eva_cons (ev_ix hr.units (ev_var (i := 0) rfl (.inl rfl)) (ev_var (i := 1) rfl (.inl rfl)) rfl) eva_nil))))
    (ess_one (es_if (evt_cmp op_gt gtK_ok (ev_callB call_lenK lenK_ok rfl T.n_len (by decide +kernel) (eva_cons (ev_var (i := 0) rfl (.inl rfl)) eva_nil)) ev_int (nomark _))
    (ess_one (es_set (i := 2) sc__law_box.nd rfl (.inl rfl) (ev_op op_addK addK_ok (ev_var (i := 2) rfl (.inl rfl)) (ev_op op_mulA mulA_ok (ev_op op_mod modK_ok (ev_callTy call_int1 intK_ok rfl T.n_int (by decide +kernel) (eva_cons (ev_callB call_abs absK_ok rfl T.n_abs (by decide +kernel) (eva_cons (ev_ix hr.units (ev_var (i := 0) rfl (.inl rfl)) (ev_op op_mod modK_ok (ev_callTy call_int1 intK_ok rfl T.n_int (by decide +kernel) (eva_cons (ev_var (i := 1) rfl (.inl rfl)) eva_nil)) (ev_callB call_lenK lenK_ok rfl T.n_len (by decide +kernel) (eva_cons (ev_var (i := 0) rfl (.inl rfl)) eva_nil))) rfl) eva_nil)) eva_nil)) ev_int) ev_int))))
    ess_nil)))
    (ess_one (es_ret (ev_boxN (evn_lst (eva_cons (ev_ix hr.units (ev_lst (eva_cons ev_int (eva_cons (ev_var (i := 2) rfl (.inl rfl)) eva_nil))) (ev_callTy call_int1 intK_ok rfl T.n_int (by decide +kernel) (eva_cons (ev_cmp op_ge geK_ok (ev_var (i := 2) rfl (.inl rfl)) (ev_op op_pow powK_ok ev_int ev_int) (nomark _)) eva_nil)) rfl) (eva_cons (ev_op op_addK addK_ok (ev_op op_mod modK_ok (ev_callTy call_int1 intK_ok rfl T.n_int (by decide +kernel) (eva_cons (ev_op op_addK addK_ok (ev_op op_mulA mulA_ok (ev_op op_mod modK_ok (ev_callTy call_int1 intK_ok rfl T.n_int (by decide +kernel) (eva_cons (ev_var (i := 2) rfl (.inl rfl)) eva_nil)) ev_int) ev_int) (ev_op op_mulA mulA_ok ev_int (ev_var (i := 1) rfl (.inl rfl)))) eva_nil)) ev_int) ev_int) (eva_cons ev_int eva_nil)))))))))
theorem ok__law_take (T : Pk P w K mg base) : FnOk P w K mg base (L2.CX P w) 1 T.a__law_take T.fd__law_take ps__law_take (spF K mg T.tb ps__law_take.length F__law_take) :=
  fn_ok (N := N__law_take) (sf := sf__law_take) T.F__law_take sc__law_take fun cdv A outer s H E M r L hr =>
    (ess_cons (es_if (evt_cmp op_gt gtK_ok (ev_ix hr.units (ev_var (i := 0) rfl (.inl rfl)) ev_int rfl) ev_int (nomark _))
    (ess_cons (es_set (i := 2) sc__law_take.nd rfl (.inl rfl) (ev_op op_mod modK_ok (ev_callTy call_int1 intK_ok rfl T.n_int (by decide +kernel) (eva_cons (ev_ix hr.units (ev_var (i := 0) rfl (.inl rfl)) ev_int rfl) eva_nil)) (ev_var (i := 1) rfl (.inl rfl))))
    (ess_cons (es_seti (i := 0) rfl (.inl rfl) ev_int (ev_op op_fdiv divK_ok (ev_ix hr.units (ev_var (i := 0) rfl (.inl rfl)) ev_int rfl) (ev_var (i := 1) rfl (.inl rfl))))
    (ess_one (es_ret (ev_var (i := 2) rfl (.inl rfl))))))
    ess_nil)
    (ess_cons (es_seti (i := 0) rfl (.inl rfl) ev_int (ev_op op_addK addK_ok (ev_ix hr.units (ev_var (i := 0) rfl (.inl rfl)) ev_int rfl) ev_int))
    (ess_cons (es_set (i := 3) sc__law_take.nd rfl (.inl rfl) (ev_op op_mod modK_ok (ev_callTy call_int1 intK_ok rfl T.n_int (by decide +kernel) (eva_cons (ev_op op_addK addK_ok (ev_op op_mulA mulA_ok (ev_op op_addK addK_ok (ev_ix hr.units (ev_var (i := 0) rfl (.inl rfl)) ev_int rfl) (ev_op op_mulA mulA_ok ev_int (ev_ix hr.units (ev_var (i := 0) rfl (.inl rfl)) ev_int rfl))) ev_int) ev_int) eva_nil)) ev_int))
    (ess_cons (es_seti (i := 0) rfl (.inl rfl) ev_int (ev_op op_addK addK_ok (ev_op op_mod modK_ok (ev_callTy call_int1 intK_ok rfl T.n_int (by decide +kernel) (eva_cons (ev_op op_addK addK_ok (ev_op op_mulA mulA_ok (ev_var (i := 3) rfl (.inl rfl)) ev_int) ev_int) eva_nil)) ev_int) ev_int))
    (ess_one (es_ret (ev_op op_mod modK_ok (ev_callTy call_int1 intK_ok rfl T.n_int (by decide +kernel) (eva_cons (ev_op op_fdiv divK_ok (ev_op op_addK addK_ok (ev_op op_mulA mulA_ok (ev_var (i := 3) rfl (.inl rfl)) ev_int) (ev_ix hr.units (ev_var (i := 0) rfl (.inl rfl)) ev_int rfl)) ev_int) eva_nil)) (ev_var (i := 1) rfl (.inl rfl)))))))))
theorem ok__law_pick (T : Pk P w K mg base) : FnOk P w K mg base (L2.CX P w) 2 T.a__law_pick T.fd__law_pick ps__law_pick (spF K mg T.tb ps__law_pick.length F__law_pick) :=
  fn_ok (N := N__law_pick) (sf := sf__law_pick) T.F__law_pick sc__law_pick fun cdv A outer s H E M r L hr =>
    (ess_one (es_ret (ev_ix hr.units (ev_var (i := 1) rfl (.inl rfl)) (ev_call (n := 2) ((ok__law_take T).mono (show 1 ≤ 1 by decide)) hr (takes_of rfl rfl rfl rfl) rfl T.g__law_take T.F__law_take.kp T.b__law_take (eva_cons (ev_var (i := 0) rfl (.inl rfl)) (eva_cons (ev_callB call_lenK lenK_ok rfl T.n_len (by decide +kernel) (eva_cons (ev_var (i := 1) rfl (.inl rfl)) eva_nil)) eva_nil))) rfl)))
theorem ok__law_thing (T : Pk P w K mg base) : FnOk P w K mg base (L2.CX P w) 3 T.a__law_thing T.fd__law_thing ps__law_thing (spF K mg T.tb ps__law_thing.length F__law_thing) :=
  fn_ok (N := N__law_thing) (sf := sf__law_thing) T.F__law_thing sc__law_thing fun cdv A outer s H E M r L hr =>
    (ess_one (es_ret (ev_call (n := 2) ((ok__law_pick T).mono (show 2 ≤ 2 by decide)) hr (takes_of rfl rfl rfl rfl) rfl T.g__law_pick T.F__law_pick.kp T.b__law_pick (eva_cons (ev_var (i := 0) rfl (.inl rfl)) (eva_cons (ev_lst (eva_cons ev_int (eva_cons ev_int (eva_cons ev_int (eva_cons (ev_tup (eva_cons ev_int (eva_cons ev_int eva_nil))) (eva_cons (ev_lst (eva_cons ev_int (eva_cons ev_int eva_nil))) (eva_cons (ev_tup (eva_cons ev_int (eva_cons ev_int eva_nil))) (eva_cons (ev_tup eva_nil) eva_nil)))))))) eva_nil)))))
theorem ok__law_due (T : Pk P w K mg base) : FnOk P w K mg base (L2.CX P w) 1 T.a__law_due T.fd__law_due ps__law_due (spF K mg T.tb ps__law_due.length F__law_due) :=
  fn_ok (N := N__law_due) (sf := sf__law_due) T.F__law_due sc__law_due fun cdv A outer s H E M r L hr =>
    (ess_cons (es_own (i := 2) sc__law_due.nd rfl (.inl rfl) (evn_lst eva_nil))
    (ess_cons (es_for (ts := [3]) (passes_of rfl) rfl (evi_range1 rfl T.n_range (eva_cons (ev_op op_mulA mulA_ok (ev_var (i := 0) rfl (.inr (.inl rfl))) (ev_var (i := 0) rfl (.inr (.inl rfl)))) eva_nil)) (evg_name (i := 3) sc__law_due.nd rfl (.inr rfl))
    (ess_cons (es_ownLc (i := 4) (own := [("_law_line", 5)]) (ts := [5]) rfl sc__law_due.nd rfl rfl rfl (evi_seq (ev_var (i := 1) rfl (.inl rfl)) rfl) (show BlkOk N__law_due (defScope s__law_due) _ [("_law_line", 5)] from ⟨rfl, by decide +kernel, by decide +kernel, by decide +kernel, by decide +kernel⟩) (by decide) (fun _ _ _ _ _ => (evg_name (i := 5) sc__law_due.nd rfl (.inl rfl))) (fun _ _ _ _ _ => (evts_one (evt_w (evw_and (evt_cmp (op_inP hr.units) (inK_ok false) (ev_ix hr.units (ev_var (i := 5) rfl (.inl rfl)) ev_int rfl) (ev_tup (eva_cons ev_non (eva_cons (ev_op op_fdiv divK_ok (ev_var (i := 3) rfl (.inr (.inl rfl))) (ev_var (i := 0) rfl (.inr (.inl rfl)))) eva_nil))) rfl) (evw_and1 (evt_cmp (op_inP hr.units) (inK_ok false) (ev_ix hr.units (ev_var (i := 5) rfl (.inl rfl)) ev_int rfl) (ev_tup (eva_cons ev_non (eva_cons (ev_op op_mod modK_ok (ev_var (i := 3) rfl (.inr (.inl rfl))) (ev_var (i := 0) rfl (.inr (.inl rfl)))) eva_nil))) rfl)))))) (fun _ _ _ _ _ => (ev_ix hr.units (ev_var (i := 5) rfl (.inl rfl)) ev_int rfl)))
    (ess_cons (es_if (evt_cmp (op_eqP hr.units) (eqK_ok false) (ev_var (i := 4) rfl (.inl rfl)) (ev_lst eva_nil) (nomark _))
    (ess_one (es_ret (ev_tup (eva_cons ev_str (eva_cons (ev_var (i := 3) rfl (.inr (.inl rfl))) eva_nil)))))
    ess_nil)
    (ess_one (es_app (i := 2) rfl (.inl rfl) (ev_if (evt_val (ev_isi (T := "int") rfl T.n_isinstance rfl T.n_int (by decide +kernel) (ev_ix hr.units (ev_var (i := 4) rfl (.inl rfl)) (ev_neg ev_int) rfl) rfl (by decide +kernel)) fun _ => rfl) (ev_ix hr.units (ev_var (i := 4) rfl (.inl rfl)) (ev_neg ev_int) rfl) (ev_callTy call_tuple_of tupK_ok rfl T.n_tuple (by decide +kernel) (eva_cons (ev_ix hr.units (ev_var (i := 4) rfl (.inl rfl)) (ev_neg ev_int) rfl) eva_nil))) rfl)))))
    (ess_one (es_ret (ev_callTy call_tuple_of tupK_ok rfl T.n_tuple (by decide +kernel) (eva_cons (ev_var (i := 2) rfl (.inl rfl)) eva_nil))))))
theorem hk__law_told (T : Pk P w K mg base) : HeardOk P w K mg base 6 s__law_told T.a__law_told "_law_told" "_law_work" N__law_told sf__law_told := fun Λ cdv A outer s H E T' M r L hr act =>
    (ess_one (es_try (tab := xtab) (base := xbase) T.xt rfl rfl rfl rfl rfl (takes_of rfl rfl rfl rfl) (fun W tk_pn tk_xe tk ps => (ess_one (es_ret (act _ _ _ _ _ tk))))
    (HsOk.as_ rfl ⟨_, T.gx_InvalidLines⟩ (by decide) sc__law_told.nd (i := 1) rfl rfl (fun a oe cls d pn hz hf => su_ret rfl hz hf KD.str (i := 1) rfl rfl rfl) (HsOk.as_ rfl ⟨_, T.gx_InvalidTable⟩ (by decide) sc__law_told.nd (i := 1) rfl rfl (fun a oe cls d pn hz hf => su_ret rfl hz hf KD.str (i := 1) rfl rfl rfl) (HsOk.as_ rfl ⟨_, T.gx_InvalidSize⟩ (by decide) sc__law_told.nd (i := 1) rfl rfl (fun a oe cls d pn hz hf => su_ret rfl hz hf KD.str (i := 1) rfl rfl rfl) (HsOk.as_ rfl ⟨_, T.gx_Refused⟩ (by decide) sc__law_told.nd (i := 1) rfl rfl (fun a oe cls d pn hz hf => su_ret rfl hz hf KD.str (i := 1) rfl rfl rfl) .nil))))))
theorem lk_law (T : Pk P w K mg base) (A : Around) (outer : List PySem.Env) (s : Shared) (H : Hp) (E : XK) (M : Imm) (r : List Addr) : ∀ k ld, lt_law[k]? = some ld →
    LamOk (cxOf (L2.CX P w) P w K mg base N_law "law" (defScope s_law) T.a_law (.ref T.ca_law) A outer s H E) ⟨K, mg, T.tb, M, r, H, lamL lt_law (envOfC "law" (defScope s_law) s.heap.objs.size T.a_law (.ref T.ca_law))⟩ 5 ld (bod_law k)
  | 0, _, rfl => ⟨ls_law_0, fun _ _ _ _ _ => rfl, fun A outer s H E f' c' M r hr => show Ev _ _ _ _ (callF (nArgs 2 F_lines_sheet) (consA (cF (.int 2)) (consA (lstF (consA (tupF (consA (cF (.int 0)) (consA (cF .non) (consA (cF (.int 0)) nilA)))) nilA)) nilA))) from (ev_call (n := 2) ((ok_lines_sheet T).mono (show 5 ≤ 5 by decide)) hr (takes_of rfl rfl rfl rfl) rfl T.g_lines_sheet T.F_lines_sheet.kp T.b_lines_sheet (eva_cons ev_int (eva_cons (ev_lst (eva_cons (ev_tup (eva_cons ev_int (eva_cons ev_non (eva_cons ev_int eva_nil)))) eva_nil)) eva_nil)))⟩
  | 1, _, rfl => ⟨ls_law_1, fun _ _ _ _ _ => rfl, fun A outer s H E f' c' M r hr => show Ev _ _ _ _ (callKwF 2 [1, 0] F_lines_sheet (consA (blt tupK (consA (varF 5) nilA)) (consA (varF 3) nilA))) from (ev_callKw ((ok_lines_sheet T).mono (show 5 ≤ 5 by decide)) hr (takes_of rfl rfl rfl rfl) rfl T.g_lines_sheet T.F_lines_sheet.kp T.kw_lines_sheet_1_0 (by decide) (evk_cons (ev_callTy call_tuple_of tupK_ok rfl T.n_tuple (by decide +kernel) (eva_cons (ev_var (i := 5) rfl (.inr (.inr rfl))) eva_nil)) (evk_cons (ev_var (i := 3) rfl (.inr (.inr rfl))) evk_nil)))⟩
  | 2, _, rfl => ⟨ls_law_2, fun _ _ _ _ _ => rfl, fun A outer s H E f' c' M r hr => show Ev _ _ _ _ (callF (nArgs 2 F_lines_sheet) (consA (varF 3) (consA (bin2 addK (bin2 addK (slF (varF 5) noO (someO (varF 9))) (lstF (consA (varF 10) nilA))) (slF (varF 5) (someO (varF 9)) noO)) nilA))) from (ev_call (n := 2) ((ok_lines_sheet T).mono (show 5 ≤ 5 by decide)) hr (takes_of rfl rfl rfl rfl) rfl T.g_lines_sheet T.F_lines_sheet.kp T.b_lines_sheet (eva_cons (ev_var (i := 3) rfl (.inr (.inr rfl))) (eva_cons (ev_op op_addK addK_ok (ev_op op_addK addK_ok (ev_sl (ev_var (i := 5) rfl (.inr (.inr rfl))) evo_none (evo_some (ev_var (i := 9) rfl (.inr (.inr rfl)))) rfl) (ev_lst (eva_cons (ev_var (i := 10) rfl (.inr (.inr rfl))) eva_nil))) (ev_sl (ev_var (i := 5) rfl (.inr (.inr rfl))) (evo_some (ev_var (i := 9) rfl (.inr (.inr rfl)))) evo_none rfl)) eva_nil)))⟩
  | 3, _, rfl => ⟨ls_law_3, fun _ _ _ _ _ => rfl, fun A outer s H E f' c' M r hr => show Ev _ _ _ _ (callF (nArgs 2 F_lines_sheet) (consA (varF 3) (consA (callF (nArgs 2 F__law_pick) (consA (varF 2) (consA (lstF (consA (cF .non) (consA (cF (.int 5)) (consA (cF (.str "ab")) nilA)))) nilA))) nilA))) from (ev_call (n := 2) ((ok_lines_sheet T).mono (show 5 ≤ 5 by decide)) hr (takes_of rfl rfl rfl rfl) rfl T.g_lines_sheet T.F_lines_sheet.kp T.b_lines_sheet (eva_cons (ev_var (i := 3) rfl (.inr (.inr rfl))) (eva_cons (ev_call (n := 2) ((ok__law_pick T).mono (show 2 ≤ 5 by decide)) hr (takes_of rfl rfl rfl rfl) rfl T.g__law_pick T.F__law_pick.kp T.b__law_pick (eva_cons (ev_var (i := 2) rfl (.inr (.inr rfl))) (eva_cons (ev_lst (eva_cons ev_non (eva_cons ev_int (eva_cons ev_str eva_nil)))) eva_nil))) eva_nil)))⟩
  | 4, _, rfl => ⟨ls_law_4, fun _ _ _ _ _ => rfl, fun A outer s H E f' c' M r hr => show Ev _ _ _ _ (callF (nArgs 2 F_need_table) (consA (varF 3) (consA (varF 12) nilA))) from (ev_call (n := 2) ((ok_need_table T).mono (show 4 ≤ 5 by decide)) hr (takes_of rfl rfl rfl rfl) rfl T.g_need_table T.F_need_table.kp T.b_need_table (eva_cons (ev_var (i := 3) rfl (.inr (.inr rfl))) (eva_cons (ev_var (i := 12) rfl (.inr (.inr rfl))) eva_nil)))⟩
  | 5, _, rfl => ⟨ls_law_5, fun _ _ _ _ _ => rfl, fun A outer s H E f' c' M r hr => show Ev _ _ _ _ (callF (nArgs 2 F_need_table) (consA (varF 3) (consA (callF (nArgs 2 F__law_pick) (consA (varF 2) (consA (lstF (consA (cF .non) (consA (slF (varF 11) (someO (cF (.int 1))) noO) (consA (cF (.int 3)) nilA)))) nilA))) nilA))) from (ev_call (n := 2) ((ok_need_table T).mono (show 4 ≤ 5 by decide)) hr (takes_of rfl rfl rfl rfl) rfl T.g_need_table T.F_need_table.kp T.b_need_table (eva_cons (ev_var (i := 3) rfl (.inr (.inr rfl))) (eva_cons (ev_call (n := 2) ((ok__law_pick T).mono (show 2 ≤ 5 by decide)) hr (takes_of rfl rfl rfl rfl) rfl T.g__law_pick T.F__law_pick.kp T.b__law_pick (eva_cons (ev_var (i := 2) rfl (.inr (.inr rfl))) (eva_cons (ev_lst (eva_cons ev_non (eva_cons (ev_sl (ev_var (i := 11) rfl (.inr (.inr rfl))) (evo_some ev_int) evo_none rfl) (eva_cons ev_int eva_nil)))) eva_nil))) eva_nil)))⟩
  | 6, _, rfl => ⟨ls_law_6, fun _ _ _ _ _ => rfl, fun A outer s H E f' c' M r hr => show Ev _ _ _ _ (callF (nArgs 1 F_need_size) (consA (varF 13) nilA)) from (ev_call (n := 1) ((ok_need_size T).mono (show 2 ≤ 5 by decide)) hr (takes_of rfl rfl rfl rfl) rfl T.g_need_size T.F_need_size.kp T.b_need_size (eva_cons (ev_var (i := 13) rfl (.inr (.inr rfl))) eva_nil))⟩
  | 7, _, rfl => ⟨ls_law_7, fun _ _ _ _ _ => rfl, fun A outer s H E f' c' M r hr => show Ev _ _ _ _ (callF (nArgs 2 F_lines_sheet) (consA (varF 13) (consA (cF .non) nilA))) from (ev_call (n := 2) ((ok_lines_sheet T).mono (show 5 ≤ 5 by decide)) hr (takes_of rfl rfl rfl rfl) rfl T.g_lines_sheet T.F_lines_sheet.kp T.b_lines_sheet (eva_cons (ev_var (i := 13) rfl (.inr (.inr rfl))) (eva_cons ev_non eva_nil)))⟩
  | 8, _, rfl => ⟨ls_law_8, fun _ _ _ _ _ => rfl, fun A outer s H E f' c' M r hr => show Ev _ _ _ _ (callF (nArgs 2 F_need_table) (consA (varF 13) (consA (cF .non) nilA))) from (ev_call (n := 2) ((ok_need_table T).mono (show 4 ≤ 5 by decide)) hr (takes_of rfl rfl rfl rfl) rfl T.g_need_table T.F_need_table.kp T.b_need_table (eva_cons (ev_var (i := 13) rfl (.inr (.inr rfl))) (eva_cons ev_non eva_nil)))⟩
  | n + 9, _, e => nomatch e
theorem bd_law (T : Pk P w K mg base) : BodyL P w K mg T.tb base "law" s_law T.a_law T.ca_law N_law 7 lt_law sf_law := fun A outer s H E M r hr =>
    (ess_cons (es_if (evt_cmp (op_neP hr.units) (eqK_ok true) (ev_call (n := 2) ((ok_lines_sheet T).mono (show 5 ≤ 7 by decide)) hr (takes_of rfl rfl rfl rfl) rfl T.g_lines_sheet T.F_lines_sheet.kp T.b_lines_sheet (eva_cons ev_int (eva_cons (ev_lst (eva_cons (ev_tup (eva_cons ev_non (eva_cons ev_non (eva_cons ev_int eva_nil)))) (eva_cons (ev_tup (eva_cons ev_int (eva_cons ev_non (eva_cons ev_int eva_nil)))) (eva_cons (ev_lst (eva_cons ev_non (eva_cons ev_int (eva_cons (ev_tup (eva_cons ev_int (eva_cons ev_int eva_nil))) eva_nil)))) eva_nil)))) eva_nil))) (ev_tup (eva_cons (ev_tup (eva_cons ev_int (eva_cons ev_int eva_nil))) (eva_cons ev_int (eva_cons (ev_tup (eva_cons ev_int (eva_cons ev_int eva_nil))) (eva_cons ev_int eva_nil))))) (nomark _))
    (ess_one (es_ret ev_bl))
    ess_nil)
    (ess_cons (es_if (evt_cmp (op_neP hr.units) (eqK_ok true) (ev_heard (j := 5) T.F__law_told sc__law_told T.b__law_told (hk__law_told T) (hr.mono (show 7 ≤ 7 by decide)) (takes_of rfl rfl rfl rfl) rfl rfl (show 5 + 1 ≤ 6 by decide) rfl (lk_law T A outer s H E M r) rfl (.inl rfl) rfl T.g__law_told (ev_lam (k := 0) rfl rfl T.tb_law rfl T.tm_law T.tu_law ls_law_0)) (ev_tup (eva_cons ev_str (eva_cons ev_int eva_nil))) (nomark _))
    (ess_one (es_ret ev_bl))
    ess_nil)
    (ess_cons (es_for (ts := [1]) (passes_of rfl) rfl (evi_range1 rfl T.n_range (eva_cons ev_int eva_nil)) (evg_name (i := 1) sc_law.nd rfl (.inl rfl))
    (ess_cons (es_set (i := 2) sc_law.nd rfl (.inr rfl) (ev_call (n := 2) ((ok__law_box T).mono (show 1 ≤ 7 by decide)) hr (takes_of rfl rfl rfl rfl) rfl T.g__law_box T.F__law_box.kp T.b__law_box (eva_cons (ev_var (i := 0) rfl (.inl rfl)) (eva_cons (ev_var (i := 1) rfl (.inl rfl)) eva_nil))))
    (ess_cons (es_set (i := 3) sc_law.nd rfl (.inr rfl) (ev_op op_addK addK_ok ev_int (ev_call (n := 2) ((ok__law_take T).mono (show 1 ≤ 7 by decide)) hr (takes_of rfl rfl rfl rfl) rfl T.g__law_take T.F__law_take.kp T.b__law_take (eva_cons (ev_var (i := 2) rfl (.inr (.inl rfl))) (eva_cons ev_int eva_nil)))))
    (ess_cons (es_set (i := 4) sc_law.nd rfl (.inl rfl) (ev_op op_addK addK_ok (ev_lst (eva_cons ev_non eva_nil)) (ev_valN (evn_listRg rfl rfl T.n_list (evr_1 rfl T.n_range (ev_var (i := 3) rfl (.inr (.inl rfl))))))))
    (ess_cons (es_own (i := 5) sc_law.nd rfl (.inr rfl) (evn_lst eva_nil))
    (ess_cons (es_for (ts := [6]) (passes_of rfl) rfl (evi_range1 rfl T.n_range (eva_cons (ev_op op_addK addK_ok ev_int (ev_call (n := 2) ((ok__law_take T).mono (show 1 ≤ 7 by decide)) hr (takes_of rfl rfl rfl rfl) rfl T.g__law_take T.F__law_take.kp T.b__law_take (eva_cons (ev_var (i := 2) rfl (.inr (.inl rfl))) (eva_cons ev_int eva_nil)))) eva_nil)) (evg_name (i := 6) sc_law.nd rfl (.inl rfl))
    (ess_cons (es_set (i := 7) sc_law.nd rfl (.inl rfl) (ev_tup (eva_cons (ev_call (n := 2) ((ok__law_pick T).mono (show 2 ≤ 7 by decide)) hr (takes_of rfl rfl rfl rfl) rfl T.g__law_pick T.F__law_pick.kp T.b__law_pick (eva_cons (ev_var (i := 2) rfl (.inr (.inl rfl))) (eva_cons (ev_var (i := 4) rfl (.inl rfl)) eva_nil))) (eva_cons (ev_call (n := 2) ((ok__law_pick T).mono (show 2 ≤ 7 by decide)) hr (takes_of rfl rfl rfl rfl) rfl T.g__law_pick T.F__law_pick.kp T.b__law_pick (eva_cons (ev_var (i := 2) rfl (.inr (.inl rfl))) (eva_cons (ev_var (i := 4) rfl (.inl rfl)) eva_nil))) (eva_cons (ev_call (n := 1) ((ok__law_thing T).mono (show 3 ≤ 7 by decide)) hr (takes_of rfl rfl rfl rfl) rfl T.g__law_thing T.F__law_thing.kp T.b__law_thing (eva_cons (ev_var (i := 2) rfl (.inr (.inl rfl))) eva_nil)) eva_nil)))))
    (ess_one (es_app (i := 5) rfl (.inr (.inl rfl)) (ev_call (n := 2) ((ok__law_pick T).mono (show 2 ≤ 7 by decide)) hr (takes_of rfl rfl rfl rfl) rfl T.g__law_pick T.F__law_pick.kp T.b__law_pick (eva_cons (ev_var (i := 2) rfl (.inr (.inl rfl))) (eva_cons (ev_lst (eva_cons (ev_var (i := 7) rfl (.inl rfl)) (eva_cons (ev_valN (evn_list rfl T.n_list (eva_cons (ev_var (i := 7) rfl (.inl rfl)) eva_nil) rfl)) eva_nil))) eva_nil))) rfl))))
    (ess_cons (es_if (evt_cmp op_gt gtK_ok (ev_call (n := 2) ((ok__law_take T).mono (show 1 ≤ 7 by decide)) hr (takes_of rfl rfl rfl rfl) rfl T.g__law_take T.F__law_take.kp T.b__law_take (eva_cons (ev_var (i := 2) rfl (.inr (.inl rfl))) (eva_cons ev_int eva_nil))) ev_int (nomark _))
    (ess_one (es_own (i := 5) sc_law.nd rfl (.inr rfl) (evn_add (ev_lst (eva_cons (ev_tup (eva_cons ev_non (eva_cons ev_non (eva_cons (ev_call (n := 1) ((ok__law_thing T).mono (show 3 ≤ 7 by decide)) hr (takes_of rfl rfl rfl rfl) rfl T.g__law_thing T.F__law_thing.kp T.b__law_thing (eva_cons (ev_var (i := 2) rfl (.inr (.inl rfl))) eva_nil)) eva_nil)))) eva_nil)) (ev_var (i := 5) rfl (.inr (.inl rfl))))))
    ess_nil)
    (ess_cons (es_frz 5 (es_set (i := 8) sc_law.nd rfl (.inl rfl) (ev_call (n := 2) ((ok__law_due T).mono (show 1 ≤ 7 by decide)) hr (takes_of rfl rfl rfl rfl) rfl T.g__law_due T.F__law_due.kp T.b__law_due (eva_cons (ev_var (i := 3) rfl (.inr (.inl rfl))) (eva_cons (ev_var (i := 5) rfl (.inr (.inl rfl))) eva_nil)))))
    (ess_cons (es_if (evt_cmp (op_neP hr.units) (eqK_ok true) (ev_repr hr.gd hr.units rfl rfl T.n_repr (eva_cons (ev_heard (j := 5) T.F__law_told sc__law_told T.b__law_told (hk__law_told T) (hr.mono (show 7 ≤ 7 by decide)) (takes_of rfl rfl rfl rfl) rfl rfl (show 5 + 1 ≤ 6 by decide) rfl (lk_law T A outer s H E M r) rfl (.inl rfl) rfl T.g__law_told (ev_lam (k := 1) rfl rfl T.tb_law rfl T.tm_law T.tu_law ls_law_1)) eva_nil)) (ev_repr hr.gd hr.units rfl rfl T.n_repr (eva_cons (ev_var (i := 8) rfl (.inl rfl)) eva_nil)) (nomark _))
    (ess_one (es_ret ev_bl))
    ess_nil)
    (ess_cons (es_set (i := 9) sc_law.nd rfl (.inr rfl) (ev_call (n := 2) ((ok__law_take T).mono (show 1 ≤ 7 by decide)) hr (takes_of rfl rfl rfl rfl) rfl T.g__law_take T.F__law_take.kp T.b__law_take (eva_cons (ev_var (i := 2) rfl (.inr (.inl rfl))) (eva_cons (ev_op op_addK addK_ok (ev_callB call_lenK lenK_ok rfl T.n_len (by decide +kernel) (eva_cons (ev_var (i := 5) rfl (.inr (.inl rfl))) eva_nil)) ev_int) eva_nil))))
    (ess_cons (es_set (i := 10) sc_law.nd rfl (.inr rfl) (ev_call (n := 2) ((ok__law_pick T).mono (show 2 ≤ 7 by decide)) hr (takes_of rfl rfl rfl rfl) rfl T.g__law_pick T.F__law_pick.kp T.b__law_pick (eva_cons (ev_var (i := 2) rfl (.inr (.inl rfl))) (eva_cons (ev_lst (eva_cons ev_non (eva_cons (ev_tup (eva_cons ev_int (eva_cons ev_int eva_nil))) (eva_cons (ev_tup (eva_cons (ev_var (i := 3) rfl (.inr (.inl rfl))) (eva_cons ev_int (eva_cons ev_int eva_nil)))) (eva_cons (ev_tup (eva_cons ev_int (eva_cons (ev_neg ev_int) (eva_cons ev_int eva_nil)))) (eva_cons (ev_tup (eva_cons ev_int (eva_cons ev_bl (eva_cons ev_int eva_nil)))) (eva_cons (ev_tup (eva_cons ev_int (eva_cons ev_int (eva_cons (ev_neg ev_int) eva_nil)))) (eva_cons (ev_tup (eva_cons ev_int (eva_cons ev_int (eva_cons ev_str eva_nil)))) (eva_cons (ev_tup (eva_cons ev_int (eva_cons ev_int (eva_cons ev_non eva_nil)))) (eva_cons (ev_tup (eva_cons ev_int (eva_cons ev_int (eva_cons (ev_tup (eva_cons ev_int (eva_cons ev_non eva_nil))) eva_nil)))) (eva_cons ev_str eva_nil))))))))))) eva_nil))))
    (ess_cons (es_if (evt_cmp (op_neP hr.units) (eqK_ok true) (ev_heard (j := 5) T.F__law_told sc__law_told T.b__law_told (hk__law_told T) (hr.mono (show 7 ≤ 7 by decide)) (takes_of rfl rfl rfl rfl) rfl rfl (show 5 + 1 ≤ 6 by decide) rfl (lk_law T A outer s H E M r) rfl (.inl rfl) rfl T.g__law_told (ev_lam (k := 2) rfl rfl T.tb_law rfl T.tm_law T.tu_law ls_law_2)) (ev_tup (eva_cons ev_str (eva_cons (ev_var (i := 9) rfl (.inr (.inl rfl))) eva_nil))) (nomark _))
    (ess_one (es_ret ev_bl))
    ess_nil)
    (ess_cons (es_if (evt_cmp (op_neP hr.units) (eqK_ok true) (ev_heard (j := 5) T.F__law_told sc__law_told T.b__law_told (hk__law_told T) (hr.mono (show 7 ≤ 7 by decide)) (takes_of rfl rfl rfl rfl) rfl rfl (show 5 + 1 ≤ 6 by decide) rfl (lk_law T A outer s H E M r) rfl (.inl rfl) rfl T.g__law_told (ev_lam (k := 3) rfl rfl T.tb_law rfl T.tm_law T.tu_law ls_law_3)) (ev_tup (eva_cons ev_str (eva_cons (ev_neg ev_int) eva_nil))) (nomark _))
    (ess_one (es_ret ev_bl))
    ess_nil)
    (ess_cons (es_set (i := 11) sc_law.nd rfl (.inr rfl) (ev_valN (evn_lc (own := [("_law_cell", 14)]) (ts := [14]) rfl sc_law.nd (evi_range1 rfl T.n_range (eva_cons (ev_op op_mulA mulA_ok (ev_var (i := 3) rfl (.inr (.inl rfl))) (ev_var (i := 3) rfl (.inr (.inl rfl)))) eva_nil)) (show BlkOk N_law (defScope s_law) _ [("_law_cell", 14)] from ⟨rfl, by decide +kernel, by decide +kernel, by decide +kernel, by decide +kernel⟩) (by decide) (fun _ _ _ _ _ => (evg_name (i := 14) sc_law.nd rfl (.inl rfl))) (fun _ _ _ _ _ => evts_nil) (fun _ _ _ _ _ => (ev_call (n := 2) ((ok__law_take T).mono (show 1 ≤ 7 by decide)) hr takes0 rfl T.g__law_take T.F__law_take.kp T.b__law_take (eva_cons (ev_var (i := 2) rfl (.inr (.inl rfl))) (eva_cons (ev_var (i := 3) rfl (.inr (.inl rfl))) eva_nil)))))))
    (ess_cons (es_if (evt_w (evw_or (evt_cmp (op_neP hr.units) (eqK_ok true) (ev_callKw ((ok_need_table T).mono (show 4 ≤ 7 by decide)) hr (takes_of rfl rfl rfl rfl) rfl T.g_need_table T.F_need_table.kp T.kw_need_table_1_0 (by decide) (evk_cons (ev_var (i := 11) rfl (.inr (.inl rfl))) (evk_cons (ev_var (i := 3) rfl (.inr (.inl rfl))) evk_nil))) (ev_callTy call_tuple_of tupK_ok rfl T.n_tuple (by decide +kernel) (eva_cons (ev_var (i := 11) rfl (.inr (.inl rfl))) eva_nil)) (nomark _)) (evw_or1 (evt_cmp (op_neP hr.units) (eqK_ok true) (ev_callKw ((ok_need_size T).mono (show 2 ≤ 7 by decide)) hr (takes_of rfl rfl rfl rfl) rfl T.g_need_size T.F_need_size.kp T.kw_need_size_0 (by decide) (evk_cons (ev_var (i := 3) rfl (.inr (.inl rfl))) evk_nil)) (ev_var (i := 3) rfl (.inr (.inl rfl))) (nomark _)))))
    (ess_one (es_ret ev_bl))
    ess_nil)
    (ess_cons (es_set (i := 9) sc_law.nd rfl (.inr rfl) (ev_call (n := 2) ((ok__law_take T).mono (show 1 ≤ 7 by decide)) hr (takes_of rfl rfl rfl rfl) rfl T.g__law_take T.F__law_take.kp T.b__law_take (eva_cons (ev_var (i := 2) rfl (.inr (.inl rfl))) (eva_cons (ev_op op_mulA mulA_ok (ev_var (i := 3) rfl (.inr (.inl rfl))) (ev_var (i := 3) rfl (.inr (.inl rfl)))) eva_nil))))
    (ess_cons (es_set (i := 12) sc_law.nd rfl (.inr rfl) (ev_op op_addK addK_ok (ev_op op_addK addK_ok (ev_sl (ev_var (i := 11) rfl (.inr (.inl rfl))) evo_none (evo_some (ev_var (i := 9) rfl (.inr (.inl rfl)))) rfl) (ev_lst (eva_cons (ev_call (n := 2) ((ok__law_pick T).mono (show 2 ≤ 7 by decide)) hr (takes_of rfl rfl rfl rfl) rfl T.g__law_pick T.F__law_pick.kp T.b__law_pick (eva_cons (ev_var (i := 2) rfl (.inr (.inl rfl))) (eva_cons (ev_lst (eva_cons ev_non (eva_cons (ev_var (i := 3) rfl (.inr (.inl rfl))) (eva_cons (ev_neg ev_int) (eva_cons ev_bl (eva_cons ev_str eva_nil)))))) eva_nil))) eva_nil))) (ev_sl (ev_var (i := 11) rfl (.inr (.inl rfl))) (evo_some (ev_op op_addK addK_ok (ev_var (i := 9) rfl (.inr (.inl rfl))) ev_int)) evo_none rfl)))
    (ess_cons (es_if (evt_cmp (op_neP hr.units) (eqK_ok true) (ev_heard (j := 5) T.F__law_told sc__law_told T.b__law_told (hk__law_told T) (hr.mono (show 7 ≤ 7 by decide)) (takes_of rfl rfl rfl rfl) rfl rfl (show 5 + 1 ≤ 6 by decide) rfl (lk_law T A outer s H E M r) rfl (.inl rfl) rfl T.g__law_told (ev_lam (k := 4) rfl rfl T.tb_law rfl T.tm_law T.tu_law ls_law_4)) (ev_tup (eva_cons ev_str (eva_cons (ev_var (i := 9) rfl (.inr (.inl rfl))) eva_nil))) (nomark _))
    (ess_one (es_ret ev_bl))
    ess_nil)
    (ess_cons (es_if (evt_cmp (op_neP hr.units) (eqK_ok true) (ev_heard (j := 5) T.F__law_told sc__law_told T.b__law_told (hk__law_told T) (hr.mono (show 7 ≤ 7 by decide)) (takes_of rfl rfl rfl rfl) rfl rfl (show 5 + 1 ≤ 6 by decide) rfl (lk_law T A outer s H E M r) rfl (.inl rfl) rfl T.g__law_told (ev_lam (k := 5) rfl rfl T.tb_law rfl T.tm_law T.tu_law ls_law_5)) (ev_tup (eva_cons ev_str (eva_cons (ev_neg ev_int) eva_nil))) (nomark _))
    (ess_one (es_ret ev_bl))
    ess_nil)
    (ess_cons (es_set (i := 13) sc_law.nd rfl (.inr rfl) (ev_call (n := 2) ((ok__law_pick T).mono (show 2 ≤ 7 by decide)) hr (takes_of rfl rfl rfl rfl) rfl T.g__law_pick T.F__law_pick.kp T.b__law_pick (eva_cons (ev_var (i := 2) rfl (.inr (.inl rfl))) (eva_cons (ev_lst (eva_cons ev_non (eva_cons ev_int (eva_cons ev_int (eva_cons ev_bl (eva_cons ev_str eva_nil)))))) eva_nil))))
    (ess_cons (es_if (evt_cmp (op_neP hr.units) (eqK_ok true) (ev_heard (j := 5) T.F__law_told sc__law_told T.b__law_told (hk__law_told T) (hr.mono (show 7 ≤ 7 by decide)) (takes_of rfl rfl rfl rfl) rfl rfl (show 5 + 1 ≤ 6 by decide) rfl (lk_law T A outer s H E M r) rfl (.inl rfl) rfl T.g__law_told (ev_lam (k := 6) rfl rfl T.tb_law rfl T.tm_law T.tu_law ls_law_6)) (ev_tup (eva_cons ev_str (eva_cons ev_str eva_nil))) (nomark _))
    (ess_one (es_ret ev_bl))
    ess_nil)
    (ess_cons (es_if (evt_cmp (op_neP hr.units) (eqK_ok true) (ev_heard (j := 5) T.F__law_told sc__law_told T.b__law_told (hk__law_told T) (hr.mono (show 7 ≤ 7 by decide)) (takes_of rfl rfl rfl rfl) rfl rfl (show 5 + 1 ≤ 6 by decide) rfl (lk_law T A outer s H E M r) rfl (.inl rfl) rfl T.g__law_told (ev_lam (k := 7) rfl rfl T.tb_law rfl T.tm_law T.tu_law ls_law_7)) (ev_tup (eva_cons ev_str (eva_cons ev_str eva_nil))) (nomark _))
    (ess_one (es_ret ev_bl))
    ess_nil)
    (ess_one (es_if (evt_cmp (op_neP hr.units) (eqK_ok true) (ev_heard (j := 5) T.F__law_told sc__law_told T.b__law_told (hk__law_told T) (hr.mono (show 7 ≤ 7 by decide)) (takes_of rfl rfl rfl rfl) rfl rfl (show 5 + 1 ≤ 6 by decide) rfl (lk_law T A outer s H E M r) rfl (.inl rfl) rfl T.g__law_told (ev_lam (k := 8) rfl rfl T.tb_law rfl T.tm_law T.tu_law ls_law_8)) (ev_tup (eva_cons ev_str (eva_cons ev_str eva_nil))) (nomark _))
    (ess_one (es_ret ev_bl))
    ess_nil))))))))))))))))))))))))
    (ess_one (es_ret ev_bl)))))
end
end LP
/-! K01x: the statements of some defs, named (printed by parts.py). -/
namespace LP
open PySem PySem.Spec PyProof.Rows L2 HT
def p_need_size_1 : SF := (ifS (orT (notT (testF (callF (nArgs 1 F_is_integer) (consA (varF 0) nilA)))) (notT (testF (chainF leK leK (cF (.int 2)) (varF 0) (cF (.int 3)))))) (raiseS "InvalidSize" "word" (cF (.str "size"))) (fun δ h => .nx δ h))
def p_need_size_2 : SF := (retS (varF 0))
def p_need_size : SF := (seqS p_need_size_1 p_need_size_2)
theorem sf_need_size_eq : sf_need_size = p_need_size := rfl
def p_need_table_1 : SF := (setS 0 (callF (nArgs 1 F_need_size) (consA (varF 0) nilA)))
def p_need_table_2 : SF := (ifS (orT (notT (testF (callF (nArgs 1 F_is_sequence) (consA (varF 1) nilA)))) (testF (bin2 (eqK true) (blt lenK (consA (varF 1) nilA)) (bin2 mulA (varF 0) (varF 0))))) (raiseS "InvalidTable" "at" (negF (cF (.int 1)))) (fun δ h => .nx δ h))
def p_need_table_3 : SF := (forS (fun δ h => ((consA (varF 1) nilA) δ h).bind fun ds h1 => enumK ds δ h1) (tupU 2 (consU (nameU 2) (consU (nameU 3) nilU))) (ifS (notT (testF (callF (nArgs 2 F_is_below) (consA (varF 3) (consA (varF 0) nilA)))))
    (raiseS "InvalidTable" "at" (varF 2))
    (fun δ h => .nx δ h)))
def p_need_table_4 : SF := (retS (blt tupK (consA (varF 1) nilA)))
def p_need_table : SF := (seqS p_need_table_1 (seqS p_need_table_2 (seqS p_need_table_3 p_need_table_4)))
theorem sf_need_table_eq : sf_need_table = p_need_table := rfl
def p_is_thing : SF := (retS (orV (callF (nArgs 1 F_is_number) (consA (varF 0) nilA)) (andV (callF (nArgs 1 F_is_sequence) (consA (varF 0) nilA)) (blt allK (consA (valN (lcN (itemsI (varF 0)) [1] (nameU 1) yesF (callF (nArgs 1 F_is_number) (consA (varF 1) nilA)))) nilA)))))
theorem sf_is_thing_eq : sf_is_thing = p_is_thing := rfl
def p_met_cells_1 : SF := (asgS (tupU 2 (consU (nameU 2) (consU (nameU 3) nilU))) (slF (varF 1) noO (someO (cF (.int 2)))))
def p_met_cells_2 : SF := (setS 4 (iteF (testF (bin2 isNK (varF 2) (cF .non))) (valN (listRgN (rg1F (varF 0)))) (lstF (consA (varF 2) nilA))))
def p_met_cells_3 : SF := (setS 5 (iteF (testF (bin2 isNK (varF 3) (cF .non))) (valN (listRgN (rg1F (varF 0)))) (lstF (consA (varF 3) nilA))))
def p_met_cells_4 : SF := (retS (valN (lc2N (itemsI (varF 4)) [6, 7] (nameU 6) yesF (itemsI (varF 5)) [7] (nameU 7) yesF (bin2 addK (bin2 mulA (varF 6) (varF 0)) (varF 7)))))
def p_met_cells : SF := (seqS p_met_cells_1 (seqS p_met_cells_2 (seqS p_met_cells_3 p_met_cells_4)))
theorem sf_met_cells_eq : sf_met_cells = p_met_cells := rfl
def p_is_line_1 : SF := (ifS (orT (notT (testF (callF (nArgs 1 F_is_sequence) (consA (varF 1) nilA)))) (orT (testF (bin2 (eqK true) (blt lenK (consA (varF 1) nilA)) (cF (.int 3)))) (notT (testF (callF (nArgs 1 F_is_thing) (consA (bin2 ixK (varF 1) (cF (.int 2))) nilA)))))) (retS (cF (.bl false))) (fun δ h => .nx δ h))
def p_is_line_2 : SF := (retS (blt allK (consA (valN (lcN (itemsI (slF (varF 1) noO (someO (cF (.int 2))))) [2] (nameU 2) yesF (orV (bin2 isNK (varF 2) (cF .non)) (callF (nArgs 2 F_is_below) (consA (varF 2) (consA (varF 0) nilA)))))) nilA)))
def p_is_line : SF := (seqS p_is_line_1 p_is_line_2)
theorem sf_is_line_eq : sf_is_line = p_is_line := rfl
def p_lines_sheet_1 : SF := (parS [0, 2] (consX (callF (nArgs 1 F_need_size) (consA (varF 0) nilA)) (consXD (fun _ h => .ok (.k []) h) nilX)))
def p_lines_sheet_2 : SF := (ifS (notT (testF (callF (nArgs 1 F_is_sequence) (consA (varF 1) nilA)))) (raiseS "InvalidLines" "at" (negF (cF (.int 1)))) (fun δ h => .nx δ h))
def p_lines_sheet_3b_1 : SF := (ifS (notT (testF (callF (nArgs 2 F_is_line) (consA (varF 0) (consA (varF 4) nilA))))) (raiseS "InvalidLines" "at" (varF 3)) (fun δ h => .nx δ h))
def p_lines_sheet_3b_2 : SF := (forS (itemsI (callF (nArgs 2 F_met_cells) (consA (varF 0) (consA (varF 4) nilA)))) (nameU 5) (dsetS 2 (varF 5) (callF (nArgs 1 F_one_thing) (consA (bin2 ixK (varF 4) (cF (.int 2))) nilA))))
def p_lines_sheet_3b : SF := (seqS p_lines_sheet_3b_1 p_lines_sheet_3b_2)
def p_lines_sheet_3 : SF := (forS (fun δ h => ((consA (varF 1) nilA) δ h).bind fun ds h1 => enumK ds δ h1) (tupU 2 (consU (nameU 3) (consU (nameU 4) nilU))) p_lines_sheet_3b)
def p_lines_sheet_4 : SF := (ownS 6 (lcN (fun δ h => ((consA (bin2 mulA (varF 0) (varF 0)) nilA) δ h).bind rg1K) [5] (nameU 5) (testF (dinF true 2 (varF 5))) (varF 5)))
def p_lines_sheet_5 : SF := (ifS (testF (bin2 gtK (blt lenK (consA (varF 6) nilA)) (cF (.int 0)))) (raiseS "Refused" "at" (bin2 ixK (varF 6) (cF (.int 0)))) (fun δ h => .nx δ h))
def p_lines_sheet_6 : SF := (retS (blt tupK (consA (valN (lcN (fun δ h => ((consA (bin2 mulA (varF 0) (varF 0)) nilA) δ h).bind rg1K) [5] (nameU 5) yesF (dixF 2 (varF 5)))) nilA)))
def p_lines_sheet : SF := (seqS p_lines_sheet_1 (seqS p_lines_sheet_2 (seqS p_lines_sheet_3 (seqS p_lines_sheet_4 (seqS p_lines_sheet_5 p_lines_sheet_6)))))
theorem sf_lines_sheet_eq : sf_lines_sheet = p_lines_sheet := rfl
def p_lbox_1 : SF := (setS 2 (bin2 addK (bin2 mulA (cF (.int 4133)) (varF 1)) (cF (.int 311))))
def p_lbox_2 : SF := (ifS (testF (bin2 ltK (varF 1) (blt lenK (consA (varF 0) nilA)))) (setS 2 (blt absK (consA (bin2 ixK (varF 0) (varF 1)) nilA))) (ifS (testF (bin2 gtK (blt lenK (consA (varF 0) nilA)) (cF (.int 0))))
    (setS 2 (bin2 addK (varF 2) (bin2 mulA (bin2 modK (blt intK (consA (blt absK (consA (bin2 ixK (varF 0) (bin2 modK (blt intK (consA (varF 1) nilA)) (blt lenK (consA (varF 0) nilA)))) nilA)) nilA)) (cF (.int 2147483629))) (cF (.int 70009)))))
    (fun δ h => .nx δ h)))
def p_lbox_3 : SF := (retS (boxN (lstN (consA (bin2 ixK (lstF (consA (cF (.int 0)) (consA (varF 2) nilA))) (blt intK (consA (bin2 geK (varF 2) (bin2 powK (cF (.int 10)) (cF (.int 18)))) nilA))) (consA (bin2 addK (bin2 modK (blt intK (consA (bin2 addK (bin2 mulA (bin2 modK (blt intK (consA (varF 2) nilA)) (cF (.int 2147483629))) (cF (.int 44017))) (bin2 mulA (cF (.int 53089)) (varF 1))) nilA)) (cF (.int 2147483629))) (cF (.int 1))) (consA (cF (.int 0)) nilA))))))
def p_lbox : SF := (seqS p_lbox_1 (seqS p_lbox_2 p_lbox_3))
theorem sf__law_box_eq : sf__law_box = p_lbox := rfl
def p_ltake_1t_1 : SF := (setS 2 (bin2 modK (blt intK (consA (bin2 ixK (varF 0) (cF (.int 0))) nilA)) (varF 1)))
def p_ltake_1t_2 : SF := (setiS 0 (cF (.int 0)) (bin2 divK (bin2 ixK (varF 0) (cF (.int 0))) (varF 1)))
def p_ltake_1t_3 : SF := (retS (varF 2))
def p_ltake_1t : SF := (seqS p_ltake_1t_1 (seqS p_ltake_1t_2 p_ltake_1t_3))
def p_ltake_1 : SF := (ifS (testF (bin2 gtK (bin2 ixK (varF 0) (cF (.int 0))) (cF (.int 0)))) p_ltake_1t (fun δ h => .nx δ h))
def p_ltake_2 : SF := (setiS 0 (cF (.int 2)) (bin2 addK (bin2 ixK (varF 0) (cF (.int 2))) (cF (.int 1))))
def p_ltake_3 : SF := (setS 3 (bin2 modK (blt intK (consA (bin2 addK (bin2 mulA (bin2 addK (bin2 ixK (varF 0) (cF (.int 1))) (bin2 mulA (cF (.int 70001)) (bin2 ixK (varF 0) (cF (.int 2))))) (cF (.int 61211))) (cF (.int 37))) nilA)) (cF (.int 2147483563))))
def p_ltake_4 : SF := (setiS 0 (cF (.int 1)) (bin2 addK (bin2 modK (blt intK (consA (bin2 addK (bin2 mulA (varF 3) (cF (.int 38011))) (cF (.int 23057))) nilA)) (cF (.int 2147483629))) (cF (.int 1))))
def p_ltake_5 : SF := (retS (bin2 modK (blt intK (consA (bin2 divK (bin2 addK (bin2 mulA (varF 3) (cF (.int 2147483647))) (bin2 ixK (varF 0) (cF (.int 1)))) (cF (.int 8191))) nilA)) (varF 1)))
def p_ltake : SF := (seqS p_ltake_1 (seqS p_ltake_2 (seqS p_ltake_3 (seqS p_ltake_4 p_ltake_5))))
theorem sf__law_take_eq : sf__law_take = p_ltake := rfl
def p_ldue_1 : SF := (ownS 2 (lstN nilA))
def p_ldue_2b_1 : SF := (ownS 4 (lcN (itemsI (varF 1)) [5] (nameU 5) (andT (testF (bin2 (inK false) (bin2 ixK (varF 5) (cF (.int 0))) (tupF (consA (cF .non) (consA (bin2 divK (varF 3) (varF 0)) nilA))))) (testF (bin2 (inK false) (bin2 ixK (varF 5) (cF (.int 1))) (tupF (consA (cF .non) (consA (bin2 modK (varF 3) (varF 0)) nilA)))))) (bin2 ixK (varF 5) (cF (.int 2)))))
def p_ldue_2b_2 : SF := (ifS (testF (bin2 (eqK false) (varF 4) (lstF nilA))) (retS (tupF (consA (cF (.str "refused")) (consA (varF 3) nilA)))) (fun δ h => .nx δ h))
def p_ldue_2b_3 : SF := (appS 2 (iteF (testF (isiF ["int"] (bin2 ixK (varF 4) (negF (cF (.int 1)))))) (bin2 ixK (varF 4) (negF (cF (.int 1)))) (blt tupK (consA (bin2 ixK (varF 4) (negF (cF (.int 1)))) nilA))))
def p_ldue_2b : SF := (seqS p_ldue_2b_1 (seqS p_ldue_2b_2 p_ldue_2b_3))
def p_ldue_2 : SF := (forS (fun δ h => ((consA (bin2 mulA (varF 0) (varF 0)) nilA) δ h).bind rg1K) (nameU 3) p_ldue_2b)
def p_ldue_3 : SF := (retS (blt tupK (consA (varF 2) nilA)))
def p_ldue : SF := (seqS p_ldue_1 (seqS p_ldue_2 p_ldue_3))
theorem sf__law_due_eq : sf__law_due = p_ldue := rfl
def p_law_1 : SF := (ifS (testF (bin2 (eqK true) (callF (nArgs 2 F_lines_sheet) (consA (cF (.int 2)) (consA (lstF (consA (tupF (consA (cF .non) (consA (cF .non) (consA (cF (.int 0)) nilA)))) (consA (tupF (consA (cF (.int 1)) (consA (cF .non) (consA (cF (.int 1)) nilA)))) (consA (lstF (consA (cF .non) (consA (cF (.int 0)) (consA (tupF (consA (cF (.int 3)) (consA (cF (.int 4)) nilA))) nilA)))) nilA)))) nilA))) (tupF (consA (tupF (consA (cF (.int 3)) (consA (cF (.int 4)) nilA))) (consA (cF (.int 0)) (consA (tupF (consA (cF (.int 3)) (consA (cF (.int 4)) nilA))) (consA (cF (.int 1)) nilA))))))) (retS (cF (.bl false))) (fun δ h => .nx δ h))
def p_law_2 : SF := (ifS (testF (bin2 (eqK true) (fun δ h => ((cF (.lam 0)) δ h).bind fun d h1 => heardF bod_law N__law_told.length sf__law_told δ d h1) (tupF (consA (cF (.str "refused")) (consA (cF (.int 2)) nilA))))) (retS (cF (.bl false))) (fun δ h => .nx δ h))
def p_law_3b_1 : SF := (setS 2 (callF (nArgs 2 F__law_box) (consA (varF 0) (consA (varF 1) nilA))))
def p_law_3b_2 : SF := (setS 3 (bin2 addK (cF (.int 2)) (callF (nArgs 2 F__law_take) (consA (varF 2) (consA (cF (.int 2)) nilA)))))
def p_law_3b_3 : SF := (setS 4 (bin2 addK (lstF (consA (cF .non) nilA)) (valN (listRgN (rg1F (varF 3))))))
def p_law_3b_4 : SF := (ownS 5 (lstN nilA))
def p_law_3b_5b_1 : SF := (setS 7 (tupF (consA (callF (nArgs 2 F__law_pick) (consA (varF 2) (consA (varF 4) nilA))) (consA (callF (nArgs 2 F__law_pick) (consA (varF 2) (consA (varF 4) nilA))) (consA (callF (nArgs 1 F__law_thing) (consA (varF 2) nilA)) nilA)))))
def p_law_3b_5b_2 : SF := (appS 5 (callF (nArgs 2 F__law_pick) (consA (varF 2) (consA (lstF (consA (varF 7) (consA (valN (listN (consA (varF 7) nilA))) nilA))) nilA))))
def p_law_3b_5b : SF := (seqS p_law_3b_5b_1 p_law_3b_5b_2)
def p_law_3b_5 : SF := (forS (fun δ h => ((consA (bin2 addK (cF (.int 1)) (callF (nArgs 2 F__law_take) (consA (varF 2) (consA (cF (.int 6)) nilA)))) nilA) δ h).bind rg1K) (nameU 6) p_law_3b_5b)
def p_law_3b_6 : SF := (ifS (testF (bin2 gtK (callF (nArgs 2 F__law_take) (consA (varF 2) (consA (cF (.int 4)) nilA))) (cF (.int 0)))) (ownS 5 (addN (lstF (consA (tupF (consA (cF .non) (consA (cF .non) (consA (callF (nArgs 1 F__law_thing) (consA (varF 2) nilA)) nilA)))) nilA)) (varF 5))) (fun δ h => .nx δ h))
def p_law_3b_7 : SF := (frzS 5 (setS 8 (callF (nArgs 2 F__law_due) (consA (varF 3) (consA (varF 5) nilA)))))
def p_law_3b_8 : SF := (ifS (testF (bin2 (eqK true) (blt reprK (consA (fun δ h => ((cF (.lam 1)) δ h).bind fun d h1 => heardF bod_law N__law_told.length sf__law_told δ d h1) nilA)) (blt reprK (consA (varF 8) nilA)))) (retS (cF (.bl false))) (fun δ h => .nx δ h))
def p_law_3b_9 : SF := (setS 9 (callF (nArgs 2 F__law_take) (consA (varF 2) (consA (bin2 addK (blt lenK (consA (varF 5) nilA)) (cF (.int 1))) nilA))))
def p_law_3b_10 : SF := (setS 10 (callF (nArgs 2 F__law_pick) (consA (varF 2) (consA (lstF (consA (cF .non) (consA (tupF (consA (cF (.int 0)) (consA (cF (.int 0)) nilA))) (consA (tupF (consA (varF 3) (consA (cF (.int 0)) (consA (cF (.int 0)) nilA)))) (consA (tupF (consA (cF (.int 0)) (consA (negF (cF (.int 1))) (consA (cF (.int 0)) nilA)))) (consA (tupF (consA (cF (.int 0)) (consA (cF (.bl true)) (consA (cF (.int 0)) nilA)))) (consA (tupF (consA (cF (.int 0)) (consA (cF (.int 0)) (consA (negF (cF (.int 1))) nilA)))) (consA (tupF (consA (cF (.int 0)) (consA (cF (.int 0)) (consA (cF (.str "0")) nilA)))) (consA (tupF (consA (cF (.int 0)) (consA (cF (.int 0)) (consA (cF .non) nilA)))) (consA (tupF (consA (cF (.int 0)) (consA (cF (.int 0)) (consA (tupF (consA (cF (.int 0)) (consA (cF .non) nilA))) nilA)))) (consA (cF (.str "000")) nilA))))))))))) nilA))))
def p_law_3b_11 : SF := (ifS (testF (bin2 (eqK true) (fun δ h => ((cF (.lam 2)) δ h).bind fun d h1 => heardF bod_law N__law_told.length sf__law_told δ d h1) (tupF (consA (cF (.str "lines")) (consA (varF 9) nilA))))) (retS (cF (.bl false))) (fun δ h => .nx δ h))
def p_law_3b_12 : SF := (ifS (testF (bin2 (eqK true) (fun δ h => ((cF (.lam 3)) δ h).bind fun d h1 => heardF bod_law N__law_told.length sf__law_told δ d h1) (tupF (consA (cF (.str "lines")) (consA (negF (cF (.int 1))) nilA))))) (retS (cF (.bl false))) (fun δ h => .nx δ h))
def p_law_3b_13 : SF := (setS 11 (valN (lcN (fun δ h => ((consA (bin2 mulA (varF 3) (varF 3)) nilA) δ h).bind rg1K) [14] (nameU 14) yesF (callF (nArgs 2 F__law_take) (consA (varF 2) (consA (varF 3) nilA))))))
def p_law_3b_14 : SF := (ifS (orT (testF (bin2 (eqK true) (callKwF 2 [1, 0] F_need_table (consA (varF 11) (consA (varF 3) nilA))) (blt tupK (consA (varF 11) nilA)))) (testF (bin2 (eqK true) (callKwF 1 [0] F_need_size (consA (varF 3) nilA)) (varF 3)))) (retS (cF (.bl false))) (fun δ h => .nx δ h))
def p_law_3b_15 : SF := (setS 9 (callF (nArgs 2 F__law_take) (consA (varF 2) (consA (bin2 mulA (varF 3) (varF 3)) nilA))))
def p_law_3b_16 : SF := (setS 12 (bin2 addK (bin2 addK (slF (varF 11) noO (someO (varF 9))) (lstF (consA (callF (nArgs 2 F__law_pick) (consA (varF 2) (consA (lstF (consA (cF .non) (consA (varF 3) (consA (negF (cF (.int 1))) (consA (cF (.bl true)) (consA (cF (.str "0")) nilA)))))) nilA))) nilA))) (slF (varF 11) (someO (bin2 addK (varF 9) (cF (.int 1)))) noO)))
def p_law_3b_17 : SF := (ifS (testF (bin2 (eqK true) (fun δ h => ((cF (.lam 4)) δ h).bind fun d h1 => heardF bod_law N__law_told.length sf__law_told δ d h1) (tupF (consA (cF (.str "table")) (consA (varF 9) nilA))))) (retS (cF (.bl false))) (fun δ h => .nx δ h))
def p_law_3b_18 : SF := (ifS (testF (bin2 (eqK true) (fun δ h => ((cF (.lam 5)) δ h).bind fun d h1 => heardF bod_law N__law_told.length sf__law_told δ d h1) (tupF (consA (cF (.str "table")) (consA (negF (cF (.int 1))) nilA))))) (retS (cF (.bl false))) (fun δ h => .nx δ h))
def p_law_3b_19 : SF := (setS 13 (callF (nArgs 2 F__law_pick) (consA (varF 2) (consA (lstF (consA (cF .non) (consA (cF (.int 1)) (consA (cF (.int 4)) (consA (cF (.bl true)) (consA (cF (.str "2")) nilA)))))) nilA))))
def p_law_3b_20 : SF := (ifS (testF (bin2 (eqK true) (fun δ h => ((cF (.lam 6)) δ h).bind fun d h1 => heardF bod_law N__law_told.length sf__law_told δ d h1) (tupF (consA (cF (.str "size")) (consA (cF (.str "size")) nilA))))) (retS (cF (.bl false))) (fun δ h => .nx δ h))
def p_law_3b_21 : SF := (ifS (testF (bin2 (eqK true) (fun δ h => ((cF (.lam 7)) δ h).bind fun d h1 => heardF bod_law N__law_told.length sf__law_told δ d h1) (tupF (consA (cF (.str "size")) (consA (cF (.str "size")) nilA))))) (retS (cF (.bl false))) (fun δ h => .nx δ h))
def p_law_3b_22 : SF := (ifS (testF (bin2 (eqK true) (fun δ h => ((cF (.lam 8)) δ h).bind fun d h1 => heardF bod_law N__law_told.length sf__law_told δ d h1) (tupF (consA (cF (.str "size")) (consA (cF (.str "size")) nilA))))) (retS (cF (.bl false))) (fun δ h => .nx δ h))
def p_law_3b : SF := (seqS p_law_3b_1 (seqS p_law_3b_2 (seqS p_law_3b_3 (seqS p_law_3b_4 (seqS p_law_3b_5 (seqS p_law_3b_6 (seqS p_law_3b_7 (seqS p_law_3b_8 (seqS p_law_3b_9 (seqS p_law_3b_10 (seqS p_law_3b_11 (seqS p_law_3b_12 (seqS p_law_3b_13 (seqS p_law_3b_14 (seqS p_law_3b_15 (seqS p_law_3b_16 (seqS p_law_3b_17 (seqS p_law_3b_18 (seqS p_law_3b_19 (seqS p_law_3b_20 (seqS p_law_3b_21 p_law_3b_22)))))))))))))))))))))
def p_law_3 : SF := (forS (fun δ h => ((consA (cF (.int 3)) nilA) δ h).bind rg1K) (nameU 1) p_law_3b)
def p_law_4 : SF := (retS (cF (.bl true)))
def p_law : SF := (seqS p_law_1 (seqS p_law_2 (seqS p_law_3 p_law_4)))
theorem sf_law_eq : sf_law = p_law := rfl
end LP
/-! K01a: what is drawn. -/
namespace LP
open PySem PySem.Spec PyProof.Rows L2 HT
theorem rgD_length {n : Nat} : (rgD 0 (n : Int)).length = n := by simp [rgD]
/-! ### what is drawn -/
def Bo (hs h : Bx) : Prop := ∃ a b c : Int, h = hs ++ [[.int a, .int b, .int c]]
theorem take_ok {hs h : Bx} (B : Bo hs h) {m : Nat} (h0 : 0 < m) (h1 : m < 1073741824) : ∃ (x : Nat) (h' : Bx), x < m ∧ F__law_take [.ptr hs.length, .int m] h = .ok (.int x) h' ∧ Bo hs h' := by
  obtain ⟨a, b, c, rfl⟩ := B
  have g0 : (0 : Int) < m := by omega
  have g1 : (m : Int) < 1073741824 := by omega
  suffices ∃ x a' b' c' : Int, 0 ≤ x ∧ x < m ∧ F__law_take [.ptr hs.length, .int m] (hs ++ [[.int a, .int b, .int c]]) = .ok (.int x) (hs ++ [[.int a', .int b', .int c']]) by
    obtain ⟨x, a', b', c', x0, x1, e⟩ := this
    refine ⟨x.toNat, _, by omega, ?_, a', b', c', rfl⟩
    rw [e, Int.toNat_of_nonneg x0]
  by_cases ha : 0 < a
  · refine ⟨a % m, a / m, b, c, Int.emod_nonneg _ (by omega), Int.emod_lt_of_pos _ g0, ?_⟩
    simp [F__law_take, runF_ap, sf__law_take, startD, ha, g0, g1, h0, h1]
  · simp [F__law_take, runF_ap, sf__law_take, startD, ha, g0, g1, h0, h1]
    exact ⟨Int.emod_nonneg _ (by omega), Int.emod_lt_of_pos _ g0⟩
theorem nums_of {m : Nat} : ∀ {ds ys : List D}, All2 (fun _ y => ∃ v : Nat, v < m ∧ y = nD v) ds ys → ∃ t : List Nat, ys = nsD t ∧ t.length = ds.length ∧ ∀ v ∈ t, v < m
  | _, _, .nil => ⟨[], rfl, rfl, fun v hv => by simp at hv⟩
  | _, _, .cons ⟨v, hv, e⟩ t => by
    obtain ⟨t', e1, e2, e3⟩ := nums_of t
    refine ⟨v :: t', by rw [e, e1]; rfl, by simp [e2], fun w hw => ?_⟩
    rcases List.mem_cons.mp hw with hw | hw
    · subst hw; exact hv
    · exact e3 w hw
/-- [take(box, m) for i in range(n)] -/
theorem draws_ok {hs h : Bx} (B : Bo hs h) {m n : Nat} (h0 : 0 < m) (h1 : m < 1073741824) {δ : DE} {i : Nat} {f : EF} (hi : 0 < i) (e0 : δ[0]? = some (.v (.ptr hs.length))) (hf : ∀ (d : D) (h : Bx), f (δ.set i (.v d)) h = .ok (.int m) h) :
    ∃ (t : List Nat) (h' : Bx), compF (nameU i) yesF (callF (nArgs 2 F__law_take) (consA (varF 0) (consA f nilA))) δ (rgD 0 (n : Int)) h = .ok (nsD t) h' ∧ t.length = n ∧ (∀ v ∈ t, v < m) ∧ Bo hs h' := by
  obtain ⟨ys, h', e1, e2, e3⟩ := compF_st (u := nameU i) (ef := callF (nArgs 2 F__law_take) (consA (varF 0) (consA f nilA))) (δ := δ) (P := Bo hs) (Q := fun _ y => ∃ v : Nat, v < m ∧ y = nD v) (ds := rgD 0 (n : Int)) B fun d hd h B => by
    obtain ⟨x, h', q1, q2, q3⟩ := take_ok B h0 h1
    have e : (δ.set i (.v d))[0]? = some (.v (.ptr hs.length)) := by rw [List.getElem?_set_ne (by omega)]; exact e0
    exact ⟨δ.set i (.v d), nD x, h', rfl, by simp [e, hf, q2, nD], rfl, ⟨x, q1, rfl⟩, q3⟩
  obtain ⟨t, rfl, t1, t2⟩ := nums_of e3
  exact ⟨t, h', e1, by rw [t1, rgD_length], t2, e2⟩
def bx_ret : SF := (retS (boxN (lstN (consA (bin2 ixK (lstF (consA (cF (.int 0)) (consA (varF 2) nilA))) (blt intK (consA (bin2 geK (varF 2) (bin2 powK (cF (.int 10)) (cF (.int 18)))) nilA))) (consA (bin2 addK (bin2 modK (blt intK (consA (bin2 addK (bin2 mulA (bin2 modK (blt intK (consA (varF 2) nilA)) (cF (.int 2147483629))) (cF (.int 44017))) (bin2 mulA (cF (.int 53089)) (varF 1))) nilA)) (cF (.int 2147483629))) (cF (.int 1))) (consA (cF (.int 0)) nilA))))))
theorem bx_ret_ok (a0 : SV) (k c : Int) (h : Bx) : ∃ x y : Int, bx_ret [a0, .v (.int k), .v (.int c)] h = .rt (.ptr h.length) (h ++ [[.int x, .int y, .int 0]]) := by
  by_cases h2 : (1000000000000000000 : Int) ≤ c
  · simp [bx_ret, h2]
  · simp [bx_ret, h2]
theorem box_ok {ns : List Int} (hn : ns.length ≤ 63) {k : Nat} (hk : k ≤ 100) (h : Bx) : ∃ h', F__law_box [.frz (ns.map D.int), .int k] h = .ok (.ptr h.length) h' ∧ Bo h h' := by
  have fin : ∀ c : Int, ∃ h', (bx_ret [.v (.frz (ns.map D.int)), .v (.int k), .v (.int c)] h).fin = .ok (.ptr h.length) h' ∧ Bo h h' := fun c => by
    obtain ⟨x, y, e⟩ := bx_ret_ok (.v (.frz (ns.map D.int))) k c h
    rw [e]
    exact ⟨_, rfl, x, y, 0, rfl⟩
  unfold bx_ret at fin
  by_cases h1 : k < ns.length
  · have e1 : atI (ns.map D.int) (k : Int) = some (.int ns[k]) := by
      rw [atI_nat (by rw [List.length_map]; exact h1), List.getElem?_map, List.getElem?_eq_getElem h1]; rfl
    obtain ⟨h', q, B⟩ := fin (if ns[k] < 0 then -ns[k] else ns[k])
    refine ⟨h', ?_, B⟩
    rw [← q, F__law_box, runF_ap, sf__law_box, seqS_ap]
    simp only [startD, setS_ap, bin2_ap, varF_ap, cF_ap]
    simp [h1, e1]
  · by_cases h0 : 0 < ns.length
    · have e1 : atI (ns.map D.int) ((k : Int) % ns.length) = some (.int (ns[k % ns.length]'(Nat.mod_lt _ h0))) := by
        rw [← Int.natCast_emod, atI_nat (by rw [List.length_map]; exact Nat.mod_lt _ h0), List.getElem?_map, List.getElem?_eq_getElem (Nat.mod_lt _ h0)]; rfl
      obtain ⟨h', q, B⟩ := fin (4133 * k + 311 + (if ns[k % ns.length]'(Nat.mod_lt _ h0) < 0 then -ns[k % ns.length]'(Nat.mod_lt _ h0) else ns[k % ns.length]'(Nat.mod_lt _ h0)) % 2147483629 * 70009)
      refine ⟨h', ?_, B⟩
      rw [← q, F__law_box, runF_ap, sf__law_box, seqS_ap]
      simp only [startD, setS_ap, bin2_ap, varF_ap, cF_ap]
      simp [h1, h0, e1]
    · obtain ⟨h', q, B⟩ := fin (4133 * k + 311)
      refine ⟨h', ?_, B⟩
      rw [← q, F__law_box, runF_ap, sf__law_box, seqS_ap]
      simp only [startD, setS_ap, bin2_ap, varF_ap, cF_ap]
      simp [h1, h0]
theorem pick_ok {hs h : Bx} (B : Bo hs h) (ds : List D) (h0 : 0 < ds.length) (h1 : ds.length < 1000) (hv : ∀ d ∈ ds, isV d = true) : ∃ (i : Nat) (h' : Bx) (hi : i < ds.length), F__law_pick [.ptr hs.length, .lst ds] h = .ok ds[i] h' ∧ Bo hs h' := by
  obtain ⟨x, h', q1, q2, q3⟩ := take_ok B h0 (by omega)
  have e1 : atI ds (x : Int) = some ds[x] := by rw [atI_nat q1, List.getElem?_eq_getElem q1]
  have e2 := fun δ h => retK_v (δ := δ) (h := h) (hv _ (List.getElem_mem q1))
  exact ⟨x, h', q1, by simp [F__law_pick, runF_ap, sf__law_pick, startD, q2, e1, e2], q3⟩
theorem pick_mem {hs h : Bx} (B : Bo hs h) (L : List D) (h0 : 0 < L.length) (h1 : L.length < 1000) (hv : ∀ d ∈ L, isV d = true) : ∃ (x : D) (h' : Bx), x ∈ L ∧ F__law_pick [.ptr hs.length, .lst L] h = .ok x h' ∧ Bo hs h' := by
  obtain ⟨i, h', hi, e, B'⟩ := pick_ok B L h0 h1 hv
  exact ⟨_, h', List.getElem_mem hi, e, B'⟩
end LP
/-! K01b: kinds of values, things, lines. -/
namespace LP
open PySem PySem.Spec PyProof.Rows L2 HT
section
variable {h : Bx} {n m : Int} {b : Bool} {t : Str} {ds : List D} {e : D}
@[simp] theorem isint_int : F_is_integer [.int n] h = .ok (.bl true) h := by simp [F_is_integer, runF_ap, sf_is_integer, startD]
@[simp] theorem isint_bl : F_is_integer [.bl b] h = .ok (.bl false) h := by simp [F_is_integer, runF_ap, sf_is_integer, startD]
@[simp] theorem isint_str : F_is_integer [.str t] h = .ok (.bl false) h := by simp [F_is_integer, runF_ap, sf_is_integer, startD]
@[simp] theorem isint_non : F_is_integer [.non] h = .ok (.bl false) h := by simp [F_is_integer, runF_ap, sf_is_integer, startD]
@[simp] theorem isint_tup : F_is_integer [.tup ds] h = .ok (.bl false) h := by simp [F_is_integer, runF_ap, sf_is_integer, startD]
@[simp] theorem isint_lst : F_is_integer [.lst ds] h = .ok (.bl false) h := by simp [F_is_integer, runF_ap, sf_is_integer, startD]
@[simp] theorem isnum_int : F_is_number [.int n] h = .ok (.bl (decide (0 ≤ n))) h := by simp [F_is_number, runF_ap, sf_is_number, startD]
@[simp] theorem isnum_bl : F_is_number [.bl b] h = .ok (.bl false) h := by simp [F_is_number, runF_ap, sf_is_number, startD]
@[simp] theorem isnum_str : F_is_number [.str t] h = .ok (.bl false) h := by simp [F_is_number, runF_ap, sf_is_number, startD]
@[simp] theorem isnum_non : F_is_number [.non] h = .ok (.bl false) h := by simp [F_is_number, runF_ap, sf_is_number, startD]
@[simp] theorem isnum_tup : F_is_number [.tup ds] h = .ok (.bl false) h := by simp [F_is_number, runF_ap, sf_is_number, startD]
@[simp] theorem isnum_lst : F_is_number [.lst ds] h = .ok (.bl false) h := by simp [F_is_number, runF_ap, sf_is_number, startD]
@[simp] theorem below_int : F_is_below [.int n, .int m] h = .ok (.bl (decide (0 ≤ n ∧ n < m))) h := by
  by_cases k : 0 ≤ n <;> simp [F_is_below, runF_ap, sf_is_below, startD, k]
@[simp] theorem below_bl : F_is_below [.bl b, .int m] h = .ok (.bl false) h := by simp [F_is_below, runF_ap, sf_is_below, startD]
@[simp] theorem below_str : F_is_below [.str t, .int m] h = .ok (.bl false) h := by simp [F_is_below, runF_ap, sf_is_below, startD]
@[simp] theorem below_non : F_is_below [.non, .int m] h = .ok (.bl false) h := by simp [F_is_below, runF_ap, sf_is_below, startD]
@[simp] theorem isseq_int : F_is_sequence [.int n] h = .ok (.bl false) h := by simp [F_is_sequence, runF_ap, sf_is_sequence, startD]
@[simp] theorem isseq_str : F_is_sequence [.str t] h = .ok (.bl false) h := by simp [F_is_sequence, runF_ap, sf_is_sequence, startD]
@[simp] theorem isseq_non : F_is_sequence [.non] h = .ok (.bl false) h := by simp [F_is_sequence, runF_ap, sf_is_sequence, startD]
@[simp] theorem isseq_tup : F_is_sequence [.tup ds] h = .ok (.bl true) h := by simp [F_is_sequence, runF_ap, sf_is_sequence, startD]
@[simp] theorem isseq_lst : F_is_sequence [.lst ds] h = .ok (.bl true) h := by simp [F_is_sequence, runF_ap, sf_is_sequence, startD]
end
/-- numbers of a row: the whole ones from 0 on -/
def isNm : D → Bool
  | .int n => decide (0 ≤ n)
  | _ => false
/-- what may stand in a thing here -/
def Lf (d : D) : Prop := (∃ n, d = .int n) ∨ d = .non
theorem isnum_lf {d : D} (e : Lf d) (h : Bx) : F_is_number [d] h = .ok (.bl (isNm d)) h := by
  rcases e with ⟨n, rfl⟩ | rfl
  · rw [isnum_int]; rfl
  · rw [isnum_non]; rfl
def isTh : D → Bool
  | .int n => decide (0 ≤ n)
  | .tup ds => ds.all isNm
  | .lst ds => ds.all isNm
  | _ => false
theorem nums_all {ds : List D} (hl : ∀ d ∈ ds, Lf d) {δ : DE} {i : Nat} (hi : i < δ.length) {h : Bx} : compF (nameU i) yesF (callF (nArgs 1 F_is_number) (consA (varF i) nilA)) δ ds h = .ok ((ds.map isNm).map .bl) h := by
  rw [List.map_map]
  refine compF_map (g := D.bl ∘ isNm) fun d hd => ⟨_, rfl, ?_, rfl⟩
  have e := isnum_lf (hl d hd) h
  have v : isV d = true := by rcases hl d hd with ⟨n, rfl⟩ | rfl <;> rfl
  have g : (δ.set i (.v d))[i]? = some (.v d) := List.getElem?_set_self hi
  simp [g, v, e]
theorem thing_ok {d : D} (hd : (∃ n, d = .int n) ∨ (∃ t, d = .str t) ∨ d = .non ∨ ∃ ds : List D, (d = .tup ds ∨ d = .lst ds) ∧ ds.length ≤ 1000 ∧ ∀ x ∈ ds, Lf x) (h : Bx) : F_is_thing [d] h = .ok (.bl (isTh d)) h := by
  rcases hd with ⟨n, rfl⟩ | ⟨t, rfl⟩ | rfl | ⟨ds, hd, z, hl⟩
  · by_cases k : 0 ≤ n
    · simp [F_is_thing, runF_ap, sf_is_thing, startD, isTh, k]
    · simp [F_is_thing, runF_ap, sf_is_thing, startD, isTh, k]
  · simp [F_is_thing, runF_ap, sf_is_thing, startD, isTh]
  · simp [F_is_thing, runF_ap, sf_is_thing, startD, isTh]
  · have z' : ds.length ≤ 1000000 := by omega
    have b := bls_map (ds.map isNm)
    have a : (ds.map isNm).all id = ds.all isNm := by rw [List.all_map]; rfl
    rcases hd with rfl | rfl
    · have c := nums_all hl (δ := [.v (.tup ds), .no]) (i := 1) (by simp) (h := h)
      simp only [List.map_map] at c b
      simp [F_is_thing, runF_ap, sf_is_thing, startD, isTh, z', c, b]
    · have c := nums_all hl (δ := [.v (.lst ds), .no]) (i := 1) (by simp) (h := h)
      simp only [List.map_map] at c b
      simp [F_is_thing, runF_ap, sf_is_thing, startD, isTh, z', c, b]
/-- a thing -/
inductive Th : D → Prop
  | n (n : Nat) : n ≤ 9 → Th (.int n)
  | t (l : List Nat) : l.length ≤ 2 → (∀ n ∈ l, n ≤ 9) → Th (.tup (nsD l))
  | l (l : List Nat) : l.length ≤ 2 → (∀ n ∈ l, n ≤ 9) → Th (.lst (nsD l))
def one : D → D
  | .lst ds => .tup ds
  | d => d
theorem nm_all (l : List Nat) : (nsD l).all isNm = true := by
  rw [List.all_eq_true]
  intro d hd
  obtain ⟨n, _, rfl⟩ := List.mem_map.mp hd
  show decide ((0 : Int) ≤ (n : Int)) = true
  rw [decide_eq_true_eq]; omega
theorem Th.ok {d : D} (t : Th d) (h : Bx) : F_is_thing [d] h = .ok (.bl true) h := by
  have lf : ∀ l : List Nat, ∀ x ∈ nsD l, Lf x := fun l x hx => by
    obtain ⟨n, _, rfl⟩ := List.mem_map.mp hx
    exact .inl ⟨n, rfl⟩
  cases t with
  | n n _ =>
    rw [thing_ok (.inl ⟨n, rfl⟩) h]
    show R.ok (D.bl (decide ((0 : Int) ≤ (n : Int)))) h = _
    rw [decide_eq_true (by omega)]
  | t l z _ =>
    rw [thing_ok (.inr (.inr (.inr ⟨_, .inl rfl, by rw [nsD_length]; omega, lf l⟩))) h]
    show R.ok (D.bl ((nsD l).all isNm)) h = _
    rw [nm_all]
  | l l z _ =>
    rw [thing_ok (.inr (.inr (.inr ⟨_, .inr rfl, by rw [nsD_length]; omega, lf l⟩))) h]
    show R.ok (D.bl ((nsD l).all isNm)) h = _
    rw [nm_all]
theorem Th.one_ok {d : D} (t : Th d) (h : Bx) : F_one_thing [d] h = .ok (one d) h := by
  cases t with
  | n n _ => simp [F_one_thing, runF_ap, sf_one_thing, startD, one]
  | t l z _ => simp [F_one_thing, runF_ap, sf_one_thing, startD, one]
  | l l z _ => simp [F_one_thing, runF_ap, sf_one_thing, startD, one]
theorem Th.v {d : D} (t : Th d) : isV d = true ∧ isV (one d) = true := by cases t <;> exact ⟨rfl, rfl⟩
/-! ### lines -/
structure Ln where
  l : Bool
  a : Option Nat
  b : Option Nat
  t : D
def hd : Option Nat → D
  | none => .non
  | some n => .int n
def Ln.ds (x : Ln) : List D := [hd x.a, hd x.b, x.t]
def Ln.d (x : Ln) : D := if x.l = true then .lst x.ds else .tup x.ds
structure Ln.ok (s : Nat) (x : Ln) : Prop where
  a : ∀ n, x.a = some n → n < s
  b : ∀ n, x.b = some n → n < s
  t : Th x.t
theorem Ln.two (x : Ln) : x.d = .lst x.ds ∨ x.d = .tup x.ds := by
  unfold Ln.d
  cases x.l
  · exact .inr rfl
  · exact .inl rfl
theorem Ln.v (x : Ln) : isV x.d = true := by rcases x.two with e | e <;> rw [e] <;> rfl
@[simp] theorem isV_hd (a : Option Nat) : isV (hd a) = true := by cases a <;> rfl
def idx (s : Nat) : Option Nat → List Nat
  | none => List.range s
  | some n => [n]
def cells (s : Nat) (x : Ln) : List Nat := (idx s x.a).flatMap fun f => (idx s x.b).map fun g => f * s + g
def hit (a : Option Nat) (n : Nat) : Bool := match a with
  | none => true
  | some m => decide (m = n)
def meets (s : Nat) (x : Ln) (c : Nat) : Bool := hit x.a (c / s) && hit x.b (c % s)
theorem mem_idx {s n : Nat} {a : Option Nat} (ha : ∀ m, a = some m → m < s) : n ∈ idx s a ↔ n < s ∧ hit a n = true := by
  cases a with
  | none => simp [idx, hit]
  | some m =>
    have := ha m rfl
    simp [idx, hit]
    omega
theorem mem_cells {s c : Nat} {x : Ln} (o : x.ok s) (hc : c < s * s) : c ∈ cells s x ↔ meets s x c = true := by
  have hs : 0 < s := by
    rcases Nat.eq_zero_or_pos s with e | e
    · subst e; omega
    · exact e
  unfold cells meets
  rw [List.mem_flatMap, Bool.and_eq_true]
  constructor
  · rintro ⟨f, hf, hg⟩
    obtain ⟨g, hk, rfl⟩ := List.mem_map.mp hg
    have hf := (mem_idx o.a).mp hf
    have hg := (mem_idx o.b).mp hk
    have e1 : (f * s + g) / s = f := by
      rw [Nat.mul_comm, Nat.mul_add_div hs, Nat.div_eq_of_lt hg.1, Nat.add_zero]
    have e2 : (f * s + g) % s = g := by
      rw [Nat.mul_comm, Nat.mul_add_mod, Nat.mod_eq_of_lt hg.1]
    rw [e1, e2]
    exact ⟨hf.2, hg.2⟩
  · rintro ⟨h1, h2⟩
    refine ⟨c / s, (mem_idx o.a).mpr ⟨Nat.div_lt_of_lt_mul hc, h1⟩, List.mem_map.mpr ⟨c % s, (mem_idx o.b).mpr ⟨Nat.mod_lt _ hs, h2⟩, ?_⟩⟩
    rw [Nat.mul_comm]
    exact Nat.div_add_mod c s
theorem cells_lt {s c : Nat} {x : Ln} (o : x.ok s) (hs : 0 < s) (hc : c ∈ cells s x) : c < s * s := by
  unfold cells at hc
  obtain ⟨f, hf, hg⟩ := List.mem_flatMap.mp hc
  obtain ⟨g, hk, rfl⟩ := List.mem_map.mp hg
  have hf := ((mem_idx o.a).mp hf).1
  have hg := ((mem_idx o.b).mp hk).1
  have : (f + 1) * s ≤ s * s := Nat.mul_le_mul_right s hf
  rw [Nat.add_mul] at this
  omega
theorem cells_len {s : Nat} (hs : 1 ≤ s) (x : Ln) : (cells s x).length ≤ s * s := by
  have l1 : ∀ a : Option Nat, (idx s a).length ≤ s := fun a => by cases a <;> simp [idx, hs]
  have key : ∀ L : List Nat, (L.flatMap fun f => (idx s x.b).map fun g => f * s + g).length ≤ L.length * s := fun L => by
    induction L with
    | nil => simp
    | cons y L ih =>
      rw [List.flatMap_cons, List.length_append, List.length_map, List.length_cons, Nat.add_mul]
      have := l1 x.b
      omega
  unfold cells
  exact Nat.le_trans (key _) (Nat.mul_le_mul_right s (l1 _))
end LP
/-! K01c: the sheet that lines tell. -/
namespace LP
open PySem PySem.Spec PyProof.Rows L2 HT
theorem rgD_nat (n : Nat) : rgD 0 (n : Int) = (List.range n).map nD := by
  unfold rgD
  rw [Int.sub_zero, Int.toNat_natCast]
  exact List.map_congr_left fun i _ => by show D.int (0 + (i : Int)) = .int i; rw [Int.zero_add]
theorem rgC_nat {n : Nat} (h : n ≤ 10000) : rgC (n : Int) = true := by unfold rgC; rw [decide_eq_true_eq]; exact ⟨by omega, by omega⟩
theorem comp2_map {u u1 : D → DE → Option DE} {gi1 : DE → Bx → R (List D)} {vs1 : List Nat} {tf1 : DE → Bx → R Bool} {ef : EF} {δ : DE} {h : Bx} {es ys : D → List D} {c : Nat} : ∀ {ds : List D} {n : Nat},
    (∀ d ∈ ds, ∃ δ1, u d δ = some δ1 ∧ gi1 δ1 h = .ok (es d) h ∧ compF u1 tf1 ef (wipeD δ1 vs1) (es d) h = .ok (ys d) h ∧ (es d).length ≤ c ∧ (ys d).length ≤ c) → n + ds.length * c ≤ 1000000 →
    comp2F u yesF gi1 vs1 u1 tf1 ef δ ds n h = .ok (ds.flatMap ys) h
  | [], _, _, _ => rfl
  | d :: ds, n, H, z => by
    obtain ⟨δ1, e1, e2, e3, l1, l2⟩ := H d (List.mem_cons_self ..)
    rw [List.length_cons, Nat.succ_mul] at z
    have ih := comp2_map (u := u) (u1 := u1) (gi1 := gi1) (vs1 := vs1) (tf1 := tf1) (ef := ef) (δ := δ) (h := h) (es := es) (ys := ys) (c := c) (ds := ds) (n := n + (ys d).length) (fun d hd => H d (List.mem_cons_of_mem _ hd)) (by omega)
    unfold comp2F
    rw [e1]
    have hz : n + (es d).length ≤ big := by show _ ≤ 1000000; omega
    simp only [yesF_ap, quiet_ok, R.bind_ok, if_true, e2, e3, ih, if_pos hz]
    rfl
theorem idx_len {s : Nat} (hs : 1 ≤ s) (a : Option Nat) : (idx s a).length ≤ s := by cases a <;> simp [idx, hs]
theorem met_ok {s : Nat} (h1 : 1 ≤ s) (h2 : s ≤ 3) (x : Ln) (h : Bx) : F_met_cells [.int s, x.d] h = .ok (.lst (nsD (cells s x))) h := by
  have rs : rgIC (0, (s : Int)) = true := by
    have : s = 1 ∨ s = 2 ∨ s = 3 := by omega
    rcases this with rfl | rfl | rfl <;> decide
  have ri : rgI (0, (s : Int)) = nsD (List.range s) := by
    have : s = 1 ∨ s = 2 ∨ s = 3 := by omega
    rcases this with rfl | rfl | rfl <;> rfl
  have s1 : p_met_cells_1 (startD N_met_cells.length [.int s, x.d]) h = .nx [.v (.int s), .v x.d, .v (hd x.a), .v (hd x.b), .no, .no, .no, .no] h := by
    rcases x.two with e | e <;> rw [e] <;> simp [p_met_cells_1, startD, Ln.ds]
  have s2 : p_met_cells_2 [.v (.int s), .v x.d, .v (hd x.a), .v (hd x.b), .no, .no, .no, .no] h = .nx [.v (.int s), .v x.d, .v (hd x.a), .v (hd x.b), .v (.lst (nsD (idx s x.a))), .no, .no, .no] h := by
    cases x.a with
    | none => simp [p_met_cells_2, hd, isNK, rs, ri, idx]
    | some n => simp [p_met_cells_2, hd, isNK, idx, nsD, nD]
  have s3 : p_met_cells_3 [.v (.int s), .v x.d, .v (hd x.a), .v (hd x.b), .v (.lst (nsD (idx s x.a))), .no, .no, .no] h = .nx [.v (.int s), .v x.d, .v (hd x.a), .v (hd x.b), .v (.lst (nsD (idx s x.a))), .v (.lst (nsD (idx s x.b))), .no, .no] h := by
    cases x.b with
    | none => simp [p_met_cells_3, hd, isNK, rs, ri, idx]
    | some n => simp [p_met_cells_3, hd, isNK, idx, nsD, nD]
  have l1 := idx_len h1 x.a
  have l2 := idx_len h1 x.b
  have c : comp2F (nameU 6) yesF (itemsI (varF 5)) [7] (nameU 7) yesF (bin2 addK (bin2 mulA (varF 6) (varF 0)) (varF 7)) [.v (.int s), .v x.d, .v (hd x.a), .v (hd x.b), .v (.lst (nsD (idx s x.a))), .v (.lst (nsD (idx s x.b))), .no, .no] (nsD (idx s x.a)) 0 h = .ok (nsD (cells s x)) h := by
    have e := comp2_map (u := nameU 6) (u1 := nameU 7) (gi1 := itemsI (varF 5)) (vs1 := [7]) (tf1 := yesF) (ef := bin2 addK (bin2 mulA (varF 6) (varF 0)) (varF 7)) (δ := [.v (.int s), .v x.d, .v (hd x.a), .v (hd x.b), .v (.lst (nsD (idx s x.a))), .v (.lst (nsD (idx s x.b))), .no, .no]) (h := h) (es := fun _ => nsD (idx s x.b)) (ys := fun d => match d with | .int f => (idx s x.b).map fun g : Nat => D.int (f * s + (g : Int)) | _ => []) (c := 100) (ds := nsD (idx s x.a)) (n := 0) (fun d hd' => by
      obtain ⟨f, _, rfl⟩ := List.mem_map.mp hd'
      refine ⟨_, rfl, by simp, ?_, by rw [nsD_length]; omega, by show ((idx s x.b).map _).length ≤ 100; rw [List.length_map]; omega⟩
      show compF _ _ _ _ ((idx s x.b).map nD) h = _
      rw [compF_map (g := fun d => match d with | .int g => .int ((f : Int) * s + g) | d => d) fun d hd' => ?_, List.map_map]
      · rfl
      · obtain ⟨g, _, rfl⟩ := List.mem_map.mp hd'
        refine ⟨_, rfl, ?_, rfl⟩
        have q1 : (-18446744073709551616 : Int) < (s : Int) := by omega
        have q2 : (s : Int) < 18446744073709551616 := by omega
        simp [nD, q1, q2]) (by rw [nsD_length]; omega)
    rw [e]
    have key : ∀ l : List Nat, ((nsD l).flatMap fun d => match d with | .int f => (idx s x.b).map fun g : Nat => D.int (f * s + (g : Int)) | _ => []) = nsD (l.flatMap fun f => (idx s x.b).map fun g => f * s + g) := fun l => by
      induction l with
      | nil => rfl
      | cons f l ih =>
        show ((idx s x.b).map fun g : Nat => D.int ((f : Int) * s + (g : Int))) ++ (nsD l).flatMap _ = nsD (((idx s x.b).map fun g => f * s + g) ++ l.flatMap _)
        rw [ih]
        unfold nsD
        rw [List.map_append, List.map_map]
        congr 1
    rw [key]; try rfl
  have lc : lc2N (itemsI (varF 4)) [6, 7] (nameU 6) yesF (itemsI (varF 5)) [7] (nameU 7) yesF (bin2 addK (bin2 mulA (varF 6) (varF 0)) (varF 7)) [.v (.int s), .v x.d, .v (hd x.a), .v (hd x.b), .v (.lst (nsD (idx s x.a))), .v (.lst (nsD (idx s x.b))), .no, .no] h = .ok (nsD (cells s x)) h := by
    rw [lc2N_ap]
    have it : itemsI (varF 4) [.v (.int s), .v x.d, .v (hd x.a), .v (hd x.b), .v (.lst (nsD (idx s x.a))), .v (.lst (nsD (idx s x.b))), .no, .no] h = .ok (nsD (idx s x.a)) h := by simp
    rw [it, R.bind_ok]
    show quiet (comp2F _ _ _ _ _ _ _ [.v (.int s), .v x.d, .v (hd x.a), .v (hd x.b), .v (.lst (nsD (idx s x.a))), .v (.lst (nsD (idx s x.b))), .no, .no] _ 0 h) = _
    rw [c]
    rfl
  rw [F_met_cells, runF_ap, show sf_met_cells = p_met_cells from rfl, p_met_cells, seq_nx s1, seq_nx s2, seq_nx s3, p_met_cells_4, retS_ap, valN_ap, lc]
  rfl
/-! ### a line -/
theorem hd_ok {s : Nat} {a : Option Nat} (ha : ∀ n, a = some n → n < s) {δ : DE} {i : Nat} (e0 : δ[0]? = some (.v (.int s))) (hi : 0 < i) (hl : i < δ.length) (h : Bx) :
    orV (bin2 isNK (varF i) (cF .non)) (callF (nArgs 2 F_is_below) (consA (varF i) (consA (varF 0) nilA))) (δ.set i (.v (hd a))) h = .ok (.bl true) h := by
  cases a with
  | none =>
    have g : (δ.set i (.v .non))[i]? = some (.v .non) := List.getElem?_set_self hl
    show orV _ _ (δ.set i (.v .non)) h = _
    simp [g, isNK, isNon]
  | some n =>
    have g : (δ.set i (.v (.int n)))[i]? = some (.v (.int n)) := List.getElem?_set_self hl
    have g0 : (δ.set i (.v (.int n)))[0]? = some (.v (.int s)) := by rw [List.getElem?_set_ne (by omega)]; exact e0
    have q := ha n rfl
    show orV _ _ (δ.set i (.v (.int n))) h = _
    simp [g, g0, isNK, isNon, q]
theorem line_ok {s : Nat} {x : Ln} (o : x.ok s) (h : Bx) : F_is_line [.int s, x.d] h = .ok (.bl true) h := by
  have s1 : p_is_line_1 (startD N_is_line.length [.int s, x.d]) h = .nx [.v (.int s), .v x.d, .no] h := by
    have e1 := o.t.ok h
    have v1 := o.t.v.1
    rcases x.two with e | e <;> rw [e] <;> simp [p_is_line_1, startD, Ln.ds, v1, e1]
  have e1 := hd_ok o.a (δ := [.v (.int s), .v x.d, .no]) (i := 2) rfl (by omega) (by simp) h
  have e2 := hd_ok o.b (δ := [.v (.int s), .v x.d, .no]) (i := 2) rfl (by omega) (by simp) h
  have c : compF (nameU 2) yesF (orV (bin2 isNK (varF 2) (cF .non)) (callF (nArgs 2 F_is_below) (consA (varF 2) (consA (varF 0) nilA)))) [.v (.int s), .v x.d, .no] [hd x.a, hd x.b] h = .ok [.bl true, .bl true] h := by
    refine Eq.trans (compF_map (u := nameU 2) (ds := [hd x.a, hd x.b]) (δ := [.v (.int s), .v x.d, .no]) (h := h) (g := fun _ => .bl true) (ef := (orV (bin2 isNK (varF 2) (cF D.non)) (callF (nArgs 2 F_is_below) (consA (varF 2) (consA (varF 0) nilA))))) fun d hd' => ⟨_, rfl, ?_, rfl⟩) rfl
    simp only [List.mem_cons, List.not_mem_nil, or_false] at hd'
    rcases hd' with rfl | rfl
    · exact e1
    · exact e2
  have it : itemsI (slF (varF 1) noO (someO (cF (.int 2)))) [.v (.int s), .v x.d, .no] h = .ok [hd x.a, hd x.b] h := by
    rcases x.two with e | e <;> rw [e] <;> simp [Ln.ds]
  have lc : lcN (itemsI (slF (varF 1) noO (someO (cF (.int 2))))) [2] (nameU 2) yesF (orV (bin2 isNK (varF 2) (cF .non)) (callF (nArgs 2 F_is_below) (consA (varF 2) (consA (varF 0) nilA)))) [.v (.int s), .v x.d, .no] h = .ok [.bl true, .bl true] h := by
    rw [lcN_ap, it, R.bind_ok, if_pos (by simp)]
    exact c
  rw [F_is_line, runF_ap, show sf_is_line = p_is_line from rfl, p_is_line, seq_nx s1, p_is_line_2, retS_ap, blt_ap, consA_ap, valN_ap, lc]
  simp
end LP
/-! K01d: lines_sheet. -/
namespace LP
open PySem PySem.Spec PyProof.Rows L2 HT
/-! ### slots that own dicts -/
section
variable {δ : DE} {h : Bx} {f fk fv : EF} {i : Nat} {o o' : OD} {d v : D}
theorem dinF_eq {ng : Bool} {x : Option D} (e1 : f δ h = .ok d h) (e2 : slotD δ i = some o) (e3 : o.get d = some x) : dinF ng i f δ h = .ok (.bl (if ng then !x.isSome else x.isSome)) h := by
  rw [dinF_ap, e1, R.bind_ok, e2]
  simp only [e3]
theorem dixF_eq (e1 : f δ h = .ok d h) (e2 : slotD δ i = some o) (e3 : o.get d = some (some v)) : dixF i f δ h = .ok v h := by
  rw [dixF_ap, e2, if_pos (show (some o).isSome = true from rfl), e1, R.bind_ok]
  simp only [e3]
theorem dsetS_eq (e0 : fv δ h = .ok v h) (hv : isV v = true) (e1 : fk δ h = .ok d h) (e2 : slotD δ i = some o) (hl : o.len < big) (e3 : o.put d v = some o') : dsetS i fk fv δ h = .nx (δ.set i (.ownD o')) h := by
  unfold dsetS
  rw [e0, R.toS_ok, e2, if_pos (by rw [hv]; rfl), e1, R.toS_ok]
  simp only [if_pos hl, e3]
end
theorem find_put {κ : Type} [DecidableEq κ] (kvs : List (κ × D)) (k k' : κ) (v : D) : findK (putO kvs k v) k' = if k' = k then some v else findK kvs k' := by
  have map_eq : ∀ l : List (κ × D), (∃ x ∈ l, x.1 = k) → findK (l.map fun kv => if kv.1 = k then (kv.1, v) else kv) k' = if k' = k then some v else findK l k' := fun l => by
    induction l with
    | nil => intro ⟨x, hx, _⟩; cases hx
    | cons y l ih =>
      intro hx
      have keep : findK (l.map fun kv => if kv.1 = k then (kv.1, v) else kv) k' = if k' = k then (if ∃ x ∈ l, x.1 = k then some v else none) else findK l k' := by
        by_cases q : ∃ x ∈ l, x.1 = k
        · rw [ih q, if_pos q]
        · rw [if_neg q]
          have e : l.map (fun kv => if kv.1 = k then (kv.1, v) else kv) = l := by
            refine (List.map_congr_left fun kv hkv => if_neg fun z => q ⟨kv, hkv, z⟩).trans (List.map_id _)
          rw [e]
          by_cases z : k' = k
          · rw [if_pos z]
            unfold findK
            rw [List.find?_eq_none.mpr fun x hx y => q ⟨x, hx, (of_decide_eq_true y).trans z⟩]
            rfl
          · rw [if_neg z]
      by_cases y1 : y.1 = k
      · by_cases z : k' = k
        · subst z
          rw [if_pos rfl, List.map_cons, if_pos y1]
          unfold findK
          rw [List.find?_cons, decide_eq_true (show (y.1, v).1 = k' from y1)]
          rfl
        · rw [if_neg z, List.map_cons, if_pos y1]
          have n : ¬ y.1 = k' := fun w => z (w.symm.trans y1)
          unfold findK at keep ⊢
          rw [List.find?_cons, decide_eq_false (show ¬ (y.1, v).1 = k' from n), List.find?_cons, decide_eq_false n]
          rw [if_neg z] at keep
          exact keep
      · obtain ⟨x, hx, hx2⟩ := hx
        have hx' : ∃ x ∈ l, x.1 = k := by
          rcases List.mem_cons.mp hx with w | w
          · subst w; exact absurd hx2 y1
          · exact ⟨x, w, hx2⟩
        rw [List.map_cons, if_neg y1]
        have ih' := ih hx'
        unfold findK at ih' ⊢
        rw [List.find?_cons, List.find?_cons]
        by_cases w : y.1 = k'
        · have z : ¬ k' = k := fun q => y1 (w.trans q)
          rw [decide_eq_true w, if_neg z]
        · rw [decide_eq_false w]
          exact ih'
  unfold putO
  split
  · rename_i q
    refine map_eq kvs ?_
    obtain ⟨x, hx, e⟩ := List.any_eq_true.mp q
    exact ⟨x, hx, of_decide_eq_true e⟩
  · rename_i q
    have no : ∀ x ∈ kvs, ¬ x.1 = k := fun x hx e => q (List.any_eq_true.mpr ⟨x, hx, decide_eq_true e⟩)
    unfold findK
    rw [List.find?_append]
    by_cases z : k' = k
    · subst z
      rw [if_pos rfl, List.find?_eq_none.mpr fun x hx y => no x hx (of_decide_eq_true y)]
      simp
    · rw [if_neg z]
      have n : ¬ k = k' := fun e => z e.symm
      simp [n]
/-- the dict tells T -/
def Tab (kvs : List (L2.Key × D)) (T : Nat → Option D) : Prop := ∀ c : Nat, findK kvs (.inl (c : Int)) = T c
theorem Tab.put {kvs : List (L2.Key × D)} {T : Nat → Option D} (t : Tab kvs T) (c : Nat) (v : D) : Tab (putO kvs (.inl (c : Int)) v) fun x => if x = c then some v else T x := fun x => by
  show findK (putO kvs (.inl (c : Int)) v) (.inl (x : Int)) = if x = c then some v else T x
  rw [find_put, t x]
  by_cases e : x = c
  · subst e; rw [if_pos rfl, if_pos rfl]
  · rw [if_neg e, if_neg fun z => e (by injection z with z; omega)]
theorem get_k {kvs : List (L2.Key × D)} {T : Nat → Option D} (t : Tab kvs T) (c : Nat) : (OD.k kvs).get (nD c) = some (T c) := by
  show (keyD (.int c)).map _ = _
  rw [← t c]; rfl
/-! ### the cells of a line -/
abbrev s7 (s : Nat) (L : D) (kvs : List (L2.Key × D)) (a3 a4 a5 a6 : SV) : DE := [.v (.int s), .v L, .ownD (.k kvs), a3, a4, a5, a6]
def cl_body : SF := (dsetS 2 (varF 5) (callF (nArgs 1 F_one_thing) (consA (bin2 ixK (varF 4) (cF (.int 2))) nilA)))
theorem cells_loop {s : Nat} {L : D} {x : Ln} (tx : Th x.t) {a3 a6 : SV} {h : Bx} : ∀ (cs : List Nat) (kvs : List (L2.Key × D)) (T : Nat → Option D) (a5 : SV), Tab kvs T → kvs.length + cs.length ≤ 1000 →
    ∃ (kvs' : List (L2.Key × D)) (b5 : SV), forF (nameU 5) cl_body (nsD cs) (s7 s L kvs a3 (.v x.d) a5 a6) h = .nx (s7 s L kvs' a3 (.v x.d) b5 a6) h ∧ Tab kvs' (fun c => if c ∈ cs then some (one x.t) else T c) ∧ kvs'.length ≤ kvs.length + cs.length
  | [], kvs, T, a5, t, _ => ⟨kvs, a5, rfl, by simpa using t, by simp⟩
  | c :: cs, kvs, T, a5, t, z => by
    rw [List.length_cons] at z
    have lp := length_putO kvs (.inl (c : Int)) (one x.t)
    obtain ⟨kvs', b5, e, t', l'⟩ := cells_loop tx cs (putO kvs (.inl (c : Int)) (one x.t)) (fun y => if y = c then some (one x.t) else T y) (.v (nD c)) (t.put c _) (by omega)
    refine ⟨kvs', b5, ?_, ?_, by rw [List.length_cons]; omega⟩
    · have e0 : callF (nArgs 1 F_one_thing) (consA (bin2 ixK (varF 4) (cF (.int 2))) nilA) (s7 s L kvs a3 (.v x.d) (.v (nD c)) a6) h = .ok (one x.t) h := by
        have e1 := tx.one_ok h
        have v1 := tx.v.1
        rcases x.two with w | w <;> rw [w] <;> simp [Ln.ds, v1, e1]
      have st : cl_body (s7 s L kvs a3 (.v x.d) (.v (nD c)) a6) h = .nx (s7 s L (putO kvs (.inl (c : Int)) (one x.t)) a3 (.v x.d) (.v (nD c)) a6) h := by
        rw [cl_body, dsetS_eq (o := .k kvs) (o' := .k (putO kvs (.inl (c : Int)) (one x.t))) (d := nD c) e0 tx.v.2 rfl rfl (by show kvs.length < 1000000; omega) rfl]
        rfl
      have e2 := forF_nx (u := nameU 5) (sf := cl_body) (d := nD c) (ds := nsD cs) (δ := s7 s L kvs a3 (.v x.d) a5 a6) (δ1 := s7 s L kvs a3 (.v x.d) (.v (nD c)) a6) rfl st
      show forF (nameU 5) cl_body (nD c :: nsD cs) _ h = _
      rw [e2, e]
    · have q : (fun y => if y ∈ cs then some (one x.t) else if y = c then some (one x.t) else T y) = fun y => if y ∈ c :: cs then some (one x.t) else T y := by
        funext y
        by_cases w : y ∈ cs
        · rw [if_pos w, if_pos (List.mem_cons_of_mem _ w)]
        · rw [if_neg w]
          by_cases w2 : y = c
          · rw [if_pos w2, if_pos (by rw [w2]; exact List.mem_cons_self ..)]
          · rw [if_neg w2, if_neg (by rw [List.mem_cons]; exact fun k => k.elim w2 w)]
      rw [← q]; exact t'
/-! ### lines one by one -/
def numD : Nat → List D → List D
  | _, [] => []
  | k, d :: ds => .tup [.int k, d] :: numD (k + 1) ds
theorem enum_num (ds : List D) : enumD ds = numD 0 ds := by
  have key : ∀ (ds : List D) (k : Nat), (List.range ds.length).map (fun i => D.tup [.int ((k + i : Nat) : Int), ds.getD i .non]) = numD k ds := fun ds => by
    induction ds with
    | nil => intro k; rfl
    | cons d ds ih =>
      intro k
      rw [List.length_cons, List.range_succ_eq_map, List.map_cons, List.map_map, numD, ← ih (k + 1)]
      refine congr (congrArg List.cons rfl) (List.map_congr_left fun i _ => ?_)
      show D.tup [.int ((k + (i + 1) : Nat) : Int), _] = .tup [.int ((k + 1 + i : Nat) : Int), _]
      rw [show k + (i + 1) = k + 1 + i by omega]
      rfl
  have := key ds 0
  unfold enumD
  rw [← this]
  refine List.map_congr_left fun i _ => ?_
  rw [Nat.zero_add]
def tell (s : Nat) (T : Nat → Option D) (x : Ln) : Nat → Option D := fun c => if c ∈ cells s x then some (one x.t) else T c
def tells (s : Nat) (ls : List Ln) (T : Nat → Option D) : Nat → Option D := ls.foldl (tell s) T
theorem turn_ok {s : Nat} (h1 : 1 ≤ s) (h2 : s ≤ 3) {L : D} {x : Ln} (o : x.ok s) {kvs : List (L2.Key × D)} {T : Nat → Option D} (t : Tab kvs T) (hz : kvs.length ≤ 900) (k : Nat) (a5 a6 : SV) (h : Bx) :
    ∃ (kvs' : List (L2.Key × D)) (b5 : SV), p_lines_sheet_3b (s7 s L kvs (.v (nD k)) (.v x.d) a5 a6) h = .nx (s7 s L kvs' (.v (nD k)) (.v x.d) b5 a6) h ∧ Tab kvs' (tell s T x) ∧ kvs'.length ≤ kvs.length + 9 := by
  have cz := cells_len h1 x
  have sz : s * s ≤ 9 := by
    have : s = 1 ∨ s = 2 ∨ s = 3 := by omega
    rcases this with rfl | rfl | rfl <;> decide
  obtain ⟨kvs', b5, e, t', l'⟩ := cells_loop (s := s) (L := L) o.t (a3 := .v (nD k)) (a6 := a6) (h := h) (cells s x) kvs T a5 t (by omega)
  refine ⟨kvs', b5, ?_, t', by omega⟩
  have e1 := line_ok o h
  have e2 := met_ok h1 h2 x h
  have v := x.v
  have st1 : p_lines_sheet_3b_1 (s7 s L kvs (.v (nD k)) (.v x.d) a5 a6) h = .nx (s7 s L kvs (.v (nD k)) (.v x.d) a5 a6) h := by
    simp [p_lines_sheet_3b_1, v, e1]
  have it : itemsI (callF (nArgs 2 F_met_cells) (consA (varF 0) (consA (varF 4) nilA))) (s7 s L kvs (.v (nD k)) (.v x.d) a5 a6) h = .ok (nsD (cells s x)) h := by
    simp [v, e2]
  rw [p_lines_sheet_3b, seq_nx st1, p_lines_sheet_3b_2, forS_ap, it, R.toS_ok]
  exact e
theorem lines_loop {s : Nat} (h1 : 1 ≤ s) (h2 : s ≤ 3) {L : D} {h : Bx} (rest : List D) (a6 : SV) : ∀ (ls : List Ln) (k : Nat) (kvs : List (L2.Key × D)) (T : Nat → Option D) (a3 a4 a5 : SV), (∀ x ∈ ls, x.ok s) → Tab kvs T → kvs.length + 9 * ls.length ≤ 900 →
    ∃ (kvs' : List (L2.Key × D)) (b3 b4 b5 : SV), forF (tupU 2 (consU (nameU 3) (consU (nameU 4) nilU))) p_lines_sheet_3b (numD k (ls.map Ln.d ++ rest)) (s7 s L kvs a3 a4 a5 a6) h = forF (tupU 2 (consU (nameU 3) (consU (nameU 4) nilU))) p_lines_sheet_3b (numD (k + ls.length) rest) (s7 s L kvs' b3 b4 b5 a6) h ∧ Tab kvs' (tells s ls T)
  | [], k, kvs, T, a3, a4, a5, _, t, _ => ⟨kvs, a3, a4, a5, rfl, t⟩
  | x :: ls, k, kvs, T, a3, a4, a5, ho, t, z => by
    rw [List.length_cons] at z
    obtain ⟨k1, b5, e1, t1, l1⟩ := turn_ok h1 h2 (L := L) (ho x (List.mem_cons_self ..)) t (by omega) k a5 a6 h
    obtain ⟨k2, c3, c4, c5, e2, t2⟩ := lines_loop h1 h2 rest a6 ls (k + 1) k1 (tell s T x) (.v (nD k)) (.v x.d) b5 (fun y hy => ho y (List.mem_cons_of_mem _ hy)) t1 (by omega)
    refine ⟨k2, c3, c4, c5, ?_, t2⟩
    rw [List.map_cons, List.cons_append, numD, forF_nx (δ1 := s7 s L kvs (.v (nD k)) (.v x.d) a5 a6) rfl e1, e2, List.length_cons, show k + 1 + ls.length = k + (ls.length + 1) by omega]
end LP
/-! K01f: lines_sheet, whole; what the law finds due. -/
namespace LP
open PySem PySem.Spec PyProof.Rows L2 HT
theorem size_ok {s : Nat} (h1 : 2 ≤ s) (h2 : s ≤ 3) (h : Bx) : F_need_size [.int s] h = .ok (.int s) h := by
  have a : (2 : Int) ≤ s := by omega
  have b : (s : Int) ≤ 3 := by omega
  simp [F_need_size, runF_ap, sf_need_size, startD, a, b]
def cellsD (s : Nat) (T : Nat → Option D) : List D := (List.range (s * s)).map fun c => (T c).getD .non
def lack (s : Nat) (T : Nat → Option D) : List Nat := (List.range (s * s)).filter fun c => (T c).isNone
def out (s : Nat) (T : Nat → Option D) (h : Bx) : R D := match lack s T with
  | c :: _ => .exc "Refused" [("at", .int c)] h
  | [] => .ok (.tup (cellsD s T)) h
theorem tells_v {s : Nat} : ∀ (ls : List Ln) (T : Nat → Option D), (∀ x ∈ ls, x.ok s) → (∀ c v, T c = some v → isV v = true) → ∀ c v, tells s ls T c = some v → isV v = true
  | [], T, _, hT => hT
  | x :: ls, T, ho, hT => tells_v ls (tell s T x) (fun y hy => ho y (List.mem_cons_of_mem _ hy)) fun c v e => by
    unfold tell at e
    split at e
    · cases e
      exact (ho x (List.mem_cons_self ..)).t.v.2
    · exact hT c v e
section
variable {s : Nat} {L : D} {kvs : List (L2.Key × D)} {T : Nat → Option D} {a3 a4 a5 a6 : SV} {h : Bx}
theorem rg_sq (h2 : s ≤ 3) : ((consA (bin2 mulA (varF 0) (varF 0)) nilA) (s7 s L kvs a3 a4 a5 a6) h).bind rg1K = .ok ((List.range (s * s)).map nD) h := by
  have q1 : (-18446744073709551616 : Int) < (s : Int) := by omega
  have q2 : (s : Int) < 18446744073709551616 := by omega
  have sz : s * s ≤ 9 := by
    have : s = 0 ∨ s = 1 ∨ s = 2 ∨ s = 3 := by omega
    rcases this with rfl | rfl | rfl | rfl <;> decide
  have rc := rgC_nat (n := s * s) (by omega)
  have rd := rgD_nat (s * s)
  rw [Int.natCast_mul] at rc rd
  simp [q1, q2, rc, rd]
theorem end_ok (h2 : s ≤ 3) (t : Tab kvs T) (hv : ∀ c v, T c = some v → isV v = true) :
    (seqS p_lines_sheet_4 (seqS p_lines_sheet_5 p_lines_sheet_6) (s7 s L kvs a3 a4 a5 a6) h).fin = out s T h := by
  have sz : s * s ≤ 9 := by
    have : s = 0 ∨ s = 1 ∨ s = 2 ∨ s = 3 := by omega
    rcases this with rfl | rfl | rfl | rfl <;> decide
  have c4 : compF (nameU 5) (testF (dinF true 2 (varF 5))) (varF 5) (s7 s L kvs a3 a4 .no a6) ((List.range (s * s)).map nD) h = .ok (nsD (lack s T)) h := by
    rw [compF_filter (g := id) (p := fun d => match d with | .int c => (T c.toNat).isNone | _ => false) fun d hd => ?_]
    · rw [List.map_id, List.filter_map]
      rfl
    · obtain ⟨c, _, rfl⟩ := List.mem_map.mp hd
      refine ⟨s7 s L kvs a3 a4 (.v (nD c)) a6, rfl, ?_, fun _ => ⟨rfl, rfl⟩⟩
      rw [testF_ap, dinF_eq (x := T c) (o := .k kvs) (d := nD c) rfl rfl (get_k t c)]
      show R.ok (!(T c).isSome) h = .ok (T (Int.toNat (c : Int))).isNone h
      rw [Int.toNat_natCast]
      cases T c <;> rfl
  have zl : (lack s T).length ≤ 9 := by
    have : (lack s T).length ≤ (List.range (s * s)).length := List.length_filter_le ..
    rw [List.length_range] at this
    omega
  have s4 : p_lines_sheet_4 (s7 s L kvs a3 a4 a5 a6) h = .nx (s7 s L kvs a3 a4 a5 (.own (nsD (lack s T)))) h := by
    rw [p_lines_sheet_4, ownS_ap, lcN_ap]
    show ((((consA (bin2 mulA (varF 0) (varF 0)) nilA) (s7 s L kvs a3 a4 a5 a6) h).bind rg1K).bind _).toS _ _ = _
    rw [rg_sq h2, R.bind_ok, if_pos (by simp; omega)]
    show (compF (nameU 5) (testF (dinF true 2 (varF 5))) (varF 5) (s7 s L kvs a3 a4 .no a6) ((List.range (s * s)).map nD) h).toS _ _ = _
    rw [c4]
    rfl
  rw [seq_nx s4]
  cases e : lack s T with
  | cons c cs =>
    have o : out s T h = .exc "Refused" [("at", .int c)] h := by unfold out; rw [e]
    rw [o]
    have s5 : p_lines_sheet_5 (s7 s L kvs a3 a4 a5 (.own (nsD (c :: cs)))) h = .exc "Refused" [("at", .int c)] (s7 s L kvs a3 a4 a5 (.own (nsD (c :: cs)))) h := by
      simp [p_lines_sheet_5, nsD, nD]
    rw [seqS_ap, s5]
    rfl
  | nil =>
    have o : out s T h = .ok (.tup (cellsD s T)) h := by unfold out; rw [e]
    rw [o]
    have s5 : p_lines_sheet_5 (s7 s L kvs a3 a4 a5 (.own (nsD []))) h = .nx (s7 s L kvs a3 a4 a5 (.own (nsD []))) h := by
      simp [p_lines_sheet_5, nsD]
    have all : ∀ c, c < s * s → ∃ v, T c = some v := fun c hc => by
      cases z : T c with
      | some v => exact ⟨v, rfl⟩
      | none =>
        have : c ∈ lack s T := List.mem_filter.mpr ⟨List.mem_range.mpr hc, by rw [z]; rfl⟩
        rw [e] at this
        cases this
    have c6 : compF (nameU 5) yesF (dixF 2 (varF 5)) (s7 s L kvs a3 a4 .no (.own (nsD []))) ((List.range (s * s)).map nD) h = .ok (cellsD s T) h := by
      rw [compF_map (g := fun d => match d with | .int c => (T c.toNat).getD .non | d => d) fun d hd => ?_, List.map_map]
      · rfl
      · obtain ⟨c, hc, rfl⟩ := List.mem_map.mp hd
        obtain ⟨v, ev⟩ := all c (List.mem_range.mp hc)
        refine ⟨s7 s L kvs a3 a4 (.v (nD c)) (.own (nsD [])), rfl, ?_, ?_⟩
        · rw [dixF_eq (o := .k kvs) (d := nD c) (v := v) rfl rfl (by rw [get_k t c, ev])]
          show _ = R.ok ((T (Int.toNat (c : Int))).getD .non) h
          rw [Int.toNat_natCast, ev]
          rfl
        · show isV ((T (Int.toNat (c : Int))).getD .non) = true
          rw [Int.toNat_natCast, ev]
          exact hv c v ev
    have lc : lcN (fun δ h => ((consA (bin2 mulA (varF 0) (varF 0)) nilA) δ h).bind rg1K) [5] (nameU 5) yesF (dixF 2 (varF 5)) (s7 s L kvs a3 a4 a5 (.own (nsD []))) h = .ok (cellsD s T) h := by
      rw [lcN_ap]
      show (((consA (bin2 mulA (varF 0) (varF 0)) nilA) (s7 s L kvs a3 a4 a5 (.own (nsD []))) h).bind rg1K).bind _ = _
      rw [rg_sq h2, R.bind_ok, if_pos (by simp; omega)]
      exact c6
    rw [seq_nx s5, p_lines_sheet_6, retS_ap, blt_ap, consA_ap, valN_ap, lc]
    rfl
end
theorem tab_nil : Tab [] fun _ => none := fun _ => rfl
theorem sheet_ok {s : Nat} (h1 : 2 ≤ s) (h2 : s ≤ 3) {ls : List Ln} (ho : ∀ x ∈ ls, x.ok s) (z : ls.length ≤ 50) {L : D} (hL : L = .lst (ls.map Ln.d) ∨ L = .tup (ls.map Ln.d)) (h : Bx) :
    F_lines_sheet [.int s, L] h = out s (tells s ls fun _ => none) h := by
  have e1 := size_ok h1 h2 h
  have v : isV L = true := by rcases hL with rfl | rfl <;> rfl
  have s1 : p_lines_sheet_1 (startD N_lines_sheet.length [.int s, L]) h = .nx (s7 s L [] .no .no .no .no) h := by
    simp [p_lines_sheet_1, startD, e1]
  have s2 : p_lines_sheet_2 (s7 s L [] .no .no .no .no) h = .nx (s7 s L [] .no .no .no .no) h := by
    rcases hL with rfl | rfl <;> simp [p_lines_sheet_2]
  obtain ⟨kvs, b3, b4, b5, e3, t⟩ := lines_loop (s := s) (by omega) h2 (L := L) (h := h) [] .no ls 0 [] (fun _ => none) .no .no .no ho tab_nil (by simp; omega)
  rw [List.append_nil, ← enum_num] at e3
  have s3 : p_lines_sheet_3 (s7 s L [] .no .no .no .no) h = .nx (s7 s L kvs b3 b4 b5 .no) h := by
    rw [p_lines_sheet_3, forS_ap]
    have it : ((consA (varF 1) nilA) (s7 s L [] .no .no .no .no) h).bind (fun ds h1 => enumK ds (s7 s L [] .no .no .no .no) h1) = .ok (enumD (ls.map Ln.d)) h := by
      rcases hL with rfl | rfl <;> simp
    rw [it, R.toS_ok, e3]
    rfl
  rw [F_lines_sheet, runF_ap, show sf_lines_sheet = p_lines_sheet from rfl, p_lines_sheet, seq_nx s1, seq_nx s2, seq_nx s3]
  exact end_ok h2 t (tells_v ls _ ho fun _ _ e => by cases e)
theorem sheet_bad {s : Nat} (h1 : 2 ≤ s) (h2 : s ≤ 3) {ls : List Ln} (ho : ∀ x ∈ ls, x.ok s) (z : ls.length ≤ 50) {b : D} (vb : isV b = true) (rest : List D) (h : Bx) (nb : F_is_line [.int s, b] h = .ok (.bl false) h) :
    F_lines_sheet [.int s, .lst (ls.map Ln.d ++ b :: rest)] h = .exc "InvalidLines" [("at", .int ls.length)] h := by
  have e1 := size_ok h1 h2 h
  have s1 : p_lines_sheet_1 (startD N_lines_sheet.length [.int s, .lst (ls.map Ln.d ++ b :: rest)]) h = .nx (s7 s (.lst (ls.map Ln.d ++ b :: rest)) [] .no .no .no .no) h := by
    simp [p_lines_sheet_1, startD, e1]
  have s2 : p_lines_sheet_2 (s7 s (.lst (ls.map Ln.d ++ b :: rest)) [] .no .no .no .no) h = .nx (s7 s (.lst (ls.map Ln.d ++ b :: rest)) [] .no .no .no .no) h := by
    simp [p_lines_sheet_2]
  obtain ⟨kvs, b3, b4, b5, e3, t⟩ := lines_loop (s := s) (by omega) h2 (L := .lst (ls.map Ln.d ++ b :: rest)) (h := h) (b :: rest) .no ls 0 [] (fun _ => none) .no .no .no ho tab_nil (by simp; omega)
  rw [← enum_num] at e3
  have tb : p_lines_sheet_3b (s7 s (.lst (ls.map Ln.d ++ b :: rest)) kvs (.v (nD ls.length)) (.v b) b5 .no) h = .exc "InvalidLines" [("at", .int ls.length)] (s7 s (.lst (ls.map Ln.d ++ b :: rest)) kvs (.v (nD ls.length)) (.v b) b5 .no) h := by
    have q : p_lines_sheet_3b_1 (s7 s (.lst (ls.map Ln.d ++ b :: rest)) kvs (.v (nD ls.length)) (.v b) b5 .no) h = .exc "InvalidLines" [("at", .int ls.length)] (s7 s (.lst (ls.map Ln.d ++ b :: rest)) kvs (.v (nD ls.length)) (.v b) b5 .no) h := by
      simp [p_lines_sheet_3b_1, vb, nb, nD]
    rw [p_lines_sheet_3b, seqS_ap, q]
  have s3 : p_lines_sheet_3 (s7 s (.lst (ls.map Ln.d ++ b :: rest)) [] .no .no .no .no) h = .exc "InvalidLines" [("at", .int ls.length)] (s7 s (.lst (ls.map Ln.d ++ b :: rest)) kvs (.v (nD ls.length)) (.v b) b5 .no) h := by
    rw [p_lines_sheet_3, forS_ap]
    have it : ((consA (varF 1) nilA) (s7 s (.lst (ls.map Ln.d ++ b :: rest)) [] .no .no .no .no) h).bind (fun ds h1 => enumK ds (s7 s (.lst (ls.map Ln.d ++ b :: rest)) [] .no .no .no .no) h1) = .ok (enumD (ls.map Ln.d ++ b :: rest)) h := by
      simp
    rw [it, R.toS_ok, e3, Nat.zero_add, numD]
    show (match forF _ _ (D.tup [.int (ls.length : Nat), b] :: _) _ _ with | x => x) = _
    rw [forF]
    show (match p_lines_sheet_3b (s7 s (.lst (ls.map Ln.d ++ b :: rest)) kvs (.v (nD ls.length)) (.v b) b5 .no) h with | .nx δ' h' => _ | .ct δ' h' => _ | .bk δ' h' => _ | x => x) = _
    rw [tb]
  rw [F_lines_sheet, runF_ap, show sf_lines_sheet = p_lines_sheet from rfl, p_lines_sheet, seq_nx s1, seq_nx s2, seqS_ap, s3]
  rfl
end LP
/-! K01g: what the law finds due. -/
namespace LP
open PySem PySem.Spec PyProof.Rows L2 HT
theorem atI_last_ {α : Type} {xs : List α} : atI xs (-1) = xs.getLast? := by
  unfold atI ixN
  rw [List.getLast?_eq_getElem?]
  by_cases h : xs = []
  · subst h; rfl
  · have : 0 < xs.length := List.length_pos_iff.mpr h
    simp
    rw [if_pos (by omega)]
    simp
    congr 1
    omega
theorem tells_last (s c : Nat) : ∀ (ls : List Ln) (T : Nat → Option D), (∀ x ∈ ls, x.ok s) → c < s * s → tells s ls T c = match (ls.filter fun x => meets s x c).getLast? with | some x => some (one x.t) | none => T c
  | [], T, _, _ => rfl
  | x :: ls, T, ho, hc => by
    have ih := tells_last s c ls (tell s T x) (fun y hy => ho y (List.mem_cons_of_mem _ hy)) hc
    show tells s ls (tell s T x) c = _
    rw [ih, List.filter_cons]
    have m := mem_cells (ho x (List.mem_cons_self ..)) hc
    by_cases k : meets s x c = true
    · rw [if_pos k]
      cases e : (ls.filter fun x => meets s x c) with
      | nil =>
        show tell s T x c = some (one x.t)
        unfold tell
        rw [if_pos (m.mpr k)]
      | cons y l =>
        rw [List.getLast?_cons_cons]
        rw [List.getLast?_eq_some_getLast (by simp : y :: l ≠ [])]
    · rw [if_neg k]
      cases e : (ls.filter fun x => meets s x c).getLast? with
      | none =>
        show tell s T x c = T c
        unfold tell
        rw [if_neg fun z => k (m.mp z)]
      | some y => rfl
def dueD (s : Nat) (T : Nat → Option D) : D := match lack s T with
  | c :: _ => .tup [.str "refused", .int c]
  | [] => .tup (cellsD s T)
theorem any_hit (a : Option Nat) (n : Nat) : ([D.non, .int n].any fun z => D.eq z (hd a)) = hit a n := by
  cases a with
  | none => rfl
  | some m =>
    show (D.eq .non (.int m) || (D.eq (.int n) (.int m) || false)) = decide (m = n)
    rw [eq_int, Bool.or_false, show D.eq .non (.int m) = false from rfl, Bool.false_or]
    exact decide_eq_decide.mpr ⟨fun h => by omega, fun h => by omega⟩
abbrev s6 (s : Nat) (ls : List Ln) (acc : List D) (a3 a4 a5 : SV) : DE := [.v (.int s), .v (.lst (ls.map Ln.d)), .own acc, a3, a4, a5]
def ptest : DE → Bx → R Bool := (andT (testF (bin2 (inK false) (bin2 ixK (varF 5) (cF (.int 0))) (tupF (consA (cF .non) (consA (bin2 divK (varF 3) (varF 0)) nilA))))) (testF (bin2 (inK false) (bin2 ixK (varF 5) (cF (.int 1))) (tupF (consA (cF .non) (consA (bin2 modK (varF 3) (varF 0)) nilA))))))
section
variable {s : Nat} {ls : List Ln} {acc : List D} {a4 a5 : SV} {h : Bx} {c : Nat}
theorem ptest_ok (h1 : 1 ≤ s) (h2 : s ≤ 3) (x : Ln) : ptest (s6 s ls acc (.v (nD c)) a4 (.v x.d)) h = .ok (meets s x c) h := by
  have h1' : 0 < s := h1
  have p0 : (0 : Int) < s := by omega
  have d1 : bin2 divK (varF 3) (varF 0) (s6 s ls acc (.v (nD c)) a4 (.v x.d)) h = .ok (.int ((c / s : Nat) : Int)) h := by
    have p1 : (s : Int) < 1073741824 := by omega
    rw [Int.natCast_ediv]; simp [p0, p1, h1', nD]
  have d2 : bin2 modK (varF 3) (varF 0) (s6 s ls acc (.v (nD c)) a4 (.v x.d)) h = .ok (.int ((c % s : Nat) : Int)) h := by
    rw [Int.natCast_emod]; simp [p0, h1', nD]
  have i0 : bin2 ixK (varF 5) (cF (.int 0)) (s6 s ls acc (.v (nD c)) a4 (.v x.d)) h = .ok (hd x.a) h := by
    rcases x.two with e | e <;> rw [e] <;> simp [Ln.ds]
  have i1 : bin2 ixK (varF 5) (cF (.int 1)) (s6 s ls acc (.v (nD c)) a4 (.v x.d)) h = .ok (hd x.b) h := by
    rcases x.two with e | e <;> rw [e] <;> simp [Ln.ds]
  have one (a : Option Nat) (n : Nat) (δ : DE) : inK false (hd a) (.tup [.non, .int n]) δ h = .ok (.bl (hit a n)) h := by
    rw [← any_hit, inK_ap]
    cases a with
    | none => simp [hd]
    | some m => simp [hd]
  have t0 : testF (bin2 (inK false) (bin2 ixK (varF 5) (cF (.int 0))) (tupF (consA (cF .non) (consA (bin2 divK (varF 3) (varF 0)) nilA)))) (s6 s ls acc (.v (nD c)) a4 (.v x.d)) h = .ok (hit x.a (c / s)) h := by
    rw [testF_ap, bin2_ap, i0, R.bind_ok, tupF_ap, consA_ap, cF_ap, R.bind_ok, consA_ap, d1]
    show ((inK false (hd x.a) (.tup [.non, .int ((c / s : Nat) : Int)]) _ h).bind bOf) = _
    rw [one]; rfl
  have t1 : testF (bin2 (inK false) (bin2 ixK (varF 5) (cF (.int 1))) (tupF (consA (cF .non) (consA (bin2 modK (varF 3) (varF 0)) nilA)))) (s6 s ls acc (.v (nD c)) a4 (.v x.d)) h = .ok (hit x.b (c % s)) h := by
    rw [testF_ap, bin2_ap, i1, R.bind_ok, tupF_ap, consA_ap, cF_ap, R.bind_ok, consA_ap, d2]
    show ((inK false (hd x.b) (.tup [.non, .int ((c % s : Nat) : Int)]) _ h).bind bOf) = _
    rw [one]; rfl
  unfold ptest
  rw [andT_ap, t0, R.bind_ok]
  unfold meets
  cases hit x.a (c / s) with
  | true => rw [if_pos rfl, t1]; rfl
  | false => rfl
def thirdD : D → D
  | .tup [_, _, t] => t
  | .lst [_, _, t] => t
  | d => d
def meetsD (s c : Nat) : D → Bool
  | .tup [a, b, _] => ([D.non, .int ((c / s : Nat) : Int)].any fun z => D.eq z a) && ([D.non, .int ((c % s : Nat) : Int)].any fun z => D.eq z b)
  | .lst [a, b, _] => ([D.non, .int ((c / s : Nat) : Int)].any fun z => D.eq z a) && ([D.non, .int ((c % s : Nat) : Int)].any fun z => D.eq z b)
  | _ => false
theorem meetsD_ok (x : Ln) : meetsD s c x.d = meets s x c := by
  unfold meets
  rw [← any_hit, ← any_hit]
  rcases x.two with e | e <;> rw [e] <;> rfl
theorem thirdD_ok (x : Ln) : thirdD x.d = x.t := by rcases x.two with e | e <;> rw [e] <;> rfl
theorem met_list (h1 : 1 ≤ s) (h2 : s ≤ 3) (ho : ∀ x ∈ ls, x.ok s) : compF (nameU 5) ptest (bin2 ixK (varF 5) (cF (.int 2))) (s6 s ls acc (.v (nD c)) a4 .no) (ls.map Ln.d) h = .ok ((ls.filter fun x => meets s x c).map (·.t)) h := by
  rw [compF_filter (g := thirdD) (p := meetsD s c) fun d hd => ?_]
  · rw [List.filter_map, List.map_map]
    have e1 : (fun x => meetsD s c (Ln.d x)) = fun x => meets s x c := funext meetsD_ok
    have e2 : thirdD ∘ Ln.d = fun x => x.t := funext thirdD_ok
    show R.ok (((ls.filter fun x => meetsD s c (Ln.d x))).map (thirdD ∘ Ln.d)) h = _
    rw [e1, e2]
  · obtain ⟨x, hx, rfl⟩ := List.mem_map.mp hd
    refine ⟨s6 s ls acc (.v (nD c)) a4 (.v x.d), rfl, by rw [meetsD_ok]; exact ptest_ok h1 h2 x, fun _ => ⟨?_, ?_⟩⟩
    · rw [thirdD_ok]
      rcases x.two with e | e <;> rw [e] <;> simp [Ln.ds]
    · rw [thirdD_ok]; exact (ho x hx).t.v.1
end
theorem Th.pure {d : D} (t : Th d) : d.pure = true := by
  have nn : ∀ l : List Nat, D.pures (nsD l) = true := fun l => by
    induction l with
    | nil => rfl
    | cons n l ih => show (D.pure (nD n) && D.pures (nsD l)) = true; rw [ih]; rfl
  cases t with
  | n n _ => rfl
  | t l z _ => exact nn l
  | l l z _ => exact nn l
theorem pures_of {ds : List D} (h : ∀ d ∈ ds, d.pure = true) : D.pures ds = true := by
  induction ds with
  | nil => rfl
  | cons d ds ih =>
    show (d.pure && D.pures ds) = true
    rw [h d (List.mem_cons_self ..), ih fun x hx => h x (List.mem_cons_of_mem _ hx)]; rfl
theorem end_val {f : EF} {δ : DE} {h : Bx} {d : D} (t : Th d) (e : f δ h = .ok d h) : iteF (testF (isiF ["int"] f)) f (blt tupK (consA f nilA)) δ h = .ok (one d) h := by
  cases t with
  | n n _ => simp [e, one]
  | t l z _ => simp [e, one]
  | l l z _ => simp [e, one]
theorem due_turn {s : Nat} (h1 : 1 ≤ s) (h2 : s ≤ 3) {ls : List Ln} (ho : ∀ x ∈ ls, x.ok s) (zl : ls.length ≤ 50) {c : Nat} (hc : c < s * s) (acc : List D) (za : acc.length ≤ 100) (a4 a5 : SV) (h : Bx) :
    (tells s ls (fun _ => none) c = none ∧ p_ldue_2b (s6 s ls acc (.v (nD c)) a4 a5) h = .rt (.tup [.str "refused", .int c]) h) ∨
    ∃ v b4 b5, tells s ls (fun _ => none) c = some v ∧ p_ldue_2b (s6 s ls acc (.v (nD c)) a4 a5) h = .nx (s6 s ls (acc ++ [v]) (.v (nD c)) b4 b5) h := by
  have m := met_list (acc := acc) (a4 := a4) (h := h) (c := c) h1 h2 ho
  have s1 : p_ldue_2b_1 (s6 s ls acc (.v (nD c)) a4 a5) h = .nx (s6 s ls acc (.v (nD c)) (.own ((ls.filter fun x => meets s x c).map (·.t))) a5) h := by
    rw [p_ldue_2b_1, ownS_ap, lcN_ap]
    have it : itemsI (varF 1) (s6 s ls acc (.v (nD c)) a4 a5) h = .ok (ls.map Ln.d) h := by simp
    rw [it, R.bind_ok, if_pos (by simp; omega)]
    show (compF (nameU 5) ptest (bin2 ixK (varF 5) (cF (.int 2))) (s6 s ls acc (.v (nD c)) a4 .no) (ls.map Ln.d) h).toS _ _ = _
    rw [m]
    rfl
  have tl := tells_last s c ls (fun _ => none) ho hc
  have hp : ∀ d ∈ (ls.filter fun x => meets s x c).map (·.t), Th d := fun d hd => by
    obtain ⟨x, hx, rfl⟩ := List.mem_map.mp hd
    exact (ho x (List.mem_filter.mp hx).1).t
  have pu := pures_of fun d hd => (hp d hd).pure
  rw [p_ldue_2b, seq_nx s1]
  rcases List.eq_nil_or_concat (ls.filter fun x => meets s x c) with e | ⟨fs, x, e⟩
  · rw [e] at tl
    refine .inl ⟨tl, ?_⟩
    rw [e]
    have q : D.eqs [] [] = true := rfl
    simp [p_ldue_2b_2, nD]
  · have e : (ls.filter fun x => meets s x c) = fs ++ [x] := by simpa using e
    have hx : x ∈ ls := (List.mem_filter.mp (show x ∈ ls.filter fun x => meets s x c by rw [e]; simp)).1
    have tx := (ho x hx).t
    rw [e] at tl pu
    rw [List.getLast?_concat] at tl
    refine .inr ⟨one x.t, .own ((fs ++ [x]).map (·.t)), a5, tl, ?_⟩
    rw [e, List.map_append]
    have ne : D.eqs (fs.map (·.t) ++ [x.t]) [] = false := by
      cases fs <;> rfl
    rw [List.map_append] at pu
    have s2 : p_ldue_2b_2 (s6 s ls acc (.v (nD c)) (.own (fs.map (·.t) ++ [x].map (·.t))) a5) h = .nx (s6 s ls acc (.v (nD c)) (.own (fs.map (·.t) ++ [x].map (·.t))) a5) h := by
      have pu' : D.pures (fs.map (·.t) ++ [x.t]) = true := pu
      have vw1 : vw (s6 s ls acc (.v (nD c)) (.own (fs.map (·.t) ++ [x.t])) a5) h (.loc 4) = .lst (fs.map (·.t) ++ [x.t]) := rfl
      simp [p_ldue_2b_2, vw1, pu', ne]
    have la : atI (fs.map (·.t) ++ [x.t]) (-1) = some x.t := by
      rw [atI_last_]
      exact List.getLast?_concat
    have ix : bin2 ixK (varF 4) (negF (cF (.int 1))) (s6 s ls acc (.v (nD c)) (.own (fs.map (·.t) ++ [x].map (·.t))) a5) h = .ok x.t h := by
      simp [la]
    have z1 : acc.length < 1000000 := by omega
    rw [seq_nx s2, p_ldue_2b_3]
    show methS 2 _ appK _ _ = _
    have val : iteF (testF (isiF ["int"] (bin2 ixK (varF 4) (negF (cF (.int 1)))))) (bin2 ixK (varF 4) (negF (cF (.int 1)))) (blt tupK (consA (bin2 ixK (varF 4) (negF (cF (.int 1)))) nilA)) (s6 s ls acc (.v (nD c)) (.own (fs.map (·.t) ++ [x].map (·.t))) a5) h = .ok (one x.t) h := by
      exact end_val tx ix
    rw [methS_ap, if_pos (by simp), val]
    have v := tx.v.2
    simp [z1, v]
end LP
/-! K01h: what is due, whole; drawn lines; what is heard. -/
namespace LP
open PySem PySem.Spec PyProof.Rows L2 HT
theorem due_loop {s : Nat} (h1 : 1 ≤ s) (h2 : s ≤ 3) {ls : List Ln} (ho : ∀ x ∈ ls, x.ok s) (zl : ls.length ≤ 50) (h : Bx) : ∀ (cs : List Nat) (acc : List D) (a3 a4 a5 : SV), (∀ c ∈ cs, c < s * s) → acc.length + cs.length ≤ 100 →
    (∃ c l, cs.filter (fun c => (tells s ls (fun _ => none) c).isNone) = c :: l ∧ forF (nameU 3) p_ldue_2b (nsD cs) (s6 s ls acc a3 a4 a5) h = .rt (.tup [.str "refused", .int c]) h) ∨
    (cs.filter (fun c => (tells s ls (fun _ => none) c).isNone) = [] ∧ ∃ b3 b4 b5, forF (nameU 3) p_ldue_2b (nsD cs) (s6 s ls acc a3 a4 a5) h = .nx (s6 s ls (acc ++ cs.map fun c => (tells s ls (fun _ => none) c).getD .non) b3 b4 b5) h)
  | [], acc, a3, a4, a5, _, _ => .inr ⟨rfl, a3, a4, a5, by rw [List.map_nil, List.append_nil]; rfl⟩
  | c :: cs, acc, a3, a4, a5, hc, z => by
    rw [List.length_cons] at z
    show (∃ c' l, _ ∧ forF (nameU 3) p_ldue_2b (nD c :: nsD cs) _ h = _) ∨ (_ ∧ ∃ b3 b4 b5, forF (nameU 3) p_ldue_2b (nD c :: nsD cs) _ h = _)
    rcases due_turn h1 h2 ho zl (hc c (List.mem_cons_self ..)) acc (by omega) a4 a5 h with ⟨t, e⟩ | ⟨v, b4, b5, t, e⟩
    · refine .inl ⟨c, _, List.filter_cons_of_pos (by rw [t]; rfl), ?_⟩
      exact forF_rt rfl e
    · have f : (c :: cs).filter (fun c => (tells s ls (fun _ => none) c).isNone) = cs.filter (fun c => (tells s ls (fun _ => none) c).isNone) := List.filter_cons_of_neg (by rw [t]; simp)
      rw [f, forF_nx (δ1 := s6 s ls acc (.v (nD c)) a4 a5) rfl e]
      rcases due_loop h1 h2 ho zl h cs (acc ++ [v]) (.v (nD c)) b4 b5 (fun d hd => hc d (List.mem_cons_of_mem _ hd)) (by simp; omega) with ⟨c', l, e1, e2⟩ | ⟨e1, b3', b4', b5', e2⟩
      · exact .inl ⟨c', l, e1, e2⟩
      · refine .inr ⟨e1, b3', b4', b5', ?_⟩
        rw [e2, List.map_cons, t, List.append_assoc]
        rfl
theorem due_ok {s : Nat} (h1 : 2 ≤ s) (h2 : s ≤ 3) {ls : List Ln} (ho : ∀ x ∈ ls, x.ok s) (zl : ls.length ≤ 50) (h : Bx) : F__law_due [.int s, .lst (ls.map Ln.d)] h = .ok (dueD s (tells s ls fun _ => none)) h := by
  have sz : s * s ≤ 9 := by
    have : s = 2 ∨ s = 3 := by omega
    rcases this with rfl | rfl <;> decide
  have q1 : (-18446744073709551616 : Int) < (s : Int) := by omega
  have q2 : (s : Int) < 18446744073709551616 := by omega
  have rc := rgC_nat (n := s * s) (by omega)
  have rd := rgD_nat (s * s)
  rw [Int.natCast_mul] at rc rd
  have s1 : p_ldue_1 (startD N__law_due.length [.int s, .lst (ls.map Ln.d)]) h = .nx (s6 s ls [] .no .no .no) h := by
    simp [p_ldue_1, startD]
  have it : ((consA (bin2 mulA (varF 0) (varF 0)) nilA) (s6 s ls [] .no .no .no) h).bind rg1K = .ok (nsD (List.range (s * s))) h := by
    simp [q1, q2, rc, rd]; rfl
  have f2 : p_ldue_2 (s6 s ls [] .no .no .no) h = forF (nameU 3) p_ldue_2b (nsD (List.range (s * s))) (s6 s ls [] .no .no .no) h := by
    rw [p_ldue_2, forS_ap]
    show (((consA (bin2 mulA (varF 0) (varF 0)) nilA) (s6 s ls [] .no .no .no) h).bind rg1K).toS _ _ = _
    rw [it]; rfl
  rw [F__law_due, runF_ap, show sf__law_due = p_ldue from rfl, p_ldue, seq_nx s1, seqS_ap, f2]
  rcases due_loop (by omega) h2 ho zl h (List.range (s * s)) [] .no .no .no (fun c hc => List.mem_range.mp hc) (by simp; omega) with ⟨c, l, e1, e2⟩ | ⟨e1, b3, b4, b5, e2⟩
  · rw [e2]
    have : dueD s (tells s ls fun _ => none) = .tup [.str "refused", .int c] := by
      unfold dueD lack; rw [e1]
    rw [this]
    rfl
  · rw [e2]
    have : dueD s (tells s ls fun _ => none) = .tup (cellsD s (tells s ls fun _ => none)) := by
      unfold dueD lack; rw [e1]
    rw [this]
    rfl
/-! ### what is told may be shown -/
theorem sh_one {d : D} (t : Th d) : Sh 16 1 (one d) := by
  have nn : ∀ l : List Nat, l.length ≤ 2 → (∀ n ∈ l, n ≤ 9) → Sh 16 1 (.tup (nsD l)) := fun l hl hn => sh_tup (w := 7) (k := 0) (m := 2) (fun d hd => by
    obtain ⟨n, hm, rfl⟩ := List.mem_map.mp hd
    have := hn n hm
    exact sh_int (by omega)) (by rw [nsD_length]; exact hl) (by decide)
  cases t with
  | n n z => exact (sh_int (by omega)).mono (by decide) (by decide)
  | t l z1 z2 => exact nn l z1 z2
  | l l z1 z2 => exact nn l z1 z2
theorem sh_tells {s : Nat} : ∀ (ls : List Ln) (T : Nat → Option D), (∀ x ∈ ls, x.ok s) → (∀ c v, T c = some v → Sh 16 1 v) → ∀ c v, tells s ls T c = some v → Sh 16 1 v
  | [], T, _, hT => hT
  | x :: ls, T, ho, hT => sh_tells ls (tell s T x) (fun y hy => ho y (List.mem_cons_of_mem _ hy)) fun c v e => by
    unfold tell at e
    split at e
    · cases e
      exact sh_one (ho x (List.mem_cons_self ..)).t
    · exact hT c v e
theorem due_sh {s : Nat} (h2 : s ≤ 3) {ls : List Ln} (ho : ∀ x ∈ ls, x.ok s) : showOk (dueD s (tells s ls fun _ => none)) = true := by
  have sz : s * s ≤ 9 := by
    have : s = 0 ∨ s = 1 ∨ s = 2 ∨ s = 3 := by omega
    rcases this with rfl | rfl | rfl | rfl <;> decide
  have st : Sh 7 0 (.str "refused") := ⟨rfl, rfl, by decide +kernel, by decide +kernel, Nat.le_refl _⟩
  unfold dueD
  split
  · rename_i c l e
    have hc : c ∈ lack s (tells s ls fun _ => none) := by rw [e]; exact List.mem_cons_self ..
    have hc := List.mem_range.mp (List.mem_filter.mp hc).1
    exact (sh_tup (w := 7) (k := 0) (m := 2) (w' := 16) (fun d hd => by
      simp only [List.mem_cons, List.not_mem_nil, or_false] at hd
      rcases hd with rfl | rfl
      · exact st
      · exact sh_int (by omega)) (by simp) (by decide)).ok (by decide) (by decide)
  · exact (sh_tup (w := 16) (k := 1) (m := 9) (w' := 153) (fun d hd => by
      obtain ⟨c, hc, rfl⟩ := List.mem_map.mp hd
      cases e : tells s ls (fun _ => none) c with
      | none => exact ⟨rfl, rfl, rfl, Nat.zero_le _, Nat.zero_le _⟩
      | some v => exact sh_tells ls _ ho (fun _ _ e => by cases e) c v e) (by unfold cellsD; rw [List.length_map, List.length_range]; exact sz) (by decide)).ok (by decide) (by decide)
theorem due_v (s : Nat) (T : Nat → Option D) : isV (dueD s T) = true := by unfold dueD; split <;> rfl
/-! ### heard -/
theorem heardF_ap {n m : Nat} {δ0 : DE} {h : Bx} {sf : (Nat → Bx → R D) → SF} : heardF bod_law n sf δ0 (.lam m) h = runF n (sf fun k h => bod_law k (pubD δ0) h) [.lam m] h := rfl
section
variable {δ0 : DE} {m : Nat} {h h' : Bx} {v : D}
theorem hear_ok {d : D} (hv : isV d = true) (e : bod_law m (pubD δ0) h = .ok d h') : heardF bod_law N__law_told.length sf__law_told δ0 (.lam m) h = .ok d h' := by
  rw [heardF_ap]
  cases d with
  | loc i => cases hv
  | _ => simp (decide := true) [runF_ap, sf__law_told, tryS_ap, startD, e, hv, retK]
theorem hear_l {n : Int} (e : bod_law m (pubD δ0) h = .exc "InvalidLines" [("at", .int n)] h') : heardF bod_law N__law_told.length sf__law_told δ0 (.lam m) h = .ok (.tup [.str "lines", .int n]) h' := by
  rw [heardF_ap]
  simp (decide := true) [runF_ap, sf__law_told, tryS_ap, startD, e, catchS, hitH]
theorem hear_t {n : Int} (e : bod_law m (pubD δ0) h = .exc "InvalidTable" [("at", .int n)] h') : heardF bod_law N__law_told.length sf__law_told δ0 (.lam m) h = .ok (.tup [.str "table", .int n]) h' := by
  rw [heardF_ap]
  simp (decide := true) [runF_ap, sf__law_told, tryS_ap, startD, e, catchS, hitH]
theorem hear_s (e : bod_law m (pubD δ0) h = .exc "InvalidSize" [("word", .str "size")] h') : heardF bod_law N__law_told.length sf__law_told δ0 (.lam m) h = .ok (.tup [.str "size", .str "size"]) h' := by
  rw [heardF_ap]
  simp (decide := true) [runF_ap, sf__law_told, tryS_ap, startD, e, catchS, hitH]
theorem hear_r {n : Int} (e : bod_law m (pubD δ0) h = .exc "Refused" [("at", .int n)] h') : heardF bod_law N__law_told.length sf__law_told δ0 (.lam m) h = .ok (.tup [.str "refused", .int n]) h' := by
  rw [heardF_ap]
  simp (decide := true) [runF_ap, sf__law_told, tryS_ap, startD, e, catchS, hitH]
end
end LP
/-! K01i: drawn lines; wrong lines; tables. -/
namespace LP
open PySem PySem.Spec PyProof.Rows L2 HT
theorem thing_draw {hs h : Bx} (B : Bo hs h) : ∃ (d : D) (h' : Bx), Th d ∧ F__law_thing [.ptr hs.length] h = .ok d h' ∧ Bo hs h' := by
  obtain ⟨x, h', hx, e, B'⟩ := pick_mem B [.int 0, .int 1, .int 7, .tup [.int 1, .int 0], .lst [.int 1, .int 0], .tup [.int 2, .int 0], .tup []] (by simp) (by simp) (by simp)
  have t : Th x := by
    simp only [List.mem_cons, List.not_mem_nil, or_false] at hx
    rcases hx with rfl | rfl | rfl | rfl | rfl | rfl | rfl
    · exact .n 0 (by decide)
    · exact .n 1 (by decide)
    · exact .n 7 (by decide)
    · exact .t [1, 0] (by decide) (by decide)
    · exact .l [1, 0] (by decide) (by decide)
    · exact .t [2, 0] (by decide) (by decide)
    · exact .t [] (by decide) (by decide)
  refine ⟨x, h', t, ?_, B'⟩
  have v := t.v.1
  simp [F__law_thing, runF_ap, sf__law_thing, startD, e, retK_v v, v]
def heads (s : Nat) : List (Option Nat) := none :: (List.range s).map some
theorem heads_lt {s n : Nat} (h : some n ∈ heads s) : n < s := by
  unfold heads at h
  rcases List.mem_cons.mp h with h | h
  · cases h
  · obtain ⟨m, hm, e⟩ := List.mem_map.mp h
    cases e
    exact List.mem_range.mp hm
theorem head_draw {hs h : Bx} (B : Bo hs h) {s : Nat} (h2 : s ≤ 3) : ∃ (a : Option Nat) (h' : Bx), (∀ n, a = some n → n < s) ∧ F__law_pick [.ptr hs.length, .lst ((heads s).map hd)] h = .ok (hd a) h' ∧ Bo hs h' := by
  obtain ⟨x, h', hx, e, B'⟩ := pick_mem B ((heads s).map hd) (by simp [heads]) (by simp [heads]; omega) (fun d hd' => by
    obtain ⟨a, _, rfl⟩ := List.mem_map.mp hd'
    exact isV_hd a)
  obtain ⟨a, ha, rfl⟩ := List.mem_map.mp hx
  exact ⟨a, h', fun n en => heads_lt (by rw [← en]; exact ha), e, B'⟩
abbrev s15 (b0 b1 : SV) (hs : Bx) (s : Nat) (own : SV) (a6 a7 a8 a9 a10 a11 a12 a13 a14 : SV) : DE := [b0, b1, .v (.ptr hs.length), .v (.int s), .v (.lst ((heads s).map hd)), own, a6, a7, a8, a9, a10, a11, a12, a13, a14]
theorem line_turn {b0 b1 : SV} {hs h : Bx} (B : Bo hs h) {s : Nat} (h2 : s ≤ 3) (acc : List D) (za : acc.length ≤ 1000) (a6 a7 a8 a9 a10 a11 a12 a13 a14 : SV) :
    ∃ (x : Ln) (h' : Bx) (b7 : SV), x.ok s ∧ p_law_3b_5b (s15 b0 b1 hs s (.own acc) a6 a7 a8 a9 a10 a11 a12 a13 a14) h = .nx (s15 b0 b1 hs s (.own (acc ++ [x.d])) a6 b7 a8 a9 a10 a11 a12 a13 a14) h' ∧ Bo hs h' := by
  obtain ⟨a, g1, ha, e1, B1⟩ := head_draw B h2
  obtain ⟨b, g2, hb, e2, B2⟩ := head_draw B1 h2
  obtain ⟨t, g3, tt, e3, B3⟩ := thing_draw B2
  have v := tt.v.1
  have st1 : p_law_3b_5b_1 (s15 b0 b1 hs s (.own acc) a6 a7 a8 a9 a10 a11 a12 a13 a14) h = .nx (s15 b0 b1 hs s (.own acc) a6 (.v (.tup [hd a, hd b, t])) a8 a9 a10 a11 a12 a13 a14) g3 := by
    simp [p_law_3b_5b_1, e1, e2, e3, v]
  obtain ⟨x, g4, hx, e4, B4⟩ := pick_mem B3 [.tup [hd a, hd b, t], .lst [hd a, hd b, t]] (by simp) (by simp) (by simp)
  have key : ∃ y : Ln, y.ok s ∧ x = y.d := by
    simp only [List.mem_cons, List.not_mem_nil, or_false] at hx
    rcases hx with rfl | rfl
    · exact ⟨⟨false, a, b, t⟩, ⟨ha, hb, tt⟩, rfl⟩
    · exact ⟨⟨true, a, b, t⟩, ⟨ha, hb, tt⟩, rfl⟩
  obtain ⟨y, oy, rfl⟩ := key
  refine ⟨y, g4, .v (.tup [hd a, hd b, t]), oy, ?_, B4⟩
  have z1 : acc.length < 1000000 := by omega
  have vy := y.v
  rw [p_law_3b_5b, seq_nx st1, p_law_3b_5b_2]
  show methS 5 _ appK _ _ = _
  have val : (callF (nArgs 2 F__law_pick) (consA (varF 2) (consA (lstF (consA (varF 7) (consA (valN (listN (consA (varF 7) nilA))) nilA))) nilA))) (s15 b0 b1 hs s (.own acc) a6 (.v (.tup [hd a, hd b, t])) a8 a9 a10 a11 a12 a13 a14) g3 = .ok y.d g4 := by
    simp [e4]
  rw [methS_ap, if_pos (by simp), val]
  simp [z1, vy]
theorem lines_draw {b0 b1 : SV} {hs : Bx} {s : Nat} (h2 : s ≤ 3) {a8 a9 a10 a11 a12 a13 a14 : SV} : ∀ (ds : List D) (acc : List Ln) (a6 a7 : SV) (h : Bx), Bo hs h → acc.length + ds.length ≤ 1000 → (∀ x ∈ acc, x.ok s) →
    ∃ (ls : List Ln) (b6 b7 : SV) (h' : Bx), forF (nameU 6) p_law_3b_5b ds (s15 b0 b1 hs s (.own (acc.map Ln.d)) a6 a7 a8 a9 a10 a11 a12 a13 a14) h = .nx (s15 b0 b1 hs s (.own (ls.map Ln.d)) b6 b7 a8 a9 a10 a11 a12 a13 a14) h' ∧ Bo hs h' ∧ ls.length = acc.length + ds.length ∧ ∀ x ∈ ls, x.ok s
  | [], acc, a6, a7, h, B, _, ha => ⟨acc, a6, a7, h, rfl, B, rfl, ha⟩
  | d :: ds, acc, a6, a7, h, B, z, ha => by
    rw [List.length_cons] at z
    obtain ⟨x, h1, b7, ox, e1, B1⟩ := line_turn (b0 := b0) (b1 := b1) B h2 (acc.map Ln.d) (by rw [List.length_map]; omega) (.v d) a7 a8 a9 a10 a11 a12 a13 a14
    obtain ⟨ls, c6, c7, h', e2, B2, l2, o2⟩ := lines_draw h2 ds (acc ++ [x]) (.v d) b7 h1 B1 (by simp; omega) (fun y hy => by
      rcases List.mem_append.mp hy with hy | hy
      · exact ha y hy
      · have : y = x := by simpa using hy
        subst this; exact ox)
    refine ⟨ls, c6, c7, h', ?_, B2, by rw [l2]; simp; omega, o2⟩
    rw [forF_nx (δ1 := s15 b0 b1 hs s (.own (acc.map Ln.d)) (.v d) a7 a8 a9 a10 a11 a12 a13 a14) rfl e1]
    have : acc.map Ln.d ++ [x.d] = (acc ++ [x]).map Ln.d := by rw [List.map_append]; rfl
    rw [this, e2]
/-! ### wrong lines -/
def badL (s : Nat) : List D := [.non, .tup [.int 0, .int 0], .tup [.int s, .int 0, .int 0], .tup [.int 0, .int (-1), .int 0], .tup [.int 0, .bl true, .int 0], .tup [.int 0, .int 0, .int (-1)], .tup [.int 0, .int 0, .str "0"], .tup [.int 0, .int 0, .non], .tup [.int 0, .int 0, .tup [.int 0, .non]], .str "000"]
theorem compF_yes {u : D → DE → Option DE} {ef : EF} {δ δ1 : DE} {d v : D} {ds vs : List D} {h : Bx} (e1 : u d δ = some δ1) (e2 : ef δ1 h = .ok v h) (e3 : isV v = true) (ih : compF u yesF ef δ ds h = .ok vs h) : compF u yesF ef δ (d :: ds) h = .ok (v :: vs) h := by
  unfold compF
  simp [e1, e2, e3, ih]
theorem line_head {s : Nat} {a b : D} (hv : isV a = true ∧ isV b = true) (h : Bx) {p q : Bool} (e1 : ∀ δ : DE, orV (bin2 isNK (varF 2) (cF .non)) (callF (nArgs 2 F_is_below) (consA (varF 2) (consA (varF 0) nilA))) [.v (.int s), δ.getD 1 .no, .v a] h = .ok (.bl p) h)
    (e2 : ∀ δ : DE, orV (bin2 isNK (varF 2) (cF .non)) (callF (nArgs 2 F_is_below) (consA (varF 2) (consA (varF 0) nilA))) [.v (.int s), δ.getD 1 .no, .v b] h = .ok (.bl q) h) : F_is_line [.int s, .tup [a, b, .int 0]] h = .ok (.bl (p && q)) h := by
  have t := (Th.n 0 (by decide)).ok h
  have s1 : p_is_line_1 (startD N_is_line.length [.int s, .tup [a, b, .int 0]]) h = .nx [.v (.int s), .v (.tup [a, b, .int 0]), .no] h := by
    simp at t
    simp [p_is_line_1, startD, t]
  have c : compF (nameU 2) yesF (orV (bin2 isNK (varF 2) (cF .non)) (callF (nArgs 2 F_is_below) (consA (varF 2) (consA (varF 0) nilA)))) [.v (.int s), .v (.tup [a, b, .int 0]), .no] [a, b] h = .ok [.bl p, .bl q] h := by
    have q1 := e1 [.no, .v (.tup [a, b, .int 0])]
    have q2 := e2 [.no, .v (.tup [a, b, .int 0])]
    have f1 : (orV (bin2 isNK (varF 2) (cF .non)) (callF (nArgs 2 F_is_below) (consA (varF 2) (consA (varF 0) nilA)))) [.v (.int s), .v (.tup [a, b, .int 0]), .v a] h = .ok (.bl p) h := q1
    have f2 : (orV (bin2 isNK (varF 2) (cF .non)) (callF (nArgs 2 F_is_below) (consA (varF 2) (consA (varF 0) nilA)))) [.v (.int s), .v (.tup [a, b, .int 0]), .v b] h = .ok (.bl q) h := q2
    exact compF_yes (δ1 := [.v (.int s), .v (.tup [a, b, .int 0]), .v a]) rfl f1 rfl (compF_yes (δ1 := [.v (.int s), .v (.tup [a, b, .int 0]), .v b]) rfl f2 rfl rfl)
  have it : itemsI (slF (varF 1) noO (someO (cF (.int 2)))) [.v (.int s), .v (.tup [a, b, .int 0]), .no] h = .ok [a, b] h := by simp
  have lc : lcN (itemsI (slF (varF 1) noO (someO (cF (.int 2))))) [2] (nameU 2) yesF (orV (bin2 isNK (varF 2) (cF .non)) (callF (nArgs 2 F_is_below) (consA (varF 2) (consA (varF 0) nilA)))) [.v (.int s), .v (.tup [a, b, .int 0]), .no] h = .ok [.bl p, .bl q] h := by
    rw [lcN_ap, it, R.bind_ok, if_pos (by simp)]
    exact c
  rw [F_is_line, runF_ap, show sf_is_line = p_is_line from rfl, p_is_line, seq_nx s1, p_is_line_2, retS_ap, blt_ap, consA_ap, valN_ap, lc]
  simp
theorem bad_ok {s : Nat} (h1 : 2 ≤ s) {b : D} (hb : b ∈ badL s) (h : Bx) : isV b = true ∧ F_is_line [.int s, b] h = .ok (.bl false) h := by
  have p0 : (0 : Int) < s := by omega
  have p1 : 0 < s := by omega
  unfold badL at hb
  simp only [List.mem_cons, List.not_mem_nil, or_false] at hb
  have i0 : ∀ (δ : DE), orV (bin2 isNK (varF 2) (cF .non)) (callF (nArgs 2 F_is_below) (consA (varF 2) (consA (varF 0) nilA))) [.v (.int s), δ.getD 1 .no, .v (.int 0)] h = .ok (.bl true) h := fun δ => by
    simp [isNK, isNon, p1]
  have third : ∀ t : D, isV t = true → F_is_thing [t] h = .ok (.bl false) h → F_is_line [.int s, .tup [.int 0, .int 0, t]] h = .ok (.bl false) h := fun t v e => by
    have s1 : p_is_line_1 (startD N_is_line.length [.int s, .tup [.int 0, .int 0, t]]) h = .rt (.bl false) h := by
      simp [p_is_line_1, startD, v, e]
    rw [F_is_line, runF_ap, show sf_is_line = p_is_line from rfl, p_is_line, seqS_ap, s1]
    rfl
  rcases hb with rfl | rfl | rfl | rfl | rfl | rfl | rfl | rfl | rfl | rfl
  · exact ⟨rfl, by simp [F_is_line, runF_ap, sf_is_line, startD]⟩
  · exact ⟨rfl, by simp [F_is_line, runF_ap, sf_is_line, startD]⟩
  · exact ⟨rfl, line_head ⟨rfl, rfl⟩ h (p := false) (q := true) (fun δ => by simp [isNK, isNon]) i0⟩
  · exact ⟨rfl, line_head ⟨rfl, rfl⟩ h (p := true) (q := false) i0 (fun δ => by simp [isNK, isNon])⟩
  · exact ⟨rfl, line_head ⟨rfl, rfl⟩ h (p := true) (q := false) i0 (fun δ => by simp [isNK, isNon])⟩
  · exact ⟨rfl, third _ rfl (thing_ok (.inl ⟨_, rfl⟩) h)⟩
  · exact ⟨rfl, third _ rfl (thing_ok (.inr (.inl ⟨_, rfl⟩)) h)⟩
  · exact ⟨rfl, third _ rfl (thing_ok (.inr (.inr (.inl rfl))) h)⟩
  · exact ⟨rfl, third _ rfl (thing_ok (.inr (.inr (.inr ⟨_, .inl rfl, by decide, fun x hx => by
      simp only [List.mem_cons, List.not_mem_nil, or_false] at hx
      rcases hx with rfl | rfl
      · exact .inl ⟨0, rfl⟩
      · exact .inr rfl⟩))) h)⟩
  · exact ⟨rfl, by simp [F_is_line, runF_ap, sf_is_line, startD]⟩
end LP
/-! K01j: tables; sizes; numbers drawn. -/
namespace LP
open PySem PySem.Spec PyProof.Rows L2 HT
def tb_body : SF := (ifS (notT (testF (callF (nArgs 2 F_is_below) (consA (varF 3) (consA (varF 0) nilA)))))
    (raiseS "InvalidTable" "at" (varF 2))
    (fun δ h => .nx δ h))
theorem tb_loop {s : Nat} {L : D} {h : Bx} (rest : List D) : ∀ (t : List Nat) (k : Nat) (a2 a3 : SV), (∀ v ∈ t, v < s) →
    ∃ b2 b3, forF (tupU 2 (consU (nameU 2) (consU (nameU 3) nilU))) tb_body (numD k (nsD t ++ rest)) [.v (.int s), .v L, a2, a3] h = forF (tupU 2 (consU (nameU 2) (consU (nameU 3) nilU))) tb_body (numD (k + t.length) rest) [.v (.int s), .v L, b2, b3] h
  | [], k, a2, a3, _ => ⟨a2, a3, rfl⟩
  | v :: t, k, a2, a3, ht => by
    obtain ⟨b2, b3, e⟩ := tb_loop (s := s) (L := L) (h := h) rest t (k + 1) (.v (nD k)) (.v (nD v)) fun x hx => ht x (List.mem_cons_of_mem _ hx)
    refine ⟨b2, b3, ?_⟩
    have hv := ht v (List.mem_cons_self ..)
    have st : tb_body [.v (.int s), .v L, .v (nD k), .v (nD v)] h = .nx [.v (.int s), .v L, .v (nD k), .v (nD v)] h := by
      simp [tb_body, nD, hv]
    show forF _ tb_body (numD k (nD v :: (nsD t ++ rest))) _ h = _
    rw [numD, forF_nx (δ1 := [.v (.int s), .v L, .v (nD k), .v (nD v)]) rfl st, e, List.length_cons, show k + 1 + t.length = k + (t.length + 1) by omega]
section
variable {s : Nat} {h : Bx}
theorem sq_eq (h2 : s ≤ 3) (L : D) (n : Nat) (hn : lenK [L] [.v (.int s), .v L, .no, .no] h = .ok (.int n) h) (hv : isV L = true) : testF (bin2 (eqK true) (blt lenK (consA (varF 1) nilA)) (bin2 mulA (varF 0) (varF 0))) [.v (.int s), .v L, .no, .no] h = .ok (decide (n ≠ s * s)) h := by
  have q1 : (-18446744073709551616 : Int) < (s : Int) := by omega
  have q2 : (s : Int) < 18446744073709551616 := by omega
  have e : ((n : Int) = (s : Int) * s) ↔ n = s * s := by rw [← Int.natCast_mul]; omega
  simp [hn, q1, q2, e]
theorem table_ok (h1 : 2 ≤ s) (h2 : s ≤ 3) {t : List Nat} (tl : t.length = s * s) (ht : ∀ v ∈ t, v < s) : F_need_table [.int s, .lst (nsD t)] h = .ok (.tup (nsD t)) h := by
  have e1 := size_ok h1 h2 h
  have s1 : p_need_table_1 (startD N_need_table.length [.int s, .lst (nsD t)]) h = .nx [.v (.int s), .v (.lst (nsD t)), .no, .no] h := by
    simp [p_need_table_1, startD, e1]
  have q := sq_eq h2 (.lst (nsD t)) t.length (by simp) rfl (h := h)
  have s2 : p_need_table_2 [.v (.int s), .v (.lst (nsD t)), .no, .no] h = .nx [.v (.int s), .v (.lst (nsD t)), .no, .no] h := by
    rw [p_need_table_2, ifS_ap, orT_ap]
    have : notT (testF (callF (nArgs 1 F_is_sequence) (consA (varF 1) nilA))) [.v (.int s), .v (.lst (nsD t)), .no, .no] h = .ok false h := by simp
    rw [this, R.bind_ok, if_neg (by simp), q, decide_eq_false (by simp [tl])]
    rfl
  obtain ⟨b2, b3, e⟩ := tb_loop (s := s) (L := .lst (nsD t)) (h := h) [] t 0 .no .no ht
  rw [List.append_nil, ← enum_num] at e
  have s3 : p_need_table_3 [.v (.int s), .v (.lst (nsD t)), .no, .no] h = .nx [.v (.int s), .v (.lst (nsD t)), b2, b3] h := by
    rw [p_need_table_3, forS_ap]
    have it : ((consA (varF 1) nilA) [.v (.int s), .v (.lst (nsD t)), .no, .no] h).bind (fun ds h1 => enumK ds [.v (.int s), .v (.lst (nsD t)), .no, .no] h1) = .ok (enumD (nsD t)) h := by simp
    rw [it, R.toS_ok]
    exact e
  rw [F_need_table, runF_ap, show sf_need_table = p_need_table from rfl, p_need_table, seq_nx s1, seq_nx s2, seq_nx s3]
  simp [p_need_table_4]
theorem table_bad (h1 : 2 ≤ s) (h2 : s ≤ 3) {t u : List Nat} {b : D} (tl : t.length + 1 + u.length = s * s) (ht : ∀ v ∈ t, v < s) (vb : isV b = true) (nb : F_is_below [b, .int s] h = .ok (.bl false) h) :
    F_need_table [.int s, .lst (nsD t ++ b :: nsD u)] h = .exc "InvalidTable" [("at", .int t.length)] h := by
  have e1 := size_ok h1 h2 h
  have s1 : p_need_table_1 (startD N_need_table.length [.int s, .lst (nsD t ++ b :: nsD u)]) h = .nx [.v (.int s), .v (.lst (nsD t ++ b :: nsD u)), .no, .no] h := by
    simp [p_need_table_1, startD, e1]
  have q := sq_eq h2 (.lst (nsD t ++ b :: nsD u)) (s * s) (by rw [lenK_lst, ← tl]; simp; omega) rfl (h := h)
  have s2 : p_need_table_2 [.v (.int s), .v (.lst (nsD t ++ b :: nsD u)), .no, .no] h = .nx [.v (.int s), .v (.lst (nsD t ++ b :: nsD u)), .no, .no] h := by
    rw [p_need_table_2, ifS_ap, orT_ap]
    have : notT (testF (callF (nArgs 1 F_is_sequence) (consA (varF 1) nilA))) [.v (.int s), .v (.lst (nsD t ++ b :: nsD u)), .no, .no] h = .ok false h := by simp
    rw [this, R.bind_ok, if_neg (by simp), q, decide_eq_false (by simp)]
    rfl
  obtain ⟨b2, b3, e⟩ := tb_loop (s := s) (L := .lst (nsD t ++ b :: nsD u)) (h := h) (b :: nsD u) t 0 .no .no ht
  rw [← enum_num] at e
  have tb : tb_body [.v (.int s), .v (.lst (nsD t ++ b :: nsD u)), .v (nD t.length), .v b] h = .exc "InvalidTable" [("at", .int t.length)] [.v (.int s), .v (.lst (nsD t ++ b :: nsD u)), .v (nD t.length), .v b] h := by
    simp [tb_body, vb, nb, nD]
  have s3 : p_need_table_3 [.v (.int s), .v (.lst (nsD t ++ b :: nsD u)), .no, .no] h = .exc "InvalidTable" [("at", .int t.length)] [.v (.int s), .v (.lst (nsD t ++ b :: nsD u)), .v (nD t.length), .v b] h := by
    rw [p_need_table_3, forS_ap]
    have it : ((consA (varF 1) nilA) [.v (.int s), .v (.lst (nsD t ++ b :: nsD u)), .no, .no] h).bind (fun ds h1 => enumK ds [.v (.int s), .v (.lst (nsD t ++ b :: nsD u)), .no, .no] h1) = .ok (enumD (nsD t ++ b :: nsD u)) h := by simp
    rw [it, R.toS_ok]
    refine e.trans ?_
    rw [Nat.zero_add, numD, forF]
    show (match tb_body [.v (.int s), .v (.lst (nsD t ++ b :: nsD u)), .v (nD t.length), .v b] h with | .nx δ' h' => _ | .ct δ' h' => _ | .bk δ' h' => _ | x => x) = _
    rw [tb]
  rw [F_need_table, runF_ap, show sf_need_table = p_need_table from rfl, p_need_table, seq_nx s1, seq_nx s2, seqS_ap, s3]
  rfl
/-- what is no row of that length -/
theorem table_none (h1 : 2 ≤ s) (h2 : s ≤ 3) {L : D} (hL : L = .non ∨ L = .int 3 ∨ ∃ t : List Nat, L = .lst (nsD t) ∧ t.length ≠ s * s) : F_need_table [.int s, L] h = .exc "InvalidTable" [("at", .int (-1))] h := by
  have e1 := size_ok h1 h2 h
  have v : isV L = true := by rcases hL with rfl | rfl | ⟨t, rfl, _⟩ <;> rfl
  have s1 : p_need_table_1 (startD N_need_table.length [.int s, L]) h = .nx [.v (.int s), .v L, .no, .no] h := by
    simp [p_need_table_1, startD, e1]
  have s2 : p_need_table_2 [.v (.int s), .v L, .no, .no] h = .exc "InvalidTable" [("at", .int (-1))] [.v (.int s), .v L, .no, .no] h := by
    rcases hL with rfl | rfl | ⟨t, rfl, n⟩
    · simp [p_need_table_2]
    · simp [p_need_table_2]
    · have q := sq_eq h2 (.lst (nsD t)) t.length (by simp) rfl (h := h)
      rw [decide_eq_true n] at q
      rw [p_need_table_2, ifS_ap, orT_ap]
      have : notT (testF (callF (nArgs 1 F_is_sequence) (consA (varF 1) nilA))) [.v (.int s), .v (.lst (nsD t)), .no, .no] h = .ok false h := by simp
      rw [this, R.bind_ok, if_neg (by simp), q]
      simp
  rw [F_need_table, runF_ap, show sf_need_table = p_need_table from rfl, p_need_table, seq_nx s1, seqS_ap, s2]
  rfl
theorem lines_none (h1 : 2 ≤ s) (h2 : s ≤ 3) {L : D} (hL : L = .non ∨ L = .int 5 ∨ L = .str "ab") : F_lines_sheet [.int s, L] h = .exc "InvalidLines" [("at", .int (-1))] h := by
  have e1 := size_ok h1 h2 h
  have s1 : p_lines_sheet_1 (startD N_lines_sheet.length [.int s, L]) h = .nx (s7 s L [] .no .no .no .no) h := by
    have v : isV L = true := by rcases hL with rfl | rfl | rfl <;> rfl
    simp [p_lines_sheet_1, startD, e1]
  have s2 : p_lines_sheet_2 (s7 s L [] .no .no .no .no) h = .exc "InvalidLines" [("at", .int (-1))] (s7 s L [] .no .no .no .no) h := by
    rcases hL with rfl | rfl | rfl <;> simp [p_lines_sheet_2]
  rw [F_lines_sheet, runF_ap, show sf_lines_sheet = p_lines_sheet from rfl, p_lines_sheet, seq_nx s1, seqS_ap, s2]
  rfl
/-- what is no size -/
def badS : List D := [.non, .int 1, .int 4, .bl true, .str "2"]
theorem size_bad {b : D} (hb : b ∈ badS) : isV b = true ∧ F_need_size [b] h = .exc "InvalidSize" [("word", .str "size")] h ∧ F_lines_sheet [b, .non] h = .exc "InvalidSize" [("word", .str "size")] h ∧ F_need_table [b, .non] h = .exc "InvalidSize" [("word", .str "size")] h := by
  have key : isV b = true ∧ F_need_size [b] h = .exc "InvalidSize" [("word", .str "size")] h := by
    unfold badS at hb
    simp only [List.mem_cons, List.not_mem_nil, or_false] at hb
    rcases hb with rfl | rfl | rfl | rfl | rfl <;> exact ⟨rfl, by simp [F_need_size, runF_ap, sf_need_size, startD]⟩
  obtain ⟨v, e⟩ := key
  refine ⟨v, e, ?_, ?_⟩
  · have s1 : p_lines_sheet_1 (startD N_lines_sheet.length [b, .non]) h = .exc "InvalidSize" [("word", .str "size")] (startD N_lines_sheet.length [b, .non]) h := by
      simp [p_lines_sheet_1, startD, e, v]
    rw [F_lines_sheet, runF_ap, show sf_lines_sheet = p_lines_sheet from rfl, p_lines_sheet, seqS_ap, s1]
    rfl
  · have s1 : p_need_table_1 (startD N_need_table.length [b, .non]) h = .exc "InvalidSize" [("word", .str "size")] (startD N_need_table.length [b, .non]) h := by
      simp [p_need_table_1, startD, e, v]
    rw [F_need_table, runF_ap, show sf_need_table = p_need_table from rfl, p_need_table, seqS_ap, s1]
    rfl
end
/-- [take(box, size) for ..], the box in slot 2, the size in slot 3 -/
theorem draws2 {hs h : Bx} (B : Bo hs h) {m n : Nat} (h0 : 0 < m) (h1 : m < 1073741824) {δ : DE} {i : Nat} (hi : 3 < i) (e0 : δ[2]? = some (.v (.ptr hs.length))) (e1 : δ[3]? = some (.v (.int m))) :
    ∃ (t : List Nat) (h' : Bx), compF (nameU i) yesF (callF (nArgs 2 F__law_take) (consA (varF 2) (consA (varF 3) nilA))) δ ((List.range n).map nD) h = .ok (nsD t) h' ∧ t.length = n ∧ (∀ v ∈ t, v < m) ∧ Bo hs h' := by
  obtain ⟨ys, h', e2, e3, e4⟩ := compF_st (u := nameU i) (ef := callF (nArgs 2 F__law_take) (consA (varF 2) (consA (varF 3) nilA))) (δ := δ) (P := Bo hs) (Q := fun _ y => ∃ v : Nat, v < m ∧ y = nD v) (ds := (List.range n).map nD) B fun d hd h B => by
    obtain ⟨x, h', q1, q2, q3⟩ := take_ok B h0 h1
    have f0 : (δ.set i (.v d))[2]? = some (.v (.ptr hs.length)) := by rw [List.getElem?_set_ne (by omega)]; exact e0
    have f1 : (δ.set i (.v d))[3]? = some (.v (.int m)) := by rw [List.getElem?_set_ne (by omega)]; exact e1
    exact ⟨δ.set i (.v d), nD x, h', rfl, by simp [f0, f1, q2, nD], rfl, ⟨x, q1, rfl⟩, q3⟩
  obtain ⟨t, rfl, t1, t2⟩ := nums_of e4
  exact ⟨t, h', e2, by rw [t1, List.length_map, List.length_range], t2, e3⟩
end LP
/-! K01k: one turn of the law (printed by mk01.py). -/
namespace LP
open PySem PySem.Spec PyProof.Rows L2 HT
theorem heard_step {m : Nat} {δ : DE} {h h' : Bx} {told : D} {f : EF} (e : heardF bod_law N__law_told.length sf__law_told δ (.lam m) h = .ok told h') (ef : f δ h' = .ok told h') (q : eqK true told told δ h' = .ok (.bl false) h') :
    ifS (testF (bin2 (eqK true) (fun δ h => ((cF (.lam m)) δ h).bind fun d h1 => heardF bod_law N__law_told.length sf__law_told δ d h1) f)) (retS (cF (.bl false))) (fun δ h => .nx δ h) δ h = .nx δ h' := by
  have k : (bin2 (eqK true) (fun δ h => ((cF (.lam m)) δ h).bind fun d h1 => heardF bod_law N__law_told.length sf__law_told δ d h1) f) δ h = .ok (.bl false) h' := by
    rw [bin2_ap, cF_ap, R.bind_ok, e, R.bind_ok, ef, R.bind_ok, q]
  rw [ifS_ap, testF_ap, k]
  rfl
theorem tell_eq {x : Str} {n : Int} {δ : DE} {h : Bx} : eqK true (.tup [.str x, .int n]) (.tup [.str x, .int n]) δ h = .ok (.bl false) h := by simp
theorem tell_eqs {x y : Str} {δ : DE} {h : Bx} : eqK true (.tup [.str x, .str y]) (.tup [.str x, .str y]) δ h = .ok (.bl false) h := by simp
theorem bod0 : bod_law 0 = lf_law_0 := rfl
theorem bod1 : bod_law 1 = lf_law_1 := rfl
theorem bod2 : bod_law 2 = lf_law_2 := rfl
theorem bod3 : bod_law 3 = lf_law_3 := rfl
theorem bod4 : bod_law 4 = lf_law_4 := rfl
theorem bod5 : bod_law 5 = lf_law_5 := rfl
theorem bod6 : bod_law 6 = lf_law_6 := rfl
theorem bod7 : bod_law 7 = lf_law_7 := rfl
theorem bod8 : bod_law 8 = lf_law_8 := rfl
theorem heads_d (s : Nat) : (heads s).map hd = .non :: nsD (List.range s) := by
  unfold heads nsD
  rw [List.map_cons, List.map_map]
  rfl
theorem turn_k {ns : List Int} (hn : ns.length ≤ 63) {k : Nat} (hk : k ≤ 3) (h : Bx) (a2 a3 a4 a5 a6 a7 a8 a9 a10 a11 a12 a13 a14 : SV) :
    ∃ b2 b3 b4 b5 b6 b7 b8 b9 b10 b11 b12 b13 b14 h', p_law_3b [.v (.frz (ns.map D.int)), .v (.int k), a2, a3, a4, a5, a6, a7, a8, a9, a10, a11, a12, a13, a14] h = .nx [.v (.frz (ns.map D.int)), .v (.int k), b2, b3, b4, b5, b6, b7, b8, b9, b10, b11, b12, b13, b14] h' := by
  obtain ⟨h1, e1, B1⟩ := box_ok hn (k := k) (by omega) h
  obtain ⟨x, h2, x1, e2, B2⟩ := take_ok B1 (m := 2) (by omega) (by omega)
  obtain ⟨s, hs⟩ : ∃ s : Nat, s = 2 + x := ⟨_, rfl⟩
  have es : (2 : Int) + (x : Int) = (s : Int) := by omega
  have g1 : 2 ≤ s := by omega
  have g2 : s ≤ 3 := by omega
  have sz : s * s ≤ 9 := by
    have : s = 2 ∨ s = 3 := by omega
    rcases this with rfl | rfl <;> decide
  have q1 : (-18446744073709551616 : Int) < (s : Int) := by omega
  have q2 : (s : Int) < 18446744073709551616 := by omega
  have ri : rgIC (0, (s : Int)) = true := by
    have : s = 2 ∨ s = 3 := by omega
    rcases this with rfl | rfl <;> decide
  have rj : rgI (0, (s : Int)) = nsD (List.range s) := by
    have : s = 2 ∨ s = 3 := by omega
    rcases this with rfl | rfl <;> rfl
  have hdl := heads_d s
  obtain ⟨y, h3, y1, e3, B3⟩ := take_ok B2 (m := 6) (by omega) (by omega)
  obtain ⟨ls0, c6, c7, h4, e4, B4, l4, o4⟩ := lines_draw (b0 := .v (.frz (ns.map D.int))) (b1 := .v (.int k)) (s := s) g2 (a8 := a8) (a9 := a9) (a10 := a10) (a11 := a11) (a12 := a12) (a13 := a13) (a14 := a14) ((List.range (1 + y)).map nD) [] a6 a7 h3 B3 (by simp; omega) (fun x hx => by cases hx)
  rw [List.length_map, List.length_range, List.length_nil] at l4
  simp at e1 e2 e3
  have s1 : p_law_3b_1 [.v (.frz (ns.map D.int)), .v (.int k), a2, a3, a4, a5, a6, a7, a8, a9, a10, a11, a12, a13, a14] h = .nx [.v (.frz (ns.map D.int)), .v (.int k), .v (.ptr h.length), a3, a4, a5, a6, a7, a8, a9, a10, a11, a12, a13, a14] h1 := by simp [p_law_3b_1, e1]
  have s2 : p_law_3b_2 [.v (.frz (ns.map D.int)), .v (.int k), .v (.ptr h.length), a3, a4, a5, a6, a7, a8, a9, a10, a11, a12, a13, a14] h1 = .nx [.v (.frz (ns.map D.int)), .v (.int k), .v (.ptr h.length), .v (.int s), a4, a5, a6, a7, a8, a9, a10, a11, a12, a13, a14] h2 := by simp [p_law_3b_2, e2, es]
  have s3 : p_law_3b_3 [.v (.frz (ns.map D.int)), .v (.int k), .v (.ptr h.length), .v (.int s), a4, a5, a6, a7, a8, a9, a10, a11, a12, a13, a14] h2 = .nx [.v (.frz (ns.map D.int)), .v (.int k), .v (.ptr h.length), .v (.int s), .v (.lst ((heads s).map hd)), a5, a6, a7, a8, a9, a10, a11, a12, a13, a14] h2 := by
    rw [hdl]
    have z1 : s + 1 ≤ 1000000 := by omega
    have z2 : 1 + s ≤ 1000000 := by omega
    simp [p_law_3b_3, ri, rj, z1, z2]
  have s4 : p_law_3b_4 [.v (.frz (ns.map D.int)), .v (.int k), .v (.ptr h.length), .v (.int s), .v (.lst ((heads s).map hd)), a5, a6, a7, a8, a9, a10, a11, a12, a13, a14] h2 = .nx [.v (.frz (ns.map D.int)), .v (.int k), .v (.ptr h.length), .v (.int s), .v (.lst ((heads s).map hd)), .own ([].map Ln.d), a6, a7, a8, a9, a10, a11, a12, a13, a14] h2 := by simp [p_law_3b_4]
  have s5 : p_law_3b_5 [.v (.frz (ns.map D.int)), .v (.int k), .v (.ptr h.length), .v (.int s), .v (.lst ((heads s).map hd)), .own ([].map Ln.d), a6, a7, a8, a9, a10, a11, a12, a13, a14] h2 = .nx [.v (.frz (ns.map D.int)), .v (.int k), .v (.ptr h.length), .v (.int s), .v (.lst ((heads s).map hd)), .own (ls0.map Ln.d), c6, c7, a8, a9, a10, a11, a12, a13, a14] h4 := by
    have rc := rgC_nat (n := 1 + y) (by omega)
    have rd := rgD_nat (1 + y)
    rw [Int.natCast_add] at rc rd
    simp at rc rd
    have it : ((consA (bin2 addK (cF (.int 1)) (callF (nArgs 2 F__law_take) (consA (varF 2) (consA (cF (.int 6)) nilA)))) nilA) [.v (.frz (ns.map D.int)), .v (.int k), .v (.ptr h.length), .v (.int s), .v (.lst ((heads s).map hd)), .own ([].map Ln.d), a6, a7, a8, a9, a10, a11, a12, a13, a14] h2).bind rg1K = .ok ((List.range (1 + y)).map nD) h3 := by
      simp [e3, rc, rd]
    rw [p_law_3b_5, forS_ap]
    show (((consA (bin2 addK (cF (.int 1)) (callF (nArgs 2 F__law_take) (consA (varF 2) (consA (cF (.int 6)) nilA)))) nilA) [.v (.frz (ns.map D.int)), .v (.int k), .v (.ptr h.length), .v (.int s), .v (.lst ((heads s).map hd)), .own ([].map Ln.d), a6, a7, a8, a9, a10, a11, a12, a13, a14] h2).bind rg1K).toS _ _ = _
    rw [it, R.toS_ok]
    exact e4
  have s6 : ∃ (ls : List Ln) (h6 : Bx), p_law_3b_6 [.v (.frz (ns.map D.int)), .v (.int k), .v (.ptr h.length), .v (.int s), .v (.lst ((heads s).map hd)), .own (ls0.map Ln.d), c6, c7, a8, a9, a10, a11, a12, a13, a14] h4 = .nx [.v (.frz (ns.map D.int)), .v (.int k), .v (.ptr h.length), .v (.int s), .v (.lst ((heads s).map hd)), .own (ls.map Ln.d), c6, c7, a8, a9, a10, a11, a12, a13, a14] h6 ∧ Bo h h6 ∧ ls.length ≤ 7 ∧ ∀ x ∈ ls, x.ok s := by
    obtain ⟨z, h5, z1, e5, B5⟩ := take_ok B4 (m := 4) (by omega) (by omega)
    simp at e5
    by_cases hz : 0 < z
    · obtain ⟨t, h6, tt, e6, B6⟩ := thing_draw B5
      have v := tt.v.1
      refine ⟨⟨false, none, none, t⟩ :: ls0, h6, ?_, B6, by rw [List.length_cons]; omega, fun x hx => ?_⟩
      · have zl : ls0.length + 1 ≤ 1000000 := by omega
        simp [p_law_3b_6, e5, e6, hz, v, zl, Nat.add_comm, Ln.d, Ln.ds, hd]
      · rcases List.mem_cons.mp hx with hx | hx
        · subst hx
          exact ⟨fun n e => (by cases e), fun n e => (by cases e), tt⟩
        · exact o4 x hx
    · refine ⟨ls0, h5, ?_, B5, by omega, o4⟩
      simp [p_law_3b_6, e5, hz]
  obtain ⟨ls, h6, s6, B6, l6, o6⟩ := s6
  have du := due_ok g1 g2 o6 (by omega) h6
  have dv := due_v s (tells s ls fun _ => none)
  have s7 : p_law_3b_7 [.v (.frz (ns.map D.int)), .v (.int k), .v (.ptr h.length), .v (.int s), .v (.lst ((heads s).map hd)), .own (ls.map Ln.d), c6, c7, a8, a9, a10, a11, a12, a13, a14] h6 = .nx [.v (.frz (ns.map D.int)), .v (.int k), .v (.ptr h.length), .v (.int s), .v (.lst ((heads s).map hd)), .v (.lst (ls.map Ln.d)), c6, c7, .v (dueD s (tells s ls fun _ => none)), a9, a10, a11, a12, a13, a14] h6 := by simp [p_law_3b_7, du, dv]
  have s8 : p_law_3b_8 [.v (.frz (ns.map D.int)), .v (.int k), .v (.ptr h.length), .v (.int s), .v (.lst ((heads s).map hd)), .v (.lst (ls.map Ln.d)), c6, c7, .v (dueD s (tells s ls fun _ => none)), a9, a10, a11, a12, a13, a14] h6 = .nx [.v (.frz (ns.map D.int)), .v (.int k), .v (.ptr h.length), .v (.int s), .v (.lst ((heads s).map hd)), .v (.lst (ls.map Ln.d)), c6, c7, .v (dueD s (tells s ls fun _ => none)), a9, a10, a11, a12, a13, a14] h6 := by
    have so := sheet_ok g1 g2 o6 (by omega) (L := .tup (ls.map Ln.d)) (.inr rfl) h6
    have b1 : bod_law 1 (pubD [.v (.frz (ns.map D.int)), .v (.int k), .v (.ptr h.length), .v (.int s), .v (.lst ((heads s).map hd)), .v (.lst (ls.map Ln.d)), c6, c7, .v (dueD s (tells s ls fun _ => none)), a9, a10, a11, a12, a13, a14]) h6 = out s (tells s ls fun _ => none) h6 := by
      rw [bod1]
      show lf_law_1 [_, _, _, .v (.int s), _, .v (.lst (ls.map Ln.d)), _, _, _, _, _, _, _, _, _] h6 = _
      rw [lf_law_1]
      have ar : (consA (blt tupK (consA (varF 5) nilA)) (consA (varF 3) nilA)) [.no, .no, .no, .v (.int s), .no, .v (.lst (ls.map Ln.d)), .no, .no, .no, .no, .no, .no, .no, .no, .no] h6 = .ok [.tup (ls.map Ln.d), .int s] h6 := by simp
      rw [← so]
      rfl
    have he : heardF bod_law N__law_told.length sf__law_told [.v (.frz (ns.map D.int)), .v (.int k), .v (.ptr h.length), .v (.int s), .v (.lst ((heads s).map hd)), .v (.lst (ls.map Ln.d)), c6, c7, .v (dueD s (tells s ls fun _ => none)), a9, a10, a11, a12, a13, a14] (.lam 1) h6 = .ok (dueD s (tells s ls fun _ => none)) h6 := by
      unfold out at b1
      unfold dueD at dv ⊢
      cases e : lack s (tells s ls fun _ => none) with
      | cons c l =>
        rw [e] at b1
        exact hear_r b1
      | nil =>
        rw [e] at b1
        exact hear_ok rfl b1
    have sh := due_sh g2 o6
    have vw1 : ∀ (δ : DE) (h : Bx), vw δ h (dueD s (tells s ls fun _ => none)) = dueD s (tells s ls fun _ => none) := fun δ h => by unfold dueD; split <;> rfl
    have r1 : blt reprK (consA (fun δ h => ((cF (.lam 1)) δ h).bind fun d h1 => heardF bod_law N__law_told.length sf__law_told δ d h1) nilA) [.v (.frz (ns.map D.int)), .v (.int k), .v (.ptr h.length), .v (.int s), .v (.lst ((heads s).map hd)), .v (.lst (ls.map Ln.d)), c6, c7, .v (dueD s (tells s ls fun _ => none)), a9, a10, a11, a12, a13, a14] h6 = .ok (.str (dueD s (tells s ls fun _ => none)).py.shown) h6 := by
      rw [blt_ap, consA_ap, cF_ap, R.bind_ok, he, R.bind_ok, nilA_ap, R.bind_ok, R.bind_ok, reprK_ap, vw1, if_pos sh]
    have r2 : blt reprK (consA (varF 8) nilA) [.v (.frz (ns.map D.int)), .v (.int k), .v (.ptr h.length), .v (.int s), .v (.lst ((heads s).map hd)), .v (.lst (ls.map Ln.d)), c6, c7, .v (dueD s (tells s ls fun _ => none)), a9, a10, a11, a12, a13, a14] h6 = .ok (.str (dueD s (tells s ls fun _ => none)).py.shown) h6 := by
      have v8 : varF 8 [.v (.frz (ns.map D.int)), .v (.int k), .v (.ptr h.length), .v (.int s), .v (.lst ((heads s).map hd)), .v (.lst (ls.map Ln.d)), c6, c7, .v (dueD s (tells s ls fun _ => none)), a9, a10, a11, a12, a13, a14] h6 = .ok (dueD s (tells s ls fun _ => none)) h6 := rfl
      rw [blt_ap, consA_ap, v8, R.bind_ok, nilA_ap, R.bind_ok, R.bind_ok, reprK_ap, vw1, if_pos sh]
    rw [p_law_3b_8, ifS_ap, testF_ap, bin2_ap, r1, R.bind_ok, r2, R.bind_ok]
    simp
  obtain ⟨i, h9, i1, e9, B9⟩ := take_ok B6 (m := ls.length + 1) (by omega) (by omega)
  simp at e9
  have s9 : p_law_3b_9 [.v (.frz (ns.map D.int)), .v (.int k), .v (.ptr h.length), .v (.int s), .v (.lst ((heads s).map hd)), .v (.lst (ls.map Ln.d)), c6, c7, .v (dueD s (tells s ls fun _ => none)), a9, a10, a11, a12, a13, a14] h6 = .nx [.v (.frz (ns.map D.int)), .v (.int k), .v (.ptr h.length), .v (.int s), .v (.lst ((heads s).map hd)), .v (.lst (ls.map Ln.d)), c6, c7, .v (dueD s (tells s ls fun _ => none)), .v (.int i), a10, a11, a12, a13, a14] h9 := by simp [p_law_3b_9, e9]
  obtain ⟨b, h10, b1, e10, B10⟩ := pick_mem B9 (badL s) (by simp [badL]) (by simp [badL]) (fun d hd => (bad_ok g1 hd h9).1)
  have vb := (bad_ok g1 b1 h10).1
  have nb := (bad_ok g1 b1 h10).2
  have s10 : p_law_3b_10 [.v (.frz (ns.map D.int)), .v (.int k), .v (.ptr h.length), .v (.int s), .v (.lst ((heads s).map hd)), .v (.lst (ls.map Ln.d)), c6, c7, .v (dueD s (tells s ls fun _ => none)), .v (.int i), a10, a11, a12, a13, a14] h9 = .nx [.v (.frz (ns.map D.int)), .v (.int k), .v (.ptr h.length), .v (.int s), .v (.lst ((heads s).map hd)), .v (.lst (ls.map Ln.d)), c6, c7, .v (dueD s (tells s ls fun _ => none)), .v (.int i), .v b, a11, a12, a13, a14] h10 := by
    unfold badL at e10
    simp [p_law_3b_10, e10, vb]
  have tk : (ls.take i).length = i := by rw [List.length_take]; omega
  have s11 : p_law_3b_11 [.v (.frz (ns.map D.int)), .v (.int k), .v (.ptr h.length), .v (.int s), .v (.lst ((heads s).map hd)), .v (.lst (ls.map Ln.d)), c6, c7, .v (dueD s (tells s ls fun _ => none)), .v (.int i), .v b, a11, a12, a13, a14] h10 = .nx [.v (.frz (ns.map D.int)), .v (.int k), .v (.ptr h.length), .v (.int s), .v (.lst ((heads s).map hd)), .v (.lst (ls.map Ln.d)), c6, c7, .v (dueD s (tells s ls fun _ => none)), .v (.int i), .v b, a11, a12, a13, a14] h10 := by
    have sb := sheet_bad g1 g2 (ls := ls.take i) (fun x hx => o6 x (List.mem_of_mem_take hx)) (by omega) vb ((ls.drop i).map Ln.d) h10 nb
    rw [tk] at sb
    have c1 : cutD (ls.map Ln.d) none (some (i : Int)) = (ls.take i).map Ln.d := by rw [cutD_to (by omega), Int.toNat_natCast, List.map_take]
    have c2 : cutD (ls.map Ln.d) (some (i : Int)) none = (ls.drop i).map Ln.d := by rw [cutD_from (by omega), Int.toNat_natCast, List.map_drop]
    have l1 : ((ls.take i).map Ln.d).length + [b].length ≤ 1000000 := by
      rw [List.length_map, List.length_singleton]
      omega
    have l2 : ((ls.take i).map Ln.d ++ [b]).length + ((ls.drop i).map Ln.d).length ≤ 1000000 := by
      rw [List.length_append, List.length_map, List.length_map, List.length_drop, tk]
      simp
      omega
    have key : ∀ Δ : DE, varF 3 Δ h10 = .ok (.int s) h10 → varF 5 Δ h10 = .ok (.lst (ls.map Ln.d)) h10 → varF 9 Δ h10 = .ok (.int i) h10 → varF 10 Δ h10 = .ok b h10 → lf_law_2 Δ h10 = .exc "InvalidLines" [("at", .int i)] h10 := fun Δ v3 v5 v9 v10 => by
      have f1 : slF (varF 5) noO (someO (varF 9)) Δ h10 = .ok (.lst ((ls.take i).map Ln.d)) h10 := by
        rw [← c1, slF_ap, v5, R.bind_ok, noO_ap, R.bind_ok, someO_ap, v9]; rfl
      have f2 : slF (varF 5) (someO (varF 9)) noO Δ h10 = .ok (.lst ((ls.drop i).map Ln.d)) h10 := by
        rw [← c2, slF_ap, v5, R.bind_ok, someO_ap, v9]; rfl
      have f3 : lstF (consA (varF 10) nilA) Δ h10 = .ok (.lst [b]) h10 := by
        rw [lstF_ap, consA_ap, v10, R.bind_ok, nilA_ap, R.bind_ok, R.bind_ok, mkD_ap, if_pos (by simp [vb])]
      have f4 : bin2 addK (bin2 addK (slF (varF 5) noO (someO (varF 9))) (lstF (consA (varF 10) nilA))) (slF (varF 5) (someO (varF 9)) noO) Δ h10 = .ok (.lst ((ls.take i).map Ln.d ++ b :: (ls.drop i).map Ln.d)) h10 := by
        rw [bin2_ap, bin2_ap, f1, R.bind_ok, f3, R.bind_ok, addK_lst, if_pos l1, R.bind_ok, f2, R.bind_ok, addK_lst, if_pos l2, List.append_assoc]
        rfl
      rw [lf_law_2, callF_ap, consA_ap, v3, R.bind_ok, consA_ap, f4, R.bind_ok, nilA_ap, R.bind_ok, R.bind_ok, R.bind_ok, ← sb]
      rfl
    have b2 : bod_law 2 (pubD [.v (.frz (ns.map D.int)), .v (.int k), .v (.ptr h.length), .v (.int s), .v (.lst ((heads s).map hd)), .v (.lst (ls.map Ln.d)), c6, c7, .v (dueD s (tells s ls fun _ => none)), .v (.int i), .v b, a11, a12, a13, a14]) h10 = .exc "InvalidLines" [("at", .int i)] h10 := by
      rw [bod2]
      exact key _ rfl rfl rfl rfl
    exact heard_step (hear_l b2) rfl tell_eq
  have s12 : ∃ h12, p_law_3b_12 [.v (.frz (ns.map D.int)), .v (.int k), .v (.ptr h.length), .v (.int s), .v (.lst ((heads s).map hd)), .v (.lst (ls.map Ln.d)), c6, c7, .v (dueD s (tells s ls fun _ => none)), .v (.int i), .v b, a11, a12, a13, a14] h10 = .nx [.v (.frz (ns.map D.int)), .v (.int k), .v (.ptr h.length), .v (.int s), .v (.lst ((heads s).map hd)), .v (.lst (ls.map Ln.d)), c6, c7, .v (dueD s (tells s ls fun _ => none)), .v (.int i), .v b, a11, a12, a13, a14] h12 ∧ Bo h h12 := by
    obtain ⟨L, h12, L1, e12, B12⟩ := pick_mem B10 [.non, .int 5, .str "ab"] (by simp) (by simp) (by simp)
    simp only [List.mem_cons, List.not_mem_nil, or_false] at L1
    have ln := lines_none g1 g2 L1 (h := h12)
    have vL : isV L = true := by rcases L1 with rfl | rfl | rfl <;> rfl
    have b3 : bod_law 3 (pubD [.v (.frz (ns.map D.int)), .v (.int k), .v (.ptr h.length), .v (.int s), .v (.lst ((heads s).map hd)), .v (.lst (ls.map Ln.d)), c6, c7, .v (dueD s (tells s ls fun _ => none)), .v (.int i), .v b, a11, a12, a13, a14]) h10 = .exc "InvalidLines" [("at", .int (-1))] h12 := by
      rw [bod3]
      show lf_law_3 [_, _, .v (.ptr h.length), .v (.int s), _, _, _, _, _, _, _, _, _, _, _] h10 = _
      simp [lf_law_3, e12, vL, ln]
    exact ⟨h12, heard_step (hear_l b3) rfl tell_eq, B12⟩
  obtain ⟨h12, s12, B12⟩ := s12
  obtain ⟨tb, h13, e13, t1, t2, B13⟩ := draws2 B12 (m := s) (n := s * s) (by omega) (by omega) (δ := [.v (.frz (ns.map D.int)), .v (.int k), .v (.ptr h.length), .v (.int s), .v (.lst ((heads s).map hd)), .v (.lst (ls.map Ln.d)), c6, c7, .v (dueD s (tells s ls fun _ => none)), .v (.int i), .v b, a11, a12, a13, .no]) (i := 14) (by omega) rfl rfl
  have rc := rgC_nat (n := s * s) (by omega)
  have rd := rgD_nat (s * s)
  rw [Int.natCast_mul] at rc rd
  have s13 : p_law_3b_13 [.v (.frz (ns.map D.int)), .v (.int k), .v (.ptr h.length), .v (.int s), .v (.lst ((heads s).map hd)), .v (.lst (ls.map Ln.d)), c6, c7, .v (dueD s (tells s ls fun _ => none)), .v (.int i), .v b, a11, a12, a13, a14] h12 = .nx [.v (.frz (ns.map D.int)), .v (.int k), .v (.ptr h.length), .v (.int s), .v (.lst ((heads s).map hd)), .v (.lst (ls.map Ln.d)), c6, c7, .v (dueD s (tells s ls fun _ => none)), .v (.int i), .v b, .v (.lst (nsD tb)), a12, a13, a14] h13 := by
    have it : ((consA (bin2 mulA (varF 3) (varF 3)) nilA) [.v (.frz (ns.map D.int)), .v (.int k), .v (.ptr h.length), .v (.int s), .v (.lst ((heads s).map hd)), .v (.lst (ls.map Ln.d)), c6, c7, .v (dueD s (tells s ls fun _ => none)), .v (.int i), .v b, a11, a12, a13, a14] h12).bind rg1K = .ok ((List.range (s * s)).map nD) h12 := by simp [q1, q2, rc, rd]
    have lc : lcN (fun δ h => ((consA (bin2 mulA (varF 3) (varF 3)) nilA) δ h).bind rg1K) [14] (nameU 14) yesF (callF (nArgs 2 F__law_take) (consA (varF 2) (consA (varF 3) nilA))) [.v (.frz (ns.map D.int)), .v (.int k), .v (.ptr h.length), .v (.int s), .v (.lst ((heads s).map hd)), .v (.lst (ls.map Ln.d)), c6, c7, .v (dueD s (tells s ls fun _ => none)), .v (.int i), .v b, a11, a12, a13, a14] h12 = .ok (nsD tb) h13 := by
      rw [lcN_ap]
      show (((consA (bin2 mulA (varF 3) (varF 3)) nilA) [.v (.frz (ns.map D.int)), .v (.int k), .v (.ptr h.length), .v (.int s), .v (.lst ((heads s).map hd)), .v (.lst (ls.map Ln.d)), c6, c7, .v (dueD s (tells s ls fun _ => none)), .v (.int i), .v b, a11, a12, a13, a14] h12).bind rg1K).bind _ = _
      rw [it, R.bind_ok, if_pos (by simp; omega)]
      exact e13
    rw [p_law_3b_13, setS_ap, valN_ap, lc]
    rfl
  have s14 : p_law_3b_14 [.v (.frz (ns.map D.int)), .v (.int k), .v (.ptr h.length), .v (.int s), .v (.lst ((heads s).map hd)), .v (.lst (ls.map Ln.d)), c6, c7, .v (dueD s (tells s ls fun _ => none)), .v (.int i), .v b, .v (.lst (nsD tb)), a12, a13, a14] h13 = .nx [.v (.frz (ns.map D.int)), .v (.int k), .v (.ptr h.length), .v (.int s), .v (.lst ((heads s).map hd)), .v (.lst (ls.map Ln.d)), c6, c7, .v (dueD s (tells s ls fun _ => none)), .v (.int i), .v b, .v (.lst (nsD tb)), a12, a13, a14] h13 := by
    have tok := table_ok g1 g2 t1 t2 (h := h13)
    have sok := size_ok g1 g2 h13
    have t1' : testF (bin2 (eqK true) (callKwF 2 [1, 0] F_need_table (consA (varF 11) (consA (varF 3) nilA))) (blt tupK (consA (varF 11) nilA))) [.v (.frz (ns.map D.int)), .v (.int k), .v (.ptr h.length), .v (.int s), .v (.lst ((heads s).map hd)), .v (.lst (ls.map Ln.d)), c6, c7, .v (dueD s (tells s ls fun _ => none)), .v (.int i), .v b, .v (.lst (nsD tb)), a12, a13, a14] h13 = .ok false h13 := by
      have c1 : callKwF 2 [1, 0] F_need_table (consA (varF 11) (consA (varF 3) nilA)) [.v (.frz (ns.map D.int)), .v (.int k), .v (.ptr h.length), .v (.int s), .v (.lst ((heads s).map hd)), .v (.lst (ls.map Ln.d)), c6, c7, .v (dueD s (tells s ls fun _ => none)), .v (.int i), .v b, .v (.lst (nsD tb)), a12, a13, a14] h13 = .ok (.tup (nsD tb)) h13 := by
        rw [← tok]; rfl
      have c2 : blt tupK (consA (varF 11) nilA) [.v (.frz (ns.map D.int)), .v (.int k), .v (.ptr h.length), .v (.int s), .v (.lst ((heads s).map hd)), .v (.lst (ls.map Ln.d)), c6, c7, .v (dueD s (tells s ls fun _ => none)), .v (.int i), .v b, .v (.lst (nsD tb)), a12, a13, a14] h13 = .ok (.tup (nsD tb)) h13 := by simp
      have pu : D.pures (nsD tb) = true := pures_of fun d hd => by obtain ⟨n, _, rfl⟩ := List.mem_map.mp hd; rfl
      rw [testF_ap, bin2_ap, c1, R.bind_ok, c2, R.bind_ok, eqK_ap, if_pos (by simp [pu])]
      simp [eqs_refl]
    have t2' : testF (bin2 (eqK true) (callKwF 1 [0] F_need_size (consA (varF 3) nilA)) (varF 3)) [.v (.frz (ns.map D.int)), .v (.int k), .v (.ptr h.length), .v (.int s), .v (.lst ((heads s).map hd)), .v (.lst (ls.map Ln.d)), c6, c7, .v (dueD s (tells s ls fun _ => none)), .v (.int i), .v b, .v (.lst (nsD tb)), a12, a13, a14] h13 = .ok false h13 := by
      have c1 : callKwF 1 [0] F_need_size (consA (varF 3) nilA) [.v (.frz (ns.map D.int)), .v (.int k), .v (.ptr h.length), .v (.int s), .v (.lst ((heads s).map hd)), .v (.lst (ls.map Ln.d)), c6, c7, .v (dueD s (tells s ls fun _ => none)), .v (.int i), .v b, .v (.lst (nsD tb)), a12, a13, a14] h13 = .ok (.int s) h13 := by
        rw [← sok]; rfl
      rw [testF_ap, bin2_ap, c1, R.bind_ok]
      simp
    rw [p_law_3b_14, ifS_ap, orT_ap, t1', R.bind_ok, if_neg (by simp), t2', R.toS_ok]
    rfl
  obtain ⟨j, h15, j1, e15, B15⟩ := take_ok B13 (m := s * s) (Nat.mul_pos (by omega) (by omega)) (by omega)
  rw [Int.natCast_mul] at e15
  have s15 : p_law_3b_15 [.v (.frz (ns.map D.int)), .v (.int k), .v (.ptr h.length), .v (.int s), .v (.lst ((heads s).map hd)), .v (.lst (ls.map Ln.d)), c6, c7, .v (dueD s (tells s ls fun _ => none)), .v (.int i), .v b, .v (.lst (nsD tb)), a12, a13, a14] h13 = .nx [.v (.frz (ns.map D.int)), .v (.int k), .v (.ptr h.length), .v (.int s), .v (.lst ((heads s).map hd)), .v (.lst (ls.map Ln.d)), c6, c7, .v (dueD s (tells s ls fun _ => none)), .v (.int j), .v b, .v (.lst (nsD tb)), a12, a13, a14] h15 := by simp [p_law_3b_15, q1, q2, e15]
  obtain ⟨o, h16, o1, e16, B16⟩ := pick_mem B15 [.non, .int s, .int (-1), .bl true, .str "0"] (by simp) (by simp) (by simp)
  have vo : isV o = true ∧ ∀ h, F_is_below [o, .int s] h = .ok (.bl false) h := by
    simp only [List.mem_cons, List.not_mem_nil, or_false] at o1
    rcases o1 with rfl | rfl | rfl | rfl | rfl <;> exact ⟨rfl, fun h => by simp⟩
  have tj : (tb.take j).length = j := by rw [List.length_take]; omega
  have s16 : p_law_3b_16 [.v (.frz (ns.map D.int)), .v (.int k), .v (.ptr h.length), .v (.int s), .v (.lst ((heads s).map hd)), .v (.lst (ls.map Ln.d)), c6, c7, .v (dueD s (tells s ls fun _ => none)), .v (.int j), .v b, .v (.lst (nsD tb)), a12, a13, a14] h15 = .nx [.v (.frz (ns.map D.int)), .v (.int k), .v (.ptr h.length), .v (.int s), .v (.lst ((heads s).map hd)), .v (.lst (ls.map Ln.d)), c6, c7, .v (dueD s (tells s ls fun _ => none)), .v (.int j), .v b, .v (.lst (nsD tb)), .v (.lst (nsD (tb.take j) ++ o :: nsD (tb.drop (j + 1)))), a13, a14] h16 := by
    have c1 : cutD (nsD tb) none (some (j : Int)) = nsD (tb.take j) := by rw [cutD_to (by omega), Int.toNat_natCast]; unfold nsD; rw [List.map_take]
    have c2 : cutD (nsD tb) (some ((j : Int) + 1)) none = nsD (tb.drop (j + 1)) := by
      rw [cutD_from (by omega), show ((j : Int) + 1).toNat = j + 1 by omega]; unfold nsD; rw [List.map_drop]
    have l1 : (nsD (tb.take j)).length + [o].length ≤ 1000000 := by
      rw [nsD_length, List.length_singleton]
      omega
    have l2 : (nsD (tb.take j) ++ [o]).length + (nsD (tb.drop (j + 1))).length ≤ 1000000 := by
      rw [List.length_append, nsD_length, nsD_length, List.length_drop, tj]
      simp
      omega
    have f1 : slF (varF 11) noO (someO (varF 9)) [.v (.frz (ns.map D.int)), .v (.int k), .v (.ptr h.length), .v (.int s), .v (.lst ((heads s).map hd)), .v (.lst (ls.map Ln.d)), c6, c7, .v (dueD s (tells s ls fun _ => none)), .v (.int j), .v b, .v (.lst (nsD tb)), a12, a13, a14] h15 = .ok (.lst (nsD (tb.take j))) h15 := by
      rw [← c1]; rfl
    have f2 : slF (varF 11) (someO (bin2 addK (varF 9) (cF (.int 1)))) noO [.v (.frz (ns.map D.int)), .v (.int k), .v (.ptr h.length), .v (.int s), .v (.lst ((heads s).map hd)), .v (.lst (ls.map Ln.d)), c6, c7, .v (dueD s (tells s ls fun _ => none)), .v (.int j), .v b, .v (.lst (nsD tb)), a12, a13, a14] h16 = .ok (.lst (nsD (tb.drop (j + 1)))) h16 := by
      rw [← c2]; rfl
    have f3 : lstF (consA (callF (nArgs 2 F__law_pick) (consA (varF 2) (consA (lstF (consA (cF .non) (consA (varF 3) (consA (negF (cF (.int 1))) (consA (cF (.bl true)) (consA (cF (.str "0")) nilA)))))) nilA))) nilA) [.v (.frz (ns.map D.int)), .v (.int k), .v (.ptr h.length), .v (.int s), .v (.lst ((heads s).map hd)), .v (.lst (ls.map Ln.d)), c6, c7, .v (dueD s (tells s ls fun _ => none)), .v (.int j), .v b, .v (.lst (nsD tb)), a12, a13, a14] h15 = .ok (.lst [o]) h16 := by
      simp [e16, vo.1]
    have f4 : bin2 addK (bin2 addK (slF (varF 11) noO (someO (varF 9))) (lstF (consA (callF (nArgs 2 F__law_pick) (consA (varF 2) (consA (lstF (consA (cF .non) (consA (varF 3) (consA (negF (cF (.int 1))) (consA (cF (.bl true)) (consA (cF (.str "0")) nilA)))))) nilA))) nilA))) (slF (varF 11) (someO (bin2 addK (varF 9) (cF (.int 1)))) noO) [.v (.frz (ns.map D.int)), .v (.int k), .v (.ptr h.length), .v (.int s), .v (.lst ((heads s).map hd)), .v (.lst (ls.map Ln.d)), c6, c7, .v (dueD s (tells s ls fun _ => none)), .v (.int j), .v b, .v (.lst (nsD tb)), a12, a13, a14] h15 = .ok (.lst (nsD (tb.take j) ++ o :: nsD (tb.drop (j + 1)))) h16 := by
      rw [bin2_ap, bin2_ap, f1, R.bind_ok, f3, R.bind_ok, addK_lst, if_pos l1, R.bind_ok, f2, R.bind_ok, addK_lst, if_pos l2, List.append_assoc]
      rfl
    rw [p_law_3b_16, setS_ap, f4]
    rfl
  have s17 : p_law_3b_17 [.v (.frz (ns.map D.int)), .v (.int k), .v (.ptr h.length), .v (.int s), .v (.lst ((heads s).map hd)), .v (.lst (ls.map Ln.d)), c6, c7, .v (dueD s (tells s ls fun _ => none)), .v (.int j), .v b, .v (.lst (nsD tb)), .v (.lst (nsD (tb.take j) ++ o :: nsD (tb.drop (j + 1)))), a13, a14] h16 = .nx [.v (.frz (ns.map D.int)), .v (.int k), .v (.ptr h.length), .v (.int s), .v (.lst ((heads s).map hd)), .v (.lst (ls.map Ln.d)), c6, c7, .v (dueD s (tells s ls fun _ => none)), .v (.int j), .v b, .v (.lst (nsD tb)), .v (.lst (nsD (tb.take j) ++ o :: nsD (tb.drop (j + 1)))), a13, a14] h16 := by
    have tbad := table_bad g1 g2 (t := tb.take j) (u := tb.drop (j + 1)) (by rw [tj, List.length_drop, t1]; omega) (fun v hv => t2 v (List.mem_of_mem_take hv)) vo.1 (vo.2 h16) (h := h16)
    rw [tj] at tbad
    have b4 : bod_law 4 (pubD [.v (.frz (ns.map D.int)), .v (.int k), .v (.ptr h.length), .v (.int s), .v (.lst ((heads s).map hd)), .v (.lst (ls.map Ln.d)), c6, c7, .v (dueD s (tells s ls fun _ => none)), .v (.int j), .v b, .v (.lst (nsD tb)), .v (.lst (nsD (tb.take j) ++ o :: nsD (tb.drop (j + 1)))), a13, a14]) h16 = .exc "InvalidTable" [("at", .int j)] h16 := by
      rw [bod4]
      show lf_law_4 [_, _, _, .v (.int s), _, _, _, _, _, _, _, _, .v (.lst (nsD (tb.take j) ++ o :: nsD (tb.drop (j + 1)))), _, _] h16 = _
      rw [← tbad]
      rfl
    exact heard_step (hear_t b4) rfl tell_eq
  have s18 : ∃ h18, p_law_3b_18 [.v (.frz (ns.map D.int)), .v (.int k), .v (.ptr h.length), .v (.int s), .v (.lst ((heads s).map hd)), .v (.lst (ls.map Ln.d)), c6, c7, .v (dueD s (tells s ls fun _ => none)), .v (.int j), .v b, .v (.lst (nsD tb)), .v (.lst (nsD (tb.take j) ++ o :: nsD (tb.drop (j + 1)))), a13, a14] h16 = .nx [.v (.frz (ns.map D.int)), .v (.int k), .v (.ptr h.length), .v (.int s), .v (.lst ((heads s).map hd)), .v (.lst (ls.map Ln.d)), c6, c7, .v (dueD s (tells s ls fun _ => none)), .v (.int j), .v b, .v (.lst (nsD tb)), .v (.lst (nsD (tb.take j) ++ o :: nsD (tb.drop (j + 1)))), a13, a14] h18 ∧ Bo h h18 := by
    obtain ⟨L, h18, L1, e18, B18⟩ := pick_mem B16 [.non, .lst (nsD (tb.drop 1)), .int 3] (by simp) (by simp) (by simp)
    have L2 : L = .non ∨ L = .int 3 ∨ ∃ t : List Nat, L = .lst (nsD t) ∧ t.length ≠ s * s := by
      simp only [List.mem_cons, List.not_mem_nil, or_false] at L1
      rcases L1 with rfl | rfl | rfl
      · exact .inl rfl
      · have : 0 < s * s := Nat.mul_pos (by omega) (by omega)
        exact .inr (.inr ⟨_, rfl, by rw [List.length_drop, t1]; omega⟩)
      · exact .inr (.inl rfl)
    have tn := table_none g1 g2 L2 (h := h18)
    have vL : isV L = true := by rcases L2 with rfl | rfl | ⟨t, rfl, _⟩ <;> rfl
    have c1 : (nsD tb).drop 1 = nsD (tb.drop 1) := by unfold nsD; rw [List.map_drop]
    have b5 : bod_law 5 (pubD [.v (.frz (ns.map D.int)), .v (.int k), .v (.ptr h.length), .v (.int s), .v (.lst ((heads s).map hd)), .v (.lst (ls.map Ln.d)), c6, c7, .v (dueD s (tells s ls fun _ => none)), .v (.int j), .v b, .v (.lst (nsD tb)), .v (.lst (nsD (tb.take j) ++ o :: nsD (tb.drop (j + 1)))), a13, a14]) h16 = .exc "InvalidTable" [("at", .int (-1))] h18 := by
      rw [bod5]
      show lf_law_5 [_, _, .v (.ptr h.length), .v (.int s), _, _, _, _, _, _, _, .v (.lst (nsD tb)), _, _, _] h16 = _
      simp only [List.drop_one] at e18 c1
      simp [lf_law_5, e18, vL, tn, c1]
    exact ⟨h18, heard_step (hear_t b5) rfl tell_eq, B18⟩
  obtain ⟨h18, s18, B18⟩ := s18
  obtain ⟨wr, h19, w1, e19, B19⟩ := pick_mem B18 badS (by simp [badS]) (by simp [badS]) (by simp [badS])
  obtain ⟨vw, w2, w3, w4⟩ := size_bad (h := h19) w1
  have s19 : p_law_3b_19 [.v (.frz (ns.map D.int)), .v (.int k), .v (.ptr h.length), .v (.int s), .v (.lst ((heads s).map hd)), .v (.lst (ls.map Ln.d)), c6, c7, .v (dueD s (tells s ls fun _ => none)), .v (.int j), .v b, .v (.lst (nsD tb)), .v (.lst (nsD (tb.take j) ++ o :: nsD (tb.drop (j + 1)))), a13, a14] h18 = .nx [.v (.frz (ns.map D.int)), .v (.int k), .v (.ptr h.length), .v (.int s), .v (.lst ((heads s).map hd)), .v (.lst (ls.map Ln.d)), c6, c7, .v (dueD s (tells s ls fun _ => none)), .v (.int j), .v b, .v (.lst (nsD tb)), .v (.lst (nsD (tb.take j) ++ o :: nsD (tb.drop (j + 1)))), .v wr, a14] h19 := by
    unfold badS at e19
    simp [p_law_3b_19, e19, vw]
  have s20 : p_law_3b_20 [.v (.frz (ns.map D.int)), .v (.int k), .v (.ptr h.length), .v (.int s), .v (.lst ((heads s).map hd)), .v (.lst (ls.map Ln.d)), c6, c7, .v (dueD s (tells s ls fun _ => none)), .v (.int j), .v b, .v (.lst (nsD tb)), .v (.lst (nsD (tb.take j) ++ o :: nsD (tb.drop (j + 1)))), .v wr, a14] h19 = .nx [.v (.frz (ns.map D.int)), .v (.int k), .v (.ptr h.length), .v (.int s), .v (.lst ((heads s).map hd)), .v (.lst (ls.map Ln.d)), c6, c7, .v (dueD s (tells s ls fun _ => none)), .v (.int j), .v b, .v (.lst (nsD tb)), .v (.lst (nsD (tb.take j) ++ o :: nsD (tb.drop (j + 1)))), .v wr, a14] h19 := by
    have b6 : bod_law 6 (pubD [.v (.frz (ns.map D.int)), .v (.int k), .v (.ptr h.length), .v (.int s), .v (.lst ((heads s).map hd)), .v (.lst (ls.map Ln.d)), c6, c7, .v (dueD s (tells s ls fun _ => none)), .v (.int j), .v b, .v (.lst (nsD tb)), .v (.lst (nsD (tb.take j) ++ o :: nsD (tb.drop (j + 1)))), .v wr, a14]) h19 = .exc "InvalidSize" [("word", .str "size")] h19 := by
      rw [bod6]
      show lf_law_6 [_, _, _, _, _, _, _, _, _, _, _, _, _, .v wr, _] h19 = _
      simp [lf_law_6, vw, w2]
    exact heard_step (hear_s b6) rfl tell_eqs
  have s21 : p_law_3b_21 [.v (.frz (ns.map D.int)), .v (.int k), .v (.ptr h.length), .v (.int s), .v (.lst ((heads s).map hd)), .v (.lst (ls.map Ln.d)), c6, c7, .v (dueD s (tells s ls fun _ => none)), .v (.int j), .v b, .v (.lst (nsD tb)), .v (.lst (nsD (tb.take j) ++ o :: nsD (tb.drop (j + 1)))), .v wr, a14] h19 = .nx [.v (.frz (ns.map D.int)), .v (.int k), .v (.ptr h.length), .v (.int s), .v (.lst ((heads s).map hd)), .v (.lst (ls.map Ln.d)), c6, c7, .v (dueD s (tells s ls fun _ => none)), .v (.int j), .v b, .v (.lst (nsD tb)), .v (.lst (nsD (tb.take j) ++ o :: nsD (tb.drop (j + 1)))), .v wr, a14] h19 := by
    have b7 : bod_law 7 (pubD [.v (.frz (ns.map D.int)), .v (.int k), .v (.ptr h.length), .v (.int s), .v (.lst ((heads s).map hd)), .v (.lst (ls.map Ln.d)), c6, c7, .v (dueD s (tells s ls fun _ => none)), .v (.int j), .v b, .v (.lst (nsD tb)), .v (.lst (nsD (tb.take j) ++ o :: nsD (tb.drop (j + 1)))), .v wr, a14]) h19 = .exc "InvalidSize" [("word", .str "size")] h19 := by
      rw [bod7]
      show lf_law_7 [_, _, _, _, _, _, _, _, _, _, _, _, _, .v wr, _] h19 = _
      simp [lf_law_7, vw, w3]
    exact heard_step (hear_s b7) rfl tell_eqs
  have s22 : p_law_3b_22 [.v (.frz (ns.map D.int)), .v (.int k), .v (.ptr h.length), .v (.int s), .v (.lst ((heads s).map hd)), .v (.lst (ls.map Ln.d)), c6, c7, .v (dueD s (tells s ls fun _ => none)), .v (.int j), .v b, .v (.lst (nsD tb)), .v (.lst (nsD (tb.take j) ++ o :: nsD (tb.drop (j + 1)))), .v wr, a14] h19 = .nx [.v (.frz (ns.map D.int)), .v (.int k), .v (.ptr h.length), .v (.int s), .v (.lst ((heads s).map hd)), .v (.lst (ls.map Ln.d)), c6, c7, .v (dueD s (tells s ls fun _ => none)), .v (.int j), .v b, .v (.lst (nsD tb)), .v (.lst (nsD (tb.take j) ++ o :: nsD (tb.drop (j + 1)))), .v wr, a14] h19 := by
    have b8 : bod_law 8 (pubD [.v (.frz (ns.map D.int)), .v (.int k), .v (.ptr h.length), .v (.int s), .v (.lst ((heads s).map hd)), .v (.lst (ls.map Ln.d)), c6, c7, .v (dueD s (tells s ls fun _ => none)), .v (.int j), .v b, .v (.lst (nsD tb)), .v (.lst (nsD (tb.take j) ++ o :: nsD (tb.drop (j + 1)))), .v wr, a14]) h19 = .exc "InvalidSize" [("word", .str "size")] h19 := by
      rw [bod8]
      show lf_law_8 [_, _, _, _, _, _, _, _, _, _, _, _, _, .v wr, _] h19 = _
      simp [lf_law_8, vw, w4]
    exact heard_step (hear_s b8) rfl tell_eqs
  refine ⟨.v (.ptr h.length), .v (.int s), .v (.lst ((heads s).map hd)), .v (.lst (ls.map Ln.d)), c6, c7, .v (dueD s (tells s ls fun _ => none)), .v (.int j), .v b, .v (.lst (nsD tb)), .v (.lst (nsD (tb.take j) ++ o :: nsD (tb.drop (j + 1)))), .v wr, a14, h19, ?_⟩
  rw [p_law_3b, seq_nx s1, seq_nx s2, seq_nx s3, seq_nx s4, seq_nx s5, seq_nx s6, seq_nx s7, seq_nx s8, seq_nx s9, seq_nx s10, seq_nx s11, seq_nx s12, seq_nx s13, seq_nx s14, seq_nx s15, seq_nx s16, seq_nx s17, seq_nx s18, seq_nx s19, seq_nx s20, seq_nx s21, s22]
end LP
/-! K01n: the law. -/
namespace LP
open PySem PySem.Spec PyProof.Rows L2 HT
def ex1 : List Ln := [⟨false, none, none, .int 0⟩, ⟨false, some 1, none, .int 1⟩, ⟨true, none, some 0, .tup [.int 3, .int 4]⟩]
theorem ex1_ok : ∀ x ∈ ex1, x.ok 2 := fun x hx => by
  unfold ex1 at hx
  simp only [List.mem_cons, List.not_mem_nil, or_false] at hx
  rcases hx with rfl | rfl | rfl
  · exact ⟨fun n e => (by cases e), fun n e => (by cases e), .n 0 (by decide)⟩
  · exact ⟨fun n e => (by cases e; decide), fun n e => (by cases e), .n 1 (by decide)⟩
  · exact ⟨fun n e => (by cases e), fun n e => (by cases e; decide), .t [3, 4] (by decide) (by decide)⟩
def ex2 : List Ln := [⟨false, some 0, none, .int 0⟩]
theorem ex2_ok : ∀ x ∈ ex2, x.ok 2 := fun x hx => by
  unfold ex2 at hx
  simp only [List.mem_cons, List.not_mem_nil, or_false] at hx
  subst hx
  exact ⟨fun n e => (by cases e; decide), fun n e => (by cases e), .n 0 (by decide)⟩
theorem law_ok (ns : List Int) (hn : ns.length ≤ 63) (hb : ∀ z ∈ ns, PySem.Builtin.Int.intBits z ≤ 1048576) : ∃ h, runF N_law.length sf_law [.frz (ns.map D.int)] [] = .ok (.bl true) h := by
  have loop : ∀ (ks : List Nat), (∀ k ∈ ks, k ≤ 3) → ∀ (h : Bx) (a1 a2 a3 a4 a5 a6 a7 a8 a9 a10 a11 a12 a13 a14 : SV), ∃ δ h', forF (nameU 1) p_law_3b (ks.map fun k => D.int (k : Nat)) [.v (.frz (ns.map D.int)), a1, a2, a3, a4, a5, a6, a7, a8, a9, a10, a11, a12, a13, a14] h = .nx δ h' := fun ks => by
    induction ks with
    | nil => exact fun _ h _ _ _ _ _ _ _ _ _ _ _ _ _ _ => ⟨_, h, rfl⟩
    | cons k ks ih =>
      intro hk h a1 a2 a3 a4 a5 a6 a7 a8 a9 a10 a11 a12 a13 a14
      obtain ⟨b2, b3, b4, b5, b6, b7, b8, b9, b10, b11, b12, b13, b14, h1, e⟩ := turn_k hn (hk k (List.mem_cons_self ..)) h a2 a3 a4 a5 a6 a7 a8 a9 a10 a11 a12 a13 a14
      obtain ⟨δ, h', e2⟩ := ih (fun i hi => hk i (List.mem_cons_of_mem _ hi)) h1 (.v (.int k)) b2 b3 b4 b5 b6 b7 b8 b9 b10 b11 b12 b13 b14
      refine ⟨δ, h', ?_⟩
      rw [List.map_cons, forF_nx (δ1 := [.v (.frz (ns.map D.int)), .v (.int k), a2, a3, a4, a5, a6, a7, a8, a9, a10, a11, a12, a13, a14]) rfl e, e2]
  have rg3 : rgD 0 3 = [0, 1, 2].map fun k : Nat => D.int (k : Nat) := rfl
  have rgc : rgC 3 = true := by decide
  obtain ⟨δ, h', e⟩ := loop [0, 1, 2] (by simp) [] .no .no .no .no .no .no .no .no .no .no .no .no .no .no
  refine ⟨h', ?_⟩
  rw [← rg3] at e
  have q1 := sheet_ok (s := 2) (by decide) (by decide) ex1_ok (by decide) (L := .lst (ex1.map Ln.d)) (.inl rfl) []
  have q1 : F_lines_sheet [.int 2, .lst (ex1.map Ln.d)] [] = .ok (.tup [.tup [.int 3, .int 4], .int 0, .tup [.int 3, .int 4], .int 1]) [] := q1
  have q2 := sheet_ok (s := 2) (by decide) (by decide) ex2_ok (by decide) (L := .lst (ex2.map Ln.d)) (.inl rfl) []
  have q2 : F_lines_sheet [.int 2, .lst (ex2.map Ln.d)] [] = .exc "Refused" [("at", .int 2)] [] := q2
  have s1 : p_law_1 (startD N_law.length [.frz (ns.map D.int)]) [] = .nx [.v (.frz (ns.map D.int)), .no, .no, .no, .no, .no, .no, .no, .no, .no, .no, .no, .no, .no, .no] [] := by
    simp [ex1, Ln.d, Ln.ds, hd] at q1
    simp [p_law_1, startD, q1]
  have s2 : p_law_2 [.v (.frz (ns.map D.int)), .no, .no, .no, .no, .no, .no, .no, .no, .no, .no, .no, .no, .no, .no] [] = .nx [.v (.frz (ns.map D.int)), .no, .no, .no, .no, .no, .no, .no, .no, .no, .no, .no, .no, .no, .no] [] := by
    have b0 : bod_law 0 (pubD [.v (.frz (ns.map D.int)), .no, .no, .no, .no, .no, .no, .no, .no, .no, .no, .no, .no, .no, .no]) [] = .exc "Refused" [("at", .int 2)] [] := by
      rw [bod0, ← q2]
      rfl
    exact heard_step (hear_r b0) rfl tell_eq
  have s3 : p_law_3 [.v (.frz (ns.map D.int)), .no, .no, .no, .no, .no, .no, .no, .no, .no, .no, .no, .no, .no, .no] [] = .nx δ h' := by
    rw [p_law_3, forS_ap]
    have s : ((consA (cF (.int 3)) nilA) [.v (.frz (ns.map D.int)), .no, .no, .no, .no, .no, .no, .no, .no, .no, .no, .no, .no, .no, .no] []).bind rg1K = .ok (rgD 0 3) [] := by simp [rgc]
    show (((consA (cF (.int 3)) nilA) [.v (.frz (ns.map D.int)), .no, .no, .no, .no, .no, .no, .no, .no, .no, .no, .no, .no, .no, .no] []).bind rg1K).toS _ _ = _
    rw [s]
    exact e
  rw [runF_ap, show sf_law = p_law from rfl, p_law, seq_nx s1, seq_nx s2, seq_nx s3]
  rfl
end LP
namespace LP
open PySem PySem.Spec PyProof.Rows L2 HT
theorem all_mk {w : World} {K : PySem.W.Frag} {h : Heap} {mg : Str → Option Value} {fa : Addr} (X : K.In h) (G : h.Ns mainGlobals mg) (hfa : mg "law" = some (.ref fa))
    {a0 : Addr} {od0 an0 : Option Addr} {sl0 : Array (Option Value)} {oc0 kV0 dc0 pm0 cd0 ct0 : Value}
    {a1 : Addr} {od1 an1 : Option Addr} {sl1 : Array (Option Value)} {oc1 kV1 dc1 pm1 cd1 ct1 : Value}
    {a2 : Addr} {od2 an2 : Option Addr} {sl2 : Array (Option Value)} {oc2 kV2 dc2 pm2 cd2 ct2 : Value}
    {a3 : Addr} {od3 an3 : Option Addr} {sl3 : Array (Option Value)} {oc3 kV3 dc3 pm3 cd3 ct3 : Value}
    {a4 : Addr} {od4 an4 : Option Addr} {sl4 : Array (Option Value)} {oc4 kV4 dc4 pm4 cd4 ct4 : Value}
    {a5 : Addr} {od5 an5 : Option Addr} {sl5 : Array (Option Value)} {oc5 kV5 dc5 pm5 cd5 ct5 : Value}
    {a6 : Addr} {od6 an6 : Option Addr} {sl6 : Array (Option Value)} {oc6 kV6 dc6 pm6 cd6 ct6 : Value}
    {a7 : Addr} {od7 an7 : Option Addr} {sl7 : Array (Option Value)} {oc7 kV7 dc7 pm7 cd7 ct7 : Value}
    {a8 : Addr} {od8 an8 : Option Addr} {sl8 : Array (Option Value)} {oc8 kV8 dc8 pm8 cd8 ct8 : Value}
    {a9 : Addr} {od9 an9 : Option Addr} {sl9 : Array (Option Value)} {oc9 kV9 dc9 pm9 cd9 ct9 : Value}
    {a10 : Addr} {od10 an10 : Option Addr} {sl10 : Array (Option Value)} {oc10 kV10 dc10 pm10 cd10 ct10 : Value}
    {a11 : Addr} {od11 an11 : Option Addr} {sl11 : Array (Option Value)} {oc11 kV11 dc11 pm11 cd11 ct11 : Value}
    {a12 : Addr} {od12 an12 : Option Addr} {sl12 : Array (Option Value)} {oc12 kV12 dc12 pm12 cd12 ct12 : Value}
    {a13 : Addr} {od13 an13 : Option Addr} {sl13 : Array (Option Value)} {oc13 kV13 dc13 pm13 cd13 ct13 : Value}
    {a14 : Addr} {od14 an14 : Option Addr} {sl14 : Array (Option Value)} {oc14 kV14 dc14 pm14 cd14 ct14 : Value}
    {a15 : Addr} {od15 an15 : Option Addr} {sl15 : Array (Option Value)} {oc15 kV15 dc15 pm15 cd15 ct15 : Value}
    {a16 : Addr} {od16 an16 : Option Addr} {sl16 : Array (Option Value)} {oc16 kV16 dc16 pm16 cd16 ct16 : Value}
    {a17 : Addr} {od17 an17 : Option Addr} {sl17 : Array (Option Value)} {oc17 kV17 dc17 pm17 ct17 : Value} {cb17 : Addr}
    {ob17 : Option Addr} {vb17 : Array Value} {sb17 : Array (Option Value)} {P17 : Addr}
    {k_MOST_VALUES : Tok}
    {C_InvalidTable : Addr}
    {C_InvalidLines : Addr}
    {C_Refused : Addr}
    {C_InvalidSize : Addr}
    {nm_InvalidTable xq_InvalidTable : Str} {N_InvalidTable : Addr} {bs_InvalidTable bm_InvalidTable : List Value} {sn_InvalidTable : List Str} {su_InvalidTable : List Value} {ab_InvalidTable : Bool} {co_InvalidTable : Option Bool} {dd_InvalidTable : Option Addr} {k0_InvalidTable k1_InvalidTable k2_InvalidTable k3_InvalidTable k5_InvalidTable : Option Value}
    {f_InvalidTable : Addr} {oc_InvalidTable dV_InvalidTable kV_InvalidTable do_InvalidTable pm_InvalidTable ct_InvalidTable : Value} {od_InvalidTable an_InvalidTable : Option Addr} {os_InvalidTable : Array (Option Value)} {cc_InvalidTable cda_InvalidTable : Addr} {ccl_InvalidTable cl_InvalidTable : Value} {cdd_InvalidTable cld_InvalidTable : Option Addr} {ccs_InvalidTable csl_InvalidTable : Array (Option Value)} {vs_InvalidTable : Array Value} {fi_InvalidTable : Str} {tf_InvalidTable : Tok}
    {nm_InvalidLines xq_InvalidLines : Str} {N_InvalidLines : Addr} {bs_InvalidLines bm_InvalidLines : List Value} {sn_InvalidLines : List Str} {su_InvalidLines : List Value} {ab_InvalidLines : Bool} {co_InvalidLines : Option Bool} {dd_InvalidLines : Option Addr} {k0_InvalidLines k1_InvalidLines k2_InvalidLines k3_InvalidLines k5_InvalidLines : Option Value}
    {f_InvalidLines : Addr} {oc_InvalidLines dV_InvalidLines kV_InvalidLines do_InvalidLines pm_InvalidLines ct_InvalidLines : Value} {od_InvalidLines an_InvalidLines : Option Addr} {os_InvalidLines : Array (Option Value)} {cc_InvalidLines cda_InvalidLines : Addr} {ccl_InvalidLines cl_InvalidLines : Value} {cdd_InvalidLines cld_InvalidLines : Option Addr} {ccs_InvalidLines csl_InvalidLines : Array (Option Value)} {vs_InvalidLines : Array Value} {fi_InvalidLines : Str} {tf_InvalidLines : Tok}
    {nm_Refused xq_Refused : Str} {N_Refused : Addr} {bs_Refused bm_Refused : List Value} {sn_Refused : List Str} {su_Refused : List Value} {ab_Refused : Bool} {co_Refused : Option Bool} {dd_Refused : Option Addr} {k0_Refused k1_Refused k2_Refused k3_Refused k5_Refused : Option Value}
    {f_Refused : Addr} {oc_Refused dV_Refused kV_Refused do_Refused pm_Refused ct_Refused : Value} {od_Refused an_Refused : Option Addr} {os_Refused : Array (Option Value)} {cc_Refused cda_Refused : Addr} {ccl_Refused cl_Refused : Value} {cdd_Refused cld_Refused : Option Addr} {ccs_Refused csl_Refused : Array (Option Value)} {vs_Refused : Array Value} {fi_Refused : Str} {tf_Refused : Tok}
    {nm_InvalidSize xq_InvalidSize : Str} {N_InvalidSize : Addr} {bs_InvalidSize bm_InvalidSize : List Value} {sn_InvalidSize : List Str} {su_InvalidSize : List Value} {ab_InvalidSize : Bool} {co_InvalidSize : Option Bool} {dd_InvalidSize : Option Addr} {k0_InvalidSize k1_InvalidSize k2_InvalidSize k3_InvalidSize k5_InvalidSize : Option Value}
    {f_InvalidSize : Addr} {oc_InvalidSize dV_InvalidSize kV_InvalidSize do_InvalidSize pm_InvalidSize ct_InvalidSize : Value} {od_InvalidSize an_InvalidSize : Option Addr} {os_InvalidSize : Array (Option Value)} {cc_InvalidSize cda_InvalidSize : Addr} {ccl_InvalidSize cl_InvalidSize : Value} {cdd_InvalidSize cld_InvalidSize : Option Addr} {ccs_InvalidSize csl_InvalidSize : Array (Option Value)} {vs_InvalidSize : Array Value} {fi_InvalidSize : Str} {tf_InvalidSize : Tok}
    {Cb : Addr}
    (ha0 : PySem.W.nsIn K mainGlobals "is_integer" = some (some (.ref a0))) (hl0 : K.lookup a0 = some ⟨oc0, od0, .func (PySem.W.fnOf "is_integer" "is_integer" (defArgs s_is_integer) (defBody s_is_integer) (defScope s_is_integer) .none kV0 dc0 pm0 an0 cd0 ct0), sl0⟩) (hc0 : PySem.W.codeIn K cd0 "is_integer" = true) (hk0 : PySem.W.keepIn K (.ref a0) = true)
    (ha1 : PySem.W.nsIn K mainGlobals "is_number" = some (some (.ref a1))) (hl1 : K.lookup a1 = some ⟨oc1, od1, .func (PySem.W.fnOf "is_number" "is_number" (defArgs s_is_number) (defBody s_is_number) (defScope s_is_number) .none kV1 dc1 pm1 an1 cd1 ct1), sl1⟩) (hc1 : PySem.W.codeIn K cd1 "is_number" = true) (hk1 : PySem.W.keepIn K (.ref a1) = true)
    (ha2 : PySem.W.nsIn K mainGlobals "is_below" = some (some (.ref a2))) (hl2 : K.lookup a2 = some ⟨oc2, od2, .func (PySem.W.fnOf "is_below" "is_below" (defArgs s_is_below) (defBody s_is_below) (defScope s_is_below) .none kV2 dc2 pm2 an2 cd2 ct2), sl2⟩) (hc2 : PySem.W.codeIn K cd2 "is_below" = true) (hk2 : PySem.W.keepIn K (.ref a2) = true)
    (ha3 : PySem.W.nsIn K mainGlobals "is_sequence" = some (some (.ref a3))) (hl3 : K.lookup a3 = some ⟨oc3, od3, .func (PySem.W.fnOf "is_sequence" "is_sequence" (defArgs s_is_sequence) (defBody s_is_sequence) (defScope s_is_sequence) .none kV3 dc3 pm3 an3 cd3 ct3), sl3⟩) (hc3 : PySem.W.codeIn K cd3 "is_sequence" = true) (hk3 : PySem.W.keepIn K (.ref a3) = true)
    (ha4 : PySem.W.nsIn K mainGlobals "need_size" = some (some (.ref a4))) (hl4 : K.lookup a4 = some ⟨oc4, od4, .func (PySem.W.fnOf "need_size" "need_size" (defArgs s_need_size) (defBody s_need_size) (defScope s_need_size) .none kV4 dc4 pm4 an4 cd4 ct4), sl4⟩) (hc4 : PySem.W.codeIn K cd4 "need_size" = true) (hk4 : PySem.W.keepIn K (.ref a4) = true)
    (ha5 : PySem.W.nsIn K mainGlobals "need_table" = some (some (.ref a5))) (hl5 : K.lookup a5 = some ⟨oc5, od5, .func (PySem.W.fnOf "need_table" "need_table" (defArgs s_need_table) (defBody s_need_table) (defScope s_need_table) .none kV5 dc5 pm5 an5 cd5 ct5), sl5⟩) (hc5 : PySem.W.codeIn K cd5 "need_table" = true) (hk5 : PySem.W.keepIn K (.ref a5) = true)
    (ha6 : PySem.W.nsIn K mainGlobals "is_thing" = some (some (.ref a6))) (hl6 : K.lookup a6 = some ⟨oc6, od6, .func (PySem.W.fnOf "is_thing" "is_thing" (defArgs s_is_thing) (defBody s_is_thing) (defScope s_is_thing) .none kV6 dc6 pm6 an6 cd6 ct6), sl6⟩) (hc6 : PySem.W.codeIn K cd6 "is_thing" = true) (hk6 : PySem.W.keepIn K (.ref a6) = true)
    (ha7 : PySem.W.nsIn K mainGlobals "one_thing" = some (some (.ref a7))) (hl7 : K.lookup a7 = some ⟨oc7, od7, .func (PySem.W.fnOf "one_thing" "one_thing" (defArgs s_one_thing) (defBody s_one_thing) (defScope s_one_thing) .none kV7 dc7 pm7 an7 cd7 ct7), sl7⟩) (hc7 : PySem.W.codeIn K cd7 "one_thing" = true) (hk7 : PySem.W.keepIn K (.ref a7) = true)
    (ha8 : PySem.W.nsIn K mainGlobals "met_cells" = some (some (.ref a8))) (hl8 : K.lookup a8 = some ⟨oc8, od8, .func (PySem.W.fnOf "met_cells" "met_cells" (defArgs s_met_cells) (defBody s_met_cells) (defScope s_met_cells) .none kV8 dc8 pm8 an8 cd8 ct8), sl8⟩) (hc8 : PySem.W.codeIn K cd8 "met_cells" = true) (hk8 : PySem.W.keepIn K (.ref a8) = true)
    (ha9 : PySem.W.nsIn K mainGlobals "is_line" = some (some (.ref a9))) (hl9 : K.lookup a9 = some ⟨oc9, od9, .func (PySem.W.fnOf "is_line" "is_line" (defArgs s_is_line) (defBody s_is_line) (defScope s_is_line) .none kV9 dc9 pm9 an9 cd9 ct9), sl9⟩) (hc9 : PySem.W.codeIn K cd9 "is_line" = true) (hk9 : PySem.W.keepIn K (.ref a9) = true)
    (ha10 : PySem.W.nsIn K mainGlobals "lines_sheet" = some (some (.ref a10))) (hl10 : K.lookup a10 = some ⟨oc10, od10, .func (PySem.W.fnOf "lines_sheet" "lines_sheet" (defArgs s_lines_sheet) (defBody s_lines_sheet) (defScope s_lines_sheet) .none kV10 dc10 pm10 an10 cd10 ct10), sl10⟩) (hc10 : PySem.W.codeIn K cd10 "lines_sheet" = true) (hk10 : PySem.W.keepIn K (.ref a10) = true)
    (ha11 : PySem.W.nsIn K mainGlobals "_law_box" = some (some (.ref a11))) (hl11 : K.lookup a11 = some ⟨oc11, od11, .func (PySem.W.fnOf "_law_box" "_law_box" (defArgs s__law_box) (defBody s__law_box) (defScope s__law_box) .none kV11 dc11 pm11 an11 cd11 ct11), sl11⟩) (hc11 : PySem.W.codeIn K cd11 "_law_box" = true) (hk11 : PySem.W.keepIn K (.ref a11) = true)
    (ha12 : PySem.W.nsIn K mainGlobals "_law_take" = some (some (.ref a12))) (hl12 : K.lookup a12 = some ⟨oc12, od12, .func (PySem.W.fnOf "_law_take" "_law_take" (defArgs s__law_take) (defBody s__law_take) (defScope s__law_take) .none kV12 dc12 pm12 an12 cd12 ct12), sl12⟩) (hc12 : PySem.W.codeIn K cd12 "_law_take" = true) (hk12 : PySem.W.keepIn K (.ref a12) = true)
    (ha13 : PySem.W.nsIn K mainGlobals "_law_pick" = some (some (.ref a13))) (hl13 : K.lookup a13 = some ⟨oc13, od13, .func (PySem.W.fnOf "_law_pick" "_law_pick" (defArgs s__law_pick) (defBody s__law_pick) (defScope s__law_pick) .none kV13 dc13 pm13 an13 cd13 ct13), sl13⟩) (hc13 : PySem.W.codeIn K cd13 "_law_pick" = true) (hk13 : PySem.W.keepIn K (.ref a13) = true)
    (ha14 : PySem.W.nsIn K mainGlobals "_law_thing" = some (some (.ref a14))) (hl14 : K.lookup a14 = some ⟨oc14, od14, .func (PySem.W.fnOf "_law_thing" "_law_thing" (defArgs s__law_thing) (defBody s__law_thing) (defScope s__law_thing) .none kV14 dc14 pm14 an14 cd14 ct14), sl14⟩) (hc14 : PySem.W.codeIn K cd14 "_law_thing" = true) (hk14 : PySem.W.keepIn K (.ref a14) = true)
    (ha15 : PySem.W.nsIn K mainGlobals "_law_due" = some (some (.ref a15))) (hl15 : K.lookup a15 = some ⟨oc15, od15, .func (PySem.W.fnOf "_law_due" "_law_due" (defArgs s__law_due) (defBody s__law_due) (defScope s__law_due) .none kV15 dc15 pm15 an15 cd15 ct15), sl15⟩) (hc15 : PySem.W.codeIn K cd15 "_law_due" = true) (hk15 : PySem.W.keepIn K (.ref a15) = true)
    (ha16 : PySem.W.nsIn K mainGlobals "_law_told" = some (some (.ref a16))) (hl16 : K.lookup a16 = some ⟨oc16, od16, .func (PySem.W.fnOf "_law_told" "_law_told" (defArgs s__law_told) (defBody s__law_told) (defScope s__law_told) .none kV16 dc16 pm16 an16 cd16 ct16), sl16⟩) (hc16 : PySem.W.codeIn K cd16 "_law_told" = true) (hk16 : PySem.W.keepIn K (.ref a16) = true)
    (ha17 : PySem.W.nsIn K mainGlobals "law" = some (some (.ref a17))) (hl17 : K.lookup a17 = some ⟨oc17, od17, .func (PySem.W.fnOf "law" "law" (defArgs s_law) (defBody s_law) (defScope s_law) .none kV17 dc17 pm17 an17 (.ref cb17) ct17), sl17⟩) (hc17 : PySem.W.codeIn K (.ref cb17) "law" = true) (hk17 : PySem.W.keepIn K (.ref a17) = true)
    (hq17 : K.lookup cb17 = some ⟨.type "code", ob17, .fields vb17, sb17⟩) (hv17 : (vb17[11]? : Option Value) = some (.ref P17)) (he17 : PySem.W.codeHdIn K cb17 P17 = true) (hn17 : K.lookup P17 = none) (ht17 : h.get? P17 = some (PySem.W.tabObj #[]))
    (hu17 : ∀ p ∈ ([(P17, qn_law)] : List (Addr × Str)), p.1 = P17 → p.2 = qn_law)
    (hz0 : PySem.W.nsIn K mainGlobals "abs" = some none)
    (hz1 : PySem.W.nsIn K mainGlobals "all" = some none)
    (hz2 : PySem.W.nsIn K mainGlobals "bool" = some none)
    (hz3 : PySem.W.nsIn K mainGlobals "enumerate" = some none)
    (hz4 : PySem.W.nsIn K mainGlobals "int" = some none)
    (hz5 : PySem.W.nsIn K mainGlobals "isinstance" = some none)
    (hz6 : PySem.W.nsIn K mainGlobals "len" = some none)
    (hz7 : PySem.W.nsIn K mainGlobals "list" = some none)
    (hz8 : PySem.W.nsIn K mainGlobals "range" = some none)
    (hz9 : PySem.W.nsIn K mainGlobals "repr" = some none)
    (hz10 : PySem.W.nsIn K mainGlobals "super" = some none)
    (hz11 : PySem.W.nsIn K mainGlobals "tuple" = some none)
    (hi_MOST_VALUES : PySem.W.nsIn K mainGlobals "MOST_VALUES" = some (some (.int 3 k_MOST_VALUES)))
    (hx_InvalidTable : PySem.W.nsIn K mainGlobals "InvalidTable" = some (some (.ref C_InvalidTable)))
    (hx_InvalidLines : PySem.W.nsIn K mainGlobals "InvalidLines" = some (some (.ref C_InvalidLines)))
    (hx_Refused : PySem.W.nsIn K mainGlobals "Refused" = some (some (.ref C_Refused)))
    (hx_InvalidSize : PySem.W.nsIn K mainGlobals "InvalidSize" = some (some (.ref C_InvalidSize)))
    (xl_InvalidTable : K.lookup C_InvalidTable = some (excClassObj nm_InvalidTable xq_InvalidTable C_InvalidTable N_InvalidTable bs_InvalidTable bm_InvalidTable true sn_InvalidTable su_InvalidTable ab_InvalidTable co_InvalidTable dd_InvalidTable k0_InvalidTable k1_InvalidTable k2_InvalidTable k3_InvalidTable k5_InvalidTable "Exception.__new__"))
    (xb_InvalidTable : refsE bm_InvalidTable = true)
    (xsa_InvalidTable : PySem.W.findIn K (.ref C_InvalidTable) "__setattr__" = some (some (.builtin "object.__setattr__")))
    (xex_InvalidTable : PySem.W.subIn K (.ref C_InvalidTable) (.type "BaseException") = some true)
    (xty_InvalidTable : PySem.W.typeIn K (.ref C_InvalidTable) = some (.type "type"))
    (xkp_InvalidTable : PySem.W.keepIn K (.ref C_InvalidTable) = true)
    (xfl_InvalidTable : PySem.W.findIn K (.ref C_InvalidTable) "at" = some none)
    (xsu_InvalidTable : PySem.W.ks_superIn K C_InvalidTable C_InvalidTable "__init__" = some (some (.builtin "Exception.__init__")))
    (xsm_InvalidTable : PySem.W.mroIn K C_InvalidTable (.ref C_InvalidTable) = some true)
    (xem_InvalidTable : PySem.W.mroIn K C_InvalidTable (.type "Exception") = some true)
    (xin_InvalidTable : PySem.W.findIn K (.ref C_InvalidTable) "__init__" = some (some (.ref f_InvalidTable)))
    (xfn_InvalidTable : PySem.W.typeIn K (.ref f_InvalidTable) = some (.type "function"))
    (xlk_InvalidTable : K.lookup f_InvalidTable = some ⟨oc_InvalidTable, od_InvalidTable, .func (PySem.W.ksFn "__init__" "InvalidTable.__init__" (defArgs i_InvalidTable) (defBody i_InvalidTable) (defScope i_InvalidTable) dV_InvalidTable kV_InvalidTable do_InvalidTable pm_InvalidTable an_InvalidTable (.ref cda_InvalidTable) ct_InvalidTable cc_InvalidTable), os_InvalidTable⟩)
    (xcd_InvalidTable : PySem.W.codeIn K (.ref cda_InvalidTable) "InvalidTable.__init__" = true)
    (xlc_InvalidTable : K.lookup cda_InvalidTable = some ⟨ccl_InvalidTable, cdd_InvalidTable, .fields vs_InvalidTable, ccs_InvalidTable⟩)
    (xvf_InvalidTable : (vs_InvalidTable[2]? : Option Value) = some (.str fi_InvalidTable tf_InvalidTable))
    (xfi_InvalidTable : (((PySem.Challenge.rw_leastpromise_k01_whole_sheets_told_by_li).prog.main.file : Str) == fi_InvalidTable) = true)
    (xce_InvalidTable : K.lookup cc_InvalidTable = some ⟨cl_InvalidTable, cld_InvalidTable, .cell (some (.ref C_InvalidTable)), csl_InvalidTable⟩)
    (xdn_InvalidTable : dV_InvalidTable = .none)
    (xga_InvalidTable : PySem.W.findIn K (.ref C_InvalidTable) "__getattribute__" = some (some (.builtin "BaseException.__getattribute__")))
    (xgg_InvalidTable : PySem.W.findIn K (.ref C_InvalidTable) "__getattr__" = some none)
    (xhd_InvalidTable : PySem.W.hasDictIn K C_InvalidTable = true)
    (xl_InvalidLines : K.lookup C_InvalidLines = some (excClassObj nm_InvalidLines xq_InvalidLines C_InvalidLines N_InvalidLines bs_InvalidLines bm_InvalidLines true sn_InvalidLines su_InvalidLines ab_InvalidLines co_InvalidLines dd_InvalidLines k0_InvalidLines k1_InvalidLines k2_InvalidLines k3_InvalidLines k5_InvalidLines "Exception.__new__"))
    (xb_InvalidLines : refsE bm_InvalidLines = true)
    (xsa_InvalidLines : PySem.W.findIn K (.ref C_InvalidLines) "__setattr__" = some (some (.builtin "object.__setattr__")))
    (xex_InvalidLines : PySem.W.subIn K (.ref C_InvalidLines) (.type "BaseException") = some true)
    (xty_InvalidLines : PySem.W.typeIn K (.ref C_InvalidLines) = some (.type "type"))
    (xkp_InvalidLines : PySem.W.keepIn K (.ref C_InvalidLines) = true)
    (xfl_InvalidLines : PySem.W.findIn K (.ref C_InvalidLines) "at" = some none)
    (xsu_InvalidLines : PySem.W.ks_superIn K C_InvalidLines C_InvalidLines "__init__" = some (some (.builtin "Exception.__init__")))
    (xsm_InvalidLines : PySem.W.mroIn K C_InvalidLines (.ref C_InvalidLines) = some true)
    (xem_InvalidLines : PySem.W.mroIn K C_InvalidLines (.type "Exception") = some true)
    (xin_InvalidLines : PySem.W.findIn K (.ref C_InvalidLines) "__init__" = some (some (.ref f_InvalidLines)))
    (xfn_InvalidLines : PySem.W.typeIn K (.ref f_InvalidLines) = some (.type "function"))
    (xlk_InvalidLines : K.lookup f_InvalidLines = some ⟨oc_InvalidLines, od_InvalidLines, .func (PySem.W.ksFn "__init__" "InvalidLines.__init__" (defArgs i_InvalidLines) (defBody i_InvalidLines) (defScope i_InvalidLines) dV_InvalidLines kV_InvalidLines do_InvalidLines pm_InvalidLines an_InvalidLines (.ref cda_InvalidLines) ct_InvalidLines cc_InvalidLines), os_InvalidLines⟩)
    (xcd_InvalidLines : PySem.W.codeIn K (.ref cda_InvalidLines) "InvalidLines.__init__" = true)
    (xlc_InvalidLines : K.lookup cda_InvalidLines = some ⟨ccl_InvalidLines, cdd_InvalidLines, .fields vs_InvalidLines, ccs_InvalidLines⟩)
    (xvf_InvalidLines : (vs_InvalidLines[2]? : Option Value) = some (.str fi_InvalidLines tf_InvalidLines))
    (xfi_InvalidLines : (((PySem.Challenge.rw_leastpromise_k01_whole_sheets_told_by_li).prog.main.file : Str) == fi_InvalidLines) = true)
    (xce_InvalidLines : K.lookup cc_InvalidLines = some ⟨cl_InvalidLines, cld_InvalidLines, .cell (some (.ref C_InvalidLines)), csl_InvalidLines⟩)
    (xdn_InvalidLines : dV_InvalidLines = .none)
    (xga_InvalidLines : PySem.W.findIn K (.ref C_InvalidLines) "__getattribute__" = some (some (.builtin "BaseException.__getattribute__")))
    (xgg_InvalidLines : PySem.W.findIn K (.ref C_InvalidLines) "__getattr__" = some none)
    (xhd_InvalidLines : PySem.W.hasDictIn K C_InvalidLines = true)
    (xl_Refused : K.lookup C_Refused = some (excClassObj nm_Refused xq_Refused C_Refused N_Refused bs_Refused bm_Refused true sn_Refused su_Refused ab_Refused co_Refused dd_Refused k0_Refused k1_Refused k2_Refused k3_Refused k5_Refused "Exception.__new__"))
    (xb_Refused : refsE bm_Refused = true)
    (xsa_Refused : PySem.W.findIn K (.ref C_Refused) "__setattr__" = some (some (.builtin "object.__setattr__")))
    (xex_Refused : PySem.W.subIn K (.ref C_Refused) (.type "BaseException") = some true)
    (xty_Refused : PySem.W.typeIn K (.ref C_Refused) = some (.type "type"))
    (xkp_Refused : PySem.W.keepIn K (.ref C_Refused) = true)
    (xfl_Refused : PySem.W.findIn K (.ref C_Refused) "at" = some none)
    (xsu_Refused : PySem.W.ks_superIn K C_Refused C_Refused "__init__" = some (some (.builtin "Exception.__init__")))
    (xsm_Refused : PySem.W.mroIn K C_Refused (.ref C_Refused) = some true)
    (xem_Refused : PySem.W.mroIn K C_Refused (.type "Exception") = some true)
    (xin_Refused : PySem.W.findIn K (.ref C_Refused) "__init__" = some (some (.ref f_Refused)))
    (xfn_Refused : PySem.W.typeIn K (.ref f_Refused) = some (.type "function"))
    (xlk_Refused : K.lookup f_Refused = some ⟨oc_Refused, od_Refused, .func (PySem.W.ksFn "__init__" "Refused.__init__" (defArgs i_Refused) (defBody i_Refused) (defScope i_Refused) dV_Refused kV_Refused do_Refused pm_Refused an_Refused (.ref cda_Refused) ct_Refused cc_Refused), os_Refused⟩)
    (xcd_Refused : PySem.W.codeIn K (.ref cda_Refused) "Refused.__init__" = true)
    (xlc_Refused : K.lookup cda_Refused = some ⟨ccl_Refused, cdd_Refused, .fields vs_Refused, ccs_Refused⟩)
    (xvf_Refused : (vs_Refused[2]? : Option Value) = some (.str fi_Refused tf_Refused))
    (xfi_Refused : (((PySem.Challenge.rw_leastpromise_k01_whole_sheets_told_by_li).prog.main.file : Str) == fi_Refused) = true)
    (xce_Refused : K.lookup cc_Refused = some ⟨cl_Refused, cld_Refused, .cell (some (.ref C_Refused)), csl_Refused⟩)
    (xdn_Refused : dV_Refused = .none)
    (xga_Refused : PySem.W.findIn K (.ref C_Refused) "__getattribute__" = some (some (.builtin "BaseException.__getattribute__")))
    (xgg_Refused : PySem.W.findIn K (.ref C_Refused) "__getattr__" = some none)
    (xhd_Refused : PySem.W.hasDictIn K C_Refused = true)
    (xl_InvalidSize : K.lookup C_InvalidSize = some (excClassObj nm_InvalidSize xq_InvalidSize C_InvalidSize N_InvalidSize bs_InvalidSize bm_InvalidSize true sn_InvalidSize su_InvalidSize ab_InvalidSize co_InvalidSize dd_InvalidSize k0_InvalidSize k1_InvalidSize k2_InvalidSize k3_InvalidSize k5_InvalidSize "Exception.__new__"))
    (xb_InvalidSize : refsE bm_InvalidSize = true)
    (xsa_InvalidSize : PySem.W.findIn K (.ref C_InvalidSize) "__setattr__" = some (some (.builtin "object.__setattr__")))
    (xex_InvalidSize : PySem.W.subIn K (.ref C_InvalidSize) (.type "BaseException") = some true)
    (xty_InvalidSize : PySem.W.typeIn K (.ref C_InvalidSize) = some (.type "type"))
    (xkp_InvalidSize : PySem.W.keepIn K (.ref C_InvalidSize) = true)
    (xfl_InvalidSize : PySem.W.findIn K (.ref C_InvalidSize) "word" = some none)
    (xsu_InvalidSize : PySem.W.ks_superIn K C_InvalidSize C_InvalidSize "__init__" = some (some (.builtin "Exception.__init__")))
    (xsm_InvalidSize : PySem.W.mroIn K C_InvalidSize (.ref C_InvalidSize) = some true)
    (xem_InvalidSize : PySem.W.mroIn K C_InvalidSize (.type "Exception") = some true)
    (xin_InvalidSize : PySem.W.findIn K (.ref C_InvalidSize) "__init__" = some (some (.ref f_InvalidSize)))
    (xfn_InvalidSize : PySem.W.typeIn K (.ref f_InvalidSize) = some (.type "function"))
    (xlk_InvalidSize : K.lookup f_InvalidSize = some ⟨oc_InvalidSize, od_InvalidSize, .func (PySem.W.ksFn "__init__" "InvalidSize.__init__" (defArgs i_InvalidSize) (defBody i_InvalidSize) (defScope i_InvalidSize) dV_InvalidSize kV_InvalidSize do_InvalidSize pm_InvalidSize an_InvalidSize (.ref cda_InvalidSize) ct_InvalidSize cc_InvalidSize), os_InvalidSize⟩)
    (xcd_InvalidSize : PySem.W.codeIn K (.ref cda_InvalidSize) "InvalidSize.__init__" = true)
    (xlc_InvalidSize : K.lookup cda_InvalidSize = some ⟨ccl_InvalidSize, cdd_InvalidSize, .fields vs_InvalidSize, ccs_InvalidSize⟩)
    (xvf_InvalidSize : (vs_InvalidSize[2]? : Option Value) = some (.str fi_InvalidSize tf_InvalidSize))
    (xfi_InvalidSize : (((PySem.Challenge.rw_leastpromise_k01_whole_sheets_told_by_li).prog.main.file : Str) == fi_InvalidSize) = true)
    (xce_InvalidSize : K.lookup cc_InvalidSize = some ⟨cl_InvalidSize, cld_InvalidSize, .cell (some (.ref C_InvalidSize)), csl_InvalidSize⟩)
    (xdn_InvalidSize : dV_InvalidSize = .none)
    (xga_InvalidSize : PySem.W.findIn K (.ref C_InvalidSize) "__getattribute__" = some (some (.builtin "BaseException.__getattribute__")))
    (xgg_InvalidSize : PySem.W.findIn K (.ref C_InvalidSize) "__getattr__" = some none)
    (xhd_InvalidSize : PySem.W.hasDictIn K C_InvalidSize = true)
    (x_op : PySem.W.nsIn K cStatics "thirdparty.any" = some none)
    (y_InvalidTable_InvalidTable : PySem.W.exmOne K (.ref C_InvalidTable) (.ref C_InvalidTable) = some true)
    (y_InvalidTable_InvalidLines : PySem.W.exmOne K (.ref C_InvalidTable) (.ref C_InvalidLines) = some false)
    (y_InvalidTable_Refused : PySem.W.exmOne K (.ref C_InvalidTable) (.ref C_Refused) = some false)
    (y_InvalidTable_InvalidSize : PySem.W.exmOne K (.ref C_InvalidTable) (.ref C_InvalidSize) = some false)
    (y_InvalidLines_InvalidTable : PySem.W.exmOne K (.ref C_InvalidLines) (.ref C_InvalidTable) = some false)
    (y_InvalidLines_InvalidLines : PySem.W.exmOne K (.ref C_InvalidLines) (.ref C_InvalidLines) = some true)
    (y_InvalidLines_Refused : PySem.W.exmOne K (.ref C_InvalidLines) (.ref C_Refused) = some false)
    (y_InvalidLines_InvalidSize : PySem.W.exmOne K (.ref C_InvalidLines) (.ref C_InvalidSize) = some false)
    (y_Refused_InvalidTable : PySem.W.exmOne K (.ref C_Refused) (.ref C_InvalidTable) = some false)
    (y_Refused_InvalidLines : PySem.W.exmOne K (.ref C_Refused) (.ref C_InvalidLines) = some false)
    (y_Refused_Refused : PySem.W.exmOne K (.ref C_Refused) (.ref C_Refused) = some true)
    (y_Refused_InvalidSize : PySem.W.exmOne K (.ref C_Refused) (.ref C_InvalidSize) = some false)
    (y_InvalidSize_InvalidTable : PySem.W.exmOne K (.ref C_InvalidSize) (.ref C_InvalidTable) = some false)
    (y_InvalidSize_InvalidLines : PySem.W.exmOne K (.ref C_InvalidSize) (.ref C_InvalidLines) = some false)
    (y_InvalidSize_Refused : PySem.W.exmOne K (.ref C_InvalidSize) (.ref C_Refused) = some false)
    (y_InvalidSize_InvalidSize : PySem.W.exmOne K (.ref C_InvalidSize) (.ref C_InvalidSize) = some true)
    (hxb0 : PySem.W.nsIn K mainGlobals "PromiseError" = some (some (.ref Cb)))
    (yb_InvalidTable : PySem.W.exmOne K (.ref C_InvalidTable) (.ref Cb) = some true)
    (yb_InvalidLines : PySem.W.exmOne K (.ref C_InvalidLines) (.ref Cb) = some true)
    (yb_Refused : PySem.W.exmOne K (.ref C_Refused) (.ref Cb) = some true)
    (yb_InvalidSize : PySem.W.exmOne K (.ref C_InvalidSize) (.ref Cb) = some true) :
    LawAt PySem.Challenge.rw_leastpromise_k01_whole_sheets_told_by_li w K (L2.CX (PySem.Challenge.rw_leastpromise_k01_whole_sheets_told_by_li).prog w) 8 63 "_law_script" mg fa h := by
  have e := hfa.symm.trans (PySem.W.mg_of X G ha17)
  cases e
  have xE_InvalidTable : Exn K (PySem.Challenge.rw_leastpromise_k01_whole_sheets_told_by_li).prog mg "InvalidTable" "at" := by
    subst xdn_InvalidTable
    refine exn_mk (pn := "at") (fI := f_InvalidTable) (PySem.W.mg_of X G hx_InvalidTable) ⟨⟨_, _, _, _, _, _, _, _, _, _, _, _, _, _, _, xl_InvalidTable, xb_InvalidTable⟩, xsa_InvalidTable, xex_InvalidTable, xty_InvalidTable, xkp_InvalidTable, xfl_InvalidTable, xsu_InvalidTable, x_op, xsm_InvalidTable, xem_InvalidTable, xin_InvalidTable, xfn_InvalidTable, _, _, _, _, _, _, _, _, _, _, _, _, _, _, _, _, _, _, _, _, _, xlk_InvalidTable, xcd_InvalidTable, xlc_InvalidTable, xvf_InvalidTable, xfi_InvalidTable, xce_InvalidTable, fun us hl => match us, hl with | [_, _], _ => rfl⟩ (PySem.W.mg_none_of X G hz10) ⟨xga_InvalidTable, xgg_InvalidTable, xex_InvalidTable, xhd_InvalidTable⟩ (by decide) rfl rfl rfl rfl (by decide) (by decide +kernel) rfl rfl rfl rfl rfl rfl (by decide) (fun _ => rfl) (fun env e => by unfold interactive; rw [e] <;> rfl) (fun _ => rfl) (fun _ => rfl) (fun _ => rfl)
  have xE_InvalidLines : Exn K (PySem.Challenge.rw_leastpromise_k01_whole_sheets_told_by_li).prog mg "InvalidLines" "at" := by
    subst xdn_InvalidLines
    refine exn_mk (pn := "at") (fI := f_InvalidLines) (PySem.W.mg_of X G hx_InvalidLines) ⟨⟨_, _, _, _, _, _, _, _, _, _, _, _, _, _, _, xl_InvalidLines, xb_InvalidLines⟩, xsa_InvalidLines, xex_InvalidLines, xty_InvalidLines, xkp_InvalidLines, xfl_InvalidLines, xsu_InvalidLines, x_op, xsm_InvalidLines, xem_InvalidLines, xin_InvalidLines, xfn_InvalidLines, _, _, _, _, _, _, _, _, _, _, _, _, _, _, _, _, _, _, _, _, _, xlk_InvalidLines, xcd_InvalidLines, xlc_InvalidLines, xvf_InvalidLines, xfi_InvalidLines, xce_InvalidLines, fun us hl => match us, hl with | [_, _], _ => rfl⟩ (PySem.W.mg_none_of X G hz10) ⟨xga_InvalidLines, xgg_InvalidLines, xex_InvalidLines, xhd_InvalidLines⟩ (by decide) rfl rfl rfl rfl (by decide) (by decide +kernel) rfl rfl rfl rfl rfl rfl (by decide) (fun _ => rfl) (fun env e => by unfold interactive; rw [e] <;> rfl) (fun _ => rfl) (fun _ => rfl) (fun _ => rfl)
  have xE_Refused : Exn K (PySem.Challenge.rw_leastpromise_k01_whole_sheets_told_by_li).prog mg "Refused" "at" := by
    subst xdn_Refused
    refine exn_mk (pn := "at") (fI := f_Refused) (PySem.W.mg_of X G hx_Refused) ⟨⟨_, _, _, _, _, _, _, _, _, _, _, _, _, _, _, xl_Refused, xb_Refused⟩, xsa_Refused, xex_Refused, xty_Refused, xkp_Refused, xfl_Refused, xsu_Refused, x_op, xsm_Refused, xem_Refused, xin_Refused, xfn_Refused, _, _, _, _, _, _, _, _, _, _, _, _, _, _, _, _, _, _, _, _, _, xlk_Refused, xcd_Refused, xlc_Refused, xvf_Refused, xfi_Refused, xce_Refused, fun us hl => match us, hl with | [_, _], _ => rfl⟩ (PySem.W.mg_none_of X G hz10) ⟨xga_Refused, xgg_Refused, xex_Refused, xhd_Refused⟩ (by decide) rfl rfl rfl rfl (by decide) (by decide +kernel) rfl rfl rfl rfl rfl rfl (by decide) (fun _ => rfl) (fun env e => by unfold interactive; rw [e] <;> rfl) (fun _ => rfl) (fun _ => rfl) (fun _ => rfl)
  have xE_InvalidSize : Exn K (PySem.Challenge.rw_leastpromise_k01_whole_sheets_told_by_li).prog mg "InvalidSize" "word" := by
    subst xdn_InvalidSize
    refine exn_mk (pn := "word") (fI := f_InvalidSize) (PySem.W.mg_of X G hx_InvalidSize) ⟨⟨_, _, _, _, _, _, _, _, _, _, _, _, _, _, _, xl_InvalidSize, xb_InvalidSize⟩, xsa_InvalidSize, xex_InvalidSize, xty_InvalidSize, xkp_InvalidSize, xfl_InvalidSize, xsu_InvalidSize, x_op, xsm_InvalidSize, xem_InvalidSize, xin_InvalidSize, xfn_InvalidSize, _, _, _, _, _, _, _, _, _, _, _, _, _, _, _, _, _, _, _, _, _, xlk_InvalidSize, xcd_InvalidSize, xlc_InvalidSize, xvf_InvalidSize, xfi_InvalidSize, xce_InvalidSize, fun us hl => match us, hl with | [_, _], _ => rfl⟩ (PySem.W.mg_none_of X G hz10) ⟨xga_InvalidSize, xgg_InvalidSize, xex_InvalidSize, xhd_InvalidSize⟩ (by decide) rfl rfl rfl rfl (by decide) (by decide +kernel) rfl rfl rfl rfl rfl rfl (by decide) (fun _ => rfl) (fun env e => by unfold interactive; rw [e] <;> rfl) (fun _ => rfl) (fun _ => rfl) (fun _ => rfl)
  have xT : ExT K (PySem.Challenge.rw_leastpromise_k01_whole_sheets_told_by_li).prog mg xtab xbase := by
    refine ⟨fun p hp => ?_, fun p hp x C Y hx mC mY => ?_⟩
    · simp only [xtab, List.mem_cons, List.not_mem_nil, or_false] at hp
      rcases hp with rfl | rfl | rfl | rfl
      · exact xE_InvalidTable
      · exact xE_InvalidLines
      · exact xE_Refused
      · exact xE_InvalidSize
    simp only [xtab, List.mem_cons, List.not_mem_nil, or_false] at hp
    rcases hp with rfl | rfl | rfl | rfl
    · rcases hx with rfl | hx
      · cases (PySem.W.mg_of X G hx_InvalidTable).symm.trans mC
        cases (PySem.W.mg_of X G hxb0).symm.trans mY
        exact yb_InvalidTable
      · simp only [xtab, List.map_cons, List.map_nil, List.mem_cons, List.not_mem_nil, or_false] at hx
        rcases hx with rfl | rfl | rfl | rfl
        · cases (PySem.W.mg_of X G hx_InvalidTable).symm.trans mC
          cases (PySem.W.mg_of X G hx_InvalidTable).symm.trans mY
          exact y_InvalidTable_InvalidTable
        · cases (PySem.W.mg_of X G hx_InvalidTable).symm.trans mC
          cases (PySem.W.mg_of X G hx_InvalidLines).symm.trans mY
          exact y_InvalidTable_InvalidLines
        · cases (PySem.W.mg_of X G hx_InvalidTable).symm.trans mC
          cases (PySem.W.mg_of X G hx_Refused).symm.trans mY
          exact y_InvalidTable_Refused
        · cases (PySem.W.mg_of X G hx_InvalidTable).symm.trans mC
          cases (PySem.W.mg_of X G hx_InvalidSize).symm.trans mY
          exact y_InvalidTable_InvalidSize
    · rcases hx with rfl | hx
      · cases (PySem.W.mg_of X G hx_InvalidLines).symm.trans mC
        cases (PySem.W.mg_of X G hxb0).symm.trans mY
        exact yb_InvalidLines
      · simp only [xtab, List.map_cons, List.map_nil, List.mem_cons, List.not_mem_nil, or_false] at hx
        rcases hx with rfl | rfl | rfl | rfl
        · cases (PySem.W.mg_of X G hx_InvalidLines).symm.trans mC
          cases (PySem.W.mg_of X G hx_InvalidTable).symm.trans mY
          exact y_InvalidLines_InvalidTable
        · cases (PySem.W.mg_of X G hx_InvalidLines).symm.trans mC
          cases (PySem.W.mg_of X G hx_InvalidLines).symm.trans mY
          exact y_InvalidLines_InvalidLines
        · cases (PySem.W.mg_of X G hx_InvalidLines).symm.trans mC
          cases (PySem.W.mg_of X G hx_Refused).symm.trans mY
          exact y_InvalidLines_Refused
        · cases (PySem.W.mg_of X G hx_InvalidLines).symm.trans mC
          cases (PySem.W.mg_of X G hx_InvalidSize).symm.trans mY
          exact y_InvalidLines_InvalidSize
    · rcases hx with rfl | hx
      · cases (PySem.W.mg_of X G hx_Refused).symm.trans mC
        cases (PySem.W.mg_of X G hxb0).symm.trans mY
        exact yb_Refused
      · simp only [xtab, List.map_cons, List.map_nil, List.mem_cons, List.not_mem_nil, or_false] at hx
        rcases hx with rfl | rfl | rfl | rfl
        · cases (PySem.W.mg_of X G hx_Refused).symm.trans mC
          cases (PySem.W.mg_of X G hx_InvalidTable).symm.trans mY
          exact y_Refused_InvalidTable
        · cases (PySem.W.mg_of X G hx_Refused).symm.trans mC
          cases (PySem.W.mg_of X G hx_InvalidLines).symm.trans mY
          exact y_Refused_InvalidLines
        · cases (PySem.W.mg_of X G hx_Refused).symm.trans mC
          cases (PySem.W.mg_of X G hx_Refused).symm.trans mY
          exact y_Refused_Refused
        · cases (PySem.W.mg_of X G hx_Refused).symm.trans mC
          cases (PySem.W.mg_of X G hx_InvalidSize).symm.trans mY
          exact y_Refused_InvalidSize
    · rcases hx with rfl | hx
      · cases (PySem.W.mg_of X G hx_InvalidSize).symm.trans mC
        cases (PySem.W.mg_of X G hxb0).symm.trans mY
        exact yb_InvalidSize
      · simp only [xtab, List.map_cons, List.map_nil, List.mem_cons, List.not_mem_nil, or_false] at hx
        rcases hx with rfl | rfl | rfl | rfl
        · cases (PySem.W.mg_of X G hx_InvalidSize).symm.trans mC
          cases (PySem.W.mg_of X G hx_InvalidTable).symm.trans mY
          exact y_InvalidSize_InvalidTable
        · cases (PySem.W.mg_of X G hx_InvalidSize).symm.trans mC
          cases (PySem.W.mg_of X G hx_InvalidLines).symm.trans mY
          exact y_InvalidSize_InvalidLines
        · cases (PySem.W.mg_of X G hx_InvalidSize).symm.trans mC
          cases (PySem.W.mg_of X G hx_Refused).symm.trans mY
          exact y_InvalidSize_Refused
        · cases (PySem.W.mg_of X G hx_InvalidSize).symm.trans mC
          cases (PySem.W.mg_of X G hx_InvalidSize).symm.trans mY
          exact y_InvalidSize_InvalidSize
  refine ⟨PySem.W.fnOf "law" "law" (defArgs s_law) (defBody s_law) (defScope s_law) .none kV17 dc17 pm17 an17 (.ref cb17) ct17, [(cb17, P17)], spLawT [(cb17, P17)] 63 K, fun p hp => by
    simp only [List.mem_cons, List.not_mem_nil, or_false] at hp
    rcases hp with rfl
    · exact ht17,
    fun p hp => by
    simp only [List.mem_cons, List.not_mem_nil, or_false] at hp
    rcases hp with rfl
    · exact hn17,
    fun p hp => by
    simp only [List.mem_cons, List.not_mem_nil, or_false] at hp
    rcases hp with rfl
    · exact PySem.W.codeHd_of_K X he17,
    fun s v => .of_eq rfl, fun H a ns hl hbits hH hS => ⟨a, ns, rfl, hl, hbits, hH, hS, fun _ _ e => e⟩, fun base _ _ TB => ?_⟩
  let T : Pk (PySem.Challenge.rw_leastpromise_k01_whole_sheets_told_by_li).prog w K mg base := {
    tb := [(P17, qn_law)],
    k_MOST_VALUES := k_MOST_VALUES, c_MOST_VALUES := PySem.W.mg_of X G hi_MOST_VALUES,
    ax_InvalidTable := C_InvalidTable, gx_InvalidTable := PySem.W.mg_of X G hx_InvalidTable,
    ax_InvalidLines := C_InvalidLines, gx_InvalidLines := PySem.W.mg_of X G hx_InvalidLines,
    ax_Refused := C_Refused, gx_Refused := PySem.W.mg_of X G hx_Refused,
    ax_InvalidSize := C_InvalidSize, gx_InvalidSize := PySem.W.mg_of X G hx_InvalidSize,
    xt := xT,
    a_is_integer := a0, fd_is_integer := _, F_is_integer := fun_mk (st := s_is_integer) hl0 hc0 hk0, g_is_integer := PySem.W.mg_of X G ha0, b_is_integer := (fun_mk (st := s_is_integer) hl0 hc0 hk0).binds (ps := ps_is_integer) (fun _ _ _ _ _ _ us hl => (match us, hl with | [_], _ => rfl)),
    a_is_number := a1, fd_is_number := _, F_is_number := fun_mk (st := s_is_number) hl1 hc1 hk1, g_is_number := PySem.W.mg_of X G ha1, b_is_number := (fun_mk (st := s_is_number) hl1 hc1 hk1).binds (ps := ps_is_number) (fun _ _ _ _ _ _ us hl => (match us, hl with | [_], _ => rfl)),
    a_is_below := a2, fd_is_below := _, F_is_below := fun_mk (st := s_is_below) hl2 hc2 hk2, g_is_below := PySem.W.mg_of X G ha2, b_is_below := (fun_mk (st := s_is_below) hl2 hc2 hk2).binds (ps := ps_is_below) (fun _ _ _ _ _ _ us hl => (match us, hl with | [_, _], _ => rfl)),
    a_is_sequence := a3, fd_is_sequence := _, F_is_sequence := fun_mk (st := s_is_sequence) hl3 hc3 hk3, g_is_sequence := PySem.W.mg_of X G ha3, b_is_sequence := (fun_mk (st := s_is_sequence) hl3 hc3 hk3).binds (ps := ps_is_sequence) (fun _ _ _ _ _ _ us hl => (match us, hl with | [_], _ => rfl)),
    a_need_size := a4, fd_need_size := _, F_need_size := fun_mk (st := s_need_size) hl4 hc4 hk4, g_need_size := PySem.W.mg_of X G ha4, b_need_size := (fun_mk (st := s_need_size) hl4 hc4 hk4).binds (ps := ps_need_size) (fun _ _ _ _ _ _ us hl => (match us, hl with | [_], _ => rfl)),
    a_need_table := a5, fd_need_table := _, F_need_table := fun_mk (st := s_need_table) hl5 hc5 hk5, g_need_table := PySem.W.mg_of X G ha5, b_need_table := (fun_mk (st := s_need_table) hl5 hc5 hk5).binds (ps := ps_need_table) (fun _ _ _ _ _ _ us hl => (match us, hl with | [_, _], _ => rfl)),
    a_is_thing := a6, fd_is_thing := _, F_is_thing := fun_mk (st := s_is_thing) hl6 hc6 hk6, g_is_thing := PySem.W.mg_of X G ha6, b_is_thing := (fun_mk (st := s_is_thing) hl6 hc6 hk6).binds (ps := ps_is_thing) (fun _ _ _ _ _ _ us hl => (match us, hl with | [_], _ => rfl)),
    a_one_thing := a7, fd_one_thing := _, F_one_thing := fun_mk (st := s_one_thing) hl7 hc7 hk7, g_one_thing := PySem.W.mg_of X G ha7, b_one_thing := (fun_mk (st := s_one_thing) hl7 hc7 hk7).binds (ps := ps_one_thing) (fun _ _ _ _ _ _ us hl => (match us, hl with | [_], _ => rfl)),
    a_met_cells := a8, fd_met_cells := _, F_met_cells := fun_mk (st := s_met_cells) hl8 hc8 hk8, g_met_cells := PySem.W.mg_of X G ha8, b_met_cells := (fun_mk (st := s_met_cells) hl8 hc8 hk8).binds (ps := ps_met_cells) (fun _ _ _ _ _ _ us hl => (match us, hl with | [_, _], _ => rfl)),
    a_is_line := a9, fd_is_line := _, F_is_line := fun_mk (st := s_is_line) hl9 hc9 hk9, g_is_line := PySem.W.mg_of X G ha9, b_is_line := (fun_mk (st := s_is_line) hl9 hc9 hk9).binds (ps := ps_is_line) (fun _ _ _ _ _ _ us hl => (match us, hl with | [_, _], _ => rfl)),
    a_lines_sheet := a10, fd_lines_sheet := _, F_lines_sheet := fun_mk (st := s_lines_sheet) hl10 hc10 hk10, g_lines_sheet := PySem.W.mg_of X G ha10, b_lines_sheet := (fun_mk (st := s_lines_sheet) hl10 hc10 hk10).binds (ps := ps_lines_sheet) (fun _ _ _ _ _ _ us hl => (match us, hl with | [_, _], _ => rfl)),
    a__law_box := a11, fd__law_box := _, F__law_box := fun_mk (st := s__law_box) hl11 hc11 hk11, g__law_box := PySem.W.mg_of X G ha11, b__law_box := (fun_mk (st := s__law_box) hl11 hc11 hk11).binds (ps := ps__law_box) (fun _ _ _ _ _ _ us hl => (match us, hl with | [_, _], _ => rfl)),
    a__law_take := a12, fd__law_take := _, F__law_take := fun_mk (st := s__law_take) hl12 hc12 hk12, g__law_take := PySem.W.mg_of X G ha12, b__law_take := (fun_mk (st := s__law_take) hl12 hc12 hk12).binds (ps := ps__law_take) (fun _ _ _ _ _ _ us hl => (match us, hl with | [_, _], _ => rfl)),
    a__law_pick := a13, fd__law_pick := _, F__law_pick := fun_mk (st := s__law_pick) hl13 hc13 hk13, g__law_pick := PySem.W.mg_of X G ha13, b__law_pick := (fun_mk (st := s__law_pick) hl13 hc13 hk13).binds (ps := ps__law_pick) (fun _ _ _ _ _ _ us hl => (match us, hl with | [_, _], _ => rfl)),
    a__law_thing := a14, fd__law_thing := _, F__law_thing := fun_mk (st := s__law_thing) hl14 hc14 hk14, g__law_thing := PySem.W.mg_of X G ha14, b__law_thing := (fun_mk (st := s__law_thing) hl14 hc14 hk14).binds (ps := ps__law_thing) (fun _ _ _ _ _ _ us hl => (match us, hl with | [_], _ => rfl)),
    a__law_due := a15, fd__law_due := _, F__law_due := fun_mk (st := s__law_due) hl15 hc15 hk15, g__law_due := PySem.W.mg_of X G ha15, b__law_due := (fun_mk (st := s__law_due) hl15 hc15 hk15).binds (ps := ps__law_due) (fun _ _ _ _ _ _ us hl => (match us, hl with | [_, _], _ => rfl)),
    a__law_told := a16, fd__law_told := _, F__law_told := fun_mk (st := s__law_told) hl16 hc16 hk16, g__law_told := PySem.W.mg_of X G ha16, b__law_told := (fun_mk (st := s__law_told) hl16 hc16 hk16).binds (ps := ps__law_told) (fun _ _ _ _ _ _ us hl => (match us, hl with | [_], _ => rfl)),
    a_law := fa, fd_law := _, F_law := fun_mk (st := s_law) hl17 hc17 hk17, g_law := PySem.W.mg_of X G ha17, b_law := (fun_mk (st := s_law) hl17 hc17 hk17).binds (ps := ps_law) (fun _ _ _ _ _ _ us hl => (match us, hl with | [_], _ => rfl)),
    ca_law := cb17, P_law := P17, C_law := funC_mk (st := s_law) hl17 hc17 hk17, tb_law := TB (cb17, P17) (by simp), tm_law := by simp, tu_law := hu17,
    kw_lines_sheet_1_0 := kwB_of (st := s_lines_sheet) (fun_mk (st := s_lines_sheet) hl10 hc10 hk10) (fun _ _ _ _ _ _ ws hl => (match ws, hl with | [_, _], _ => rfl)),
    kw_need_table_1_0 := kwB_of (st := s_need_table) (fun_mk (st := s_need_table) hl5 hc5 hk5) (fun _ _ _ _ _ _ ws hl => (match ws, hl with | [_, _], _ => rfl)),
    kw_need_size_0 := kwB_of (st := s_need_size) (fun_mk (st := s_need_size) hl4 hc4 hk4) (fun _ _ _ _ _ _ ws hl => (match ws, hl with | [_], _ => rfl)),
    n_abs := PySem.W.mg_none_of X G hz0,
    n_all := PySem.W.mg_none_of X G hz1,
    n_bool := PySem.W.mg_none_of X G hz2,
    n_enumerate := PySem.W.mg_none_of X G hz3,
    n_int := PySem.W.mg_none_of X G hz4,
    n_isinstance := PySem.W.mg_none_of X G hz5,
    n_len := PySem.W.mg_none_of X G hz6,
    n_list := PySem.W.mg_none_of X G hz7,
    n_range := PySem.W.mg_none_of X G hz8,
    n_repr := PySem.W.mg_none_of X G hz9,
    n_tuple := PySem.W.mg_none_of X G hz11 }
  have hT : ∀ t ∈ ([(P17, qn_law)] : List (Addr × Str)), ∃ p ∈ ([(cb17, P17)] : List (Addr × Addr)), p.2 = t.1 := fun t ht => by
    simp only [List.mem_cons, List.not_mem_nil, or_false] at ht
    rcases ht with rfl
    · exact ⟨(cb17, P17), by simp, rfl⟩
  exact law_okL (by decide) T.C_law sc_law rfl hT (bd_law T) law_ok
end LP
open PySem PySem.W PyProof.Rows
set_option maxHeartbeats 0 in
theorem PySem.Challenge.cw_leastpromise_k01_whole_sheets_told_by_li_holds : PySem.Challenge.rw_leastpromise_k01_whole_sheets_told_by_li.Holds := by
  w_on; o_law; k_head; (case hw => w_witness2)
  k_fill
  refine LP.walk_of (l := PySem.Challenge.rw_leastpromise_k01_whole_sheets_told_by_li) (n := 63) (k := 8) (x := "_law_script") (CX := fun w => L2.CX (PySem.Challenge.rw_leastpromise_k01_whole_sheets_told_by_li).prog w) rfl (by decide) rfl ⟨rfl, by decide, by decide⟩ (fun w h Y => by first | exact PySem.W.km_in_of Y | exact PySem.W.kIn_of Y) ?F (fun _ _ _ _ _ ⟨_, _, _, _, _, _, _, _, _, _, _, _, h⟩ => h)
  case F =>
    intro w mg fa h Y KX G hmg
    have hT8 := PySem.W.km_tabs_of Y
    refine' LP.all_mk KX G hmg ?ha0 ?hl0 ?hc0 ?hk0 ?ha1 ?hl1 ?hc1 ?hk1 ?ha2 ?hl2 ?hc2 ?hk2 ?ha3 ?hl3 ?hc3 ?hk3 ?ha4 ?hl4 ?hc4 ?hk4 ?ha5 ?hl5 ?hc5 ?hk5 ?ha6 ?hl6 ?hc6 ?hk6 ?ha7 ?hl7 ?hc7 ?hk7 ?ha8 ?hl8 ?hc8 ?hk8 ?ha9 ?hl9 ?hc9 ?hk9 ?ha10 ?hl10 ?hc10 ?hk10 ?ha11 ?hl11 ?hc11 ?hk11 ?ha12 ?hl12 ?hc12 ?hk12 ?ha13 ?hl13 ?hc13 ?hk13 ?ha14 ?hl14 ?hc14 ?hk14 ?ha15 ?hl15 ?hc15 ?hk15 ?ha16 ?hl16 ?hc16 ?hk16 ?ha17 ?hl17 ?hc17 ?hk17 ?hq17 ?hv17 ?he17 ?hn17 ?ht17 ?hu17 ?hz0 ?hz1 ?hz2 ?hz3 ?hz4 ?hz5 ?hz6 ?hz7 ?hz8 ?hz9 ?hz10 ?hz11 ?hi_MOST_VALUES ?hx_InvalidTable ?hx_InvalidLines ?hx_Refused ?hx_InvalidSize ?xl_InvalidTable ?xb_InvalidTable ?xsa_InvalidTable ?xex_InvalidTable ?xty_InvalidTable ?xkp_InvalidTable ?xfl_InvalidTable ?xsu_InvalidTable ?xsm_InvalidTable ?xem_InvalidTable ?xin_InvalidTable ?xfn_InvalidTable ?xlk_InvalidTable ?xcd_InvalidTable ?xlc_InvalidTable ?xvf_InvalidTable ?xfi_InvalidTable ?xce_InvalidTable ?xdn_InvalidTable ?xga_InvalidTable ?xgg_InvalidTable ?xhd_InvalidTable ?xl_InvalidLines ?xb_InvalidLines ?xsa_InvalidLines ?xex_InvalidLines ?xty_InvalidLines ?xkp_InvalidLines ?xfl_InvalidLines ?xsu_InvalidLines ?xsm_InvalidLines ?xem_InvalidLines ?xin_InvalidLines ?xfn_InvalidLines ?xlk_InvalidLines ?xcd_InvalidLines ?xlc_InvalidLines ?xvf_InvalidLines ?xfi_InvalidLines ?xce_InvalidLines ?xdn_InvalidLines ?xga_InvalidLines ?xgg_InvalidLines ?xhd_InvalidLines ?xl_Refused ?xb_Refused ?xsa_Refused ?xex_Refused ?xty_Refused ?xkp_Refused ?xfl_Refused ?xsu_Refused ?xsm_Refused ?xem_Refused ?xin_Refused ?xfn_Refused ?xlk_Refused ?xcd_Refused ?xlc_Refused ?xvf_Refused ?xfi_Refused ?xce_Refused ?xdn_Refused ?xga_Refused ?xgg_Refused ?xhd_Refused ?xl_InvalidSize ?xb_InvalidSize ?xsa_InvalidSize ?xex_InvalidSize ?xty_InvalidSize ?xkp_InvalidSize ?xfl_InvalidSize ?xsu_InvalidSize ?xsm_InvalidSize ?xem_InvalidSize ?xin_InvalidSize ?xfn_InvalidSize ?xlk_InvalidSize ?xcd_InvalidSize ?xlc_InvalidSize ?xvf_InvalidSize ?xfi_InvalidSize ?xce_InvalidSize ?xdn_InvalidSize ?xga_InvalidSize ?xgg_InvalidSize ?xhd_InvalidSize ?x_op ?y_InvalidTable_InvalidTable ?y_InvalidTable_InvalidLines ?y_InvalidTable_Refused ?y_InvalidTable_InvalidSize ?y_InvalidLines_InvalidTable ?y_InvalidLines_InvalidLines ?y_InvalidLines_Refused ?y_InvalidLines_InvalidSize ?y_Refused_InvalidTable ?y_Refused_InvalidLines ?y_Refused_Refused ?y_Refused_InvalidSize ?y_InvalidSize_InvalidTable ?y_InvalidSize_InvalidLines ?y_InvalidSize_Refused ?y_InvalidSize_InvalidSize ?hxb0 ?yb_InvalidTable ?yb_InvalidLines ?yb_Refused ?yb_InvalidSize
    (case ha0 => k_is); (case hl0 => k_is); (case hc0 => k_is); (case hk0 => k_is); (case ha1 => k_is); (case hl1 => k_is); (case hc1 => k_is); (case hk1 => k_is); (case ha2 => k_is); (case hl2 => k_is); (case hc2 => k_is); (case hk2 => k_is); (case ha3 => k_is); (case hl3 => k_is); (case hc3 => k_is); (case hk3 => k_is); (case ha4 => k_is); (case hl4 => k_is); (case hc4 => k_is); (case hk4 => k_is); (case ha5 => k_is); (case hl5 => k_is); (case hc5 => k_is); (case hk5 => k_is); (case ha6 => k_is); (case hl6 => k_is); (case hc6 => k_is); (case hk6 => k_is); (case ha7 => k_is); (case hl7 => k_is); (case hc7 => k_is); (case hk7 => k_is); (case ha8 => k_is); (case hl8 => k_is); (case hc8 => k_is); (case hk8 => k_is); (case ha9 => k_is); (case hl9 => k_is); (case hc9 => k_is); (case hk9 => k_is); (case ha10 => k_is); (case hl10 => k_is); (case hc10 => k_is); (case hk10 => k_is); (case ha11 => k_is); (case hl11 => k_is); (case hc11 => k_is); (case hk11 => k_is); (case ha12 => k_is); (case hl12 => k_is); (case hc12 => k_is); (case hk12 => k_is); (case ha13 => k_is); (case hl13 => k_is); (case hc13 => k_is); (case hk13 => k_is); (case ha14 => k_is); (case hl14 => k_is); (case hc14 => k_is); (case hk14 => k_is); (case ha15 => k_is); (case hl15 => k_is); (case hc15 => k_is); (case hk15 => k_is); (case ha16 => k_is); (case hl16 => k_is); (case hc16 => k_is); (case hk16 => k_is); (case ha17 => k_is); (case hl17 => k_is); (case hc17 => k_is); (case hk17 => k_is); (case hq17 => k_is); (case hz0 => k_is); (case hz1 => k_is); (case hz2 => k_is); (case hz3 => k_is); (case hz4 => k_is); (case hz5 => k_is); (case hz6 => k_is); (case hz7 => k_is); (case hz8 => k_is); (case hz9 => k_is); (case hz10 => k_is); (case hz11 => k_is); (case hi_MOST_VALUES => k_is); (case hx_InvalidTable => k_is); (case hx_InvalidLines => k_is); (case hx_Refused => k_is); (case hx_InvalidSize => k_is); (case xl_InvalidTable => k_is); (case xsa_InvalidTable => k_is); (case xex_InvalidTable => k_is); (case xty_InvalidTable => k_is); (case xkp_InvalidTable => k_is); (case xfl_InvalidTable => k_is); (case xsm_InvalidTable => k_is); (case xem_InvalidTable => k_is); (case xin_InvalidTable => k_is); (case xfn_InvalidTable => k_is); (case xlk_InvalidTable => k_is); (case xcd_InvalidTable => k_is); (case xlc_InvalidTable => k_is); (case xce_InvalidTable => k_is); (case xga_InvalidTable => k_is); (case xgg_InvalidTable => k_is); (case xhd_InvalidTable => k_is); (case xl_InvalidLines => k_is); (case xsa_InvalidLines => k_is); (case xex_InvalidLines => k_is); (case xty_InvalidLines => k_is); (case xkp_InvalidLines => k_is); (case xfl_InvalidLines => k_is); (case xsm_InvalidLines => k_is); (case xem_InvalidLines => k_is); (case xin_InvalidLines => k_is); (case xfn_InvalidLines => k_is); (case xlk_InvalidLines => k_is); (case xcd_InvalidLines => k_is); (case xlc_InvalidLines => k_is); (case xce_InvalidLines => k_is); (case xga_InvalidLines => k_is); (case xgg_InvalidLines => k_is); (case xhd_InvalidLines => k_is); (case xl_Refused => k_is); (case xsa_Refused => k_is); (case xex_Refused => k_is); (case xty_Refused => k_is); (case xkp_Refused => k_is); (case xfl_Refused => k_is); (case xsm_Refused => k_is); (case xem_Refused => k_is); (case xin_Refused => k_is); (case xfn_Refused => k_is); (case xlk_Refused => k_is); (case xcd_Refused => k_is); (case xlc_Refused => k_is); (case xce_Refused => k_is); (case xga_Refused => k_is); (case xgg_Refused => k_is); (case xhd_Refused => k_is); (case xl_InvalidSize => k_is); (case xsa_InvalidSize => k_is); (case xex_InvalidSize => k_is); (case xty_InvalidSize => k_is); (case xkp_InvalidSize => k_is); (case xfl_InvalidSize => k_is); (case xsm_InvalidSize => k_is); (case xem_InvalidSize => k_is); (case xin_InvalidSize => k_is); (case xfn_InvalidSize => k_is); (case xlk_InvalidSize => k_is); (case xcd_InvalidSize => k_is); (case xlc_InvalidSize => k_is); (case xce_InvalidSize => k_is); (case xga_InvalidSize => k_is); (case xgg_InvalidSize => k_is); (case xhd_InvalidSize => k_is); (case x_op => k_is); (case hxb0 => k_is); (case hv17 => rfl); (case he17 => first | kernel_rfl | decide +kernel); (case hn17 => kernel_rfl); (case ht17 => exact hT8 _ (by k_mem)); (case hu17 => decide +kernel); (case xb_InvalidTable => first | kernel_rfl | decide +kernel); (case xsu_InvalidTable => kernel_rfl); (case xvf_InvalidTable => rfl); (case xfi_InvalidTable => rfl); (case xdn_InvalidTable => rfl); (case xb_InvalidLines => first | kernel_rfl | decide +kernel); (case xsu_InvalidLines => kernel_rfl); (case xvf_InvalidLines => rfl); (case xfi_InvalidLines => rfl); (case xdn_InvalidLines => rfl); (case xb_Refused => first | kernel_rfl | decide +kernel); (case xsu_Refused => kernel_rfl); (case xvf_Refused => rfl); (case xfi_Refused => rfl); (case xdn_Refused => rfl); (case xb_InvalidSize => first | kernel_rfl | decide +kernel); (case xsu_InvalidSize => kernel_rfl); (case xvf_InvalidSize => rfl); (case xfi_InvalidSize => rfl); (case xdn_InvalidSize => rfl); (case y_InvalidTable_InvalidTable => kernel_rfl); (case y_InvalidTable_InvalidLines => kernel_rfl); (case y_InvalidTable_Refused => kernel_rfl); (case y_InvalidTable_InvalidSize => kernel_rfl); (case y_InvalidLines_InvalidTable => kernel_rfl); (case y_InvalidLines_InvalidLines => kernel_rfl); (case y_InvalidLines_Refused => kernel_rfl); (case y_InvalidLines_InvalidSize => kernel_rfl); (case y_Refused_InvalidTable => kernel_rfl); (case y_Refused_InvalidLines => kernel_rfl); (case y_Refused_Refused => kernel_rfl); (case y_Refused_InvalidSize => kernel_rfl); (case y_InvalidSize_InvalidTable => kernel_rfl); (case y_InvalidSize_InvalidLines => kernel_rfl); (case y_InvalidSize_Refused => kernel_rfl); (case y_InvalidSize_InvalidSize => kernel_rfl); (case yb_InvalidTable => kernel_rfl); (case yb_InvalidLines => kernel_rfl); (case yb_Refused => kernel_rfl); (case yb_InvalidSize => kernel_rfl)
