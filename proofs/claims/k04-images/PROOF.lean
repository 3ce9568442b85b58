import PyProof.Rows.All
import Wide.All
import OpenK.AllK
import Wide.FinOn
import HandS.ForMost
import HandS.WordsExc
import HandS.AnyAll
import HandS.SortInts
import PyProof.GenCompD
import HandS.Nested
import HandS.Comp
import HandS.ExcIs
import HandS.ExcField
import HandS.IsInst
import HandS.ExcBuiltin
import HandS.OwnEq
import HandS.HeadHook4
import HandS.HeadWalk
import KE.KStateDown
import HandS.Head0
import HandS.Head1
import HandS.Head2
import HandS.HeadEnd
import PySem.Challenge.RW_rewoven_k04_images
set_option Elab.async false
set_option linter.all false
set_option maxRecDepth 100000
set_option maxHeartbeats 0
namespace Vl
open PySem PySem.Spec PyProof.Rows L2

/-- a value that stands still, as a tree -/
inductive D where
  | non | bl (b : Bool) | int (i : Int) | str (x : Str) | con (n : Str) | ty (n : String)
  | tup (xs : List D) | lst (xs : List D) | ktup (xs : List D) | klst (xs : List D)
  | dK (kvs : List (Key × D)) | dT (kvs : List (List Key × D))
  | obj (c : Str) (fs : List (Str × D))
/-- a value that is one's own: its outer parts may be changed -/
inductive T where
  | fr (d : D) | lst (xs : List D) | dK (kvs : List (Key × D)) | dT (kvs : List (List Key × D))
  | obj (c : Str) (fs : List (Str × T))

/-- the classes and defs of the text, by name -/
structure Vb where
  K : PySem.W.Frag
  cl : Str → Addr
  /-- the tables of the code objects -/
  tb : Addr → Prop
/-- .. and the slots that hold a caught exception -/
structure Pin where
  i : Nat
  a : Addr
  d : Option (Addr × List (Str × V) × List (Str × D))
structure Vc extends Vb where
  xs : List Pin
instance : Coe Vc Vb := ⟨Vc.toVb⟩

def strip : Option HO → Option HO
  | some (.frz _ u) => some u
  | x => x

def isTb : HO → Bool
  | .tbl _ => true
  | _ => false
/-- tracked, and no table -/
def nT (x : Option HO) : Prop := ∃ u, x = some u ∧ isTb u = false
theorem nT.ne {x : Option HO} (h : nT x) : x ≠ none := by obtain ⟨u, e, _⟩ := h; rw [e]; simp
theorem nT.of {x : Option HO} {u : HO} (h : x = some u) (k : isTb u = false := by rfl) : nT x := ⟨u, h, k⟩
def Tabs (c : Vb) (H : Hp) : Prop := ∀ P, c.tb P → GxR.TabG H P
def KL (K : PySem.W.Frag) (a : Addr) (xs : List V) : Prop :=
  ∃ (o : Obj) (its : Array Value) (n : Nat), K.lookup a = some o ∧ o.cls = .type "list" ∧ o.dict = none ∧ o.data = .seq its n ∧ its.size ≤ sizeLine ∧ Vals xs its.toList
def KTp (K : PySem.W.Frag) (a : Addr) (xs : List V) : Prop :=
  ∃ (o : Obj) (its : Array Value) (n : Nat), K.lookup a = some o ∧ o.cls = .type "tuple" ∧ o.data = .seq its n ∧ its.size ≤ sizeLine ∧ Vals xs its.toList
/-- tracked, and none of O -/
def Fz (O : Addr → Prop) (H : Hp) (a : Addr) (u : HO) : Prop := strip (H a) = some u ∧ ¬ O a

mutual
def RD (c : Vb) (O : Addr → Prop) (H : Hp) : D → V → Prop
  | .non, v => v = .non
  | .bl b, v => v = .bl b
  | .int i, v => v = .int i
  | .str x, v => v = .str x
  | .con n, v => v = .ref (c.cl n)
  | .ty n, v => v = .ty n
  | .tup xs, v => ∃ a vs, v = .ref a ∧ (H a = some (.tup vs) ∧ ¬ O a) ∧ RDs c O H xs vs
  | .lst xs, v => ∃ a vs, v = .ref a ∧ (H a = some (.lst vs) ∧ ¬ O a) ∧ RDs c O H xs vs
  | .ktup xs, v => ∃ a vs, v = .ref a ∧ KTp c.K a vs ∧ RDs c O H xs vs
  | .klst xs, v => ∃ a vs, v = .ref a ∧ (KL c.K a vs ∨ Fz O H a (.lst vs)) ∧ RDs c O H xs vs
  | .dK kvs, v => ∃ a vs, v = .ref a ∧ Fz O H a (.dK vs) ∧ RDk c O H kvs vs
  | .dT kvs, v => ∃ a vs, v = .ref a ∧ Fz O H a (.dT vs) ∧ RDt c O H kvs vs
  | .obj n fs, v => ∃ a dx vs, v = .ref a ∧ (H a = some (.ins (c.cl n) dx vs) ∧ ¬ O a) ∧ RDf c O H fs vs
def RDs (c : Vb) (O : Addr → Prop) (H : Hp) : List D → List V → Prop
  | [], vs => vs = []
  | d :: ds, vs => ∃ v r, vs = v :: r ∧ RD c O H d v ∧ RDs c O H ds r
def RDk (c : Vb) (O : Addr → Prop) (H : Hp) : List (Key × D) → List (Key × V) → Prop
  | [], vs => vs = []
  | (k, d) :: ds, vs => ∃ v r, vs = (k, v) :: r ∧ RD c O H d v ∧ RDk c O H ds r
def RDt (c : Vb) (O : Addr → Prop) (H : Hp) : List (List Key × D) → List (List Key × V) → Prop
  | [], vs => vs = []
  | (k, d) :: ds, vs => ∃ v r, vs = (k, v) :: r ∧ RD c O H d v ∧ RDt c O H ds r
def RDf (c : Vb) (O : Addr → Prop) (H : Hp) : List (Str × D) → List (Str × V) → Prop
  | [], vs => vs = []
  | (k, d) :: ds, vs => ∃ v r, vs = (k, v) :: r ∧ RD c O H d v ∧ RDf c O H ds r
end
mutual
def RT (c : Vb) (O : Addr → Prop) (H : Hp) : T → V → List Addr → Prop
  | .fr d, v, fp => RD c O H d v ∧ fp = []
  | .lst xs, v, fp => ∃ a vs, v = .ref a ∧ H a = some (.lst vs) ∧ RDs c O H xs vs ∧ fp = [a]
  | .dK kvs, v, fp => ∃ a vs, v = .ref a ∧ H a = some (.dK vs) ∧ RDk c O H kvs vs ∧ fp = [a]
  | .dT kvs, v, fp => ∃ a vs, v = .ref a ∧ H a = some (.dT vs) ∧ RDt c O H kvs vs ∧ fp = [a]
  | .obj n fs, v, fp => ∃ a dx vs fq, v = .ref a ∧ H a = some (.ins (c.cl n) dx vs) ∧ RTf c O H fs vs fq ∧ fp = a :: fq
def RTf (c : Vb) (O : Addr → Prop) (H : Hp) : List (Str × T) → List (Str × V) → List Addr → Prop
  | [], vs, fp => vs = [] ∧ fp = []
  | (k, t) :: ts, vs, fp => ∃ v r f1 f2, vs = (k, v) :: r ∧ RT c O H t v f1 ∧ RTf c O H ts r f2 ∧ fp = f1 ++ f2
end
end Vl

namespace Vl
open PySem PySem.Spec PyProof.Rows L2

variable {c : Vb} {O O' : Addr → Prop} {H H' : Hp}

/-! ### standing still -/
/-- alike but for a lock -/
def Sim (x y : Option HO) : Prop := strip y = strip x ∧ (∀ vs, x = some (.tup vs) → y = some (.tup vs)) ∧ (∀ C dx fs, x = some (.ins C dx fs) → y = some (.ins C dx fs)) ∧ (∀ vs, x = some (.lst vs) → y = some (.lst vs)) ∧ ∀ vs, x = some (.xd vs) → y = some (.xd vs)
theorem Sim.of {x y : Option HO} (h : y = x) : Sim x y := by subst h; exact ⟨rfl, fun _ q => q, fun _ _ _ q => q, fun _ q => q, fun _ q => q⟩
def Stb (O : Addr → Prop) (H : Hp) (O' : Addr → Prop) (H' : Hp) : Prop :=
  (∀ a, ¬ O a → nT (H a) → Sim (H a) (H' a)) ∧ ∀ a, O' a → O a ∨ H a = none
theorem Stb.of (h1 : ∀ a, ¬ O a → nT (H a) → H' a = H a) (h2 : ∀ a, O' a → O a ∨ H a = none) : Stb O H O' H' := ⟨fun a n h => .of (h1 a n h), h2⟩
theorem Stb.less (h : ∀ a, O' a → O a) : Stb O H O' H := .of (fun _ _ _ => rfl) fun a q => .inl (h a q)
theorem strip_none : strip none = none := rfl
theorem strip_ne {x : Option HO} {u : HO} (h : strip x = some u) (k : isTb u = false) : nT x := by
  cases x with
  | none => cases h
  | some y =>
    cases y with
    | tbl ps => cases h; cases k
    | _ => exact ⟨_, rfl, rfl⟩
theorem Stb.no (s : Stb O H O' H') {a : Addr} (n : ¬ O a) (h : nT (H a)) : ¬ O' a := fun q => (s.2 a q).elim n h.ne
theorem Fz.stb (s : Stb O H O' H') {a : Addr} {u : HO} (f : Fz O H a u) (k : isTb u = false := by rfl) : Fz O' H' a u :=
  ⟨(s.1 a f.2 (strip_ne f.1 k)).1.trans f.1, s.no f.2 (strip_ne f.1 k)⟩
mutual
theorem RD.stb (s : Stb O H O' H') : ∀ {d : D} {v : V}, RD c O H d v → RD c O' H' d v
  | .non, _, h => h | .bl _, _, h => h | .int _, _, h => h | .str _, _, h => h | .con _, _, h => h | .ty _, _, h => h
  | .tup xs, _, ⟨a, vs, e, h, r⟩ => ⟨a, vs, e, ⟨(s.1 a h.2 (.of h.1)).2.1 _ h.1, s.no h.2 (.of h.1)⟩, RDs.stb s r⟩
  | .lst xs, _, ⟨a, vs, e, h, r⟩ => ⟨a, vs, e, ⟨(s.1 a h.2 (.of h.1)).2.2.2.1 _ h.1, s.no h.2 (.of h.1)⟩, RDs.stb s r⟩
  | .ktup xs, _, ⟨a, vs, e, h, r⟩ => ⟨a, vs, e, h, RDs.stb s r⟩
  | .klst xs, _, ⟨a, vs, e, h, r⟩ => ⟨a, vs, e, h.imp id (fun q => q.stb s), RDs.stb s r⟩
  | .dK _, _, ⟨a, vs, e, h, r⟩ => ⟨a, vs, e, h.stb s, RDk.stb s r⟩
  | .dT _, _, ⟨a, vs, e, h, r⟩ => ⟨a, vs, e, h.stb s, RDt.stb s r⟩
  | .obj _ _, _, ⟨a, dx, vs, e, h, r⟩ => ⟨a, dx, vs, e, ⟨(s.1 a h.2 (.of h.1)).2.2.1 _ _ _ h.1, s.no h.2 (.of h.1)⟩, RDf.stb s r⟩
theorem RDs.stb (s : Stb O H O' H') : ∀ {d : List D} {v : List V}, RDs c O H d v → RDs c O' H' d v
  | [], _, h => h
  | _ :: _, _, ⟨v, r, e, h, t⟩ => ⟨v, r, e, h.stb s, RDs.stb s t⟩
theorem RDk.stb (s : Stb O H O' H') : ∀ {d : List (Key × D)} {v : List (Key × V)}, RDk c O H d v → RDk c O' H' d v
  | [], _, h => h
  | (_, _) :: _, _, ⟨v, r, e, h, t⟩ => ⟨v, r, e, h.stb s, RDk.stb s t⟩
theorem RDt.stb (s : Stb O H O' H') : ∀ {d : List (List Key × D)} {v : List (List Key × V)}, RDt c O H d v → RDt c O' H' d v
  | [], _, h => h
  | (_, _) :: _, _, ⟨v, r, e, h, t⟩ => ⟨v, r, e, h.stb s, RDt.stb s t⟩
theorem RDf.stb (s : Stb O H O' H') : ∀ {d : List (Str × D)} {v : List (Str × V)}, RDf c O H d v → RDf c O' H' d v
  | [], _, h => h
  | (_, _) :: _, _, ⟨v, r, e, h, t⟩ => ⟨v, r, e, h.stb s, RDf.stb s t⟩
end
mutual
theorem RT.stb (s : Stb O H O' H') : ∀ {t : T} {v : V} {f : List Addr}, RT c O H t v f → (∀ a ∈ f, H' a = H a) → RT c O' H' t v f
  | .fr _, _, _, ⟨h, e⟩, _ => ⟨h.stb s, e⟩
  | .lst _, _, _, ⟨a, vs, e, h, r, ef⟩, k => ⟨a, vs, e, (k a (by rw [ef]; simp)).trans h, r.stb s, ef⟩
  | .dK _, _, _, ⟨a, vs, e, h, r, ef⟩, k => ⟨a, vs, e, (k a (by rw [ef]; simp)).trans h, r.stb s, ef⟩
  | .dT _, _, _, ⟨a, vs, e, h, r, ef⟩, k => ⟨a, vs, e, (k a (by rw [ef]; simp)).trans h, r.stb s, ef⟩
  | .obj _ _, _, _, ⟨a, dx, vs, fq, e, h, r, ef⟩, k => ⟨a, dx, vs, fq, e, (k a (by rw [ef]; simp)).trans h, RTf.stb s r (fun b hb => k b (by rw [ef]; simp [hb])), ef⟩
theorem RTf.stb (s : Stb O H O' H') : ∀ {t : List (Str × T)} {v : List (Str × V)} {f : List Addr}, RTf c O H t v f → (∀ a ∈ f, H' a = H a) → RTf c O' H' t v f
  | [], _, _, h, _ => h
  | (_, _) :: _, _, _, ⟨v, r, f1, f2, e, h, t, ef⟩, k => ⟨v, r, f1, f2, e, h.stb s (fun b hb => k b (by rw [ef]; simp [hb])), RTf.stb s t (fun b hb => k b (by rw [ef]; simp [hb])), ef⟩
end
mutual
theorem RT.trk : ∀ {t : T} {v : V} {f : List Addr}, RT c O H t v f → ∀ a ∈ f, nT (H a)
  | .fr _, _, _, ⟨h, e⟩, a, ha => by rw [e] at ha; cases ha
  | .lst _, _, _, ⟨a, vs, e, h, r, ef⟩, b, hb => by rw [ef] at hb; simp at hb; rw [hb]; exact .of h
  | .dK _, _, _, ⟨a, vs, e, h, r, ef⟩, b, hb => by rw [ef] at hb; simp at hb; rw [hb]; exact .of h
  | .dT _, _, _, ⟨a, vs, e, h, r, ef⟩, b, hb => by rw [ef] at hb; simp at hb; rw [hb]; exact .of h
  | .obj _ _, _, _, ⟨a, dx, vs, fq, e, h, r, ef⟩, b, hb => by
    rw [ef] at hb
    rcases List.mem_cons.mp hb with q | q
    · rw [q]; exact .of h
    · exact RTf.trk r b q
theorem RTf.trk : ∀ {t : List (Str × T)} {v : List (Str × V)} {f : List Addr}, RTf c O H t v f → ∀ a ∈ f, nT (H a)
  | [], _, _, h, a, ha => by rw [h.2] at ha; cases ha
  | (_, _) :: _, _, _, ⟨v, r, f1, f2, e, h, t, ef⟩, a, ha => by
    rw [ef] at ha
    rcases List.mem_append.mp ha with q | q
    · exact RT.trk h a q
    · exact RTf.trk t a q
end

/-! ### own things come to rest -/
mutual
def T.toD : T → D
  | .fr d => d | .lst xs => .lst xs | .dK k => .dK k | .dT k => .dT k
  | .obj n fs => .obj n (T.toDf fs)
def T.toDf : List (Str × T) → List (Str × D)
  | [] => []
  | (k, t) :: r => (k, t.toD) :: T.toDf r
end
mutual
theorem RT.rest (hO : ∀ a, O' a → O a) : ∀ {t : T} {v : V} {f : List Addr}, RT c O H t v f → (∀ a ∈ f, ¬ O' a) → RD c O' H t.toD v
  | .fr _, _, _, ⟨h, _⟩, _ => h.stb (.less hO)
  | .lst _, _, _, ⟨a, vs, e, h, r, ef⟩, k => ⟨a, vs, e, ⟨h, k a (by rw [ef]; simp)⟩, r.stb (.less hO)⟩
  | .dK _, _, _, ⟨a, vs, e, h, r, ef⟩, k => ⟨a, vs, e, ⟨by rw [h]; rfl, k a (by rw [ef]; simp)⟩, r.stb (.less hO)⟩
  | .dT _, _, _, ⟨a, vs, e, h, r, ef⟩, k => ⟨a, vs, e, ⟨by rw [h]; rfl, k a (by rw [ef]; simp)⟩, r.stb (.less hO)⟩
  | .obj _ _, _, _, ⟨a, dx, vs, fq, e, h, r, ef⟩, k => ⟨a, dx, vs, e, ⟨h, k a (by rw [ef]; simp)⟩, RTf.rest hO r (fun b hb => k b (by rw [ef]; simp [hb]))⟩
theorem RTf.rest (hO : ∀ a, O' a → O a) : ∀ {t : List (Str × T)} {v : List (Str × V)} {f : List Addr}, RTf c O H t v f → (∀ a ∈ f, ¬ O' a) → RDf c O' H (T.toDf t) v
  | [], _, _, h, _ => h.1
  | (_, _) :: _, _, _, ⟨v, r, f1, f2, e, h, t, ef⟩, k => ⟨v, r, e, h.rest hO (fun b hb => k b (by rw [ef]; simp [hb])), RTf.rest hO t (fun b hb => k b (by rw [ef]; simp [hb]))⟩
end

/-! ### the slots -/
abbrev Env := List (Option T)
def RS (c : Vb) (O : Addr → Prop) (H : Hp) : Env → L2.St → List Addr → Prop
  | [], σ, fp => σ = [] ∧ fp = []
  | none :: ρ, σ, fp => ∃ s r, σ = s :: r ∧ RS c O H ρ r fp
  | some t :: ρ, σ, fp => ∃ v r f1 f2, σ = some v :: r ∧ RT c O H t v f1 ∧ RS c O H ρ r f2 ∧ fp = f1 ++ f2
/-- a slot holds a caught exception -/
def PinOk (c : Vb) (O : Addr → Prop) (H : Hp) (σ : L2.St) (p : Pin) : Prop := σ[p.i]? = some (some (.ref p.a)) ∧ ∀ q, p.d = some q → (H q.1 = some (.xd q.2.1) ∧ ¬ O q.1) ∧ RDf c O H q.2.2 q.2.1
theorem PinOk.stb {σ : L2.St} {p : Pin} (h : PinOk c O H σ p) (s : Stb O H O' H') : PinOk c O' H' σ p := ⟨h.1, fun q e => by
  obtain ⟨⟨h1, h2⟩, h3⟩ := h.2 q e
  exact ⟨⟨(s.1 _ h2 (.of h1)).2.2.2.2 _ h1, s.no h2 (.of h1)⟩, h3.stb s⟩⟩
structure SR (c : Vc) (O : Addr → Prop) (fp : List Addr) (H : Hp) (ρ : Env) (σ : L2.St) : Prop where
  rs : RS c O H ρ σ fp
  nd : fp.Nodup
  ow : ∀ b ∈ fp, O b
  tr : ∀ b, O b → nT (H b)
  tb : Tabs c H
  px : ∀ p ∈ c.xs, PinOk c O H σ p
structure Ext (fp : List Addr) (O : Addr → Prop) (H : Hp) (fp' : List Addr) (O' : Addr → Prop) (H' : Hp) : Prop where
  kp : ∀ b, nT (H b) → b ∉ fp → H' b = H b
  th : ∀ b, H b ≠ none → H' b ≠ none
  ok : ∀ b, O b → b ∉ fp → O' b
  on : ∀ b, O' b → O b ∨ H b = none
  fn : ∀ b ∈ fp', b ∈ fp ∨ H b = none
theorem Ext.refl {fp : List Addr} : Ext fp O H fp O H := ⟨fun _ _ _ => rfl, fun _ h => h, fun _ h _ => h, fun _ h => .inl h, fun _ h => .inl h⟩
theorem Ext.trans {f1 f2 f3 : List Addr} {O1 O2 O3 : Addr → Prop} {H1 H2 H3 : Hp} (a : Ext f1 O1 H1 f2 O2 H2) (b : Ext f2 O2 H2 f3 O3 H3) (tr : ∀ b, O1 b → nT (H1 b)) : Ext f1 O1 H1 f3 O3 H3 where
  kp := fun x h n => (b.kp x (by rw [a.kp x h n]; exact h) fun q => (a.fn x q).elim n h.ne).trans (a.kp x h n)
  th := fun x h => b.th x (a.th x h)
  ok := fun x h n => b.ok x (a.ok x h n) fun q => (a.fn x q).elim n (tr x h).ne
  on := fun x h => (b.on x h).elim (a.on x) fun q => .inr (Classical.byContradiction fun z => a.th x z q)
  fn := fun x h => (b.fn x h).elim (a.fn x) fun q => .inr (Classical.byContradiction fun z => a.th x z q)
theorem Ext.stb {f1 f2 : List Addr} {O1 O2 : Addr → Prop} {H1 H2 : Hp} (a : Ext f1 O1 H1 f2 O2 H2) (ow : ∀ b ∈ f1, O1 b) : Stb O1 H1 O2 H2 :=
  .of (fun x n h => a.kp x h fun q => n (ow x q)) a.on
/-- nothing that is tracked has changed -/
def Ins (H H' : Hp) : Prop := ∀ a, nT (H a) → H' a = H a
theorem Ins.refl : Ins H H := fun _ _ => rfl
theorem Ins.trans {H1 H2 H3 : Hp} (a : Ins H1 H2) (b : Ins H2 H3) : Ins H1 H3 := fun x h => (b x (by rw [a x h]; exact h)).trans (a x h)
theorem RS.len : ∀ {ρ : Env} {σ : L2.St} {fp : List Addr}, RS c O H ρ σ fp → σ.length = ρ.length
  | [], _, _, ⟨e, _⟩ => by rw [e]; rfl
  | none :: _, _, _, ⟨_, _, e, r⟩ => by rw [e]; simp [RS.len r]
  | some _ :: _, _, _, ⟨_, _, _, _, e, _, r, _⟩ => by rw [e]; simp [RS.len r]
theorem RS.stb (s : Stb O H O' H') : ∀ {ρ : Env} {σ : L2.St} {f : List Addr}, RS c O H ρ σ f → (∀ a ∈ f, H' a = H a) → RS c O' H' ρ σ f
  | [], _, _, h, _ => h
  | none :: _, _, _, ⟨s', r, e, h⟩, k => ⟨s', r, e, RS.stb s h k⟩
  | some _ :: _, _, _, ⟨v, r, f1, f2, e, h, t, ef⟩, k => ⟨v, r, f1, f2, e, h.stb s (fun b hb => k b (by rw [ef]; simp [hb])), RS.stb s t (fun b hb => k b (by rw [ef]; simp [hb])), ef⟩
/-- the i-th slot: its own part, the rest's -/
theorem RS.get : ∀ {ρ : Env} {σ : L2.St} {fp : List Addr} {i : Nat} {t : T}, RS c O H ρ σ fp → ρ[i]? = some (some t) → ∃ v f fl fr, σ[i]? = some (some v) ∧ RT c O H t v f ∧ fp = fl ++ f ++ fr ∧
    (∀ {O' : Addr → Prop} {H' : Hp} {t' : T} {v' : V} {f' : List Addr}, Stb O H O' H' → (∀ a ∈ fl ++ fr, H' a = H a) → RT c O' H' t' v' f' → RS c O' H' (ρ.set i (some t')) (σ.set i (some v')) (fl ++ f' ++ fr)) ∧
    (∀ {O' : Addr → Prop} {H' : Hp} {s' : Option V}, Stb O H O' H' → (∀ a ∈ fl ++ fr, H' a = H a) → RS c O' H' (ρ.set i none) (σ.set i s') (fl ++ fr))
  | [], _, _, _, _, _, h => by simp at h
  | none :: ρ, _, _, 0, _, _, h => by simp at h
  | none :: ρ, _, _, i + 1, t, ⟨s', r, e, h⟩, q => by
    obtain ⟨v, f, fl, fr, h1, h2, h3, h4, h5⟩ := RS.get (i := i) h (by simpa using q)
    exact ⟨v, f, fl, fr, by rw [e]; simpa using h1, h2, h3, fun s k z => ⟨s', _, by rw [e]; rfl, h4 s k z⟩, fun s k => ⟨s', _, by rw [e]; rfl, h5 s k⟩⟩
  | some t0 :: ρ, _, _, 0, t, ⟨v, r, f1, f2, e, h, z, ef⟩, q => by
    have et : t0 = t := by simpa using q
    subst et
    refine ⟨v, f1, [], f2, by rw [e]; rfl, h, by rw [ef]; rfl, fun s k y => ⟨_, r, _, f2, by rw [e]; rfl, y, RS.stb s z (fun a ha => k a (by simpa using ha)), by simp⟩, @fun _ _ s2 s k => ⟨s2, r, by rw [e]; rfl, RS.stb s z (fun a ha => k a (by simpa using ha))⟩⟩
  | some t0 :: ρ, _, _, i + 1, t, ⟨v, r, f1, f2, e, h, z, ef⟩, q => by
    obtain ⟨v', f, fl, fr, h1, h2, h3, h4, h5⟩ := RS.get (i := i) z (by simpa using q)
    refine ⟨v', f, f1 ++ fl, fr, by rw [e]; simpa using h1, h2, by rw [ef, h3]; simp, fun s k y => ⟨v, _, f1, _, by rw [e]; rfl, h.stb s (fun a ha => k a (by simp [ha])), h4 s (fun a ha => k a (by simp at ha ⊢; rcases ha with ha | ha <;> simp [ha])) y, by simp⟩,
      fun s k => ⟨v, _, f1, _, by rw [e]; rfl, h.stb s (fun a ha => k a (by simp [ha])), h5 s (fun a ha => k a (by simp at ha ⊢; rcases ha with ha | ha <;> simp [ha])), by simp⟩⟩
/-- a slot that holds nothing known, or that is stored anew -/
theorem RS.put : ∀ {ρ : Env} {σ : L2.St} {fp : List Addr} {i : Nat}, RS c O H ρ σ fp → i < ρ.length → ∃ fl f fr, fp = fl ++ f ++ fr ∧
    (∀ {O' : Addr → Prop} {H' : Hp} {t' : T} {v' : V} {f' : List Addr}, Stb O H O' H' → (∀ a ∈ fl ++ fr, H' a = H a) → RT c O' H' t' v' f' → RS c O' H' (ρ.set i (some t')) (σ.set i (some v')) (fl ++ f' ++ fr)) ∧
    (∀ {O' : Addr → Prop} {H' : Hp} {s' : Option V}, Stb O H O' H' → (∀ a ∈ fl ++ fr, H' a = H a) → RS c O' H' (ρ.set i none) (σ.set i s') (fl ++ fr))
  | [], _, _, _, _, h => by simp at h
  | none :: ρ, _, fp, 0, ⟨s', r, e, h⟩, _ => ⟨[], [], fp, by simp, fun s k y => ⟨_, r, _, fp, by rw [e]; rfl, y, RS.stb s h (fun a ha => k a (by simpa using ha)), by simp⟩, @fun _ _ s2 s k => ⟨s2, r, by rw [e]; rfl, RS.stb s h (fun a ha => k a (by simpa using ha))⟩⟩
  | none :: ρ, _, _, i + 1, ⟨s', r, e, h⟩, q => by
    obtain ⟨fl, f, fr, h3, h4, h5⟩ := RS.put (i := i) h (by simpa using q)
    exact ⟨fl, f, fr, h3, fun s k z => ⟨s', _, by rw [e]; rfl, h4 s k z⟩, fun s k => ⟨s', _, by rw [e]; rfl, h5 s k⟩⟩
  | some t0 :: ρ, _, _, 0, ⟨v, r, f1, f2, e, h, z, ef⟩, q =>
    ⟨[], f1, f2, by rw [ef]; rfl, fun s k y => ⟨_, r, _, f2, by rw [e]; rfl, y, RS.stb s z (fun a ha => k a (by simpa using ha)), by simp⟩, @fun _ _ s2 s k => ⟨s2, r, by rw [e]; rfl, RS.stb s z (fun a ha => k a (by simpa using ha))⟩⟩
  | some t0 :: ρ, _, _, i + 1, ⟨v, r, f1, f2, e, h, z, ef⟩, q => by
    obtain ⟨fl, f, fr, h3, h4, h5⟩ := RS.put (i := i) z (by simpa using q)
    refine ⟨f1 ++ fl, f, fr, by rw [ef, h3]; simp, fun s k y => ⟨v, _, f1, _, by rw [e]; rfl, h.stb s (fun a ha => k a (by simp [ha])), h4 s (fun a ha => k a (by simp at ha ⊢; rcases ha with ha | ha <;> simp [ha])) y, by simp⟩,
      fun s k => ⟨v, _, f1, _, by rw [e]; rfl, h.stb s (fun a ha => k a (by simp [ha])), h5 s (fun a ha => k a (by simp at ha ⊢; rcases ha with ha | ha <;> simp [ha])), by simp⟩⟩
end Vl

namespace Vl
open PySem PySem.Spec PyProof.Rows L2

inductive Val where
  | fr (d : D) | nw (t : T) | al (i : Nat)
structure Exn where
  n : Str
  fs : List (Str × D)
inductive Out (α : Type) where
  | val (a : α) (ρ : Env) | exc (x : Exn) (ρ : Env)
abbrev FG (α : Type) := Env → Option (Out α)
abbrev FE := FG Val
def bnd {α β : Type} (f : FG α) (k : α → FG β) : FG β := fun ρ => match f ρ with
  | none => none
  | some (.exc x ρ') => some (.exc x ρ')
  | some (.val a ρ') => k a ρ'
def ret {α : Type} (a : α) : FG α := fun ρ => some (.val a ρ)
def lft {α : Type} (o : Option α) : FG α := fun ρ => o.map fun a => .val a ρ

/-- a relation between a result and what stands for it -/
abbrev Rl (α β : Type) := (Addr → Prop) → List Addr → Hp → Env → L2.St → α → β → List Addr → Prop
def RV (c : Vc) : Rl Val V := fun O fp H _ σ w u g => match w with
  | .fr d => RD c O H d u ∧ g = []
  | .nw t => RT c O H t u g ∧ g.Nodup ∧ ∀ b ∈ g, O b ∧ b ∉ fp
  | .al i => σ[i]? = some (some u) ∧ g = []
def RVs (c : Vc) : Rl (List Val) (List V) := fun O fp H ρ σ ws us g => match ws with
  | [] => us = [] ∧ g = []
  | w :: ws => ∃ u r g1 g2, us = u :: r ∧ RV c O fp H ρ σ w u g1 ∧ RVs c O fp H ρ σ ws r g2 ∧ g = g1 ++ g2 ∧ ∀ b ∈ g1, b ∉ g2
def RB : Rl Bool Bool := fun _ _ _ _ _ b k g => b = k ∧ g = []
def RX (c : Vb) (O : Addr → Prop) (H : Hp) (x : Exn) (cls : Value) (d : Option Addr) : Prop :=
  cls = .ref (c.cl x.n) ∧ match x.fs with
    | [] => d = none
    | fs => ∃ dd vs, d = some dd ∧ (H dd = some (.xd vs) ∧ ¬ O dd) ∧ RDf c O H fs vs
/-- new, or one of the slots' own ahead -/
def Fr (g fp : List Addr) (H : Hp) : Prop := ∀ a ∈ g, H a = none ∨ a ∈ fp
def Post {α β : Type} (rl : Rl α β) (c : Vc) (W : WX) (b : Bool) (O : Addr → Prop) (fp : List Addr) (H : Hp) (σ : L2.St) (r : Option (Out α)) (Q : β → Hp → Prop) : Prop := match r with
  | none => False
  | some (.val w ρ') => ∀ u H' O' fp' g, SR c O' fp' H' ρ' σ → Ext fp O H fp' O' H' → (b = true → Ins H H') → rl O' fp' H' ρ' σ w u g → Fr g fp H → Q u H'
  | some (.exc x ρ') => ∀ cls d H' O' fp', SR c O' fp' H' ρ' σ → Ext fp O H fp' O' H' → RX c O' H' x cls d → W cls d σ H'
abbrev TEG (β : Type) := L2.St → Hp → (β → Hp → Prop) → Prop
def Ok {α β : Type} (rl : Rl α β) (c : Vc) (W : WX) (b : Bool) (f : FG α) (te : TEG β) : Prop :=
  ∀ O fp H ρ σ Q, SR c O fp H ρ σ → Post rl c W b O fp H σ (f ρ) Q → te σ H Q
def VE (c : Vc) (X : Cx) (W : WX) (b : Bool) (e : Expr) (f : FE) : Prop := ∃ te : TE, PE X e te ∧ Ok (RV c) c W b f te
def VA (c : Vc) (X : Cx) (W : WX) (b : Bool) (es : List Expr) (f : FG (List Val)) : Prop := ∃ te : TA, PA X es te ∧ Ok (RVs c) c W b f te
def VT (c : Vc) (X : Cx) (W : WX) (b : Bool) (e : Expr) (f : FG Bool) : Prop := ∃ te : TT, PT X e te ∧ Ok RB c W b f te
def VW (c : Vc) (X : Cx) (W : WX) (b : Bool) (e : Expr) (f : FG Bool) : Prop := ∃ te : TT, PW X e te ∧ Ok RB c W b f te

section
variable {c : Vc} {X : Cx} {W : WX} {b b1 b2 : Bool} {α β γ δ : Type} {O O1 O2 : Addr → Prop} {fp fp1 fp2 : List Addr} {H H1 H2 : Hp} {ρ ρ1 ρ2 : Env} {σ : L2.St}
/-- THE CHAIN: one more part is worked on -/
theorem Ok.thn {rl1 : Rl α β} {rl : Rl γ δ} {f : FG α} {te : TEG β} {k : α → FG γ} {Q : δ → Hp → Prop} {Qx : β → Hp → Prop} (ok : Ok rl1 c W b1 f te) (S0 : ∀ b, O b → nT (H b)) (S1 : SR c O1 fp1 H1 ρ1 σ) (E1 : Ext fp O H fp1 O1 H1) (I1 : b = true → Ins H H1)
    (h : Post rl c W b O fp H σ (bnd f k ρ1) Q) (hb : b = true → b1 = true)
    (next : ∀ w ρ2 u H2 O2 fp2 g2, f ρ1 = some (.val w ρ2) → SR c O2 fp2 H2 ρ2 σ → Ext fp O H fp2 O2 H2 → Ext fp1 O1 H1 fp2 O2 H2 → (b = true → Ins H H2) → rl1 O2 fp2 H2 ρ2 σ w u g2 → Fr g2 fp1 H1 → Post rl c W b O fp H σ (k w ρ2) Q → Qx u H2) :
    te σ H1 Qx := by
  refine ok O1 fp1 H1 ρ1 σ Qx S1 ?_
  unfold bnd at h
  revert h
  cases e : f ρ1 with
  | none => exact fun h => h
  | some o =>
    cases o with
    | exc x ρ' => exact fun h cls d H' O' fp' S E R => h cls d H' O' fp' S (E1.trans E S0) R
    | val w ρ' => exact fun h u H' O' fp' g S E I R F => next w ρ' u H' O' fp' g e S (E1.trans E S0) E (fun q => (I1 q).trans (I (hb q))) R F h
theorem SR.stb (S : SR c O fp H ρ σ) (E : Ext fp O H fp1 O1 H1) : Stb O H O1 H1 := E.stb S.ow
theorem RV.per {w : Val} {u : V} {g : List Addr} (r : RV c O fp H ρ σ w u g) (S : SR c O fp H ρ σ) (E : Ext fp O H fp1 O1 H1) : RV c O1 fp1 H1 ρ1 σ w u g := by
  cases w with
  | fr d => exact ⟨r.1.stb (S.stb E), r.2⟩
  | al i => exact r
  | nw t =>
    obtain ⟨h, nd, k⟩ := r
    have tr := h.trk
    exact ⟨h.stb (S.stb E) fun a ha => E.kp a (tr a ha) (k a ha).2, nd, fun a ha => ⟨E.ok a (k a ha).1 (k a ha).2, fun q => (E.fn a q).elim (k a ha).2 (tr a ha).ne⟩⟩
theorem RVs.per : ∀ {ws : List Val} {us : List V} {g : List Addr}, RVs c O fp H ρ σ ws us g → SR c O fp H ρ σ → Ext fp O H fp1 O1 H1 → RVs c O1 fp1 H1 ρ1 σ ws us g
  | [], _, _, h, _, _ => h
  | _ :: _, _, _, ⟨u, r, g1, g2, e, h, t, eg, dj⟩, S, E => ⟨u, r, g1, g2, e, h.per S E, RVs.per t S E, eg, dj⟩
theorem RV.trk {w : Val} {u : V} {g : List Addr} (r : RV c O fp H ρ σ w u g) : ∀ a ∈ g, nT (H a) := by
  cases w with
  | fr d => rw [r.2]; intro a ha; cases ha
  | al i => rw [r.2]; intro a ha; cases ha
  | nw t => exact r.1.trk
theorem RVs.trk : ∀ {ws : List Val} {us : List V} {g : List Addr}, RVs c O fp H ρ σ ws us g → ∀ a ∈ g, nT (H a)
  | [], _, _, h, a, ha => by rw [h.2] at ha; cases ha
  | _ :: _, _, _, ⟨u, r, g1, g2, e, h, t, eg, dj⟩, a, ha => by
    rw [eg] at ha
    rcases List.mem_append.mp ha with q | q
    · exact h.trk a q
    · exact RVs.trk t a q
theorem RV.nod {w : Val} {u : V} {g : List Addr} (r : RV c O fp H ρ σ w u g) : g.Nodup := by
  cases w with
  | fr d => rw [r.2]; exact .nil
  | al i => rw [r.2]; exact .nil
  | nw t => exact r.2.1
theorem RV.own {w : Val} {u : V} {g : List Addr} (r : RV c O fp H ρ σ w u g) : ∀ a ∈ g, O a ∧ a ∉ fp := by
  cases w with
  | fr d => rw [r.2]; intro a ha; cases ha
  | al i => rw [r.2]; intro a ha; cases ha
  | nw t => exact r.2.2

/-! ### looking at a value -/
/-- the outer part may be one's own, all within stands still -/
def Pk (c : Vb) (O : Addr → Prop) (H : Hp) : D → V → Prop
  | .lst xs, v => ∃ a vs, v = .ref a ∧ H a = some (.lst vs) ∧ RDs c O H xs vs
  | .dK kvs, v => ∃ a vs, v = .ref a ∧ strip (H a) = some (.dK vs) ∧ RDk c O H kvs vs
  | .dT kvs, v => ∃ a vs, v = .ref a ∧ strip (H a) = some (.dT vs) ∧ RDt c O H kvs vs
  | .obj n fs, v => ∃ a dx vs, v = .ref a ∧ H a = some (.ins (c.cl n) dx vs) ∧ RDf c O H fs vs
  | d, v => RD c O H d v
theorem RD.pk {d : D} {v : V} (r : RD c O H d v) : Pk c O H d v := by
  cases d with
  | lst xs => obtain ⟨a, vs, e, h, r⟩ := r; exact ⟨a, vs, e, h.1, r⟩
  | dK xs => obtain ⟨a, vs, e, h, r⟩ := r; exact ⟨a, vs, e, h.1, r⟩
  | dT xs => obtain ⟨a, vs, e, h, r⟩ := r; exact ⟨a, vs, e, h.1, r⟩
  | obj n fs => obtain ⟨a, dx, vs, e, h, r⟩ := r; exact ⟨a, dx, vs, e, h.1, r⟩
  | tup xs => exact r
  | _ => exact r
def T.flds : List (Str × T) → Option (List (Str × D))
  | [] => some []
  | (k, .fr d) :: r => (T.flds r).map fun l => (k, d) :: l
  | _ => none
def T.pk : T → Option D
  | .fr d => some d | .lst xs => some (.lst xs) | .dK k => some (.dK k) | .dT k => some (.dT k)
  | .obj n fs => (T.flds fs).map (.obj n)
theorem flds_rd : ∀ {fs : List (Str × T)} {l : List (Str × D)} {vs : List (Str × V)} {f : List Addr}, T.flds fs = some l → RTf c O H fs vs f → RDf c O H l vs
  | [], l, vs, f, e, h => by
    cases e; exact h.1
  | (k, .fr d) :: r, l, vs, f, e, h => by
    unfold T.flds at e
    cases q : T.flds r with
    | none => rw [q] at e; cases e
    | some l' =>
      rw [q] at e; cases e
      obtain ⟨v, r', f1, f2, e1, h1, h2, _⟩ := h
      exact ⟨v, r', e1, h1.1, flds_rd q h2⟩
  | (k, .lst _) :: r, l, vs, f, e, h => by simp [T.flds] at e
  | (k, .dK _) :: r, l, vs, f, e, h => by simp [T.flds] at e
  | (k, .dT _) :: r, l, vs, f, e, h => by simp [T.flds] at e
  | (k, .obj _ _) :: r, l, vs, f, e, h => by simp [T.flds] at e
theorem RT.pk {t : T} {d : D} {v : V} {f : List Addr} (h : RT c O H t v f) (e : t.pk = some d) : Pk c O H d v := by
  cases t with
  | fr d' => cases e; exact h.1.pk
  | lst xs => cases e; obtain ⟨a, vs, e, h, r, _⟩ := h; exact ⟨a, vs, e, h, r⟩
  | dK xs => cases e; obtain ⟨a, vs, e, h, r, _⟩ := h; exact ⟨a, vs, e, by rw [h]; rfl, r⟩
  | dT xs => cases e; obtain ⟨a, vs, e, h, r, _⟩ := h; exact ⟨a, vs, e, by rw [h]; rfl, r⟩
  | obj n fs =>
    obtain ⟨a, dx, vs, fq, e1, h1, r, _⟩ := h
    have e : (T.flds fs).map (.obj n) = some d := e
    cases q : T.flds fs with
    | none => rw [q] at e; cases e
    | some l => rw [q] at e; cases e; exact ⟨a, dx, vs, e1, h1, flds_rd q r⟩
def vw (ρ : Env) : Val → Option D
  | .fr d => some d
  | .nw t => t.pk
  | .al i => match ρ[i]? with
    | some (some t) => t.pk
    | _ => none
theorem RV.vw {w : Val} {u : V} {g : List Addr} {d : D} (r : RV c O fp H ρ σ w u g) (S : SR c O fp H ρ σ) (e : vw ρ w = some d) : Pk c O H d u := by
  cases w with
  | fr d' => cases e; exact r.1.pk
  | nw t => exact r.1.pk e
  | al i =>
    have e : (match ρ[i]? with | some (some t) => t.pk | _ => none) = some d := e
    cases q : ρ[i]? with
    | none => rw [q] at e; cases e
    | some o =>
      cases o with
      | none => rw [q] at e; cases e
      | some t =>
        rw [q] at e
        obtain ⟨v, f, fl, fr, h1, h2, _⟩ := S.rs.get q
        rw [r.1] at h1
        cases h1
        exact h2.pk e
/-- what a temporary, or a thing at rest, is when it is put away -/
def fz : Val → Option D
  | .fr d => some d
  | .nw t => some t.toD
  | .al _ => none

/-! ### a builtin's answer: nothing changes but new things -/
structure PR (c : Vb) (O : Addr → Prop) (H : Hp) (w : Val) (u : V) (H' : Hp) (g : List Addr) : Prop where
  kp : ∀ b, H b ≠ none → H' b = H b
  fr : ∀ a ∈ g, H a = none ∧ nT (H' a)
  nd : g.Nodup
  rl : match w with
    | .fr d => RD c (fun a => O a ∨ a ∈ g) H' d u ∧ g = []
    | .nw t => RT c (fun a => O a ∨ a ∈ g) H' t u g
    | .al _ => False
theorem PR.ext {w : Val} {u : V} {H' : Hp} {g : List Addr} (p : PR c O H w u H' g) : Ext fp O H fp (fun a => O a ∨ a ∈ g) H' :=
  ⟨fun b h _ => p.kp b h.ne, fun b h => by rw [p.kp b h]; exact h, fun b h _ => .inl h, fun b h => h.imp id fun q => (p.fr b q).1, fun b h => .inl h⟩
theorem SR.grow {g : List Addr} {H' : Hp} (S : SR c O fp H ρ σ) (kp : ∀ b, H b ≠ none → H' b = H b) (fr : ∀ a ∈ g, H a = none ∧ nT (H' a)) : SR c (fun a => O a ∨ a ∈ g) fp H' ρ σ :=
  ⟨S.rs.stb (.of (fun a _ h => kp a h.ne) fun a h => h.imp id fun q => (fr a q).1) fun a ha => kp a (S.tr a (S.ow a ha)).ne, S.nd, fun b hb => .inl (S.ow b hb), fun b h => h.elim (fun q => by rw [kp b (S.tr b q).ne]; exact S.tr b q) fun q => (fr b q).2, fun P hP => by
    obtain ⟨ps, e, k⟩ := S.tb P hP
    exact ⟨ps, by rw [kp P (by rw [e]; simp)]; exact e, k⟩, fun p hp => (S.px p hp).stb (.of (fun a _ h => kp a h.ne) fun a h => h.imp id fun q => (fr a q).1)⟩
theorem PR.rv {w : Val} {u : V} {H' : Hp} {g : List Addr} (p : PR c O H w u H' g) (S : SR c O fp H ρ σ) : RV c (fun a => O a ∨ a ∈ g) fp H' ρ σ w u g := by
  have r := p.rl
  cases w with
  | fr d => exact r
  | al i => exact r.elim
  | nw t => exact ⟨r, p.nd, fun b hb => ⟨.inr hb, fun q => (S.tr b (S.ow b q)).ne (p.fr b hb).1⟩⟩
/-- the end of a chain: a builtin answers -/
theorem Post.pr {Q : V → Hp → Prop} {w : Val} {u : V} {H' : Hp} {g : List Addr} (h : Post (RV c) c W b O fp H σ (some (.val w ρ1)) Q) (S0 : ∀ b, O b → nT (H b)) (S : SR c O1 fp1 H1 ρ1 σ) (E : Ext fp O H fp1 O1 H1) (I : b = true → Ins H H1) (p : PR c O1 H1 w u H' g) : Q u H' :=
  h u H' _ fp1 g (S.grow p.kp p.fr) (E.trans p.ext S0) (fun q => (I q).trans fun a h => p.kp a h.ne) (p.rv S) fun a ha => .inl (Classical.byContradiction fun z => E.th a z (p.fr a ha).1)
/-- .. with no change -/
theorem PR.same {d : D} {u : V} (r : RD c O H d u) : PR c O H (.fr d) u H [] :=
  ⟨fun _ _ => rfl, fun _ h => (by cases h), .nil, ⟨r.stb (.less fun a h => h.elim id fun q => (by cases q)), rfl⟩⟩
theorem grow_stb {p : Addr} {o : HO} {g : List Addr} (hp : H p = none) (hg : ∀ a ∈ g, H a = none) : Stb O H (fun a => O a ∨ a ∈ g) (upd H p o) :=
  .of (fun a _ h => upd_ne (fun q => h.ne (by rw [q]; exact hp))) fun a h => h.imp id (hg a)
/-- .. a new list of one's own -/
theorem PR.lst {xs : List D} {vs : List V} {p : Addr} (hp : H p = none) (r : RDs c O H xs vs) : PR c O H (.nw (.lst xs)) (.ref p) (upd H p (.lst vs)) [p] :=
  ⟨fun b h => upd_ne (fun q => h (by rw [q]; exact hp)), fun a ha => by simp at ha; subst ha; exact ⟨hp, .of upd_same⟩, by simp, ⟨p, vs, rfl, upd_same, r.stb (grow_stb hp (fun a ha => by simp at ha; rw [ha]; exact hp)), rfl⟩⟩
/-- .. a new tuple -/
theorem PR.tup {xs : List D} {vs : List V} {p : Addr} (hp : H p = none) (tr : ∀ b, O b → nT (H b)) (r : RDs c O H xs vs) : PR c O H (.fr (.tup xs)) (.ref p) (upd H p (.tup vs)) [] :=
  ⟨fun b h => upd_ne (fun q => h (by rw [q]; exact hp)), fun a ha => (by cases ha), .nil, ⟨⟨p, vs, rfl, ⟨upd_same, fun q => q.elim (fun z => (tr p z).ne hp) fun z => (by cases z)⟩, r.stb (grow_stb hp (fun a ha => (by cases ha)))⟩, rfl⟩⟩
end
end Vl

namespace Vl
open PySem PySem.Spec PyProof.Rows L2

section
variable {c : Vc} {X : Cx} {W : WX} {b b1 b2 : Bool} {α β γ δ : Type} {O O1 O2 : Addr → Prop} {fp fp1 fp2 : List Addr} {H H1 H2 : Hp} {ρ ρ1 ρ2 : Env} {σ : L2.St}
theorem SR.tr0 (S : SR c O fp H ρ σ) : ∀ b, O b → nT (H b) := S.tr
/-! ### constants, names -/
def vC (d : D) : FE := ret (.fr d)
theorem ok_c {d : D} {u : V} (r : ∀ O H, RD c O H d u) : Ok (RV c) c W b (vC d) (tC u) := fun O fp H ρ σ Q S h =>
  h u H O fp [] S .refl (fun _ => .refl) ⟨r O H, rfl⟩ (fun _ q => (by cases q))
theorem ve_int {i j pos} : VE c X W b (.Constant (.int i) j pos) (vC (.int i)) := ⟨_, pe_int, ok_c fun _ _ => rfl⟩
theorem ve_bl {i j pos} : VE c X W b (.Constant (.bool i) j pos) (vC (.bl i)) := ⟨_, pe_bl, ok_c fun _ _ => rfl⟩
theorem ve_non {j pos} : VE c X W b (.Constant .none j pos) (vC .non) := ⟨_, pe_non, ok_c fun _ _ => rfl⟩
theorem ve_str {x j pos} : VE c X W b (.Constant (.str x) j pos) (vC (.str x)) := ⟨_, pe_str, ok_c fun _ _ => rfl⟩
/-- a slot -/
def vV (i : Nat) : FE := fun ρ => match ρ[i]? with
  | some (some (.fr d)) => some (.val (.fr d) ρ)
  | some (some _) => some (.val (.al i) ρ)
  | _ => none
theorem ok_v {i : Nat} : Ok (RV c) c W b (vV i) (tVar i) := fun O fp H ρ σ Q S h => by
  unfold vV at h
  revert h
  cases e : ρ[i]? with
  | none => exact fun h => h.elim
  | some o =>
    cases o with
    | none => exact fun h => h.elim
    | some t =>
      intro h
      obtain ⟨v, f, fl, fr, h1, h2, _⟩ := S.rs.get e
      refine ⟨v, h1, ?_⟩
      cases t with
      | fr d => exact h v H O fp [] S .refl (fun _ => .refl) ⟨h2.1, rfl⟩ (fun _ q => (by cases q))
      | _ => exact h v H O fp [] S .refl (fun _ => .refl) ⟨h1, rfl⟩ (fun _ q => (by cases q))
theorem ve_v (i : Nat) {x : Str} {pos : Pos} (hN : X.N[i]? = some x := by rfl) (hv : Vis X.env.scope x := by first | exact Or.inl rfl | exact Or.inr (Or.inl rfl) | exact Or.inr (Or.inr rfl)) (hd : (x == ("__debug__" : Str)) = false := by decide)
    (hcd : (x == ("__classdict__" : Str)) = false := by decide) : VE c X W b (.Name x pos) (vV i) := ⟨_, pv i hN hv hd hcd, ok_v⟩
/-- a def, a class of the text as a value; a constant of the module -/
theorem ve_g {x : Str} {d : D} {v : V} {u : Value} {pos : Pos} (hg : Gl X x) (hm : X.mg x = some u) (r : RelV v u) (rd : ∀ O H, RD c O H d v) (hd : (x == ("__debug__" : Str)) = false := by decide) : VE c X W b (.Name x pos) (vC d) :=
  ⟨_, pe_glob hg hm r hd, ok_c rd⟩

/-! ### two values, one answer -/
/-- g is what the operator gives -/
def OpS (c : Vc) (r : R2) (g : D → D → Option Val) : Prop := ∀ O H x y dx dy w (Q : VK), (∀ b, O b → nT (H b)) → Pk c O H dx x → Pk c O H dy y → g dx dy = some w → (∀ u H' gg, PR c O H w u H' gg → Q u H') → r x y H Q
def w2 (g : D → D → Option Val) (x y : Val) (ρ : Env) : Option Val := (vw ρ x).bind fun dx => (vw ρ y).bind fun dy => g dx dy
theorem w2_some {g : D → D → Option Val} {x y w : Val} {ρ : Env} (h : w2 g x y ρ = some w) : ∃ dx dy, vw ρ x = some dx ∧ vw ρ y = some dy ∧ g dx dy = some w := by
  unfold w2 at h
  obtain ⟨dx, h1, h⟩ := Option.bind_eq_some_iff.mp h
  obtain ⟨dy, h2, h⟩ := Option.bind_eq_some_iff.mp h
  exact ⟨dx, dy, h1, h2, h⟩
def v2 (g : D → D → Option Val) (x y : Val) : FE := fun ρ => match w2 g x y ρ with
  | some w => some (.val w ρ)
  | none => none
def vOp (g : D → D → Option Val) (fa fb : FE) : FE := bnd fa fun x => bnd fb fun y => v2 g x y
variable {a e e' : Expr} {fa fb fc : FE} {pos : Pos} {ta tb : TE} {r : R2} {g : D → D → Option Val}
theorem Post.op2 {Q : V → Hp → Prop} {x y : Val} {u v : V} {g1 g2 : List Addr} (hr : OpS c r g) (S0 : ∀ b, O b → nT (H b)) (S : SR c O1 fp1 H1 ρ1 σ) (E : Ext fp O H fp1 O1 H1) (I : b = true → Ins H H1) (rx : RV c O1 fp1 H1 ρ1 σ x u g1) (ry : RV c O1 fp1 H1 ρ1 σ y v g2)
    (h : Post (RV c) c W b O fp H σ (v2 g x y ρ1) Q) : r u v H1 Q := by
  unfold v2 at h
  revert h
  cases e : w2 g x y ρ1 with
  | none => exact fun h => h.elim
  | some w =>
    intro h
    obtain ⟨dx, dy, ex, ey, eg⟩ := w2_some e
    exact hr O1 H1 u v dx dy w Q S.tr (rx.vw S ex) (ry.vw S ey) eg fun u' H' gg p => Post.pr h S0 S E I p
theorem ok_op (hr : OpS c r g) (ha : Ok (RV c) c W b fa ta) (hb : Ok (RV c) c W b fb tb) : Ok (RV c) c W b (vOp g fa fb) (tOp r ta tb) := fun O fp H ρ σ Q S h =>
  ha.thn S.tr S .refl (fun _ => .refl) h id fun x ρ1 u H1 O1 fp1 g1 _ S1 E1 _ I1 R1 F1 h1 =>
    hb.thn S.tr S1 E1 I1 h1 id fun y ρ2 v H2 O2 fp2 g2 _ S2 E2 E12 I2 R2 F2 h2 => Post.op2 hr S.tr S2 E2 I2 (R1.per S1 E12) R2 h2
theorem ve_op {op : Operator} (ho : OpR X (binaryOp op) r) (hr : OpS c r g) (ha : VE c X W b a fa) (hb : VE c X W b e fb) : VE c X W b (.BinOp a op e pos) (vOp g fa fb) := by
  obtain ⟨ta, pa, oa⟩ := ha
  obtain ⟨tb, pb, ob⟩ := hb
  exact ⟨_, pe_op ho pa pb, ok_op hr oa ob⟩
theorem ve_cmp {op : CmpOp} (ho : OpR X (compareOp op) r) (hr : OpS c r g) (ha : VE c X W b a fa) (hb : VE c X W b e fb) (hm : behindInMarks op e = false) : VE c X W b (.Compare a [op] [e] pos) (vOp g fa fb) := by
  obtain ⟨ta, pa, oa⟩ := ha
  obtain ⟨tb, pb, ob⟩ := hb
  exact ⟨_, pe_cmpR ho pa pb hm, ok_op hr oa ob⟩
/-- a value that is a bool, as a test -/
def asB (x : Val) : FG Bool := match x with
  | .fr (.bl k) => ret k
  | _ => fun _ => none
theorem Post.asB {Q : Bool → Hp → Prop} {x : Val} {u : V} {g1 : List Addr} (h : Post RB c W b O fp H σ (asB x ρ1) Q) (S : SR c O1 fp1 H1 ρ1 σ) (E : Ext fp O H fp1 O1 H1) (I : b = true → Ins H H1) (rx : RV c O1 fp1 H1 ρ1 σ x u g1) : ∃ k, u = .bl k ∧ Q k H1 := by
  cases x with
  | fr d =>
    cases d with
    | bl k => exact ⟨k, rx.1, h k H1 O1 fp1 [] S E I ⟨rfl, rfl⟩ fun _ q => (by cases q)⟩
    | _ => exact (show False from h).elim
  | _ => exact (show False from h).elim
theorem vt_val (ha : VE c X W b a fa) (he : ∀ whole, isTrue a X.env whole = (do let v ← whole; standAt a.pos; holding [v] (truthy v)) := by intro _; rfl) : VT c X W b a (bnd fa asB) := by
  obtain ⟨ta, pa, oa⟩ := ha
  exact ⟨_, pt_val pa he, fun O fp H ρ σ Q S h => oa.thn S.tr S .refl (fun _ => .refl) h id fun x ρ1 u H1 O1 fp1 g1 _ S1 E1 _ I1 R1 F1 h1 => Post.asB h1 S1 E1 I1 R1⟩
theorem vt_cmp {op : CmpOp} (ho : OpR X (compareOp op) r) (hr : OpS c r g) (ha : VE c X W b a fa) (hb : VE c X W b e fb) (hm : behindInMarks op e = false) : VT c X W b (.Compare a [op] [e] pos) (bnd (vOp g fa fb) asB) := by
  obtain ⟨ta, pa, oa⟩ := ha
  obtain ⟨tb, pb, ob⟩ := hb
  exact ⟨_, pt_cmpR ho pa pb hm, fun O fp H ρ σ Q S h => (ok_op hr oa ob).thn S.tr S .refl (fun _ => .refl) h id fun x ρ1 u H1 O1 fp1 g1 _ S1 E1 _ I1 R1 F1 h1 => Post.asB h1 S1 E1 I1 R1⟩
theorem Post.v2k {rl : Rl γ δ} {Q : δ → Hp → Prop} {x y : Val} {k : Val → FG γ} (h : Post rl c W b O fp H σ (bnd (v2 g x y) k ρ) Q) : ∃ w, w2 g x y ρ = some w ∧ Post rl c W b O fp H σ (k w ρ) Q := by
  cases e : w2 g x y ρ with
  | none =>
    have e2 : bnd (v2 g x y) k ρ = none := by simp only [bnd, v2, e]
    rw [e2] at h
    exact h.elim
  | some w =>
    have e2 : bnd (v2 g x y) k ρ = k w ρ := by simp only [bnd, v2, e]
    rw [e2] at h
    exact ⟨w, rfl, h⟩
/-- a op b op' d -/
def vCh (g g' : D → D → Option Val) (fa fb fc : FE) : FE := bnd fa fun x => bnd fb fun y => bnd (v2 g x y) fun z => bnd (asB z) fun k => if k then bnd fc fun w => v2 g' y w else ret (.fr (.bl false))
theorem ok_ch {r' : R2} {g' : D → D → Option Val} {tc : TE} (hr : OpS c r g) (hr' : OpS c r' g') (ha : Ok (RV c) c W b fa ta) (hb : Ok (RV c) c W b fb tb) (hc : Ok (RV c) c W b fc tc)
    (sg : ∀ dx dy w, g dx dy = some w → ∃ k, w = .fr (.bl k)) : Ok (RV c) c W b (vCh g g' fa fb fc) (tChain r r' ta tb tc) := fun O fp H ρ σ Q S h =>
  ha.thn S.tr S .refl (fun _ => .refl) h id fun x ρ1 u H1 O1 fp1 g1 _ S1 E1 _ I1 R1 F1 h1 =>
    hb.thn S.tr S1 E1 I1 h1 id fun y ρ2 v H2 O2 fp2 g2 _ S2 E2 E12 I2 R2 F2 h2 => by
      have R1' := R1.per (ρ1 := ρ2) S1 E12
      obtain ⟨w, e, h⟩ := Post.v2k h2
      obtain ⟨dx, dy, ex, ey, eg⟩ := w2_some e
      obtain ⟨k, rfl⟩ := sg _ _ _ eg
      have h : Post (RV c) c W b O fp H σ ((if k then bnd fc fun w => v2 g' y w else ret (.fr (.bl false))) ρ2) Q := h
      refine hr O2 H2 u v dx dy _ _ S2.tr (R1'.vw S2 ex) (R2.vw S2 ey) eg fun u' H' gg p => ?_
      have hu : u' = .bl k := p.rl.1
      refine ⟨k, hu, ?_⟩
      have hg : gg = [] := p.rl.2
      subst hg
      have S3 := S2.grow p.kp p.fr
      have E3 : Ext fp2 O2 H2 fp2 _ H' := p.ext
      have I3 : b = true → Ins H H' := fun q => (I2 q).trans fun a h => p.kp a h.ne
      cases k with
      | true =>
        refine hc.thn S.tr S3 (E2.trans E3 S.tr) I3 h id fun w ρ4 u4 H4 O4 fp4 g4 _ S4 E4 E34 I4 R4 F4 h4 => ?_
        exact Post.op2 hr' S.tr S4 E4 I4 ((R2.per (ρ1 := ρ2) S2 E3).per S3 E34) R4 h4
      | false => exact h (.bl false) H' _ fp2 [] S3 (E2.trans E3 S.tr) I3 ⟨rfl, rfl⟩ fun _ q => (by cases q)
end
end Vl

namespace Vl
open PySem PySem.Spec PyProof.Rows L2

section
variable {c : Vc} {X : Cx} {W : WX} {b b1 b2 : Bool} {α β γ δ : Type} {O O1 O2 : Addr → Prop} {fp fp1 fp2 : List Addr} {H H1 H2 : Hp} {ρ ρ1 ρ2 : Env} {σ : L2.St}
variable {a e e' : Expr} {es : List Expr} {fa fb fc : FE} {pos : Pos} {ta tb : TE} {ft fu : FG Bool} {tt tu : TT} {fs : FG (List Val)} {ts : TA}
/-! ### tests -/
def vAnd (f g : FG Bool) : FG Bool := bnd f fun k => if k then g else ret false
def vOr (f g : FG Bool) : FG Bool := bnd f fun k => if k then ret true else g
def vNot (f : FG Bool) : FG Bool := bnd f fun k => ret (!k)
theorem fresh_of {g : List Addr} (E : Ext fp O H fp1 O1 H1) (F : Fr g fp1 H1) : Fr g fp H := fun a ha => (F a ha).elim (fun q => .inl (Classical.byContradiction fun z => E.th a z q)) fun q => (E.fn a q).symm
theorem ok_and (h1 : Ok RB c W b ft tt) (h2 : Ok RB c W b fu tu) : Ok RB c W b (vAnd ft fu) (tAnd tt tu) := fun O fp H ρ σ Q S h =>
  h1.thn S.tr S .refl (fun _ => .refl) h id fun k ρ1 u H1 O1 fp1 g1 _ S1 E1 _ I1 R1 F1 h' => by
    obtain ⟨e, eg⟩ := R1
    subst e
    cases k with
    | true =>
      show tu σ H1 Q
      have h'' : Post RB c W b O fp H σ (bnd fu ret ρ1) Q := by
        have : bnd fu ret ρ1 = fu ρ1 := by unfold bnd ret; split <;> simp_all
        rw [this]; exact h'
      exact h2.thn S.tr S1 E1 I1 h'' id fun k ρ2 u H2 O2 fp2 g2 _ S2 E2 _ I2 R2 F2 h3 => h3 u H2 O2 fp2 g2 S2 E2 I2 R2 (fresh_of E1 F2)
    | false => exact h' false H1 O1 fp1 [] S1 E1 I1 ⟨rfl, rfl⟩ fun _ q => (by cases q)
theorem ok_or (h1 : Ok RB c W b ft tt) (h2 : Ok RB c W b fu tu) : Ok RB c W b (vOr ft fu) (tOr tt tu) := fun O fp H ρ σ Q S h =>
  h1.thn S.tr S .refl (fun _ => .refl) h id fun k ρ1 u H1 O1 fp1 g1 _ S1 E1 _ I1 R1 F1 h' => by
    obtain ⟨e, eg⟩ := R1
    subst e
    cases k with
    | false =>
      show tu σ H1 Q
      have h'' : Post RB c W b O fp H σ (bnd fu ret ρ1) Q := by
        have : bnd fu ret ρ1 = fu ρ1 := by unfold bnd ret; split <;> simp_all
        rw [this]; exact h'
      exact h2.thn S.tr S1 E1 I1 h'' id fun k ρ2 u H2 O2 fp2 g2 _ S2 E2 _ I2 R2 F2 h3 => h3 u H2 O2 fp2 g2 S2 E2 I2 R2 (fresh_of E1 F2)
    | true => exact h' true H1 O1 fp1 [] S1 E1 I1 ⟨rfl, rfl⟩ fun _ q => (by cases q)
theorem ok_not (h1 : Ok RB c W b ft tt) : Ok RB c W b (vNot ft) (tNot tt) := fun O fp H ρ σ Q S h =>
  h1.thn S.tr S .refl (fun _ => .refl) h id fun k ρ1 u H1 O1 fp1 g1 _ S1 E1 _ I1 R1 F1 h' => by
    obtain ⟨e, eg⟩ := R1
    subst e
    exact h' (!k) H1 O1 fp1 [] S1 E1 I1 ⟨rfl, rfl⟩ fun _ q => (by cases q)
theorem VW.vt (h : VW c X W b e ft) : VT c X W b e ft := by
  obtain ⟨t, p, o⟩ := h
  exact ⟨t, p.pt, o⟩
theorem vw_and1 (h : VT c X W b a ft) : VW c X W b (.BoolOp .And [a] pos) ft := by
  obtain ⟨t, p, o⟩ := h
  exact ⟨t, pw_and1 p, o⟩
theorem vw_or1 (h : VT c X W b a ft) : VW c X W b (.BoolOp .Or [a] pos) ft := by
  obtain ⟨t, p, o⟩ := h
  exact ⟨t, pw_or1 p, o⟩
theorem vw_and {rest : List Expr} (h1 : VT c X W b a ft) (h2 : VW c X W b (.BoolOp .And (e :: rest) pos) fu) : VW c X W b (.BoolOp .And (a :: e :: rest) pos) (vAnd ft fu) := by
  obtain ⟨t, p, o⟩ := h1
  obtain ⟨t2, p2, o2⟩ := h2
  exact ⟨_, pw_and p p2, ok_and o o2⟩
theorem vw_or {rest : List Expr} (h1 : VT c X W b a ft) (h2 : VW c X W b (.BoolOp .Or (e :: rest) pos) fu) : VW c X W b (.BoolOp .Or (a :: e :: rest) pos) (vOr ft fu) := by
  obtain ⟨t, p, o⟩ := h1
  obtain ⟨t2, p2, o2⟩ := h2
  exact ⟨_, pw_or p p2, ok_or o o2⟩
theorem vt_not (h1 : VT c X W b a ft) : VT c X W b (.UnaryOp .Not a pos) (vNot ft) := by
  obtain ⟨t, p, o⟩ := h1
  exact ⟨_, pt_not p, ok_not o⟩
/-- a value's truth -/
def szB (n : Nat) : Bool := decide (n ≤ 16777216)
def dTru : D → Option Bool
  | .non => some false | .bl k => some k | .int i => some (i != 0)
  | .str x => if szB x.length then some ((x.length : Int) != 0) else none
  | .lst xs => some (!xs.isEmpty) | .tup xs => some (!xs.isEmpty) | .klst xs => some (!xs.isEmpty) | .ktup xs => some (!xs.isEmpty)
  | _ => none
def asT (x : Val) : FG Bool := fun ρ => match (vw ρ x).bind dTru with
  | some k => some (.val k ρ)
  | none => none
theorem szB_ok {n : Nat} (h : szB n = true) : n ≤ sizeLine := by rw [sizeLine_eq]; exact of_decide_eq_true h
theorem RDs.len : ∀ {ds : List D} {vs : List V}, RDs c O H ds vs → vs.length = ds.length
  | [], _, h => by rw [show _ = [] from h]; rfl
  | _ :: _, _, ⟨v, r, e, _, t⟩ => by rw [e]; simp [RDs.len t]
theorem RDs.emp {ds : List D} {vs : List V} (h : RDs c O H ds vs) : vs.isEmpty = ds.isEmpty := by
  cases ds with
  | nil => rw [show vs = [] from h]; rfl
  | cons d ds => obtain ⟨v, r, e, _⟩ := h; rw [e]; rfl
theorem RDk.emp {ds : List (Key × D)} {vs : List (Key × V)} (h : RDk c O H ds vs) : vs.isEmpty = ds.isEmpty := by
  cases ds with
  | nil => rw [show vs = [] from h]; rfl
  | cons d ds => obtain ⟨k, d⟩ := d; obtain ⟨v, r, e, _⟩ := h; rw [e]; rfl
theorem rd_of {a : Addr} {u : HO} (h : strip (H a) = some u) (hu : ∀ o w, u ≠ .frz o w) : Rd H a u := by
  cases q : H a with
  | none => rw [q] at h; cases h
  | some x =>
    rw [q] at h
    cases x with
    | frz o w => cases h; exact .inr ⟨o, q⟩
    | _ => cases h; exact .inl q
theorem sqL_of {K : PySem.W.Frag} {a : Addr} {vs : List V} (h : H a = some (.lst vs)) : SqL K H a vs := .inl (.inl h)
theorem sqK_of {a : Addr} {vs : List V} (h : KL c.K a vs ∨ Fz O H a (.lst vs)) : SqL c.K H a vs := h.elim .inr fun q => .inl (rd_of q.1 (fun _ _ z => by cases z))
theorem sqT_of {K : PySem.W.Frag} {a : Addr} {vs : List V} (h : H a = some (.tup vs)) : SqT K H a vs := .inl (.inl h)
end
end Vl

namespace Vl
open PySem PySem.Spec PyProof.Rows L2

section
variable {c : Vc} {X : Cx} {W : WX} {b b1 b2 : Bool} {α β γ δ : Type} {O O1 O2 : Addr → Prop} {fp fp1 fp2 : List Addr} {H H1 H2 : Hp} {ρ ρ1 ρ2 : Env} {σ : L2.St}
variable {a e e' : Expr} {es : List Expr} {fa fb fc : FE} {pos : Pos} {ta tb : TE} {ft fu : FG Bool} {tt tu : TT} {fs : FG (List Val)} {ts : TA}
theorem dTru_ok (hK : X.K = c.K) {d : D} {v : V} {k : Bool} (p : Pk c O H d v) (e : dTru d = some k) : TruV X.K v H k := by
  rw [hK]
  cases d with
  | non => cases e; rw [show v = .non from p]; rfl
  | bl b' => cases e; rw [show v = .bl k from p]; rfl
  | int i => cases e; rw [show v = .int i from p]; rfl
  | str x =>
    rw [show v = .str x from p]
    have e : (if szB x.length then some ((x.length : Int) != 0) else none) = some k := e
    by_cases h : szB x.length = true
    · rw [if_pos h] at e; cases e; exact ⟨szB_ok h, rfl⟩
    · rw [if_neg h] at e; cases e
  | lst xs =>
    cases e
    obtain ⟨a, vs, rfl, h, r⟩ := p
    exact .inl ⟨vs, sqL_of h, by rw [r.emp]⟩
  | tup xs =>
    cases e
    obtain ⟨a, vs, rfl, h, r⟩ := p
    exact .inr (.inl ⟨vs, sqT_of h.1, by rw [r.emp]⟩)
  | klst xs =>
    cases e
    obtain ⟨a, vs, rfl, h, r⟩ := p
    exact .inl ⟨vs, sqK_of h, by rw [r.emp]⟩
  | ktup xs =>
    cases e
    obtain ⟨a, vs, rfl, h, r⟩ := p
    exact .inr (.inl ⟨vs, .inr h, by rw [r.emp]⟩)
  | _ => cases e
theorem Post.asT (hK : X.K = c.K) {Q : Bool → Hp → Prop} {x : Val} {u : V} {g1 : List Addr} (h : Post RB c W b O fp H σ (asT x ρ1) Q) (S : SR c O1 fp1 H1 ρ1 σ) (E : Ext fp O H fp1 O1 H1) (I : b = true → Ins H H1) (rx : RV c O1 fp1 H1 ρ1 σ x u g1) : ∃ k, TruV X.K u H1 k ∧ Q k H1 := by
  unfold Vl.asT at h
  revert h
  cases e : (vw ρ1 x).bind dTru with
  | none => exact fun h => h.elim
  | some k =>
    intro h
    obtain ⟨d, h1, h2⟩ := Option.bind_eq_some_iff.mp e
    exact ⟨k, dTru_ok hK (rx.vw S h1) h2, h k H1 O1 fp1 [] S E I ⟨rfl, rfl⟩ fun _ q => (by cases q)⟩
theorem vt_tru (hK : X.K = c.K) (ha : VE c X W b a fa) (he : ∀ whole, isTrue a X.env whole = (do let v ← whole; standAt a.pos; holding [v] (truthy v)) := by intro _; rfl) : VT c X W b a (bnd fa asT) := by
  obtain ⟨ta, pa, oa⟩ := ha
  exact ⟨_, pt_truth pa he, fun O fp H ρ σ Q S h => oa.thn S.tr S .refl (fun _ => .refl) h id fun x ρ1 u H1 O1 fp1 g1 _ S1 E1 _ I1 R1 F1 h1 => Post.asT hK h1 S1 E1 I1 R1⟩
/-- a test's answer as a value: and, or, not of bools -/
def vAndV (fa fb : FE) : FE := bnd (bnd fa asB) fun k => if k then fb else ret (.fr (.bl false))
def vOrV (fa fb : FE) : FE := bnd (bnd fa asB) fun k => if k then ret (.fr (.bl true)) else fb
def vNotV (fa : FE) : FE := bnd (bnd fa asB) fun k => ret (.fr (.bl (!k)))
theorem bnd_ret {f : FG α} : bnd f ret = f := by
  funext ρ
  unfold bnd ret
  split <;> simp_all
theorem bnd_bnd {f : FG α} {k : α → FG β} {l : β → FG γ} : bnd (bnd f k) l = bnd f fun x => bnd (k x) l := by
  funext ρ
  unfold bnd
  cases f ρ with
  | none => rfl
  | some o => cases o <;> rfl
theorem Post.asBk {rl : Rl γ δ} {Q : δ → Hp → Prop} {x : Val} {k : Bool → FG γ} (h : Post rl c W b O fp H σ (bnd (Vl.asB x) k ρ) Q) : ∃ d, x = .fr (.bl d) ∧ Post rl c W b O fp H σ (k d ρ) Q := by
  cases x with
  | fr d =>
    cases d with
    | bl d => exact ⟨d, rfl, h⟩
    | _ => exact (show False from h).elim
  | _ => exact (show False from h).elim
theorem ok_andV (h1 : Ok (RV c) c W b fa ta) (h2 : Ok (RV c) c W b fb tb) : Ok (RV c) c W b (vAndV fa fb) (tAndV ta tb) := fun O fp H ρ σ Q S h => by
  unfold vAndV at h
  rw [bnd_bnd] at h
  refine h1.thn S.tr S .refl (fun _ => .refl) h id fun k ρ1 u H1 O1 fp1 g1 _ S1 E1 _ I1 R1 F1 h' => ?_
  obtain ⟨d, rfl, h'⟩ := Post.asBk h'
  refine ⟨d, R1.1, ?_⟩
  cases d with
  | true =>
    rw [if_pos rfl]
    have h'' : Post (RV c) c W b O fp H σ (bnd fb ret ρ1) Q := by rw [bnd_ret]; exact h'
    exact h2.thn S.tr S1 E1 I1 h'' id fun k ρ2 u H2 O2 fp2 g2 _ S2 E2 _ I2 R2 F2 h3 => h3 u H2 O2 fp2 g2 S2 E2 I2 R2 (fresh_of E1 F2)
  | false => exact h' (.bl false) H1 O1 fp1 [] S1 E1 I1 ⟨rfl, rfl⟩ fun _ q => (by cases q)
theorem ok_orV (h1 : Ok (RV c) c W b fa ta) (h2 : Ok (RV c) c W b fb tb) : Ok (RV c) c W b (vOrV fa fb) (tOrV ta tb) := fun O fp H ρ σ Q S h => by
  unfold vOrV at h
  rw [bnd_bnd] at h
  refine h1.thn S.tr S .refl (fun _ => .refl) h id fun k ρ1 u H1 O1 fp1 g1 _ S1 E1 _ I1 R1 F1 h' => ?_
  obtain ⟨d, rfl, h'⟩ := Post.asBk h'
  refine ⟨d, R1.1, ?_⟩
  cases d with
  | false =>
    rw [if_neg Bool.false_ne_true]
    have h'' : Post (RV c) c W b O fp H σ (bnd fb ret ρ1) Q := by rw [bnd_ret]; exact h'
    exact h2.thn S.tr S1 E1 I1 h'' id fun k ρ2 u H2 O2 fp2 g2 _ S2 E2 _ I2 R2 F2 h3 => h3 u H2 O2 fp2 g2 S2 E2 I2 R2 (fresh_of E1 F2)
  | true => exact h' (.bl true) H1 O1 fp1 [] S1 E1 I1 ⟨rfl, rfl⟩ fun _ q => (by cases q)
theorem ok_notV (h1 : Ok (RV c) c W b fa ta) : Ok (RV c) c W b (vNotV fa) (tNotV ta) := fun O fp H ρ σ Q S h => by
  unfold vNotV at h
  rw [bnd_bnd] at h
  refine h1.thn S.tr S .refl (fun _ => .refl) h id fun k ρ1 u H1 O1 fp1 g1 _ S1 E1 _ I1 R1 F1 h' => ?_
  obtain ⟨d, rfl, h'⟩ := Post.asBk h'
  exact ⟨d, R1.1, h' (.bl (!d)) H1 O1 fp1 [] S1 E1 I1 ⟨rfl, rfl⟩ fun _ q => (by cases q)⟩
theorem ve_one {op : BoolOp} (h : VE c X W b a fa) : VE c X W b (.BoolOp op [a] pos) fa := by
  obtain ⟨t, p, o⟩ := h
  exact ⟨_, pe_one p, o⟩
theorem ve_and {rest : List Expr} (h1 : VE c X W b a fa) (h2 : VE c X W b (.BoolOp .And (e :: rest) pos) fb) : VE c X W b (.BoolOp .And (a :: e :: rest) pos) (vAndV fa fb) := by
  obtain ⟨t, p, o⟩ := h1
  obtain ⟨t2, p2, o2⟩ := h2
  exact ⟨_, pe_and p p2, ok_andV o o2⟩
theorem ve_or {rest : List Expr} (h1 : VE c X W b a fa) (h2 : VE c X W b (.BoolOp .Or (e :: rest) pos) fb) : VE c X W b (.BoolOp .Or (a :: e :: rest) pos) (vOrV fa fb) := by
  obtain ⟨t, p, o⟩ := h1
  obtain ⟨t2, p2, o2⟩ := h2
  exact ⟨_, pe_or p p2, ok_orV o o2⟩
theorem ve_not (h1 : VE c X W b a fa) : VE c X W b (.UnaryOp .Not a pos) (vNotV fa) := by
  obtain ⟨t, p, o⟩ := h1
  exact ⟨_, pe_not p, ok_notV o⟩
/-- a if t else b -/
def vIf (ft : FG Bool) (fa fb : FE) : FE := bnd ft fun k => if k then fa else fb
theorem ok_if (h1 : Ok RB c W b ft tt) (ha : Ok (RV c) c W b fa ta) (hb : Ok (RV c) c W b fb tb) : Ok (RV c) c W b (vIf ft fa fb) (tIf tt ta tb) := fun O fp H ρ σ Q S h =>
  h1.thn S.tr S .refl (fun _ => .refl) h id fun k ρ1 u H1 O1 fp1 g1 _ S1 E1 _ I1 R1 F1 h' => by
    obtain ⟨e, eg⟩ := R1
    subst e
    cases k with
    | true =>
      rw [if_pos rfl]
      have h'' : Post (RV c) c W b O fp H σ (bnd fa ret ρ1) Q := by rw [bnd_ret]; exact h'
      exact ha.thn S.tr S1 E1 I1 h'' id fun k ρ2 u H2 O2 fp2 g2 _ S2 E2 _ I2 R2 F2 h3 => h3 u H2 O2 fp2 g2 S2 E2 I2 R2 (fresh_of E1 F2)
    | false =>
      rw [if_neg Bool.false_ne_true]
      have h'' : Post (RV c) c W b O fp H σ (bnd fb ret ρ1) Q := by rw [bnd_ret]; exact h'
      exact hb.thn S.tr S1 E1 I1 h'' id fun k ρ2 u H2 O2 fp2 g2 _ S2 E2 _ I2 R2 F2 h3 => h3 u H2 O2 fp2 g2 S2 E2 I2 R2 (fresh_of E1 F2)
theorem ve_if (h1 : VT c X W b a ft) (ha : VE c X W b e fa) (hb : VE c X W b e' fb) : VE c X W b (.IfExp a e e' pos) (vIf ft fa fb) := by
  obtain ⟨t, p, o⟩ := h1
  obtain ⟨t2, p2, o2⟩ := ha
  obtain ⟨t3, p3, o3⟩ := hb
  exact ⟨_, pe_ifExp p p2 p3, ok_if o o2 o3⟩

/-! ### argument lists -/
def vNil : FG (List Val) := ret []
def vCons (fa : FE) (fs : FG (List Val)) : FG (List Val) := bnd fa fun x => bnd fs fun xs => ret (x :: xs)
theorem va_nil : VA c X W b [] vNil := ⟨_, pa_nil, fun O fp H ρ σ Q S h => h [] H O fp [] S .refl (fun _ => .refl) ⟨rfl, rfl⟩ fun _ q => (by cases q)⟩
theorem va_cons (ha : VE c X W b e fa) (hs : VA c X W b es fs) (hst : starEach (e :: es) X.env = (false, eval e X.env) :: starEach es X.env := by rfl) : VA c X W b (e :: es) (vCons fa fs) := by
  obtain ⟨ta, pa, oa⟩ := ha
  obtain ⟨tb, pb, ob⟩ := hs
  refine ⟨_, pa_cons pa pb hst, fun O fp H ρ σ Q S h => ?_⟩
  refine oa.thn S.tr S .refl (fun _ => .refl) h id fun x ρ1 u H1 O1 fp1 g1 _ S1 E1 _ I1 R1 F1 h1 => ?_
  refine ob.thn S.tr S1 E1 I1 h1 id fun xs ρ2 us H2 O2 fp2 g2 _ S2 E2 E12 I2 R2 F2 h2 => ?_
  refine h2 (u :: us) H2 O2 fp2 (g1 ++ g2) S2 E2 I2 ⟨u, us, g1, g2, rfl, R1.per S1 E12, R2, rfl, fun a h1 h2 => (F2 a h2).elim (R1.trk a h1).ne (R1.own a h1).2⟩ fun a ha => ?_
  rcases List.mem_append.mp ha with q | q
  · exact F1 a q
  · exact fresh_of E1 F2 a q
def vws (ρ : Env) : List Val → Option (List D)
  | [] => some []
  | w :: ws => (vw ρ w).bind fun d => (vws ρ ws).map fun ds => d :: ds
def Pks (c : Vc) (O : Addr → Prop) (H : Hp) : List D → List V → Prop
  | [], vs => vs = []
  | d :: ds, vs => ∃ v r, vs = v :: r ∧ Pk c O H d v ∧ Pks c O H ds r
theorem RVs.vws : ∀ {ws : List Val} {us : List V} {g : List Addr} {ds : List D}, RVs c O fp H ρ σ ws us g → SR c O fp H ρ σ → vws ρ ws = some ds → Pks c O H ds us
  | [], _, _, ds, h, _, e => by cases e; exact h.1
  | w :: ws, _, _, ds, ⟨u, r, g1, g2, eu, h, t, _⟩, S, e => by
    unfold Vl.vws at e
    obtain ⟨d, h1, e⟩ := Option.bind_eq_some_iff.mp e
    obtain ⟨ds', h2, e⟩ := Option.map_eq_some_iff.mp e
    subst e
    exact ⟨u, r, eu, h.vw S h1, RVs.vws t S h2⟩
/-- a builtin called: g is what it gives -/
def CaS (c : Vc) (r : List V → Hp → VK → Prop) (g : List D → Option Val) : Prop := ∀ O H vs ds w (Q : VK), (∀ b, O b → nT (H b)) → Pks c O H ds vs → g ds = some w → (∀ u H' gg, PR c O H w u H' gg → Q u H') → r vs H Q
def vn (g : List D → Option Val) (ws : List Val) : FE := fun ρ => match (vws ρ ws).bind g with
  | some w => some (.val w ρ)
  | none => none
def vCall (g : List D → Option Val) (fs : FG (List Val)) : FE := bnd fs fun ws => vn g ws
variable {r : List V → Hp → VK → Prop} {g : List D → Option Val}
theorem Post.opn {Q : V → Hp → Prop} {ws : List Val} {us : List V} {g1 : List Addr} (hr : CaS c r g) (S0 : ∀ b, O b → nT (H b)) (S : SR c O1 fp1 H1 ρ1 σ) (E : Ext fp O H fp1 O1 H1) (I : b = true → Ins H H1) (rx : RVs c O1 fp1 H1 ρ1 σ ws us g1)
    (h : Post (RV c) c W b O fp H σ (vn g ws ρ1) Q) : r us H1 Q := by
  unfold vn at h
  revert h
  cases e : (Vl.vws ρ1 ws).bind g with
  | none => exact fun h => h.elim
  | some w =>
    intro h
    obtain ⟨ds, h1, h2⟩ := Option.bind_eq_some_iff.mp e
    exact hr O1 H1 us ds w Q S.tr (rx.vws S h1) h2 fun u' H' gg p => Post.pr h S0 S E I p
theorem ok_call (hr : CaS c r g) (hs : Ok (RVs c) c W b fs ts) : Ok (RV c) c W b (vCall g fs) (tCB r ts) := fun O fp H ρ σ Q S h =>
  hs.thn S.tr S .refl (fun _ => .refl) h id fun ws ρ1 us H1 O1 fp1 g1 _ S1 E1 _ I1 R1 F1 h1 => Post.opn hr S.tr S1 E1 I1 R1 h1
theorem ve_callB {x : Str} {id : String} {p : Pos} (hc : CallR X (.builtin id) r) (hr : CaS c r g) (hg : Gl X x) (hm : X.mg x = none) (hv : bootBuiltins x = some (.builtin id)) (ha : VA c X W b (e :: es) fs) (hn : x ≠ "__name__" := by decide) (hdb : (x == ("__debug__" : Str)) = false := by decide)
    (he : starEach (e :: es) X.env = (false, eval e X.env) :: starEach es X.env := by rfl) (hpl : (backTo pos (starEach es X.env)).any (·.1) = false := by rfl) : VE c X W b (.Call (.Name x p) (e :: es) [] pos) (vCall g fs) := by
  obtain ⟨ts, ps, os⟩ := ha
  exact ⟨_, pe_callB hc hg hm hv ps hn hdb he hpl, ok_call hr os⟩
theorem ve_callT {x : Str} {T : String} {p : Pos} (hc : CallR X (.type T) r) (hr : CaS c r g) (hg : Gl X x) (hm : X.mg x = none) (hv : bootBuiltins x = some (.type T)) (ha : VA c X W b (e :: es) fs) (hn : x ≠ "__name__" := by decide) (hdb : (x == ("__debug__" : Str)) = false := by decide)
    (he : starEach (e :: es) X.env = (false, eval e X.env) :: starEach es X.env := by rfl) (hpl : (backTo pos (starEach es X.env)).any (·.1) = false := by rfl) : VE c X W b (.Call (.Name x p) (e :: es) [] pos) (vCall g fs) := by
  obtain ⟨ts, ps, os⟩ := ha
  exact ⟨_, pe_callTy hc hg hm hv ps hn hdb he hpl, ok_call hr os⟩

/-! ### displays -/
def fzs : List Val → Option (List D)
  | [] => some []
  | w :: ws => (fz w).bind fun d => (fzs ws).map fun ds => d :: ds
theorem RV.rest {w : Val} {d : D} {u : V} {g : List Addr} (r : RV c O fp H ρ σ w u g) (e : fz w = some d) (hO : ∀ a, O1 a → O a) (hg : ∀ a ∈ g, ¬ O1 a) : RD c O1 H d u := by
  cases w with
  | fr d' => cases e; exact r.1.stb (.less hO)
  | nw t => cases e; exact r.1.rest hO hg
  | al i => cases e
theorem RVs.rest : ∀ {ws : List Val} {us : List V} {g : List Addr} {ds : List D}, RVs c O fp H ρ σ ws us g → fzs ws = some ds → (∀ a, O1 a → O a) → (∀ a ∈ g, ¬ O1 a) → RDs c O1 H ds us
  | [], _, _, ds, h, e, _, _ => by cases e; exact h.1
  | w :: ws, _, _, ds, ⟨u, r, g1, g2, eu, h, t, eg, _⟩, e, hO, hg => by
    unfold fzs at e
    obtain ⟨d, h1, e⟩ := Option.bind_eq_some_iff.mp e
    obtain ⟨ds', h2, e⟩ := Option.map_eq_some_iff.mp e
    subst e
    exact ⟨u, r, eu, h.rest h1 hO (fun a ha => hg a (by rw [eg]; simp [ha])), RVs.rest t h2 hO (fun a ha => hg a (by rw [eg]; simp [ha]))⟩
theorem RVs.own : ∀ {ws : List Val} {us : List V} {g : List Addr}, RVs c O fp H ρ σ ws us g → ∀ a ∈ g, O a ∧ a ∉ fp
  | [], _, _, h, a, ha => by rw [h.2] at ha; cases ha
  | _ :: _, _, _, ⟨u, r, g1, g2, e, h, t, eg, dj⟩, a, ha => by
    rw [eg] at ha
    rcases List.mem_append.mp ha with q | q
    · exact h.own a q
    · exact RVs.own t a q
/-- the temporaries g come to rest -/
theorem SR.less {g : List Addr} (S : SR c O fp H ρ σ) (hg : ∀ a ∈ g, a ∉ fp) : SR c (fun a => O a ∧ a ∉ g) fp H ρ σ :=
  ⟨S.rs.stb (.less fun a q => q.1) fun _ _ => rfl, S.nd, fun b hb => ⟨S.ow b hb, fun q => hg b q hb⟩, fun b h => S.tr b h.1, S.tb, fun p hp => (S.px p hp).stb (.less fun a q => q.1)⟩
theorem Ext.less {g : List Addr} (E : Ext fp O H fp1 O1 H1) (S0 : ∀ b, O b → nT (H b)) (F : Fr g fp H) : Ext fp O H fp1 (fun a => O1 a ∧ a ∉ g) H1 :=
  ⟨E.kp, E.th, fun b h n => ⟨E.ok b h n, fun q => (F b q).elim (S0 b h).ne n⟩, fun b h => E.on b h.1, E.fn⟩
def kTup (ws : List Val) : FE := fun ρ => match fzs ws with
  | some ds => if ds.length ≤ 1000 then some (.val (.fr (.tup ds)) ρ) else none
  | none => none
def kLst (ws : List Val) : FE := fun ρ => match fzs ws with
  | some ds => if ds.length ≤ 1000 then some (.val (.nw (.lst ds)) ρ) else none
  | none => none
def vTup (fs : FG (List Val)) : FE := bnd fs kTup
def vLst (fs : FG (List Val)) : FE := bnd fs kLst
theorem le1000 {n : Nat} (h : n ≤ 1000) : n ≤ sizeLine := by rw [sizeLine_eq]; omega
theorem ve_tup {k} (hs : VA c X W b es fs) : VE c X W b (.Tuple es k pos) (vTup fs) := by
  obtain ⟨ts, ps, os⟩ := hs
  refine ⟨_, pe_tup ps, fun O fp H ρ σ Q S h => os.thn S.tr S .refl (fun _ => .refl) h id fun ws ρ1 us H1 O1 fp1 g1 _ S1 E1 _ I1 R1 F1 h1 => ?_⟩
  unfold kTup at h1
  revert h1
  cases e : fzs ws with
  | none => exact fun h => h.elim
  | some ds =>
    intro h1
    by_cases hl : ds.length ≤ 1000
    · simp only [if_pos hl] at h1
      have R := R1.rest (O1 := fun a => O1 a ∧ a ∉ g1) e (fun a q => q.1) (fun a ha q => q.2 ha)
      refine ⟨by rw [R.len]; exact le1000 hl, fun p hp => ?_⟩
      exact Post.pr h1 S.tr (S1.less fun a ha => (R1.own a ha).2) (E1.less S.tr F1) I1 (PR.tup hp (fun b q => S1.tr b q.1) R)
    · simp only [if_neg hl] at h1
      exact h1.elim
theorem ve_lst (hs : VA c X W b es fs) : VE c X W b (.List es pos) (vLst fs) := by
  obtain ⟨ts, ps, os⟩ := hs
  refine ⟨_, pe_lst ps, fun O fp H ρ σ Q S h => os.thn S.tr S .refl (fun _ => .refl) h id fun ws ρ1 us H1 O1 fp1 g1 _ S1 E1 _ I1 R1 F1 h1 => ?_⟩
  unfold kLst at h1
  revert h1
  cases e : fzs ws with
  | none => exact fun h => h.elim
  | some ds =>
    intro h1
    by_cases hl : ds.length ≤ 1000
    · simp only [if_pos hl] at h1
      have R := R1.rest (O1 := fun a => O1 a ∧ a ∉ g1) e (fun a q => q.1) (fun a ha q => q.2 ha)
      refine ⟨by rw [R.len]; exact le1000 hl, fun p hp => ?_⟩
      exact Post.pr h1 S.tr (S1.less fun a ha => (R1.own a ha).2) (E1.less S.tr F1) I1 (PR.lst hp R)
    · simp only [if_neg hl] at h1
      exact h1.elim
/-- a[i] -/
theorem ve_ix {r : R2} {g : D → D → Option Val} (hx : IxR X r) (hr : OpS c r g) (ha : VE c X W b a fa) (hb : VE c X W b e fb) (hp : PlainIx e) : VE c X W b (.Subscript a e pos) (vOp g fa fb) := by
  obtain ⟨ta, pa, oa⟩ := ha
  obtain ⟨tb, pb, ob⟩ := hb
  exact ⟨_, pe_ix hx pa pb hp, ok_op hr oa ob⟩
end
end Vl

namespace Vl
open PySem PySem.Spec PyProof.Rows L2

inductive OutS where
  | nx (ρ : Env) | brk (ρ : Env) | cnt (ρ : Env) | ret (w : Val) (ρ : Env) | exc (x : Exn) (ρ : Env)
abbrev FS := Env → Option OutS
def Bk (bor : List Nat) (σ σ' : L2.St) : Prop := ∀ i ∈ bor, σ'[i]? = σ[i]?
theorem Bk.refl {bor : List Nat} {σ : L2.St} : Bk bor σ σ := fun _ _ => rfl
theorem Bk.trans {bor : List Nat} {σ1 σ2 σ3 : L2.St} (a : Bk bor σ1 σ2) (b : Bk bor σ2 σ3) : Bk bor σ1 σ3 := fun i h => (b i h).trans (a i h)
def PostS (c : Vc) (W : WX) (bor : List Nat) (O : Addr → Prop) (fp : List Addr) (H : Hp) (σ : L2.St) (r : Option OutS) (D : Ends) : Prop := match r with
  | none => False
  | some (.nx ρ') => ∀ σ' H' O' fp', SR c O' fp' H' ρ' σ' → Ext fp O H fp' O' H' → Bk bor σ σ' → D.nx σ' H'
  | some (.brk ρ') => ∀ σ' H' O' fp', SR c O' fp' H' ρ' σ' → Ext fp O H fp' O' H' → Bk bor σ σ' → D.bk σ' H'
  | some (.cnt ρ') => ∀ σ' H' O' fp', SR c O' fp' H' ρ' σ' → Ext fp O H fp' O' H' → Bk bor σ σ' → D.ct σ' H'
  | some (.ret w ρ') => ∀ u σ' H' O' fp' g, SR c O' fp' H' ρ' σ' → Ext fp O H fp' O' H' → Bk bor σ σ' → RV c O' fp' H' ρ' σ' w u g → Fr g fp H → D.rt u H'
  | some (.exc x ρ') => ∀ cls d σ' H' O' fp', SR c O' fp' H' ρ' σ' → Ext fp O H fp' O' H' → Bk bor σ σ' → RX c O' H' x cls d → W cls d σ' H'
def OkS (c : Vc) (W : WX) (bor : List Nat) (f : FS) (ts : TS) : Prop := ∀ O fp H ρ σ D, SR c O fp H ρ σ → PostS c W bor O fp H σ (f ρ) D → ts D σ H
def VS (c : Vc) (X : Cx) (W : WX) (bor : List Nat) (st : Stmt) (f : FS) : Prop := ∃ ts : TS, PS X st ts ∧ OkS c W bor f ts
def VSs (c : Vc) (X : Cx) (W : WX) (bor : List Nat) (st : List Stmt) (f : FS) : Prop := ∃ ts : TS, PSs X st ts ∧ OkS c W bor f ts
section
variable {c : Vc} {X : Cx} {W : WX} {b b1 b2 : Bool} {bor : List Nat} {α β γ δ : Type} {O O1 O2 : Addr → Prop} {fp fp1 fp2 : List Addr} {H H1 H2 : Hp} {ρ ρ1 ρ2 : Env} {σ σ1 : L2.St} {D D' : Ends}
variable {a e e' : Expr} {es : List Expr} {fa fb fc : FE} {pos : Pos} {ta tb : TE} {ft fu : FG Bool} {tt tu : TT} {fs : FG (List Val)} {ts : TA} {f g : FS} {s t : TS} {st : Stmt} {rest : List Stmt}
theorem PostS.shift {r : Option OutS} (E : Ext fp O H fp1 O1 H1) (S0 : ∀ b, O b → nT (H b)) (B : Bk bor σ σ1) (h : PostS c W bor O fp H σ r D) : PostS c W bor O1 fp1 H1 σ1 r D := by
  cases r with
  | none => exact h
  | some o =>
    cases o with
    | nx ρ' => exact fun σ' H' O' fp' S E' B' => h σ' H' O' fp' S (E.trans E' S0) (B.trans B')
    | brk ρ' => exact fun σ' H' O' fp' S E' B' => h σ' H' O' fp' S (E.trans E' S0) (B.trans B')
    | cnt ρ' => exact fun σ' H' O' fp' S E' B' => h σ' H' O' fp' S (E.trans E' S0) (B.trans B')
    | exc x ρ' => exact fun cls d σ' H' O' fp' S E' B' => h cls d σ' H' O' fp' S (E.trans E' S0) (B.trans B')
    | ret w ρ' => exact fun u σ' H' O' fp' g S E' B' R F => h u σ' H' O' fp' g S (E.trans E' S0) (B.trans B') R fun a ha => (F a ha).elim (fun q => .inl (Classical.byContradiction fun z => E.th a z q)) fun q => (E.fn a q).symm
def onNx (r : Option OutS) (k : Env → Option OutS) : Option OutS := match r with
  | some (.nx ρ') => k ρ'
  | r => r
def sNil : FS := fun ρ => some (.nx ρ)
def sSeq (f g : FS) : FS := fun ρ => onNx (f ρ) g
theorem vss_nil : VSs c X W bor [] sNil := ⟨_, pss_nil, fun O fp H ρ σ D S h => h σ H O fp S .refl .refl⟩
theorem ok_seq (h1 : OkS c W bor f s) (h2 : OkS c W bor g t) : OkS c W bor (sSeq f g) (tSeq s t) := fun O fp H ρ σ D S h => by
  refine h1 O fp H ρ σ _ S ?_
  unfold sSeq onNx at h
  revert h
  cases f ρ with
  | none => exact fun h => h
  | some o =>
    cases o with
    | nx ρ' => exact fun h σ' H' O' fp' S' E B => h2 O' fp' H' ρ' σ' D S' (h.shift E S.tr B)
    | brk ρ' => exact fun h => h
    | cnt ρ' => exact fun h => h
    | exc x ρ' => exact fun h => h
    | ret w ρ' => exact fun h => h
theorem vss_cons (h1 : VS c X W bor st f) (h2 : VSs c X W bor rest g) : VSs c X W bor (st :: rest) (sSeq f g) := by
  obtain ⟨s, p, o⟩ := h1
  obtain ⟨t, q, r⟩ := h2
  exact ⟨_, pss_cons p q, ok_seq o r⟩
theorem vss_one (h1 : VS c X W bor st f) : VSs c X W bor [st] f := by
  obtain ⟨s, p, o⟩ := h1
  exact ⟨_, pss_one p, o⟩
theorem vs_pass : VS c X W bor (.Pass pos) sNil := ⟨_, ps_pass, fun O fp H ρ σ D S h => h σ H O fp S .refl .refl⟩
theorem vs_break : VS c X W bor (.Break pos) (fun ρ => some (.brk ρ)) := ⟨_, ps_break, fun O fp H ρ σ D S h => h σ H O fp S .refl .refl⟩
theorem vs_cont : VS c X W bor (.Continue pos) (fun ρ => some (.cnt ρ)) := ⟨_, ps_continue, fun O fp H ρ σ D S h => h σ H O fp S .refl .refl⟩
/-- an expression within a statement -/
def exS {α : Type} (f : FG α) (k : α → FS) : FS := fun ρ => match f ρ with
  | none => none
  | some (.exc x ρ') => some (.exc x ρ')
  | some (.val a ρ') => k a ρ'
theorem Ok.stm {rl : Rl α β} {f : FG α} {te : TEG β} {k : α → FS} {Qx : β → Hp → Prop} (ok : Ok rl c W b1 f te) (S0 : ∀ b, O b → nT (H b)) (S1 : SR c O1 fp1 H1 ρ1 σ1) (E1 : Ext fp O H fp1 O1 H1) (B1 : Bk bor σ σ1)
    (h : PostS c W bor O fp H σ (exS f k ρ1) D)
    (next : ∀ w ρ2 u H2 O2 fp2 g2, SR c O2 fp2 H2 ρ2 σ1 → Ext fp O H fp2 O2 H2 → Ext fp1 O1 H1 fp2 O2 H2 → (b1 = true → Ins H1 H2) → rl O2 fp2 H2 ρ2 σ1 w u g2 → Fr g2 fp1 H1 → PostS c W bor O fp H σ (k w ρ2) D → Qx u H2) :
    te σ1 H1 Qx := by
  refine ok O1 fp1 H1 ρ1 σ1 Qx S1 ?_
  unfold exS at h
  revert h
  cases e : f ρ1 with
  | none => exact fun h => h
  | some o =>
    cases o with
    | exc x ρ' => exact fun h cls d H' O' fp' S E R => h cls d σ1 H' O' fp' S (E1.trans E S0) B1 R
    | val w ρ' => exact fun h u H' O' fp' g S E I R F => next w ρ' u H' O' fp' g S (E1.trans E S0) E I R F h
def sDrop (fa : FE) : FS := exS fa fun _ => sNil
theorem vs_expr (ha : VE c X W false a fa) (hs : swapsWith a none pos.line X.env = pure false := by rfl) : VS c X W bor (.Expr a pos) (sDrop fa) := by
  obtain ⟨ta, pa, oa⟩ := ha
  exact ⟨_, ps_expr pa hs, fun O fp H ρ σ D S h => oa.stm S.tr S .refl .refl h fun x ρ1 u H1 O1 fp1 g1 S1 E1 _ _ R1 F1 h1 => h1 σ H1 O1 fp1 S1 E1 .refl⟩
theorem vs_doc {x j pos pos'} : VS c X W bor (.Expr (.Constant (.str x) j pos) pos') sNil := ⟨_, ps_doc, fun O fp H ρ σ D S h => h σ H O fp S .refl .refl⟩
def sRet (fa : FE) : FS := exS fa fun w ρ => some (.ret w ρ)
theorem vs_ret (ha : VE c X W false a fa) : VS c X W bor (.Return (some a) pos) (sRet fa) := by
  obtain ⟨ta, pa, oa⟩ := ha
  exact ⟨_, ps_ret pa, fun O fp H ρ σ D S h => oa.stm S.tr S .refl .refl h fun x ρ1 u H1 O1 fp1 g1 S1 E1 _ _ R1 F1 h1 => h1 u σ H1 O1 fp1 g1 S1 E1 .refl R1 F1⟩
def sRetN : FS := fun ρ => some (.ret (.fr .non) ρ)
theorem vs_retN : VS c X W bor (.Return none pos) sRetN := ⟨_, ps_retN, fun O fp H ρ σ D S h => h .non σ H O fp [] S .refl .refl ⟨rfl, rfl⟩ fun _ q => (by cases q)⟩
def sIf (ft : FG Bool) (f g : FS) : FS := exS ft fun k => if k then f else g
theorem vs_if {p q : List Stmt} (hc : VT c X W false a ft) (h1 : VSs c X W bor p f) (h2 : VSs c X W bor q g) : VS c X W bor (.If a p q pos) (sIf ft f g) := by
  obtain ⟨tt, pt, ot⟩ := hc
  obtain ⟨s, ps, os⟩ := h1
  obtain ⟨t, pt', ot'⟩ := h2
  refine ⟨_, ps_if pt ps pt', fun O fp H ρ σ D S h => ot.stm S.tr S .refl .refl h fun k ρ1 u H1 O1 fp1 g1 S1 E1 _ _ R1 F1 h1 => ?_⟩
  obtain ⟨e, _⟩ := R1
  subst e
  cases k with
  | true =>
    rw [if_pos rfl]
    exact os O1 fp1 H1 ρ1 σ D S1 (PostS.shift E1 S.tr .refl h1)
  | false =>
    rw [if_neg Bool.false_ne_true]
    exact ot' O1 fp1 H1 ρ1 σ D S1 (PostS.shift E1 S.tr .refl h1)

theorem nmIn {l : List Pin} {i : Nat} (h : (l.all fun p => p.i != i) = true) : i ∉ l.map (·.i) := fun m => by
  obtain ⟨p, hp, e⟩ := List.mem_map.mp m
  have q := List.all_eq_true.mp h p hp
  rw [e] at q
  simp at q
theorem nmAll {l : List Pin} {vs : List Nat} (h : (vs.all fun v => l.all fun p => p.i != v) = true) : ∀ v ∈ vs, v ∉ l.map (·.i) := fun v hv => nmIn (List.all_eq_true.mp h v hv)
/-! ### a slot is stored -/
theorem nodup_put {fl f fr g : List Addr} (nd : (fl ++ f ++ fr).Nodup) (ng : g.Nodup) (dj : ∀ a ∈ g, a ∉ fl ++ f ++ fr) : (fl ++ g ++ fr).Nodup := by
  simp only [List.nodup_append, List.mem_append] at nd ⊢
  obtain ⟨⟨n1, n2, n3⟩, n4, n5⟩ := nd
  refine ⟨⟨n1, ng, fun a ha b hb e => ?_⟩, n4, fun a ha b hb e => ?_⟩
  · subst e; exact dj a hb (by simp [ha])
  · subst e
    rcases ha with ha | ha
    · exact n5 a (.inl ha) a hb rfl
    · exact dj a ha (by simp [hb])
theorem nodup_less {fl f fr : List Addr} (nd : (fl ++ f ++ fr).Nodup) : (fl ++ fr).Nodup := by
  simp only [List.nodup_append, List.mem_append] at nd ⊢
  obtain ⟨⟨n1, n2, n3⟩, n4, n5⟩ := nd
  exact ⟨n1, n4, fun a ha b hb => n5 a (.inl ha) b hb⟩
theorem set_same {α : Type} : ∀ {l : List α} {i : Nat} {x : α}, l[i]? = some x → l.set i x = l
  | [], _, _, h => by simp at h
  | _ :: _, 0, _, h => by simp at h; rw [h]; rfl
  | _ :: l, i + 1, x, h => by
    have := set_same (l := l) (i := i) (x := x) (by simpa using h)
    show _ :: l.set i x = _
    rw [this]
/-- slot i gets a value whose own parts are g, g none of the slots' -/
theorem px_set {i : Nat} {s : Option V} (h : ∀ p ∈ c.xs, PinOk c O H σ p) (hx : i ∉ c.xs.map (·.i)) : ∀ p ∈ c.xs, PinOk c O H (σ.set i s) p := fun p hp => by
  refine ⟨?_, (h p hp).2⟩
  rw [List.getElem?_set_ne (fun e => hx (List.mem_map.mpr ⟨p, hp, e.symm⟩))]
  exact (h p hp).1
theorem SR.put {i : Nat} {t : T} {u : V} {g : List Addr} (S : SR c O fp H ρ σ) (hx : i ∉ c.xs.map (·.i) ∨ σ[i]? = some (some u)) (hi : i < ρ.length) (R : RT c O H t u g) (ng : g.Nodup) (og : ∀ a ∈ g, O a ∧ a ∉ fp) :
    ∃ fp', SR c O fp' H (ρ.set i (some t)) (σ.set i (some u)) ∧ ∀ a ∈ fp', a ∈ fp ∨ a ∈ g := by
  obtain ⟨fl, f, fr, e, h1, _⟩ := S.rs.put hi
  have nd := S.nd
  rw [e] at nd
  refine ⟨fl ++ g ++ fr, ⟨h1 (.less fun a q => q) (fun _ _ => rfl) R, nodup_put nd ng (fun a ha => by rw [← e]; exact (og a ha).2), fun a ha => ?_, S.tr, S.tb, ?_⟩, fun a ha => ?_⟩
  · simp only [List.mem_append] at ha
    rcases ha with (ha | ha) | ha
    · exact S.ow a (by rw [e]; simp [ha])
    · exact (og a ha).1
    · exact S.ow a (by rw [e]; simp [ha])
  · rcases hx with hx | hx
    · exact px_set S.px hx
    · rw [set_same hx]; exact S.px
  · simp only [List.mem_append] at ha
    rcases ha with (ha | ha) | ha
    · exact .inl (by rw [e]; simp [ha])
    · exact .inr ha
    · exact .inl (by rw [e]; simp [ha])
/-- slot i is forgotten -/
theorem SR.del {i : Nat} {s : Option V} (S : SR c O fp H ρ σ) (hx : i ∉ c.xs.map (·.i)) (hi : i < ρ.length) : ∃ fp', SR c O fp' H (ρ.set i none) (σ.set i s) ∧ ∀ a ∈ fp', a ∈ fp := by
  obtain ⟨fl, f, fr, e, _, h1⟩ := S.rs.put hi
  have nd := S.nd
  rw [e] at nd
  refine ⟨fl ++ fr, ⟨h1 (.less fun a q => q) (fun _ _ => rfl), nodup_less nd, fun a ha => S.ow a ?_, S.tr, S.tb, px_set S.px hx⟩, fun a ha => ?_⟩
  all_goals
    simp only [List.mem_append] at ha
    rw [e]
    rcases ha with ha | ha <;> simp [ha]
theorem Ext.put {g fp2 : List Addr} (E : Ext fp O H fp1 O1 H1) (k : ∀ a ∈ fp2, a ∈ fp1 ∨ a ∈ g) (F : Fr g fp H) : Ext fp O H fp2 O1 H1 :=
  ⟨E.kp, E.th, E.ok, E.on, fun a ha => (k a ha).elim (E.fn a) fun q => (F a q).symm⟩
theorem Bk.set {i : Nat} {v : Option V} (h : i ∉ bor) : Bk bor σ (σ.set i v) := fun j hj => by
  rw [List.getElem?_set_ne (fun e => h (by rw [e]; exact hj))]
/-- what is stored: own, or at rest -/
def kSet (i : Nat) (w : Val) : FS := fun ρ => if i < ρ.length then match w with
  | .fr d => some (.nx (ρ.set i (some (.fr d))))
  | .nw t => some (.nx (ρ.set i (some t)))
  | .al _ => none
  else none
def kSetF (i : Nat) (w : Val) : FS := fun ρ => if i < ρ.length then match fz w with
  | some d => some (.nx (ρ.set i (some (.fr d))))
  | none => none
  else none
def sSet (i : Nat) (fa : FE) : FS := exS fa (kSet i)
def sSetF (i : Nat) (fa : FE) : FS := exS fa (kSetF i)
theorem kSet_ok {i : Nat} {w : Val} {u : V} {g1 : List Addr} (hi : i ∉ bor) (hx : i ∉ c.xs.map (·.i)) (h : PostS c W bor O fp H σ (kSet i w ρ1) D) (S1 : SR c O1 fp1 H1 ρ1 σ) (E1 : Ext fp O H fp1 O1 H1) (R1 : RV c O1 fp1 H1 ρ1 σ w u g1) (F1 : Fr g1 fp H) : D.nx (σ.set i (some u)) H1 := by
  unfold kSet at h
  by_cases hl : i < ρ1.length
  · rw [if_pos hl] at h
    cases w with
    | fr d =>
      obtain ⟨fp', S2, k⟩ := S1.put (t := .fr d) (g := []) (.inl hx) hl ⟨R1.1, rfl⟩ .nil (fun _ q => (by cases q))
      exact h _ H1 O1 fp' S2 (E1.put k (fun _ q => (by cases q))) (Bk.set hi)
    | nw t =>
      obtain ⟨fp', S2, k⟩ := S1.put (.inl hx) hl R1.1 R1.2.1 R1.2.2
      exact h _ H1 O1 fp' S2 (E1.put k F1) (Bk.set hi)
    | al j => exact (show False from h).elim
  · rw [if_neg hl] at h
    exact h.elim
theorem kSetF_ok {i : Nat} {w : Val} {u : V} {g1 : List Addr} (hi : i ∉ bor) (hx : i ∉ c.xs.map (·.i)) (h : PostS c W bor O fp H σ (kSetF i w ρ1) D) (S0 : ∀ b, O b → nT (H b)) (S1 : SR c O1 fp1 H1 ρ1 σ) (E1 : Ext fp O H fp1 O1 H1) (R1 : RV c O1 fp1 H1 ρ1 σ w u g1) (F1 : Fr g1 fp H) : D.nx (σ.set i (some u)) H1 := by
  unfold kSetF at h
  by_cases hl : i < ρ1.length
  · rw [if_pos hl] at h
    revert h
    cases e : fz w with
    | none => exact fun h => h.elim
    | some d =>
      intro h
      have R := R1.rest (O1 := fun a => O1 a ∧ a ∉ g1) e (fun a q => q.1) (fun a ha q => q.2 ha)
      obtain ⟨fp', S2, k⟩ := (S1.less fun a ha => (R1.own a ha).2).put (t := .fr d) (g := []) (.inl hx) hl ⟨R, rfl⟩ .nil (fun _ q => (by cases q))
      exact h _ H1 _ fp' S2 ((E1.less S0 F1).put k (fun _ q => (by cases q))) (Bk.set hi)
  · rw [if_neg hl] at h
    exact h.elim
theorem vs_set {i : Nat} {x : Str} {pos' : Pos} (hN : X.N.Nodup) (hx : X.N[i]? = some x) (hl : Loc X.env.scope x) (ha : VE c X W false a fa) (hi : i ∉ bor := by decide) (hxs : i ∉ c.xs.map (·.i) := by exact nmIn rfl) (hs : swapsWith a (some (.Name x pos')) pos.line X.env = pure false := by rfl) (hf : X.fn x = true ∨ X.env.scope.names.lookup x = some .local := by first | exact .inl rfl | exact .inr rfl | assumption) :
    VS c X W bor (.Assign [.Name x pos'] a pos) (sSet i fa) := by
  obtain ⟨ta, pa, oa⟩ := ha
  exact ⟨_, ps_set hN hx hl pa hs hf, fun O fp H ρ σ D S h => oa.stm S.tr S .refl .refl h fun x ρ1 u H1 O1 fp1 g1 S1 E1 _ _ R1 F1 h1 => kSet_ok hi hxs h1 S1 E1 R1 F1⟩
theorem vs_setF {i : Nat} {x : Str} {pos' : Pos} (hN : X.N.Nodup) (hx : X.N[i]? = some x) (hl : Loc X.env.scope x) (ha : VE c X W false a fa) (hi : i ∉ bor := by decide) (hxs : i ∉ c.xs.map (·.i) := by exact nmIn rfl) (hs : swapsWith a (some (.Name x pos')) pos.line X.env = pure false := by rfl) (hf : X.fn x = true ∨ X.env.scope.names.lookup x = some .local := by first | exact .inl rfl | exact .inr rfl | assumption) :
    VS c X W bor (.Assign [.Name x pos'] a pos) (sSetF i fa) := by
  obtain ⟨ta, pa, oa⟩ := ha
  exact ⟨_, ps_set hN hx hl pa hs hf, fun O fp H ρ σ D S h => oa.stm S.tr S .refl .refl h fun x ρ1 u H1 O1 fp1 g1 S1 E1 _ _ R1 F1 h1 => kSetF_ok hi hxs h1 S.tr S1 E1 R1 F1⟩

/-! ### a slot comes to rest -/
def frzE (i : Nat) (ρ : Env) : Env := match ρ[i]? with
  | some (some t) => ρ.set i (some (.fr t.toD))
  | _ => ρ
theorem SR.frz (i : Nat) (S : SR c O fp H ρ σ) : ∃ O' fp', SR c O' fp' H (frzE i ρ) σ ∧ Ext fp O H fp' O' H := by
  unfold frzE
  cases e : ρ[i]? with
  | none => exact ⟨O, fp, S, .refl⟩
  | some o =>
    cases o with
    | none => exact ⟨O, fp, S, .refl⟩
    | some t =>
      obtain ⟨v, f, fl, fr, h1, h2, h3, h4, _⟩ := S.rs.get e
      have nd := S.nd
      rw [h3] at nd
      have dj : ∀ a ∈ fl ++ fr, a ∉ f := by
        simp only [List.nodup_append, List.mem_append] at nd ⊢
        rintro a (ha | ha) hf
        · exact nd.1.2.2 a ha a hf rfl
        · exact nd.2.2 a (.inr hf) a ha rfl
      have R := h2.rest (O' := fun a => O a ∧ a ∉ f) (fun a q => q.1) (fun a ha q => q.2 ha)
      have es : σ.set i (some v) = σ := set_same h1
      refine ⟨fun a => O a ∧ a ∉ f, fl ++ [] ++ fr, ⟨?_, by rw [List.append_nil]; exact nodup_less nd, fun a ha => ?_, fun a q => S.tr a q.1, S.tb, fun p hp => (S.px p hp).stb (.less fun a q => q.1)⟩, ⟨fun _ _ _ => rfl, fun _ q => q, fun a q n => ⟨q, fun z => n (by rw [h3]; simp [z])⟩, fun a q => .inl q.1, fun a ha => .inl ?_⟩⟩
      · have q := h4 (O' := fun a => O a ∧ a ∉ f) (H' := H) (t' := .fr t.toD) (v' := v) (f' := []) (.less fun a q => q.1) (fun _ _ => rfl) ⟨R, rfl⟩
        rw [es] at q
        exact q
      · rw [List.append_nil] at ha
        refine ⟨S.ow a ?_, dj a ha⟩
        rw [h3]
        simp only [List.mem_append] at ha ⊢
        rcases ha with ha | ha <;> simp [ha]
      · rw [List.append_nil] at ha
        rw [h3]
        simp only [List.mem_append] at ha ⊢
        rcases ha with ha | ha <;> simp [ha]
def sFrz (i : Nat) (f : FS) : FS := fun ρ => f (frzE i ρ)
theorem OkS.frz (i : Nat) (h : OkS c W bor f s) : OkS c W bor (sFrz i f) s := fun O fp H ρ σ D S p => by
  obtain ⟨O', fp', S', E⟩ := S.frz i
  exact h O' fp' H _ σ D S' (PostS.shift E S.tr .refl p)
theorem VS.frz (i : Nat) (h : VS c X W bor st f) : VS c X W bor st (sFrz i f) := by
  obtain ⟨s, p, o⟩ := h
  exact ⟨s, p, o.frz i⟩
theorem VSs.frz (i : Nat) (h : VSs c X W bor rest f) : VSs c X W bor rest (sFrz i f) := by
  obtain ⟨s, p, o⟩ := h
  exact ⟨s, p, o.frz i⟩
end
end Vl

namespace Vl
open PySem PySem.Spec PyProof.Rows L2
section
variable {c : Vc} {X : Cx} {W : WX} {b b1 b2 : Bool} {bor : List Nat} {α β γ δ : Type} {O O1 O2 : Addr → Prop} {fp fp1 fp2 : List Addr} {H H1 H2 : Hp} {ρ ρ1 ρ2 : Env} {σ σ1 : L2.St}
variable {a e e' tg iter : Expr} {es : List Expr} {fa fb fc : FE} {pos : Pos} {ta tb : TE} {ft fu : FG Bool} {tt tu : TT} {fs : FG (List Val)} {ts : TA} {f g : FS} {s t : TS} {st : Stmt} {rest body : List Stmt}
/-! ### targets -/
/-- what a target does with a thing at rest -/
abbrev FT := D → Env → Option Env
def OkG (c : Vc) (K : PySem.W.Frag) (bor : List Nat) (gt : FT) (g : TG) : Prop := ∀ O fp H ρ σ d v ρ' (Q : L2.St → Hp → Prop), SR c O fp H ρ σ → RD c O H d v → gt d ρ = some ρ' →
  (∀ σ' fp', SR c O fp' H ρ' σ' → (∀ a ∈ fp', a ∈ fp) → Bk bor σ σ' → Q σ' H) → g v σ H Q
def VG (c : Vc) (X : Cx) (bor : List Nat) (tg : Expr) (gt : FT) : Prop := ∃ g : TG, PG X tg g ∧ OkG c X.K bor gt g
def gN (i : Nat) : FT := fun d ρ => if i < ρ.length then some (ρ.set i (some (.fr d))) else none
theorem vg_name {i : Nat} {x : Str} (hN : X.N.Nodup) (hx : X.N[i]? = some x) (hl : Loc X.env.scope x) (hi : i ∉ bor := by decide) (hxs : i ∉ c.xs.map (·.i) := by exact nmIn rfl) (hf : X.fn x = true ∨ X.env.scope.names.lookup x = some .local := by first | exact .inl rfl | exact .inr rfl | assumption) : VG c X bor (.Name x pos) (gN i) :=
  ⟨_, pg_name hN hx hl hf, fun O fp H ρ σ d v ρ' Q S r e h => by
    unfold gN at e
    split at e
    · rename_i hl
      cases e
      obtain ⟨fp', S2, k⟩ := S.put (t := .fr d) (g := []) (.inl hxs) hl ⟨r, rfl⟩ .nil (fun _ q => (by cases q))
      exact h _ fp' S2 (fun a ha => (k a ha).elim id fun q => (by cases q)) (Bk.set hi)
    · cases e⟩
abbrev FTs := List D → Env → Option Env
def OkGs (c : Vc) (K : PySem.W.Frag) (bor : List Nat) (gt : FTs) (g : TGs) : Prop := ∀ O fp H ρ σ ds vs ρ' (Q : L2.St → Hp → Prop), SR c O fp H ρ σ → RDs c O H ds vs → gt ds ρ = some ρ' →
  (∀ σ' fp', SR c O fp' H ρ' σ' → (∀ a ∈ fp', a ∈ fp) → Bk bor σ σ' → Q σ' H) → g vs σ H Q
def VGs (c : Vc) (X : Cx) (bor : List Nat) (tg : List Expr) (gt : FTs) : Prop := ∃ g : TGs, PGs X tg g ∧ OkGs c X.K bor gt g
def gsN : FTs := fun ds ρ => match ds with | [] => some ρ | _ => none
def gsC (g : FT) (gs : FTs) : FTs := fun ds ρ => match ds with | d :: ds => (g d ρ).bind (gs ds) | _ => none
theorem vgs_nil : VGs c X bor [] gsN := ⟨_, pgs_nil, fun O fp H ρ σ ds vs ρ' Q S r e h => by
  cases ds with
  | nil => cases e; exact ⟨r, h σ fp S (fun _ q => q) .refl⟩
  | cons d ds => cases e⟩
theorem vgs_cons {g1 : FT} {g2 : FTs} (h1 : VG c X bor e g1) (h2 : VGs c X bor es g2) (hs : (assignEach (e :: es) X.env).map (·.2) = assign e X.env :: (assignEach es X.env).map (·.2) := by rfl) : VGs c X bor (e :: es) (gsC g1 g2) := by
  obtain ⟨t1, p1, o1⟩ := h1
  obtain ⟨t2, p2, o2⟩ := h2
  refine ⟨_, pgs_cons p1 p2 hs, fun O fp H ρ σ ds vs ρ' Q S r e h => ?_⟩
  cases ds with
  | nil => cases e
  | cons d ds =>
    obtain ⟨ρ1, e1, e2⟩ := Option.bind_eq_some_iff.mp e
    obtain ⟨v, vs', ev, r1, r2⟩ := r
    exact ⟨v, vs', ev, o1 O fp H ρ σ d v ρ1 _ S r1 e1 fun σ1 fp1 S1 k1 B1 => o2 O fp1 H ρ1 σ1 ds vs' ρ' Q S1 r2 e2 fun σ2 fp2 S2 k2 B2 => h σ2 fp2 S2 (fun a ha => k1 a (k2 a ha)) (B1.trans B2)⟩
def gT (gs : FTs) : FT := fun d ρ => match d with | .tup ds => gs ds ρ | _ => none
theorem vg_tup {k n : Nat} {gs : FTs} (hK : X.K = c.K) (hc : X.calm = true) (h : VGs c X bor es gs) (hl : ∀ ds ρ ρ', gs ds ρ = some ρ' → ds.length = n) (hn : (assignEach es X.env).length = n := by rfl) (hst : (assignEach es X.env).findIdx? (·.1) = none := by rfl) : VG c X bor (.Tuple es k pos) (gT gs) := by
  obtain ⟨t, p, o⟩ := h
  refine ⟨_, pg_tup hc p hn hst, fun O fp H ρ σ d v ρ' Q S r e h => ?_⟩
  cases d with
  | tup ds =>
    obtain ⟨a, vs, ev, hs, rs⟩ := r
    exact ⟨a, vs, ev, sqT_of hs.1, by rw [rs.len]; exact hl _ _ _ e, o O fp H ρ σ ds vs ρ' Q S rs e h⟩
  | _ => cases e

/-! ### what is walked -/
/-- the walk gives the items ds, one a turn -/
structure Yl (c : Vc) (J : It) (ds : List D) (O : Addr → Prop) (fp : List Addr) (H : Hp) : Prop where
  go : ∀ O2 fp2 H2 i d, Ext fp O H fp2 O2 H2 → (∀ b ∈ fp2, O2 b) → (∀ b, O2 b → nT (H2 b)) → ds[i]? = some d → J.go i H2 ∧ ∀ x H3, J.yld i H2 x H3 → (∀ b, H2 b ≠ none → H3 b = H2 b) ∧ RD c O2 H3 d x
  stop : ∀ O2 fp2 H2, Ext fp O H fp2 O2 H2 → (∀ b, O2 b → nT (H2 b)) → J.stop ds.length H2
def PostI (c : Vc) (W : WX) (O : Addr → Prop) (fp : List Addr) (H : Hp) (σ : L2.St) (r : Option (Out (List D))) (R : It → Hp → Prop) : Prop := match r with
  | none => False
  | some (.exc x ρ') => ∀ cls d H' O' fp', SR c O' fp' H' ρ' σ → Ext fp O H fp' O' H' → RX c O' H' x cls d → W cls d σ H'
  | some (.val ds ρ') => ∀ J H' O' fp', SR c O' fp' H' ρ' σ → Ext fp O H fp' O' H' → Yl c J ds O' fp' H' → R J H'
def OkI (c : Vc) (W : WX) (fi : FG (List D)) (wi : TI) : Prop := ∀ O fp H ρ σ R, SR c O fp H ρ σ → PostI c W O fp H σ (fi ρ) R → wi σ H R
theorem Ok.itr {rl : Rl α β} {f : FG α} {te : TEG β} {k : α → FG (List D)} {R : It → Hp → Prop} {Qx : β → Hp → Prop} (ok : Ok rl c W b f te) (S : SR c O fp H ρ σ) (h : PostI c W O fp H σ (bnd f k ρ) R)
    (next : ∀ w ρ2 u H2 O2 fp2 g2, SR c O2 fp2 H2 ρ2 σ → Ext fp O H fp2 O2 H2 → rl O2 fp2 H2 ρ2 σ w u g2 → Fr g2 fp H → PostI c W O fp H σ (k w ρ2) R → Qx u H2) : te σ H Qx := by
  refine ok O fp H ρ σ Qx S ?_
  unfold bnd at h
  revert h
  cases e : f ρ with
  | none => exact fun h => h
  | some o =>
    cases o with
    | exc x ρ' => exact fun h => h
    | val w ρ' => exact fun h u H' O' fp' g S E I R F => next w ρ' u H' O' fp' g S E R F h
def VI (c : Vc) (X : Cx) (W : WX) (tg iter : Expr) (fi : FG (List D)) : Prop := ∃ wi : TI, PI X tg iter wi ∧ OkI c W fi wi
def asL (w : Val) : FG (List D) := fun ρ => match fz w with
  | some (.lst ds) => some (.val ds ρ)
  | some (.klst ds) => some (.val ds ρ)
  | _ => none
def asTu (w : Val) : FG (List D) := fun ρ => match fz w with
  | some (.tup ds) => some (.val ds ρ)
  | some (.ktup ds) => some (.val ds ρ)
  | _ => none
theorem RDs.get : ∀ {ds : List D} {vs : List V} {i : Nat} {d : D}, RDs c O H ds vs → ds[i]? = some d → ∃ v, vs[i]? = some v ∧ RD c O H d v
  | [], _, _, _, _, h => by simp at h
  | _ :: _, _, 0, d, ⟨v, r, e, h, t⟩, q => by
    simp at q; subst q
    exact ⟨v, by rw [e]; rfl, h⟩
  | _ :: _, _, i + 1, d, ⟨v, r, e, h, t⟩, q => by
    obtain ⟨v', h1, h2⟩ := RDs.get (i := i) t (by simpa using q)
    exact ⟨v', by rw [e]; simpa using h1, h2⟩
/-- a list at rest: the turn's own reading gives the item whatever list stands there -/
theorem yl_list {a : Addr} {vs : List V} {ds : List D} (h : H a = some (.lst vs) ∧ ¬ O a) (r : RDs c O H ds vs) (ow : ∀ b ∈ fp, O b) : Yl c (Itl c.K a) ds O fp H where
  go := fun O2 fp2 H2 i d E _ tr e => by
    have s := E.stb ow
    obtain ⟨v, e1, r1⟩ := (r.stb s).get e
    have h2 := (s.1 a h.2 (.of h.1)).2.2.2.1 _ h.1
    refine ⟨⟨vs, v, sqL_of h2, e1⟩, fun x H3 y => ?_⟩
    obtain ⟨e2, y⟩ := y
    subst e2
    have e3 := y vs (sqL_of h2)
    rw [e1] at e3
    cases e3
    exact ⟨fun _ _ => rfl, r1⟩
  stop := fun O2 fp2 H2 E tr => ⟨vs, sqL_of (((E.stb ow).1 a h.2 (.of h.1)).2.2.2.1 _ h.1), by rw [r.len]; exact Nat.le_refl _⟩
theorem yl_tup {a : Addr} {vs : List V} {ds : List D} (h : H a = some (.tup vs) ∧ ¬ O a) (r : RDs c O H ds vs) (ow : ∀ b ∈ fp, O b) : Yl c (Itt c.K a) ds O fp H where
  go := fun O2 fp2 H2 i d E _ tr e => by
    have s := E.stb ow
    obtain ⟨v, e1, r1⟩ := (r.stb s).get e
    have h2 := (s.1 a h.2 (.of h.1)).2.1 _ h.1
    refine ⟨⟨vs, v, sqT_of h2, e1⟩, fun x H3 y => ?_⟩
    obtain ⟨e2, y⟩ := y
    subst e2
    have e3 := y vs (sqT_of h2)
    rw [e1] at e3
    cases e3
    exact ⟨fun _ _ => rfl, r1⟩
  stop := fun O2 fp2 H2 E tr => ⟨vs, sqT_of (((E.stb ow).1 a h.2 (.of h.1)).2.1 _ h.1), by rw [r.len]; exact Nat.le_refl _⟩
theorem yl_ktup {a : Addr} {vs : List V} {ds : List D} (h : KTp c.K a vs) (r : RDs c O H ds vs) (ow : ∀ b ∈ fp, O b) : Yl c (Itt c.K a) ds O fp H where
  go := fun O2 fp2 H2 i d E _ tr e => by
    have s := E.stb ow
    obtain ⟨v, e1, r1⟩ := (r.stb s).get e
    refine ⟨⟨vs, v, .inr h, e1⟩, fun x H3 y => ?_⟩
    obtain ⟨e2, y⟩ := y
    subst e2
    have e3 := y vs (.inr h)
    rw [e1] at e3
    cases e3
    exact ⟨fun _ _ => rfl, r1⟩
  stop := fun O2 fp2 H2 E tr => ⟨vs, .inr h, by rw [r.len]; exact Nat.le_refl _⟩
theorem yl_klst {a : Addr} {vs : List V} {ds : List D} (h : KL c.K a vs ∨ Fz O H a (.lst vs)) (r : RDs c O H ds vs) (ow : ∀ b ∈ fp, O b) : Yl c (Itl c.K a) ds O fp H where
  go := fun O2 fp2 H2 i d E _ tr e => by
    have s := E.stb ow
    obtain ⟨v, e1, r1⟩ := (r.stb s).get e
    have h2 := sqK_of (h.imp id fun q => q.stb s)
    refine ⟨⟨vs, v, h2, e1⟩, fun x H3 y => ?_⟩
    obtain ⟨e2, y⟩ := y
    subst e2
    have e3 := y vs h2
    rw [e1] at e3
    cases e3
    exact ⟨fun _ _ => rfl, r1⟩
  stop := fun O2 fp2 H2 E tr => ⟨vs, sqK_of (h.imp id fun q => q.stb (E.stb ow)), by rw [r.len]; exact Nat.le_refl _⟩
theorem vi_list (hK : X.K = c.K) (ha : VE c X W false iter fa) : VI c X W tg iter (bnd fa asL) := by
  obtain ⟨ta, pa, oa⟩ := ha
  refine ⟨_, pi_list pa, fun O fp H ρ σ R S h => oa.itr S h fun w ρ' u H' O' fp' g S' E r F h => ?_⟩
  cases e : fz w with
  | none => simp only [asL, e] at h; exact h.elim
  | some d =>
    cases d with
    | lst ds =>
      simp only [asL, e] at h
      obtain ⟨p, vs, eu, h1, r1⟩ := r.rest (O1 := fun a => O' a ∧ a ∉ g) e (fun a q => q.1) (fun a ha q => q.2 ha)
      have S2 := S'.less fun a ha => (r.own a ha).2
      rw [hK]
      exact ⟨p, eu, ⟨vs, sqL_of h1.1⟩, h _ H' _ fp' S2 (E.less S.tr F) (yl_list h1 r1 S2.ow)⟩
    | klst ds =>
      simp only [asL, e] at h
      obtain ⟨p, vs, eu, h1, r1⟩ := r.rest (O1 := fun a => O' a ∧ a ∉ g) e (fun a q => q.1) (fun a ha q => q.2 ha)
      have S2 := S'.less fun a ha => (r.own a ha).2
      rw [hK]
      exact ⟨p, eu, ⟨vs, sqK_of h1⟩, h _ H' _ fp' S2 (E.less S.tr F) (yl_klst h1 r1 S2.ow)⟩
    | _ => simp only [asL, e] at h; exact h.elim
theorem vi_tup (hK : X.K = c.K) (ha : VE c X W false iter fa) : VI c X W tg iter (bnd fa asTu) := by
  obtain ⟨ta, pa, oa⟩ := ha
  refine ⟨_, pi_tup pa, fun O fp H ρ σ R S h => oa.itr S h fun w ρ' u H' O' fp' g S' E r F h => ?_⟩
  cases e : fz w with
  | none => simp only [asTu, e] at h; exact h.elim
  | some d =>
    cases d with
    | tup ds =>
      simp only [asTu, e] at h
      obtain ⟨p, vs, eu, h1, r1⟩ := r.rest (O1 := fun a => O' a ∧ a ∉ g) e (fun a q => q.1) (fun a ha q => q.2 ha)
      have S2 := S'.less fun a ha => (r.own a ha).2
      rw [hK]
      exact ⟨p, eu, ⟨vs, sqT_of h1.1⟩, h _ H' _ fp' S2 (E.less S.tr F) (yl_tup h1 r1 S2.ow)⟩
    | ktup ds =>
      simp only [asTu, e] at h
      obtain ⟨p, vs, eu, h1, r1⟩ := r.rest (O1 := fun a => O' a ∧ a ∉ g) e (fun a q => q.1) (fun a ha q => q.2 ha)
      have S2 := S'.less fun a ha => (r.own a ha).2
      rw [hK]
      exact ⟨p, eu, ⟨vs, .inr h1⟩, h _ H' _ fp' S2 (E.less S.tr F) (yl_ktup h1 r1 S2.ow)⟩
    | _ => simp only [asTu, e] at h; exact h.elim
def rngD (lo : Int) (n : Nat) : List D := (List.range n).map fun i => .int (lo + (i : Nat))
theorem rngD_get {lo : Int} {n i : Nat} : (rngD lo n)[i]? = if i < n then some (.int (lo + i)) else none := by
  unfold rngD
  rw [List.getElem?_map]
  by_cases h : i < n
  · rw [List.getElem?_range h, if_pos h]; rfl
  · rw [List.getElem?_eq_none (by simpa using h), if_neg h]; rfl
theorem yl_rng {lo : Int} {n : Nat} : Yl c (Itr lo n) (rngD lo n) O fp H where
  go := fun O2 fp2 H2 i d E _ tr e => by
    rw [rngD_get] at e
    split at e
    · rename_i hi
      cases e
      exact ⟨hi, fun x H3 ⟨e1, e2⟩ => by subst e1 e2; exact ⟨fun _ _ => rfl, rfl⟩⟩
    · cases e
  stop := fun O2 fp2 H2 E tr => by
    have e : (rngD lo n).length = n := by simp [rngD]
    rw [e]
    exact Nat.le_refl _
def small62 (i : Int) : Bool := decide (i.natAbs ≤ 4611686018427387903)
theorem small62_ok {i : Int} (h : small62 i = true) : -(2 ^ 62) ≤ i ∧ i < 2 ^ 62 := by
  have h := of_decide_eq_true h
  omega
def dR1 : List Val → Option (List D)
  | [.fr (.int j)] => if small62 j then some (rngD 0 j.toNat) else none
  | _ => none
def dR2 : List Val → Option (List D)
  | [.fr (.int i), .fr (.int j)] => if small62 i && small62 j then some (rngD i (j - i).toNat) else none
  | _ => none
theorem dR1_some {ws : List Val} {ds : List D} (h : dR1 ws = some ds) : ∃ j, ws = [.fr (.int j)] ∧ small62 j = true ∧ ds = rngD 0 j.toNat := by
  unfold dR1 at h
  split at h
  · rename_i j
    split at h
    · rename_i hj; cases h; exact ⟨j, rfl, hj, rfl⟩
    · cases h
  · cases h
theorem dR2_some {ws : List Val} {ds : List D} (h : dR2 ws = some ds) : ∃ i j, ws = [.fr (.int i), .fr (.int j)] ∧ small62 i = true ∧ small62 j = true ∧ ds = rngD i (j - i).toNat := by
  unfold dR2 at h
  split at h
  · rename_i i j
    split at h
    · rename_i hj; cases h; rw [Bool.and_eq_true] at hj; exact ⟨i, j, rfl, hj.1, hj.2, rfl⟩
    · cases h
  · cases h
def optF (o : Option α) : FG α := fun ρ => match o with
  | some a => some (.val a ρ)
  | none => none
theorem PostI.opt {o : Option (List D)} {R : It → Hp → Prop} (h : PostI c W O fp H σ (optF o ρ) R) : ∃ ds, o = some ds ∧ PostI c W O fp H σ (some (.val ds ρ)) R := by
  cases o with
  | none => exact h.elim
  | some ds => exact ⟨ds, rfl, h⟩
theorem vi_range1 {p : Pos} (hm : X.mg "range" = none) (ha : VA c X W false [a] fs) (hg : Gl X "range" := by rfl) (hs : starEach [a] X.env = [(false, eval a X.env)] := by rfl) : VI c X W tg (.Call (.Name "range" p) [a] [] pos) (bnd fs fun ws => optF (dR1 ws)) := by
  obtain ⟨ta, pa, oa⟩ := ha
  refine ⟨_, pi_range1 hg hm pa hs, fun O fp H ρ σ R S h => oa.itr S h fun ws ρ' us H' O' fp' g S' E r F h => ?_⟩
  obtain ⟨ds, e, h⟩ := PostI.opt h
  obtain ⟨j, rfl, hj, rfl⟩ := dR1_some e
  obtain ⟨u, r', g1, g2, eu, h1, h2, _⟩ := r
  obtain rfl : u = .int j := h1.1
  obtain rfl : r' = [] := h2.1
  exact ⟨j, eu, (small62_ok hj).1, (small62_ok hj).2, h _ H' O' fp' S' E yl_rng⟩
theorem vi_range2 {p : Pos} (hm : X.mg "range" = none) (ha : VA c X W false [a, e] fs) (hg : Gl X "range" := by rfl) (hs : starEach [a, e] X.env = [(false, eval a X.env), (false, eval e X.env)] := by rfl) (hs2 : starEach [e] X.env = [(false, eval e X.env)] := by rfl) : VI c X W tg (.Call (.Name "range" p) [a, e] [] pos) (bnd fs fun ws => optF (dR2 ws)) := by
  obtain ⟨ta, pa, oa⟩ := ha
  refine ⟨_, pi_range2 hg hm pa hs hs2, fun O fp H ρ σ R S h => oa.itr S h fun ws ρ' us H' O' fp' g S' E r F h => ?_⟩
  obtain ⟨ds, e, h⟩ := PostI.opt h
  obtain ⟨i, j, rfl, hi, hj, rfl⟩ := dR2_some e
  obtain ⟨u, r', g1, g2, eu, h1, h2, _⟩ := r
  obtain ⟨u2, r2, g3, g4, eu2, h3, h4, _⟩ := h2
  obtain rfl : u = .int i := h1.1
  obtain rfl : u2 = .int j := h3.1
  obtain rfl : r2 = [] := h4.1
  exact ⟨i, j, by rw [eu, eu2], ⟨(small62_ok hi).1, (small62_ok hi).2, (small62_ok hj).1, (small62_ok hj).2⟩, h _ H' O' fp' S' E yl_rng⟩

/-! ### for -/
def loopD (gt : FT) (f : FS) : List D → FS
  | [] => fun ρ => some (.nx ρ)
  | d :: ds => fun ρ => match gt d ρ with
    | none => none
    | some ρ1 => match f ρ1 with
      | some (.nx ρ2) => loopD gt f ds ρ2
      | some (.cnt ρ2) => loopD gt f ds ρ2
      | some (.brk ρ2) => some (.nx ρ2)
      | r => r
def sFor (fi : FG (List D)) (gt : FT) (f : FS) : FS := exS fi fun ds => loopD gt f ds
theorem ok_for {wi : TI} {g : TG} (hi : OkI c W fi wi) (hg : OkG c X.K bor gt g) (hb : OkS c W bor f t) : OkS c W bor (sFor fi gt f) (tFor wi g t) := fun O fp H ρ σ D S h => by
  refine hi O fp H ρ σ _ S ?_
  unfold sFor exS at h
  revert h
  cases fi ρ with
  | none => exact fun h => h
  | some o =>
    cases o with
    | exc x ρ' => exact fun h cls d H' O' fp' S' E R => h cls d σ H' O' fp' S' E .refl R
    | val ds ρ' =>
      intro h J H1 O1 fp1 S1 E1 Y
      refine ⟨fun i m σ' H' => m = ds.length - i ∧ i ≤ ds.length ∧ ∃ O' fp' ρ', SR c O' fp' H' ρ' σ' ∧ Ext fp1 O1 H1 fp' O' H' ∧ Bk bor σ σ' ∧ PostS c W bor O' fp' H' σ' (loopD gt f (ds.drop i) ρ') D, ⟨_, rfl, Nat.zero_le _, O1, fp1, ρ', S1, .refl, .refl, h.shift E1 S.tr .refl⟩, ?_⟩
      rintro i m σ' H' ⟨rfl, hi, O', fp', ρ', S', E', B', h'⟩
      by_cases hlt : i < ds.length
      · have e := List.getElem?_eq_getElem hlt
        obtain ⟨go, yl⟩ := Y.go O' fp' H' i _ E' S'.ow S'.tr e
        refine .inr ⟨go, fun σ2 H2 => ∃ O2 fp2 ρ2, SR c O2 fp2 H2 ρ2 σ2 ∧ Ext fp1 O1 H1 fp2 O2 H2 ∧ Bk bor σ σ2 ∧ PostS c W bor O2 fp2 H2 σ2 (loopD gt f (ds.drop (i + 1)) ρ2) D, fun σ2 H2 ⟨O2, fp2, ρ2, q1, q2, q3, q4⟩ => ⟨ds.length - (i + 1), by omega, rfl, hlt, O2, fp2, ρ2, q1, q2, q3, q4⟩, fun x H3 y => ?_⟩
        obtain ⟨kp, rd⟩ := yl x H3 y
        have S3 : SR c O' fp' H3 ρ' σ' := ⟨S'.rs.stb (.of (fun a _ h => kp a h.ne) fun a h => .inl h) fun a ha => kp a (S'.tr a (S'.ow a ha)).ne, S'.nd, S'.ow, fun b h => by rw [kp b (S'.tr b h).ne]; exact S'.tr b h, fun P hP => by
          obtain ⟨ps, e, k⟩ := S'.tb P hP
          exact ⟨ps, by rw [kp P (by rw [e]; simp)]; exact e, k⟩, fun p hp => (S'.px p hp).stb (.of (fun a _ h => kp a h.ne) fun a h => .inl h)⟩
        have E3 : Ext fp' O' H' fp' O' H3 := ⟨fun b h _ => kp b h.ne, fun b h => by rw [kp b h]; exact h, fun _ h _ => h, fun _ h => .inl h, fun _ h => .inl h⟩
        rw [List.drop_eq_getElem_cons hlt] at h'
        unfold loopD at h'
        revert h'
        cases eg : gt ds[i] ρ' with
        | none => exact fun h => h.elim
        | some ρ2 =>
          intro h'
          refine hg O' fp' H3 ρ' σ' _ x ρ2 _ S3 rd eg fun σ4 fp4 S4 k4 B4 => ?_
          have E4 : Ext fp' O' H' fp4 O' H3 := ⟨E3.kp, E3.th, E3.ok, E3.on, fun a ha => .inl (k4 a ha)⟩
          have h4 := h'.shift E4 S'.tr B4
          have E14 : Ext fp1 O1 H1 fp4 O' H3 := E'.trans E4 S1.tr
          refine hb O' fp4 H3 ρ2 σ4 _ S4 ?_
          revert h4
          dsimp only
          cases f ρ2 with
          | none => exact fun h => h
          | some o =>
            cases o with
            | nx ρ5 => exact fun h4 σ5 H5 O5 fp5 S5 E5 B5 => ⟨O5, fp5, ρ5, S5, E14.trans E5 S1.tr, (B'.trans B4).trans B5, h4.shift E5 S4.tr B5⟩
            | cnt ρ5 => exact fun h4 σ5 H5 O5 fp5 S5 E5 B5 => ⟨O5, fp5, ρ5, S5, E14.trans E5 S1.tr, (B'.trans B4).trans B5, h4.shift E5 S4.tr B5⟩
            | brk ρ5 => exact fun h4 => h4
            | ret w ρ5 => exact fun h4 => h4
            | exc x ρ5 => exact fun h4 => h4
      · have ei : i = ds.length := by omega
        subst ei
        rw [List.drop_length] at h'
        exact .inl ⟨Y.stop O' fp' H' E' S'.tr, h' σ' H' O' fp' S' .refl .refl⟩
theorem vs_for (hp : PassesOwn (model X.prog X.w) X.A X.env X.xe) (hc : X.calm = true) (hi : VI c X W tg iter fi) (hg : VG c X bor tg gt) (hb : VSs c X W bor body f)
    (hs : ∀ x, foldedSetIterable iter X.env x = pure x := by intro _; rfl) : VS c X W bor (.For tg iter body [] pos) (sFor fi gt f) := by
  obtain ⟨wi, pi, oi⟩ := hi
  obtain ⟨g, pg, og⟩ := hg
  obtain ⟨t, pt, ot⟩ := hb
  exact ⟨_, ps_for hp hc pi pg pt hs, ok_for oi og ot⟩

/-! ### while -/
def loopW (ft : FG Bool) (f : FS) : Nat → FS
  | 0 => fun _ => none
  | n + 1 => fun ρ => match ft ρ with
    | none => none
    | some (.exc x ρ') => some (.exc x ρ')
    | some (.val false ρ1) => some (.nx ρ1)
    | some (.val true ρ1) => match f ρ1 with
      | some (.nx ρ2) => loopW ft f n ρ2
      | some (.cnt ρ2) => loopW ft f n ρ2
      | some (.brk ρ2) => some (.nx ρ2)
      | r => r
def sWhile (μ : Env → Nat) (ft : FG Bool) (f : FS) : FS := fun ρ => loopW ft f (μ ρ) ρ
theorem ok_while {μ : Env → Nat} (ht : Ok RB c W b ft tt) (hb : OkS c W bor f t) : OkS c W bor (sWhile μ ft f) (tWhile tt t) := fun O fp H ρ σ D S h => by
  refine ⟨fun m σ' H' => ∃ O' fp' ρ', SR c O' fp' H' ρ' σ' ∧ PostS c W bor O' fp' H' σ' (loopW ft f m ρ') D, ⟨μ ρ, O, fp, ρ, S, h⟩, ?_⟩
  rintro m σ' H' ⟨O', fp', ρ', S', h'⟩
  cases m with
  | zero => exact h'.elim
  | succ n =>
    refine ht O' fp' H' ρ' σ' _ S' ?_
    unfold loopW at h'
    revert h'
    cases ft ρ' with
    | none => exact fun h => h
    | some o =>
      cases o with
      | exc x ρ1 => exact fun h cls d H1 O1 fp1 S1 E1 R => h cls d σ' H1 O1 fp1 S1 E1 .refl R
      | val k ρ1 =>
        intro h' u H1 O1 fp1 g S1 E1 I1 R F
        obtain ⟨e, _⟩ := R
        subst e
        cases k with
        | false =>
          rw [if_neg Bool.false_ne_true]
          exact h' σ' H1 O1 fp1 S1 E1 .refl
        | true =>
          rw [if_pos rfl]
          refine ⟨fun σ2 H2 => ∃ O2 fp2 ρ2, SR c O2 fp2 H2 ρ2 σ2 ∧ PostS c W bor O2 fp2 H2 σ2 (loopW ft f n ρ2) D, fun σ2 H2 q => ⟨n, Nat.lt_succ_self n, q⟩, ?_⟩
          have h4 := PostS.shift E1 S'.tr .refl h'
          refine hb O1 fp1 H1 ρ1 σ' _ S1 ?_
          revert h4
          dsimp only
          cases f ρ1 with
          | none => exact fun h => h
          | some o =>
            cases o with
            | nx ρ5 => exact fun h4 σ5 H5 O5 fp5 S5 E5 B5 => ⟨O5, fp5, ρ5, S5, PostS.shift E5 S1.tr B5 h4⟩
            | cnt ρ5 => exact fun h4 σ5 H5 O5 fp5 S5 E5 B5 => ⟨O5, fp5, ρ5, S5, PostS.shift E5 S1.tr B5 h4⟩
            | brk ρ5 => exact fun h4 => h4
            | ret w ρ5 => exact fun h4 => h4
            | exc x ρ5 => exact fun h4 => h4
theorem vs_while (μ : Env → Nat) (hp : PassesOwn (model X.prog X.w) X.A X.env X.xe) (hc : VT c X W false a ft) (hb : VSs c X W bor body f) : VS c X W bor (.While a body [] pos) (sWhile μ ft f) := by
  obtain ⟨tt, pt, ot⟩ := hc
  obtain ⟨t, pb, ob⟩ := hb
  exact ⟨_, ps_while hp pt pb, ok_while ot ob⟩
end
end Vl

namespace Vl
open PySem PySem.Spec PyProof.Rows L2
/-- a def's answer: what it hands back, what its own arguments are then -/
inductive Ans where
  | ret (w : T) (ts : List T) | exc (x : Exn) (ts : List T)
abbrev FF := List T → Option Ans
abbrev Vb.v (c : Vb) : Vc := ⟨c, []⟩
def RTs (c : Vb) (O : Addr → Prop) (H : Hp) : List T → List V → List Addr → Prop
  | [], vs, f => vs = [] ∧ f = []
  | t :: ts, vs, f => ∃ v r f1 f2, vs = v :: r ∧ RT c O H t v f1 ∧ RTs c O H ts r f2 ∧ f = f1 ++ f2
def PostF (c : Vb) (O : Addr → Prop) (fp : List Addr) (H : Hp) (vs : List V) (r : Option Ans) (Q : VK) (E : XK) : Prop := match r with
  | none => False
  | some (.ret w ts') => ∀ u H' O' fp' g, RTs c O' H' ts' vs fp' → (fp' ++ g).Nodup → (∀ b ∈ fp' ++ g, O' b) → (∀ b, O' b → nT (H' b)) → Tabs c H' → Ext fp O H fp' O' H' → RT c O' H' w u g → Fr g fp H → Q u H'
  | some (.exc x ts') => ∀ cls d H' O' fp', RTs c O' H' ts' vs fp' → fp'.Nodup → (∀ b ∈ fp', O' b) → (∀ b, O' b → nT (H' b)) → Tabs c H' → Ext fp O H fp' O' H' → RX c O' H' x cls d → E cls d H'
/-- THE PROMISE -/
def spV (c : Vb) (n : Nat) (F : FF) : Sp := fun vs H Q E => vs.length = n ∧ ∃ O fp ts, RTs c O H ts vs fp ∧ fp.Nodup ∧ (∀ b ∈ fp, O b) ∧ (∀ b, O b → nT (H b)) ∧ Tabs c H ∧ PostF c O fp H vs (F ts) Q E
theorem spV.imp {c : Vb} {n : Nat} {F G : FF} (h : ∀ ts a, G ts = some a → F ts = some a) {vs : List V} {H : Hp} {Q : VK} {E : XK} (q : spV c n G vs H Q E) : spV c n F vs H Q E := by
  obtain ⟨hn, O, fp, ts, r, nd, ow, tr, tb, p⟩ := q
  refine ⟨hn, O, fp, ts, r, nd, ow, tr, tb, ?_⟩
  cases e : G ts with
  | none => rw [e] at p; exact p.elim
  | some a => rw [h ts a e]; rw [e] at p; exact p
def T.isOwn : T → Bool
  | .fr _ => false
  | _ => true
def finL : List T → Env → Option (List T)
  | [], _ => some []
  | .fr d :: ts, _ :: ρ => (finL ts ρ).map fun l => .fr d :: l
  | _ :: ts, some t' :: ρ => if t'.isOwn then (finL ts ρ).map fun l => t' :: l else none
  | _, _ => none
def ownsOk (bor : List Nat) (ts : List T) : Bool := (List.range ts.length).all fun i => match ts[i]? with
  | some (.fr _) => true
  | _ => bor.contains i
def outT (bor : List Nat) (w : Val) (ρ : Env) : Option (T × Env) := match w with
  | .fr d => some (.fr d, ρ)
  | .nw t => some (t, ρ)
  | .al i => match ρ[i]? with
    | some (some t) => some (t, ρ.set i none)
    | _ => none
def bodyF (n : Nat) (bor : List Nat) (g : FS) : FF := fun ts =>
  if ownsOk bor ts then match g (ts.map some ++ List.replicate (n - ts.length) none) with
    | some (.nx ρ') => (finL ts ρ').map (.ret (.fr .non))
    | some (.ret w ρ') => (outT bor w ρ').bind fun p => (finL ts p.2).map (.ret p.1)
    | some (.exc x ρ') => (finL ts ρ').map (.exc x)
    | _ => none
  else none
section
variable {c : Vb} {X : Cx} {W : WX} {b b1 b2 : Bool} {bor : List Nat} {α β γ δ : Type} {O O1 O2 O' : Addr → Prop} {fp fp1 fp2 fp' : List Addr} {H H1 H2 H' : Hp} {ρ ρ1 ρ2 ρ' : Env} {σ σ1 σ' : L2.St}
theorem RTs.len : ∀ {ts : List T} {vs : List V} {f : List Addr}, RTs c O H ts vs f → vs.length = ts.length
  | [], _, _, h => by rw [h.1]; rfl
  | _ :: _, _, _, ⟨v, r, f1, f2, e, _, t, _⟩ => by rw [e]; simp [RTs.len t]
theorem RTs.rs : ∀ {ts : List T} {vs : List V} {f : List Addr} {k : Nat}, RTs c O H ts vs f → RS c O H (ts.map some ++ List.replicate k none) (vs.map some ++ List.replicate k none) f
  | [], _, _, k, h => by
    rw [h.1, h.2]
    show RS c O H (List.replicate k none) (List.replicate k none) []
    induction k with
    | zero => exact ⟨rfl, rfl⟩
    | succ k ih => exact ⟨none, _, rfl, ih⟩
  | t :: ts, _, _, k, ⟨v, r, f1, f2, e, h, q, ef⟩ => ⟨v, r.map some ++ List.replicate k none, f1, f2, by rw [e]; rfl, h, RTs.rs q, ef⟩
def OwnAt (ts : List T) (vs : List V) (σ : L2.St) : Prop := ∀ (i : Nat) (t : T) (v : V), ts[i]? = some t → t.isOwn = true → vs[i]? = some v → σ[i]? = some (some v)
theorem OwnAt.tl {t : T} {ts : List T} {v : V} {vs : List V} {s : Option V} {σ : L2.St} (k : OwnAt (t :: ts) (v :: vs) (s :: σ)) : OwnAt ts vs σ := fun i t' v' h1 h2 h3 => by simpa using k (i + 1) t' v' (by simpa using h1) h2 (by simpa using h3)
theorem finL_own (s : Stb O H O' H') {ts : List T} {t : T} {vs : List V} {f : List Addr} {o : Option T} {ρ' : Env} {σ' : L2.St} {fp' : List Addr} {ts' : List T} (ot : t.isOwn = true) (h : RTs c O H (t :: ts) vs f) (r : RS c O' H' (o :: ρ') σ' fp')
      (e : (match o with | some t' => if t'.isOwn then (finL ts ρ').map fun l => t' :: l else none | none => none) = some ts')
      (k : OwnAt (t :: ts) vs σ')
      (ih : ∀ {vs : List V} {f : List Addr} {σ' : L2.St} {fp' : List Addr} {ts' : List T}, RTs c O H ts vs f → RS c O' H' ρ' σ' fp' → finL ts ρ' = some ts' → OwnAt ts vs σ' → ∃ fq, RTs c O' H' ts' vs fq ∧ fq.Sublist fp') :
      ∃ fq, RTs c O' H' ts' vs fq ∧ fq.Sublist fp' := by
    obtain ⟨v, vr, f1, f2, ev, h1, q, ef⟩ := h
    subst ev
    cases o with
    | none => cases e
    | some t' =>
      by_cases hw : t'.isOwn = true
      · have e : (if t'.isOwn then (finL ts ρ').map fun l => t' :: l else none) = some ts' := e
        rw [if_pos hw] at e
        obtain ⟨l, e1, e2⟩ := Option.map_eq_some_iff.mp e
        subst e2
        obtain ⟨v', r', g1, g2, es, h', r, eg⟩ := r
        have k0 := k 0 t v rfl ot rfl
        subst es
        have ev : v' = v := by simpa using k0
        subst ev
        obtain ⟨fq, z1, z2⟩ := ih q r e1 k.tl
        exact ⟨g1 ++ fq, ⟨v', vr, g1, fq, rfl, h', z1, rfl⟩, by rw [eg]; exact List.Sublist.append (List.Sublist.refl _) z2⟩
      · have e : (if t'.isOwn then (finL ts ρ').map fun l => t' :: l else none) = some ts' := e
        rw [if_neg hw] at e
        cases e
theorem finL_ok (s : Stb O H O' H') : ∀ {ts : List T} {vs : List V} {f : List Addr} {ρ' : Env} {σ' : L2.St} {fp' : List Addr} {ts' : List T}, RTs c O H ts vs f → RS c O' H' ρ' σ' fp' → finL ts ρ' = some ts' →
    OwnAt ts vs σ' → ∃ fq, RTs c O' H' ts' vs fq ∧ fq.Sublist fp'
  | [], _, _, _, _, _, _, h, _, e, _ => by
    cases e
    exact ⟨[], ⟨h.1, rfl⟩, List.nil_sublist _⟩
  | .fr d :: ts, _, _, [], _, _, _, h, r, e, k => by simp [finL] at e
  | .lst _ :: ts, _, _, [], _, _, _, h, r, e, k => by simp [finL] at e
  | .dK _ :: ts, _, _, [], _, _, _, h, r, e, k => by simp [finL] at e
  | .dT _ :: ts, _, _, [], _, _, _, h, r, e, k => by simp [finL] at e
  | .obj _ _ :: ts, _, _, [], _, _, _, h, r, e, k => by simp [finL] at e
  | .fr d :: ts, _, _, o :: ρ, _, _, _, ⟨v, vr, f1, f2, ev, h, q, ef⟩, r, e, k => by
    simp only [finL] at e
    obtain ⟨l, e1, e2⟩ := Option.map_eq_some_iff.mp e
    subst e2 ev
    cases o with
    | none =>
      obtain ⟨s', r', es, r⟩ := r
      subst es
      obtain ⟨fq, z1, z2⟩ := finL_ok s q r e1 k.tl
      exact ⟨fq, ⟨v, vr, [], fq, rfl, ⟨h.1.stb s, rfl⟩, z1, rfl⟩, z2⟩
    | some t0 =>
      obtain ⟨v', r', g1, g2, es, h', r, eg⟩ := r
      subst es
      obtain ⟨fq, z1, z2⟩ := finL_ok s q r e1 k.tl
      exact ⟨fq, ⟨v, vr, [], fq, rfl, ⟨h.1.stb s, rfl⟩, z1, rfl⟩, by rw [eg]; exact z2.trans (List.sublist_append_right _ _)⟩
  | .lst xs :: ts, _, _, o :: ρ, _, _, _, h, r, e, k => finL_own s (t := .lst xs) rfl h r (by cases o <;> simpa [finL] using e) k fun q r e k => finL_ok s q r e k
  | .dK xs :: ts, _, _, o :: ρ, _, _, _, h, r, e, k => finL_own s (t := .dK xs) rfl h r (by cases o <;> simpa [finL] using e) k fun q r e k => finL_ok s q r e k
  | .dT xs :: ts, _, _, o :: ρ, _, _, _, h, r, e, k => finL_own s (t := .dT xs) rfl h r (by cases o <;> simpa [finL] using e) k fun q r e k => finL_ok s q r e k
  | .obj n xs :: ts, _, _, o :: ρ, _, _, _, h, r, e, k => finL_own s (t := .obj n xs) rfl h r (by cases o <;> simpa [finL] using e) k fun q r e k => finL_ok s q r e k
theorem ownsOk_bor {ts : List T} (h : ownsOk bor ts = true) {i : Nat} {t : T} (e : ts[i]? = some t) (o : t.isOwn = true) : i ∈ bor := by
  have hi := (List.getElem?_eq_some_iff.mp e).1
  have q := List.all_eq_true.mp h i (List.mem_range.mpr hi)
  rw [e] at q
  cases t with
  | fr d => cases o
  | _ => exact List.contains_iff_mem.mp q

/-! ### a def's body keeps the promise -/
/-- the end of a body -/
theorem body_end {n : Nat} {ts ts' : List T} {vs : List V} (r : RTs c O H ts vs fp) (ow : ∀ b ∈ fp, O b) (ho : ownsOk bor ts = true) (S : SR c.v O' fp' H' ρ' σ') (E : Ext fp O H fp' O' H') (B : Bk bor (vs.map some ++ List.replicate n none) σ') (e : finL ts ρ' = some ts') :
    ∃ fq, RTs c O' H' ts' vs fq ∧ fq.Sublist fp' := by
  refine finL_ok (E.stb ow) r S.rs e fun i t v h1 h2 h3 => ?_
  have q := B i (ownsOk_bor ho h1 h2)
  rw [q]
  have hi := (List.getElem?_eq_some_iff.mp h3).1
  rw [List.getElem?_append_left (by simpa using hi), List.getElem?_map, h3]
  rfl
theorem sub_ext {fq : List Addr} (E : Ext fp O H fp' O' H') (k : fq.Sublist fp') : Ext fp O H fq O' H' := ⟨E.kp, E.th, E.ok, E.on, fun a ha => E.fn a (k.subset ha)⟩
theorem body_core {N : List Str} {n : Nat} {g : FS} {t : TS} {vs : List V} {Q : VK} {E : XK} (ot : OkS c.v (fun cls d _ H => E cls d H) bor g t) (h : spV c n (bodyF N.length bor g) vs H Q E) : t { nx := fun _ H' => Q .non H', rt := Q } (L2.start N vs) H := by
  obtain ⟨hn, O, fp, ts, r, nd, ow, tr, tb, p⟩ := h
  unfold bodyF at p
  by_cases ho : ownsOk bor ts = true
  · rw [if_pos ho] at p
    have hlen := r.len
    have hst : L2.start N vs = vs.map some ++ List.replicate (N.length - ts.length) none := by unfold L2.start; rw [hlen]
    rw [hst]
    have S0 : SR c.v O fp H (ts.map some ++ List.replicate (N.length - ts.length) none) (vs.map some ++ List.replicate (N.length - ts.length) none) := ⟨r.rs, nd, ow, tr, tb, fun _ q => nomatch q⟩
    refine ot O fp H _ _ _ S0 ?_
    revert p
    cases g (ts.map some ++ List.replicate (N.length - ts.length) none) with
    | none => exact fun p => p
    | some o =>
      cases o with
      | brk ρ' => exact fun p => p.elim
      | cnt ρ' => exact fun p => p.elim
      | nx ρ' =>
        intro p σ' H' O' fp' S' E' B'
        cases e : finL ts ρ' with
        | none => simp only [e] at p; exact p.elim
        | some ts' =>
          simp only [e] at p
          obtain ⟨fq, z1, z2⟩ := body_end r ow ho S' E' B' e
          exact p .non H' O' fq [] z1 (by rw [List.append_nil]; exact S'.nd.sublist z2) (fun b hb => S'.ow b (z2.subset (by simpa using hb))) S'.tr S'.tb (sub_ext E' z2) ⟨rfl, rfl⟩ fun _ q => (by cases q)
      | exc x ρ' =>
        intro p cls d σ' H' O' fp' S' E' B' R
        cases e : finL ts ρ' with
        | none => simp only [e] at p; exact p.elim
        | some ts' =>
          simp only [e] at p
          obtain ⟨fq, z1, z2⟩ := body_end r ow ho S' E' B' e
          exact p cls d H' O' fq z1 (S'.nd.sublist z2) (fun b hb => S'.ow b (z2.subset hb)) S'.tr S'.tb (sub_ext E' z2) R
      | ret w ρ' =>
        intro p u σ' H' O' fp' g' S' E' B' R Fg
        cases w with
        | fr d =>
          cases e : finL ts ρ' with
          | none => simp only [outT, Option.bind_some, e] at p; exact p.elim
          | some ts' =>
            simp only [outT, Option.bind_some, e] at p
            obtain ⟨fq, z1, z2⟩ := body_end r ow ho S' E' B' e
            exact p u H' O' fq [] z1 (by rw [List.append_nil]; exact S'.nd.sublist z2) (fun b hb => S'.ow b (z2.subset (by simpa using hb))) S'.tr S'.tb (sub_ext E' z2) ⟨R.1, rfl⟩ fun _ q => (by cases q)
        | nw t =>
          cases e : finL ts ρ' with
          | none => simp only [outT, Option.bind_some, e] at p; exact p.elim
          | some ts' =>
            simp only [outT, Option.bind_some, e] at p
            obtain ⟨fq, z1, z2⟩ := body_end r ow ho S' E' B' e
            obtain ⟨R1, R2, R3⟩ := R
            refine p u H' O' fq g' z1 (List.nodup_append.mpr ⟨S'.nd.sublist z2, R2, fun a ha b hb e => (R3 b hb).2 (z2.subset (e ▸ ha))⟩) (fun b hb => ?_) S'.tr S'.tb (sub_ext E' z2) R1 Fg
            rcases List.mem_append.mp hb with q | q
            · exact S'.ow b (z2.subset q)
            · exact (R3 b q).1
        | al i =>
          obtain ⟨hu, _⟩ := R
          cases q : ρ'[i]? with
          | none => simp only [outT, q] at p; exact p.elim
          | some o =>
            cases o with
            | none => simp only [outT, q] at p; exact p.elim
            | some t =>
              simp only [outT, q, Option.bind_some] at p
              cases e : finL ts (ρ'.set i none) with
              | none => simp only [e] at p; exact p.elim
              | some ts' =>
                simp only [e] at p
                obtain ⟨v, f1, fl, fr, h1, h2, h3, _, h5⟩ := S'.rs.get q
                rw [hu] at h1
                have ev : u = v := by simpa using h1
                subst ev
                have RS' := h5 (O' := O') (H' := H') (s' := some u) (.less fun a q => q) (fun _ _ => rfl)
                rw [set_same hu] at RS'
                have nd' := S'.nd
                rw [h3] at nd'
                have S2 : SR c.v O' (fl ++ fr) H' (ρ'.set i none) σ' := ⟨RS', nodup_less nd', fun a ha => S'.ow a (by rw [h3]; simp only [List.mem_append] at ha ⊢; rcases ha with ha | ha <;> simp [ha]), S'.tr, S'.tb, fun _ q => nomatch q⟩
                have E2 : Ext fp O H (fl ++ fr) O' H' := ⟨E'.kp, E'.th, E'.ok, E'.on, fun a ha => E'.fn a (by rw [h3]; simp only [List.mem_append] at ha ⊢; rcases ha with ha | ha <;> simp [ha])⟩
                obtain ⟨fq, z1, z2⟩ := body_end r ow ho S2 E2 B' e
                have dj : ∀ a ∈ fl ++ fr, a ∉ f1 := by
                  simp only [List.nodup_append, List.mem_append] at nd' ⊢
                  rintro a (ha | ha) hf
                  · exact nd'.1.2.2 a ha a hf rfl
                  · exact nd'.2.2 a (.inr hf) a ha rfl
                have n1 : f1.Nodup := by
                  simp only [List.nodup_append] at nd'
                  exact nd'.1.2.1
                refine p u H' O' fq f1 z1 (List.nodup_append.mpr ⟨S2.nd.sublist z2, n1, fun a ha b hb e => dj a (z2.subset ha) (e ▸ hb)⟩) (fun b hb => ?_) S'.tr S'.tb (sub_ext E2 z2) h2 fun a ha => (E'.fn a (by rw [h3]; simp [ha])).symm
                rcases List.mem_append.mp hb with q | q
                · exact S2.ow b (z2.subset q)
                · exact S'.ow b (by rw [h3]; simp [q])
  · rw [if_neg ho] at p
    exact p.elim
/-- a def's body keeps the promise -/
theorem body_ok {P : Program} {w : World} {mg : Str → Option Value} {base : Heap} {x qual : Str} {st : Stmt} {f : Addr} {fd : FuncData} {N ps : List Str} {k : Nat} {g : FS} (F : Fun c.K x qual st f fd) (S : FnScope N ps (defScope st))
    (hb : ∀ (X : Cx) (W : WX), X.prog = P → X.w = w → X.K = c.K → X.mg = mg → X.base = base → X.N = N → X.env.scope = defScope st → X.fn = (fun _ => true) → X.calm = true → (X.stack = X.env :: X.outer) → X.env.frame = some X.env.locals → X.ex = [] →
      PassesOwn (model X.prog X.w) X.A X.env X.xe → Takes X W → Room k X.A → VSs c.v X W bor (defBody st) g) :
    FnOk P w c.K mg base (L2.CX P w) (k + 1) f fd ps (spV c ps.length (bodyF N.length bor g)) := by
  refine F.okX S (fun vs H Q E h => h.1) (fun cdv A outer s H vs Q E hr h => ?_)
  obtain ⟨t, pt, ot⟩ := hb (cxOf (L2.CX P w) P w c.K mg base N qual (defScope st) f cdv A outer s H E) (fun cls d _ H => E cls d H) rfl rfl rfl rfl rfl rfl rfl rfl rfl rfl rfl rfl
    (passes_of (K := fun e s'' => L2.CX P w outer H s E e s'') (E₁ := fun e s'' => L2.CX P w outer H s E e s'') rfl) (takes_of rfl rfl rfl rfl) hr
  exact ⟨t, pt, body_core ot h⟩
end
end Vl

namespace Vl
open PySem PySem.Spec PyProof.Rows L2
section
variable {X : Cx} {CX : CXT} {k : Nat} {f C : Addr} {fd : FuncData} {ps : List Str} {sp : Sp} {E : L2.St → XK} {x m : Str} {p pos apos : Pos} {e o : Expr} {es : List Expr} {ta : TE} {t : TA}
def tMethS (C : Addr) (m : Str) (sp : Sp) (E : L2.St → XK) (ta : TE) (t : TA) : TE := fun σ H Q => ta σ H fun x H1 => ∃ a dx fs, x = .ref a ∧ H1 a = some (.ins C dx fs) ∧ fs.lookup m = none ∧
  t σ H1 fun vs H2 => sp (x :: vs) H2 Q (E σ)
theorem pe_methS {pl : Sem Bool} (he : PE X o ta) (c : Cls X.K C) (hm : Meth X.K C m f) (F : FnOk X.prog X.w X.K X.mg X.base CX k f fd ps sp) (hr : Room k X.A) (hb : Binds X.K fd ps []) (hx : ∀ σ, PassesAt CX X σ (E σ)) (ha : PA X (e :: es) t)
    (hst : starEach (e :: es) X.env = (false, eval e X.env) :: starEach es X.env := by rfl) (hpl : (backTo pos (starEach es X.env)).any (·.1) = false := by rfl)
    (ht : eval (.Call (.Attribute o m apos) (e :: es) [] pos) X.env = (do
      let ov ← eval o X.env
      standAt apos.atName
      let (f, first) ← holding [ov] (getMethod ov m pl)
      callWith pos f first (backTo pos (starEach (e :: es) X.env)) (backToKw pos (keywordEach [] X.env))) := by rfl) :
    PE X (.Call (.Attribute o m apos) (e :: es) [] pos) (tMethS C m sp E ta t) := by
  refine ⟨fun pins s σ H Q I h => ?_⟩
  refine PySem.W.methodCall_KW (pl := pl) (thn (he.run pins s σ H _ I h) fun u s1 ⟨x, H1, I1, rx, a, dx, fs, ex, ea, l, q⟩ => ?_) ht
  subst ex
  obtain rfl : u = Value.ref a := rx
  refine getmeth_ok I1 ea c hm l ?_
  refine PySem.W.callWith_K (first := [.ref a]) (h₀ := X.base) I.ok.mod.kin hm.kp (thn (ha.run pos pins s1 σ H1 _ I1 q) fun us s2 ⟨vs, H2, I2, r, q2⟩ => ⟨I2.kIn, ?_⟩) hst hpl
  exact run_fnS (us := .ref a :: us) (vs := .ref a :: vs) F hr hb (hx σ) I2 (.cons rfl r) q2
theorem pe_methS0 {pl : Sem Bool} (he : PE X o ta) (c : Cls X.K C) (hm : Meth X.K C m f) (F : FnOk X.prog X.w X.K X.mg X.base CX k f fd ps sp) (hr : Room k X.A) (hb : Binds X.K fd ps []) (hx : ∀ σ, PassesAt CX X σ (E σ))
    (ht : eval (.Call (.Attribute o m apos) [] [] pos) X.env = (do
      let ov ← eval o X.env
      standAt apos.atName
      let (f, first) ← holding [ov] (getMethod ov m pl)
      callWith pos f first (backTo pos (starEach [] X.env)) (backToKw pos (keywordEach [] X.env))) := by rfl) :
    PE X (.Call (.Attribute o m apos) [] [] pos) (tMethS C m sp E ta tNil) := by
  refine ⟨fun pins s σ H Q I h => ?_⟩
  refine PySem.W.methodCall_KW (pl := pl) (thn (he.run pins s σ H _ I h) fun u s1 ⟨x, H1, I1, rx, a, dx, fs, ex, ea, l, q⟩ => ?_) ht
  subst ex
  obtain rfl : u = Value.ref a := rx
  refine getmeth_ok I1 ea c hm l ?_
  exact PySem.W.callWith_K0 (first := [.ref a]) I1.kIn hm.kp (run_fnS (us := [.ref a]) (vs := [.ref a]) F hr hb (hx σ) I1 (.cons rfl .nil) q)
theorem pe_callS0 (F : FnOk X.prog X.w X.K X.mg X.base CX k f fd ps sp) (hr : Room k X.A) (hg : Gl X x) (hm : X.mg x = some (.ref f)) (hk : PySem.W.keepIn X.K (.ref f) = true) (hb : Binds X.K fd ps []) (hx : ∀ σ, PassesAt CX X σ (E σ))
    (hdb : (x == ("__debug__" : Str)) = false := by decide) : PE X (.Call (.Name x p) [] [] pos) (tCallS sp E tNil) := by
  refine ⟨fun pins s σ H Q I h => ?_⟩
  refine wpAny_Call_Name_kw (ld_glob I hg hm ?_ hdb)
  exact PySem.W.callWith_K0 I.kIn hk (run_fnS (us := []) F hr hb (hx σ) I .nil h)
theorem run_makeS {pins : List (Addr × Obj)} {σ : L2.St} {H : Hp} {s : Shared} {Q : VK} {us : List Value} {vs : List V} (M : Mk X.K C f) (F : FnOk X.prog X.w X.K X.mg X.base CX k f fd ps sp) (hr : Room (k + 1) X.A) (hb : Binds X.K fd ps [])
    (hx : PassesAt CX X σ (E σ)) (I : Inv X pins σ H s) (r : Vals vs us)
    (h : ∀ x dx, H x = none → H dx = none → dx ≠ x → sp (.ref x :: vs) (upd (upd H dx (.own x)) x (.ins C dx [])) (fun v H2 => v = .non ∧ Q (.ref x) H2) (E σ)) :
    wpAny (model X.prog X.w) X.A (call (.ref C) us) (EP X pins σ Q) X.xe s := by
  have hq := h (s.heap.objs.size + 1) s.heap.objs.size (I.hok.fresh (Nat.le_succ _)) (I.hok.fresh (Nat.le_refl _)) (Nat.ne_of_lt (Nat.lt_succ_self _))
  have I2 := Inv.made (C := C) I
  have r2 : Vals (V.ref (s.heap.objs.size + 1) :: vs) (Value.ref (s.heap.objs.size + 1) :: us) := .cons rfl r
  have hl : (Value.ref (s.heap.objs.size + 1) :: us).length = ps.length := by
    have e := r2.length
    rw [F.len _ _ _ _ hq] at e
    exact e.symm
  have b := hb _ (Value.ref (s.heap.objs.size + 1) :: us) I2.kIn (by rw [List.append_nil]; exact hl)
  rw [List.append_nil] at b
  refine wpAny_call (make_map (f := f) I.kIn M.makes M.init (beq_iff_eq.mp M.fn) (codeAny_mono (F.run _ X.stack _ _ ⟨Value.ref (s.heap.objs.size + 1) :: us, []⟩ (Value.ref (s.heap.objs.size + 1) :: us) _ _ (E σ) (hr.make C us [])
    (I2.env0.make C us []) b r2 hq) fun r s' hq' => ?_))
  cases r with
  | error e => exact hx pins _ _ e s' I2 hq'
  | ok fl =>
    cases fl with
    | ret u =>
      obtain ⟨v, H', I3, rv, ev, q3⟩ := I2.after hq'
      subst ev
      exact ⟨rv, ⟨V.ref (s.heap.objs.size + 1), H', I3, rfl, q3⟩⟩
    | next => exact False.elim hq'
    | brk => exact False.elim hq'
    | cont => exact False.elim hq'
def tMakeS (C : Addr) (sp : Sp) (E : L2.St → XK) (t : TA) : TE := fun σ H Q => t σ H fun vs H1 => ∀ x dx, H1 x = none → H1 dx = none → dx ≠ x →
  sp (.ref x :: vs) (upd (upd H1 dx (.own x)) x (.ins C dx [])) (fun v H2 => v = .non ∧ Q (.ref x) H2) (E σ)
theorem pe_makeS (M : Mk X.K C f) (F : FnOk X.prog X.w X.K X.mg X.base CX k f fd ps sp) (hr : Room (k + 1) X.A) (hg : Gl X x) (hm : X.mg x = some (.ref C)) (hb : Binds X.K fd ps []) (hx : ∀ σ, PassesAt CX X σ (E σ))
    (ha : PA X (e :: es) t) (hdb : (x == ("__debug__" : Str)) = false := by decide) (he : starEach (e :: es) X.env = (false, eval e X.env) :: starEach es X.env := by rfl) (hpl : (backTo pos (starEach es X.env)).any (·.1) = false := by rfl) :
    PE X (.Call (.Name x p) (e :: es) [] pos) (tMakeS C sp E t) := by
  refine ⟨fun pins s σ H Q I h => ?_⟩
  refine wpAny_Call_Name_kw (ld_glob I hg hm ?_ hdb)
  refine PySem.W.callWith_K (h₀ := X.base) I.ok.mod.kin M.kp (thn (ha.run pos pins s σ H _ I h) fun us s1 ⟨vs, H1, I1, r, q⟩ => ⟨I1.kIn, ?_⟩) he hpl
  exact run_makeS M F hr hb (hx σ) I1 r q
end

def toVal : T → Val
  | .fr d => .fr d
  | t => .nw t
section
variable {c : Vc} {X : Cx} {W : WX} {b b1 b2 : Bool} {bor : List Nat} {α β γ δ : Type} {O O1 O2 O' : Addr → Prop} {fp fp1 fp2 fp' : List Addr} {H H1 H2 H' : Hp} {ρ ρ1 ρ2 ρ' : Env} {σ σ1 σ' : L2.St}
variable {e o : Expr} {es : List Expr} {fa : FE} {fs : FG (List Val)} {pos apos p : Pos} {n k : Nat} {F : FF} {f C : Addr} {fd : FuncData} {ps : List Str} {x m : Str}
theorem RT.val {t : T} {u : V} {g : List Addr} (r : RT c O H t u g) (nd : g.Nodup) (k : ∀ b ∈ g, O b ∧ b ∉ fp) : RV c O fp H ρ σ (toVal t) u g := by
  cases t with
  | fr d => exact r
  | _ => exact ⟨r, nd, k⟩
theorem RDs.rts : ∀ {ds : List D} {vs : List V}, RDs c O H ds vs → RTs c O H (ds.map .fr) vs []
  | [], _, h => ⟨h, rfl⟩
  | _ :: _, _, ⟨v, r, e, h, t⟩ => ⟨v, r, [], [], e, ⟨h, rfl⟩, t.rts, rfl⟩
/-! ### a call whose arguments stand still -/
def kCall (F : FF) (ws : List Val) : FE := fun ρ => match (fzs ws).bind fun ds => F (ds.map .fr) with
  | some (.ret w _) => some (.val (toVal w) ρ)
  | some (.exc x _) => some (.exc x ρ)
  | none => none
theorem Post.call {Q : V → Hp → Prop} {ws : List Val} {us : List V} {g1 : List Addr} (hn : us.length = n) (S0 : ∀ b, O b → nT (H b)) (S : SR c O1 fp1 H1 ρ1 σ) (E : Ext fp O H fp1 O1 H1) (I : b = true → Ins H H1) (rx : RVs c O1 fp1 H1 ρ1 σ ws us g1) (F1 : Fr g1 fp H)
    (h : Post (RV c) c W b O fp H σ (kCall F ws ρ1) Q) : spV c n F us H1 Q (WE W σ) := by
  unfold kCall at h
  cases ef : fzs ws with
  | none => simp only [ef, Option.bind_none] at h; exact h.elim
  | some ds =>
    simp only [ef, Option.bind_some] at h
    have R := rx.rest (O1 := fun a => O1 a ∧ a ∉ g1) ef (fun a q => q.1) (fun a ha q => q.2 ha)
    have S2 := S.less fun a ha => (rx.own a ha).2
    have E2 := E.less S0 F1
    refine ⟨hn, _, [], ds.map .fr, R.rts, .nil, (fun _ q => (by cases q)), S2.tr, S2.tb, ?_⟩
    cases ea : F (ds.map .fr) with
    | none => simp only [ea] at h; exact h.elim
    | some a =>
      have adv : ∀ {fq : List Addr} {O' : Addr → Prop} {H' : Hp}, Ext [] (fun a => O1 a ∧ a ∉ g1) H1 fq O' H' → (∀ b, O' b → nT (H' b)) → Tabs c H' → SR c O' fp1 H' ρ1 σ ∧ Ext fp O H fp1 O' H' ∧ Ins H1 H' := fun {fq O' H'} Eq tr tb => by
        have kp : ∀ a, nT (H1 a) → H' a = H1 a := fun a h => Eq.kp a h (by simp)
        refine ⟨⟨S2.rs.stb (.of (fun a _ h => kp a h) Eq.on) fun a ha => kp a (S2.tr a (S2.ow a ha)), S2.nd, fun a ha => Eq.ok a (S2.ow a ha) (by simp), tr, tb, fun p hp => (S2.px p hp).stb (.of (fun a _ h => kp a h) Eq.on)⟩, ?_, kp⟩
        exact E2.trans ⟨fun a h _ => kp a h, Eq.th, fun a h _ => Eq.ok a h (by simp), Eq.on, fun a ha => .inl ha⟩ S0
      cases a with
      | ret w ts' =>
        simp only [ea] at h
        intro u H' O' fq g r nd ow tr tb Eq R' Fg
        obtain ⟨S3, E3, I3⟩ := adv Eq tr tb
        have nw : ∀ a ∈ g, H1 a = none := fun a ha => (Fg a ha).elim id fun q => (by cases q)
        exact h u H' O' fp1 g S3 E3 (fun q => (I q).trans I3) (R'.val (List.nodup_append.mp nd).2.1 fun a ha => ⟨ow a (by simp [ha]), fun q => (S.tr a (S.ow a q)).ne (nw a ha)⟩) fun a ha => .inl (Classical.byContradiction fun z => E.th a z (nw a ha))
      | exc x ts' =>
        simp only [ea] at h
        intro cls d H' O' fq r nd ow tr tb Eq R'
        obtain ⟨S3, E3, I3⟩ := adv Eq tr tb
        exact h cls d H' O' fp1 S3 E3 R'
theorem RVs.len : ∀ {ws : List Val} {us : List V} {g : List Addr}, RVs c O fp H ρ σ ws us g → us.length = ws.length
  | [], _, _, h => by rw [h.1]; rfl
  | _ :: _, _, _, ⟨u, r, g1, g2, e, _, t, _⟩ => by rw [e]; simp [RVs.len t]
def vCallF (n : Nat) (F : FF) (fs : FG (List Val)) : FE := bnd fs fun ws => if ws.length = n then kCall F ws else fun _ => none
theorem ite_len {ws : List Val} {Q : V → Hp → Prop} {g : FE} (h : Post (RV c) c W b O fp H σ ((if ws.length = n then g else fun _ => none) ρ) Q) : ws.length = n ∧ Post (RV c) c W b O fp H σ (g ρ) Q := by
  by_cases hl : ws.length = n
  · rw [if_pos hl] at h; exact ⟨hl, h⟩
  · rw [if_neg hl] at h; exact h.elim
theorem ve_call (hK : X.K = c.K) (Fk : FnOk X.prog X.w X.K X.mg X.base (L2.CX X.prog X.w) k f fd ps (spV c.toVb n F)) (hr : Room k X.A) (hg : Gl X x) (hm : X.mg x = some (.ref f)) (hk : PySem.W.keepIn X.K (.ref f) = true) (hb : Binds X.K fd ps []) (tk : Takes X W)
    (ha : VA c X W b (e :: es) fs) (hdb : (x == ("__debug__" : Str)) = false := by decide) (he : starEach (e :: es) X.env = (false, eval e X.env) :: starEach es X.env := by rfl) (hpl : (backTo pos (starEach es X.env)).any (·.1) = false := by rfl) :
    VE c X W b (.Call (.Name x p) (e :: es) [] pos) (vCallF n F fs) := by
  obtain ⟨ts, ps', os⟩ := ha
  refine ⟨_, pe_callS Fk hr hg hm hk hb (fun σ => passAt tk σ) ps' hdb he hpl, fun O fp H ρ σ Q S h => os.thn S.tr S .refl (fun _ => .refl) h id fun ws ρ1 us H1 O1 fp1 g1 _ S1 E1 _ I1 R1 F1 h1 => ?_⟩
  obtain ⟨hl, h2⟩ := ite_len h1
  exact Post.call (R1.len.trans hl) S.tr S1 E1 I1 R1 F1 h2
def vCallF0 (F : FF) : FE := kCall F []
theorem ve_call0 (hK : X.K = c.K) (Fk : FnOk X.prog X.w X.K X.mg X.base (L2.CX X.prog X.w) k f fd ps (spV c.toVb 0 F)) (hr : Room k X.A) (hg : Gl X x) (hm : X.mg x = some (.ref f)) (hk : PySem.W.keepIn X.K (.ref f) = true) (hb : Binds X.K fd ps []) (tk : Takes X W)
    (hdb : (x == ("__debug__" : Str)) = false := by decide) : VE c X W b (.Call (.Name x p) [] [] pos) (vCallF0 F) :=
  ⟨_, pe_callS0 Fk hr hg hm hk hb (fun σ => passAt tk σ) hdb, fun O fp H ρ σ Q S h => Post.call (ws := []) (g1 := []) rfl S.tr S .refl (fun _ => .refl) ⟨rfl, rfl⟩ (fun _ q => (by cases q)) h⟩
/-! ### an object that stands still: a field, a method -/
def lookD (fs : List (Str × D)) (n : Str) : Option D := fs.lookup n
theorem RDf.look : ∀ {fs : List (Str × D)} {vs : List (Str × V)} {n : Str}, RDf c O H fs vs → (∀ d, fs.lookup n = some d → ∃ v, vs.lookup n = some v ∧ RD c O H d v) ∧ (fs.lookup n = none → vs.lookup n = none)
  | [], _, n, h => by rw [show _ = [] from h]; simp
  | (k, d) :: fs, _, n, ⟨v, r, e, h, t⟩ => by
    subst e
    simp only [List.lookup]
    cases q : n == k with
    | true => simp only [Option.some.injEq, forall_eq']; exact ⟨⟨v, rfl, h⟩, by simp⟩
    | false => exact RDf.look t
/-- the field of an object -/
def dFld (nm : Str) (fl : Str) : D → Option Val
  | .obj n fs => if n = nm then (fs.lookup fl).map .fr else none
  | _ => none
def w1 (g : D → Option Val) (x : Val) (ρ : Env) : Option Val := (vw ρ x).bind g
def v1 (g : D → Option Val) (x : Val) : FE := fun ρ => match w1 g x ρ with
  | some w => some (.val w ρ)
  | none => none
def vFld (nm fl : Str) (fa : FE) : FE := bnd fa (v1 (dFld nm fl))
theorem ve_fld {nm fl : Str} (hK : X.K = c.K) (hc : Cls c.K (c.cl nm)) (hn : NoAttr c.K (c.cl nm) fl) (ha : VE c X W b e fa) (hb : attributeBase e fl X.env (eval e X.env) = eval e X.env := by rfl) : VE c X W b (.Attribute e fl pos) (vFld nm fl fa) := by
  obtain ⟨ta, pa, oa⟩ := ha
  refine ⟨_, pe_fld pa hb, fun O fp H ρ σ Q S h => oa.thn S.tr S .refl (fun _ => .refl) h id fun w ρ1 u H1 O1 fp1 g1 _ S1 E1 _ I1 R1 F1 h1 => ?_⟩
  cases e1 : w1 (dFld nm fl) w ρ1 with
  | none => simp only [v1, e1] at h1; exact h1.elim
  | some w' =>
    simp only [v1, e1] at h1
    obtain ⟨d, h2, h3⟩ := Option.bind_eq_some_iff.mp e1
    have pk := R1.vw S1 h2
    cases d with
    | obj n fs =>
      have h3 : (if n = nm then (fs.lookup fl).map Val.fr else none) = some w' := h3
      by_cases en : n = nm
      · subst en
        rw [if_pos rfl] at h3
        obtain ⟨d', h4, h5⟩ := Option.map_eq_some_iff.mp h3
        subst h5
        obtain ⟨a, dx, vs, eu, ho, rf⟩ := pk
        obtain ⟨v, h6, h7⟩ := rf.look.1 d' h4
        rw [hK]
        exact ⟨a, _, dx, vs, v, eu, ho, hc, hn, h6, Post.pr h1 S.tr S1 E1 I1 (.same h7)⟩
      · rw [if_neg en] at h3
        cases h3
    | _ => cases h3

end
end Vl

namespace Vl
open PySem PySem.Spec PyProof.Rows L2
section
variable {c : Vc} {X : Cx} {W : WX} {b b1 b2 : Bool} {bor : List Nat} {α β γ δ : Type} {O O1 O2 O' : Addr → Prop} {fp fp1 fp2 fp' : List Addr} {H H1 H2 H' : Hp} {ρ ρ1 ρ2 ρ' : Env} {σ σ1 σ' : L2.St}
variable {e o : Expr} {es : List Expr} {fa : FE} {fs : FG (List Val)} {pos apos p : Pos} {n k : Nat} {F : FF} {f C : Addr} {fd : FuncData} {ps : List Str} {x m : Str}
/-! ### a method of an object that stands still -/
def isObjD (nm m : Str) (x : Val) (ρ : Env) : Bool := match vw ρ x with
  | some (.obj n fs) => decide (n = nm) && (fs.lookup m).isNone
  | _ => false
def vMeth (nm m : Str) (n : Nat) (F : FF) (fo : FE) (fs : FG (List Val)) : FE := bnd fo fun x ρ => if isObjD nm m x ρ then bnd fs (fun ws => if (x :: ws).length = n then kCall F (x :: ws) else fun _ => none) ρ else none
theorem isObjD_ok {nm : Str} {w : Val} {u : V} {g : List Addr} (h : isObjD nm m w ρ = true) (R : RV c O fp H ρ σ w u g) (S : SR c O fp H ρ σ) : ∃ a dx fs, u = .ref a ∧ H a = some (.ins (c.cl nm) dx fs) ∧ fs.lookup m = none := by
  unfold isObjD at h
  cases e : vw ρ w with
  | none => rw [e] at h; cases h
  | some d =>
    have pk := R.vw S e
    rw [e] at h
    cases d with
    | obj n fs =>
      have h : (decide (n = nm) && (fs.lookup m).isNone) = true := h
      rw [Bool.and_eq_true] at h
      obtain rfl := of_decide_eq_true h.1
      obtain ⟨a, dx, vs, eu, ho, rf⟩ := pk
      exact ⟨a, dx, vs, eu, ho, rf.look.2 (by simpa using h.2)⟩
    | _ => cases h
theorem ve_meth {nm : Str} {pl : Sem Bool} (hK : X.K = c.K) (ho : VE c X W b o fa) (cl : Cls c.K (c.cl nm)) (hm : Meth c.K (c.cl nm) m f) (Fk : FnOk X.prog X.w X.K X.mg X.base (L2.CX X.prog X.w) k f fd ps (spV c.toVb n F)) (hr : Room k X.A) (hb : Binds X.K fd ps []) (tk : Takes X W)
    (ha : VA c X W b (e :: es) fs) (hst : starEach (e :: es) X.env = (false, eval e X.env) :: starEach es X.env := by rfl) (hpl : (backTo pos (starEach es X.env)).any (·.1) = false := by rfl)
    (ht : eval (.Call (.Attribute o m apos) (e :: es) [] pos) X.env = (do
      let ov ← eval o X.env
      standAt apos.atName
      let (f, first) ← holding [ov] (getMethod ov m pl)
      callWith pos f first (backTo pos (starEach (e :: es) X.env)) (backToKw pos (keywordEach [] X.env))) := by rfl) :
    VE c X W b (.Call (.Attribute o m apos) (e :: es) [] pos) (vMeth nm m n F fa fs) := by
  obtain ⟨to, po, oo⟩ := ho
  obtain ⟨ts, ps', os⟩ := ha
  refine ⟨_, pe_methS po (by rw [hK]; exact cl) (by rw [hK]; exact hm) Fk hr hb (fun σ => passAt tk σ) ps' hst hpl ht, fun O fp H ρ σ Q S h => oo.thn S.tr S .refl (fun _ => .refl) h id fun w ρ1 u H1 O1 fp1 g1 _ S1 E1 _ I1 R1 F1 h1 => ?_⟩
  by_cases hi : isObjD nm m w ρ1 = true
  · simp only [if_pos hi] at h1
    obtain ⟨a, dx, vs, eu, hob, hl⟩ := isObjD_ok hi R1 S1
    refine ⟨a, dx, vs, eu, hob, hl, os.thn S.tr S1 E1 I1 h1 id fun ws ρ2 us H2 O2 fp2 g2 _ S2 E2 E12 I2 R2 F2 h2 => ?_⟩
    obtain ⟨hl, h2⟩ := ite_len (ws := w :: ws) h2
    refine Post.call (ws := w :: ws) (g1 := g1 ++ g2) (by rw [← hl]; simp [R2.len]) S.tr S2 E2 I2 ⟨u, us, g1, g2, rfl, R1.per S1 E12, R2, rfl, fun a h1 h2 => (F2 a h2).elim (R1.trk a h1).ne (R1.own a h1).2⟩ (fun a ha => ?_) h2
    rcases List.mem_append.mp ha with q | q
    · exact F1 a q
    · exact fresh_of E1 F2 a q
  · simp only [if_neg hi] at h1
    exact h1.elim
theorem ve_meth0 {nm : Str} {pl : Sem Bool} (hK : X.K = c.K) (ho : VE c X W b o fa) (cl : Cls c.K (c.cl nm)) (hm : Meth c.K (c.cl nm) m f) (Fk : FnOk X.prog X.w X.K X.mg X.base (L2.CX X.prog X.w) k f fd ps (spV c.toVb n F)) (hr : Room k X.A) (hb : Binds X.K fd ps []) (tk : Takes X W)
    (ht : eval (.Call (.Attribute o m apos) [] [] pos) X.env = (do
      let ov ← eval o X.env
      standAt apos.atName
      let (f, first) ← holding [ov] (getMethod ov m pl)
      callWith pos f first (backTo pos (starEach [] X.env)) (backToKw pos (keywordEach [] X.env))) := by rfl) :
    VE c X W b (.Call (.Attribute o m apos) [] [] pos) (vMeth nm m n F fa vNil) := by
  obtain ⟨to, po, oo⟩ := ho
  refine ⟨_, pe_methS0 po (by rw [hK]; exact cl) (by rw [hK]; exact hm) Fk hr hb (fun σ => passAt tk σ) ht, fun O fp H ρ σ Q S h => oo.thn S.tr S .refl (fun _ => .refl) h id fun w ρ1 u H1 O1 fp1 g1 _ S1 E1 _ I1 R1 F1 h1 => ?_⟩
  by_cases hi : isObjD nm m w ρ1 = true
  · simp only [if_pos hi] at h1
    obtain ⟨a, dx, vs, eu, hob, hl⟩ := isObjD_ok hi R1 S1
    refine ⟨a, dx, vs, eu, hob, hl, ?_⟩
    have h1 : Post (RV c) c W b O fp H σ ((if ([w] : List Val).length = n then kCall F [w] else fun _ => none) ρ1) Q := h1
    obtain ⟨hl, h2⟩ := ite_len (ws := [w]) h1
    exact Post.call (ws := [w]) (g1 := g1 ++ []) (by rw [← hl]; simp) S.tr S1 E1 I1 ⟨u, [], g1, [], rfl, R1, ⟨rfl, rfl⟩, rfl, fun a _ q => (by cases q)⟩ (by simpa using F1) h2
  · simp only [if_neg hi] at h1
    exact h1.elim

/-! ### an object is made -/
def kMake (nm : Str) (F : FF) (ws : List Val) : FE := fun ρ => match (fzs ws).bind fun ds => F (.obj nm [] :: ds.map .fr) with
  | some (.ret (.fr .non) (t :: _)) => if t.isOwn then some (.val (.nw t) ρ) else none
  | some (.exc x _) => some (.exc x ρ)
  | _ => none
def vMake (nm : Str) (n : Nat) (F : FF) (fs : FG (List Val)) : FE := bnd fs fun ws => if ws.length + 1 = n then kMake nm F ws else fun _ => none
theorem ve_make {nm : Str} (hK : X.K = c.K) (M : Mk c.K (c.cl nm) f) (Fk : FnOk X.prog X.w X.K X.mg X.base (L2.CX X.prog X.w) k f fd ps (spV c.toVb n F)) (hr : Room (k + 1) X.A) (hg : Gl X x) (hm : X.mg x = some (.ref (c.cl nm))) (hb : Binds X.K fd ps []) (tk : Takes X W)
    (ha : VA c X W b (e :: es) fs) (hdb : (x == ("__debug__" : Str)) = false := by decide) (he : starEach (e :: es) X.env = (false, eval e X.env) :: starEach es X.env := by rfl) (hpl : (backTo pos (starEach es X.env)).any (·.1) = false := by rfl) :
    VE c X W b (.Call (.Name x p) (e :: es) [] pos) (vMake nm n F fs) := by
  obtain ⟨ts, ps', os⟩ := ha
  refine ⟨_, pe_makeS (by rw [hK]; exact M) Fk hr hg hm hb (fun σ => passAt tk σ) ps' hdb he hpl, fun O fp H ρ σ Q S h => os.thn S.tr S .refl (fun _ => .refl) h id fun ws ρ1 us H1 O1 fp1 g1 _ S1 E1 _ I1 R1 F1 h1 => ?_⟩
  by_cases hl : ws.length + 1 = n
  · simp only [if_pos hl] at h1
    intro y dx hy hdx ne
    have kp2 : ∀ a, H1 a ≠ none → upd (upd H1 dx (.own y)) y (.ins (c.cl nm) dx []) a = H1 a := fun a h => by rw [upd_ne (fun q => h (by rw [q]; exact hy)), upd_ne (fun q => h (by rw [q]; exact hdx))]
    have hy2 : upd (upd H1 dx (.own y)) y (.ins (c.cl nm) dx []) y = some (.ins (c.cl nm) dx []) := upd_same
    generalize upd (upd H1 dx (.own y)) y (.ins (c.cl nm) dx []) = H2 at kp2 hy2
    unfold kMake at h1
    cases ef : fzs ws with
    | none => simp only [ef, Option.bind_none] at h1; exact h1.elim
    | some ds =>
      simp only [ef, Option.bind_some] at h1
      have R := R1.rest (O1 := fun a => O1 a ∧ a ∉ g1) ef (fun a q => q.1) (fun a ha q => q.2 ha)
      have S2 := S1.less fun a ha => (R1.own a ha).2
      have E2 := E1.less S.tr F1
      -- the callee's own: y alone; nobody else's changes
      have R' : RDs c (fun a => (O1 a ∧ a ∉ g1) ∨ a = y) H2 ds us := R.stb (.of (fun a _ h => kp2 a h.ne) fun a h => h.imp id fun q => by rw [q]; exact hy)
      refine ⟨by rw [← hl]; simp [R1.len], fun a => (O1 a ∧ a ∉ g1) ∨ a = y, [y], .obj nm [] :: ds.map .fr, ⟨.ref y, us, [y], [], rfl, ⟨y, dx, [], [], rfl, hy2, ⟨rfl, rfl⟩, rfl⟩, R'.rts, rfl⟩, by simp, fun a ha => .inr (by simpa using ha),
        fun a h => h.elim (fun q => by rw [kp2 a (S2.tr a q).ne]; exact S2.tr a q) fun q => by rw [q]; exact .of hy2, fun P hP => by
          obtain ⟨ps, e, k⟩ := S2.tb P hP
          exact ⟨ps, by rw [kp2 P (by rw [e]; simp)]; exact e, k⟩, ?_⟩
      have E3 : Ext fp1 (fun a => O1 a ∧ a ∉ g1) H1 fp1 (fun a => (O1 a ∧ a ∉ g1) ∨ a = y) H2 := ⟨fun a h _ => kp2 a h.ne, fun a h => by rw [kp2 a h]; exact h, fun a h _ => .inl h, fun a h => h.imp id fun q => by rw [q]; exact hy, fun a h => .inl h⟩
      have adv : ∀ {fq : List Addr} {O' : Addr → Prop} {H' : Hp}, Ext [y] (fun a => (O1 a ∧ a ∉ g1) ∨ a = y) H2 fq O' H' → (∀ b, O' b → nT (H' b)) → Tabs c H' → SR c O' fp1 H' ρ1 σ ∧ Ext fp O H fp1 O' H' ∧ Ins H1 H' := fun {fq O' H'} Eq tr tb => by
        have ny : ∀ a, H1 a ≠ none → a ∉ [y] := fun a h q => h (by simp at q; rw [q]; exact hy)
        have kp : ∀ a, nT (H1 a) → H' a = H1 a := fun a h => (Eq.kp a (by rw [kp2 a h.ne]; exact h) (ny a h.ne)).trans (kp2 a h.ne)
        have on : ∀ a, O' a → (O1 a ∧ a ∉ g1) ∨ H1 a = none := fun a h => (Eq.on a h).elim (fun q => q.imp id fun z => by rw [z]; exact hy) fun q => .inr (Classical.byContradiction fun z => by rw [kp2 a z] at q; exact z q)
        refine ⟨⟨S2.rs.stb (.of (fun a _ h => kp a h) on) fun a ha => kp a (S2.tr a (S2.ow a ha)), S2.nd, fun a ha => Eq.ok a (.inl (S2.ow a ha)) (ny a (S2.tr a (S2.ow a ha)).ne), tr, tb, fun p hp => (S2.px p hp).stb (.of (fun a _ h => kp a h) on)⟩, ?_, kp⟩
        exact E2.trans ⟨fun a h _ => kp a h, fun a h => Eq.th a (by rw [kp2 a h]; exact h), fun a h _ => Eq.ok a (.inl h) (ny a (S2.tr a h).ne), on, fun a ha => .inl ha⟩ S.tr
      cases ea : F (.obj nm [] :: ds.map .fr) with
      | none => simp only [ea] at h1; exact h1.elim
      | some a =>
        cases a with
        | exc x ts' =>
          simp only [ea] at h1
          intro cls d H' O' fq r nd ow tr tb Eq R'
          obtain ⟨S3, E3, I3⟩ := adv Eq tr tb
          exact h1 cls d H' O' fp1 S3 E3 R'
        | ret w ts' =>
          cases w with
          | fr d =>
            cases d with
            | non =>
              cases ts' with
              | nil => simp only [ea] at h1; exact h1.elim
              | cons t ts' =>
                simp only [ea] at h1
                by_cases ho : t.isOwn = true
                · rw [if_pos ho] at h1
                  intro u H' O' fq g r nd ow tr tb Eq R' Fg
                  obtain ⟨S3, E3, I3⟩ := adv Eq tr tb
                  obtain ⟨v, vr, f1, f2, ev, r1, r2, eq⟩ := r
                  have ey : v = .ref y := by simpa using (List.cons.inj ev).1.symm
                  subst ey
                  have hin : ∀ a ∈ f1, a ∈ fq ++ g := fun a ha => by rw [eq]; simp [ha]
                  have fr1 : ∀ a ∈ f1, H1 a = none := fun a ha => by
                    rcases Eq.fn a (by rw [eq]; simp [ha]) with q | q
                    · simp at q; rw [q]; exact hy
                    · exact Classical.byContradiction fun z => by rw [kp2 a z] at q; exact z q
                  refine ⟨R'.1, h1 _ H' O' fp1 f1 S3 E3 (fun q => (I1 q).trans I3) ⟨r1, ?_, fun a ha => ⟨ow a (hin a ha), fun q => (S1.tr a (S1.ow a q)).ne (fr1 a ha)⟩⟩ fun a ha => .inl (Classical.byContradiction fun z => E1.th a z (fr1 a ha))⟩
                  rw [eq] at nd
                  exact (List.nodup_append.mp (List.nodup_append.mp nd).1).1
                · rw [if_neg ho] at h1
                  exact h1.elim
            | _ => simp only [ea] at h1; exact h1.elim
          | _ => simp only [ea] at h1; exact h1.elim
  · simp only [if_neg hl] at h1
    exact h1.elim
end
end Vl

namespace Vl
open PySem PySem.Spec PyProof.Rows L2 GxR
section
variable {X : Cx} {pins : List (Addr × Obj)} {σ : L2.St} {H : Hp} {s : Shared}
/-- what the element's code may lean on: s1 the state at the making, s2 the state at a turn -/
structure GK (X : Cx) (H1 : Hp) (P : Addr) (s1 s2 : Shared) : Prop where
  keep : ∀ b o, b ≠ P → s1.heap.get? b = some o → s2.heap.get? b = some o
/-- the element: a test of the i-th item -/
def EltL (X : Cx) (scope : Scope) (x : Str) (elt : Expr) (xs : List V) (pb : Nat → Bool) (H1 : Hp) (P : Addr) (s1 : Shared) : Prop :=
  ∀ (cenv : PySem.Env) (A' : Around) (E' : Value → Shared → Prop) (i : Nat) (xv : V) (u : Value) (s2 : Shared) (m2 : Str → Option Value), cenv.scope = scope → cenv.cells = cloFrom X.env.cells scope.names [] → cenv.globals = X.env.globals → A'.handled = none → A'.units ≤ X.A.units + 8 →
    xs[i]? = some xv → RelV xv u → s2.heap.Ns cenv.locals m2 → m2 x = some u → GK X H1 P s1 s2 →
    wpAny (model X.prog X.w) A' (eval elt cenv) (fun y s3 => y = .bool (pb i) ∧ Keeps s2 s3) E' s2
/-- the generator g over n items, ready to be walked, in the state s5 -/
def ReadyN (X : Cx) (pins : List (Addr × Obj)) (σ : L2.St) (H1 : Hp) (P : Addr) (n : Nat) (pb : Nat → Bool) (g : Addr) (s5 : Shared) : Prop :=
  ∃ (fp wr : List Addr) (G : Array GenState → Array GenState → Prop) (F : Nat → Value → Prop) (St : Nat → Shared → Prop),
    WalksS X.prog X.w X.A.in1 g fp wr G n F St ∧ St 0 s5 ∧ TruthOf X.prog X.w X.A.in1 F pb ∧ ∀ s', Moved wr G s5 s' → ∃ H2, Tabbed P H1 H2 ∧ Inv X pins σ H2 s'
theorem gen_list {c P : Addr} {elt iter : Expr} {x : Str} {px gpos : Pos} {scope : Scope} {te : TE} {k : Nat} {Q' : Value → Shared → Prop} {R : List V → (Nat → Bool) → Hp → Prop}
    (hr : Room k X.A) (TB : TabB X.base X.mg c P) (hcode : X.env.code = .ref c) (S : GenS X.env scope x) (hi : PE X iter te)
    (hs : ∀ v, genFold iter X.env v = pure v) (I : Inv X pins σ H s)
    (h : te σ H fun v H1 => ∃ (l : Addr) (xs : List V) (pb : Nat → Bool), v = .ref l ∧ SqL X.K H1 l xs ∧ TabG H1 P ∧ (∀ pins s1, Inv X pins σ H1 s1 → EltL X scope x elt xs pb H1 P s1) ∧ R xs pb H1)
    (hQ : ∀ xs pb H1 g s5, R xs pb H1 → ReadyN X pins σ H1 P xs.length pb g s5 → Q' (.ref g) s5) :
    wpAny (model X.prog X.w) X.A (eval (.GeneratorExp elt [⟨.Name x px, iter, [], 0⟩] scope gpos) X.env) Q' X.xe s := by
  refine wpAny_GeneratorExp_walksQD hr.hd S.co (closure_ok S.free) S.cell S.dot S.loc S.kind (by have := hr.dp; omega) ?_ hs
  refine L2.thn (hi.run pins s σ H _ I h) fun xv s1 ⟨v, H1, I1, r1, q1⟩ => ?_
  obtain ⟨l, xs, pb, rfl, hsq, ⟨ps, hP, ht⟩, hel, q1⟩ := q1
  cases r1
  have hel := hel pins s1 I1
  obtain ⟨its, rv, pl, hz⟩ := I1.list hsq
  have hl := pl.isList
  have hlt : l < s1.heap.objs.size := by obtain ⟨_, e, _⟩ := hl; exact Heap.lt_size e
  refine wpAny_pyIter_list hl ?_
  generalize ho : ({ cls := .type "list_iterator", data := .fields #[.ref l, .int 0 0] } : Obj) = o
  have hPs : s1.heap.get? P = some { cls := .none, data := .fields ps } := I1.hok P _ hP
  have hPlt : P < s1.heap.objs.size := Heap.lt_size hPs
  have hlP : l ≠ P := fun e => by
    obtain ⟨_, e1, e2, _⟩ := hl
    rw [e, hPs] at e1
    cases e1
    cases e2
  have hP2 : (s1.heap.push o).get? P = some { cls := .none, data := .fields ps } := Heap.get?_push_of_some _ hPs
  have cd : PySem.W.CodeHd (s1.heap.push o) c P := TB.code.keeps fun b u e => Heap.get?_push_of_some _ (I1.bk b u e)
  have lim2 : (s1.heap.push o).NoLimit := I1.nolimit.push o
  have hst : (s1.heap.push o).IsListIter s1.heap.objs.size l 0 ∧ (s1.heap.push o).IsList l its.toArray := ⟨by subst ho; exact ⟨_, Heap.get?_push_size _ rfl, rfl, rfl⟩, hl.push _⟩
  have W : ∀ A' : Around, A'.handled = none → Walks X.prog X.w A' s1.heap.objs.size [s1.heap.objs.size, l] [s1.heap.objs.size] its.toArray.size (fun i v => its.toArray[i]? = some v) (fun i h => h.IsListIter s1.heap.objs.size l i ∧ h.IsList l its.toArray) :=
    fun A' hA => Walks.list hA _ l (Nat.ne_of_lt hlt) its.toArray
  have nlen : its.toArray.size = xs.length := by have := rv.length; simpa using this.symm
  have cont : ∀ (code : Value) (h3 : Heap) (tk : Nat) (ps' : Array Value), Heap.ExtBut P (s1.heap.push o) h3 → (s1.heap.push o).objs.size ≤ h3.objs.size → h3.get? P = some { cls := .none, data := .fields ps' } → (∃ more, ps' = ps ++ more) → TriplesOk ps'.toList →
      wpAny (model X.prog X.w) X.A (builtinsFor X.env.globals X.env.builtins) (fun bi s4 =>
        ∃ Ia fp wr n0 Pf St0 pz F, Value.ref s1.heap.objs.size = .ref Ia ∧ (∀ A' : Around, A'.handled = none → Walks X.prog X.w A' Ia fp wr n0 Pf St0) ∧ St0 0 s4.heap ∧ (∀ b ∈ fp, b < s4.heap.objs.size) ∧ s4.heap.NoLimit ∧ cStatics ∉ wr ∧
          (∀ href : Heap, (∀ b o, s4.heap.get? b = some o → href.get? b = some o) →
            QuietGenD X.prog X.w (genEnv scope (cloFrom X.env.cells scope.names []) s4.heap.objs.size code bi X.env) x [] elt (List.range s4.heap.objs.size) wr Pf pz F href (X.A.depth + 1) (X.A.units + 8)) ∧
          (∀ a h5 tk gs, gs.bare = true → s4.heap.objs.size < a → h5.objs.size = a + 1 → (∀ b o, s4.heap.get? b = some o → h5.get? b = some o) →
            WalksS X.prog X.w X.A.in4 a (a :: s4.heap.objs.size :: List.range s4.heap.objs.size) (s4.heap.objs.size :: wr) (GenOnlyQ s4.gens.size) (passing pz n0 0).length
              (fun j y => ∃ i, (passing pz n0 0)[j]? = some i ∧ F i y) (GenAt X.prog X.w X.A.in4 a s4.gens.size s4.heap.objs.size (List.range s4.heap.objs.size) wr pz n0 F) →
            GenAt X.prog X.w X.A.in4 a s4.gens.size s4.heap.objs.size (List.range s4.heap.objs.size) wr pz n0 F 0 { s4 with gens := s4.gens.push gs, toks := tk, heap := h5 } →
            Q' (.ref a) { s4 with gens := s4.gens.push gs, toks := tk, heap := h5 })) X.xe { s1 with heap := h3, toks := tk } := by
    intro code h3 tk ps' hx hsz hP3 hmore ht3
    obtain ⟨bm, ob, e1, e2, e3, e4, e5, e6, e7, e8⟩ := TB.bm
    have hcP : cStatics ≠ P := fun e => by
      obtain ⟨_, hns, _⟩ := I1.nolimit
      obtain ⟨o', es, ep, ho, hd, _⟩ := hns
      rw [e, hPs] at ho
      cases ho
      cases hd
    have hcl : cStatics < s1.heap.objs.size := let ⟨_, hns, _⟩ := I1.nolimit; hns.lt
    have sz2 : (s1.heap.push o).objs.size = s1.heap.objs.size + 1 := Heap.size_push ..
    have keep3 : ∀ b u, b ≠ P → s1.heap.get? b = some u → h3.get? b = some u := fun b u hb e => hx b u hb (Heap.get?_push_of_some _ e)
    refine wpAny_builtinsFor (m := X.mg) (by rw [I1.ok.glob]; exact ((I1.mod.glob.keeps I1.bk).push o).extBut hx TB.gP) e1 e2 (keep3 _ _ e4 (I1.bk _ _ e5)) e6 e7 e8 ?_
    refine ⟨s1.heap.objs.size, [s1.heap.objs.size, l], [s1.heap.objs.size], its.toArray.size, (fun i v => its.toArray[i]? = some v), _, (fun _ => true), (fun i y => i < xs.length ∧ y = .bool (pb i)), rfl, W, ?_, ?_, lim2.extBut hx hcP, ?_, ?_, ?_⟩
    · refine (W X.A hr.hd).frame _ _ _ hst fun b hb u e => hx b u (fun z => ?_) e
      rcases List.mem_cons.mp hb with z2 | z2
      · exact Nat.ne_of_lt hPlt (z.symm.trans z2)
      · rcases List.mem_cons.mp z2 with z2 | z2
        · exact hlP (z2.symm.trans z)
        · cases z2
    · intro b hb
      rcases List.mem_cons.mp hb with z | z
      · rw [z]
        show s1.heap.objs.size < h3.objs.size
        omega
      · rcases List.mem_cons.mp z with z | z
        · rw [z]
          show l < h3.objs.size
          exact Nat.lt_of_lt_of_le (Nat.lt_succ_of_lt hlt) (by omega)
        · cases z
    · intro z
      rcases List.mem_cons.mp z with z | z
      · exact Nat.ne_of_lt hcl z
      · cases z
    · intro href hhref
      refine ⟨fun A' E' i v s2 m2 hA _ _ hPv hn hm hk => ?_, fun A' E' i v s2 m2 hA _ hU hPv hp hn hm hk => ?_⟩
      · simp only [List.forIn_nil]
        exact wpAny_pure ⟨rfl, keeps_refl _⟩
      · have hPv' : its[i]? = some v := by simpa using hPv
        obtain ⟨hil, _⟩ := List.getElem?_eq_some_iff.mp hPv'
        have hxl : i < xs.length := by rw [rv.length]; exact hil
        obtain ⟨u, hu, ru⟩ := rv.get (List.getElem?_eq_getElem hxl)
        rw [hPv'] at hu
        cases hu
        refine wpAny_mono (hel _ A' E' i _ v s2 m2 rfl rfl rfl hA hU (List.getElem?_eq_getElem hxl) ru hn hm ⟨fun b o' hb e => ?_⟩) (fun y s3 r => ⟨⟨hxl, r.1⟩, r.2⟩) fun _ _ e => e
        have hb1 := Heap.lt_size e
        refine hk b (List.mem_range.mpr (Nat.lt_of_lt_of_le (Nat.lt_succ_of_lt hb1) (by show s1.heap.objs.size.succ ≤ h3.objs.size; omega))) (fun z => ?_) o' (hhref b o' (keep3 b o' hb e))
        rcases List.mem_cons.mp z with z | z
        · exact Nat.ne_of_lt hb1 z
        · cases z
    · intro g h5 tk5 gs hgb hag hsz5 hk5 W5 hat
      simp only [GxR.passing_true, List.length_range] at W5
      rw [nlen] at W5 hat
      refine hQ xs pb H1 g _ q1 ⟨_, _, _, _, _, W5.in4_1, hat, ?_, fun s' hm => ?_⟩
      · intro j y sj Qj Ej hy hQj
        obtain ⟨i, hij, hi, rfl⟩ := hy
        obtain ⟨hj, ej⟩ := List.getElem?_eq_some_iff.mp hij
        rw [List.getElem_range] at ej
        subst ej
        exact wpAny_truthy_bool hQj
      · obtain ⟨more, em⟩ := hmore
        have nwr : ∀ b u, s1.heap.get? b = some u → b ∉ h3.objs.size :: [s1.heap.objs.size] := fun b u e hb => by
          have hl := Heap.lt_size e
          rcases List.mem_cons.mp hb with z | z
          · rw [z] at hl
            have h9 : (h3.objs.size : Nat) < s1.heap.objs.size := hl
            omega
          · rcases List.mem_cons.mp z with z | z
            · rw [z] at hl
              exact Nat.lt_irrefl _ hl
            · cases z
        have J := inv_tab (more := more) (h' := s'.heap) (g' := s'.gens) (d' := s'.drawn) (t' := s'.toks) I1 hP (fun b u hb e => hm.heap b u (nwr b u e) (hk5 b u (keep3 b u hb e)))
          (by rw [← em]; exact hm.heap P _ (nwr P _ hPs) (hk5 P _ hP3)) (AllBare.movedS (I1.bare.push hgb) hm)
        rw [sh_eta s1 s' hm.os] at J
        refine ⟨upd H1 P (.tbl (ps ++ more)), ⟨⟨ps ++ more, upd_same, by rw [← em]; exact ht3⟩, fun b hb => upd_ne hb⟩, J⟩
  refine ⟨lim2, ?_⟩
  cases hf : codeAmong gpos ps.toList with
  | none =>
    refine wpAny_genexprCodeX hcode (cd.code hP2 ht) (cd.tab hP2) hf fun c' h' tk hx hge hlt hco' _ htab' _ => ?_
    obtain ⟨o1, vs, f1, tf, fl, tg, inF, tx, tt, op, _, _, _, _, _, _, _, _, _, htr, _⟩ := hco'
    exact cont _ h' tk _ hx (Nat.le_trans hge (Nat.le_of_lt hlt)) htab'.2 ⟨_, rfl⟩ htr
  | some cv =>
    refine wpAny_genexprCode_hit hcode (cd.code hP2 ht) hf ?_
    exact cont cv (s1.heap.push o) s1.toks ps (Heap.ExtBut.refl _ _) (Nat.le_refl _) hP2 ⟨#[], by simp⟩ ht
end
end Vl

namespace Vl
open PySem PySem.Spec PyProof.Rows L2 GxR
/-- what a generator expression's element is evaluated in -/
structure GQ (X : Cx) (σ : L2.St) (H : Hp) (scope : Scope) (x : Str) (cenv : PySem.Env) (A' : Around) (xv : V) (s2 : Shared) : Prop where
  sc : cenv.scope = scope
  kd : scope.kind = .function
  lx : scope.names.lookup x = some .local
  hA : A'.handled = none
  hU : A'.units ≤ X.A.units + 8
  item : ∃ m2 u, s2.heap.Ns cenv.locals m2 ∧ m2 x = some u ∧ RelV xv u
  vars : ∀ (i : Nat) (y : Str) (w : V), X.N[i]? = some y → σ[i]? = some (some w) → scope.names.lookup y = some .free → ∃ cc u, cenv.cells.lookup y = some cc ∧ s2.heap.IsCell cc (some u) ∧ RelV w u
  hok : ∀ a o, H a = some o → isTb o = false → ObjOk X.prog X.w H s2.heap a o
  kin : X.K.In s2.heap
section
variable {c : Vc} {X : Cx} {pins : List (Addr × Obj)} {σ : L2.St} {H : Hp} {s s1 s2 s3 : Shared} {scope : Scope} {x : Str} {cenv : PySem.Env} {A' : Around} {xv : V} {P : Addr}
theorem GQ.keeps (g : GQ X σ H scope x cenv A' xv s2) (k : Keeps s2 s3) : GQ X σ H scope x cenv A' xv s3 := by
  obtain ⟨h', tk, rfl, k⟩ := k
  obtain ⟨m2, u, hn, hm, r⟩ := g.item
  refine ⟨g.sc, g.kd, g.lx, g.hA, g.hU, ⟨m2, u, hn.at fun o e => k _ o e, hm, r⟩, fun i y w h1 h2 h3 => ?_, fun a o e t => (g.hok a o e t).stay (fun b u _ q => k b u q) (fun _ q => q) fun _ _ q => q, g.kin.keeps k⟩
  obtain ⟨cc, u, e1, ⟨o, e2, e3⟩, e4⟩ := g.vars i y w h1 h2 h3
  exact ⟨cc, u, e1, ⟨o, k _ _ e2, e3⟩, e4⟩
theorem Keeps.trans' {s1 s2 s3 : Shared} (a : Keeps s1 s2) (b : Keeps s2 s3) : Keeps s1 s3 := by
  obtain ⟨h1, t1, rfl, k1⟩ := a
  obtain ⟨h2, t2, rfl, k2⟩ := b
  exact ⟨h2, t2, rfl, fun b o e => k2 b o (k1 b o e)⟩
/-- every captured name of the scope is a cell (or captured) of the def around -/
def FreeOk (X : Cx) (scope : Scope) : Prop := ∀ y ∈ scope.names, y.2 = .free → X.env.kindOf y.1 = some .cell ∨ X.env.kindOf y.1 = some .free
theorem FreeOk.cells (h : FreeOk X scope) (ok : X.Ok) : ∀ y ∈ scope.names, y.2 = .free → ∃ c, X.env.cells.lookup y.1 = some c := fun y hy e => ok.has _ (h y hy e)
theorem GQ.of {m2 : Str → Option Value} {u : Value} {i : Nat} (I : Inv X pins σ H s1) (hP : ∃ ps, H P = some (.tbl ps)) (G : GK X H P s1 s2) (hf : FreeOk X scope) (kd : scope.kind = .function) (lx : scope.names.lookup x = some .local) (sc : cenv.scope = scope) (ce : cenv.cells = cloFrom X.env.cells scope.names [])
    (hA : A'.handled = none) (hU : A'.units ≤ X.A.units + 8) (hn : s2.heap.Ns cenv.locals m2) (hm : m2 x = some u) (r : RelV xv u) : GQ X σ H scope x cenv A' xv s2 := by
  obtain ⟨ps, hP⟩ := hP
  have neP : ∀ b v, H b = some v → isTb v = false → b ≠ P := fun b v e t z => by
    rw [z, hP] at e
    cases e
    cases t
  have neN : ∀ b, H b = none → b ≠ P := fun b e z => by
    rw [z, hP] at e
    cases e
  refine ⟨sc, kd, lx, hA, hU, ⟨m2, u, hn, hm, r⟩, fun i y w h1 h2 h3 => ?_, fun a o e t => ?_, fun a o e => ?_⟩
  · have hy := PySem.mem_of_lookup h3
    obtain ⟨m, hn', hl⟩ := I.loc
    have kk := hf _ hy rfl
    have vis : Vis X.env.scope y := kk.elim (fun q => .inr (.inl q)) fun q => .inr (.inr q)
    obtain ⟨u', r', l⟩ := hl i y w h1 h2 vis
    rcases l with ⟨k, _⟩ | ⟨_, cc, e, z⟩
    · rcases kk with q | q <;> (rw [k] at q; cases q)
    · refine ⟨cc, u', by rw [ce]; exact NdefX.clo_has (hf.cells I.ok) hy e, ?_, r'⟩
      obtain ⟨o, e2, e3⟩ := z
      exact ⟨o, G.keep cc o (neN cc (I.freeC y cc e)) e2, e3⟩
  · refine (I.hok a o e).stay (fun b u hb q => G.keep b u ?_ q) (fun _ q => q) fun _ _ q => q
    rcases hb with q | q
    · rw [q]; exact neP a o e t
    · exact neP b _ q rfl
  · obtain ⟨e1, e2⟩ := I.bs a o (I.ok.mod.kin a o e)
    exact G.keep a o (neN a e2) e1
/-- the element's code e gives what f says of the item -/
def VQ (c : Vc) (X : Cx) (scope : Scope) (x : Str) (e : Expr) (f : Env → D → Option D) : Prop :=
  ∀ O fp H ρ σ d xv dy cenv A' (E' : Value → Shared → Prop) s2, SR c O fp H ρ σ → RD c O H d xv → f ρ d = some dy → GQ X σ H scope x cenv A' xv s2 →
    wpAny (model X.prog X.w) A' (eval e cenv) (fun y s3 => (∃ vy, RelV vy y ∧ Pk c O H dy vy) ∧ Keeps s2 s3) E' s2
variable {a b e e' : Expr} {fa fb fc : Env → D → Option D} {pos : Pos}
theorem vq_item {p : Pos} (hd : (x == ("__debug__" : Str)) = false := by decide) : VQ c X scope x (.Name x p) (fun _ d => some d) := fun O fp H ρ σ d xv dy cenv A' E' s2 S R e G => by
  cases e
  obtain ⟨m2, u, hn, hm, r⟩ := G.item
  exact wpAny_Name (wpAny_loadName_local (by rw [G.sc]; exact G.kd) (show cenv.scope.names.lookup x = some .local by rw [G.sc]; exact G.lx) hn hm ⟨⟨xv, r, R.pk⟩, keeps_refl _⟩) hd
theorem vq_int {i : Int} {j : Nat} : VQ c X scope x (.Constant (.int i) j pos) (fun _ _ => some (.int i)) := fun O fp H ρ σ d xv dy cenv A' E' s2 S R e G => by
  cases e
  exact wpAny_Constant_int ⟨⟨.int i, ⟨_, rfl⟩, rfl⟩, keeps_tok _ _⟩
theorem vq_str {i : Str} {j : Nat} : VQ c X scope x (.Constant (.str i) j pos) (fun _ _ => some (.str i)) := fun O fp H ρ σ d xv dy cenv A' E' s2 S R e G => by
  cases e
  exact Calls.Constant_str ⟨⟨.str i, ⟨_, rfl⟩, rfl⟩, keeps_tok _ _⟩
/-- a captured name, slot i of the def around -/
theorem vq_var (i : Nat) {y : Str} {p : Pos} (hN : X.N[i]? = some y := by rfl) (hy : scope.names.lookup y = some .free := by rfl) (hd : (y == ("__debug__" : Str)) = false := by decide) (hcd : (y == ("__classdict__" : Str)) = false := by decide) :
    VQ c X scope x (.Name y p) (fun ρ _ => match ρ[i]? with | some (some t) => t.pk | _ => none) := fun O fp H ρ σ d xv dy cenv A' E' s2 S R e G => by
  cases q : ρ[i]? with
  | none => simp only [q] at e; cases e
  | some o =>
    cases o with
    | none => simp only [q] at e; cases e
    | some t =>
      simp only [q] at e
      obtain ⟨v, f, fl, fr, h1, h2, _⟩ := S.rs.get q
      obtain ⟨cc, u, e1, e2, r⟩ := G.vars i y v hN h1 hy
      exact wpAny_Name (wpAny_loadName_free (by rw [G.sc]; exact G.kd) (show cenv.scope.names.lookup y = some .free by rw [G.sc]; exact hy) e1 e2 ⟨⟨v, r, h2.pk e⟩, keeps_refl _⟩ hcd) hd
/-- two ints compared -/
def iCmp (p : Int → Int → Bool) : D → D → Option D
  | .int i, .int j => some (.bl (p i j))
  | _, _ => none
/-- the rule of one comparison -/
def CmpI (op : CmpOp) (p : Int → Int → Bool) : Prop := ∀ (prog : Program) (w : World) (A : Around) (E : Value → Shared → Prop) (s : Shared) (a b : Int) (t u : Tok) (Q : Value → Shared → Prop), Q (.bool (p a b)) s → wpAny (model prog w) A (compareOp op (.int a t) (.int b u)) Q E s
theorem cmpI_lt : CmpI .Lt fun i j => decide (i < j) := fun _ _ _ _ _ _ _ _ _ _ h => lt_int h
theorem cmpI_le : CmpI .LtE fun i j => decide (i ≤ j) := fun _ _ _ _ _ _ _ _ _ _ h => le_int h
theorem cmpI_gt : CmpI .Gt fun i j => decide (j < i) := fun _ _ _ _ _ _ _ _ _ _ h => gt_int h
theorem cmpI_ge : CmpI .GtE fun i j => decide (j ≤ i) := fun _ _ _ _ _ _ _ _ _ _ h => ge_int h
def q2 (g : D → D → Option D) (fa fb : Env → D → Option D) : Env → D → Option D := fun ρ d => (fa ρ d).bind fun x => (fb ρ d).bind fun y => g x y
theorem iCmp_some {p : Int → Int → Bool} {x y z : D} (h : iCmp p x y = some z) : ∃ i j, x = .int i ∧ y = .int j ∧ z = .bl (p i j) := by
  unfold iCmp at h
  split at h
  · cases h; exact ⟨_, _, rfl, rfl, rfl⟩
  · cases h
theorem q2_some {g : D → D → Option D} {ρ : Env} {d z : D} (h : q2 g fa fb ρ d = some z) : ∃ x y, fa ρ d = some x ∧ fb ρ d = some y ∧ g x y = some z := by
  obtain ⟨x, h1, h⟩ := Option.bind_eq_some_iff.mp h
  obtain ⟨y, h2, h⟩ := Option.bind_eq_some_iff.mp h
  exact ⟨x, y, h1, h2, h⟩
theorem vq_cmp {op : CmpOp} {p : Int → Int → Bool} (hr : CmpI op p) (ha : VQ c X scope x a fa) (hb : VQ c X scope x b fb) (hm : behindInMarks op b = false := by rfl) : VQ c X scope x (.Compare a [op] [b] pos) (q2 (iCmp p) fa fb) := fun O fp H ρ σ d xv dy cenv A' E' s2 S R e G => by
  obtain ⟨dx, dy', h1, h2, h3⟩ := q2_some e
  obtain ⟨i, j, rfl, rfl, rfl⟩ := iCmp_some h3
  refine wpAny_Compare1 (L2.thn (ha O fp H ρ σ d xv _ cenv A' E' s2 S R h1 G) fun u s3 ⟨⟨vu, r, pk⟩, k⟩ => L2.thn (hb O fp H ρ σ d xv _ cenv A' E' s3 S R h2 (G.keeps k)) fun w s4 ⟨⟨vw, r', pk'⟩, k'⟩ => ?_) hm
  obtain rfl : vu = .int i := pk
  obtain rfl : vw = .int j := pk'
  obtain ⟨t, rfl⟩ := r
  obtain ⟨t', rfl⟩ := r'
  exact hr _ _ _ _ _ _ _ _ _ _ ⟨⟨.bl _, rfl, rfl⟩, Keeps.trans' k k'⟩
/-- a op b op' e, ints -/
def qCh (p p' : Int → Int → Bool) (fa fb fc : Env → D → Option D) : Env → D → Option D := fun ρ d => match fa ρ d, fb ρ d with
  | some (.int i), some (.int j) => if p i j then (match fc ρ d with | some (.int k) => some (.bl (p' j k)) | _ => none) else some (.bl false)
  | _, _ => none
theorem vq_chain {op op' : CmpOp} {p p' : Int → Int → Bool} (hr : CmpI op p) (hr' : CmpI op' p') (ha : VQ c X scope x a fa) (hb : VQ c X scope x b fb) (hc : VQ c X scope x e fc) (hm : lastMarks [op, op'] [b, e] = false := by with_unfolding_all rfl) :
    VQ c X scope x (.Compare a [op, op'] [b, e] pos) (qCh p p' fa fb fc) := fun O fp H ρ σ d xv dy cenv A' E' s2 S R ee G => by
  unfold qCh at ee
  split at ee
  · rename_i i j h1 h2
    refine Compare_chain (L2.thn (ha O fp H ρ σ d xv _ cenv A' E' s2 S R h1 G) fun u s3 ⟨⟨vu, r, pk⟩, k⟩ => chain_link (L2.thn (hb O fp H ρ σ d xv _ cenv A' E' s3 S R h2 (G.keeps k)) fun w s4 ⟨⟨vw, r', pk'⟩, k'⟩ => ?_)) hm
    obtain rfl : vu = .int i := pk
    obtain rfl : vw = .int j := pk'
    obtain ⟨t, rfl⟩ := r
    obtain ⟨t', rfl⟩ := r'
    refine hr _ _ _ _ _ _ _ _ _ _ (wpAny_truthy_bool ?_)
    cases q : p i j with
    | false =>
      rw [q] at ee
      cases ee
      exact ite_ff ⟨⟨.bl false, rfl, rfl⟩, Keeps.trans' k k'⟩
    | true =>
      rw [q, if_pos rfl] at ee
      split at ee
      · rename_i m h3
        cases ee
        refine ite_tt (chain_last (L2.thn (hc O fp H ρ σ d xv _ cenv A' E' s4 S R h3 ((G.keeps k).keeps k')) fun w s5 ⟨⟨vw, r', pk'⟩, k''⟩ => ?_))
        obtain rfl : vw = .int m := pk'
        obtain ⟨t2, rfl⟩ := r'
        exact hr' _ _ _ _ _ _ _ _ _ _ ⟨⟨.bl _, rfl, rfl⟩, Keeps.trans' (Keeps.trans' k k') k''⟩
      · cases ee
  · cases ee
end

/-! ### any, all -/
section
variable {c : Vc} {X : Cx} {W : WX} {b b1 b2 : Bool} {O O1 O2 : Addr → Prop} {fp fp1 fp2 : List Addr} {H H1 H2 : Hp} {ρ ρ1 ρ2 : Env} {σ : L2.St}
variable {elt iter : Expr} {fa : FE} {pos : Pos} {fe : Env → D → Option D}
def tGen (X : Cx) (P : Addr) (scope : Scope) (x : Str) (elt : Expr) (te : TE) (fin : (Nat → Bool) → Nat → Bool) : TE := fun σ H Q => te σ H fun v H1 => ∃ (l : Addr) (xs : List V) (pb : Nat → Bool), v = .ref l ∧ SqL X.K H1 l xs ∧ TabG H1 P ∧
  (∀ pins s1, Inv X pins σ H1 s1 → EltL X scope x elt xs pb H1 P s1) ∧ ∀ H2, Tabbed P H1 H2 → Q (.bl (fin pb xs.length)) H2
theorem pe_anyL {cd P : Addr} {x : Str} {px p pos gpos : Pos} {scope : Scope} {te : TE} {k : Nat} (hr : Room k X.A) (hg : Gl X "any") (hm : X.mg "any" = none) (TB : TabB X.base X.mg cd P) (hcode : X.env.code = .ref cd) (S : GenS X.env scope x) (hi : PE X iter te)
    (hs : ∀ v, genFold iter X.env v = pure v) (he : starEach [.GeneratorExp elt [⟨.Name x px, iter, [], 0⟩] scope gpos] X.env = (false, eval (.GeneratorExp elt [⟨.Name x px, iter, [], 0⟩] scope gpos) X.env) :: starEach [] X.env := by rfl) :
    PE X (.Call (.Name "any" p) [.GeneratorExp elt [⟨.Name x px, iter, [], 0⟩] scope gpos] [] pos) (tGen X P scope x elt te fun pb n => (List.range n).any pb) := by
  refine ⟨fun pins s σ H Q I h => wpAny_Call_Name_kw (ld_blt I hg hm boot_any (PyProof.Rows.callWith_builtin1 ?_ he (by rfl)))⟩
  rw [he]
  show wpAny _ _ (spliced ((false, eval (.GeneratorExp elt [⟨.Name x px, iter, [], 0⟩] scope gpos) X.env) :: backTo pos (starEach [] X.env))) _ _ s
  refine Calls.spliced_cons (gen_list (R := fun xs pb H1 => ∀ H2, Tabbed P H1 H2 → Q (.bl ((List.range xs.length).any pb)) H2) hr TB hcode S hi hs I h fun xs pb H1 g s5 hR hG => ?_)
  · obtain ⟨fp, wr, G, F, St, W, hst, htr, hI⟩ := hG
    refine Calls.spliced_nil (call_any_walkS (W.self 0 _ _ _ hst ⟨g, fp, wr, G, _, F, St, _, rfl, W, hst, htr, fun s' hmv => ?_⟩))
    obtain ⟨H2, hT, J⟩ := hI s' hmv
    exact ⟨.bl _, H2, J, rfl, hR H2 hT⟩
theorem pe_allL {cd P : Addr} {x : Str} {px p pos gpos : Pos} {scope : Scope} {te : TE} {k : Nat} (hr : Room k X.A) (hg : Gl X "all") (hm : X.mg "all" = none) (hbl : bootBuiltins "all" = some (.builtin "all")) (TB : TabB X.base X.mg cd P) (hcode : X.env.code = .ref cd) (S : GenS X.env scope x) (hi : PE X iter te)
    (hs : ∀ v, genFold iter X.env v = pure v) (he : starEach [.GeneratorExp elt [⟨.Name x px, iter, [], 0⟩] scope gpos] X.env = (false, eval (.GeneratorExp elt [⟨.Name x px, iter, [], 0⟩] scope gpos) X.env) :: starEach [] X.env := by rfl) :
    PE X (.Call (.Name "all" p) [.GeneratorExp elt [⟨.Name x px, iter, [], 0⟩] scope gpos] [] pos) (tGen X P scope x elt te fun pb n => (List.range n).all pb) := by
  refine ⟨fun pins s σ H Q I h => wpAny_Call_Name_kw (ld_blt I hg hm hbl (PyProof.Rows.callWith_builtin1 ?_ he (by rfl)))⟩
  rw [he]
  show wpAny _ _ (spliced ((false, eval (.GeneratorExp elt [⟨.Name x px, iter, [], 0⟩] scope gpos) X.env) :: backTo pos (starEach [] X.env))) _ _ s
  refine Calls.spliced_cons (gen_list (R := fun xs pb H1 => ∀ H2, Tabbed P H1 H2 → Q (.bl ((List.range xs.length).all pb)) H2) hr TB hcode S hi hs I h fun xs pb H1 g s5 hR hG => ?_)
  · obtain ⟨fp, wr, G, F, St, W, hst, htr, hI⟩ := hG
    refine Calls.spliced_nil (call_all_walkS (W.self 0 _ _ _ hst ⟨g, fp, wr, G, _, F, St, _, rfl, W, hst, htr, fun s' hmv => ?_⟩))
    obtain ⟨H2, hT, J⟩ := hI s' hmv
    exact ⟨.bl _, H2, J, rfl, hR H2 hT⟩
/-- a quantifier over a list at rest -/
def kQ (fe : Env → D → Option D) (qf : (D → Option Bool) → List D → Option Bool) (w : Val) : FE := fun ρ => match vw ρ w with
  | some (.lst ds) => (qf (fun d => match fe ρ d with | some (.bl k) => some k | _ => none) ds).map fun k => .val (.fr (.bl k)) ρ
  | _ => none
def allM (g : D → Option Bool) : List D → Option Bool
  | [] => some true
  | d :: ds => (g d).bind fun k => (allM g ds).map fun r => k && r
def anyM (g : D → Option Bool) : List D → Option Bool
  | [] => some false
  | d :: ds => (g d).bind fun k => (anyM g ds).map fun r => k || r
theorem allM_some {g : D → Option Bool} : ∀ {ds : List D} {k : Bool}, allM g ds = some k → ∃ pb : Nat → Bool, (∀ i d, ds[i]? = some d → g d = some (pb i)) ∧ (List.range ds.length).all pb = k
  | [], k, h => by cases h; exact ⟨fun _ => true, fun i d h => by simp at h, rfl⟩
  | d :: ds, k, h => by
    obtain ⟨k1, h1, h⟩ := Option.bind_eq_some_iff.mp h
    obtain ⟨r, h2, h⟩ := Option.map_eq_some_iff.mp h
    obtain ⟨pb, q1, q2⟩ := allM_some h2
    refine ⟨fun i => match i with | 0 => k1 | i + 1 => pb i, fun i d' e => ?_, ?_⟩
    · cases i with
      | zero => simp at e; subst e; exact h1
      | succ i => exact q1 i d' (by simpa using e)
    · rw [List.length_cons, List.range_succ_eq_map, List.all_cons, List.all_map, ← h, ← q2]
      rfl
theorem anyM_some {g : D → Option Bool} : ∀ {ds : List D} {k : Bool}, anyM g ds = some k → ∃ pb : Nat → Bool, (∀ i d, ds[i]? = some d → g d = some (pb i)) ∧ (List.range ds.length).any pb = k
  | [], k, h => by cases h; exact ⟨fun _ => true, fun i d h => by simp at h, rfl⟩
  | d :: ds, k, h => by
    obtain ⟨k1, h1, h⟩ := Option.bind_eq_some_iff.mp h
    obtain ⟨r, h2, h⟩ := Option.map_eq_some_iff.mp h
    obtain ⟨pb, q1, q2⟩ := anyM_some h2
    refine ⟨fun i => match i with | 0 => k1 | i + 1 => pb i, fun i d' e => ?_, ?_⟩
    · cases i with
      | zero => simp at e; subst e; exact h1
      | succ i => exact q1 i d' (by simpa using e)
    · rw [List.length_cons, List.range_succ_eq_map, List.any_cons, List.any_map, ← h, ← q2]
      rfl
def vAll (fe : Env → D → Option D) (fa : FE) : FE := bnd fa (kQ fe allM)
def vAny (fe : Env → D → Option D) (fa : FE) : FE := bnd fa (kQ fe anyM)
/-- the table has grown -/
theorem tab_sr {P : Addr} (S : SR c O fp H ρ σ) (hP : c.tb P) (T : Tabbed P H H2) : SR c O fp H2 ρ σ ∧ Ext fp O H fp O H2 ∧ Ins H H2 := by
  obtain ⟨T1, T2⟩ := T
  obtain ⟨ps, e, _⟩ := S.tb P hP
  have kp : ∀ a, nT (H a) → H2 a = H a := fun a h => T2 a fun z => by
    obtain ⟨u, q, t⟩ := h
    rw [z, e] at q
    cases q
    cases t
  refine ⟨⟨S.rs.stb (.of (fun a _ h => kp a h) fun a h => .inl h) fun a ha => kp a (S.tr a (S.ow a ha)), S.nd, S.ow, fun b h => by rw [kp b (S.tr b h)]; exact S.tr b h, fun Q hQ => ?_, fun p hp => (S.px p hp).stb (.of (fun a _ h => kp a h) fun a h => .inl h)⟩, ⟨fun b h _ => kp b h, fun b h => ?_, fun b h _ => h, fun b h => .inl h, fun b h => .inl h⟩, kp⟩
  · by_cases z : Q = P
    · rw [z]; exact T1
    · obtain ⟨qs, e1, e2⟩ := S.tb Q hQ
      exact ⟨qs, (T2 Q z).trans e1, e2⟩
  · by_cases z : b = P
    · obtain ⟨qs, e1, _⟩ := T1
      rw [z, e1]; simp
    · rw [T2 b z]; exact h
theorem ok_gen {P : Addr} {scope : Scope} {x : Str} {te : TE} {fin : (Nat → Bool) → Nat → Bool} {qf : (D → Option Bool) → List D → Option Bool} (hP : c.tb P) (hf : FreeOk X scope) (kd : scope.kind = .function) (lx : scope.names.lookup x = some .local)
    (hq : ∀ {g : D → Option Bool} {ds : List D} {k : Bool}, qf g ds = some k → ∃ pb : Nat → Bool, (∀ i d, ds[i]? = some d → g d = some (pb i)) ∧ fin pb ds.length = k)
    (ha : Ok (RV c) c W b fa te) (he : VQ c X scope x elt fe) : Ok (RV c) c W b (bnd fa (kQ fe qf)) (tGen X P scope x elt te fin) := fun O fp H ρ σ Q S h =>
  ha.thn S.tr S .refl (fun _ => .refl) h id fun w ρ1 u H1 O1 fp1 g1 _ S1 E1 _ I1 R1 F1 h1 => by
    unfold kQ at h1
    cases e : vw ρ1 w with
    | none => simp only [e] at h1; exact h1.elim
    | some d =>
      cases d with
      | lst ds =>
        simp only [e] at h1
        cases eq : qf (fun d => match fe ρ1 d with | some (.bl k) => some k | _ => none) ds with
        | none => rw [eq] at h1; exact h1.elim
        | some k =>
          rw [eq] at h1
          obtain ⟨pb, p1, p2⟩ := hq eq
          obtain ⟨l, vs, eu, hl, rs⟩ := R1.vw S1 e
          refine ⟨l, vs, pb, eu, sqL_of hl, S1.tb P hP, fun pins s1 I cenv A' E' i xv u s2 m2 sc ce _ hA hU hx ru hn hm G => ?_, fun H2 T => ?_⟩
          · obtain ⟨ps, eP, _⟩ := S1.tb P hP
            have hi : i < ds.length := by rw [← rs.len]; exact (List.getElem?_eq_some_iff.mp hx).1
            obtain ⟨v', h2, h3⟩ := rs.get (List.getElem?_eq_getElem hi)
            rw [hx] at h2
            cases h2
            have p3 := p1 i _ (List.getElem?_eq_getElem hi)
            cases q : fe ρ1 ds[i] with
            | none => rw [q] at p3; cases p3
            | some dy =>
              cases dy with
              | bl k' =>
                rw [q] at p3
                cases p3
                refine L2.thn (he O1 fp1 H1 ρ1 σ _ xv _ cenv A' E' s2 S1 h3 q (GQ.of (i := i) I ⟨ps, eP⟩ G hf kd lx sc ce hA hU hn hm ru)) fun y s3 ⟨⟨vy, r, pk⟩, k⟩ => ⟨?_, k⟩
                obtain rfl : vy = .bl (pb i) := pk
                exact r
              | _ => rw [q] at p3; cases p3
          · obtain ⟨S2, E2, I2⟩ := tab_sr S1 hP T
            rw [rs.len, p2]
            exact h1 (.bl k) H2 O1 fp1 [] S2 (E1.trans E2 S.tr) (fun q => (I1 q).trans I2) ⟨rfl, rfl⟩ fun _ q => (by cases q)
      | _ => simp only [e] at h1; exact h1.elim
theorem ve_all {cd P : Addr} {x : Str} {px p pos gpos : Pos} {scope : Scope} {k : Nat} (hr : Room k X.A) (hg : Gl X "all") (hm : X.mg "all" = none) (hbl : bootBuiltins "all" = some (.builtin "all")) (TB : TabB X.base X.mg cd P) (hcode : X.env.code = .ref cd) (hP : c.tb P)
    (hf : FreeOk X scope) (S : GenS X.env scope x) (ha : VE c X W b iter fa) (hel : VQ c X scope x elt fe) (hs : ∀ v, genFold iter X.env v = pure v := by intro _; rfl)
    (he : starEach [.GeneratorExp elt [⟨.Name x px, iter, [], 0⟩] scope gpos] X.env = (false, eval (.GeneratorExp elt [⟨.Name x px, iter, [], 0⟩] scope gpos) X.env) :: starEach [] X.env := by rfl) :
    VE c X W b (.Call (.Name "all" p) [.GeneratorExp elt [⟨.Name x px, iter, [], 0⟩] scope gpos] [] pos) (vAll fe fa) := by
  obtain ⟨ta, pa, oa⟩ := ha
  exact ⟨_, pe_allL hr hg hm hbl TB hcode S pa hs he, ok_gen hP hf S.kind S.loc allM_some oa hel⟩
theorem ve_any {cd P : Addr} {x : Str} {px p pos gpos : Pos} {scope : Scope} {k : Nat} (hr : Room k X.A) (hg : Gl X "any") (hm : X.mg "any" = none) (TB : TabB X.base X.mg cd P) (hcode : X.env.code = .ref cd) (hP : c.tb P)
    (hf : FreeOk X scope) (S : GenS X.env scope x) (ha : VE c X W b iter fa) (hel : VQ c X scope x elt fe) (hs : ∀ v, genFold iter X.env v = pure v := by intro _; rfl)
    (he : starEach [.GeneratorExp elt [⟨.Name x px, iter, [], 0⟩] scope gpos] X.env = (false, eval (.GeneratorExp elt [⟨.Name x px, iter, [], 0⟩] scope gpos) X.env) :: starEach [] X.env := by rfl) :
    VE c X W b (.Call (.Name "any" p) [.GeneratorExp elt [⟨.Name x px, iter, [], 0⟩] scope gpos] [] pos) (vAny fe fa) := by
  obtain ⟨ta, pa, oa⟩ := ha
  exact ⟨_, pe_anyL hr hg hm TB hcode S pa hs he, ok_gen hP hf S.kind S.loc anyM_some oa hel⟩
end
end Vl

namespace Vl
open PySem PySem.Spec PyProof.Rows L2
section
variable {c : Vc} {X : Cx} {W : WX} {b : Bool} {O O1 O2 : Addr → Prop} {fp fp1 fp2 : List Addr} {H H1 H2 : Hp} {ρ ρ1 ρ2 : Env} {σ : L2.St} {k : Nat}
/-! ### lists of values -/
theorem RDs.app : ∀ {ds es : List D} {vs us : List V}, RDs c O H ds vs → RDs c O H es us → RDs c O H (ds ++ es) (vs ++ us)
  | [], _, _, _, h, q => by rw [show _ = [] from h]; exact q
  | _ :: _, _, _, _, ⟨v, r, e, h, t⟩, q => ⟨v, r ++ _, by rw [e]; rfl, h, RDs.app t q⟩
theorem RDs.drp : ∀ {ds : List D} {vs : List V} (n : Nat), RDs c O H ds vs → RDs c O H (ds.drop n) (vs.drop n)
  | _, _, 0, h => h
  | [], _, n + 1, h => by rw [show _ = [] from h]; exact (rfl : ([] : List V) = [])
  | _ :: _, _, n + 1, ⟨v, r, e, h, t⟩ => by rw [e]; exact RDs.drp n t
theorem RDs.tak : ∀ {ds : List D} {vs : List V} (n : Nat), RDs c O H ds vs → RDs c O H (ds.take n) (vs.take n)
  | _, _, 0, h => by rw [List.take_zero, List.take_zero]; exact (rfl : ([] : List V) = [])
  | [], _, n + 1, h => by rw [show _ = [] from h]; exact (rfl : ([] : List V) = [])
  | _ :: _, _, n + 1, ⟨v, r, e, h, t⟩ => by rw [e]; exact ⟨v, r.take n, rfl, h, RDs.tak n t⟩
theorem RDs.upd' : ∀ {ds : List D} {vs : List V} {d : D} {v : V} (n : Nat), RDs c O H ds vs → RD c O H d v → RDs c O H (ds.set n d) (vs.set n v)
  | [], _, _, _, n, h, _ => by rw [show _ = [] from h]; exact (rfl : ([] : List V) = [])
  | _ :: _, _, _, _, 0, ⟨v, r, e, h, t⟩, q => by rw [e]; exact ⟨_, r, rfl, q, t⟩
  | _ :: _, _, _, _, n + 1, ⟨v, r, e, h, t⟩, q => by rw [e]; exact ⟨v, _, rfl, h, RDs.upd' n t q⟩
theorem RDs.atI {ds : List D} {vs : List V} {d : D} {i : Int} (r : RDs c O H ds vs) (e : L2.atI ds i = some d) : ∃ v, L2.atI vs i = some v ∧ RD c O H d v := by
  unfold L2.atI at e ⊢
  rw [r.len]
  obtain ⟨j, h1, h2⟩ := Option.bind_eq_some_iff.mp e
  obtain ⟨v, h3, h4⟩ := r.get h2
  exact ⟨v, by rw [h1]; exact h3, h4⟩
/-! ### + - * // % ** and the bits -/
def big64 (i j : Int) : Bool := decide (j.natAbs ≤ 18446744073709551615) || decide (i.natAbs ≤ 18446744073709551615)
theorem big64_ok {i j : Int} (h : big64 i j = true) : CMul i j := by
  unfold big64 at h
  rw [Bool.or_eq_true] at h
  rcases h with h | h
  · have h := of_decide_eq_true h
    exact .inr ⟨by omega, by omega⟩
  · have h := of_decide_eq_true h
    exact .inl ⟨by omega, by omega⟩
def iOp (p : Int → Int → Bool) (g : Int → Int → Int) : D → D → Option Val
  | .int i, .int j => if p i j then some (.fr (.int (g i j))) else none
  | _, _ => none
def iBp (g : Int → Int → Bool) : D → D → Option Val
  | .int i, .int j => some (.fr (.bl (g i j)))
  | _, _ => none
theorem iOp_some {p : Int → Int → Bool} {g : Int → Int → Int} {x y : D} {w : Val} (h : iOp p g x y = some w) : ∃ i j, x = .int i ∧ y = .int j ∧ p i j = true ∧ w = .fr (.int (g i j)) := by
  unfold iOp at h
  split at h
  · split at h
    · cases h; exact ⟨_, _, rfl, rfl, by assumption, rfl⟩
    · cases h
  · cases h
theorem iBp_some {g : Int → Int → Bool} {x y : D} {w : Val} (h : iBp g x y = some w) : ∃ i j, x = .int i ∧ y = .int j ∧ w = .fr (.bl (g i j)) := by
  unfold iBp at h
  split at h
  · cases h; exact ⟨_, _, rfl, rfl, rfl⟩
  · cases h
theorem opS_i {C : Int → Int → Prop} {p : Int → Int → Bool} {g : Int → Int → Int} (hp : ∀ i j, p i j = true → C i j) : OpS c (rI C fun i j => .int (g i j)) (iOp p g) := fun O H x y dx dy w Q tr px py e k => by
  obtain ⟨i, j, rfl, rfl, h1, rfl⟩ := iOp_some e
  exact ⟨i, j, px, py, hp i j h1, k _ H [] (.same rfl)⟩
theorem opS_b {g : Int → Int → Bool} : OpS c (rI0 fun i j => .bl (g i j)) (iBp g) := fun O H x y dx dy w Q tr px py e k => by
  obtain ⟨i, j, rfl, rfl, rfl⟩ := iBp_some e
  exact ⟨i, j, px, py, k _ H [] (.same rfl)⟩
theorem opS_or {r r' : R2} {g g' : D → D → Option Val} (h : OpS c r g) (h' : OpS c r' g') : OpS c (fun x y H Q => r x y H Q ∨ r' x y H Q) (fun x y => (g x y).or (g' x y)) := fun O H x y dx dy w Q tr px py e k => by
  cases q : g dx dy with
  | some w' =>
    have e : (g dx dy).or (g' dx dy) = some w := e
    rw [q] at e
    have e : some w' = some w := e
    exact .inl (h O H x y dx dy w Q tr px py (q.trans e) k)
  | none =>
    have e : (g dx dy).or (g' dx dy) = some w := e
    rw [q] at e
    exact .inr (h' O H x y dx dy w Q tr px py e k)
def gSub : D → D → Option Val := iOp (fun _ _ => true) fun i j => i - j
def gMulI : D → D → Option Val := iOp big64 fun i j => i * j
def gFdiv : D → D → Option Val := iOp (fun _ j => decide (j ≠ 0) && decide (j.natAbs < 1073741824)) fun i j => i.fdiv j
def gMod : D → D → Option Val := iOp (fun _ j => decide (j ≠ 0)) fun i j => i.fmod j
def gPow : D → D → Option Val := iOp (fun i j => decide (0 ≤ j) && decide (j ≤ 1000) && decide (i.natAbs < 65536)) fun i j => i ^ j.toNat
theorem s_fdiv : OpS c (rI CDivN fun i j => .int (i.fdiv j)) gFdiv := opS_i fun i j h => by
  rw [Bool.and_eq_true] at h
  exact ⟨of_decide_eq_true h.1, of_decide_eq_true h.2⟩
theorem s_mod : OpS c (rI (fun _ j => j ≠ 0) fun i j => .int (i.fmod j)) gMod := opS_i fun i j h => of_decide_eq_true h
theorem s_pow : OpS c (rI CPow fun i j => .int (i ^ j.toNat)) gPow := opS_i fun i j h => by
  rw [Bool.and_eq_true, Bool.and_eq_true] at h
  have h1 := of_decide_eq_true h.1.1
  have h2 := of_decide_eq_true h.1.2
  have h3 := of_decide_eq_true h.2
  exact ⟨h1, by omega, by omega⟩
theorem s_mulI : OpS c (rI CMul fun i j => .int (i * j)) gMulI := opS_i fun i j h => big64_ok h
theorem s_and : OpS c (rI0 fun i j => .int (Builtin.bitAnd i j)) (iOp (fun _ _ => true) Builtin.bitAnd) := fun O H x y dx dy w Q tr px py e k => by
  obtain ⟨i, j, rfl, rfl, h1, rfl⟩ := iOp_some e
  exact ⟨i, j, px, py, k _ H [] (.same rfl)⟩
def rSubI : R2 := rI0 fun i j => .int (i - j)
theorem s_sub : OpS c rSubI gSub := fun O H x y dx dy w Q tr px py e k => by
  obtain ⟨i, j, rfl, rfl, h1, rfl⟩ := iOp_some e
  exact ⟨i, j, px, py, k _ H [] (.same rfl)⟩
/-- x + y -/
def gAdd : D → D → Option Val
  | .int i, .int j => some (.fr (.int (i + j)))
  | .str x, .str y => if szB (x.length + y.length) then some (.fr (.str (x ++ y))) else none
  | .lst xs, .lst ys => if szB (xs.length + ys.length) then some (.nw (.lst (xs ++ ys))) else none
  | .tup xs, .tup ys => if xs.isEmpty then none else if szB (xs.length + ys.length) then some (.fr (.tup (xs ++ ys))) else none
  | _, _ => none
def rAddG (K : PySem.W.Frag) : R2 := fun x y H Q => (rI0 (fun i j => V.int (i + j))) x y H Q ∨ (∃ i j, x = .str i ∧ y = .str j ∧ i.length + j.length ≤ sizeLine ∧ Q (.str (i ++ j)) H) ∨ rCat x y H Q ∨ rCatT K x y H Q
theorem op_addG : OpR X (binaryOp .Add) (rAddG X.K) := op_add.or (op_add_str.or (op_cat.or op_catT))
theorem s_add : OpS c (rAddG c.K) gAdd := fun O H x y dx dy w Q tr px py e k => by
  unfold gAdd at e
  split at e
  · cases e; exact .inl ⟨_, _, px, py, k _ H [] (.same rfl)⟩
  · split at e
    · rename_i h; cases e; exact .inr (.inl ⟨_, _, px, py, szB_ok h, k _ H [] (.same rfl)⟩)
    · cases e
  · split at e
    · rename_i h
      cases e
      obtain ⟨a, vs, ea, ha, ra⟩ := px
      obtain ⟨b, us, eb, hb, rb⟩ := py
      exact .inr (.inr (.inl ⟨a, b, vs, us, ea, eb, ha, hb, by rw [ra.len, rb.len]; exact szB_ok h, fun p hp => k _ _ _ (.lst hp (ra.app rb))⟩))
    · cases e
  · rename_i xs ys
    split at e
    · cases e
    · rename_i hx
      split at e
      · rename_i h
        cases e
        obtain ⟨a, vs, ea, ⟨ha, oa⟩, ra⟩ := px
        obtain ⟨b, us, eb, ⟨hb, ob⟩, rb⟩ := py
        refine .inr (.inr (.inr ⟨a, b, vs, us, ea, eb, sqT_of ha, sqT_of hb, fun q => hx ?_, by rw [ra.len, rb.len]; exact szB_ok h, fun q => ?_, fun q p hp => k _ _ _ (.tup hp tr (ra.app rb))⟩))
        · rw [← ra.emp, q]; rfl
        · have e2 : ys = [] := by
            cases ys with
            | nil => rfl
            | cons d ds =>
              obtain ⟨v, r, e3, _⟩ := rb
              rw [q] at e3; cases e3
          subst e2
          rw [List.append_nil] at k
          exact k _ H [] (.same ⟨a, vs, rfl, ⟨ha, oa⟩, ra⟩)
      · cases e
  · cases e
/-- list * int, int * int -/
def gMul : D → D → Option Val := fun x y => (gMulI x y).or (match x, y with
  | .lst xs, .int j => if small62 j && szB (xs.length * j.toNat) then some (.nw (.lst (List.replicate j.toNat xs).flatten)) else none
  | _, _ => none)
theorem RDs.rep {ds : List D} {vs : List V} (h : RDs c O H ds vs) : ∀ n : Nat, RDs c O H (List.replicate n ds).flatten (List.replicate n vs).flatten
  | 0 => (rfl : ([] : List V) = [])
  | n + 1 => by rw [List.replicate_succ, List.replicate_succ, List.flatten_cons, List.flatten_cons]; exact h.app (RDs.rep h n)
def rMulG : R2 := fun x y H Q => (rI CMul fun i j => V.int (i * j)) x y H Q ∨ rRep x y H Q
theorem op_mulG : OpR X (binaryOp .Mult) rMulG := op_mul.or op_rep
theorem s_mul : OpS c rMulG gMul := opS_or s_mulI fun O H x y dx dy w Q tr px py e k => by
  split at e
  · split at e
    · rename_i h
      cases e
      rw [Bool.and_eq_true] at h
      obtain ⟨a, vs, ea, ha, ra⟩ := px
      have hj := small62_ok h.1
      exact ⟨a, _, vs, ea, py, ha, by omega, by omega, by rw [ra.len]; exact szB_ok h.2, fun p hp => k _ _ _ (.lst hp (ra.rep _))⟩
    · cases e
  · cases e

/-! ### == and != of data -/
mutual
def D.py : D → Option PyData
  | .non => some .none | .bl b => some (.bool b) | .int i => some (.int i) | .str x => some (.str x)
  | .lst xs => (D.pys xs).map .list | .klst xs => (D.pys xs).map .list
  | .tup xs => (D.pys xs).map .tuple | .ktup xs => (D.pys xs).map .tuple
  | _ => none
def D.pys : List D → Option (List PyData)
  | [] => some []
  | d :: ds => (D.py d).bind fun p => (D.pys ds).map fun ps => p :: ps
end
mutual
theorem D.py_ok : ∀ {d : D} {v : V} {p : PyData}, RD c O H d v → d.py = some p → Dp c.K H v p
  | .non, _, _, h, e => by cases e; rw [show _ = V.non from h]; exact .non
  | .bl _, _, _, h, e => by cases e; rw [show _ = V.bl _ from h]; exact .bl _
  | .int _, _, _, h, e => by cases e; rw [show _ = V.int _ from h]; exact .int _
  | .str _, _, _, h, e => by cases e; rw [show _ = V.str _ from h]; exact .str _
  | .con _, _, _, _, e => by simp [D.py] at e
  | .ty _, _, _, _, e => by simp [D.py] at e
  | .dK _, _, _, _, e => by simp [D.py] at e
  | .dT _, _, _, _, e => by simp [D.py] at e
  | .obj _ _, _, _, _, e => by simp [D.py] at e
  | .lst xs, _, _, ⟨a, vs, ev, h, r⟩, e => by
    obtain ⟨ps, e1, e2⟩ := Option.map_eq_some_iff.mp e
    subst e2 ev
    exact .lst (sqL_of h.1) (D.pys_ok r e1)
  | .klst xs, _, _, ⟨a, vs, ev, h, r⟩, e => by
    obtain ⟨ps, e1, e2⟩ := Option.map_eq_some_iff.mp e
    subst e2 ev
    exact .lst (sqK_of h) (D.pys_ok r e1)
  | .tup xs, _, _, ⟨a, vs, ev, h, r⟩, e => by
    obtain ⟨ps, e1, e2⟩ := Option.map_eq_some_iff.mp e
    subst e2 ev
    exact .tup (sqT_of h.1) (D.pys_ok r e1)
  | .ktup xs, _, _, ⟨a, vs, ev, h, r⟩, e => by
    obtain ⟨ps, e1, e2⟩ := Option.map_eq_some_iff.mp e
    subst e2 ev
    exact .tup (.inr h) (D.pys_ok r e1)
theorem D.pys_ok : ∀ {ds : List D} {vs : List V} {ps : List PyData}, RDs c O H ds vs → D.pys ds = some ps → DpAll c.K H vs ps
  | [], _, _, h, e => by cases e; rw [show _ = [] from h]; exact .nil
  | d :: ds, _, _, ⟨v, r, ev, h, t⟩, e => by
    obtain ⟨p, e1, e⟩ := Option.bind_eq_some_iff.mp e
    obtain ⟨ps, e2, e3⟩ := Option.map_eq_some_iff.mp e
    subst e3 ev
    exact .cons (D.py_ok h e1) (D.pys_ok t e2)
end
theorem Pk.py {d : D} {v : V} {p : PyData} (h : Pk c O H d v) (e : d.py = some p) : Dp c.K H v p := by
  cases d with
  | lst xs =>
    obtain ⟨a, vs, ev, h, r⟩ := h
    obtain ⟨ps, e1, e2⟩ := Option.map_eq_some_iff.mp e
    subst e2 ev
    exact .lst (sqL_of h) (D.pys_ok r e1)
  | non => exact D.py_ok h e
  | bl _ => exact D.py_ok h e
  | int _ => exact D.py_ok h e
  | str _ => exact D.py_ok h e
  | tup _ => exact D.py_ok h e
  | klst _ => exact D.py_ok h e
  | ktup _ => exact D.py_ok h e
  | _ => simp [D.py] at e
def eqD (x y : D) : Option Bool := x.py.bind fun p => y.py.bind fun q => if SeqAt.shaped p && SeqAt.shaped q then some (PyData.eqv p q) else none
def gEq : D → D → Option Val := fun x y => (eqD x y).map fun k => .fr (.bl k)
def gNe : D → D → Option Val := fun x y => (eqD x y).map fun k => .fr (.bl (!k))
theorem eqD_some {x y : D} {k : Bool} (h : eqD x y = some k) : ∃ p q, x.py = some p ∧ y.py = some q ∧ SeqAt.shaped p = true ∧ SeqAt.shaped q = true ∧ k = PyData.eqv p q := by
  obtain ⟨p, h1, h⟩ := Option.bind_eq_some_iff.mp h
  obtain ⟨q, h2, h⟩ := Option.bind_eq_some_iff.mp h
  split at h
  · rename_i hs; cases h; rw [Bool.and_eq_true] at hs; exact ⟨p, q, h1, h2, hs.1, hs.2, rfl⟩
  · cases h
theorem s_eq : OpS c (rEqD c.K) gEq := fun O H x y dx dy w Q tr px py e k => by
  obtain ⟨r, e1, e2⟩ := Option.map_eq_some_iff.mp e
  subst e2
  obtain ⟨p, q, h1, h2, h3, h4, rfl⟩ := eqD_some e1
  exact ⟨p, q, px.py h1, py.py h2, h3, h4, k _ H [] (.same rfl)⟩
theorem s_ne : OpS c (rNeD c.K) gNe := fun O H x y dx dy w Q tr px py e k => by
  obtain ⟨r, e1, e2⟩ := Option.map_eq_some_iff.mp e
  subst e2
  obtain ⟨p, q, h1, h2, h3, h4, rfl⟩ := eqD_some e1
  exact ⟨p, q, px.py h1, py.py h2, h3, h4, k _ H [] (.same rfl)⟩
/-- x is None, x is not None -/
def isNonD : D → Bool
  | .non => true
  | _ => false
def gIsN (neg : Bool) : D → D → Option Val := fun x y => match y with
  | .non => some (.fr (.bl (if neg then !isNonD x else isNonD x)))
  | _ => none
theorem non_iff {x : D} {v : V} (h : Pk c O H x v) : decide (v = V.non) = isNonD x := by
  cases x with
  | non => rw [show v = .non from h]; rfl
  | bl _ => rw [show v = .bl _ from h]; rfl
  | int _ => rw [show v = .int _ from h]; rfl
  | str _ => rw [show v = .str _ from h]; rfl
  | con _ => rw [show v = .ref _ from h]; rfl
  | ty _ => rw [show v = .ty _ from h]; rfl
  | lst _ => obtain ⟨a, vs, rfl, _⟩ := h; rfl
  | tup _ => obtain ⟨a, vs, rfl, _⟩ := h; rfl
  | klst _ => obtain ⟨a, vs, rfl, _⟩ := h; rfl
  | ktup _ => obtain ⟨a, vs, rfl, _⟩ := h; rfl
  | dK _ => obtain ⟨a, vs, rfl, _⟩ := h; rfl
  | dT _ => obtain ⟨a, vs, rfl, _⟩ := h; rfl
  | obj _ _ => obtain ⟨a, dx, vs, rfl, _⟩ := h; rfl
theorem s_isN : OpS c (fun x y H Q => y = .non ∧ Q (.bl (decide (x = .non))) H) (gIsN false) := fun O H x y dx dy w Q tr px py e k => by
  unfold gIsN at e
  split at e
  · cases e
    refine ⟨py, ?_⟩
    rw [non_iff px]
    exact k _ H [] (.same rfl)
  · cases e
theorem s_notN : OpS c (fun x y H Q => y = .non ∧ Q (.bl (!decide (x = .non))) H) (gIsN true) := fun O H x y dx dy w Q tr px py e k => by
  unfold gIsN at e
  split at e
  · cases e
    refine ⟨py, ?_⟩
    rw [non_iff px]
    exact k _ H [] (.same rfl)
  · cases e

/-! ### a[i] -/
def gIx : D → D → Option Val := fun x y => match x, y with
  | .lst xs, .int i => (L2.atI xs i).map .fr
  | .tup xs, .int i => (L2.atI xs i).map .fr
  | .klst xs, .int i => (L2.atI xs i).map .fr
  | .ktup xs, .int i => (L2.atI xs i).map .fr
  | .str z, .int i => if szB z.length then (L2.atI z.cps.toList i).map fun k => .fr (.str ⟨#[k]⟩) else none
  | _, _ => none
theorem s_ix : OpS c (rIx c.K) gIx := fun O H x y dx dy w Q tr px py e k => by
  unfold gIx at e
  split at e
  · obtain ⟨d, e1, e2⟩ := Option.map_eq_some_iff.mp e
    subst e2
    obtain ⟨a, vs, ea, ha, ra⟩ := px
    obtain ⟨v, h1, h2⟩ := ra.atI e1
    exact .inl ⟨a, vs, _, v, ea, py, sqL_of ha, h1, k _ H [] (.same h2)⟩
  · obtain ⟨d, e1, e2⟩ := Option.map_eq_some_iff.mp e
    subst e2
    obtain ⟨a, vs, ea, ha, ra⟩ := px
    obtain ⟨v, h1, h2⟩ := ra.atI e1
    exact .inr (.inl ⟨a, vs, _, v, ea, py, sqT_of ha.1, h1, k _ H [] (.same h2)⟩)
  · obtain ⟨d, e1, e2⟩ := Option.map_eq_some_iff.mp e
    subst e2
    obtain ⟨a, vs, ea, ha, ra⟩ := px
    obtain ⟨v, h1, h2⟩ := ra.atI e1
    exact .inl ⟨a, vs, _, v, ea, py, sqK_of ha, h1, k _ H [] (.same h2)⟩
  · obtain ⟨d, e1, e2⟩ := Option.map_eq_some_iff.mp e
    subst e2
    obtain ⟨a, vs, ea, ha, ra⟩ := px
    obtain ⟨v, h1, h2⟩ := ra.atI e1
    exact .inr (.inl ⟨a, vs, _, v, ea, py, .inr ha, h1, k _ H [] (.same h2)⟩)
  · split at e
    · rename_i hz
      obtain ⟨d, e1, e2⟩ := Option.map_eq_some_iff.mp e
      subst e2
      exact .inr (.inr ⟨_, _, d, px, py, szB_ok hz, e1, k _ H [] (.same rfl)⟩)
    · cases e
  · cases e

/-! ### builtins -/
def gLen : List D → Option Val
  | [.lst xs] => some (.fr (.int xs.length)) | [.tup xs] => some (.fr (.int xs.length)) | [.klst xs] => some (.fr (.int xs.length)) | [.ktup xs] => some (.fr (.int xs.length))
  | [.str x] => if szB x.length then some (.fr (.int x.length)) else none
  | _ => none
theorem pks1 {d : D} {vs : List V} (h : Pks c O H [d] vs) : ∃ v, vs = [v] ∧ Pk c O H d v := by
  obtain ⟨v, r, e, h1, h2⟩ := h
  rw [show r = [] from h2] at e
  exact ⟨v, e, h1⟩
theorem pks2 {d d' : D} {vs : List V} (h : Pks c O H [d, d'] vs) : ∃ v v', vs = [v, v'] ∧ Pk c O H d v ∧ Pk c O H d' v' := by
  obtain ⟨v, r, e, h1, h2⟩ := h
  obtain ⟨v', e2, h3⟩ := pks1 h2
  exact ⟨v, v', by rw [e, e2], h1, h3⟩
theorem s_len : CaS c (fun xs H Q => ∃ x n, xs = [x] ∧ LenV c.K x H n ∧ Q (.int n) H) gLen := fun O H vs ds w Q tr p e k => by
  unfold gLen at e
  split at e
  · cases e
    obtain ⟨v, rfl, a, us, rfl, ha, ra⟩ := pks1 p
    exact ⟨_, _, rfl, .inl ⟨us, sqL_of ha, rfl⟩, by rw [ra.len]; exact k _ H [] (.same rfl)⟩
  · cases e
    obtain ⟨v, rfl, a, us, rfl, ha, ra⟩ := pks1 p
    exact ⟨_, _, rfl, .inr ⟨us, sqT_of ha.1, rfl⟩, by rw [ra.len]; exact k _ H [] (.same rfl)⟩
  · cases e
    obtain ⟨v, rfl, a, us, rfl, ha, ra⟩ := pks1 p
    exact ⟨_, _, rfl, .inl ⟨us, sqK_of ha, rfl⟩, by rw [ra.len]; exact k _ H [] (.same rfl)⟩
  · cases e
    obtain ⟨v, rfl, a, us, rfl, ha, ra⟩ := pks1 p
    exact ⟨_, _, rfl, .inr ⟨us, .inr ha, rfl⟩, by rw [ra.len]; exact k _ H [] (.same rfl)⟩
  · split at e
    · rename_i hz
      cases e
      obtain ⟨v, rfl, h⟩ := pks1 p
      obtain rfl : v = .str _ := h
      exact ⟨_, _, rfl, ⟨szB_ok hz, rfl⟩, k _ H [] (.same rfl)⟩
    · cases e
  · cases e
def gInt : List D → Option Val
  | [.int i] => some (.fr (.int i)) | [.bl b] => some (.fr (.int (if b then 1 else 0))) | _ => none
theorem s_int : CaS c (fun xs H Q => (∃ i, xs = [.int i] ∧ Q (.int i) H) ∨ ∃ k, xs = [.bl k] ∧ Q (.int (if k then 1 else 0)) H) gInt := fun O H vs ds w Q tr p e k => by
  unfold gInt at e
  split at e
  · cases e
    obtain ⟨v, rfl, h⟩ := pks1 p
    obtain rfl : v = .int _ := h
    exact .inl ⟨_, rfl, k _ H [] (.same rfl)⟩
  · cases e
    obtain ⟨v, rfl, h⟩ := pks1 p
    obtain rfl : v = .bl _ := h
    exact .inr ⟨_, rfl, k _ H [] (.same rfl)⟩
  · cases e
def gMin : List D → Option Val
  | [.int i, .int j] => some (.fr (.int (if j < i then j else i))) | _ => none
def gMax : List D → Option Val
  | [.int i, .int j] => some (.fr (.int (if j > i then j else i))) | _ => none
theorem s_min : CaS c (fun xs H Q => ∃ i j, xs = [.int i, .int j] ∧ Q (.int (if j < i then j else i)) H) gMin := fun O H vs ds w Q tr p e k => by
  unfold gMin at e
  split at e
  · cases e
    obtain ⟨v, v', rfl, h, h'⟩ := pks2 p
    obtain rfl : v = .int _ := h
    obtain rfl : v' = .int _ := h'
    exact ⟨_, _, rfl, k _ H [] (.same rfl)⟩
  · cases e
theorem s_max : CaS c (fun xs H Q => ∃ i j, xs = [.int i, .int j] ∧ Q (.int (if j > i then j else i)) H) gMax := fun O H vs ds w Q tr p e k => by
  unfold gMax at e
  split at e
  · cases e
    obtain ⟨v, v', rfl, h, h'⟩ := pks2 p
    obtain rfl : v = .int _ := h
    obtain rfl : v' = .int _ := h'
    exact ⟨_, _, rfl, k _ H [] (.same rfl)⟩
  · cases e
def gList : List D → Option Val
  | [.lst xs] => some (.nw (.lst xs)) | [.tup xs] => some (.nw (.lst xs)) | [.klst xs] => some (.nw (.lst xs)) | [.ktup xs] => some (.nw (.lst xs)) | _ => none
theorem s_list : CaS c (fun xs H Q => ∃ p ys, xs = [.ref p] ∧ (SqL c.K H p ys ∨ SqT c.K H p ys) ∧ ∀ l, H l = none → Q (.ref l) (upd H l (.lst ys))) gList := fun O H vs ds w Q tr p e k => by
  unfold gList at e
  split at e
  · cases e
    obtain ⟨v, rfl, a, us, rfl, ha, ra⟩ := pks1 p
    exact ⟨a, us, rfl, .inl (sqL_of ha), fun l hl => k _ _ _ (.lst hl ra)⟩
  · cases e
    obtain ⟨v, rfl, a, us, rfl, ha, ra⟩ := pks1 p
    exact ⟨a, us, rfl, .inr (sqT_of ha.1), fun l hl => k _ _ _ (.lst hl ra)⟩
  · cases e
    obtain ⟨v, rfl, a, us, rfl, ha, ra⟩ := pks1 p
    exact ⟨a, us, rfl, .inl (sqK_of ha), fun l hl => k _ _ _ (.lst hl ra)⟩
  · cases e
    obtain ⟨v, rfl, a, us, rfl, ha, ra⟩ := pks1 p
    exact ⟨a, us, rfl, .inr (.inr ha), fun l hl => k _ _ _ (.lst hl ra)⟩
  · cases e
def gTuple : List D → Option Val
  | [.lst xs] => some (.fr (.tup xs)) | [.klst xs] => some (.fr (.tup xs)) | [.tup xs] => some (.fr (.tup xs)) | [.ktup xs] => some (.fr (.ktup xs)) | _ => none
theorem s_tuple : CaS c (fun xs H Q => ∃ p ys, xs = [.ref p] ∧ ((SqL c.K H p ys ∧ ∀ l, H l = none → Q (.ref l) (upd H l (.tup ys))) ∨ (SqT c.K H p ys ∧ Q (.ref p) H))) gTuple := fun O H vs ds w Q tr p e k => by
  unfold gTuple at e
  split at e
  · cases e
    obtain ⟨v, rfl, a, us, rfl, ha, ra⟩ := pks1 p
    exact ⟨a, us, rfl, .inl ⟨sqL_of ha, fun l hl => k _ _ _ (.tup hl tr ra)⟩⟩
  · cases e
    obtain ⟨v, rfl, a, us, rfl, ha, ra⟩ := pks1 p
    exact ⟨a, us, rfl, .inl ⟨sqK_of ha, fun l hl => k _ _ _ (.tup hl tr ra)⟩⟩
  · cases e
    obtain ⟨v, rfl, a, us, rfl, ha, ra⟩ := pks1 p
    exact ⟨a, us, rfl, .inr ⟨sqT_of ha.1, k _ H [] (.same ⟨a, us, rfl, ha, ra⟩)⟩⟩
  · cases e
    obtain ⟨v, rfl, a, us, rfl, ha, ra⟩ := pks1 p
    exact ⟨a, us, rfl, .inr ⟨.inr ha, k _ H [] (.same ⟨a, us, rfl, ha, ra⟩)⟩⟩
  · cases e
/-! ### slices -/
def cutD (xs : List D) (lo hi : Option Int) : List D := (xs.drop (HT.sIx xs.length 0 lo)).take (HT.sIx xs.length xs.length hi - HT.sIx xs.length 0 lo)
theorem RDs.cut {ds : List D} {vs : List V} (lo hi : Option Int) (r : RDs c O H ds vs) : RDs c O H (cutD ds lo hi) (cutV vs lo hi) := by
  unfold cutD cutV
  rw [r.len]
  exact (r.drp _).tak _
end
end Vl

namespace Vl
open PySem PySem.Spec PyProof.Rows L2
section
variable {c : Vc} {X : Cx} {W : WX} {b : Bool} {bor : List Nat} {O O1 O2 O' : Addr → Prop} {fp fp1 fp2 fp' : List Addr} {H H1 H2 H' : Hp} {ρ ρ1 ρ2 : Env} {σ σ1 : L2.St} {k : Nat} {α β : Type}
variable {a e e' o : Expr} {es : List Expr} {fa fb fc : FE} {pos p2 apos cpos : Pos} {ta tb : TE} {fs : FG (List Val)} {D1 : Ends}
/-! ### a chain of two comparisons -/
theorem ve_chain {op op' : CmpOp} {r r' : R2} {g g' : D → D → Option Val} (ho : OpR X (compareOp op) r) (ho' : OpR X (compareOp op') r') (hr : OpS c r g) (hr' : OpS c r' g') (ha : VE c X W b a fa) (hb : VE c X W b e fb) (hc : VE c X W b e' fc)
    (sg : ∀ dx dy w, g dx dy = some w → ∃ k, w = .fr (.bl k)) (hm : lastMarks [op, op'] [e, e'] = false := by with_unfolding_all rfl) : VE c X W b (.Compare a [op, op'] [e, e'] pos) (vCh g g' fa fb fc) := by
  obtain ⟨ta, pa, oa⟩ := ha
  obtain ⟨tb, pb, ob⟩ := hb
  obtain ⟨tc, pc, oc⟩ := hc
  exact ⟨_, pe_chain ho ho' pa pb pc hm, ok_ch hr hr' oa ob oc sg⟩
theorem vt_chain {op op' : CmpOp} {r r' : R2} {g g' : D → D → Option Val} (ho : OpR X (compareOp op) r) (ho' : OpR X (compareOp op') r') (hr : OpS c r g) (hr' : OpS c r' g') (ha : VE c X W b a fa) (hb : VE c X W b e fb) (hc : VE c X W b e' fc)
    (sg : ∀ dx dy w, g dx dy = some w → ∃ k, w = .fr (.bl k)) (hm : lastMarks [op, op'] [e, e'] = false := by with_unfolding_all rfl) : VT c X W b (.Compare a [op, op'] [e, e'] pos) (bnd (vCh g g' fa fb fc) asB) := by
  obtain ⟨ta, pa, oa⟩ := ha
  obtain ⟨tb, pb, ob⟩ := hb
  obtain ⟨tc, pc, oc⟩ := hc
  exact ⟨_, pt_chain ho ho' pa pb pc hm, fun O fp H ρ σ Q S h => (ok_ch hr hr' oa ob oc sg).thn S.tr S .refl (fun _ => .refl) h id fun x ρ1 u H1 O1 fp1 g1 _ S1 E1 _ I1 R1 F1 h1 => Post.asB h1 S1 E1 I1 R1⟩
theorem iBp_bl {g : Int → Int → Bool} : ∀ dx dy w, iBp g dx dy = some w → ∃ k, w = .fr (.bl k) := fun dx dy w h => by
  obtain ⟨i, j, _, _, e⟩ := iBp_some h
  exact ⟨_, e⟩
/-! ### a[lo:hi] -/
abbrev FO := FG (Option Int)
def RO : Rl (Option Int) (Option Int) := fun _ _ _ _ _ x y g => x = y ∧ g = []
def VO (c : Vc) (X : Cx) (W : WX) (b : Bool) (e : Option Expr) (f : FO) : Prop := ∃ t : TO, PO X e t ∧ Ok RO c W b f t
theorem vo_none : VO c X W b none (ret none) := ⟨_, po_none, fun O fp H ρ σ Q S h => h none H O fp [] S .refl (fun _ => .refl) ⟨rfl, rfl⟩ fun _ q => (by cases q)⟩
def asI (w : Val) : FO := fun ρ => match w with
  | .fr (.int i) => some (.val (some i) ρ)
  | _ => none
theorem vo_some (ha : VE c X W b a fa) : VO c X W b (some a) (bnd fa asI) := by
  obtain ⟨ta, pa, oa⟩ := ha
  refine ⟨_, po_some pa, fun O fp H ρ σ Q S h => oa.thn S.tr S .refl (fun _ => .refl) h id fun w ρ1 u H1 O1 fp1 g1 _ S1 E1 _ I1 R1 F1 h1 => ?_⟩
  unfold asI at h1
  split at h1
  · exact ⟨_, R1.1, h1 (some _) H1 O1 fp1 [] S1 E1 I1 ⟨rfl, rfl⟩ fun _ q => (by cases q)⟩
  · exact h1.elim
def SlS (c : Vc) (r : V → Option Int → Option Int → Hp → VK → Prop) (g : D → Option Int → Option Int → Option Val) : Prop := ∀ O H x dx lo hi w (Q : VK), (∀ b, O b → nT (H b)) → Pk c O H dx x → g dx lo hi = some w → (∀ u H' gg, PR c O H w u H' gg → Q u H') → r x lo hi H Q
def v3 (g : D → Option Int → Option Int → Option Val) (x : Val) (lo hi : Option Int) : FE := fun ρ => match (vw ρ x).bind fun d => g d lo hi with
  | some w => some (.val w ρ)
  | none => none
def vSl (g : D → Option Int → Option Int → Option Val) (fa : FE) (fl fh : FO) : FE := bnd fa fun x => bnd fl fun lo => bnd fh fun hi => v3 g x lo hi
theorem ve_slice {r : V → Option Int → Option Int → Hp → VK → Prop} {g : D → Option Int → Option Int → Option Val} {lo hi : Option Expr} {fl fh : FO} (hr : SlR X r) (hs : SlS c r g) (ha : VE c X W b a fa) (hl : VO c X W b lo fl) (hh : VO c X W b hi fh) :
    VE c X W b (.Subscript a (.Slice lo hi none p2) pos) (vSl g fa fl fh) := by
  obtain ⟨ta, pa, oa⟩ := ha
  obtain ⟨tl, pl, ol⟩ := hl
  obtain ⟨th, ph, oh⟩ := hh
  refine ⟨_, pe_slice hr pa pl ph, fun O fp H ρ σ Q S h => oa.thn S.tr S .refl (fun _ => .refl) h id fun x ρ1 u H1 O1 fp1 g1 _ S1 E1 _ I1 R1 F1 h1 => ?_⟩
  refine ol.thn S.tr S1 E1 I1 h1 id fun l ρ2 l' H2 O2 fp2 g2 _ S2 E2 E12 I2 R2 F2 h2 => ?_
  refine oh.thn S.tr S2 E2 I2 h2 id fun m ρ3 m' H3 O3 fp3 g3 _ S3 E3 E23 I3 R3 F3 h3 => ?_
  obtain ⟨rfl, _⟩ := R2
  obtain ⟨rfl, _⟩ := R3
  have RR := (R1.per (ρ1 := ρ2) S1 E12).per (ρ1 := ρ3) S2 E23
  unfold v3 at h3
  revert h3
  cases e1 : (vw ρ3 x).bind fun d => g d l m with
  | none => exact fun h => h.elim
  | some w =>
    intro h3
    obtain ⟨d, e2, e3⟩ := Option.bind_eq_some_iff.mp e1
    exact hs O3 H3 u d l m w Q S3.tr (RR.vw S3 e2) e3 fun u' H' gg p => Post.pr h3 S.tr S3 E3 I3 p
def gCutL (dx : D) (lo hi : Option Int) : Option Val := match dx with
  | .lst xs => some (.nw (.lst (cutD xs lo hi)))
  | .klst xs => some (.nw (.lst (cutD xs lo hi)))
  | _ => none
theorem s_cutL : SlS c (rSlL c.K) gCutL := fun O H x dx lo hi w Q tr px e k => by
  unfold gCutL at e
  split at e
  · cases e
    obtain ⟨a, vs, ea, ha, ra⟩ := px
    exact ⟨a, vs, ea, sqL_of ha, fun p hp => k _ _ _ (.lst hp (ra.cut lo hi))⟩
  · cases e
    obtain ⟨a, vs, ea, ha, ra⟩ := px
    exact ⟨a, vs, ea, sqK_of ha, fun p hp => k _ _ _ (.lst hp (ra.cut lo hi))⟩
  · cases e

theorem Pk.less {d : D} {v : V} (h : Pk c O H d v) (hO : ∀ a, O1 a → O a) : Pk c O1 H d v := by
  cases d with
  | lst xs => obtain ⟨a, vs, e, h, r⟩ := h; exact ⟨a, vs, e, h, r.stb (.less hO)⟩
  | dK xs => obtain ⟨a, vs, e, h, r⟩ := h; exact ⟨a, vs, e, h, r.stb (.less hO)⟩
  | dT xs => obtain ⟨a, vs, e, h, r⟩ := h; exact ⟨a, vs, e, h, r.stb (.less hO)⟩
  | obj n fs => obtain ⟨a, dx, vs, e, h, r⟩ := h; exact ⟨a, dx, vs, e, h, r.stb (.less hO)⟩
  | tup xs => exact RD.stb (.less hO) h
  | _ => exact RD.stb (.less hO) h
/-! ### a slot's own thing is changed -/
theorem SR.mut {i : Nat} {t : T} {x : V} (S : SR c O fp H ρ σ) (e : ρ[i]? = some (some t)) (ex : σ[i]? = some (some x)) : ∃ f, RT c O H t x f ∧ f.Nodup ∧ (∀ b ∈ f, O b) ∧
    ∀ H' t', (∀ b, b ∉ f → H' b = H b) → (∀ b ∈ f, nT (H' b)) → RT c O H' t' x f → SR c O fp H' (ρ.set i (some t')) σ ∧ Ext fp O H fp O H' := by
  obtain ⟨v, f, fl, fr, h1, h2, h3, h4, _⟩ := S.rs.get e
  rw [ex] at h1
  obtain rfl : x = v := by simpa using h1
  have nd := S.nd
  rw [h3] at nd
  have dj : ∀ a ∈ fl ++ fr, a ∉ f := by
    simp only [List.nodup_append, List.mem_append] at nd ⊢
    rintro a (ha | ha) hf
    · exact nd.1.2.2 a ha a hf rfl
    · exact nd.2.2 a (.inr hf) a ha rfl
  have nf : f.Nodup := by
    simp only [List.nodup_append] at nd
    exact nd.1.2.1
  have inf : ∀ b ∈ f, b ∈ fp := fun b hb => by rw [h3]; simp [hb]
  have of : ∀ b ∈ f, O b := fun b hb => S.ow b (inf b hb)
  refine ⟨f, h2, nf, of, fun H' t' kp tr R => ?_⟩
  have kpO : ∀ b, ¬ O b → H' b = H b := fun b nb => kp b fun q => nb (of b q)
  have es : σ.set i (some x) = σ := set_same ex
  have q := h4 (O' := O) (H' := H') (.of (fun a n _ => kpO a n) fun a h => .inl h) (fun a ha => kp a (dj a ha)) R
  rw [es] at q
  refine ⟨⟨by rw [h3]; exact q, S.nd, S.ow, fun b hb => ?_, fun P hP => ?_, fun p hp => (S.px p hp).stb (.of (fun a n _ => kpO a n) fun a h => .inl h)⟩, ⟨fun b _ n => kp b fun q => n (inf b q), fun b h => ?_, fun b h _ => h, fun b h => .inl h, fun b h => .inl h⟩⟩
  · by_cases z : b ∈ f
    · exact tr b z
    · rw [kp b z]; exact S.tr b hb
  · obtain ⟨ps, e1, e2⟩ := S.tb P hP
    have z : P ∉ f := fun z => by
      obtain ⟨u, q1, q2⟩ := S.tr P (of P z)
      rw [e1] at q1
      cases q1
      cases q2
    exact ⟨ps, by rw [kp P z]; exact e1, e2⟩
  · by_cases z : b ∈ f
    · exact (tr b z).ne
    · rw [kp b z]; exact h
/-- what a method does to its own receiver -/
def MuS (c : Vc) (r : V → List V → Hp → VK → Prop) (g : T → List D → Option (D × T)) : Prop := ∀ O H x vs t ds w t' f (Q : VK), RT c O H t x f → f.Nodup → (∀ b ∈ f, O b) → RDs c O H ds vs → g t ds = some (w, t') →
  (∀ u H', (∀ b, b ∉ f → H' b = H b) → (∀ b ∈ f, nT (H' b)) → RT c O H' t' x f → RD c O H' w u → Q u H') → r x vs H Q
def kMu (g : T → List D → Option (D × T)) (x : Val) (ws : List Val) : FE := fun ρ => match x with
  | .al i => match ρ[i]?, fzs ws with
    | some (some t), some ds => match g t ds with
      | some (w, t') => some (.val (.fr w) (ρ.set i (some t')))
      | none => none
    | _, _ => none
  | _ => none
def isOwnL (x : Val) (ρ : Env) : Bool := match x with
  | .al i => match ρ[i]? with
    | some (some (.lst _)) => true
    | _ => false
  | _ => false
def vMu (g : T → List D → Option (D × T)) (fo : FE) (fs : FG (List Val)) : FE := bnd fo fun x ρ => if isOwnL x ρ then bnd fs (fun ws => kMu g x ws) ρ else none
theorem isOwnL_ok {x : Val} {u : V} {g : List Addr} (h : isOwnL x ρ = true) (R : RV c O fp H ρ σ x u g) (S : SR c O fp H ρ σ) : ∃ a xs, u = .ref a ∧ H a = some (.lst xs) := by
  unfold isOwnL at h
  split at h
  · split at h
    · rename_i q
      obtain ⟨v, f, fl, fr, h1, h2, _⟩ := S.rs.get q
      rw [R.1] at h1
      cases h1
      obtain ⟨a, vs, e, hl, _⟩ := h2
      exact ⟨a, vs, e, hl⟩
    · cases h
  · cases h
theorem Post.mu {r : V → List V → Hp → VK → Prop} {g : T → List D → Option (D × T)} {Q : VK} {x : Val} {u : V} {g0 g1 : List Addr} {ws : List Val} {us : List V} (hr : MuS c r g) (S0 : ∀ b, O b → nT (H b)) (S : SR c O1 fp1 H1 ρ1 σ) (E : Ext fp O H fp1 O1 H1) (hb : b = false)
    (rx : RV c O1 fp1 H1 ρ1 σ x u g0) (rs : RVs c O1 fp1 H1 ρ1 σ ws us g1) (F1 : Fr g1 fp H) (h : Post (RV c) c W b O fp H σ (kMu g x ws ρ1) Q) : r u us H1 Q := by
  cases x with
  | al i =>
    simp only [kMu] at h
    split at h
    · rename_i t ds et ed
      split at h
      · rename_i w t' eg
        have R := rs.rest (O1 := fun a => O1 a ∧ a ∉ g1) ed (fun a q => q.1) (fun a ha q => q.2 ha)
        have S2 := S.less fun a ha => (rs.own a ha).2
        have E2 := E.less S0 F1
        obtain ⟨f, h1, h2, h3, h4⟩ := S2.mut et rx.1
        refine hr _ H1 u us t ds w t' f Q h1 h2 h3 R eg fun u' H' kp tr rt rd => ?_
        obtain ⟨S3, E3⟩ := h4 H' t' kp tr rt
        exact h u' H' _ fp1 [] S3 (E2.trans E3 S0) (fun q => by rw [hb] at q; cases q) ⟨rd, rfl⟩ fun _ q => (by cases q)
      · exact h.elim
    · exact h.elim
  | _ => exact h.elim
theorem ve_mu {nm : Str} {id : String} {r : V → List V → Hp → VK → Prop} {g : T → List D → Option (D × T)} (slot : Slot "list" nm id) (hty : typeOf (.builtin id) = pure (.type "method_descriptor")) (hm : MtR X id r) (hr : MuS c r g)
    (ho : VE c X W false o fa) (ha : VA c X W false (e :: es) fs)
    (hbase : attributeBase o nm X.env (eval o X.env) = eval o X.env := by rfl)
    (hfew : ((backTo cpos (starEach (e :: es) X.env)).all (fun x => !x.1) && (backToKw cpos (keywordEach [] X.env)).all (fun x => x.1.isSome)
      && decide ((e :: es).length + ([] : List Keyword).length + (if ([] : List Keyword).isEmpty then 0 else 1) < 30)) = true := by rfl)
    (hline : (apos.endLine == cpos.line) = true := by rfl) (hs : starEach (e :: es) X.env = (false, eval e X.env) :: starEach es X.env := by rfl) (hplain : (backTo cpos (starEach es X.env)).any (·.1) = false := by rfl) :
    VE c X W false (.Call (.Attribute o nm apos) (e :: es) [] cpos) (vMu g fa fs) := by
  obtain ⟨ta, pa, oa⟩ := ho
  obtain ⟨ts, ps, os⟩ := ha
  refine ⟨_, pe_bm PySem.F.plainAttrs_list slot hty hm pa ps hbase hfew hline hs hplain, fun O fp H ρ σ Q S h => oa.thn S.tr S .refl (fun _ => .refl) h (fun q => q) fun x ρ1 u H1 O1 fp1 g1 _ S1 E1 _ I1 R1 F1 h1 => ?_⟩
  by_cases hi : isOwnL x ρ1 = true
  · simp only [if_pos hi] at h1
    obtain ⟨p, xs, eu, hp⟩ := isOwnL_ok hi R1 S1
    subst eu
    refine ⟨.inl ⟨rfl, xs, sqL_of hp⟩, os.thn S.tr S1 E1 I1 h1 (fun q => q) fun ws ρ2 us H2 O2 fp2 g2 _ S2 E2 E12 I2 R2 F2 h2 => ?_⟩
    exact Post.mu hr S.tr S2 E2 rfl (R1.per S1 E12) R2 (fresh_of E1 F2) h2
  · simp only [if_neg hi] at h1
    exact h1.elim
theorem ve_mu0 {nm : Str} {id : String} {r : V → List V → Hp → VK → Prop} {g : T → List D → Option (D × T)} (slot : Slot "list" nm id) (hty : typeOf (.builtin id) = pure (.type "method_descriptor")) (hm : MtR X id r) (hr : MuS c r g)
    (ho : VE c X W false o fa) (hbase : attributeBase o nm X.env (eval o X.env) = eval o X.env := by rfl) (hline : (apos.endLine == cpos.line) = true := by rfl) :
    VE c X W false (.Call (.Attribute o nm apos) [] [] cpos) (vMu g fa vNil) := by
  obtain ⟨ta, pa, oa⟩ := ho
  refine ⟨_, pe_bm0 PySem.F.plainAttrs_list slot hty hm pa hbase hline, fun O fp H ρ σ Q S h => oa.thn S.tr S .refl (fun _ => .refl) h (fun q => q) fun x ρ1 u H1 O1 fp1 g1 _ S1 E1 _ I1 R1 F1 h1 => ?_⟩
  by_cases hi : isOwnL x ρ1 = true
  · simp only [if_pos hi] at h1
    obtain ⟨p, xs, eu, hp⟩ := isOwnL_ok hi R1 S1
    subst eu
    exact ⟨.inl ⟨rfl, xs, sqL_of hp⟩, Post.mu (ws := []) (us := []) (g1 := []) hr S.tr S1 E1 rfl R1 ⟨rfl, rfl⟩ (fun _ q => (by cases q)) h1⟩
  · simp only [if_neg hi] at h1
    exact h1.elim
/-- the list's own changes -/
theorem lst_upd {xs ys : List D} {vs : List V} {p : Addr} {f : List Addr} (hf : f = [p]) (own : ∀ b ∈ f, O b) (r : RDs c O H ys vs) : (∀ b, b ∉ f → upd H p (.lst vs) b = H b) ∧ (∀ b ∈ f, nT (upd H p (.lst vs) b)) ∧ RT c O (upd H p (.lst vs)) (.lst ys) (.ref p) f ∧ Stb O H O (upd H p (.lst vs)) := by
  subst hf
  have kp : ∀ b, b ∉ [p] → upd H p (.lst vs) b = H b := fun b n => upd_ne fun q => n (by simp [q])
  have st : Stb O H O (upd H p (.lst vs)) := .of (fun a n _ => kp a fun q => n (own a q)) fun a h => .inl h
  refine ⟨kp, fun b hb => ?_, ⟨p, vs, rfl, upd_same, r.stb st, rfl⟩, st⟩
  simp at hb
  rw [hb]
  exact .of upd_same
def szL (n : Nat) : Bool := decide (n < 16777216)
theorem szL_ok {n : Nat} (h : szL n = true) : n < sizeLine := by rw [sizeLine_eq]; exact of_decide_eq_true h
def muAppend : T → List D → Option (D × T)
  | .lst xs, [d] => if szL xs.length then some (.non, .lst (xs ++ [d])) else none
  | _, _ => none
theorem s_append : MuS c rAppend muAppend := fun O H x vs t ds w t' f Q rt nd own rs e k => by
  unfold muAppend at e
  split at e
  · split at e
    · rename_i h
      cases e
      obtain ⟨p, us, rfl, hp, r, ef⟩ := rt
      obtain ⟨v, r', ev, r1, r2⟩ := rs
      rw [show r' = [] from r2] at ev
      subst ev
      have r1s : RDs c O H [_] [v] := ⟨v, [], rfl, r1, (rfl : ([] : List V) = [])⟩
      obtain ⟨h1, h2, h3, h4⟩ := lst_upd (ys := _) (xs := []) ef own (r.app r1s)
      exact ⟨p, us, v, rfl, rfl, hp, by rw [r.len]; exact szL_ok h, k .non _ h1 h2 h3 rfl⟩
    · cases e
  · cases e
def muPop : T → List D → Option (D × T)
  | .lst xs, [] => (xs[xs.length - 1]?).map fun d => (d, .lst xs.dropLast)
  | _, _ => none
theorem RDs.dropLast {ds : List D} {vs : List V} (r : RDs c O H ds vs) : RDs c O H ds.dropLast vs.dropLast := by
  rw [List.dropLast_eq_take, List.dropLast_eq_take, r.len]
  exact r.tak _
theorem s_pop : MuS c rPop muPop := fun O H x vs t ds w t' f Q rt nd own rs e k => by
  unfold muPop at e
  split at e
  · obtain ⟨d, e1, e2⟩ := Option.map_eq_some_iff.mp e
    cases e2
    obtain ⟨p, us, rfl, hp, r, ef⟩ := rt
    obtain ⟨v, h1, h2⟩ := r.get e1
    obtain ⟨q1, q2, q3, q4⟩ := lst_upd (ys := _) (xs := []) ef own r.dropLast
    exact ⟨p, us, v, rfl, rs, hp, by rw [r.len]; exact h1, k v _ q1 q2 q3 (h2.stb q4)⟩
  · cases e

/-! ### o[i] = v -/
def SeS (c : Vc) (r : TSet) (g : T → D → D → Option T) : Prop := ∀ O H x y z t di dv t' f (Q : Hp → Prop), RT c O H t x f → f.Nodup → (∀ b ∈ f, O b) → Pk c O H di y → RD c O H dv z → g t di dv = some t' →
  (∀ H', (∀ b, b ∉ f → H' b = H b) → (∀ b ∈ f, nT (H' b)) → RT c O H' t' x f → Q H') → r x y z H Q
def kSe (g : T → D → D → Option T) (w x y : Val) : FS := fun ρ => match x with
  | .al i => match ρ[i]?, fz w, vw ρ y with
    | some (some t), some dv, some di => match g t di dv with
      | some t' => some (.nx (ρ.set i (some t')))
      | none => none
    | _, _, _ => none
  | _ => none
def sSe (g : T → D → D → Option T) (fa fo fi : FE) : FS := exS fa fun w => exS fo fun x => exS fi fun y => kSe g w x y
theorem vs_se {i : Expr} {fi : FE} {r : TSet} {g : T → D → D → Option T} (hs : PSet X r) (hr : SeS c r g) (ha : VE c X W false a fa) (ho : VE c X W false o fb) (hi : VE c X W false i fi)
    (h0 : ∀ v, assign (.Subscript o i p2) X.env v = (do
      let ov ← holding [v] (eval o X.env)
      let iv ← holding [v, ov] (eval i X.env)
      standAt p2
      holding [v, ov, iv] (setItem ov iv v)
      release [v, ov, iv] []) := by intro _; rfl)
    (h1 : swapsWithSole [.Subscript o i p2] a pos.line X.env = pure false := by rfl) (h2 : swappedStores [.Subscript o i p2] a X.env = pure none := by rfl)
    (h3 : (assignEach [.Subscript o i p2] X.env).map (·.2) = [assign (.Subscript o i p2) X.env] := by rfl) : VS c X W bor (.Assign [.Subscript o i p2] a pos) (sSe g fa fb fi) := by
  obtain ⟨ta, pa, oa⟩ := ha
  obtain ⟨tb, pb, ob⟩ := ho
  obtain ⟨ti, pi, oi⟩ := hi
  refine ⟨_, ps_asg pa (pg_sub pb pi hs h0) h1 h2 h3, fun O fp H ρ σ D S h => oa.stm S.tr S .refl .refl h fun w ρ1 u H1 O1 fp1 g1 S1 E1 _ _ R1 F1 h => ?_⟩
  refine ob.stm S.tr S1 E1 .refl h fun x ρ2 v H2 O2 fp2 g2 S2 E2 E12 _ R2 F2 h => ?_
  refine oi.stm S.tr S2 E2 .refl h fun y ρ3 v3 H3 O3 fp3 g3 S3 E3 E23 _ R3 F3 h => ?_
  have R1' := (R1.per (ρ1 := ρ2) S1 E12).per (ρ1 := ρ3) S2 E23
  have R2' := R2.per (ρ1 := ρ3) S2 E23
  cases x with
  | al j =>
    simp only [kSe] at h
    split at h
    · rename_i t dv di et ed ei
      split at h
      · rename_i t' eg
        have RW := R1'.rest (O1 := fun a => O3 a ∧ a ∉ g1) ed (fun a q => q.1) (fun a ha q => q.2 ha)
        have S4 := S3.less fun a ha => (R1'.own a ha).2
        have E4 := E3.less S.tr F1
        have hy : ∃ gy, RV c O3 fp3 H3 ρ3 σ y v3 gy := ⟨_, R3⟩
        have pk : Pk c (fun a => O3 a ∧ a ∉ g1) H3 di v3 := (R3.vw S3 ei).less fun a q => q.1
        obtain ⟨f, q1, q2, q3, q4⟩ := S4.mut et R2'.1
        refine hr _ H3 v v3 u t di dv t' f _ q1 q2 q3 pk RW eg fun H' kp tr rt => ?_
        obtain ⟨S5, E5⟩ := q4 H' t' kp tr rt
        exact h σ H' _ fp3 S5 (E4.trans E5 S.tr) .refl
      · exact h.elim
    · exact h.elim
  | _ => exact h.elim
def seL : T → D → D → Option T
  | .lst xs, .int k, d => (ixN xs.length k).map fun j => .lst (xs.set j d)
  | _, _, _ => none
theorem s_seL : SeS c rSetL seL := fun O H x y z t di dv t' f Q rt nd own pk rd e k => by
  unfold seL at e
  split at e
  · obtain ⟨j, e1, e2⟩ := Option.map_eq_some_iff.mp e
    subst e2
    obtain ⟨p, us, rfl, hp, r, ef⟩ := rt
    obtain rfl : y = .int _ := pk
    obtain ⟨h1, h2, h3, h4⟩ := lst_upd (ys := _) (xs := []) ef own (r.upd' j rd)
    exact ⟨p, us, _, j, rfl, rfl, hp, by rw [r.len]; exact e1, k _ h1 h2 h3⟩
  · cases e
end
end Vl

namespace Vl
open PySem PySem.Spec PyProof.Rows L2
section
variable {c : Vc} {X : Cx} {W : WX} {b : Bool} {bor vs : List Nat} {O O1 O2 O' : Addr → Prop} {fp fp1 fp2 fp' : List Addr} {H H1 H2 H' : Hp} {ρ ρ1 ρ2 ρ' : Env} {σ σ1 σ' : L2.St} {k : Nat} {α β : Type}
variable {e elt tg iter : Expr} {es ifs : List Expr} {fe : FE} {ft : FG Bool} {pos : Pos} {gt : FT}
/-! ### the canonical transformers -/
def cnE (c : Vc) (W : WX) (b : Bool) (f : FE) : TE := fun σ H Q => ∃ O fp ρ, SR c O fp H ρ σ ∧ Post (RV c) c W b O fp H σ (f ρ) Q
theorem VE.cn (h : VE c X W b e fe) : PE X e (cnE c W b fe) := by
  obtain ⟨t, p, o⟩ := h
  exact ⟨fun pins s σ H Q I ⟨O, fp, ρ, S, q⟩ => p.run pins s σ H Q I (o O fp H ρ σ Q S q)⟩
def cnT (c : Vc) (W : WX) (b : Bool) (f : FG Bool) : TT := fun σ H Q => ∃ O fp ρ, SR c O fp H ρ σ ∧ Post RB c W b O fp H σ (f ρ) Q
theorem VT.cn (h : VT c X W b e ft) : PT X e (cnT c W b ft) := by
  obtain ⟨t, p, o⟩ := h
  exact ⟨fun pins s σ H Q I ⟨O, fp, ρ, S, q⟩ => p.run pins s σ H Q I (o O fp H ρ σ Q S q)⟩
def cnG (c : Vc) (bor : List Nat) (gt : FT) : TG := fun v σ H Q => ∃ O fp ρ d ρ', SR c O fp H ρ σ ∧ RD c O H d v ∧ gt d ρ = some ρ' ∧ ∀ σ' fp', SR c O fp' H ρ' σ' → (∀ a ∈ fp', a ∈ fp) → Bk bor σ σ' → Q σ' H
theorem VG.cn (h : VG c X bor tg gt) : PG X tg (cnG c bor gt) := by
  obtain ⟨t, p, o⟩ := h
  exact ⟨fun pins s σ H v u Q I r ⟨O, fp, ρ, d, ρ', S, rd, eg, q⟩ => p.run pins s σ H v u Q I r (o O fp H ρ σ d v ρ' Q S rd eg q)⟩
/-- the tests of a comprehension -/
def VTs (c : Vc) (X : Cx) (W : WX) (b : Bool) (ifs : List Expr) (f : FG Bool) : Prop := PTs X ifs (cnT c W b f)
theorem vts_nil : VTs c X W b [] (ret true) := ⟨fun pins s σ H Q I ⟨O, fp, ρ, S, q⟩ => pts_nil.run pins s σ H Q I (q true H O fp [] S .refl (fun _ => .refl) ⟨rfl, rfl⟩ fun _ q => (by cases q))⟩
theorem vts_one (h : VT c X W b e ft) : VTs c X W b [e] ft := pts_one h.cn

/-! ### slots forgotten -/
def wipeE (ρ : Env) : List Nat → Env
  | [] => ρ
  | v :: vs => (wipeE ρ vs).set v none
theorem wipeE_len : ∀ vs : List Nat, (wipeE ρ vs).length = ρ.length
  | [] => rfl
  | v :: vs => by unfold wipeE; rw [List.length_set, wipeE_len vs]
theorem SR.wip (S : SR c O fp H ρ σ) : ∀ {vs : List Nat}, (∀ v ∈ vs, v ∉ c.xs.map (·.i)) → ∃ fp', SR c O fp' H (wipeE ρ vs) (wipe σ vs) ∧ ∀ a ∈ fp', a ∈ fp
  | [], _ => ⟨fp, S, fun _ h => h⟩
  | v :: vs, hx => by
    obtain ⟨fp1, S1, k1⟩ := SR.wip S (vs := vs) fun u hu => hx u (List.mem_cons_of_mem _ hu)
    unfold wipeE wipe
    by_cases hv : v < (wipeE ρ vs).length
    · obtain ⟨fp2, S2, k2⟩ := S1.del (s := none) (hx v List.mem_cons_self) hv
      exact ⟨fp2, S2, fun a ha => k1 a (k2 a ha)⟩
    · have h1 : (wipeE ρ vs).set v none = wipeE ρ vs := List.set_eq_of_length_le (by omega)
      have h2 : (wipe σ vs).set v none = wipe σ vs := List.set_eq_of_length_le (by rw [S1.rs.len]; omega)
      rw [h1, h2]
      exact ⟨fp1, S1, k1⟩
theorem wipeE_mem {v : Nat} : ∀ {vs : List Nat}, v ∈ vs → (wipeE ρ vs)[v]? = none ∨ (wipeE ρ vs)[v]? = some none
  | [], h => by cases h
  | u :: vs, h => by
    unfold wipeE
    by_cases e : u = v
    · subst e
      by_cases hv : u < (wipeE ρ vs).length
      · rw [List.getElem?_set_self hv]; exact .inr rfl
      · exact .inl (List.getElem?_eq_none (by rw [List.length_set]; omega))
    · rw [List.getElem?_set_ne e]
      rcases List.mem_cons.mp h with q | q
      · exact absurd q.symm e
      · exact wipeE_mem q
theorem RS.agree : ∀ {ρ : Env} {σ σ' : L2.St} {fp : List Addr}, RS c O H ρ σ fp → σ'.length = σ.length → (∀ (i : Nat) (t : T), ρ[i]? = some (some t) → σ'[i]? = σ[i]?) → RS c O H ρ σ' fp
  | [], _, σ', _, ⟨e, ef⟩, hl, _ => by subst e; exact ⟨List.length_eq_zero_iff.mp hl, ef⟩
  | none :: ρ, _, σ', _, ⟨s, r, e, h⟩, hl, k => by
    subst e
    cases σ' with
    | nil => cases hl
    | cons s' r' => exact ⟨s', r', rfl, RS.agree h (by simpa using hl) fun i t q => by simpa using k (i + 1) t (by simpa using q)⟩
  | some t :: ρ, _, σ', _, ⟨v, r, f1, f2, e, h, z, ef⟩, hl, k => by
    subst e
    cases σ' with
    | nil => cases hl
    | cons s' r' =>
      have e0 : s' = some v := by simpa using k 0 t rfl
      subst e0
      exact ⟨v, r', f1, f2, rfl, h, RS.agree z (by simpa using hl) (fun i t q => by simpa using k (i + 1) t (by simpa using q)), ef⟩
/-- behind the block: the slots that it forgot are unknown -/
theorem SR.back {σ2 : L2.St} (hx : ∀ v ∈ vs, v ∉ c.xs.map (·.i)) (S : SR c O fp H (wipeE ρ vs) σ2) (e : wipe σ2 vs = wipe σ vs) : SR c O fp H (wipeE ρ vs) σ := by
  have hl : σ.length = σ2.length := by rw [← wipe_length σ vs, ← e, wipe_length]
  refine ⟨S.rs.agree hl fun i t q => ?_, S.nd, S.ow, S.tr, S.tb, fun p hp => ?_⟩
  have ni : i ∉ vs := fun m => by
    rcases wipeE_mem (ρ := ρ) m with z | z
    · rw [z] at q; cases q
    · rw [z] at q; cases q
  rw [← wipe_out (σ := σ) ni, ← e, wipe_out ni]
  have np : p.i ∉ vs := fun m => hx _ m (List.mem_map.mpr ⟨p, hp, rfl⟩)
  refine ⟨?_, (S.px p hp).2⟩
  rw [← wipe_out (σ := σ) np, ← e, wipe_out np]
  exact (S.px p hp).1

/-! ### [elt for tg in iter if ..] -/
/-- one turn: the item made (none: it is left out) -/
def stepC (vs : List Nat) (gt : FT) (ft : FG Bool) (fe : FE) (d : D) (ρ : Env) : Option (Option D × Env) := match gt d ρ with
  | none => none
  | some ρ1 => match ft ρ1 with
    | some (.val true ρ2) => match fe ρ2 with
      | some (.val w ρ3) => (fz w).map fun dv => (some dv, wipeE ρ3 vs)
      | _ => none
    | some (.val false ρ2) => some (none, wipeE ρ2 vs)
    | _ => none
def compD (vs : List Nat) (gt : FT) (ft : FG Bool) (fe : FE) : List D → List D → Env → Option (List D × Env)
  | [], acc, ρ => some (acc, ρ)
  | d :: ds, acc, ρ => match stepC vs gt ft fe d ρ with
    | some (some dv, ρ') => if szL acc.length then compD vs gt ft fe ds (acc ++ [dv]) ρ' else none
    | some (none, ρ') => compD vs gt ft fe ds acc ρ'
    | none => none
def others (n : Nat) (vs : List Nat) : List Nat := (List.range n).filter fun i => !vs.contains i
def kLc (n : Nat) (vs : List Nat) (gt : FT) (ft : FG Bool) (fe : FE) (ds : List D) : FE := fun ρ => if ρ.length ≤ n then match compD vs gt ft fe ds [] (wipeE ρ vs) with
    | some p => some (.val (.nw (.lst p.1)) p.2)
    | none => none
  else none
def vLc (n : Nat) (vs : List Nat) (fi : FG (List D)) (gt : FT) (ft : FG Bool) (fe : FE) : FE := bnd fi (kLc n vs gt ft fe)
def W0 : WX := fun _ _ _ _ => False
theorem takes_blk {s : Shared} {scope : Scope} {cenv : PySem.Env} {fp : List Addr} : Takes (X.blk s H scope cenv fp) W0 := fun u s' ⟨a, B, sI, pins, σ, H, cls, d, e, I, nb, up, sky, na, os, ag, w⟩ => w.elim
theorem upd_stbO {p : Addr} {o : HO} (hp : O p) : Stb O H O (upd H p o) := .of (fun a n _ => upd_ne fun q => n (q ▸ hp)) fun a h => .inl h
theorem wipe_mem {v : Nat} : ∀ {vs : List Nat}, v ∈ vs → v < σ.length → (wipe σ vs)[v]? = some none
  | [], h, _ => by cases h
  | u :: vs, h, hl => by
    unfold wipe
    by_cases e : u = v
    · subst e
      rw [List.getElem?_set_self (by rw [wipe_length]; exact hl)]
    · rw [List.getElem?_set_ne e]
      rcases List.mem_cons.mp h with q | q
      · exact absurd q.symm e
      · exact wipe_mem q hl
theorem wipe_ext {σ2 : L2.St} (hl : σ2.length = σ1.length) (k : ∀ i, i < σ1.length → i ∉ vs → σ2[i]? = σ1[i]?) : wipe σ2 vs = wipe σ1 vs := by
  refine List.ext_getElem? fun i => ?_
  by_cases h : i < σ1.length
  · by_cases m : i ∈ vs
    · rw [wipe_mem m h, wipe_mem m (by omega)]
    · rw [wipe_out m, wipe_out m, k i h m]
  · rw [List.getElem?_eq_none (by rw [wipe_length]; omega), List.getElem?_eq_none (by rw [wipe_length]; omega)]
theorem wipe_wipe : wipe (wipe σ vs) vs = wipe σ vs := wipe_ext (by rw [wipe_length]) fun i _ m => wipe_out m
/-- a tracked thing of one's own, no slot's, is changed -/
theorem SR.updO {D : Addr} {o : HO} {u : HO} (S : SR c O fp H ρ σ) (hO : O D) (hn : D ∉ fp) (e : H D = some u) (hu : isTb u = false) (ho : isTb o = false) : SR c O fp (upd H D o) ρ σ :=
  ⟨S.rs.stb (upd_stbO hO) fun a ha => upd_ne fun q => hn (q ▸ ha), S.nd, S.ow, fun b hb => by
    by_cases z : b = D
    · rw [z]; exact ⟨o, upd_same, ho⟩
    · rw [upd_ne z]; exact S.tr b hb, fun P hP => by
    obtain ⟨ps, e1, e2⟩ := S.tb P hP
    have z : P ≠ D := fun z => by
      rw [z, e] at e1
      cases e1
      cases hu
    exact ⟨ps, by rw [upd_ne z]; exact e1, e2⟩, fun p hp => (S.px p hp).stb (upd_stbO hO)⟩
theorem step_some {d : D} {r : Option D × Env} (h : stepC vs gt ft fe d ρ = some r) : ∃ ρ1 k ρ2, gt d ρ = some ρ1 ∧ ft ρ1 = some (.val k ρ2) ∧ ((k = true ∧ ∃ w ρ3 dv, fe ρ2 = some (.val w ρ3) ∧ fz w = some dv ∧ r = (some dv, wipeE ρ3 vs)) ∨ (k = false ∧ r = (none, wipeE ρ2 vs))) := by
  unfold stepC at h
  split at h
  · cases h
  · rename_i ρ1 e1
    split at h
    · rename_i ρ2 e2
      split at h
      · rename_i w ρ3 e3
        obtain ⟨dv, e4, e5⟩ := Option.map_eq_some_iff.mp h
        exact ⟨ρ1, true, ρ2, e1, e2, .inl ⟨rfl, w, ρ3, dv, e3, e4, e5.symm⟩⟩
      · cases h
    · rename_i ρ2 e2
      cases h
      exact ⟨ρ1, false, ρ2, e1, e2, .inr ⟨rfl, rfl⟩⟩
    · cases h
def lcInv (c : Vc) (vs : List Nat) (gt : FT) (ft : FG Bool) (fe : FE) (σ : L2.St) (fp1 : List Addr) (O1 : Addr → Prop) (H1 : Hp) (D : Addr) (ds : List Vl.D) (p : List Vl.D × Env) (i : Nat) (H' : Hp) : Prop :=
  i ≤ ds.length ∧ ∃ O' fp' ρ0 acc vacc, SR c O' fp' H' (wipeE ρ0 vs) (wipe σ vs) ∧ Ext fp1 O1 H1 fp' O' H' ∧ O' D ∧ D ∉ fp' ∧ H' D = some (.lst vacc) ∧ RDs c O' H' acc vacc ∧ compD vs gt ft fe (ds.drop i) acc (wipeE ρ0 vs) = some p
def GLen (gt : FT) : Prop := ∀ d ρ ρ', gt d ρ = some ρ' → ρ'.length = ρ.length
theorem gLen_n {i : Nat} : GLen (gN i) := fun d ρ ρ' h => by
  unfold gN at h
  split at h
  · cases h; exact List.length_set ..
  · cases h
def GsLen (gt : FTs) : Prop := ∀ d ρ ρ', gt d ρ = some ρ' → ρ'.length = ρ.length
theorem gsLen_n : GsLen gsN := fun d ρ ρ' h => by
  unfold gsN at h
  split at h
  · cases h; rfl
  · cases h
theorem gsLen_c {g : FT} {gs : FTs} (h1 : GLen g) (h2 : GsLen gs) : GsLen (gsC g gs) := fun d ρ ρ' h => by
  unfold gsC at h
  split at h
  · obtain ⟨ρ1, e1, e2⟩ := Option.bind_eq_some_iff.mp h
    exact (h2 _ _ _ e2).trans (h1 _ _ _ e1)
  · cases h
theorem gLen_t {gs : FTs} (h1 : GsLen gs) : GLen (gT gs) := fun d ρ ρ' h => by
  unfold gT at h
  split at h
  · exact h1 _ _ _ h
  · cases h
theorem ok_lc {wi : TI} {fi : FG (List D)} {n : Nat} (hx : ∀ v ∈ vs, v ∉ c.xs.map (·.i)) (hgl : GLen gt) (hi : OkI c W fi wi) : Ok (RV c) c W false (vLc n vs fi gt ft fe) (tLc wi (cnG c (others n vs) gt) (cnT c W0 false ft) (cnE c W0 false fe) vs) := fun O fp H ρ σ Q S h => by
  refine hi O fp H ρ σ _ S ?_
  unfold vLc bnd at h
  revert h
  cases fi ρ with
  | none => exact fun h => h
  | some o =>
    cases o with
    | exc x ρ' => exact fun h => h
    | val ds ρ1 =>
      intro h J H1 O1 fp1 S1 E1 Y D hD
      unfold kLc at h
      by_cases hn : ρ1.length ≤ n
      case neg => simp only [if_neg hn] at h; exact h.elim
      simp only [if_pos hn] at h
      cases ec : compD vs gt ft fe ds [] (wipeE ρ1 vs) with
      | none => simp only [ec] at h; exact h.elim
      | some p =>
        simp only [ec] at h
        have hl : σ.length ≤ n := by rw [S1.rs.len]; exact hn
        have nD : ¬ nT (H1 D) := fun q => q.ne hD
        refine ⟨fun i m H' => m = ds.length - i ∧ lcInv c vs gt ft fe σ fp1 O1 H1 D ds p i H', ⟨_, rfl, Nat.zero_le _, ?_⟩, ?_⟩
        · have S2 := S1.grow (g := [D]) (H' := upd H1 D (.lst [])) (fun b hb => upd_ne fun q => hb (by rw [q]; exact hD)) (fun a ha => by simp at ha; rw [ha]; exact ⟨hD, .of upd_same⟩)
          obtain ⟨fp2, S3, k3⟩ := S2.wip (vs := vs) hx
          have nf : D ∉ fp1 := fun q => nD (S1.tr D (S1.ow D q))
          refine ⟨_, fp2, ρ1, [], [], S3, ⟨fun b hb _ => upd_ne fun q => nD (q ▸ hb), fun b hb => ?_, fun b hb _ => .inl hb, fun b hb => hb.imp id fun q => (by simp at q; rw [q]; exact hD), fun b hb => .inl (k3 b hb)⟩, .inr (by simp), fun q => nf (k3 D q), upd_same, (rfl : ([] : List V) = []), ec⟩
          by_cases z : b = D
          · rw [z, upd_same]; simp
          · rw [upd_ne z]; exact hb
        · rintro i m H' ⟨rfl, hi, O', fp', ρ0, acc, vacc, S', E', oD, nf, eD, rs, ek⟩
          by_cases hlt : i < ds.length
          · have ed := List.getElem?_eq_getElem hlt
            obtain ⟨go, yl⟩ := Y.go O' fp' H' i _ E' S'.ow S'.tr ed
            refine .inr ⟨go, fun H2 => lcInv c vs gt ft fe σ fp1 O1 H1 D ds p (i + 1) H2, fun H2 q => ⟨ds.length - (i + 1), by omega, rfl, q⟩, fun x H3 y => ?_⟩
            obtain ⟨kp, rd⟩ := yl x H3 y
            have S3 : SR c O' fp' H3 (wipeE ρ0 vs) (wipe σ vs) := ⟨S'.rs.stb (.of (fun a _ h => kp a h.ne) fun a h => .inl h) fun a ha => kp a (S'.tr a (S'.ow a ha)).ne, S'.nd, S'.ow, fun b h => by rw [kp b (S'.tr b h).ne]; exact S'.tr b h, fun P hP => by
              obtain ⟨ps, e, k⟩ := S'.tb P hP
              exact ⟨ps, by rw [kp P (by rw [e]; simp)]; exact e, k⟩, fun p hp => (S'.px p hp).stb (.of (fun a _ h => kp a h.ne) fun a h => .inl h)⟩
            have E3 : Ext fp' O' H' fp' O' H3 := ⟨fun b h _ => kp b h.ne, fun b h => by rw [kp b h]; exact h, fun _ h _ => h, fun _ h => .inl h, fun _ h => .inl h⟩
            rw [List.drop_eq_getElem_cons hlt] at ek
            unfold compD at ek
            cases es : stepC vs gt ft fe ds[i] (wipeE ρ0 vs) with
            | none => rw [es] at ek; cases ek
            | some r =>
              rw [es] at ek
              obtain ⟨ρ1', kb, ρ2, e1, e2, e3⟩ := step_some es
              refine ⟨O', fp', _, _, ρ1', S3, rd, e1, fun σ4 fp4 S4 k4 B4 => ⟨?_, O', fp4, ρ1', S4, ?_⟩⟩
              · have l4 : σ4.length = σ.length := by
                  have h1 := S4.rs.len
                  have h2 := S3.rs.len
                  rw [wipe_length] at h2
                  have h3 := hgl _ _ _ e1
                  omega
                rw [← wipe_wipe (σ := σ)]
                refine wipe_ext (by rw [wipe_length]; exact l4) fun j hj m => B4 j ?_
                rw [wipe_length] at hj
                unfold others
                rw [List.mem_filter, List.mem_range]
                exact ⟨by omega, by simpa using m⟩
              · rw [e2]
                intro u H4 O4 fp5 g S5 E5 I5 R5 F5
                obtain ⟨rfl, _⟩ := R5
                have hw4 : wipe σ4 vs = wipe σ vs := by
                  have l4 : σ4.length = σ.length := by
                    have h1 := S4.rs.len
                    have h2 := S3.rs.len
                    rw [wipe_length] at h2
                    have h3 := hgl _ _ _ e1
                    omega
                  rw [← wipe_wipe (σ := σ)]
                  refine wipe_ext (by rw [wipe_length]; exact l4) fun j hj m => B4 j ?_
                  rw [wipe_length] at hj
                  unfold others
                  rw [List.mem_filter, List.mem_range]
                  exact ⟨by omega, by simpa using m⟩
                have E14 : Ext fp1 O1 H1 fp4 O' H3 := E'.trans ⟨E3.kp, E3.th, E3.ok, E3.on, fun a ha => .inl (k4 a ha)⟩ S1.tr
                have E15 := E14.trans E5 S1.tr
                have d3 : H3 D = some (.lst vacc) := (kp D (by rw [eD]; simp)).trans eD
                have nf4 : D ∉ fp4 := fun q => nf (k4 D q)
                have d4 : H4 D = some (.lst vacc) := (E5.kp D (.of d3) nf4).trans d3
                have o4 : O4 D := E5.ok D oD nf4
                have nf5 : D ∉ fp5 := fun q => (E5.fn D q).elim nf4 fun z => by rw [d3] at z; cases z
                have rs3 : RDs c O' H3 acc vacc := rs.stb (E3.stb S'.ow)
                have rs4 : RDs c O4 H4 acc vacc := rs3.stb (E5.stb S4.ow)
                rcases e3 with ⟨rfl, w, ρ3, dv, e4, e5, rfl⟩ | ⟨rfl, rfl⟩
                · rw [if_pos rfl]
                  refine ⟨O4, fp5, ρ2, S5, ?_⟩
                  rw [e4]
                  intro y H6 O6 fp6 g6 S6 E6 _ R6 F6
                  have d6 : H6 D = some (.lst vacc) := (E6.kp D (.of d4) nf5).trans d4
                  have o6 : O6 D := E6.ok D o4 nf5
                  have nf6 : D ∉ fp6 := fun q => (E6.fn D q).elim nf5 fun z => by rw [d4] at z; cases z
                  have ng6 : D ∉ g6 := fun q => (F6 D q).elim (fun z => by rw [d4] at z; cases z) nf5
                  have rs6 : RDs c O6 H6 acc vacc := rs4.stb (E6.stb S5.ow)
                  have RR := R6.rest (O1 := fun a => O6 a ∧ a ∉ g6) e5 (fun a q => q.1) (fun a ha q => q.2 ha)
                  have S7 := S6.less fun a ha => (R6.own a ha).2
                  have E7 := E15.trans (E6.less S5.tr F6) S1.tr
                  have o7 : O6 D ∧ D ∉ g6 := ⟨o6, ng6⟩
                  by_cases hz : szL acc.length = true
                  · simp only [if_pos hz] at ek
                    refine ⟨vacc, d6, by rw [rs.len]; exact szL_ok hz, ?_⟩
                    have S8 := S7.updO (D := D) (o := .lst (vacc ++ [y])) o7 nf6 d6 rfl rfl
                    obtain ⟨fp9, S9, k9⟩ := S8.wip (vs := vs) hx
                    rw [hw4] at S9
                    have st : Stb (fun a => O6 a ∧ a ∉ g6) H6 (fun a => O6 a ∧ a ∉ g6) (upd H6 D (.lst (vacc ++ [y]))) := upd_stbO (O := fun a => O6 a ∧ a ∉ g6) o7
                    have one : RDs c (fun a => O6 a ∧ a ∉ g6) H6 [dv] [y] := ⟨y, [], rfl, RR, (rfl : ([] : List V) = [])⟩
                    refine ⟨hlt, _, fp9, ρ3, acc ++ [dv], vacc ++ [y], S9, ⟨fun b hb n => ?_, fun b hb => ?_, E7.ok, E7.on, fun b hb => E7.fn b (k9 b hb)⟩, o7, fun q => nf6 (k9 D q), upd_same, ((rs6.stb (.less fun a q => q.1)).app one).stb st, ek⟩
                    · have z : b ≠ D := fun z => nD (z ▸ hb)
                      rw [upd_ne z]; exact E7.kp b hb n
                    · by_cases z : b = D
                      · rw [z, upd_same]; simp
                      · rw [upd_ne z]; exact E7.th b hb
                  · simp only [if_neg hz] at ek
                    cases ek
                · rw [if_neg Bool.false_ne_true]
                  obtain ⟨fp9, S9, k9⟩ := S5.wip (vs := vs) hx
                  rw [hw4] at S9
                  exact ⟨hlt, O4, fp9, ρ2, acc, vacc, S9, ⟨E15.kp, E15.th, E15.ok, E15.on, fun b hb => E15.fn b (k9 b hb)⟩, o4, fun q => nf5 (k9 D q), d4, rs4, ek⟩
          · have ei : i = ds.length := by omega
            subst ei
            rw [List.drop_length] at ek
            unfold compD at ek
            cases ek
            refine .inl ⟨Y.stop O' fp' H' E' S'.tr, h (.ref D) H' O' fp' [D] (S'.back hx wipe_wipe) (E1.trans E' S.tr) (fun q => (by cases q)) ⟨⟨D, vacc, rfl, eD, rs, rfl⟩, by simp, fun a ha => ?_⟩ fun a ha => ?_⟩
            · simp at ha; rw [ha]; exact ⟨oD, nf⟩
            · simp at ha; rw [ha]; exact .inl (Classical.byContradiction fun z => E1.th D z hD)
theorem ve_lc {scope : Scope} {own : List (Str × Nat)} {fi : FG (List D)} (n : Nat) (hc : X.calm = true) (hN : X.N.Nodup) (hi : VI c X W tg iter fi) (ok : BlkOk X.N X.env.scope scope own) (hgl : GLen gt)
    (hg : ∀ (s : Shared) (H : Hp) (C : Addr) (cl : List (Str × Addr)) (fp : List Addr), VG c (X.blk s H scope (compEnvC scope cl C X.env) fp) (others n (own.map (·.2))) tg gt)
    (ht : ∀ (s : Shared) (H : Hp) (C : Addr) (cl : List (Str × Addr)) (fp : List Addr), VTs c (X.blk s H scope (compEnvC scope cl C X.env) fp) W0 false ifs ft)
    (he : ∀ (s : Shared) (H : Hp) (C : Addr) (cl : List (Str × Addr)) (fp : List Addr), VE c (X.blk s H scope (compEnvC scope cl C X.env) fp) W0 false elt fe)
    (hxs : ∀ v ∈ own.map (·.2), v ∉ c.xs.map (·.i) := by exact nmAll rfl) (hs : ∀ x, foldedSetIterable iter X.env x = pure x := by intro _; rfl) : VE c X W false (.ListComp elt [⟨tg, iter, ifs, 0⟩] scope pos) (vLc n (own.map (·.2)) fi gt ft fe) := by
  obtain ⟨wi, pi, oi⟩ := hi
  exact ⟨_, pe_lc hc hN pi ok (fun s H C cl fp => (hg s H C cl fp).cn) ht (fun s H C cl fp => (he s H C cl fp).cn) hs, ok_lc hxs hgl oi⟩
/-- name = [..] on one line -/
theorem vs_setLc {i : Nat} {y : Str} {py spos : Pos} {scope : Scope} {own : List (Str × Nat)} {fi : FG (List D)} (n : Nat) (hc : X.calm = true) (hN : X.N.Nodup) (hy : X.N[i]? = some y) (hyl : X.env.scope.names.lookup y = some .local)
    (hsw : swapsWith (.ListComp elt [⟨tg, iter, ifs, 0⟩] scope pos) (some (.Name y py)) spos.line X.env = pure true) (hi : VI c X W tg iter fi) (ok : BlkOk X.N X.env.scope scope own) (hgl : GLen gt)
    (hg : ∀ (s : Shared) (H : Hp) (C : Addr) (cl : List (Str × Addr)) (fp : List Addr), VG c (X.blk s H scope (compEnvC scope cl C X.env) fp) (others n (own.map (·.2))) tg gt)
    (ht : ∀ (s : Shared) (H : Hp) (C : Addr) (cl : List (Str × Addr)) (fp : List Addr), VTs c (X.blk s H scope (compEnvC scope cl C X.env) fp) W0 false ifs ft)
    (he : ∀ (s : Shared) (H : Hp) (C : Addr) (cl : List (Str × Addr)) (fp : List Addr), VE c (X.blk s H scope (compEnvC scope cl C X.env) fp) W0 false elt fe)
    (hb : i ∉ bor := by decide) (hxi : i ∉ c.xs.map (·.i) := by exact nmIn rfl) (hxs : ∀ v ∈ own.map (·.2), v ∉ c.xs.map (·.i) := by exact nmAll rfl) (hs : ∀ x, foldedSetIterable iter X.env x = pure x := by intro _; rfl) : VS c X W bor (.Assign [.Name y py] (.ListComp elt [⟨tg, iter, ifs, 0⟩] scope pos) spos) (sSet i (vLc n (own.map (·.2)) fi gt ft fe)) := by
  obtain ⟨wi, pi, oi⟩ := hi
  refine ⟨_, ps_setLc hc hN hy hyl hsw pi ok (fun s H C cl fp => (hg s H C cl fp).cn) ht (fun s H C cl fp => (he s H C cl fp).cn) hs, fun O fp H ρ σ D S h => (ok_lc hxs hgl oi).stm S.tr S .refl .refl h fun x ρ1 u H1 O1 fp1 g1 S1 E1 _ _ R1 F1 h1 => ?_⟩
  exact kSet_ok hb hxi h1 S1 E1 R1 F1
end
end Vl

namespace Vl
open PySem PySem.Spec PyProof.Rows L2
section
variable {c : Vc} {X : Cx} {W : WX} {b : Bool} {bor vs : List Nat} {O O1 O2 O' : Addr → Prop} {fp fp1 fp2 fp' fa fq : List Addr} {H H1 H2 H' : Hp} {ρ ρ1 ρ2 ρ' : Env} {σ σ1 σ' : L2.St} {k n : Nat} {α β : Type}
variable {e o : Expr} {es : List Expr} {fo : FE} {fs : FG (List Val)} {pos apos p : Pos} {F : FF} {f C : Addr} {fd : FuncData} {ps : List Str} {x m : Str}
/-! ### arguments lent -/
def RA (c : Vc) (O : Addr → Prop) (H : Hp) (σ : L2.St) : List Val → List V → Prop
  | [], us => us = []
  | w :: ws, us => ∃ u r, us = u :: r ∧ (match w with
    | .fr d => RD c O H d u
    | .nw t => RD c O H t.toD u
    | .al i => σ[i]? = some (some u)) ∧ RA c O H σ ws r
theorem RVs.ra {O2 : Addr → Prop} : ∀ {ws : List Val} {us : List V} {g : List Addr}, RVs c O fp H ρ σ ws us g → (∀ a, O2 a → O a) → (∀ a ∈ g, ¬ O2 a) → RA c O2 H σ ws us
  | [], _, _, h, _, _ => h.1
  | w :: ws, _, _, ⟨u, r, g1, g2, e, h, t, eg, _⟩, hO, hg => by
    refine ⟨u, r, e, ?_, RVs.ra t hO fun a ha => hg a (by rw [eg]; simp [ha])⟩
    cases w with
    | fr d => exact h.1.stb (.less hO)
    | nw t => exact h.1.rest hO fun a ha => hg a (by rw [eg]; simp [ha])
    | al i => exact h.1
def takeA (ρ : Env) : List Val → Option (List T × Env)
  | [] => some ([], ρ)
  | .fr d :: ws => (takeA ρ ws).map fun q => (.fr d :: q.1, q.2)
  | .nw t :: ws => (takeA ρ ws).map fun q => (.fr t.toD :: q.1, q.2)
  | .al i :: ws => match ρ[i]? with
    | some (some t) => (takeA (ρ.set i none) ws).map fun q => (t :: q.1, q.2)
    | _ => none
def giveA : Env → List Val → List T → Env
  | ρ, .al i :: ws, t :: ts => giveA (ρ.set i (some t)) ws ts
  | ρ, .fr _ :: ws, _ :: ts => giveA ρ ws ts
  | ρ, .nw _ :: ws, _ :: ts => giveA ρ ws ts
  | ρ, _, _ => ρ
theorem take_ok : ∀ {ws : List Val} {us : List V} {ts : List T} {fp : List Addr} {ρ ρ1 : Env}, SR c O fp H ρ σ → RA c O H σ ws us → takeA ρ ws = some (ts, ρ1) →
    ∃ fa fq, RTs c O H ts us fa ∧ SR c O fq H ρ1 σ ∧ fa.Nodup ∧ (∀ a ∈ fa, a ∈ fp ∧ a ∉ fq) ∧ ∀ a ∈ fq, a ∈ fp
  | [], us, ts, fp, ρ, ρ1, S, r, e => by
    cases e
    exact ⟨[], fp, ⟨r, rfl⟩, S, .nil, fun a ha => (by cases ha), fun a ha => ha⟩
  | .fr d :: ws, us, ts, fp, ρ, ρ1, S, ⟨u, r, eu, h, t⟩, e => by
    unfold takeA at e
    obtain ⟨q, e1, e2⟩ := Option.map_eq_some_iff.mp e
    obtain ⟨fa, fq, h1, h2, h3, h4, h5⟩ := take_ok S t (show takeA ρ ws = some (q.1, q.2) from e1)
    cases e2
    exact ⟨fa, fq, ⟨u, r, [], fa, eu, ⟨h, rfl⟩, h1, rfl⟩, h2, h3, h4, h5⟩
  | .nw d :: ws, us, ts, fp, ρ, ρ1, S, ⟨u, r, eu, h, t⟩, e => by
    unfold takeA at e
    obtain ⟨q, e1, e2⟩ := Option.map_eq_some_iff.mp e
    obtain ⟨fa, fq, h1, h2, h3, h4, h5⟩ := take_ok S t (show takeA ρ ws = some (q.1, q.2) from e1)
    cases e2
    exact ⟨fa, fq, ⟨u, r, [], fa, eu, ⟨h, rfl⟩, h1, rfl⟩, h2, h3, h4, h5⟩
  | .al i :: ws, us, ts, fp, ρ, ρ1, S, ⟨u, r, eu, h, t⟩, e => by
    unfold takeA at e
    split at e
    · rename_i t0 et
      obtain ⟨q, e1, e2⟩ := Option.map_eq_some_iff.mp e
      obtain ⟨v, f1, fl, fr, g1, g2, g3, _, g5⟩ := S.rs.get et
      have h : σ[i]? = some (some u) := h
      rw [h] at g1
      obtain rfl : u = v := by simpa using g1
      have RS' := g5 (O' := O) (H' := H) (s' := some u) (.less fun a q => q) fun _ _ => rfl
      rw [set_same h] at RS'
      have nd := S.nd
      rw [g3] at nd
      have dj : ∀ a ∈ fl ++ fr, a ∉ f1 := by
        simp only [List.nodup_append, List.mem_append] at nd ⊢
        rintro a (ha | ha) hf
        · exact nd.1.2.2 a ha a hf rfl
        · exact nd.2.2 a (.inr hf) a ha rfl
      have n1 : f1.Nodup := by
        simp only [List.nodup_append] at nd
        exact nd.1.2.1
      have sub : ∀ a ∈ fl ++ fr, a ∈ fp := fun a ha => by
        rw [g3]
        simp only [List.mem_append] at ha ⊢
        rcases ha with ha | ha <;> simp [ha]
      have S2 : SR c O (fl ++ fr) H (ρ.set i none) σ := ⟨RS', nodup_less nd, fun a ha => S.ow a (sub a ha), S.tr, S.tb, S.px⟩
      obtain ⟨fa, fq, h1, h2, h3, h4, h5⟩ := take_ok S2 t (show takeA (ρ.set i none) ws = some (q.1, q.2) from e1)
      cases e2
      refine ⟨f1 ++ fa, fq, ⟨u, r, f1, fa, eu, g2, h1, rfl⟩, h2, List.nodup_append.mpr ⟨n1, h3, fun a ha b hb e => dj b (h4 b hb).1 (e ▸ ha)⟩, fun a ha => ?_, fun a ha => sub a (h5 a ha)⟩
      rcases List.mem_append.mp ha with z | z
      · exact ⟨by rw [g3]; simp [z], fun q => dj a (h5 a q) z⟩
      · exact ⟨sub a (h4 a z).1, (h4 a z).2⟩
    · cases e
theorem take_len : ∀ {ws : List Val} {ts : List T} {ρ ρ1 : Env}, takeA ρ ws = some (ts, ρ1) → ρ1.length = ρ.length ∧ ∀ i, Val.al i ∈ ws → i < ρ.length
  | [], ts, ρ, ρ1, e => by
    cases e
    exact ⟨rfl, fun i h => (by cases h)⟩
  | .fr d :: ws, ts, ρ, ρ1, e => by
    unfold takeA at e
    obtain ⟨q, e1, e2⟩ := Option.map_eq_some_iff.mp e
    cases e2
    obtain ⟨h1, h2⟩ := take_len (show takeA ρ ws = some (q.1, q.2) from e1)
    exact ⟨h1, fun i h => h2 i (by simpa using h)⟩
  | .nw d :: ws, ts, ρ, ρ1, e => by
    unfold takeA at e
    obtain ⟨q, e1, e2⟩ := Option.map_eq_some_iff.mp e
    cases e2
    obtain ⟨h1, h2⟩ := take_len (show takeA ρ ws = some (q.1, q.2) from e1)
    exact ⟨h1, fun i h => h2 i (by simpa using h)⟩
  | .al j :: ws, ts, ρ, ρ1, e => by
    unfold takeA at e
    split at e
    · rename_i t0 et
      obtain ⟨q, e1, e2⟩ := Option.map_eq_some_iff.mp e
      cases e2
      obtain ⟨h1, h2⟩ := take_len (show takeA (ρ.set j none) ws = some (q.1, q.2) from e1)
      rw [List.length_set] at h1 h2
      refine ⟨h1, fun i h => ?_⟩
      rcases List.mem_cons.mp h with z | z
      · cases z; exact (List.getElem?_eq_some_iff.mp et).1
      · exact h2 i z
    · cases e
theorem give_ok : ∀ {ws : List Val} {us : List V} {ts : List T} {fq fa : List Addr} {ρ : Env}, SR c O fq H ρ σ → RA c O1 H1 σ ws us → RTs c O H ts us fa → fa.Nodup → (∀ a ∈ fa, O a ∧ a ∉ fq) → (∀ i, Val.al i ∈ ws → i < ρ.length) →
    ∃ fp', SR c O fp' H (giveA ρ ws ts) σ ∧ ∀ a ∈ fp', a ∈ fq ∨ a ∈ fa
  | [], us, ts, fq, fa, ρ, S, _, r, _, _, _ => ⟨fq, S, fun a ha => .inl ha⟩
  | w :: ws, us, [], fq, fa, ρ, S, _, r, _, _, _ => ⟨fq, by cases w <;> exact S, fun a ha => .inl ha⟩
  | .fr d :: ws, us, t :: ts, fq, fa, ρ, S, ⟨u, r, eu, _, ra⟩, ⟨u', r', f1, f2, eu', h1, h2, ef⟩, nd, ow, li => by
    rw [eu] at eu'
    cases eu'
    obtain ⟨fp', q1, q2⟩ := give_ok S ra h2 (by rw [ef] at nd; exact (List.nodup_append.mp nd).2.1) (fun a ha => ow a (by rw [ef]; simp [ha])) (fun i h => li i (by simp [h]))
    exact ⟨fp', q1, fun a ha => (q2 a ha).imp id fun z => by rw [ef]; simp [z]⟩
  | .nw d :: ws, us, t :: ts, fq, fa, ρ, S, ⟨u, r, eu, _, ra⟩, ⟨u', r', f1, f2, eu', h1, h2, ef⟩, nd, ow, li => by
    rw [eu] at eu'
    cases eu'
    obtain ⟨fp', q1, q2⟩ := give_ok S ra h2 (by rw [ef] at nd; exact (List.nodup_append.mp nd).2.1) (fun a ha => ow a (by rw [ef]; simp [ha])) (fun i h => li i (by simp [h]))
    exact ⟨fp', q1, fun a ha => (q2 a ha).imp id fun z => by rw [ef]; simp [z]⟩
  | .al i :: ws, us, t :: ts, fq, fa, ρ, S, ⟨u, r, eu, hu, ra⟩, ⟨u', r', f1, f2, eu', h1, h2, ef⟩, nd, ow, li => by
    rw [eu] at eu'
    cases eu'
    have hu : σ[i]? = some (some u) := hu
    rw [ef] at nd
    obtain ⟨n1, n2, n3⟩ := List.nodup_append.mp nd
    obtain ⟨fp1, S1, k1⟩ := S.put (i := i) (.inr hu) (li i (by simp)) h1 n1 (fun a ha => ow a (by rw [ef]; simp [ha]))
    rw [set_same hu] at S1
    obtain ⟨fp', q1, q2⟩ := give_ok S1 ra h2 n2 (fun a ha => ⟨(ow a (by rw [ef]; simp [ha])).1, fun z => (k1 a z).elim (ow a (by rw [ef]; simp [ha])).2 fun z => n3 a z a ha rfl⟩) (fun i h => by rw [List.length_set]; exact li i (by simp [h]))
    refine ⟨fp', q1, fun a ha => ?_⟩
    rcases q2 a ha with z | z
    · exact (k1 a z).imp id fun z => by rw [ef]; simp [z]
    · exact .inr (by rw [ef]; simp [z])
/-- behind a callee that was lent fa -/
theorem lent_back {ws : List Val} {us : List V} {ts' : List T} (S : SR c O1 fp1 H1 ρ1 σ) (li : ∀ i, Val.al i ∈ ws → i < ρ'.length) (ra : RA c O1 H1 σ ws us) (Sq : SR c O1 fq H1 ρ' σ) (dj : ∀ a ∈ fa, a ∈ fp1 ∧ a ∉ fq) (sub : ∀ a ∈ fq, a ∈ fp1)
    (r : RTs c O' H' ts' us fp') (nd : fp'.Nodup) (ow : ∀ b ∈ fp', O' b) (tr : ∀ b, O' b → nT (H' b)) (tb : Tabs c H') (E : Ext fa O1 H1 fp' O' H') :
    ∃ fp2, SR c O' fp2 H' (giveA ρ' ws ts') σ ∧ Ext fp1 O1 H1 fp2 O' H' ∧ (∀ a ∈ fp2, a ∈ fq ∨ a ∈ fp') := by
  have nfa : ∀ a ∈ fq, a ∉ fa := fun a ha q => (dj a q).2 ha
  have S2 : SR c O' fq H' ρ' σ := ⟨Sq.rs.stb (E.stb fun a ha => S.ow a (dj a ha).1) fun a ha => E.kp a (Sq.tr a (Sq.ow a ha)) (nfa a ha), Sq.nd, fun a ha => E.ok a (Sq.ow a ha) (nfa a ha), tr, tb, fun p hp => (Sq.px p hp).stb (E.stb fun a ha => S.ow a (dj a ha).1)⟩
  obtain ⟨fp2, S3, k3⟩ := give_ok S2 ra r nd (fun a ha => ⟨ow a ha, fun q => (E.fn a ha).elim (nfa a q) (Sq.tr a (Sq.ow a q)).ne⟩) li
  refine ⟨fp2, S3, ⟨fun b h n => E.kp b h fun q => n (dj b q).1, E.th, fun b h n => E.ok b h fun q => n (dj b q).1, E.on, fun a ha => ?_⟩, k3⟩
  rcases k3 a ha with q | q
  · exact .inl (sub a q)
  · exact (E.fn a q).imp (fun z => (dj a z).1) id
def kCallB (F : FF) (ws : List Val) : FE := fun ρ => match takeA ρ ws with
  | some (ts, ρ1) => match F ts with
    | some (.ret w ts') => some (.val (toVal w) (giveA ρ1 ws ts'))
    | some (.exc x ts') => some (.exc x (giveA ρ1 ws ts'))
    | none => none
  | none => none
theorem Post.callG {Q : V → Hp → Prop} {ws : List Val} {us : List V} {g1 : List Addr} (hn : us.length = n) (S0 : ∀ b, O b → nT (H b)) (S : SR c O1 fp1 H1 ρ1 σ) (E : Ext fp O H fp1 O1 H1) (rx : RVs c O1 fp1 H1 ρ1 σ ws us g1) (F1 : Fr g1 fp H)
    (h : Post (RV c) c W false O fp H σ (kCallB F ws ρ1) Q) : spV c n F us H1 Q (WE W σ) := by
  unfold kCallB at h
  cases et : takeA ρ1 ws with
  | none => simp only [et] at h; exact h.elim
  | some q =>
    obtain ⟨ts, ρ2⟩ := q
    simp only [et] at h
    have ra := rx.ra (O2 := fun a => O1 a ∧ a ∉ g1) (fun a q => q.1) (fun a ha q => q.2 ha)
    have S2 := S.less fun a ha => (rx.own a ha).2
    have E2 := E.less S0 F1
    obtain ⟨fa, fq, t1, t2, t3, t4, t5⟩ := take_ok S2 ra et
    obtain ⟨l1, l2⟩ := take_len et
    have li : ∀ i, Val.al i ∈ ws → i < ρ2.length := fun i h => by rw [l1]; exact l2 i h
    refine ⟨hn, _, fa, ts, t1, t3, fun a ha => S2.ow a (t4 a ha).1, S2.tr, S2.tb, ?_⟩
    cases ea : F ts with
    | none => simp only [ea] at h; exact h.elim
    | some a =>
      cases a with
      | ret w ts' =>
        simp only [ea] at h
        intro u H' O' fp' g r nd ow tr tb Eq R' Fg
        obtain ⟨nd1, nd2, nd3⟩ := List.nodup_append.mp nd
        obtain ⟨fp3, S3, E3, k3⟩ := lent_back S2 li ra t2 t4 t5 r nd1 (fun b hb => ow b (by simp [hb])) tr tb Eq
        refine h u H' O' fp3 g S3 (E2.trans E3 S0) (fun q => (by cases q)) (R'.val nd2 fun b hb => ⟨ow b (by simp [hb]), fun q => ?_⟩) (fresh_of E2 fun a ha => (Fg a ha).imp id fun z => (t4 a z).1)
        rcases k3 b q with z | z
        · rcases Fg b hb with y | y
          · exact (t2.tr b (t2.ow b z)).ne y
          · exact (t4 b y).2 z
        · exact nd3 b z b hb rfl
      | exc x ts' =>
        simp only [ea] at h
        intro cls d H' O' fp' r nd ow tr tb Eq R'
        obtain ⟨fp3, S3, E3, k3⟩ := lent_back S2 li ra t2 t4 t5 r nd ow tr tb Eq
        exact h cls d H' O' fp3 S3 (E2.trans E3 S0) R'
def vCallG (n : Nat) (F : FF) (fs : FG (List Val)) : FE := bnd fs fun ws => if ws.length = n then kCallB F ws else fun _ => none
theorem ve_callG (Fk : FnOk X.prog X.w X.K X.mg X.base (L2.CX X.prog X.w) k f fd ps (spV c.toVb n F)) (hr : Room k X.A) (hg : Gl X x) (hm : X.mg x = some (.ref f)) (hk : PySem.W.keepIn X.K (.ref f) = true) (hb : Binds X.K fd ps []) (tk : Takes X W)
    (ha : VA c X W false (e :: es) fs) (hdb : (x == ("__debug__" : Str)) = false := by decide) (he : starEach (e :: es) X.env = (false, eval e X.env) :: starEach es X.env := by rfl) (hpl : (backTo pos (starEach es X.env)).any (·.1) = false := by rfl) :
    VE c X W false (.Call (.Name x p) (e :: es) [] pos) (vCallG n F fs) := by
  obtain ⟨ts, ps', os⟩ := ha
  refine ⟨_, pe_callS Fk hr hg hm hk hb (fun σ => passAt tk σ) ps' hdb he hpl, fun O fp H ρ σ Q S h => os.thn S.tr S .refl (fun _ => .refl) h (fun q => q) fun ws ρ1 us H1 O1 fp1 g1 _ S1 E1 _ I1 R1 F1 h1 => ?_⟩
  obtain ⟨hl, h2⟩ := ite_len h1
  exact Post.callG (R1.len.trans hl) S.tr S1 E1 R1 F1 h2
/-- the class of a receiver -/
def isObjB (nm m : Str) (x : Val) (ρ : Env) : Bool := match x with
  | .fr (.obj n fs) => decide (n = nm) && (fs.lookup m).isNone
  | .nw (.obj n fs) => decide (n = nm) && (fs.lookup m).isNone
  | .al i => match ρ[i]? with
    | some (some (.obj n fs)) => decide (n = nm) && (fs.lookup m).isNone
    | _ => false
  | _ => false
theorem RTf.look : ∀ {fs : List (Str × T)} {vs : List (Str × V)} {fq : List Addr} {n : Str}, RTf c O H fs vs fq → fs.lookup n = none → vs.lookup n = none
  | [], _, _, n, h, _ => by rw [h.1]; rfl
  | (k, d) :: fs, _, _, n, ⟨v, r, f1, f2, e, h, t, _⟩, q => by
    subst e
    simp only [List.lookup] at q ⊢
    cases z : n == k with
    | true => rw [z] at q; cases q
    | false => rw [z] at q; exact RTf.look t q
theorem isObjB_ok {nm : Str} {w : Val} {u : V} {g : List Addr} (h : isObjB nm m w ρ = true) (R : RV c O fp H ρ σ w u g) (S : SR c O fp H ρ σ) : ∃ a dx fs, u = .ref a ∧ H a = some (.ins (c.cl nm) dx fs) ∧ fs.lookup m = none := by
  unfold isObjB at h
  split at h
  · rw [Bool.and_eq_true] at h
    obtain rfl := of_decide_eq_true h.1
    obtain ⟨a, dx, vs, eu, ho, rf⟩ := R.1
    exact ⟨a, dx, vs, eu, ho.1, rf.look.2 (by simpa using h.2)⟩
  · rw [Bool.and_eq_true] at h
    obtain rfl := of_decide_eq_true h.1
    obtain ⟨a, dx, vs, fq, eu, ho, rf, _⟩ := R.1
    exact ⟨a, dx, vs, eu, ho, rf.look (by simpa using h.2)⟩
  · split at h
    · rename_i q
      rw [Bool.and_eq_true] at h
      obtain rfl := of_decide_eq_true h.1
      obtain ⟨v, f, fl, fr, h1, h2, _⟩ := S.rs.get q
      rw [R.1] at h1
      cases h1
      obtain ⟨a, dx, vs, fq, eu, ho, rf, _⟩ := h2
      exact ⟨a, dx, vs, eu, ho, rf.look (by simpa using h.2)⟩
    · cases h
  · cases h
def vMethG (nm m : Str) (n : Nat) (F : FF) (fo : FE) (fs : FG (List Val)) : FE := bnd fo fun x ρ => if isObjB nm m x ρ then bnd fs (fun ws => if (x :: ws).length = n then kCallB F (x :: ws) else fun _ => none) ρ else none
theorem ve_methG {nm : Str} {pl : Sem Bool} (hK : X.K = c.K) (ho : VE c X W false o fo) (cl : Cls c.K (c.cl nm)) (hm : Meth c.K (c.cl nm) m f) (Fk : FnOk X.prog X.w X.K X.mg X.base (L2.CX X.prog X.w) k f fd ps (spV c.toVb n F)) (hr : Room k X.A) (hb : Binds X.K fd ps []) (tk : Takes X W)
    (ha : VA c X W false (e :: es) fs) (hst : starEach (e :: es) X.env = (false, eval e X.env) :: starEach es X.env := by rfl) (hpl : (backTo pos (starEach es X.env)).any (·.1) = false := by rfl)
    (ht : eval (.Call (.Attribute o m apos) (e :: es) [] pos) X.env = (do
      let ov ← eval o X.env
      standAt apos.atName
      let (f, first) ← holding [ov] (getMethod ov m pl)
      callWith pos f first (backTo pos (starEach (e :: es) X.env)) (backToKw pos (keywordEach [] X.env))) := by rfl) :
    VE c X W false (.Call (.Attribute o m apos) (e :: es) [] pos) (vMethG nm m n F fo fs) := by
  obtain ⟨to, po, oo⟩ := ho
  obtain ⟨ts, ps', os⟩ := ha
  refine ⟨_, pe_methS po (by rw [hK]; exact cl) (by rw [hK]; exact hm) Fk hr hb (fun σ => passAt tk σ) ps' hst hpl ht, fun O fp H ρ σ Q S h => oo.thn S.tr S .refl (fun _ => .refl) h (fun q => q) fun w ρ1 u H1 O1 fp1 g1 _ S1 E1 _ I1 R1 F1 h1 => ?_⟩
  by_cases hi : isObjB nm m w ρ1 = true
  · simp only [if_pos hi] at h1
    obtain ⟨a, dx, vs, eu, hob, hl⟩ := isObjB_ok hi R1 S1
    refine ⟨a, dx, vs, eu, hob, hl, os.thn S.tr S1 E1 I1 h1 (fun q => q) fun ws ρ2 us H2 O2 fp2 g2 _ S2 E2 E12 I2 R2 F2 h2 => ?_⟩
    obtain ⟨hl, h2⟩ := ite_len (ws := w :: ws) h2
    refine Post.callG (ws := w :: ws) (g1 := g1 ++ g2) (by rw [← hl]; simp [R2.len]) S.tr S2 E2 ⟨u, us, g1, g2, rfl, R1.per S1 E12, R2, rfl, fun a h1 h2 => (F2 a h2).elim (R1.trk a h1).ne (R1.own a h1).2⟩ (fun a ha => ?_) h2
    rcases List.mem_append.mp ha with q | q
    · exact F1 a q
    · exact fresh_of E1 F2 a q
  · simp only [if_neg hi] at h1
    exact h1.elim
theorem ve_methG0 {nm : Str} {pl : Sem Bool} (hK : X.K = c.K) (ho : VE c X W false o fo) (cl : Cls c.K (c.cl nm)) (hm : Meth c.K (c.cl nm) m f) (Fk : FnOk X.prog X.w X.K X.mg X.base (L2.CX X.prog X.w) k f fd ps (spV c.toVb n F)) (hr : Room k X.A) (hb : Binds X.K fd ps []) (tk : Takes X W)
    (ht : eval (.Call (.Attribute o m apos) [] [] pos) X.env = (do
      let ov ← eval o X.env
      standAt apos.atName
      let (f, first) ← holding [ov] (getMethod ov m pl)
      callWith pos f first (backTo pos (starEach [] X.env)) (backToKw pos (keywordEach [] X.env))) := by rfl) :
    VE c X W false (.Call (.Attribute o m apos) [] [] pos) (vMethG nm m n F fo vNil) := by
  obtain ⟨to, po, oo⟩ := ho
  refine ⟨_, pe_methS0 po (by rw [hK]; exact cl) (by rw [hK]; exact hm) Fk hr hb (fun σ => passAt tk σ) ht, fun O fp H ρ σ Q S h => oo.thn S.tr S .refl (fun _ => .refl) h (fun q => q) fun w ρ1 u H1 O1 fp1 g1 _ S1 E1 _ I1 R1 F1 h1 => ?_⟩
  by_cases hi : isObjB nm m w ρ1 = true
  · simp only [if_pos hi] at h1
    obtain ⟨a, dx, vs, eu, hob, hl⟩ := isObjB_ok hi R1 S1
    refine ⟨a, dx, vs, eu, hob, hl, ?_⟩
    have h1 : Post (RV c) c W false O fp H σ ((if ([w] : List Val).length = n then kCallB F [w] else fun _ => none) ρ1) Q := h1
    obtain ⟨hl, h2⟩ := ite_len (ws := [w]) h1
    exact Post.callG (ws := [w]) (g1 := g1 ++ []) (by rw [← hl]; simp) S.tr S1 E1 ⟨u, [], g1, [], rfl, R1, ⟨rfl, rfl⟩, rfl, fun a _ q => (by cases q)⟩ (by simpa using F1) h2
  · simp only [if_neg hi] at h1
    exact h1.elim
/-- C(..), what is passed may be lent -/
def kMakeB (nm : Str) (F : FF) (ws : List Val) : FE := fun ρ => match takeA ρ ws with
  | some (ts, ρ1) => match F (.obj nm [] :: ts) with
    | some (.ret (.fr .non) (t :: ts')) => if t.isOwn then some (.val (.nw t) (giveA ρ1 ws ts')) else none
    | some (.exc x (_ :: ts')) => some (.exc x (giveA ρ1 ws ts'))
    | _ => none
  | none => none
def vMakeG (nm : Str) (n : Nat) (F : FF) (fs : FG (List Val)) : FE := bnd fs fun ws => if ws.length + 1 = n then kMakeB nm F ws else fun _ => none
theorem ve_makeG {nm : Str} (hK : X.K = c.K) (M : Mk c.K (c.cl nm) f) (Fk : FnOk X.prog X.w X.K X.mg X.base (L2.CX X.prog X.w) k f fd ps (spV c.toVb n F)) (hr : Room (k + 1) X.A) (hg : Gl X x) (hm : X.mg x = some (.ref (c.cl nm))) (hb : Binds X.K fd ps []) (tk : Takes X W)
    (ha : VA c X W false (e :: es) fs) (hdb : (x == ("__debug__" : Str)) = false := by decide) (he : starEach (e :: es) X.env = (false, eval e X.env) :: starEach es X.env := by rfl) (hpl : (backTo pos (starEach es X.env)).any (·.1) = false := by rfl) :
    VE c X W false (.Call (.Name x p) (e :: es) [] pos) (vMakeG nm n F fs) := by
  obtain ⟨ts, ps', os⟩ := ha
  refine ⟨_, pe_makeS (by rw [hK]; exact M) Fk hr hg hm hb (fun σ => passAt tk σ) ps' hdb he hpl, fun O fp H ρ σ Q S h => os.thn S.tr S .refl (fun _ => .refl) h (fun q => q) fun ws ρ1 us H1 O1 fp1 g1 _ S1 E1 _ I1 R1 F1 h1 => ?_⟩
  by_cases hl : ws.length + 1 = n
  case neg => simp only [if_neg hl] at h1; exact h1.elim
  simp only [if_pos hl] at h1
  intro y dx hy hdx ne
  have kp2 : ∀ a, H1 a ≠ none → upd (upd H1 dx (.own y)) y (.ins (c.cl nm) dx []) a = H1 a := fun a h => by rw [upd_ne (fun q => h (by rw [q]; exact hy)), upd_ne (fun q => h (by rw [q]; exact hdx))]
  have hy2 : upd (upd H1 dx (.own y)) y (.ins (c.cl nm) dx []) y = some (.ins (c.cl nm) dx []) := upd_same
  generalize upd (upd H1 dx (.own y)) y (.ins (c.cl nm) dx []) = H2 at kp2 hy2
  unfold kMakeB at h1
  cases et : takeA ρ1 ws with
  | none => simp only [et] at h1; exact h1.elim
  | some q =>
    obtain ⟨ts, ρ2⟩ := q
    simp only [et] at h1
    have S2 := S1.less fun a ha => (R1.own a ha).2
    have E2 := E1.less S.tr F1
    have ra := R1.ra (O2 := fun a => O1 a ∧ a ∉ g1) (fun a q => q.1) (fun a ha q => q.2 ha)
    have st : Stb (fun a => O1 a ∧ a ∉ g1) H1 (fun a => (O1 a ∧ a ∉ g1) ∨ a = y) H2 := .of (fun a _ h => kp2 a h.ne) fun a h => h.imp id fun q => by rw [q]; exact hy
    have raY : ∀ {ws : List Val} {us : List V}, RA c (fun a => O1 a ∧ a ∉ g1) H1 σ ws us → RA c (fun a => (O1 a ∧ a ∉ g1) ∨ a = y) H2 σ ws us := by
      intro ws
      induction ws with
      | nil => exact fun h => h
      | cons w ws ih =>
        rintro us ⟨u, r, e, h, t⟩
        refine ⟨u, r, e, ?_, ih t⟩
        cases w with
        | fr d => exact h.stb st
        | nw t => exact h.stb st
        | al i => exact h
    have S3 : SR c (fun a => (O1 a ∧ a ∉ g1) ∨ a = y) fp1 H2 ρ1 σ := ⟨S2.rs.stb st fun a ha => kp2 a (S2.tr a (S2.ow a ha)).ne, S2.nd, fun a ha => .inl (S2.ow a ha), fun a h => h.elim (fun q => by rw [kp2 a (S2.tr a q).ne]; exact S2.tr a q) fun q => by rw [q]; exact .of hy2, fun P hP => by
        obtain ⟨ps, e, k⟩ := S2.tb P hP
        exact ⟨ps, by rw [kp2 P (by rw [e]; simp)]; exact e, k⟩, fun p hp => (S2.px p hp).stb st⟩
    have E3 : Ext fp1 (fun a => O1 a ∧ a ∉ g1) H1 fp1 (fun a => (O1 a ∧ a ∉ g1) ∨ a = y) H2 := ⟨fun a h _ => kp2 a h.ne, fun a h => by rw [kp2 a h]; exact h, fun a h _ => .inl h, fun a h => h.imp id fun q => by rw [q]; exact hy, fun a h => .inl h⟩
    have E13 := E2.trans E3 S.tr
    have ra3 := raY ra
    obtain ⟨fa, fq, t1, t2, t3, t4, t5⟩ := take_ok S3 ra3 et
    obtain ⟨l1, l2⟩ := take_len et
    have li : ∀ i, Val.al i ∈ ws → i < ρ2.length := fun i h => by rw [l1]; exact l2 i h
    have ny : ∀ a, H1 a ≠ none → a ≠ y := fun a h q => h (by rw [q]; exact hy)
    have yfp : y ∉ fp1 := fun q => (S1.tr y (S1.ow y q)).ne hy
    have yfa : y ∉ fa := fun q => yfp (t4 y q).1
    have yfq : y ∉ fq := fun q => yfp (t5 y q)
    refine ⟨by rw [← hl]; simp [R1.len], fun a => (O1 a ∧ a ∉ g1) ∨ a = y, y :: fa, .obj nm [] :: ts, ⟨.ref y, us, [y], fa, rfl, ⟨y, dx, [], [], rfl, hy2, ⟨rfl, rfl⟩, rfl⟩, t1, rfl⟩, List.nodup_cons.mpr ⟨yfa, t3⟩, fun a ha => ?_, S3.tr, S3.tb, ?_⟩
    · rcases List.mem_cons.mp ha with q | q
      · exact .inr q
      · exact S3.ow a (t4 a q).1
    -- behind the callee: y's own parts aside
    have S4 : SR c (fun a => (O1 a ∧ a ∉ g1) ∨ a = y) fp1 H2 ρ1 σ := S3
    have back : ∀ {ts' : List T} {fr O' H'}, RTs c O' H' ts' us fr → fr.Nodup → (∀ b ∈ fr, O' b ∧ (b ∈ y :: fa ∨ H2 b = none)) → (∀ b, O' b → nT (H' b)) → Tabs c H' → (∀ b, nT (H2 b) → b ≠ y → b ∉ fa → H' b = H2 b) → (∀ b, H2 b ≠ none → H' b ≠ none) → (∀ b, O1 b ∧ b ∉ g1 → b ∉ fa → O' b) → (∀ b, O' b → ((O1 b ∧ b ∉ g1) ∨ b = y) ∨ H2 b = none) →
        ∃ fp2, SR c O' fp2 H' (giveA ρ2 ws ts') σ ∧ Ext fp1 (fun a => O1 a ∧ a ∉ g1) H1 fp2 O' H' ∧ ∀ a ∈ fp2, a ∈ fq ∨ a ∈ fr := by
      intro ts' fr O' H' r nd ow tr tb kp th ok on
      have nfa : ∀ a ∈ fq, a ∉ fa := fun a ha q => (t4 a q).2 ha
      have kpq : ∀ a ∈ fq, H' a = H2 a := fun a ha => kp a (t2.tr a (t2.ow a ha)) (fun q => yfq (q ▸ ha)) (nfa a ha)
      have Sq : SR c O' fq H' ρ2 σ := by
        refine ⟨t2.rs.stb ⟨fun a n h => .of (kp a h (fun q => n (.inr q)) fun q => n (S3.ow a (t4 a q).1)), fun a h => on a h⟩ kpq, t2.nd, fun a ha => ok a ?_ (nfa a ha), tr, tb, fun p hp => (t2.px p hp).stb ⟨fun a n h => .of (kp a h (fun q => n (.inr q)) fun q => n (S3.ow a (t4 a q).1)), fun a h => on a h⟩⟩
        rcases t2.ow a ha with q | q
        · exact q
        · exact absurd ha (q ▸ yfq)
      obtain ⟨fp2, S5, k5⟩ := give_ok Sq ra3 r nd (fun a ha => ⟨(ow a ha).1, fun q => (ow a ha).2.elim (fun z => (List.mem_cons.mp z).elim (fun z => yfq (z ▸ q)) (nfa a q)) (t2.tr a (t2.ow a q)).ne⟩) li
      have n1 : ∀ b, nT (H1 b) → nT (H2 b) := fun b h => by rw [kp2 b h.ne]; exact h
      refine ⟨fp2, S5, ⟨fun b h n => (kp b (n1 b h) (ny b h.ne) fun q => n (t4 b q).1).trans (kp2 b h.ne), fun b h => th b (by rw [kp2 b h]; exact h), fun b h n => ok b h fun q => n (t4 b q).1, fun b h => ?_, fun a ha => ?_⟩, k5⟩
      · rcases on b h with (q | q) | q
        · exact .inl q
        · exact .inr (q ▸ hy)
        · exact .inr (Classical.byContradiction fun z => by rw [kp2 b z] at q; exact z q)
      · rcases k5 a ha with q | q
        · exact .inl (t5 a q)
        · rcases (ow a q).2 with z | z
          · exact (List.mem_cons.mp z).elim (fun z => .inr (z ▸ hy)) fun z => .inl (t4 a z).1
          · exact .inr (Classical.byContradiction fun y => by rw [kp2 a y] at z; exact y z)
    cases ea : F (.obj nm [] :: ts) with
    | none => simp only [ea] at h1; exact h1.elim
    | some a =>
      cases a with
      | exc x ts' =>
        cases ts' with
        | nil => simp only [ea] at h1; exact h1.elim
        | cons t0 ts' =>
        simp only [ea] at h1
        intro cls d H' O' fr r nd ow tr tb Eq R'
        obtain ⟨v, vr, f1, f2, ev, r1, r2, eq⟩ := r
        cases ev
        rw [eq] at nd
        obtain ⟨nd1, nd2, nd3⟩ := List.nodup_append.mp nd
        obtain ⟨fp5, S5, E5, k5⟩ := back r2 nd2 (fun b hb => ⟨ow b (by rw [eq]; simp [hb]), Eq.fn b (by rw [eq]; simp [hb])⟩) tr tb (fun b h1 h2 h3 => Eq.kp b h1 fun q => (List.mem_cons.mp q).elim h2 h3) Eq.th (fun b h1 h2 => Eq.ok b (.inl h1) fun q => (List.mem_cons.mp q).elim (fun z => (S1.tr b h1.1).ne (z ▸ hy)) h2) Eq.on
        exact h1 cls d H' O' fp5 S5 (E2.trans E5 S.tr) R'
      | ret w ts' =>
        cases w with
        | fr d =>
          cases d with
          | non =>
            cases ts' with
            | nil => simp only [ea] at h1; exact h1.elim
            | cons t0 ts' =>
            simp only [ea] at h1
            by_cases ho : t0.isOwn = true
            case neg => rw [if_neg ho] at h1; exact h1.elim
            rw [if_pos ho] at h1
            intro u H' O' fr g r nd ow tr tb Eq R' Fg
            obtain ⟨v, vr, f1, f2, ev, r1, r2, eq⟩ := r
            cases ev
            rw [eq] at nd
            obtain ⟨nd0, _, _⟩ := List.nodup_append.mp nd
            obtain ⟨nd1, nd2, nd3⟩ := List.nodup_append.mp nd0
            obtain ⟨fp5, S5, E5, k5⟩ := back r2 nd2 (fun b hb => ⟨ow b (by rw [eq]; simp [hb]), Eq.fn b (by rw [eq]; simp [hb])⟩) tr tb (fun b h1 h2 h3 => Eq.kp b h1 fun q => (List.mem_cons.mp q).elim h2 h3) Eq.th (fun b h1 h2 => Eq.ok b (.inl h1) fun q => (List.mem_cons.mp q).elim (fun z => (S1.tr b h1.1).ne (z ▸ hy)) h2) Eq.on
            have fr1 : ∀ a ∈ f1, a ∈ fa ∨ H1 a = none := fun a ha => by
              rcases Eq.fn a (by rw [eq]; simp [ha]) with q | q
              · exact (List.mem_cons.mp q).elim (fun z => .inr (z ▸ hy)) .inl
              · exact .inr (Classical.byContradiction fun z => by rw [kp2 a z] at q; exact z q)
            refine ⟨R'.1, h1 _ H' O' fp5 f1 S5 (E2.trans E5 S.tr) (fun q => (by cases q)) ⟨r1, nd1, fun a ha => ⟨ow a (by rw [eq]; simp [ha]), fun q => ?_⟩⟩ fun a ha => ?_⟩
            · rcases k5 a q with z | z
              · rcases fr1 a ha with y | y
                · exact (t4 a y).2 z
                · exact (S1.tr a (S1.ow a (t5 a z))).ne y
              · exact nd3 a ha a z rfl
            · rcases fr1 a ha with z | z
              · exact (E1.fn a (t4 a z).1).symm
              · exact .inl (Classical.byContradiction fun y => E1.th a y z)
          | _ => simp only [ea] at h1; exact h1.elim
        | _ => simp only [ea] at h1; exact h1.elim
end
end Vl

namespace Vl
open PySem PySem.Spec PyProof.Rows L2
section
variable {c : Vc} {X : Cx} {W : WX} {b : Bool} {bor vs : List Nat} {O O1 O2 O' : Addr → Prop} {fp fp1 fp2 fp' fa fq : List Addr} {H H1 H2 H' : Hp} {ρ ρ1 ρ2 ρ' : Env} {σ σ1 σ' : L2.St} {k i : Nat} {α β : Type}
variable {e o : Expr} {es : List Expr} {f : FS} {pos pos' apos p p0 p1 p2 : Pos} {x n : Str} {st : List Stmt}
/-! ### raise X('text') -/
def sRaise (n : Str) : FS := fun ρ => some (.exc ⟨n, []⟩ ρ)
theorem vs_raise {m : Str} {j : Nat} {bmB : List Value} {B newId initId : String} (nm : Str) (hK : X.K = c.K) (hc : X.calm = true) (tk : Takes X W) (F : ExcBaseFacts B newId initId bmB) (q : PySem.W.excIn c.K (c.cl nm) bmB newId = true) (gC : X.mg x = some (.ref (c.cl nm)))
    (kC : PySem.W.keepIn c.K (.ref (c.cl nm)) = true) (r1 : PySem.W.subIn c.K (.ref (c.cl nm)) (.type "BaseException") = some true) (r2 : PySem.W.typeIn c.K (.ref (c.cl nm)) = some (.type "type")) (hg : Gl X x)
    (hdb : (x == ("__debug__" : Str)) = false := by decide) : VS c X W bor (.Raise (some (.Call (.Name x p) [.Constant (.str m) j p2] [] pos)) none pos') (sRaise nm) :=
  ⟨_, ps_raise hc tk (pmk_own F (by rw [hK]; exact q) gC (by rw [hK]; exact kC) (raises_own (by rw [hK]; exact r1) (by rw [hK]; exact r2)) hg hdb), fun O fp H ρ σ D S h => h (.ref (c.cl nm)) none σ H O fp S .refl .refl ⟨rfl, rfl⟩⟩

/-! ### try: .. except X as n: .. -/
def cnS (c : Vc) (W : WX) (bor : List Nat) (f : FS) : TS := fun D σ H => ∃ O fp ρ, SR c O fp H ρ σ ∧ PostS c W bor O fp H σ (f ρ) D
theorem VSs.cn (h : VSs c X W bor st f) : PSs X st (cnS c W bor f) := by
  obtain ⟨t, p, o⟩ := h
  exact ⟨fun pins s σ H D I ⟨O, fp, ρ, S, q⟩ => p.run pins s σ H D I (o O fp H ρ σ D S q)⟩
/-- behind the suite the name is gone -/
def endH (i : Nat) : Option OutS → Option OutS
  | some (.nx ρ) => some (.nx (ρ.set i none))
  | some (.brk ρ) => some (.brk (ρ.set i none))
  | some (.cnt ρ) => some (.cnt (ρ.set i none))
  | some (.ret w ρ) => some (.ret w ρ)
  | _ => none
def sTry (i : Nat) (m : Str → Option Bool) (f : FS) (h : Exn → FS) : FS := fun ρ => match f ρ with
  | some (.exc x ρ') => match m x.n with
    | some true => if i < ρ'.length then endH i (h x (ρ'.set i none)) else none
    | some false => some (.exc x ρ')
    | none => none
  | r => r
def tSu (c : Vc) (i : Nat) (bor : List Nat) (h : Exn → FS) (a : Addr) (cls : Value) (d : Option Addr) : TS := fun D σ H => ∃ (x : Exn) (q : Option (Addr × List (Str × V) × List (Str × Vl.D))) (O : Addr → Prop) (fp : List Addr) (ρ : Env), cls = .ref (c.cl x.n) ∧ (∀ l, q = some l → d = some l.1 ∧ l.2.2 = x.fs ∧ x.fs ≠ []) ∧ (q = none → x.fs = [] ∧ d = none) ∧
  SR ⟨c.toVb, ⟨i, a, q⟩ :: c.xs⟩ O fp H ρ σ ∧ PostS ⟨c.toVb, ⟨i, a, q⟩ :: c.xs⟩ W0 bor O fp H σ (h x ρ) D
theorem SR.drop {pn : Pin} (S : SR ⟨c.toVb, pn :: c.xs⟩ O fp H ρ σ) : SR c O fp H ρ σ := ⟨S.rs, S.nd, S.ow, S.tr, S.tb, fun p hp => S.px p (List.mem_cons_of_mem _ hp)⟩
theorem RV.xs {l : List Pin} {w : Val} {u : V} {g : List Addr} (R : RV ⟨c.toVb, l⟩ O fp H ρ σ w u g) : RV c O fp H ρ σ w u g := by
  cases w with
  | fr d => exact R
  | nw t => exact R
  | al i => exact R
theorem RV.set {i : Nat} {s : Option V} {w : Val} {u : V} {g : List Addr} (R : RV c O fp H ρ σ w u g) : RV c O fp H ρ1 σ w u g := by
  cases w with
  | fr d => exact R
  | nw t => exact R
  | al i => exact R
theorem vs_try {nm : Str} {cv : Value} {b₀ : Stmt} {suite body : List Stmt} {np : Pos} {m : Str → Option Bool} {h : Exn → FS} (hK : X.K = c.K) (hs : X.stack = X.env :: X.outer) (hf : X.env.frame = some X.env.locals) (hN : X.N.Nodup) (hi : X.N[i]? = some nm) (hln : X.env.kindOf nm = some .local) (hc : Names X x cv) (tk : Takes X W)
    (hm : ∀ n b, m n = some b → PySem.W.exmOne c.K (.ref (c.cl n)) cv = some b)
    (hb : ∀ (W' : WX) (pn : List (Addr × Obj)) (xe : Value → Shared → Prop), Takes (X.tr pn xe) W' → PassesOwn (model X.prog X.w) X.A X.env xe → VSs c (X.tr pn xe) W' bor body f)
    (hsu : ∀ (x : Exn) (a : Addr) (oe : Obj) (d : Option Addr) (q : Option (Addr × List (Str × V) × List (Str × Vl.D))) (pn : List (Addr × Obj)), Zc (.ref (c.cl x.n)) d oe → (∃ vs, oe.data = .fields vs) → (∀ l, q = some l → d = some l.1 ∧ l.2.2 = x.fs ∧ x.fs ≠ []) → (q = none → x.fs = [] ∧ d = none) →
      VSs ⟨c.toVb, ⟨i, a, q⟩ :: c.xs⟩ (X.suite a ((a, oe) :: pn)) W0 bor (b₀ :: suite) (h x))
    (hbi : i ∉ bor := by decide) (hxs : i ∉ c.xs.map (·.i) := by exact nmIn rfl) :
    VS c X W bor (.Try body [.ExceptHandler (some (.Name x np)) (some nm) (b₀ :: suite) pos'] [] [] pos) (sTry i m f h) := by
  refine ⟨_, ps_try_as (tb := fun W => cnS c W bor f) (ts := tSu c i bor h) (Wout := W) hs hf hN hi hln hc tk (fun W' pn xe t p => (hb W' pn xe t p).cn) (fun a oe cls d pn hz hd => ⟨fun pins s σ H D I q => ?_⟩), fun O fp H ρ σ D S q => ?_⟩
  · obtain ⟨x, q0, O, fp, ρ, rfl, h1, h2, S, P⟩ := q
    exact (hsu x a oe d q0 pn hz hd h1 h2).cn.run pins s σ H D I ⟨O, fp, ρ, S, P⟩
  · refine ⟨O, fp, ρ, S, ?_⟩
    unfold sTry at q
    revert q
    cases f ρ with
    | none => exact fun q => q
    | some o =>
      cases o with
      | nx ρ' => exact fun q => q
      | brk ρ' => exact fun q => q
      | cnt ρ' => exact fun q => q
      | ret w ρ' => exact fun q => q
      | exc x ρ' =>
        intro q cls d σ' H' O' fp' S' E' B' R
        obtain ⟨rfl, R⟩ := R
        cases em : m x.n with
        | none => simp only [em] at q; exact q.elim
        | some b =>
          cases b with
          | false =>
            simp only [em] at q
            exact ⟨false, by rw [hK]; exact hm _ _ em, fun z => (by cases z), fun _ => q _ d σ' H' O' fp' S' E' B' ⟨rfl, R⟩⟩
          | true =>
            simp only [em] at q
            by_cases hl : i < ρ'.length
            case neg => rw [if_neg hl] at q; exact q.elim
            rw [if_pos hl] at q
            refine ⟨true, by rw [hK]; exact hm _ _ em, fun _ a na => ?_, fun z => (by cases z)⟩
            obtain ⟨fp2, S2, k2⟩ := S'.del (s := some (.ref a)) hxs hl
            have hq : ∃ q0 : Option (Addr × List (Str × V) × List (Str × Vl.D)), (∀ l, q0 = some l → (d = some l.1 ∧ l.2.2 = x.fs ∧ x.fs ≠ []) ∧ (H' l.1 = some (.xd l.2.1) ∧ ¬ O' l.1) ∧ RDf c O' H' l.2.2 l.2.1) ∧ (q0 = none → x.fs = [] ∧ d = none) := by
              obtain ⟨xn, xf⟩ := x
              cases xf with
              | nil => exact ⟨none, fun l z => (by cases z), fun _ => ⟨rfl, R⟩⟩
              | cons p r =>
                obtain ⟨dd, vs, e1, e2, e3⟩ := R
                exact ⟨some (dd, vs, p :: r), fun l z => by cases z; exact ⟨⟨e1, rfl, List.cons_ne_nil _ _⟩, e2, e3⟩, fun z => (by cases z)⟩
            obtain ⟨q0, hq1, hq2⟩ := hq
            have S3 : SR ⟨c.toVb, ⟨i, a, q0⟩ :: c.xs⟩ O' fp2 H' (ρ'.set i none) (σ'.set i (some (.ref a))) := ⟨S2.rs, S2.nd, S2.ow, S2.tr, S2.tb, fun p hp => by
              rcases List.mem_cons.mp hp with z | z
              · subst z
                refine ⟨List.getElem?_set_self (by rw [S'.rs.len]; exact hl), fun l e => (hq1 l e).2⟩
              · exact S2.px p z⟩
            refine ⟨x, q0, O', fp2, ρ'.set i none, rfl, fun l e => (hq1 l e).1, hq2, S3, ?_⟩
            have B2 : Bk bor σ (σ'.set i (some (.ref a))) := B'.trans (Bk.set hbi)
            have E2 : Ext fp O H fp2 O' H' := ⟨E'.kp, E'.th, E'.ok, E'.on, fun a ha => E'.fn a (k2 a ha)⟩
            have fin : ∀ {ρ3 : Env} {σ3 : L2.St} {H3 : Hp} {O3 : Addr → Prop} {fp3 : List Addr}, SR ⟨c.toVb, ⟨i, a, q0⟩ :: c.xs⟩ O3 fp3 H3 ρ3 σ3 → Ext fp2 O' H' fp3 O3 H3 → Bk bor (σ'.set i (some (.ref a))) σ3 → ∃ fp4, SR c O3 fp4 H3 (ρ3.set i none) (σ3.set i none) ∧ Ext fp O H fp4 O3 H3 ∧ Bk bor σ (σ3.set i none) := by
              intro ρ3 σ3 H3 O3 fp3 S4 E4 B4
              have E5 := E2.trans E4 S.tr
              by_cases hl3 : i < ρ3.length
              · obtain ⟨fp4, S5, k5⟩ := S4.drop.del (s := none) hxs hl3
                exact ⟨fp4, S5, ⟨E5.kp, E5.th, E5.ok, E5.on, fun a ha => E5.fn a (k5 a ha)⟩, (B2.trans B4).trans (Bk.set hbi)⟩
              · have h1 : ρ3.set i none = ρ3 := List.set_eq_of_length_le (by omega)
                have h2 : σ3.set i none = σ3 := List.set_eq_of_length_le (by rw [S4.rs.len]; omega)
                rw [h1, h2]
                exact ⟨fp3, S4.drop, E5, B2.trans B4⟩
            revert q
            cases h x (ρ'.set i none) with
            | none => exact fun q => q
            | some o =>
              cases o with
              | nx ρ3 =>
                intro q σ3 H3 O3 fp3 S4 E4 B4
                obtain ⟨fp4, S5, E5, B5⟩ := fin S4 E4 B4
                exact q _ H3 O3 fp4 S5 E5 B5
              | brk ρ3 =>
                intro q σ3 H3 O3 fp3 S4 E4 B4
                obtain ⟨fp4, S5, E5, B5⟩ := fin S4 E4 B4
                exact q _ H3 O3 fp4 S5 E5 B5
              | cnt ρ3 =>
                intro q σ3 H3 O3 fp3 S4 E4 B4
                obtain ⟨fp4, S5, E5, B5⟩ := fin S4 E4 B4
                exact q _ H3 O3 fp4 S5 E5 B5
              | ret w ρ3 => exact fun q u σ3 H3 O3 fp3 g S4 E4 B4 R4 F4 => q u σ3 H3 O3 fp3 g S4.drop (E2.trans E4 S.tr) (B2.trans B4) R4.xs (fresh_of E2 F4)
              | exc x ρ3 => exact fun q => q.elim

/-! ### what a suite does with the exception -/
variable {a : Addr} {oe : Obj} {d : Option Addr} {q : Option (Addr × List (Str × V) × List (Str × D))} {pn : List (Addr × Obj)} {y : Exn} {nm : Str}
/-- isinstance(e, C) -/
def vIsE (g : Str → Option Bool) (y : Exn) : FE := fun ρ => match g y.n with
  | some b => if y.fs.isEmpty then some (.val (.fr (.bl b)) ρ) else none
  | none => none
theorem ve_isE {ce : Expr} {g : Str → Option Bool} {cv : Value} {u : V} (hK : X.K = c.K) (hz : Zc (.ref (c.cl y.n)) d oe) (hf : ∃ vs, oe.data = .fields vs) (h1 : ∀ l, q = some l → d = some l.1 ∧ l.2.2 = y.fs ∧ y.fs ≠ []) (h2 : q = none → y.fs = [] ∧ d = none)
    (hN : X.N[i]? = some nm) (hv : Vis X.env.scope nm) (hpe : PE (X.suite a ((a, oe) :: pn)) ce (tC u)) (hu : ∀ w, RelV u w → w = cv)
    (hg : ∀ n b, g n = some b → ExcC c.K (c.cl n) ∧ PySem.W.kitOne c.K (.ref (c.cl n)) cv = some b) (gl : Gl X "isinstance") (gm : X.mg "isinstance" = none) (gb : bootBuiltins "isinstance" = some (.builtin "isinstance"))
    (hd : (nm == ("__debug__" : Str)) = false := by decide) (hcd : (nm == ("__classdict__" : Str)) = false := by decide)
    (he : starEach [.Name nm p1, ce] X.env = (false, eval (.Name nm p1) X.env) :: starEach [ce] X.env := by rfl) (he2 : starEach [ce] X.env = (false, eval ce X.env) :: starEach [] X.env := by rfl) (hpl : (backTo pos (starEach [ce] X.env)).any (·.1) = false := by rfl) :
    VE ⟨c.toVb, ⟨i, a, q⟩ :: c.xs⟩ (X.suite a ((a, oe) :: pn)) W b (.Call (.Name "isinstance" p) [.Name nm p1, ce] [] pos) (vIsE g y) := by
  by_cases hgy : ∃ b, g y.n = some b ∧ y.fs = []
  · obtain ⟨bb, eg, ef⟩ := hgy
    obtain ⟨C1, C2⟩ := hg _ _ eg
    have qn : q = none := by
      cases q with
      | none => rfl
      | some l => exact absurd ef (h1 l rfl).2.2
    have dn : d = none := (h2 qn).2
    subst dn
    refine ⟨_, pe_callB (X := X.suite a ((a, oe) :: pn)) (call_isE (D := c.cl y.n) (by rw [hK]; exact C1) hz hf) gl gm gb (pa_cons (pe_var hN hv hd hcd) (pa_cons hpe pa_nil he2) he) (by decide) (by decide) he hpl, fun O fp H ρ σ Q S h => ?_⟩
    have px := (S.px _ List.mem_cons_self).1
    refine ⟨.ref a, px, u, cv, bb, rfl, hu, by rw [hK]; exact C2, ?_⟩
    unfold vIsE at h
    simp only [eg, ef, List.isEmpty_nil, if_true] at h
    exact h (.bl bb) H O fp [] S .refl (fun _ => .refl) ⟨rfl, rfl⟩ fun _ q => (by cases q)
  · refine ⟨fun _ _ _ => False, ⟨fun _ _ _ _ _ _ h => h.elim⟩, fun O fp H ρ σ Q S h => ?_⟩
    unfold vIsE at h
    cases eg : g y.n with
    | none => simp only [eg] at h; exact h
    | some b =>
      simp only [eg] at h
      by_cases ef : y.fs.isEmpty = true
      · exact absurd ⟨b, eg, List.isEmpty_iff.mp ef⟩ hgy
      · rw [if_neg ef] at h; exact h
/-- e.n -/
def vXf (ok : Str → Bool) (n : Str) (y : Exn) : FE := fun ρ => if ok y.n then match y.fs.lookup n with
    | some d => some (.val (.fr d) ρ)
    | none => none
  else none
theorem ve_xf {ok : Str → Bool} {n : Str} (hK : X.K = c.K) (hz : Zc (.ref (c.cl y.n)) d oe) (hf : ∃ vs, oe.data = .fields vs) (h1 : ∀ l, q = some l → d = some l.1 ∧ l.2.2 = y.fs ∧ y.fs ≠ []) (h2 : q = none → y.fs = [] ∧ d = none)
    (hN : X.N[i]? = some nm) (hv : Vis X.env.scope nm) (hok : ∀ m, ok m = true → XfC c.K (c.cl m) ∧ PySem.W.findIn c.K (.ref (c.cl m)) n = some none)
    (hd : (nm == ("__debug__" : Str)) = false := by decide) (hcd : (nm == ("__classdict__" : Str)) = false := by decide) (hb : attributeBase (.Name nm p1) n X.env (eval (.Name nm p1) X.env) = eval (.Name nm p1) X.env := by rfl) :
    VE ⟨c.toVb, ⟨i, a, q⟩ :: c.xs⟩ (X.suite a ((a, oe) :: pn)) W b (.Attribute (.Name nm p1) n pos) (vXf ok n y) := by
  by_cases ho : ok y.n = true
  · obtain ⟨T, hno⟩ := hok _ ho
    refine ⟨_, pe_xf (X := X) (by rw [hK]; exact T) (by rw [hK]; exact hno) hz hf (pe_var (X := X.suite a ((a, oe) :: pn)) hN hv hd hcd) hb, fun O fp H ρ σ Q S h => ?_⟩
    obtain ⟨px, py⟩ := S.px _ List.mem_cons_self
    unfold vXf at h
    rw [if_pos ho] at h
    cases el : y.fs.lookup n with
    | none => simp only [el] at h; exact h.elim
    | some dv =>
      simp only [el] at h
      cases q with
      | none => rw [(h2 rfl).1] at el; cases el
      | some l =>
        obtain ⟨e1, e2, _⟩ := h1 l rfl
        obtain ⟨⟨q1, q2⟩, q3⟩ := py l rfl
        rw [e2] at q3
        obtain ⟨v, w1, w2⟩ := q3.look.1 dv el
        exact ⟨.ref a, px, rfl, rfl, l.1, l.2.1, v, e1, q1, w1, h v H O fp [] S .refl (fun _ => .refl) ⟨w2, rfl⟩ fun _ q => (by cases q)⟩
  · refine ⟨fun _ _ _ => False, ⟨fun _ _ _ _ _ _ h => h.elim⟩, fun O fp H ρ σ Q S h => ?_⟩
    unfold vXf at h
    rw [if_neg ho] at h
    exact h
end
end Vl

namespace Vl
open PySem PySem.Spec PyProof.Rows L2
section
variable {c : Vc} {X : Cx} {W : WX} {b : Bool} {bor : List Nat} {O O1 O2 O' : Addr → Prop} {fp fp1 fp2 fp' fa fq : List Addr} {H H1 H2 H' : Hp} {ρ ρ1 ρ2 ρ' : Env} {σ σ1 σ' : L2.St} {k n i : Nat}
variable {e e' o : Expr} {es : List Expr} {fb fc : FE} {pos pos' apos p : Pos} {F : FF} {f : Addr} {fd : FuncData} {ps : List Str} {x m : Str}
/-! ### isinstance -/
inductive Tag where
  | ty (n : String) | cl (n : Str)
def tagD : D → Option Tag
  | .non => some (.ty "NoneType") | .bl _ => some (.ty "bool") | .int _ => some (.ty "int") | .str _ => some (.ty "str")
  | .lst _ => some (.ty "list") | .klst _ => some (.ty "list") | .tup _ => some (.ty "tuple") | .ktup _ => some (.ty "tuple") | .obj n _ => some (.cl n)
  | _ => none
def Tag.v (c : Vb) : Tag → Value
  | .ty n => .type n
  | .cl n => .ref (c.cl n)
def clsD (c : Vb) : D → Option Value
  | .ty n => some (.type n)
  | .con n => some (.ref (c.cl n))
  | _ => none
/-- what the classes answer: kf -/
def IsK (c : Vb) (kf : Tag → D → Option Bool) : Prop := ∀ t cd b, kf t cd = some b → ∃ cv, clsD c cd = some cv ∧ PySem.W.kitOne c.K (t.v c) cv = some b ∧ ∀ n, t = .cl n → Cls c.K (c.cl n) ∧ PySem.W.findIn c.K (.ref (c.cl n)) "__class__" = some (some (.builtin "object.__class__")) ∧
  PySem.W.specialIn c.K (.builtin "object.__class__") "__get__" = some (some (.builtin "getset_descriptor.__get__")) ∧ PySem.W.takesIn c.K (.builtin "object.__class__") = some true ∧ PySem.W.mroIn c.K (c.cl n) (.type "object") = some true
def gIsi (kf : Tag → D → Option Bool) : List D → Option Val
  | [x, cd] => (tagD x).bind fun t => (kf t cd).map fun b => .fr (.bl b)
  | _ => none
theorem s_isi {kf : Tag → D → Option Bool} (hk : IsK c kf) : CaS c (rIsi c.K) (gIsi kf) := fun O H vs ds w Q tr p e k => by
  unfold gIsi at e
  split at e
  · rename_i dx cd
    obtain ⟨t, e1, e2⟩ := Option.bind_eq_some_iff.mp e
    obtain ⟨b, e3, e4⟩ := Option.map_eq_some_iff.mp e2
    subst e4
    obtain ⟨cv, h1, h2, h3⟩ := hk _ _ _ e3
    obtain ⟨v, v', rfl, p1, p2⟩ := pks2 p
    have hc : ClsV v' cv := by
      cases cd with
      | ty n => cases h1; rw [show v' = .ty n from p2]; exact .ty n
      | con n => cases h1; rw [show v' = .ref (c.cl n) from p2]; exact .own _
      | _ => cases h1
    refine ⟨v, v', t.v c, cv, b, rfl, hc, ?_, h2, k _ H [] (.same rfl)⟩
    cases dx with
    | non => cases e1; rw [show v = .non from p1]; exact .base .non
    | bl _ => cases e1; rw [show v = .bl _ from p1]; exact .base (.bl _)
    | int _ => cases e1; rw [show v = .int _ from p1]; exact .base (.int _)
    | str _ => cases e1; rw [show v = .str _ from p1]; exact .base (.str _)
    | lst _ => cases e1; obtain ⟨a, us, rfl, ha, _⟩ := p1; exact .base (.lst ha)
    | tup _ => cases e1; obtain ⟨a, us, rfl, ha, _⟩ := p1; exact .base (.tup ha.1)
    | klst _ =>
      cases e1
      obtain ⟨a, us, rfl, ha, _⟩ := p1
      rcases ha with ⟨o, _, _, h, hcl, _⟩ | ⟨h, _⟩
      · exact .kList h hcl
      · cases q : H a with
        | none => rw [q] at h; cases h
        | some z =>
          rw [q] at h
          cases z with
          | frz o w => cases h; exact .base (.frz q)
          | lst _ => cases h; exact .base (.lst q)
          | _ => cases h
    | ktup _ => cases e1; obtain ⟨a, us, rfl, ⟨o, _, _, h, hcl, _⟩, _⟩ := p1; exact .kTuple h hcl
    | obj nm fs =>
      cases e1
      obtain ⟨a, dx, us, rfl, ha, _⟩ := p1
      obtain ⟨q1, q2, q3, q4, q5⟩ := h3 nm rfl
      exact .base (.ins ha q1 q2 q3 q4 q5)
    | _ => cases e1
  · cases e

/-! ### == of an own class -/
def rOwnEq (C : Addr) (sp : Sp) : R2 := fun x y H Q => ∃ a b dx dy fs gs, x = .ref a ∧ y = .ref b ∧ H a = some (.ins C dx fs) ∧ H b = some (.ins C dy gs) ∧ sp [x, y] H (fun v H' => (∃ k, v = .bl k) ∧ Q v H') (fun _ _ _ => False)
theorem op_ownEq {C : Addr} {sp : Sp} (Fk : FnOk X.prog X.w X.K X.mg X.base (L2.CX X.prog X.w) n f fd ps sp) (hs : PySem.W.findIn X.K (.ref C) "__eq__" = some (some (.ref f))) (hf : PySem.W.isFn X.K (.ref f) = true) (hb : Binds X.K fd ps []) (hr : Room n X.A) :
    OpR X (compareOp .Eq) (rOwnEq C sp) := by
  intro pins s σ H x y v u Q I rx ry hq
  obtain ⟨a, b, dx, dy, fs, gs, rfl, rfl, ha, hb', hsp⟩ := hq
  cases rx
  cases ry
  obtain ⟨mA, J, _⟩ := ins_get I.hok ha
  obtain ⟨mB, J', _⟩ := ins_get I.hok hb'
  obtain ⟨od, J, _⟩ := J.look
  obtain ⟨od', J', _⟩ := J'.look
  obtain ⟨m, hF⟩ := I.fr
  show wpAny (model X.prog X.w) X.A (richCompare .Eq (.ref a) (.ref b)) (EP X pins σ Q) X.xe s
  refine PySem.W.cmp_K (op := .Eq) (tb := .ref C) hr.units0 hF I.ok.mod.kin J J'.type (by simp [PySem.W.notFirst]) hs hf ?_
  have r2 : Vals [V.ref a, V.ref b] [Value.ref a, Value.ref b] := .cons rfl (.cons rfl .nil)
  refine L2.thn (run_fnS (E := fun _ _ _ _ => False) Fk hr hb (fun pins H s e s' I' cc => ?_) I r2 hsp) fun w s' z => ?_
  · exact ((passAt (X := { X with xe := fun _ _ => False }) (W := W0) (fun u s' q => by
      obtain ⟨_, _, _, _, _, _, _, _, _, _, _, _, _, _, _, _, w⟩ := q
      exact w) σ) pins H s e s' ⟨⟨I'.ok.mod, I'.ok.kind, I'.ok.glob, I'.ok.blt, I'.ok.above, I'.ok.inj, I'.ok.has, I'.ok.cab, I'.ok.hd, I'.ok.frames, I'.ok.stk, I'.ok.exf, I'.ok.bs, I'.ok.bsz, I'.ok.noex, I'.ok.exfs, I'.ok.funs, I'.ok.frf⟩, I'.os, I'.bare, I'.base, I'.loc, I'.cell, I'.free, I'.freeC, I'.pin, I'.hok, I'.len⟩ cc).elim
  · obtain ⟨v, H2, I2, rv, ⟨k, rfl⟩, q⟩ := z
    cases rv
    exact ⟨.bl k, H2, I2, rfl, q⟩
def kEqO (nm : Str) (F : FF) (x y : Val) : FE := fun ρ => if isObjB nm "" x ρ && isObjB nm "" y ρ then match kCallB F [x, y] ρ with
    | some (.val (.fr (.bl k)) ρ') => some (.val (.fr (.bl k)) ρ')
    | _ => none
  else none
def vEqO (nm : Str) (F : FF) (fb fc : FE) : FE := bnd fb fun x => bnd fc fun y => kEqO nm F x y
theorem ok_eqO {nm : Str} {ta tb : TE} (ha : Ok (RV c) c W false fb ta) (hb : Ok (RV c) c W false fc tb) : Ok (RV c) c W false (vEqO nm F fb fc) (tOp (rOwnEq (c.cl nm) (spV c.toVb 2 F)) ta tb) := fun O fp H ρ σ Q S h =>
  ha.thn S.tr S .refl (fun _ => .refl) h (fun q => q) fun x ρ1 u H1 O1 fp1 g1 _ S1 E1 _ I1 R1 F1 h1 =>
    hb.thn S.tr S1 E1 I1 h1 (fun q => q) fun y ρ2 v H2 O2 fp2 g2 _ S2 E2 E12 I2 R2 F2 h2 => by
      unfold kEqO at h2
      by_cases hi : (isObjB nm "" x ρ2 && isObjB nm "" y ρ2) = true
      case neg => rw [if_neg hi] at h2; exact h2.elim
      rw [if_pos hi] at h2
      rw [Bool.and_eq_true] at hi
      have R1' := R1.per (ρ1 := ρ2) S1 E12
      obtain ⟨a, dx, fs, rfl, ha, _⟩ := isObjB_ok hi.1 R1' S2
      obtain ⟨b, dy, gs, rfl, hb, _⟩ := isObjB_ok hi.2 R2 S2
      refine ⟨a, b, dx, dy, fs, gs, rfl, rfl, ha, hb, ?_⟩
      refine Post.callG (W := W0) (ws := [x, y]) (g1 := g1 ++ g2) rfl S.tr S2 E2 ⟨_, [.ref b], g1, g2, rfl, R1', ⟨_, [], g2, [], rfl, R2, ⟨rfl, rfl⟩, by simp, fun a _ q => (by cases q)⟩, rfl, fun a h1 h2 => (F2 a h2).elim (R1.trk a h1).ne (R1.own a h1).2⟩ (fun a ha => ?_) ?_
      · rcases List.mem_append.mp ha with q | q
        · exact F1 a q
        · exact fresh_of E1 F2 a q
      · revert h2
        cases kCallB F [x, y] ρ2 with
        | none => exact fun h => h
        | some o =>
          cases o with
          | exc _ _ => exact fun h => h.elim
          | val w ρ' =>
            cases w with
            | fr d =>
              cases d with
              | bl k =>
                intro h2 u H' O' fp' g S' E' I' R F
                exact ⟨⟨k, R.1⟩, h2 u H' O' fp' g S' E' I' R F⟩
              | _ => exact fun h => h.elim
            | _ => exact fun h => h.elim
theorem ve_eqO {nm : Str} (hK : X.K = c.K) (Fk : FnOk X.prog X.w X.K X.mg X.base (L2.CX X.prog X.w) n f fd ps (spV c.toVb 2 F)) (hs : PySem.W.findIn c.K (.ref (c.cl nm)) "__eq__" = some (some (.ref f))) (hf : PySem.W.isFn c.K (.ref f) = true) (hb : Binds X.K fd ps []) (hr : Room n X.A)
    (h1 : VE c X W false e fb) (h2 : VE c X W false e' fc) (hm : behindInMarks .Eq e' = false := by rfl) : VE c X W false (.Compare e [.Eq] [e'] pos) (vEqO nm F fb fc) := by
  obtain ⟨ta, pa, oa⟩ := h1
  obtain ⟨tb, pb, ob⟩ := h2
  exact ⟨_, pe_cmpR (op_ownEq Fk (by rw [hK]; exact hs) (by rw [hK]; exact hf) hb hr) pa pb hm, ok_eqO oa ob⟩
theorem vt_eqO {nm : Str} (hK : X.K = c.K) (Fk : FnOk X.prog X.w X.K X.mg X.base (L2.CX X.prog X.w) n f fd ps (spV c.toVb 2 F)) (hs : PySem.W.findIn c.K (.ref (c.cl nm)) "__eq__" = some (some (.ref f))) (hf : PySem.W.isFn c.K (.ref f) = true) (hb : Binds X.K fd ps []) (hr : Room n X.A)
    (h1 : VE c X W false e fb) (h2 : VE c X W false e' fc) (hm : behindInMarks .Eq e' = false := by rfl) : VT c X W false (.Compare e [.Eq] [e'] pos) (bnd (vEqO nm F fb fc) asB) := by
  obtain ⟨ta, pa, oa⟩ := h1
  obtain ⟨tb, pb, ob⟩ := h2
  exact ⟨_, pt_cmpR (op_ownEq Fk (by rw [hK]; exact hs) (by rw [hK]; exact hf) hb hr) pa pb hm, fun O fp H ρ σ Q S h => (ok_eqO oa ob).thn S.tr S .refl (fun _ => .refl) h (fun q => q) fun x ρ1 u H1 O1 fp1 g1 _ S1 E1 _ I1 R1 F1 h1 => Post.asB h1 S1 E1 I1 R1⟩

/-! ### o.f = v, o a slot's own -/
def putT (f : Str) (t : T) : List (Str × T) → List (Str × T)
  | [] => [(f, t)]
  | (g, x) :: r => if g = f then (g, t) :: r else (g, x) :: putT f t r
theorem RTf.put {t : T} {u : V} {g : List Addr} {fn : Str} (R : RT c O H t u g) (ng : g.Nodup) : ∀ {fs : List (Str × T)} {vs : List (Str × V)} {fq : List Addr}, RTf c O H fs vs fq → fq.Nodup → (∀ a ∈ g, a ∉ fq) →
    ∃ fq', RTf c O H (putT fn t fs) (putF fn u vs) fq' ∧ fq'.Nodup ∧ ∀ a ∈ fq', a ∈ fq ∨ a ∈ g
  | [], _, _, h, nd, dj => by
    obtain ⟨rfl, rfl⟩ := h
    exact ⟨g, ⟨u, [], g, [], rfl, R, ⟨rfl, rfl⟩, by simp⟩, ng, fun a ha => .inr ha⟩
  | (k, t0) :: r, _, _, ⟨v, vr, f1, f2, e, h1, h2, ef⟩, nd, dj => by
    subst e ef
    obtain ⟨n1, n2, n3⟩ := List.nodup_append.mp nd
    unfold putT putF
    by_cases hk : k = fn
    · rw [if_pos hk, if_pos hk]
      refine ⟨g ++ f2, ⟨u, vr, g, f2, rfl, R, h2, rfl⟩, List.nodup_append.mpr ⟨ng, n2, fun a ha b hb e => dj a ha (by rw [e]; simp [hb])⟩, fun a ha => ?_⟩
      rcases List.mem_append.mp ha with q | q
      · exact .inr q
      · exact .inl (by simp [q])
    · rw [if_neg hk, if_neg hk]
      obtain ⟨fq', q1, q2, q3⟩ := RTf.put R ng h2 n2 (fun a ha q => dj a ha (by simp [q]))
      refine ⟨f1 ++ fq', ⟨v, _, f1, fq', rfl, h1, q1, rfl⟩, List.nodup_append.mpr ⟨n1, q2, fun a ha b hb e => ?_⟩, fun a ha => ?_⟩
      · rcases q3 b hb with z | z
        · exact n3 a ha b z e
        · exact dj b z (by rw [← e]; simp [ha])
      · rcases List.mem_append.mp ha with q | q
        · exact .inl (by simp [q])
        · exact (q3 a q).imp (fun z => by simp [z]) id
theorem RTf.len : ∀ {fs : List (Str × T)} {vs : List (Str × V)} {fq : List Addr}, RTf c O H fs vs fq → vs.length = fs.length
  | [], _, _, h => by rw [h.1]; rfl
  | (_, _) :: _, _, _, ⟨v, r, f1, f2, e, _, t, _⟩ => by rw [e]; simp [RTf.len t]
/-- a slot's own thing is changed, its parts may be others then -/
theorem SR.mut2 {i : Nat} {t : T} {x : V} (S : SR c O fp H ρ σ) (e : ρ[i]? = some (some t)) (ex : σ[i]? = some (some x)) : ∃ f, RT c O H t x f ∧ f.Nodup ∧ (∀ b ∈ f, b ∈ fp) ∧
    ∀ H' t' f', f'.Nodup → (∀ b ∈ f', b ∈ f ∨ (O b ∧ b ∉ fp)) → (∀ b, b ∉ f → H' b = H b) → (∀ b ∈ f, nT (H' b)) → RT c O H' t' x f' → ∃ fp', SR c O fp' H' (ρ.set i (some t')) σ ∧ (∀ b, nT (H b) → b ∉ fp → H' b = H b) ∧ (∀ b, H b ≠ none → H' b ≠ none) ∧ (∀ b ∈ fp', b ∈ fp ∨ b ∈ f') := by
  obtain ⟨v, f, fl, fr, h1, h2, h3, h4, _⟩ := S.rs.get e
  rw [ex] at h1
  obtain rfl : x = v := by simpa using h1
  have nd := S.nd
  rw [h3] at nd
  have dj : ∀ a ∈ fl ++ fr, a ∉ f := by
    simp only [List.nodup_append, List.mem_append] at nd ⊢
    rintro a (ha | ha) hf
    · exact nd.1.2.2 a ha a hf rfl
    · exact nd.2.2 a (.inr hf) a ha rfl
  have nf : f.Nodup := by
    simp only [List.nodup_append] at nd
    exact nd.1.2.1
  have inf : ∀ b ∈ f, b ∈ fp := fun b hb => by rw [h3]; simp [hb]
  have of : ∀ b ∈ f, O b := fun b hb => S.ow b (inf b hb)
  refine ⟨f, h2, nf, inf, fun H' t' f' nf' sf kp tr R => ?_⟩
  have kpO : ∀ b, ¬ O b → H' b = H b := fun b nb => kp b fun q => nb (of b q)
  have es : σ.set i (some x) = σ := set_same ex
  have q := h4 (O' := O) (H' := H') (.of (fun a n _ => kpO a n) fun a h => .inl h) (fun a ha => kp a (dj a ha)) R
  rw [es] at q
  have lr : ∀ a ∈ fl ++ fr, a ∈ fp := fun a ha => by
    rw [h3]
    simp only [List.mem_append] at ha ⊢
    rcases ha with ha | ha <;> simp [ha]
  have djf : ∀ a ∈ f', a ∉ fl ++ fr := fun a ha q => (sf a ha).elim (dj a q) fun z => z.2 (lr a q)
  refine ⟨fl ++ f' ++ fr, ⟨q, ?_, fun a ha => ?_, fun b hb => ?_, fun P hP => ?_, fun p hp => (S.px p hp).stb (.of (fun a n _ => kpO a n) fun a h => .inl h)⟩, fun b _ n => kp b fun q => n (inf b q), fun b h => ?_, fun a ha => ?_⟩
  · have nd2 := nodup_less nd
    simp only [List.nodup_append, List.mem_append] at nd2 ⊢
    refine ⟨⟨nd2.1, nf', fun a ha b hb e => djf b hb (by rw [← e]; simp [ha])⟩, nd2.2.1, fun a ha b hb e => ?_⟩
    rcases ha with ha | ha
    · exact nd2.2.2 a ha b hb e
    · exact djf a ha (by rw [e]; simp [hb])
  · simp only [List.mem_append] at ha
    rcases ha with (ha | ha) | ha
    · exact S.ow a (lr a (by simp [ha]))
    · exact (sf a ha).elim (of a) fun z => z.1
    · exact S.ow a (lr a (by simp [ha]))
  · by_cases z : b ∈ f
    · exact tr b z
    · rw [kp b z]; exact S.tr b hb
  · obtain ⟨ps, e1, e2⟩ := S.tb P hP
    have z : P ∉ f := fun z => by
      obtain ⟨u, q1, q2⟩ := S.tr P (of P z)
      rw [e1] at q1
      cases q1
      cases q2
    exact ⟨ps, by rw [kp P z]; exact e1, e2⟩
  · by_cases z : b ∈ f
    · exact (tr b z).ne
    · rw [kp b z]; exact h
  · simp only [List.mem_append] at ha
    rcases ha with (ha | ha) | ha
    · exact .inl (lr a (by simp [ha]))
    · exact .inr ha
    · exact .inl (lr a (by simp [ha]))
/-- what a store makes of a value: moved in, or at rest -/
def mvT (rest : Bool) : Val → Option T
  | .fr d => some (.fr d)
  | .nw t => some (if rest then .fr t.toD else t)
  | .al _ => none
def kFs (rest : Bool) (nm fn : Str) (w x : Val) : FS := fun ρ => match x with
  | .al i => match ρ[i]?, mvT rest w with
    | some (some (.obj n fs)), some t => if n = nm ∧ fs.length < 1000 then some (.nx (ρ.set i (some (.obj n (putT fn t fs))))) else none
    | _, _ => none
  | _ => none
def sFs (rest : Bool) (nm fn : Str) (fa fo : FE) : FS := exS fa fun w => exS fo fun x => kFs rest nm fn w x
theorem vs_fs {nm fn : Str} {a : Expr} {fa fo : FE} (rest : Bool) (hK : X.K = c.K) (cl : Cls c.K (c.cl nm)) (na : NoAttr c.K (c.cl nm) fn) (ha : VE c X W false a fa) (ho : VE c X W false o fo) (hs : swapsWith a (some (.Attribute o fn pos')) pos.line X.env = pure false := by rfl) :
    VS c X W bor (.Assign [.Attribute o fn pos'] a pos) (sFs rest nm fn fa fo) := by
  obtain ⟨ta, pa, oa⟩ := ha
  obtain ⟨tb, pb, ob⟩ := ho
  refine ⟨_, ps_fld pb pa hs, fun O fp H ρ σ D S h => oa.stm S.tr S .refl .refl h fun w ρ1 u H1 O1 fp1 g1 S1 E1 _ _ R1 F1 h => ?_⟩
  refine ob.stm S.tr S1 E1 .refl h fun x ρ2 v H2 O2 fp2 g2 S2 E2 E12 _ R2 F2 hfin => ?_
  have R1' := R1.per (ρ1 := ρ2) S1 E12
  clear h
  cases x with
  | al j =>
    simp only [kFs] at hfin
    split at hfin
    · rename_i n fs t et em
      split at hfin
      · rename_i hc
        obtain ⟨rfl, hl⟩ := hc
        -- the value: own parts g, a set O3 without those that come to rest
        have hv : ∃ O3 g, SR c O3 fp2 H2 ρ2 σ ∧ Ext fp O H fp2 O3 H2 ∧ RT c O3 H2 t u g ∧ g.Nodup ∧ (∀ b ∈ g, O3 b ∧ b ∉ fp2) ∧ Fr g fp H := by
          cases w with
          | fr d => cases em; exact ⟨O2, [], S2, E2, ⟨R1'.1, rfl⟩, .nil, fun b q => (by cases q), fun b q => (by cases q)⟩
          | al i => cases em
          | nw t0 =>
            cases rest with
            | false => cases em; exact ⟨O2, g1, S2, E2, R1'.1, R1'.2.1, R1'.2.2, F1⟩
            | true =>
              cases em
              exact ⟨_, [], S2.less fun a ha => (R1'.own a ha).2, E2.less S.tr F1, ⟨R1'.1.rest (fun a q => q.1) (fun a ha q => q.2 ha), rfl⟩, .nil, fun b q => (by cases q), fun b q => (by cases q)⟩
        obtain ⟨O3, g, S3, E3, RT3, ng, og, Fg⟩ := hv
        have ej : σ[j]? = some (some v) := R2.1
        obtain ⟨f, q1, q2, q3, q4⟩ := S3.mut2 et ej
        obtain ⟨p, dx, vs, fq, rfl, hp, rf, rfl⟩ := q1
        obtain ⟨n1, n2⟩ := List.nodup_cons.mp q2
        have dj : ∀ a ∈ g, a ∉ fq := fun a ha q => (og a ha).2 (q3 a (by simp [q]))
        obtain ⟨fq', w1, w2, w3⟩ := rf.put (fn := fn) RT3 ng n2 dj
        have po : O3 p := S3.ow p (q3 p (by simp))
        have st : Stb O3 H2 O3 (upd H2 p (.ins (c.cl n) dx (putF fn u vs))) := .of (fun a n _ => upd_ne fun q => n (q ▸ po)) fun a h => .inl h
        have pg : p ∉ g := fun q => (og p q).2 (q3 p (by simp))
        have pq : p ∉ fq' := fun q => (w3 p q).elim n1 pg
        refine ⟨p, c.cl n, dx, vs, rfl, hp, by rw [hK]; exact cl, by rw [hK]; exact na, by rw [rf.len]; exact hl, ?_⟩
        have hA : ∀ b ∈ p :: fq', b ∈ p :: fq ∨ (O3 b ∧ b ∉ fp2) := fun b hb => by
          rcases List.mem_cons.mp hb with q | q
          · exact .inl (by simp [q])
          · rcases w3 b q with q | q
            · exact .inl (by simp [q])
            · exact .inr (og b q)
        have hB : ∀ b ∈ p :: fq, nT (upd H2 p (.ins (c.cl n) dx (putF fn u vs)) b) := fun b hb => by
          rcases List.mem_cons.mp hb with q | q
          · rw [q]; exact .of upd_same
          · have ne : b ≠ p := fun z => n1 (z ▸ q)
            rw [upd_ne ne]
            exact S3.tr b (S3.ow b (q3 b (by simp [q])))
        obtain ⟨fp4, z1, z2, z3, z4⟩ := q4 (upd H2 p (.ins (c.cl n) dx (putF fn u vs))) (.obj n (putT fn t fs)) (p :: fq') (List.nodup_cons.mpr ⟨pq, w2⟩) hA (fun b hb => upd_ne fun q => hb (by simp [q])) hB ⟨p, dx, _, fq', rfl, upd_same, w1.stb st fun a ha => upd_ne fun q => pq (q ▸ ha), rfl⟩
        refine hfin σ _ O3 fp4 z1 ⟨fun b hb hn => ?_, fun b hb => z3 b (E3.th b hb), E3.ok, E3.on, fun b hb => ?_⟩ .refl
        · have nb : b ∉ fp2 := fun q => (E3.fn b q).elim hn hb.ne
          rw [z2 b (by rw [E3.kp b hb hn]; exact hb) nb]
          exact E3.kp b hb hn
        · rcases z4 b hb with q | q
          · exact E3.fn b q
          · rcases List.mem_cons.mp q with q | q
            · exact E3.fn b (q3 b (by simp [q]))
            · rcases w3 b q with q | q
              · exact E3.fn b (q3 b (by simp [q]))
              · exact (Fg b q).symm
      · exact hfin.elim
    · exact hfin.elim
  | _ => exact hfin.elim
end
end Vl

namespace Vl
open PySem PySem.Spec PyProof.Rows L2 He
/-! ### a def of the text -/
structure DW (k : Nat) (X : Cx) (W : WX) : Prop where
  ps : PassesOwn (model X.prog X.w) X.A X.env X.xe
  tk : Takes X W
  rm : Room k X.A
structure DOk (P : Program) (w : World) (c : Vb) (mg : Str → Option Value) (base : Heap) (L : Nat) (f : Addr) (ps : List Str) (n : Nat) (F : FF) : Prop where
  ex : ∃ fd, FnOk P w c.K mg base (L2.CX P w) L f fd ps (spV c n F) ∧ Binds c.K fd ps [] ∧ ∃ oc od osl, c.K.lookup f = some ⟨oc, od, .func fd, osl⟩
  kp : PySem.W.keepIn c.K (.ref f) = true
section
variable {c : Vb} {P : Program} {w : World} {mg : Str → Option Value} {base : Heap} {k : Nat} {g : FS} {bor : List Nat}
theorem body_okD {d : DefD} {f : Addr} {N ps : List Str} (hd : d.dfl = []) (F : ∃ fd, FunD c.K d.name d.qual d.params d.body d.scope (d.dvs c.K) (d.kws c.K) f fd) (S : FnScope N ps d.scope)
    (hn : ∀ (kV doc pm : Value) (an : Option Addr) (cdv ct : Value) (us : List Value), us.length = ps.length → bindArgs (PySem.W.fnOf d.name d.qual d.params d.body d.scope .none kV doc pm an cdv ct) ⟨us, []⟩ = pure (ps.zip us))
    (hb : ∀ (cdv : Value) (A : Around) (outer : List PySem.Env) (s : Shared) (H : Hp) (E : XK), (∃ oc od osl fd, c.K.lookup f = some ⟨oc, od, .func fd, osl⟩ ∧ fd.code = cdv) →
      DW k (cxOf (L2.CX P w) P w c.K mg base N d.qual d.scope f cdv A outer s H E) (fun cls d _ H => E cls d H) → VSs c.v (cxOf (L2.CX P w) P w c.K mg base N d.qual d.scope f cdv A outer s H E) (fun cls d _ H => E cls d H) bor d.body g) :
    DOk P w c mg base (k + 1) f ps ps.length (bodyF N.length bor g) := by
  obtain ⟨fd, F⟩ := F
  have F' : FunD c.K d.name d.qual d.params d.body d.scope [] (d.kws c.K) f fd := by
    have e : d.dvs c.K = [] := by unfold DefD.dvs; rw [hd]; rfl
    rw [← e]
    exact F
  refine ⟨⟨fd, ?_, F'.bindsN hn, let ⟨oc, od, _, _, _, _, _, _, _, osl, _, lk, _⟩ := F.ex; ⟨oc, od, osl, lk⟩⟩, F.kp⟩
  obtain ⟨oc, od, dV, kV, doc, pm, an, cdv, ct, osl, rfl, lk, hcd, _, _⟩ := F.ex
  refine fn_of lk hcd S (fun vs H Q E h => h.1) fun A outer s H vs Q E hr h => ?_
  obtain ⟨t, pt, ot⟩ := hb cdv A outer s H E ⟨oc, od, osl, _, lk, rfl⟩ ⟨passes_of (K := fun e s'' => L2.CX P w outer H s E e s'') (E₁ := fun e s'' => L2.CX P w outer H s E e s'') rfl, takes_of rfl rfl rfl rfl, hr⟩
  exact ⟨t, pt, body_core ot h⟩
end
section
variable {c : Vc} {X : Cx} {W : WX} {b : Bool} {bor : List Nat} {k n : Nat} {e e' o : Expr} {es : List Expr} {fa fb fo : FE} {fs : FG (List Val)} {pos apos p : Pos} {F : FF} {f C : Addr} {ps : List Str} {x m : Str}
theorem ve_callD (D : DOk X.prog X.w c.toVb X.mg X.base k f ps n F) (hr : Room k X.A) (tk : Takes X W) (hK : X.K = c.K) (hm : X.mg x = some (.ref f)) (ha : VA c X W false (e :: es) fs) (hg : Gl X x := by rfl) (hdb : (x == ("__debug__" : Str)) = false := by decide)
    (he : starEach (e :: es) X.env = (false, eval e X.env) :: starEach es X.env := by rfl) (hpl : (backTo pos (starEach es X.env)).any (·.1) = false := by rfl) : VE c X W false (.Call (.Name x p) (e :: es) [] pos) (vCallG n F fs) := by
  obtain ⟨⟨fd, Fk, hb, _⟩, kp⟩ := D
  exact ve_callG (by rw [hK]; exact Fk) hr hg hm (by rw [hK]; exact kp) (by rw [hK]; exact hb) tk ha hdb he hpl
theorem ve_methD {nm : Str} {pl : Sem Bool} (D : DOk X.prog X.w c.toVb X.mg X.base k f ps n F) (hr : Room k X.A) (tk : Takes X W) (hK : X.K = c.K) (cl : Cls c.K (c.cl nm)) (hm : Meth c.K (c.cl nm) m f) (ho : VE c X W false o fo) (ha : VA c X W false (e :: es) fs)
    (hst : starEach (e :: es) X.env = (false, eval e X.env) :: starEach es X.env := by rfl) (hpl : (backTo pos (starEach es X.env)).any (·.1) = false := by rfl)
    (ht : eval (.Call (.Attribute o m apos) (e :: es) [] pos) X.env = (do
      let ov ← eval o X.env
      standAt apos.atName
      let (f, first) ← holding [ov] (getMethod ov m pl)
      callWith pos f first (backTo pos (starEach (e :: es) X.env)) (backToKw pos (keywordEach [] X.env))) := by rfl) :
    VE c X W false (.Call (.Attribute o m apos) (e :: es) [] pos) (vMethG nm m n F fo fs) := by
  obtain ⟨⟨fd, Fk, hb, _⟩, kp⟩ := D
  exact ve_methG hK ho cl hm (by rw [hK]; exact Fk) hr (by rw [hK]; exact hb) tk ha hst hpl ht
theorem ve_methD0 {nm : Str} {pl : Sem Bool} (D : DOk X.prog X.w c.toVb X.mg X.base k f ps n F) (hr : Room k X.A) (tk : Takes X W) (hK : X.K = c.K) (cl : Cls c.K (c.cl nm)) (hm : Meth c.K (c.cl nm) m f) (ho : VE c X W false o fo)
    (ht : eval (.Call (.Attribute o m apos) [] [] pos) X.env = (do
      let ov ← eval o X.env
      standAt apos.atName
      let (f, first) ← holding [ov] (getMethod ov m pl)
      callWith pos f first (backTo pos (starEach [] X.env)) (backToKw pos (keywordEach [] X.env))) := by rfl) :
    VE c X W false (.Call (.Attribute o m apos) [] [] pos) (vMethG nm m n F fo vNil) := by
  obtain ⟨⟨fd, Fk, hb, _⟩, kp⟩ := D
  exact ve_methG0 hK ho cl hm (by rw [hK]; exact Fk) hr (by rw [hK]; exact hb) tk ht
theorem ve_makeD {nm : Str} (D : DOk X.prog X.w c.toVb X.mg X.base k f ps n F) (hr : Room (k + 1) X.A) (tk : Takes X W) (hK : X.K = c.K) (M : Mk c.K (c.cl nm) f) (hm : X.mg x = some (.ref (c.cl nm))) (ha : VA c X W false (e :: es) fs) (hg : Gl X x := by rfl) (hdb : (x == ("__debug__" : Str)) = false := by decide)
    (he : starEach (e :: es) X.env = (false, eval e X.env) :: starEach es X.env := by rfl) (hpl : (backTo pos (starEach es X.env)).any (·.1) = false := by rfl) : VE c X W false (.Call (.Name x p) (e :: es) [] pos) (vMakeG nm n F fs) := by
  obtain ⟨⟨fd, Fk, hb, _⟩, kp⟩ := D
  exact ve_makeG hK M (by rw [hK]; exact Fk) hr hg hm (by rw [hK]; exact hb) tk ha hdb he hpl
theorem ve_eqD {nm : Str} (D : DOk X.prog X.w c.toVb X.mg X.base k f ps 2 F) (hr : Room k X.A) (hK : X.K = c.K) (hs : Meth c.K (c.cl nm) "__eq__" f) (h1 : VE c X W false e fa) (h2 : VE c X W false e' fb) (hm : behindInMarks .Eq e' = false := by rfl) : VE c X W false (.Compare e [.Eq] [e'] pos) (vEqO nm F fa fb) := by
  obtain ⟨⟨fd, Fk, hb, _⟩, kp⟩ := D
  exact ve_eqO hK (by rw [hK]; exact Fk) hs.at_ hs.fn (by rw [hK]; exact hb) hr h1 h2 hm
theorem vt_eqD {nm : Str} (D : DOk X.prog X.w c.toVb X.mg X.base k f ps 2 F) (hr : Room k X.A) (hK : X.K = c.K) (hs : Meth c.K (c.cl nm) "__eq__" f) (h1 : VE c X W false e fa) (h2 : VE c X W false e' fb) (hm : behindInMarks .Eq e' = false := by rfl) : VT c X W false (.Compare e [.Eq] [e'] pos) (bnd (vEqO nm F fa fb) asB) := by
  obtain ⟨⟨fd, Fk, hb, _⟩, kp⟩ := D
  exact vt_eqO hK (by rw [hK]; exact Fk) hs.at_ hs.fn (by rw [hK]; exact hb) hr h1 h2 hm
/-- a built-in type's name -/
theorem ve_bt {T : String} (hm : X.mg x = none) (hv : bootBuiltins x = some (.type T)) (hg : Gl X x := by rfl) (hn : x ≠ "__name__" := by decide) (hd : (x == ("__debug__" : Str)) = false := by decide) : VE c X W b (.Name x pos) (vC (.ty T)) :=
  ⟨_, pe_bltn (v := .ty T) hg hm hv rfl hn hd, ok_c fun _ _ => rfl⟩
/-- a class, a def of the text by its name -/
theorem ve_gc {nm : Str} (hm : X.mg nm = some (.ref (c.cl nm))) (hg : Gl X nm := by rfl) (hd : (nm == ("__debug__" : Str)) = false := by decide) : VE c X W b (.Name nm pos) (vC (.con nm)) := ve_g (v := .ref (c.cl nm)) hg hm rfl (fun _ _ => rfl) hd
theorem ve_gi {i : Int} (hm : ∃ t, X.mg x = some (.int i t)) (hg : Gl X x := by rfl) (hd : (x == ("__debug__" : Str)) = false := by decide) : VE c X W b (.Name x pos) (vC (.int i)) := by
  obtain ⟨t, hm⟩ := hm
  exact ve_g (v := .int i) hg hm ⟨_, rfl⟩ (fun _ _ => rfl) hd
theorem ve_gs {z : Str} (hm : ∃ t, X.mg x = some (.str z t)) (hg : Gl X x := by rfl) (hd : (x == ("__debug__" : Str)) = false := by decide) : VE c X W b (.Name x pos) (vC (.str z)) := by
  obtain ⟨t, hm⟩ := hm
  exact ve_g (v := .str z) hg hm ⟨_, rfl⟩ (fun _ _ => rfl) hd
end
/-! ### what the head tells -/
def vbOf (K : PySem.W.Frag) (tf : List Defn) : Vb := ⟨K, ga K, fun P => ∃ p ∈ tf, P = (cT K p).2⟩
structure Zf (fa : List Fa) (fn : List DefD) (tf : List Defn) (ex : PySem.W.Frag → Bool) (K : PySem.W.Frag) (mg : Str → Option Value) (base : Heap) : Prop where
  ok : ∀ (i : Nat) (f : Fa), fa[i]? = some f → f.ok K = true
  df : ∀ (i : Nat) (d : DefD), fn[i]? = some d → ∃ fd, FunD K d.name d.qual d.params d.body d.scope (d.dvs K) (d.kws K) (fAd K d.at_) fd
  more : ex K = true
  X : K.In base
  G : base.Ns mainGlobals mg
  tb : ∀ p ∈ tf, GxR.TabB base mg (cT K p).1 (cT K p).2
section
variable {fa : List Fa} {fn : List DefD} {tf : List Defn} {ex : PySem.W.Frag → Bool} {K : PySem.W.Frag} {mg : Str → Option Value} {base : Heap}
theorem Zf.glo (z : Zf fa fn tf ex K mg base) (i : Nat) {x : Str} (h : fa[i]? = some (.glo x) := by rfl) : mg x = some (.ref (ga K x)) := glo_ok z.X z.G (z.ok i _ h)
theorem Zf.free (z : Zf fa fn tf ex K mg base) (i : Nat) {x : Str} (h : fa[i]? = some (.free x) := by rfl) : mg x = none := free_ok z.X z.G (z.ok i _ h)
theorem Zf.int (z : Zf fa fn tf ex K mg base) (i : Nat) {x : Str} {j : Int} (h : fa[i]? = some (.int x j) := by rfl) : ∃ t, mg x = some (.int j t) := int_ok z.X z.G (z.ok i _ h)
theorem Zf.str (z : Zf fa fn tf ex K mg base) (i : Nat) {x y : Str} (h : fa[i]? = some (.str x y) := by rfl) : ∃ t, mg x = some (.str y t) := str_ok z.X z.G (z.ok i _ h)
theorem Zf.cls (z : Zf fa fn tf ex K mg base) (i : Nat) {x : Str} (h : fa[i]? = some (.cls x) := by rfl) : Cls K (ga K x) := cls_ok (z.ok i _ h)
theorem Zf.noat (z : Zf fa fn tf ex K mg base) (i : Nat) {x f : Str} (h : fa[i]? = some (.noat x f) := by rfl) : NoAttr K (ga K x) f := noat_ok (z.ok i _ h)
theorem Zf.meth (z : Zf fa fn tf ex K mg base) (i : Nat) {x m : Str} (h : fa[i]? = some (.meth x m) := by rfl) : Meth K (ga K x) m (ma K (ga K x) m) := meth_ok (z.ok i _ h)
theorem Zf.mkr (z : Zf fa fn tf ex K mg base) (i : Nat) {x : Str} (h : fa[i]? = some (.mkr x) := by rfl) : Mk K (ga K x) (ma K (ga K x) "__init__") := mkr_ok (z.ok i _ h)
theorem Zf.exc (z : Zf fa fn tf ex K mg base) (i : Nat) {x : Str} (h : fa[i]? = some (.exc x) := by rfl) : PySem.W.excIn K (ga K x) veBase "ValueError.__new__" = true ∧ PySem.W.keepIn K (.ref (ga K x)) = true ∧ PySem.W.subIn K (.ref (ga K x)) (.type "BaseException") = some true ∧ PySem.W.typeIn K (.ref (ga K x)) = some (.type "type") := exc_ok (z.ok i _ h)
theorem Zf.exm (z : Zf fa fn tf ex K mg base) (i : Nat) {x y : Str} {b : Bool} (h : fa[i]? = some (.exm x y b) := by rfl) : PySem.W.exmOne K (.ref (ga K x)) (.ref (ga K y)) = some b := exm_ok (z.ok i _ h)
/-- the def's code object and its table -/
theorem Zf.code (z : Zf fa fn tf ex K mg base) {p : Defn} (hp : p ∈ tf) {cdv : Value} (hc : ∃ oc od osl fd, K.lookup (fAd K p) = some ⟨oc, od, .func fd, osl⟩ ∧ fd.code = cdv) (hq : ∃ (i : Nat) (q : Str), fa[i]? = some (Fa.code p q)) : cdv = .ref (cT K p).1 := by
  obtain ⟨i, q, hq⟩ := hq
  have h1 := z.ok i _ hq
  obtain ⟨oc, od, osl, fd, lk, rfl⟩ := hc
  have h2 : (match K.lookup (fAd K p) with
    | some ⟨_, _, .func fd, _⟩ => PySem.W.codeIn K fd.code q
    | _ => false) = true := h1
  rw [lk] at h2
  obtain ⟨c, e⟩ := codeIn_ref h2
  rw [e, show (cT K p).1 = codeOf K p from rfl, codeOf_eq lk e]
end
/-! ### isinstance: the table of answers -/
def Tag.dec : (a b : Tag) → Decidable (a = b)
  | .ty n, .ty m => if h : n = m then isTrue (by rw [h]) else isFalse fun e => h (by cases e; rfl)
  | .cl n, .cl m => if h : n = m then isTrue (by rw [h]) else isFalse fun e => h (by cases e; rfl)
  | .ty _, .cl _ => isFalse fun e => nomatch e
  | .cl _, .ty _ => isFalse fun e => nomatch e
instance : DecidableEq Tag := Tag.dec
def tagCls : D → Option Tag
  | .ty n => some (.ty n)
  | .con n => some (.cl n)
  | _ => none
def kfOf (l : List (Tag × Tag × Bool)) (t : Tag) (cd : D) : Option Bool := (tagCls cd).bind fun u => (l.find? fun q => decide (q.1 = t) && decide (q.2.1 = u)).map fun q => q.2.2
def tagOkB (K : PySem.W.Frag) : Tag → Bool
  | .ty _ => true
  | .cl n => (Fa.cls n).ok K && (eqO (PySem.W.findIn K (.ref (ga K n)) "__class__") (some (some (.builtin "object.__class__"))) && (eqO (PySem.W.specialIn K (.builtin "object.__class__") "__get__") (some (some (.builtin "getset_descriptor.__get__"))) &&
    (decide (PySem.W.takesIn K (.builtin "object.__class__") = some true) && decide (PySem.W.mroIn K (ga K n) (.type "object") = some true))))
def Tag.vK (K : PySem.W.Frag) : Tag → Value
  | .ty n => .type n
  | .cl n => .ref (ga K n)
def isB (K : PySem.W.Frag) (l : List (Tag × Tag × Bool)) : Bool := l.all fun q => tagOkB K q.1 && decide (PySem.W.kitOne K (q.1.vK K) (q.2.1.vK K) = some q.2.2)
theorem isB_ok {K : PySem.W.Frag} {tf : List Defn} {l : List (Tag × Tag × Bool)} (h : isB K l = true) : IsK (vbOf K tf) (kfOf l) := fun t cd b e => by
  unfold kfOf at e
  obtain ⟨u, e1, e2⟩ := Option.bind_eq_some_iff.mp e
  obtain ⟨q, e3, e4⟩ := Option.map_eq_some_iff.mp e2
  subst e4
  have hm := List.mem_of_find?_eq_some e3
  have hp := List.find?_some e3
  obtain ⟨p1, p2⟩ := ba hp
  have p1 := of_decide_eq_true p1
  have p2 := of_decide_eq_true p2
  obtain ⟨h1, h2⟩ := ba (List.all_eq_true.mp h q hm)
  have h2 := of_decide_eq_true h2
  rw [p1, p2] at h2
  refine ⟨u.vK K, ?_, ?_, fun n en => ?_⟩
  · cases cd with
    | ty n => cases e1; rfl
    | con n => cases e1; rfl
    | _ => cases e1
  · cases t <;> exact h2
  · rw [p1, en] at h1
    obtain ⟨a1, h1⟩ := ba (show ((Fa.cls n).ok K && _) = true from h1)
    obtain ⟨a2, h1⟩ := ba h1
    obtain ⟨a3, h1⟩ := ba h1
    obtain ⟨a4, a5⟩ := ba h1
    exact ⟨cls_ok a1, eqO_ok a2, eqO_ok a3, of_decide_eq_true a4, of_decide_eq_true a5⟩
/-- .. of a caught exception -/
def excCB (K : PySem.W.Frag) (n : Str) : Bool := eqO (PySem.W.findIn K (.ref (ga K n)) "__getattribute__") (some (some (.builtin "BaseException.__getattribute__"))) && (eqO (PySem.W.findIn K (.ref (ga K n)) "__getattr__") (some none) && (decide (PySem.W.subIn K (.ref (ga K n)) (.type "BaseException") = some true) &&
  (PySem.W.hasDictIn K (ga K n) && (eqO (PySem.W.findIn K (.ref (ga K n)) "__class__") (some (some (.builtin "object.__class__"))) && (eqO (PySem.W.specialIn K (.builtin "object.__class__") "__get__") (some (some (.builtin "getset_descriptor.__get__"))) &&
    (decide (PySem.W.takesIn K (.builtin "object.__class__") = some true) && decide (PySem.W.mroIn K (ga K n) (.type "object") = some true)))))))
theorem excCB_ok {K : PySem.W.Frag} {n : Str} (h : excCB K n = true) : ExcC K (ga K n) := by
  obtain ⟨a1, h⟩ := ba h
  obtain ⟨a2, h⟩ := ba h
  obtain ⟨a3, h⟩ := ba h
  obtain ⟨a4, h⟩ := ba h
  obtain ⟨a5, h⟩ := ba h
  obtain ⟨a6, h⟩ := ba h
  obtain ⟨a7, a8⟩ := ba h
  exact ⟨eqO_ok a1, eqO_ok a2, of_decide_eq_true a3, a4, eqO_ok a5, eqO_ok a6, of_decide_eq_true a7, of_decide_eq_true a8⟩
/-- entries: the exception's class, the class asked for, the answer -/
def keOf (l : List (Str × Tag × Bool)) (u : Tag) (n : Str) : Option Bool := (l.find? fun q => decide (q.1 = n) && decide (q.2.1 = u)).map fun q => q.2.2
def isEB (K : PySem.W.Frag) (l : List (Str × Tag × Bool)) : Bool := l.all fun q => excCB K q.1 && decide (PySem.W.kitOne K (.ref (ga K q.1)) (q.2.1.vK K) = some q.2.2)
theorem isEB_ok {K : PySem.W.Frag} {l : List (Str × Tag × Bool)} (h : isEB K l = true) (u : Tag) : ∀ n b, keOf l u n = some b → ExcC K (ga K n) ∧ PySem.W.kitOne K (.ref (ga K n)) (u.vK K) = some b := fun n b e => by
  unfold keOf at e
  obtain ⟨q, e3, e4⟩ := Option.map_eq_some_iff.mp e
  subst e4
  have hm := List.mem_of_find?_eq_some e3
  have hp := List.find?_some e3
  obtain ⟨p1, p2⟩ := ba hp
  have p1 := of_decide_eq_true p1
  have p2 := of_decide_eq_true p2
  obtain ⟨h1, h2⟩ := ba (List.all_eq_true.mp h q hm)
  have h2 := of_decide_eq_true h2
  rw [p1, p2] at h2
  rw [p1] at h1
  exact ⟨excCB_ok h1, h2⟩
/-- an except clause's answers: entries the exception's class and the answer -/
def kmOf (l : List (Str × Bool)) (n : Str) : Option Bool := (l.find? fun q => decide (q.1 = n)).map fun q => q.2
def exmB (K : PySem.W.Frag) (u : Tag) (l : List (Str × Bool)) : Bool := l.all fun q => decide (PySem.W.exmOne K (.ref (ga K q.1)) (u.vK K) = some q.2)
theorem exmB_ok {K : PySem.W.Frag} {u : Tag} {l : List (Str × Bool)} (h : exmB K u l = true) : ∀ n b, kmOf l n = some b → PySem.W.exmOne K (.ref (ga K n)) (u.vK K) = some b := fun n b e => by
  unfold kmOf at e
  obtain ⟨q, e3, e4⟩ := Option.map_eq_some_iff.mp e
  subst e4
  have hm := List.mem_of_find?_eq_some e3
  have hp := List.find?_some e3
  have p1 := of_decide_eq_true hp
  have h2 := of_decide_eq_true (List.all_eq_true.mp h q hm)
  rw [p1] at h2
  exact h2
end Vl

namespace Vl
open PySem PySem.Spec PyProof.Rows L2 He
def clsB : Stmt → List Stmt
  | .ClassDef (body := b) .. => b
  | _ => []
section
variable {c : Vc} {X : Cx} {W : WX} {b : Bool} {bor : List Nat} {k n : Nat} {a e e' e'' o : Expr} {es : List Expr} {fa fb fc fo : FE} {fs : FG (List Val)} {pos apos p p2 : Pos} {x m : Str}
/-! ### the words of the printed walks -/
theorem takes_W0 : Takes X W0 := fun u s' ⟨a, B, sI, pins, σ, H, cls, d, e, I, nb, up, sky, na, os, ag, w⟩ => w.elim
theorem Room.un64 (h : Room k X.A) : X.A.units + 64 < cLine := h.units
theorem x_add (ha : VE c X W b a fa) (hb : VE c X W b e fb) (hK : X.K = c.K := by rfl) : VE c X W b (.BinOp a .Add e pos) (vOp gAdd fa fb) := ve_op (r := rAddG c.K) (by rw [← hK]; exact op_addG) s_add ha hb
theorem x_sub (ha : VE c X W b a fa) (hb : VE c X W b e fb) : VE c X W b (.BinOp a .Sub e pos) (vOp gSub fa fb) := ve_op (r := rSubI) op_sub s_sub ha hb
theorem x_mul (ha : VE c X W b a fa) (hb : VE c X W b e fb) : VE c X W b (.BinOp a .Mult e pos) (vOp gMul fa fb) := ve_op op_mulG s_mul ha hb
theorem x_fdiv (ha : VE c X W b a fa) (hb : VE c X W b e fb) : VE c X W b (.BinOp a .FloorDiv e pos) (vOp gFdiv fa fb) := ve_op op_fdivN s_fdiv ha hb
theorem x_mod (ha : VE c X W b a fa) (hb : VE c X W b e fb) : VE c X W b (.BinOp a .Mod e pos) (vOp gMod fa fb) := ve_op op_modN s_mod ha hb
theorem x_pow (ha : VE c X W b a fa) (hb : VE c X W b e fb) : VE c X W b (.BinOp a .Pow e pos) (vOp gPow fa fb) := ve_op op_pow s_pow ha hb
theorem x_ix (ha : VE c X W b a fa) (hb : VE c X W b e fb) (hp : PlainIx e := by intro _ _; rfl) (hK : X.K = c.K := by rfl) : VE c X W b (.Subscript a e pos) (vOp gIx fa fb) := ve_ix (r := rIx c.K) (by rw [← hK]; exact ix_seq) s_ix ha hb hp
theorem x_cut {lo hi : Option Expr} {fl fh : FO} (ha : VE c X W b a fa) (hl : VO c X W b lo fl) (hh : VO c X W b hi fh) (hK : X.K = c.K := by rfl) : VE c X W b (.Subscript a (.Slice lo hi none p2) pos) (vSl gCutL fa fl fh) := ve_slice (r := rSlL c.K) (by rw [← hK]; exact sl_list) s_cutL ha hl hh
/-- comparisons: what the operator is -/
structure CmpG (c : Vc) (X : Cx) (op : CmpOp) (r : R2) (g : D → D → Option Val) : Prop where
  o : OpR X (compareOp op) r
  s : OpS c r g
  sg : ∀ dx dy w, g dx dy = some w → ∃ k, w = .fr (.bl k)
abbrev gLt : D → D → Option Val := iBp fun i j => decide (i < j)
abbrev gLe : D → D → Option Val := iBp fun i j => decide (i ≤ j)
abbrev gGt : D → D → Option Val := iBp fun i j => decide (j < i)
abbrev gGe : D → D → Option Val := iBp fun i j => decide (j ≤ i)
theorem c_lt : CmpG c X .Lt (rI0 fun i j => .bl (decide (i < j))) gLt := ⟨op_lt, opS_b, iBp_bl⟩
theorem c_le : CmpG c X .LtE (rI0 fun i j => .bl (decide (i ≤ j))) gLe := ⟨op_le, opS_b, iBp_bl⟩
theorem c_gt : CmpG c X .Gt (rI0 fun i j => .bl (decide (j < i))) gGt := ⟨op_gt, opS_b, iBp_bl⟩
theorem c_ge : CmpG c X .GtE (rI0 fun i j => .bl (decide (j ≤ i))) gGe := ⟨op_ge, opS_b, iBp_bl⟩
theorem map_bl {α : Type} {o : Option α} {f : α → Bool} {w : Val} (h : o.map (fun k => Val.fr (.bl (f k))) = some w) : ∃ k, w = .fr (.bl k) := by
  obtain ⟨r, _, e⟩ := Option.map_eq_some_iff.mp h
  exact ⟨_, e.symm⟩
theorem c_eq (hr : Room k X.A) (hK : X.K = c.K := by rfl) : CmpG c X .Eq (rEqD c.K) gEq := ⟨by rw [← hK]; exact op_eqD hr.units, s_eq, fun _ _ _ h => map_bl h⟩
theorem c_ne (hr : Room k X.A) (hK : X.K = c.K := by rfl) : CmpG c X .NotEq (rNeD c.K) gNe := ⟨by rw [← hK]; exact op_neD hr.units, s_ne, fun _ _ _ h => map_bl h⟩
theorem isN_bl {neg : Bool} : ∀ dx dy w, gIsN neg dx dy = some w → ∃ k, w = .fr (.bl k) := fun dx dy w h => by
  unfold gIsN at h
  split at h
  · cases h; exact ⟨_, rfl⟩
  · cases h
theorem c_is : CmpG c X .Is (fun x y H Q => y = .non ∧ Q (.bl (decide (x = .non))) H) (gIsN false) := ⟨op_isN, s_isN, isN_bl⟩
theorem c_isnot : CmpG c X .IsNot (fun x y H Q => y = .non ∧ Q (.bl (!decide (x = .non))) H) (gIsN true) := ⟨op_notN, s_notN, isN_bl⟩
variable {op op' : CmpOp} {r r' : R2} {g g' : D → D → Option Val}
theorem x_cmp (h : CmpG c X op r g) (ha : VE c X W b a fa) (hb : VE c X W b e fb) (hm : behindInMarks op e = false := by rfl) : VE c X W b (.Compare a [op] [e] pos) (vOp g fa fb) := ve_cmp h.o h.s ha hb hm
theorem t_cmp (h : CmpG c X op r g) (ha : VE c X W b a fa) (hb : VE c X W b e fb) (hm : behindInMarks op e = false := by rfl) : VT c X W b (.Compare a [op] [e] pos) (bnd (vOp g fa fb) asB) := vt_cmp h.o h.s ha hb hm
theorem x_ch (h : CmpG c X op r g) (h' : CmpG c X op' r' g') (ha : VE c X W b a fa) (hb : VE c X W b e fb) (hc : VE c X W b e' fc) (hm : lastMarks [op, op'] [e, e'] = false := by with_unfolding_all rfl) : VE c X W b (.Compare a [op, op'] [e, e'] pos) (vCh g g' fa fb fc) := ve_chain h.o h'.o h.s h'.s ha hb hc h.sg hm
theorem t_ch (h : CmpG c X op r g) (h' : CmpG c X op' r' g') (ha : VE c X W b a fa) (hb : VE c X W b e fb) (hc : VE c X W b e' fc) (hm : lastMarks [op, op'] [e, e'] = false := by with_unfolding_all rfl) : VT c X W b (.Compare a [op, op'] [e, e'] pos) (bnd (vCh g g' fa fb fc) asB) := vt_chain h.o h'.o h.s h'.s ha hb hc h.sg hm
theorem t_tru (ha : VE c X W b a fa) (hK : X.K = c.K := by rfl) (he : ∀ whole, isTrue a X.env whole = (do let v ← whole; standAt a.pos; holding [v] (truthy v)) := by intro _; rfl) : VT c X W b a (bnd fa asT) := vt_tru hK ha he
/-! -x -/
def vUn (g : D → Option Val) (fa : FE) : FE := bnd fa (v1 g)
def gNeg : D → Option Val
  | .int i => some (.fr (.int (-i)))
  | _ => none
theorem x_neg (ha : VE c X W b a fa) : VE c X W b (.UnaryOp .USub a pos) (vUn gNeg fa) := by
  obtain ⟨ta, pa, oa⟩ := ha
  refine ⟨_, pe_un un_neg pa, fun O fp H ρ σ Q S h => oa.thn S.tr S .refl (fun _ => .refl) h id fun w ρ1 u H1 O1 fp1 g1 _ S1 E1 _ I1 R1 F1 h1 => ?_⟩
  cases e1 : w1 gNeg w ρ1 with
  | none => simp only [v1, e1] at h1; exact h1.elim
  | some w' =>
    simp only [v1, e1] at h1
    obtain ⟨d, h2, h3⟩ := Option.bind_eq_some_iff.mp e1
    have pk := R1.vw S1 h2
    cases d with
    | int i =>
      cases h3
      exact ⟨i, pk, Post.pr h1 S.tr S1 E1 I1 (.same rfl)⟩
    | _ => cases h3
/-! built-ins -/
theorem x_len (hm : X.mg "len" = none) (ha : VA c X W b [e] fs) (hg : Gl X "len" := by rfl) (hK : X.K = c.K := by rfl) (he : starEach (e :: []) X.env = (false, eval e X.env) :: starEach [] X.env := by rfl) : VE c X W b (.Call (.Name "len" p) [e] [] pos) (vCall gLen fs) :=
  ve_callB (r := fun xs H Q => ∃ x n, xs = [x] ∧ LenV c.K x H n ∧ Q (.int n) H) (by rw [← hK]; exact call_len) s_len hg hm boot_len ha (by decide) (by decide) he
theorem x_int (hm : X.mg "int" = none) (ha : VA c X W b [e] fs) (hg : Gl X "int" := by rfl) (he : starEach (e :: []) X.env = (false, eval e X.env) :: starEach [] X.env := by rfl) : VE c X W b (.Call (.Name "int" p) [e] [] pos) (vCall gInt fs) :=
  ve_callT call_int1 s_int hg hm boot_int ha (by decide) (by decide) he
theorem x_list (hm : X.mg "list" = none) (ha : VA c X W b [e] fs) (hg : Gl X "list" := by rfl) (hK : X.K = c.K := by rfl) (he : starEach (e :: []) X.env = (false, eval e X.env) :: starEach [] X.env := by rfl) : VE c X W b (.Call (.Name "list" p) [e] [] pos) (vCall gList fs) :=
  ve_callT (r := fun xs H Q => ∃ p ys, xs = [.ref p] ∧ (SqL c.K H p ys ∨ SqT c.K H p ys) ∧ ∀ l, H l = none → Q (.ref l) (upd H l (.lst ys))) (by rw [← hK]; exact call_list_of) s_list hg hm boot_list ha (by decide) (by decide) he
theorem x_tuple (hm : X.mg "tuple" = none) (ha : VA c X W b [e] fs) (hg : Gl X "tuple" := by rfl) (hK : X.K = c.K := by rfl) (he : starEach (e :: []) X.env = (false, eval e X.env) :: starEach [] X.env := by rfl) : VE c X W b (.Call (.Name "tuple" p) [e] [] pos) (vCall gTuple fs) :=
  ve_callT (r := fun xs H Q => ∃ p ys, xs = [.ref p] ∧ ((SqL c.K H p ys ∧ ∀ l, H l = none → Q (.ref l) (upd H l (.tup ys))) ∨ (SqT c.K H p ys ∧ Q (.ref p) H))) (by rw [← hK]; exact call_tuple_of) s_tuple hg hm boot_tuple ha (by decide) (by decide) he
theorem bt_min : bootBuiltins "min" = some (.builtin "min") := by decide +kernel
theorem bt_max : bootBuiltins "max" = some (.builtin "max") := by decide +kernel
theorem bt_isi : bootBuiltins "isinstance" = some (.builtin "isinstance") := by decide +kernel
theorem bt_all : bootBuiltins "all" = some (.builtin "all") := by decide +kernel
theorem x_min (hc : X.calm = true) (hm : X.mg "min" = none) (ha : VA c X W b [e, e'] fs) (hg : Gl X "min" := by rfl) (he : starEach (e :: [e']) X.env = (false, eval e X.env) :: starEach [e'] X.env := by rfl) (hpl : (backTo pos (starEach [e'] X.env)).any (·.1) = false := by rfl) : VE c X W b (.Call (.Name "min" p) [e, e'] [] pos) (vCall gMin fs) :=
  ve_callB (call_min2 hc) s_min hg hm bt_min ha (by decide) (by decide) he hpl
theorem x_max (hc : X.calm = true) (hm : X.mg "max" = none) (ha : VA c X W b [e, e'] fs) (hg : Gl X "max" := by rfl) (he : starEach (e :: [e']) X.env = (false, eval e X.env) :: starEach [e'] X.env := by rfl) (hpl : (backTo pos (starEach [e'] X.env)).any (·.1) = false := by rfl) : VE c X W b (.Call (.Name "max" p) [e, e'] [] pos) (vCall gMax fs) :=
  ve_callB (call_max2 hc) s_max hg hm bt_max ha (by decide) (by decide) he hpl
theorem x_isi {kf : Tag → D → Option Bool} (hk : IsK c kf) (hm : X.mg "isinstance" = none) (ha : VA c X W b [e, e'] fs) (hg : Gl X "isinstance" := by rfl) (hK : X.K = c.K := by rfl) (he : starEach (e :: [e']) X.env = (false, eval e X.env) :: starEach [e'] X.env := by rfl) (hpl : (backTo pos (starEach [e'] X.env)).any (·.1) = false := by rfl) :
    VE c X W b (.Call (.Name "isinstance" p) [e, e'] [] pos) (vCall (gIsi kf) fs) :=
  ve_callB (r := rIsi c.K) (by rw [← hK]; exact call_isi) (s_isi hk) hg hm bt_isi ha (by decide) (by decide) he hpl
theorem x_append (ho : VE c X W false o fo) (ha : VA c X W false [e] fs) (hbase : attributeBase o "append" X.env (eval o X.env) = eval o X.env := by rfl) (hline : (apos.endLine == p.line) = true := by rfl) (hs : starEach (e :: []) X.env = (false, eval e X.env) :: starEach [] X.env := by rfl)
    (hfew : ((backTo p (starEach (e :: []) X.env)).all (fun x => !x.1) && (backToKw p (keywordEach [] X.env)).all (fun x => x.1.isSome)
      && decide ((e :: []).length + ([] : List Keyword).length + (if ([] : List Keyword).isEmpty then 0 else 1) < 30)) = true := by rfl) (hpl : (backTo p (starEach [] X.env)).any (·.1) = false := by rfl) : VE c X W false (.Call (.Attribute o "append" apos) [e] [] p) (vMu muAppend fo fs) :=
  ve_mu PySem.F.slot_list_append PySem.F.type_list_append mt_append s_append ho ha hbase hfew hline hs hpl
theorem x_seL {i : Expr} {fi : FE} (ha : VE c X W false a fa) (ho : VE c X W false o fo) (hi : VE c X W false i fi)
    (h0 : ∀ v, assign (.Subscript o i p2) X.env v = (do
      let ov ← holding [v] (eval o X.env)
      let iv ← holding [v, ov] (eval i X.env)
      standAt p2
      holding [v, ov, iv] (setItem ov iv v)
      release [v, ov, iv] []) := by intro _; rfl)
    (h1 : swapsWithSole [.Subscript o i p2] a pos.line X.env = pure false := by rfl) (h2 : swappedStores [.Subscript o i p2] a X.env = pure none := by rfl)
    (h3 : (assignEach [.Subscript o i p2] X.env).map (·.2) = [assign (.Subscript o i p2) X.env] := by rfl) : VS c X W bor (.Assign [.Subscript o i p2] a pos) (sSe seL fa fo fi) := vs_se set_list s_seL ha ho hi h0 h1 h2 h3
/-! comprehensions -/
theorem x_lc {elt tg iter : Expr} {ifs : List Expr} {scope : Scope} {own : List (Str × Nat)} {fi : FG (List D)} {gt : FT} {ft : FG Bool} {fe : FE} {vs : List Nat} (n : Nat) (hN : X.N.Nodup) (hv : own.map (·.2) = vs) (hi : VI c X W tg iter fi) (ok : blkC X.N X.env.scope scope own = true) (hgl : GLen gt)
    (hg : ∀ (s : Shared) (H : Hp) (C : Addr) (cl : List (Str × Addr)) (fp : List Addr), VG c (X.blk s H scope (compEnvC scope cl C X.env) fp) (others n vs) tg gt)
    (ht : ∀ (s : Shared) (H : Hp) (C : Addr) (cl : List (Str × Addr)) (fp : List Addr), VTs c (X.blk s H scope (compEnvC scope cl C X.env) fp) W0 false ifs ft)
    (he : ∀ (s : Shared) (H : Hp) (C : Addr) (cl : List (Str × Addr)) (fp : List Addr), VE c (X.blk s H scope (compEnvC scope cl C X.env) fp) W0 false elt fe)
    (hc : X.calm = true := by rfl) (hxs : ∀ v ∈ vs, v ∉ c.xs.map (·.i) := by exact nmAll rfl) (hs : ∀ x, foldedSetIterable iter X.env x = pure x := by intro _; rfl) : VE c X W false (.ListComp elt [⟨tg, iter, ifs, 0⟩] scope pos) (vLc n vs fi gt ft fe) := by
  subst hv
  exact ve_lc n hc hN hi (blkOk_by ok) hgl hg ht he hxs hs
theorem x_setLc {elt tg iter : Expr} {ifs : List Expr} {scope : Scope} {own : List (Str × Nat)} {fi : FG (List D)} {gt : FT} {ft : FG Bool} {fe : FE} {vs : List Nat} {i : Nat} {y : Str} {py spos : Pos} (n : Nat) (hN : X.N.Nodup) (hv : own.map (·.2) = vs) (hi : VI c X W tg iter fi) (ok : blkC X.N X.env.scope scope own = true) (hgl : GLen gt)
    (hg : ∀ (s : Shared) (H : Hp) (C : Addr) (cl : List (Str × Addr)) (fp : List Addr), VG c (X.blk s H scope (compEnvC scope cl C X.env) fp) (others n vs) tg gt)
    (ht : ∀ (s : Shared) (H : Hp) (C : Addr) (cl : List (Str × Addr)) (fp : List Addr), VTs c (X.blk s H scope (compEnvC scope cl C X.env) fp) W0 false ifs ft)
    (he : ∀ (s : Shared) (H : Hp) (C : Addr) (cl : List (Str × Addr)) (fp : List Addr), VE c (X.blk s H scope (compEnvC scope cl C X.env) fp) W0 false elt fe)
    (hy : X.N[i]? = some y := by rfl) (hyl : X.env.scope.names.lookup y = some .local := by rfl) (hsw : swapsWith (.ListComp elt [⟨tg, iter, ifs, 0⟩] scope pos) (some (.Name y py)) spos.line X.env = pure true := by exact sw_true rfl rfl rfl rfl)
    (hc : X.calm = true := by rfl) (hb : i ∉ bor := by decide) (hxi : i ∉ c.xs.map (·.i) := by exact nmIn rfl) (hxs : ∀ v ∈ vs, v ∉ c.xs.map (·.i) := by exact nmAll rfl) (hs : ∀ x, foldedSetIterable iter X.env x = pure x := by intro _; rfl) : VS c X W bor (.Assign [.Name y py] (.ListComp elt [⟨tg, iter, ifs, 0⟩] scope pos) spos) (sSet i (vLc n vs fi gt ft fe)) := by
  subst hv
  exact vs_setLc n hc hN hy hyl hsw hi (blkOk_by ok) hgl hg ht he hb hxi hxs hs
/-! what a suite asks of its exception -/
variable {a' : Addr} {oe : Obj} {d : Option Addr} {q : Option (Addr × List (Str × V) × List (Str × D))} {pn : List (Addr × Obj)} {y : Exn} {nm cn : Str} {i : Nat} {p1 : Pos}
theorem x_isEg {g : Str → Option Bool} (hz : Zc (.ref (c.cl y.n)) d oe) (hf : ∃ vs, oe.data = .fields vs) (h1 : ∀ l, q = some l → d = some l.1 ∧ l.2.2 = y.fs ∧ y.fs ≠ []) (h2 : q = none → y.fs = [] ∧ d = none) (hm : X.mg cn = some (.ref (c.cl cn))) (gm : X.mg "isinstance" = none)
    (hg : ∀ n b, g n = some b → ExcC c.K (c.cl n) ∧ PySem.W.kitOne c.K (.ref (c.cl n)) (.ref (c.cl cn)) = some b) (hK : X.K = c.K := by rfl) (hN : X.N[i]? = some nm := by rfl) (hv : Vis X.env.scope nm := by first | exact Or.inl rfl | exact Or.inr (Or.inl rfl)) (gl : Gl X "isinstance" := by rfl) (gc : Gl X cn := by rfl)
    (hd : (nm == ("__debug__" : Str)) = false := by decide) (hcd : (nm == ("__classdict__" : Str)) = false := by decide) (hdc : (cn == ("__debug__" : Str)) = false := by decide)
    (he : starEach [.Name nm p1, .Name cn p2] X.env = (false, eval (.Name nm p1) X.env) :: starEach [.Name cn p2] X.env := by rfl) (he2 : starEach [.Name cn p2] X.env = (false, eval (.Name cn p2) X.env) :: starEach [] X.env := by rfl) (hpl : (backTo pos (starEach [.Name cn p2] X.env)).any (·.1) = false := by rfl) :
    VE ⟨c.toVb, ⟨i, a', q⟩ :: c.xs⟩ (X.suite a' ((a', oe) :: pn)) W b (.Call (.Name "isinstance" p) [.Name nm p1, .Name cn p2] [] pos) (vIsE g y) :=
  ve_isE (u := .ref (c.cl cn)) hK hz hf h1 h2 hN hv (pe_glob (X := X.suite a' ((a', oe) :: pn)) (v := .ref (c.cl cn)) gc hm rfl hdc) (fun _ h => h) hg gl gm bt_isi hd hcd he he2 hpl
theorem x_isEt {g : Str → Option Bool} {T : String} (hz : Zc (.ref (c.cl y.n)) d oe) (hf : ∃ vs, oe.data = .fields vs) (h1 : ∀ l, q = some l → d = some l.1 ∧ l.2.2 = y.fs ∧ y.fs ≠ []) (h2 : q = none → y.fs = [] ∧ d = none) (hm : X.mg cn = none) (gm : X.mg "isinstance" = none) (hbt : bootBuiltins cn = some (.type T))
    (hg : ∀ n b, g n = some b → ExcC c.K (c.cl n) ∧ PySem.W.kitOne c.K (.ref (c.cl n)) (.type T) = some b) (hK : X.K = c.K := by rfl) (hN : X.N[i]? = some nm := by rfl) (hv : Vis X.env.scope nm := by first | exact Or.inl rfl | exact Or.inr (Or.inl rfl)) (gl : Gl X "isinstance" := by rfl) (gc : Gl X cn := by rfl)
    (hd : (nm == ("__debug__" : Str)) = false := by decide) (hcd : (nm == ("__classdict__" : Str)) = false := by decide) (hdc : (cn == ("__debug__" : Str)) = false := by decide) (hnn : cn ≠ "__name__" := by decide)
    (he : starEach [.Name nm p1, .Name cn p2] X.env = (false, eval (.Name nm p1) X.env) :: starEach [.Name cn p2] X.env := by rfl) (he2 : starEach [.Name cn p2] X.env = (false, eval (.Name cn p2) X.env) :: starEach [] X.env := by rfl) (hpl : (backTo pos (starEach [.Name cn p2] X.env)).any (·.1) = false := by rfl) :
    VE ⟨c.toVb, ⟨i, a', q⟩ :: c.xs⟩ (X.suite a' ((a', oe) :: pn)) W b (.Call (.Name "isinstance" p) [.Name nm p1, .Name cn p2] [] pos) (vIsE g y) :=
  ve_isE (u := .ty T) hK hz hf h1 h2 hN hv (pe_bltn (X := X.suite a' ((a', oe) :: pn)) (v := .ty T) gc hm hbt rfl hnn hdc) (fun _ h => h) hg gl gm bt_isi hd hcd he he2 hpl
/-! generator expressions without captured names -/
def gen0 (scope : Scope) (x : Str) : Bool := (match scope.kind with | .function => true | _ => false) && (!scope.isCoroutine && ((scope.names.all fun y => match y.2 with | .cell => false | .free => false | _ => true) && (decide (scope.names.lookup (".0" : Str) = some NameKind.local) && decide (scope.names.lookup x = some NameKind.local))))
theorem gen0_ok {scope : Scope} {x : Str} (h : gen0 scope x = true) : GxR.GenS X.env scope x ∧ FreeOk X scope := by
  obtain ⟨a1, h⟩ := ba h
  obtain ⟨a2, h⟩ := ba h
  obtain ⟨a3, h⟩ := ba h
  obtain ⟨a4, a5⟩ := ba h
  have nc : ∀ y ∈ scope.names, y.2 ≠ .cell := fun y hy e => by
    have q := List.all_eq_true.mp a3 y hy
    rw [e] at q
    cases q
  have nf : ∀ y ∈ scope.names, y.2 ≠ .free := fun y hy e => by
    have q := List.all_eq_true.mp a3 y hy
    rw [e] at q
    cases q
  refine ⟨⟨?_, by simpa using a2, nc, of_decide_eq_true a4, of_decide_eq_true a5, fun y hy e => absurd e (nf y hy)⟩, fun y hy e => absurd e (nf y hy)⟩
  split at a1
  · assumption
  · cases a1
theorem x_all0 {elt iter : Expr} {fe : Env → D → Option D} {cd P : Addr} {px gpos : Pos} {scope : Scope} (hr : Room k X.A) (hm : X.mg "all" = none) (TB : GxR.TabB X.base X.mg cd P) (hcode : X.env.code = .ref cd) (hP : c.tb P) (hg : gen0 scope x = true)
    (ha : VE c X W b iter fa) (hel : VQ c X scope x elt fe) (gl : Gl X "all" := by rfl) (hs : ∀ v, genFold iter X.env v = pure v := by intro _; rfl)
    (he : starEach [.GeneratorExp elt [⟨.Name x px, iter, [], 0⟩] scope gpos] X.env = (false, eval (.GeneratorExp elt [⟨.Name x px, iter, [], 0⟩] scope gpos) X.env) :: starEach [] X.env := by rfl) :
    VE c X W b (.Call (.Name "all" p) [.GeneratorExp elt [⟨.Name x px, iter, [], 0⟩] scope gpos] [] pos) (vAll fe fa) := ve_all hr gl hm bt_all TB hcode hP (gen0_ok hg).2 (gen0_ok hg).1 ha hel hs he
theorem x_any0 {elt iter : Expr} {fe : Env → D → Option D} {cd P : Addr} {px gpos : Pos} {scope : Scope} (hr : Room k X.A) (hm : X.mg "any" = none) (TB : GxR.TabB X.base X.mg cd P) (hcode : X.env.code = .ref cd) (hP : c.tb P) (hg : gen0 scope x = true)
    (ha : VE c X W b iter fa) (hel : VQ c X scope x elt fe) (gl : Gl X "any" := by rfl) (hs : ∀ v, genFold iter X.env v = pure v := by intro _; rfl)
    (he : starEach [.GeneratorExp elt [⟨.Name x px, iter, [], 0⟩] scope gpos] X.env = (false, eval (.GeneratorExp elt [⟨.Name x px, iter, [], 0⟩] scope gpos) X.env) :: starEach [] X.env := by rfl) :
    VE c X W b (.Call (.Name "any" p) [.GeneratorExp elt [⟨.Name x px, iter, [], 0⟩] scope gpos] [] pos) (vAny fe fa) := ve_any hr gl hm TB hcode hP (gen0_ok hg).2 (gen0_ok hg).1 ha hel hs he
end
end Vl

namespace Vl
open PySem PySem.Spec PyProof.Rows L2 He
/-- the law's end -/
theorem law_end {l : PySem.W.OpenLaw} {w : World} {K : PySem.W.Frag} {fas : List Fa} {fns : List DefD} {ts : List Tab} {tfs : List Defn} {exs : PySem.W.Frag → Bool} {h : Heap} {mg : Str → Option Value} {fa : Addr} {L i j : Nat} {d : DefD} {x nm : Str} {F : FF}
    (c : SaysX fas fns ts tfs exs w h K) (X : K.In h) (G : h.Ns mainGlobals mg) (hmg : mg nm = some (.ref fa)) (hi : fns[i]? = some d) (hj : fas[j]? = some (.glo nm)) (hat : d.at_ = (nm, none)) (hdf : d.dfl = [])
    (hb : ∀ (kV doc pm : Value) (an : Option Addr) (cdv ct : Value) (us : List Value), us.length = 1 → bindArgs (PySem.W.fnOf d.name d.qual d.params d.body d.scope .none kV doc pm an cdv ct) ⟨us, []⟩ = pure ([x].zip us))
    (ok : ∀ base : Heap, Zf fas fns tfs exs K mg base → DOk l.prog w (vbOf K tfs) mg base L (fAd K (nm, none)) [x] 1 F)
    (law : ∀ ns : List Int, ns.length ≤ 63 → (∀ z ∈ ns, Builtin.Int.intBits z ≤ 1048576) → ∃ ts', F [.fr (.klst (ns.map .int))] = some (.ret (.fr (.bl true)) ts')) : LamX.LawAtS l w K (L2.CX l.prog w) L 63 x mg fa h := by
  have sd : SaysD fas fns K := c.t.d
  obtain ⟨fd, Fd⟩ := sd.def_ i hi
  have e := hmg.symm.trans (glo_ok X G (sd.fact j hj))
  cases e
  have Fd' : FunD K d.name d.qual d.params d.body d.scope [] (d.kws K) (fAd K d.at_) fd := by
    have e : d.dvs K = [] := by unfold DefD.dvs; rw [hdf]; rfl
    rw [← e]
    exact Fd
  have mem : ∀ p ∈ tfs.map (cT K), ∃ q ∈ tfs, p = cT K q := fun p hp => by
    obtain ⟨q, h1, h2⟩ := List.mem_map.mp hp
    exact ⟨q, h1, h2.symm⟩
  refine ⟨fd, tfs.map (cT K), spV (vbOf K tfs) 1 F, fun p hp => ?_, fun p hp => ?_, fun p hp => ?_, fun s u => Fd'.bindsA (ps := [x]) hb s [u] rfl, fun H a ns hl hz hT hS => ?_, fun base KX Gb TB => ?_⟩
  · obtain ⟨q, hq, rfl⟩ := mem p hp
    exact c.empty q hq
  · obtain ⟨q, hq, rfl⟩ := mem p hp
    exact c.out q hq
  · obtain ⟨q, hq, rfl⟩ := mem p hp
    exact PySem.W.codeHd_of_K X (c.hd q hq)
  · obtain ⟨ts', e⟩ := law ns hl hz
    have rd : RDs (vbOf K tfs) (fun _ => False) H (ns.map .int) (ns.map V.int) := by
      clear hl hz e hS
      induction ns with
      | nil => exact (rfl : ([] : List V) = [])
      | cons n ns ih => exact ⟨.int n, _, rfl, rfl, ih⟩
    have kl : RD (vbOf K tfs) (fun _ => False) H (.klst (ns.map .int)) (.ref a) := by
      refine ⟨a, ns.map V.int, rfl, ?_, rd⟩
      rcases hS with q | q
      · refine .inr ⟨?_, fun z => z⟩
        rcases q with q | ⟨o, q⟩
        · rw [q]; rfl
        · rw [q]; rfl
      · exact .inl q
    refine ⟨rfl, fun _ => False, [], [.fr (.klst (ns.map .int))], ⟨.ref a, [], [], [], rfl, ⟨kl, rfl⟩, ⟨rfl, rfl⟩, rfl⟩, .nil, fun _ q => (by cases q), fun _ q => q.elim, fun P hP => ?_, ?_⟩
    · obtain ⟨p, hp, rfl⟩ := hP
      exact ⟨#[], hT (cT K p) (List.mem_map.mpr ⟨p, hp, rfl⟩), trivial⟩
    · rw [e]
      intro u H' O' fp' g _ _ _ _ _ _ r _
      exact r.1
  · have z : Zf fas fns tfs exs K mg base := ⟨fun i f h => sd.fact i h, fun i d h => sd.def_ i h, c.more, KX, Gb, fun p hp => by
      have t := TB (cT K p) (List.mem_map.mpr ⟨p, hp, rfl⟩)
      exact ⟨t.code, t.bm, t.gP⟩⟩
    obtain ⟨⟨fd', Fk, _, oc, od, osl, lk⟩, _⟩ := ok base z
    obtain ⟨oc2, od2, _, _, _, _, _, _, _, osl2, _, lk2, _⟩ := Fd.ex
    rw [hat] at lk2
    have e := lk.symm.trans lk2
    cases e
    exact Fk
theorem cx_no {P : Program} {w : World} {H : Hp} {s : Shared} {e : Value} {s' : Shared} (h : L2.CX P w [] H s (fun _ _ _ => False) e s') : False := by
  obtain ⟨_, _, _, _, _, _, _, _, _, _, _, _, q⟩ := h
  exact q
end Vl

namespace Vl
open PySem PySem.Spec PyProof.Rows L2 He
/-! ### how the functions over values go, for simp -/
section
variable {α β : Type} {f : FG α} {k : α → FG β} {ρ : Env} {fa fb fc fo : FE} {fs : FG (List Val)} {g g' : D → D → Option Val} {ft fu : FG Bool} {p q : FS}
@[simp] theorem e_bnd : bnd f k ρ = match f ρ with | none => none | some (.exc x ρ') => some (.exc x ρ') | some (.val a ρ') => k a ρ' := rfl
@[simp] theorem e_ret {a : α} : Vl.ret a ρ = some (.val a ρ) := rfl
@[simp] theorem e_c {d : D} : vC d ρ = some (.val (.fr d) ρ) := rfl
@[simp] theorem e_v {i : Nat} : vV i ρ = match ρ[i]? with | some (some (.fr d)) => some (.val (.fr d) ρ) | some (some _) => some (.val (.al i) ρ) | _ => none := rfl
@[simp] theorem e_v2 {x y : Val} : v2 g x y ρ = match w2 g x y ρ with | some w => some (.val w ρ) | none => none := rfl
@[simp] theorem e_w2 {x y : Val} : w2 g x y ρ = (vw ρ x).bind fun dx => (vw ρ y).bind fun dy => g dx dy := rfl
@[simp] theorem e_op : vOp g fa fb = bnd fa fun x => bnd fb fun y => v2 g x y := rfl
@[simp] theorem e_vw_fr {d : D} : vw ρ (.fr d) = some d := rfl
@[simp] theorem e_vw_nw {t : T} : vw ρ (.nw t) = t.pk := rfl
@[simp] theorem e_vw_al {i : Nat} : vw ρ (.al i) = match ρ[i]? with | some (some t) => t.pk | _ => none := rfl
@[simp] theorem e_pk_fr {d : D} : (T.fr d).pk = some d := rfl
@[simp] theorem e_pk_lst {xs : List D} : (T.lst xs).pk = some (.lst xs) := rfl
@[simp] theorem e_pk_dK {xs : List (Key × D)} : (T.dK xs).pk = some (.dK xs) := rfl
@[simp] theorem e_fz_fr {d : D} : fz (.fr d) = some d := rfl
@[simp] theorem e_fz_nw {t : T} : fz (.nw t) = some t.toD := rfl
@[simp] theorem e_fz_al {i : Nat} : fz (.al i) = none := rfl
@[simp] theorem e_toD_fr {d : D} : (T.fr d).toD = d := by rw [T.toD]
@[simp] theorem e_toD_lst {xs : List D} : (T.lst xs).toD = .lst xs := by rw [T.toD]
@[simp] theorem e_toD_dK {xs : List (Key × D)} : (T.dK xs).toD = .dK xs := by rw [T.toD]
@[simp] theorem e_toD_obj {n : Str} {xs : List (Str × T)} : (T.obj n xs).toD = .obj n (T.toDf xs) := by rw [T.toD]
@[simp] theorem e_toDf_nil : T.toDf [] = [] := by rw [T.toDf]
@[simp] theorem e_toDf_cons {n : Str} {t : T} {xs : List (Str × T)} : T.toDf ((n, t) :: xs) = (n, t.toD) :: T.toDf xs := by rw [T.toDf]
@[simp] theorem e_asB {b : Bool} : asB (.fr (.bl b)) ρ = some (.val b ρ) := rfl
@[simp] theorem e_asT {x : Val} : asT x ρ = match (vw ρ x).bind dTru with | some k => some (.val k ρ) | none => none := rfl
@[simp] theorem e_tru_bl {b : Bool} : dTru (.bl b) = some b := rfl
@[simp] theorem e_tru_int {i : Int} : dTru (.int i) = some (i != 0) := rfl
@[simp] theorem e_tru_lst {xs : List D} : dTru (.lst xs) = some (!xs.isEmpty) := rfl
@[simp] theorem e_tru_non : dTru .non = some false := rfl
@[simp] theorem e_and : vAnd ft fu = bnd ft fun k => if k then fu else Vl.ret false := rfl
@[simp] theorem e_or : vOr ft fu = bnd ft fun k => if k then Vl.ret true else fu := rfl
@[simp] theorem e_not : vNot ft = bnd ft fun k => Vl.ret (!k) := rfl
@[simp] theorem e_andV : vAndV fa fb = bnd (bnd fa asB) fun k => if k then fb else Vl.ret (.fr (.bl false)) := rfl
@[simp] theorem e_orV : vOrV fa fb = bnd (bnd fa asB) fun k => if k then Vl.ret (.fr (.bl true)) else fb := rfl
@[simp] theorem e_notV : vNotV fa = bnd (bnd fa asB) fun k => Vl.ret (.fr (.bl (!k))) := rfl
@[simp] theorem e_if : vIf ft fa fb = bnd ft fun k => if k then fa else fb := rfl
@[simp] theorem e_ch : vCh g g' fa fb fc = bnd fa fun x => bnd fb fun y => bnd (v2 g x y) fun z => bnd (asB z) fun k => if k then bnd fc fun w => v2 g' y w else Vl.ret (.fr (.bl false)) := rfl
@[simp] theorem e_nil : vNil = Vl.ret [] := rfl
@[simp] theorem e_cons : vCons fa fs = bnd fa fun x => bnd fs fun xs => Vl.ret (x :: xs) := rfl
@[simp] theorem e_call {h : List D → Option Val} : vCall h fs = bnd fs fun ws => vn h ws := rfl
@[simp] theorem e_vn {h : List D → Option Val} {ws : List Val} : vn h ws ρ = match (vws ρ ws).bind h with | some w => some (.val w ρ) | none => none := rfl
@[simp] theorem e_vws_nil : vws ρ [] = some [] := rfl
@[simp] theorem e_vws_cons {w : Val} {ws : List Val} : vws ρ (w :: ws) = (vw ρ w).bind fun d => (vws ρ ws).map fun ds => d :: ds := rfl
@[simp] theorem e_fzs_nil : fzs [] = some [] := rfl
@[simp] theorem e_fzs_cons {w : Val} {ws : List Val} : fzs (w :: ws) = (fz w).bind fun d => (fzs ws).map fun ds => d :: ds := rfl
@[simp] theorem e_lst : vLst fs = bnd fs kLst := rfl
@[simp] theorem e_tup : vTup fs = bnd fs kTup := rfl
@[simp] theorem e_klst {ws : List Val} : kLst ws ρ = match fzs ws with | some ds => if ds.length ≤ 1000 then some (.val (.nw (.lst ds)) ρ) else none | none => none := rfl
@[simp] theorem e_ktup {ws : List Val} : kTup ws ρ = match fzs ws with | some ds => if ds.length ≤ 1000 then some (.val (.fr (.tup ds)) ρ) else none | none => none := rfl
@[simp] theorem e_un {h : D → Option Val} : vUn h fa = bnd fa (v1 h) := rfl
@[simp] theorem e_v1 {h : D → Option Val} {x : Val} : v1 h x ρ = match (vw ρ x).bind h with | some w => some (.val w ρ) | none => none := rfl
@[simp] theorem e_fld {nm fl : Str} : vFld nm fl fa = bnd fa (v1 (dFld nm fl)) := rfl
@[simp] theorem e_seq : sSeq p q ρ = onNx (p ρ) q := rfl
@[simp] theorem e_on_nx {k : FS} : onNx (some (.nx ρ)) k = k ρ := rfl
@[simp] theorem e_on_ret {k : FS} {w : Val} : onNx (some (.ret w ρ)) k = some (.ret w ρ) := rfl
@[simp] theorem e_on_exc {k : FS} {x : Exn} : onNx (some (.exc x ρ)) k = some (.exc x ρ) := rfl
@[simp] theorem e_on_brk {k : FS} : onNx (some (.brk ρ)) k = some (.brk ρ) := rfl
@[simp] theorem e_on_cnt {k : FS} : onNx (some (.cnt ρ)) k = some (.cnt ρ) := rfl
@[simp] theorem e_sNil : sNil ρ = some (.nx ρ) := rfl
@[simp] theorem e_exS {k : α → FS} : exS f k ρ = match f ρ with | none => none | some (.exc x ρ') => some (.exc x ρ') | some (.val a ρ') => k a ρ' := rfl
@[simp] theorem e_sSet {i : Nat} : sSet i fa = exS fa (kSet i) := rfl
@[simp] theorem e_sSetF {i : Nat} : sSetF i fa = exS fa (kSetF i) := rfl
@[simp] theorem e_kSet_fr {i : Nat} {d : D} : kSet i (.fr d) ρ = if i < ρ.length then some (.nx (ρ.set i (some (.fr d)))) else none := rfl
@[simp] theorem e_kSet_nw {i : Nat} {t : T} : kSet i (.nw t) ρ = if i < ρ.length then some (.nx (ρ.set i (some t))) else none := rfl
@[simp] theorem e_kSetF {i : Nat} {w : Val} : kSetF i w ρ = if i < ρ.length then match fz w with | some d => some (.nx (ρ.set i (some (.fr d)))) | none => none else none := rfl
@[simp] theorem e_sIf : sIf ft p q = exS ft fun k => if k then p else q := rfl
@[simp] theorem e_sRet : sRet fa = exS fa fun w ρ => some (.ret w ρ) := rfl
@[simp] theorem e_sDrop : sDrop fa = exS fa fun _ => sNil := rfl
@[simp] theorem e_sRaise {n : Str} : sRaise n ρ = some (.exc ⟨n, []⟩ ρ) := rfl
@[simp] theorem e_mu {h : T → List D → Option (D × T)} : vMu h fo fs = bnd fo fun x ρ => if isOwnL x ρ then bnd fs (fun ws => kMu h x ws) ρ else none := rfl
@[simp] theorem e_isOwnL {i : Nat} : isOwnL (.al i) ρ = match ρ[i]? with | some (some (.lst _)) => true | _ => false := rfl
@[simp] theorem e_kMu {h : T → List D → Option (D × T)} {i : Nat} {ws : List Val} : kMu h (.al i) ws ρ = match ρ[i]?, fzs ws with | some (some t), some ds => (match h t ds with | some (w, t') => some (.val (.fr w) (ρ.set i (some t'))) | none => none) | _, _ => none := rfl
@[simp] theorem e_append {xs : List D} {d : D} : muAppend (.lst xs) [d] = if szL xs.length then some (.non, .lst (xs ++ [d])) else none := rfl
@[simp] theorem e_sSe {h : T → D → D → Option T} {fi : FE} : sSe h fa fo fi = exS fa fun w => exS fo fun x => exS fi fun y => kSe h w x y := rfl
@[simp] theorem e_kSe {h : T → D → D → Option T} {w y : Val} {i : Nat} : kSe h w (.al i) y ρ = match ρ[i]?, fz w, vw ρ y with | some (some t), some dv, some di => (match h t di dv with | some t' => some (.nx (ρ.set i (some t'))) | none => none) | _, _, _ => none := rfl
@[simp] theorem e_sFs {r : Bool} {nm fn : Str} : sFs r nm fn fa fo = exS fa fun w => exS fo fun x => kFs r nm fn w x := rfl
@[simp] theorem e_kFs {r : Bool} {nm fn : Str} {w : Val} {i : Nat} : kFs r nm fn w (.al i) ρ = match ρ[i]?, mvT r w with | some (some (.obj n fs)), some t => (if n = nm ∧ fs.length < 1000 then some (.nx (ρ.set i (some (.obj n (putT fn t fs))))) else none) | _, _ => none := rfl
@[simp] theorem e_mv_fr {r : Bool} {d : D} : mvT r (.fr d) = some (.fr d) := rfl
@[simp] theorem e_mv_nw {t : T} : mvT false (.nw t) = some t := rfl
@[simp] theorem e_callG {n : Nat} {F : FF} : vCallG n F fs = bnd fs fun ws => if ws.length = n then kCallB F ws else fun _ => none := rfl
@[simp] theorem e_kCallB {F : FF} {ws : List Val} : kCallB F ws ρ = match takeA ρ ws with | some (ts, ρ1) => (match F ts with | some (.ret w ts') => some (.val (toVal w) (giveA ρ1 ws ts')) | some (.exc x ts') => some (.exc x (giveA ρ1 ws ts')) | none => none) | none => none := rfl
@[simp] theorem e_take_nil : takeA ρ [] = some ([], ρ) := rfl
@[simp] theorem e_take_fr {d : D} {ws : List Val} : takeA ρ (.fr d :: ws) = (takeA ρ ws).map fun q => (.fr d :: q.1, q.2) := rfl
@[simp] theorem e_take_nw {t : T} {ws : List Val} : takeA ρ (.nw t :: ws) = (takeA ρ ws).map fun q => (.fr t.toD :: q.1, q.2) := rfl
@[simp] theorem e_take_al {i : Nat} {ws : List Val} : takeA ρ (.al i :: ws) = match ρ[i]? with | some (some t) => (takeA (ρ.set i none) ws).map fun q => (t :: q.1, q.2) | _ => none := rfl
@[simp] theorem e_give_nil {ts : List T} : giveA ρ [] ts = ρ := by cases ts <;> rfl
@[simp] theorem e_give_fr {d : D} {ws : List Val} {t : T} {ts : List T} : giveA ρ (.fr d :: ws) (t :: ts) = giveA ρ ws ts := rfl
@[simp] theorem e_give_nw {d : T} {ws : List Val} {t : T} {ts : List T} : giveA ρ (.nw d :: ws) (t :: ts) = giveA ρ ws ts := rfl
@[simp] theorem e_give_al {i : Nat} {ws : List Val} {t : T} {ts : List T} : giveA ρ (.al i :: ws) (t :: ts) = giveA (ρ.set i (some t)) ws ts := rfl
@[simp] theorem e_toVal_fr {d : D} : toVal (.fr d) = .fr d := rfl
@[simp] theorem e_toVal_lst {d : List D} : toVal (.lst d) = .nw (.lst d) := rfl
@[simp] theorem e_toVal_obj {n : Str} {d : List (Str × T)} : toVal (.obj n d) = .nw (.obj n d) := rfl
@[simp] theorem e_methG {nm m : Str} {n : Nat} {F : FF} : vMethG nm m n F fo fs = bnd fo fun x ρ => if isObjB nm m x ρ then bnd fs (fun ws => if (x :: ws).length = n then kCallB F (x :: ws) else fun _ => none) ρ else none := rfl
@[simp] theorem e_isObjB_fr {nm m n : Str} {fs : List (Str × D)} : isObjB nm m (.fr (.obj n fs)) ρ = (decide (n = nm) && (fs.lookup m).isNone) := rfl
@[simp] theorem e_isObjB_nw {nm m n : Str} {fs : List (Str × T)} : isObjB nm m (.nw (.obj n fs)) ρ = (decide (n = nm) && (fs.lookup m).isNone) := rfl
@[simp] theorem e_isObjB_al {nm m : Str} {i : Nat} : isObjB nm m (.al i) ρ = match ρ[i]? with | some (some (.obj n fs)) => decide (n = nm) && (fs.lookup m).isNone | _ => false := rfl
@[simp] theorem e_makeG {nm : Str} {n : Nat} {F : FF} : vMakeG nm n F fs = bnd fs fun ws => if ws.length + 1 = n then kMakeB nm F ws else fun _ => none := rfl
@[simp] theorem e_kMakeB {nm : Str} {F : FF} {ws : List Val} : kMakeB nm F ws ρ = match takeA ρ ws with
  | some (ts, ρ1) => (match F (.obj nm [] :: ts) with
    | some (.ret (.fr .non) (t :: ts')) => if t.isOwn then some (.val (.nw t) (giveA ρ1 ws ts')) else none
    | some (.exc x (_ :: ts')) => some (.exc x (giveA ρ1 ws ts'))
    | _ => none)
  | none => none := rfl
@[simp] theorem e_eqO {nm : Str} {F : FF} : vEqO nm F fb fc = bnd fb fun x => bnd fc fun y => kEqO nm F x y := rfl
@[simp] theorem e_kEqO {nm : Str} {F : FF} {x y : Val} : kEqO nm F x y ρ = if isObjB nm "" x ρ && isObjB nm "" y ρ then (match kCallB F [x, y] ρ with | some (.val (.fr (.bl k)) ρ') => some (.val (.fr (.bl k)) ρ') | _ => none) else none := rfl
@[simp] theorem e_own_fr {d : D} : (T.fr d).isOwn = false := rfl
@[simp] theorem e_own_lst {d : List D} : (T.lst d).isOwn = true := rfl
@[simp] theorem e_own_obj {n : Str} {d : List (Str × T)} : (T.obj n d).isOwn = true := rfl
@[simp] theorem e_lt {i j : Int} : gLt (.int i) (.int j) = some (.fr (.bl (decide (i < j)))) := rfl
@[simp] theorem e_le {i j : Int} : gLe (.int i) (.int j) = some (.fr (.bl (decide (i ≤ j)))) := rfl
@[simp] theorem e_gt {i j : Int} : gGt (.int i) (.int j) = some (.fr (.bl (decide (j < i)))) := rfl
@[simp] theorem e_ge {i j : Int} : gGe (.int i) (.int j) = some (.fr (.bl (decide (j ≤ i)))) := rfl
@[simp] theorem e_add {i j : Int} : gAdd (.int i) (.int j) = some (.fr (.int (i + j))) := rfl
@[simp] theorem e_addL {xs ys : List D} : gAdd (.lst xs) (.lst ys) = if szB (xs.length + ys.length) then some (.nw (.lst (xs ++ ys))) else none := rfl
@[simp] theorem e_sub {i j : Int} : gSub (.int i) (.int j) = some (.fr (.int (i - j))) := rfl
@[simp] theorem e_mod {i j : Int} : gMod (.int i) (.int j) = if decide (j ≠ 0) = true then some (.fr (.int (i.fmod j))) else none := rfl
@[simp] theorem e_fdiv {i j : Int} : gFdiv (.int i) (.int j) = if (decide (j ≠ 0) && decide (j.natAbs < 1073741824)) = true then some (.fr (.int (i.fdiv j))) else none := rfl
theorem gMul_ev {i j : Int} (h : big64 i j = true) : gMul (.int i) (.int j) = some (.fr (.int (i * j))) := by simp [gMul, gMulI, iOp, h]
@[simp] theorem e_eqi {i j : Int} : gEq (.int i) (.int j) = some (.fr (.bl (i == j))) := by
  simp [gEq, eqD, D.py, SeqAt.shaped, PyData.eqv, PyData.canLay0, PyData.depth]
@[simp] theorem e_nei {i j : Int} : gNe (.int i) (.int j) = some (.fr (.bl (!(i == j)))) := by
  simp [gNe, eqD, D.py, SeqAt.shaped, PyData.eqv, PyData.canLay0, PyData.depth]
@[simp] theorem e_len {xs : List D} : gLen [.lst xs] = some (.fr (.int xs.length)) := rfl
@[simp] theorem e_lenK {xs : List D} : gLen [.klst xs] = some (.fr (.int xs.length)) := rfl
@[simp] theorem e_int {i : Int} : gInt [.int i] = some (.fr (.int i)) := rfl
@[simp] theorem e_list {xs : List D} : gList [.lst xs] = some (.nw (.lst xs)) := rfl
@[simp] theorem e_listK {xs : List D} : gList [.klst xs] = some (.nw (.lst xs)) := rfl
@[simp] theorem e_min {i j : Int} : gMin [.int i, .int j] = some (.fr (.int (if j < i then j else i))) := rfl
@[simp] theorem e_neg {i : Int} : gNeg (.int i) = some (.fr (.int (-i))) := rfl
@[simp] theorem e_ixL {xs : List D} {i : Int} : gIx (.lst xs) (.int i) = (L2.atI xs i).map .fr := rfl
@[simp] theorem e_fldo {nm fl n : Str} {fs : List (Str × D)} : dFld nm fl (.obj n fs) = if n = nm then (fs.lookup fl).map .fr else none := rfl
@[simp] theorem e_szL {n : Nat} : szL n = decide (n < 16777216) := rfl
@[simp] theorem e_szB {n : Nat} : szB n = decide (n ≤ 16777216) := rfl
@[simp] theorem e_sl {h : D → Option Int → Option Int → Option Val} {fl fh : FO} : vSl h fa fl fh = bnd fa fun x => bnd fl fun lo => bnd fh fun hi => v3 h x lo hi := rfl
@[simp] theorem e_v3 {h : D → Option Int → Option Int → Option Val} {x : Val} {lo hi : Option Int} : v3 h x lo hi ρ = match (vw ρ x).bind fun d => h d lo hi with | some w => some (.val w ρ) | none => none := rfl
@[simp] theorem e_asI {i : Int} : asI (.fr (.int i)) ρ = some (.val (some i) ρ) := rfl
@[simp] theorem e_cutL {xs : List D} {lo hi : Option Int} : gCutL (.lst xs) lo hi = some (.nw (.lst (cutD xs lo hi))) := rfl
@[simp] theorem e_optF {o : Option α} : optF o ρ = match o with | some a => some (.val a ρ) | none => none := rfl
@[simp] theorem e_gN {i : Nat} {d : D} : gN i d ρ = if i < ρ.length then some (ρ.set i (some (.fr d))) else none := rfl
end
/-! ### lists of ints -/
def I (xs : List Int) : List D := xs.map .int
@[simp] theorem I_len {xs : List Int} : (I xs).length = xs.length := by simp [I]
theorem I_get {xs : List Int} {i : Nat} : (I xs)[i]? = (xs[i]?).map D.int := by simp [I]
theorem atI_nat' {α : Type} {xs : List α} {i : Int} {n : Nat} (h : i = n) (hn : n < xs.length) : L2.atI xs i = some xs[n] := by
  subst h
  exact L2.atI_nat (List.getElem?_eq_getElem hn)
theorem atI_I {xs : List Int} {i : Int} (h0 : 0 ≤ i) (h1 : i < xs.length) : L2.atI (I xs) i = some (.int (xs[i.toNat]'(by omega))) := by
  obtain ⟨n, rfl⟩ := Int.eq_ofNat_of_zero_le h0
  have hn : n < xs.length := by omega
  rw [L2.atI_nat (v := .int xs[n]) (by rw [I_get, List.getElem?_eq_getElem hn]; rfl)]
  rfl
theorem seL_I {xs : List Int} {i v : Int} (h0 : 0 ≤ i) (h1 : i < xs.length) : seL (.lst (I xs)) (.int i) (.int v) = some (.lst (I (xs.set i.toNat v))) := by
  obtain ⟨n, rfl⟩ := Int.eq_ofNat_of_zero_le h0
  have hn : n < xs.length := by omega
  simp [seL, L2.ixN, I, hn, List.map_set]
theorem pys_I {xs : List Int} : D.pys (I xs) = some (xs.map PyData.int) := by
  induction xs with
  | nil => rfl
  | cons x xs ih =>
    show (D.py (.int x)).bind (fun p => (D.pys (I xs)).map fun ps => p :: ps) = _
    rw [ih]
    rfl
theorem eqv_I {xs ys : List Int} : PyData.eqvAll (xs.map PyData.int) (ys.map PyData.int) = decide (xs = ys) := by
  induction xs generalizing ys with
  | nil => cases ys <;> simp [PyData.eqvAll]
  | cons x xs ih =>
    cases ys with
    | nil => simp [PyData.eqvAll]
    | cons y ys =>
      simp only [List.map_cons, PyData.eqvAll, ih, PyData.eqv]
      by_cases h : x = y <;> simp [h]
theorem can_I {xs : List Int} : PyData.canLayAll0 (xs.map PyData.int) = true := by
  induction xs with
  | nil => rfl
  | cons x xs ih => simp [PyData.canLayAll0, PyData.canLay0, ih]
theorem dep_I {xs : List Int} : PyData.depthAll (xs.map PyData.int) ≤ 1 := by
  induction xs with
  | nil => simp [PyData.depthAll]
  | cons x xs ih => simp [PyData.depthAll, PyData.depth]; omega
theorem shaped_I {xs : List Int} : SeqAt.shaped (.list (xs.map PyData.int)) = true := by
  have := @dep_I xs
  simp [SeqAt.shaped, PyData.canLay0, can_I, PyData.depth]
  omega
theorem eqD_I {xs ys : List Int} : eqD (.lst (I xs)) (.lst (I ys)) = some (decide (xs = ys)) := by
  unfold eqD
  have h1 : (D.lst (I xs)).py = some (.list (xs.map PyData.int)) := by show (D.pys (I xs)).map PyData.list = _; rw [pys_I]; rfl
  have h2 : (D.lst (I ys)).py = some (.list (ys.map PyData.int)) := by show (D.pys (I ys)).map PyData.list = _; rw [pys_I]; rfl
  rw [h1, h2]
  simp [shaped_I, PyData.eqv, eqv_I]
@[simp] theorem e_eqI {xs ys : List Int} : gEq (.lst (I xs)) (.lst (I ys)) = some (.fr (.bl (decide (xs = ys)))) := by simp [gEq, eqD_I]
@[simp] theorem e_neI {xs ys : List Int} : gNe (.lst (I xs)) (.lst (I ys)) = some (.fr (.bl (!decide (xs = ys)))) := by simp [gNe, eqD_I]
theorem cut_I {xs : List Int} {lo hi : Option Int} : cutD (I xs) lo hi = I ((xs.drop (HT.sIx xs.length 0 lo)).take (HT.sIx xs.length xs.length hi - HT.sIx xs.length 0 lo)) := by
  unfold cutD I
  rw [List.length_map, List.map_take, List.map_drop]
theorem I_app {xs ys : List Int} : I xs ++ I ys = I (xs ++ ys) := by simp [I]
theorem I_cons {x : Int} {ys : List Int} : D.int x :: I ys = I (x :: ys) := rfl
theorem I_nil : ([] : List D) = I [] := rfl
theorem rng_I {n : Nat} : rngD 0 n = I ((List.range n).map fun (i : Nat) => (i : Int)) := by simp [rngD, I]
theorem allM_I {g : D → Option Bool} {p : Int → Bool} {xs : List Int} (h : ∀ x, g (.int x) = some (p x)) : allM g (I xs) = some (xs.all p) := by
  induction xs with
  | nil => rfl
  | cons x xs ih =>
    show (g (.int x)).bind (fun k => (allM g (I xs)).map fun r => k && r) = _
    rw [h, ih]
    rfl
theorem dR1_nat {n : Nat} (h : n ≤ 1000000) : dR1 [.fr (.int (n : Int))] = some (rngD 0 n) := by
  have hs : small62 (n : Int) = true := by
    unfold small62
    rw [decide_eq_true (by omega)]
  unfold dR1
  simp only [hs, if_true, Int.toNat_natCast]
/-! ### loops, comprehensions -/
theorem compD_map {vs : List Nat} {gt : FT} {ft : FG Bool} {fe : FE} {ρ : Env} {h : D → D} : ∀ {ds acc : List D}, (∀ d ∈ ds, stepC vs gt ft fe d ρ = some (some (h d), ρ)) → acc.length + ds.length ≤ 16777216 → compD vs gt ft fe ds acc ρ = some (acc ++ ds.map h, ρ)
  | [], acc, _, _ => by simp [compD]
  | d :: ds, acc, hs, hl => by
    have h1 := hs d List.mem_cons_self
    have hl' : acc.length + (ds.length + 1) ≤ 16777216 := by simpa using hl
    have ih := compD_map (ds := ds) (acc := acc ++ [h d]) (fun d hd => hs d (List.mem_cons_of_mem _ hd)) (by simp; omega)
    unfold compD
    rw [h1]
    have hz : szL acc.length = true := by simp; omega
    simp only [hz, if_true, ih]
    simp
theorem loop_inv {gt : FT} {f : FS} (R : Env → Prop) : ∀ {ds : List D}, (∀ d ∈ ds, ∀ ρ, R ρ → ∃ ρ1 ρ2, gt d ρ = some ρ1 ∧ f ρ1 = some (.nx ρ2) ∧ R ρ2) → ∀ {ρ : Env}, R ρ → ∃ ρ', loopD gt f ds ρ = some (.nx ρ') ∧ R ρ'
  | [], _, ρ, r => ⟨ρ, rfl, r⟩
  | d :: ds, h, ρ, r => by
    obtain ⟨ρ1, ρ2, h1, h2, h3⟩ := h d List.mem_cons_self ρ r
    obtain ⟨ρ', q1, q2⟩ := loop_inv R (ds := ds) (fun d hd => h d (List.mem_cons_of_mem _ hd)) h3
    exact ⟨ρ', by unfold loopD; rw [h1]; simp only [h2]; exact q1, q2⟩
theorem seq_nx {f g : FS} {ρ ρ' : Env} (h : f ρ = some (.nx ρ')) : sSeq f g ρ = g ρ' := by unfold sSeq onNx; rw [h]
theorem seq_ret {f g : FS} {ρ ρ' : Env} {w : Val} (h : f ρ = some (.ret w ρ')) : sSeq f g ρ = some (.ret w ρ') := by unfold sSeq onNx; rw [h]
theorem for_val {fi : FG (List D)} {gt : FT} {f : FS} {ρ ρ1 : Env} {ds : List D} (h : fi ρ = some (.val ds ρ1)) : sFor fi gt f ρ = loopD gt f ds ρ1 := by unfold sFor exS; rw [h]
theorem body_ret {n : Nat} {bor : List Nat} {g : FS} {ts ts' : List T} {w : Val} {ρ ρ2 : Env} {t : T} (ho : ownsOk bor ts = true) (h : g (ts.map some ++ List.replicate (n - ts.length) none) = some (.ret w ρ)) (h2 : outT bor w ρ = some (t, ρ2)) (h3 : finL ts ρ2 = some ts') : bodyF n bor g ts = some (.ret t ts') := by
  unfold bodyF
  rw [if_pos ho, h]
  simp only [h2, Option.bind_some, h3, Option.map_some]
theorem body_exc {n : Nat} {bor : List Nat} {g : FS} {ts ts' : List T} {x : Exn} {ρ : Env} (ho : ownsOk bor ts = true) (h : g (ts.map some ++ List.replicate (n - ts.length) none) = some (.exc x ρ)) (h3 : finL ts ρ = some ts') : bodyF n bor g ts = some (.exc x ts') := by
  unfold bodyF
  rw [if_pos ho, h]
  simp only [h3, Option.map_some]
theorem body_nx {n : Nat} {bor : List Nat} {g : FS} {ts ts' : List T} {ρ : Env} (ho : ownsOk bor ts = true) (h : g (ts.map some ++ List.replicate (n - ts.length) none) = some (.nx ρ)) (h3 : finL ts ρ = some ts') : bodyF n bor g ts = some (.ret (.fr .non) ts') := by
  unfold bodyF
  rw [if_pos ho, h]
  simp only [h3, Option.map_some]
end Vl

/-! printed by walk.py -/
namespace Wk
open PySem PySem.Spec PyProof.Rows L2 He Vl
def top (i : Nat) : Stmt := PySem.Challenge.pw_rewoven_k04_images.main.body.getD i (.Pass ⟨0, 0, 0, 0⟩)
def iL : List (Tag × Tag × Bool) := [(.ty "int", .ty "int", true), (.ty "int", .ty "bool", false), (.cl "Image", .cl "Image", true), (.ty "list", .ty "list", true)]
def xL : List (Str × Tag × Bool) := [("InvalidImage", .cl "InvalidImage", true), ("InvalidImage", .ty "ValueError", true)]
def mL_RewovenError : List (Str × Bool) := [("InvalidImage", true)]
/-! Image.__init__ -/
abbrev st_ImageX_initX : Stmt := (clsB (top 6)).getD 0 (.Pass ⟨0, 0, 0, 0⟩)
def N_ImageX_initX : List Str := ["self", "data", "entry", "byte"]
def d_ImageX_initX : DefD := ⟨("Image", some "__init__"), "__init__", "Image.__init__", defArgs st_ImageX_initX, defBody st_ImageX_initX, defScope st_ImageX_initX, [], []⟩
theorem sc_ImageX_initX : FnScope N_ImageX_initX ["self", "data", "entry"] (defScope st_ImageX_initX) := ⟨rfl, rfl, rfl, by decide +kernel, rfl, by decide +kernel, by decide +kernel⟩
def g_ImageX_initX : FS := sSeq (sIf (vOr (vNot (bnd (vCh gLe gLe (vC (.int 1)) (vCall gLen (vCons (vV 1) (vNil))) (vC (.int 4096))) asB)) (vNot (bnd (vAll (qCh (fun i j => decide (i ≤ j)) (fun i j => decide (i ≤ j)) (fun _ _ => some (.int 0)) (fun _ d => some d) (fun _ _ => some (.int 255))) (vV 1)) asT))) (sRaise "InvalidImage") (sNil)) (
  sSeq (sIf (vNot (bnd (vCh gLe gLt (vC (.int 0)) (vV 2) (vCall gLen (vCons (vV 1) (vNil)))) asB)) (sRaise "InvalidImage") (sNil)) (
  sSeq (sFs false "Image" "_data" (vCall gList (vCons (vV 1) (vNil))) (vV 0)) (
  sFs false "Image" "entry" (vV 2) (vV 0))))
def F_ImageX_initX : FF := bodyF 4 [0, 1, 2] g_ImageX_initX
/-! _law_refused -/
abbrev st_law_refused : Stmt := top 10
def N_law_refused : List Str := ["data", "entry", "e"]
def d_law_refused : DefD := ⟨("_law_refused", none), "_law_refused", "_law_refused", defArgs st_law_refused, defBody st_law_refused, defScope st_law_refused, [], []⟩
theorem sc_law_refused : FnScope N_law_refused ["data", "entry"] (defScope st_law_refused) := ⟨rfl, rfl, rfl, by decide +kernel, rfl, by decide +kernel, by decide +kernel⟩
def g_law_refused : FS := sSeq (sTry 2 (kmOf mL_RewovenError) (sDrop (vMakeG "Image" 3 F_ImageX_initX (vCons (vV 0) (vCons (vV 1) (vNil))))) (fun y => sRet (vAndV (vIsE (keOf xL (.cl "InvalidImage")) y) (vIsE (keOf xL (.ty "ValueError")) y)))) (
  sRet (vC (.bl false)))
def F_law_refused : FF := bodyF 3 [0, 1] g_law_refused
/-! Image.content -/
abbrev st_Image_content : Stmt := (clsB (top 6)).getD 1 (.Pass ⟨0, 0, 0, 0⟩)
def N_Image_content : List Str := ["self"]
def d_Image_content : DefD := ⟨("Image", some "content"), "content", "Image.content", defArgs st_Image_content, defBody st_Image_content, defScope st_Image_content, [], []⟩
theorem sc_Image_content : FnScope N_Image_content ["self"] (defScope st_Image_content) := ⟨rfl, rfl, rfl, by decide +kernel, rfl, by decide +kernel, by decide +kernel⟩
def g_Image_content : FS := sRet (vCall gList (vCons (vFld "Image" "_data" (vV 0)) (vNil)))
def F_Image_content : FF := bodyF 1 [0] g_Image_content
/-! _law_is_integer -/
abbrev st_law_is_integer : Stmt := top 8
def N_law_is_integer : List Str := ["actual"]
def d_law_is_integer : DefD := ⟨("_law_is_integer", none), "_law_is_integer", "_law_is_integer", defArgs st_law_is_integer, defBody st_law_is_integer, defScope st_law_is_integer, [], []⟩
theorem sc_law_is_integer : FnScope N_law_is_integer ["actual"] (defScope st_law_is_integer) := ⟨rfl, rfl, rfl, by decide +kernel, rfl, by decide +kernel, by decide +kernel⟩
def g_law_is_integer : FS := sRet (vAndV (vCall (gIsi (kfOf iL)) (vCons (vV 0) (vCons (vC (.ty "int")) (vNil)))) (vNotV (vCall (gIsi (kfOf iL)) (vCons (vV 0) (vCons (vC (.ty "bool")) (vNil))))))
def F_law_is_integer : FF := bodyF 1 [0] g_law_is_integer
/-! Image.__eq__ -/
abbrev st_ImageX_eqX : Stmt := (clsB (top 6)).getD 4 (.Pass ⟨0, 0, 0, 0⟩)
def N_ImageX_eqX : List Str := ["self", "other"]
def d_ImageX_eqX : DefD := ⟨("Image", some "__eq__"), "__eq__", "Image.__eq__", defArgs st_ImageX_eqX, defBody st_ImageX_eqX, defScope st_ImageX_eqX, [], []⟩
theorem sc_ImageX_eqX : FnScope N_ImageX_eqX ["self", "other"] (defScope st_ImageX_eqX) := ⟨rfl, rfl, rfl, by decide +kernel, rfl, by decide +kernel, by decide +kernel⟩
def g_ImageX_eqX : FS := sRet (vAndV (vCall (gIsi (kfOf iL)) (vCons (vV 1) (vCons (vC (.con "Image")) (vNil)))) (vAndV (vOp gEq (vFld "Image" "_data" (vV 0)) (vFld "Image" "_data" (vV 1))) (vOp gEq (vFld "Image" "entry" (vV 0)) (vFld "Image" "entry" (vV 1)))))
def F_ImageX_eqX : FF := bodyF 2 [0, 1] g_ImageX_eqX
/-! _law_one -/
abbrev st_law_one : Stmt := top 11
def N_law_one : List Str := ["draws", "size", "data", "wrong", "entry", "given", "image", "first", "other", "first_at", "second_at", "swapped", "longer", "turned", "value", "k"]
def d_law_one : DefD := ⟨("_law_one", none), "_law_one", "_law_one", defArgs st_law_one, defBody st_law_one, defScope st_law_one, [], []⟩
theorem sc_law_one : FnScope N_law_one ["draws"] (defScope st_law_one) := ⟨rfl, rfl, rfl, by decide +kernel, rfl, by decide +kernel, by decide +kernel⟩
def g_law_one : FS := sSeq (sSetF 1 (vOp gMod (vOp gIx (vV 0) (vC (.int 0))) (vC (.int 71)))) (
  sSeq (sIf (bnd (vOp gEq (vOp gMod (vOp gIx (vV 0) (vC (.int 1))) (vC (.int 9))) (vC (.int 4))) asB) (sSetF 1 (vOp gAdd (vC (.int 4096)) (vOp gMod (vOp gIx (vV 0) (vC (.int 0))) (vC (.int 2))))) (sNil)) (
  sSeq (sSet 2 (vLc 16 [15] (bnd (vCons (vV 1) (vNil)) fun ws => optF (dR1 ws)) (gN 15) (ret true) (vOp gMod (vOp gAdd (vOp gIx (vV 0) (vC (.int 2))) (vOp gMul (vC (.int 89)) (vV 15))) (vC (.int 256))))) (
  sSeq (sSetF 3 (vC (.bl false))) (
  sSeq (sIf (vAnd (bnd (vOp gGt (vV 1) (vC (.int 0))) asB) (bnd (vOp gEq (vOp gMod (vOp gFdiv (vOp gIx (vV 0) (vC (.int 1))) (vC (.int 9))) (vC (.int 3))) (vC (.int 1))) asB)) (sSeq (sSetF 14 (vOp gIx (vLst (vCons (vUn gNeg (vC (.int 1))) (vCons (vC (.int 256)) (vCons (vOp gAdd (vC (.int 1000)) (vOp gIx (vV 0) (vC (.int 3)))) (vCons (vOp gSub (vUn gNeg (vC (.int 7))) (vOp gIx (vV 0) (vC (.int 3)))) (vNil)))))) (vOp gMod (vOp gIx (vV 0) (vC (.int 4))) (vC (.int 4))))) (
  sSeq (sSe seL (vV 14) (vV 2) (vOp gMod (vOp gIx (vV 0) (vC (.int 3))) (vV 1))) (
  sSetF 3 (vC (.bl true))))) (sNil)) (
  sSeq (sSetF 4 (vOp gSub (vOp gMod (vOp gIx (vV 0) (vC (.int 5))) (vOp gAdd (vV 1) (vC (.int 2)))) (vC (.int 1)))) (
  sSeq (sIf (vOr (bnd (vV 3) asT) (vOr (bnd (vOp gEq (vV 1) (vC (.int 0))) asB) (vOr (bnd (vOp gGt (vV 1) (vC (.int 4096))) asB) (vNot (bnd (vCh gLe gLt (vC (.int 0)) (vV 4) (vV 1)) asB))))) (sRet (vCallG 2 F_law_refused (vCons (vCall gList (vCons (vV 2) (vNil))) (vCons (vV 4) (vNil))))) (sNil)) (
  sSeq (sSet 5 (vCall gList (vCons (vV 2) (vNil)))) (
  sSeq (sSetF 6 (vMakeG "Image" 3 F_ImageX_initX (vCons (vV 5) (vCons (vV 4) (vNil))))) (
  sSeq (sSe seL (vOp gMod (vOp gAdd (vOp gIx (vV 2) (vC (.int 0))) (vC (.int 1))) (vC (.int 256))) (vV 5) (vC (.int 0))) (
  sSeq (sSet 7 (vMethG "Image" "content" 1 F_Image_content (vV 6) (vNil))) (
  sSeq (sIf (vOr (vNot (bnd (vCall (gIsi (kfOf iL)) (vCons (vV 7) (vCons (vC (.ty "list")) (vNil)))) asT)) (vOr (bnd (vOp gNe (vV 7) (vV 2)) asB) (vOr (vNot (bnd (vCallG 1 F_law_is_integer (vCons (vFld "Image" "entry" (vV 6)) (vNil))) asT)) (bnd (vOp gNe (vFld "Image" "entry" (vV 6)) (vV 4)) asB)))) (sRet (vC (.bl false))) (sNil)) (
  sSeq (sDrop (vMu muAppend (vV 7) (vCons (vC (.int 3)) (vNil)))) (
  sSeq (sSe seL (vOp gMod (vOp gAdd (vOp gIx (vV 2) (vC (.int 0))) (vC (.int 2))) (vC (.int 256))) (vV 7) (vC (.int 0))) (
  sSeq (sIf (vOr (bnd (vOp gNe (vMethG "Image" "content" 1 F_Image_content (vV 6) (vNil)) (vV 2)) asB) (vNot (bnd (vEqO "Image" F_ImageX_eqX (vV 6) (vMakeG "Image" 3 F_ImageX_initX (vCons (vCall gList (vCons (vV 2) (vNil))) (vCons (vV 4) (vNil))))) asB))) (sRet (vC (.bl false))) (sNil)) (
  sSeq (sSet 8 (vCall gList (vCons (vV 2) (vNil)))) (
  sSeq (sSe seL (vOp gMod (vOp gAdd (vOp gIx (vV 8) (vOp gMod (vOp gIx (vV 0) (vC (.int 3))) (vV 1))) (vC (.int 1))) (vC (.int 256))) (vV 8) (vOp gMod (vOp gIx (vV 0) (vC (.int 3))) (vV 1))) (
  sSeq (sSetF 9 (vOp gMod (vOp gIx (vV 0) (vC (.int 3))) (vV 1))) (
  sSeq (sSetF 10 (vOp gMod (vOp gIx (vV 0) (vC (.int 4))) (vV 1))) (
  sSeq (sSet 11 (vCall gList (vCons (vV 2) (vNil)))) (
  sSeq (sSe seL (vOp gIx (vV 2) (vV 10)) (vV 11) (vV 9)) (
  sSeq (sSe seL (vOp gIx (vV 2) (vV 9)) (vV 11) (vV 10)) (
  sSeq (sIf (vAnd (bnd (vOp gNe (vV 11) (vV 2)) asB) (vOr (bnd (vEqO "Image" F_ImageX_eqX (vV 6) (vMakeG "Image" 3 F_ImageX_initX (vCons (vV 11) (vCons (vV 4) (vNil))))) asB) (bnd (vEqO "Image" F_ImageX_eqX (vMakeG "Image" 3 F_ImageX_initX (vCons (vV 11) (vCons (vV 4) (vNil)))) (vV 6)) asB))) (sRet (vC (.bl false))) (sNil)) (
  sSeq (sSetF 12 (vMakeG "Image" 3 F_ImageX_initX (vCons (vSl gCutL (vOp gAdd (vV 2) (vLst (vCons (vOp gIx (vV 2) (vC (.int 0))) (vNil)))) (ret none) (bnd (vC (.int 4096)) asI)) (vCons (vV 4) (vNil))))) (
  sSeq (sSetF 13 (vOp gAdd (vSl gCutL (vV 2) (bnd (vC (.int 1)) asI) (ret none)) (vSl gCutL (vV 2) (ret none) (bnd (vC (.int 1)) asI)))) (
  sSeq (sIf (vAnd (bnd (vOp gLt (vV 1) (vC (.int 4096))) asB) (vOr (bnd (vEqO "Image" F_ImageX_eqX (vV 6) (vV 12)) asB) (bnd (vEqO "Image" F_ImageX_eqX (vV 12) (vV 6)) asB))) (sRet (vC (.bl false))) (sNil)) (
  sSeq (sIf (vAnd (bnd (vOp gNe (vV 13) (vV 2)) asB) (bnd (vEqO "Image" F_ImageX_eqX (vV 6) (vMakeG "Image" 3 F_ImageX_initX (vCons (vV 13) (vCons (vV 4) (vNil))))) asB)) (sRet (vC (.bl false))) (sNil)) (
  sRet (vAndV (vNotV (vEqO "Image" F_ImageX_eqX (vV 6) (vMakeG "Image" 3 F_ImageX_initX (vCons (vV 8) (vCons (vV 4) (vNil)))))) (vOrV (vOp gLt (vV 1) (vC (.int 2))) (vNotV (vEqO "Image" F_ImageX_eqX (vV 6) (vMakeG "Image" 3 F_ImageX_initX (vCons (vCall gList (vCons (vV 2) (vNil))) (vCons (vOp gMod (vOp gAdd (vV 4) (vC (.int 1))) (vV 1)) (vNil)))))))))))))))))))))))))))))))))))
def F_law_one : FF := bodyF 16 [0] g_law_one
/-! _law_draws -/
abbrev st_law_draws : Stmt := top 9
def N_law_draws : List Str := ["cell", "modulus", "count", "number", "row", "k", "mixed"]
def d_law_draws : DefD := ⟨("_law_draws", none), "_law_draws", "_law_draws", defArgs st_law_draws, defBody st_law_draws, defScope st_law_draws, [], []⟩
theorem sc_law_draws : FnScope N_law_draws ["cell", "modulus", "count"] (defScope st_law_draws) := ⟨rfl, rfl, rfl, by decide +kernel, rfl, by decide +kernel, by decide +kernel⟩
def g_law_draws : FS := sSeq (sSetF 3 (vV 0)) (
  sSeq (sIf (bnd (vOp gLt (vV 3) (vC (.int 0))) asB) (sSetF 3 (vOp gSub (vC (.int 0)) (vV 3))) (sNil)) (
  sSeq (sSet 4 (vLst (vNil))) (
  sSeq (sIf (bnd (vOp gGe (vV 3) (vOp gPow (vC (.int 10)) (vC (.int 18)))) asB) (sSeq (sFor (bnd (vCons (vV 2) (vNil)) fun ws => optF (dR1 ws)) (gN 5) (sSeq (sDrop (vMu muAppend (vV 4) (vCons (vOp gMod (vCall gInt (vCons (vV 3) (vNil))) (vV 1)) (vNil)))) (
  sSetF 3 (vOp gFdiv (vV 3) (vV 1))))) (
  sRet (vV 4))) (sNil)) (
  sSeq (sFor (bnd (vCons (vV 2) (vNil)) fun ws => optF (dR1 ws)) (gN 5) (sSeq (sSetF 6 (vOp gMod (vCall gInt (vCons (vOp gMul (vOp gAdd (vOp gAdd (vV 3) (vOp gMul (vC (.int 7)) (vV 5))) (vC (.int 1))) (vC (.int 48271))) (vNil))) (vC (.int 2147483647)))) (
  sSeq (sSetF 6 (vOp gMod (vCall gInt (vCons (vOp gAdd (vOp gMul (vV 6) (vC (.int 69621))) (vOp gMul (vC (.int 31)) (vV 5))) (vNil))) (vC (.int 2147483629)))) (
  sDrop (vMu muAppend (vV 4) (vCons (vOp gMod (vCall gInt (vCons (vOp gFdiv (vV 6) (vC (.int 7))) (vNil))) (vV 1)) (vNil))))))) (
  sRet (vV 4))))))
def F_law_draws : FF := bodyF 7 [0, 1, 2] g_law_draws
/-! law -/
abbrev st_law : Stmt := top 12
def N_law : List Str := ["script", "cells", "k"]
def d_law : DefD := ⟨("law", none), "law", "law", defArgs st_law, defBody st_law, defScope st_law, [], []⟩
theorem sc_law : FnScope N_law ["script"] (defScope st_law) := ⟨rfl, rfl, rfl, by decide +kernel, rfl, by decide +kernel, by decide +kernel⟩
def g_law : FS := sSeq (sSetF 1 (vCall gList (vCons (vV 0) (vNil)))) (
  sSeq (sIf (bnd (vOp gEq (vCall gLen (vCons (vV 1) (vNil))) (vC (.int 0))) asB) (sSetF 1 (vLst (vCons (vC (.int 7)) (vCons (vC (.int 1001)) (vCons (vC (.int 40)) (vCons (vC (.int 9)) (vCons (vC (.int 64)) (vCons (vC (.int 3)) (vNil))))))))) (sNil)) (
  sSeq (sFor (bnd (vCons (vCall gMin (vCons (vCall gLen (vCons (vV 1) (vNil))) (vCons (vC (.int 12)) (vNil)))) (vNil)) fun ws => optF (dR1 ws)) (gN 2) (sIf (vNot (bnd (vCallG 1 F_law_one (vCons (vCallG 3 F_law_draws (vCons (vOp gIx (vV 1) (vV 2)) (vCons (vC (.int 65536)) (vCons (vC (.int 6)) (vNil))))) (vNil))) asT)) (sRet (vC (.bl false))) (sNil))) (
  sRet (vC (.bl true)))))
def F_law : FF := bodyF 3 [0] g_law
def fas : List Fa := [.glo "law", .free "list", .free "len", .free "min", .free "range", .glo "_law_draws", .glo "_law_one", .glo "_law_refused", .mkr "Image", .glo "Image", .cls "Image", .meth "Image" "content", .free "isinstance", .noat "Image" "entry", .glo "_law_is_integer", .meth "Image" "__eq__", .glo "InvalidImage", .free "ValueError", .glo "RewovenError", .int "MOST_BYTES" 4096, .code ("Image", some "__init__") "Image.__init__", .free "all", .exc "InvalidImage", .noat "Image" "_data", .free "int", .free "bool"]
def fns : List DefD := [d_ImageX_initX, d_law_refused, d_Image_content, d_law_is_integer, d_ImageX_eqX, d_law_one, d_law_draws, d_law]
def tfs : List Defn := [("Image", some "__init__")]
def exs (K : PySem.W.Frag) : Bool := isB K iL && (isEB K xL && (exmB K (.cl "RewovenError") mL_RewovenError))
section
variable {P : Program} {w : World} {K : PySem.W.Frag} {mg : Str → Option Value} {base : Heap}
theorem exI (z : Zf fas fns tfs exs K mg base) : isB K iL = true := (ba z.more).1
theorem exE (z : Zf fas fns tfs exs K mg base) : isEB K xL = true := (ba (ba z.more).2).1
theorem ex_RewovenError (z : Zf fas fns tfs exs K mg base) : exmB K (.cl "RewovenError") mL_RewovenError = true := (ba (ba z.more).2).2
theorem ok_ImageX_initX (z : Zf fas fns tfs exs K mg base) : DOk P w (vbOf K tfs) mg base 1 (fAd K ("Image", some "__init__")) ["self", "data", "entry"] 3 F_ImageX_initX :=
  body_okD (d := d_ImageX_initX) (N := N_ImageX_initX) (k := 0) (bor := [0, 1, 2]) (g := g_ImageX_initX) rfl (z.df 0 d_ImageX_initX rfl) sc_ImageX_initX (fun _ _ _ _ _ _ us hl => match us, hl with | [_, _, _], _ => rfl)
    fun cdv A outer s H E hc h =>
  (vss_cons (vs_if (VW.vt (vw_or (vt_not (t_ch c_le c_le ve_int (x_len (z.free 2) (va_cons (ve_v 1) va_nil)) (ve_gi (z.int 19)))) (vw_or1 (vt_not (t_tru (x_all0 h.rm (z.free 21) (z.tb ("Image", some "__init__") (List.mem_of_getElem? (show tfs[0]? = _ from rfl))) (z.code (List.mem_of_getElem? (show tfs[0]? = _ from rfl)) hc ⟨20, _, rfl⟩) ⟨("Image", some "__init__"), (List.mem_of_getElem? (show tfs[0]? = _ from rfl)), rfl⟩ rfl (ve_v 1) (vq_chain cmpI_le cmpI_le vq_int (vq_item) vq_int))))))) (vss_one (vs_raise "InvalidImage" rfl rfl h.tk PySem.F.excBase_ValueError (z.exc 22).1 (z.glo 16) (z.exc 22).2.1 (z.exc 22).2.2.1 (z.exc 22).2.2.2 rfl)) vss_nil)
  (vss_cons (vs_if (vt_not (t_ch c_le c_lt ve_int (ve_v 2) (x_len (z.free 2) (va_cons (ve_v 1) va_nil)))) (vss_one (vs_raise "InvalidImage" rfl rfl h.tk PySem.F.excBase_ValueError (z.exc 22).1 (z.glo 16) (z.exc 22).2.1 (z.exc 22).2.2.1 (z.exc 22).2.2.2 rfl)) vss_nil)
  (vss_cons (vs_fs (nm := "Image") false rfl (z.cls 10) (z.noat 23) (x_list (z.free 1) (va_cons (ve_v 1) va_nil)) (ve_v 0))
  (vss_one (vs_fs (nm := "Image") false rfl (z.cls 10) (z.noat 13) (ve_v 2) (ve_v 0))))))
theorem ok_law_refused (z : Zf fas fns tfs exs K mg base) : DOk P w (vbOf K tfs) mg base 3 (fAd K ("_law_refused", none)) ["data", "entry"] 2 F_law_refused :=
  body_okD (d := d_law_refused) (N := N_law_refused) (k := 2) (bor := [0, 1]) (g := g_law_refused) rfl (z.df 1 d_law_refused rfl) sc_law_refused (fun _ _ _ _ _ _ us hl => match us, hl with | [_, _], _ => rfl)
    fun cdv A outer s H E hc h =>
  (vss_cons (vs_try rfl rfl rfl sc_law_refused.nd rfl rfl ⟨rfl, by decide, .inl (z.glo 18)⟩ h.tk (exmB_ok (ex_RewovenError z)) (fun _ _ _ tk1 ps1 => (vss_one (vs_expr (ve_makeD (nm := "Image") (ok_ImageX_initX z) (h.rm.mono (show 2 ≤ 2 by decide)) tk1 rfl (z.mkr 8) (z.glo 9) (va_cons (ve_v 0) (va_cons (ve_v 1) va_nil)))))) (fun y _ _ _ _ _ hz hf h1 h2 => (vss_one (vs_ret (ve_and (x_isEg hz hf h1 h2 (z.glo 16) (z.free 12) (isEB_ok (exE z) (.cl "InvalidImage"))) (ve_one (x_isEt (T := "ValueError") hz hf h1 h2 (z.free 17) (z.free 12) boot_ValueError (isEB_ok (exE z) (.ty "ValueError")))))))))
  (vss_one (vs_ret ve_bl)))
theorem ok_Image_content (z : Zf fas fns tfs exs K mg base) : DOk P w (vbOf K tfs) mg base 1 (fAd K ("Image", some "content")) ["self"] 1 F_Image_content :=
  body_okD (d := d_Image_content) (N := N_Image_content) (k := 0) (bor := [0]) (g := g_Image_content) rfl (z.df 2 d_Image_content rfl) sc_Image_content (fun _ _ _ _ _ _ us hl => match us, hl with | [_], _ => rfl)
    fun cdv A outer s H E hc h =>
  (vss_one (vs_ret (x_list (z.free 1) (va_cons (ve_fld (nm := "Image") rfl (z.cls 10) (z.noat 23) (ve_v 0)) va_nil))))
theorem ok_law_is_integer (z : Zf fas fns tfs exs K mg base) : DOk P w (vbOf K tfs) mg base 1 (fAd K ("_law_is_integer", none)) ["actual"] 1 F_law_is_integer :=
  body_okD (d := d_law_is_integer) (N := N_law_is_integer) (k := 0) (bor := [0]) (g := g_law_is_integer) rfl (z.df 3 d_law_is_integer rfl) sc_law_is_integer (fun _ _ _ _ _ _ us hl => match us, hl with | [_], _ => rfl)
    fun cdv A outer s H E hc h =>
  (vss_one (vs_ret (ve_and (x_isi (isB_ok (exI z)) (z.free 12) (va_cons (ve_v 0) (va_cons (ve_bt (z.free 24) boot_int) va_nil))) (ve_one (ve_not (x_isi (isB_ok (exI z)) (z.free 12) (va_cons (ve_v 0) (va_cons (ve_bt (z.free 25) boot_bool) va_nil))))))))
theorem ok_ImageX_eqX (z : Zf fas fns tfs exs K mg base) : DOk P w (vbOf K tfs) mg base 1 (fAd K ("Image", some "__eq__")) ["self", "other"] 2 F_ImageX_eqX :=
  body_okD (d := d_ImageX_eqX) (N := N_ImageX_eqX) (k := 0) (bor := [0, 1]) (g := g_ImageX_eqX) rfl (z.df 4 d_ImageX_eqX rfl) sc_ImageX_eqX (fun _ _ _ _ _ _ us hl => match us, hl with | [_, _], _ => rfl)
    fun cdv A outer s H E hc h =>
  (vss_one (vs_ret (ve_and (x_isi (isB_ok (exI z)) (z.free 12) (va_cons (ve_v 1) (va_cons (ve_gc (z.glo 9)) va_nil))) (ve_and (x_cmp (c_eq h.rm) (ve_fld (nm := "Image") rfl (z.cls 10) (z.noat 23) (ve_v 0)) (ve_fld (nm := "Image") rfl (z.cls 10) (z.noat 23) (ve_v 1))) (ve_one (x_cmp (c_eq h.rm) (ve_fld (nm := "Image") rfl (z.cls 10) (z.noat 13) (ve_v 0)) (ve_fld (nm := "Image") rfl (z.cls 10) (z.noat 13) (ve_v 1))))))))
theorem ok_law_one (z : Zf fas fns tfs exs K mg base) : DOk P w (vbOf K tfs) mg base 4 (fAd K ("_law_one", none)) ["draws"] 1 F_law_one :=
  body_okD (d := d_law_one) (N := N_law_one) (k := 3) (bor := [0]) (g := g_law_one) rfl (z.df 5 d_law_one rfl) sc_law_one (fun _ _ _ _ _ _ us hl => match us, hl with | [_], _ => rfl)
    fun cdv A outer s H E hc h =>
  (vss_cons (vs_setF sc_law_one.nd rfl (Or.inl rfl) (x_mod (x_ix (ve_v 0) ve_int) ve_int))
  (vss_cons (vs_if (t_cmp (c_eq h.rm) (x_mod (x_ix (ve_v 0) ve_int) ve_int) ve_int) (vss_one (vs_setF sc_law_one.nd rfl (Or.inl rfl) (x_add ve_int (x_mod (x_ix (ve_v 0) ve_int) ve_int)))) vss_nil)
  (vss_cons (x_setLc 16 sc_law_one.nd (own := [("k", 15)]) rfl (vi_range1 (z.free 4) (va_cons (ve_v 1) va_nil)) rfl gLen_n (fun _ _ _ _ _ => (vg_name sc_law_one.nd rfl (Or.inl rfl))) (fun _ _ _ _ _ => vts_nil) (fun _ _ _ _ _ => (x_mod (x_add (x_ix (ve_v 0) ve_int) (x_mul ve_int (ve_v 15))) ve_int)))
  (vss_cons (vs_setF sc_law_one.nd rfl (Or.inl rfl) ve_bl)
  (vss_cons (vs_if (VW.vt (vw_and (t_cmp c_gt (ve_v 1) ve_int) (vw_and1 (t_cmp (c_eq h.rm) (x_mod (x_fdiv (x_ix (ve_v 0) ve_int) ve_int) ve_int) ve_int)))) (vss_cons (vs_setF sc_law_one.nd rfl (Or.inl rfl) (x_ix (ve_lst (va_cons (x_neg ve_int) (va_cons ve_int (va_cons (x_add ve_int (x_ix (ve_v 0) ve_int)) (va_cons (x_sub (x_neg ve_int) (x_ix (ve_v 0) ve_int)) va_nil))))) (x_mod (x_ix (ve_v 0) ve_int) ve_int)))
  (vss_cons (x_seL (ve_v 14) (ve_v 2) (x_mod (x_ix (ve_v 0) ve_int) (ve_v 1)))
  (vss_one (vs_setF sc_law_one.nd rfl (Or.inl rfl) ve_bl)))) vss_nil)
  (vss_cons (vs_setF sc_law_one.nd rfl (Or.inl rfl) (x_sub (x_mod (x_ix (ve_v 0) ve_int) (x_add (ve_v 1) ve_int)) ve_int))
  (vss_cons (vs_if (VW.vt (vw_or (t_tru (ve_v 3)) (vw_or (t_cmp (c_eq h.rm) (ve_v 1) ve_int) (vw_or (t_cmp c_gt (ve_v 1) ve_int) (vw_or1 (vt_not (t_ch c_le c_lt ve_int (ve_v 4) (ve_v 1)))))))) (vss_one (vs_ret (ve_callD (ok_law_refused z) (h.rm.mono (show 3 ≤ 3 by decide)) h.tk rfl (z.glo 7) (va_cons (x_list (z.free 1) (va_cons (ve_v 2) va_nil)) (va_cons (ve_v 4) va_nil))))) vss_nil)
  (vss_cons (vs_set sc_law_one.nd rfl (Or.inl rfl) (x_list (z.free 1) (va_cons (ve_v 2) va_nil)))
  (vss_cons (vs_setF sc_law_one.nd rfl (Or.inl rfl) (ve_makeD (nm := "Image") (ok_ImageX_initX z) (h.rm.mono (show 2 ≤ 3 by decide)) h.tk rfl (z.mkr 8) (z.glo 9) (va_cons (ve_v 5) (va_cons (ve_v 4) va_nil))))
  (vss_cons (x_seL (x_mod (x_add (x_ix (ve_v 2) ve_int) ve_int) ve_int) (ve_v 5) ve_int)
  (vss_cons (vs_set sc_law_one.nd rfl (Or.inl rfl) (ve_methD0 (nm := "Image") (pl := plainOf _ _) (ok_Image_content z) (h.rm.mono (show 1 ≤ 3 by decide)) h.tk rfl (z.cls 10) (z.meth 11) (ve_v 6)))
  (vss_cons (vs_if (VW.vt (vw_or (vt_not (t_tru (x_isi (isB_ok (exI z)) (z.free 12) (va_cons (ve_v 7) (va_cons (ve_bt (z.free 1) boot_list) va_nil))))) (vw_or (t_cmp (c_ne h.rm) (ve_v 7) (ve_v 2)) (vw_or (vt_not (t_tru (ve_callD (ok_law_is_integer z) (h.rm.mono (show 1 ≤ 3 by decide)) h.tk rfl (z.glo 14) (va_cons (ve_fld (nm := "Image") rfl (z.cls 10) (z.noat 13) (ve_v 6)) va_nil)))) (vw_or1 (t_cmp (c_ne h.rm) (ve_fld (nm := "Image") rfl (z.cls 10) (z.noat 13) (ve_v 6)) (ve_v 4))))))) (vss_one (vs_ret ve_bl)) vss_nil)
  (vss_cons (vs_expr (x_append (ve_v 7) (va_cons ve_int va_nil)))
  (vss_cons (x_seL (x_mod (x_add (x_ix (ve_v 2) ve_int) ve_int) ve_int) (ve_v 7) ve_int)
  (vss_cons (vs_if (VW.vt (vw_or (t_cmp (c_ne h.rm) (ve_methD0 (nm := "Image") (pl := plainOf _ _) (ok_Image_content z) (h.rm.mono (show 1 ≤ 3 by decide)) h.tk rfl (z.cls 10) (z.meth 11) (ve_v 6)) (ve_v 2)) (vw_or1 (vt_not (vt_eqD (nm := "Image") (ok_ImageX_eqX z) (h.rm.mono (show 1 ≤ 3 by decide)) rfl (z.meth 15) (ve_v 6) (ve_makeD (nm := "Image") (ok_ImageX_initX z) (h.rm.mono (show 2 ≤ 3 by decide)) h.tk rfl (z.mkr 8) (z.glo 9) (va_cons (x_list (z.free 1) (va_cons (ve_v 2) va_nil)) (va_cons (ve_v 4) va_nil)))))))) (vss_one (vs_ret ve_bl)) vss_nil)
  (vss_cons (vs_set sc_law_one.nd rfl (Or.inl rfl) (x_list (z.free 1) (va_cons (ve_v 2) va_nil)))
  (vss_cons (x_seL (x_mod (x_add (x_ix (ve_v 8) (x_mod (x_ix (ve_v 0) ve_int) (ve_v 1))) ve_int) ve_int) (ve_v 8) (x_mod (x_ix (ve_v 0) ve_int) (ve_v 1)))
  (vss_cons (vs_setF sc_law_one.nd rfl (Or.inl rfl) (x_mod (x_ix (ve_v 0) ve_int) (ve_v 1)))
  (vss_cons (vs_setF sc_law_one.nd rfl (Or.inl rfl) (x_mod (x_ix (ve_v 0) ve_int) (ve_v 1)))
  (vss_cons (vs_set sc_law_one.nd rfl (Or.inl rfl) (x_list (z.free 1) (va_cons (ve_v 2) va_nil)))
  (vss_cons (x_seL (x_ix (ve_v 2) (ve_v 10)) (ve_v 11) (ve_v 9))
  (vss_cons (x_seL (x_ix (ve_v 2) (ve_v 9)) (ve_v 11) (ve_v 10))
  (vss_cons (vs_if (VW.vt (vw_and (t_cmp (c_ne h.rm) (ve_v 11) (ve_v 2)) (vw_and1 (VW.vt (vw_or (vt_eqD (nm := "Image") (ok_ImageX_eqX z) (h.rm.mono (show 1 ≤ 3 by decide)) rfl (z.meth 15) (ve_v 6) (ve_makeD (nm := "Image") (ok_ImageX_initX z) (h.rm.mono (show 2 ≤ 3 by decide)) h.tk rfl (z.mkr 8) (z.glo 9) (va_cons (ve_v 11) (va_cons (ve_v 4) va_nil)))) (vw_or1 (vt_eqD (nm := "Image") (ok_ImageX_eqX z) (h.rm.mono (show 1 ≤ 3 by decide)) rfl (z.meth 15) (ve_makeD (nm := "Image") (ok_ImageX_initX z) (h.rm.mono (show 2 ≤ 3 by decide)) h.tk rfl (z.mkr 8) (z.glo 9) (va_cons (ve_v 11) (va_cons (ve_v 4) va_nil))) (ve_v 6)))))))) (vss_one (vs_ret ve_bl)) vss_nil)
  (vss_cons (vs_setF sc_law_one.nd rfl (Or.inl rfl) (ve_makeD (nm := "Image") (ok_ImageX_initX z) (h.rm.mono (show 2 ≤ 3 by decide)) h.tk rfl (z.mkr 8) (z.glo 9) (va_cons (x_cut (x_add (ve_v 2) (ve_lst (va_cons (x_ix (ve_v 2) ve_int) va_nil))) vo_none (vo_some ve_int)) (va_cons (ve_v 4) va_nil))))
  (vss_cons (vs_setF sc_law_one.nd rfl (Or.inl rfl) (x_add (x_cut (ve_v 2) (vo_some ve_int) vo_none) (x_cut (ve_v 2) vo_none (vo_some ve_int))))
  (vss_cons (vs_if (VW.vt (vw_and (t_cmp c_lt (ve_v 1) ve_int) (vw_and1 (VW.vt (vw_or (vt_eqD (nm := "Image") (ok_ImageX_eqX z) (h.rm.mono (show 1 ≤ 3 by decide)) rfl (z.meth 15) (ve_v 6) (ve_v 12)) (vw_or1 (vt_eqD (nm := "Image") (ok_ImageX_eqX z) (h.rm.mono (show 1 ≤ 3 by decide)) rfl (z.meth 15) (ve_v 12) (ve_v 6)))))))) (vss_one (vs_ret ve_bl)) vss_nil)
  (vss_cons (vs_if (VW.vt (vw_and (t_cmp (c_ne h.rm) (ve_v 13) (ve_v 2)) (vw_and1 (vt_eqD (nm := "Image") (ok_ImageX_eqX z) (h.rm.mono (show 1 ≤ 3 by decide)) rfl (z.meth 15) (ve_v 6) (ve_makeD (nm := "Image") (ok_ImageX_initX z) (h.rm.mono (show 2 ≤ 3 by decide)) h.tk rfl (z.mkr 8) (z.glo 9) (va_cons (ve_v 13) (va_cons (ve_v 4) va_nil))))))) (vss_one (vs_ret ve_bl)) vss_nil)
  (vss_one (vs_ret (ve_and (ve_not (ve_eqD (nm := "Image") (ok_ImageX_eqX z) (h.rm.mono (show 1 ≤ 3 by decide)) rfl (z.meth 15) (ve_v 6) (ve_makeD (nm := "Image") (ok_ImageX_initX z) (h.rm.mono (show 2 ≤ 3 by decide)) h.tk rfl (z.mkr 8) (z.glo 9) (va_cons (ve_v 8) (va_cons (ve_v 4) va_nil))))) (ve_one (ve_or (x_cmp c_lt (ve_v 1) ve_int) (ve_one (ve_not (ve_eqD (nm := "Image") (ok_ImageX_eqX z) (h.rm.mono (show 1 ≤ 3 by decide)) rfl (z.meth 15) (ve_v 6) (ve_makeD (nm := "Image") (ok_ImageX_initX z) (h.rm.mono (show 2 ≤ 3 by decide)) h.tk rfl (z.mkr 8) (z.glo 9) (va_cons (x_list (z.free 1) (va_cons (ve_v 2) va_nil)) (va_cons (x_mod (x_add (ve_v 4) ve_int) (ve_v 1)) va_nil))))))))))))))))))))))))))))))))))))))
theorem ok_law_draws (z : Zf fas fns tfs exs K mg base) : DOk P w (vbOf K tfs) mg base 1 (fAd K ("_law_draws", none)) ["cell", "modulus", "count"] 3 F_law_draws :=
  body_okD (d := d_law_draws) (N := N_law_draws) (k := 0) (bor := [0, 1, 2]) (g := g_law_draws) rfl (z.df 6 d_law_draws rfl) sc_law_draws (fun _ _ _ _ _ _ us hl => match us, hl with | [_, _, _], _ => rfl)
    fun cdv A outer s H E hc h =>
  (vss_cons (vs_setF sc_law_draws.nd rfl (Or.inl rfl) (ve_v 0))
  (vss_cons (vs_if (t_cmp c_lt (ve_v 3) ve_int) (vss_one (vs_setF sc_law_draws.nd rfl (Or.inl rfl) (x_sub ve_int (ve_v 3)))) vss_nil)
  (vss_cons (vs_set sc_law_draws.nd rfl (Or.inl rfl) (ve_lst va_nil))
  (vss_cons (vs_if (t_cmp c_ge (ve_v 3) (x_pow ve_int ve_int)) (vss_cons (vs_for h.ps rfl (vi_range1 (z.free 4) (va_cons (ve_v 2) va_nil)) (vg_name sc_law_draws.nd rfl (Or.inl rfl)) (vss_cons (vs_expr (x_append (ve_v 4) (va_cons (x_mod (x_int (z.free 24) (va_cons (ve_v 3) va_nil)) (ve_v 1)) va_nil)))
  (vss_one (vs_setF sc_law_draws.nd rfl (Or.inl rfl) (x_fdiv (ve_v 3) (ve_v 1))))))
  (vss_one (vs_ret (ve_v 4)))) vss_nil)
  (vss_cons (vs_for h.ps rfl (vi_range1 (z.free 4) (va_cons (ve_v 2) va_nil)) (vg_name sc_law_draws.nd rfl (Or.inl rfl)) (vss_cons (vs_setF sc_law_draws.nd rfl (Or.inl rfl) (x_mod (x_int (z.free 24) (va_cons (x_mul (x_add (x_add (ve_v 3) (x_mul ve_int (ve_v 5))) ve_int) ve_int) va_nil)) ve_int))
  (vss_cons (vs_setF sc_law_draws.nd rfl (Or.inl rfl) (x_mod (x_int (z.free 24) (va_cons (x_add (x_mul (ve_v 6) ve_int) (x_mul ve_int (ve_v 5))) va_nil)) ve_int))
  (vss_one (vs_expr (x_append (ve_v 4) (va_cons (x_mod (x_int (z.free 24) (va_cons (x_fdiv (ve_v 6) ve_int) va_nil)) (ve_v 1)) va_nil)))))))
  (vss_one (vs_ret (ve_v 4))))))))
theorem ok_law (z : Zf fas fns tfs exs K mg base) : DOk P w (vbOf K tfs) mg base 5 (fAd K ("law", none)) ["script"] 1 F_law :=
  body_okD (d := d_law) (N := N_law) (k := 4) (bor := [0]) (g := g_law) rfl (z.df 7 d_law rfl) sc_law (fun _ _ _ _ _ _ us hl => match us, hl with | [_], _ => rfl)
    fun cdv A outer s H E hc h =>
  (vss_cons (vs_setF sc_law.nd rfl (Or.inl rfl) (x_list (z.free 1) (va_cons (ve_v 0) va_nil)))
  (vss_cons (vs_if (t_cmp (c_eq h.rm) (x_len (z.free 2) (va_cons (ve_v 1) va_nil)) ve_int) (vss_one (vs_setF sc_law.nd rfl (Or.inl rfl) (ve_lst (va_cons ve_int (va_cons ve_int (va_cons ve_int (va_cons ve_int (va_cons ve_int (va_cons ve_int va_nil))))))))) vss_nil)
  (vss_cons (vs_for h.ps rfl (vi_range1 (z.free 4) (va_cons (x_min rfl (z.free 3) (va_cons (x_len (z.free 2) (va_cons (ve_v 1) va_nil)) (va_cons ve_int va_nil))) va_nil)) (vg_name sc_law.nd rfl (Or.inl rfl)) (vss_one (vs_if (vt_not (t_tru (ve_callD (ok_law_one z) (h.rm.mono (show 4 ≤ 4 by decide)) h.tk rfl (z.glo 6) (va_cons (ve_callD (ok_law_draws z) (h.rm.mono (show 1 ≤ 4 by decide)) h.tk rfl (z.glo 5) (va_cons (x_ix (ve_v 1) (ve_v 2)) (va_cons ve_int (va_cons ve_int va_nil)))) va_nil)))) (vss_one (vs_ret ve_bl)) vss_nil)))
  (vss_one (vs_ret ve_bl)))))
end
end Wk

namespace Wk
open PySem PySem.Spec PyProof.Rows L2 He Vl
def okB (x : Int) : Bool := decide (0 ≤ x) && decide (x ≤ 255)
def good (xs : List Int) (e : Int) : Bool := decide (1 ≤ (xs.length : Int)) && decide ((xs.length : Int) ≤ 4096) && xs.all okB && (decide (0 ≤ e) && decide (e < xs.length))
theorem all_ev (xs : List Int) {ρ : Vl.Env} {fa : FE} {w : Val} (h : fa ρ = some (.val w ρ)) (hw : vw ρ w = some (.lst (I xs))) : vAll (qCh (fun i j => decide (i ≤ j)) (fun i j => decide (i ≤ j)) (fun _ _ => some (.int 0)) (fun _ d => some d) (fun _ _ => some (.int 255))) fa ρ = some (.val (.fr (.bl (xs.all okB))) ρ) := by
  unfold vAll bnd
  rw [h]
  simp only [kQ, hw]
  rw [allM_I (p := okB)]
  · rfl
  · intro x
    simp only [qCh, okB]
    by_cases h : 0 ≤ x <;> simp [h]
theorem dne : ¬ ("_data" : Str) = "entry" := by decide
theorem init_g (t : T) (ht : t = .fr (.lst (I xs)) ∨ t = .lst (I xs)) (e : Int) : g_ImageX_initX [some (.obj "Image" []), some t, some (.fr (.int e)), none] =
    if good xs e then some (.nx [some (.obj "Image" [("_data", .lst (I xs)), ("entry", .fr (.int e))]), some t, some (.fr (.int e)), none]) else some (.exc ⟨"InvalidImage", []⟩ [some (.obj "Image" []), some t, some (.fr (.int e)), none]) := by
  have hv : ∃ w, vV 1 [some (.obj "Image" []), some t, some (.fr (.int e)), none] = some (.val w [some (.obj "Image" []), some t, some (.fr (.int e)), none]) ∧ vw [some (.obj "Image" []), some t, some (.fr (.int e)), none] w = some (.lst (I xs)) := by
    rcases ht with rfl | rfl
    · exact ⟨_, rfl, rfl⟩
    · exact ⟨_, rfl, rfl⟩
  obtain ⟨w, h1, h2⟩ := hv
  have ha := all_ev xs h1 h2
  unfold good
  have hu : T.pk t = some (.lst (I xs)) := by rcases ht with rfl | rfl <;> rfl
  by_cases c1 : 1 ≤ (xs.length : Int) <;> by_cases c2 : (xs.length : Int) ≤ 4096 <;> cases c3 : xs.all okB <;> by_cases c4 : 0 ≤ e <;> by_cases c5 : e < (xs.length : Int) <;>
    rcases ht with rfl | rfl <;> simp [g_ImageX_initX, ha, c1, c2, c3, c4, c5, putT, dne]
/-- an image's value -/
def imT (xs : List Int) (e : Int) : T := .obj "Image" [("_data", .lst (I xs)), ("entry", .fr (.int e))]
def imD (xs : List Int) (e : Int) : D := .obj "Image" [("_data", .lst (I xs)), ("entry", .int e)]
theorem init_F (t : T) (ht : t = .fr (.lst (I xs)) ∨ t = .lst (I xs)) (e : Int) : F_ImageX_initX [.obj "Image" [], t, .fr (.int e)] =
    if good xs e then some (.ret (.fr .non) [imT xs e, t, .fr (.int e)]) else some (.exc ⟨"InvalidImage", []⟩ [.obj "Image" [], t, .fr (.int e)]) := by
  have h := init_g t ht e
  unfold F_ImageX_initX
  cases hg : good xs e
  · rw [hg, if_neg Bool.false_ne_true] at h
    rw [if_neg Bool.false_ne_true]
    exact body_exc (by rcases ht with rfl | rfl <;> rfl) h (by rcases ht with rfl | rfl <;> rfl)
  · rw [hg, if_pos rfl] at h
    rw [if_pos rfl]
    exact body_nx (by rcases ht with rfl | rfl <;> rfl) h (by rcases ht with rfl | rfl <;> rfl)
theorem init_fr (xs : List Int) (e : Int) : F_ImageX_initX [.obj "Image" [], .fr (.lst (I xs)), .fr (.int e)] = if good xs e then some (.ret (.fr .non) [imT xs e, .fr (.lst (I xs)), .fr (.int e)]) else some (.exc ⟨"InvalidImage", []⟩ [.obj "Image" [], .fr (.lst (I xs)), .fr (.int e)]) := init_F _ (.inl rfl) e
theorem init_lst (xs : List Int) (e : Int) : F_ImageX_initX [.obj "Image" [], .lst (I xs), .fr (.int e)] = if good xs e then some (.ret (.fr .non) [imT xs e, .lst (I xs), .fr (.int e)]) else some (.exc ⟨"InvalidImage", []⟩ [.obj "Image" [], .lst (I xs), .fr (.int e)]) := init_F _ (.inr rfl) e
theorem refused {xs : List Int} {e : Int} (h : good xs e = false) : F_law_refused [.fr (.lst (I xs)), .fr (.int e)] = some (.ret (.fr (.bl true)) [.fr (.lst (I xs)), .fr (.int e)]) := by
  have h1 : (vMakeG "Image" 3 F_ImageX_initX (vCons (vV 0) (vCons (vV 1) (vNil)))) [some (.fr (.lst (I xs))), some (.fr (.int e)), none] = some (.exc ⟨"InvalidImage", []⟩ [some (.fr (.lst (I xs))), some (.fr (.int e)), none]) := by
    simp [init_fr, h]
  refine body_ret (w := .fr (.bl true)) (ρ := [some (.fr (.lst (I xs))), some (.fr (.int e)), none]) rfl (seq_ret ?_) rfl rfl
  have h2 : (sDrop (vMakeG "Image" 3 F_ImageX_initX (vCons (vV 0) (vCons (vV 1) (vNil))))) [some (.fr (.lst (I xs))), some (.fr (.int e)), none] = some (.exc ⟨"InvalidImage", []⟩ [some (.fr (.lst (I xs))), some (.fr (.int e)), none]) := by
    rw [e_sDrop, e_exS, h1]
  show sTry 2 _ _ _ [some (.fr (.lst (I xs))), some (.fr (.int e)), none] = _
  unfold sTry
  rw [h2]
  rfl
@[simp] theorem f_data {a : List Int} {e : Int} : dFld "Image" "_data" (imD a e) = some (.fr (.lst (I a))) := rfl
@[simp] theorem f_entry {a : List Int} {e : Int} : dFld "Image" "entry" (imD a e) = some (.fr (.int e)) := rfl
@[simp] theorem i_im {a : List Int} {e : Int} : gIsi (kfOf iL) [imD a e, .con "Image"] = some (.fr (.bl true)) := rfl
theorem eq_F (a b : List Int) (e f : Int) : F_ImageX_eqX [.fr (imD a e), .fr (imD b f)] = some (.ret (.fr (.bl (decide (a = b) && (e == f)))) [.fr (imD a e), .fr (imD b f)]) := by
  refine body_ret (w := .fr (.bl (decide (a = b) && (e == f)))) (ρ := [some (.fr (imD a e)), some (.fr (imD b f))]) rfl ?_ rfl rfl
  show g_ImageX_eqX [some (.fr (imD a e)), some (.fr (imD b f))] = _
  by_cases q : a = b <;> simp [g_ImageX_eqX, q]
theorem content_F (a : List Int) (e : Int) : F_Image_content [.fr (imD a e)] = some (.ret (.lst (I a)) [.fr (imD a e)]) := by
  refine body_ret (ρ := [some (.fr (imD a e))]) (w := .nw (.lst (I a))) rfl ?_ rfl rfl
  show g_Image_content [some (.fr (imD a e))] = _
  simp [g_Image_content]
theorem isint_F (e : Int) : F_law_is_integer [.fr (.int e)] = some (.ret (.fr (.bl true)) [.fr (.int e)]) := rfl
/-! the draws -/
def b1 : FS := (sSeq (sDrop (vMu muAppend (vV 4) (vCons (vOp gMod (vCall gInt (vCons (vV 3) (vNil))) (vV 1)) (vNil)))) (
  sSetF 3 (vOp gFdiv (vV 3) (vV 1))))
def b2 : FS := (sSeq (sSetF 6 (vOp gMod (vCall gInt (vCons (vOp gMul (vOp gAdd (vOp gAdd (vV 3) (vOp gMul (vC (.int 7)) (vV 5))) (vC (.int 1))) (vC (.int 48271))) (vNil))) (vC (.int 2147483647)))) (
  sSeq (sSetF 6 (vOp gMod (vCall gInt (vCons (vOp gAdd (vOp gMul (vV 6) (vC (.int 69621))) (vOp gMul (vC (.int 31)) (vV 5))) (vNil))) (vC (.int 2147483629)))) (
  sDrop (vMu muAppend (vV 4) (vCons (vOp gMod (vCall gInt (vCons (vOp gFdiv (vV 6) (vC (.int 7))) (vNil))) (vV 1)) (vNil))))))
def inR (x : Int) : Prop := 0 ≤ x ∧ x < 65536
/-- the row has n numbers, all of 16 bits -/
def RowOk (n : Nat) (ρ : Vl.Env) : Prop := ∃ (a b k c : Option T) (N : Int) (xs : List Int), ρ = [a, some (.fr (.int 65536)), b, some (.fr (.int N)), some (.lst (I xs)), k, c] ∧ xs.length = n ∧ ∀ x ∈ xs, inR x
theorem mod_inR (y : Int) : inR (y.fmod 65536) := ⟨Int.fmod_nonneg_of_pos _ (by omega), Int.fmod_lt_of_pos _ (by omega)⟩
theorem b1_step {n : Nat} {d : D} {ρ : Vl.Env} (hn : n < 100) (hd : ∃ i : Int, d = .int i) (h : RowOk n ρ) : ∃ ρ1 ρ2, gN 5 d ρ = some ρ1 ∧ b1 ρ1 = some (.nx ρ2) ∧ RowOk (n + 1) ρ2 := by
  obtain ⟨i, rfl⟩ := hd
  obtain ⟨a, b, k, c, N, xs, rfl, rfl, hx⟩ := h
  have hz : szL xs.length = true := by simp; omega
  refine ⟨_, _, rfl, ?_, a, b, some (.fr (.int i)), c, N.fdiv 65536, xs ++ [N.fmod 65536], rfl, by simp, fun x hm => ?_⟩
  · simp [b1, -e_szL, hz, I]
  · rcases List.mem_append.mp hm with q | q
    · exact hx x q
    · simp at q; rw [q]; exact mod_inR _
theorem b2_step {n : Nat} {d : D} {ρ : Vl.Env} (hn : n < 100) (hd : ∃ i : Int, d = .int i) (h : RowOk n ρ) : ∃ ρ1 ρ2, gN 5 d ρ = some ρ1 ∧ b2 ρ1 = some (.nx ρ2) ∧ RowOk (n + 1) ρ2 := by
  obtain ⟨i, rfl⟩ := hd
  obtain ⟨a, b, k, c, N, xs, rfl, rfl, hx⟩ := h
  have hz : szL xs.length = true := by simp; omega
  refine ⟨_, _, rfl, ?_, a, b, some (.fr (.int i)), some (.fr (.int ((((N + 7 * i + 1) * 48271).fmod 2147483647 * 69621 + 31 * i).fmod 2147483629))), N, xs ++ [(((((N + 7 * i + 1) * 48271).fmod 2147483647 * 69621 + 31 * i).fmod 2147483629).fdiv 7).fmod 65536], rfl, by simp, fun x hm => ?_⟩
  · simp [b2, -e_szL, hz, I, gMul, gMulI, iOp, big64]
  · rcases List.mem_append.mp hm with q | q
    · exact hx x q
    · simp at q; rw [q]; exact mod_inR _
theorem loop_row {f : FS} (hf : ∀ {n : Nat} {d : D} {ρ : Vl.Env}, n < 100 → (∃ i : Int, d = .int i) → RowOk n ρ → ∃ ρ1 ρ2, gN 5 d ρ = some ρ1 ∧ f ρ1 = some (.nx ρ2) ∧ RowOk (n + 1) ρ2) : ∀ {ds : List D} {n : Nat} {ρ : Vl.Env}, (∀ d ∈ ds, ∃ i : Int, d = .int i) → n + ds.length < 100 → RowOk n ρ → ∃ ρ', loopD (gN 5) f ds ρ = some (.nx ρ') ∧ RowOk (n + ds.length) ρ'
  | [], n, ρ, _, _, h => ⟨ρ, rfl, h⟩
  | d :: ds, n, ρ, hd, hl, h => by
    have hl' : n + (ds.length + 1) < 100 := by simpa using hl
    obtain ⟨ρ1, ρ2, h1, h2, h3⟩ := hf (by omega) (hd d List.mem_cons_self) h
    obtain ⟨ρ', q1, q2⟩ := loop_row hf (ds := ds) (n := n + 1) (fun d hm => hd d (List.mem_cons_of_mem _ hm)) (by omega) h3
    exact ⟨ρ', by unfold loopD; rw [h1]; simp only [h2]; exact q1, by
      have e : n + (d :: ds).length = n + 1 + ds.length := by simp; omega
      rw [e]; exact q2⟩
theorem rng_int {n : Nat} : ∀ d ∈ rngD 0 n, ∃ i : Int, d = .int i := fun d hd => by
  obtain ⟨i, _, e⟩ := List.mem_map.mp hd
  exact ⟨_, e.symm⟩
theorem draws_F (z : Int) : ∃ (xs : List Int) (ts : List T), xs.length = 6 ∧ (∀ x ∈ xs, inR x) ∧ F_law_draws [.fr (.int z), .fr (.int 65536), .fr (.int 6)] = some (.ret (.lst (I xs)) ts) := by
  have hN : ∃ N : Int, sIf (bnd (vOp gLt (vV 3) (vC (.int 0))) asB) (sSetF 3 (vOp gSub (vC (.int 0)) (vV 3))) (sNil) [some (.fr (.int z)), some (.fr (.int 65536)), some (.fr (.int 6)), some (.fr (.int z)), none, none, none] = some (.nx [some (.fr (.int z)), some (.fr (.int 65536)), some (.fr (.int 6)), some (.fr (.int N)), none, none, none]) := by
    by_cases h : z < 0
    · exact ⟨0 - z, by simp [h]⟩
    · exact ⟨z, by simp [h]⟩
  obtain ⟨N, hN⟩ := hN
  have six : (rngD 0 6).length = 6 := rfl
  have r0 : RowOk 0 [some (.fr (.int z)), some (.fr (.int 65536)), some (.fr (.int 6)), some (.fr (.int N)), some (.lst []), none, none] := ⟨some (.fr (.int z)), some (.fr (.int 6)), none, none, N, [], rfl, rfl, fun x h => (by cases h)⟩
  have fin : ∃ (xs : List Int) (a b k c : Option T) (N : Int), xs.length = 6 ∧ (∀ x ∈ xs, inR x) ∧ g_law_draws [some (.fr (.int z)), some (.fr (.int 65536)), some (.fr (.int 6)), none, none, none, none] = some (.ret (.al 4) [a, some (.fr (.int 65536)), b, some (.fr (.int N)), some (.lst (I xs)), k, c]) := by
    unfold g_law_draws
    rw [seq_nx (ρ' := [some (.fr (.int z)), some (.fr (.int 65536)), some (.fr (.int 6)), some (.fr (.int z)), none, none, none]) rfl, seq_nx hN, seq_nx (ρ' := [some (.fr (.int z)), some (.fr (.int 65536)), some (.fr (.int 6)), some (.fr (.int N)), some (.lst []), none, none]) rfl]
    have hr : (bnd (vCons (vV 2) (vNil)) fun ws => optF (dR1 ws)) [some (.fr (.int z)), some (.fr (.int 65536)), some (.fr (.int 6)), some (.fr (.int N)), some (.lst []), none, none] = some (.val (rngD 0 6) [some (.fr (.int z)), some (.fr (.int 65536)), some (.fr (.int 6)), some (.fr (.int N)), some (.lst []), none, none]) := rfl
    by_cases h : (10 : Int) ^ (18 : Int).toNat ≤ N
    · obtain ⟨ρ', h1, a, b, k, c, N', xs, rfl, hl, hx⟩ := loop_row b1_step rng_int (by rw [six]; omega) r0
      refine ⟨xs, a, b, k, c, N', by rw [hl, six], hx, seq_ret ?_⟩
      rw [e_sIf, e_exS, show (bnd (vOp gGe (vV 3) (vOp gPow (vC (.int 10)) (vC (.int 18)))) asB) [some (.fr (.int z)), some (.fr (.int 65536)), some (.fr (.int 6)), some (.fr (.int N)), some (.lst []), none, none] = some (.val true [some (.fr (.int z)), some (.fr (.int 65536)), some (.fr (.int 6)), some (.fr (.int N)), some (.lst []), none, none]) from by rw [← decide_eq_true h]; rfl]
      simp only [if_true]
      exact (seq_nx (f := sFor _ (gN 5) b1) ((for_val hr).trans h1)).trans rfl
    · obtain ⟨ρ', h1, a, b, k, c, N', xs, rfl, hl, hx⟩ := loop_row b2_step rng_int (by rw [six]; omega) r0
      refine ⟨xs, a, b, k, c, N', by rw [hl, six], hx, ?_⟩
      rw [seq_nx (ρ' := [some (.fr (.int z)), some (.fr (.int 65536)), some (.fr (.int 6)), some (.fr (.int N)), some (.lst []), none, none]) (by
        rw [e_sIf, e_exS, show (bnd (vOp gGe (vV 3) (vOp gPow (vC (.int 10)) (vC (.int 18)))) asB) [some (.fr (.int z)), some (.fr (.int 65536)), some (.fr (.int 6)), some (.fr (.int N)), some (.lst []), none, none] = some (.val false [some (.fr (.int z)), some (.fr (.int 65536)), some (.fr (.int 6)), some (.fr (.int N)), some (.lst []), none, none]) from by rw [← decide_eq_false h]; rfl]
        rfl)]
      exact (seq_nx (f := sFor _ (gN 5) b2) ((for_val hr).trans h1)).trans rfl
  obtain ⟨xs, a, b, k, c, N', hl, hx, hg⟩ := fin
  exact ⟨xs, [.fr (.int z), .fr (.int 65536), .fr (.int 6)], hl, hx, body_ret rfl hg rfl rfl⟩
end Wk

namespace Wk
open PySem PySem.Spec PyProof.Rows L2 He Vl
@[simp] theorem im_own {a : List Int} {e : Int} : (imT a e).isOwn = true := rfl
@[simp] theorem im_toD {a : List Int} {e : Int} : (imT a e).toD = imD a e := by simp [imT, imD]
@[simp] theorem im_b1 {a : List Int} {e : Int} {ρ : Vl.Env} : isObjB "Image" "" (.fr (imD a e)) ρ = true := rfl
@[simp] theorem im_b2 {a : List Int} {e : Int} {ρ : Vl.Env} : isObjB "Image" "" (.nw (imT a e)) ρ = true := rfl
@[simp] theorem im_b3 {a : List Int} {e : Int} {ρ : Vl.Env} : isObjB "Image" "content" (.fr (imD a e)) ρ = true := rfl
@[simp] theorem i_list {a : List D} : gIsi (kfOf iL) [.lst a, .ty "list"] = some (.fr (.bl true)) := rfl
@[simp] theorem fmod_pos {y n : Int} (h : 0 < n) : 0 ≤ y.fmod n := Int.fmod_nonneg_of_pos _ h
theorem good_of {xs : List Int} {e : Int} (h1 : 1 ≤ xs.length) (h2 : xs.length ≤ 4096) (h3 : xs.all okB = true) (h4 : 0 ≤ e) (h5 : e < xs.length) : good xs e = true := by
  have q1 : (1 : Int) ≤ xs.length := by omega
  have q2 : (xs.length : Int) ≤ 4096 := by omega
  simp only [good, h3, decide_eq_true q1, decide_eq_true q2, decide_eq_true h4, decide_eq_true h5, Bool.and_self]
theorem I_app1 {xs : List Int} {x : Int} : I xs ++ [.int x] = I (xs ++ [x]) := by simp [I]
@[simp] theorem ixI0 {xs : List Int} {i : Nat} (h : i < xs.length) : L2.atI (I xs) (i : Int) = some (.int xs[i]) := by
  rw [atI_I (by omega) (by omega)]
  rfl
theorem okB_mod (y : Int) : okB (y.fmod 256) = true := by
  have h1 : 0 ≤ y.fmod 256 := Int.fmod_nonneg_of_pos _ (by omega)
  have h2 : y.fmod 256 < 256 := Int.fmod_lt_of_pos _ (by omega)
  simp [okB, h1]
  omega
theorem all_set {xs : List Int} {i : Nat} {v : Int} (h : xs.all okB = true) (hv : okB v = true) : (xs.set i v).all okB = true := by
  rw [List.all_eq_true] at h ⊢
  intro x hx
  rcases List.mem_or_eq_of_mem_set hx with q | q
  · exact h x q
  · rw [q]; exact hv
theorem all_get {xs : List Int} {i : Nat} (h : xs.all okB = true) (hi : i < xs.length) : okB xs[i] = true := List.all_eq_true.mp h _ (List.getElem_mem hi)
theorem set_bad {xs : List Int} {i : Nat} {v : Int} (hi : i < xs.length) (hv : okB v = false) : (xs.set i v).all okB = false := by
  rw [List.all_eq_false]
  exact ⟨v, List.mem_set hi v, by rw [hv]; simp⟩
section
variable {a b c d e f : Int}

theorem st_size (ha : inR a) : ∃ n : Nat, n ≤ 4097 ∧ ∀ g : FS, sSeq (sSetF 1 (vOp gMod (vOp gIx (vV 0) (vC (.int 0))) (vC (.int 71)))) (sSeq (sIf (bnd (vOp gEq (vOp gMod (vOp gIx (vV 0) (vC (.int 1))) (vC (.int 9))) (vC (.int 4))) asB) (sSetF 1 (vOp gAdd (vC (.int 4096)) (vOp gMod (vOp gIx (vV 0) (vC (.int 0))) (vC (.int 2))))) (sNil)) g) [some (.fr (.lst (I [a, b, c, d, e, f]))), none, none, none, none, none, none, none, none, none, none, none, none, none, none, none] = g [some (.fr (.lst (I [a, b, c, d, e, f]))), some (.fr (.int (n : Nat))), none, none, none, none, none, none, none, none, none, none, none, none, none, none] := by
  have h0 : L2.atI (I [a, b, c, d, e, f]) 0 = some (.int a) := rfl
  have h1 : L2.atI (I [a, b, c, d, e, f]) 1 = some (.int b) := rfl
  have m1 : 0 ≤ a.fmod 71 := Int.fmod_nonneg_of_pos _ (by omega)
  have m2 : a.fmod 71 < 71 := Int.fmod_lt_of_pos _ (by omega)
  have m3 : 0 ≤ a.fmod 2 := Int.fmod_nonneg_of_pos _ (by omega)
  have m4 : a.fmod 2 < 2 := Int.fmod_lt_of_pos _ (by omega)
  by_cases q : b.fmod 9 = 4
  · refine ⟨(4096 + a.fmod 2).toNat, by omega, fun g => ?_⟩
    have e1 : ((4096 + a.fmod 2).toNat : Int) = 4096 + a.fmod 2 := by omega
    rw [e1]
    simp [h0, h1, q]
  · refine ⟨(a.fmod 71).toNat, by omega, fun g => ?_⟩
    have e1 : ((a.fmod 71).toNat : Int) = a.fmod 71 := by omega
    rw [e1]
    simp [h0, h1, q]
def xs0 (c : Int) (n : Nat) : List Int := (List.range n).map fun (i : Nat) => (c + 89 * (i : Int)).fmod 256
theorem st_data {n : Nat} (hn : n ≤ 4097) : sSet 2 (vLc 16 [15] (bnd (vCons (vV 1) (vNil)) fun ws => optF (dR1 ws)) (gN 15) (Vl.ret true) (vOp gMod (vOp gAdd (vOp gIx (vV 0) (vC (.int 2))) (vOp gMul (vC (.int 89)) (vV 15))) (vC (.int 256)))) [some (.fr (.lst (I [a, b, c, d, e, f]))), some (.fr (.int (n : Nat))), none, none, none, none, none, none, none, none, none, none, none, none, none, none] = some (.nx [some (.fr (.lst (I [a, b, c, d, e, f]))), some (.fr (.int (n : Nat))), some (.lst (I (xs0 c n))), none, none, none, none, none, none, none, none, none, none, none, none, none]) := by
  have h2 : L2.atI (I [a, b, c, d, e, f]) 2 = some (.int c) := rfl
  have hs := dR1_nat (n := n) (by omega)
  have hc : compD [15] (gN 15) (Vl.ret true) (vOp gMod (vOp gAdd (vOp gIx (vV 0) (vC (.int 2))) (vOp gMul (vC (.int 89)) (vV 15))) (vC (.int 256))) (rngD 0 n) [] [some (.fr (.lst (I [a, b, c, d, e, f]))), some (.fr (.int (n : Nat))), none, none, none, none, none, none, none, none, none, none, none, none, none, none] = some (I (xs0 c n), [some (.fr (.lst (I [a, b, c, d, e, f]))), some (.fr (.int (n : Nat))), none, none, none, none, none, none, none, none, none, none, none, none, none, none]) := by
    rw [compD_map (h := fun d => match d with | .int k => .int ((c + 89 * k).fmod 256) | _ => .non)]
    · simp [rngD, xs0, I]
    · intro d hd
      obtain ⟨k, rfl⟩ := rng_int d hd
      simp [stepC, h2, gMul, gMulI, iOp, big64, wipeE]
    · simp [rngD]; omega
  have hf : (bnd (vCons (vV 1) (vNil)) fun ws => optF (dR1 ws)) [some (.fr (.lst (I [a, b, c, d, e, f]))), some (.fr (.int (n : Nat))), none, none, none, none, none, none, none, none, none, none, none, none, none, none] = some (.val (rngD 0 n) [some (.fr (.lst (I [a, b, c, d, e, f]))), some (.fr (.int (n : Nat))), none, none, none, none, none, none, none, none, none, none, none, none, none, none]) := by simp [hs]
  have hv : vLc 16 [15] (bnd (vCons (vV 1) (vNil)) fun ws => optF (dR1 ws)) (gN 15) (Vl.ret true) (vOp gMod (vOp gAdd (vOp gIx (vV 0) (vC (.int 2))) (vOp gMul (vC (.int 89)) (vV 15))) (vC (.int 256))) [some (.fr (.lst (I [a, b, c, d, e, f]))), some (.fr (.int (n : Nat))), none, none, none, none, none, none, none, none, none, none, none, none, none, none] = some (.val (.nw (.lst (I (xs0 c n)))) [some (.fr (.lst (I [a, b, c, d, e, f]))), some (.fr (.int (n : Nat))), none, none, none, none, none, none, none, none, none, none, none, none, none, none]) := by
    unfold vLc
    rw [e_bnd, hf]
    show kLc 16 [15] (gN 15) (Vl.ret true) (vOp gMod (vOp gAdd (vOp gIx (vV 0) (vC (.int 2))) (vOp gMul (vC (.int 89)) (vV 15))) (vC (.int 256))) (rngD 0 n) [some (.fr (.lst (I [a, b, c, d, e, f]))), some (.fr (.int (n : Nat))), none, none, none, none, none, none, none, none, none, none, none, none, none, none] = _
    unfold kLc
    rw [if_pos (by simp), show wipeE [some (.fr (.lst (I [a, b, c, d, e, f]))), some (.fr (.int (n : Nat))), none, none, none, none, none, none, none, none, none, none, none, none, none, none] [15] = [some (.fr (.lst (I [a, b, c, d, e, f]))), some (.fr (.int (n : Nat))), none, none, none, none, none, none, none, none, none, none, none, none, none, none] from rfl, hc]
  rw [e_sSet, e_exS, hv]
  rfl
theorem st_wrong {n : Nat} (hd : inR d) (he : inR e) (hn : n ≤ 4097) : ∃ (wr : Bool) (xs : List Int) (v : Option T), xs.length = n ∧ xs.all okB = !wr ∧ (wr = true → 0 < n) ∧ sIf (vAnd (bnd (vOp gGt (vV 1) (vC (.int 0))) asB) (bnd (vOp gEq (vOp gMod (vOp gFdiv (vOp gIx (vV 0) (vC (.int 1))) (vC (.int 9))) (vC (.int 3))) (vC (.int 1))) asB)) (sSeq (sSetF 14 (vOp gIx (vLst (vCons (vUn gNeg (vC (.int 1))) (vCons (vC (.int 256)) (vCons (vOp gAdd (vC (.int 1000)) (vOp gIx (vV 0) (vC (.int 3)))) (vCons (vOp Vl.gSub (vUn gNeg (vC (.int 7))) (vOp gIx (vV 0) (vC (.int 3)))) (vNil)))))) (vOp gMod (vOp gIx (vV 0) (vC (.int 4))) (vC (.int 4))))) (sSeq (sSe seL (vV 14) (vV 2) (vOp gMod (vOp gIx (vV 0) (vC (.int 3))) (vV 1))) (sSetF 3 (vC (.bl true))))) (sNil) [some (.fr (.lst (I [a, b, c, d, e, f]))), some (.fr (.int (n : Nat))), some (.lst (I (xs0 c n))), some (.fr (.bl false)), none, none, none, none, none, none, none, none, none, none, none, none] = some (.nx [some (.fr (.lst (I [a, b, c, d, e, f]))), some (.fr (.int (n : Nat))), some (.lst (I xs)), some (.fr (.bl wr)), none, none, none, none, none, none, none, none, none, none, v, none]) := by
  have h1 : L2.atI (I [a, b, c, d, e, f]) 1 = some (.int b) := rfl
  have h3 : L2.atI (I [a, b, c, d, e, f]) 3 = some (.int d) := rfl
  have h4 : L2.atI (I [a, b, c, d, e, f]) 4 = some (.int e) := rfl
  have hok : (xs0 c n).all okB = true := by
    rw [List.all_eq_true]
    intro x hx
    obtain ⟨i, _, rfl⟩ := List.mem_map.mp hx
    exact okB_mod _
  have hlen : (xs0 c n).length = n := by simp [xs0]
  by_cases q : 0 < n ∧ (b.fdiv 9).fmod 3 = 1
  · obtain ⟨q1, q2⟩ := q
    have q1' : (0 : Int) < n := by omega
    have hv : ∃ v : Int, okB v = false ∧ L2.atI [D.int (-1), D.int 256, D.int (1000 + d), D.int (-7 - d)] (e.fmod 4) = some (.int v) := by
      obtain ⟨d0, d1⟩ := hd
      have m1 : 0 ≤ e.fmod 4 := Int.fmod_nonneg_of_pos _ (by omega)
      have m2 : e.fmod 4 < 4 := Int.fmod_lt_of_pos _ (by omega)
      have : e.fmod 4 = 0 ∨ e.fmod 4 = 1 ∨ e.fmod 4 = 2 ∨ e.fmod 4 = 3 := by omega
      rcases this with q | q | q | q <;> rw [q]
      · exact ⟨-1, rfl, rfl⟩
      · exact ⟨256, rfl, rfl⟩
      · exact ⟨1000 + d, by simp [okB]; omega, rfl⟩
      · exact ⟨-7 - d, by simp [okB]; omega, rfl⟩
    obtain ⟨v, hv1, hv2⟩ := hv
    have m1 : 0 ≤ d.fmod n := Int.fmod_nonneg_of_pos _ q1'
    have m2 : d.fmod n < n := Int.fmod_lt_of_pos _ q1'
    refine ⟨true, (xs0 c n).set (d.fmod n).toNat v, some (.fr (.int v)), by simp [hlen], ?_, fun _ => q1, ?_⟩
    · rw [set_bad (by rw [hlen]; omega) hv1]; rfl
    · have hn0 : n ≠ 0 := by omega
      have hse := seL_I (xs := xs0 c n) (i := d.fmod n) (v := v) m1 (by rw [hlen]; exact m2)
      have hne : (n : Int) ≠ 0 := by omega
      simp [h1, h3, h4, q1, q2, hv2, hse, hn0]
  · refine ⟨false, xs0 c n, none, hlen, by rw [hok]; rfl, fun z => (by cases z), ?_⟩
    by_cases q1 : 0 < n
    · have q2 : ¬ (b.fdiv 9).fmod 3 = 1 := fun z => q ⟨q1, z⟩
      simp [h1, q1, q2]
    · simp [q1]
end
end Wk

namespace Wk
open PySem PySem.Spec PyProof.Rows L2 He Vl
section
variable {a b c d e f : Int} {n : Nat} {xs : List Int} {v : Option T} {en : Int}
/-- behind the refusals -/
structure Go (n : Nat) (xs : List Int) (en : Int) : Prop where
  l : xs.length = n
  ok : xs.all okB = true
  n1 : 1 ≤ n
  n2 : n ≤ 4096
  e0 : 0 ≤ en
  e1 : en < n
theorem Go.gd {ys : List Int} (h : Go n xs en) (hl : ys.length = n) (ho : ys.all okB = true) : good ys en = true := good_of (by rw [hl]; exact h.n1) (by rw [hl]; exact h.n2) ho h.e0 (by rw [hl]; exact h.e1)
theorem Go.g (h : Go n xs en) : good xs en = true := h.gd h.l h.ok
def at0 (xs : List Int) (i : Nat) : Int := xs.getD i 0

theorem o_given  : (sSet 5 (vCall gList (vCons (vV 2) (vNil)))) [some (.fr (.lst (I [a, b, c, d, e, f]))), some (.fr (.int (n : Nat))), some (.lst (I xs)), some (.fr (.bl false)), some (.fr (.int en)), none, none, none, none, none, none, none, none, none, v, none] = some (.nx [some (.fr (.lst (I [a, b, c, d, e, f]))), some (.fr (.int (n : Nat))), some (.lst (I xs)), some (.fr (.bl false)), some (.fr (.int en)), some (.lst (I xs)), none, none, none, none, none, none, none, none, v, none]) := by
  simp
theorem o_image (h : Go n xs en) : (sSetF 6 (vMakeG "Image" 3 F_ImageX_initX (vCons (vV 5) (vCons (vV 4) (vNil))))) [some (.fr (.lst (I [a, b, c, d, e, f]))), some (.fr (.int (n : Nat))), some (.lst (I xs)), some (.fr (.bl false)), some (.fr (.int en)), some (.lst (I xs)), none, none, none, none, none, none, none, none, v, none] = some (.nx [some (.fr (.lst (I [a, b, c, d, e, f]))), some (.fr (.int (n : Nat))), some (.lst (I xs)), some (.fr (.bl false)), some (.fr (.int en)), some (.lst (I xs)), some (.fr (imD xs en)), none, none, none, none, none, none, none, v, none]) := by
  simp [init_lst, h.g]
theorem o_given0 (h : Go n xs en) : ∃ ys : List Int, (sSe seL (vOp gMod (vOp gAdd (vOp gIx (vV 2) (vC (.int 0))) (vC (.int 1))) (vC (.int 256))) (vV 5) (vC (.int 0))) [some (.fr (.lst (I [a, b, c, d, e, f]))), some (.fr (.int (n : Nat))), some (.lst (I xs)), some (.fr (.bl false)), some (.fr (.int en)), some (.lst (I xs)), some (.fr (imD xs en)), none, none, none, none, none, none, none, v, none] = some (.nx [some (.fr (.lst (I [a, b, c, d, e, f]))), some (.fr (.int (n : Nat))), some (.lst (I xs)), some (.fr (.bl false)), some (.fr (.int en)), some (.lst (I ys)), some (.fr (imD xs en)), none, none, none, none, none, none, none, v, none]) := by
  have hl : 0 < xs.length := by rw [h.l]; exact h.n1
  have h0 : L2.atI (I xs) 0 = some (.int xs[0]) := ixI0 (i := 0) hl
  refine ⟨xs.set (0 : Int).toNat ((xs[0] + 1).fmod 256), ?_⟩
  have hs := seL_I (xs := xs) (i := 0) (v := (xs[0] + 1).fmod 256) (by omega) (by omega)
  simp [h0, hs]
theorem o_first {ys : List Int} (h : Go n xs en) : (sSet 7 (vMethG "Image" "content" 1 F_Image_content (vV 6) (vNil))) [some (.fr (.lst (I [a, b, c, d, e, f]))), some (.fr (.int (n : Nat))), some (.lst (I xs)), some (.fr (.bl false)), some (.fr (.int en)), some (.lst (I ys)), some (.fr (imD xs en)), none, none, none, none, none, none, none, v, none] = some (.nx [some (.fr (.lst (I [a, b, c, d, e, f]))), some (.fr (.int (n : Nat))), some (.lst (I xs)), some (.fr (.bl false)), some (.fr (.int en)), some (.lst (I ys)), some (.fr (imD xs en)), some (.lst (I xs)), none, none, none, none, none, none, v, none]) := by
  simp [content_F]
theorem o_if1 {ys : List Int} (h : Go n xs en) : (sIf (vOr (vNot (bnd (vCall (gIsi (kfOf iL)) (vCons (vV 7) (vCons (vC (.ty "list")) (vNil)))) asT)) (vOr (bnd (vOp gNe (vV 7) (vV 2)) asB) (vOr (vNot (bnd (vCallG 1 F_law_is_integer (vCons (vFld "Image" "entry" (vV 6)) (vNil))) asT)) (bnd (vOp gNe (vFld "Image" "entry" (vV 6)) (vV 4)) asB)))) (sRet (vC (.bl false))) (sNil)) [some (.fr (.lst (I [a, b, c, d, e, f]))), some (.fr (.int (n : Nat))), some (.lst (I xs)), some (.fr (.bl false)), some (.fr (.int en)), some (.lst (I ys)), some (.fr (imD xs en)), some (.lst (I xs)), none, none, none, none, none, none, v, none] = some (.nx [some (.fr (.lst (I [a, b, c, d, e, f]))), some (.fr (.int (n : Nat))), some (.lst (I xs)), some (.fr (.bl false)), some (.fr (.int en)), some (.lst (I ys)), some (.fr (imD xs en)), some (.lst (I xs)), none, none, none, none, none, none, v, none]) := by
  simp [isint_F]
theorem o_app {ys : List Int} (h : Go n xs en) : (sDrop (vMu muAppend (vV 7) (vCons (vC (.int 3)) (vNil)))) [some (.fr (.lst (I [a, b, c, d, e, f]))), some (.fr (.int (n : Nat))), some (.lst (I xs)), some (.fr (.bl false)), some (.fr (.int en)), some (.lst (I ys)), some (.fr (imD xs en)), some (.lst (I xs)), none, none, none, none, none, none, v, none] = some (.nx [some (.fr (.lst (I [a, b, c, d, e, f]))), some (.fr (.int (n : Nat))), some (.lst (I xs)), some (.fr (.bl false)), some (.fr (.int en)), some (.lst (I ys)), some (.fr (imD xs en)), some (.lst (I (xs ++ [3]))), none, none, none, none, none, none, v, none]) := by
  have hz : szL xs.length = true := by
    have h1 := h.l
    have h2 := h.n2
    simp
    omega
  simp only [e_sDrop, e_exS, e_mu, e_bnd, e_v, List.getElem?_cons_succ, List.getElem?_cons_zero, e_isOwnL, if_true, e_cons, e_c, e_nil, e_ret, e_kMu, e_fzs_cons, e_fzs_nil, e_fz_fr, Option.bind_some, Option.map_some, e_append, I_len, hz, I_app1, List.set_cons_succ, List.set_cons_zero, e_sNil]
theorem o_first0 {ys : List Int} (h : Go n xs en) : ∃ zs : List Int, (sSe seL (vOp gMod (vOp gAdd (vOp gIx (vV 2) (vC (.int 0))) (vC (.int 2))) (vC (.int 256))) (vV 7) (vC (.int 0))) [some (.fr (.lst (I [a, b, c, d, e, f]))), some (.fr (.int (n : Nat))), some (.lst (I xs)), some (.fr (.bl false)), some (.fr (.int en)), some (.lst (I ys)), some (.fr (imD xs en)), some (.lst (I (xs ++ [3]))), none, none, none, none, none, none, v, none] = some (.nx [some (.fr (.lst (I [a, b, c, d, e, f]))), some (.fr (.int (n : Nat))), some (.lst (I xs)), some (.fr (.bl false)), some (.fr (.int en)), some (.lst (I ys)), some (.fr (imD xs en)), some (.lst (I zs)), none, none, none, none, none, none, v, none]) := by
  have hl : 0 < xs.length := by rw [h.l]; exact h.n1
  have h0 : L2.atI (I xs) 0 = some (.int xs[0]) := ixI0 (i := 0) hl
  refine ⟨(xs ++ [3]).set (0 : Int).toNat ((xs[0] + 2).fmod 256), ?_⟩
  have hs := seL_I (xs := xs ++ [3]) (i := 0) (v := (xs[0] + 2).fmod 256) (by omega) (by simp)
  simp [h0, hs]
theorem o_if2 {ys zs : List Int} (h : Go n xs en) : (sIf (vOr (bnd (vOp gNe (vMethG "Image" "content" 1 F_Image_content (vV 6) (vNil)) (vV 2)) asB) (vNot (bnd (vEqO "Image" F_ImageX_eqX (vV 6) (vMakeG "Image" 3 F_ImageX_initX (vCons (vCall gList (vCons (vV 2) (vNil))) (vCons (vV 4) (vNil))))) asB))) (sRet (vC (.bl false))) (sNil)) [some (.fr (.lst (I [a, b, c, d, e, f]))), some (.fr (.int (n : Nat))), some (.lst (I xs)), some (.fr (.bl false)), some (.fr (.int en)), some (.lst (I ys)), some (.fr (imD xs en)), some (.lst (I zs)), none, none, none, none, none, none, v, none] = some (.nx [some (.fr (.lst (I [a, b, c, d, e, f]))), some (.fr (.int (n : Nat))), some (.lst (I xs)), some (.fr (.bl false)), some (.fr (.int en)), some (.lst (I ys)), some (.fr (imD xs en)), some (.lst (I zs)), none, none, none, none, none, none, v, none]) := by
  simp [content_F, init_fr, h.g, eq_F]
theorem o_other {ys zs : List Int}  : (sSet 8 (vCall gList (vCons (vV 2) (vNil)))) [some (.fr (.lst (I [a, b, c, d, e, f]))), some (.fr (.int (n : Nat))), some (.lst (I xs)), some (.fr (.bl false)), some (.fr (.int en)), some (.lst (I ys)), some (.fr (imD xs en)), some (.lst (I zs)), none, none, none, none, none, none, v, none] = some (.nx [some (.fr (.lst (I [a, b, c, d, e, f]))), some (.fr (.int (n : Nat))), some (.lst (I xs)), some (.fr (.bl false)), some (.fr (.int en)), some (.lst (I ys)), some (.fr (imD xs en)), some (.lst (I zs)), some (.lst (I xs)), none, none, none, none, none, v, none]) := by
  simp
theorem pl (h : Go n xs en) (y : Int) : 0 ≤ y.fmod n ∧ y.fmod n < n ∧ (y.fmod n).toNat < xs.length ∧ ((y.fmod n).toNat : Int) = y.fmod n ∧ L2.atI (I xs) (y.fmod n) = some (.int (at0 xs (y.fmod n).toNat)) := by
  have hn : (0 : Int) < n := by have := h.n1; omega
  have m1 : 0 ≤ y.fmod n := Int.fmod_nonneg_of_pos _ hn
  have m2 : y.fmod n < n := Int.fmod_lt_of_pos _ hn
  have hl := h.l
  have m3 : (y.fmod n).toNat < xs.length := by omega
  refine ⟨m1, m2, m3, by omega, ?_⟩
  unfold at0
  rw [atI_I m1 (by omega), List.getD_eq_getElem?_getD, List.getElem?_eq_getElem m3]
  rfl
def oth (d : Int) (n : Nat) (xs : List Int) : List Int := xs.set (d.fmod n).toNat ((at0 xs (d.fmod n).toNat + 1).fmod 256)
theorem o_oth {ys zs : List Int} (h : Go n xs en) : (sSe seL (vOp gMod (vOp gAdd (vOp gIx (vV 8) (vOp gMod (vOp gIx (vV 0) (vC (.int 3))) (vV 1))) (vC (.int 1))) (vC (.int 256))) (vV 8) (vOp gMod (vOp gIx (vV 0) (vC (.int 3))) (vV 1))) [some (.fr (.lst (I [a, b, c, d, e, f]))), some (.fr (.int (n : Nat))), some (.lst (I xs)), some (.fr (.bl false)), some (.fr (.int en)), some (.lst (I ys)), some (.fr (imD xs en)), some (.lst (I zs)), some (.lst (I xs)), none, none, none, none, none, v, none] = some (.nx [some (.fr (.lst (I [a, b, c, d, e, f]))), some (.fr (.int (n : Nat))), some (.lst (I xs)), some (.fr (.bl false)), some (.fr (.int en)), some (.lst (I ys)), some (.fr (imD xs en)), some (.lst (I zs)), some (.lst (I (oth d n xs))), none, none, none, none, none, v, none]) := by
  obtain ⟨m1, m2, m3, m4, m5⟩ := pl h d
  have h3 : L2.atI (I [a, b, c, d, e, f]) 3 = some (.int d) := rfl
  have hn0 : n ≠ 0 := by have := h.n1; omega
  have hs := seL_I (xs := xs) (i := d.fmod n) (v := (at0 xs (d.fmod n).toNat + 1).fmod 256) m1 (by rw [h.l]; exact m2)
  simp [h3, hn0, m5, hs, oth]
theorem o_fa {ys zs : List Int} (h : Go n xs en) : (sSetF 9 (vOp gMod (vOp gIx (vV 0) (vC (.int 3))) (vV 1))) [some (.fr (.lst (I [a, b, c, d, e, f]))), some (.fr (.int (n : Nat))), some (.lst (I xs)), some (.fr (.bl false)), some (.fr (.int en)), some (.lst (I ys)), some (.fr (imD xs en)), some (.lst (I zs)), some (.lst (I (oth d n xs))), none, none, none, none, none, v, none] = some (.nx [some (.fr (.lst (I [a, b, c, d, e, f]))), some (.fr (.int (n : Nat))), some (.lst (I xs)), some (.fr (.bl false)), some (.fr (.int en)), some (.lst (I ys)), some (.fr (imD xs en)), some (.lst (I zs)), some (.lst (I (oth d n xs))), some (.fr (.int (d.fmod n))), none, none, none, none, v, none]) := by
  have h3 : L2.atI (I [a, b, c, d, e, f]) 3 = some (.int d) := rfl
  have hn0 : n ≠ 0 := by have := h.n1; omega
  simp [h3, hn0]
theorem o_sa {ys zs : List Int} (h : Go n xs en) : (sSetF 10 (vOp gMod (vOp gIx (vV 0) (vC (.int 4))) (vV 1))) [some (.fr (.lst (I [a, b, c, d, e, f]))), some (.fr (.int (n : Nat))), some (.lst (I xs)), some (.fr (.bl false)), some (.fr (.int en)), some (.lst (I ys)), some (.fr (imD xs en)), some (.lst (I zs)), some (.lst (I (oth d n xs))), some (.fr (.int (d.fmod n))), none, none, none, none, v, none] = some (.nx [some (.fr (.lst (I [a, b, c, d, e, f]))), some (.fr (.int (n : Nat))), some (.lst (I xs)), some (.fr (.bl false)), some (.fr (.int en)), some (.lst (I ys)), some (.fr (imD xs en)), some (.lst (I zs)), some (.lst (I (oth d n xs))), some (.fr (.int (d.fmod n))), some (.fr (.int (e.fmod n))), none, none, none, v, none]) := by
  have h3 : L2.atI (I [a, b, c, d, e, f]) 4 = some (.int e) := rfl
  have hn0 : n ≠ 0 := by have := h.n1; omega
  simp [h3, hn0]
theorem o_sw {ys zs : List Int}  : (sSet 11 (vCall gList (vCons (vV 2) (vNil)))) [some (.fr (.lst (I [a, b, c, d, e, f]))), some (.fr (.int (n : Nat))), some (.lst (I xs)), some (.fr (.bl false)), some (.fr (.int en)), some (.lst (I ys)), some (.fr (imD xs en)), some (.lst (I zs)), some (.lst (I (oth d n xs))), some (.fr (.int (d.fmod n))), some (.fr (.int (e.fmod n))), none, none, none, v, none] = some (.nx [some (.fr (.lst (I [a, b, c, d, e, f]))), some (.fr (.int (n : Nat))), some (.lst (I xs)), some (.fr (.bl false)), some (.fr (.int en)), some (.lst (I ys)), some (.fr (imD xs en)), some (.lst (I zs)), some (.lst (I (oth d n xs))), some (.fr (.int (d.fmod n))), some (.fr (.int (e.fmod n))), some (.lst (I xs)), none, none, v, none]) := by
  simp
def sw1 (d e : Int) (n : Nat) (xs : List Int) : List Int := xs.set (d.fmod n).toNat (at0 xs (e.fmod n).toNat)
def sw2 (d e : Int) (n : Nat) (xs : List Int) : List Int := (sw1 d e n xs).set (e.fmod n).toNat (at0 xs (d.fmod n).toNat)
theorem o_sw1 {ys zs : List Int} (h : Go n xs en) : (sSe seL (vOp gIx (vV 2) (vV 10)) (vV 11) (vV 9)) [some (.fr (.lst (I [a, b, c, d, e, f]))), some (.fr (.int (n : Nat))), some (.lst (I xs)), some (.fr (.bl false)), some (.fr (.int en)), some (.lst (I ys)), some (.fr (imD xs en)), some (.lst (I zs)), some (.lst (I (oth d n xs))), some (.fr (.int (d.fmod n))), some (.fr (.int (e.fmod n))), some (.lst (I xs)), none, none, v, none] = some (.nx [some (.fr (.lst (I [a, b, c, d, e, f]))), some (.fr (.int (n : Nat))), some (.lst (I xs)), some (.fr (.bl false)), some (.fr (.int en)), some (.lst (I ys)), some (.fr (imD xs en)), some (.lst (I zs)), some (.lst (I (oth d n xs))), some (.fr (.int (d.fmod n))), some (.fr (.int (e.fmod n))), some (.lst (I (sw1 d e n xs))), none, none, v, none]) := by
  obtain ⟨m1, m2, m3, m4, m5⟩ := pl h d
  obtain ⟨k1, k2, k3, k4, k5⟩ := pl h e
  have hs := seL_I (xs := xs) (i := d.fmod n) (v := at0 xs (e.fmod n).toNat) m1 (by rw [h.l]; exact m2)
  simp [m5, k5, hs, sw1]
theorem o_sw2 {ys zs : List Int} (h : Go n xs en) : (sSe seL (vOp gIx (vV 2) (vV 9)) (vV 11) (vV 10)) [some (.fr (.lst (I [a, b, c, d, e, f]))), some (.fr (.int (n : Nat))), some (.lst (I xs)), some (.fr (.bl false)), some (.fr (.int en)), some (.lst (I ys)), some (.fr (imD xs en)), some (.lst (I zs)), some (.lst (I (oth d n xs))), some (.fr (.int (d.fmod n))), some (.fr (.int (e.fmod n))), some (.lst (I (sw1 d e n xs))), none, none, v, none] = some (.nx [some (.fr (.lst (I [a, b, c, d, e, f]))), some (.fr (.int (n : Nat))), some (.lst (I xs)), some (.fr (.bl false)), some (.fr (.int en)), some (.lst (I ys)), some (.fr (imD xs en)), some (.lst (I zs)), some (.lst (I (oth d n xs))), some (.fr (.int (d.fmod n))), some (.fr (.int (e.fmod n))), some (.lst (I (sw2 d e n xs))), none, none, v, none]) := by
  obtain ⟨m1, m2, m3, m4, m5⟩ := pl h d
  obtain ⟨k1, k2, k3, k4, k5⟩ := pl h e
  have hs := seL_I (xs := sw1 d e n xs) (i := e.fmod n) (v := at0 xs (d.fmod n).toNat) k1 (by simp only [sw1, List.length_set]; rw [h.l]; exact k2)
  simp [m5, k5, hs, sw2]
theorem getD_ok {i : Nat} (h : Go n xs en) (hi : i < xs.length) : okB (at0 xs i) = true := by
  unfold at0
  rw [List.getD_eq_getElem?_getD, List.getElem?_eq_getElem hi]
  exact all_get h.ok hi
theorem sw_good (h : Go n xs en) : good (sw2 d e n xs) en = true := by
  obtain ⟨m1, m2, m3, m4, m5⟩ := pl h d
  obtain ⟨k1, k2, k3, k4, k5⟩ := pl h e
  exact h.gd (by simp [sw2, sw1, h.l]) (all_set (all_set h.ok (getD_ok h k3)) (getD_ok h m3))
theorem oth_good (h : Go n xs en) : good (oth d n xs) en = true := h.gd (by simp [oth, h.l]) (all_set h.ok (okB_mod _))
theorem oth_ne (h : Go n xs en) : oth d n xs ≠ xs := by
  obtain ⟨m1, m2, m3, m4, m5⟩ := pl h d
  intro q
  have q1 : (oth d n xs)[(d.fmod n).toNat]? = xs[(d.fmod n).toNat]? := by rw [q]
  unfold oth at0 at q1
  rw [List.getElem?_set_self m3, List.getElem?_eq_getElem m3, List.getD_eq_getElem?_getD, List.getElem?_eq_getElem m3] at q1
  have q2 : (xs[(d.fmod n).toNat] + 1).fmod 256 = xs[(d.fmod n).toNat] := by simpa using q1
  have ok := all_get h.ok m3
  simp [okB] at ok
  rw [Int.fmod_eq_emod_of_nonneg _ (by omega)] at q2
  omega
theorem o_if3 {ys zs : List Int} (h : Go n xs en) : (sIf (vAnd (bnd (vOp gNe (vV 11) (vV 2)) asB) (vOr (bnd (vEqO "Image" F_ImageX_eqX (vV 6) (vMakeG "Image" 3 F_ImageX_initX (vCons (vV 11) (vCons (vV 4) (vNil))))) asB) (bnd (vEqO "Image" F_ImageX_eqX (vMakeG "Image" 3 F_ImageX_initX (vCons (vV 11) (vCons (vV 4) (vNil)))) (vV 6)) asB))) (sRet (vC (.bl false))) (sNil)) [some (.fr (.lst (I [a, b, c, d, e, f]))), some (.fr (.int (n : Nat))), some (.lst (I xs)), some (.fr (.bl false)), some (.fr (.int en)), some (.lst (I ys)), some (.fr (imD xs en)), some (.lst (I zs)), some (.lst (I (oth d n xs))), some (.fr (.int (d.fmod n))), some (.fr (.int (e.fmod n))), some (.lst (I (sw2 d e n xs))), none, none, v, none] = some (.nx [some (.fr (.lst (I [a, b, c, d, e, f]))), some (.fr (.int (n : Nat))), some (.lst (I xs)), some (.fr (.bl false)), some (.fr (.int en)), some (.lst (I ys)), some (.fr (imD xs en)), some (.lst (I zs)), some (.lst (I (oth d n xs))), some (.fr (.int (d.fmod n))), some (.fr (.int (e.fmod n))), some (.lst (I (sw2 d e n xs))), none, none, v, none]) := by
  have hg := sw_good (d := d) (e := e) h
  by_cases q : sw2 d e n xs = xs
  · simp [q]
  · have q2 : ¬ xs = sw2 d e n xs := fun z => q z.symm
    simp [q, q2, init_lst, hg, eq_F]
def lon (xs : List Int) : List Int := (xs ++ [at0 xs 0]).take 4096
theorem o_lon {ys zs : List Int} (h : Go n xs en) : (sSetF 12 (vMakeG "Image" 3 F_ImageX_initX (vCons (vSl gCutL (vOp gAdd (vV 2) (vLst (vCons (vOp gIx (vV 2) (vC (.int 0))) (vNil)))) (ret none) (bnd (vC (.int 4096)) asI)) (vCons (vV 4) (vNil))))) [some (.fr (.lst (I [a, b, c, d, e, f]))), some (.fr (.int (n : Nat))), some (.lst (I xs)), some (.fr (.bl false)), some (.fr (.int en)), some (.lst (I ys)), some (.fr (imD xs en)), some (.lst (I zs)), some (.lst (I (oth d n xs))), some (.fr (.int (d.fmod n))), some (.fr (.int (e.fmod n))), some (.lst (I (sw2 d e n xs))), none, none, v, none] = some (.nx [some (.fr (.lst (I [a, b, c, d, e, f]))), some (.fr (.int (n : Nat))), some (.lst (I xs)), some (.fr (.bl false)), some (.fr (.int en)), some (.lst (I ys)), some (.fr (imD xs en)), some (.lst (I zs)), some (.lst (I (oth d n xs))), some (.fr (.int (d.fmod n))), some (.fr (.int (e.fmod n))), some (.lst (I (sw2 d e n xs))), some (.fr (imD (lon xs) en)), none, v, none]) := by
  have hl : 0 < xs.length := by rw [h.l]; exact h.n1
  have h0 : L2.atI (I xs) 0 = some (.int (at0 xs 0)) := by
    unfold at0
    rw [show (0 : Int) = ((0 : Nat) : Int) from rfl, ixI0 hl, List.getD_eq_getElem?_getD, List.getElem?_eq_getElem hl]
    rfl
  have hb : szB (xs.length + 1) = true := by
    have h1 := h.l
    have h2 := h.n2
    simp
    omega
  have hcut : cutD (I (xs ++ [at0 xs 0])) none (some 4096) = I (lon xs) := by
    rw [cut_I, show (some (4096 : Int)) = some ((4096 : Nat) : Int) from rfl, HT.sIx_nat, HT.sIx_none]
    unfold lon
    rw [List.drop_zero, Nat.sub_zero]
    congr 1
    by_cases q : 4096 ≤ (xs ++ [at0 xs 0]).length
    · rw [Nat.min_eq_left q]
    · rw [Nat.min_eq_right (by omega), List.take_length, List.take_of_length_le (by omega)]
  have hgood : good (lon xs) en = true := by
    have h1 := h.l
    have h2 := h.n2
    have h3 := h.e1
    refine good_of ?_ ?_ ?_ h.e0 ?_
    · simp [lon]; omega
    · simp [lon]; omega
    · rw [List.all_eq_true]
      intro x hx
      have hx := List.mem_of_mem_take hx
      rcases List.mem_append.mp hx with q | q
      · exact List.all_eq_true.mp h.ok x q
      · simp at q; rw [q]; exact getD_ok h hl
    · simp [lon]; omega
  simp [-e_szB, h0, hb, I_app1, hcut, init_fr, hgood]
def tur (xs : List Int) : List Int := xs.drop 1 ++ xs.take 1
theorem o_tur {ys zs : List Int} (h : Go n xs en) : (sSetF 13 (vOp gAdd (vSl gCutL (vV 2) (bnd (vC (.int 1)) asI) (ret none)) (vSl gCutL (vV 2) (ret none) (bnd (vC (.int 1)) asI)))) [some (.fr (.lst (I [a, b, c, d, e, f]))), some (.fr (.int (n : Nat))), some (.lst (I xs)), some (.fr (.bl false)), some (.fr (.int en)), some (.lst (I ys)), some (.fr (imD xs en)), some (.lst (I zs)), some (.lst (I (oth d n xs))), some (.fr (.int (d.fmod n))), some (.fr (.int (e.fmod n))), some (.lst (I (sw2 d e n xs))), some (.fr (imD (lon xs) en)), none, v, none] = some (.nx [some (.fr (.lst (I [a, b, c, d, e, f]))), some (.fr (.int (n : Nat))), some (.lst (I xs)), some (.fr (.bl false)), some (.fr (.int en)), some (.lst (I ys)), some (.fr (imD xs en)), some (.lst (I zs)), some (.lst (I (oth d n xs))), some (.fr (.int (d.fmod n))), some (.fr (.int (e.fmod n))), some (.lst (I (sw2 d e n xs))), some (.fr (imD (lon xs) en)), some (.fr (.lst (I (tur xs)))), v, none]) := by
  have h1 := h.l
  have h2 := h.n1
  have h3 := h.n2
  have c1 : cutD (I xs) (some 1) none = I (xs.drop 1) := by
    rw [cut_I, show (some (1 : Int)) = some ((1 : Nat) : Int) from rfl, HT.sIx_nat, HT.sIx_none, Nat.min_eq_left (by omega)]
    congr 1
    exact List.take_of_length_le (by simp)
  have c2 : cutD (I xs) none (some 1) = I (xs.take 1) := by
    rw [cut_I, show (some (1 : Int)) = some ((1 : Nat) : Int) from rfl, HT.sIx_nat, HT.sIx_none, Nat.min_eq_left (by omega)]
    rfl
  have hb : szB ((xs.drop 1).length + (xs.take 1).length) = true := by
    simp
    omega
  simp only [List.length_drop, List.length_take] at hb
  simp [-e_szB, c1, c2, hb, I_app, tur]
theorem o_if4 {ys zs : List Int} (h : Go n xs en) : (sIf (vAnd (bnd (vOp gLt (vV 1) (vC (.int 4096))) asB) (vOr (bnd (vEqO "Image" F_ImageX_eqX (vV 6) (vV 12)) asB) (bnd (vEqO "Image" F_ImageX_eqX (vV 12) (vV 6)) asB))) (sRet (vC (.bl false))) (sNil)) [some (.fr (.lst (I [a, b, c, d, e, f]))), some (.fr (.int (n : Nat))), some (.lst (I xs)), some (.fr (.bl false)), some (.fr (.int en)), some (.lst (I ys)), some (.fr (imD xs en)), some (.lst (I zs)), some (.lst (I (oth d n xs))), some (.fr (.int (d.fmod n))), some (.fr (.int (e.fmod n))), some (.lst (I (sw2 d e n xs))), some (.fr (imD (lon xs) en)), some (.fr (.lst (I (tur xs)))), v, none] = some (.nx [some (.fr (.lst (I [a, b, c, d, e, f]))), some (.fr (.int (n : Nat))), some (.lst (I xs)), some (.fr (.bl false)), some (.fr (.int en)), some (.lst (I ys)), some (.fr (imD xs en)), some (.lst (I zs)), some (.lst (I (oth d n xs))), some (.fr (.int (d.fmod n))), some (.fr (.int (e.fmod n))), some (.lst (I (sw2 d e n xs))), some (.fr (imD (lon xs) en)), some (.fr (.lst (I (tur xs)))), v, none]) := by
  by_cases q : n < 4096
  · have h1 := h.l
    have q2 : ¬ xs = lon xs := fun z => by
      have := congrArg List.length z
      simp [lon] at this
      omega
    have q3 : ¬ lon xs = xs := fun z => q2 z.symm
    have q' : (n : Int) < 4096 := by omega
    simp [eq_F, q2, q3, q']
  · have q' : ¬ (n : Int) < 4096 := by omega
    simp [q']
theorem o_if5 {ys zs : List Int} (h : Go n xs en) : (sIf (vAnd (bnd (vOp gNe (vV 13) (vV 2)) asB) (bnd (vEqO "Image" F_ImageX_eqX (vV 6) (vMakeG "Image" 3 F_ImageX_initX (vCons (vV 13) (vCons (vV 4) (vNil))))) asB)) (sRet (vC (.bl false))) (sNil)) [some (.fr (.lst (I [a, b, c, d, e, f]))), some (.fr (.int (n : Nat))), some (.lst (I xs)), some (.fr (.bl false)), some (.fr (.int en)), some (.lst (I ys)), some (.fr (imD xs en)), some (.lst (I zs)), some (.lst (I (oth d n xs))), some (.fr (.int (d.fmod n))), some (.fr (.int (e.fmod n))), some (.lst (I (sw2 d e n xs))), some (.fr (imD (lon xs) en)), some (.fr (.lst (I (tur xs)))), v, none] = some (.nx [some (.fr (.lst (I [a, b, c, d, e, f]))), some (.fr (.int (n : Nat))), some (.lst (I xs)), some (.fr (.bl false)), some (.fr (.int en)), some (.lst (I ys)), some (.fr (imD xs en)), some (.lst (I zs)), some (.lst (I (oth d n xs))), some (.fr (.int (d.fmod n))), some (.fr (.int (e.fmod n))), some (.lst (I (sw2 d e n xs))), some (.fr (imD (lon xs) en)), some (.fr (.lst (I (tur xs)))), v, none]) := by
  by_cases q : tur xs = xs
  · simp [q]
  · have q2 : ¬ xs = tur xs := fun z => q z.symm
    have hg : good (tur xs) en = true := by
      have h1 := h.l
      have h2 := h.n1
      refine h.gd (by simp [tur]; omega) ?_
      rw [List.all_eq_true]
      intro x hx
      rcases List.mem_append.mp hx with z | z
      · exact List.all_eq_true.mp h.ok x (List.mem_of_mem_drop z)
      · exact List.all_eq_true.mp h.ok x (List.mem_of_mem_take z)
    simp [q, q2, init_fr, hg, eq_F]
theorem o_last {ys zs : List Int} (h : Go n xs en) : (sRet (vAndV (vNotV (vEqO "Image" F_ImageX_eqX (vV 6) (vMakeG "Image" 3 F_ImageX_initX (vCons (vV 8) (vCons (vV 4) (vNil)))))) (vOrV (vOp gLt (vV 1) (vC (.int 2))) (vNotV (vEqO "Image" F_ImageX_eqX (vV 6) (vMakeG "Image" 3 F_ImageX_initX (vCons (vCall gList (vCons (vV 2) (vNil))) (vCons (vOp gMod (vOp gAdd (vV 4) (vC (.int 1))) (vV 1)) (vNil))))))))) [some (.fr (.lst (I [a, b, c, d, e, f]))), some (.fr (.int (n : Nat))), some (.lst (I xs)), some (.fr (.bl false)), some (.fr (.int en)), some (.lst (I ys)), some (.fr (imD xs en)), some (.lst (I zs)), some (.lst (I (oth d n xs))), some (.fr (.int (d.fmod n))), some (.fr (.int (e.fmod n))), some (.lst (I (sw2 d e n xs))), some (.fr (imD (lon xs) en)), some (.fr (.lst (I (tur xs)))), v, none] = some (.ret (.fr (.bl true)) [some (.fr (.lst (I [a, b, c, d, e, f]))), some (.fr (.int (n : Nat))), some (.lst (I xs)), some (.fr (.bl false)), some (.fr (.int en)), some (.lst (I ys)), some (.fr (imD xs en)), some (.lst (I zs)), some (.lst (I (oth d n xs))), some (.fr (.int (d.fmod n))), some (.fr (.int (e.fmod n))), some (.lst (I (sw2 d e n xs))), some (.fr (imD (lon xs) en)), some (.fr (.lst (I (tur xs)))), v, none]) := by
  have hne : ¬ xs = oth d n xs := fun z => oth_ne h z.symm
  have hg := oth_good (d := d) h
  have hn0 : n ≠ 0 := by have := h.n1; omega
  by_cases q : (n : Int) < 2
  · simp [init_lst, hg, eq_F, hne, q]
  · have m1 : 0 ≤ (en + 1).fmod n := Int.fmod_nonneg_of_pos _ (by omega)
    have m2 : (en + 1).fmod n < n := Int.fmod_lt_of_pos _ (by omega)
    have h1 := h.l
    have hg2 : good xs ((en + 1).fmod n) = true := good_of (by have := h.n1; omega) (by have := h.n2; omega) h.ok m1 (by omega)
    have hne2 : ¬ en = (en + 1).fmod n := by
      have e0 := h.e0
      have e1 := h.e1
      rw [Int.fmod_eq_emod_of_nonneg _ (by omega)]
      intro z
      by_cases w : en + 1 < n
      · rw [Int.emod_eq_of_lt (by omega) w] at z
        omega
      · have : en + 1 = n := by omega
        rw [this, Int.emod_self] at z
        omega
    simp [init_lst, init_fr, hg, hg2, eq_F, hne, q, hn0, hne2]
end
end Wk

namespace Wk
open PySem PySem.Spec PyProof.Rows L2 He Vl
section
variable {a b c d e f : Int} {n : Nat} {xs : List Int} {v : Option T} {en : Int} {wr : Bool}

theorem o_entry : (sSetF 4 (vOp gSub (vOp gMod (vOp gIx (vV 0) (vC (.int 5))) (vOp gAdd (vV 1) (vC (.int 2)))) (vC (.int 1)))) [some (.fr (.lst (I [a, b, c, d, e, f]))), some (.fr (.int (n : Nat))), some (.lst (I xs)), some (.fr (.bl wr)), none, none, none, none, none, none, none, none, none, none, v, none] = some (.nx [some (.fr (.lst (I [a, b, c, d, e, f]))), some (.fr (.int (n : Nat))), some (.lst (I xs)), some (.fr (.bl wr)), some (.fr (.int (f.fmod ((n : Int) + 2) - 1))), none, none, none, none, none, none, none, none, none, v, none]) := by
  have h5 : L2.atI (I [a, b, c, d, e, f]) 5 = some (.int f) := rfl
  have hn : ¬ (n : Int) + 2 = 0 := by omega
  simp [h5, hn]
theorem good_iff : good xs en = true ↔ (1 ≤ xs.length ∧ xs.length ≤ 4096 ∧ xs.all okB = true ∧ 0 ≤ en ∧ en < xs.length) := by
  constructor
  · intro h
    simp only [good, Bool.and_eq_true, decide_eq_true_eq] at h
    obtain ⟨⟨⟨h1, h2⟩, h3⟩, h4, h5⟩ := h
    exact ⟨by omega, by omega, h3, h4, h5⟩
  · rintro ⟨h1, h2, h3, h4, h5⟩
    exact good_of h1 h2 h3 h4 h5
theorem o_bad (hb : good xs en = false) (hl : xs.length = n) (hw : xs.all okB = !wr) : (sIf (vOr (bnd (vV 3) asT) (vOr (bnd (vOp gEq (vV 1) (vC (.int 0))) asB) (vOr (bnd (vOp gGt (vV 1) (vC (.int 4096))) asB) (vNot (bnd (vCh gLe gLt (vC (.int 0)) (vV 4) (vV 1)) asB))))) (sRet (vCallG 2 F_law_refused (vCons (vCall gList (vCons (vV 2) (vNil))) (vCons (vV 4) (vNil))))) (sNil)) [some (.fr (.lst (I [a, b, c, d, e, f]))), some (.fr (.int (n : Nat))), some (.lst (I xs)), some (.fr (.bl wr)), some (.fr (.int en)), none, none, none, none, none, none, none, none, none, v, none] = some (.ret (.fr (.bl true)) [some (.fr (.lst (I [a, b, c, d, e, f]))), some (.fr (.int (n : Nat))), some (.lst (I xs)), some (.fr (.bl wr)), some (.fr (.int en)), none, none, none, none, none, none, none, none, none, v, none]) := by
  have hb' : ¬ (1 ≤ xs.length ∧ xs.length ≤ 4096 ∧ xs.all okB = true ∧ 0 ≤ en ∧ en < xs.length) := fun z => by rw [good_iff.mpr z] at hb; cases hb
  have hr := refused hb
  cases wr with
  | true => simp [hr]
  | false =>
    by_cases q1 : n = 0
    · simp [hr, q1]
    · have q1' : ¬ (n : Int) = 0 := by omega
      by_cases q2 : 4096 < (n : Int)
      · simp [hr, q1, q2]
      · by_cases q3 : 0 ≤ en
        · by_cases q4 : en < (n : Int)
          · exact absurd ⟨by omega, by omega, hw, q3, by rw [hl]; exact q4⟩ hb'
          · simp [hr, q1, q2, q3, q4]
        · simp [hr, q1, q2, q3]
theorem o_go (hb : good xs en = true) (hl : xs.length = n) (hw : xs.all okB = !wr) : wr = false ∧ Go n xs en ∧ (sIf (vOr (bnd (vV 3) asT) (vOr (bnd (vOp gEq (vV 1) (vC (.int 0))) asB) (vOr (bnd (vOp gGt (vV 1) (vC (.int 4096))) asB) (vNot (bnd (vCh gLe gLt (vC (.int 0)) (vV 4) (vV 1)) asB))))) (sRet (vCallG 2 F_law_refused (vCons (vCall gList (vCons (vV 2) (vNil))) (vCons (vV 4) (vNil))))) (sNil)) [some (.fr (.lst (I [a, b, c, d, e, f]))), some (.fr (.int (n : Nat))), some (.lst (I xs)), some (.fr (.bl wr)), some (.fr (.int en)), none, none, none, none, none, none, none, none, none, v, none] = some (.nx [some (.fr (.lst (I [a, b, c, d, e, f]))), some (.fr (.int (n : Nat))), some (.lst (I xs)), some (.fr (.bl wr)), some (.fr (.int en)), none, none, none, none, none, none, none, none, none, v, none]) := by
  obtain ⟨h1, h2, h3, h4, h5⟩ := good_iff.mp hb
  rw [hl] at h1 h2 h5
  have hwr : wr = false := by
    rw [h3] at hw
    cases wr with
    | true => cases hw
    | false => rfl
  subst hwr
  have q1 : ¬ n = 0 := by omega
  have q2 : ¬ 4096 < (n : Int) := by omega
  exact ⟨rfl, ⟨hl, h3, h1, h2, h4, h5⟩, by simp [q1, q2, h4, h5]⟩
theorem one_g (ha : inR a) (hd : inR d) (he : inR e) : ∃ o r, g_law_one [some (.fr (.lst (I [a, b, c, d, e, f]))), none, none, none, none, none, none, none, none, none, none, none, none, none, none, none] = some (.ret (.fr (.bl true)) (o :: r)) := by
  obtain ⟨n, hn, h1⟩ := st_size (b := b) (c := c) (d := d) (e := e) (f := f) ha
  obtain ⟨wr, xs, v, hl, hw, _, h4⟩ := st_wrong (a := a) (b := b) (c := c) (f := f) hd he hn
  unfold g_law_one
  rw [h1, seq_nx (st_data hn), seq_nx (ρ' := _) (by rfl : sSetF 3 (vC (.bl false)) _ = some (.nx _))]
  refine ⟨some (.fr (.lst (I [a, b, c, d, e, f]))), ?_⟩
  have h5 := o_entry (a := a) (b := b) (c := c) (d := d) (e := e) (f := f) (n := n) (xs := xs) (v := v) (wr := wr)
  cases hg : good xs (f.fmod ((n : Int) + 2) - 1) with
  | false =>
    refine ⟨_, (seq_nx h4).trans ((seq_nx h5).trans (seq_ret (o_bad hg hl hw)))⟩
  | true =>
    obtain ⟨hwr, G, h6⟩ := o_go (a := a) (b := b) (c := c) (d := d) (e := e) (f := f) (v := v) hg hl hw
    subst hwr
    obtain ⟨ys, h9⟩ := o_given0 (a := a) (b := b) (c := c) (d := d) (e := e) (f := f) (v := v) G
    obtain ⟨zs, h13⟩ := o_first0 (a := a) (b := b) (c := c) (d := d) (e := e) (f := f) (v := v) (ys := ys) G
    refine ⟨_, (seq_nx h4).trans ((seq_nx h5).trans ((seq_nx h6).trans ((seq_nx o_given).trans ((seq_nx (o_image G)).trans ((seq_nx h9).trans ((seq_nx (o_first G)).trans ((seq_nx (o_if1 G)).trans ((seq_nx (o_app G)).trans ((seq_nx h13).trans ((seq_nx (o_if2 G)).trans ((seq_nx o_other).trans ((seq_nx (o_oth G)).trans ((seq_nx (o_fa G)).trans ((seq_nx (o_sa G)).trans ((seq_nx o_sw).trans ((seq_nx (o_sw1 G)).trans ((seq_nx (o_sw2 G)).trans ((seq_nx (o_if3 G)).trans ((seq_nx (o_lon G)).trans ((seq_nx (o_tur G)).trans ((seq_nx (o_if4 G)).trans ((seq_nx (o_if5 G)).trans (o_last G)))))))))))))))))))))))⟩
theorem one_F {xs : List Int} (hl : xs.length = 6) (h : ∀ x ∈ xs, inR x) : F_law_one [.fr (.lst (I xs))] = some (.ret (.fr (.bl true)) [.fr (.lst (I xs))]) := by
  match xs, hl with
  | [a, b, c, d, e, f], _ =>
    obtain ⟨o, r, hg⟩ := one_g (a := a) (b := b) (c := c) (d := d) (e := e) (f := f) (h a (by simp)) (h d (by simp)) (h e (by simp))
    exact body_ret rfl hg rfl rfl
end
def lb : FS := sIf (vNot (bnd (vCallG 1 F_law_one (vCons (vCallG 3 F_law_draws (vCons (vOp gIx (vV 1) (vV 2)) (vCons (vC (.int 65536)) (vCons (vC (.int 6)) (vNil))))) (vNil))) asT)) (sRet (vC (.bl false))) (sNil)
theorem law_step (s : D) (cs : List Int) {k : Nat} (hk : k < cs.length) (o : Option T) : ∃ ρ1 ρ2, gN 2 (.int (0 + (k : Nat))) [some (.fr s), some (.fr (.lst (I cs))), o] = some ρ1 ∧ lb ρ1 = some (.nx ρ2) ∧ ∃ o', ρ2 = [some (.fr s), some (.fr (.lst (I cs))), o'] := by
  obtain ⟨xs, ts, hl, hx, hF⟩ := draws_F cs[k]
  have h1 := one_F hl hx
  have h0 : L2.atI (I cs) ((k : Nat) : Int) = some (.int cs[k]) := ixI0 hk
  refine ⟨_, _, rfl, ?_, some (.fr (.int (0 + (k : Nat)))), rfl⟩
  have hts : ∀ (ρ : Vl.Env), giveA ρ [.fr (.int cs[k]), .fr (.int 65536), .fr (.int 6)] ts = ρ := fun ρ => by
    match ts with
    | [] => rfl
    | [_] => rfl
    | [_, _] => rfl
    | [_, _, _] => rfl
    | _ :: _ :: _ :: _ :: _ => rfl
  simp [lb, h0, hF, h1, hts]
theorem plain : ∀ ns : List Int, ns.length ≤ 63 → (∀ z ∈ ns, Builtin.Int.intBits z ≤ 1048576) → ∃ ts', F_law [.fr (.klst (ns.map .int))] = some (.ret (.fr (.bl true)) ts') := by
  intro ns hn _
  have main : ∀ cs : List Int, 0 < cs.length → cs.length ≤ 63 → ∃ o, (sSeq (sFor (bnd (vCons (vCall gMin (vCons (vCall gLen (vCons (vV 1) (vNil))) (vCons (vC (.int 12)) (vNil)))) (vNil)) fun ws => optF (dR1 ws)) (gN 2) lb) (sRet (vC (.bl true)))) [some (.fr (.klst (I ns))), some (.fr (.lst (I cs))), none] = some (.ret (.fr (.bl true)) [some (.fr (.klst (I ns))), some (.fr (.lst (I cs))), o]) := by
    intro cs h0 h1
    have hm : (if (12 : Int) < (cs.length : Int) then (12 : Int) else (cs.length : Int)) = ((min 12 cs.length : Nat) : Int) := by split <;> omega
    have hr := dR1_nat (n := min 12 cs.length) (by omega)
    have hf : (bnd (vCons (vCall gMin (vCons (vCall gLen (vCons (vV 1) (vNil))) (vCons (vC (.int 12)) (vNil)))) (vNil)) fun ws => optF (dR1 ws)) [some (.fr (.klst (I ns))), some (.fr (.lst (I cs))), none] = some (.val (rngD 0 (min 12 cs.length)) [some (.fr (.klst (I ns))), some (.fr (.lst (I cs))), none]) := by
      rw [← hm] at hr
      simp [hr]
    obtain ⟨ρ', q1, o, rfl⟩ := loop_inv (gt := gN 2) (f := lb) (fun ρ => ∃ o, ρ = [some (.fr (.klst (I ns))), some (.fr (.lst (I cs))), o]) (ds := rngD 0 (min 12 cs.length)) (fun d hd ρ ⟨o, hρ⟩ => by
      obtain ⟨k, hk, rfl⟩ := List.mem_map.mp hd
      have hk := List.mem_range.mp hk
      subst hρ
      exact law_step _ cs (by omega) o) ⟨none, rfl⟩
    exact ⟨o, (seq_nx ((for_val hf).trans q1)).trans rfl⟩
  have hl : sSetF 1 (vCall gList (vCons (vV 0) (vNil))) [some (.fr (.klst (I ns))), none, none] = some (.nx [some (.fr (.klst (I ns))), some (.fr (.lst (I ns))), none]) := by simp
  refine ⟨[.fr (.klst (I ns))], ?_⟩
  by_cases h : ns.length = 0
  · obtain ⟨o, q⟩ := main [7, 1001, 40, 9, 64, 3] (by simp) (by simp)
    refine body_ret (w := .fr (.bl true)) (ρ := [some (.fr (.klst (I ns))), some (.fr (.lst (I [7, 1001, 40, 9, 64, 3]))), o]) rfl ?_ rfl rfl
    refine (seq_nx hl).trans ((seq_nx (ρ' := [some (.fr (.klst (I ns))), some (.fr (.lst (I [7, 1001, 40, 9, 64, 3]))), none]) ?_).trans q)
    have e : ns = [] := List.length_eq_zero_iff.mp h
    subst e
    rfl
  · obtain ⟨o, q⟩ := main ns (by omega) hn
    refine body_ret (w := .fr (.bl true)) (ρ := [some (.fr (.klst (I ns))), some (.fr (.lst (I ns))), o]) rfl ?_ rfl rfl
    refine (seq_nx hl).trans ((seq_nx (ρ' := [some (.fr (.klst (I ns))), some (.fr (.lst (I ns))), none]) ?_).trans q)
    have h' : ¬ (ns.length : Int) = 0 := by omega
    simp [h]
end Wk

namespace Wk
open PySem PySem.Spec PyProof.Rows L2 He Vl
abbrev R : PySem.W.OpenRow := PySem.W.OpenLaw.row PySem.Challenge.rw_rewoven_k04_images
abbrev hkX : PySem.W.Hook := He.hookX 6 fas fns [] tfs exs
def obs (s : PySem.W.SharedT) : He.AlX := He.obsX 6 fas fns [] tfs exs (HandSHeadRun.getT s)
theorem obs_eq (s : PySem.W.SharedT) : obs s = hkX.obs s.abs := He.obsX_eq (HandSHeadRun.getT_eq s)
def nms0 : List PySem.Str := ["_wall", "RewovenError", "InvalidImage", "MOST_BYTES", "Image", "_law_is_integer", "_law_draws", "_law_refused", "_law_one"]
abbrev nmsA : List PySem.Str := nms0
theorem run (w : World) : HandSHeadRun.RunEq R (PySem.W.view R.prog [12]) hkX obs 2000 nmsA w := by
  intro os
  kernel_rfl
end Wk
open PySem PySem.W PySem.Calls PyProof.Rows
theorem PySem.Challenge.cw_rewoven_k04_images_holds : PySem.Challenge.rw_rewoven_k04_images.Holds := by
  w_on; o_law
  refine HandSHeadRun.head_any (r := Wk.R) (q := view Wk.R.prog [12]) (H := Wk.hkX) (ob := Wk.obs) (M := 2000)
    (loose := Wk.nmsA) (d := HandSHeadRun.topDef Wk.R.prog 12) (kwd := []) Wk.obs_eq (by kernel_rfl) (fun s => by kernel_rfl)
    Wk.run (by kernel_rfl) (by kernel_rfl) (by kernel_rfl) (by rfl) (by first | assumption | decide +kernel) (by decide +kernel)
    ⟨rfl, rfl, rfl, rfl, rfl, by decide +kernel⟩ ?hw ?hc
  case hw => w_witness2
  case hc =>
    refine LamX.walk_ofTsE (l := PySem.Challenge.rw_rewoven_k04_images) (n := 63) (k := 5) (x := "script") (CX := fun w => L2.CX PySem.Challenge.pw_rewoven_k04_images w)
      rfl (by decide) (by kernel_rfl) ⟨rfl, by decide, by decide⟩ ?F (fun w H s e s' h => Vl.cx_no h)
    intro w mg fa h Y G hmg0
    obtain ⟨K, KX, c⟩ := Y
    have hmg : mg ("law" : PySem.Str) = some (.ref fa) := by
      have e : (HandSHeadRun.topDef Wk.R.prog 12).name = ("law" : PySem.Str) := by kernel_rfl
      rw [← e]
      exact hmg0
    exact ⟨K, KX, Vl.law_end (i := 7) (j := 0) (d := Wk.d_law) c KX G hmg rfl rfl rfl rfl (fun _ _ _ _ _ _ us hl => match us, hl with | [_], _ => rfl) (fun base z => Wk.ok_law z) Wk.plain⟩

